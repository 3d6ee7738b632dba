import PyProof.Rows.All
import PyVahypa
import Wide.All
import OpenK.AllK
import Wide.FinOn
import PyProof.EqAt
import PyProof.EqKinds
import PyProof.TupleCall
import Open.SpecLaws
import KE.OsGo
import HandS.ForSpec
import HandS.Comp
import HandS.Iter
import HandS.Text
import HandS.Steps
import HandS.Conv
import HandS.Deep
import HandS.Replace
import HandS.ExcInit
import HandS.ExcField
import HandS.Evl
import HandS.Walk
import PySem.Challenge.RW_partedwords_s01_answers
import KE.GoesNew
import KE.GoesMore
import HandS.TryMany
set_option linter.all false
/-! # Mathematics 1: the tokens -/
namespace Pw
open VahypBase Vahypa

theorem beq_nat (b c : UInt8) : (b == c) = decide (b.toNat = c.toNat) := by
  by_cases h : b = c
  · subst h; simp
  · have h2 : ¬ b.toNat = c.toNat := fun e => h (UInt8.toNat_inj.mp e)
    rw [beq_eq_false_iff_ne.mpr h, decide_eq_false h2]
theorem chunk_cases {b : UInt8} (h : inChunk b = true) : isBlank b = false ∧ (b == 35) = false ∧ (b == 59) = false := by
  unfold inChunk isLetter isDigit at h
  unfold isBlank
  simp only [beq_nat] at h ⊢
  simp at h ⊢
  omega
theorem lex_nil (n at_ : Nat) : lex n at_ [] = .ok [⟨at_, .last⟩] := by
  cases n <;> rfl
theorem lex_chunk {n at_ : Nat} {b : UInt8} {r : Bytes} (h : inChunk b = true) :
    lex (n + 1) at_ (b :: r) = (if CHUNK < ((b :: r).takeWhile inChunk).length then .error ⟨2, at_⟩
      else (lex n (at_ + ((b :: r).takeWhile inChunk).length) ((b :: r).drop ((b :: r).takeWhile inChunk).length)).map fun l => ⟨at_, .chunk ((b :: r).takeWhile inChunk)⟩ :: l) := by
  obtain ⟨h1, h2, _⟩ := chunk_cases h
  have e : token (b :: r) = if CHUNK < ((b :: r).takeWhile inChunk).length then none else some (.chunk ((b :: r).takeWhile inChunk), ((b :: r).takeWhile inChunk).length) := by
    show (if inChunk b = true then _ else _) = _
    rw [if_pos h]
  show (if isBlank b = true then _ else if (b == 35) = true then _ else match token (b :: r) with
      | none => Except.error (VahypBase.Fault.mk 2 at_)
      | some x => (lex n (at_ + x.2) ((b :: r).drop x.2)).map fun l => PTok.mk at_ x.1 :: l) = _
  rw [if_neg (by rw [h1]; decide), if_neg (by rw [h2]; decide), e]
  by_cases c : CHUNK < ((b :: r).takeWhile inChunk).length
  · rw [if_pos c, if_pos c]
  · rw [if_neg c, if_neg c]
theorem lex_sign {n at_ : Nat} {r : Bytes} : lex (n + 1) at_ (59 :: r) = (lex n (at_ + 1) r).map fun l => ⟨at_, .sign 59⟩ :: l := rfl
theorem lex_remark {n at_ : Nat} {r : Bytes} : lex (n + 1) at_ (35 :: r) = lex n (at_ + 1 + (r.takeWhile (· != 10)).length) (r.dropWhile (· != 10)) := rfl
theorem lex_blank {n at_ : Nat} {b : UInt8} {r : Bytes} (h : isBlank b = true) : lex (n + 1) at_ (b :: r) = lex n (at_ + 1) r := by
  show (if isBlank b = true then lex n (at_ + 1) r else _) = _
  rw [if_pos h]
theorem lex_bad {n at_ : Nat} {b : UInt8} {r : Bytes} (h1 : inChunk b = false) (h2 : b ≠ 59) (h3 : b ≠ 35) (h4 : isBlank b = false) : lex (n + 1) at_ (b :: r) = .error ⟨2, at_⟩ := by
  have e : token (b :: r) = none := by
    unfold token
    simp only [h1]
    rw [if_neg (by decide), if_neg (by rw [beq_eq_false_iff_ne.mpr h2]; decide)]
  show (if isBlank b = true then _ else if (b == 35) = true then _ else match token (b :: r) with
      | none => Except.error (VahypBase.Fault.mk 2 at_)
      | some x => (lex n (at_ + x.2) ((b :: r).drop x.2)).map fun l => PTok.mk at_ x.1 :: l) = _
  rw [if_neg (by rw [h4]; decide), if_neg (by rw [beq_eq_false_iff_ne.mpr h3]; decide), e]
theorem takeWhile_le {p : UInt8 → Bool} (l : Bytes) : (l.takeWhile p).length ≤ l.length := by
  induction l with
  | nil => simp
  | cons b r ih =>
    rw [List.takeWhile_cons]
    split
    · simp only [List.length_cons]; omega
    · simp
theorem dropWhile_eq {p : UInt8 → Bool} (l : Bytes) : l.dropWhile p = l.drop (l.takeWhile p).length := by
  induction l with
  | nil => simp
  | cons b r ih =>
    rw [List.takeWhile_cons, List.dropWhile_cons]
    split
    · rw [List.length_cons, List.drop_succ_cons]; exact ih
    · simp
theorem take_takeWhile {p : UInt8 → Bool} (l : Bytes) : l.take (l.takeWhile p).length = l.takeWhile p := by
  induction l with
  | nil => simp
  | cons b r ih =>
    rw [List.takeWhile_cons]
    split
    · rw [List.length_cons, List.take_succ_cons, ih]
    · simp
theorem takeWhile_all {p : UInt8 → Bool} (l : Bytes) : (l.takeWhile p).all p = true := by
  induction l with
  | nil => simp
  | cons b r ih =>
    rw [List.takeWhile_cons]
    split
    · rename_i h
      rw [List.all_cons, h, ih]; rfl
    · simp
/-- one byte more of a run -/
theorem run_more {p : UInt8 → Bool} {b : Bytes} {n m : Nat} {c : UInt8} (hm : b[m]? = some c) (hn : n ≤ m) (hr : ((b.drop n).take (m - n)).all p = true) :
    if p c = true then ((b.drop n).take (m + 1 - n)).all p = true else ((b.drop n).takeWhile p).length = m - n := by
  have e : (b.drop n).take (m + 1 - n) = (b.drop n).take (m - n) ++ [c] := by
    have e1 : m + 1 - n = (m - n) + 1 := by omega
    rw [e1, List.take_succ]
    have e2 : (b.drop n)[m - n]? = some c := by rw [List.getElem?_drop, show n + (m - n) = m by omega]; exact hm
    rw [e2]; rfl
  split
  · rename_i h
    rw [e, List.all_append, hr]
    simp [h]
  · rename_i h
    have hlt : m < b.length := (List.getElem?_eq_some_iff.mp hm).1
    have e3 : b.drop n = (b.drop n).take (m - n) ++ (b.drop n).drop (m - n) := (List.take_append_drop _ _).symm
    have e4 : (b.drop n).drop (m - n) = c :: b.drop (m + 1) := by
      rw [List.drop_drop, show n + (m - n) = m by omega]
      have := List.drop_eq_getElem_cons hlt
      rw [this]
      congr 1
      exact (List.getElem?_eq_some_iff.mp hm).2
    rw [e3, List.takeWhile_append_of_pos (by simpa using hr), e4, List.takeWhile_cons, if_neg h]
    simp only [List.append_nil, List.length_take, List.length_drop]
    omega
theorem run_end {p : UInt8 → Bool} {b : Bytes} {n : Nat} (hn : n ≤ b.length) (hr : ((b.drop n).take (b.length - n)).all p = true) : ((b.drop n).takeWhile p).length = b.length - n := by
  rw [List.take_of_length_le (by simp)] at hr
  have : (b.drop n).takeWhile p = b.drop n := by
    have h := List.takeWhile_append_of_pos (p := p) (l₁ := b.drop n) (l₂ := []) (by simpa using hr)
    simpa using h
  rw [this]; simp
end Pw

set_option linter.all false
/-! # Mathematics 2: words -/
namespace Pw
open VahypBase Vahypa
/-- the parts between dashes -/
def pieces : Bytes → List Bytes
  | [] => [[]]
  | b :: r => if b = 45 then [] :: pieces r else match pieces r with
    | p :: ps => (b :: p) :: ps
    | [] => [[b]]
theorem pieces_ne (l : Bytes) : ∃ p ps, pieces l = p :: ps := by
  cases l with
  | nil => exact ⟨_, _, rfl⟩
  | cons b r =>
    unfold pieces
    split
    · exact ⟨_, _, rfl⟩
    · split <;> exact ⟨_, _, rfl⟩
theorem pieces_dash (r : Bytes) : pieces (45 :: r) = [] :: pieces r := rfl
theorem pieces_other {b : UInt8} {r p : Bytes} {ps : List Bytes} (h : b ≠ 45) (e : pieces r = p :: ps) : pieces (b :: r) = (b :: p) :: ps := by
  show (if b = 45 then [] :: pieces r else match pieces r with
    | p :: ps => (b :: p) :: ps
    | [] => [[b]]) = _
  rw [if_neg h, e]
/-- the sums of the lengths of all parts but the last -/
def pre (k : Nat) : List Bytes → List Nat
  | [] => []
  | p :: ps => if ps = [] then [] else (k + p.length) :: pre (k + p.length) ps
def gp (k : Nat) : Bytes → List Nat
  | [] => []
  | b :: r => if b = 45 then k :: gp k r else gp (k + 1) r
theorem gp_pre : ∀ (l : Bytes) (k : Nat), gp k l = pre k (pieces l)
  | [], _ => rfl
  | b :: r, k => by
    obtain ⟨p, ps, e⟩ := pieces_ne r
    by_cases h : b = 45
    · subst h
      show (if (45 : UInt8) = 45 then k :: gp k r else gp (k + 1) r) = _
      rw [if_pos rfl, pieces_dash, gp_pre r k]
      show _ = if pieces r = [] then [] else (k + 0) :: pre (k + 0) (pieces r)
      rw [if_neg (by rw [e]; simp)]
      rfl
    · show (if b = 45 then k :: gp k r else gp (k + 1) r) = _
      rw [if_neg h, gp_pre r (k + 1), pieces_other h e, e]
      show (if ps = [] then [] else (k + 1 + p.length) :: pre (k + 1 + p.length) ps) = if ps = [] then [] else (k + (p.length + 1)) :: pre (k + (p.length + 1)) ps
      rw [show k + 1 + p.length = k + (p.length + 1) by omega]
def hdL : Bytes → Bool
  | c :: _ => isLetter c
  | [] => false
def good : Bool → Bytes → Bool
  | _, [] => true
  | f, b :: r => if isLetter b = true then good true r else b == 45 && (f && (hdL r && good false r))
theorem not_dash {b : UInt8} (h : isLetter b = true) : b ≠ 45 := by
  rintro rfl
  revert h
  decide
def lets (l : Bytes) : Bytes := l.filter (fun b => b != 45)
theorem lets_letter {b : UInt8} {r : Bytes} (h : b ≠ 45) : lets (b :: r) = b :: lets r := by
  unfold lets
  rw [List.filter_cons, if_pos (by simpa using h)]
theorem wordBy_good : ∀ (n : Nat) (l x : Bytes) (cs : List Nat) (f : Bool), l.length < n → (∀ c ∈ cs, c ≤ x.length) →
    (f = true ↔ (x ≠ [] ∧ cs.contains x.length = false)) → (f = false → x = [] ∧ cs = [] ∨ ∃ c r, l = c :: r ∧ isLetter c = true) →
    wordBy n l x cs = if good f l = true then some ⟨x ++ lets l, cs ++ gp x.length l⟩ else none
  | 0, l, _, _, _, h, _, _, _ => absurd h (Nat.not_lt_zero _)
  | n + 1, [], x, cs, f, _, _, _, _ => by
    show some (Word.mk x cs) = if true = true then some ⟨x ++ [], cs ++ []⟩ else none
    simp
  | n + 1, b :: r, x, cs, f, h, hc, hf, hs => by
    have hlen : r.length < n := by simpa using h
    by_cases hb : isLetter b = true
    · have hd := not_dash hb
      have e : wordBy (n + 1) (b :: r) x cs = wordBy n r (x ++ [b]) cs := by
        show (if isLetter b = true then _ else _) = _
        rw [if_pos hb]
      have e2 : good f (b :: r) = good true r := by
        show (if isLetter b = true then _ else _) = _
        rw [if_pos hb]
      have nc : cs.contains (x ++ [b]).length = false := by
        rw [List.length_append]
        simp only [List.length_singleton]
        cases q : cs.contains (x.length + 1) with
        | false => rfl
        | true =>
          have := hc _ (by simpa using q)
          omega
      rw [e, e2, wordBy_good n r (x ++ [b]) cs true hlen (fun c m => by have := hc c m; simp; omega) ⟨fun _ => ⟨by simp, nc⟩, fun _ => rfl⟩ (fun z => by cases z), lets_letter hd]
      have e3 : gp x.length (b :: r) = gp (x.length + 1) r := by
        show (if b = 45 then _ else _) = _
        rw [if_neg hd]
      rw [e3]
      simp
    · have e2 : good f (b :: r) = (b == 45 && (f && (hdL r && good false r))) := by
        show (if isLetter b = true then _ else _) = _
        rw [if_neg hb]
      have e : wordBy (n + 1) (b :: r) x cs = if b == 45 ∧ x ≠ [] ∧ cs.contains x.length = false then (if hdL r = true then wordBy n r x (cs ++ [x.length]) else none) else none := by
        show (if isLetter b = true then _ else _) = _
        rw [if_neg hb]
        cases r with
        | nil => rfl
        | cons c r' => rfl
      rw [e, e2]
      cases f with
      | false =>
        rcases hs rfl with ⟨hx, hcs⟩ | ⟨c, r', el, hl⟩
        · rw [if_neg (by rw [hx]; simp), if_neg (by simp)]
        · cases el
          exact absurd hl hb
      | true =>
        obtain ⟨hx, hcn⟩ := hf.mp rfl
        by_cases hd : b = 45
        · subst hd
          rw [if_pos ⟨rfl, hx, hcn⟩]
          cases r with
          | nil => simp [hdL]
          | cons c r' =>
            by_cases hl : isLetter c = true
            · rw [if_pos (show hdL (c :: r') = true from hl), wordBy_good n (c :: r') x (cs ++ [x.length]) false hlen (fun d m => by
                rcases List.mem_append.mp m with m | m
                · exact hc d m
                · simp at m; omega) ⟨fun z => Bool.noConfusion z, fun z => by have := z.2; simp at this⟩ (fun _ => .inr ⟨c, r', rfl, hl⟩)]
              have e3 : lets (45 :: c :: r') = lets (c :: r') := by unfold lets; rw [List.filter_cons]; simp
              have e4 : gp x.length (45 :: c :: r') = x.length :: gp x.length (c :: r') := rfl
              rw [e3, e4]
              simp [hl, hdL]
            · rw [if_neg (show ¬ hdL (c :: r') = true from hl)]
              simp [hl, hdL]
        · rw [if_neg (by simp [hd])]
          simp [hd]
theorem wordBy_start (b : Bytes) : wordBy (b.length + 1) b [] [] = if good false b = true then some ⟨lets b, pre 0 (pieces b)⟩ else none := by
  rw [wordBy_good (b.length + 1) b [] [] false (Nat.lt_succ_self _) (fun c m => by cases m) ⟨fun z => Bool.noConfusion z, fun z => absurd rfl z.1⟩ (fun _ => .inl ⟨rfl, rfl⟩), ← gp_pre]
  rfl
/-- letters and dashes alone -/
def ld (l : Bytes) : Bool := l.all fun b => isLetter b || b == 45
theorem good_iff : ∀ (l : Bytes) (f : Bool), good f l = true ↔ ld l = true ∧ ∀ p ps, pieces l = p :: ps → (ps = [] ∨ f = true ∨ p ≠ []) ∧ ∀ q ∈ ps, q ≠ []
  | [], f => by
    refine ⟨fun _ => ⟨rfl, fun p ps e => ?_⟩, fun _ => rfl⟩
    cases e
    exact ⟨.inl rfl, fun q m => by cases m⟩
  | b :: r, f => by
    obtain ⟨p, ps, e⟩ := pieces_ne r
    have ih1 := good_iff r true
    have ih0 := good_iff r false
    by_cases hb : isLetter b = true
    · have e2 : good f (b :: r) = good true r := by
        show (if isLetter b = true then _ else _) = _
        rw [if_pos hb]
      have e3 : ld (b :: r) = ld r := by show (b :: r).all _ = _; rw [List.all_cons, hb]; rfl
      rw [e2, ih1, e3, pieces_other (not_dash hb) e]
      refine and_congr_right fun _ => ⟨fun h p' ps' q => ?_, fun h p' ps' q => ?_⟩
      · cases q
        exact ⟨.inr (.inr (by simp)), (h p ps e).2⟩
      · rw [e] at q
        cases q
        exact ⟨.inr (.inl rfl), (h _ _ rfl).2⟩
    · have e2 : good f (b :: r) = (b == 45 && (f && (hdL r && good false r))) := by
        show (if isLetter b = true then _ else _) = _
        rw [if_neg hb]
      have hb' : isLetter b = false := by simpa using hb
      rw [e2]
      by_cases hd : b = 45
      · subst hd
        have e3 : ld (45 :: r) = ld r := by show (45 :: r).all _ = _; rw [List.all_cons]; rfl
        rw [e3, pieces_dash]
        constructor
        · intro h
          simp only [Bool.and_eq_true, beq_self_eq_true, true_and] at h
          obtain ⟨hf, hr, hg⟩ := h
          obtain ⟨h1, h2⟩ := ih0.mp hg
          refine ⟨h1, fun p' ps' q => ?_⟩
          cases q
          refine ⟨.inr (.inl hf), fun q m => ?_⟩
          obtain ⟨h3, h4⟩ := h2 p ps e
          rw [e] at m
          rcases List.mem_cons.mp m with z | m
          · subst z
            cases r with
            | nil => cases hr
            | cons c r' =>
              obtain ⟨p2, ps2, e5⟩ := pieces_ne r'
              rw [pieces_other (not_dash hr) e5] at e
              cases e
              simp
          · exact h4 q m
        · intro ⟨h1, h2⟩
          obtain ⟨h3, h4⟩ := h2 [] (pieces r) rfl
          have hf : f = true := by
            rcases h3 with z | z | z
            · rw [e] at z; cases z
            · exact z
            · exact absurd rfl z
          have hg : good false r = true := ih0.mpr ⟨h1, fun p' ps' q => by
            refine ⟨.inr (.inr (h4 p' (by rw [q]; simp))), fun z m => h4 z (by rw [q]; simp [m])⟩⟩
          have hr : hdL r = true := by
            cases r with
            | nil => exact absurd rfl (h4 [] (by simp [pieces]))
            | cons c r' =>
              show isLetter c = true
              by_cases hl : isLetter c = true
              · exact hl
              · have hc : c = 45 := by
                  have z : ld (c :: r') = true := h1
                  unfold ld at z
                  rw [List.all_cons, Bool.and_eq_true] at z
                  have z1 := z.1
                  simp [hl] at z1
                  exact z1
                subst hc
                exact absurd rfl (h4 [] (by rw [pieces_dash]; simp))
          rw [hf, hr, hg]; rfl
      · have e3 : ld (b :: r) = false := by show (b :: r).all _ = _; rw [List.all_cons, hb']; simp [hd]
        rw [e3]
        simp [hd]
theorem lets_flatten : ∀ l : Bytes, (pieces l).flatten = lets l
  | [] => rfl
  | b :: r => by
    obtain ⟨p, ps, e⟩ := pieces_ne r
    have ih := lets_flatten r
    by_cases h : b = 45
    · subst h
      rw [pieces_dash, List.flatten_cons, ih]
      unfold lets
      rw [List.filter_cons]; simp
    · rw [pieces_other h e, lets_letter h, ← ih, e]
      simp
theorem ld_lets : ∀ l : Bytes, ld l = (lets l).all isLetter
  | [] => rfl
  | b :: r => by
    have ih := ld_lets r
    by_cases h : b = 45
    · subst h
      have e : lets (45 :: r) = lets r := by unfold lets; rw [List.filter_cons]; simp
      rw [e, ← ih]
      show (45 :: r).all _ = _
      rw [List.all_cons]; rfl
    · rw [lets_letter h, List.all_cons, ← ih]
      show (b :: r).all _ = _
      rw [List.all_cons, beq_eq_false_iff_ne.mpr h, Bool.or_false]
      rfl
/-- what the program's reading of a word's chunk comes to -/
theorem wordOf_is {b : Bytes} (hb : b ≠ []) : wordOf b = if [] ∈ pieces b ∨ ¬ (2 ≤ (lets b).length ∧ (lets b).length ≤ 16) ∨ ¬ (lets b).all isLetter = true then none else some ⟨lets b, pre 0 (pieces b)⟩ := by
  unfold wordOf
  rw [wordBy_start]
  obtain ⟨p, ps, e⟩ := pieces_ne b
  have gi := good_iff b false
  rw [ld_lets] at gi
  by_cases hg : good false b = true
  · rw [if_pos hg]
    obtain ⟨h1, h2⟩ := gi.mp hg
    obtain ⟨h3, h4⟩ := h2 p ps e
    have ne : ¬ [] ∈ pieces b := by
      rw [e]
      intro m
      rcases List.mem_cons.mp m with z | m
      · rcases h3 with q | q | q
        · have f := lets_flatten b
          have hne : b = [] := by
            cases b with
            | nil => rfl
            | cons c r =>
              by_cases hc : c = 45
              · subst hc
                obtain ⟨p', ps', e'⟩ := pieces_ne r
                rw [pieces_dash, e'] at e
                cases e
                cases q
              · obtain ⟨p', ps', e'⟩ := pieces_ne r
                rw [pieces_other hc e'] at e
                cases e
                cases z
          exact hb hne
        · cases q
        · exact q z.symm
      · exact h4 _ m rfl
    show (if (lets b).length < 2 ∨ 16 < (lets b).length then none else some (Word.mk (lets b) (pre 0 (pieces b)))) = _
    by_cases hl : 2 ≤ (lets b).length ∧ (lets b).length ≤ 16
    · rw [if_neg (by omega), if_neg (by simp only [ne, h1, hl]; simp)]
    · rw [if_pos (by omega), if_pos (.inr (.inl hl))]
  · rw [if_neg hg]
    show none = _
    by_cases hm : [] ∈ pieces b ∨ ¬ (2 ≤ (lets b).length ∧ (lets b).length ≤ 16) ∨ ¬ (lets b).all isLetter = true
    · rw [if_pos hm]
    · refine absurd (gi.mpr ⟨?_, fun p' ps' q => ⟨.inr (.inr fun z => ?_), fun z m y => ?_⟩⟩) hg
      · have := hm
        simp only [not_or, Decidable.not_not] at this
        exact this.2.2
      · exact hm (.inl (by rw [q, z]; simp))
      · exact hm (.inl (by rw [q, ← y]; simp [m]))
end Pw

set_option linter.all false
/-! # Mathematics 3: patterns -/
namespace Pw
open VahypBase Vahypa
/-- letters and digits, as the program reads them: v the digit at the gap where it stands -/
def ldp : Bytes → Bytes → List Nat → Nat → Option (Bytes × List Nat)
  | [], x, vs, v => some (x, vs ++ [v])
  | b :: r, x, vs, v => if isLetter b = true then ldp r (x ++ [b]) (vs ++ [v]) 0
    else if isDigit b = true ∧ b ≠ 48 ∧ v = 0 then ldp r x vs (b.toNat - 48) else none
theorem letter_digit {b : UInt8} (h : isLetter b = true) : isDigit b = false := by
  unfold isLetter at h
  unfold isDigit
  simp at h ⊢
  omega
theorem digit_pos {b : UInt8} (h : isDigit b = true) (h0 : b ≠ 48) : b.toNat - 48 ≠ 0 := by
  unfold isDigit at h
  have : b.toNat ≠ 48 := fun e => h0 (UInt8.toNat_inj.mp (by simpa using e))
  simp at h
  omega
theorem patBy_nil (n : Nat) (x : Bytes) (vs : List Nat) : patBy (n + 1) [] x vs = some (x, vs ++ [0], []) := rfl
theorem patBy_letter {n : Nat} {b : UInt8} {r x : Bytes} {vs : List Nat} (h : isLetter b = true) : patBy (n + 1) (b :: r) x vs = patBy n r (x ++ [b]) (vs ++ [0]) := by
  have hd := letter_digit h
  have h0 : (b == 48) = false := by
    cases q : b == 48 with
    | false => rfl
    | true =>
      have e : b = 48 := by simpa using q
      subst e
      revert h
      decide
  conv => lhs; unfold patBy
  simp only [hd, h0, Bool.false_eq_true, if_false, h, if_true]
theorem patBy_zero {n : Nat} {r x : Bytes} {vs : List Nat} : patBy (n + 1) (48 :: r) x vs = none := rfl
theorem patBy_digit {n : Nat} {b : UInt8} {r x : Bytes} {vs : List Nat} (h : isDigit b = true) (h0 : b ≠ 48) :
    patBy (n + 1) (b :: r) x vs = match r with
      | c :: s => if isLetter c = true then patBy n s (x ++ [c]) (vs ++ [b.toNat - 48]) else some (x, vs ++ [b.toNat - 48], r)
      | [] => some (x, vs ++ [b.toNat - 48], []) := by
  have h1 : (b == 48) = false := beq_eq_false_iff_ne.mpr h0
  conv => lhs; unfold patBy
  simp only [h, h1, if_true, Bool.false_eq_true, if_false]
  cases r <;> rfl
theorem patBy_other {n : Nat} {b : UInt8} {r x : Bytes} {vs : List Nat} (h : isLetter b = false) (hd : isDigit b = false) : patBy (n + 1) (b :: r) x vs = some (x, vs ++ [0], b :: r) := by
  have h1 : (b == 48) = false := by
    cases q : b == 48 with
    | false => rfl
    | true =>
      have e : b = 48 := by simpa using q
      subst e
      revert hd
      decide
  conv => lhs; unfold patBy
  simp only [h, hd, h1, Bool.false_eq_true, if_false]
theorem pt_letter : isLetter 46 = false := by decide
theorem pt_digit : isDigit 46 = false := by decide
/-- patBy of a body and what may stand behind it -/
theorem patBy_is : ∀ (n : Nat) (body tail x : Bytes) (vs : List Nat), body.length < n → (tail = [] ∨ tail = [46]) →
    match ldp body x vs 0 with
    | some (X, D) => patBy n (body ++ tail) x vs = some (X, D, tail)
    | none => patBy n (body ++ tail) x vs = none ∨ ∃ X D c s, patBy n (body ++ tail) x vs = some (X, D, c :: (s ++ tail)) ∧ ∃ h, body = h ++ c :: s
  | 0, body, _, _, _, h, _ => absurd h (Nat.not_lt_zero _)
  | n + 1, [], tail, x, vs, _, ht => by
    show patBy (n + 1) tail x vs = some (x, vs ++ [0], tail)
    rcases ht with e | e
    · subst e; rfl
    · subst e; exact patBy_other pt_letter pt_digit
  | n + 1, b :: r, tail, x, vs, h, ht => by
    have hl : r.length < n := by simpa using h
    by_cases hb : isLetter b = true
    · have ih := patBy_is n r tail (x ++ [b]) (vs ++ [0]) hl ht
      have e : ldp (b :: r) x vs 0 = ldp r (x ++ [b]) (vs ++ [0]) 0 := by
        show (if isLetter b = true then _ else _) = _
        rw [if_pos hb]
      rw [e]
      have e2 : patBy (n + 1) (b :: r ++ tail) x vs = patBy n (r ++ tail) (x ++ [b]) (vs ++ [0]) := patBy_letter hb
      rw [e2]
      cases q : ldp r (x ++ [b]) (vs ++ [0]) 0 with
      | some p => rw [q] at ih; exact ih
      | none =>
        rw [q] at ih
        rcases ih with ih | ⟨X, D, c, s, h1, h', h2⟩
        · exact .inl ih
        · exact .inr ⟨X, D, c, s, h1, b :: h', by rw [h2]; rfl⟩
    · have hb' : isLetter b = false := by simpa using hb
      by_cases hd : isDigit b = true
      · by_cases h0 : b = 48
        · subst h0
          have e : ldp (48 :: r) x vs 0 = none := by
            show (if isLetter 48 = true then _ else _) = _
            rw [if_neg (by decide), if_neg (by simp)]
          rw [e]
          exact .inl patBy_zero
        · have e : ldp (b :: r) x vs 0 = ldp r x vs (b.toNat - 48) := by
            show (if isLetter b = true then _ else _) = _
            rw [if_neg hb, if_pos ⟨hd, h0, rfl⟩]
          rw [e]
          have e2 : patBy (n + 1) (b :: r ++ tail) x vs = match r ++ tail with
              | c :: s => if isLetter c = true then patBy n s (x ++ [c]) (vs ++ [b.toNat - 48]) else some (x, vs ++ [b.toNat - 48], r ++ tail)
              | [] => some (x, vs ++ [b.toNat - 48], []) := patBy_digit hd h0
          rw [e2]
          cases r with
          | nil =>
            rcases ht with z | z
            · subst z; rfl
            · subst z
              show (if isLetter 46 = true then _ else some (x, vs ++ [b.toNat - 48], [46])) = some (x, vs ++ [b.toNat - 48], [46])
              rw [if_neg (by decide)]
          | cons c s =>
            show match ldp (c :: s) x vs (b.toNat - 48) with
              | some (X, D) => (if isLetter c = true then patBy n (s ++ tail) (x ++ [c]) (vs ++ [b.toNat - 48]) else some (x, vs ++ [b.toNat - 48], c :: s ++ tail)) = some (X, D, tail)
              | none => (if isLetter c = true then patBy n (s ++ tail) (x ++ [c]) (vs ++ [b.toNat - 48]) else some (x, vs ++ [b.toNat - 48], c :: s ++ tail)) = none ∨ ∃ X D c' s', (if isLetter c = true then patBy n (s ++ tail) (x ++ [c]) (vs ++ [b.toNat - 48]) else some (x, vs ++ [b.toNat - 48], c :: s ++ tail)) = some (X, D, c' :: (s' ++ tail)) ∧ ∃ h, b :: c :: s = h ++ c' :: s'
            by_cases hc : isLetter c = true
            · have ih := patBy_is n s tail (x ++ [c]) (vs ++ [b.toNat - 48]) (by simp at hl; omega) ht
              have e3 : ldp (c :: s) x vs (b.toNat - 48) = ldp s (x ++ [c]) (vs ++ [b.toNat - 48]) 0 := by
                show (if isLetter c = true then _ else _) = _
                rw [if_pos hc]
              rw [e3]
              cases q : ldp s (x ++ [c]) (vs ++ [b.toNat - 48]) 0 with
              | some p =>
                rw [q] at ih
                show (if isLetter c = true then _ else _) = _
                rw [if_pos hc]
                exact ih
              | none =>
                rw [q] at ih
                rcases ih with ih | ⟨X, D, c', s', h1, h', h2⟩
                · exact .inl (by rw [if_pos hc]; exact ih)
                · exact .inr ⟨X, D, c', s', by rw [if_pos hc]; exact h1, b :: c :: h', by rw [h2]; rfl⟩
            · have e3 : ldp (c :: s) x vs (b.toNat - 48) = none := by
                show (if isLetter c = true then _ else _) = _
                rw [if_neg hc, if_neg (fun z => digit_pos hd h0 z.2.2)]
              rw [e3]
              exact .inr ⟨x, vs ++ [b.toNat - 48], c, s, by rw [if_neg hc]; rfl, [b], rfl⟩
      · have hd' : isDigit b = false := by simpa using hd
        have e : ldp (b :: r) x vs 0 = none := by
          show (if isLetter b = true then _ else _) = _
          rw [if_neg hb, if_neg (fun z => hd z.1)]
        rw [e]
        exact .inr ⟨x, vs ++ [0], b, r, patBy_other hb' hd', [], rfl⟩
/-- without a point at the end -/
def bodyOf (s : Bytes) : Bytes := if s.getLast? = some 46 then s.dropLast else s
theorem body_tail (s : Bytes) : s = bodyOf s ++ (if s.getLast? = some 46 then [46] else []) := by
  unfold bodyOf
  split
  · rename_i h
    have hne : s ≠ [] := by rintro rfl; simp at h
    have e : s.getLast hne = 46 := by
      have := List.getLast?_eq_some_getLast hne
      rw [this] at h
      exact Option.some.inj h
    rw [← e, List.dropLast_concat_getLast hne]
  · simp
def frontOf (b : Bytes) : Bool := b.head? == some 46
/-- without a point at the front -/
def sigs (b : Bytes) : Bytes := if frontOf b = true then b.drop 1 else b
def endOf (b : Bytes) : Bool := (sigs b).getLast? == some 46
/-- what the program's reading of a pattern's chunk comes to -/
theorem patOf_is (b : Bytes) : patOf b = match ldp (bodyOf (sigs b)) [] [] 0 with
     | none => none
     | some p => if ¬ (1 ≤ p.1.length ∧ p.1.length ≤ 6) ∨ p.2.all (fun v => v == 0) = true then none else some (Pat.mk (frontOf b) p.1 (endOf b) p.2) := by
  unfold patOf
  show ((patBy (b.length + 1) (sigs b) [] []).bind fun p => if p.1.length < 1 ∨ PIECE < p.1.length ∨ (p.2.2 ≠ [] ∧ (p.2.2 == [46]) = false) ∨ p.2.1.all (fun v => v == 0) = true then none else some (Pat.mk (frontOf b) p.1 (p.2.2 == [46]) p.2.1)) = _
  unfold endOf
  have hs : (sigs b).length ≤ b.length := by unfold sigs; split <;> simp
  generalize frontOf b = f
  generalize sigs b = s at hs
  have hlen : (bodyOf s).length < b.length + 1 := by
    have h1 : (bodyOf s).length ≤ s.length := by unfold bodyOf; split <;> simp
    omega
  have hbt := body_tail s
  have ih := patBy_is (b.length + 1) (bodyOf s) (if s.getLast? = some 46 then [46] else []) [] [] hlen (by split <;> simp)
  rw [← hbt] at ih
  cases q : ldp (bodyOf s) [] [] 0 with
  | some p =>
    obtain ⟨X, D⟩ := p
    rw [q] at ih
    have ih : patBy (b.length + 1) s [] [] = some (X, D, if s.getLast? = some 46 then [46] else []) := ih
    rw [ih]
    have key : ∀ (T : Bytes) (e : Bool), ((T ≠ [] ∧ (T == [46]) = false) ↔ False) → (T == [46]) = e →
        ((some (X, D, T)).bind fun p => if p.1.length < 1 ∨ PIECE < p.1.length ∨ (p.2.2 ≠ [] ∧ (p.2.2 == [46]) = false) ∨ p.2.1.all (fun v => v == 0) = true then none else some (Pat.mk f p.1 (p.2.2 == [46]) p.2.1)) =
        if ¬ (1 ≤ X.length ∧ X.length ≤ 6) ∨ D.all (fun v => v == 0) = true then none else some (Pat.mk f X e D) := by
      intro T e h1 h2
      show (if X.length < 1 ∨ 6 < X.length ∨ (T ≠ [] ∧ (T == [46]) = false) ∨ D.all (fun v => v == 0) = true then none else some (Pat.mk f X (T == [46]) D)) = _
      rw [h2]
      refine ite_congr (propext ?_) (fun _ => rfl) (fun _ => rfl)
      rw [← h2, h1]
      constructor
      · intro h
        rcases h with h | h | h | h
        · exact Or.inl (by omega)
        · exact Or.inl (by omega)
        · exact h.elim
        · exact Or.inr h
      · intro h
        rcases h with h | h
        · by_cases h3 : X.length < 1
          · exact Or.inl h3
          · exact Or.inr (Or.inl (by omega))
        · exact Or.inr (Or.inr (Or.inr h))
    by_cases h2 : s.getLast? = some 46
    · rw [if_pos h2, h2]
      exact key [46] _ (by simp) rfl
    · rw [if_neg h2]
      exact key [] _ (by simp) (by
        cases q2 : (s.getLast? == some 46) with
        | false => rfl
        | true => exact absurd (by simpa using q2) h2)
  | none =>
    rw [q] at ih
    show _ = none
    rcases ih with ih | ⟨X, D, c, r, ih, h', hb⟩
    · rw [ih]; rfl
    · rw [ih]
      show (if _ ∨ _ ∨ (c :: (r ++ _) ≠ [] ∧ (c :: (r ++ _) == [46]) = false) ∨ _ then none else _) = none
      refine if_pos (.inr (.inr (.inl ⟨by simp, ?_⟩)))
      by_cases h3 : s.getLast? = some 46
      · rw [if_pos h3]
        simp
      · rw [if_neg h3]
        rw [if_neg h3] at hbt
        rw [List.append_nil] at hbt ⊢
        cases r with
        | cons d r' => simp
        | nil =>
          have : s.getLast? = some c := by rw [hbt, hb]; simp
          rw [this] at h3
          simp only [beq_eq_false_iff_ne, ne_eq, List.cons.injEq, and_true]
          intro e
          exact h3 (by rw [e])
end Pw

set_option Elab.async false
set_option linter.all false
set_option maxRecDepth 100000
set_option maxHeartbeats 4000000
/-! # Base: what a def's proof leans on: calls by bundles, constants of the module -/
namespace Pw
open PySem PySem.Spec PyProof.Rows L2 Evl
/-- the i-th statement of the program -/
def top (i : Nat) : Stmt := PySem.Challenge.pw_partedwords_s01_answers.main.body.getD i (.Pass ⟨0, 0, 0, 0⟩)

/-! ### calls -/
/-- a def that is called by its name -/
structure Cal (P : Program) (w : World) (K : PySem.W.Frag) (mg : Str → Option Value) (base : Heap) (CX : CXT) (k : Nat) (x : Str) (ps : List Str) (sp : Sp) : Prop where
  ex : ∃ (f : Addr) (fd : FuncData), mg x = some (.ref f) ∧ PySem.W.keepIn K (.ref f) = true ∧ Binds K fd ps [] ∧ FnOk P w K mg base CX k f fd ps sp
/-- a method of the class at C -/
structure Met (P : Program) (w : World) (K : PySem.W.Frag) (mg : Str → Option Value) (base : Heap) (CX : CXT) (k : Nat) (C : Addr) (x : Str) (ps : List Str) (sp : Sp) : Prop where
  ex : ∃ (f : Addr) (fd : FuncData), Cls K C ∧ Meth K C x f ∧ Binds K fd ps [] ∧ FnOk P w K mg base CX k f fd ps sp
/-- a class that is made by its name; sp its __init__'s promise -/
structure Mkr (P : Program) (w : World) (K : PySem.W.Frag) (mg : Str → Option Value) (base : Heap) (CX : CXT) (k : Nat) (C : Addr) (x : Str) (ps : List Str) (sp : Sp) : Prop where
  ex : ∃ (f : Addr) (fd : FuncData), mg x = some (.ref C) ∧ Mk K C f ∧ Binds K fd ps [] ∧ FnOk P w K mg base CX k f fd ps sp
/-- an own error class; sp its __init__'s promise -/
structure Xcl (P : Program) (w : World) (K : PySem.W.Frag) (mg : Str → Option Value) (base : Heap) (k : Nat) (C : Addr) (x : Str) (ps : List Str) (sp : Sp) : Prop where
  ex : ∃ (f : Addr) (fd : FuncData), mg x = some (.ref C) ∧ OexC K C ∧ PySem.W.findIn K (.ref C) "__init__" = some (some (.ref f)) ∧ PySem.W.typeIn K (.ref f) = some (.type "function") ∧ Binds K fd ps [] ∧ FnOk P w K mg base CX0 k f fd ps sp

theorem pz {X : Cx} {σ : L2.St} : PassesAt CX0 X σ E0 := fun _ _ _ _ _ _ h => h.elim
def tCallU (sp : Sp) (E : L2.St → XK) (t : TA) : TE := fun σ H Q => t σ H fun vs H1 => sp vs H1 Q (E σ)
def tMethU (C : Addr) (m : Str) (sp : Sp) (E : L2.St → XK) (ta : TE) (t : TA) : TE := fun σ H Q => ta σ H fun x H1 => ∃ a dx fs, x = .ref a ∧ H1 a = some (.ins C dx fs) ∧ fs.lookup m = none ∧ t σ H1 fun vs H2 => sp (x :: vs) H2 Q (E σ)
def tMakeU (C : Addr) (sp : Sp) (E : L2.St → XK) (t : TA) : TE := fun σ H Q => t σ H fun vs H1 => ∀ x dx, H1 x = none → H1 dx = none → dx ≠ x →
  sp (.ref x :: vs) (upd (upd H1 dx (.own x)) x (.ins C dx [])) (fun v H2 => v = .non ∧ Q (.ref x) H2) (E σ)
section
variable {X : Cx} {CX : CXT} {k : Nat} {C : Addr} {ps : List Str} {sp : Sp} {E : L2.St → XK} {x m : Str} {p pos apos : Pos} {e o : Expr} {es : List Expr} {ta : TE} {t : TA}
theorem pe_callU (c : Cal X.prog X.w X.K X.mg X.base CX k x ps sp) (hr : Room k X.A) (hg : Gl X x) (hx : ∀ σ, PassesAt CX X σ (E σ)) (ha : PA X (e :: es) t) (hdb : (x == ("__debug__" : Str)) = false := by decide)
    (he : starEach (e :: es) X.env = (false, eval e X.env) :: starEach es X.env := by rfl) (hpl : (backTo pos (starEach es X.env)).any (·.1) = false := by rfl) : PE X (.Call (.Name x p) (e :: es) [] pos) (tCallU sp E t) := by
  obtain ⟨f, fd, hm, hk, hb, F⟩ := c.ex
  exact pe_callS F hr hg hm hk hb hx ha hdb he hpl
theorem pe_methU {pl : Sem Bool} (he : PE X o ta) (c : Met X.prog X.w X.K X.mg X.base CX k C m ps sp) (hr : Room k X.A) (hx : ∀ σ, PassesAt CX X σ (E σ)) (ha : PA X (e :: es) t)
    (hst : starEach (e :: es) X.env = (false, eval e X.env) :: starEach es X.env := by rfl) (hpl : (backTo pos (starEach es X.env)).any (·.1) = false := by rfl)
    (ht : eval (.Call (.Attribute o m apos) (e :: es) [] pos) X.env = (do
      let ov ← eval o X.env
      standAt apos.atName
      let (f, first) ← holding [ov] (getMethod ov m pl)
      callWith pos f first (backTo pos (starEach (e :: es) X.env)) (backToKw pos (keywordEach [] X.env))) := by rfl) :
    PE X (.Call (.Attribute o m apos) (e :: es) [] pos) (tMethU C m sp E ta t) := by
  obtain ⟨f, fd, cl, hm, hb, F⟩ := c.ex
  refine ⟨fun pins s σ H Q I h => ?_⟩
  refine PySem.W.methodCall_KW (pl := pl) (thn (he.run pins s σ H _ I h) fun u s1 ⟨y, H1, I1, ry, a, dx, fs, ey, ea, l, q⟩ => ?_) ht
  subst ey
  obtain rfl : u = Value.ref a := ry
  refine getmeth_ok I1 ea cl hm l (PySem.W.callWith_K (first := [.ref a]) (h₀ := X.base) I.ok.mod.kin hm.kp (thn (ha.run pos pins s1 σ H1 _ I1 q) fun us s2 ⟨vs, H2, I2, r, q2⟩ => ⟨I2.kIn, ?_⟩) hst hpl)
  exact run_fnS (us := .ref a :: us) (vs := .ref a :: vs) F hr hb (hx σ) I2 (.cons rfl r) q2
theorem pe_methU0 {pl : Sem Bool} (he : PE X o ta) (c : Met X.prog X.w X.K X.mg X.base CX k C m ps sp) (hr : Room k X.A) (hx : ∀ σ, PassesAt CX X σ (E σ))
    (ht : eval (.Call (.Attribute o m apos) [] [] pos) X.env = (do
      let ov ← eval o X.env
      standAt apos.atName
      let (f, first) ← holding [ov] (getMethod ov m pl)
      callWith pos f first (backTo pos (starEach [] X.env)) (backToKw pos (keywordEach [] X.env))) := by rfl) :
    PE X (.Call (.Attribute o m apos) [] [] pos) (tMethU C m sp E ta tNil) := by
  obtain ⟨f, fd, cl, hm, hb, F⟩ := c.ex
  refine ⟨fun pins s σ H Q I h => ?_⟩
  refine PySem.W.methodCall_KW (pl := pl) (thn (he.run pins s σ H _ I h) fun u s1 ⟨y, H1, I1, ry, a, dx, fs, ey, ea, l, q⟩ => ?_) ht
  subst ey
  obtain rfl : u = Value.ref a := ry
  exact getmeth_ok I1 ea cl hm l (PySem.W.callWith_K0 (first := [.ref a]) I1.kIn hm.kp (run_fnS (us := [.ref a]) (vs := [.ref a]) F hr hb (hx σ) I1 (.cons rfl .nil) q))
theorem run_makeU {f : Addr} {fd : FuncData} {pins : List (Addr × Obj)} {σ : L2.St} {H : Hp} {s : Shared} {Q : VK} {us : List Value} {vs : List V} (M : Mk X.K C f) (F : FnOk X.prog X.w X.K X.mg X.base CX k f fd ps sp) (hr : Room (k + 1) X.A) (hb : Binds X.K fd ps [])
    (hx : PassesAt CX X σ (E σ)) (I : Inv X pins σ H s) (r : Vals vs us)
    (h : ∀ x dx, H x = none → H dx = none → dx ≠ x → sp (.ref x :: vs) (upd (upd H dx (.own x)) x (.ins C dx [])) (fun v H2 => v = .non ∧ Q (.ref x) H2) (E σ)) :
    wpAny (model X.prog X.w) X.A (call (.ref C) us) (EP X pins σ Q) X.xe s := by
  have hq := h (s.heap.objs.size + 1) s.heap.objs.size (I.hok.fresh (Nat.le_succ _)) (I.hok.fresh (Nat.le_refl _)) (Nat.ne_of_lt (Nat.lt_succ_self _))
  have I2 := Inv.made (C := C) I
  have r2 : Vals (V.ref (s.heap.objs.size + 1) :: vs) (Value.ref (s.heap.objs.size + 1) :: us) := .cons rfl r
  have hl : (Value.ref (s.heap.objs.size + 1) :: us).length = ps.length := by
    have e := r2.length
    rw [F.len _ _ _ _ hq] at e
    exact e.symm
  have b := hb _ (Value.ref (s.heap.objs.size + 1) :: us) I2.kIn (by rw [List.append_nil]; exact hl)
  rw [List.append_nil] at b
  refine wpAny_call (make_map (f := f) I.kIn M.makes M.init (beq_iff_eq.mp M.fn) (codeAny_mono (F.run _ X.stack _ _ ⟨Value.ref (s.heap.objs.size + 1) :: us, []⟩ (Value.ref (s.heap.objs.size + 1) :: us) _ _ (E σ) (hr.make C us []) (I2.env0.make C us []) b r2 hq) fun rr s' hq' => ?_))
  cases rr with
  | error e => exact hx pins _ _ e s' I2 hq'
  | ok fl =>
    cases fl with
    | ret u =>
      obtain ⟨v, H', I3, rv, ev, q3⟩ := I2.after hq'
      subst ev
      exact ⟨rv, V.ref (s.heap.objs.size + 1), H', I3, rfl, q3⟩
    | next => exact False.elim hq'
    | brk => exact False.elim hq'
    | cont => exact False.elim hq'
theorem pe_makeU (c : Mkr X.prog X.w X.K X.mg X.base CX k C x ps sp) (hr : Room (k + 1) X.A) (hg : Gl X x) (hx : ∀ σ, PassesAt CX X σ (E σ)) (ha : PA X (e :: es) t) (hdb : (x == ("__debug__" : Str)) = false := by decide)
    (he : starEach (e :: es) X.env = (false, eval e X.env) :: starEach es X.env := by rfl) (hpl : (backTo pos (starEach es X.env)).any (·.1) = false := by rfl) : PE X (.Call (.Name x p) (e :: es) [] pos) (tMakeU C sp E t) := by
  obtain ⟨f, fd, hm, M, hb, F⟩ := c.ex
  refine ⟨fun pins s σ H Q I h => ?_⟩
  refine wpAny_Call_Name_kw (ld_glob I hg hm (PySem.W.callWith_K (h₀ := X.base) I.ok.mod.kin M.kp (thn (ha.run pos pins s σ H _ I h) fun us s1 ⟨vs, H1, I1, r, q⟩ => ⟨I1.kIn, ?_⟩) he hpl) hdb)
  exact run_makeU M F hr hb (hx σ) I1 r q
theorem pe_makeU0 (c : Mkr X.prog X.w X.K X.mg X.base CX k C x ps sp) (hr : Room (k + 1) X.A) (hg : Gl X x) (hx : ∀ σ, PassesAt CX X σ (E σ)) (hdb : (x == ("__debug__" : Str)) = false := by decide) :
    PE X (.Call (.Name x p) [] [] pos) (tMakeU C sp E tNil) := by
  obtain ⟨f, fd, hm, M, hb, F⟩ := c.ex
  refine ⟨fun pins s σ H Q I h => ?_⟩
  exact wpAny_Call_Name_kw (ld_glob I hg hm (PySem.W.callWith_K0 I.kIn M.kp (run_makeU (us := []) M F hr hb (hx σ) I .nil h)) hdb)
/-- C(e, ..), an own error -/
def tMkU (C : Addr) (sp : Sp) (ta : TA) : L2.St → Hp → XK → Prop := tMkO C sp [] ta
theorem pmk_U (c : Xcl X.prog X.w X.K X.mg X.base k C x ps sp) (hr : Room (k + 1) X.A) (hg : Gl X x) (ha : PA X (e :: es) t) (hdb : (x == ("__debug__" : Str)) = false := by decide)
    (he : starEach (e :: es) X.env = (false, eval e X.env) :: starEach es X.env := by rfl) (hpl : (backTo pos (starEach es X.env)).any (·.1) = false := by rfl) : PMk X (.Call (.Name x p) (e :: es) [] pos) (tMkU C sp t) := by
  obtain ⟨f, fd, hm, T, iC, tI, hb, F⟩ := c.ex
  exact pmk_oex T iC tI F hr hb .nil (pass0 (X := X)) hg hm ha hdb he hpl
end

/-! ### constants of the module -/
section
variable {X : Cx} {x : Str} {pos : Pos}
theorem pe_gi {n : Int} (h : ∃ t, X.mg x = some (.int n t)) (hg : Gl X x) (hd : (x == ("__debug__" : Str)) = false := by decide) : PE X (.Name x pos) (tC (.int n)) := by
  obtain ⟨t, h⟩ := h
  exact pe_glob hg h ⟨t, rfl⟩ hd
theorem pe_gs {z : Str} (h : ∃ t, X.mg x = some (.str z t)) (hg : Gl X x) (hd : (x == ("__debug__" : Str)) = false := by decide) : PE X (.Name x pos) (tC (.str z)) := by
  obtain ⟨t, h⟩ := h
  exact pe_glob hg h ⟨t, rfl⟩ hd
/-- a tuple that stands in the module -/
def tGt (K : PySem.W.Frag) (xs : List V) : TE := fun _ H Q => ∀ a, (∀ H', SqT K H' a xs) → Q (.ref a) H
theorem pe_gt {xs : List V} (h : ∃ a, X.mg x = some (.ref a) ∧ ∀ H', SqT X.K H' a xs) (hg : Gl X x) (hd : (x == ("__debug__" : Str)) = false := by decide) : PE X (.Name x pos) (tGt X.K xs) := by
  obtain ⟨a, h, hs⟩ := h
  refine ⟨fun pins s σ H Q I q => ?_⟩
  exact (pe_glob (v := .ref a) hg h rfl hd).run pins s σ H Q I (q a hs)
end
end Pw

set_option Elab.async false
set_option linter.all false
set_option maxRecDepth 100000
set_option maxHeartbeats 4000000
/-! # How the data lie in the heap; what the top has written -/
namespace Pw
open PySem PySem.Spec PyProof.Rows L2 Evl
open VahypBase (Bytes)
/-- the text of bytes -/
def S (b : Bytes) : Str := ⟨(b.map UInt8.toNat).toArray⟩
abbrev iv (n : Nat) : V := .int (n : Int)
/-- bytes as a list of ints -/
def bv (b : Bytes) : List V := b.map fun c => V.int (c.toNat : Int)
def nv (l : List Nat) : List V := l.map iv
structure Ads where
  F : Addr
  L : Addr
  R : Addr
  Q : Addr
  D : Addr
structure Txt (K : PySem.W.Frag) (mg : Str → Option Value) (A : Ads) : Prop where
  g_LETTERS : ∃ t, mg "LETTERS" = some (.str "abcdefghijklmnopqrstuvwxyz" t)
  g_FIGURES : ∃ t, mg "FIGURES" = some (.str "0123456789" t)
  g_END_SIGN : ∃ t, mg "END_SIGN" = some (.str ";" t)
  g_MARGINS : ∃ t, mg "MARGINS" = some (.str "margins" t)
  g_WORD : ∃ t, mg "WORD" = some (.str "word" t)
  g_PATTERN : ∃ t, mg "PATTERN" = some (.str "pattern" t)
  g_MOST_BYTES : ∃ t, mg "MOST_BYTES" = some (.int 4096 t)
  g_MOST_CHUNK : ∃ t, mg "MOST_CHUNK" = some (.int 40 t)
  g_LINE_END : ∃ t, mg "LINE_END" = some (.int 10 t)
  g_REMARK : ∃ t, mg "REMARK" = some (.int 35 t)
  g_DASH : ∃ t, mg "DASH" = some (.int 45 t)
  g_POINT : ∃ t, mg "POINT" = some (.int 46 t)
  g_SEMICOLON : ∃ t, mg "SEMICOLON" = some (.int 59 t)
  g_TOO_LONG : ∃ t, mg "TOO_LONG" = some (.int 1 t)
  g_NO_TOKEN : ∃ t, mg "NO_TOKEN" = some (.int 2 t)
  g_NOT_ALLOWED : ∃ t, mg "NOT_ALLOWED" = some (.int 3 t)
  g_TOO_MANY : ∃ t, mg "TOO_MANY" = some (.int 4 t)
  g_TAKEN : ∃ t, mg "TAKEN" = some (.int 5 t)
  g_BAD_CHUNK : ∃ t, mg "BAD_CHUNK" = some (.int 7 t)
  g_MOST_MARGIN : ∃ t, mg "MOST_MARGIN" = some (.int 5 t)
  g_MOST_WORDS : ∃ t, mg "MOST_WORDS" = some (.int 24 t)
  g_MOST_PATTERNS : ∃ t, mg "MOST_PATTERNS" = some (.int 40 t)
  g_MOST_LETTERS : ∃ t, mg "MOST_LETTERS" = some (.int 16 t)
  g_MOST_OF_PATTERN : ∃ t, mg "MOST_OF_PATTERN" = some (.int 6 t)
  g_NO_LIST : ∃ t, mg "NO_LIST" = some (.int (-1) t)
  g_NOT_THERE : ∃ t, mg "NOT_THERE" = some (.int (-2) t)
  g_NO_GAP : ∃ t, mg "NO_GAP" = some (.int (-3) t)
  g_NO_LETTERS : ∃ t, mg "NO_LETTERS" = some (.int (-4) t)
  g_LOAD : ∃ t, mg "LOAD" = some (.int 0 t)
  g_LEAST_LETTERS : ∃ t, mg "LEAST_LETTERS" = some (.int 2 t)
  g_BLANKS : ∃ a, mg "BLANKS" = some (.ref a) ∧ ∀ H', SqT K H' a [.int 32, .int 9, .int 10]
  g_NUMBERS_OF : ∃ a, mg "NUMBERS_OF" = some (.ref a) ∧ ∀ H', SqT K H' a [.int 0, .int 0, .int 0, .int 1, .int 0, .int 2, .int 1, .int 0]
  g_LISTED : ∃ a, mg "LISTED" = some (.ref a) ∧ ∀ H', SqT K H' a [.int 0, .int 2, .int 7]
  n_len : mg "len" = none
  n_all : mg "all" = none
  n_max : mg "max" = none
  n_str : mg "str" = none
  n_ord : mg "ord" = none
  n_int : mg "int" = none
  n_tuple : mg "tuple" = none
  n_list : mg "list" = none
  n_range : mg "range" = none
  n_enumerate : mg "enumerate" = none
  n_zip : mg "zip" = none
  n_ValueError : mg "ValueError" = none
  vV : PySem.W.findCls K (.type "ValueError") (.type "type") "__init__" = some (.val (.builtin "ValueError.__init__"))
  gFault : mg "Fault" = some (.ref A.F)
  gRefused : mg "Refused" = some (.ref A.Q)
  oF : OexC K A.F
  oQ : OexC K A.Q
  xf_Fault : XfC K A.F
  xf_Refused : XfC K A.Q
  xa_code : PySem.W.findIn K (.ref A.F) "code" = some none
  xa_place : PySem.W.findIn K (.ref A.F) "place" = some none
  xa_number : PySem.W.findIn K (.ref A.Q) "number" = some none
  teF : PySem.W.exmOne K (.ref A.F) (.ref A.F) = some true
  teQ : PySem.W.exmOne K (.ref A.Q) (.ref A.Q) = some true
  clL : Cls K A.L
  clR : Cls K A.R
  clD : Cls K A.D
  nl : NoAttr K A.L "left" ∧ NoAttr K A.L "right" ∧ NoAttr K A.L "words" ∧ NoAttr K A.L "patterns"
  nr : NoAttr K A.R "tokens" ∧ NoAttr K A.R "at" ∧ NoAttr K A.R "end"
  nd : NoAttr K A.D "listed"

/-! ### small facts -/
theorem if_t {c : Bool} {A B : Prop} (hc : c = true) (h : A) : if c = true then A else B := by
  rw [if_pos hc]
  exact h
theorem if_f {c : Bool} {A B : Prop} (hc : c = false) (h : B) : if c = true then A else B := by
  rw [hc, if_neg Bool.false_ne_true]
  exact h
theorem lk_here {k : Str} {v : V} {r : List (Str × V)} : List.lookup k ((k, v) :: r) = some v := by
  have e : (k == k) = true := beq_self_eq_true k
  simp only [List.lookup, e]
theorem lk_past {k g : Str} {v : V} {r : List (Str × V)} (h : (k == g) = false) : List.lookup k ((g, v) :: r) = List.lookup k r := by
  simp only [List.lookup, h]
theorem S_length (b : Bytes) : (S b).length = b.length := by
  show ((b.map UInt8.toNat).toArray).size = b.length
  simp
theorem S_cps (b : Bytes) : (S b).cps.toList = b.map UInt8.toNat := by
  show ((b.map UInt8.toNat).toArray).toList = _
  simp
theorem map_toNat_inj : ∀ {a b : Bytes}, a.map UInt8.toNat = b.map UInt8.toNat → a = b
  | [], [], _ => rfl
  | [], _ :: _, h => by simp at h
  | _ :: _, [], h => by simp at h
  | x :: a, y :: b, h => by
    simp only [List.map_cons, List.cons.injEq] at h
    rw [UInt8.toNat_inj.mp h.1, map_toNat_inj h.2]
theorem S_inj {a b : Bytes} : S a = S b ↔ a = b := by
  refine ⟨fun h => ?_, fun h => by rw [h]⟩
  have e := congrArg (fun z : Str => z.cps.toList) h
  simp only [S_cps] at e
  exact map_toNat_inj e
theorem S_append (a b : Bytes) : S a ++ S b = S (a ++ b) := by
  show (⟨(a.map UInt8.toNat).toArray ++ (b.map UInt8.toNat).toArray⟩ : Str) = ⟨((a ++ b).map UInt8.toNat).toArray⟩
  simp
theorem dec_S (a b : Bytes) : decide (V.str (S a) = V.str (S b)) = decide (a = b) := by
  by_cases h : a = b
  · subst h; simp
  · rw [decide_eq_false h, decide_eq_false]
    intro q
    injection q with q
    exact h (S_inj.mp q)
theorem bv_length (b : Bytes) : (bv b).length = b.length := by unfold bv; simp
theorem bv_get {b : Bytes} {i : Nat} {c : UInt8} (h : b[i]? = some c) : (bv b)[i]? = some (V.int (c.toNat : Int)) := by
  unfold bv; rw [List.getElem?_map, h]; rfl
theorem of_bv_get {b : Bytes} {i : Nat} {x : V} (h : (bv b)[i]? = some x) : ∃ c, b[i]? = some c ∧ x = V.int (c.toNat : Int) := by
  unfold bv at h
  rw [List.getElem?_map] at h
  cases e : b[i]? with
  | none => rw [e] at h; cases h
  | some c => rw [e] at h; exact ⟨c, rfl, (Option.some.inj h).symm⟩
theorem sz1 {n : Nat} (h : n ≤ 16777216) : n ≤ sizeLine := by rw [sizeLine_eq]; exact h
theorem sz2 {n : Nat} (h : n < 16777216) : n < sizeLine := by rw [sizeLine_eq]; exact h
theorem lit_LETTERS : (Str.ofString "abcdefghijklmnopqrstuvwxyz").cps.toList = (List.range 26).map (97 + ·) := by decide +kernel
theorem lit_FIGURES : (Str.ofString "0123456789").cps.toList = (List.range 10).map (48 + ·) := by decide +kernel
theorem lit_END : Str.ofString ";" = S [59] := by decide +kernel
theorem lit_nil : Str.ofString "" = S [] := by decide +kernel
theorem lit_dash : Str.ofString "-" = S [45] := by decide +kernel
theorem lit_dot : Str.ofString "." = S [46] := by decide +kernel
theorem lit_zero : Str.ofString "0" = S [48] := by decide +kernel
theorem lit_blank : Str.ofString " " = S [32] := by decide +kernel
theorem lit_line : Str.ofString "\n" = S [10] := by decide +kernel
theorem lit_MARGINS : Str.ofString "margins" = S (VahypBase.word "margins") := by decide +kernel
theorem lit_WORD : Str.ofString "word" = S (VahypBase.word "word") := by decide +kernel
theorem lit_PATTERN : Str.ofString "pattern" = S (VahypBase.word "pattern") := by decide +kernel
theorem at_letter {c : UInt8} (h : VahypBase.isLetter c = true) : atI (Str.ofString "abcdefghijklmnopqrstuvwxyz").cps.toList ((c.toNat : Int) - 97) = some c.toNat := by
  have h2 : 97 ≤ c.toNat ∧ c.toNat ≤ 122 := by unfold VahypBase.isLetter at h; simpa using h
  rw [show (c.toNat : Int) - 97 = ((c.toNat - 97 : Nat) : Int) by omega]
  refine atI_nat ?_
  rw [lit_LETTERS, List.getElem?_map, List.getElem?_range (show c.toNat - 97 < 26 by omega)]
  show some (97 + (c.toNat - 97)) = _
  rw [show 97 + (c.toNat - 97) = c.toNat from by omega]
theorem at_figure {c : UInt8} (h : VahypBase.isDigit c = true) : atI (Str.ofString "0123456789").cps.toList ((c.toNat : Int) - 48) = some c.toNat := by
  have h2 : 48 ≤ c.toNat ∧ c.toNat ≤ 57 := by unfold VahypBase.isDigit at h; simpa using h
  rw [show (c.toNat : Int) - 48 = ((c.toNat - 48 : Nat) : Int) by omega]
  refine atI_nat ?_
  rw [lit_FIGURES, List.getElem?_map, List.getElem?_range (show c.toNat - 48 < 10 by omega)]
  show some (48 + (c.toNat - 48)) = _
  rw [show 48 + (c.toNat - 48) = c.toNat by omega]
theorem S_one (c : UInt8) : (⟨#[c.toNat]⟩ : Str) = S [c] := rfl
theorem in_letters (c : UInt8) : decide (c.toNat ∈ (Str.ofString "abcdefghijklmnopqrstuvwxyz").cps.toList) = VahypBase.isLetter c := by
  rw [lit_LETTERS]
  unfold VahypBase.isLetter
  refine decide_eq_decide.mpr ?_
  rw [List.mem_map]
  constructor
  · rintro ⟨a, h1, h2⟩
    have h2 : 97 + a = c.toNat := h2
    have := List.mem_range.mp h1
    omega
  · intro h
    exact ⟨c.toNat - 97, List.mem_range.mpr (by omega), show 97 + (c.toNat - 97) = c.toNat by omega⟩
theorem in_figures (c : UInt8) : decide (c.toNat ∈ (Str.ofString "0123456789").cps.toList) = VahypBase.isDigit c := by
  rw [lit_FIGURES]
  unfold VahypBase.isDigit
  refine decide_eq_decide.mpr ?_
  rw [List.mem_map]
  constructor
  · rintro ⟨a, h1, h2⟩
    have h2 : 48 + a = c.toNat := h2
    have := List.mem_range.mp h1
    omega
  · intro h
    exact ⟨c.toNat - 48, List.mem_range.mpr (by omega), show 48 + (c.toNat - 48) = c.toNat by omega⟩
/-- an error on its way: a fault of that code and place -/
def Flt (A : Ads) (c p : Int) (H : Hp) (E : XK) : Prop := ∀ d H2, H d = none → Ex H H2 → H2 d = some (.xd [("place", .int p), ("code", .int c)]) → E (.ref A.F) (some d) H2
def Rfs (A : Ads) (n : Int) (H : Hp) (E : XK) : Prop := ∀ d H2, H d = none → Ex H H2 → H2 d = some (.xd [("number", .int n)]) → E (.ref A.Q) (some d) H2
theorem Flt.mono {A : Ads} {c p : Int} {H H' : Hp} {E : XK} (h : Flt A c p H E) (e : Ex H H') : Flt A c p H' E := fun d H2 n x y => h d H2 (fresh_back e n) (e.trans x) y
theorem Rfs.mono {A : Ads} {n : Int} {H H' : Hp} {E : XK} (h : Rfs A n H E) (e : Ex H H') : Rfs A n H' E := fun d H2 n x y => h d H2 (fresh_back e n) (e.trans x) y
/-- the promises of the errors' __init__ -/
def spFault (A : Ads) : Sp := fun vs H Q _ => ∃ (p : Addr) (c q : V), vs = [.ref p, c, q] ∧ H p = some (exo p A.F none) ∧
  ∀ H2 d, H d = none → d ≠ p → H2 p = some (exo p A.F (some d)) → H2 d = some (exd d [("place", q), ("code", c)]) → (∀ b o, b ≠ p → H b = some o → H2 b = some o) → Q .non H2
def spRefused (A : Ads) : Sp := fun vs H Q _ => ∃ (p : Addr) (q : V), vs = [.ref p, q] ∧ H p = some (exo p A.Q none) ∧
  ∀ H2 d, H d = none → d ≠ p → H2 p = some (exo p A.Q (some d)) → H2 d = some (exd d [("number", q)]) → (∀ b o, b ≠ p → H b = some o → H2 b = some o) → Q .non H2
/-- raise Fault(c, p), by that promise -/
theorem rd_fault {A : Ads} {ta : TA} {σ : L2.St} {H : Hp} {c p : Int} {E : XK} (ha : EvA ta σ H [.int c, .int p]) (h : Flt A c p H E) : tMkU A.F (spFault A) ta σ H E := by
  refine ha H (Ex.refl H) _ fun H1 e1 => ⟨by show 2 ≤ 1000; decide, fun a na => ⟨a, _, _, rfl, upd_same, fun H2 d nd ne h1 h2 k => ⟨rfl, d, _, h1, h2, ?_, ?_⟩⟩⟩
  · rw [upd_ne ne] at nd; exact nd
  · have nd' : H1 d = none := by rw [upd_ne ne] at nd; exact nd
    refine h d _ (fresh_back e1 nd') (fun b o hb => ?_) upd_same
    have hb1 := e1 b o hb
    have n1 : b ≠ d := ne_of_none hb1 nd'
    have n2 : b ≠ a := ne_of_none hb1 na
    rw [upd_ne n1, del_ne n2]
    exact k b o n2 (by rw [upd_ne n2]; exact hb1)
theorem rd_refused {A : Ads} {ta : TA} {σ : L2.St} {H : Hp} {n : Int} {E : XK} (ha : EvA ta σ H [.int n]) (h : Rfs A n H E) : tMkU A.Q (spRefused A) ta σ H E := by
  refine ha H (Ex.refl H) _ fun H1 e1 => ⟨by show 1 ≤ 1000; decide, fun a na => ⟨a, _, rfl, upd_same, fun H2 d nd ne h1 h2 k => ⟨rfl, d, _, h1, h2, ?_, ?_⟩⟩⟩
  · rw [upd_ne ne] at nd; exact nd
  · have nd' : H1 d = none := by rw [upd_ne ne] at nd; exact nd
    refine h d _ (fresh_back e1 nd') (fun b o hb => ?_) upd_same
    have hb1 := e1 b o hb
    have n1 : b ≠ d := ne_of_none hb1 nd'
    have n2 : b ≠ a := ne_of_none hb1 na
    rw [upd_ne n1, del_ne n2]
    exact k b o n2 (by rw [upd_ne n2]; exact hb1)
/-! ### calls that only add to the heap -/
theorem ev_callU {sp : Sp} {vs : List V} {E : L2.St → XK} {ta : TA} {σ : L2.St} {H : Hp} {z : V} (h : EvA ta σ H vs) (hs : SpV sp vs H z) : Ev (tCallU sp E ta) σ H z := fun H1 e Q q =>
  h H1 e _ fun H2 e2 => hs H2 (e.trans e2) Q (fun H3 e3 => q H3 (e2.trans e3)) (E σ)
theorem el_callU {sp : Sp} {vs xs : List V} {E : L2.St → XK} {ta : TA} {σ : L2.St} {H : Hp} (h : EvA ta σ H vs) (hs : SpL sp vs H xs) : EvL (tCallU sp E ta) σ H xs := fun H1 e Q q =>
  h H1 e _ fun H2 e2 => hs H2 (e.trans e2) Q (fun p H3 hp e3 h3 => q p H3 (fresh_back e2 hp) (e2.trans e3) h3) (E σ)
/-- a promise of a value, of a new list, of a new tuple: R monotone -/
def spV (R : List V → Hp → V → Prop) : Sp := fun vs H Q _ => ∃ v, R vs H v ∧ ∀ H2, Ex H H2 → Q v H2
def spL (R : List V → Hp → List V → Prop) : Sp := fun vs H Q _ => ∃ xs, R vs H xs ∧ ∀ p H2, H p = none → Ex H H2 → H2 p = some (.lst xs) → Q (.ref p) H2
theorem spV_to {R : List V → Hp → V → Prop} {vs : List V} {H : Hp} {v : V} (h : ∀ H1, Ex H H1 → R vs H1 v) : SpV (spV R) vs H v := fun H1 e Q q _ => ⟨v, h H1 e, q⟩
theorem spL_to {R : List V → Hp → List V → Prop} {vs : List V} {H : Hp} {xs : List V} (h : ∀ H1, Ex H H1 → R vs H1 xs) : SpL (spL R) vs H xs := fun H1 e Q q _ => ⟨xs, h H1 e, q⟩
end Pw

set_option Elab.async false
set_option linter.all false
set_option maxRecDepth 100000
set_option maxHeartbeats 4000000
/-! # The rules' relations by names, and what they evaluate to -/
namespace Pw
open PySem PySem.Spec PyProof.Rows L2 Evl
open VahypBase (Bytes)
section
variable {X : Cx}
def rLs : List V → Hp → VK → Prop := fun xs H Q => ∃ z : Str, xs = [.str z] ∧ z.length ≤ sizeLine ∧ Q (.int (z.length : Nat)) H
def rOrd : List V → Hp → VK → Prop := fun xs H Q => ∃ x : Str, xs = [.str x] ∧ x.length = 1 ∧ Q (.int (x.cps.getD 0 0 : Nat)) H
def rStrI : List V → Hp → VK → Prop := fun xs H Q => ∃ i : Int, xs = [.int i] ∧ i.natAbs.log2 < 1920 ∧ Q (.str (toString i)) H
def rInt1 : List V → Hp → VK → Prop := fun xs H Q => (∃ i, xs = [.int i] ∧ Q (.int i) H) ∨ ∃ k, xs = [.bl k] ∧ Q (.int (b2i k)) H
def rTupOf (K : PySem.W.Frag) : List V → Hp → VK → Prop := fun xs H Q => ∃ p ys, xs = [.ref p] ∧ ((SqL K H p ys ∧ ∀ l, H l = none → Q (.ref l) (upd H l (.tup ys))) ∨ (SqT K H p ys ∧ Q (.ref p) H))
def rAddStr : R2 := fun x y H Q => ∃ i j : Str, x = .str i ∧ y = .str j ∧ i.length + j.length ≤ sizeLine ∧ Q (.str (i ++ j)) H
def rJoin (K : PySem.W.Frag) : V → List V → Hp → VK → Prop := fun x xs H Q => ∃ a p, ∃ ys : List Str, x = .str a ∧ xs = [.ref p] ∧ (SqL K H p (ys.map V.str) ∨ SqT K H p (ys.map V.str)) ∧
  (ys.map (·.length)).sum + ys.length * a.length ≤ 16777216 ∧ Q (.str (Txt.join a ys)) H
def rSplit : V → List V → Hp → VK → Prop := fun x xs H Q => ∃ a b, x = .str a ∧ xs = [.str b] ∧ (b.length == 0) = false ∧ a.length + 2 ≤ sizeLine ∧ rNewStrs (Txt.split a b) H Q
def rStarts : V → List V → Hp → VK → Prop := fun x xs H Q => ∃ a b, x = .str a ∧ xs = [.str b] ∧ Q (.bl (Txt.startswith a b)) H
def rEnds : V → List V → Hp → VK → Prop := fun x xs H Q => ∃ a b, x = .str a ∧ xs = [.str b] ∧ Q (.bl (Txt.endswith a b)) H
def rSidx : V → List V → Hp → VK → Prop := fun x xs H Q => ∃ a b i rest, x = .str a ∧ xs = [.str b] ∧ Builtin.Str.occurrences a b 0 a.length 1 = i :: rest ∧ Q (.int (i : Nat)) H
theorem cw_len : CallR X (.builtin "len") (rLenS X.K) := call_len_seq
theorem cw_lens : CallR X (.builtin "len") rLs := call_len_str
theorem cw_ord : CallR X (.builtin "ord") rOrd := call_ord
theorem cw_stri : CallR X (.type "str") rStrI := call_str_int
theorem cw_int : CallR X (.type "int") rInt1 := call_int1
theorem cw_tup : CallR X (.type "tuple") (rTupOf X.K) := call_tuple_of
theorem ow_adds : OpR X (binaryOp .Add) rAddStr := op_add_str
theorem mw_join : MtR X "str.join" (rJoin X.K) := mt_join
theorem mw_split : MtR X "str.split" rSplit := mt_split
theorem mw_starts : MtR X "str.startswith" rStarts := mt_startswith
theorem mw_ends : MtR X "str.endswith" rEnds := mt_endswith
theorem mw_index : MtR X "str.index" rSidx := mt_sindex
end
section
variable {K : PySem.W.Frag} {σ : L2.St} {H H' : Hp} {ta tb tc te to : TE} {t u : TT} {x y z v : V} {r : R2}
theorem ev_chain {f g : Int → Int → Bool} {i j l : Int} (ha : Ev ta σ H (.int i)) (hb : Ev tb σ H (.int j)) (hc : Ev tc σ H (.int l)) :
    Ev (tChain (rI0 fun i j => .bl (f i j)) (rI0 fun i j => .bl (g i j)) ta tb tc) σ H (.bl (f i j && g j l)) := fun H1 e Q q =>
  ha H1 e _ fun H2 e2 => hb H2 (e.trans e2) _ fun H3 e3 => ⟨i, j, rfl, rfl, f i j, rfl, by
    cases h : f i j with
    | true =>
      rw [h] at q
      exact hc H3 ((e.trans e2).trans e3) _ fun H4 e4 => ⟨j, l, rfl, rfl, q H4 ((e2.trans e3).trans e4)⟩
    | false =>
      rw [h] at q
      exact q H3 (e2.trans e3)⟩
theorem rv_in (c : UInt8) : RV rInS (.str ⟨#[c.toNat]⟩) (.str (Str.ofString "abcdefghijklmnopqrstuvwxyz")) H (.bl (VahypBase.isLetter c)) := fun H1 _ _ q =>
  ⟨c.toNat, _, rfl, rfl, by rw [in_letters]; exact q H1 (Ex.refl H1)⟩
theorem rv_inF (c : UInt8) : RV rInS (.str ⟨#[c.toNat]⟩) (.str (Str.ofString "0123456789")) H (.bl (VahypBase.isDigit c)) := fun H1 _ _ q =>
  ⟨c.toNat, _, rfl, rfl, by rw [in_figures]; exact q H1 (Ex.refl H1)⟩
theorem rv_isN : RV rIsN x .non H (.bl (decide (x = .non))) := fun H1 _ _ q => ⟨rfl, q H1 (Ex.refl H1)⟩
theorem rv_notN : RV rNotN x .non H (.bl (!decide (x = .non))) := fun H1 _ _ q => ⟨rfl, q H1 (Ex.refl H1)⟩
theorem rv_adds {a b : Bytes} (hz : a.length + b.length ≤ 16777216) : RV rAddStr (.str (S a)) (.str (S b)) H (.str (S (a ++ b))) := fun H1 _ _ q =>
  ⟨_, _, rfl, rfl, by rw [S_length, S_length]; exact sz1 hz, by rw [S_append]; exact q H1 (Ex.refl H1)⟩
theorem ev_lens {b : Bytes} (ha : Ev ta σ H (.str (S b))) (hz : b.length ≤ 16777216) : Ev (tCB rLs (tCons ta tNil)) σ H (.int (b.length : Nat)) := fun H1 e Q q =>
  ha H1 e _ fun H2 e2 => ⟨_, rfl, by rw [S_length]; exact sz1 hz, by rw [S_length]; exact q H2 e2⟩
theorem ev_lenT {p : Addr} {xs : List V} (ha : Ev ta σ H (.ref p)) (h : SqT K H p xs) : Ev (tCB (rLenS K) (tCons ta tNil)) σ H (.int (xs.length : Nat)) := fun H1 e Q q =>
  ha H1 e _ fun H2 e2 => ⟨p, xs, rfl, Or.inr (ex_t (e.trans e2) h), q H2 e2⟩
theorem ev_all {bs : List Bool} (ha : EvL ta σ H (bs.map V.bl)) : Ev (tCB (rAll K) (tCons ta tNil)) σ H (.bl (bs.all id)) := fun H1 e Q q =>
  ha H1 e _ fun p H2 _ e2 h2 => ⟨p, bs, rfl, sq_of h2, q H2 e2⟩
theorem ev_max {ns : List Int} {m : Int} (ha : EvL ta σ H (ns.map V.int)) (hm : m ∈ ns) (hg : ∀ y, y ∈ ns → y ≤ m) : Ev (tCB (rMax K) (tCons ta tNil)) σ H (.int m) := fun H1 e Q q =>
  ha H1 e _ fun p H2 _ e2 h2 => ⟨p, ns, rfl, sq_of h2, List.length_pos_of_mem hm, fun m' h1 h3 => by
    have e : m' = m := Int.le_antisymm (hg m' h1) (h3 m hm)
    rw [e]
    exact q H2 e2⟩
theorem ev_fld {a C dx : Addr} {fs : List (Str × V)} {f : Str} (h : Ev ta σ H (.ref a)) (ho : H a = some (.ins C dx fs)) (cl : Cls K C) (no : NoAttr K C f) (l : fs.lookup f = some v) : Ev (tFld K ta f) σ H v := fun H1 e Q q =>
  h H1 e _ fun H2 e2 => ⟨a, C, dx, fs, v, rfl, e2 a _ (e a _ ho), cl, no, l, q H2 e2⟩
theorem ev_gt {xs : List V} {a : Addr} (h : ∀ H', SqT K H' a xs) : True := trivial
/-- a module's tuple as the right operand -/
theorem ev_opG {xs : List V} (ha : Ev ta σ H x) (hr : ∀ a, (∀ H', SqT K H' a xs) → RV r x (.ref a) H z) : Ev (tOp r ta (tGt K xs)) σ H z := fun H1 e Q q =>
  ha H1 e _ fun H2 e2 => fun a hs => hr a hs H2 (e.trans e2) Q fun H3 e3 => q H3 (e2.trans e3)
theorem ev_opG1 {xs : List V} (hb : Ev tb σ H y) (hr : ∀ a, (∀ H', SqT K H' a xs) → RV r (.ref a) y H z) : Ev (tOp r (tGt K xs) tb) σ H z := fun H1 e Q q =>
  fun a hs => hb H1 e _ fun H2 e2 => hr a hs H2 (e.trans e2) Q fun H3 e3 => q H3 (e2.trans e3)
theorem ev_join {sep : Str} {ys : List Str} (hs : Ev to σ H (.str sep)) (hl : EvL te σ H (ys.map V.str)) (hz : (ys.map (·.length)).sum + ys.length * sep.length ≤ 16777216) :
    Ev (tM1 (rJoin K) to te) σ H (.str (Txt.join sep ys)) := fun H1 e Q q =>
  hs H1 e _ fun H2 e2 => ⟨⟨sep, rfl⟩, hl H2 (e.trans e2) _ fun p H3 _ e3 h3 => ⟨sep, p, ys, rfl, rfl, Or.inl (sq_of h3), hz, q H3 (e2.trans e3)⟩⟩
theorem el_cat {xs ys : List V} (ha : EvL ta σ H xs) (hb : ∀ H1, Ex H H1 → EvL tb σ H1 ys) (hz : xs.length + ys.length ≤ 16777216) : EvL (tOp rCat ta tb) σ H (xs ++ ys) := fun H1 e Q q =>
  ha H1 e _ fun p H2 hp e2 h2 => hb H2 (e.trans e2) H2 (Ex.refl H2) _ fun p2 H3 hp2 e3 h3 => ⟨p, p2, xs, ys, rfl, rfl, e3 p _ h2, h3, sz1 hz, fun l hl => q l _ (fresh_back (e2.trans e3) hl) ((e2.trans e3).trans (Ex.new hl)) upd_same⟩
/-- a list at hand + a new one; a new one + a list at hand -/
theorem el_catA {p : Addr} {xs ys : List V} (ha : Ev ta σ H (.ref p)) (hp : H p = some (.lst xs)) (hb : EvL tb σ H ys) (hz : xs.length + ys.length ≤ 16777216) : EvL (tOp rCat ta tb) σ H (xs ++ ys) := fun H1 e Q q =>
  ha H1 e _ fun H2 e2 => hb H2 (e.trans e2) _ fun p2 H3 hp2 e3 h3 => ⟨p, p2, xs, ys, rfl, rfl, ((e.trans e2).trans e3) p _ hp, h3, sz1 hz, fun l hl => q l _ (fresh_back (e2.trans e3) hl) ((e2.trans e3).trans (Ex.new hl)) upd_same⟩
theorem el_catB {p : Addr} {xs ys : List V} (ha : EvL ta σ H xs) (hb : Ev tb σ H (.ref p)) (hp : H p = some (.lst ys)) (hz : xs.length + ys.length ≤ 16777216) : EvL (tOp rCat ta tb) σ H (xs ++ ys) := fun H1 e Q q =>
  ha H1 e _ fun p2 H2 _ e2 h2 => hb H2 (e.trans e2) _ fun H3 e3 => ⟨p2, p, xs, ys, rfl, rfl, e3 p2 _ h2, ((e.trans e2).trans e3) p _ hp, sz1 hz, fun l hl => q l _ (fresh_back (e2.trans e3) hl) ((e2.trans e3).trans (Ex.new hl)) upd_same⟩
theorem ev_slS {tl th : TO} {b : Bytes} {lo hi : Option Int} (h : Ev te σ H (.str (S b))) (h1 : EvO tl σ H lo) (h2 : EvO th σ H hi) (hz : b.length ≤ 16777216) : Ev (tSl rSlS te tl th) σ H (.str (cutS (S b) lo hi)) := fun H1 e Q q =>
  h H1 e _ fun H2 e2 => h1 H2 (e.trans e2) _ fun H3 e3 => h2 H3 ((e.trans e2).trans e3) _ fun H4 e4 => ⟨_, rfl, by rw [S_length]; exact sz1 hz, q H4 ((e2.trans e3).trans e4)⟩
theorem ev_starts {a b : Str} (h : Ev to σ H (.str a)) (h2 : Ev te σ H (.str b)) : Ev (tM1 rStarts to te) σ H (.bl (Txt.startswith a b)) := fun H1 e Q q =>
  h H1 e _ fun H2 e2 => ⟨⟨a, rfl⟩, h2 H2 (e.trans e2) _ fun H3 e3 => ⟨a, b, rfl, rfl, q H3 (e2.trans e3)⟩⟩
theorem ev_ends {a b : Str} (h : Ev to σ H (.str a)) (h2 : Ev te σ H (.str b)) : Ev (tM1 rEnds to te) σ H (.bl (Txt.endswith a b)) := fun H1 e Q q =>
  h H1 e _ fun H2 e2 => ⟨⟨a, rfl⟩, h2 H2 (e.trans e2) _ fun H3 e3 => ⟨a, b, rfl, rfl, q H3 (e2.trans e3)⟩⟩
theorem ev_sidx {a b : Str} {i : Nat} {rest : List Nat} (h : Ev to σ H (.str a)) (h2 : Ev te σ H (.str b)) (ho : Builtin.Str.occurrences a b 0 a.length 1 = i :: rest) : Ev (tM1 rSidx to te) σ H (.int (i : Nat)) := fun H1 e Q q =>
  h H1 e _ fun H2 e2 => ⟨⟨a, rfl⟩, h2 H2 (e.trans e2) _ fun H3 e3 => ⟨a, b, i, rest, rfl, rfl, ho, q H3 (e2.trans e3)⟩⟩
theorem el_split {a b : Str} (h : Ev to σ H (.str a)) (h2 : Ev te σ H (.str b)) (hb : (b.length == 0) = false) (hz : a.length + 2 ≤ sizeLine) : EvL (tM1 rSplit to te) σ H ((Txt.split a b).map V.str) := fun H1 e Q q =>
  h H1 e _ fun H2 e2 => ⟨⟨a, rfl⟩, h2 H2 (e.trans e2) _ fun H3 e3 => ⟨a, b, rfl, rfl, hb, hz, fun p hp => q p _ (fresh_back (e2.trans e3) hp) ((e2.trans e3).trans (Ex.new hp)) upd_same⟩⟩
theorem ev_ord {c : UInt8} (h : Ev ta σ H (.str (S [c]))) : Ev (tCB rOrd (tCons ta tNil)) σ H (.int (c.toNat : Nat)) := fun H1 e Q q =>
  h H1 e _ fun H2 e2 => ⟨_, rfl, rfl, q H2 e2⟩
theorem ev_strI {i : Int} (h : Ev ta σ H (.int i)) (hz : i.natAbs.log2 < 1920) : Ev (tCB rStrI (tCons ta tNil)) σ H (.str (toString i)) := fun H1 e Q q =>
  h H1 e _ fun H2 e2 => ⟨i, rfl, hz, q H2 e2⟩
theorem ev_intB {k : Bool} (h : Ev ta σ H (.bl k)) : Ev (tCB rInt1 (tCons ta tNil)) σ H (.int (b2i k)) := fun H1 e Q q =>
  h H1 e _ fun H2 e2 => Or.inr ⟨k, rfl, q H2 e2⟩
theorem eu_tupOf {p : Addr} {xs : List V} (h : Ev ta σ H (.ref p)) (hp : H p = some (.lst xs)) : EvU (tCB (rTupOf K) (tCons ta tNil)) σ H xs := fun H1 e Q q =>
  h H1 e _ fun H2 e2 => ⟨p, xs, rfl, Or.inl ⟨sq_of ((e.trans e2) p _ hp), fun l hl => q l _ (fresh_back e2 hl) (e2.trans (Ex.new hl)) upd_same⟩⟩
theorem el_rg {a b : Int} (ha : Ev ta σ H (.int a)) (hb : Ev tb σ H (.int b)) (ok : RgOk a b) : EvL (tLstRg (tRg2 ta tb)) σ H (rgV a b) := fun H1 e Q q =>
  ha H1 e _ fun H2 e2 => hb H2 (e.trans e2) _ fun H3 e3 => ⟨a, b, rfl, rfl, ok, fun l hl => q l _ (fresh_back (e2.trans e3) hl) ((e2.trans e3).trans (Ex.new hl)) upd_same⟩
end
end Pw

set_option Elab.async false
set_option linter.all false
set_option maxRecDepth 100000
set_option maxHeartbeats 4000000
/-! # Comprehensions over data -/
namespace Pw
open PySem PySem.Spec PyProof.Rows L2 Evl
open VahypBase (Bytes)
theorem et_yes {σ : L2.St} {H : Hp} : EvT tYes σ H true := fun H1 _ _ q => q H1 (Ex.refl H1)
theorem take_snoc {α : Type} {l : List α} {i : Nat} {a : α} (h : l[i]? = some a) : l.take (i + 1) = l.take i ++ [a] := by
  rw [List.take_succ, h]; rfl
section
variable {K : PySem.W.Frag} {σ : L2.St} {H : Hp} {te tl : TE} {t : TT}
/-- a comprehension over a walk of the items of l, in which each turn says what it gives -/
theorem lc_gen {J : It} {n : Nat} {G : Hp → Prop} {Y : Nat → Hp → V → Hp → Prop} (w : Walk J n G Y) {α : Type} (l : List α) (hn : n = l.length) (io : α → V) (p : α → Bool) (g : α → V) {H1 : Hp} {D : Addr} {j : Nat} {vs : List Nat} (hz : l.length ≤ 40000)
    (hD : H1 D = none) (hG : ∀ H', Ex H1 H' → G H') (hY : ∀ i H' x H'', i < n → Ex H1 H' → Y i H' x H'' → H'' = H' ∧ ∃ a, l[i]? = some a ∧ x = io a)
    (hw : ∀ x, wipe ((wipe σ vs).set j (some x)) vs = wipe σ vs)
    (ht : ∀ a H', a ∈ l → Ex H1 H' → EvT t ((wipe σ vs).set j (some (io a))) H' (p a)) (he : ∀ a H', a ∈ l → Ex H1 H' → p a = true → Ev te ((wipe σ vs).set j (some (io a))) H' (g a))
    {Qd : Hp → Prop} (hd : ∀ H', Ex H1 H' → H' D = some (.lst ((l.filter p).map g)) → Qd H') :
    ∃ W : Nat → Nat → Hp → Prop, (∃ m, W 0 m (upd H1 D (.lst []))) ∧ ∀ i m H, W i m H →
      (J.stop i H ∧ Qd H) ∨ (J.go i H ∧ ∃ Nx : Hp → Prop, (∀ H', Nx H' → ∃ m', m' < m ∧ W (i + 1) m' H') ∧ ∀ x H', J.yld i H x H' → gName j x (wipe σ vs) H' fun σ2 H2 => wipe σ2 vs = wipe σ vs ∧ t σ2 H2 fun b H3 =>
        if b = true then te σ2 H3 fun y H4 => ∃ acc, H4 D = some (.lst acc) ∧ acc.length < sizeLine ∧ Nx (upd H4 D (.lst (acc ++ [y]))) else Nx H3) := by
  refine lc_it w (fun i H' => Ex H1 H' ∧ H' D = some (.lst (((l.take i).filter p).map g))) ⟨Ex.new hD, upd_same⟩ (fun i H' _ q => hG H' q.1) (fun i x H' H'' hi q y => ?_) (fun H' q => hd H' q.1 (by rw [hn, List.take_length] at q; exact q.2))
  obtain ⟨q1, q2⟩ := q
  obtain ⟨e, a, ha, ex⟩ := hY i H' x H'' hi q1 y
  subst e ex
  have hm : a ∈ l := List.mem_of_getElem? ha
  refine ⟨hw _, ht a H'' hm q1 H'' (Ex.refl _) _ fun H3 e3 => ?_⟩
  have hlen : (((l.take i).filter p).map g).length ≤ l.length := by
    rw [List.length_map]
    exact Nat.le_trans (List.length_filter_le _ _) (by rw [List.length_take]; omega)
  cases hp : p a with
  | true =>
    refine if_t rfl (he a H'' hm q1 hp H3 e3 _ fun H4 e4 => ⟨_, (e3.trans e4) D _ q2, sz2 (by omega), Ex.mut (q1.trans (e3.trans e4)) hD, ?_⟩)
    rw [upd_same, take_snoc ha, List.filter_append, List.map_append, List.filter_cons, if_pos hp]
    rfl
  | false =>
    refine if_f rfl ⟨q1.trans e3, ?_⟩
    rw [take_snoc ha, List.filter_append, List.filter_cons, if_neg (by rw [hp]; decide), List.filter_nil, List.append_nil]
    exact e3 D _ q2
theorem of_map_get {α : Type} {l : List α} {io : α → V} {i : Nat} {x : V} (h : (l.map io)[i]? = some x) : ∃ a, l[i]? = some a ∧ x = io a := by
  rw [List.getElem?_map] at h
  cases e : l[i]? with
  | none => rw [e] at h; cases h
  | some c => rw [e] at h; exact ⟨c, rfl, (Option.some.inj h).symm⟩
/-- over a new list -/
theorem el_lcN {α : Type} (l : List α) (io : α → V) (p : α → Bool) (g : α → V) {j : Nat} {vs : List Nat} (h : EvL tl σ H (l.map io)) (hz : l.length ≤ 40000) (hw : ∀ x, wipe ((wipe σ vs).set j (some x)) vs = wipe σ vs)
    (ht : ∀ a H', a ∈ l → Ex H H' → EvT t ((wipe σ vs).set j (some (io a))) H' (p a)) (he : ∀ a H', a ∈ l → Ex H H' → p a = true → Ev te ((wipe σ vs).set j (some (io a))) H' (g a)) :
    EvL (tLc (iList K tl) (gName j) t te vs) σ H ((l.filter p).map g) := fun H0 e Q q => h H0 e _ fun b H1 hb e1 h1 => ⟨b, rfl, ⟨_, sq_of h1⟩, fun D hD =>
  lc_gen walk_list l (by rw [List.length_map]) io p g hz hD (fun H' x => sq_of (x b _ h1)) (fun i H' x H'' hi ex y => ⟨y.1, of_map_get y.2⟩) hw (fun a H' m x => ht a H' m ((e.trans e1).trans x)) (fun a H' m x => he a H' m ((e.trans e1).trans x))
    fun H' x y => q D H' (fresh_back e1 hD) (e1.trans x) y⟩
/-- over a list at hand -/
theorem el_lcL {α : Type} (l : List α) (io : α → V) (p : α → Bool) (g : α → V) {b : Addr} {j : Nat} {vs : List Nat} (h : Ev tl σ H (.ref b)) (hs : SqL K H b (l.map io)) (hz : l.length ≤ 40000) (hw : ∀ x, wipe ((wipe σ vs).set j (some x)) vs = wipe σ vs)
    (ht : ∀ a H', a ∈ l → Ex H H' → EvT t ((wipe σ vs).set j (some (io a))) H' (p a)) (he : ∀ a H', a ∈ l → Ex H H' → p a = true → Ev te ((wipe σ vs).set j (some (io a))) H' (g a)) :
    EvL (tLc (iList K tl) (gName j) t te vs) σ H ((l.filter p).map g) := fun H0 e Q q => h H0 e _ fun H1 e1 => ⟨b, rfl, ⟨_, ex_l (e.trans e1) hs⟩, fun D hD =>
  lc_gen walk_list l (by rw [List.length_map]) io p g hz hD (fun H' x => ex_l ((e.trans e1).trans x) hs) (fun i H' x H'' hi ex y => ⟨y.1, of_map_get y.2⟩) hw (fun a H' m x => ht a H' m ((e.trans e1).trans x)) (fun a H' m x => he a H' m ((e.trans e1).trans x))
    fun H' x y => q D H' (fresh_back e1 hD) (e1.trans x) y⟩
/-- over a tuple at hand -/
theorem el_lcT {α : Type} (l : List α) (io : α → V) (p : α → Bool) (g : α → V) {b : Addr} {j : Nat} {vs : List Nat} (h : Ev tl σ H (.ref b)) (hs : SqT K H b (l.map io)) (hz : l.length ≤ 40000) (hw : ∀ x, wipe ((wipe σ vs).set j (some x)) vs = wipe σ vs)
    (ht : ∀ a H', a ∈ l → Ex H H' → EvT t ((wipe σ vs).set j (some (io a))) H' (p a)) (he : ∀ a H', a ∈ l → Ex H H' → p a = true → Ev te ((wipe σ vs).set j (some (io a))) H' (g a)) :
    EvL (tLc (iTup K tl) (gName j) t te vs) σ H ((l.filter p).map g) := fun H0 e Q q => h H0 e _ fun H1 e1 => ⟨b, rfl, ⟨_, ex_t (e.trans e1) hs⟩, fun D hD =>
  lc_gen walk_tup l (by rw [List.length_map]) io p g hz hD (fun H' x => ex_t ((e.trans e1).trans x) hs) (fun i H' x H'' hi ex y => ⟨y.1, of_map_get y.2⟩) hw (fun a H' m x => ht a H' m ((e.trans e1).trans x)) (fun a H' m x => he a H' m ((e.trans e1).trans x))
    fun H' x y => q D H' (fresh_back e1 hD) (e1.trans x) y⟩
def sg (c : UInt8) : V := .str ⟨#[c.toNat]⟩
theorem S_size (b : Bytes) : (S b).cps.size = b.length := S_length b
theorem S_get {b : Bytes} {i : Nat} {c : Nat} (h : (S b).cps[i]? = some c) : ∃ a, b[i]? = some a ∧ c = a.toNat := by
  have h2 : (b.map UInt8.toNat)[i]? = some c := by
    have e : (S b).cps[i]? = ((b.map UInt8.toNat).toArray)[i]? := rfl
    rw [e] at h
    simpa using h
  rw [List.getElem?_map] at h2
  cases e : b[i]? with
  | none => rw [e] at h2; cases h2
  | some a => rw [e] at h2; exact ⟨a, rfl, (Option.some.inj h2).symm⟩
/-- over a text's signs -/
theorem el_lcS (l : Bytes) (p : UInt8 → Bool) (g : UInt8 → V) {j : Nat} {vs : List Nat} (h : Ev tl σ H (.str (S l))) (hz : l.length ≤ 40000) (hw : ∀ x, wipe ((wipe σ vs).set j (some x)) vs = wipe σ vs)
    (ht : ∀ a H', a ∈ l → Ex H H' → EvT t ((wipe σ vs).set j (some (sg a))) H' (p a)) (he : ∀ a H', a ∈ l → Ex H H' → p a = true → Ev te ((wipe σ vs).set j (some (sg a))) H' (g a)) :
    EvL (tLc (iStr tl) (gName j) t te vs) σ H ((l.filter p).map g) := fun H0 e Q q => h H0 e _ fun H1 e1 => ⟨_, rfl, fun D hD =>
  lc_gen walk_str l (S_size l) sg p g hz hD (fun H' x => trivial) (fun i H' x H'' hi ex y => by
    obtain ⟨y1, c, y2, y3⟩ := y
    obtain ⟨a, ha, hc⟩ := S_get y2
    exact ⟨y1, a, ha, by rw [y3, hc]; rfl⟩) hw (fun a H' m x => ht a H' m ((e.trans e1).trans x)) (fun a H' m x => he a H' m ((e.trans e1).trans x))
    fun H' x y => q D H' (fresh_back e1 hD) (e1.trans x) y⟩
/-- over range(n) -/
theorem el_lcR {ta : TA} (n : Nat) (p : Nat → Bool) (g : Nat → V) {j : Nat} {vs : List Nat} (h : EvA ta σ H [.int (n : Int)]) (hz : n ≤ 40000) (hw : ∀ x, wipe ((wipe σ vs).set j (some x)) vs = wipe σ vs)
    (ht : ∀ a H', a < n → Ex H H' → EvT t ((wipe σ vs).set j (some (iv a))) H' (p a)) (he : ∀ a H', a < n → Ex H H' → p a = true → Ev te ((wipe σ vs).set j (some (iv a))) H' (g a)) :
    EvL (tLc (iRng1 ta) (gName j) t te vs) σ H (((List.range n).filter p).map g) := fun H0 e Q q => h H0 e _ fun H1 e1 => ⟨_, rfl, by omega, by omega, fun D hD =>
  lc_gen (walk_range (lo := 0) (n := (n : Int).toNat)) (List.range n) (by simp) iv p g (by simpa using hz) hD (fun H' x => trivial) (fun i H' x H'' hi ex y => ⟨y.1, i, by
    have hi' : i < n := by simpa using hi
    exact List.getElem?_range hi', by rw [y.2]; show V.int (0 + (i : Int)) = V.int (i : Int); rw [Int.zero_add]⟩) hw (fun a H' m x => ht a H' (List.mem_range.mp m) ((e.trans e1).trans x)) (fun a H' m x => he a H' (List.mem_range.mp m) ((e.trans e1).trans x))
    fun H' x y => q D H' (fresh_back e1 hD) (e1.trans x) y⟩
end
theorem filter_yes {α : Type} (l : List α) : l.filter (fun _ => true) = l := by
  induction l with
  | nil => rfl
  | cons a r ih => rw [List.filter_cons, if_pos rfl, ih]
/-- the joining of texts of bytes -/
theorem join_nil (l : List Bytes) : Txt.join (S []) (l.map S) = S l.flatten := by
  unfold Txt.join
  rw [PySem.StrLaws.glued_eq_join]
  induction l with
  | nil => rfl
  | cons a r ih =>
    cases r with
    | nil =>
      show S a = S ([a]).flatten
      simp
    | cons b r' =>
      show S a ++ S [] ++ Str.join (S []) ((b :: r').map S) = S (a :: b :: r').flatten
      rw [ih, S_append, S_append]
      simp
theorem sum_S (l : List Bytes) : ((l.map S).map (·.length)).sum = l.flatten.length := by
  induction l with
  | nil => rfl
  | cons a r ih =>
    rw [List.map_cons, List.map_cons, List.sum_cons, ih, S_length, List.flatten_cons, List.length_append]
end Pw

set_option Elab.async false
set_option linter.all false
set_option maxRecDepth 100000
set_option maxHeartbeats 4000000
/-! # Texts: split, index, cuts, ends -/
namespace Pw
open PySem PySem.Spec PyProof.Rows L2 Evl
open VahypBase (Bytes)
open PySem.Builtin.Str (occurrences partsBetween strSub strKind)
theorem pieces_none : ∀ {l : Bytes}, (∀ c ∈ l, c ≠ 45) → pieces l = [l]
  | [], _ => rfl
  | b :: r, h => pieces_other (h b (by simp)) (pieces_none fun c m => h c (by simp [m]))
theorem pieces_first : ∀ {p r : Bytes}, (∀ c ∈ p, c ≠ 45) → pieces (p ++ 45 :: r) = p :: pieces r
  | [], _, _ => pieces_dash _
  | b :: p, r, h => pieces_other (h b (by simp)) (pieces_first fun c m => h c (by simp [m]))
theorem sub_S (b : Bytes) (i j : Nat) : strSub (S b) i j = S ((b.drop i).take (j - i)) := by
  have e : (strSub (S b) i j).cps.toList = (S ((b.drop i).take (j - i))).cps.toList := by
    rw [PySem.StrLaws.strSub_toList, S_cps, S_cps, List.map_take, List.map_drop]
  have h : ∀ x y : Str, x.cps.toList = y.cps.toList → x = y := by
    intro x y q
    obtain ⟨x⟩ := x
    obtain ⟨y⟩ := y
    congr 1
    exact Array.toList_inj.mp q
  exact h _ _ e
theorem at_dash {b : Bytes} {k : Nat} : PySem.StrLaws.At (S b) (S [45]) (S b).length k ↔ b[k]? = some 45 := by
  refine Iff.trans (PySem.StrLaws.subAt_one (S b) 45 k) ?_
  rw [S_cps, List.getElem?_map]
  cases b[k]? with
  | none => simp
  | some c =>
    simp only [Option.map_some, Option.some.injEq]
    exact UInt8.toNat_inj (a := c) (b := 45)
theorem parts_dash (b : Bytes) : ∀ (cuts : List Nat) (a f : Nat), PySem.StrLaws.ChainG (S b) (S [45]) (S b).length a cuts f → (∀ k, f ≤ k → ¬ PySem.StrLaws.At (S b) (S [45]) (S b).length k) →
    PySem.StrLaws.partsFrom (S b) 1 a cuts = (pieces (b.drop a)).map S
  | [], a, f, h, hn => by
    have e : f = a := h
    subst e
    have n : ∀ c ∈ b.drop f, c ≠ 45 := fun c m z => by
      obtain ⟨i, hi⟩ := List.mem_iff_getElem?.mp m
      rw [List.getElem?_drop, z] at hi
      exact hn (f + i) (by omega) (at_dash.mpr hi)
    rw [pieces_none n]
    show [strSub (S b) f (S b).length] = [S (b.drop f)]
    rw [sub_S, S_length, List.take_of_length_le (by simp)]
  | c :: r, a, f, h, hn => by
    obtain ⟨hac, hA, hno, hr⟩ := h
    have ih := parts_dash b r (c + 1) f hr hn
    have hc := at_dash.mp hA
    have hlt : c < b.length := (List.getElem?_eq_some_iff.mp hc).1
    have n : ∀ d ∈ (b.drop a).take (c - a), d ≠ 45 := fun d m z => by
      obtain ⟨i, hi⟩ := List.mem_iff_getElem?.mp m
      rw [List.getElem?_take] at hi
      split at hi
      · rename_i hlt2
        rw [List.getElem?_drop, z] at hi
        exact hno (a + i) (by omega) (by omega) (at_dash.mpr hi)
      · cases hi
    have e : b.drop a = (b.drop a).take (c - a) ++ 45 :: b.drop (c + 1) := by
      have e1 : (b.drop a).drop (c - a) = 45 :: b.drop (c + 1) := by
        rw [List.drop_drop, show a + (c - a) = c by omega, List.drop_eq_getElem_cons hlt]
        congr 1
        exact (List.getElem?_eq_some_iff.mp hc).2
      rw [← e1, List.take_append_drop]
    rw [e, pieces_first n]
    show strSub (S b) a c :: PySem.StrLaws.partsFrom (S b) 1 (c + 1) r = S _ :: (pieces (b.drop (c + 1))).map S
    rw [ih, sub_S]
theorem split_S (b : Bytes) : Txt.split (S b) (S [45]) = (pieces b).map S := by
  obtain ⟨f, h1, h2⟩ := PySem.StrLaws.occ_tight (S b) (S [45]) (Nat.le_refl 1)
  have h := parts_dash b _ 0 f h1 h2
  rw [List.drop_zero] at h
  unfold Txt.split
  have hk : ¬ (strKind (S b) < strKind (S [45])) := by
    have e : strKind (S [45]) = 1 := by decide +kernel
    rw [e]
    unfold PySem.Builtin.Str.strKind
    split
    · omega
    · split <;> omega
  by_cases hl : (S b).length < (S [45]).length
  · rw [if_pos (by rw [decide_eq_true hl]; rfl)]
    have e : b = [] := by
      rw [S_length, S_length] at hl
      cases b with
      | nil => rfl
      | cons => simp at hl
    rw [e]; rfl
  · rw [if_neg (by rw [decide_eq_false hl, decide_eq_false hk]; decide)]
    by_cases he : (occurrences (S b) (S [45]) 0 (S b).length ((S b).length + 1)).isEmpty = true
    · rw [if_pos he, ← h]
      have e2 : occurrences (S b) (S [45]) 0 (S b).length ((S b).length + 1) = [] := by simpa using he
      rw [e2]
      show [S b] = [strSub (S b) 0 (S b).length]
      rw [sub_S, S_length, List.drop_zero, List.take_of_length_le (by simp)]
    · rw [if_neg he, PySem.StrLaws.partsBetween_eq]
      exact h
theorem occ_figs : ∀ n, n < 10 → occurrences (Str.ofString "0123456789") ⟨#[48 + n]⟩ 0 (Str.ofString "0123456789").length 1 = [n] := by decide +kernel
theorem occ_figure {c : UInt8} (h : VahypBase.isDigit c = true) : occurrences (Str.ofString "0123456789") (S [c]) 0 (Str.ofString "0123456789").length 1 = [c.toNat - 48] := by
  have h2 : 48 ≤ c.toNat ∧ c.toNat ≤ 57 := by unfold VahypBase.isDigit at h; simpa using h
  have e := occ_figs (c.toNat - 48) (by omega)
  rw [show 48 + (c.toNat - 48) = c.toNat by omega] at e
  exact e
/-- slices of a text of bytes -/
theorem cutS_S (b : Bytes) (lo hi : Option Int) : cutS (S b) lo hi = S ((b.drop (HT.sIx b.length 0 lo)).take (HT.sIx b.length b.length hi - HT.sIx b.length 0 lo)) := by
  unfold cutS
  rw [S_length, S_cps]
  show (⟨_⟩ : Str) = ⟨_⟩
  rw [List.map_take, List.map_drop]
theorem cut_first (b : Bytes) : cutS (S b) (some 1) none = S (b.drop 1) := by
  rw [cutS_S]
  have e : HT.sIx b.length 0 (some 1) = min 1 b.length := HT.sIx_nat b.length 0 1
  rw [e, HT.sIx_none]
  congr 1
  cases b with
  | nil => rfl
  | cons c r =>
    have e2 : min 1 (c :: r).length = 1 := by simp
    rw [e2, List.take_of_length_le (by simp)]
theorem cut_last (b : Bytes) : cutS (S b) none (some (-1)) = S b.dropLast := by
  rw [cutS_S, HT.sIx_none, List.drop_zero, Nat.sub_zero]
  have e : HT.sIx b.length b.length (some (-1)) = b.length - 1 := by
    show (if (-1 : Int) < 0 then (-1 + (b.length : Int)).toNat else min (-1 : Int).toNat b.length) = _
    rw [if_pos (by decide)]
    omega
  rw [e, List.dropLast_eq_take]
theorem cut_mid (b : Bytes) (i n : Nat) : cutS (S b) (some (i : Int)) (some ((i + n : Nat) : Int)) = S ((b.drop i).take n) := by
  rw [cutS_S]
  have e1 : HT.sIx b.length 0 (some (i : Int)) = min i b.length := HT.sIx_nat b.length 0 i
  have e2 : HT.sIx b.length b.length (some ((i + n : Nat) : Int)) = min (i + n) b.length := HT.sIx_nat b.length b.length (i + n)
  rw [e1, e2]
  congr 1
  by_cases h : i ≤ b.length
  · rw [Nat.min_eq_left h]
    by_cases h2 : i + n ≤ b.length
    · rw [Nat.min_eq_left h2, show i + n - i = n by omega]
    · rw [Nat.min_eq_right (by omega), List.take_of_length_le (by simp), List.take_of_length_le (by simp; omega)]
  · rw [List.drop_eq_nil_of_le (by omega), List.drop_eq_nil_of_le (by omega)]
    simp
theorem starts_dot (b : Bytes) : Txt.startswith (S b) (S [46]) = (b.head? == some 46) := by
  unfold Txt.startswith
  rw [PySem.StrLaws.subAt_eq, S_length, S_cps, S_length, S_cps]
  cases b with
  | nil => rfl
  | cons c r =>
    show (decide (0 + 1 ≤ r.length + 1) && ([c.toNat] == [(46 : UInt8).toNat])) = (some c == some 46)
    rw [decide_eq_true (by omega), Bool.true_and]
    by_cases h : c = 46
    · subst h; rfl
    · have h2 : ¬ c.toNat = (46 : UInt8).toNat := fun e => h (UInt8.toNat_inj.mp e)
      rw [beq_eq_false_iff_ne.mpr (by simpa using h2), beq_eq_false_iff_ne.mpr (by simpa using h)]
theorem ends_dot (b : Bytes) : Txt.endswith (S b) (S [46]) = (b.getLast? == some 46) := by
  unfold Txt.endswith
  rw [PySem.StrLaws.subAt_eq, S_length, S_cps, S_length, S_cps]
  cases hb : b.getLast? with
  | none =>
    have e : b = [] := by simpa using hb
    subst e; rfl
  | some c =>
    obtain ⟨r, e⟩ : ∃ r, b = r ++ [c] := by
      have hne : b ≠ [] := by rintro rfl; simp at hb
      refine ⟨b.dropLast, ?_⟩
      have e2 : b.getLast hne = c := by
        rw [List.getLast?_eq_some_getLast hne] at hb
        exact Option.some.inj hb
      rw [← e2, List.dropLast_concat_getLast]
    subst e
    have e1 : ([46] : Bytes).length = 1 := rfl
    have e3 : (List.drop ((r ++ [c]).length - 1) (List.map UInt8.toNat (r ++ [c]))).take 1 = [c.toNat] := by
      rw [List.map_append, List.length_append]
      simp
    rw [e1, e3]
    show (decide (0 + 1 ≤ (r ++ [c]).length) && ([c.toNat] == [(46 : UInt8).toNat])) = (some c == some 46)
    rw [decide_eq_true (by simp), Bool.true_and]
    by_cases h : c = 46
    · subst h; rfl
    · have h2 : ¬ c.toNat = (46 : UInt8).toNat := fun e => h (UInt8.toNat_inj.mp e)
      rw [beq_eq_false_iff_ne.mpr (by simpa using h2), beq_eq_false_iff_ne.mpr (by simpa using h)]
end Pw

set_option Elab.async false
set_option linter.all false
set_option maxRecDepth 100000
set_option maxHeartbeats 4000000
namespace Pw
open PySem PySem.Spec PyProof.Rows L2 Evl
open VahypBase (Bytes)
local macro_rules | `(tactic| trivial) => `(tactic| first
  | with_reducible exact ev_c
  | ((with_reducible apply ev_var); exact rfl)
  | with_reducible apply et_test
  | with_reducible apply et_B
  | with_reducible apply et_not
  | with_reducible exact rv_I0
  | with_reducible exact rv_isN
  | with_reducible exact rv_notN
  | with_reducible exact rv_in _
  | with_reducible exact rv_inF _
  | with_reducible exact rv_eq rfl
  | with_reducible exact rv_ne rfl
  | with_reducible exact ru_neg
  | with_reducible apply ev_chain
  | with_reducible apply ev_op
  | with_reducible apply ev_un
  | with_reducible exact ea_nil
  | with_reducible apply ea_cons
  | with_reducible exact eo_none
  | with_reducible apply eo_some
  | with_reducible assumption)
section
variable {P : Program} {w : World} {K : PySem.W.Frag} {mg : Str → Option Value} {base : Heap} {A : Ads}
def spSign : Sp := fun vs H Q _ => ∃ c : UInt8, vs = [.int (c.toNat : Int)] ∧ ∀ H2, Ex H H2 → Q (.str (S (if VahypBase.inChunk c = true then [c] else []))) H2
abbrev s_sign_of : Stmt := top 15
abbrev N_sign_of : List Str := ["byte"]
abbrev P_sign_of : List Str := ["byte"]
theorem sc_sign_of : FnScope N_sign_of P_sign_of (defScope s_sign_of) := ⟨rfl, rfl, rfl, by decide +kernel, rfl, by decide +kernel, by decide +kernel⟩
theorem ok_sign_of {f : Addr} {fd : FuncData} (F : Fun K "sign_of" "sign_of" s_sign_of f fd) (T : Txt K mg A) : FnOk P w K mg base CX0 1 f fd P_sign_of spSign := by
  refine F.ok sc_sign_of (fun vs H Q E h => ?_) (fun cdv A outer s H vs Q E hr h => ⟨_,
    (pss_cons (ps_if (pt_chain op_le op_le pe_int (pv 0) pe_int) (pss_one (ps_ret (pe_ix ix_str (pe_gs T.g_LETTERS rfl) (pe_op op_sub (pv 0) pe_int) (fun _ _ => rfl)))) pss_nil)
    (pss_cons (ps_if (pt_chain op_le op_le pe_int (pv 0) pe_int) (pss_one (ps_ret (pe_ix ix_str (pe_gs T.g_FIGURES rfl) (pe_op op_sub (pv 0) pe_int) (fun _ _ => rfl)))) pss_nil)
    (pss_cons (ps_if (pt_cmpR op_eq (pv 0) (pe_gi T.g_DASH rfl) (nomark _)) (pss_one (ps_ret pe_str)) pss_nil)
    (pss_one (ps_ret (pe_ifExp (pt_cmpR op_eq (pv 0) (pe_gi T.g_POINT rfl) (nomark _)) pe_str pe_str))))))
    , ?_⟩)
  · obtain ⟨c, rfl, _⟩ := h
    rfl
  · obtain ⟨c, rfl, k⟩ := h
    apply q_when
    · repeat' trivial
    · intro hb H1 e1
      have hl : VahypBase.isLetter c = true := by unfold VahypBase.isLetter; simp at hb ⊢; omega
      have hi : VahypBase.inChunk c = true := by unfold VahypBase.inChunk; rw [hl]; rfl
      rw [if_pos hi] at k
      refine s_ret (ev_op ev_c (by repeat' trivial) (rv_ixS (by decide +kernel) (at_letter hl))) fun H2 e2 => k H2 (e1.trans e2)
    intro hb H1 e1
    apply q_when
    · repeat' trivial
    · intro hc H2 e2
      have hl : VahypBase.isDigit c = true := by unfold VahypBase.isDigit; simp at hc ⊢; omega
      have hi : VahypBase.inChunk c = true := by unfold VahypBase.inChunk; rw [hl]; simp
      rw [if_pos hi] at k
      refine s_ret (ev_op ev_c (by repeat' trivial) (rv_ixS (by decide +kernel) (at_figure hl))) fun H3 e3 => k H3 ((e1.trans e2).trans e3)
    intro hc H2 e2
    have n1 : VahypBase.isLetter c = false := by unfold VahypBase.isLetter; simp at hb ⊢; omega
    have n2 : VahypBase.isDigit c = false := by unfold VahypBase.isDigit; simp at hc ⊢; omega
    have hi : VahypBase.inChunk c = (c == 45 || c == 46) := by unfold VahypBase.inChunk; rw [n1, n2]; rfl
    apply q_when
    · repeat' trivial
    · intro hd H3 e3
      have hx : c = 45 := by
        refine UInt8.toNat_inj.mp ?_
        simp at hd
        show c.toNat = 45
        omega
      subst hx
      refine s_ret ev_c fun H4 e4 => k H4 (((e1.trans e2).trans e3).trans e4)
    · intro hd H3 e3
      apply s_ret (v := .str (S (if VahypBase.inChunk c = true then [c] else []))) _ (fun H4 e4 => k H4 (((e1.trans e2).trans e3).trans e4))
      apply ev_if
      · repeat' trivial
      · intro hf
        have hx : c = 46 := by
          refine UInt8.toNat_inj.mp ?_
          simp at hf
          show c.toNat = 46
          omega
        subst hx
        exact ev_c
      · intro hf
        have h1 : (c == 45) = false := by
          rw [beq_nat]; simp at hd; exact decide_eq_false (show ¬ c.toNat = 45 by omega)
        have h2 : (c == 46) = false := by
          rw [beq_nat]; simp at hf; exact decide_eq_false (show ¬ c.toNat = 46 by omega)
        rw [hi, h1, h2]
        exact ev_c
end
end Pw

set_option Elab.async false
set_option linter.all false
set_option maxRecDepth 100000
set_option maxHeartbeats 4000000
namespace Pw
open PySem PySem.Spec PyProof.Rows L2 Evl
open VahypBase (Bytes inChunk)
local macro_rules | `(tactic| trivial) => `(tactic| first
  | with_reducible exact ev_c
  | ((with_reducible apply ev_var); exact rfl)
  | with_reducible apply et_test
  | with_reducible apply et_B
  | with_reducible apply et_not
  | with_reducible exact rv_I0
  | with_reducible exact rv_isN
  | with_reducible exact rv_notN
  | with_reducible exact rv_in _
  | with_reducible exact rv_inF _
  | with_reducible exact rv_eq rfl
  | with_reducible exact rv_ne rfl
  | with_reducible exact ru_neg
  | with_reducible apply ev_chain
  | with_reducible apply ev_op
  | with_reducible apply ev_un
  | with_reducible exact ea_nil
  | with_reducible apply ea_cons
  | with_reducible exact eo_none
  | with_reducible apply eo_some
  | with_reducible assumption)
theorem spv_sign (c : UInt8) (H : Hp) : SpV spSign [.int (c.toNat : Int)] H (.str (S (if inChunk c = true then [c] else []))) := fun _ _ _ q _ => ⟨c, rfl, q⟩
/-- the end of a run of bytes -/
def spEnd (K : PySem.W.Frag) (p : UInt8 → Bool) : Sp := fun vs H Q _ => ∃ (a : Addr) (b : Bytes) (n : Nat), vs = [.ref a, iv n] ∧ SqL K H a (bv b) ∧ n ≤ b.length ∧ ∀ H2, Ex H H2 → Q (iv (n + ((b.drop n).takeWhile p).length)) H2
theorem spv_end {K : PySem.W.Frag} {p : UInt8 → Bool} {a : Addr} {b : Bytes} {n : Nat} {H : Hp} (h : SqL K H a (bv b)) (hn : n ≤ b.length) : SpV (spEnd K p) [.ref a, iv n] H (iv (n + ((b.drop n).takeWhile p).length)) :=
  fun _ e _ q _ => ⟨a, b, n, rfl, ex_l e h, hn, q⟩
section
variable {P : Program} {w : World} {K : PySem.W.Frag} {mg : Str → Option Value} {base : Heap} {A : Ads}
/-- the loop that seeks the end -/
theorem rd_end {tc : TT} {a : Addr} {b : Bytes} {n : Nat} {p : UInt8 → Bool} {H : Hp} {Q : VK} (hS : SqL K H a (bv b)) (hn : n ≤ b.length) (k : ∀ H2, Ex H H2 → Q (iv (n + ((b.drop n).takeWhile p).length)) H2)
    (ht : ∀ j H1, Ex H H1 → j ≤ b.length → EvT tc [some (.ref a), some (iv n), some (iv j)] H1 (match b[j]? with | some c => p c | none => false)) :
    (tSeq (tAsg (tVar 1) (gName 2)) (tSeq (tWhile tc (tAsg (tOp (rI0 fun i j => V.int (i + j)) (tVar 2) (tC (.int 1))) (gName 2))) (tRet (tVar 2)))) { nx := fun _ H' => Q .non H', rt := Q } [some (.ref a), some (iv n), none] H := by
  apply q_asg
  · repeat' trivial
  intro H1 e1
  refine q_while (fun m σ' H' => ∃ j, m = b.length - j ∧ n ≤ j ∧ j ≤ b.length ∧ σ' = [some (.ref a), some (iv n), some (iv j)] ∧ Ex H H' ∧ ((b.drop n).take (j - n)).all p = true) (b.length - n) ⟨n, rfl, Nat.le_refl _, hn, rfl, e1, by simp⟩ ?_
  rintro m σ' H' ⟨j, rfl, h1, h2, rfl, e2, hall⟩
  refine ⟨_, ht j H' e2 h2, fun hb H3 e3 => ?_, fun hb H3 e3 => ?_⟩
  · cases hj : b[j]? with
    | none => rw [hj] at hb; cases hb
    | some c =>
      rw [hj] at hb
      have hlt : j < b.length := (List.getElem?_eq_some_iff.mp hj).1
      refine ⟨fun σ2 H2 => ∃ j', j < j' ∧ n ≤ j' ∧ j' ≤ b.length ∧ σ2 = [some (.ref a), some (iv n), some (iv j')] ∧ Ex H H2 ∧ ((b.drop n).take (j' - n)).all p = true, fun σ2 H2 ⟨j', q1, q2, q3, q4, q5, q6⟩ => ⟨_, by omega, j', rfl, q2, q3, q4, q5, q6⟩, ?_⟩
      apply s_asg
      · repeat' trivial
      intro H4 e4
      refine ⟨j + 1, by omega, by omega, by omega, rfl, (e2.trans e3).trans e4, ?_⟩
      have z := run_more (p := p) hj h1 hall
      rw [if_pos hb] at z
      exact z
  · apply s_ret
    · repeat' trivial
    intro H4 e4
    have fin : ((b.drop n).takeWhile p).length = j - n := by
      cases hj : b[j]? with
      | none =>
        have hl : b.length ≤ j := List.getElem?_eq_none_iff.mp hj
        have : j = b.length := by omega
        subst this
        exact run_end hn hall
      | some c =>
        rw [hj] at hb
        have hb : p c = false := hb
        have z := run_more (p := p) hj h1 hall
        rw [if_neg (by rw [hb]; decide)] at z
        exact z
    have z := k H4 ((e2.trans e3).trans e4)
    rw [fin, show n + (j - n) = j by omega] at z
    exact z
abbrev s_end_of_chunk : Stmt := top 16
abbrev N_end_of_chunk : List Str := ["text", "at", "end"]
abbrev P_end_of_chunk : List Str := ["text", "at"]
theorem sc_end_of_chunk : FnScope N_end_of_chunk P_end_of_chunk (defScope s_end_of_chunk) := ⟨rfl, rfl, rfl, by decide +kernel, rfl, by decide +kernel, by decide +kernel⟩
theorem ok_end_of_chunk {f : Addr} {fd : FuncData} (F : Fun K "end_of_chunk" "end_of_chunk" s_end_of_chunk f fd) (T : Txt K mg A) (f_sign_of : Cal P w K mg base CX0 1 "sign_of" P_sign_of spSign) :
    FnOk P w K mg base CX0 2 f fd P_end_of_chunk (spEnd K inChunk) := by
  refine F.ok sc_end_of_chunk (fun vs H Q E h => ?_) (fun cdv A outer s H vs Q E hr h => ⟨_,
    (pss_cons (ps_set (i := 2) sc_end_of_chunk.nd rfl (Or.inl rfl) (pv 1))
    (pss_cons (ps_while PassesOwn.never (PW.pt (pw_and (pt_cmpR op_lt (pv 2) (pe_callB cw_len (by rfl) T.n_len PySem.boot_len (pa_cons (pv 0) pa_nil)) (nomark _)) (pw_and1 (pt_cmpR op_ne (pe_callU f_sign_of (hr.mono (by decide)) rfl (fun _ => pz) (pa_cons (pe_ix ix_list (pv 0) (pv 2) (fun _ _ => rfl)) pa_nil)) pe_str (nomark _))))) (pss_one (ps_set (i := 2) sc_end_of_chunk.nd rfl (Or.inl rfl) (pe_op op_add (pv 2) pe_int))))
    (pss_one (ps_ret (pv 2)))))
    , ?_⟩)
  · obtain ⟨a, b, n, rfl, _⟩ := h
    rfl
  · obtain ⟨a, b, n, rfl, hS, hn, k⟩ := h
    refine rd_end hS hn k fun j H1 e1 hj => ?_
    cases hc : b[j]? with
    | none =>
      have hl : b.length ≤ j := List.getElem?_eq_none_iff.mp hc
      refine et_is (et_and (a := false) (b := false) (et_is (b := false) (et_test (ev_op (ev_var rfl) (ev_len (ev_var rfl) (ex_l e1 hS)) rv_I0)) ?_) fun z => by cases z) rfl
      rw [bv_length]
      exact decide_eq_false (by omega)
    | some c =>
      have hl : j < b.length := (List.getElem?_eq_some_iff.mp hc).1
      refine et_is (et_and (a := true) (et_is (b := true) (et_test (ev_op (ev_var rfl) (ev_len (ev_var rfl) (ex_l e1 hS)) rv_I0)) ?_) fun _ =>
        et_test (ev_op (ev_callU (ea_cons (ev_op (ev_var rfl) (ev_var rfl) (rv_ixL (ex_l e1 hS) (atI_nat (bv_get hc)))) ea_nil) (spv_sign c H1)) ev_c (rv_ne rfl))) ?_
      · rw [bv_length]
        exact decide_eq_true (by omega)
      · rw [lit_nil, dec_S]
        show (true && !decide _) = inChunk c
        cases h : inChunk c <;> simp
abbrev s_end_of_remark : Stmt := top 17
abbrev N_end_of_remark : List Str := ["text", "at", "end"]
abbrev P_end_of_remark : List Str := ["text", "at"]
theorem sc_end_of_remark : FnScope N_end_of_remark P_end_of_remark (defScope s_end_of_remark) := ⟨rfl, rfl, rfl, by decide +kernel, rfl, by decide +kernel, by decide +kernel⟩
theorem ok_end_of_remark {f : Addr} {fd : FuncData} (F : Fun K "end_of_remark" "end_of_remark" s_end_of_remark f fd) (T : Txt K mg A) :
    FnOk P w K mg base CX0 1 f fd P_end_of_remark (spEnd K (· != 10)) := by
  refine F.ok sc_end_of_remark (fun vs H Q E h => ?_) (fun cdv A outer s H vs Q E hr h => ⟨_,
    (pss_cons (ps_set (i := 2) sc_end_of_remark.nd rfl (Or.inl rfl) (pv 1))
    (pss_cons (ps_while PassesOwn.never (PW.pt (pw_and (pt_cmpR op_lt (pv 2) (pe_callB cw_len (by rfl) T.n_len PySem.boot_len (pa_cons (pv 0) pa_nil)) (nomark _)) (pw_and1 (pt_cmpR op_ne (pe_ix ix_list (pv 0) (pv 2) (fun _ _ => rfl)) (pe_gi T.g_LINE_END rfl) (nomark _))))) (pss_one (ps_set (i := 2) sc_end_of_remark.nd rfl (Or.inl rfl) (pe_op op_add (pv 2) pe_int))))
    (pss_one (ps_ret (pv 2)))))
    , ?_⟩)
  · obtain ⟨a, b, n, rfl, _⟩ := h
    rfl
  · obtain ⟨a, b, n, rfl, hS, hn, k⟩ := h
    refine rd_end hS hn k fun j H1 e1 hj => ?_
    cases hc : b[j]? with
    | none =>
      have hl : b.length ≤ j := List.getElem?_eq_none_iff.mp hc
      refine et_is (et_and (a := false) (b := false) (et_is (b := false) (et_test (ev_op (ev_var rfl) (ev_len (ev_var rfl) (ex_l e1 hS)) rv_I0)) ?_) fun z => by cases z) rfl
      rw [bv_length]
      exact decide_eq_false (by omega)
    | some c =>
      have hl : j < b.length := (List.getElem?_eq_some_iff.mp hc).1
      refine et_is (et_and (a := true) (et_is (b := true) (et_test (ev_op (ev_var rfl) (ev_len (ev_var rfl) (ex_l e1 hS)) rv_I0)) ?_) fun _ =>
        et_test (ev_op (ev_op (ev_var rfl) (ev_var rfl) (rv_ixL (ex_l e1 hS) (atI_nat (bv_get hc)))) ev_c (rv_ne rfl))) ?_
      · rw [bv_length]
        exact decide_eq_true (by omega)
      · show (true && !decide _) = (c != 10)
        rw [dec_int]
        show (true && !((c.toNat : Int) == 10)) = !(c == 10)
        rw [beq_nat, Bool.true_and]
        congr 1
        show _ = decide (c.toNat = 10)
        by_cases h : c.toNat = 10
        · rw [h]; rfl
        · rw [decide_eq_false h]
          exact beq_eq_false_iff_ne.mpr (by omega)
end
end Pw

set_option Elab.async false
set_option linter.all false
set_option maxRecDepth 100000
set_option maxHeartbeats 4000000
/-! # Lists of data in the heap: tokens, words, patterns -/
namespace Pw
open PySem PySem.Spec PyProof.Rows L2 Evl
open VahypBase (Bytes inChunk PTok Toks)
open Vahypa (Word Pat Lst)
def All2 {α : Type} (R : V → α → Prop) : List V → List α → Prop
  | [], [] => True
  | v :: vs, a :: l => R v a ∧ All2 R vs l
  | _, _ => False
section
variable {α : Type} {R R' : V → α → Prop}
theorem All2.mono (h : ∀ v a, R v a → R' v a) : ∀ {vs : List V} {l : List α}, All2 R vs l → All2 R' vs l
  | [], [], _ => trivial
  | _ :: _, _ :: _, x => ⟨h _ _ x.1, All2.mono h x.2⟩
  | [], _ :: _, x => x.elim
  | _ :: _, [], x => x.elim
theorem All2.length : ∀ {vs : List V} {l : List α}, All2 R vs l → vs.length = l.length
  | [], [], _ => rfl
  | _ :: _, _ :: _, x => by rw [List.length_cons, List.length_cons, All2.length x.2]
  | [], _ :: _, x => x.elim
  | _ :: _, [], x => x.elim
theorem All2.snoc {v : V} {a : α} (h : R v a) : ∀ {vs : List V} {l : List α}, All2 R vs l → All2 R (vs ++ [v]) (l ++ [a])
  | [], [], _ => ⟨h, trivial⟩
  | _ :: _, _ :: _, x => ⟨x.1, All2.snoc h x.2⟩
  | [], _ :: _, x => x.elim
  | _ :: _, [], x => x.elim
theorem All2.get : ∀ {vs : List V} {l : List α} {i : Nat} {v : V}, All2 R vs l → vs[i]? = some v → ∃ a, l[i]? = some a ∧ R v a
  | [], [], _, _, _, e => by simp at e
  | w :: _, a :: _, 0, v, x, e => by
    have : w = v := by simpa using e
    subst this
    exact ⟨a, rfl, x.1⟩
  | _ :: _, _ :: _, i + 1, v, x, e => by
    obtain ⟨a, h1, h2⟩ := All2.get (i := i) x.2 (by simpa using e)
    exact ⟨a, by simpa using h1, h2⟩
  | [], _ :: _, _, _, x, _ => x.elim
  | _ :: _, [], _, _, x, _ => x.elim
theorem All2.get' : ∀ {vs : List V} {l : List α} {i : Nat} {a : α}, All2 R vs l → l[i]? = some a → ∃ v, vs[i]? = some v ∧ R v a
  | [], [], _, _, _, e => by simp at e
  | w :: _, b :: _, 0, a, x, e => by
    have : b = a := by simpa using e
    subst this
    exact ⟨w, rfl, x.1⟩
  | _ :: _, _ :: _, i + 1, a, x, e => by
    obtain ⟨v, h1, h2⟩ := All2.get' (i := i) x.2 (by simpa using e)
    exact ⟨v, by simpa using h1, h2⟩
  | [], _ :: _, _, _, x, _ => x.elim
  | _ :: _, [], _, _, x, _ => x.elim
theorem All2.tail {vs : List V} {l : List α} (h : All2 R vs l) : All2 R vs.tail l.tail := by
  cases vs with
  | nil => cases l with
    | nil => trivial
    | cons => exact h.elim
  | cons => cases l with
    | nil => exact h.elim
    | cons => exact h.2
end
def tS : VahypBase.Tok → Str
  | .chunk b => S b
  | .sign c => S [UInt8.ofNat c]
  | .last => S []
/-- a token as a pair -/
def TokV (H : Hp) (v : V) (t : PTok) : Prop := ∃ a, v = .ref a ∧ H a = some (.tup [iv t.place, .str (tS t.tok)])
def TokOk (t : PTok) : Prop := (∃ b, t.tok = .chunk b ∧ b ≠ [] ∧ b.all inChunk = true ∧ b.length ≤ 40) ∨ t.tok = .sign 59
theorem TokV.mono {H H' : Hp} (e : Ex H H') {v : V} {t : PTok} (h : TokV H v t) : TokV H' v t := by
  obtain ⟨a, h1, h2⟩ := h
  exact ⟨a, h1, e a _ h2⟩
/-- a word, a pattern as a tuple -/
def WrdV (H : Hp) (v : V) (w : Word) : Prop := ∃ a c, v = .ref a ∧ H a = some (.tup [.str (S w.x), .ref c]) ∧ H c = some (.tup (nv w.cuts))
def PatV (H : Hp) (v : V) (p : Pat) : Prop := ∃ a d, v = .ref a ∧ H a = some (.tup [.str (S p.x), .ref d, .bl p.front, .bl p.halt_]) ∧ H d = some (.tup (nv p.levels))
theorem WrdV.mono {H H' : Hp} (e : Ex H H') {v : V} {w : Word} (h : WrdV H v w) : WrdV H' v w := by
  obtain ⟨a, c, h1, h2, h3⟩ := h
  exact ⟨a, c, h1, e a _ h2, e c _ h3⟩
theorem PatV.mono {H H' : Hp} (e : Ex H H') {v : V} {p : Pat} (h : PatV H v p) : PatV H' v p := by
  obtain ⟨a, d, h1, h2, h3⟩ := h
  exact ⟨a, d, h1, e a _ h2, e d _ h3⟩
/-- what is true of words and patterns that were read -/
structure WOk (w : Word) : Prop where
  l2 : 2 ≤ w.x.length
  l16 : w.x.length ≤ 16
  let_ : w.x.all VahypBase.isLetter = true
  inc : w.cuts.Nodup
  cut : ∀ c ∈ w.cuts, 1 ≤ c ∧ c < w.x.length
structure POk (p : Pat) : Prop where
  l1 : 1 ≤ p.x.length
  l6 : p.x.length ≤ 6
  let_ : p.x.all VahypBase.isLetter = true
  lv : p.levels.length = p.x.length + 1
  l9 : ∀ v ∈ p.levels, v ≤ 9
structure LOk (s : Lst) : Prop where
  l5 : s.l ≤ 5
  r5 : s.r ≤ 5
  w24 : s.words.length ≤ 24
  p40 : s.pats.length ≤ 40
  ws : ∀ w ∈ s.words, WOk w
  ps : ∀ p ∈ s.pats, POk p
/-- a list as it lies in the heap -/
structure LstAt (A : Ads) (H : Hp) (a : Addr) (s : Lst) : Prop where
  ex : ∃ dx wa pa wv pv, H a = some (.ins A.L dx [("left", iv s.l), ("right", iv s.r), ("words", .ref wa), ("patterns", .ref pa)]) ∧ H wa = some (.lst wv) ∧ All2 (WrdV H) wv s.words ∧ H pa = some (.lst pv) ∧ All2 (PatV H) pv s.pats
  ok : LOk s
theorem LstAt.mono {A : Ads} {H H' : Hp} {a : Addr} {s : Lst} (e : Ex H H') (h : LstAt A H a s) : LstAt A H' a s := by
  obtain ⟨⟨dx, wa, pa, wv, pv, h1, h2, h3, h4, h5⟩, ok⟩ := h
  exact ⟨⟨dx, wa, pa, wv, pv, e _ _ h1, e _ _ h2, h3.mono fun _ _ => WrdV.mono e, e _ _ h4, h5.mono fun _ _ => PatV.mono e⟩, ok⟩
/-- a reader that stands before the tokens l -/
def RdrAt (A : Ads) (H : Hp) (r : Addr) (l : Toks) : Prop := ∃ (dx ta : Addr) (tv : List V) (n e : Nat) (l' : Toks), H r = some (.ins A.R dx [("tokens", .ref ta), ("at", iv n), ("end", iv e)]) ∧ H ta = some (.lst tv) ∧ n ≤ tv.length ∧
  All2 (TokV H) (tv.drop n) l' ∧ l = l' ++ [⟨e, .last⟩] ∧ (∀ t ∈ l', TokOk t) ∧ tv.length ≤ 40000
theorem RdrAt.mono {A : Ads} {H H' : Hp} {r : Addr} {l : Toks} (e : Ex H H') (h : RdrAt A H r l) : RdrAt A H' r l := by
  obtain ⟨dx, ta, tv, n, en, l', h1, h2, h3, h4, h5⟩ := h
  exact ⟨dx, ta, tv, n, en, l', e _ _ h1, e _ _ h2, h3, h4.mono fun _ _ => TokV.mono e, h5⟩
/-- all but what stands at r is as it was -/
def ExB (r : Addr) (H H' : Hp) : Prop := (∀ b o, b ≠ r → H b = some o → H' b = some o) ∧ ∀ (C dx : Addr) (x : Str × V) (fs : List (Str × V)), H r = some (.ins C dx (x :: fs)) → ∃ fs', H' r = some (.ins C dx (x :: fs'))
theorem ExB.of {H H' : Hp} {r : Addr} (e : Ex H H') : ExB r H H' := ⟨fun b o _ h => e b o h, fun _ _ _ _ h => ⟨_, e _ _ h⟩⟩
theorem ExB.trans {H H1 H2 : Hp} {r : Addr} (a : ExB r H H1) (b : ExB r H1 H2) : ExB r H H2 := ⟨fun c o n h => b.1 c o n (a.1 c o n h), fun C dx x fs h => by
  obtain ⟨fs1, h1⟩ := a.2 C dx x fs h
  exact b.2 C dx x fs1 h1⟩
theorem ExB.refl {H : Hp} {r : Addr} : ExB r H H := ⟨fun _ _ _ h => h, fun _ _ _ _ h => ⟨_, h⟩⟩
theorem ExB.upd {H H' : Hp} {r C dx : Addr} {x : Str × V} {fs fs0 : List (Str × V)} (e : ExB r H H') (h0 : H r = some (.ins C dx (x :: fs0))) : ExB r H (upd H' r (.ins C dx (x :: fs))) := ⟨fun b u n h => by
  rw [upd_ne n]; exact e.1 b u n h, fun C' dx' x' fs' h => by
  rw [h0] at h
  cases h
  exact ⟨_, upd_same⟩⟩
theorem ExB.mut {H H' : Hp} {r g : Addr} {o : HO} (e : ExB r H H') (n : H g = none) (ng : g ≠ r) : ExB r H (L2.upd H' g o) := ⟨fun b u nb h => by
  rw [upd_ne (ne_of_none h n)]; exact e.1 b u nb h, fun C dx x fs h => by
  rw [upd_ne (Ne.symm ng)]
  exact e.2 C dx x fs h⟩
def ExO (r : Addr) (H H' : Hp) : Prop := ∀ b o, b ≠ r → H b = some o → H' b = some o
theorem ExO.of {H H' : Hp} {r : Addr} (e : Ex H H') : ExO r H H' := fun b o _ h => e b o h
theorem ExO.refl {H : Hp} {r : Addr} : ExO r H H := fun _ _ _ h => h
theorem ExO.upd {H H' : Hp} {r : Addr} {o : HO} (e : ExO r H H') : ExO r H (L2.upd H' r o) := fun b u n h => by
  rw [upd_ne n]; exact e b u n h
theorem ExO.trans {H H1 H2 : Hp} {r : Addr} (a : ExO r H H1) (b : ExO r H1 H2) : ExO r H H2 := fun c o n h => b c o n (a c o n h)
theorem ExO.ex {H H1 H' : Hp} {r : Addr} (e0 : Ex H H1) (n : H r = none) (e : ExO r H1 H') : Ex H H' := fun b o h => e b o (ne_of_none h n) (e0 b o h)
/-- where r was not tracked -/
theorem ExB.ex {H H1 H' : Hp} {r : Addr} (e0 : Ex H H1) (n : H r = none) (e : ExB r H1 H') : Ex H H' := fun b o h => e.1 b o (ne_of_none h n) (e0 b o h)
theorem cutV_bv (b : Bytes) (i n : Nat) (h : i + n ≤ b.length) : cutV (bv b) (some (i : Int)) (some ((i + n : Nat) : Int)) = bv ((b.drop i).take n) := by
  unfold cutV
  rw [bv_length]
  have e1 : HT.sIx b.length 0 (some (i : Int)) = min i b.length := HT.sIx_nat b.length 0 i
  have e2 : HT.sIx b.length b.length (some ((i + n : Nat) : Int)) = min (i + n) b.length := HT.sIx_nat b.length b.length (i + n)
  rw [e1, e2, Nat.min_eq_left (show i ≤ b.length by omega), Nat.min_eq_left h, show i + n - i = n by omega]
  unfold bv
  rw [List.map_take, List.map_drop]
/-- the reader, where another list was changed -/
theorem RdrAt.app {A : Ads} {H : Hp} {r g C dx ta : Addr} {l : Toks} {xs ys : List V} {fs : List (Str × V)} (h : RdrAt A H r l) (hr : H r = some (.ins C dx (("tokens", .ref ta) :: fs))) (nt : ta ≠ g) (hg : H g = some (.lst xs)) : RdrAt A (upd H g (.lst ys)) r l := by
  obtain ⟨dx, ta', tv, n, en, l', h1, h2, h3, h4, h5⟩ := h
  have nr : r ≠ g := fun z => by rw [z, hg] at h1; cases h1
  have e : ta' = ta := by
    rw [hr] at h1
    cases h1
    rfl
  subst e
  refine ⟨dx, ta', tv, n, en, l', by rw [upd_ne nr]; exact h1, by rw [upd_ne nt]; exact h2, h3, h4.mono fun v t => ?_, h5⟩
  rintro ⟨x, q1, q2⟩
  have nx : x ≠ g := fun z => by rw [z, hg] at q2; cases q2
  exact ⟨x, q1, by rw [upd_ne nx]; exact q2⟩
theorem RdrAt.tk {A : Ads} {H : Hp} {r : Addr} {l : Toks} (h : RdrAt A H r l) : ∃ (dx ta : Addr) (tv : List V) (fs : List (Str × V)), H r = some (.ins A.R dx (("tokens", .ref ta) :: fs)) ∧ H ta = some (.lst tv) := by
  obtain ⟨dx, ta', tv, n, en, l', h1, h2, _⟩ := h
  exact ⟨_, _, _, _, h1, h2⟩
theorem WrdV.app {H : Hp} {g : Addr} {xs ys : List V} (hg : H g = some (.lst xs)) {v : V} {w : Word} (h : WrdV H v w) : WrdV (upd H g (.lst ys)) v w := by
  obtain ⟨a, c, h1, h2, h3⟩ := h
  have n1 : a ≠ g := fun z => by rw [z, hg] at h2; cases h2
  have n2 : c ≠ g := fun z => by rw [z, hg] at h3; cases h3
  exact ⟨a, c, h1, by rw [upd_ne n1]; exact h2, by rw [upd_ne n2]; exact h3⟩
theorem PatV.app {H : Hp} {g : Addr} {xs ys : List V} (hg : H g = some (.lst xs)) {v : V} {p : Pat} (h : PatV H v p) : PatV (upd H g (.lst ys)) v p := by
  obtain ⟨a, c, h1, h2, h3⟩ := h
  have n1 : a ≠ g := fun z => by rw [z, hg] at h2; cases h2
  have n2 : c ≠ g := fun z => by rw [z, hg] at h3; cases h3
  exact ⟨a, c, h1, by rw [upd_ne n1]; exact h2, by rw [upd_ne n2]; exact h3⟩
theorem WrdV.exB {H H' : Hp} {r C dx : Addr} {fs : List (Str × V)} (e : ExB r H H') (hr : H r = some (.ins C dx fs)) {v : V} {w : Word} (h : WrdV H v w) : WrdV H' v w := by
  obtain ⟨a, c, h1, h2, h3⟩ := h
  have n1 : a ≠ r := fun z => by rw [z, hr] at h2; cases h2
  have n2 : c ≠ r := fun z => by rw [z, hr] at h3; cases h3
  exact ⟨a, c, h1, e.1 a _ n1 h2, e.1 c _ n2 h3⟩
theorem PatV.exB {H H' : Hp} {r C dx : Addr} {fs : List (Str × V)} (e : ExB r H H') (hr : H r = some (.ins C dx fs)) {v : V} {p : Pat} (h : PatV H v p) : PatV H' v p := by
  obtain ⟨a, c, h1, h2, h3⟩ := h
  have n1 : a ≠ r := fun z => by rw [z, hr] at h2; cases h2
  have n2 : c ≠ r := fun z => by rw [z, hr] at h3; cases h3
  exact ⟨a, c, h1, e.1 a _ n1 h2, e.1 c _ n2 h3⟩
end Pw

set_option Elab.async false
set_option linter.all false
set_option maxRecDepth 100000
set_option maxHeartbeats 4000000
namespace Pw
open PySem PySem.Spec PyProof.Rows L2 Evl
open VahypBase (Bytes inChunk isLetter lex Toks)
local macro_rules | `(tactic| trivial) => `(tactic| first
  | with_reducible exact ev_c
  | ((with_reducible apply ev_var); exact rfl)
  | with_reducible apply et_test
  | with_reducible apply et_B
  | with_reducible apply et_not
  | with_reducible exact rv_I0
  | with_reducible exact rv_isN
  | with_reducible exact rv_notN
  | with_reducible exact rv_in _
  | with_reducible exact rv_inF _
  | with_reducible exact rv_eq rfl
  | with_reducible exact rv_ne rfl
  | with_reducible exact ru_neg
  | with_reducible apply ev_chain
  | with_reducible apply ev_op
  | with_reducible apply ev_un
  | with_reducible exact ea_nil
  | with_reducible apply ea_cons
  | with_reducible exact eo_none
  | with_reducible apply eo_some
  | with_reducible assumption)
theorem map_sing (l : Bytes) : (l.filter fun _ => true).map (fun c => V.str (S [c])) = ((l.map fun c => [c]).map S).map V.str := by
  rw [filter_yes, List.map_map, List.map_map]; rfl
theorem flat_sing : ∀ l : Bytes, (l.map fun c => [c]).flatten = l
  | [] => rfl
  | c :: r => by rw [List.map_cons, List.flatten_cons, flat_sing r]; rfl
theorem join_sing (l : Bytes) : Txt.join (S []) ((l.map fun c => [c]).map S) = S l := by rw [join_nil, flat_sing]
theorem sum_sing (l : Bytes) : (((l.map fun c => [c]).map S).map (·.length)).sum = l.length := by rw [sum_S, flat_sing]
def spChunk (K : PySem.W.Frag) (A : Ads) : Sp := fun vs H Q E => ∃ (a : Addr) (b : Bytes) (n L : Nat), vs = [.ref a, iv n, iv (n + L)] ∧ SqL K H a (bv b) ∧ n + L ≤ b.length ∧ ((b.drop n).take L).all inChunk = true ∧
  (40 < L → Flt A 2 n H E) ∧ (L ≤ 40 → ∀ H2, Ex H H2 → Q (.str (S ((b.drop n).take L))) H2)
def spToks (K : PySem.W.Frag) (A : Ads) : Sp := fun vs H Q E => ∃ (a : Addr) (b : Bytes), vs = [.ref a] ∧ SqL K H a (bv b) ∧ b.length ≤ 40000 ∧ (∀ f, lex (b.length + 1) 0 b = .error f → Flt A f.code f.place H E) ∧
  (∀ l', lex (b.length + 1) 0 b = .ok (l' ++ [⟨b.length, .last⟩]) → (∀ t ∈ l', TokOk t) → ∀ p H2 tv, H p = none → Ex H H2 → H2 p = some (.lst tv) → All2 (TokV H2) tv l' → tv.length ≤ b.length → Q (.ref p) H2)
def spBytes : Sp := fun vs H Q _ => ∃ b : Bytes, vs = [.str (S b)] ∧ b.length ≤ 40000 ∧ RetL (bv b) H Q
def spLetters (K : PySem.W.Frag) : Sp := fun vs H Q _ => ∃ (a : Addr) (b : Bytes), vs = [.ref a] ∧ SqL K H a (bv b) ∧ b.length ≤ 40000 ∧ RetV (if b.all isLetter = true then .str (S b) else .non) H Q
section
variable {P : Program} {w : World} {K : PySem.W.Frag} {mg : Str → Option Value} {base : Heap} {A : Ads}
abbrev s_chunk_at : Stmt := top 18
abbrev N_chunk_at : List Str := ["text", "at", "end", "byte"]
abbrev P_chunk_at : List Str := ["text", "at", "end"]
theorem sc_chunk_at : FnScope N_chunk_at P_chunk_at (defScope s_chunk_at) := ⟨rfl, rfl, rfl, by decide +kernel, rfl, by decide +kernel, by decide +kernel⟩
theorem ok_chunk_at {f : Addr} {fd : FuncData} (F : Fun K "chunk_at" "chunk_at" s_chunk_at f fd) (T : Txt K mg A) (f_sign_of : Cal P w K mg base CX0 1 "sign_of" P_sign_of spSign) (x_Fault : Xcl P w K mg base 1 A.F "Fault" ["self", "code", "place"] (spFault A)) :
    FnOk P w K mg base (L2.CX P w) 3 f fd P_chunk_at (spChunk K A) := by
  refine F.okX sc_chunk_at (fun vs H Q E h => ?_) (fun cdv A outer s H vs Q E hr h => ⟨_,
    (pss_cons (ps_if (pt_cmpR op_gt (pe_op op_sub (pv 2) (pv 1)) (pe_gi T.g_MOST_CHUNK rfl) (nomark _)) (pss_one (ps_raise rfl (takes_of rfl rfl rfl rfl) (pmk_U x_Fault (hr.mono (by decide)) (by rfl) (pa_cons (pe_gi T.g_NO_TOKEN rfl) (pa_cons (pv 1) pa_nil))))) pss_nil)
    (pss_one (ps_ret (pe_m1 PySem.F.slot_str_join PySem.F.type_str_join mw_join pe_str (pe_lc rfl sc_chunk_at.nd (pi_list (pe_slice sl_list (pv 0) (po_some (pv 1)) (po_some (pv 2)))) (blkOk_by (own := [("byte", 3)]) (N := N_chunk_at) (sc := defScope s_chunk_at) (by decide +kernel)) (fun _ _ _ _ _ => (pg_name (i := 3) sc_chunk_at.nd rfl (Or.inl rfl))) (fun _ _ _ _ _ => pts_nil) (fun _ _ _ _ _ => (pe_callU f_sign_of (hr.mono (by decide)) rfl (fun _ => pz) (pa_cons (pv 3) pa_nil))))))))
    , ?_⟩)
  · obtain ⟨a, b, n, L, rfl, _⟩ := h
    rfl
  · obtain ⟨a, b, n, L, rfl, hS, hL, hall, k1, k2⟩ := h
    apply q_when
    · repeat' trivial
    · intro hb H1 e1
      refine rd_fault (c := 2) (p := n) ?_ (k1 (by simp at hb; omega) |>.mono e1)
      repeat' trivial
    · intro hb H1 e1
      have h40 : L ≤ 40 := by simp at hb; omega
      apply s_ret
      · refine ev_join (sep := S []) (ys := (((b.drop n).take L).map fun c => [c]).map S) (by rw [← lit_nil]; exact ev_c) ?_ ?_
        · rw [← map_sing]
          refine el_lcN ((b.drop n).take L) (fun c => V.int (c.toNat : Int)) (fun _ => true) (fun c => V.str (S [c])) ?_ (by simp; omega) (fun x => rfl) (fun _ _ _ _ => et_yes) (fun c H' hc ex _ => ?_)
          · have z := el_sl (K := K) (σ := [some (.ref a), some (iv n), some (iv (n + L)), none]) (te := tVar 0) (tl := tPart (tVar 1)) (th := tPart (tVar 2)) (ev_var rfl) (eo_some (ev_var rfl)) (eo_some (ev_var rfl)) (ex_l e1 hS)
            rw [cutV_bv b n L hL] at z
            exact z
          · have hi : inChunk c = true := List.all_eq_true.mp hall c hc
            have z := spv_sign c H'
            rw [if_pos hi] at z
            exact ev_callU (ea_cons (ev_var rfl) ea_nil) z
        · rw [sum_sing, S_length]; simp; omega
      · intro H2 e2
        rw [join_sing]
        exact k2 h40 H2 (e1.trans e2)
abbrev s_bytes_of : Stmt := top 20
abbrev N_bytes_of : List Str := ["text", "sign"]
abbrev P_bytes_of : List Str := ["text"]
theorem sc_bytes_of : FnScope N_bytes_of P_bytes_of (defScope s_bytes_of) := ⟨rfl, rfl, rfl, by decide +kernel, rfl, by decide +kernel, by decide +kernel⟩
theorem ok_bytes_of {f : Addr} {fd : FuncData} (F : Fun K "bytes_of" "bytes_of" s_bytes_of f fd) (T : Txt K mg A) : FnOk P w K mg base CX0 1 f fd P_bytes_of spBytes := by
  refine F.ok sc_bytes_of (fun vs H Q E h => ?_) (fun cdv A outer s H vs Q E hr h => ⟨_,
    (pss_one (ps_ret (pe_lc rfl sc_bytes_of.nd (pi_str (pv 0)) (blkOk_by (own := [("sign", 1)]) (N := N_bytes_of) (sc := defScope s_bytes_of) (by decide +kernel)) (fun _ _ _ _ _ => (pg_name (i := 1) sc_bytes_of.nd rfl (Or.inl rfl))) (fun _ _ _ _ _ => pts_nil) (fun _ _ _ _ _ => (pe_callB cw_ord (by rfl) T.n_ord (by decide +kernel) (pa_cons (pv 1) pa_nil))))))
    , ?_⟩)
  · obtain ⟨b, rfl, _⟩ := h
    rfl
  · obtain ⟨b, rfl, hz, k⟩ := h
    refine s_retL (xs := bv b) ?_ fun p H1 n e q => k p H1 n e q
    have z := el_lcS (σ := [some (.str (S b)), none]) (H := H) (tl := tVar 0) (t := tYes) (te := tCB rOrd (tCons (tVar 1) tNil)) (j := 1) (vs := [1]) b (fun _ => true) (fun c => V.int (c.toNat : Int)) (ev_var rfl) hz (fun x => rfl) (fun _ _ _ _ => et_yes) (fun c H' _ _ _ => ev_ord (ev_var rfl))
    rw [filter_yes] at z
    exact z
abbrev s_letters_in : Stmt := top 21
abbrev N_letters_in : List Str := ["row", "byte"]
abbrev P_letters_in : List Str := ["row"]
theorem sc_letters_in : FnScope N_letters_in P_letters_in (defScope s_letters_in) := ⟨rfl, rfl, rfl, by decide +kernel, rfl, by decide +kernel, by decide +kernel⟩
theorem ok_letters_in {f : Addr} {fd : FuncData} (F : Fun K "letters_in" "letters_in" s_letters_in f fd) (T : Txt K mg A) : FnOk P w K mg base CX0 1 f fd P_letters_in (spLetters K) := by
  refine F.ok sc_letters_in (fun vs H Q E h => ?_) (fun cdv A outer s H vs Q E hr h => ⟨_,
    (pss_cons (ps_if (pt_not (pt_val (pe_callB (cr_all rfl) (by rfl) T.n_all (by decide +kernel) (pa_cons (pe_lc rfl sc_letters_in.nd (pi_list (pv 0)) (blkOk_by (own := [("byte", 1)]) (N := N_letters_in) (sc := defScope s_letters_in) (by decide +kernel)) (fun _ _ _ _ _ => (pg_name (i := 1) sc_letters_in.nd rfl (Or.inl rfl))) (fun _ _ _ _ _ => pts_nil) (fun _ _ _ _ _ => (pe_chain op_le op_le pe_int (pv 1) pe_int))) pa_nil)))) (pss_one (ps_ret pe_non)) pss_nil)
    (pss_one (ps_ret (pe_m1 PySem.F.slot_str_join PySem.F.type_str_join mw_join pe_str (pe_lc rfl sc_letters_in.nd (pi_list (pv 0)) (blkOk_by (own := [("byte", 1)]) (N := N_letters_in) (sc := defScope s_letters_in) (by decide +kernel)) (fun _ _ _ _ _ => (pg_name (i := 1) sc_letters_in.nd rfl (Or.inl rfl))) (fun _ _ _ _ _ => pts_nil) (fun _ _ _ _ _ => (pe_ix ix_str (pe_gs T.g_LETTERS rfl) (pe_op op_sub (pv 1) pe_int) (fun _ _ => rfl))))))))
    , ?_⟩)
  · obtain ⟨a, b, rfl, _⟩ := h
    rfl
  · obtain ⟨a, b, rfl, hS, hz, k⟩ := h
    have hall : (b.map isLetter).all id = b.all isLetter := by rw [List.all_map]; rfl
    refine q_when (b := !b.all isLetter) (et_is (et_not (et_B (ev_all (bs := b.map isLetter) ?_))) (by rw [hall])) (fun hb H1 e1 => ?_) (fun hb H1 e1 => ?_)
    · have z := el_lcL (K := K) (σ := [some (.ref a), none]) (H := H) (tl := tVar 0) (t := tYes) (j := 1) (vs := [1]) b (fun c => V.int (c.toNat : Int)) (fun _ => true) (fun c => V.bl (isLetter c)) (ev_var rfl) hS hz (fun x => rfl) (fun _ _ _ _ => et_yes)
        (te := tChain (rI0 fun i j => V.bl (decide (i ≤ j))) (rI0 fun i j => V.bl (decide (i ≤ j))) (tC (.int 97)) (tVar 1) (tC (.int 122))) (fun c H' _ _ _ => ev_is (ev_chain ev_c (ev_var rfl) ev_c) (by
          congr 1
          unfold VahypBase.isLetter
          rw [← Bool.decide_and]
          exact decide_eq_decide.mpr (by omega)))
      rw [filter_yes] at z
      rw [List.map_map]
      exact z
    · have h0 : b.all isLetter = false := by simpa using hb
      rw [if_neg (by rw [h0]; decide)] at k
      exact s_ret ev_c fun H2 e2 => k H2 (e1.trans e2)
    · have h0 : b.all isLetter = true := by simpa using hb
      rw [if_pos h0] at k
      apply s_ret
      · refine ev_join (sep := S []) (ys := (b.map fun c => [c]).map S) (by rw [← lit_nil]; exact ev_c) ?_ ?_
        · rw [← map_sing]
          refine el_lcL b (fun c => V.int (c.toNat : Int)) (fun _ => true) (fun c => V.str (S [c])) (ev_var rfl) (ex_l e1 hS) hz (fun x => rfl) (fun _ _ _ _ => et_yes) (fun c H' hc ex _ => ?_)
          exact ev_op ev_c (ev_op (ev_var rfl) ev_c rv_I0) (rv_ixS (by decide +kernel) (at_letter (List.all_eq_true.mp h0 c hc)))
        · rw [sum_sing, S_length]; simp; omega
      · intro H2 e2
        rw [join_sing]
        exact k H2 (e1.trans e2)
end
end Pw

set_option Elab.async false
set_option linter.all false
set_option maxRecDepth 100000
set_option maxHeartbeats 4000000
namespace Pw
open PySem PySem.Spec PyProof.Rows L2 Evl
open VahypBase (Bytes inChunk isLetter lex Toks isBlank PTok)
local macro_rules | `(tactic| trivial) => `(tactic| first
  | with_reducible exact ev_c
  | ((with_reducible apply ev_var); exact rfl)
  | with_reducible apply et_test
  | with_reducible apply et_B
  | with_reducible apply et_not
  | with_reducible exact rv_I0
  | with_reducible exact rv_isN
  | with_reducible exact rv_notN
  | with_reducible exact rv_in _
  | with_reducible exact rv_inF _
  | with_reducible exact rv_eq rfl
  | with_reducible exact rv_ne rfl
  | with_reducible exact ru_neg
  | with_reducible apply ev_chain
  | with_reducible apply ev_op
  | with_reducible apply ev_un
  | with_reducible exact ea_nil
  | with_reducible apply ea_cons
  | with_reducible exact eo_none
  | with_reducible apply eo_some
  | with_reducible assumption)
theorem map_cat {l1 l2 : Toks} {x : Except VahypBase.Fault Toks} : (x.map (l2 ++ ·)).map (l1 ++ ·) = x.map ((l1 ++ l2) ++ ·) := by
  cases x with
  | error f => rfl
  | ok l => show Except.ok (l1 ++ (l2 ++ l)) = Except.ok (l1 ++ l2 ++ l); rw [List.append_assoc]
section
variable {P : Program} {w : World} {K : PySem.W.Frag} {mg : Str → Option Value} {base : Heap} {A : Ads}
/-- where tokens_of stands: at j, the tokens l' told -/
structure TkAt (K : PySem.W.Frag) (H : Hp) (a : Addr) (b : Bytes) (q : Addr) (H' : Hp) (j : Nat) (tv : List V) (l' : Toks) (n : Nat) : Prop where
  le : j ≤ b.length
  nq : H q = none
  ex : Ex H H'
  at_ : H' q = some (.lst tv)
  tks : All2 (TokV H') tv l'
  ok : ∀ t ∈ l', TokOk t
  len : tv.length ≤ j
  fuel : b.length - j < n
  lx : lex (b.length + 1) 0 b = (lex n j (b.drop j)).map (l' ++ ·)
abbrev s_tokens_of : Stmt := top 19
abbrev N_tokens_of : List Str := ["text", "found", "at", "end"]
abbrev P_tokens_of : List Str := ["text"]
theorem sc_tokens_of : FnScope N_tokens_of P_tokens_of (defScope s_tokens_of) := ⟨rfl, rfl, rfl, by decide +kernel, rfl, by decide +kernel, by decide +kernel⟩
theorem ok_tokens_of {f : Addr} {fd : FuncData} (F : Fun K "tokens_of" "tokens_of" s_tokens_of f fd) (T : Txt K mg A) (x_Fault : Xcl P w K mg base 1 A.F "Fault" ["self", "code", "place"] (spFault A))
    (f_end_of_chunk : Cal P w K mg base CX0 2 "end_of_chunk" P_end_of_chunk (spEnd K inChunk)) (f_end_of_remark : Cal P w K mg base CX0 1 "end_of_remark" P_end_of_remark (spEnd K (· != 10)))
    (f_chunk_at : Cal P w K mg base (L2.CX P w) 3 "chunk_at" P_chunk_at (spChunk K A)) :
    FnOk P w K mg base (L2.CX P w) 4 f fd P_tokens_of (spToks K A) := by
  refine F.okX sc_tokens_of (fun vs H Q E h => ?_) (fun cdv A' outer s H vs Q E hr h => ⟨_,
    have pOwn := passes_of rfl
    (pss_cons (ps_set (i := 1) sc_tokens_of.nd rfl (Or.inl rfl) (pe_lst pa_nil))
    (pss_cons (ps_set (i := 2) sc_tokens_of.nd rfl (Or.inl rfl) pe_int)
    (pss_cons (ps_while pOwn (pt_cmpR op_lt (pv 2) (pe_callB cw_len (by rfl) T.n_len PySem.boot_len (pa_cons (pv 0) pa_nil)) (nomark _)) (pss_cons (ps_set (i := 3) sc_tokens_of.nd rfl (Or.inl rfl) (pe_callU f_end_of_chunk (hr.mono (by decide)) rfl (fun _ => pz) (pa_cons (pv 0) (pa_cons (pv 2) pa_nil))))
    (pss_cons (ps_if (pt_cmpR op_gt (pv 3) (pv 2) (nomark _)) (pss_one (ps_expr (pe_bm PySem.F.plainAttrs_list PySem.F.slot_list_append PySem.F.type_list_append mt_append (pv 1) (pa_cons (pe_tup (pa_cons (pv 2) (pa_cons (pe_callU f_chunk_at (hr.mono (by decide)) rfl (fun q => passAt (takes_of rfl rfl rfl rfl) q) (pa_cons (pv 0) (pa_cons (pv 2) (pa_cons (pv 3) pa_nil)))) pa_nil))) pa_nil)))) (pss_one (ps_if (pt_cmpR op_eq (pe_ix ix_list (pv 0) (pv 2) (fun _ _ => rfl)) (pe_gi T.g_SEMICOLON rfl) (nomark _)) (pss_cons (ps_expr (pe_bm PySem.F.plainAttrs_list PySem.F.slot_list_append PySem.F.type_list_append mt_append (pv 1) (pa_cons (pe_tup (pa_cons (pv 2) (pa_cons (pe_gs T.g_END_SIGN rfl) pa_nil))) pa_nil)))
    (pss_one (ps_set (i := 3) sc_tokens_of.nd rfl (Or.inl rfl) (pe_op op_add (pv 2) pe_int)))) (pss_one (ps_if (pt_cmpR op_eq (pe_ix ix_list (pv 0) (pv 2) (fun _ _ => rfl)) (pe_gi T.g_REMARK rfl) (nomark _)) (pss_one (ps_set (i := 3) sc_tokens_of.nd rfl (Or.inl rfl) (pe_callU f_end_of_remark (hr.mono (by decide)) rfl (fun _ => pz) (pa_cons (pv 0) (pa_cons (pv 2) pa_nil))))) (pss_one (ps_if (pt_cmpR op_in_seq (pe_ix ix_list (pv 0) (pv 2) (fun _ _ => rfl)) (pe_gt T.g_BLANKS rfl) (by rfl)) (pss_one (ps_set (i := 3) sc_tokens_of.nd rfl (Or.inl rfl) (pe_op op_add (pv 2) pe_int))) (pss_one (ps_raise rfl (takes_of rfl rfl rfl rfl) (pmk_U x_Fault (hr.mono (by decide)) (by rfl) (pa_cons (pe_gi T.g_NO_TOKEN rfl) (pa_cons (pv 2) pa_nil))))))))))))
    (pss_one (ps_set (i := 2) sc_tokens_of.nd rfl (Or.inl rfl) (pv 3))))))
    (pss_one (ps_ret (pv 1))))))
    , ?_⟩)
  · obtain ⟨a, b, rfl, _⟩ := h
    rfl
  · obtain ⟨a, b, rfl, hS, hz, kf, kt⟩ := h
    refine q_asgL (xs := []) (el_lst ea_nil (by simp)) fun q H1 nq e1 hq => ?_
    apply q_asg
    · repeat' trivial
    intro H2 e2
    refine q_while (fun m σ' H' => ∃ j tv l' n v, m = b.length - j ∧ σ' = [some (.ref a), some (.ref q), some (iv j), v] ∧ TkAt K H a b q H' j tv l' n) (b.length - 0)
      ⟨0, [], [], b.length + 1, none, rfl, rfl, ⟨Nat.zero_le _, nq, e1.trans e2, e2 q _ hq, trivial, (fun _ z => by cases z), Nat.le_refl _, by omega, by
        show _ = (lex (b.length + 1) 0 (b.drop 0)).map (fun l => [] ++ l)
        rw [List.drop_zero]
        cases lex (b.length + 1) 0 b <;> rfl⟩⟩ ?_
    rintro m σ' H3 ⟨j, tv, l', n, v, rfl, rfl, I⟩
    have hSq := ex_l I.ex hS
    refine ⟨decide (j < b.length), ?_, fun hb H4 e4 => ?_, fun hb H4 e4 => ?_⟩
    · refine et_is (et_test (ev_op (ev_var rfl) (ev_len (ev_var rfl) hSq) rv_I0)) ?_
      rw [bv_length]
      exact decide_eq_decide.mpr (by omega)
    · have hj : j < b.length := of_decide_eq_true hb
      obtain ⟨n, rfl⟩ : ∃ n', n = n' + 1 := ⟨n - 1, by have := I.fuel; omega⟩
      have ed : b.drop j = b[j] :: b.drop (j + 1) := List.drop_eq_getElem_cons hj
      have hc : b[j]? = some b[j] := List.getElem?_eq_getElem hj
      generalize hcv : b[j] = c at ed hc
      have hlx := I.lx
      rw [ed] at hlx
      -- the next turn
      have next : ∀ (j' : Nat) (tv' : List V) (l'' : Toks) (σ2 : L2.St) (v' : Option V) (H' : Hp), j < j' → σ2 = [some (.ref a), some (.ref q), some (iv j'), v'] → TkAt K H a b q H' j' tv' l'' n →
          ∃ m', m' < b.length - j ∧ ∃ j tv l' n v, m' = b.length - j ∧ σ2 = [some (.ref a), some (.ref q), some (iv j), v] ∧ TkAt K H a b q H' j tv l' n := fun j' tv' l'' σ2 v' H' h1 h2 h3 =>
        ⟨_, by have := h3.le; omega, j', tv', l'', n, v', rfl, h2, h3⟩
      refine ⟨fun σ2 H2 => ∃ j' tv' l'' v', j < j' ∧ σ2 = [some (.ref a), some (.ref q), some (iv j'), v'] ∧ TkAt K H a b q H2 j' tv' l'' n, fun σ2 H2 ⟨j', tv', l'', v', h1, h2, h3⟩ => next j' tv' l'' σ2 v' H2 h1 h2 h3, ?_⟩
      have hS4 := ex_l e4 hSq
      refine q_asg (v := iv (j + ((b.drop j).takeWhile inChunk).length)) (ev_callU (ea_cons (ev_var rfl) (ea_cons (ev_var rfl) ea_nil)) (spv_end hS4 I.le)) fun H5 e5 => ?_
      by_cases hi : inChunk c = true
      · -- a chunk
        generalize hL : ((b.drop j).takeWhile inChunk).length = L
        have hLpos : 0 < L := by rw [← hL, ed, List.takeWhile_cons, if_pos hi]; simp
        have hLle : j + L ≤ b.length := by
          have z := takeWhile_le (p := inChunk) (b.drop j)
          rw [hL, List.length_drop] at z
          omega
        have htk : (b.drop j).take L = (b.drop j).takeWhile inChunk := by rw [← hL]; exact take_takeWhile _
        have hall : ((b.drop j).take L).all inChunk = true := by rw [htk]; exact takeWhile_all _
        rw [lex_chunk hi, ← ed, hL] at hlx
        refine q_if (b := true) (et_is (et_test (ev_op (ev_var rfl) (ev_var rfl) rv_I0)) (decide_eq_true (by omega))) (fun _ H6 e6 => ?_) (fun z => by cases z)
        have hq6 : H6 q = some (.lst tv) := ((e4.trans e5).trans e6) q _ I.at_
        have eH6 : Ex H H6 := ((I.ex.trans e4).trans e5).trans e6
        have hS6 := ex_l eH6 hS
        refine ⟨_, rfl, Or.inl ⟨rfl, _, sq_of hq6⟩, _, rfl, _, rfl, _, rfl, _, rfl, ⟨a, b, j, L, rfl, hS6, hLle, hall, fun h40 => ?_, fun h40 H7 e7 => ?_⟩⟩
        · rw [if_pos (show VahypBase.CHUNK < L from h40)] at hlx
          exact (kf ⟨2, j⟩ hlx).mono eH6
        · rw [if_neg (show ¬ VahypBase.CHUNK < L from by show ¬ 40 < L; omega)] at hlx
          refine ⟨by show 2 ≤ sizeLine; decide, fun p hp => ⟨q, tv, _, rfl, rfl, ?_, sz2 (by have := I.len; omega), ?_⟩⟩
          · rw [upd_ne (ne_of_none (e7 q _ hq6) hp)]
            exact e7 q _ hq6
          · show tAsg (tVar 3) (gName 2) _ [some (.ref a), some (.ref q), some (iv j), some (iv (j + L))] _
            refine s_asg (v := iv (j + L)) (ev_var rfl) fun H8 e8 => ?_
            have ex7 : Ex H (upd (upd H7 p (.tup [iv j, .str (S ((b.drop j).take L))])) q (.lst (tv ++ [.ref p]))) := Ex.mut ((eH6.trans e7).trans (Ex.new hp)) I.nq
            have keep : ∀ x o, x ≠ q → H7 x = some o → (upd (upd H7 p (.tup [iv j, .str (S ((b.drop j).take L))])) q (.lst (tv ++ [.ref p]))) x = some o := fun x o n1 n2 => by
              rw [upd_ne n1, upd_ne (ne_of_none n2 hp)]; exact n2
            refine ⟨j + L, tv ++ [.ref p], l' ++ [⟨j, .chunk ((b.drop j).take L)⟩], _, by omega, rfl, ⟨hLle, I.nq, ex7.trans e8, e8 q _ upd_same, ?_, ?_, by rw [List.length_append]; have := I.len; simp; omega, by have := I.fuel; omega, ?_⟩⟩
            · have npq : p ≠ q := fun z => by
                rw [z] at hp
                rw [e7 q _ hq6] at hp
                cases hp
              have hp8 : H8 p = some (.tup [iv j, .str (S ((b.drop j).take L))]) := e8 p _ (by rw [upd_ne npq, upd_same])
              refine All2.snoc ⟨p, rfl, hp8⟩ (I.tks.mono fun v t => ?_)
              rintro ⟨x, h1, h2⟩
              have nxq : x ≠ q := fun z => by rw [z, I.at_] at h2; cases h2
              exact ⟨x, h1, e8 x _ (keep x _ nxq (e7 x _ (((e4.trans e5).trans e6) x _ h2)))⟩
            · intro t m
              rcases List.mem_append.mp m with m | m
              · exact I.ok t m
              · have : t = ⟨j, .chunk ((b.drop j).take L)⟩ := by simpa using m
                subst this
                refine Or.inl ⟨_, rfl, ?_, hall, by simp; omega⟩
                intro z
                have := congrArg List.length z
                simp at this
                omega
            · rw [hlx, ← htk]
              show (Except.map (fun l => [PTok.mk j (.chunk ((b.drop j).take L))] ++ l) _).map (l' ++ ·) = _
              rw [map_cat, List.drop_drop]
      · -- no chunk
        have hi' : inChunk c = false := by simpa using hi
        have hL : ((b.drop j).takeWhile inChunk).length = 0 := by rw [ed, List.takeWhile_cons, if_neg hi]; rfl
        rw [hL]
        refine q_if (b := false) (et_is (et_test (ev_op (ev_var rfl) (ev_var rfl) rv_I0)) (decide_eq_false (by omega))) (fun z => by cases z) (fun _ H6 e6 => ?_)
        have e46 : Ex H3 H6 := (e4.trans e5).trans e6
        have hS6 := ex_l e46 hSq
        -- one byte is passed
        have pass1 : ∀ {H' : Hp} {tv' : List V} {l'' : Toks} {v' : Option V}, TkAt K H a b q H' (j + 1) tv' l'' n →
            ∃ j' tv'' l3 v'', j < j' ∧ [some (.ref a), some (.ref q), some (iv (j + 1)), v'] = [some (.ref a), some (.ref q), some (iv j'), v''] ∧ TkAt K H a b q H' j' tv'' l3 n := fun h => ⟨j + 1, _, _, _, by omega, rfl, h⟩
        refine s_if (b := c == 59) (et_is (et_test (ev_op (ev_op (ev_var rfl) (ev_var rfl) (rv_ixL hS6 (atI_nat (bv_get hc)))) ev_c (rv_eq rfl))) ?_) (fun hs H7 e7 => ?_) (fun hs H7 e7 => ?_)
        · rw [dec_int, beq_nat]
          show ((c.toNat : Int) == 59) = decide (c.toNat = 59)
          by_cases h : c.toNat = 59
          · rw [h]; rfl
          · rw [decide_eq_false h]; exact beq_eq_false_iff_ne.mpr (by omega)
        · have hcs : c = 59 := by simpa using hs
          subst hcs
          rw [lex_sign] at hlx
          have e47 := e46.trans e7
          have hq7 : H7 q = some (.lst tv) := e47 q _ I.at_
          refine q_appU hq7 (ev_var rfl) (eu_tup (vs := [iv j, .str (S [59])]) (ea_cons (ev_var rfl) (ea_cons (by rw [← lit_END]; exact ev_c) ea_nil)) (by simp)) (by have := I.len; omega) fun p H8 hp e8 h8 => ?_
          apply s_asg
          · repeat' trivial
          intro H9 e9
          dsimp only
          apply s_asg
          · repeat' trivial
          intro H10 e10
          have npq : p ≠ q := fun z => by rw [z, hq7] at hp; cases hp
          have ex8 : Ex H (upd H8 q (.lst (tv ++ [.ref p]))) := Ex.mut ((I.ex.trans e47).trans e8) I.nq
          have e910 := e9.trans e10
          refine pass1 (tv' := tv ++ [.ref p]) (l'' := l' ++ [⟨j, .sign 59⟩]) ⟨by omega, I.nq, ex8.trans e910, e910 q _ upd_same, ?_, ?_, by rw [List.length_append]; have := I.len; simp; omega, by have := I.fuel; omega, ?_⟩
          · refine All2.snoc ⟨p, rfl, e910 p _ (by rw [upd_ne npq]; exact h8)⟩ (I.tks.mono fun v t => ?_)
            rintro ⟨x, h1, h2⟩
            have nxq : x ≠ q := fun z => by rw [z, I.at_] at h2; cases h2
            exact ⟨x, h1, e910 x _ (by rw [upd_ne nxq]; exact e8 x _ (e47 x _ h2))⟩
          · intro t m
            rcases List.mem_append.mp m with m | m
            · exact I.ok t m
            · have : t = ⟨j, .sign 59⟩ := by simpa using m
              subst this
              exact Or.inr rfl
          · rw [hlx]
            show (Except.map (fun l => [PTok.mk j (.sign 59)] ++ l) _).map (l' ++ ·) = _
            rw [map_cat]
        · have hs59 : c ≠ 59 := by simpa using hs
          have hS7 := ex_l e7 hS6
          refine s_if (b := c == 35) (et_is (et_test (ev_op (ev_op (ev_var rfl) (ev_var rfl) (rv_ixL hS7 (atI_nat (bv_get hc)))) ev_c (rv_eq rfl))) ?_) (fun hr' H8 e8 => ?_) (fun hr' H8 e8 => ?_)
          · rw [dec_int, beq_nat]
            show ((c.toNat : Int) == 35) = decide (c.toNat = 35)
            by_cases h : c.toNat = 35
            · rw [h]; rfl
            · rw [decide_eq_false h]; exact beq_eq_false_iff_ne.mpr (by omega)
          · have hcr : c = 35 := by simpa using hr'
            subst hcr
            rw [lex_remark] at hlx
            have e48 := (e46.trans e7).trans e8
            refine s_asg (v := iv (j + ((b.drop j).takeWhile (· != 10)).length)) (ev_callU (ea_cons (ev_var rfl) (ea_cons (ev_var rfl) ea_nil)) (spv_end (ex_l e8 hS7) I.le)) fun H9 e9 => ?_
            dsimp only
            apply s_asg
            · repeat' trivial
            intro H10 e10
            have e4a := (e48.trans e9).trans e10
            have eL : ((b.drop j).takeWhile (· != 10)).length = 1 + ((b.drop (j + 1)).takeWhile (· != 10)).length := by
              rw [ed, List.takeWhile_cons, if_pos (by decide), List.length_cons]; omega
            have hle : j + (1 + ((b.drop (j + 1)).takeWhile (· != 10)).length) ≤ b.length := by
              have z := takeWhile_le (p := (· != 10)) (b.drop (j + 1))
              rw [List.length_drop] at z
              omega
            rw [eL]
            refine ⟨j + (1 + ((b.drop (j + 1)).takeWhile (· != 10)).length), tv, l', _, by omega, rfl, ⟨hle, I.nq, I.ex.trans e4a, e4a q _ I.at_, I.tks.mono fun _ _ => TokV.mono e4a, I.ok, by have := I.len; omega, by have := I.fuel; omega, ?_⟩⟩
            rw [hlx, dropWhile_eq, List.drop_drop, show j + 1 + ((b.drop (j + 1)).takeWhile (· != 10)).length = j + (1 + ((b.drop (j + 1)).takeWhile (· != 10)).length) by omega]
          · have hs35 : c ≠ 35 := by simpa using hr'
            have hS8 := ex_l e8 hS7
            refine s_if (b := isBlank c) (et_is (et_test (ev_opG (ev_op (ev_var rfl) (ev_var rfl) (rv_ixL hS8 (atI_nat (bv_get hc)))) fun g hg => rv_isT (hg H8) rfl rfl)) ?_) (fun hb' H9 e9 => ?_) (fun hb' H9 e9 => ?_)
            · unfold VahypBase.isBlank
              rw [beq_nat, beq_nat, beq_nat]
              show ((((32 : Int) == (c.toNat : Int)) || (((9 : Int) == (c.toNat : Int)) || (((10 : Int) == (c.toNat : Int)) || false)))) = _
              have be : ∀ k : Nat, (((k : Int) == (c.toNat : Int)) = decide (c.toNat = k)) := fun k => by
                by_cases h : c.toNat = k
                · rw [h]; simp
                · rw [decide_eq_false h]; exact beq_eq_false_iff_ne.mpr (by omega)
              rw [show (32 : Int) = ((32 : Nat) : Int) from rfl, show (9 : Int) = ((9 : Nat) : Int) from rfl, show (10 : Int) = ((10 : Nat) : Int) from rfl, be, be, be, Bool.or_false]
              rfl
            · rw [lex_blank hb'] at hlx
              apply s_asg
              · repeat' trivial
              intro H10 e10
              dsimp only
              apply s_asg
              · repeat' trivial
              intro H11 e11
              have e4a := (((((e46.trans e7).trans e8).trans e9).trans e10).trans e11)
              exact pass1 ⟨by omega, I.nq, I.ex.trans e4a, e4a q _ I.at_, I.tks.mono fun _ _ => TokV.mono e4a, I.ok, by have := I.len; omega, by have := I.fuel; omega, hlx⟩
            · have hbl : isBlank c = false := by simpa using hb'
              rw [lex_bad hi' hs59 hs35 hbl] at hlx
              have e49 := ((((I.ex.trans e46).trans e7).trans e8).trans e9)
              refine rd_fault (c := 2) (p := j) ?_ ((kf ⟨2, j⟩ hlx).mono e49)
              repeat' trivial
    · have hj : j = b.length := by
        have := of_decide_eq_false hb
        have := I.le
        omega
      have hlx := I.lx
      rw [hj, List.drop_length, lex_nil] at hlx
      refine s_ret (v := .ref q) (ev_var rfl) fun H5 e5 => ?_
      have e45 := e4.trans e5
      exact kt l' hlx I.ok q H5 tv I.nq (I.ex.trans e45) (e45 q _ I.at_) (I.tks.mono fun _ _ => TokV.mono e45) (by have := I.len; omega)
end
end Pw

set_option Elab.async false
set_option linter.all false
set_option maxRecDepth 100000
set_option maxHeartbeats 4000000
namespace Pw
open PySem PySem.Spec PyProof.Rows L2 Evl
open VahypBase (Bytes inChunk isLetter lex Toks isBlank PTok)
local macro_rules | `(tactic| trivial) => `(tactic| first
  | with_reducible exact ev_c
  | ((with_reducible apply ev_var); exact rfl)
  | with_reducible apply et_test
  | with_reducible apply et_B
  | with_reducible apply et_not
  | with_reducible exact rv_I0
  | with_reducible exact rv_isN
  | with_reducible exact rv_notN
  | with_reducible exact rv_in _
  | with_reducible exact rv_inF _
  | with_reducible exact rv_eq rfl
  | with_reducible exact rv_ne rfl
  | with_reducible exact ru_neg
  | with_reducible apply ev_chain
  | with_reducible apply ev_op
  | with_reducible apply ev_un
  | with_reducible exact ea_nil
  | with_reducible apply ea_cons
  | with_reducible exact eo_none
  | with_reducible apply eo_some
  | with_reducible assumption)
/-! ### fields -/
theorem putF_app {f : Str} {v : V} : ∀ {ks : List Str} (fs : List (Str × V)), fs.map (·.1) = ks → ks.contains f = false → putF f v fs = fs ++ [(f, v)]
  | _, [], _, _ => rfl
  | _, (g, x) :: r, h, hc => by
    subst h
    have h1 : ¬ g = f := fun e => by subst e; simp at hc
    have h2 : (r.map (·.1)).contains f = false := by
      cases q : (r.map (·.1)).contains f with
      | false => rfl
      | true =>
        have m : f ∈ r.map (·.1) := by simpa using q
        have : ((g, x) :: r).map (·.1) |>.contains f := by simpa using Or.inr (by simpa using m)
        rw [hc] at this
        cases this
    show (if g = f then _ else (g, x) :: putF f v r) = _
    rw [if_neg h1, putF_app r rfl h2]
    rfl
theorem put_here {f : Str} {v x : V} {r : List (Str × V)} : putF f v ((f, x) :: r) = (f, v) :: r := if_pos rfl
theorem put_past {f g : Str} {v x : V} {r : List (Str × V)} (h : (g == f) = false) : putF f v ((g, x) :: r) = (g, x) :: putF f v r := if_neg (by simpa using h)
theorem lk_no {f : Str} : ∀ {ks : List Str} (fs : List (Str × V)), fs.map (·.1) = ks → ks.contains f = false → fs.lookup f = none
  | _, [], _, _ => rfl
  | _, (g, x) :: r, h, hc => by
    subst h
    have h1 : (f == g) = false := by
      cases q : f == g with
      | false => rfl
      | true =>
        have e : f = g := by simpa using q
        subst e
        simp at hc
    have h2 : (r.map (·.1)).contains f = false := by
      cases q : (r.map (·.1)).contains f with
      | false => rfl
      | true =>
        have m : f ∈ r.map (·.1) := by simpa using q
        have : ((g, x) :: r).map (·.1) |>.contains f := by simpa using Or.inr (by simpa using m)
        rw [hc] at this
        cases this
    rw [lk_past h1]
    exact lk_no r rfl h2
section
variable {P : Program} {w : World} {K : PySem.W.Frag} {mg : Str → Option Value} {base : Heap} {A : Ads}
abbrev s_Fault_init : Stmt := inClass (top 14) 0
abbrev N_Fault_init : List Str := ["self", "code", "place"]
abbrev P_Fault_init : List Str := ["self", "code", "place"]
theorem sc_Fault_init : FnScope N_Fault_init P_Fault_init (defScope s_Fault_init) := ⟨rfl, rfl, rfl, by decide +kernel, rfl, by decide +kernel, by decide +kernel⟩
theorem ok_Fault_init {f : Addr} {fd : FuncData} (F : Fun K "__init__" "Fault.__init__" s_Fault_init f fd) (T : Txt K mg A) : FnOk P w K mg base CX0 1 f fd P_Fault_init (spFault A) := by
  refine F.ok sc_Fault_init (fun vs H Q E h => ?_) (fun cdv A' outer s H vs Q E hr h => ⟨_,
    (pss_cons (ps_expr (pe_veinit (by rfl) T.n_ValueError T.vV (pa_cons (pv 0) (pa_cons pe_str pa_nil))))
    (pss_cons (ps_ost (pv 0) (pv 1))
    (pss_one (ps_ost (pv 0) (pv 2)))))
    , ?_⟩)
  · obtain ⟨p, c, q, rfl, _⟩ := h
    rfl
  · obtain ⟨p, c, q, rfl, hp, k⟩ := h
    refine ⟨_, rfl, p, A.F, _, rfl, (by show 1 ≤ 1000; decide), T.oF, hp, ?_⟩
    refine ⟨_, rfl, _, rfl, p, A.F, rfl, T.oF, T.xa_code, Or.inl ⟨hp, fun d nd ne => ?_⟩⟩
    refine ⟨_, rfl, _, rfl, p, A.F, rfl, T.oF, T.xa_place, Or.inr ⟨d, _, upd_same, by rw [upd_ne ne]; exact upd_same, by show 1 ≤ 900; decide, ?_⟩⟩
    refine k _ d nd ne ?_ upd_same fun b o n h => ?_
    · rw [upd_ne (Ne.symm ne)]
      exact upd_same
    · rw [upd_ne (ne_of_none h nd), upd_ne n, upd_ne (ne_of_none h nd)]
      exact h
abbrev s_Refused_init : Stmt := inClass (top 71) 0
abbrev N_Refused_init : List Str := ["self", "number"]
abbrev P_Refused_init : List Str := ["self", "number"]
theorem sc_Refused_init : FnScope N_Refused_init P_Refused_init (defScope s_Refused_init) := ⟨rfl, rfl, rfl, by decide +kernel, rfl, by decide +kernel, by decide +kernel⟩
theorem ok_Refused_init {f : Addr} {fd : FuncData} (F : Fun K "__init__" "Refused.__init__" s_Refused_init f fd) (T : Txt K mg A) : FnOk P w K mg base CX0 1 f fd P_Refused_init (spRefused A) := by
  refine F.ok sc_Refused_init (fun vs H Q E h => ?_) (fun cdv A' outer s H vs Q E hr h => ⟨_,
    (pss_cons (ps_expr (pe_veinit (by rfl) T.n_ValueError T.vV (pa_cons (pv 0) (pa_cons pe_str pa_nil))))
    (pss_one (ps_ost (pv 0) (pv 1))))
    , ?_⟩)
  · obtain ⟨p, q, rfl, _⟩ := h
    rfl
  · obtain ⟨p, q, rfl, hp, k⟩ := h
    refine ⟨_, rfl, p, A.Q, _, rfl, (by show 1 ≤ 1000; decide), T.oQ, hp, ?_⟩
    refine ⟨_, rfl, _, rfl, p, A.Q, rfl, T.oQ, T.xa_number, Or.inl ⟨hp, fun d nd ne => ?_⟩⟩
    refine k _ d nd ne upd_same ?_ fun b o n h => ?_
    · rw [upd_ne ne]
      exact upd_same
    · rw [upd_ne n, upd_ne (ne_of_none h nd)]
      exact h
def spListed (A : Ads) : Sp := fun vs H Q _ => ∃ (p dx : Addr) (l r x y : V), vs = [.ref p, l, r, x, y] ∧ H p = some (.ins A.L dx []) ∧ ∀ H2, H2 p = some (.ins A.L dx [("left", l), ("right", r), ("words", x), ("patterns", y)]) → ExO p H H2 → Q .non H2
abbrev s_Listed_init : Stmt := inClass (top 35) 0
abbrev N_Listed_init : List Str := ["self", "left", "right", "words", "patterns"]
abbrev P_Listed_init : List Str := ["self", "left", "right", "words", "patterns"]
theorem sc_Listed_init : FnScope N_Listed_init P_Listed_init (defScope s_Listed_init) := ⟨rfl, rfl, rfl, by decide +kernel, rfl, by decide +kernel, by decide +kernel⟩
theorem ok_Listed_init {f : Addr} {fd : FuncData} (F : Fun K "__init__" "Listed.__init__" s_Listed_init f fd) (T : Txt K mg A) : FnOk P w K mg base CX0 1 f fd P_Listed_init (spListed A) := by
  refine F.ok sc_Listed_init (fun vs H Q E h => ?_) (fun cdv A' outer s H vs Q E hr h => ⟨_,
    (pss_cons (ps_fld (pv 0) (pv 1) rfl)
    (pss_cons (ps_fld (pv 0) (pv 2) rfl)
    (pss_cons (ps_fld (pv 0) (pv 3) rfl)
    (pss_one (ps_fld (pv 0) (pv 4) rfl)))))
    , ?_⟩)
  · obtain ⟨p, dx, l, r, x, y, rfl, _⟩ := h
    rfl
  · obtain ⟨p, dx, l, r, x, y, rfl, hp, k⟩ := h
    refine ⟨_, rfl, _, rfl, p, A.L, dx, _, rfl, hp, T.clL, T.nl.1, (by show 0 < 1000; decide), ?_⟩
    refine ⟨_, rfl, _, rfl, p, A.L, dx, _, rfl, upd_same, T.clL, T.nl.2.1, (by show 1 < 1000; decide), ?_⟩
    have e1 : putF "left" l ([] : List (Str × V)) = ([("left", l)] : List (Str × V)) := rfl
    have e2 : putF "right" r ([("left", l)] : List (Str × V)) = ([("left", l), ("right", r)] : List (Str × V)) := putF_app (ks := ["left"]) _ rfl (by decide +kernel)
    have e3 : putF "words" x ([("left", l), ("right", r)] : List (Str × V)) = ([("left", l), ("right", r), ("words", x)] : List (Str × V)) := putF_app (ks := ["left", "right"]) _ rfl (by decide +kernel)
    have e4 : putF "patterns" y ([("left", l), ("right", r), ("words", x)] : List (Str × V)) = ([("left", l), ("right", r), ("words", x), ("patterns", y)] : List (Str × V)) := putF_app (ks := ["left", "right", "words"]) _ rfl (by decide +kernel)
    rw [e1, e2]
    refine ⟨_, rfl, _, rfl, p, A.L, dx, _, rfl, upd_same, T.clL, T.nl.2.2.1, (by show 2 < 1000; decide), ?_⟩
    rw [e3]
    refine ⟨_, rfl, _, rfl, p, A.L, dx, _, rfl, upd_same, T.clL, T.nl.2.2.2, (by show 3 < 1000; decide), ?_⟩
    rw [e4]
    exact k _ upd_same (ExO.upd (ExO.upd (ExO.upd (ExO.upd ExO.refl))))
/-! ### the reader -/
def spRdr (K : PySem.W.Frag) (A : Ads) : Sp := fun vs H Q E => ∃ (p dx a : Addr) (b : Bytes), vs = [.ref p, .ref a] ∧ H p = some (.ins A.R dx []) ∧ SqL K H a (bv b) ∧ b.length ≤ 40000 ∧
  (∀ f, lex (b.length + 1) 0 b = .error f → Flt A f.code f.place H E) ∧ (∀ l H2, lex (b.length + 1) 0 b = .ok l → RdrAt A H2 p l → ExO p H H2 → Q .non H2)
abbrev s_Reader_init : Stmt := inClass (top 36) 0
abbrev N_Reader_init : List Str := ["self", "text"]
abbrev P_Reader_init : List Str := ["self", "text"]
theorem sc_Reader_init : FnScope N_Reader_init P_Reader_init (defScope s_Reader_init) := ⟨rfl, rfl, rfl, by decide +kernel, rfl, by decide +kernel, by decide +kernel⟩
theorem ok_Reader_init {f : Addr} {fd : FuncData} (F : Fun K "__init__" "Reader.__init__" s_Reader_init f fd) (T : Txt K mg A) (f_tokens_of : Cal P w K mg base (L2.CX P w) 4 "tokens_of" P_tokens_of (spToks K A)) :
    FnOk P w K mg base (L2.CX P w) 5 f fd P_Reader_init (spRdr K A) := by
  refine F.okX sc_Reader_init (fun vs H Q E h => ?_) (fun cdv A' outer s H vs Q E hr h => ⟨_,
    (pss_cons (ps_fld (pv 0) (pe_callU f_tokens_of (hr.mono (by decide)) rfl (fun q => passAt (takes_of rfl rfl rfl rfl) q) (pa_cons (pv 1) pa_nil)) rfl)
    (pss_cons (ps_fld (pv 0) pe_int rfl)
    (pss_one (ps_fld (pv 0) (pe_callB cw_len (by rfl) T.n_len PySem.boot_len (pa_cons (pv 1) pa_nil)) rfl))))
    , ?_⟩)
  · obtain ⟨p, dx, a, b, rfl, _⟩ := h
    rfl
  · obtain ⟨p, dx, a, b, rfl, hp, hS, hz, kf, kt⟩ := h
    refine ⟨_, rfl, a, b, rfl, hS, hz, kf, fun l' hl hok q H2 tv nq e2 hq htv htl => ?_⟩
    have hp2 := e2 p _ hp
    have nqp : q ≠ p := fun z => by rw [z, hp] at nq; cases nq
    refine ⟨_, rfl, p, A.R, dx, [], rfl, hp2, T.clR, T.nr.1, (by show 0 < 1000; decide), ?_⟩
    have e3 : putF "tokens" (V.ref q) ([] : List (Str × V)) = ([("tokens", .ref q)] : List (Str × V)) := rfl
    have e4 : putF "at" (V.int 0) ([("tokens", .ref q)] : List (Str × V)) = ([("tokens", .ref q), ("at", .int 0)] : List (Str × V)) := putF_app (ks := ["tokens"]) _ rfl (by decide +kernel)
    have e5 : ∀ z : V, putF "end" z ([("tokens", .ref q), ("at", .int 0)] : List (Str × V)) = ([("tokens", .ref q), ("at", .int 0), ("end", z)] : List (Str × V)) := fun z => putF_app (ks := ["tokens", "at"]) _ rfl (by decide +kernel)
    rw [e3]
    refine ⟨_, rfl, p, A.R, dx, _, rfl, upd_same, T.clR, T.nr.2.1, (by show 1 < 1000; decide), ?_⟩
    rw [e4]
    have eB : ExO p H (upd (upd H2 p (.ins A.R dx [("tokens", .ref q)])) p (.ins A.R dx [("tokens", .ref q), ("at", .int 0)])) := ExO.upd (ExO.upd (ExO.of e2))
    have hS3 : SqL K (upd (upd H2 p (.ins A.R dx [("tokens", .ref q)])) p (.ins A.R dx [("tokens", .ref q), ("at", .int 0)])) a (bv b) := by
      rcases hS with (h | ⟨o, h⟩) | h
      · exact Or.inl (Or.inl (eB a _ (fun z => by rw [z, hp] at h; cases h) h))
      · exact Or.inl (Or.inr ⟨o, eB a _ (fun z => by rw [z, hp] at h; cases h) h⟩)
      · exact Or.inr h
    refine ⟨_, rfl, a, bv b, rfl, Or.inl hS3, ?_⟩
    refine ⟨_, rfl, p, A.R, dx, _, rfl, upd_same, T.clR, T.nr.2.2, (by show 2 < 1000; decide), ?_⟩
    rw [e5, bv_length]
    refine kt _ _ hl ?_ (ExO.upd eB)
    refine ⟨dx, q, tv, 0, b.length, l', upd_same, ?_, Nat.zero_le _, ?_, rfl, hok, by omega⟩
    · rw [upd_ne nqp, upd_ne nqp, upd_ne nqp]
      exact hq
    · rw [List.drop_zero]
      refine htv.mono fun v t => ?_
      rintro ⟨x, h1, h2⟩
      have nxp : x ≠ p := fun z => by rw [z, hp2] at h2; cases h2
      exact ⟨x, h1, by rw [upd_ne nxp, upd_ne nxp, upd_ne nxp]; exact h2⟩
end
end Pw

set_option Elab.async false
set_option linter.all false
set_option maxRecDepth 100000
set_option maxHeartbeats 4000000
/-! # Evaluations that give what is told by a word; the reader's head -/
namespace Pw
open PySem PySem.Spec PyProof.Rows L2 Evl
open VahypBase (Bytes inChunk PTok Toks)
/-- what te gives bears P (of the value and the heap behind it) -/
def EvP (te : TE) (σ : L2.St) (H : Hp) (Pv : V → Hp → Prop) : Prop := ∀ H1, Ex H H1 → ∀ Q : VK, (∀ v H2, Ex H1 H2 → Pv v H2 → Q v H2) → te σ H1 Q
def SpP (sp : Sp) (vs : List V) (H : Hp) (Pv : V → Hp → Prop) : Prop := ∀ H1, Ex H H1 → ∀ Q : VK, (∀ v H2, Ex H1 H2 → Pv v H2 → Q v H2) → ∀ E : XK, sp vs H1 Q E
section
variable {K : PySem.W.Frag} {σ : L2.St} {H H' : Hp} {ta tb tc te to : TE} {t : TA} {x y z v : V} {r : R2} {Pv : V → Hp → Prop}
theorem ev_opP (ha : EvP ta σ H Pv) (hb : Ev tb σ H y) (hr : ∀ v H1, Ex H H1 → Pv v H1 → RV r v y H1 z) : Ev (tOp r ta tb) σ H z := fun H1 e Q q =>
  ha H1 e _ fun v H2 e2 hp => hb H2 (e.trans e2) _ fun H3 e3 => hr v H2 (e.trans e2) hp H3 e3 Q fun H4 e4 => q H4 ((e2.trans e3).trans e4)
theorem ev_methU {C a dx : Addr} {fs : List (Str × V)} {m : Str} {sp : Sp} {E : L2.St → XK} {vs : List V} (h : Ev ta σ H (.ref a)) (ho : H a = some (.ins C dx fs)) (hl : fs.lookup m = none) (hv : EvA t σ H vs) (hs : SpV sp (.ref a :: vs) H z) :
    Ev (tMethU C m sp E ta t) σ H z := fun H1 e Q q => h H1 e _ fun H2 e2 => ⟨a, dx, fs, rfl, (e.trans e2) a _ ho, hl, hv H2 (e.trans e2) _ fun H3 e3 => hs H3 ((e.trans e2).trans e3) Q (fun H4 e4 => q H4 ((e2.trans e3).trans e4)) (E σ)⟩
theorem ep_methU {C a dx : Addr} {fs : List (Str × V)} {m : Str} {sp : Sp} {E : L2.St → XK} {vs : List V} (h : Ev ta σ H (.ref a)) (ho : H a = some (.ins C dx fs)) (hl : fs.lookup m = none) (hv : EvA t σ H vs) (hs : SpP sp (.ref a :: vs) H Pv) :
    EvP (tMethU C m sp E ta t) σ H Pv := fun H1 e Q q => h H1 e _ fun H2 e2 => ⟨a, dx, fs, rfl, (e.trans e2) a _ ho, hl, hv H2 (e.trans e2) _ fun H3 e3 => hs H3 ((e.trans e2).trans e3) Q (fun v H4 e4 hp => q v H4 ((e2.trans e3).trans e4) hp) (E σ)⟩
theorem ep_callU {sp : Sp} {vs : List V} {E : L2.St → XK} (h : EvA t σ H vs) (hs : SpP sp vs H Pv) : EvP (tCallU sp E t) σ H Pv := fun H1 e Q q =>
  h H1 e _ fun H2 e2 => hs H2 (e.trans e2) Q (fun v H3 e3 hp => q v H3 (e2.trans e3) hp) (E σ)
theorem s_asgP {D : Ends} {i : Nat} (h : EvP te σ H Pv) (k : ∀ v H1, Ex H H1 → Pv v H1 → D.nx (σ.set i (some v)) H1) : tAsg te (gName i) D σ H := h H (Ex.refl H) _ fun v H1 e hp => k v H1 e hp
theorem q_asgP {D : Ends} {tz : TS} {i : Nat} (h : EvP te σ H Pv) (k : ∀ v H1, Ex H H1 → Pv v H1 → tz D (σ.set i (some v)) H1) : tSeq (tAsg te (gName i)) tz D σ H := s_asgP (D := { D with nx := tz D }) h k
theorem s_retP {D : Ends} (h : EvP te σ H Pv) (k : ∀ v H1, Ex H H1 → Pv v H1 → D.rt v H1) : tRet te D σ H := h H (Ex.refl H) _ fun v H1 e hp => k v H1 e hp
theorem ep_if {c : TT} {b : Bool} (h : EvT c σ H b) (h1 : b = true → EvP ta σ H Pv) (h2 : b = false → EvP tb σ H Pv) : EvP (tIf c ta tb) σ H Pv := fun H1 e Q q => h H1 e _ fun H2 e2 => by
  cases b with
  | true => exact if_t rfl (h1 rfl H2 (e.trans e2) Q fun v H3 e3 hp => q v H3 (e2.trans e3) hp)
  | false => exact if_f rfl (h2 rfl H2 (e.trans e2) Q fun v H3 e3 hp => q v H3 (e2.trans e3) hp)
theorem ep_ev (h : Ev te σ H v) (hp : ∀ H2, Ex H H2 → Pv v H2) : EvP te σ H Pv := fun H1 e Q q => h H1 e Q fun H2 e2 => q v H2 e2 (hp H2 (e.trans e2))
theorem ep_evU {xs : List V} (h : EvU te σ H xs) (hp : ∀ p H2, H2 p = some (.tup xs) → Ex H H2 → Pv (.ref p) H2) : EvP te σ H Pv := fun H1 e Q q => h H1 e Q fun p H2 n e2 h2 => q _ H2 e2 (hp p H2 h2 (e.trans e2))
end
/-! ### the reader's head -/
theorem tS_chunk {b : Bytes} : tS (.chunk b) = S b := rfl
def TokOk2 (t : PTok) : Prop := TokOk t ∨ t.tok = .last
theorem chunk_ne59 {b : Bytes} (h : b.all inChunk = true) : b ≠ [59] := by
  rintro rfl
  revert h
  decide
theorem tS_word {t : PTok} {w : Bytes} (h : TokOk2 t) (hw : w ≠ []) (hc : w.all inChunk = true) : decide (tS t.tok = S w) = VahypBase.tokEq t.tok (.chunk w) := by
  rcases h with (⟨b, e, hb, hbc, _⟩ | e) | e
  · rw [e]
    show decide (S b = S w) = (b == w)
    by_cases q : b = w
    · subst q; simp
    · rw [decide_eq_false (fun z => q (S_inj.mp z)), beq_eq_false_iff_ne.mpr q]
  · rw [e]
    show decide (S [59] = S w) = false
    exact decide_eq_false fun z => chunk_ne59 hc (S_inj.mp z).symm
  · rw [e]
    show decide (S [] = S w) = false
    exact decide_eq_false fun z => hw (S_inj.mp z).symm
theorem tS_sign {t : PTok} (h : TokOk2 t) : decide (tS t.tok = S [59]) = VahypBase.tokEq t.tok (.sign 59) := by
  rcases h with (⟨b, e, hb, hbc, _⟩ | e) | e
  · rw [e]
    show decide (S b = S [59]) = false
    exact decide_eq_false fun z => chunk_ne59 hbc (S_inj.mp z)
  · rw [e]
    show decide (S [59] = S [59]) = true
    exact decide_eq_true rfl
  · rw [e]
    show decide (S [] = S [59]) = false
    exact decide_eq_false fun z => by cases (S_inj.mp z)
/-- what the head of a reader is -/
theorem RdrAt.head {A : Ads} {H : Hp} {r : Addr} {l : Toks} (h : RdrAt A H r l) : ∃ t rest, l = t :: rest ∧ TokOk2 t ∧ (t.tok = .last ↔ rest = []) := by
  obtain ⟨dx, ta, tv, n, e, l', h1, h2, h3, h4, h5, h6, h7⟩ := h
  cases l' with
  | nil => exact ⟨_, _, h5, .inr rfl, by simp⟩
  | cons t l'' =>
    have ht := h6 t (by simp)
    refine ⟨t, l'' ++ [PTok.mk e .last], h5, .inl ht, ?_⟩
    rcases ht with ⟨b, q, _⟩ | q
    · rw [q]; simp
    · rw [q]; simp
theorem next_last {t : PTok} {rest : Toks} (h : TokOk2 t) (hl : t.tok = .last ↔ rest = []) : VahypBase.next .last (t :: rest) = rest.isEmpty := by
  show VahypBase.tokEq t.tok .last = _
  rcases h with (⟨b, e, _⟩ | e) | e
  · have : rest ≠ [] := fun z => by rw [e] at hl; exact absurd (hl.mpr z) (by simp)
    rw [e]
    cases rest with
    | nil => exact absurd rfl this
    | cons => rfl
  · have : rest ≠ [] := fun z => by rw [e] at hl; exact absurd (hl.mpr z) (by simp)
    rw [e]
    cases rest with
    | nil => exact absurd rfl this
    | cons => rfl
  · rw [hl.mp e, e]; rfl
end Pw

set_option Elab.async false
set_option linter.all false
set_option maxRecDepth 100000
set_option maxHeartbeats 4000000
namespace Pw
open PySem PySem.Spec PyProof.Rows L2 Evl
open VahypBase (Bytes inChunk isLetter lex Toks isBlank PTok)
local macro_rules | `(tactic| trivial) => `(tactic| first
  | with_reducible exact ev_c
  | ((with_reducible apply ev_var); exact rfl)
  | with_reducible apply et_test
  | with_reducible apply et_B
  | with_reducible apply et_not
  | with_reducible exact rv_I0
  | with_reducible exact rv_isN
  | with_reducible exact rv_notN
  | with_reducible exact rv_in _
  | with_reducible exact rv_inF _
  | with_reducible exact rv_eq rfl
  | with_reducible exact rv_ne rfl
  | with_reducible exact ru_neg
  | with_reducible apply ev_chain
  | with_reducible apply ev_op
  | with_reducible apply ev_un
  | with_reducible exact ea_nil
  | with_reducible apply ea_cons
  | with_reducible exact eo_none
  | with_reducible apply eo_some
  | with_reducible assumption)
abbrev fsR (ta : Addr) (n e : Nat) : List (Str × V) := [("tokens", .ref ta), ("at", iv n), ("end", iv e)]
theorem lkR_tokens {ta : Addr} {n e : Nat} : (fsR ta n e).lookup ("tokens" : Str) = some (V.ref ta) := lk_here
theorem lkR_at {ta : Addr} {n e : Nat} : (fsR ta n e).lookup ("at" : Str) = some (iv n) := (lk_past (by decide +kernel)).trans lk_here
theorem lkR_end {ta : Addr} {n e : Nat} : (fsR ta n e).lookup ("end" : Str) = some (iv e) := (lk_past (by decide +kernel)).trans ((lk_past (by decide +kernel)).trans lk_here)
theorem lkR_no {ta : Addr} {n e : Nat} {m : Str} (h : (["tokens", "at", "end"] : List Str).contains m = false) : (fsR ta n e).lookup m = none := lk_no _ rfl h
theorem putR_at {ta : Addr} {n e m : Nat} : putF "at" (iv m) (fsR ta n e) = fsR ta m e := (put_past (by decide +kernel)).trans (congrArg _ put_here)
def spDone (A : Ads) : Sp := fun vs H Q _ => ∃ (r : Addr) (l : Toks), vs = [.ref r] ∧ RdrAt A H r l ∧ RetV (.bl (VahypBase.next .last l)) H Q
def spTok (A : Ads) : Sp := fun vs H Q _ => ∃ (r : Addr) (t : PTok) (rest : Toks), vs = [.ref r] ∧ RdrAt A H r (t :: rest) ∧ ∀ a H2, Ex H H2 → H2 a = some (.tup [iv t.place, .str (tS t.tok)]) → Q (.ref a) H2
def spNext (A : Ads) : Sp := fun vs H Q _ => ∃ (r : Addr) (t : PTok) (rest : Toks) (wd : Bytes), vs = [.ref r, .str (S wd)] ∧ RdrAt A H r (t :: rest) ∧ RetV (.bl (decide (tS t.tok = S wd))) H Q
def spTake (A : Ads) : Sp := fun vs H Q E => ∃ (r : Addr) (t : PTok) (rest : Toks) (wd : Bytes), vs = [.ref r, .str (S wd)] ∧ RdrAt A H r (t :: rest) ∧ wd ≠ [] ∧ (tS t.tok ≠ S wd → Flt A 3 t.place H E) ∧
  (tS t.tok = S wd → ∀ H2, RdrAt A H2 r rest → ExB r H H2 → Q (iv t.place) H2)
def spTakeC (A : Ads) : Sp := fun vs H Q E => ∃ (r : Addr) (t : PTok) (rest : Toks), vs = [.ref r] ∧ RdrAt A H r (t :: rest) ∧ ((∀ b, t.tok ≠ .chunk b) → Flt A 3 t.place H E) ∧
  (∀ b, t.tok = .chunk b → ∀ a H2, RdrAt A H2 r rest → ExB r H H2 → H2 a = some (.tup [iv t.place, .str (S b)]) → Q (.ref a) H2)
theorem spv_done {A : Ads} {r : Addr} {l : Toks} {H : Hp} (h : RdrAt A H r l) : SpV (spDone A) [.ref r] H (.bl (VahypBase.next .last l)) := fun _ e _ q _ => ⟨r, l, rfl, h.mono e, q⟩
theorem spp_tok {A : Ads} {r : Addr} {t : PTok} {rest : Toks} {H : Hp} (h : RdrAt A H r (t :: rest)) : SpP (spTok A) [.ref r] H (fun v H2 => ∃ a, v = .ref a ∧ H2 a = some (.tup [iv t.place, .str (tS t.tok)])) := fun _ e _ q _ => ⟨r, t, rest, rfl, h.mono e, fun a H2 e2 h2 => q _ H2 e2 ⟨a, rfl, h2⟩⟩
theorem spv_next {A : Ads} {r : Addr} {t : PTok} {rest : Toks} {wd : Bytes} {H : Hp} (h : RdrAt A H r (t :: rest)) : SpV (spNext A) [.ref r, .str (S wd)] H (.bl (decide (tS t.tok = S wd))) := fun _ e _ q _ => ⟨r, t, rest, wd, rfl, h.mono e, q⟩
/-- one token is passed -/
theorem RdrAt.step {A : Ads} {H H' : Hp} {r dx ta : Addr} {tv : List V} {n e : Nat} {l' rest : Toks} {t : PTok} (h2 : H ta = some (.lst tv)) (h3 : n ≤ tv.length) (h4 : All2 (TokV H) (tv.drop n) l') (h5 : t :: rest = l' ++ [⟨e, .last⟩]) (h6 : ∀ t ∈ l', TokOk t)
    (h7 : tv.length ≤ 40000) (hr : H r = some (.ins A.R dx (fsR ta n e))) (nl : t.tok ≠ .last) (hH : H' r = some (.ins A.R dx (fsR ta (n + 1) e))) (eB : ExB r H H') : RdrAt A H' r rest := by
  cases l' with
  | nil =>
    have : t = ⟨e, .last⟩ := by simpa using (List.cons.inj h5).1
    rw [this] at nl
    exact absurd rfl nl
  | cons t' l'' =>
    have e1 := List.cons.inj h5
    have hlt : n < tv.length := by
      have := h4.length
      simp only [List.length_drop, List.length_cons] at this
      omega
    have nr : ta ≠ r := fun z => by rw [z, hr] at h2; cases h2
    refine ⟨dx, ta, tv, n + 1, e, l'', hH, eB.1 ta _ nr h2, hlt, ?_, e1.2, fun t m => h6 t (by simp [m]), h7⟩
    have z := h4.tail
    rw [List.tail_drop] at z
    refine z.mono fun v t => ?_
    rintro ⟨x, q1, q2⟩
    have nx : x ≠ r := fun w => by rw [w, hr] at q2; cases q2
    exact ⟨x, q1, eB.1 x _ nx q2⟩
section
variable {P : Program} {w : World} {K : PySem.W.Frag} {mg : Str → Option Value} {base : Heap} {A : Ads}
abbrev s_Reader_is_done : Stmt := inClass (top 36) 1
abbrev N_Reader_is_done : List Str := ["self"]
abbrev P_Reader_is_done : List Str := ["self"]
theorem sc_Reader_is_done : FnScope N_Reader_is_done P_Reader_is_done (defScope s_Reader_is_done) := ⟨rfl, rfl, rfl, by decide +kernel, rfl, by decide +kernel, by decide +kernel⟩
theorem ok_Reader_is_done {f : Addr} {fd : FuncData} (F : Fun K "is_done" "Reader.is_done" s_Reader_is_done f fd) (T : Txt K mg A) : FnOk P w K mg base CX0 1 f fd P_Reader_is_done (spDone A) := by
  refine F.ok sc_Reader_is_done (fun vs H Q E h => ?_) (fun cdv A' outer s H vs Q E hr h => ⟨_,
    (pss_one (ps_ret (pe_cmpR op_eq (pe_fld (pv 0) rfl) (pe_callB cw_len (by rfl) T.n_len PySem.boot_len (pa_cons (pe_fld (pv 0) rfl) pa_nil)) (nomark _))))
    , ?_⟩)
  · obtain ⟨r, l, rfl, _⟩ := h
    rfl
  · obtain ⟨r, l, rfl, hR, k⟩ := h
    obtain ⟨t, rest, rfl, h1, h2⟩ := hR.head
    rw [next_last h1 h2] at k
    obtain ⟨dx, ta, tv, n, e, l', q1, q2, q3, q4, q5, q6, q7⟩ := hR
    refine s_ret (ev_is (ev_op (ev_fld (ev_var rfl) q1 T.clR T.nr.2.1 lkR_at) (ev_len (ev_fld (ev_var rfl) q1 T.clR T.nr.1 lkR_tokens) (sq_of q2)) (rv_eq rfl)) ?_) fun H2 e2 => k H2 e2
    congr 1
    rw [dec_int]
    have hl := q4.length
    rw [List.length_drop] at hl
    have hr' : rest.length = l'.length := by
      have := congrArg List.length q5
      simp at this
      omega
    cases rest with
    | nil =>
      have : (n : Int) = (tv.length : Int) := by simp at hr'; omega
      simp [this]
    | cons x y =>
      have : ¬ (n : Int) = (tv.length : Int) := by simp at hr'; omega
      simp [this]
abbrev s_Reader_token : Stmt := inClass (top 36) 2
abbrev N_Reader_token : List Str := ["self"]
abbrev P_Reader_token : List Str := ["self"]
theorem sc_Reader_token : FnScope N_Reader_token P_Reader_token (defScope s_Reader_token) := ⟨rfl, rfl, rfl, by decide +kernel, rfl, by decide +kernel, by decide +kernel⟩
theorem ok_Reader_token {f : Addr} {fd : FuncData} (F : Fun K "token" "Reader.token" s_Reader_token f fd) (T : Txt K mg A) (m_Reader_is_done : Met P w K mg base CX0 1 A.R "is_done" P_Reader_is_done (spDone A)) : FnOk P w K mg base CX0 2 f fd P_Reader_token (spTok A) := by
  refine F.ok sc_Reader_token (fun vs H Q E h => ?_) (fun cdv A' outer s H vs Q E hr h => ⟨_,
    (pss_one (ps_ret (pe_ifExp (pt_val (pe_methU0 (pv 0) m_Reader_is_done (hr.mono (by decide)) (fun _ => pz))) (pe_tup (pa_cons (pe_fld (pv 0) rfl) (pa_cons pe_str pa_nil))) (pe_ix ix_list (pe_fld (pv 0) rfl) (pe_fld (pv 0) rfl) (fun _ _ => rfl)))))
    , ?_⟩)
  · obtain ⟨r, t, rest, rfl, _⟩ := h
    rfl
  · obtain ⟨r, t, rest, rfl, hR, k⟩ := h
    have hR' := hR
    obtain ⟨t', rest', e0, h1, h2⟩ := hR.head
    cases e0
    obtain ⟨dx, ta, tv, n, e, l', q1, q2, q3, q4, q5, q6, q7⟩ := hR
    refine s_retP (Pv := fun v H2 => ∃ a, v = .ref a ∧ H2 a = some (.tup [iv t.place, .str (tS t.tok)])) (ep_if (et_B (ev_methU (ev_var rfl) q1 (lkR_no (by decide +kernel)) ea_nil (spv_done hR'))) (fun hb => ?_) (fun hb => ?_)) fun v H1 e1 ⟨a, ev, ha⟩ => by
        rw [ev]; exact k a H1 e1 ha
    · rw [next_last h1 h2] at hb
      have hn : rest = [] := by simpa using hb
      subst hn
      have hl : l' = [] := by
        have := congrArg List.length q5
        rw [List.length_append] at this
        simp only [List.length_cons, List.length_nil] at this
        exact List.eq_nil_of_length_eq_zero (by omega)
      subst hl
      have et : t = ⟨e, .last⟩ := by simpa using q5
      rw [et]
      refine ep_evU (eu_tup (vs := [iv e, .str (S [])]) (ea_cons (ev_fld (ev_var rfl) q1 T.clR T.nr.2.2 lkR_end) (ea_cons (by rw [← lit_nil]; exact ev_c) ea_nil)) (by simp)) fun p H2 h2 _ => ⟨p, rfl, h2⟩
    · rw [next_last h1 h2] at hb
      cases l' with
      | nil =>
        have : rest = [] := by
          have := congrArg List.length q5
          rw [List.length_append] at this
          simp only [List.length_cons, List.length_nil] at this
          exact List.eq_nil_of_length_eq_zero (by omega)
        subst this
        simp at hb
      | cons t'' l'' =>
        have et := (List.cons.inj q5).1
        subst et
        obtain ⟨v, hv, a, ea, ha⟩ := q4.get' (i := 0) rfl
        rw [List.getElem?_drop] at hv
        subst ea
        exact ep_ev (ev_op (ev_fld (ev_var rfl) q1 T.clR T.nr.1 lkR_tokens) (ev_fld (ev_var rfl) q1 T.clR T.nr.2.1 lkR_at) (rv_ixL (sq_of q2) (atI_nat (by rw [Nat.add_zero] at hv; exact hv)))) fun H2 e2 => ⟨a, rfl, e2 a _ ha⟩
abbrev s_Reader_is_next : Stmt := inClass (top 36) 3
abbrev N_Reader_is_next : List Str := ["self", "word"]
abbrev P_Reader_is_next : List Str := ["self", "word"]
theorem sc_Reader_is_next : FnScope N_Reader_is_next P_Reader_is_next (defScope s_Reader_is_next) := ⟨rfl, rfl, rfl, by decide +kernel, rfl, by decide +kernel, by decide +kernel⟩
theorem ok_Reader_is_next {f : Addr} {fd : FuncData} (F : Fun K "is_next" "Reader.is_next" s_Reader_is_next f fd) (T : Txt K mg A) (m_Reader_token : Met P w K mg base CX0 2 A.R "token" P_Reader_token (spTok A)) : FnOk P w K mg base CX0 3 f fd P_Reader_is_next (spNext A) := by
  refine F.ok sc_Reader_is_next (fun vs H Q E h => ?_) (fun cdv A' outer s H vs Q E hr h => ⟨_,
    (pss_one (ps_ret (pe_cmpR op_eq (pe_ix ix_tup (pe_methU0 (pv 0) m_Reader_token (hr.mono (by decide)) (fun _ => pz)) pe_int (fun _ _ => rfl)) (pv 1) (nomark _))))
    , ?_⟩)
  · obtain ⟨r, t, rest, wd, rfl, _⟩ := h
    rfl
  · obtain ⟨r, t, rest, wd, rfl, hR, k⟩ := h
    have hR' := hR
    obtain ⟨dx, ta, tv, n, e, l', q1, q2, q3, q4, q5, q6, q7⟩ := hR
    refine s_ret (ev_is (ev_op (ev_opP (ep_methU (ev_var rfl) q1 (lkR_no (by decide +kernel)) ea_nil (spp_tok hR')) ev_c fun v H1 e1 ⟨a, ev, ha⟩ => by
      rw [ev]; exact rv_ixT (st_of ha) (atI_nat (j := 1) rfl)) (ev_var rfl) (rv_eq rfl)) ?_) k
    congr 1
    by_cases z : tS t.tok = S wd
    · rw [z]; simp
    · rw [decide_eq_false z]
      exact decide_eq_false fun w => z (by injection w)
abbrev s_Reader_take : Stmt := inClass (top 36) 4
abbrev N_Reader_take : List Str := ["self", "word", "place"]
abbrev P_Reader_take : List Str := ["self", "word"]
theorem sc_Reader_take : FnScope N_Reader_take P_Reader_take (defScope s_Reader_take) := ⟨rfl, rfl, rfl, by decide +kernel, rfl, by decide +kernel, by decide +kernel⟩
theorem ok_Reader_take {f : Addr} {fd : FuncData} (F : Fun K "take" "Reader.take" s_Reader_take f fd) (T : Txt K mg A) (m_Reader_token : Met P w K mg base CX0 2 A.R "token" P_Reader_token (spTok A)) (m_Reader_is_next : Met P w K mg base CX0 3 A.R "is_next" P_Reader_is_next (spNext A))
    (x_Fault : Xcl P w K mg base 1 A.F "Fault" ["self", "code", "place"] (spFault A)) : FnOk P w K mg base (L2.CX P w) 4 f fd P_Reader_take (spTake A) := by
  refine F.okX sc_Reader_take (fun vs H Q E h => ?_) (fun cdv A' outer s H vs Q E hr h => ⟨_,
    (pss_cons (ps_set (i := 2) sc_Reader_take.nd rfl (Or.inl rfl) (pe_ix ix_tup (pe_methU0 (pv 0) m_Reader_token (hr.mono (by decide)) (fun _ => pz)) pe_int (fun _ _ => rfl)))
    (pss_cons (ps_if (pt_not (pt_val (pe_methU (pv 0) m_Reader_is_next (hr.mono (by decide)) (fun _ => pz) (pa_cons (pv 1) pa_nil)))) (pss_one (ps_raise rfl (takes_of rfl rfl rfl rfl) (pmk_U x_Fault (hr.mono (by decide)) (by rfl) (pa_cons (pe_gi T.g_NOT_ALLOWED rfl) (pa_cons (pv 2) pa_nil))))) pss_nil)
    (pss_cons (ps_fld (pv 0) (pe_op op_add (pe_fld (pv 0) rfl) pe_int) rfl)
    (pss_one (ps_ret (pv 2))))))
    , ?_⟩)
  · obtain ⟨r, t, rest, wd, rfl, _⟩ := h
    rfl
  · obtain ⟨r, t, rest, wd, rfl, hR, hw, k1, k2⟩ := h
    have hR' := hR
    obtain ⟨dx, ta, tv, n, e, l', q1, q2, q3, q4, q5, q6, q7⟩ := hR
    refine q_asg (v := iv t.place) (ev_opP (ep_methU (ev_var rfl) q1 (lkR_no (by decide +kernel)) ea_nil (spp_tok hR')) ev_c fun v H1 e1 ⟨a, ev, ha⟩ => by
      rw [ev]; exact rv_ixT (st_of ha) (atI_nat (j := 0) rfl)) fun H1 e1 => ?_
    refine q_when (et_not (et_B (ev_methU (ev_var rfl) (e1 _ _ q1) (lkR_no (by decide +kernel)) (ea_cons (ev_var rfl) ea_nil) (spv_next (hR'.mono e1))))) (fun hb H2 e2 => ?_) (fun hb H2 e2 => ?_)
    · refine rd_fault (c := 3) (p := t.place) ?_ ((k1 (by simpa using hb)).mono (e1.trans e2))
      repeat' trivial
    · have hc : tS t.tok = S wd := by simpa using hb
      have nl : t.tok ≠ .last := fun z => by
        rw [z] at hc
        exact hw (S_inj.mp hc).symm
      have e12 := e1.trans e2
      refine ⟨_, rfl, r, A.R, dx, _, _, rfl, e12 _ _ q1, T.clR, T.nr.2.1, lkR_at, _, _, rfl, rfl, _, rfl, r, A.R, dx, _, rfl, e12 _ _ q1, T.clR, T.nr.2.1, (by show 3 < 1000; decide), ?_⟩
      have e4 : putF "at" (.int ((n : Int) + 1)) (fsR ta n e) = fsR ta (n + 1) e := putR_at (m := n + 1)
      rw [e4]
      refine s_ret (v := iv t.place) (ev_var rfl) fun H3 e3 => ?_
      have eB : ExB r H2 H3 := (ExB.upd ExB.refl (e12 _ _ q1)).trans (ExB.of e3)
      exact k2 hc H3 (RdrAt.step (e12 _ _ q2) q3 (q4.mono fun _ _ => TokV.mono e12) q5 q6 q7 (e12 _ _ q1) nl (e3 r _ upd_same) eB) ((ExB.of e12).trans eB)
abbrev s_Reader_take_chunk : Stmt := inClass (top 36) 5
abbrev N_Reader_take_chunk : List Str := ["self", "token"]
abbrev P_Reader_take_chunk : List Str := ["self"]
theorem sc_Reader_take_chunk : FnScope N_Reader_take_chunk P_Reader_take_chunk (defScope s_Reader_take_chunk) := ⟨rfl, rfl, rfl, by decide +kernel, rfl, by decide +kernel, by decide +kernel⟩
theorem ok_Reader_take_chunk {f : Addr} {fd : FuncData} (F : Fun K "take_chunk" "Reader.take_chunk" s_Reader_take_chunk f fd) (T : Txt K mg A) (m_Reader_token : Met P w K mg base CX0 2 A.R "token" P_Reader_token (spTok A))
    (x_Fault : Xcl P w K mg base 1 A.F "Fault" ["self", "code", "place"] (spFault A)) : FnOk P w K mg base (L2.CX P w) 3 f fd P_Reader_take_chunk (spTakeC A) := by
  refine F.okX sc_Reader_take_chunk (fun vs H Q E h => ?_) (fun cdv A' outer s H vs Q E hr h => ⟨_,
    (pss_cons (ps_set (i := 1) sc_Reader_take_chunk.nd rfl (Or.inl rfl) (pe_methU0 (pv 0) m_Reader_token (hr.mono (by decide)) (fun _ => pz)))
    (pss_cons (ps_if (pt_cmpR op_in_seq (pe_ix ix_tup (pv 1) pe_int (fun _ _ => rfl)) (pe_tup (pa_cons pe_str (pa_cons (pe_gs T.g_END_SIGN rfl) pa_nil))) (by rfl)) (pss_one (ps_raise rfl (takes_of rfl rfl rfl rfl) (pmk_U x_Fault (hr.mono (by decide)) (by rfl) (pa_cons (pe_gi T.g_NOT_ALLOWED rfl) (pa_cons (pe_ix ix_tup (pv 1) pe_int (fun _ _ => rfl)) pa_nil))))) pss_nil)
    (pss_cons (ps_fld (pv 0) (pe_op op_add (pe_fld (pv 0) rfl) pe_int) rfl)
    (pss_one (ps_ret (pv 1))))))
    , ?_⟩)
  · obtain ⟨r, t, rest, rfl, _⟩ := h
    rfl
  · obtain ⟨r, t, rest, rfl, hR, k1, k2⟩ := h
    have hR' := hR
    obtain ⟨t', rest', e0, ht1, ht2⟩ := hR.head
    cases e0
    obtain ⟨dx, ta, tv, n, e, l', q1, q2, q3, q4, q5, q6, q7⟩ := hR
    refine q_asgP (ep_methU (ev_var rfl) q1 (lkR_no (by decide +kernel)) ea_nil (spp_tok hR')) fun v H1 e1 ⟨a, ev, ha⟩ => ?_
    subst ev
    refine q_when (et_test (ev_inU (xs := [.str "", .str ";"]) (ev_op (ev_var rfl) ev_c (rv_ixT (st_of ha) (atI_nat (j := 1) rfl))) (eu_tup (ea_cons ev_c (ea_cons ev_c ea_nil)) (by simp)) rfl rfl)) (fun hb H2 e2 => ?_) (fun hb H2 e2 => ?_)
    · refine rd_fault (c := 3) (p := t.place) (ea_cons ev_c (ea_cons (ev_op (ev_var rfl) ev_c (rv_ixT (st_of (e2 _ _ ha)) (atI_nat (j := 0) rfl))) ea_nil)) ((k1 fun b hc => ?_).mono (e1.trans e2))
      rcases ht1 with (⟨b', eb, hb1, hb2, _⟩ | eb) | eb
      · rw [eb, lit_nil, lit_END] at hb
        have hb : ((S [] == S b') || ((S [59] == S b') || false)) = true := hb
        simp only [Bool.or_false, Bool.or_eq_true, beq_iff_eq] at hb
        rcases hb with z | z
        · exact hb1 (S_inj.mp z).symm
        · exact chunk_ne59 hb2 (S_inj.mp z).symm
      · rw [eb] at hc; cases hc
      · rw [eb] at hc; cases hc
    · have e12 := e1.trans e2
      obtain ⟨b, hb2⟩ : ∃ b, t.tok = .chunk b := by
        rcases ht1 with (⟨b', eb, _⟩ | eb) | eb
        · exact ⟨b', eb⟩
        · rw [eb, lit_nil, lit_END] at hb
          exact absurd (show inV (.str (S [59])) [.str (S []), .str (S [59])] = true from by decide +kernel) (by rw [show tS (.sign 59) = S [59] from rfl] at hb; rw [hb]; decide)
        · rw [eb, lit_nil, lit_END] at hb
          exact absurd (show inV (.str (S [])) [.str (S []), .str (S [59])] = true from by decide +kernel) (by rw [show tS .last = S [] from rfl] at hb; rw [hb]; decide)
      have nl : t.tok ≠ .last := fun z => by rw [z] at hb2; cases hb2
      refine ⟨_, rfl, r, A.R, dx, _, _, rfl, e12 _ _ q1, T.clR, T.nr.2.1, lkR_at, _, _, rfl, rfl, _, rfl, r, A.R, dx, _, rfl, e12 _ _ q1, T.clR, T.nr.2.1, (by show 3 < 1000; decide), ?_⟩
      have e4 : putF "at" (.int ((n : Int) + 1)) (fsR ta n e) = fsR ta (n + 1) e := putR_at (m := n + 1)
      rw [e4]
      refine s_ret (v := .ref a) (ev_var rfl) fun H3 e3 => ?_
      have eB : ExB r H2 H3 := (ExB.upd ExB.refl (e12 _ _ q1)).trans (ExB.of e3)
      have na : a ≠ r := fun z => by rw [z, e1 _ _ q1] at ha; cases ha
      refine k2 b hb2 a H3 (RdrAt.step (e12 _ _ q2) q3 (q4.mono fun _ _ => TokV.mono e12) q5 q6 q7 (e12 _ _ q1) nl (e3 r _ upd_same) eB) ((ExB.of e12).trans eB) ?_
      rw [hb2] at ha
      exact eB.1 a _ na (e2 a _ ha)
end
end Pw

set_option Elab.async false
set_option linter.all false
set_option maxRecDepth 100000
set_option maxHeartbeats 4000000
/-! # max of a tuple of ints -/
namespace Pw
open PySem PySem.Spec PyProof.Rows L2 Evl
theorem maxT_raw {prog : Program} {w : World} {A : Around} {E : Value → Shared → Prop} {s : Shared} {l : Addr} {its : List Value} {ns : List Int} {Q : Value → Shared → Prop} (hh : A.handled = none) (hl : s.heap.IsTuple l its.toArray) (hi : IntsAre its ns) (hne : 0 < ns.length)
    (h : ∀ h' tk M t', (∀ b o, s.heap.get? b = some o → h'.get? b = some o) → M ∈ ns → (∀ a, a ∈ ns → a ≤ M) → Q (.int M t') { s with heap := h', toks := tk }) : wpAny (model prog w) A (call (.builtin "max") [.ref l]) Q E s := by
  obtain ⟨xs, e⟩ := hi.allInts.items
  have hn : numsOf (intItems xs).toList = ns := by rw [← e]; exact hi.numsOf
  rw [nums_intItems] at hn
  subst hn
  rw [e] at hl
  have hsz : 0 < xs.size := by simpa using hne
  have hlt : l < s.heap.objs.size := by
    obtain ⟨o, q, _⟩ := hl
    exact Heap.lt_size q
  refine call_max_walk (wpAny_pyIter_tuple hl ?_)
  refine ⟨_, [s.heap.objs.size, l], [s.heap.objs.size], _, _, _, _, rfl, Walks.tuple (A := A.in1) hh _ l (Nat.ne_of_lt hlt) (intItems xs), ⟨⟨_, Heap.get?_push_size _ rfl, rfl, rfl⟩, hl.push _⟩, fun c hc => ?_, by simpa [intItems] using hsz,
    CmpOf.ints_gt (numAt xs) (fun _ _ => intItems_at), fun v h' tk hP hk => ?_⟩
  · show c < (s.heap.push _).objs.size
    rw [Heap.size_push]
    have hc' : c = s.heap.objs.size ∨ c = l := by simpa using hc
    rcases hc' with z | z
    · rw [z]; exact Nat.lt_succ_self _
    · rw [z]; exact Nat.lt_succ_of_lt hlt
  · have hold : ∀ c o, s.heap.get? c = some o → h'.get? c = some o := fun c o q => hk c o (fun m => by
      have z : c = s.heap.objs.size := by simpa using m
      rw [z] at q
      exact absurd (Heap.lt_size q) (Nat.lt_irrefl _)) (Heap.get?_push_of_some _ q)
    obtain ⟨t, rfl⟩ := intItems_at hP
    have e3 : (intItems xs).size - 1 = xs.size - 1 := by simp [intItems]
    obtain ⟨h1, h2⟩ := argBest_gt (numAt xs) (xs.size - 1)
    rw [e3]
    refine h h' tk _ t hold ?_ fun a ha => ?_
    · rw [numAt_eq]
      exact PySem.getD_mem (by rw [List.length_map, Array.length_toList]; omega)
    · obtain ⟨j, hj, rfl⟩ := mem_getD ha
      rw [List.length_map, Array.length_toList] at hj
      rw [← numAt_eq]
      exact h2 j (by omega)
def rMaxT (K : PySem.W.Frag) : List V → Hp → VK → Prop := fun vs H Q => ∃ (a : Addr) (ns : List Int), vs = [V.ref a] ∧ SqT K H a (ns.map V.int) ∧ 0 < ns.length ∧ ∀ m, m ∈ ns → (∀ y, y ∈ ns → y ≤ m) → Q (.int m) H
theorem cr_maxT {X : Cx} (hc : X.calm = true) : CallR X (.builtin "max") (rMaxT X.K) := by
  intro pins s σ H vs us Q I r h
  obtain ⟨a, ns, rfl, hs, hne, q⟩ := h
  obtain ⟨its, rv, ht, _⟩ := I.tuple hs
  rw [Vals.ref1 r]
  exact maxT_raw (I.ok.hd hc) (show s.heap.IsTuple a its.toArray from ht) rv.ints hne fun h' tk m t' hk h1 h2 => ⟨.int _, H, I.kept hk, ⟨_, rfl⟩, q m h1 h2⟩
theorem ev_maxT {K : PySem.W.Frag} {σ : L2.St} {H : Hp} {ta : TE} {a : Addr} {ns : List Int} {m : Int} (ha : Ev ta σ H (.ref a)) (hs : SqT K H a (ns.map V.int)) (hm : m ∈ ns) (hg : ∀ y, y ∈ ns → y ≤ m) : Ev (tCB (rMaxT K) (tCons ta tNil)) σ H (.int m) := fun H1 e Q q =>
  ha H1 e _ fun H2 e2 => ⟨a, ns, rfl, ex_t (e.trans e2) hs, List.length_pos_of_mem hm, fun m' h1 h3 => by
    have z : m' = m := Int.le_antisymm (hg m' h1) (h3 m hm)
    rw [z]
    exact q H2 e2⟩
end Pw
namespace Pw
open PySem PySem.Spec PyProof.Rows L2 Evl
/-- a fault, of a def that may change what stands at r -/
def FltB (A : Ads) (r : Addr) (c p : Int) (H : Hp) (E : XK) : Prop := ∀ d H2, H d = none → ExB r H H2 → H2 d = some (.xd [("place", .int p), ("code", .int c)]) → E (.ref A.F) (some d) H2
theorem FltB.at_ {A : Ads} {r : Addr} {c p : Int} {H H1 : Hp} {E : XK} (h : FltB A r c p H E) (e : ExB r H H1) (hr : ∃ o, H1 r = some o) : Flt A c p H1 E := fun d H2 n x y => by
  refine h d H2 ?_ (e.trans (ExB.of x)) y
  cases q : H d with
  | none => rfl
  | some o =>
    by_cases z : d = r
    · obtain ⟨u, hu⟩ := hr
      rw [z, hu] at n
      cases n
    · rw [e.1 d o z q] at n
      cases n
theorem FltB.mono {A : Ads} {r : Addr} {c p : Int} {H H1 : Hp} {E : XK} (h : FltB A r c p H E) (e : ExB r H H1) (hr : ∃ o, H1 r = some o) : FltB A r c p H1 E := fun d H2 n x y => by
  refine h d H2 ?_ (e.trans x) y
  cases q : H d with
  | none => rfl
  | some o =>
    by_cases z : d = r
    · obtain ⟨u, hu⟩ := hr
      rw [z, hu] at n
      cases n
    · rw [e.1 d o z q] at n
      cases n
/-- the reader was made here -/
theorem Flt.but {A : Ads} {r : Addr} {c p : Int} {H H1 : Hp} {E : XK} (h : Flt A c p H E) (e : Ex H H1) (n : H r = none) : FltB A r c p H1 E := fun d H2 nd x y => h d H2 (fresh_back e nd) (ExB.ex e n x) y
theorem RdrAt.there {A : Ads} {H : Hp} {r : Addr} {l : VahypBase.Toks} (h : RdrAt A H r l) : ∃ o, H r = some o := by
  obtain ⟨dx, ta, tv, n, e, l', h1, _⟩ := h
  exact ⟨_, h1⟩
end Pw

set_option Elab.async false
set_option linter.all false
set_option maxRecDepth 100000
set_option maxHeartbeats 4000000
namespace Pw
open PySem PySem.Spec PyProof.Rows L2 Evl
open VahypBase (Bytes inChunk isLetter isDigit lex Toks isBlank PTok)
open Vahypa (Word Pat wordOf patOf takeMargin)
local macro_rules | `(tactic| trivial) => `(tactic| first
  | with_reducible exact ev_c
  | ((with_reducible apply ev_var); exact rfl)
  | with_reducible apply et_test
  | with_reducible apply et_B
  | with_reducible apply et_not
  | with_reducible exact rv_I0
  | with_reducible exact rv_isN
  | with_reducible exact rv_notN
  | with_reducible exact rv_in _
  | with_reducible exact rv_inF _
  | with_reducible exact rv_eq rfl
  | with_reducible exact rv_ne rfl
  | with_reducible exact ru_neg
  | with_reducible apply ev_chain
  | with_reducible apply ev_op
  | with_reducible apply ev_un
  | with_reducible exact ea_nil
  | with_reducible apply ea_cons
  | with_reducible exact eo_none
  | with_reducible apply eo_some
  | with_reducible assumption)
def isM (b : Bytes) : Bool := match b with
  | [c] => isDigit c && decide (c.toNat - 48 ≤ 5)
  | _ => false
def spMargB : Sp := fun vs H Q _ => ∃ b : Bytes, vs = [.str (S b)] ∧ b.length ≤ 40000 ∧ RetV (.bl (isM b)) H Q
def spMargin (A : Ads) : Sp := fun vs H Q E => ∃ (r : Addr) (l : Toks), vs = [.ref r] ∧ RdrAt A H r l ∧ (∀ f, takeMargin l = .error f → FltB A r f.code f.place H E) ∧
  (∀ m rest, takeMargin l = .ok (m, rest) → m ≤ 5 → ∀ H2, RdrAt A H2 r rest → ExB r H H2 → Q (iv m) H2)
def spWordOf : Sp := fun vs H Q _ => ∃ b : Bytes, vs = [.str (S b)] ∧ b ≠ [] ∧ b.length ≤ 40 ∧ (wordOf b = none → RetV .non H Q) ∧ (∀ w, wordOf b = some w → ∀ v H2, Ex H H2 → WrdV H2 v w → Q v H2)
def LdV (o : Option (Bytes × List Nat)) (v : V) (H : Hp) : Prop := match o with
  | none => v = .non
  | some p => ∃ a d, v = .ref a ∧ H a = some (.tup [.str (S p.1), .ref d]) ∧ H d = some (.tup (nv p.2))
def spLd : Sp := fun vs H Q _ => ∃ b : Bytes, vs = [.str (S b)] ∧ b.length ≤ 40 ∧ ∀ v H2, Ex H H2 → LdV (ldp b [] [] 0) v H2 → Q v H2
def spPatOf : Sp := fun vs H Q _ => ∃ b : Bytes, vs = [.str (S b)] ∧ b.length ≤ 40 ∧ (patOf b = none → RetV .non H Q) ∧ (∀ p, patOf b = some p → ∀ v H2, Ex H H2 → PatV H2 v p → Q v H2)
theorem ev_fig {c : UInt8} {to te : TE} {σ : L2.St} {H : Hp} (h : isDigit c = true) (h1 : Ev to σ H (.str (Str.ofString "0123456789"))) (h2 : Ev te σ H (.str (S [c]))) : Ev (tM1 rSidx to te) σ H (iv (c.toNat - 48)) := ev_sidx h1 h2 (occ_figure h)
theorem ev_joinL {K : PySem.W.Frag} {σ : L2.St} {H : Hp} {to te : TE} {sep : Str} {ys : List Str} {p : Addr} (hs : Ev to σ H (.str sep)) (hl : Ev te σ H (.ref p)) (hp : SqL K H p (ys.map V.str)) (hz : (ys.map (·.length)).sum + ys.length * sep.length ≤ 16777216) :
    Ev (tM1 (rJoin K) to te) σ H (.str (Txt.join sep ys)) := fun H1 e Q q =>
  hs H1 e _ fun H2 e2 => ⟨⟨sep, rfl⟩, hl H2 (e.trans e2) _ fun H3 e3 => ⟨sep, p, ys, rfl, rfl, Or.inl (ex_l ((e.trans e2).trans e3) hp), hz, q H3 (e2.trans e3)⟩⟩
theorem spv_margB {b : Bytes} (h : b.length ≤ 40000) (H : Hp) : SpV spMargB [.str (S b)] H (.bl (isM b)) := fun _ _ _ q _ => ⟨b, rfl, h, q⟩
section
variable {P : Program} {w : World} {K : PySem.W.Frag} {mg : Str → Option Value} {base : Heap} {A : Ads}
abbrev s_is_margin : Stmt := top 37
abbrev N_is_margin : List Str := ["chunk"]
abbrev P_is_margin : List Str := ["chunk"]
theorem sc_is_margin : FnScope N_is_margin P_is_margin (defScope s_is_margin) := ⟨rfl, rfl, rfl, by decide +kernel, rfl, by decide +kernel, by decide +kernel⟩
theorem ok_is_margin {f : Addr} {fd : FuncData} (F : Fun K "is_margin" "is_margin" s_is_margin f fd) (T : Txt K mg A) : FnOk P w K mg base CX0 1 f fd P_is_margin spMargB := by
  refine F.ok sc_is_margin (fun vs H Q E h => ?_) (fun cdv A' outer s H vs Q E hr h => ⟨_,
    (pss_one (ps_ret (pe_and (pe_cmpR op_eq (pe_callB cw_lens (by rfl) T.n_len PySem.boot_len (pa_cons (pv 0) pa_nil)) pe_int (nomark _)) (pe_and (pe_cmpR op_inS (pv 0) (pe_gs T.g_FIGURES rfl) (by rfl)) (pe_one (pe_cmpR op_le (pe_m1 PySem.F.slot_str_index PySem.F.type_str_index mw_index (pe_gs T.g_FIGURES rfl) (pv 0)) (pe_gi T.g_MOST_MARGIN rfl) (nomark _)))))))
    , ?_⟩)
  · obtain ⟨b, rfl, _⟩ := h
    rfl
  · obtain ⟨b, rfl, hz, k⟩ := h
    by_cases h1 : b.length = 1
    · obtain ⟨c, rfl⟩ : ∃ c, b = [c] := List.length_eq_one_iff.mp h1
      refine s_ret (v := .bl (isM [c])) (ev_is (ev_andV (a := true) (b := isDigit c && decide (c.toNat - 48 ≤ 5)) (ev_is (ev_op (ev_lens (ev_var rfl) (by simp)) ev_c (rv_eq rfl)) rfl) fun _ => ev_andV (a := isDigit c) (b := decide (c.toNat - 48 ≤ 5)) (ev_op (ev_var rfl) ev_c (rv_inF c)) fun hd => ?_) (by rw [Bool.true_and]; rfl)) k
      refine ev_is (ev_op (ev_fig hd ev_c (ev_var rfl)) ev_c rv_I0) ?_
      congr 1
      exact decide_eq_decide.mpr (by omega)
    · have e : isM b = false := by
        unfold isM
        split
        · exact absurd rfl h1
        · rfl
      refine s_ret (v := .bl (isM b)) (ev_is (ev_andV (a := false) (b := false) (ev_is (ev_op (ev_lens (ev_var rfl) (by omega)) ev_c (rv_eq rfl)) ?_) fun z => by cases z) (by rw [e]; rfl)) k
      congr 1
      rw [dec_int]
      exact beq_eq_false_iff_ne.mpr (by omega)
abbrev s_margin_in : Stmt := top 38
abbrev N_margin_in : List Str := ["reader", "place", "chunk"]
abbrev P_margin_in : List Str := ["reader"]
theorem sc_margin_in : FnScope N_margin_in P_margin_in (defScope s_margin_in) := ⟨rfl, rfl, rfl, by decide +kernel, rfl, by decide +kernel, by decide +kernel⟩
theorem ok_margin_in {f : Addr} {fd : FuncData} (F : Fun K "margin_in" "margin_in" s_margin_in f fd) (T : Txt K mg A) (f_is_margin : Cal P w K mg base CX0 1 "is_margin" P_is_margin spMargB) (m_Reader_take_chunk : Met P w K mg base (L2.CX P w) 3 A.R "take_chunk" P_Reader_take_chunk (spTakeC A))
    (x_Fault : Xcl P w K mg base 1 A.F "Fault" ["self", "code", "place"] (spFault A)) : FnOk P w K mg base (L2.CX P w) 4 f fd P_margin_in (spMargin A) := by
  refine F.okX sc_margin_in (fun vs H Q E h => ?_) (fun cdv A' outer s H vs Q E hr h => ⟨_,
    (pss_cons (ps_asg (pe_methU0 (pv 0) m_Reader_take_chunk (hr.mono (by decide)) (fun q => passAt (takes_of rfl rfl rfl rfl) q)) (pg_tup rfl (pgs_cons (pg_name (i := 1) sc_margin_in.nd rfl (Or.inl rfl)) (pgs_cons (pg_name (i := 2) sc_margin_in.nd rfl (Or.inl rfl)) pgs_nil))))
    (pss_cons (ps_if (pt_not (pt_val (pe_callU f_is_margin (hr.mono (by decide)) rfl (fun _ => pz) (pa_cons (pv 2) pa_nil)))) (pss_one (ps_raise rfl (takes_of rfl rfl rfl rfl) (pmk_U x_Fault (hr.mono (by decide)) (by rfl) (pa_cons (pe_gi T.g_BAD_CHUNK rfl) (pa_cons (pv 1) pa_nil))))) pss_nil)
    (pss_one (ps_ret (pe_m1 PySem.F.slot_str_index PySem.F.type_str_index mw_index (pe_gs T.g_FIGURES rfl) (pv 2))))))
    , ?_⟩)
  · obtain ⟨r, l, rfl, _⟩ := h
    rfl
  · obtain ⟨r, l, rfl, hR, k1, k2⟩ := h
    obtain ⟨t, rest, rfl, ht1, ht2⟩ := hR.head
    have hR' := hR
    obtain ⟨dx, ta, tv, n, e, l', q1, q2, q3, q4, q5, q6, q7⟩ := hR
    obtain ⟨pl, tok⟩ := t
    refine ⟨_, rfl, r, dx, _, rfl, q1, lkR_no (by decide +kernel), r, ⟨pl, tok⟩, rest, rfl, hR', fun hn => ?_, fun b hb a H2 hR2 eB ha => ?_⟩
    · refine (k1 ⟨3, pl⟩ ?_).at_ ExB.refl hR'.there
      have e : VahypBase.takeChunk (⟨pl, tok⟩ :: rest) = .error ⟨3, pl⟩ := by
        cases tok with
        | chunk b => exact absurd rfl (hn b)
        | sign c => rfl
        | last => rfl
      unfold takeMargin
      rw [e]; rfl
    · have hb : tok = .chunk b := hb
      subst hb
      have hbl : b.length ≤ 40 := by
        rcases ht1 with (⟨b', e1, _, _, z⟩ | e1) | e1
        · cases e1; exact z
        · cases e1
        · cases e1
      have etm : takeMargin (⟨pl, .chunk b⟩ :: rest) = if isM b = true then .ok ((b.headD 0).toNat - 48, rest) else .error ⟨7, pl⟩ := by
        unfold takeMargin
        show (match b with
          | [b] => if isDigit b = true ∧ b.toNat - 48 ≤ Vahypa.MARGIN then Except.ok (b.toNat - 48, rest) else Except.error (VahypBase.Fault.mk 7 pl)
          | _ => Except.error (VahypBase.Fault.mk 7 pl)) = _
        unfold isM
        split
        · rename_i c
          show (if isDigit c = true ∧ c.toNat - 48 ≤ 5 then _ else _) = if (isDigit c && decide (c.toNat - 48 ≤ 5)) = true then _ else _
          refine ite_congr (by simp) (fun _ => rfl) fun _ => rfl
        · rename_i hne
          rw [if_neg (by simp)]
      have tkt : VahypBase.PTok.mk pl (.chunk b) = ⟨pl, .chunk b⟩ := rfl
      refine ⟨a, _, rfl, st_of ha, rfl, _, _, rfl, _, _, rfl, rfl, ?_⟩
      dsimp only
      refine q_when (b := !isM b) (et_not (et_B (ev_callU (ea_cons (ev_var rfl) ea_nil) (spv_margB (by omega) H2)))) (fun hb H3 e3 => ?_) (fun hb H3 e3 => ?_)
      · rw [if_neg (by simpa using hb)] at etm
        exact rd_fault (c := 7) (p := pl) (by repeat' trivial) ((k1 ⟨7, pl⟩ etm).at_ (eB.trans (ExB.of e3)) (hR2.mono e3).there)
      · have hm : isM b = true := by simpa using hb
        rw [if_pos hm] at etm
        obtain ⟨c, rfl⟩ : ∃ c, b = [c] := by
          unfold isM at hm
          split at hm
          · exact ⟨_, rfl⟩
          · cases hm
        have hm2 : (isDigit c && decide (c.toNat - 48 ≤ 5)) = true := hm
        rw [Bool.and_eq_true] at hm2
        refine s_ret (ev_fig hm2.1 ev_c (ev_var rfl)) fun H4 e4 => ?_
        have e34 := e3.trans e4
        exact k2 _ _ etm (of_decide_eq_true hm2.2) H4 (hR2.mono e34) (eB.trans (ExB.of e34))
end
end Pw

set_option Elab.async false
set_option linter.all false
set_option maxRecDepth 100000
set_option maxHeartbeats 4000000
namespace Pw
open PySem PySem.Spec PyProof.Rows L2 Evl
open VahypBase (Bytes inChunk isLetter isDigit lex Toks isBlank PTok)
open Vahypa (Word Pat wordOf patOf takeMargin)
local macro_rules | `(tactic| trivial) => `(tactic| first
  | with_reducible exact ev_c
  | ((with_reducible apply ev_var); exact rfl)
  | with_reducible apply et_test
  | with_reducible apply et_B
  | with_reducible apply et_not
  | with_reducible exact rv_I0
  | with_reducible exact rv_isN
  | with_reducible exact rv_notN
  | with_reducible exact rv_in _
  | with_reducible exact rv_inF _
  | with_reducible exact rv_eq rfl
  | with_reducible exact rv_ne rfl
  | with_reducible exact ru_neg
  | with_reducible apply ev_chain
  | with_reducible apply ev_op
  | with_reducible apply ev_un
  | with_reducible exact ea_nil
  | with_reducible apply ea_cons
  | with_reducible exact eo_none
  | with_reducible apply eo_some
  | with_reducible assumption)
def sums (k : Nat) : List Bytes → List Nat
  | [] => []
  | p :: ps => (k + p.length) :: sums (k + p.length) ps
def tot (l : List Bytes) : Nat := (l.map List.length).sum
theorem pre_sums : ∀ (l : List Bytes) (k : Nat), pre k l = sums k l.dropLast
  | [], _ => rfl
  | [p], _ => rfl
  | p :: q :: r, k => by
    have ih := pre_sums (q :: r) (k + p.length)
    show (if q :: r = [] then [] else (k + p.length) :: pre (k + p.length) (q :: r)) = _
    rw [if_neg (by simp), ih]
    rfl
theorem sums_snoc : ∀ (l : List Bytes) (k : Nat) (p : Bytes), sums k (l ++ [p]) = sums k l ++ [k + tot l + p.length]
  | [], k, p => by simp [sums, tot]
  | q :: l, k, p => by
    have ih := sums_snoc l (k + q.length) p
    show (k + q.length) :: sums (k + q.length) (l ++ [p]) = _
    rw [ih]
    show _ = (k + q.length) :: (sums (k + q.length) l ++ [k + tot (q :: l) + p.length])
    rw [show tot (q :: l) = q.length + tot l from by simp [tot]]
    congr 4
    omega
theorem tot_snoc (l : List Bytes) (p : Bytes) : tot (l ++ [p]) = tot l + p.length := by simp [tot]
theorem tot_flat (l : List Bytes) : tot l = l.flatten.length := by simp [tot]
theorem sums_length : ∀ (l : List Bytes) (k : Nat), (sums k l).length = l.length
  | [], _ => rfl
  | _ :: l, k => congrArg (· + 1) (sums_length l _)
theorem cutV_last (xs : List V) : cutV xs none (some (-1)) = xs.dropLast := by
  unfold cutV
  rw [HT.sIx_none, List.drop_zero, Nat.sub_zero]
  have e : HT.sIx xs.length xs.length (some (-1)) = xs.length - 1 := by
    show (if (-1 : Int) < 0 then (-1 + (xs.length : Int)).toNat else min (-1 : Int).toNat xs.length) = _
    rw [if_pos (by decide)]
    omega
  rw [e, List.dropLast_eq_take]
theorem inV_S (a : Bytes) (l : List Bytes) : inV (.str (S a)) ((l.map S).map V.str) = decide (a ∈ l) := by
  unfold inV
  induction l with
  | nil => simp
  | cons b r ih =>
    rw [List.map_cons, List.map_cons, List.any_cons, ih]
    show ((S b == S a) || _) = _
    by_cases h : b = a
    · subst h; simp
    · have h2 : (S b == S a) = false := beq_eq_false_iff_ne.mpr fun z => h (S_inj.mp z)
      rw [h2, Bool.false_or]
      exact decide_eq_decide.mpr ⟨fun m => List.mem_cons_of_mem _ m, fun m => by
        rcases List.mem_cons.mp m with z | z
        · exact absurd z.symm h
        · exact z⟩
theorem flat_S (l : List Bytes) : ((l.map S).map V.str).all flatV = true := by
  induction l with
  | nil => rfl
  | cons b r ih => rw [List.map_cons, List.map_cons, List.all_cons, ih]; rfl
theorem pieces_len (b : Bytes) : (pieces b).length ≤ b.length + 1 := by
  induction b with
  | nil => exact Nat.le_refl _
  | cons c r ih =>
    obtain ⟨p, ps, e⟩ := pieces_ne r
    by_cases h : c = 45
    · subst h
      rw [pieces_dash]; simp; omega
    · rw [pieces_other h e, List.length_cons]
      rw [e, List.length_cons] at ih
      simp; omega
theorem lets_len (b : Bytes) : (lets b).length ≤ b.length := List.length_filter_le _ _
section
variable {K : PySem.W.Frag} {σ : L2.St} {H : Hp} {te to : TE}
theorem el_splitP {b : Bytes} (ha : Ev to σ H (.str (S b))) (hb : Ev te σ H (.str (S [45]))) (hz : b.length ≤ 10000) : EvL (tM1 rSplit to te) σ H (((pieces b).map S).map V.str) := fun H1 e Q q =>
  ha H1 e _ fun H2 e2 => ⟨⟨_, rfl⟩, hb H2 (e.trans e2) _ fun H3 e3 => ⟨S b, S [45], rfl, rfl, rfl, by rw [S_length]; exact sz1 (by omega), fun p hp => by
    have hp1 := fresh_back (e2.trans e3) hp
    rw [split_S]
    exact q p _ hp1 ((e2.trans e3).trans (Ex.new hp)) upd_same⟩⟩
theorem el_letters {x : Bytes} {i j : Nat} {vs : List Nat} (hv : Ev (tVar i) σ H (.str (S x))) (hz : x.length ≤ 40000) (hw : ∀ v, wipe ((wipe σ vs).set j (some v)) vs = wipe σ vs) (hj : ∀ v, ((wipe σ vs).set j (some v))[j]? = some (some v)) :
    Ev (tCB (rAll K) (tCons (tLc (iStr (tVar i)) (gName j) tYes (tOp rInS (tVar j) (tC (.str (Str.ofString "abcdefghijklmnopqrstuvwxyz")))) vs) tNil)) σ H (.bl (x.all isLetter)) := by
  have hall : (x.map isLetter).all id = x.all isLetter := by rw [List.all_map]; rfl
  rw [← hall]
  refine ev_all (bs := x.map isLetter) ?_
  have z := el_lcS (σ := σ) (H := H) (tl := tVar i) (t := tYes) (te := tOp rInS (tVar j) (tC (.str (Str.ofString "abcdefghijklmnopqrstuvwxyz")))) (j := j) (vs := vs) x (fun _ => true) (fun c => V.bl (isLetter c)) hv hz hw (fun _ _ _ _ => et_yes) (fun c H' _ _ _ => ev_op (ev_var (hj _)) ev_c (rv_in c))
  rw [filter_yes] at z
  rw [List.map_map]
  exact z
end
section
variable {P : Program} {w : World} {K : PySem.W.Frag} {mg : Str → Option Value} {base : Heap} {A : Ads}
abbrev s_word_of : Stmt := top 39
abbrev N_word_of : List Str := ["chunk", "pieces", "letters", "gaps", "many", "piece", "sign"]
abbrev P_word_of : List Str := ["chunk"]
theorem sc_word_of : FnScope N_word_of P_word_of (defScope s_word_of) := ⟨rfl, rfl, rfl, by decide +kernel, rfl, by decide +kernel, by decide +kernel⟩
theorem ok_word_of {f : Addr} {fd : FuncData} (F : Fun K "word_of" "word_of" s_word_of f fd) (T : Txt K mg A) : FnOk P w K mg base CX0 1 f fd P_word_of spWordOf := by
  refine F.ok sc_word_of (fun vs H Q E h => ?_) (fun cdv A' outer s H vs Q E hr h => ⟨_,
    (pss_cons (ps_set (i := 1) sc_word_of.nd rfl (Or.inl rfl) (pe_m1 PySem.F.slot_str_split PySem.F.type_str_split mw_split (pv 0) pe_str))
    (pss_cons (ps_set (i := 2) sc_word_of.nd rfl (Or.inl rfl) (pe_m1 PySem.F.slot_str_join PySem.F.type_str_join mw_join pe_str (pv 1)))
    (pss_cons (ps_if (PW.pt (pw_or (pt_cmpR op_in_seq pe_str (pv 1) (by rfl)) (pw_or (pt_not (pt_chain op_le op_le pe_int (pe_callB cw_lens (by rfl) T.n_len PySem.boot_len (pa_cons (pv 2) pa_nil)) (pe_gi T.g_MOST_LETTERS rfl))) (pw_or1 (pt_not (pt_val (pe_callB (cr_all rfl) (by rfl) T.n_all (by decide +kernel) (pa_cons (pe_lc rfl sc_word_of.nd (pi_str (pv 2)) (blkOk_by (own := [("sign", 6)]) (N := N_word_of) (sc := defScope s_word_of) (by decide +kernel)) (fun _ _ _ _ _ => (pg_name (i := 6) sc_word_of.nd rfl (Or.inl rfl))) (fun _ _ _ _ _ => pts_nil) (fun _ _ _ _ _ => (pe_cmpR op_inS (pv 6) (pe_gs T.g_LETTERS rfl) (by rfl)))) pa_nil)))))))) (pss_one (ps_ret pe_non)) pss_nil)
    (pss_cons (ps_set (i := 3) sc_word_of.nd rfl (Or.inl rfl) (pe_lst pa_nil))
    (pss_cons (ps_set (i := 4) sc_word_of.nd rfl (Or.inl rfl) pe_int)
    (pss_cons (ps_for PassesOwn.never rfl (pi_list (pe_slice sl_list (pv 1) po_none (po_some (pe_un un_neg pe_int)))) (pg_name (i := 5) sc_word_of.nd rfl (Or.inl rfl)) (pss_cons (ps_set (i := 4) sc_word_of.nd rfl (Or.inl rfl) (pe_op op_add (pv 4) (pe_callB cw_lens (by rfl) T.n_len PySem.boot_len (pa_cons (pv 5) pa_nil))))
    (pss_one (ps_expr (pe_bm PySem.F.plainAttrs_list PySem.F.slot_list_append PySem.F.type_list_append mt_append (pv 3) (pa_cons (pv 4) pa_nil))))))
    (pss_one (ps_ret (pe_tup (pa_cons (pv 2) (pa_cons (pe_callTy cw_tup (by rfl) T.n_tuple (by decide +kernel) (pa_cons (pv 3) pa_nil)) pa_nil)))))))))))
    , ?_⟩)
  · obtain ⟨b, rfl, _⟩ := h
    rfl
  · obtain ⟨b, rfl, hne, hz, k1, k2⟩ := h
    have hl := pieces_len b
    have hll := lets_len b
    refine q_asgL (xs := ((pieces b).map S).map V.str) (el_splitP (ev_var rfl) (by rw [← lit_dash]; exact ev_c) (by omega)) fun q H1 nq e1 hq => ?_
    refine q_asg (v := .str (S (lets b))) ?_ fun H2 e2 => ?_
    · refine ev_is (ev_joinL (K := K) (ys := (pieces b).map S) (sep := S []) (by rw [← lit_nil]; exact ev_c) (ev_var rfl) (sq_of hq) ?_) ?_
      · rw [sum_S, lets_flatten, S_length]; simp; omega
      · rw [join_nil, lets_flatten]
    have hq2 := e2 q _ hq
    have ew := wordOf_is hne
    refine q_when (b := decide ([] ∈ pieces b) || (!(decide (2 ≤ (lets b).length) && decide ((lets b).length ≤ 16)) || !(lets b).all isLetter)) (et_or (et_is (et_test (ev_op (x := .str (S [])) (y := .ref q) (by rw [← lit_nil]; exact ev_c) (ev_var rfl) (rv_isL (sq_of hq2) rfl (flat_S _)))) (inV_S _ _)) fun _ => et_or (et_not (et_is (et_B (ev_chain ev_c (ev_lens (ev_var rfl) (by omega)) ev_c)) ?_)) fun _ => et_not (et_B (el_letters (ev_var rfl) (by omega) (fun _ => rfl) (fun _ => rfl)))) (fun hb H3 e3 => ?_) (fun hb H3 e3 => ?_)
    · congr 1 <;> exact decide_eq_decide.mpr (by omega)
    · rw [if_pos] at ew
      · exact s_ret ev_c fun H4 e4 => k1 ew H4 (((e1.trans e2).trans e3).trans e4)
      · rw [Bool.or_eq_true, Bool.or_eq_true] at hb
        rcases hb with h | h | h
        · exact .inl (of_decide_eq_true h)
        · refine .inr (.inl ?_)
          simp at h
          omega
        · refine .inr (.inr ?_)
          simpa using h
    · rw [if_neg] at ew
      · have e13 := (e1.trans e2).trans e3
        refine q_asgL (xs := []) (el_lst ea_nil (by simp)) fun g H4 ng e4 hg => ?_
        apply q_asg
        · repeat' trivial
        intro H5 e5
        have hq5 : H5 q = some (.lst (((pieces b).map S).map V.str)) := (e3.trans (e4.trans e5)) q _ hq2
        refine q_forNL (el_sl (ev_var rfl) eo_none (eo_some (ev_un ev_c ru_neg)) (sq_of hq5)) (fun p i σ' H' => ∃ pv, σ' = [some (.str (S b)), some (.ref q), some (.str (S (lets b))), some (.ref g), some (iv (tot ((pieces b).dropLast.take i))), pv, none] ∧ H g = none ∧ Ex H H' ∧
          H' p = some (.lst (cutV (((pieces b).map S).map V.str) none (some (-1)))) ∧ p ≠ g ∧ H' g = some (.lst (nv (sums 0 ((pieces b).dropLast.take i))))) (fun p H6 np e6 hp => ⟨_, rfl, fresh_back e13 ng, (e13.trans (e4.trans e5)).trans e6, hp, fun z => ?_, (e5.trans e6) g _ hg⟩) (fun p i σ' H' hi h => ?_) (fun p i x σ' H' hx h => ?_) (fun p σ' H' h => ?_)
        · rw [z, e5 g _ hg] at np; cases np
        · obtain ⟨_, _, _, _, h, _⟩ := h
          exact sq_of h
        · obtain ⟨pv, rfl, hg0, eH, hp, npg, hgH⟩ := h
          rw [cutV_last, ← List.map_dropLast, ← List.map_dropLast, List.map_map] at hx
          obtain ⟨pc, hpc, rfl⟩ := of_map_get hx
          have htk := take_snoc hpc
          have hpl : pc.length ≤ b.length := by
            have h1 := List.mem_of_getElem? hpc
            have h2 : pc ∈ pieces b := List.dropLast_subset _ h1
            have h3 := List.Sublist.length_le (List.sublist_flatten_of_mem h2)
            rw [lets_flatten] at h3
            omega
          have hil : i ≤ b.length := by
            have h1 := (List.getElem?_eq_some_iff.mp hpc).1
            rw [List.length_dropLast] at h1
            omega
          refine q_asg (v := iv (tot ((pieces b).dropLast.take i) + pc.length)) (ev_op (ev_var rfl) (ev_lens (ev_var rfl) (by omega)) rv_I0) fun H6 e6 => ?_
          refine s_app (e6 g _ hgH) (ev_var rfl) (ev_var rfl) (by unfold nv; rw [List.length_map, sums_length, List.length_take]; omega) fun H7 e7 => ?_
          refine ⟨_, by rw [htk, tot_snoc]; rfl, hg0, Ex.mut ((eH.trans e6).trans e7) hg0, ?_, npg, ?_⟩
          · rw [upd_ne npg]; exact (e6.trans e7) p _ hp
          · rw [upd_same, htk, sums_snoc, Nat.zero_add]
            unfold nv
            rw [List.map_append]
            rfl
        · obtain ⟨pv, rfl, hg0, eH, hp, npg, hgH⟩ := h
          have etk : (pieces b).dropLast.take (cutV (((pieces b).map S).map V.str) none (some (-1))).length = (pieces b).dropLast := by
            rw [cutV_last]
            refine List.take_of_length_le ?_
            simp
          rw [etk] at hgH
          rw [etk]
          refine ⟨_, rfl, _, rfl, g, _, rfl, Or.inl ⟨sq_of hgH, fun l hl' => ?_⟩⟩
          refine ⟨by show 2 ≤ sizeLine; decide, fun p2 hp2 => ?_⟩
          refine k2 _ ew _ _ (((eH.trans (Ex.new hl')).trans (Ex.new hp2))) ⟨p2, l, rfl, upd_same, ?_⟩
          rw [pre_sums]
          rw [upd_ne, upd_same]
          intro z
          rw [← z, upd_same] at hp2
          cases hp2
      · intro h
        rw [Bool.or_eq_false_iff, Bool.or_eq_false_iff] at hb
        obtain ⟨h1, h2, h3⟩ := hb
        rcases h with h | h | h
        · exact absurd h (of_decide_eq_false h1)
        · simp at h2
          omega
        · simp at h3
          exact h (List.all_eq_true.mpr h3)
end
end Pw

set_option Elab.async false
set_option linter.all false
set_option maxRecDepth 100000
set_option maxHeartbeats 4000000
namespace Pw
open PySem PySem.Spec PyProof.Rows L2 Evl
open VahypBase (Bytes inChunk isLetter isDigit lex Toks isBlank PTok)
open Vahypa (Word Pat wordOf patOf takeMargin)
local macro_rules | `(tactic| trivial) => `(tactic| first
  | with_reducible exact ev_c
  | ((with_reducible apply ev_var); exact rfl)
  | with_reducible apply et_test
  | with_reducible apply et_B
  | with_reducible apply et_not
  | with_reducible exact rv_I0
  | with_reducible exact rv_isN
  | with_reducible exact rv_notN
  | with_reducible exact rv_in _
  | with_reducible exact rv_inF _
  | with_reducible exact rv_eq rfl
  | with_reducible exact rv_ne rfl
  | with_reducible exact ru_neg
  | with_reducible apply ev_chain
  | with_reducible apply ev_op
  | with_reducible apply ev_un
  | with_reducible exact ea_nil
  | with_reducible apply ea_cons
  | with_reducible exact eo_none
  | with_reducible apply eo_some
  | with_reducible assumption)
theorem ixN_last (n : Nat) : ixN (n + 1) (-1) = some n := by
  unfold ixN
  rw [if_neg (by decide), if_pos (by omega)]
  congr 1
  omega
theorem atI_last {xs : List V} {u : V} : atI (xs ++ [u]) (-1) = some u := by
  unfold atI
  rw [List.length_append, List.length_singleton, ixN_last]
  simp
section
variable {K : PySem.W.Frag} {σ : L2.St} {H : Hp} {te ta tb : TE} {D : Ends} {tu tz : TS} {v u : V}
theorem s_setLast {l : Addr} {xs : List V} (hl : H l = some (.lst (xs ++ [u]))) (h : Ev te σ H v) (ho : Ev ta σ H (.ref l)) (hi : Ev tb σ H (.int (-1))) (k : ∀ H1, Ex H H1 → D.nx σ (upd H1 l (.lst (xs ++ [v])))) :
    tAsg te (gSub ta tb rSetL) D σ H := h H (Ex.refl H) _ fun H1 e1 => ho H1 e1 _ fun H2 e2 => hi H2 (e1.trans e2) _ fun H3 e3 =>
  ⟨l, xs ++ [u], -1, xs.length, rfl, rfl, ((e1.trans e2).trans e3) l _ hl, by rw [List.length_append, List.length_singleton, ixN_last], by
    have e : (xs ++ [u]).set xs.length v = xs ++ [v] := by rw [List.set_append_right _ _ (Nat.le_refl _), Nat.sub_self]; rfl
    rw [e]
    exact k H3 ((e1.trans e2).trans e3)⟩
theorem q_forStr {b : Bytes} {j : Nat} (h : Ev te σ H (.str (S b))) (Pv : Nat → L2.St → Hp → Prop) (h0 : ∀ H1, Ex H H1 → Pv 0 σ H1)
    (hs : ∀ i c σ' H', b[i]? = some c → Pv i σ' H' → tu { D with nx := Pv (i + 1), ct := Pv (i + 1), bk := tz D } (σ'.set j (some (sg c))) H') (hd : ∀ σ' H', Pv b.length σ' H' → tz D σ' H') : tSeq (tFor (iStr te) (gName j) tu) tz D σ H :=
  h H (Ex.refl H) _ fun H1 e => ⟨S b, rfl, for_it (D := { D with nx := tz D }) walk_str Pv (h0 H1 e) (fun _ _ _ _ _ => trivial) (fun i x σ' H2 H3 hi p y => by
    obtain ⟨rfl, c, hc, rfl⟩ := y
    obtain ⟨a, ha, rfl⟩ := S_get hc
    exact hs i a σ' _ ha p) (fun σ' H' p => hd σ' H' (by rw [S_size] at p; exact p))⟩
end
theorem ldp_shape : ∀ (b x : Bytes) (vs : List Nat) (v : Nat) {p : Bytes × List Nat}, ldp b x vs v = some p → vs.length = x.length → x.all isLetter = true → (∀ u ∈ vs, u ≤ 9) → v ≤ 9 → p.2.length = p.1.length + 1 ∧ p.1.all isLetter = true ∧ ∀ u ∈ p.2, u ≤ 9
  | [], x, vs, v, p, e, hl, ha, hv, h9 => by
    cases e
    refine ⟨by simp [hl], ha, fun u m => ?_⟩
    rcases List.mem_append.mp m with m | m
    · exact hv u m
    · rw [List.mem_singleton.mp m]; exact h9
  | c :: r, x, vs, v, p, e, hl, ha, hv, h9 => by
    unfold ldp at e
    by_cases h : isLetter c = true
    · rw [if_pos h] at e
      refine ldp_shape r _ _ _ e (by simp [hl]) (by rw [List.all_append, ha]; simp [h]) (fun u m => ?_) (by omega)
      rcases List.mem_append.mp m with m | m
      · exact hv u m
      · rw [List.mem_singleton.mp m]; exact h9
    · rw [if_neg h] at e
      by_cases h2 : isDigit c = true ∧ c ≠ 48 ∧ v = 0
      · rw [if_pos h2] at e
        refine ldp_shape r _ _ _ e hl ha hv ?_
        have := h2.1
        unfold isDigit at this
        simp at this
        omega
      · rw [if_neg h2] at e; cases e
theorem ldp_cons (c : UInt8) (r x : Bytes) (vs : List Nat) (v : Nat) : ldp (c :: r) x vs v = if isLetter c = true then ldp r (x ++ [c]) (vs ++ [v]) 0
    else if isDigit c = true ∧ c ≠ 48 ∧ v = 0 then ldp r x vs (c.toNat - 48) else none := rfl
theorem ldp_len : ∀ (b x : Bytes) (vs : List Nat) (v : Nat) {p : Bytes × List Nat}, ldp b x vs v = some p → p.1.length ≤ x.length + b.length
  | [], x, vs, v, p, e => by cases e; simp
  | c :: r, x, vs, v, p, e => by
    rw [ldp_cons] at e
    split at e
    · have := ldp_len r _ _ _ e
      simp at this ⊢
      omega
    · split at e
      · have := ldp_len r _ _ _ e
        simp at this ⊢
        omega
      · cases e
theorem ldp_ok {b : Bytes} {p : Bytes × List Nat} (h : ldp b [] [] 0 = some p) : p.2.length = p.1.length + 1 ∧ p.1.all isLetter = true ∧ ∀ u ∈ p.2, u ≤ 9 := ldp_shape b [] [] 0 h rfl rfl (fun _ m => by cases m) (by omega)
theorem patOf_ok {b : Bytes} {p : Pat} (h : patOf b = some p) : POk p := by
  rw [patOf_is] at h
  cases e : ldp (bodyOf (sigs b)) [] [] 0 with
  | none => rw [e] at h; cases h
  | some q =>
    rw [e] at h
    obtain ⟨h1, h2, h3⟩ := ldp_ok e
    have h' : (if ¬ (1 ≤ q.1.length ∧ q.1.length ≤ 6) ∨ q.2.all (fun v => v == 0) = true then none else some (Pat.mk (frontOf b) q.1 (endOf b) q.2)) = some p := h
    split at h'
    · cases h'
    · rename_i hn
      cases h'
      have hn1 : 1 ≤ q.1.length ∧ q.1.length ≤ 6 := by
        by_cases z : 1 ≤ q.1.length ∧ q.1.length ≤ 6
        · exact z
        · exact absurd (.inl z) hn
      exact ⟨hn1.1, hn1.2, h2, h1, h3⟩
theorem max_of : ∀ (l : List Nat), l ≠ [] → ∃ m, m ∈ l ∧ (∀ y, y ∈ l → y ≤ m) ∧ (decide (m = 0) = l.all (fun v => v == 0))
  | [], h => absurd rfl h
  | [a], _ => ⟨a, by simp, by simp, by rw [List.all_cons, List.all_nil, Bool.and_true]; rfl⟩
  | a :: b :: r, _ => by
    obtain ⟨m, h1, h2, h3⟩ := max_of (b :: r) (by simp)
    rw [List.all_cons, ← h3]
    by_cases h : a ≤ m
    · refine ⟨m, List.mem_cons_of_mem _ h1, fun y hy => ?_, ?_⟩
      · rcases List.mem_cons.mp hy with z | z
        · omega
        · exact h2 y z
      · by_cases h0 : m = 0
        · have : a = 0 := by omega
          simp [h0, this]
        · simp [h0]
    · refine ⟨a, by simp, fun y hy => ?_, ?_⟩
      · rcases List.mem_cons.mp hy with z | z
        · omega
        · have := h2 y z; omega
      · have : a ≠ 0 := by omega
        simp [this]
theorem cutBody (s : Bytes) : (if (s.getLast? == some 46) = true then cutS (S s) none (some (-1)) else S s) = S (bodyOf s) := by
  unfold bodyOf
  by_cases h : s.getLast? = some 46
  · rw [if_pos (by rw [h]; rfl), if_pos h, cut_last]
  · rw [if_neg (by simpa using h), if_neg h]
theorem bodyOf_len (s : Bytes) : (bodyOf s).length ≤ s.length := by
  unfold bodyOf
  split
  · rw [List.length_dropLast]; omega
  · exact Nat.le_refl _
theorem sigs_len (b : Bytes) : (sigs b).length ≤ b.length := by
  unfold sigs
  split
  · rw [List.length_drop]; omega
  · exact Nat.le_refl _
section
variable {P : Program} {w : World} {K : PySem.W.Frag} {mg : Str → Option Value} {base : Heap} {A : Ads}
abbrev s_letters_and_digits : Stmt := top 40
abbrev N_letters_and_digits : List Str := ["signs", "letters", "digits", "sign"]
abbrev P_letters_and_digits : List Str := ["signs"]
theorem sc_letters_and_digits : FnScope N_letters_and_digits P_letters_and_digits (defScope s_letters_and_digits) := ⟨rfl, rfl, rfl, by decide +kernel, rfl, by decide +kernel, by decide +kernel⟩
theorem ok_letters_and_digits {f : Addr} {fd : FuncData} (F : Fun K "letters_and_digits" "letters_and_digits" s_letters_and_digits f fd) (T : Txt K mg A) : FnOk P w K mg base CX0 1 f fd P_letters_and_digits spLd := by
  refine F.ok sc_letters_and_digits (fun vs H Q E h => ?_) (fun cdv A' outer s H vs Q E hr h => ⟨_,
    (pss_cons (ps_set (i := 1) sc_letters_and_digits.nd rfl (Or.inl rfl) pe_str)
    (pss_cons (ps_set (i := 2) sc_letters_and_digits.nd rfl (Or.inl rfl) (pe_lst (pa_cons pe_int pa_nil)))
    (pss_cons (ps_for PassesOwn.never rfl (pi_str (pv 0)) (pg_name (i := 3) sc_letters_and_digits.nd rfl (Or.inl rfl)) (pss_one (ps_if (pt_cmpR op_inS (pv 3) (pe_gs T.g_LETTERS rfl) (by rfl)) (pss_cons (ps_set (i := 1) sc_letters_and_digits.nd rfl (Or.inl rfl) (pe_op ow_adds (pv 1) (pv 3)))
    (pss_one (ps_expr (pe_bm PySem.F.plainAttrs_list PySem.F.slot_list_append PySem.F.type_list_append mt_append (pv 2) (pa_cons pe_int pa_nil))))) (pss_one (ps_if (PW.pt (pw_and (pt_cmpR op_inS (pv 3) (pe_gs T.g_FIGURES rfl) (by rfl)) (pw_and (pt_cmpR op_ne (pv 3) pe_str (nomark _)) (pw_and1 (pt_cmpR op_eq (pe_ix ix_list (pv 2) (pe_un un_neg pe_int) (fun _ _ => rfl)) pe_int (nomark _)))))) (pss_one (ps_asg (pe_m1 PySem.F.slot_str_index PySem.F.type_str_index mw_index (pe_gs T.g_FIGURES rfl) (pv 3)) (pg_sub (pv 2) (pe_un un_neg pe_int) set_list))) (pss_one (ps_ret pe_non)))))))
    (pss_one (ps_ret (pe_tup (pa_cons (pv 1) (pa_cons (pe_callTy cw_tup (by rfl) T.n_tuple (by decide +kernel) (pa_cons (pv 2) pa_nil)) pa_nil))))))))
    , ?_⟩)
  · obtain ⟨b, rfl, _⟩ := h
    rfl
  · obtain ⟨b, rfl, hz, k⟩ := h
    refine q_asg (v := .str (S [])) (by rw [← lit_nil]; exact ev_c) fun H1 e1 => ?_
    refine q_asgL (xs := [iv 0]) (el_lst (ea_cons ev_c ea_nil) (by simp)) fun d H2 nd e2 hd => ?_
    refine q_forStr (b := b) (ev_var rfl) (fun i σ' H' => ∃ sv X vs v, σ' = [some (.str (S b)), some (.str (S X)), some (.ref d), sv] ∧ Ex H H' ∧ H d = none ∧ H' d = some (.lst (nv vs ++ [iv v])) ∧ ldp b [] [] 0 = ldp (b.drop i) X vs v ∧ X.length ≤ i ∧ vs.length ≤ i)
      (fun H3 e3 => ⟨none, [], [], 0, rfl, (e1.trans e2).trans e3, fresh_back e1 nd, e3 d _ hd, rfl, Nat.le_refl _, Nat.le_refl _⟩) (fun i c σ' H' hc h => ?_) (fun σ' H' h => ?_)
    · obtain ⟨sv, X, vs, v, rfl, eH, nd0, hd', hl, hX, hvs⟩ := h
      have hib : i < b.length := (List.getElem?_eq_some_iff.mp hc).1
      have ed : b.drop i = c :: b.drop (i + 1) := by
        rw [List.drop_eq_getElem_cons hib]
        congr 1
        exact (List.getElem?_eq_some_iff.mp hc).2
      rw [ed, ldp_cons] at hl
      refine s_if (b := isLetter c) (et_test (ev_op (ev_var rfl) ev_c (rv_in c))) (fun hb H3 e3 => ?_) (fun hb H3 e3 => ?_)
      · have hl' : ldp b [] [] 0 = ldp (b.drop (i + 1)) (X ++ [c]) (vs ++ [v]) 0 := by
          rw [if_pos hb] at hl
          exact hl
        refine q_asg (v := .str (S (X ++ [c]))) (ev_op (ev_var rfl) (ev_var rfl) (rv_adds (b := [c]) (by simp; omega))) fun H4 e4 => ?_
        have hd4 := (e3.trans e4) d _ hd'
        refine s_app hd4 (ev_var rfl) ev_c (by unfold nv; simp; omega) fun H5 e5 => ?_
        refine ⟨_, X ++ [c], vs ++ [v], 0, rfl, Ex.mut (((eH.trans e3).trans e4).trans e5) nd0, nd0, ?_, hl', by simp; omega, by simp; omega⟩
        rw [upd_same]
        unfold nv
        rw [List.map_append]
        rfl
      · have hd3 := e3 d _ hd'
        have hl' : ldp b [] [] 0 = if isDigit c = true ∧ c ≠ 48 ∧ v = 0 then ldp (b.drop (i + 1)) X vs (c.toNat - 48) else none := by
          rw [if_neg (by rw [hb]; decide)] at hl
          exact hl
        refine s_if (b := isDigit c && (!decide (c = 48) && decide (v = 0))) (et_and (et_test (ev_op (ev_var rfl) ev_c (rv_inF c))) fun _ => et_and (et_is (et_test (ev_op (ev_var rfl) ev_c (rv_ne rfl))) ?_) fun _ => et_is (et_test (ev_op (ev_op (ev_var rfl) (ev_un ev_c ru_neg) (rv_ixL (sq_of hd3) atI_last)) ev_c (rv_eq rfl))) ?_) (fun hb2 H4 e4 => ?_) (fun hb2 H4 e4 => ?_)
        · rw [lit_zero]
          show (!decide (V.str (S [c]) = V.str (S [48]))) = _
          rw [dec_S]
          simp
        · rw [dec_int]
          by_cases h0 : v = 0
          · subst h0; rfl
          · rw [decide_eq_false h0]; exact beq_eq_false_iff_ne.mpr (by omega)
        · rw [Bool.and_eq_true, Bool.and_eq_true] at hb2
          have h1 : isDigit c = true ∧ c ≠ 48 ∧ v = 0 := ⟨hb2.1, by simpa using hb2.2.1, by simpa using hb2.2.2⟩
          rw [if_pos h1] at hl'
          refine s_setLast (e4 d _ hd3) (v := iv (c.toNat - 48)) (ev_fig h1.1 ev_c (ev_var rfl)) (ev_var rfl) (ev_un ev_c ru_neg) fun H5 e5 => ?_
          exact ⟨_, X, vs, c.toNat - 48, rfl, Ex.mut (((eH.trans e3).trans e4).trans e5) nd0, nd0, upd_same, hl', by omega, by omega⟩
        · rw [if_neg (fun z => by
            have : (isDigit c && (!decide (c = 48) && decide (v = 0))) = true := by
              rw [Bool.and_eq_true, Bool.and_eq_true]
              exact ⟨z.1, by simpa using z.2.1, by simpa using z.2.2⟩
            rw [hb2] at this; cases this)] at hl'
          exact s_ret ev_c fun H5 e5 => k _ _ (((eH.trans e3).trans e4).trans e5) (by rw [hl']; rfl)
    · obtain ⟨sv, X, vs, v, rfl, eH, nd0, hd', hl, hX, hvs⟩ := h
      rw [List.drop_length] at hl
      refine ⟨_, rfl, _, rfl, d, _, rfl, Or.inl ⟨sq_of hd', fun l hl' => ⟨by show 2 ≤ sizeLine; decide, fun p2 hp2 => ?_⟩⟩⟩
      refine k _ _ ((eH.trans (Ex.new hl')).trans (Ex.new hp2)) ?_
      rw [hl]
      refine ⟨p2, l, rfl, upd_same, ?_⟩
      rw [upd_ne, upd_same]
      · unfold nv
        rw [List.map_append]
        rfl
      · intro z
        rw [← z, upd_same] at hp2
        cases hp2
abbrev s_pattern_of : Stmt := top 41
abbrev N_pattern_of : List Str := ["chunk", "front", "signs", "end", "found"]
abbrev P_pattern_of : List Str := ["chunk"]
theorem sc_pattern_of : FnScope N_pattern_of P_pattern_of (defScope s_pattern_of) := ⟨rfl, rfl, rfl, by decide +kernel, rfl, by decide +kernel, by decide +kernel⟩
theorem ok_pattern_of {f : Addr} {fd : FuncData} (F : Fun K "pattern_of" "pattern_of" s_pattern_of f fd) (T : Txt K mg A) (f_letters_and_digits : Cal P w K mg base CX0 1 "letters_and_digits" P_letters_and_digits spLd) : FnOk P w K mg base CX0 2 f fd P_pattern_of spPatOf := by
  refine F.ok sc_pattern_of (fun vs H Q E h => ?_) (fun cdv A' outer s H vs Q E hr h => ⟨_,
    (pss_cons (ps_set (i := 1) sc_pattern_of.nd rfl (Or.inl rfl) (pe_m1 PySem.F.slot_str_startswith PySem.F.type_str_startswith mw_starts (pv 0) pe_str))
    (pss_cons (ps_set (i := 2) sc_pattern_of.nd rfl (Or.inl rfl) (pe_ifExp (pt_val (pv 1)) (pe_slice sl_str (pv 0) (po_some pe_int) po_none) (pv 0)))
    (pss_cons (ps_set (i := 3) sc_pattern_of.nd rfl (Or.inl rfl) (pe_m1 PySem.F.slot_str_endswith PySem.F.type_str_endswith mw_ends (pv 2) pe_str))
    (pss_cons (ps_set (i := 4) sc_pattern_of.nd rfl (Or.inl rfl) (pe_callU f_letters_and_digits (hr.mono (by decide)) rfl (fun _ => pz) (pa_cons (pe_ifExp (pt_val (pv 3)) (pe_slice sl_str (pv 2) po_none (po_some (pe_un un_neg pe_int))) (pv 2)) pa_nil)))
    (pss_cons (ps_if (PW.pt (pw_or (pt_cmpR op_isN1 (pv 4) pe_non (nomark _)) (pw_or (pt_not (pt_chain op_le op_le pe_int (pe_callB cw_lens (by rfl) T.n_len PySem.boot_len (pa_cons (pe_ix ix_tup (pv 4) pe_int (fun _ _ => rfl)) pa_nil)) (pe_gi T.g_MOST_OF_PATTERN rfl))) (pw_or1 (pt_cmpR op_eq (pe_callB (cr_maxT rfl) (by rfl) T.n_max (by decide +kernel) (pa_cons (pe_ix ix_tup (pv 4) pe_int (fun _ _ => rfl)) pa_nil)) pe_int (nomark _)))))) (pss_one (ps_ret pe_non)) pss_nil)
    (pss_one (ps_ret (pe_tup (pa_cons (pe_ix ix_tup (pv 4) pe_int (fun _ _ => rfl)) (pa_cons (pe_ix ix_tup (pv 4) pe_int (fun _ _ => rfl)) (pa_cons (pv 1) (pa_cons (pv 3) pa_nil))))))))))))
    , ?_⟩)
  · obtain ⟨b, rfl, _⟩ := h
    rfl
  · obtain ⟨b, rfl, hz, k1, k2⟩ := h
    have hs1 := sigs_len b
    have hs2 := bodyOf_len (sigs b)
    refine q_asg (v := .bl (frontOf b)) (ev_is (ev_starts (b := S [46]) (ev_var rfl) (by rw [← lit_dot]; exact ev_c)) (by rw [starts_dot]; rfl)) fun H1 e1 => ?_
    refine q_asg (v := .str (S (sigs b))) (ev_if (b := frontOf b) (et_test (ev_var rfl)) (fun hb => ?_) (fun hb => ?_)) fun H2 e2 => ?_
    · refine ev_is (ev_slS (ev_var rfl) (eo_some ev_c) eo_none (by omega)) ?_
      rw [cut_first]
      unfold sigs
      rw [if_pos hb]
    · refine ev_is (ev_var rfl) ?_
      unfold sigs
      rw [if_neg (by rw [hb]; decide)]
    refine q_asg (v := .bl (endOf b)) (ev_is (ev_ends (b := S [46]) (ev_var rfl) (by rw [← lit_dot]; exact ev_c)) (by rw [ends_dot]; rfl)) fun H3 e3 => ?_
    refine q_asgP (Pv := LdV (ldp (bodyOf (sigs b)) [] [] 0)) (ep_callU (vs := [.str (S (bodyOf (sigs b)))]) (ea_cons (ev_if (b := endOf b) (et_test (ev_var rfl)) (fun hb => ?_) (fun hb => ?_)) ea_nil) (fun H4 e4 Q' q E' => ⟨_, rfl, by omega, fun v H5 e5 h5 => q v H5 e5 h5⟩)) fun v H4 e4 h4 => ?_
    · refine ev_is (ev_slS (ev_var rfl) eo_none (eo_some (ev_un ev_c ru_neg)) (by omega)) ?_
      rw [← cutBody, if_pos (show ((sigs b).getLast? == some 46) = true from hb)]
    · refine ev_is (ev_var rfl) ?_
      rw [← cutBody, if_neg (by rw [show ((sigs b).getLast? == some 46) = false from hb]; decide)]
    have e14 := ((e1.trans e2).trans e3).trans e4
    have ep := patOf_is b
    cases eld : ldp (bodyOf (sigs b)) [] [] 0 with
    | none =>
      rw [eld] at h4 ep
      have h4 : v = .non := h4
      subst h4
      refine q_when (b := true) (et_is (et_or (b := true) (et_test (ev_op (ev_var rfl) ev_c rv_isN)) fun z => by cases z) rfl) (fun _ H5 e5 => ?_) (fun z => by cases z)
      exact s_ret ev_c fun H6 e6 => k1 ep H6 ((e14.trans e5).trans e6)
    | some p =>
      rw [eld] at h4 ep
      obtain ⟨a, d, rfl, h4a, h4d⟩ := h4
      have ep : patOf b = if ¬ (1 ≤ p.1.length ∧ p.1.length ≤ 6) ∨ p.2.all (fun v => v == 0) = true then none else some (Pat.mk (frontOf b) p.1 (endOf b) p.2) := ep
      obtain ⟨o1, o2, o3⟩ := ldp_ok eld
      obtain ⟨m, m1, m2, m3⟩ := max_of p.2 (fun z => by rw [z] at o1; cases o1)
      have hpl := ldp_len _ _ _ _ eld
      rw [List.length_nil] at hpl
      have ex0 : ∀ H5, Ex H4 H5 → Ev (tOp (rIxT K) (tVar 4) (tC (.int 0))) [some (.str (S b)), some (.bl (frontOf b)), some (.str (S (sigs b))), some (.bl (endOf b)), some (.ref a)] H5 (.str (S p.1)) := fun H5 e5 => ev_op (ev_var rfl) ev_c (rv_ixT (st_of (e5 a _ h4a)) rfl)
      have ex1 : ∀ H5, Ex H4 H5 → Ev (tOp (rIxT K) (tVar 4) (tC (.int 1))) [some (.str (S b)), some (.bl (frontOf b)), some (.str (S (sigs b))), some (.bl (endOf b)), some (.ref a)] H5 (.ref d) := fun H5 e5 => ev_op (ev_var rfl) ev_c (rv_ixT (st_of (e5 a _ h4a)) rfl)
      refine q_when (b := false || (!(decide (1 ≤ p.1.length) && decide (p.1.length ≤ 6)) || p.2.all (fun v => v == 0))) (et_or (et_is (et_test (ev_op (ev_var rfl) ev_c rv_isN)) (decide_eq_false (fun z => by cases z))) fun _ => et_or (et_not (et_is (et_B (ev_chain ev_c (ev_lens (ex0 _ (Ex.refl _)) (by omega)) ev_c)) ?_)) fun _ => et_is (et_test (ev_op (ev_maxT (ns := p.2.map fun (n : Nat) => (n : Int)) (m := (m : Int)) (ex1 _ (Ex.refl _)) (st_of (by rw [List.map_map]; exact h4d)) (List.mem_map.mpr ⟨m, m1, rfl⟩) (fun y hy => ?_)) ev_c (rv_eq rfl))) ?_) (fun hb H5 e5 => ?_) (fun hb H5 e5 => ?_)
      · congr 1 <;> exact decide_eq_decide.mpr (by omega)
      · obtain ⟨n, hn, rfl⟩ := List.mem_map.mp hy
        have := m2 n hn
        omega
      · rw [← m3, dec_int]
        by_cases h0 : m = 0
        · subst h0; rfl
        · rw [decide_eq_false h0]; exact beq_eq_false_iff_ne.mpr (by omega)
      · refine s_ret ev_c fun H6 e6 => k1 ?_ H6 ((e14.trans e5).trans e6)
        rw [ep, if_pos]
        rw [Bool.false_or, Bool.or_eq_true] at hb
        rcases hb with h | h
        · left
          intro z
          rw [decide_eq_true z.1, decide_eq_true z.2] at h
          cases h
        · exact .inr h
      · rw [if_neg] at ep
        · refine s_retU (xs := [.str (S p.1), .ref d, .bl (frontOf b), .bl (endOf b)]) (eu_tup (ea_cons (ex0 _ e5) (ea_cons (ex1 _ e5) (ea_cons (ev_var rfl) (ea_cons (ev_var rfl) ea_nil)))) (by simp)) fun q H6 nq e6 hq => ?_
          exact k2 _ ep _ H6 ((e14.trans e5).trans e6) ⟨q, d, rfl, hq, (e5.trans e6) d _ h4d⟩
        · rw [Bool.false_or, Bool.or_eq_false_iff] at hb
          rintro (h | h)
          · have := hb.1
            rw [Bool.not_eq_false', Bool.and_eq_true, decide_eq_true_iff, decide_eq_true_iff] at this
            exact h this
          · rw [hb.2] at h; cases h
end
end Pw

set_option Elab.async false
set_option linter.all false
set_option maxRecDepth 100000
set_option maxHeartbeats 4000000
namespace L2
theorem Room.inU {k : Nat} {A : PySem.Around} (r : Room k A) : A.units + 65 < PySem.cLine := by
  have := r.un
  omega
end L2
namespace Pw
open PySem PySem.Spec PyProof.Rows L2 Evl
section
variable {X : Cx} {K : PySem.W.Frag}
theorem ix_tupK (h : X.K = K) : IxR X (rIxT K) := by subst h; exact ix_tup
theorem op_in_seqK (h : X.K = K) : OpR X (compareOp .In) (rIn K false) := by subst h; exact op_in_seq
theorem pg_tupK {es : List Expr} {k : Nat} {t : TGs} {n : Nat} {pos : Pos} (h0 : X.K = K) (hc : X.calm = true) (h : PGs X es t)
    (hn : (assignEach es X.env).length = n := by rfl) (hst : (assignEach es X.env).findIdx? (·.1) = none := by rfl) : PG X (.Tuple es k pos) (gTup K n t) := by subst h0; exact pg_tup hc h hn hst
theorem pe_fldK {o : Expr} {f : Str} {pos : Pos} {ta : TE} (h : X.K = K) (ha : PE X o ta) (hb : attributeBase o f X.env (eval o X.env) = eval o X.env) : PE X (.Attribute o f pos) (tFld K ta f) := by subst h; exact pe_fld ha hb
theorem mw_joinK (h : X.K = K) : MtR X "str.join" (rJoin K) := by subst h; exact mw_join
end
open VahypBase (Bytes inChunk isLetter isDigit lex Toks isBlank PTok)
open Vahypa (Word Pat wordOf patOf takeMargin)
section
variable {α : Type} {R R' : V → α → Prop}
theorem All2.zip : ∀ {vs : List V} {l : List α}, All2 R vs l → (vs.zip l).map Prod.fst = vs ∧ (vs.zip l).map Prod.snd = l ∧ ∀ p ∈ vs.zip l, R p.1 p.2
  | [], [], _ => ⟨rfl, rfl, fun _ m => by cases m⟩
  | v :: vs, a :: l, x => by
    obtain ⟨h1, h2, h3⟩ := All2.zip x.2
    refine ⟨?_, ?_, fun p m => ?_⟩
    · rw [List.zip_cons_cons, List.map_cons, h1]
    · rw [List.zip_cons_cons, List.map_cons, h2]
    · rw [List.zip_cons_cons] at m
      rcases List.mem_cons.mp m with m | m
      · rw [m]; exact x.1
      · exact h3 p m
  | [], _ :: _, x => x.elim
  | _ :: _, [], x => x.elim
end
/-- what te gives is new, and lies as o tells -/
def EvN (te : TE) (σ : L2.St) (H : Hp) (o : HO) : Prop := ∀ H1, Ex H H1 → ∀ Q : VK, (∀ p H2, H1 p = none → Ex H1 H2 → H2 p = some o → Q (.ref p) H2) → te σ H1 Q
/-- a list of new things -/
def News {α : Type} (f : α → HO) (D : Addr) (H0 H : Hp) : List V → List α → Prop := All2 fun v a => ∃ p, v = .ref p ∧ p ≠ D ∧ H0 p = none ∧ H p = some (f a)
section
variable {K : PySem.W.Frag} {σ : L2.St} {H : Hp} {te tl : TE} {g : TG}
theorem lc_new {J : It} {n : Nat} {G : Hp → Prop} {Y : Nat → Hp → V → Hp → Prop} (w : Walk J n G Y) {α : Type} (l : List α) (hn : n = l.length) (io : α → V) (f : α → HO) {H1 : Hp} {D : Addr} {vs : List Nat} (hz : l.length ≤ 40000)
    (hD : H1 D = none) (hG : ∀ H', Ex H1 H' → G H') (hY : ∀ i H' x H'', i < n → Ex H1 H' → Y i H' x H'' → H'' = H' ∧ ∃ a, l[i]? = some a ∧ x = io a)
    (ht : ∀ a H' (N : VK), a ∈ l → Ex H1 H' → (∀ p H2, H' p = none → Ex H' H2 → H2 p = some (f a) → N (.ref p) H2) → g (io a) (wipe σ vs) H' fun σ2 H2 => wipe σ2 vs = wipe σ vs ∧ te σ2 H2 N)
    {Qd : Hp → Prop} (hd : ∀ H' acc, Ex H1 H' → H' D = some (.lst acc) → News f D H1 H' acc l → Qd H')
    (gm : ∀ v σ H (N N' : L2.St → Hp → Prop), (∀ σ2 H2, N σ2 H2 → N' σ2 H2) → g v σ H N → g v σ H N') :
    ∃ W : Nat → Nat → Hp → Prop, (∃ m, W 0 m (upd H1 D (.lst []))) ∧ ∀ i m H, W i m H →
      (J.stop i H ∧ Qd H) ∨ (J.go i H ∧ ∃ Nx : Hp → Prop, (∀ H', Nx H' → ∃ m', m' < m ∧ W (i + 1) m' H') ∧ ∀ x H', J.yld i H x H' → g x (wipe σ vs) H' fun σ2 H2 => wipe σ2 vs = wipe σ vs ∧ tYes σ2 H2 fun b H3 =>
        if b = true then te σ2 H3 fun y H4 => ∃ acc, H4 D = some (.lst acc) ∧ acc.length < sizeLine ∧ Nx (upd H4 D (.lst (acc ++ [y]))) else Nx H3) := by
  refine lc_it w (fun i H' => Ex H1 H' ∧ ∃ acc, H' D = some (.lst acc) ∧ News f D H1 H' acc (l.take i)) ⟨Ex.new hD, [], upd_same, trivial⟩ (fun i H' _ q => hG H' q.1) (fun i x H' H'' hi q y => ?_) (fun H' q => ?_)
  · obtain ⟨q1, acc, q2, q3⟩ := q
    obtain ⟨e, a, ha, ex⟩ := hY i H' x H'' hi q1 y
    subst e ex
    have hm : a ∈ l := List.mem_of_getElem? ha
    have hlen : acc.length ≤ l.length := by
      have := q3.length
      rw [List.length_take] at this
      omega
    refine gm _ _ _ _ _ (fun σ2 H2 h => ⟨h.1, h.2⟩) (ht a H'' (fun y H4 => ∃ acc, H4 D = some (.lst acc) ∧ acc.length < sizeLine ∧ (Ex H1 (upd H4 D (.lst (acc ++ [y]))) ∧ ∃ acc', (upd H4 D (.lst (acc ++ [y]))) D = some (.lst acc') ∧ News f D H1 (upd H4 D (.lst (acc ++ [y]))) acc' (l.take (i + 1)))) hm q1 fun p H2 np e2 h2 => ?_)
    have npD : p ≠ D := fun z => by rw [z, q2] at np; cases np
    refine ⟨acc, e2 D _ q2, sz2 (by omega), Ex.mut (q1.trans e2) hD, _, upd_same, ?_⟩
    rw [take_snoc ha]
    refine All2.snoc ⟨p, rfl, npD, fresh_back q1 np, by rw [upd_ne npD]; exact h2⟩ (q3.mono fun v b => ?_)
    rintro ⟨c, h3, h4, h6, h5⟩
    exact ⟨c, h3, h4, h6, by rw [upd_ne h4]; exact e2 c _ h5⟩
  · obtain ⟨q1, acc, q2, q3⟩ := q
    rw [hn, List.take_length] at q3
    exact hd H' acc q1 q2 q3
theorem gm_name {j : Nat} : ∀ v σ H (N N' : L2.St → Hp → Prop), (∀ σ2 H2, N σ2 H2 → N' σ2 H2) → gName j v σ H N → gName j v σ H N' := fun _ _ _ _ _ h q => h _ _ q
end
theorem go_name {i : Nat} {v : V} {σ : L2.St} {H : Hp} {N : L2.St → Hp → Prop} (h : N (σ.set i (some v)) H) : gName i v σ H N := h
/-! ### the reader's methods in a statement -/
section
variable {A : Ads} {σ : L2.St} {H : Hp} {Q : VK} {E : L2.St → XK} {r : Addr} {t : PTok} {rest : Toks} {wd : Bytes} {z : Str} {i : Nat}
theorem RdrAt.ins {l : Toks} (h : RdrAt A H r l) : ∃ dx fs, H r = some (.ins A.R dx fs) ∧ ∀ m : Str, (["tokens", "at", "end"] : List Str).contains m = false → fs.lookup m = none := by
  obtain ⟨dx, ta, tv, n, e, l', h1, _⟩ := h
  exact ⟨dx, _, h1, fun m hm => lkR_no hm⟩
theorem m_take (hv : σ[i]? = some (some (.ref r))) (hR : RdrAt A H r (t :: rest)) (hz : z = S wd) (hne : wd ≠ []) (kE : tS t.tok ≠ S wd → Flt A 3 t.place H (E σ)) (k : tS t.tok = S wd → ∀ H2, RdrAt A H2 r rest → ExB r H H2 → Q (iv t.place) H2) :
    tMethU A.R "take" (spTake A) E (tVar i) (tCons (tC (.str z)) tNil) σ H Q := by
  obtain ⟨dx, fs, h1, h2⟩ := hR.ins
  subst hz
  exact ⟨_, hv, r, dx, fs, rfl, h1, h2 _ (by decide +kernel), r, t, rest, wd, rfl, hR, hne, kE, k⟩
theorem m_chunk (hv : σ[i]? = some (some (.ref r))) (hR : RdrAt A H r (t :: rest)) (kE : (∀ b, t.tok ≠ .chunk b) → Flt A 3 t.place H (E σ)) (k : ∀ b, t.tok = .chunk b → ∀ a H2, RdrAt A H2 r rest → ExB r H H2 → H2 a = some (.tup [iv t.place, .str (S b)]) → Q (.ref a) H2) :
    tMethU A.R "take_chunk" (spTakeC A) E (tVar i) tNil σ H Q := by
  obtain ⟨dx, fs, h1, h2⟩ := hR.ins
  exact ⟨_, hv, r, dx, fs, rfl, h1, h2 _ (by decide +kernel), r, t, rest, rfl, hR, kE, k⟩
theorem ev_next (hv : σ[i]? = some (some (.ref r))) (hR : RdrAt A H r (t :: rest)) (hz : z = S wd) : Ev (tMethU A.R "is_next" (spNext A) E (tVar i) (tCons (tC (.str z)) tNil)) σ H (.bl (decide (tS t.tok = S wd))) := by
  obtain ⟨dx, fs, h1, h2⟩ := hR.ins
  subst hz
  exact ev_methU (ev_var hv) h1 (h2 _ (by decide +kernel)) (ea_cons ev_c ea_nil) (spv_next hR)
theorem ev_done {l : Toks} (hv : σ[i]? = some (some (.ref r))) (hR : RdrAt A H r l) : Ev (tMethU A.R "is_done" (spDone A) E (tVar i) tNil) σ H (.bl (VahypBase.next .last l)) := by
  obtain ⟨dx, fs, h1, h2⟩ := hR.ins
  exact ev_methU (ev_var hv) h1 (h2 _ (by decide +kernel)) ea_nil (spv_done hR)
end
/-! ### words -/
theorem pre_in : ∀ (l : List Bytes) (k : Nat), (∀ p ∈ l, p ≠ []) → (pre k l).Nodup ∧ ∀ c ∈ pre k l, k < c ∧ c < k + tot l
  | [], _, _ => ⟨List.nodup_nil, fun _ m => by cases m⟩
  | p :: ps, k, h => by
    have ih := pre_in ps (k + p.length) fun q m => h q (List.mem_cons_of_mem _ m)
    have hp : 0 < p.length := List.length_pos_iff.mpr (h p List.mem_cons_self)
    have e : tot (p :: ps) = p.length + tot ps := by simp [tot]
    have e2 : pre k (p :: ps) = if ps = [] then [] else (k + p.length) :: pre (k + p.length) ps := rfl
    rw [e2]
    by_cases hn : ps = []
    · rw [if_pos hn]
      exact ⟨List.nodup_nil, fun _ m => by cases m⟩
    · rw [if_neg hn]
      refine ⟨List.nodup_cons.mpr ⟨fun m => ?_, ih.1⟩, fun c m => ?_⟩
      · have := ih.2 _ m
        omega
      · rw [e]
        rcases List.mem_cons.mp m with z | z
        · obtain ⟨q, qs, rfl⟩ : ∃ q qs, ps = q :: qs := List.exists_cons_of_ne_nil hn
          have hq : 0 < q.length := List.length_pos_iff.mpr (h q (by simp))
          have e3 : tot (q :: qs) = q.length + tot qs := by simp [tot]
          omega
        · have := ih.2 c z
          omega
theorem wordOf_ok {b : Bytes} (hb : b ≠ []) {w : Word} (h : wordOf b = some w) : WOk w := by
  rw [wordOf_is hb] at h
  split at h
  · cases h
  · rename_i hn
    cases h
    have h1 : [] ∉ pieces b := fun z => hn (.inl z)
    have h2 : 2 ≤ (lets b).length ∧ (lets b).length ≤ 16 := by
      by_cases z : 2 ≤ (lets b).length ∧ (lets b).length ≤ 16
      · exact z
      · exact absurd (.inr (.inl z)) hn
    have h3 : (lets b).all isLetter = true := by
      by_cases z : (lets b).all isLetter = true
      · exact z
      · exact absurd (.inr (.inr z)) hn
    obtain ⟨q1, q2⟩ := pre_in (pieces b) 0 fun p m z => h1 (z ▸ m)
    refine ⟨h2.1, h2.2, h3, q1, fun c m => ?_⟩
    have := q2 c m
    rw [tot_flat, lets_flatten] at this
    show 1 ≤ c ∧ c < (lets b).length
    omega
theorem tw_yes {n : Nat} {ws : List Word} {t : PTok} {rest : Toks} (h : VahypBase.tokEq t.tok (.chunk (VahypBase.word "word")) = true) : Vahypa.takeWords (n + 1) ws (t :: rest) = if 24 ≤ ws.length then .error ⟨4, t.place⟩ else (VahypBase.takeChunk rest).bind fun x => match wordOf x.2.1 with
      | none => .error ⟨7, x.1⟩
      | some w => if ws.any (fun v => v.x == w.x) = true then .error ⟨5, x.1⟩ else (VahypBase.takeSign 59 x.2.2).bind fun m => Vahypa.takeWords n (ws ++ [w]) m := by
  conv => lhs; unfold Vahypa.takeWords
  rw [if_pos (show VahypBase.nextWord "word" (t :: rest) = true from h)]
  rfl
theorem tw_no {n : Nat} {ws : List Word} {t : PTok} {rest : Toks} (h : VahypBase.tokEq t.tok (.chunk (VahypBase.word "word")) = false) : Vahypa.takeWords (n + 1) ws (t :: rest) = .ok (ws, t :: rest) := by
  conv => lhs; unfold Vahypa.takeWords
  rw [if_neg (by rw [show VahypBase.nextWord "word" (t :: rest) = false from h]; decide)]
theorem tp_done {n : Nat} {ps : List Pat} {l : Toks} (h : VahypBase.next .last l = true) : Vahypa.takePats (n + 1) ps l = .ok ps := by
  conv => lhs; unfold Vahypa.takePats
  rw [if_pos h]
theorem tp_no {n : Nat} {ps : List Pat} {t : PTok} {rest : Toks} (h : VahypBase.next .last (t :: rest) = false) (h2 : VahypBase.tokEq t.tok (.chunk (VahypBase.word "pattern")) = false) : Vahypa.takePats (n + 1) ps (t :: rest) = .error ⟨3, t.place⟩ := by
  conv => lhs; unfold Vahypa.takePats
  rw [if_neg (by rw [h]; decide)]
  have e : VahypBase.takeWord "pattern" (t :: rest) = .error ⟨3, t.place⟩ := by
    unfold VahypBase.takeWord VahypBase.taken
    rw [if_neg (by rw [show VahypBase.next (.chunk (VahypBase.word "pattern")) (t :: rest) = false from h2]; decide)]
    rfl
  rw [e]
  rfl
theorem tp_yes {n : Nat} {ps : List Pat} {t : PTok} {rest : Toks} (h : VahypBase.next .last (t :: rest) = false) (h2 : VahypBase.tokEq t.tok (.chunk (VahypBase.word "pattern")) = true) : Vahypa.takePats (n + 1) ps (t :: rest) = if 40 ≤ ps.length then .error ⟨4, t.place⟩ else (VahypBase.takeChunk rest).bind fun x => match patOf x.2.1 with
      | none => .error ⟨7, x.1⟩
      | some p => if ps.any (fun q => q.x == p.x && (q.front == p.front && q.halt_ == p.halt_)) = true then .error ⟨5, x.1⟩ else (VahypBase.takeSign 59 x.2.2).bind fun m => Vahypa.takePats n (ps ++ [p]) m := by
  conv => lhs; unfold Vahypa.takePats
  rw [if_neg (by rw [h]; decide)]
  have e : VahypBase.takeWord "pattern" (t :: rest) = .ok rest := by
    unfold VahypBase.takeWord VahypBase.taken
    rw [if_pos (show VahypBase.next (.chunk (VahypBase.word "pattern")) (t :: rest) = true from h2)]
    rfl
  rw [e]
  rfl
theorem tc_ok {pl : Nat} {b : Bytes} {rest : Toks} : VahypBase.takeChunk (⟨pl, .chunk b⟩ :: rest) = .ok (pl, b, rest) := rfl
theorem tc_bad {t : PTok} {rest : Toks} (h : ∀ b, t.tok ≠ .chunk b) : VahypBase.takeChunk (t :: rest) = .error ⟨3, t.place⟩ := by
  obtain ⟨pl, tok⟩ := t
  cases tok with
  | chunk b => exact absurd rfl (h b)
  | sign c => rfl
  | last => rfl
theorem ts_ok {t : PTok} {rest : Toks} (h : VahypBase.tokEq t.tok (.sign 59) = true) : VahypBase.takeSign 59 (t :: rest) = .ok rest := by
  unfold VahypBase.takeSign VahypBase.taken
  rw [if_pos (show VahypBase.next (.sign 59) (t :: rest) = true from h)]
  rfl
theorem ts_bad {t : PTok} {rest : Toks} (h : VahypBase.tokEq t.tok (.sign 59) = false) : VahypBase.takeSign 59 (t :: rest) = .error ⟨3, t.place⟩ := by
  unfold VahypBase.takeSign VahypBase.taken
  rw [if_neg (by rw [show VahypBase.next (.sign 59) (t :: rest) = false from h]; decide)]
  rfl
theorem any_x (ws : List Word) (w : Word) : ws.any (fun v => v.x == w.x) = decide (w.x ∈ ws.map Word.x) := by
  induction ws with
  | nil => rfl
  | cons v r ih =>
    rw [List.any_cons, ih, List.map_cons]
    by_cases h : v.x = w.x
    · rw [h]; simp
    · rw [show (v.x == w.x) = false from beq_eq_false_iff_ne.mpr h, Bool.false_or]
      refine decide_eq_decide.mpr ⟨fun m => List.mem_cons_of_mem _ m, fun m => ?_⟩
      rcases List.mem_cons.mp m with z | z
      · exact absurd z.symm h
      · exact z
theorem tok_b {t : PTok} (h : TokOk2 t) {b : Bytes} (e : t.tok = .chunk b) : b ≠ [] ∧ b.length ≤ 40 := by
  rcases h with (⟨b', e1, h1, _, z⟩ | e1) | e1
  · rw [e1] at e; cases e; exact ⟨h1, z⟩
  · rw [e1] at e; cases e
  · rw [e1] at e; cases e
end Pw

set_option Elab.async false
set_option linter.all false
set_option maxRecDepth 100000
set_option maxHeartbeats 4000000
namespace Pw
open PySem PySem.Spec PyProof.Rows L2 Evl
open VahypBase (Bytes inChunk isLetter isDigit lex Toks isBlank PTok)
open Vahypa (Word Pat wordOf patOf takeMargin takeWords takePats)
local macro_rules | `(tactic| trivial) => `(tactic| first
  | with_reducible exact ev_c
  | ((with_reducible apply ev_var); exact rfl)
  | with_reducible apply et_test
  | with_reducible apply et_B
  | with_reducible apply et_not
  | with_reducible exact rv_I0
  | with_reducible exact rv_isN
  | with_reducible exact rv_notN
  | with_reducible exact rv_in _
  | with_reducible exact rv_inF _
  | with_reducible exact rv_eq rfl
  | with_reducible exact rv_ne rfl
  | with_reducible exact ru_neg
  | with_reducible apply ev_chain
  | with_reducible apply ev_op
  | with_reducible apply ev_un
  | with_reducible exact ea_nil
  | with_reducible apply ea_cons
  | with_reducible exact eo_none
  | with_reducible apply eo_some
  | with_reducible assumption)
def spWords (A : Ads) : Sp := fun vs H Q E => ∃ (r : Addr) (l : Toks) (n : Nat), vs = [.ref r] ∧ RdrAt A H r l ∧ l.length < n ∧ (∀ f, takeWords n [] l = .error f → FltB A r f.code f.place H E) ∧
  (∀ ws rest, takeWords n [] l = .ok (ws, rest) → rest.length ≤ l.length → ∀ p H2 wv, H p = none → RdrAt A H2 r rest → ExB r H H2 → H2 p = some (.lst wv) → All2 (WrdV H2) wv ws → (∀ w ∈ ws, WOk w) → ws.length ≤ 24 → Q (.ref p) H2)
def spPats (A : Ads) : Sp := fun vs H Q E => ∃ (r : Addr) (l : Toks) (n : Nat), vs = [.ref r] ∧ RdrAt A H r l ∧ l.length < n ∧ (∀ f, takePats n [] l = .error f → FltB A r f.code f.place H E) ∧
  (∀ ps, takePats n [] l = .ok ps → ∀ p H2 pv, H p = none → ExB r H H2 → H2 p = some (.lst pv) → All2 (PatV H2) pv ps → (∀ p ∈ ps, POk p) → ps.length ≤ 40 → Q (.ref p) H2)
def WOr (o : Option Word) (v : V) (H : Hp) : Prop := match o with
  | none => v = .non
  | some w => WrdV H v w
def POr (o : Option Pat) (v : V) (H : Hp) : Prop := match o with
  | none => v = .non
  | some p => PatV H v p
theorem spp_word {b : Bytes} (h : b ≠ []) (hz : b.length ≤ 40) (H : Hp) : SpP spWordOf [.str (S b)] H (WOr (wordOf b)) := fun H1 e Q q E => ⟨b, rfl, h, hz, fun hn H2 e2 => q _ H2 e2 (by rw [hn]; rfl), fun w hw v H2 e2 hv => q v H2 e2 (by rw [hw]; exact hv)⟩
theorem spp_pat {b : Bytes} (hz : b.length ≤ 40) (H : Hp) : SpP spPatOf [.str (S b)] H (POr (patOf b)) := fun H1 e Q q E => ⟨b, rfl, hz, fun hn H2 e2 => q _ H2 e2 (by rw [hn]; rfl), fun w hw v H2 e2 hv => q v H2 e2 (by rw [hw]; exact hv)⟩
/-- where words_in stands -/
structure WAt (A : Ads) (H : Hp) (r g ta dx : Addr) (l : Toks) (n : Nat) (H' : Hp) (l' : Toks) (n' : Nat) (ws : List Word) (wv : List V) : Prop where
  rd : RdrAt A H' r l'
  eB : ExB r H H'
  tk : ∃ fs, H' r = some (.ins A.R dx (("tokens", .ref ta) :: fs))
  at_ : H' g = some (.lst wv)
  all : All2 (WrdV H') wv ws
  ok : ∀ w ∈ ws, WOk w
  len : ws.length ≤ 24
  fuel : l'.length < n'
  le : l'.length ≤ l.length
  eq : takeWords n [] l = takeWords n' ws l'
section
variable {P : Program} {w : World} {K : PySem.W.Frag} {mg : Str → Option Value} {base : Heap} {A : Ads}
abbrev s_words_in : Stmt := top 42
abbrev N_words_in : List Str := ["reader", "found", "place", "chunk", "word", "other"]
abbrev P_words_in : List Str := ["reader"]
theorem sc_words_in : FnScope N_words_in P_words_in (defScope s_words_in) := ⟨rfl, rfl, rfl, by decide +kernel, rfl, by decide +kernel, by decide +kernel⟩
theorem ok_words_in {f : Addr} {fd : FuncData} (F : Fun K "words_in" "words_in" s_words_in f fd) (T : Txt K mg A) (m_Reader_is_next : Met P w K mg base CX0 3 A.R "is_next" P_Reader_is_next (spNext A)) (m_Reader_take : Met P w K mg base (L2.CX P w) 4 A.R "take" P_Reader_take (spTake A))
    (m_Reader_take_chunk : Met P w K mg base (L2.CX P w) 3 A.R "take_chunk" P_Reader_take_chunk (spTakeC A)) (f_word_of : Cal P w K mg base CX0 1 "word_of" P_word_of spWordOf)
    (x_Fault : Xcl P w K mg base 1 A.F "Fault" ["self", "code", "place"] (spFault A)) : FnOk P w K mg base (L2.CX P w) 5 f fd P_words_in (spWords A) := by
  refine F.okX sc_words_in (fun vs H Q E h => ?_) (fun cdv A' outer s H vs Q E hr h => ⟨_,
    have pOwn := passes_of rfl
    (pss_cons (ps_set (i := 1) sc_words_in.nd rfl (Or.inl rfl) (pe_lst pa_nil))
    (pss_cons (ps_while pOwn (pt_val (pe_methU (pv 0) m_Reader_is_next (hr.mono (by decide)) (fun _ => pz) (pa_cons (pe_gs T.g_WORD rfl) pa_nil))) (pss_cons (ps_set (i := 2) sc_words_in.nd rfl (Or.inl rfl) (pe_methU (pv 0) m_Reader_take (hr.mono (by decide)) (fun q => passAt (takes_of rfl rfl rfl rfl) q) (pa_cons (pe_gs T.g_WORD rfl) pa_nil)))
    (pss_cons (ps_if (pt_cmpR op_eq (pe_callB cw_len (by rfl) T.n_len PySem.boot_len (pa_cons (pv 1) pa_nil)) (pe_gi T.g_MOST_WORDS rfl) (nomark _)) (pss_one (ps_raise rfl (takes_of rfl rfl rfl rfl) (pmk_U x_Fault (hr.mono (by decide)) (by rfl) (pa_cons (pe_gi T.g_TOO_MANY rfl) (pa_cons (pv 2) pa_nil))))) pss_nil)
    (pss_cons (ps_asg (pe_methU0 (pv 0) m_Reader_take_chunk (hr.mono (by decide)) (fun q => passAt (takes_of rfl rfl rfl rfl) q)) (pg_tup rfl (pgs_cons (pg_name (i := 2) sc_words_in.nd rfl (Or.inl rfl)) (pgs_cons (pg_name (i := 3) sc_words_in.nd rfl (Or.inl rfl)) pgs_nil))))
    (pss_cons (ps_set (i := 4) sc_words_in.nd rfl (Or.inl rfl) (pe_callU f_word_of (hr.mono (by decide)) rfl (fun _ => pz) (pa_cons (pv 3) pa_nil)))
    (pss_cons (ps_if (pt_cmpR op_isN1 (pv 4) pe_non (nomark _)) (pss_one (ps_raise rfl (takes_of rfl rfl rfl rfl) (pmk_U x_Fault (hr.mono (by decide)) (by rfl) (pa_cons (pe_gi T.g_BAD_CHUNK rfl) (pa_cons (pv 2) pa_nil))))) pss_nil)
    (pss_cons (ps_if (pt_cmpR op_in_seq (pe_ix ix_tup (pv 4) pe_int (fun _ _ => rfl)) (pe_lc rfl sc_words_in.nd (pi_list (pv 1)) (blkOk_by (own := [("other", 5)]) (N := N_words_in) (sc := defScope s_words_in) (by decide +kernel)) (fun _ _ _ _ _ => (pg_name (i := 5) sc_words_in.nd rfl (Or.inl rfl))) (fun _ _ _ _ _ => pts_nil) (fun _ _ _ _ _ => (pe_ix (ix_tupK (K := K) rfl) (pv 5) pe_int (fun _ _ => rfl)))) (by rfl)) (pss_one (ps_raise rfl (takes_of rfl rfl rfl rfl) (pmk_U x_Fault (hr.mono (by decide)) (by rfl) (pa_cons (pe_gi T.g_TAKEN rfl) (pa_cons (pv 2) pa_nil))))) pss_nil)
    (pss_cons (ps_expr (pe_methU (pv 0) m_Reader_take (hr.mono (by decide)) (fun q => passAt (takes_of rfl rfl rfl rfl) q) (pa_cons (pe_gs T.g_END_SIGN rfl) pa_nil)))
    (pss_one (ps_expr (pe_bm PySem.F.plainAttrs_list PySem.F.slot_list_append PySem.F.type_list_append mt_append (pv 1) (pa_cons (pv 4) pa_nil))))))))))))
    (pss_one (ps_ret (pv 1)))))
    , ?_⟩)
  · obtain ⟨r, l, n, rfl, _⟩ := h
    rfl
  · obtain ⟨r, l, n, rfl, hR, hn, k1, k2⟩ := h
    obtain ⟨dx, ta, tv, fs0, hr0, hta⟩ := hR.tk
    refine q_asgL (xs := []) (el_lst ea_nil (by simp)) fun g H1 ng e1 hg => ?_
    have nrg : g ≠ r := fun z => by rw [z, hr0] at ng; cases ng
    have ntg : ta ≠ g := fun z => by rw [z, ng] at hta; cases hta
    refine q_while (fun m σ' H' => ∃ l' n' ws wv v2 v3 v4, m = l'.length ∧ σ' = [some (.ref r), some (.ref g), v2, v3, v4, none] ∧ WAt A H r g ta dx l n H' l' n' ws wv) l.length
      ⟨l, n, [], [], none, none, none, rfl, rfl, ⟨hR.mono e1, ExB.of e1, ⟨_, e1 _ _ hr0⟩, hg, trivial, (fun _ z => by cases z), Nat.zero_le _, hn, Nat.le_refl _, rfl⟩⟩ ?_
    rintro m σ' H2 ⟨l', n', ws, wv, v2, v3, v4, rfl, rfl, I⟩
    obtain ⟨t, rest, rfl, ht1, ht2⟩ := I.rd.head
    obtain ⟨n', rfl⟩ : ∃ n'', n' = n'' + 1 := ⟨n' - 1, by have := I.fuel; omega⟩
    have htw := tS_word ht1 (w := VahypBase.word "word") (by decide +kernel) (by decide +kernel)
    have hfuel : rest.length < n' := by have := I.fuel; simp at this; omega
    refine ⟨VahypBase.tokEq t.tok (.chunk (VahypBase.word "word")), et_is (et_test (ev_next rfl I.rd lit_WORD)) htw, fun hb H3 e3 => ?_, fun hb H3 e3 => ?_⟩
    · have heq := I.eq
      rw [tw_yes hb] at heq
      have next : ∀ {σ2 : L2.St} {H' : Hp} {l2 : Toks} {ws2 : List Word} {wv2 : List V} {v2 v3 v4 : Option V}, l2.length < rest.length → σ2 = [some (.ref r), some (.ref g), v2, v3, v4, none] → WAt A H r g ta dx l n H' l2 n' ws2 wv2 →
          ∃ m', m' < (t :: rest).length ∧ ∃ l' n' ws wv v2 v3 v4, m' = l'.length ∧ σ2 = [some (.ref r), some (.ref g), v2, v3, v4, none] ∧ WAt A H r g ta dx l n H' l' n' ws wv := fun h1 h2 h3 => ⟨_, by simp; omega, _, _, _, _, _, _, _, rfl, h2, h3⟩
      refine ⟨fun σ2 H' => ∃ l2 ws2 wv2 v2 v3 v4, l2.length < rest.length ∧ σ2 = [some (.ref r), some (.ref g), v2, v3, v4, none] ∧ WAt A H r g ta dx l n H' l2 n' ws2 wv2, fun σ2 H' ⟨_, _, _, _, _, _, h1, h2, h3⟩ => next h1 h2 h3, ?_⟩
      clear next
      have hR3 := I.rd.mono e3
      have eB3 := I.eB.trans (ExB.of e3)
      refine m_take rfl hR3 lit_WORD (by decide +kernel) (fun h => absurd (of_decide_eq_true (htw.trans hb)) h) fun _ H4 hR4 eB4 => ?_
      have hW4 : All2 (WrdV H4) wv ws := (I.all.mono fun _ _ => WrdV.mono e3).mono fun _ _ h => by
        obtain ⟨fs, hfs⟩ := I.tk
        exact WrdV.exB eB4 (e3 _ _ hfs) h
      have hg4 : H4 g = some (.lst wv) := eB4.1 g _ nrg (e3 g _ I.at_)
      have eB04 := eB3.trans eB4
      have hlen : wv.length = ws.length := I.all.length
      obtain ⟨fsI, hfsI⟩ := I.tk
      obtain ⟨fs4, htk4⟩ := eB4.2 _ _ _ _ (e3 _ _ hfsI)
      refine go_name ?_
      dsimp only
      refine q_when (b := decide (24 ≤ ws.length)) (et_is (et_test (ev_op (ev_len (ev_var rfl) (sq_of hg4)) ev_c (rv_eq rfl))) ?_) (fun hc H5 e5 => ?_) (fun hc H5 e5 => ?_)
      · rw [dec_int, hlen]
        have := I.len
        by_cases h24 : ws.length = 24
        · rw [h24]; rfl
        · rw [decide_eq_false (show ¬ 24 ≤ ws.length by omega)]; exact beq_eq_false_iff_ne.mpr (by omega)
      · rw [if_pos (of_decide_eq_true hc)] at heq
        refine rd_fault (c := 4) (p := t.place) (by repeat' trivial) ((k1 ⟨4, t.place⟩ heq).at_ (eB04.trans (ExB.of e5)) (hR4.mono e5).there)
      · rw [if_neg (of_decide_eq_false hc)] at heq
        have h24 : ws.length < 24 := by have := of_decide_eq_false hc; omega
        have hR5 := hR4.mono e5
        obtain ⟨t2, rest2, rfl, ht21, ht22⟩ := hR5.head
        refine m_chunk rfl hR5 (fun hnc => ?_) fun b hb2 a H6 hR6 eB6 ha => ?_
        · rw [tc_bad hnc] at heq
          exact (k1 ⟨3, t2.place⟩ heq).at_ (eB04.trans (ExB.of e5)) hR5.there
        obtain ⟨pl2, tok2⟩ := t2
        have hb2 : tok2 = .chunk b := hb2
        subst hb2
        have hbb := tok_b ht21 (b := b) rfl
        rw [tc_ok] at heq
        have heq : takeWords n [] l = match wordOf b with
          | none => .error ⟨7, pl2⟩
          | some w => if ws.any (fun v => v.x == w.x) = true then .error ⟨5, pl2⟩ else (VahypBase.takeSign 59 rest2).bind fun m => takeWords n' (ws ++ [w]) m := heq
        have hW6 : All2 (WrdV H6) wv ws := (hW4.mono fun _ _ => WrdV.mono e5).mono fun _ _ h => WrdV.exB eB6 (e5 _ _ htk4) h
        have hg6 : H6 g = some (.lst wv) := eB6.1 g _ nrg (e5 g _ hg4)
        have eB06 := (eB04.trans (ExB.of e5)).trans eB6
        obtain ⟨fs6, htk6⟩ := eB6.2 _ _ _ _ (e5 _ _ htk4)
        refine ⟨a, _, rfl, st_of ha, rfl, _, _, rfl, _, _, rfl, rfl, ?_⟩
        dsimp only
        show tSeq (tAsg _ _) _ _ [some (.ref r), some (.ref g), some (iv pl2), some (.str (S b)), v4, none] H6
        refine q_asgP (Pv := WOr (wordOf b)) (ep_callU (ea_cons (ev_var rfl) ea_nil) (spp_word hbb.1 hbb.2 H6)) fun v H7 e7 hv => ?_
        have hR7 := hR6.mono e7
        have eB07 := eB06.trans (ExB.of e7)
        cases hwo : wordOf b with
        | none =>
          rw [hwo] at hv heq
          have hv : v = .non := hv
          subst hv
          refine q_when (b := true) (et_is (et_test (ev_op (ev_var rfl) ev_c rv_isN)) rfl) (fun _ H8 e8 => ?_) (fun z => by cases z)
          exact rd_fault (c := 7) (p := pl2) (by repeat' trivial) ((k1 ⟨7, pl2⟩ heq).at_ (eB07.trans (ExB.of e8)) (hR7.mono e8).there)
        | some wd =>
          rw [hwo] at hv heq
          have hvw : WrdV H7 v wd := hv
          obtain ⟨aw, cw, rfl, haw, hcw⟩ := hv
          have heq : takeWords n [] l = if ws.any (fun v => v.x == wd.x) = true then .error ⟨5, pl2⟩ else (VahypBase.takeSign 59 rest2).bind fun m => takeWords n' (ws ++ [wd]) m := heq
          refine q_when (b := false) (et_is (et_test (ev_op (ev_var rfl) ev_c rv_isN)) (decide_eq_false fun z => by cases z)) (fun z => by cases z) (fun _ H8 e8 => ?_)
          have hW8 : All2 (WrdV H8) wv ws := hW6.mono fun _ _ => WrdV.mono (e7.trans e8)
          have hg8 : H8 g = some (.lst wv) := (e7.trans e8) g _ hg6
          obtain ⟨z1, z2, z3⟩ := hW8.zip
          have hvl : wv.length ≤ 40000 := by omega
          refine q_when (b := ws.any (fun v => v.x == wd.x)) (et_is (et_test (ev_opL (xs := ((ws.map Word.x).map S).map V.str) (ev_op (ev_var rfl) ev_c (rv_ixT (st_of (e8 _ _ haw)) rfl)) ?_ fun p H9 hp e9 => rv_isL (sq_of hp) rfl (flat_S _))) ?_) (fun hc2 H9 e9 => ?_) (fun hc2 H9 e9 => ?_)
          · have z := el_lcL (K := K) (σ := [some (.ref r), some (.ref g), some (iv pl2), some (.str (S b)), some (.ref aw), none]) (H := H8) (tl := tVar 1) (t := tYes) (te := tOp (rIxT K) (tVar 5) (tC (.int 0))) (j := 5) (vs := [5]) (wv.zip ws) Prod.fst (fun _ => true) (fun p => V.str (S p.2.x)) (ev_var rfl) (sq_of (by rw [z1]; exact hg8)) (by simp; omega) (fun x => rfl) (fun _ _ _ _ => et_yes) (fun p H' hm ex _ => by
              obtain ⟨a', c', q1, q2, q3⟩ := z3 p hm
              rw [q1]
              exact ev_op (ev_var rfl) ev_c (rv_ixT (st_of (ex _ _ q2)) rfl))
            rw [filter_yes] at z
            have e0 : (wv.zip ws).map (fun p => V.str (S p.2.x)) = ((ws.map Word.x).map S).map V.str := by
              conv => rhs; rw [← z2]
              rw [List.map_map, List.map_map, List.map_map]
              rfl
            rw [e0] at z
            exact z
          · rw [inV_S, any_x]
          · rw [if_pos hc2] at heq
            have e79 := e8.trans e9
            exact rd_fault (c := 5) (p := pl2) (by repeat' trivial) ((k1 ⟨5, pl2⟩ heq).at_ (eB07.trans (ExB.of e79)) (hR7.mono e79).there)
          · rw [if_neg (by rw [hc2]; decide)] at heq
            have e79 := e8.trans e9
            have hR9 := hR7.mono e79
            obtain ⟨t3, rest3, rfl, ht31, ht32⟩ := hR9.head
            have hts := tS_sign ht31
            refine m_take rfl hR9 lit_END (by decide) (fun h => ?_) fun hs H10 hR10 eB10 => ?_
            · rw [ts_bad (by rw [← hts]; exact decide_eq_false h)] at heq
              exact (k1 ⟨3, t3.place⟩ heq).at_ (eB07.trans (ExB.of e79)) hR9.there
            · rw [ts_ok (by rw [← hts]; exact decide_eq_true hs)] at heq
              have heq : takeWords n [] l = takeWords n' (ws ++ [wd]) rest3 := heq
              obtain ⟨fs10, htk10⟩ := eB10.2 _ _ _ _ ((e7.trans e79) _ _ htk6)
              have hg10 : H10 g = some (.lst wv) := eB10.1 g _ nrg (e9 g _ hg8)
              have hW10 : All2 (WrdV H10) (wv ++ [.ref aw]) (ws ++ [wd]) := All2.snoc (WrdV.exB eB10 ((e7.trans e79) _ _ htk6) (hvw.mono e79)) ((hW8.mono fun _ _ => WrdV.mono e9).mono fun _ _ h => WrdV.exB eB10 ((e7.trans e79) _ _ htk6) h)
              dsimp only
              refine s_app hg10 (ev_var rfl) (ev_var rfl) (by omega) fun H11 e11 => ?_
              have hg11 := e11 g _ hg10
              refine ⟨rest3, ws ++ [wd], wv ++ [.ref aw], _, _, _, by simp; omega, rfl, ⟨(hR10.mono e11).app (e11 _ _ htk10) ntg hg11, ?_, ⟨fs10, by rw [upd_ne (Ne.symm nrg)]; exact e11 _ _ htk10⟩, upd_same, (hW10.mono fun _ _ => WrdV.mono e11).mono fun _ _ h => WrdV.app hg11 h, ?_, by simp; omega, by simp at hfuel; omega, by have := I.le; simp at this; omega, heq⟩⟩
              · exact ExB.mut (((eB07.trans (ExB.of e79)).trans eB10).trans (ExB.of e11)) ng nrg
              · intro w m
                rcases List.mem_append.mp m with m | m
                · exact I.ok w m
                · rw [List.mem_singleton.mp m]; exact wordOf_ok hbb.1 hwo
    · have heq := I.eq
      rw [tw_no hb] at heq
      refine s_ret (v := .ref g) (ev_var rfl) fun H4 e4 => ?_
      have e34 := e3.trans e4
      exact k2 _ _ heq I.le g H4 wv ng (I.rd.mono e34) (I.eB.trans (ExB.of e34)) (e34 g _ I.at_) (I.all.mono fun _ _ => WrdV.mono e34) I.ok I.len
end
end Pw

set_option Elab.async false
set_option linter.all false
set_option maxRecDepth 100000
set_option maxHeartbeats 4000000
namespace Pw
open PySem PySem.Spec PyProof.Rows L2 Evl
open VahypBase (Bytes inChunk isLetter isDigit lex Toks isBlank PTok)
open Vahypa (Word Pat wordOf patOf takeMargin takeWords takePats)
local macro_rules | `(tactic| trivial) => `(tactic| first
  | with_reducible exact ev_c
  | ((with_reducible apply ev_var); exact rfl)
  | with_reducible apply et_test
  | with_reducible apply et_B
  | with_reducible apply et_not
  | with_reducible exact rv_I0
  | with_reducible exact rv_isN
  | with_reducible exact rv_notN
  | with_reducible exact rv_in _
  | with_reducible exact rv_inF _
  | with_reducible exact rv_eq rfl
  | with_reducible exact rv_ne rfl
  | with_reducible exact ru_neg
  | with_reducible apply ev_chain
  | with_reducible apply ev_op
  | with_reducible apply ev_un
  | with_reducible exact ea_nil
  | with_reducible apply ea_cons
  | with_reducible exact eo_none
  | with_reducible apply eo_some
  | with_reducible assumption)
section
variable {K : PySem.W.Frag} {σ : L2.St} {H : Hp} {te tl : TE} {g : TG} {α : Type}
theorem lcn_list (l : List α) (io : α → V) (f : α → HO) {b : Addr} {vs : List Nat} (h : Ev tl σ H (.ref b)) (hs : SqL K H b (l.map io)) (hz : l.length ≤ 40000)
    (gm : ∀ v σ H (N N' : L2.St → Hp → Prop), (∀ σ2 H2, N σ2 H2 → N' σ2 H2) → g v σ H N → g v σ H N')
    (ht : ∀ a H' (N : VK), a ∈ l → Ex H H' → (∀ p H2, H' p = none → Ex H' H2 → H2 p = some (f a) → N (.ref p) H2) → g (io a) (wipe σ vs) H' fun σ2 H2 => wipe σ2 vs = wipe σ vs ∧ te σ2 H2 N) :
    ∀ H1, Ex H H1 → ∀ Q : VK, (∀ D H2 acc, H1 D = none → Ex H1 H2 → H2 D = some (.lst acc) → News f D H1 H2 acc l → Q (.ref D) H2) → tLc (iList K tl) g tYes te vs σ H1 Q := fun H1 e Q q =>
  h H1 e _ fun H2 e2 => ⟨b, rfl, ⟨_, ex_l (e.trans e2) hs⟩, fun D hD =>
    lc_new walk_list l (by rw [List.length_map]) io f hz hD (fun H' x => ex_l ((e.trans e2).trans x) hs) (fun i H' x H'' hi ex y => ⟨y.1, of_map_get y.2⟩) (fun a H' N m x k => ht a H' N m ((e.trans e2).trans x) k)
      (fun H' acc x y nw => q D H' acc (fresh_back e2 hD) (e2.trans x) y (nw.mono fun _ _ ⟨p, h1, h2, h3, h4⟩ => ⟨p, h1, h2, fresh_back e2 h3, h4⟩)) gm⟩
end
def prd (p : Pat) : PyData := .tuple [.str (S p.x), .bool p.front, .bool p.halt_]
def prV (p : Pat) : HO := .tup [.str (S p.x), .bl p.front, .bl p.halt_]
theorem S_strOk (b : Bytes) : PyData.strOk (S b) = true := by
  unfold PyData.strOk S
  rw [Array.all_eq_true_iff_forall_mem]
  intro x hx
  have hx2 : x ∈ b.map UInt8.toNat := by simpa using hx
  obtain ⟨c, _, rfl⟩ := List.mem_map.mp hx2
  have := c.toNat_lt
  exact decide_eq_true (by omega)
theorem prd_lay (p : Pat) : (prd p).canLay0 = true := by simp [prd, PyData.canLay0, PyData.canLayAll0, S_strOk]
theorem prd_depth (p : Pat) : (prd p).depth = 1 := by simp [prd, PyData.depth, PyData.depthAll]
theorem prds_lay : ∀ zs : List Pat, PyData.canLayAll0 (zs.map prd) = true
  | [] => by simp [PyData.canLayAll0]
  | z :: zs => by simp [PyData.canLayAll0, prd_lay z, prds_lay zs]
theorem prds_depth : ∀ zs : List Pat, PyData.depthAll (zs.map prd) ≤ 1
  | [] => by simp [PyData.depthAll]
  | z :: zs => by
    have h1 := prds_depth zs
    have h2 := prd_depth z
    simp only [List.map_cons, PyData.depthAll]
    omega
theorem prd_shaped (p : Pat) : SeqAt.shaped (prd p) = true := by
  have h := prd_depth p
  show ((prd p).canLay0 && decide ((prd p).depth ≤ 64)) = true
  rw [Bool.and_eq_true]
  exact ⟨prd_lay p, decide_eq_true (by omega)⟩
theorem prds_shaped (zs : List Pat) : SeqAt.shaped (.list (zs.map prd)) = true := by
  have h1 := prds_depth zs
  have h2 : PyData.depth (.list (zs.map prd)) ≤ 64 := by
    simp only [PyData.depth]
    omega
  show (PyData.canLay0 (.list (zs.map prd)) && decide (PyData.depth (.list (zs.map prd)) ≤ 64)) = true
  rw [Bool.and_eq_true]
  exact ⟨by simp only [PyData.canLay0]; exact prds_lay zs, decide_eq_true h2⟩
theorem beq_S (a b : Bytes) : (S a == S b) = (a == b) := by
  by_cases h : a = b
  · subst h; simp
  · rw [beq_eq_false_iff_ne.mpr h, beq_eq_false_iff_ne.mpr fun z => h (S_inj.mp z)]
theorem prd_eqv (z w : Pat) : PyData.eqv (prd z) (prd w) = (z.x == w.x && (z.front == w.front && z.halt_ == w.halt_)) := by
  have e : PyData.eqv (prd z) (prd w) = ((S z.x == S w.x) && ((z.front == w.front) && ((z.halt_ == w.halt_) && true))) := by simp only [prd, PyData.eqv, PyData.eqvAll]
  rw [e, beq_S, Bool.and_true]
theorem dp_pr {K : PySem.W.Frag} {H : Hp} {p : Addr} {o : Pat} (h : H p = some (prV o)) : Dp K H (.ref p) (prd o) := Dp.tup (st_of h) (.cons (.str _) (.cons (.bl _) (.cons (.bl _) .nil)))
theorem dp_news {K : PySem.W.Frag} {H H0 : Hp} {D : Addr} : ∀ {acc : List V} {ps : List Pat}, News prV D H0 H acc ps → DpAll K H acc (ps.map prd)
  | [], [], _ => .nil
  | v :: vs, p :: ps, h => by
    obtain ⟨⟨a, h1, _, _, h2⟩, h3⟩ := h
    subst h1
    exact .cons (dp_pr h2) (dp_news h3)
  | [], _ :: _, h => h.elim
  | _ :: _, [], h => h.elim
/-- where patterns_in stands -/
structure PAt (A : Ads) (H : Hp) (r g ta dx : Addr) (l : Toks) (n : Nat) (H' : Hp) (l' : Toks) (n' : Nat) (ps : List Pat) (pv : List V) : Prop where
  rd : RdrAt A H' r l'
  eB : ExB r H H'
  tk : ∃ fs, H' r = some (.ins A.R dx (("tokens", .ref ta) :: fs))
  at_ : H' g = some (.lst pv)
  all : All2 (PatV H') pv ps
  ok : ∀ p ∈ ps, POk p
  len : ps.length ≤ 40
  fuel : l'.length < n'
  eq : takePats n [] l = takePats n' ps l'
section
variable {P : Program} {w : World} {K : PySem.W.Frag} {mg : Str → Option Value} {base : Heap} {A : Ads}
abbrev s_patterns_in : Stmt := top 43
abbrev N_patterns_in : List Str := ["reader", "found", "place", "chunk", "one", "other"]
abbrev P_patterns_in : List Str := ["reader"]
theorem sc_patterns_in : FnScope N_patterns_in P_patterns_in (defScope s_patterns_in) := ⟨rfl, rfl, rfl, by decide +kernel, rfl, by decide +kernel, by decide +kernel⟩
theorem ok_patterns_in {f : Addr} {fd : FuncData} (F : Fun K "patterns_in" "patterns_in" s_patterns_in f fd) (T : Txt K mg A) (m_Reader_is_done : Met P w K mg base CX0 1 A.R "is_done" P_Reader_is_done (spDone A)) (m_Reader_take : Met P w K mg base (L2.CX P w) 4 A.R "take" P_Reader_take (spTake A))
    (m_Reader_take_chunk : Met P w K mg base (L2.CX P w) 3 A.R "take_chunk" P_Reader_take_chunk (spTakeC A)) (f_pattern_of : Cal P w K mg base CX0 2 "pattern_of" P_pattern_of spPatOf)
    (x_Fault : Xcl P w K mg base 1 A.F "Fault" ["self", "code", "place"] (spFault A)) : FnOk P w K mg base (L2.CX P w) 5 f fd P_patterns_in (spPats A) := by
  refine F.okX sc_patterns_in (fun vs H Q E h => ?_) (fun cdv A' outer s H vs Q E hr h => ⟨_,
    have pOwn := passes_of rfl
    (pss_cons (ps_set (i := 1) sc_patterns_in.nd rfl (Or.inl rfl) (pe_lst pa_nil))
    (pss_cons (ps_while pOwn (pt_not (pt_val (pe_methU0 (pv 0) m_Reader_is_done (hr.mono (by decide)) (fun _ => pz)))) (pss_cons (ps_set (i := 2) sc_patterns_in.nd rfl (Or.inl rfl) (pe_methU (pv 0) m_Reader_take (hr.mono (by decide)) (fun q => passAt (takes_of rfl rfl rfl rfl) q) (pa_cons (pe_gs T.g_PATTERN rfl) pa_nil)))
    (pss_cons (ps_if (pt_cmpR op_eq (pe_callB cw_len (by rfl) T.n_len PySem.boot_len (pa_cons (pv 1) pa_nil)) (pe_gi T.g_MOST_PATTERNS rfl) (nomark _)) (pss_one (ps_raise rfl (takes_of rfl rfl rfl rfl) (pmk_U x_Fault (hr.mono (by decide)) (by rfl) (pa_cons (pe_gi T.g_TOO_MANY rfl) (pa_cons (pv 2) pa_nil))))) pss_nil)
    (pss_cons (ps_asg (pe_methU0 (pv 0) m_Reader_take_chunk (hr.mono (by decide)) (fun q => passAt (takes_of rfl rfl rfl rfl) q)) (pg_tup rfl (pgs_cons (pg_name (i := 2) sc_patterns_in.nd rfl (Or.inl rfl)) (pgs_cons (pg_name (i := 3) sc_patterns_in.nd rfl (Or.inl rfl)) pgs_nil))))
    (pss_cons (ps_set (i := 4) sc_patterns_in.nd rfl (Or.inl rfl) (pe_callU f_pattern_of (hr.mono (by decide)) rfl (fun _ => pz) (pa_cons (pv 3) pa_nil)))
    (pss_cons (ps_if (pt_cmpR op_isN1 (pv 4) pe_non (nomark _)) (pss_one (ps_raise rfl (takes_of rfl rfl rfl rfl) (pmk_U x_Fault (hr.mono (by decide)) (by rfl) (pa_cons (pe_gi T.g_BAD_CHUNK rfl) (pa_cons (pv 2) pa_nil))))) pss_nil)
    (pss_cons (ps_if (pt_cmpR (op_inD hr.inU) (pe_tup (pa_cons (pe_ix ix_tup (pv 4) pe_int (fun _ _ => rfl)) (pa_cons (pe_ix ix_tup (pv 4) pe_int (fun _ _ => rfl)) (pa_cons (pe_ix ix_tup (pv 4) pe_int (fun _ _ => rfl)) pa_nil)))) (pe_lc rfl sc_patterns_in.nd (pi_list (pv 1)) (blkOk_by (own := [("other", 5)]) (N := N_patterns_in) (sc := defScope s_patterns_in) (by decide +kernel)) (fun _ _ _ _ _ => (pg_name (i := 5) sc_patterns_in.nd rfl (Or.inl rfl))) (fun _ _ _ _ _ => pts_nil) (fun _ _ _ _ _ => (pe_tup (pa_cons (pe_ix (ix_tupK (K := K) rfl) (pv 5) pe_int (fun _ _ => rfl)) (pa_cons (pe_ix (ix_tupK (K := K) rfl) (pv 5) pe_int (fun _ _ => rfl)) (pa_cons (pe_ix (ix_tupK (K := K) rfl) (pv 5) pe_int (fun _ _ => rfl)) pa_nil)))))) (by rfl)) (pss_one (ps_raise rfl (takes_of rfl rfl rfl rfl) (pmk_U x_Fault (hr.mono (by decide)) (by rfl) (pa_cons (pe_gi T.g_TAKEN rfl) (pa_cons (pv 2) pa_nil))))) pss_nil)
    (pss_cons (ps_expr (pe_methU (pv 0) m_Reader_take (hr.mono (by decide)) (fun q => passAt (takes_of rfl rfl rfl rfl) q) (pa_cons (pe_gs T.g_END_SIGN rfl) pa_nil)))
    (pss_one (ps_expr (pe_bm PySem.F.plainAttrs_list PySem.F.slot_list_append PySem.F.type_list_append mt_append (pv 1) (pa_cons (pv 4) pa_nil))))))))))))
    (pss_one (ps_ret (pv 1)))))
    , ?_⟩)
  · obtain ⟨r, l, n, rfl, _⟩ := h
    rfl
  · obtain ⟨r, l, n, rfl, hR, hn, k1, k2⟩ := h
    obtain ⟨dx, ta, tv, fs0, hr0, hta⟩ := hR.tk
    refine q_asgL (xs := []) (el_lst ea_nil (by simp)) fun g H1 ng e1 hg => ?_
    have nrg : g ≠ r := fun z => by rw [z, hr0] at ng; cases ng
    have ntg : ta ≠ g := fun z => by rw [z, ng] at hta; cases hta
    refine q_while (fun m σ' H' => ∃ l' n' ps pv v2 v3 v4, m = l'.length ∧ σ' = [some (.ref r), some (.ref g), v2, v3, v4, none] ∧ PAt A H r g ta dx l n H' l' n' ps pv) l.length
      ⟨l, n, [], [], none, none, none, rfl, rfl, ⟨hR.mono e1, ExB.of e1, ⟨_, e1 _ _ hr0⟩, hg, trivial, (fun _ z => by cases z), Nat.zero_le _, hn, rfl⟩⟩ ?_
    rintro m σ' H2 ⟨l', n', ps, pv, v2, v3, v4, rfl, rfl, I⟩
    obtain ⟨t, rest, rfl, ht1, ht2⟩ := I.rd.head
    obtain ⟨n', rfl⟩ : ∃ n'', n' = n'' + 1 := ⟨n' - 1, by have := I.fuel; omega⟩
    have htw := tS_word ht1 (w := VahypBase.word "pattern") (by decide +kernel) (by decide +kernel)
    have hfuel : rest.length < n' := by have := I.fuel; simp at this; omega
    refine ⟨!VahypBase.next .last (t :: rest), et_not (et_B (ev_done rfl I.rd)), fun hb H3 e3 => ?_, fun hb H3 e3 => ?_⟩
    · have hb' : VahypBase.next .last (t :: rest) = false := by simpa using hb
      have heq := I.eq
      have next : ∀ {σ2 : L2.St} {H' : Hp} {l2 : Toks} {ps2 : List Pat} {pv2 : List V} {v2 v3 v4 : Option V}, l2.length < rest.length → σ2 = [some (.ref r), some (.ref g), v2, v3, v4, none] → PAt A H r g ta dx l n H' l2 n' ps2 pv2 →
          ∃ m', m' < (t :: rest).length ∧ ∃ l' n' ps pv v2 v3 v4, m' = l'.length ∧ σ2 = [some (.ref r), some (.ref g), v2, v3, v4, none] ∧ PAt A H r g ta dx l n H' l' n' ps pv := fun h1 h2 h3 => ⟨_, by simp; omega, _, _, _, _, _, _, _, rfl, h2, h3⟩
      refine ⟨fun σ2 H' => ∃ l2 ps2 pv2 v2 v3 v4, l2.length < rest.length ∧ σ2 = [some (.ref r), some (.ref g), v2, v3, v4, none] ∧ PAt A H r g ta dx l n H' l2 n' ps2 pv2, fun σ2 H' ⟨_, _, _, _, _, _, h1, h2, h3⟩ => next h1 h2 h3, ?_⟩
      clear next
      have hR3 := I.rd.mono e3
      have eB3 := I.eB.trans (ExB.of e3)
      refine m_take rfl hR3 lit_PATTERN (by decide +kernel) (fun h => ?_) fun hs0 H4 hR4 eB4 => ?_
      · rw [tp_no hb' (by rw [← htw]; exact decide_eq_false h)] at heq
        exact (k1 ⟨3, t.place⟩ heq).at_ eB3 hR3.there
      rw [tp_yes hb' (by rw [← htw]; exact decide_eq_true hs0)] at heq
      obtain ⟨fsI, hfsI⟩ := I.tk
      have hW4 : All2 (PatV H4) pv ps := (I.all.mono fun _ _ => PatV.mono e3).mono fun _ _ h => PatV.exB eB4 (e3 _ _ hfsI) h
      have hg4 : H4 g = some (.lst pv) := eB4.1 g _ nrg (e3 g _ I.at_)
      have eB04 := eB3.trans eB4
      have hlen : pv.length = ps.length := I.all.length
      obtain ⟨fs4, htk4⟩ := eB4.2 _ _ _ _ (e3 _ _ hfsI)
      refine go_name ?_
      dsimp only
      refine q_when (b := decide (40 ≤ ps.length)) (et_is (et_test (ev_op (ev_len (ev_var rfl) (sq_of hg4)) ev_c (rv_eq rfl))) ?_) (fun hc H5 e5 => ?_) (fun hc H5 e5 => ?_)
      · rw [dec_int, hlen]
        have := I.len
        by_cases h40 : ps.length = 40
        · rw [h40]; rfl
        · rw [decide_eq_false (show ¬ 40 ≤ ps.length by omega)]; exact beq_eq_false_iff_ne.mpr (by omega)
      · rw [if_pos (of_decide_eq_true hc)] at heq
        refine rd_fault (c := 4) (p := t.place) (by repeat' trivial) ((k1 ⟨4, t.place⟩ heq).at_ (eB04.trans (ExB.of e5)) (hR4.mono e5).there)
      · rw [if_neg (of_decide_eq_false hc)] at heq
        have h40 : ps.length < 40 := by have := of_decide_eq_false hc; omega
        have hR5 := hR4.mono e5
        obtain ⟨t2, rest2, rfl, ht21, ht22⟩ := hR5.head
        refine m_chunk rfl hR5 (fun hnc => ?_) fun b hb2 a H6 hR6 eB6 ha => ?_
        · rw [tc_bad hnc] at heq
          exact (k1 ⟨3, t2.place⟩ heq).at_ (eB04.trans (ExB.of e5)) hR5.there
        obtain ⟨pl2, tok2⟩ := t2
        have hb2 : tok2 = .chunk b := hb2
        subst hb2
        have hbb := tok_b ht21 (b := b) rfl
        rw [tc_ok] at heq
        have heq : takePats n [] l = match patOf b with
          | none => .error ⟨7, pl2⟩
          | some p => if ps.any (fun q => q.x == p.x && (q.front == p.front && q.halt_ == p.halt_)) = true then .error ⟨5, pl2⟩ else (VahypBase.takeSign 59 rest2).bind fun m => takePats n' (ps ++ [p]) m := heq
        have hW6 : All2 (PatV H6) pv ps := (hW4.mono fun _ _ => PatV.mono e5).mono fun _ _ h => PatV.exB eB6 (e5 _ _ htk4) h
        have hg6 : H6 g = some (.lst pv) := eB6.1 g _ nrg (e5 g _ hg4)
        have eB06 := (eB04.trans (ExB.of e5)).trans eB6
        obtain ⟨fs6, htk6⟩ := eB6.2 _ _ _ _ (e5 _ _ htk4)
        refine ⟨a, _, rfl, st_of ha, rfl, _, _, rfl, _, _, rfl, rfl, ?_⟩
        dsimp only
        show tSeq (tAsg _ _) _ _ [some (.ref r), some (.ref g), some (iv pl2), some (.str (S b)), v4, none] H6
        refine q_asgP (Pv := POr (patOf b)) (ep_callU (ea_cons (ev_var rfl) ea_nil) (spp_pat hbb.2 H6)) fun v H7 e7 hv => ?_
        have hR7 := hR6.mono e7
        have eB07 := eB06.trans (ExB.of e7)
        cases hwo : patOf b with
        | none =>
          rw [hwo] at hv heq
          have hv : v = .non := hv
          subst hv
          refine q_when (b := true) (et_is (et_test (ev_op (ev_var rfl) ev_c rv_isN)) rfl) (fun _ H8 e8 => ?_) (fun z => by cases z)
          exact rd_fault (c := 7) (p := pl2) (by repeat' trivial) ((k1 ⟨7, pl2⟩ heq).at_ (eB07.trans (ExB.of e8)) (hR7.mono e8).there)
        | some pd =>
          rw [hwo] at hv heq
          have hvw : PatV H7 v pd := hv
          obtain ⟨aw, cw, rfl, haw, hcw⟩ := hv
          have heq : takePats n [] l = if ps.any (fun q => q.x == pd.x && (q.front == pd.front && q.halt_ == pd.halt_)) = true then .error ⟨5, pl2⟩ else (VahypBase.takeSign 59 rest2).bind fun m => takePats n' (ps ++ [pd]) m := heq
          refine q_when (b := false) (et_is (et_test (ev_op (ev_var rfl) ev_c rv_isN)) (decide_eq_false fun z => by cases z)) (fun z => by cases z) (fun _ H8 e8 => ?_)
          have hW8 : All2 (PatV H8) pv ps := hW6.mono fun _ _ => PatV.mono (e7.trans e8)
          have hg8 : H8 g = some (.lst pv) := (e7.trans e8) g _ hg6
          obtain ⟨z1, z2, z3⟩ := hW8.zip
          have hvl : pv.length ≤ 40000 := by omega
          refine q_when (b := ps.any fun q => q.x == pd.x && (q.front == pd.front && q.halt_ == pd.halt_)) (et_test fun H9 e9 Q' q' => ?_) (fun hc2 H9 e9 => ?_) (fun hc2 H9 e9 => ?_)
          · refine (eu_tup (vs := [.str (S pd.x), .bl pd.front, .bl pd.halt_]) (ea_cons (ev_op (ev_var rfl) ev_c (rv_ixT (st_of (e8 _ _ haw)) rfl)) (ea_cons (ev_op (ev_var rfl) ev_c (rv_ixT (st_of (e8 _ _ haw)) rfl)) (ea_cons (ev_op (ev_var rfl) ev_c (rv_ixT (st_of (e8 _ _ haw)) rfl)) ea_nil))) (by simp)) H9 e9 _ fun p H10 np e10 hp => ?_
            refine lcn_list (K := K) (σ := [some (.ref r), some (.ref g), some (iv pl2), some (.str (S b)), some (.ref aw), none]) (H := H8) (vs := [5]) (pv.zip ps) Prod.fst (fun p => prV p.2) (ev_var rfl) (sq_of (by rw [z1]; exact hg8)) (by simp; omega) gm_name (fun q H' N hm ex kN => ?_) H10 (e9.trans e10) _ fun D H11 acc nD e11 hD nw => ?_
            · obtain ⟨a', c', q1, q2, q3⟩ := z3 q hm
              rw [q1]
              refine ⟨rfl, (eu_tup (vs := [.str (S q.2.x), .bl q.2.front, .bl q.2.halt_]) (ea_cons (ev_op (ev_var rfl) ev_c (rv_ixT (st_of (ex _ _ q2)) rfl)) (ea_cons (ev_op (ev_var rfl) ev_c (rv_ixT (st_of (ex _ _ q2)) rfl)) (ea_cons (ev_op (ev_var rfl) ev_c (rv_ixT (st_of (ex _ _ q2)) rfl)) ea_nil))) (by simp)) H' (Ex.refl H') N fun p2 H12 np2 e12 hp2 => kN p2 H12 np2 e12 hp2⟩
            · have nw2 : News prV D H10 H11 acc ps := by
                have key : ∀ (zs : List (V × Pat)) (acc : List V), News (fun p : V × Pat => prV p.2) D H10 H11 acc zs → News prV D H10 H11 acc (zs.map Prod.snd) := by
                  intro zs
                  induction zs with
                  | nil => intro acc h; cases acc with
                    | nil => trivial
                    | cons => exact h.elim
                  | cons z zs ih => intro acc h; cases acc with
                    | nil => exact h.elim
                    | cons v vs => exact ⟨h.1, ih vs h.2⟩
                have := key _ _ nw
                rw [z2] at this
                exact this
              refine ⟨prd pd, ps.map prd, dp_pr (o := pd) (e11 _ _ hp), Dp.lst (sq_of hD) (dp_news nw2), prd_shaped pd, prds_shaped ps, ?_⟩
              have e0 : (ps.map prd).any (fun z => PyData.eqv z (prd pd)) = ps.any fun q => q.x == pd.x && (q.front == pd.front && q.halt_ == pd.halt_) := by
                rw [List.any_map]
                congr 1
                funext q
                exact prd_eqv q pd
              rw [e0]
              exact q' H11 (e10.trans e11)
          · rw [if_pos hc2] at heq
            have e79 := e8.trans e9
            exact rd_fault (c := 5) (p := pl2) (by repeat' trivial) ((k1 ⟨5, pl2⟩ heq).at_ (eB07.trans (ExB.of e79)) (hR7.mono e79).there)
          · rw [if_neg (by rw [hc2]; decide)] at heq
            have e79 := e8.trans e9
            have hR9 := hR7.mono e79
            obtain ⟨t3, rest3, rfl, ht31, ht32⟩ := hR9.head
            have hts := tS_sign ht31
            refine m_take rfl hR9 lit_END (by decide) (fun h => ?_) fun hs H10 hR10 eB10 => ?_
            · rw [ts_bad (by rw [← hts]; exact decide_eq_false h)] at heq
              exact (k1 ⟨3, t3.place⟩ heq).at_ (eB07.trans (ExB.of e79)) hR9.there
            · rw [ts_ok (by rw [← hts]; exact decide_eq_true hs)] at heq
              have heq : takePats n [] l = takePats n' (ps ++ [pd]) rest3 := heq
              obtain ⟨fs10, htk10⟩ := eB10.2 _ _ _ _ ((e7.trans e79) _ _ htk6)
              have hg10 : H10 g = some (.lst pv) := eB10.1 g _ nrg (e9 g _ hg8)
              have hW10 : All2 (PatV H10) (pv ++ [.ref aw]) (ps ++ [pd]) := All2.snoc (PatV.exB eB10 ((e7.trans e79) _ _ htk6) (hvw.mono e79)) ((hW8.mono fun _ _ => PatV.mono e9).mono fun _ _ h => PatV.exB eB10 ((e7.trans e79) _ _ htk6) h)
              dsimp only
              refine s_app hg10 (ev_var rfl) (ev_var rfl) (by omega) fun H11 e11 => ?_
              have hg11 := e11 g _ hg10
              refine ⟨rest3, ps ++ [pd], pv ++ [.ref aw], _, _, _, by simp; omega, rfl, ⟨(hR10.mono e11).app (e11 _ _ htk10) ntg hg11, ?_, ⟨fs10, by rw [upd_ne (Ne.symm nrg)]; exact e11 _ _ htk10⟩, upd_same, (hW10.mono fun _ _ => PatV.mono e11).mono fun _ _ h => PatV.app hg11 h, ?_, by simp; omega, by simp at hfuel; omega, heq⟩⟩
              · exact ExB.mut (((eB07.trans (ExB.of e79)).trans eB10).trans (ExB.of e11)) ng nrg
              · intro w m
                rcases List.mem_append.mp m with m | m
                · exact I.ok w m
                · rw [List.mem_singleton.mp m]; exact patOf_ok hwo
    · have hb' : VahypBase.next .last (t :: rest) = true := by simpa using hb
      have heq := I.eq
      rw [tp_done hb'] at heq
      refine s_ret (v := .ref g) (ev_var rfl) fun H4 e4 => ?_
      have e34 := e3.trans e4
      exact k2 _ heq g H4 pv ng (I.eB.trans (ExB.of e34)) (e34 g _ I.at_) (I.all.mono fun _ _ => PatV.mono e34) I.ok I.len
end
end Pw

set_option Elab.async false
set_option linter.all false
set_option maxRecDepth 100000
set_option maxHeartbeats 4000000
namespace Pw
open PySem PySem.Spec PyProof.Rows L2 Evl
open VahypBase (Bytes inChunk isLetter isDigit lex Toks isBlank PTok)
open Vahypa (Word Pat wordOf patOf takeMargin takeWords takePats Lst)
local macro_rules | `(tactic| trivial) => `(tactic| first
  | with_reducible exact ev_c
  | ((with_reducible apply ev_var); exact rfl)
  | with_reducible apply et_test
  | with_reducible apply et_B
  | with_reducible apply et_not
  | with_reducible exact rv_I0
  | with_reducible exact rv_isN
  | with_reducible exact rv_notN
  | with_reducible exact rv_in _
  | with_reducible exact rv_inF _
  | with_reducible exact rv_eq rfl
  | with_reducible exact rv_ne rfl
  | with_reducible exact ru_neg
  | with_reducible apply ev_chain
  | with_reducible apply ev_op
  | with_reducible apply ev_un
  | with_reducible exact ea_nil
  | with_reducible apply ea_cons
  | with_reducible exact eo_none
  | with_reducible apply eo_some
  | with_reducible assumption)
/-- the lists of words and patterns stand apart from g -/
def Avoid (A : Ads) (H : Hp) (a g : Addr) : Prop := ∀ (dx : Addr) (l r : V) (wa pa : Addr), H a = some (.ins A.L dx [("left", l), ("right", r), ("words", .ref wa), ("patterns", .ref pa)]) → wa ≠ g ∧ pa ≠ g
theorem Avoid.mono {A : Ads} {H H' : Hp} {a g : Addr} {s : Lst} (h : Avoid A H a g) (hL : LstAt A H a s) (e : Ex H H') : Avoid A H' a g := fun dx l r wa pa h' => by
  obtain ⟨⟨dx2, wa2, pa2, wv, pv, ha, _⟩, _⟩ := hL
  rw [e _ _ ha] at h'
  cases h'
  exact h _ _ _ _ _ ha
def spList (K : PySem.W.Frag) (A : Ads) : Sp := fun vs H Q E => ∃ (a : Addr) (b : Bytes), vs = [.ref a] ∧ SqL K H a (bv b) ∧ b.length ≤ 40000 ∧ (∀ f, Vahypa.read b = .error f → Flt A f.code f.place H E) ∧
  (∀ s, Vahypa.read b = .ok s → ∀ p H2, Ex H H2 → LstAt A H2 p s → (∀ g u, H g = some u → Avoid A H2 p g) → Q (.ref p) H2)
def rd1 (l : Toks) : Except VahypBase.Fault Lst := (VahypBase.takeWord "margins" l).bind fun l => (takeMargin l).bind fun a => (takeMargin a.2).bind fun z => (VahypBase.takeSign 59 z.2).bind fun l => (takeWords (l.length + 1) [] l).bind fun ws => (takePats (l.length + 1) [] ws.2).map fun ps => ⟨a.1, z.1, ws.1, ps⟩
theorem read_is (b : Bytes) : Vahypa.read b = if 4096 < b.length then .error ⟨1, 4096⟩ else (lex (b.length + 1) 0 b).bind rd1 := by
  unfold Vahypa.read VahypBase.tokens
  show (if 4096 < b.length then Except.error (VahypBase.Fault.mk 1 4096) else lex (b.length + 1) 0 b).bind rd1 = _
  split <;> rfl
theorem tw_ok {t : PTok} {rest : Toks} {s : String} (h : VahypBase.tokEq t.tok (.chunk (VahypBase.word s)) = true) : VahypBase.takeWord s (t :: rest) = .ok rest := by
  unfold VahypBase.takeWord VahypBase.taken
  rw [if_pos (show VahypBase.next (.chunk (VahypBase.word s)) (t :: rest) = true from h)]
  rfl
theorem tw_bad {t : PTok} {rest : Toks} {s : String} (h : VahypBase.tokEq t.tok (.chunk (VahypBase.word s)) = false) : VahypBase.takeWord s (t :: rest) = .error ⟨3, t.place⟩ := by
  unfold VahypBase.takeWord VahypBase.taken
  rw [if_neg (by rw [show VahypBase.next (.chunk (VahypBase.word s)) (t :: rest) = false from h]; decide)]
  rfl
theorem margin5 {l : Toks} {m : Nat} {rest : Toks} (h : takeMargin l = .ok (m, rest)) : m ≤ 5 := by
  unfold takeMargin at h
  cases e : VahypBase.takeChunk l with
  | error f => rw [e] at h; cases h
  | ok x =>
    rw [e] at h
    have h' : (match x.2.1 with
      | [b] => if isDigit b = true ∧ b.toNat - 48 ≤ Vahypa.MARGIN then Except.ok (b.toNat - 48, x.2.2) else Except.error (VahypBase.Fault.mk 7 x.1)
      | _ => Except.error (VahypBase.Fault.mk 7 x.1)) = Except.ok (m, rest) := h
    split at h'
    · split at h'
      · rename_i z
        cases h'
        exact z.2
      · cases h'
    · cases h'
section
variable {P : Program} {w : World} {K : PySem.W.Frag} {mg : Str → Option Value} {base : Heap} {A : Ads}
abbrev s_list_in : Stmt := top 44
abbrev N_list_in : List Str := ["text", "reader", "left", "right", "words"]
abbrev P_list_in : List Str := ["text"]
theorem sc_list_in : FnScope N_list_in P_list_in (defScope s_list_in) := ⟨rfl, rfl, rfl, by decide +kernel, rfl, by decide +kernel, by decide +kernel⟩
theorem ok_list_in {f : Addr} {fd : FuncData} (F : Fun K "list_in" "list_in" s_list_in f fd) (T : Txt K mg A) (c_Reader : Mkr P w K mg base (L2.CX P w) 5 A.R "Reader" P_Reader_init (spRdr K A)) (m_Reader_take : Met P w K mg base (L2.CX P w) 4 A.R "take" P_Reader_take (spTake A))
    (f_margin_in : Cal P w K mg base (L2.CX P w) 4 "margin_in" P_margin_in (spMargin A)) (f_words_in : Cal P w K mg base (L2.CX P w) 5 "words_in" P_words_in (spWords A)) (f_patterns_in : Cal P w K mg base (L2.CX P w) 5 "patterns_in" P_patterns_in (spPats A))
    (c_Listed : Mkr P w K mg base CX0 1 A.L "Listed" P_Listed_init (spListed A))
    (x_Fault : Xcl P w K mg base 1 A.F "Fault" ["self", "code", "place"] (spFault A)) : FnOk P w K mg base (L2.CX P w) 7 f fd P_list_in (spList K A) := by
  refine F.okX sc_list_in (fun vs H Q E h => ?_) (fun cdv A' outer s H vs Q E hr h => ⟨_,
    (pss_cons (ps_if (pt_cmpR op_gt (pe_callB cw_len (by rfl) T.n_len PySem.boot_len (pa_cons (pv 0) pa_nil)) (pe_gi T.g_MOST_BYTES rfl) (nomark _)) (pss_one (ps_raise rfl (takes_of rfl rfl rfl rfl) (pmk_U x_Fault (hr.mono (by decide)) (by rfl) (pa_cons (pe_gi T.g_TOO_LONG rfl) (pa_cons (pe_gi T.g_MOST_BYTES rfl) pa_nil))))) pss_nil)
    (pss_cons (ps_set (i := 1) sc_list_in.nd rfl (Or.inl rfl) (pe_makeU c_Reader (hr.mono (by decide)) rfl (fun q => passAt (takes_of rfl rfl rfl rfl) q) (pa_cons (pv 0) pa_nil)))
    (pss_cons (ps_expr (pe_methU (pv 1) m_Reader_take (hr.mono (by decide)) (fun q => passAt (takes_of rfl rfl rfl rfl) q) (pa_cons (pe_gs T.g_MARGINS rfl) pa_nil)))
    (pss_cons (ps_set (i := 2) sc_list_in.nd rfl (Or.inl rfl) (pe_callU f_margin_in (hr.mono (by decide)) rfl (fun q => passAt (takes_of rfl rfl rfl rfl) q) (pa_cons (pv 1) pa_nil)))
    (pss_cons (ps_set (i := 3) sc_list_in.nd rfl (Or.inl rfl) (pe_callU f_margin_in (hr.mono (by decide)) rfl (fun q => passAt (takes_of rfl rfl rfl rfl) q) (pa_cons (pv 1) pa_nil)))
    (pss_cons (ps_expr (pe_methU (pv 1) m_Reader_take (hr.mono (by decide)) (fun q => passAt (takes_of rfl rfl rfl rfl) q) (pa_cons (pe_gs T.g_END_SIGN rfl) pa_nil)))
    (pss_cons (ps_set (i := 4) sc_list_in.nd rfl (Or.inl rfl) (pe_callU f_words_in (hr.mono (by decide)) rfl (fun q => passAt (takes_of rfl rfl rfl rfl) q) (pa_cons (pv 1) pa_nil)))
    (pss_one (ps_ret (pe_makeU c_Listed (hr.mono (by decide)) rfl (fun _ => pz) (pa_cons (pv 2) (pa_cons (pv 3) (pa_cons (pv 4) (pa_cons (pe_callU f_patterns_in (hr.mono (by decide)) rfl (fun q => passAt (takes_of rfl rfl rfl rfl) q) (pa_cons (pv 1) pa_nil)) pa_nil))))))))))))))
    , ?_⟩)
  · obtain ⟨a, b, rfl, _⟩ := h
    rfl
  · obtain ⟨a, b, rfl, hS, hz, k1, k2⟩ := h
    have er := read_is b
    refine q_when (b := decide (4096 < b.length)) (et_is (et_test (ev_op (ev_len (ev_var rfl) hS) ev_c rv_I0)) ?_) (fun hc H1 e1 => ?_) (fun hc H1 e1 => ?_)
    · rw [bv_length]
      exact decide_eq_decide.mpr (by omega)
    · rw [if_pos (of_decide_eq_true hc)] at er
      exact rd_fault (c := 1) (p := 4096) (by repeat' trivial) ((k1 ⟨1, 4096⟩ er).mono e1)
    rw [if_neg (of_decide_eq_false hc)] at er
    refine ⟨_, rfl, fun r dx nr nd ne => ⟨r, dx, a, b, rfl, upd_same, ?_, hz, fun f hf => ?_, fun l H2 hl hR2 eO => ⟨rfl, ?_⟩⟩⟩
    · exact ex_l ((e1.trans (Ex.new nd)).trans (Ex.new (by rw [upd_ne (Ne.symm ne)]; exact nr))) hS
    · rw [hf] at er
      exact (k1 f er).mono ((e1.trans (Ex.new nd)).trans (Ex.new (by rw [upd_ne (Ne.symm ne)]; exact nr)))
    have nr0 : H r = none := fresh_back e1 nr
    have eH2 : Ex H H2 := fun c o h => eO c o (ne_of_none h nr0) (((e1.trans (Ex.new nd)).trans (Ex.new (by rw [upd_ne (Ne.symm ne)]; exact nr))) c o h)
    rw [hl] at er
    have er : Vahypa.read b = rd1 l := er
    unfold rd1 at er
    obtain ⟨t1, l1, rfl, ht11, ht12⟩ := hR2.head
    have hw1 := tS_word ht11 (w := VahypBase.word "margins") (by decide +kernel) (by decide +kernel)
    refine go_name ?_
    dsimp only
    refine m_take rfl hR2 lit_MARGINS (by decide +kernel) (fun h => ?_) fun hs H3 hR3 eB3 => ?_
    · rw [tw_bad (by rw [← hw1]; exact decide_eq_false h)] at er
      exact (k1 ⟨3, t1.place⟩ er).mono eH2
    rw [tw_ok (by rw [← hw1]; exact decide_eq_true hs)] at er
    have er : Vahypa.read b = (takeMargin l1).bind fun a => (takeMargin a.2).bind fun z => (VahypBase.takeSign 59 z.2).bind fun l => (takeWords (l.length + 1) [] l).bind fun ws => (takePats (l.length + 1) [] ws.2).map fun ps => ⟨a.1, z.1, ws.1, ps⟩ := er
    have eH3 := ExB.ex eH2 nr0 eB3
    refine ⟨_, rfl, r, l1, rfl, hR3, fun f hf => ?_, fun m1 l2 hm1 h51 H4 hR4 eB4 => ?_⟩
    · rw [hf] at er
      exact (k1 f er).but eH3 nr0
    rw [hm1] at er
    have er : Vahypa.read b = (takeMargin l2).bind fun z => (VahypBase.takeSign 59 z.2).bind fun l => (takeWords (l.length + 1) [] l).bind fun ws => (takePats (l.length + 1) [] ws.2).map fun ps => ⟨m1, z.1, ws.1, ps⟩ := er
    have eH4 := ExB.ex eH3 nr0 eB4
    refine go_name ?_
    dsimp only
    refine ⟨_, rfl, r, l2, rfl, hR4, fun f hf => ?_, fun m2 l3 hm2 h52 H5 hR5 eB5 => ?_⟩
    · rw [hf] at er
      exact (k1 f er).but eH4 nr0
    rw [hm2] at er
    have er : Vahypa.read b = (VahypBase.takeSign 59 l3).bind fun l => (takeWords (l.length + 1) [] l).bind fun ws => (takePats (l.length + 1) [] ws.2).map fun ps => ⟨m1, m2, ws.1, ps⟩ := er
    have eH5 := ExB.ex eH4 nr0 eB5
    obtain ⟨t3, l4, rfl, ht31, ht32⟩ := hR5.head
    have hs3 := tS_sign ht31
    refine go_name ?_
    dsimp only
    refine m_take rfl hR5 lit_END (by decide) (fun h => ?_) fun hs H6 hR6 eB6 => ?_
    · rw [ts_bad (by rw [← hs3]; exact decide_eq_false h)] at er
      exact (k1 ⟨3, t3.place⟩ er).mono eH5
    rw [ts_ok (by rw [← hs3]; exact decide_eq_true hs)] at er
    have er : Vahypa.read b = (takeWords (l4.length + 1) [] l4).bind fun ws => (takePats (l4.length + 1) [] ws.2).map fun ps => ⟨m1, m2, ws.1, ps⟩ := er
    have eH6 := ExB.ex eH5 nr0 eB6
    dsimp only
    refine ⟨_, rfl, r, l4, l4.length + 1, rfl, hR6, Nat.lt_succ_self _, fun f hf => ?_, fun ws l5 hws hle wa H7 wv nwa hR7 eB7 hwa hall hok hlen => ?_⟩
    · rw [hf] at er
      exact (k1 f er).but eH6 nr0
    rw [hws] at er
    have er : Vahypa.read b = (takePats (l4.length + 1) [] l5).map fun ps => ⟨m1, m2, ws, ps⟩ := er
    have eH7 := ExB.ex eH6 nr0 eB7
    refine go_name ?_
    dsimp only
    obtain ⟨dx7, fs7, hr7, _⟩ := hR7.ins
    refine ⟨_, rfl, _, rfl, _, rfl, _, rfl, r, l5, l4.length + 1, rfl, hR7, by omega, fun f hf => ?_, fun ps hps pa H8 pv npa eB8 hpa hallp hokp hlenp => fun x dx2 nx nd2 ne2 => ⟨x, dx2, _, _, _, _, rfl, upd_same, fun H9 h9 eO9 => ⟨rfl, ?_⟩⟩⟩
    · rw [hf] at er
      exact (k1 f er).but eH7 nr0
    rw [hps] at er
    have er : Vahypa.read b = .ok ⟨m1, m2, ws, ps⟩ := er
    have eH8 := ExB.ex eH7 nr0 eB8
    have e89 : Ex H8 H9 := fun c o h => eO9 c o (ne_of_none h nx) (((Ex.new nd2).trans (Ex.new (by rw [upd_ne (Ne.symm ne2)]; exact nx))) c o h)
    have nwr : wa ≠ r := fun z => by rw [z, hr7] at hwa; cases hwa
    refine k2 _ er x H9 (eH8.trans e89) ⟨⟨dx2, wa, pa, wv, pv, h9, e89 _ _ (eB8.1 _ _ nwr hwa), ?_, e89 _ _ hpa, hallp.mono fun _ _ => PatV.mono e89⟩, ⟨h51, h52, hlen, hlenp, hok, hokp⟩⟩ ?_
    · exact (hall.mono fun _ _ h => WrdV.exB eB8 hr7 h).mono fun _ _ => WrdV.mono e89
    · intro g u hg dx' l' r' wa' pa' h'
      rw [h9] at h'
      cases h'
      exact ⟨(fun z => by rw [z] at nwa; rw [fresh_back eH6 nwa] at hg; cases hg), (fun z => by rw [z] at npa; rw [fresh_back eH7 npa] at hg; cases hg)⟩
end
end Pw

set_option Elab.async false
set_option linter.all false
set_option maxRecDepth 100000
set_option maxHeartbeats 4000000
/-! # enumerate of a text, zip of a text and a tuple -/
namespace Pw
open PySem PySem.Spec PyProof.Rows L2 Evl
section
variable {P : Program} {w : World} {K : PySem.W.Frag} {elts : List Expr} {kk : Nat} {tpos : Pos}
def Ites (x : Str) : It :=
  ⟨fun i _ => i < x.cps.size, fun i H v H' => ∃ T c, v = .ref T ∧ H T = none ∧ H' = upd H T (.tup [.int (i : Nat), .str ⟨#[c]⟩]) ∧ x.cps[i]? = some c, fun i _ => i = x.cps.size⟩
theorem turn_enumS (x : Str) (t : Tok) (e it : Addr) (hne : e ≠ it) :
    Turn P w K (.Tuple elts kk tpos) (Ites x) [e, it] e (fun i h => (∃ old, IsEnum h e it (0 + (i : Int)) old) ∧ h.IsStrIter it (strIterType x) x t i) where
  mem := by simp
  obj := fun i h st b hb => by
    obtain ⟨⟨old, he⟩, o, ho, hc, hd⟩ := st
    have e' : b = e ∨ b = it := by simpa using hb
    rcases e' with z | z
    · rw [z]; exact ⟨_, he, fun v q => nomatch q⟩
    · rw [z]; exact ⟨o, ho, fun v q => by rw [hd] at q; cases q⟩
  keep := fun i h h' st k => let ⟨⟨old, he⟩, o, q1, q2, q3⟩ := st; ⟨⟨old, k e (by simp) _ he⟩, o, k it (by simp) o q1, q2, q3⟩
  item := by
    intro X hP hw hK hc i pins s σ H E I hf st hg
    subst hP hw hK
    have hh : X.A.in1.handled = none := I.ok.hd hc
    have W := GoesN.enumFrom (prog := X.prog) (w := X.w) (A := X.A) (elts := elts) (x1 := kk) (pos := tpos) 0 (Draws.text (A := X.A.in1) hh it x t) e hne (by simpa using hne) (by simp)
    have hel : e < s.heap.objs.size := by obtain ⟨⟨_, he⟩, _⟩ := st; exact Heap.lt_size he
    have hil : it < s.heap.objs.size := by obtain ⟨_, _, q, _⟩ := st; exact Heap.lt_size q
    refine wpAny_mono (W.goes i s (fun v s2 => ∃ xx H', Inv X pins σ H' s2 ∧ RelV xx v ∧ (Ites x).yld i H xx H' ∧ ((∃ old, IsEnum s2.heap e it (0 + ((i + 1 : Nat) : Int)) old) ∧ s2.heap.IsStrIter it (strIterType x) x t (i + 1)) ∧ ∀ b ∈ [e, it], H' b = none) E hg st fun v h' tk hY st' hk htk => ?_) (fun r s1 h1 => h1) (fun _ _ z => z)
    obtain ⟨T, tt, x', rfl, hT, ⟨c, u, hc', rfl⟩, hTup⟩ := hY
    have new : ObjOk X.prog X.w (upd H T (.tup [.int (i : Nat), .str ⟨#[c]⟩])) h' T (.tup [.int (i : Nat), .str ⟨#[c]⟩]) :=
      ⟨by show 2 ≤ sizeLine; decide, [.int (0 + (i : Int)) tt, .str ⟨#[c]⟩ u], .cons ⟨_, by rw [Int.zero_add]⟩ (.cons ⟨_, rfl⟩ .nil), hTup⟩
    refine ⟨.ref T, _, I.turnedNew (t' := tk) (ch := [e, it]) hk hf hT new, rfl, ⟨T, c, rfl, I.hok.fresh hT, rfl, hc'⟩, st', fun b hb => ?_⟩
    have hb' : b < s.heap.objs.size := by
      have e' : b = e ∨ b = it := by simpa using hb
      rcases e' with z | z
      · rw [z]; exact hel
      · rw [z]; exact hil
    rw [upd_ne (Nat.ne_of_lt (Nat.lt_of_lt_of_le hb' hT))]
    exact (hf b hb).1
  done := by
    intro X hP hw hK hc i pins s σ H E I hf st hg
    subst hP hw hK
    have hh : X.A.in1.handled = none := I.ok.hd hc
    have W := GoesN.enumFrom (prog := X.prog) (w := X.w) (A := X.A) (elts := elts) (x1 := kk) (pos := tpos) 0 (Draws.text (A := X.A.in1) hh it x t) e hne (by simpa using hne) (by simp)
    have hg' : i = x.cps.size := hg
    subst hg'
    exact W.stops s (fun s1 => Inv X pins σ H s1) E st fun h' tk hk htk => I.turnedL (t' := tk) (ch := [e, it]) hk hf
  self := fun A i s Q E st h => let ⟨⟨_, he⟩, _⟩ := st; wpAny_pyIter_enum he h
def iEnumS (ta : TA) : TI := fun σ H R => ta σ H fun vs H1 => ∃ x, vs = [.str x] ∧ R (Ites x) H1
theorem pi_enumS {X : Cx} {e : Expr} {ta : TA} {p pos tpos : Pos} {elts : List Expr} {kk : Nat} (hg : Gl X "enumerate") (hm : X.mg "enumerate" = none) (ha : PA X [e] ta) (hs : starEach [e] X.env = [(false, eval e X.env)] := by rfl) :
    PI X (.Tuple elts kk tpos) (.Call (.Name "enumerate" p) [e] [] pos) (iEnumS ta) := by
  refine ⟨fun pins s σ H R I h => ?_⟩
  refine Call_ (ld_blt I hg hm boot_enumerate (PyProof.Rows.callWith_type1 (thn (ha.run pos pins s σ H _ I h) fun us s1 ⟨vs, H1, I1, r1, q1⟩ => ?_) hs rfl))
  obtain ⟨x, ex, q⟩ := q1
  subst ex
  cases r1 with
  | cons r rr =>
    cases rr
    obtain ⟨t, rfl⟩ := r
    refine call_enumerate_str fun h' he hit hsz hk => wpAny_pyIter_enum he ?_
    have I2 : Inv X pins σ H1 { s1 with heap := h' } := I1.kept (t' := s1.toks) hk
    refine ⟨s1.heap.objs.size + 1, [s1.heap.objs.size + 1, s1.heap.objs.size], _, _, H1, rfl, I2, turn_enumS x t (s1.heap.objs.size + 1) s1.heap.objs.size (Nat.succ_ne_self _), ⟨⟨.none, he⟩, hit⟩, fun b hb => ?_, q⟩
    have e' : b = s1.heap.objs.size + 1 ∨ b = s1.heap.objs.size := by simpa using hb
    have hle : s1.heap.objs.size ≤ b := by
      rcases e' with z | z
      · rw [z]; exact Nat.le_add_right _ _
      · rw [z]; exact Nat.le_refl _
    exact I1.fpOk hle (I1.hok.fresh hle)
/-! ### zip(text, tuple) -/
def Itzs (K : PySem.W.Frag) (x : Str) (a : Addr) : It :=
  ⟨fun i H => ∃ ys, SqT K H a ys ∧ i < min x.cps.size ys.length, fun i H v H' => ∃ T c y, v = .ref T ∧ H T = none ∧ H' = upd H T (.tup [.str ⟨#[c]⟩, y]) ∧ x.cps[i]? = some c ∧ ∀ ys, SqT K H a ys → ys[i]? = some y,
    fun i H => ∃ ys, SqT K H a ys ∧ i = min x.cps.size ys.length⟩
theorem turn_zipST (x : Str) (t : Tok) (N a : Addr) (ha : a < N) :
    Turn P w K (.Tuple elts kk tpos) (Itzs K x a) [N + 4, N + 2, N + 3, N, N + 1] (N + 4) (fun i h => IsZip h (N + 4) (N + 2) (N + 3) .none ∧ IsTupOf2 h (N + 2) (.ref N) (.ref (N + 1)) ∧ (∃ a1 a2, IsTupOf2 h (N + 3) a1 a2) ∧ h.IsStrIter N (strIterType x) x t i ∧ h.IsTupleIter (N + 1) a i) where
  mem := by simp
  obj := fun i h st c hc => by
    obtain ⟨hz, hTI, ⟨x, y, hTO⟩, ⟨o1, e1, _, d1⟩, ⟨o2, e2, _, d2⟩⟩ := st
    have e' : c = N + 4 ∨ c = N + 2 ∨ c = N + 3 ∨ c = N ∨ c = N + 1 := by simpa using hc
    rcases e' with q | q | q | q | q
    · rw [q]; exact ⟨_, hz, fun v q => nomatch q⟩
    · rw [q]; exact ⟨_, hTI, fun v q => nomatch q⟩
    · rw [q]; exact ⟨_, hTO, fun v q => nomatch q⟩
    · rw [q]; exact ⟨o1, e1, fun v q => by rw [d1] at q; cases q⟩
    · rw [q]; exact ⟨o2, e2, fun v q => by rw [d2] at q; cases q⟩
  keep := fun i h h' st k => by
    obtain ⟨hz, hTI, ⟨x, y, hTO⟩, ⟨o, q1, q2, q3⟩, h2⟩ := st
    exact ⟨k _ (by simp) _ hz, k _ (by simp) _ hTI, ⟨x, y, k _ (by simp) _ hTO⟩, ⟨o, k _ (by simp) o q1, q2, q3⟩, h2.at fun o q => k _ (by simp) o q⟩
  item := by
    intro X hP hw hK hc i pins s σ H E I hf st hg
    subst hP hw hK
    have hh : X.A.in1.handled = none := I.ok.hd hc
    obtain ⟨ys, hq, hlt⟩ := hg
    obtain ⟨its, rv, hit, _⟩ := I.tuple hq
    have hlen := rv.length
    have W := GoesN.zip2 (prog := X.prog) (w := X.w) (A := X.A) (elts := elts) (x1 := kk) (pos := tpos) (zip_sep2 (N := N) (fp1 := []) (fp2 := [a]) (fun _ m => by cases m) (fun b m => by rw [List.mem_singleton.mp m]; exact ha))
      (Draws.text (A := X.A.in1) hh N x t) (Draws.tuple (A := X.A.in1) hh (N + 1) a (Nat.ne_of_lt (Nat.lt_succ_of_lt ha)) its.toArray)
    have hl : ∀ c ∈ [N + 4, N + 2, N + 3, N, N + 1], c < s.heap.objs.size := fun c hcm => by
      obtain ⟨hz, hTI, ⟨x0, y0, hTO⟩, h1, h2⟩ := st
      have e' : c = N + 4 ∨ c = N + 2 ∨ c = N + 3 ∨ c = N ∨ c = N + 1 := by simpa using hcm
      rcases e' with q | q | q | q | q
      · rw [q]; exact Heap.lt_size hz
      · rw [q]; exact Heap.lt_size hTI
      · rw [q]; exact Heap.lt_size hTO
      · rw [q]; obtain ⟨_, e1, _⟩ := h1; exact Heap.lt_size e1
      · rw [q]; obtain ⟨_, e2, _⟩ := h2; exact Heap.lt_size e2
    refine wpAny_mono (W.goes i s (fun v s2 => ∃ xx H', Inv X pins σ H' s2 ∧ RelV xx v ∧ (Itzs X.K x a).yld i H xx H' ∧ (IsZip s2.heap (N + 4) (N + 2) (N + 3) .none ∧ IsTupOf2 s2.heap (N + 2) (.ref N) (.ref (N + 1)) ∧ (∃ a1 a2, IsTupOf2 s2.heap (N + 3) a1 a2) ∧ s2.heap.IsStrIter N (strIterType x) x t (i + 1) ∧ s2.heap.IsTupleIter (N + 1) a (i + 1)) ∧ ∀ b ∈ [N + 4, N + 2, N + 3, N, N + 1], H' b = none) E (by simp; omega)
      ⟨st.1, st.2.1, st.2.2.1, st.2.2.2.1, st.2.2.2.2, hit⟩ fun v h' tk hY st' hk htk => ?_) (fun r s1 h1 => h1) (fun _ _ z => z)
    obtain ⟨T, x', y', rfl, hT, ⟨c, u, hc', rfl⟩, hy', hTup⟩ := hY
    have hi2 : i < ys.length := by omega
    obtain ⟨u2, hu2, ru2⟩ := rv.get (List.getElem?_eq_getElem hi2)
    have e2 : u2 = y' := by
      have hy2 : its[i]? = some y' := by simpa using hy'
      rw [hu2] at hy2
      exact Option.some.inj hy2
    subst e2
    have new : ObjOk X.prog X.w (upd H T (.tup [.str ⟨#[c]⟩, ys[i]])) h' T (.tup [.str ⟨#[c]⟩, ys[i]]) :=
      ⟨by show 2 ≤ sizeLine; decide, [.str ⟨#[c]⟩ u, u2], .cons ⟨_, rfl⟩ (.cons ru2 .nil), hTup⟩
    refine ⟨.ref T, _, I.turnedNew (t' := tk) (ch := [N + 4, N + 2, N + 3, N, N + 1]) (fun b o hb q => hk b o (fun m => hb (by
      have e' : b = N + 4 ∨ b = N + 3 ∨ b = N ∨ b = N + 1 := by simpa using m
      rcases e' with z | z | z | z <;> simp [z])) q) hf hT new, rfl, ⟨T, c, _, rfl, I.hok.fresh hT, rfl, hc', fun zs hz => ?_⟩, ⟨st'.1, st'.2.1, st'.2.2.1, st'.2.2.2.1, st'.2.2.2.2.1⟩, fun b hb => ?_⟩
    · rw [I.tuple_inj hz hq]; exact List.getElem?_eq_getElem hi2
    · rw [upd_ne (Nat.ne_of_lt (Nat.lt_of_lt_of_le (hl b hb) hT))]
      exact (hf b hb).1
  done := by
    intro X hP hw hK hc i pins s σ H E I hf st hg
    subst hP hw hK
    have hh : X.A.in1.handled = none := I.ok.hd hc
    obtain ⟨ys, hq, hi⟩ := hg
    obtain ⟨its, rv, hit, _⟩ := I.tuple hq
    have hlen := rv.length
    have W := GoesN.zip2 (prog := X.prog) (w := X.w) (A := X.A) (elts := elts) (x1 := kk) (pos := tpos) (zip_sep2 (N := N) (fp1 := []) (fp2 := [a]) (fun _ m => by cases m) (fun b m => by rw [List.mem_singleton.mp m]; exact ha))
      (Draws.text (A := X.A.in1) hh N x t) (Draws.tuple (A := X.A.in1) hh (N + 1) a (Nat.ne_of_lt (Nat.lt_succ_of_lt ha)) its.toArray)
    have e0 : i = min x.cps.size its.toArray.size := by simp; omega
    rw [e0] at st
    exact W.stops s (fun s1 => Inv X pins σ H s1) E ⟨st.1, st.2.1, st.2.2.1, st.2.2.2.1, st.2.2.2.2, hit⟩ fun h' tk hk htk => I.turnedL (t' := tk) (ch := [N + 4, N + 2, N + 3, N, N + 1]) (fun b o hb q => hk b o (fun m => hb (by
      have e' : b = N + 4 ∨ b = N + 3 ∨ b = N ∨ b = N + 1 := by simpa using m
      rcases e' with z | z | z | z <;> simp [z])) q) hf
  self := fun A i s Q E st h => wpAny_pyIter_zip st.1 h
def iZipST (K : PySem.W.Frag) (ta : TA) : TI := fun σ H R => ta σ H fun vs H1 => ∃ x a ys, vs = [.str x, .ref a] ∧ SqT K H1 a ys ∧ R (Itzs K x a) H1
theorem pi_zipST {X : Cx} {e e2 : Expr} {ta : TA} {p pos tpos : Pos} {elts : List Expr} {kk : Nat} (hg : Gl X "zip") (hm : X.mg "zip" = none) (ha : PA X [e, e2] ta)
    (hs : starEach [e, e2] X.env = (false, eval e X.env) :: starEach [e2] X.env := by rfl) (hpl : (backTo pos (starEach [e2] X.env)).any (·.1) = false := by rfl) :
    PI X (.Tuple elts kk tpos) (.Call (.Name "zip" p) [e, e2] [] pos) (iZipST X.K ta) := by
  refine ⟨fun pins s σ H R I h => ?_⟩
  refine Call_ (ld_blt I hg hm PyProof.Rows.boot_zip (PyProof.Rows.callWith_type1 (thn (ha.run pos pins s σ H _ I h) fun us s1 ⟨vs, H1, I1, r1, q1⟩ => ?_) hs hpl))
  obtain ⟨x, a, ys, ex, hq, q⟩ := q1
  subst ex
  cases r1 with
  | cons r rr =>
    cases rr with
    | cons r' rr =>
      cases rr
      obtain ⟨t, rfl⟩ := r
      cases r'
      obtain ⟨its, rv, hit, _⟩ := I1.tuple hq
      have la : a < s1.heap.objs.size := by obtain ⟨_, q, _⟩ := hit; exact Heap.lt_size q
      refine zip_begins2 (begins_text x t) (begins_tuple a its.toArray) trivial hit fun h' hz hTI hTO h1 h2 hsz hk => wpAny_pyIter_zip hz ?_
      have I2 : Inv X pins σ H1 { s1 with heap := h' } := I1.kept (t' := s1.toks) hk
      refine ⟨s1.heap.objs.size + 4, [s1.heap.objs.size + 4, s1.heap.objs.size + 2, s1.heap.objs.size + 3, s1.heap.objs.size, s1.heap.objs.size + 1], _, _, H1, rfl, I2, turn_zipST x t s1.heap.objs.size a la, ⟨hz, hTI, ⟨_, _, hTO⟩, ⟨_, h1, rfl, rfl⟩, ⟨_, h2, rfl, rfl⟩⟩, fun c hcm => ?_, q⟩
      have e' : c = s1.heap.objs.size + 4 ∨ c = s1.heap.objs.size + 2 ∨ c = s1.heap.objs.size + 3 ∨ c = s1.heap.objs.size ∨ c = s1.heap.objs.size + 1 := by simpa using hcm
      have hle : s1.heap.objs.size ≤ c := by
        rcases e' with z | z | z | z | z
        · rw [z]; exact Nat.le_add_right _ _
        · rw [z]; exact Nat.le_add_right _ _
        · rw [z]; exact Nat.le_add_right _ _
        · rw [z]; exact Nat.le_refl _
        · rw [z]; exact Nat.le_add_right _ _
      exact I1.fpOk hle (I1.hok.fresh hle)
end
end Pw

set_option Elab.async false
set_option linter.all false
set_option maxRecDepth 100000
set_option maxHeartbeats 4000000
namespace Pw
open PySem PySem.Spec PyProof.Rows L2 Evl
open VahypBase (Bytes inChunk isLetter isDigit lex Toks isBlank PTok showNat)
open Vahypa (Word Pat Lst hyphened digit showPat)
local macro_rules | `(tactic| trivial) => `(tactic| first
  | with_reducible exact ev_c
  | ((with_reducible apply ev_var); exact rfl)
  | with_reducible apply et_test
  | with_reducible apply et_B
  | with_reducible apply et_not
  | with_reducible exact rv_I0
  | with_reducible exact rv_isN
  | with_reducible exact rv_notN
  | with_reducible exact rv_in _
  | with_reducible exact rv_inF _
  | with_reducible exact rv_eq rfl
  | with_reducible exact rv_ne rfl
  | with_reducible exact ru_neg
  | with_reducible apply ev_chain
  | with_reducible apply ev_op
  | with_reducible apply ev_un
  | with_reducible exact ea_nil
  | with_reducible apply ea_cons
  | with_reducible exact eo_none
  | with_reducible apply eo_some
  | with_reducible assumption)
theorem inV_nv (k : Nat) (l : List Nat) : inV (iv k) (nv l) = l.contains k := by
  unfold inV nv
  rw [List.any_map]
  induction l with
  | nil => rfl
  | cons a r ih =>
    rw [List.any_cons, List.contains_cons, ← ih]
    congr 1
    show ((a : Int) == (k : Int)) = (k == a)
    by_cases h : a = k
    · subst h; simp
    · rw [beq_eq_false_iff_ne.mpr (show (a : Int) ≠ k by omega), beq_eq_false_iff_ne.mpr (show k ≠ a by omega)]
theorem flat_nv (l : List Nat) : (nv l).all flatV = true := by
  unfold nv
  rw [List.all_map]
  exact List.all_eq_true.mpr fun _ _ => rfl
/-- letters, dashes at some of the first n -/
def hyF (cuts : List Nat) (c : UInt8 × Nat) : Bytes := if cuts.contains c.2 = true ∧ 0 < c.2 then [45, c.1] else [c.1]
def hyN (x : Bytes) (cuts : List Nat) (n : Nat) : Bytes := (x.zipIdx.take n).flatMap (hyF cuts)
theorem hyN_all (x : Bytes) (cuts : List Nat) : hyN x cuts x.length = hyphened x cuts := by
  unfold hyN hyphened
  rw [List.take_of_length_le (by simp)]
  rfl
theorem zipIdx_get {x : Bytes} {i : Nat} {c : UInt8} (h : x[i]? = some c) : x.zipIdx[i]? = some (c, i) := by
  rw [List.getElem?_zipIdx, h]
  simp
theorem hyN_succ {x : Bytes} {cuts : List Nat} {i : Nat} {c : UInt8} (h : x[i]? = some c) (h0 : 0 ∉ cuts) : hyN x cuts (i + 1) = (hyN x cuts i ++ (if cuts.contains i = true then [45] else [])) ++ [c] := by
  unfold hyN
  rw [take_snoc (zipIdx_get h), List.flatMap_append]
  have e : [(c, i)].flatMap (hyF cuts) = (if cuts.contains i = true then [45] else []) ++ [c] := by
    show hyF cuts (c, i) ++ [] = _
    unfold hyF
    by_cases hc : cuts.contains i = true
    · have : 0 < i := by
        rcases Nat.eq_zero_or_pos i with z | z
        · subst z; exact absurd (by simpa using hc) h0
        · exact z
      rw [if_pos ⟨hc, this⟩, if_pos hc]; rfl
    · rw [if_neg (fun z => hc z.1), if_neg hc]; rfl
  rw [e, List.append_assoc]
theorem hyN_len (x : Bytes) (cuts : List Nat) : ∀ n, (hyN x cuts n).length ≤ 2 * n
  | 0 => Nat.le_refl _
  | n + 1 => by
    have ih := hyN_len x cuts n
    unfold hyN at ih ⊢
    rw [List.take_succ, List.flatMap_append, List.length_append]
    have : ((x.zipIdx[n]?.toList).flatMap (hyF cuts)).length ≤ 2 := by
      cases x.zipIdx[n]? with
      | none => simp
      | some c =>
        show (hyF cuts c ++ []).length ≤ 2
        unfold hyF
        split <;> simp
    omega
def spWText (K : PySem.W.Frag) : Sp := fun vs H Q _ => ∃ (x : Bytes) (g : Addr) (cuts : List Nat), vs = [.str (S x), .ref g] ∧ (SqT K H g (nv cuts) ∨ SqL K H g (nv cuts)) ∧ x.length ≤ 40 ∧ 0 ∉ cuts ∧ RetV (.str (S (hyphened x cuts))) H Q
/-- a digit's text -/
theorem dig_text : ∀ n : Nat, n < 10 → (toString (n : Int) : Str) = S (showNat n) := by decide +kernel
theorem dig_len : ∀ n : Nat, n < 10 → (digit n).length ≤ 1 := by decide +kernel
def shF (levels : List Nat) (c : UInt8 × Nat) : Bytes := digit (levels[c.2]?.getD 0) ++ [c.1]
def shN (x : Bytes) (levels : List Nat) (n : Nat) : Bytes := (x.zipIdx.take n).flatMap (shF levels)
theorem shN_succ {x : Bytes} {ls : List Nat} {i v : Nat} {c : UInt8} (h : x[i]? = some c) (hv : ls[i]? = some v) : shN x ls (i + 1) = (shN x ls i ++ digit v) ++ [c] := by
  unfold shN
  rw [take_snoc (zipIdx_get h), List.flatMap_append]
  have e : [(c, i)].flatMap (shF ls) = digit v ++ [c] := by
    show shF ls (c, i) ++ [] = _
    unfold shF
    rw [hv, List.append_nil]
    rfl
  rw [e, List.append_assoc]
theorem showPat_is (p : Pat) : showPat p = (if p.front = true then [46] else []) ++ (shN p.x p.levels p.x.length ++ (digit (p.levels[p.x.length]?.getD 0) ++ (if p.halt_ = true then [46] else []))) := by
  unfold showPat shN
  rw [List.take_of_length_le (by simp)]
  rfl
def spPText (K : PySem.W.Frag) : Sp := fun vs H Q _ => ∃ (v : V) (p : Pat), vs = [v] ∧ PatV H v p ∧ POk p ∧ RetV (.str (S (showPat p))) H Q
theorem walk_enumS {b : Bytes} : Walk (Ites (S b)) b.length (fun _ => True) (fun i H v H' => ∃ T c, v = .ref T ∧ H T = none ∧ H' = upd H T (.tup [iv i, .str (S [c])]) ∧ b[i]? = some c) :=
  ⟨fun i H hi _ => by show i < (S b).cps.size; rw [S_size]; exact hi, fun H _ => by show b.length = (S b).cps.size; rw [S_size], fun i H x H' hi _ y => by
    obtain ⟨T, c, h1, h2, h3, h4⟩ := y
    obtain ⟨a, ha, rfl⟩ := S_get h4
    exact ⟨T, a, h1, h2, h3, ha⟩⟩
theorem walk_zipST {K : PySem.W.Frag} {b : Bytes} {a : Addr} {ys : List V} (hl : b.length ≤ ys.length) : Walk (Itzs K (S b) a) b.length (fun H => SqT K H a ys) (fun i H v H' => ∃ T c y, v = .ref T ∧ H T = none ∧ H' = upd H T (.tup [.str (S [c]), y]) ∧ b[i]? = some c ∧ ys[i]? = some y) :=
  ⟨fun i H hi h => ⟨ys, h, by rw [S_size]; omega⟩, fun H h => ⟨ys, h, by rw [S_size]; omega⟩, fun i H x H' hi h y => by
    obtain ⟨T, c, z, h1, h2, h3, h4, h5⟩ := y
    obtain ⟨a', ha, rfl⟩ := S_get h4
    exact ⟨T, a', z, h1, h2, h3, ha, h5 ys h⟩⟩
section
variable {P : Program} {w : World} {K : PySem.W.Frag} {mg : Str → Option Value} {base : Heap} {A : Ads}
abbrev s_word_text : Stmt := top 45
abbrev N_word_text : List Str := ["letters", "gaps", "text", "k", "letter"]
abbrev P_word_text : List Str := ["letters", "gaps"]
theorem sc_word_text : FnScope N_word_text P_word_text (defScope s_word_text) := ⟨rfl, rfl, rfl, by decide +kernel, rfl, by decide +kernel, by decide +kernel⟩
theorem ok_word_text {f : Addr} {fd : FuncData} (F : Fun K "word_text" "word_text" s_word_text f fd) (T : Txt K mg A) : FnOk P w K mg base CX0 1 f fd P_word_text (spWText K) := by
  refine F.ok sc_word_text (fun vs H Q E h => ?_) (fun cdv A' outer s H vs Q E hr h => ⟨_,
    (pss_cons (ps_set (i := 2) sc_word_text.nd rfl (Or.inl rfl) pe_str)
    (pss_cons (ps_for PassesOwn.never rfl (pi_enumS (by rfl) T.n_enumerate (pa_cons (pv 0) pa_nil)) (pg_tup rfl (pgs_cons (pg_name (i := 3) sc_word_text.nd rfl (Or.inl rfl)) (pgs_cons (pg_name (i := 4) sc_word_text.nd rfl (Or.inl rfl)) pgs_nil))) (pss_one (ps_set (i := 2) sc_word_text.nd rfl (Or.inl rfl) (pe_op ow_adds (pe_op ow_adds (pv 2) (pe_ifExp (pt_cmpR op_in_seq (pv 3) (pv 1) (by rfl)) pe_str pe_str)) (pv 4)))))
    (pss_one (ps_ret (pv 2)))))
    , ?_⟩)
  · obtain ⟨x, g, cuts, rfl, _⟩ := h
    rfl
  · obtain ⟨x, g, cuts, rfl, hg, hz, h0, k⟩ := h
    refine q_asg (v := .str (S [])) (by rw [← lit_nil]; exact ev_c) fun H1 e1 => ?_
    refine ⟨_, rfl, S x, rfl, for_it (D := _) walk_enumS (fun i σ' H' => ∃ v3 v4, σ' = [some (.str (S x)), some (.ref g), some (.str (S (hyN x cuts i))), v3, v4] ∧ Ex H H') ⟨none, none, rfl, e1⟩ (fun _ _ _ _ _ => trivial) (fun i v σ' H2 H3 hi p y => ?_) (fun σ' H2 p => ?_)⟩
    · obtain ⟨v3, v4, rfl, eH⟩ := p
      obtain ⟨Tt, c, rfl, hT, rfl, hc⟩ := y
      refine ⟨Tt, _, rfl, st_of upd_same, rfl, _, _, rfl, _, _, rfl, rfl, ?_⟩
      have eH3 : Ex H (upd H2 Tt (.tup [iv i, .str (S [c])])) := eH.trans (Ex.new hT)
      have hlen := hyN_len x cuts i
      show tAsg _ (gName 2) _ [some (.str (S x)), some (.ref g), some (.str (S (hyN x cuts i))), some (iv i), some (.str (S [c]))] _
      refine s_asg (v := .str (S (hyN x cuts (i + 1)))) ?_ fun H4 e4 => ⟨_, _, rfl, eH3.trans e4⟩
      rw [hyN_succ hc h0]
      refine ev_op (ev_op (ev_var rfl) (y := .str (S (if cuts.contains i = true then [45] else []))) (ev_if (b := cuts.contains i) (et_is (et_test (ev_op (ev_var rfl) (ev_var rfl) (z := .bl (inV (iv i) (nv cuts))) ?_)) (inV_nv i cuts)) (fun hb => ?_) (fun hb => ?_)) (rv_adds ?_)) (ev_var rfl) (rv_adds ?_)
      · rcases hg with hg | hg
        · exact rv_isT (ex_t eH3 hg) rfl (flat_nv _)
        · exact rv_isL (ex_l eH3 hg) rfl (flat_nv _)
      · rw [if_pos hb, ← lit_dash]; exact ev_c
      · rw [if_neg (by rw [hb]; decide), ← lit_nil]; exact ev_c
      · split <;> simp <;> omega
      · split <;> simp <;> omega
    · obtain ⟨v3, v4, rfl, eH⟩ := p
      rw [hyN_all]
      exact s_ret (v := .str (S (hyphened x cuts))) (ev_var rfl) fun H3 e3 => k H3 (eH.trans e3)
abbrev s_pattern_text : Stmt := top 46
abbrev N_pattern_text : List Str := ["one", "letters", "digits", "front", "end", "text", "letter", "digit"]
abbrev P_pattern_text : List Str := ["one"]
theorem sc_pattern_text : FnScope N_pattern_text P_pattern_text (defScope s_pattern_text) := ⟨rfl, rfl, rfl, by decide +kernel, rfl, by decide +kernel, by decide +kernel⟩
theorem ok_pattern_text {f : Addr} {fd : FuncData} (F : Fun K "pattern_text" "pattern_text" s_pattern_text f fd) (T : Txt K mg A) : FnOk P w K mg base CX0 1 f fd P_pattern_text (spPText K) := by
  refine F.ok sc_pattern_text (fun vs H Q E h => ?_) (fun cdv A' outer s H vs Q E hr h => ⟨_,
    (pss_cons (ps_asg (pv 0) (pg_tup rfl (pgs_cons (pg_name (i := 1) sc_pattern_text.nd rfl (Or.inl rfl)) (pgs_cons (pg_name (i := 2) sc_pattern_text.nd rfl (Or.inl rfl)) (pgs_cons (pg_name (i := 3) sc_pattern_text.nd rfl (Or.inl rfl)) (pgs_cons (pg_name (i := 4) sc_pattern_text.nd rfl (Or.inl rfl)) pgs_nil))))))
    (pss_cons (ps_set (i := 5) sc_pattern_text.nd rfl (Or.inl rfl) (pe_ifExp (pt_val (pv 3)) pe_str pe_str))
    (pss_cons (ps_for PassesOwn.never rfl (pi_zipST (by rfl) T.n_zip (pa_cons (pv 1) (pa_cons (pv 2) pa_nil))) (pg_tup rfl (pgs_cons (pg_name (i := 6) sc_pattern_text.nd rfl (Or.inl rfl)) (pgs_cons (pg_name (i := 7) sc_pattern_text.nd rfl (Or.inl rfl)) pgs_nil))) (pss_one (ps_set (i := 5) sc_pattern_text.nd rfl (Or.inl rfl) (pe_op ow_adds (pe_op ow_adds (pv 5) (pe_ifExp (pt_cmpR op_gt (pv 7) pe_int (nomark _)) (pe_callTy cw_stri (by rfl) T.n_str (by decide +kernel) (pa_cons (pv 7) pa_nil)) pe_str)) (pv 6)))))
    (pss_cons (ps_set (i := 5) sc_pattern_text.nd rfl (Or.inl rfl) (pe_op ow_adds (pv 5) (pe_ifExp (pt_cmpR op_gt (pe_ix ix_tup (pv 2) (pe_un un_neg pe_int) (fun _ _ => rfl)) pe_int (nomark _)) (pe_callTy cw_stri (by rfl) T.n_str (by decide +kernel) (pa_cons (pe_ix ix_tup (pv 2) (pe_un un_neg pe_int) (fun _ _ => rfl)) pa_nil)) pe_str)))
    (pss_one (ps_ret (pe_op ow_adds (pv 5) (pe_ifExp (pt_val (pv 4)) pe_str pe_str))))))))
    , ?_⟩)
  · obtain ⟨v, p, rfl, _⟩ := h
    rfl
  · obtain ⟨v, p, rfl, ⟨a, d, rfl, ha, hd⟩, ok, k⟩ := h
    have hl := ok.lv
    have hl6 := ok.l6
    obtain ⟨vl, hvl⟩ : ∃ vl, p.levels[p.x.length]? = some vl := ⟨_, List.getElem?_eq_getElem (by omega)⟩
    have hv9 : vl ≤ 9 := ok.l9 _ (List.mem_of_getElem? hvl)
    have hlast : atI (nv p.levels) (-1) = some (iv vl) := by
      unfold atI nv
      rw [List.length_map, hl, ixN_last]
      show (p.levels.map iv)[p.x.length]? = _
      rw [List.getElem?_map, hvl]
      rfl
    have dg : ∀ {n : Nat} {te : TE} {σ : L2.St} {H : Hp}, n ≤ 9 → Ev te σ H (iv n) → Ev (tIf (tTest (tOp (rI0 fun i j => .bl (decide (i > j))) te (tC (.int 0)))) (tCB rStrI (tCons te tNil)) (tC (.str (Str.ofString "")))) σ H (.str (S (digit n))) := fun {n te σ H} hn he => by
      refine ev_if (b := decide (0 < n)) (et_is (et_test (ev_op he ev_c rv_I0)) (decide_eq_decide.mpr (by omega))) (fun hb => ?_) (fun hb => ?_)
      · have h0 : ¬ n = 0 := by have := of_decide_eq_true hb; omega
        refine ev_is (ev_strI he (by have : (n : Int).natAbs = n := rfl; rw [this]; exact Nat.lt_of_le_of_lt (Nat.log2_le_self n) (by omega))) ?_
        rw [dig_text n (by omega)]
        unfold digit
        rw [if_neg h0]
      · have h0 : n = 0 := by have := of_decide_eq_false hb; omega
        subst h0
        exact ev_is ev_c (by rw [lit_nil]; rfl)
    refine ⟨_, rfl, a, _, rfl, st_of ha, rfl, _, _, rfl, _, _, rfl, _, _, rfl, _, _, rfl, rfl, ?_⟩
    dsimp only
    refine q_asg (v := .str (S (if p.front = true then [46] else []))) (ev_if (b := p.front) (et_test (ev_var rfl)) (fun hb => ?_) (fun hb => ?_)) fun H1 e1 => ?_
    · rw [if_pos hb, ← lit_dot]; exact ev_c
    · rw [if_neg (by rw [hb]; decide), ← lit_nil]; exact ev_c
    have shl : ∀ i, (shN p.x p.levels i).length ≤ 2 * i := fun i => by
      induction i with
      | zero => exact Nat.le_refl _
      | succ i ih =>
        cases hc : p.x[i]? with
        | none =>
          have e : shN p.x p.levels (i + 1) = shN p.x p.levels i := by
            unfold shN
            have : p.x.length ≤ i := List.getElem?_eq_none_iff.mp hc
            rw [List.take_of_length_le (by simp; omega), List.take_of_length_le (by simp; omega)]
          rw [e]; omega
        | some c =>
          have hi : i < p.x.length := (List.getElem?_eq_some_iff.mp hc).1
          have hv : p.levels[i]? = some p.levels[i] := List.getElem?_eq_getElem (by omega)
          rw [shN_succ hc hv]
          have := dig_len p.levels[i] (by have := ok.l9 _ (List.mem_of_getElem? hv); omega)
          simp
          omega
    refine ⟨_, rfl, _, rfl, S p.x, d, nv p.levels, rfl, st_of (e1 _ _ hd), for_it (D := _) (walk_zipST (ys := nv p.levels) (by unfold nv; rw [List.length_map]; omega)) (fun i σ' H' => ∃ v6 v7, σ' = [some (.ref a), some (.str (S p.x)), some (.ref d), some (.bl p.front), some (.bl p.halt_), some (.str (S ((if p.front = true then [46] else []) ++ shN p.x p.levels i))), v6, v7] ∧ Ex H H')
      ⟨none, none, by rw [show shN p.x p.levels 0 = [] from rfl, List.append_nil]; rfl, e1⟩ (fun i σ' H' _ ⟨_, _, _, e⟩ => st_of (e _ _ hd)) (fun i v σ' H2 H3 hi pp y => ?_) (fun σ' H2 pp => ?_)⟩
    · obtain ⟨v6, v7, rfl, eH⟩ := pp
      obtain ⟨Tt, c, y, rfl, hT, rfl, hc, hy⟩ := y
      obtain ⟨n, hn, rfl⟩ := of_map_get hy
      have hn9 : n ≤ 9 := ok.l9 _ (List.mem_of_getElem? hn)
      refine ⟨Tt, _, rfl, st_of upd_same, rfl, _, _, rfl, _, _, rfl, rfl, ?_⟩
      have eH3 : Ex H (upd H2 Tt (.tup [.str (S [c]), iv n])) := eH.trans (Ex.new hT)
      have h1 := shl i
      have h2 := dig_len n (by omega)
      show tAsg _ (gName 5) _ [some (.ref a), some (.str (S p.x)), some (.ref d), some (.bl p.front), some (.bl p.halt_), some (.str (S ((if p.front = true then [46] else []) ++ shN p.x p.levels i))), some (.str (S [c])), some (iv n)] _
      refine s_asg (v := .str (S ((if p.front = true then [46] else []) ++ shN p.x p.levels (i + 1)))) ?_ fun H4 e4 => ⟨_, _, rfl, eH3.trans e4⟩
      have hfl : (if p.front = true then [46] else ([] : Bytes)).length ≤ 1 := by split <;> simp
      rw [shN_succ hc hn, ← List.append_assoc, ← List.append_assoc]
      refine ev_op (ev_op (ev_var rfl) (y := .str (S (digit n))) (dg hn9 (ev_var rfl)) (rv_adds ?_)) (ev_var rfl) (rv_adds ?_)
      · rw [List.length_append]; omega
      · simp only [List.length_append, List.length_singleton]; omega
    · obtain ⟨v6, v7, rfl, eH⟩ := pp
      have h1 := shl p.x.length
      have h2 := dig_len vl (by omega)
      have hfl : (if p.front = true then [46] else ([] : Bytes)).length ≤ 1 := by split <;> simp
      have hhl : (if p.halt_ = true then [46] else ([] : Bytes)).length ≤ 1 := by split <;> simp
      refine q_asg (v := .str (S (((if p.front = true then [46] else []) ++ shN p.x p.levels p.x.length) ++ digit vl))) (ev_op (ev_var rfl) (y := .str (S (digit vl))) (dg hv9 (ev_op (ev_var rfl) (ev_un ev_c ru_neg) (rv_ixT (st_of (eH _ _ hd)) hlast))) (rv_adds ?_)) fun H3 e3 => ?_
      · rw [List.length_append]; omega
      refine s_ret (v := .str (S (showPat p))) ?_ fun H4 e4 => k H4 ((eH.trans e3).trans e4)
      rw [showPat_is, hvl]
      show Ev _ _ _ (.str (S (_ ++ (_ ++ (digit vl ++ _)))))
      rw [← List.append_assoc, ← List.append_assoc]
      refine ev_op (ev_var rfl) (y := .str (S (if p.halt_ = true then [46] else []))) (ev_if (b := p.halt_) (et_test (ev_var rfl)) (fun hb => ?_) (fun hb => ?_)) (rv_adds ?_)
      · rw [if_pos hb, ← lit_dot]; exact ev_c
      · rw [if_neg (show ¬ p.halt_ = true by rw [hb]; decide), ← lit_nil]; exact ev_c
      · simp only [List.length_append]; omega
end
end Pw

set_option Elab.async false
set_option linter.all false
set_option maxRecDepth 100000
set_option maxHeartbeats 4000000
namespace Pw
open PySem PySem.Spec PyProof.Rows L2 Evl
open VahypBase (Bytes inChunk isLetter isDigit lex Toks isBlank PTok showNat word)
open Vahypa (Word Pat Lst hyphened digit showPat)
local macro_rules | `(tactic| trivial) => `(tactic| first
  | with_reducible exact ev_c
  | ((with_reducible apply ev_var); exact rfl)
  | with_reducible apply et_test
  | with_reducible apply et_B
  | with_reducible apply et_not
  | with_reducible exact rv_I0
  | with_reducible exact rv_isN
  | with_reducible exact rv_notN
  | with_reducible exact rv_in _
  | with_reducible exact rv_inF _
  | with_reducible exact rv_eq rfl
  | with_reducible exact rv_ne rfl
  | with_reducible exact ru_neg
  | with_reducible apply ev_chain
  | with_reducible apply ev_op
  | with_reducible apply ev_un
  | with_reducible exact ea_nil
  | with_reducible apply ea_cons
  | with_reducible exact eo_none
  | with_reducible apply eo_some
  | with_reducible assumption)
section
variable {l r x y : V}
theorem lkL_left : ([("left", l), ("right", r), ("words", x), ("patterns", y)] : List (Str × V)).lookup ("left" : Str) = some l := lk_here
theorem lkL_right : ([("left", l), ("right", r), ("words", x), ("patterns", y)] : List (Str × V)).lookup ("right" : Str) = some r := (lk_past (by decide +kernel)).trans lk_here
theorem lkL_words : ([("left", l), ("right", r), ("words", x), ("patterns", y)] : List (Str × V)).lookup ("words" : Str) = some x := (lk_past (by decide +kernel)).trans ((lk_past (by decide +kernel)).trans lk_here)
theorem lkL_pats : ([("left", l), ("right", r), ("words", x), ("patterns", y)] : List (Str × V)).lookup ("patterns" : Str) = some y := (lk_past (by decide +kernel)).trans ((lk_past (by decide +kernel)).trans ((lk_past (by decide +kernel)).trans lk_here))
end
def bjoin (sep : Bytes) : List Bytes → Bytes
  | [] => []
  | a :: r => if r = [] then a else a ++ (sep ++ bjoin sep r)
theorem join_S (sep : Bytes) (l : List Bytes) : Txt.join (S sep) (l.map S) = S (bjoin sep l) := by
  unfold Txt.join
  rw [PySem.StrLaws.glued_eq_join]
  induction l with
  | nil => rfl
  | cons a r ih =>
    cases r with
    | nil => rfl
    | cons b r' =>
      show S a ++ S sep ++ Str.join (S sep) ((b :: r').map S) = S (bjoin sep (a :: b :: r'))
      rw [ih, S_append, S_append]
      show _ = S (if b :: r' = [] then a else a ++ (sep ++ bjoin sep (b :: r')))
      rw [if_neg (by simp), List.append_assoc]
theorem bjoin_len (sep : Bytes) : ∀ l : List Bytes, (bjoin sep l).length ≤ l.flatten.length + l.length * sep.length
  | [] => Nat.zero_le _
  | a :: r => by
    have ih := bjoin_len sep r
    show (if r = [] then a else a ++ (sep ++ bjoin sep r)).length ≤ _
    rw [List.flatten_cons, List.length_append, List.length_cons, Nat.succ_mul]
    split
    · omega
    · simp only [List.length_append]
      omega
def rowText (r : List Bytes) : Bytes := bjoin [32] (r ++ [[59]]) ++ [10]
def rowO (r : List Bytes) : HO := .lst ((r.map S).map V.str)
def wRow (w : Word) : List Bytes := [word "word", hyphened w.x w.cuts]
def pRow (p : Pat) : List Bytes := [word "pattern", showPat p]
def rowsOf (s : Lst) : List (List Bytes) := [[word "margins", showNat s.l, showNat s.r]] ++ s.words.map wRow ++ s.pats.map pRow
def rowOk (r : List Bytes) : Prop := r.length ≤ 3 ∧ r.flatten.length ≤ 60
theorem word_sp : word "word " = word "word" ++ [32] ∧ word "margins " = word "margins" ++ [32] ∧ word "pattern " = word "pattern" ++ [32] ∧ word " ;" = [32] ++ [59] ∧ word " " = [32] := by decide +kernel
theorem row3 (a b c : Bytes) : rowText [a, b, c] = a ++ ([32] ++ (b ++ ([32] ++ (c ++ ([32] ++ [59]))))) ++ [10] := rfl
theorem row2 (a b : Bytes) : rowText [a, b] = a ++ ([32] ++ (b ++ ([32] ++ [59]))) ++ [10] := rfl
theorem rows_shown (s : Lst) : ((rowsOf s).map rowText).flatten = Vahypa.shown s := by
  obtain ⟨h1, h2, h3, h4, h5⟩ := word_sp
  unfold rowsOf Vahypa.shown Vahypa.line
  rw [List.map_append, List.map_append, List.flatten_append, List.flatten_append, h1, h2, h3, h4, h5, List.map_map, List.map_map, List.flatMap_def, List.flatMap_def, List.append_assoc]
  congr 1
  · show rowText [word "margins", showNat s.l, showNat s.r] ++ [] = _
    rw [List.append_nil, row3, List.append_assoc (word "margins") [32]]
theorem shN_len (p : Pat) (ok : POk p) (i : Nat) : (shN p.x p.levels i).length ≤ 2 * i := by
  have hl := ok.lv
  induction i with
  | zero => exact Nat.le_refl _
  | succ i ih =>
    cases hc : p.x[i]? with
    | none =>
      have e : shN p.x p.levels (i + 1) = shN p.x p.levels i := by
        unfold shN
        have : p.x.length ≤ i := List.getElem?_eq_none_iff.mp hc
        rw [List.take_of_length_le (by simp; omega), List.take_of_length_le (by simp; omega)]
      rw [e]; omega
    | some c =>
      have hi : i < p.x.length := (List.getElem?_eq_some_iff.mp hc).1
      have hv : p.levels[i]? = some p.levels[i] := List.getElem?_eq_getElem (by omega)
      rw [shN_succ hc hv]
      have := dig_len p.levels[i] (by have := ok.l9 _ (List.mem_of_getElem? hv); omega)
      simp
      omega
theorem showPat_len (p : Pat) (ok : POk p) : (showPat p).length ≤ 20 := by
  have h1 := shN_len p ok p.x.length
  have h6 := ok.l6
  have hl := ok.lv
  have hvl : p.levels[p.x.length]? = some p.levels[p.x.length] := List.getElem?_eq_getElem (by omega)
  have h2 := dig_len p.levels[p.x.length] (by have := ok.l9 _ (List.mem_of_getElem? hvl); omega)
  have hfl : (if p.front = true then [46] else ([] : Bytes)).length ≤ 1 := by split <;> simp
  have hhl : (if p.halt_ = true then [46] else ([] : Bytes)).length ≤ 1 := by split <;> simp
  rw [showPat_is, hvl]
  show (_ ++ (_ ++ (digit p.levels[p.x.length] ++ _))).length ≤ 20
  simp only [List.length_append]
  omega
theorem num_len : ∀ n : Nat, n < 10 → (showNat n).length ≤ 1 := by decide +kernel
theorem rowsOf_ok (s : Lst) (ok : LOk s) : ∀ r ∈ rowsOf s, rowOk r := by
  intro r m
  unfold rowsOf at m
  rcases List.mem_append.mp m with m | m
  · rcases List.mem_append.mp m with m | m
    · rw [List.mem_singleton.mp m]
      have h1 := num_len s.l (by have := ok.l5; omega)
      have h2 := num_len s.r (by have := ok.r5; omega)
      refine ⟨by simp, ?_⟩
      have h3 : (word "margins").length = 7 := by decide +kernel
      simp only [List.flatten_cons, List.flatten_nil, List.length_append, List.length_nil]
      omega
    · obtain ⟨w, hw, rfl⟩ := List.mem_map.mp m
      have h1 := hyN_len w.x w.cuts w.x.length
      rw [hyN_all] at h1
      have h2 := (ok.ws w hw).l16
      have h3 : (word "word").length = 4 := by decide +kernel
      refine ⟨by simp [wRow], ?_⟩
      unfold wRow
      simp only [List.flatten_cons, List.flatten_nil, List.length_append, List.length_nil]
      omega
  · obtain ⟨p, hp, rfl⟩ := List.mem_map.mp m
    have h1 := showPat_len p (ok.ps p hp)
    have h3 : (word "pattern").length = 7 := by decide +kernel
    refine ⟨by simp [pRow], ?_⟩
    unfold pRow
    simp only [List.flatten_cons, List.flatten_nil, List.length_append, List.length_nil]
    omega
theorem rowText_len {r : List Bytes} (h : rowOk r) : (rowText r).length ≤ 70 := by
  have h1 := bjoin_len [32] (r ++ [[59]])
  obtain ⟨h2, h3⟩ := h
  unfold rowText
  simp only [List.length_append, List.flatten_append, List.flatten_cons, List.flatten_nil, List.length_singleton, List.length_nil] at h1 ⊢
  omega
theorem flat_le : ∀ (l : List Bytes) (c : Nat), (∀ a ∈ l, a.length ≤ c) → l.flatten.length ≤ l.length * c
  | [], _, _ => Nat.zero_le _
  | a :: l, c, h => by
    have h1 := h a (by simp)
    have h2 := flat_le l c fun b m => h b (by simp [m])
    rw [List.flatten_cons, List.length_append, List.length_cons, Nat.succ_mul]
    omega
theorem rows_len (s : Lst) (ok : LOk s) : (rowsOf s).length ≤ 65 := by
  have h1 := ok.w24
  have h2 := ok.p40
  unfold rowsOf
  simp
  omega
theorem shown_len (s : Lst) (ok : LOk s) : (Vahypa.shown s).length ≤ 5000 := by
  rw [← rows_shown]
  have h1 := flat_le ((rowsOf s).map rowText) 70 fun a m => by
    obtain ⟨r, hr, rfl⟩ := List.mem_map.mp m
    exact rowText_len (rowsOf_ok s ok r hr)
  have h2 := rows_len s ok
  rw [List.length_map] at h1
  have : (rowsOf s).length * 70 ≤ 65 * 70 := Nat.mul_le_mul_right _ h2
  omega
def spForm (A : Ads) : Sp := fun vs H Q _ => ∃ (a : Addr) (s : Lst), vs = [.ref a] ∧ LstAt A H a s ∧ RetV (.str (S (Vahypa.shown s))) H Q
def spVL (K : PySem.W.Frag) : Sp := spWText K
theorem spv_wtext {K : PySem.W.Frag} {x : Bytes} {g : Addr} {cuts : List Nat} {H : Hp} (h : SqT K H g (nv cuts) ∨ SqL K H g (nv cuts)) (hz : x.length ≤ 40) (h0 : 0 ∉ cuts) : SpV (spWText K) [.str (S x), .ref g] H (.str (S (hyphened x cuts))) := fun _ e _ q _ =>
  ⟨x, g, cuts, rfl, h.elim (fun z => .inl (ex_t e z)) (fun z => .inr (ex_l e z)), hz, h0, q⟩
theorem spv_ptext {K : PySem.W.Frag} {v : V} {p : Pat} {H : Hp} (h : PatV H v p) (ok : POk p) : SpV (spPText K) [v] H (.str (S (showPat p))) := fun _ e _ q _ => ⟨v, p, rfl, h.mono e, ok, q⟩
theorem gm_pair {K : PySem.W.Frag} {n i j : Nat} : ∀ v σ H (N N' : L2.St → Hp → Prop), (∀ σ2 H2, N σ2 H2 → N' σ2 H2) → gTup K n (gCons (gName i) (gCons (gName j) gNil)) v σ H N → gTup K n (gCons (gName i) (gCons (gName j) gNil)) v σ H N' :=
  fun _ _ _ _ _ h ⟨a, xs, h1, h2, h3, v, r, h4, v2, r2, h5, h6, q⟩ => ⟨a, xs, h1, h2, h3, v, r, h4, v2, r2, h5, h6, h _ _ q⟩
/-- rows that stand apart from g -/
def Rows (g : Addr) (H : Hp) : List V → List (List Bytes) → Prop := All2 fun v r => ∃ p, v = .ref p ∧ p ≠ g ∧ H p = some (rowO r)
theorem Rows.keep {g : Addr} {H H' : Hp} {vs : List V} {rs : List (List Bytes)} (h : Rows g H vs rs) (k : ∀ b o, b ≠ g → H b = some o → H' b = some o) : Rows g H' vs rs := h.mono fun _ _ ⟨p, h1, h2, h3⟩ => ⟨p, h1, h2, k p _ h2 h3⟩
theorem All2.app {α : Type} {R : V → α → Prop} : ∀ {vs ws : List V} {l m : List α}, All2 R vs l → All2 R ws m → All2 R (vs ++ ws) (l ++ m)
  | [], _, [], _, _, y => y
  | _ :: _, _, _ :: _, _, x, y => ⟨x.1, All2.app x.2 y⟩
  | [], _, _ :: _, _, x, _ => x.elim
  | _ :: _, _, [], _, x, _ => x.elim
theorem rows_news {α : Type} {f : V × α → List Bytes} {h : α → List Bytes} (hf : ∀ q, f q = h q.2) {D g : Addr} {H0 H : Hp} {o : HO} (hg : H0 g = some o) : ∀ {acc : List V} {zs : List (V × α)}, News (fun q => rowO (f q)) D H0 H acc zs → Rows g H acc ((zs.map Prod.snd).map h)
  | [], [], _ => trivial
  | v :: vs, z :: zs, ⟨⟨p, h1, _, h3, h4⟩, r⟩ => ⟨⟨p, h1, (fun e => by rw [e, hg] at h3; cases h3), (by rw [← hf]; exact h4)⟩, rows_news hf hg r⟩
  | [], _ :: _, h => h.elim
  | _ :: _, [], h => h.elim
theorem q_asgLL {D : Ends} {te : TE} {tz : TS} {σ : L2.St} {H : Hp} {i : Nat} {xs : List V} (h : EvL te σ H xs) (k : ∀ p H1 g, H p = none → Ex H H1 → H1 p = some (.lst xs) → H1 g = none → tz D (σ.set i (some (.ref g))) (upd H1 g (.lst [.ref p]))) :
    tSeq (tAsg (tLst (tCons te tNil)) (gName i)) tz D σ H := h H (Ex.refl H) _ fun p H1 np e1 hp => ⟨by show 1 ≤ sizeLine; decide, fun g hg => k p H1 g np e1 hp hg⟩
section
variable {P : Program} {w : World} {K : PySem.W.Frag} {mg : Str → Option Value} {base : Heap} {A : Ads}
abbrev s_form_text : Stmt := top 47
abbrev N_form_text : List Str := ["listed", "rows", "letters", "gaps", "one", "row"]
abbrev P_form_text : List Str := ["listed"]
theorem sc_form_text : FnScope N_form_text P_form_text (defScope s_form_text) := ⟨rfl, rfl, rfl, by decide +kernel, rfl, by decide +kernel, by decide +kernel⟩
theorem ok_form_text {f : Addr} {fd : FuncData} (F : Fun K "form_text" "form_text" s_form_text f fd) (T : Txt K mg A) (f_word_text : Cal P w K mg base CX0 1 "word_text" P_word_text (spWText K)) (f_pattern_text : Cal P w K mg base CX0 1 "pattern_text" P_pattern_text (spPText K)) : FnOk P w K mg base CX0 2 f fd P_form_text (spForm A) := by
  refine F.ok sc_form_text (fun vs H Q E h => ?_) (fun cdv A' outer s H vs Q E hr h => ⟨_,
    (pss_cons (ps_set (i := 1) sc_form_text.nd rfl (Or.inl rfl) (pe_lst (pa_cons (pe_lst (pa_cons (pe_gs T.g_MARGINS rfl) (pa_cons (pe_callTy cw_stri (by rfl) T.n_str (by decide +kernel) (pa_cons (pe_fld (pv 0) rfl) pa_nil)) (pa_cons (pe_callTy cw_stri (by rfl) T.n_str (by decide +kernel) (pa_cons (pe_fld (pv 0) rfl) pa_nil)) pa_nil)))) pa_nil)))
    (pss_cons (ps_expr (pe_bm PySem.F.plainAttrs_list PySem.F.slot_list_extend PySem.F.type_list_extend mt_extend (pv 1) (pa_cons (pe_lc rfl sc_form_text.nd (pi_list (pe_fld (pv 0) rfl)) (blkOk_by (own := [("letters", 2), ("gaps", 3)]) (N := N_form_text) (sc := defScope s_form_text) (by decide +kernel)) (fun _ _ _ _ _ => (pg_tupK (K := K) (n := 2) rfl rfl (pgs_cons (pg_name (i := 2) sc_form_text.nd rfl (Or.inl rfl)) (pgs_cons (pg_name (i := 3) sc_form_text.nd rfl (Or.inl rfl)) pgs_nil)))) (fun _ _ _ _ _ => pts_nil) (fun _ _ _ _ _ => (pe_lst (pa_cons (pe_gs T.g_WORD rfl) (pa_cons (pe_callU f_word_text (hr.mono (by decide)) rfl (fun _ => pz) (pa_cons (pv 2) (pa_cons (pv 3) pa_nil))) pa_nil))))) pa_nil)))
    (pss_cons (ps_expr (pe_bm PySem.F.plainAttrs_list PySem.F.slot_list_extend PySem.F.type_list_extend mt_extend (pv 1) (pa_cons (pe_lc rfl sc_form_text.nd (pi_list (pe_fld (pv 0) rfl)) (blkOk_by (own := [("one", 4)]) (N := N_form_text) (sc := defScope s_form_text) (by decide +kernel)) (fun _ _ _ _ _ => (pg_name (i := 4) sc_form_text.nd rfl (Or.inl rfl))) (fun _ _ _ _ _ => pts_nil) (fun _ _ _ _ _ => (pe_lst (pa_cons (pe_gs T.g_PATTERN rfl) (pa_cons (pe_callU f_pattern_text (hr.mono (by decide)) rfl (fun _ => pz) (pa_cons (pv 4) pa_nil)) pa_nil))))) pa_nil)))
    (pss_one (ps_ret (pe_m1 PySem.F.slot_str_join PySem.F.type_str_join mw_join pe_str (pe_lc rfl sc_form_text.nd (pi_list (pv 1)) (blkOk_by (own := [("row", 5)]) (N := N_form_text) (sc := defScope s_form_text) (by decide +kernel)) (fun _ _ _ _ _ => (pg_name (i := 5) sc_form_text.nd rfl (Or.inl rfl))) (fun _ _ _ _ _ => pts_nil) (fun _ _ _ _ _ => (pe_op ow_adds (pe_m1 PySem.F.slot_str_join PySem.F.type_str_join (mw_joinK (K := K) rfl) pe_str (pe_op op_cat (pv 5) (pe_lst (pa_cons (pe_gs T.g_END_SIGN rfl) pa_nil)))) pe_str)))))))))
    , ?_⟩)
  · obtain ⟨a, s, rfl, _⟩ := h
    rfl
  · obtain ⟨a, sl, rfl, ⟨⟨dx, wa, pa, wv, pv, ha, hwa, hw, hpa, hp⟩, ok⟩, k⟩ := h
    have hl5 := ok.l5
    have hr5 := ok.r5
    have num : ∀ {n : Nat} {te : TE} {σ : L2.St} {H : Hp}, n ≤ 5 → Ev te σ H (iv n) → Ev (tCB rStrI (tCons te tNil)) σ H (.str (S (showNat n))) := fun {n te σ H} hn he => by
      refine ev_is (ev_strI he (by have : (n : Int).natAbs = n := rfl; rw [this]; exact Nat.lt_of_le_of_lt (Nat.log2_le_self n) (by omega))) ?_
      rw [dig_text n (by omega)]
    refine q_asgLL (xs := [.str (S (word "margins")), .str (S (showNat sl.l)), .str (S (showNat sl.r))]) (el_lst (ea_cons (by rw [← lit_MARGINS]; exact ev_c) (ea_cons (num hl5 (ev_fld (ev_var rfl) ha T.clL T.nl.1 lkL_left)) (ea_cons (num hr5 (ev_fld (ev_var rfl) ha T.clL T.nl.2.1 lkL_right)) ea_nil))) (by simp)) fun p H1 g np e1 hp1 ng => ?_
    have ng0 : H g = none := fresh_back e1 ng
    generalize hH2 : upd H1 g (.lst [.ref p]) = H2
    have e2 : Ex H H2 := by rw [← hH2]; exact e1.trans (Ex.new ng)
    have hg2 : H2 g = some (.lst [.ref p]) := by rw [← hH2]; exact upd_same
    have npg : p ≠ g := fun z => by rw [z, ng] at hp1; cases hp1
    have hR2 : Rows g H2 [.ref p] [[word "margins", showNat sl.l, showNat sl.r]] := ⟨⟨p, rfl, npg, by rw [← hH2, upd_ne npg]; exact hp1⟩, trivial⟩
    clear hH2
    have hw2 : All2 (WrdV H2) wv sl.words := hw.mono fun _ _ => WrdV.mono e2
    obtain ⟨z1, z2, z3⟩ := hw2.zip
    have hwl : wv.length = sl.words.length := hw2.length
    have hw24 := ok.w24
    have hpl : pv.length = sl.pats.length := hp.length
    have hp40 := ok.p40
    refine ⟨_, rfl, Or.inl ⟨rfl, _, sq_of hg2⟩, lcn_list (K := K) (σ := [some (.ref a), some (.ref g), none, none, none, none]) (H := H2) (vs := [2, 3]) (wv.zip sl.words) Prod.fst (fun q => rowO (wRow q.2)) (ev_fld (ev_var rfl) (e2 _ _ ha) T.clL T.nl.2.2.1 lkL_words) (sq_of (by rw [z1]; exact e2 _ _ hwa)) (by simp; omega) gm_pair (fun q H' N hm ex kN => ?_) H2 (Ex.refl H2) _ fun D H3 acc nD e3 hD nw => ⟨g, D, _, acc, rfl, rfl, e3 _ _ hg2, hD, ?_, ?_⟩⟩
    · obtain ⟨a', c', q1, q2, q3⟩ := z3 q hm
      have okw := ok.ws q.2 (by rw [← z2]; exact List.mem_map.mpr ⟨q, hm, rfl⟩)
      rw [q1]
      have q2' := ex _ _ q2
      have hz16 := okw.l16
      refine ⟨a', _, rfl, st_of q2', rfl, _, _, rfl, _, _, rfl, rfl, rfl, (el_lst (vs := [.str (S (word "word")), .str (S (hyphened q.2.x q.2.cuts))]) (ea_cons (by rw [← lit_WORD]; exact ev_c) (ea_cons (ev_callU (ea_cons (ev_var rfl) (ea_cons (ev_var rfl) ea_nil)) (spv_wtext (.inl (st_of (ex _ _ q3))) (by omega) (fun m => by have := (okw.cut 0 m).1; omega))) ea_nil)) (by simp)) H' (Ex.refl H') N fun p2 H12 np2 e12 hp2 => kN p2 H12 np2 e12 hp2⟩
    · have := nw.length
      rw [List.length_zip] at this
      refine sz1 ?_
      simp
      omega
    dsimp only
    generalize hH4 : upd H3 g (.lst ([.ref p] ++ acc)) = H4
    have e4 : Ex H H4 := by rw [← hH4]; exact Ex.mut (e2.trans e3) ng0
    have hg4 : H4 g = some (.lst ([.ref p] ++ acc)) := by rw [← hH4]; exact upd_same
    have hR4 : Rows g H4 ([.ref p] ++ acc) ([[word "margins", showNat sl.l, showNat sl.r]] ++ sl.words.map wRow) := by
      refine All2.app (hR2.keep fun b o n h => by rw [← hH4, upd_ne n]; exact e3 b o h) ?_
      have := rows_news (h := wRow) (fun _ => rfl) hg2 nw
      rw [z2] at this
      exact Rows.keep this fun b o n h => by rw [← hH4, upd_ne n]; exact h
    have hacc : acc.length ≤ 24 := by
      have := nw.length
      rw [List.length_zip] at this
      omega
    clear hH4
    have hp4 : All2 (PatV H4) pv sl.pats := hp.mono fun _ _ => PatV.mono e4
    obtain ⟨y1, y2, y3⟩ := hp4.zip
    refine ⟨_, rfl, Or.inl ⟨rfl, _, sq_of hg4⟩, lcn_list (K := K) (σ := [some (.ref a), some (.ref g), none, none, none, none]) (H := H4) (vs := [4]) (pv.zip sl.pats) Prod.fst (fun q => rowO (pRow q.2)) (ev_fld (ev_var rfl) (e4 _ _ ha) T.clL T.nl.2.2.2 lkL_pats) (sq_of (by rw [y1]; exact e4 _ _ hpa)) (by simp; omega) gm_name (fun q H' N hm ex kN => ?_) H4 (Ex.refl H4) _ fun D2 H5 acc2 nD2 e5 hD2 nw2 => ⟨g, D2, _, acc2, rfl, rfl, e5 _ _ hg4, hD2, ?_, ?_⟩⟩
    · have okp := ok.ps q.2 (by rw [← y2]; exact List.mem_map.mpr ⟨q, hm, rfl⟩)
      have hq := (y3 q hm).mono ex
      refine ⟨rfl, (el_lst (vs := [.str (S (word "pattern")), .str (S (showPat q.2))]) (ea_cons (by rw [← lit_PATTERN]; exact ev_c) (ea_cons (ev_callU (ea_cons (ev_var rfl) ea_nil) (spv_ptext hq okp)) ea_nil)) (by simp)) H' (Ex.refl H') N fun p2 H12 np2 e12 hp2 => kN p2 H12 np2 e12 hp2⟩
    · have := nw2.length
      rw [List.length_zip] at this
      refine sz1 ?_
      simp
      omega
    dsimp only
    generalize hH6 : upd H5 g (.lst (([.ref p] ++ acc) ++ acc2)) = H6
    have e6 : Ex H H6 := by rw [← hH6]; exact Ex.mut (e4.trans e5) ng0
    have hg6 : H6 g = some (.lst (([.ref p] ++ acc) ++ acc2)) := by rw [← hH6]; exact upd_same
    have hR6 : Rows g H6 (([.ref p] ++ acc) ++ acc2) (rowsOf sl) := by
      refine All2.app (hR4.keep fun b o n h => by rw [← hH6, upd_ne n]; exact e5 b o h) ?_
      have := rows_news (h := pRow) (fun _ => rfl) hg4 nw2
      rw [y2] at this
      exact Rows.keep this fun b o n h => by rw [← hH6, upd_ne n]; exact h
    clear hH6
    obtain ⟨rvs, hrv⟩ : ∃ rvs, rvs = (([V.ref p] ++ acc) ++ acc2) := ⟨_, rfl⟩
    rw [← hrv] at hg6 hR6
    obtain ⟨x1, x2, x3⟩ := All2.zip hR6
    have hrl := rows_len sl ok
    have hrows := rowsOf_ok sl ok
    have hvl := All2.length hR6
    refine s_ret (v := .str (S (Vahypa.shown sl))) (ev_is (ev_join (sep := S []) (ys := ((rowsOf sl).map rowText).map S) (by rw [← lit_nil]; exact ev_c) ?_ ?_) (by rw [join_nil, rows_shown])) fun H7 e7 => k H7 (e6.trans e7)
    · have z := el_lcL (K := K) (σ := [some (.ref a), some (.ref g), none, none, none, none]) (H := H6) (tl := tVar 1) (t := tYes) (te := tOp rAddStr (tM1 (rJoin K) (tC (.str (Str.ofString " "))) (tOp rCat (tVar 5) (tLst (tCons (tC (.str (Str.ofString ";"))) tNil)))) (tC (.str (Str.ofString "\n")))) (j := 5) (vs := [5]) (rvs.zip (rowsOf sl)) Prod.fst (fun _ => true) (fun q => V.str (S (rowText q.2))) (ev_var rfl) (sq_of (by rw [x1]; exact hg6)) (by rw [List.length_zip]; omega) (fun x => rfl) (fun _ _ _ _ => et_yes) (fun q H' hm ex _ => by
        obtain ⟨p', q1, q2, q3⟩ := x3 q hm
        have hro := hrows q.2 (by rw [← x2]; exact List.mem_map.mpr ⟨q, hm, rfl⟩)
        have hbl := bjoin_len [32] (q.2 ++ [[59]])
        have hbl2 : (q.2 ++ [[59]]).flatten.length = q.2.flatten.length + 1 := by simp
        have hbl3 : (q.2 ++ [[59]]).length = q.2.length + 1 := by simp
        obtain ⟨hr1, hr2⟩ := hro
        rw [q1]
        refine ev_op (x := .str (S (bjoin [32] (q.2 ++ [[59]])))) (y := .str (S [10])) (ev_is (ev_join (sep := S [32]) (ys := (q.2 ++ [[59]]).map S) (by rw [← lit_blank]; exact ev_c) ?_ ?_) (by rw [join_S])) (by rw [← lit_line]; exact ev_c) (rv_adds ?_)
        · have e0 : (((q.2 ++ [[59]]).map S).map V.str) = ((q.2.map S).map V.str) ++ [.str (S [59])] := by rw [List.map_append, List.map_append]; rfl
          rw [e0]
          refine el_catA (ev_var rfl) (ex _ _ q3) (el_lst (ea_cons (by rw [← lit_END]; exact ev_c) ea_nil) (by simp)) (by simp; omega)
        · rw [sum_S, S_length, List.length_map, hbl2, hbl3]
          show _ + _ * 1 ≤ _
          omega
        · rw [hbl2, hbl3] at hbl
          show _ + 1 ≤ _
          have : ([32] : Bytes).length = 1 := rfl
          rw [this] at hbl
          omega)
      rw [filter_yes] at z
      have e0 : ((rvs.zip (rowsOf sl)).map fun q => V.str (S (rowText q.2))) = (((rowsOf sl).map rowText).map S).map V.str := by
        conv => rhs; rw [← x2]
        rw [List.map_map, List.map_map, List.map_map]
        rfl
      rw [e0] at z
      exact z
    · rw [sum_S, rows_shown, S_length]
      have := shown_len sl ok
      show _ + _ * 0 ≤ _
      omega
end
end Pw

set_option Elab.async false
set_option linter.all false
set_option maxRecDepth 100000
/-! # Parting, plainly -/
namespace Pw
open VahypBase (Bytes isLetter)
open Vahypa
def placesOf (p : Pat) (x : Bytes) : List Nat := (List.range x.length).filter (fitsAt p x)
def digAt (p : Pat) (o g : Nat) : Nat := if o ≤ g then p.levels[g - o]?.getD 0 else 0
def mx (l : List Nat) : Nat := l.foldl Nat.max 0
def lvlOf (p : Pat) (x : Bytes) (g : Nat) : Nat := mx ((placesOf p x).map fun o => digAt p o g)
theorem fold_max : ∀ (l : List Nat) (m : Nat), l.foldl Nat.max m = Nat.max m (mx l)
  | [], m => (Nat.max_zero m).symm
  | a :: l, m => by
    show l.foldl Nat.max (Nat.max m a) = Nat.max m (l.foldl Nat.max (Nat.max 0 a))
    rw [fold_max l, fold_max l]
    show max (max m a) (mx l) = max m (max (max 0 a) (mx l))
    omega
theorem mx_cons (a : Nat) (l : List Nat) : mx (a :: l) = max a (mx l) := by
  show l.foldl Nat.max (Nat.max 0 a) = _
  rw [fold_max]
  show max (max 0 a) (mx l) = max a (mx l)
  omega
theorem mx_in : ∀ l : List Nat, mx l ∈ 0 :: l
  | [] => List.mem_cons_self
  | a :: l => by
    rw [mx_cons]
    have ih := mx_in l
    by_cases h : mx l ≤ a
    · rw [Nat.max_eq_left h]; simp
    · rw [Nat.max_eq_right (by omega)]
      rcases List.mem_cons.mp ih with z | z
      · omega
      · simp [z]
theorem mx_ge : ∀ (l : List Nat) (y : Nat), y ∈ 0 :: l → y ≤ mx l
  | [], y, h => by
    have e : y = 0 := by simpa using h
    rw [e]; exact Nat.zero_le _
  | a :: l, y, h => by
    rw [mx_cons]
    rcases List.mem_cons.mp h with z | z
    · omega
    · rcases List.mem_cons.mp z with z | z
      · omega
      · have := mx_ge l y (List.mem_cons_of_mem _ z)
        omega
theorem mx_filter (f : Nat → Bool) (d : Nat → Nat) : ∀ l : List Nat, mx (l.map fun o => if f o = true then d o else 0) = mx ((l.filter f).map d)
  | [] => rfl
  | a :: l => by
    rw [List.map_cons, mx_cons, mx_filter f d l, List.filter_cons]
    by_cases h : f a = true
    · rw [if_pos h, if_pos h, List.map_cons, mx_cons]
    · rw [if_neg h, if_neg h, Nat.zero_max]
theorem tells_is (p : Pat) (x : Bytes) (o g : Nat) : tells p x o g = if fitsAt p x o = true then digAt p o g else 0 := by
  unfold tells digAt
  by_cases h : fitsAt p x o = true
  · rw [if_pos h]
    by_cases h2 : o ≤ g
    · rw [if_pos ⟨h, h2⟩, if_pos h2]
    · rw [if_neg fun z => h2 z.2, if_neg h2]
  · rw [if_neg fun z => h z.1, if_neg h]
theorem fits_end {p : Pat} {x : Bytes} (h : 1 ≤ p.x.length) : fitsAt p x x.length = false := by
  unfold fitsAt
  rw [decide_eq_false (by omega), Bool.false_and]
theorem range_places {p : Pat} (x : Bytes) (h : 1 ≤ p.x.length) : (List.range (x.length + 1)).filter (fitsAt p x) = placesOf p x := by
  rw [List.range_succ, List.filter_append, List.filter_cons, if_neg (by rw [fits_end h]; decide), List.filter_nil, List.append_nil]
  rfl
theorem fold_fn (f : Nat → Nat) (l : List Nat) (m : Nat) : l.foldl (fun m o => Nat.max m (f o)) m = max m (mx (l.map f)) := by
  have := fold_max (l.map f) m
  rw [List.foldl_map] at this
  exact this
theorem levelAt_is (x : Bytes) (g : Nat) (ps : List Pat) (h : ∀ p ∈ ps, 1 ≤ p.x.length) : levelAt ps x g = mx (ps.map fun p => lvlOf p x g) := by
  have key : ∀ (ps : List Pat) (m : Nat), (∀ p ∈ ps, 1 ≤ p.x.length) → ps.foldl (fun m p => (List.range (x.length + 1)).foldl (fun m o => Nat.max m (tells p x o g)) m) m = max m (mx (ps.map fun p => lvlOf p x g)) := by
    intro ps
    induction ps with
    | nil => intro m _; exact (Nat.max_zero m).symm
    | cons p ps ih =>
      intro m hp
      rw [List.foldl_cons, ih _ fun q hq => hp q (by simp [hq]), List.map_cons, mx_cons, fold_fn]
      have e : mx ((List.range (x.length + 1)).map fun o => tells p x o g) = lvlOf p x g := by
        unfold lvlOf
        rw [← range_places x (hp p (by simp)), ← mx_filter]
        congr 1
        refine List.map_congr_left fun o _ => tells_is p x o g
      rw [e]
      omega
  show ps.foldl _ 0 = _
  rw [key ps 0 h]
  omega
theorem parts_is (s : Lst) (x : Bytes) : parts s x = ((gaps x).filter (within s x)).filter fun g => levelAt s.pats x g % 2 == 1 := by
  rw [List.filter_filter]
  rfl
theorem gaps_nodup (x : Bytes) : (gaps x).Nodup := by
  unfold gaps
  rw [List.nodup_iff_pairwise_ne, List.pairwise_map]
  exact (List.nodup_iff_pairwise_ne.mp List.nodup_range).imp fun h e => h (by omega)
theorem parts_nodup (s : Lst) (x : Bytes) : (parts s x).Nodup := by
  unfold parts partsBy
  exact (gaps_nodup x).filter _
theorem parts_in {s : Lst} {x : Bytes} {g : Nat} (h : g ∈ parts s x) : 1 ≤ g ∧ g < x.length ∧ within s x g = true := by
  unfold parts partsBy at h
  obtain ⟨h1, h2⟩ := List.mem_filter.mp h
  unfold gaps at h1
  obtain ⟨k, hk, rfl⟩ := List.mem_map.mp h1
  have := List.mem_range.mp hk
  rw [Bool.and_eq_true] at h2
  exact ⟨by omega, by omega, h2.2⟩
theorem gaps_len (x : Bytes) : (gaps x).length = x.length - 1 := by unfold gaps; simp
theorem parts_len (s : Lst) (x : Bytes) : (parts s x).length ≤ x.length := by
  unfold parts partsBy
  have := List.length_filter_le (fun g => levelAt s.pats x g % 2 == 1 && within s x g) (gaps x)
  have := gaps_len x
  omega
theorem inter_len : ∀ (a b : List Nat), a.Nodup → b.Nodup → (a.filter fun g => b.contains g).length = (b.filter fun g => a.contains g).length
  | [], b, _, _ => by
    rw [List.filter_nil, List.filter_eq_nil_iff.mpr (fun g _ => by simp)]
  | x :: a, b, ha, hb => by
    obtain ⟨h1, h2⟩ := List.nodup_cons.mp ha
    have ih := inter_len a b h2 hb
    have key : ∀ b : List Nat, b.Nodup → (b.filter fun g => (x :: a).contains g).length = (b.filter fun g => a.contains g).length + if b.contains x = true then 1 else 0 := by
      intro b
      induction b with
      | nil => intro _; rfl
      | cons y b ihb =>
        intro hb
        obtain ⟨g1, g2⟩ := List.nodup_cons.mp hb
        have ihb := ihb g2
        rw [List.filter_cons, List.filter_cons]
        by_cases e : y = x
        · subst e
          have n1 : b.contains y = false := by simpa using g1
          have n2 : a.contains y = false := by simpa using h1
          rw [n1] at ihb
          have c1 : (y :: a).contains y = true := by simp
          have c2 : (y :: b).contains y = true := by simp
          rw [if_pos c1, if_neg (by rw [n2]; decide), List.length_cons, ihb, if_pos c2, if_neg Bool.false_ne_true]
        · have e1 : (x :: a).contains y = a.contains y := by
            rw [List.contains_cons, beq_eq_false_iff_ne.mpr e, Bool.false_or]
          have e2 : (y :: b).contains x = b.contains x := by
            rw [List.contains_cons, beq_eq_false_iff_ne.mpr (Ne.symm e), Bool.false_or]
          rw [e1, e2]
          split
          · rw [List.length_cons, List.length_cons, ihb]; omega
          · exact ihb
    rw [key b hb, List.filter_cons]
    split
    · rw [List.length_cons, ih]
    · rw [ih]; rfl
theorem filter_split {α : Type} (f : α → Bool) : ∀ l : List α, l.length = (l.filter f).length + (l.filter fun a => !f a).length
  | [] => rfl
  | a :: l => by
    have ih := filter_split f l
    rw [List.filter_cons, List.filter_cons]
    cases f a with
    | true => simp; omega
    | false => simp; omega
/-- a listed word against the list -/
theorem score_is {s : Lst} {w : Word} (ok : WOk w) : (scoreWord s w).hits = ((parts s w.x).filter fun g => w.cuts.contains g).length ∧ (parts s w.x).length = (scoreWord s w).hits + (scoreWord s w).faults ∧ (w.cuts.filter (within s w.x)).length = (scoreWord s w).hits + (scoreWord s w).misses := by
  refine ⟨rfl, filter_split (fun g => w.cuts.contains g) (parts s w.x), ?_⟩
  have h1 := inter_len (parts s w.x) w.cuts (parts_nodup s w.x) ok.inc
  have h2 := filter_split (fun g => (parts s w.x).contains g) (w.cuts.filter (within s w.x))
  rw [List.filter_filter, List.filter_filter] at h2
  have e1 : (w.cuts.filter fun a => (parts s w.x).contains a && within s w.x a) = w.cuts.filter fun g => (parts s w.x).contains g := by
    refine List.filter_congr fun g _ => ?_
    cases hc : (parts s w.x).contains g with
    | false => rfl
    | true => rw [(parts_in (List.contains_iff_mem.mp hc)).2.2]; rfl
  have e2 : (w.cuts.filter fun a => !(parts s w.x).contains a && within s w.x a) = w.cuts.filter fun g => within s w.x g && !(parts s w.x).contains g := List.filter_congr fun g _ => Bool.and_comm _ _
  rw [e1, e2] at h2
  rw [h2, ← h1]
  rfl
/-- the first that a test takes -/
def placesWith (p : Pat) (x : Bytes) (g v : Nat) : List Nat := (placesOf p x).filter fun o => digAt p o g == v
theorem find_first {p : Pat} {x : Bytes} {g v : Nat} (h : 1 ≤ p.x.length) (hv : v ≠ 0) : ((List.range (x.length + 1)).find? fun o => tells p x o g == v) = (placesWith p x g v).head? := by
  rw [← List.head?_filter]
  congr 1
  unfold placesWith
  rw [← range_places x h, List.filter_filter]
  refine List.filter_congr fun o _ => ?_
  rw [tells_is]
  by_cases hf : fitsAt p x o = true
  · rw [if_pos hf, hf, Bool.and_true]
  · rw [if_neg hf, show fitsAt p x o = false by simpa using hf, Bool.and_false]
    exact beq_eq_false_iff_ne.mpr (Ne.symm hv)
def decF (x : Bytes) (g v : Nat) (p : Pat × Nat) : Option (Nat × Nat) := (placesWith p.1 x g v).head?.map fun o => (p.2, o)
theorem decides_is {s : Lst} {x : Bytes} {g : Nat} (h : ∀ p ∈ s.pats, 1 ≤ p.x.length) (hv : levelAt s.pats x g ≠ 0) : decides s x g = s.pats.zipIdx.findSome? (decF x g (levelAt s.pats x g)) := by
  unfold decides
  show (if levelAt s.pats x g = 0 then none else _) = _
  rw [if_neg hv]
  have key : ∀ (l : List (Pat × Nat)), (∀ p ∈ l, 1 ≤ p.1.x.length) → (l.findSome? fun p => ((List.range (x.length + 1)).find? fun o => tells p.1 x o g == levelAt s.pats x g).map fun o => (p.2, o)) = l.findSome? (decF x g (levelAt s.pats x g)) := by
    intro l
    induction l with
    | nil => intro _; rfl
    | cons a l ih =>
      intro hl
      rw [List.findSome?_cons, List.findSome?_cons, ih fun p m => hl p (by simp [m]), find_first (hl a (by simp)) hv]
      rfl
  refine key _ fun p m => ?_
  have := List.mem_zipIdx m
  refine h _ ?_
  obtain ⟨_, _, e⟩ := this
  rw [e]
  exact List.getElem_mem _
def fitF (p : Pat) (w : Word × Nat) : List (Nat × Nat) := (placesOf p w.1.x).map fun o => (w.2, o)
theorem fitsIn_is (s : Lst) {p : Pat} (h : 1 ≤ p.x.length) : fitsIn s p = s.words.zipIdx.flatMap (fitF p) := by
  unfold fitsIn fitF
  congr 1
  funext w
  rw [range_places _ h]
theorem fits_iff {p : Pat} {x : Bytes} {o : Nat} (h : 1 ≤ p.x.length) : fitsAt p x o = (((x.drop o).take p.x.length == p.x) && ((!p.front || o == 0) && (!p.halt_ || o + p.x.length == x.length))) := by
  unfold fitsAt
  cases hc : ((x.drop o).take p.x.length == p.x) with
  | false => simp
  | true =>
    have e : (x.drop o).take p.x.length = p.x := by simpa using hc
    have := congrArg List.length e
    rw [List.length_take, List.length_drop] at this
    rw [decide_eq_true (by omega), Bool.true_and]
end Pw

set_option Elab.async false
set_option linter.all false
set_option maxRecDepth 100000
set_option maxHeartbeats 4000000
namespace Pw
open PySem PySem.Spec PyProof.Rows L2 Evl
open VahypBase (Bytes isLetter isDigit)
open Vahypa (Word Pat Lst fitsAt levelAt gaps within parts)
local macro_rules | `(tactic| trivial) => `(tactic| first
  | with_reducible exact ev_c
  | ((with_reducible apply ev_var); exact rfl)
  | with_reducible apply et_test
  | with_reducible apply et_B
  | with_reducible apply et_not
  | with_reducible exact rv_I0
  | with_reducible exact rv_isN
  | with_reducible exact rv_notN
  | with_reducible exact rv_in _
  | with_reducible exact rv_inF _
  | with_reducible exact rv_eq rfl
  | with_reducible exact rv_ne rfl
  | with_reducible exact ru_neg
  | with_reducible apply ev_chain
  | with_reducible apply ev_op
  | with_reducible apply ev_un
  | with_reducible exact ea_nil
  | with_reducible apply ea_cons
  | with_reducible exact eo_none
  | with_reducible apply eo_some
  | with_reducible assumption)
theorem dec_beq (a b : Bytes) : decide (a = b) = (a == b) := by
  by_cases h : a = b
  · subst h; simp
  · rw [decide_eq_false h, beq_eq_false_iff_ne.mpr h]
theorem dec_nat (a b : Nat) : decide (V.int (a : Int) = V.int (b : Int)) = (a == b) := by
  rw [dec_int]
  by_cases h : a = b
  · subst h; simp
  · rw [beq_eq_false_iff_ne.mpr h, beq_eq_false_iff_ne.mpr (show (a : Int) ≠ b by omega)]
def rFits : List V → Hp → V → Prop := fun vs H v => ∃ (pv : V) (p : Pat) (x : Bytes) (o : Nat), vs = [pv, .str (S x), iv o] ∧ PatV H pv p ∧ POk p ∧ x.length ≤ 100 ∧ o ≤ 100 ∧ v = .bl (fitsAt p x o)
def rPlaces : List V → Hp → List V → Prop := fun vs H xs => ∃ (pv : V) (p : Pat) (x : Bytes), vs = [pv, .str (S x)] ∧ PatV H pv p ∧ POk p ∧ x.length ≤ 100 ∧ xs = nv (placesOf p x)
def rDig : List V → Hp → V → Prop := fun vs H v => ∃ (pv : V) (p : Pat) (o g : Nat), vs = [pv, iv o, iv g] ∧ PatV H pv p ∧ POk p ∧ v = iv (digAt p o g)
def rLvOf : List V → Hp → V → Prop := fun vs H v => ∃ (pv : V) (p : Pat) (x : Bytes) (g : Nat), vs = [pv, .str (S x), iv g] ∧ PatV H pv p ∧ POk p ∧ x.length ≤ 100 ∧ v = iv (lvlOf p x g)
def rLvAt (A : Ads) : List V → Hp → V → Prop := fun vs H v => ∃ (a : Addr) (s : Lst) (x : Bytes) (g : Nat), vs = [.ref a, .str (S x), iv g] ∧ LstAt A H a s ∧ x.length ≤ 100 ∧ v = iv (levelAt s.pats x g)
def rGaps : List V → Hp → List V → Prop := fun vs _ xs => ∃ (x : Bytes), vs = [.str (S x)] ∧ x.length ≤ 100 ∧ xs = nv (gaps x)
def rWith (A : Ads) : List V → Hp → V → Prop := fun vs H v => ∃ (a : Addr) (s : Lst) (x : Bytes) (g : Nat), vs = [.ref a, .str (S x), iv g] ∧ LstAt A H a s ∧ x.length ≤ 100 ∧ v = .bl (within s x g)
def rParts (A : Ads) : List V → Hp → List V → Prop := fun vs H xs => ∃ (a : Addr) (s : Lst) (x : Bytes), vs = [.ref a, .str (S x)] ∧ LstAt A H a s ∧ x.length ≤ 100 ∧ xs = nv (parts s x)
def rHeld (A : Ads) : List V → Hp → List V → Prop := fun vs H xs => ∃ (a : Addr) (s : Lst) (v : V) (w : Word), vs = [.ref a, v] ∧ LstAt A H a s ∧ WrdV H v w ∧ WOk w ∧ xs = [iv (Vahypa.scoreWord s w).hits, iv (Vahypa.scoreWord s w).faults, iv (Vahypa.scoreWord s w).misses]
section
variable {A : Ads} {H : Hp} {pv : V} {p : Pat} {x : Bytes} {o g : Nat} {a : Addr} {s : Lst}
theorem spv_fits (h : PatV H pv p) (ok : POk p) (hx : x.length ≤ 100) (ho : o ≤ 100) : SpV (spV rFits) [pv, .str (S x), iv o] H (.bl (fitsAt p x o)) := spV_to fun _ e => ⟨pv, p, x, o, rfl, h.mono e, ok, hx, ho, rfl⟩
theorem spl_places (h : PatV H pv p) (ok : POk p) (hx : x.length ≤ 100) : SpL (spL rPlaces) [pv, .str (S x)] H (nv (placesOf p x)) := spL_to fun _ e => ⟨pv, p, x, rfl, h.mono e, ok, hx, rfl⟩
theorem spv_dig (h : PatV H pv p) (ok : POk p) : SpV (spV rDig) [pv, iv o, iv g] H (iv (digAt p o g)) := spV_to fun _ e => ⟨pv, p, o, g, rfl, h.mono e, ok, rfl⟩
theorem spv_lvof (h : PatV H pv p) (ok : POk p) (hx : x.length ≤ 100) : SpV (spV rLvOf) [pv, .str (S x), iv g] H (iv (lvlOf p x g)) := spV_to fun _ e => ⟨pv, p, x, g, rfl, h.mono e, ok, hx, rfl⟩
theorem spv_lvat (h : LstAt A H a s) (hx : x.length ≤ 100) : SpV (spV (rLvAt A)) [.ref a, .str (S x), iv g] H (iv (levelAt s.pats x g)) := spV_to fun _ e => ⟨a, s, x, g, rfl, h.mono e, hx, rfl⟩
theorem spl_gaps (hx : x.length ≤ 100) : SpL (spL rGaps) [.str (S x)] H (nv (gaps x)) := spL_to fun _ e => ⟨x, rfl, hx, rfl⟩
theorem spv_with (h : LstAt A H a s) (hx : x.length ≤ 100) : SpV (spV (rWith A)) [.ref a, .str (S x), iv g] H (.bl (within s x g)) := spV_to fun _ e => ⟨a, s, x, g, rfl, h.mono e, hx, rfl⟩
theorem spl_parts (h : LstAt A H a s) (hx : x.length ≤ 100) : SpL (spL (rParts A)) [.ref a, .str (S x)] H (nv (parts s x)) := spL_to fun _ e => ⟨a, s, x, rfl, h.mono e, hx, rfl⟩
theorem spl_held {v : V} {w : Word} (h : LstAt A H a s) (hv : WrdV H v w) (ok : WOk w) : SpL (spL (rHeld A)) [.ref a, v] H [iv (Vahypa.scoreWord s w).hits, iv (Vahypa.scoreWord s w).faults, iv (Vahypa.scoreWord s w).misses] := spL_to fun _ e => ⟨a, s, v, w, rfl, h.mono e, hv.mono e, ok, rfl⟩
end
theorem placesOf_len (p : Pat) (x : Bytes) : (placesOf p x).length ≤ x.length := by
  unfold placesOf
  have := List.length_filter_le (fitsAt p x) (List.range x.length)
  rw [List.length_range] at this
  exact this
theorem map_zip {α : Type} {vs : List V} {l : List α} (h : (vs.zip l).map Prod.snd = l) (f : α → V) : (vs.zip l).map (fun q => f q.2) = l.map f := by
  conv => rhs; rw [← h]
  rw [List.map_map]
  rfl
section
variable {P : Program} {w : World} {K : PySem.W.Frag} {mg : Str → Option Value} {base : Heap} {A : Ads}
abbrev s_fits_at : Stmt := top 49
abbrev N_fits_at : List Str := ["one", "letters", "place", "own", "digits", "front", "end"]
abbrev P_fits_at : List Str := ["one", "letters", "place"]
theorem sc_fits_at : FnScope N_fits_at P_fits_at (defScope s_fits_at) := ⟨rfl, rfl, rfl, by decide +kernel, rfl, by decide +kernel, by decide +kernel⟩
theorem ok_fits_at {f : Addr} {fd : FuncData} (F : Fun K "fits_at" "fits_at" s_fits_at f fd) (T : Txt K mg A) : FnOk P w K mg base CX0 1 f fd P_fits_at (spV rFits) := by
  refine F.ok sc_fits_at (fun vs H Q E h => ?_) (fun cdv A' outer s H vs Q E hr h => ⟨_,
    (pss_cons (ps_asg (pv 0) (pg_tup rfl (pgs_cons (pg_name (i := 3) sc_fits_at.nd rfl (Or.inl rfl)) (pgs_cons (pg_name (i := 4) sc_fits_at.nd rfl (Or.inl rfl)) (pgs_cons (pg_name (i := 5) sc_fits_at.nd rfl (Or.inl rfl)) (pgs_cons (pg_name (i := 6) sc_fits_at.nd rfl (Or.inl rfl)) pgs_nil))))))
    (pss_cons (ps_if (PW.pt (pw_or (pt_cmpR op_ne (pe_slice sl_str (pv 1) (po_some (pv 2)) (po_some (pe_op op_add (pv 2) (pe_callB cw_lens (by rfl) T.n_len PySem.boot_len (pa_cons (pv 3) pa_nil))))) (pv 3) (nomark _)) (pw_or1 (PW.pt (pw_and (pt_val (pv 5)) (pw_and1 (pt_cmpR op_gt (pv 2) pe_int (nomark _)))))))) (pss_one (ps_ret pe_bl)) pss_nil)
    (pss_one (ps_ret (pe_or (pe_not (pv 6)) (pe_one (pe_cmpR op_eq (pe_op op_add (pv 2) (pe_callB cw_lens (by rfl) T.n_len PySem.boot_len (pa_cons (pv 3) pa_nil))) (pe_callB cw_lens (by rfl) T.n_len PySem.boot_len (pa_cons (pv 1) pa_nil)) (nomark _))))))))
    , ?_⟩)
  · obtain ⟨v, ⟨pv, p, x, o, rfl, _⟩, _⟩ := h
    rfl
  · obtain ⟨v, ⟨pv, p, x, o, rfl, ⟨a, d, rfl, ha, hd⟩, ok, hx, ho, rfl⟩, k⟩ := h
    have h6 := ok.l6
    have ef := fits_iff (x := x) (o := o) ok.l1
    refine ⟨_, rfl, a, _, rfl, st_of ha, rfl, _, _, rfl, _, _, rfl, _, _, rfl, _, _, rfl, rfl, ?_⟩
    dsimp only
    refine q_when (b := !((x.drop o).take p.x.length == p.x) || (p.front && decide (0 < o))) (et_or (et_is (et_test (ev_op (x := .str (S ((x.drop o).take p.x.length))) (ev_is (ev_slS (ev_var rfl) (eo_some (ev_var rfl)) (eo_some (ev_op (ev_var rfl) (ev_lens (ev_var rfl) (by omega)) rv_I0)) (by omega)) ?_) (ev_var rfl) (rv_ne rfl))) ?_) fun _ => et_and (et_B (ev_var rfl)) fun _ => et_is (et_test (ev_op (ev_var rfl) ev_c rv_I0)) ?_) (fun hb H1 e1 => ?_) (fun hb H1 e1 => ?_)
    · show V.str (cutS (S x) (some (o : Int)) (some ((o + p.x.length : Nat) : Int))) = _
      rw [cut_mid]
    · rw [dec_S, dec_beq]
    · exact decide_eq_decide.mpr (by omega)
    · have e0 : fitsAt p x o = false := by
        rw [ef]
        rw [Bool.or_eq_true] at hb
        rcases hb with hb | hb
        · rw [show ((x.drop o).take p.x.length == p.x) = false by simpa using hb, Bool.false_and]
        · rw [Bool.and_eq_true] at hb
          rw [hb.1, show (o == 0) = false from beq_eq_false_iff_ne.mpr (by have := of_decide_eq_true hb.2; omega)]
          simp
      rw [e0] at k
      exact s_ret ev_c fun H2 e2 => k H2 (e1.trans e2)
    · rw [Bool.or_eq_false_iff] at hb
      have hb1 : ((x.drop o).take p.x.length == p.x) = true := by simpa using hb.1
      have hb2 : (!p.front || o == 0) = true := by
        cases hf : p.front with
        | false => rfl
        | true =>
          have := hb.2
          rw [hf, Bool.true_and] at this
          have := of_decide_eq_false this
          rw [show o = 0 by omega]
          rfl
      rw [hb1, hb2, Bool.true_and, Bool.true_and] at ef
      refine s_ret (v := .bl (!p.halt_ || o + p.x.length == x.length)) (ev_orV (ev_notV (ev_var rfl)) fun _ => ev_is (ev_op (ev_op (ev_var rfl) (ev_lens (ev_var rfl) (by omega)) rv_I0) (ev_lens (ev_var rfl) (by omega)) (rv_eq rfl)) ?_) fun H2 e2 => ?_
      · exact congrArg V.bl (dec_nat (o + p.x.length) x.length)
      · rw [← ef]
        exact k H2 (e1.trans e2)
abbrev s_places_of : Stmt := top 50
abbrev N_places_of : List Str := ["one", "letters", "place"]
abbrev P_places_of : List Str := ["one", "letters"]
theorem sc_places_of : FnScope N_places_of P_places_of (defScope s_places_of) := ⟨rfl, rfl, rfl, by decide +kernel, rfl, by decide +kernel, by decide +kernel⟩
theorem ok_places_of {f : Addr} {fd : FuncData} (F : Fun K "places_of" "places_of" s_places_of f fd) (T : Txt K mg A) (f_fits_at : Cal P w K mg base CX0 1 "fits_at" P_fits_at (spV rFits)) : FnOk P w K mg base CX0 2 f fd P_places_of (spL rPlaces) := by
  refine F.ok sc_places_of (fun vs H Q E h => ?_) (fun cdv A' outer s H vs Q E hr h => ⟨_,
    (pss_one (ps_ret (pe_lc rfl sc_places_of.nd (pi_range1 (by rfl) T.n_range (pa_cons (pe_callB cw_lens (by rfl) T.n_len PySem.boot_len (pa_cons (pv 1) pa_nil)) pa_nil)) (blkOk_by (own := [("place", 2)]) (N := N_places_of) (sc := defScope s_places_of) (by decide +kernel)) (fun _ _ _ _ _ => (pg_name (i := 2) sc_places_of.nd rfl (Or.inl rfl))) (fun _ _ _ _ _ => (pts_one (pt_val (pe_callU f_fits_at (hr.mono (by decide)) rfl (fun _ => pz) (pa_cons (pv 0) (pa_cons (pv 1) (pa_cons (pv 2) pa_nil))))))) (fun _ _ _ _ _ => (pv 2)))))
    , ?_⟩)
  · obtain ⟨v, ⟨pv, p, x, rfl, _⟩, _⟩ := h
    rfl
  · obtain ⟨v, ⟨pv, p, x, rfl, hp, ok, hx, rfl⟩, k⟩ := h
    refine s_retL (xs := nv (placesOf p x)) ?_ fun q H1 n e hq => k q H1 n e hq
    exact el_lcR x.length (fitsAt p x) iv (ea_cons (ev_lens (ev_var rfl) (by omega)) ea_nil) (by omega) (fun _ => rfl) (fun o H' ho e => et_B (ev_callU (ea_cons (ev_var rfl) (ea_cons (ev_var rfl) (ea_cons (ev_var rfl) ea_nil))) (spv_fits (hp.mono e) ok hx (by omega)))) (fun o H' ho e _ => ev_var rfl)
abbrev s_digit_at : Stmt := top 51
abbrev N_digit_at : List Str := ["one", "place", "gap", "own"]
abbrev P_digit_at : List Str := ["one", "place", "gap"]
theorem sc_digit_at : FnScope N_digit_at P_digit_at (defScope s_digit_at) := ⟨rfl, rfl, rfl, by decide +kernel, rfl, by decide +kernel, by decide +kernel⟩
theorem ok_digit_at {f : Addr} {fd : FuncData} (F : Fun K "digit_at" "digit_at" s_digit_at f fd) (T : Txt K mg A) : FnOk P w K mg base CX0 1 f fd P_digit_at (spV rDig) := by
  refine F.ok sc_digit_at (fun vs H Q E h => ?_) (fun cdv A' outer s H vs Q E hr h => ⟨_,
    (pss_cons (ps_set (i := 3) sc_digit_at.nd rfl (Or.inl rfl) (pe_op op_sub (pv 2) (pv 1)))
    (pss_one (ps_ret (pe_ifExp (pt_chain op_le op_lt pe_int (pv 3) (pe_callB cw_len (by rfl) T.n_len PySem.boot_len (pa_cons (pe_ix ix_tup (pv 0) pe_int (fun _ _ => rfl)) pa_nil))) (pe_ix ix_tup (pe_ix ix_tup (pv 0) pe_int (fun _ _ => rfl)) (pv 3) (fun _ _ => rfl)) pe_int))))
    , ?_⟩)
  · obtain ⟨v, ⟨pv, p, o, g, rfl, _⟩, _⟩ := h
    rfl
  · obtain ⟨v, ⟨pv, p, o, g, rfl, ⟨a, d, rfl, ha, hd⟩, ok, rfl⟩, k⟩ := h
    refine q_asg (v := .int ((g : Int) - (o : Int))) (ev_op (ev_var rfl) (ev_var rfl) rv_I0) fun H1 e1 => ?_
    have hix : Ev (tOp (rIxT K) (tVar 0) (tC (.int 1))) [some (.ref a), some (iv o), some (iv g), some (.int ((g : Int) - (o : Int)))] H1 (.ref d) := ev_op (ev_var rfl) ev_c (rv_ixT (st_of (e1 _ _ ha)) rfl)
    have hl : (nv p.levels).length = p.levels.length := by unfold nv; rw [List.length_map]
    refine s_ret (v := iv (digAt p o g)) (ev_if (b := decide (o ≤ g) && decide (g - o < p.levels.length)) (et_is (et_B (ev_chain ev_c (ev_var rfl) (ev_lenT hix (st_of (e1 _ _ hd))))) ?_) (fun hb => ?_) (fun hb => ?_)) fun H2 e2 => k H2 (e1.trans e2)
    · rw [hl]
      by_cases h : o ≤ g
      · rw [decide_eq_true h, decide_eq_true (show (0 : Int) ≤ (g : Int) - (o : Int) by omega), Bool.true_and, Bool.true_and]
        exact decide_eq_decide.mpr (by omega)
      · rw [decide_eq_false h, decide_eq_false (show ¬ (0 : Int) ≤ (g : Int) - (o : Int) by omega)]
        rfl
    · rw [Bool.and_eq_true] at hb
      have h1 := of_decide_eq_true hb.1
      have h2 := of_decide_eq_true hb.2
      have hv : p.levels[g - o]? = some p.levels[g - o] := List.getElem?_eq_getElem h2
      refine ev_op hix (ev_var rfl) (rv_ixT (st_of (e1 _ _ hd)) ?_)
      rw [show (g : Int) - (o : Int) = ((g - o : Nat) : Int) by omega]
      refine atI_nat ?_
      unfold nv digAt
      rw [List.getElem?_map, if_pos h1, hv]
      rfl
    · refine ev_is ev_c ?_
      unfold digAt
      by_cases h : o ≤ g
      · have h2 : p.levels.length ≤ g - o := by
          rw [decide_eq_true h, Bool.true_and] at hb
          have := of_decide_eq_false hb
          omega
        rw [if_pos h, List.getElem?_eq_none_iff.mpr h2]
        rfl
      · rw [if_neg h]; rfl
abbrev s_level_of : Stmt := top 52
abbrev N_level_of : List Str := ["one", "letters", "gap", "place"]
abbrev P_level_of : List Str := ["one", "letters", "gap"]
theorem sc_level_of : FnScope N_level_of P_level_of (defScope s_level_of) := ⟨rfl, rfl, rfl, by decide +kernel, rfl, by decide +kernel, by decide +kernel⟩
theorem ok_level_of {f : Addr} {fd : FuncData} (F : Fun K "level_of" "level_of" s_level_of f fd) (T : Txt K mg A) (f_places_of : Cal P w K mg base CX0 2 "places_of" P_places_of (spL rPlaces)) (f_digit_at : Cal P w K mg base CX0 1 "digit_at" P_digit_at (spV rDig)) : FnOk P w K mg base CX0 3 f fd P_level_of (spV rLvOf) := by
  refine F.ok sc_level_of (fun vs H Q E h => ?_) (fun cdv A' outer s H vs Q E hr h => ⟨_,
    (pss_one (ps_ret (pe_callB (cr_max rfl) (by rfl) T.n_max (by decide +kernel) (pa_cons (pe_op op_cat (pe_lst (pa_cons pe_int pa_nil)) (pe_lc rfl sc_level_of.nd (pi_list (pe_callU f_places_of (hr.mono (by decide)) rfl (fun _ => pz) (pa_cons (pv 0) (pa_cons (pv 1) pa_nil)))) (blkOk_by (own := [("place", 3)]) (N := N_level_of) (sc := defScope s_level_of) (by decide +kernel)) (fun _ _ _ _ _ => (pg_name (i := 3) sc_level_of.nd rfl (Or.inl rfl))) (fun _ _ _ _ _ => pts_nil) (fun _ _ _ _ _ => (pe_callU f_digit_at (hr.mono (by decide)) rfl (fun _ => pz) (pa_cons (pv 0) (pa_cons (pv 3) (pa_cons (pv 2) pa_nil))))))) pa_nil))))
    , ?_⟩)
  · obtain ⟨v, ⟨pv, p, x, g, rfl, _⟩, _⟩ := h
    rfl
  · obtain ⟨v, ⟨pv, p, x, g, rfl, hp, ok, hx, rfl⟩, k⟩ := h
    have hpl := placesOf_len p x
    refine s_ret (v := iv (lvlOf p x g)) (ev_max (ns := (0 :: (placesOf p x).map fun o => digAt p o g).map fun (n : Nat) => (n : Int)) (m := ((lvlOf p x g : Nat) : Int)) ?_ (List.mem_map.mpr ⟨_, mx_in _, rfl⟩) (fun y hy => ?_)) fun H2 e2 => k H2 e2
    · rw [List.map_cons, List.map_map, List.map_cons, List.map_map]
      refine el_cat (xs := [iv 0]) (ys := (placesOf p x).map fun o => iv (digAt p o g)) (el_lst (ea_cons ev_c ea_nil) (by simp)) (fun H1 e1 => ?_) (by simp; omega)
      have z := el_lcN (K := K) (σ := [some pv, some (.str (S x)), some (iv g), none]) (H := H1) (tl := tCallU (spL rPlaces) (fun _ => E0) (tCons (tVar 0) (tCons (tVar 1) tNil))) (t := tYes) (te := tCallU (spV rDig) (fun _ => E0) (tCons (tVar 0) (tCons (tVar 3) (tCons (tVar 2) tNil)))) (j := 3) (vs := [3]) (placesOf p x) iv (fun _ => true) (fun o => iv (digAt p o g)) (el_callU (ea_cons (ev_var rfl) (ea_cons (ev_var rfl) ea_nil)) (spl_places (hp.mono e1) ok hx)) (by omega) (fun _ => rfl) (fun _ _ _ _ => et_yes) (fun o H' ho e _ => ev_callU (ea_cons (ev_var rfl) (ea_cons (ev_var rfl) (ea_cons (ev_var rfl) ea_nil))) (spv_dig ((hp.mono e1).mono e) ok))
      rw [filter_yes] at z
      exact z
    · obtain ⟨n, hn, rfl⟩ := List.mem_map.mp hy
      have := mx_ge _ n hn
      show (n : Int) ≤ ((lvlOf p x g : Nat) : Int)
      unfold lvlOf
      omega
abbrev s_level_at : Stmt := top 53
abbrev N_level_at : List Str := ["listed", "letters", "gap", "one"]
abbrev P_level_at : List Str := ["listed", "letters", "gap"]
theorem sc_level_at : FnScope N_level_at P_level_at (defScope s_level_at) := ⟨rfl, rfl, rfl, by decide +kernel, rfl, by decide +kernel, by decide +kernel⟩
theorem ok_level_at {f : Addr} {fd : FuncData} (F : Fun K "level_at" "level_at" s_level_at f fd) (T : Txt K mg A) (f_level_of : Cal P w K mg base CX0 3 "level_of" P_level_of (spV rLvOf)) : FnOk P w K mg base CX0 4 f fd P_level_at (spV (rLvAt A)) := by
  refine F.ok sc_level_at (fun vs H Q E h => ?_) (fun cdv A' outer s H vs Q E hr h => ⟨_,
    (pss_one (ps_ret (pe_callB (cr_max rfl) (by rfl) T.n_max (by decide +kernel) (pa_cons (pe_op op_cat (pe_lst (pa_cons pe_int pa_nil)) (pe_lc rfl sc_level_at.nd (pi_list (pe_fld (pv 0) rfl)) (blkOk_by (own := [("one", 3)]) (N := N_level_at) (sc := defScope s_level_at) (by decide +kernel)) (fun _ _ _ _ _ => (pg_name (i := 3) sc_level_at.nd rfl (Or.inl rfl))) (fun _ _ _ _ _ => pts_nil) (fun _ _ _ _ _ => (pe_callU f_level_of (hr.mono (by decide)) rfl (fun _ => pz) (pa_cons (pv 3) (pa_cons (pv 1) (pa_cons (pv 2) pa_nil))))))) pa_nil))))
    , ?_⟩)
  · obtain ⟨v, ⟨a, sl, x, g, rfl, _⟩, _⟩ := h
    rfl
  · obtain ⟨v, ⟨a, sl, x, g, rfl, hL, hx, rfl⟩, k⟩ := h
    obtain ⟨⟨dx, wa, pa, wv, pv, ha, hwa, hw, hpa, hp⟩, ok⟩ := hL
    obtain ⟨z1, z2, z3⟩ := hp.zip
    have hpl := hp.length
    have hp40 := ok.p40
    have el := levelAt_is x g sl.pats fun p m => (ok.ps p m).l1
    refine s_ret (v := iv (levelAt sl.pats x g)) (ev_max (ns := (0 :: sl.pats.map fun p => lvlOf p x g).map fun (n : Nat) => (n : Int)) (m := ((levelAt sl.pats x g : Nat) : Int)) ?_ (List.mem_map.mpr ⟨_, by rw [el]; exact mx_in _, rfl⟩) (fun y hy => ?_)) fun H2 e2 => k H2 e2
    · rw [List.map_cons, List.map_map, List.map_cons, List.map_map]
      refine el_cat (xs := [iv 0]) (ys := sl.pats.map fun p => iv (lvlOf p x g)) (el_lst (ea_cons ev_c ea_nil) (by simp)) (fun H1 e1 => ?_) (by simp; omega)
      have z := el_lcL (K := K) (σ := [some (.ref a), some (.str (S x)), some (iv g), none]) (H := H1) (tl := tFld K (tVar 0) "patterns") (t := tYes) (te := tCallU (spV rLvOf) (fun _ => E0) (tCons (tVar 3) (tCons (tVar 1) (tCons (tVar 2) tNil)))) (j := 3) (vs := [3]) (pv.zip sl.pats) Prod.fst (fun _ => true) (fun q => iv (lvlOf q.2 x g)) (ev_fld (ev_var rfl) (e1 _ _ ha) T.clL T.nl.2.2.2 lkL_pats) (sq_of (by rw [z1]; exact e1 _ _ hpa)) (by simp; omega) (fun _ => rfl) (fun _ _ _ _ => et_yes) (fun q H' hm e _ => ev_callU (ea_cons (ev_var rfl) (ea_cons (ev_var rfl) (ea_cons (ev_var rfl) ea_nil))) (spv_lvof ((z3 q hm).mono (e1.trans e)) (ok.ps q.2 (by rw [← z2]; exact List.mem_map.mpr ⟨q, hm, rfl⟩)) hx))
      rw [filter_yes, map_zip z2 fun p => iv (lvlOf p x g)] at z
      exact z
    · obtain ⟨n, hn, rfl⟩ := List.mem_map.mp hy
      have := mx_ge _ n hn
      show (n : Int) ≤ ((levelAt sl.pats x g : Nat) : Int)
      rw [el]
      omega
abbrev s_inner_gaps : Stmt := top 54
abbrev N_inner_gaps : List Str := ["letters"]
abbrev P_inner_gaps : List Str := ["letters"]
theorem sc_inner_gaps : FnScope N_inner_gaps P_inner_gaps (defScope s_inner_gaps) := ⟨rfl, rfl, rfl, by decide +kernel, rfl, by decide +kernel, by decide +kernel⟩
theorem ok_inner_gaps {f : Addr} {fd : FuncData} (F : Fun K "inner_gaps" "inner_gaps" s_inner_gaps f fd) (T : Txt K mg A) : FnOk P w K mg base CX0 1 f fd P_inner_gaps (spL rGaps) := by
  refine F.ok sc_inner_gaps (fun vs H Q E h => ?_) (fun cdv A' outer s H vs Q E hr h => ⟨_,
    (pss_one (ps_ret (pe_listRg rfl (by rfl) T.n_list (prg_2 (by rfl) T.n_range pe_int (pe_callB cw_lens (by rfl) T.n_len PySem.boot_len (pa_cons (pv 0) pa_nil))))))
    , ?_⟩)
  · obtain ⟨v, ⟨x, rfl, _⟩, _⟩ := h
    rfl
  · obtain ⟨v, ⟨x, rfl, hx, rfl⟩, k⟩ := h
    have e0 : rgV 1 (x.length : Int) = nv (gaps x) := by
      unfold rgV nv gaps
      rw [List.map_map, show ((x.length : Int) - 1).toNat = x.length - 1 by omega]
      refine List.map_congr_left fun i _ => ?_
      show V.int (1 + (i : Int)) = V.int ((i + 1 : Nat) : Int)
      rw [show (1 : Int) + (i : Int) = ((i + 1 : Nat) : Int) by omega]
    rw [← e0] at k
    exact s_retL (el_rg ev_c (ev_lens (ev_var rfl) (by omega)) (RgOk.of_le (by omega) (by omega) (by omega) (by omega))) fun p H1 n e q => k p H1 n e q
abbrev s_is_within : Stmt := top 55
abbrev N_is_within : List Str := ["listed", "letters", "gap"]
abbrev P_is_within : List Str := ["listed", "letters", "gap"]
theorem sc_is_within : FnScope N_is_within P_is_within (defScope s_is_within) := ⟨rfl, rfl, rfl, by decide +kernel, rfl, by decide +kernel, by decide +kernel⟩
theorem ok_is_within {f : Addr} {fd : FuncData} (F : Fun K "is_within" "is_within" s_is_within f fd) (T : Txt K mg A) : FnOk P w K mg base CX0 1 f fd P_is_within (spV (rWith A)) := by
  refine F.ok sc_is_within (fun vs H Q E h => ?_) (fun cdv A' outer s H vs Q E hr h => ⟨_,
    (pss_one (ps_ret (pe_and (pe_cmpR op_le (pe_fld (pv 0) rfl) (pv 2) (nomark _)) (pe_one (pe_cmpR op_le (pe_fld (pv 0) rfl) (pe_op op_sub (pe_callB cw_lens (by rfl) T.n_len PySem.boot_len (pa_cons (pv 1) pa_nil)) (pv 2)) (nomark _))))))
    , ?_⟩)
  · obtain ⟨v, ⟨a, sl, x, g, rfl, _⟩, _⟩ := h
    rfl
  · obtain ⟨v, ⟨a, sl, x, g, rfl, hL, hx, rfl⟩, k⟩ := h
    obtain ⟨⟨dx, wa, pa, wv, pv, ha, hwa, hw, hpa, hp⟩, ok⟩ := hL
    refine s_ret (v := .bl (within sl x g)) (ev_is (ev_andV (ev_op (ev_fld (ev_var rfl) ha T.clL T.nl.1 lkL_left) (ev_var rfl) rv_I0) fun _ => ev_op (ev_fld (ev_var rfl) ha T.clL T.nl.2.1 lkL_right) (ev_op (ev_lens (ev_var rfl) (by omega)) (ev_var rfl) rv_I0) rv_I0) ?_) fun H2 e2 => k H2 e2
    unfold within
    rw [← Bool.decide_and]
    congr 1
    exact decide_eq_decide.mpr (by omega)
abbrev s_parted_at : Stmt := top 56
abbrev N_parted_at : List Str := ["listed", "letters", "some", "gap"]
abbrev P_parted_at : List Str := ["listed", "letters"]
theorem sc_parted_at : FnScope N_parted_at P_parted_at (defScope s_parted_at) := ⟨rfl, rfl, rfl, by decide +kernel, rfl, by decide +kernel, by decide +kernel⟩
theorem ok_parted_at {f : Addr} {fd : FuncData} (F : Fun K "parted_at" "parted_at" s_parted_at f fd) (T : Txt K mg A) (f_inner_gaps : Cal P w K mg base CX0 1 "inner_gaps" P_inner_gaps (spL rGaps)) (f_is_within : Cal P w K mg base CX0 1 "is_within" P_is_within (spV (rWith A))) (f_level_at : Cal P w K mg base CX0 4 "level_at" P_level_at (spV (rLvAt A))) : FnOk P w K mg base CX0 5 f fd P_parted_at (spL (rParts A)) := by
  refine F.ok sc_parted_at (fun vs H Q E h => ?_) (fun cdv A' outer s H vs Q E hr h => ⟨_,
    (pss_cons (ps_setLc (i := 2) rfl sc_parted_at.nd rfl rfl (sw_true rfl rfl rfl (by decide +kernel)) (pi_list (pe_callU f_inner_gaps (hr.mono (by decide)) rfl (fun _ => pz) (pa_cons (pv 1) pa_nil))) (blkOk_by (own := [("gap", 3)]) (N := N_parted_at) (sc := defScope s_parted_at) (by decide +kernel)) (fun _ _ _ _ _ => (pg_name (i := 3) sc_parted_at.nd rfl (Or.inl rfl))) (fun _ _ _ _ _ => (pts_one (pt_val (pe_callU f_is_within (hr.mono (by decide)) rfl (fun _ => pz) (pa_cons (pv 0) (pa_cons (pv 1) (pa_cons (pv 3) pa_nil))))))) (fun _ _ _ _ _ => (pv 3)))
    (pss_one (ps_ret (pe_lc rfl sc_parted_at.nd (pi_list (pv 2)) (blkOk_by (own := [("gap", 3)]) (N := N_parted_at) (sc := defScope s_parted_at) (by decide +kernel)) (fun _ _ _ _ _ => (pg_name (i := 3) sc_parted_at.nd rfl (Or.inl rfl))) (fun _ _ _ _ _ => (pts_one (pt_cmpR op_eq (pe_op op_mod (pe_callU f_level_at (hr.mono (by decide)) rfl (fun _ => pz) (pa_cons (pv 0) (pa_cons (pv 1) (pa_cons (pv 3) pa_nil)))) pe_int) pe_int (nomark _)))) (fun _ _ _ _ _ => (pv 3))))))
    , ?_⟩)
  · obtain ⟨v, ⟨a, sl, x, rfl, _⟩, _⟩ := h
    rfl
  · obtain ⟨v, ⟨a, sl, x, rfl, hL, hx, rfl⟩, k⟩ := h
    have hgl := gaps_len x
    refine q_asgL (xs := ((gaps x).filter (within sl x)).map iv) (el_lcN (gaps x) iv (within sl x) iv (el_callU (ea_cons (ev_var rfl) ea_nil) (spl_gaps hx)) (by omega) (fun _ => rfl) (fun g H' hg e => et_B (ev_callU (ea_cons (ev_var rfl) (ea_cons (ev_var rfl) (ea_cons (ev_var rfl) ea_nil))) (spv_with (hL.mono e) hx))) (fun g H' hg e _ => ev_var rfl)) fun q H1 nq e1 hq => ?_
    rw [parts_is] at k
    have hfl := List.length_filter_le (within sl x) (gaps x)
    refine s_retL (xs := nv (((gaps x).filter (within sl x)).filter fun g => levelAt sl.pats x g % 2 == 1)) ?_ fun p H2 n e2 h2 => k p H2 (fresh_back e1 n) (e1.trans e2) h2
    exact el_lcL ((gaps x).filter (within sl x)) iv (fun g => levelAt sl.pats x g % 2 == 1) iv (ev_var rfl) (sq_of hq) (by omega) (fun _ => rfl) (fun g H' hg e => et_is (et_test (ev_op (ev_op (ev_callU (ea_cons (ev_var rfl) (ea_cons (ev_var rfl) (ea_cons (ev_var rfl) ea_nil))) (spv_lvat ((hL.mono e1).mono e) hx)) ev_c (rv_I (by decide))) ev_c (rv_eq rfl))) (dec_nat (levelAt sl.pats x g % 2) 1)) (fun g H' hg e _ => ev_var rfl)
abbrev s_held_against : Stmt := top 57
abbrev N_held_against : List Str := ["listed", "word", "letters", "may", "parted", "hits", "within", "gap"]
abbrev P_held_against : List Str := ["listed", "word"]
theorem sc_held_against : FnScope N_held_against P_held_against (defScope s_held_against) := ⟨rfl, rfl, rfl, by decide +kernel, rfl, by decide +kernel, by decide +kernel⟩
theorem ok_held_against {f : Addr} {fd : FuncData} (F : Fun K "held_against" "held_against" s_held_against f fd) (T : Txt K mg A) (f_parted_at : Cal P w K mg base CX0 5 "parted_at" P_parted_at (spL (rParts A))) (f_is_within : Cal P w K mg base CX0 1 "is_within" P_is_within (spV (rWith A))) : FnOk P w K mg base CX0 6 f fd P_held_against (spL (rHeld A)) := by
  refine F.ok sc_held_against (fun vs H Q E h => ?_) (fun cdv A' outer s H vs Q E hr h => ⟨_,
    (pss_cons (ps_asg (pv 1) (pg_tup rfl (pgs_cons (pg_name (i := 2) sc_held_against.nd rfl (Or.inr rfl)) (pgs_cons (pg_name (i := 3) sc_held_against.nd rfl (Or.inr rfl)) pgs_nil))))
    (pss_cons (ps_set (i := 4) sc_held_against.nd rfl (Or.inl rfl) (pe_callU f_parted_at (hr.mono (by decide)) rfl (fun _ => pz) (pa_cons (pv 0) (pa_cons (pv 2) pa_nil))))
    (pss_cons (ps_set (i := 5) sc_held_against.nd rfl (Or.inl rfl) (pe_callB cw_len (by rfl) T.n_len PySem.boot_len (pa_cons (pe_lc rfl sc_held_against.nd (pi_list (pv 4)) (blkOk_by (own := [("gap", 7)]) (N := N_held_against) (sc := defScope s_held_against) (by decide +kernel)) (fun _ _ _ _ _ => (pg_name (i := 7) sc_held_against.nd rfl (Or.inl rfl))) (fun _ _ _ _ _ => (pts_one (pt_cmpR (op_in_seqK (K := K) rfl) (pv 7) (pv 3) (by rfl)))) (fun _ _ _ _ _ => (pv 7))) pa_nil)))
    (pss_cons (ps_set (i := 6) sc_held_against.nd rfl (Or.inl rfl) (pe_callB cw_len (by rfl) T.n_len PySem.boot_len (pa_cons (pe_lc rfl sc_held_against.nd (pi_tup (pv 3)) (blkOk_by (own := [("gap", 7)]) (N := N_held_against) (sc := defScope s_held_against) (by decide +kernel)) (fun _ _ _ _ _ => (pg_name (i := 7) sc_held_against.nd rfl (Or.inl rfl))) (fun _ _ _ _ _ => (pts_one (pt_val (pe_callU f_is_within (hr.mono (by decide)) rfl (fun _ => pz) (pa_cons (pv 0) (pa_cons (pv 2) (pa_cons (pv 7) pa_nil))))))) (fun _ _ _ _ _ => (pv 7))) pa_nil)))
    (pss_one (ps_ret (pe_lst (pa_cons (pv 5) (pa_cons (pe_op op_sub (pe_callB cw_len (by rfl) T.n_len PySem.boot_len (pa_cons (pv 4) pa_nil)) (pv 5)) (pa_cons (pe_op op_sub (pv 6) (pv 5)) pa_nil))))))))))
    , ?_⟩)
  · obtain ⟨v, ⟨a, sl, v, wd, rfl, _⟩, _⟩ := h
    rfl
  · obtain ⟨v, ⟨a, sl, v, wd, rfl, hL, ⟨aw, cw, rfl, haw, hcw⟩, okw, rfl⟩, k⟩ := h
    obtain ⟨s1, s2, s3⟩ := score_is (s := sl) okw
    have hx : wd.x.length ≤ 100 := by have := okw.l16; omega
    have hpl := parts_len sl wd.x
    have hcl : wd.cuts.length ≤ 16 := by
      have h1 : wd.cuts ⊆ gaps wd.x := fun c m => by
        have := okw.cut c m
        unfold gaps
        exact List.mem_map.mpr ⟨c - 1, List.mem_range.mpr (by omega), by omega⟩
      have h2 := inter_len wd.cuts (gaps wd.x) okw.inc (gaps_nodup wd.x)
      rw [List.filter_eq_self.mpr (fun c m => List.contains_iff_mem.mpr (h1 m))] at h2
      have h4 := List.length_filter_le (fun g => wd.cuts.contains g) (gaps wd.x)
      have h3 := gaps_len wd.x
      have := okw.l16
      omega
    refine ⟨_, rfl, aw, _, rfl, st_of haw, rfl, _, _, rfl, _, _, rfl, rfl, ?_⟩
    dsimp only
    refine q_asgL (xs := nv (parts sl wd.x)) (el_callU (ea_cons (ev_var rfl) (ea_cons (ev_var rfl) ea_nil)) (spl_parts hL hx)) fun q H1 nq e1 hq => ?_
    refine q_asg (v := iv (Vahypa.scoreWord sl wd).hits) (ev_is (ev_lenN (el_lcL (parts sl wd.x) iv (fun g => wd.cuts.contains g) iv (ev_var rfl) (sq_of hq) (by omega) (fun _ => rfl) (fun g H' hg e => et_is (et_test (ev_op (ev_var rfl) (ev_var rfl) (rv_isT (st_of ((e1.trans e) _ _ hcw)) rfl (flat_nv _)))) (inV_nv _ _)) (fun g H' hg e _ => ev_var rfl))) ?_) fun H2 e2 => ?_
    · rw [List.length_map, s1]
    refine q_asg (v := iv (wd.cuts.filter (within sl wd.x)).length) (ev_is (ev_lenN (el_lcT wd.cuts iv (within sl wd.x) iv (ev_var rfl) (st_of ((e1.trans e2) _ _ hcw)) (by omega) (fun _ => rfl) (fun g H' hg e => et_B (ev_callU (ea_cons (ev_var rfl) (ea_cons (ev_var rfl) (ea_cons (ev_var rfl) ea_nil))) (spv_with (hL.mono ((e1.trans e2).trans e)) hx))) (fun g H' hg e _ => ev_var rfl))) ?_) fun H3 e3 => ?_
    · rw [List.length_map]
    refine s_retL (xs := [iv (Vahypa.scoreWord sl wd).hits, iv (Vahypa.scoreWord sl wd).faults, iv (Vahypa.scoreWord sl wd).misses]) (el_lst (ea_cons (ev_var rfl) (ea_cons (ev_is (ev_op (ev_len (ev_var rfl) (sq_of ((e2.trans e3) _ _ hq))) (ev_var rfl) rv_I0) ?_) (ea_cons (ev_is (ev_op (ev_var rfl) (ev_var rfl) rv_I0) ?_) ea_nil))) (by simp)) fun p H4 n4 e4 h4 => k p H4 (fresh_back ((e1.trans e2).trans e3) n4) (((e1.trans e2).trans e3).trans e4) h4
    · have : (nv (parts sl wd.x)).length = (parts sl wd.x).length := by unfold nv; rw [List.length_map]
      rw [this]
      congr 1
      omega
    · congr 1
      omega
end
end Pw

set_option Elab.async false
set_option linter.all false
set_option maxRecDepth 100000
set_option maxHeartbeats 4000000
namespace Pw
open PySem PySem.Spec PyProof.Rows L2 Evl
open VahypBase (Bytes isLetter isDigit)
open Vahypa (Word Pat Lst fitsAt levelAt gaps within parts Score scoreWord addScore exact decides fitsIn)
local macro_rules | `(tactic| trivial) => `(tactic| first
  | with_reducible exact ev_c
  | ((with_reducible apply ev_var); exact rfl)
  | with_reducible apply et_test
  | with_reducible apply et_B
  | with_reducible apply et_not
  | with_reducible exact rv_I0
  | with_reducible exact rv_isN
  | with_reducible exact rv_notN
  | with_reducible exact rv_in _
  | with_reducible exact rv_inF _
  | with_reducible exact rv_eq rfl
  | with_reducible exact rv_ne rfl
  | with_reducible exact ru_neg
  | with_reducible apply ev_chain
  | with_reducible apply ev_op
  | with_reducible apply ev_un
  | with_reducible exact ea_nil
  | with_reducible apply ea_cons
  | with_reducible exact eo_none
  | with_reducible apply eo_some
  | with_reducible assumption)
section
variable {K : PySem.W.Frag} {σ : L2.St} {H : Hp} {te ta tb : TE} {D : Ends} {tu tz : TS} {g : TG} {xs ys : List V} {t : TA}
theorem q_asgG (h : EvL te σ H xs) (k : ∀ p H1, H p = none → Ex H H1 → H1 p = some (.lst xs) → g (.ref p) σ H1 fun σ2 H2 => tz D σ2 H2) : tSeq (tAsg te g) tz D σ H := h H (Ex.refl H) _ fun p H1 n e hp => k p H1 n e hp
theorem q_forEnum {a : Addr} (h : EvA t σ H [.ref a]) (hx : SqL K H a xs) (Pv : Nat → L2.St → Hp → Prop) (h0 : ∀ H1, Ex H H1 → Pv 0 σ H1) (hl : ∀ i σ' H', i ≤ xs.length → Pv i σ' H' → SqL K H' a xs)
    (hs : ∀ i x T σ' H', xs[i]? = some x → Pv i σ' H' → H' T = none → g (.ref T) σ' (upd H' T (.tup [iv i, x])) fun σ2 H2 => tu { D with nx := Pv (i + 1), ct := Pv (i + 1), bk := tz D } σ2 H2) (hd : ∀ σ' H', Pv xs.length σ' H' → tz D σ' H') :
    tSeq (tFor (iEnum K t) g tu) tz D σ H := h H (Ex.refl H) _ fun H1 e => ⟨a, xs, rfl, ex_l e hx, for_it (D := { D with nx := tz D }) walk_enum Pv (h0 H1 e) hl (fun i v σ' H2 H3 hi p y => by
      obtain ⟨T, x, y, rfl, hT, rfl, h1, h2⟩ := y
      cases h1
      exact hs i y T σ' H2 h2 p hT) hd⟩
theorem s_extL {l : Addr} (hl : H l = some (.lst xs)) (ha : Ev ta σ H (.ref l)) (h : EvL te σ H ys) (hz : xs.length + ys.length ≤ 16777216) (k : ∀ H1, Ex H H1 → D.nx σ (upd H1 l (.lst (xs ++ ys)))) : tDrop (tBM K "list" rExtend ta (tCons te tNil)) D σ H := ha H (Ex.refl H) _ fun H1 e1 =>
  ⟨Or.inl ⟨rfl, xs, sq_of (e1 l _ hl)⟩, h H1 e1 _ fun p H2 np e2 hp => ⟨l, p, xs, ys, rfl, rfl, e2 l _ (e1 l _ hl), hp, sz1 hz, k H2 (e1.trans e2)⟩⟩
end
def scz (s : Lst) (ws : List Word) : Score := (ws.map (scoreWord s)).foldl addScore ⟨0, 0, 0⟩
def scV (s : Lst) (ws : List Word) : List V := [iv (ws.filter (exact s)).length, iv (scz s ws).hits, iv (scz s ws).faults, iv (scz s ws).misses]
theorem scz_snoc (s : Lst) (ws : List Word) (w : Word) : scz s (ws ++ [w]) = addScore (scz s ws) (scoreWord s w) := by
  unfold scz
  rw [List.map_append, List.foldl_append]
  rfl
theorem ex_snoc (s : Lst) (ws : List Word) (w : Word) : ((ws ++ [w]).filter (exact s)).length = (ws.filter (exact s)).length + (if exact s w = true then 1 else 0) := by
  rw [List.filter_append, List.length_append, List.filter_cons]
  split <;> rfl
def rScored (A : Ads) : List V → Hp → List V → Prop := fun vs H xs => ∃ (a : Addr) (s : Lst), vs = [.ref a] ∧ LstAt A H a s ∧ xs = scV s s.words
def rPW : List V → Hp → List V → Prop := fun vs H xs => ∃ (pv : V) (p : Pat) (x : Bytes) (g v : Nat), vs = [pv, .str (S x), iv g, iv v] ∧ PatV H pv p ∧ POk p ∧ x.length ≤ 100 ∧ xs = nv (placesWith p x g v)
def decV (s : Lst) (x : Bytes) (g : Nat) : List V := match decides s x g with
  | none => [iv 0]
  | some y => [iv 1, iv y.1, iv y.2, iv (levelAt s.pats x g)]
def rDec (A : Ads) : List V → Hp → List V → Prop := fun vs H xs => ∃ (a : Addr) (s : Lst) (x : Bytes) (g : Nat), vs = [.ref a, .str (S x), iv g] ∧ LstAt A H a s ∧ x.length ≤ 100 ∧ xs = decV s x g
def fv (l : List (Nat × Nat)) : List V := l.flatMap fun x => [iv x.1, iv x.2]
def rAllF (A : Ads) : List V → Hp → List V → Prop := fun vs H xs => ∃ (a : Addr) (s : Lst) (pv : V) (p : Pat), vs = [.ref a, pv] ∧ LstAt A H a s ∧ PatV H pv p ∧ POk p ∧ xs = fv (fitsIn s p)
section
variable {A : Ads} {H : Hp} {pv : V} {p : Pat} {x : Bytes} {o g v : Nat} {a : Addr} {s : Lst}
theorem spl_scored (h : LstAt A H a s) : SpL (spL (rScored A)) [.ref a] H (scV s s.words) := spL_to fun _ e => ⟨a, s, rfl, h.mono e, rfl⟩
theorem spl_pw (h : PatV H pv p) (ok : POk p) (hx : x.length ≤ 100) : SpL (spL rPW) [pv, .str (S x), iv g, iv v] H (nv (placesWith p x g v)) := spL_to fun _ e => ⟨pv, p, x, g, v, rfl, h.mono e, ok, hx, rfl⟩
theorem spl_dec (h : LstAt A H a s) (hx : x.length ≤ 100) : SpL (spL (rDec A)) [.ref a, .str (S x), iv g] H (decV s x g) := spL_to fun _ e => ⟨a, s, x, g, rfl, h.mono e, hx, rfl⟩
theorem spl_allf (h : LstAt A H a s) (hp : PatV H pv p) (ok : POk p) : SpL (spL (rAllF A)) [.ref a, pv] H (fv (fitsIn s p)) := spL_to fun _ e => ⟨a, s, pv, p, rfl, h.mono e, hp.mono e, ok, rfl⟩
end
def nD (l : List Nat) : List PyData := l.map fun (n : Nat) => PyData.int (n : Int)
theorem dp_nv {K : PySem.W.Frag} {H : Hp} : ∀ l : List Nat, DpAll K H (nv l) (nD l)
  | [] => .nil
  | n :: l => .cons (.int _) (dp_nv l)
theorem nD_lay : ∀ l : List Nat, PyData.canLayAll0 (nD l) = true
  | [] => by simp [nD, PyData.canLayAll0]
  | n :: l => by
    have := nD_lay l
    simp only [nD, List.map_cons, PyData.canLayAll0, PyData.canLay0, Bool.true_and] at this ⊢
    exact this
theorem nD_depth : ∀ l : List Nat, PyData.depthAll (nD l) ≤ 1
  | [] => by simp [nD, PyData.depthAll]
  | n :: l => by
    have := nD_depth l
    simp only [nD, List.map_cons, PyData.depthAll, PyData.depth] at this ⊢
    omega
theorem nD_shaped (l : List Nat) : SeqAt.shaped (.list (nD l)) = true := by
  have h1 := nD_depth l
  have h2 : PyData.depth (.list (nD l)) ≤ 64 := by
    simp only [PyData.depth]
    omega
  show (PyData.canLay0 (.list (nD l)) && decide (PyData.depth (.list (nD l)) ≤ 64)) = true
  rw [Bool.and_eq_true]
  exact ⟨by simp only [PyData.canLay0]; exact nD_lay l, decide_eq_true h2⟩
theorem rv_neNil {K : PySem.W.Frag} {H : Hp} {q p : Addr} {l : List Nat} (hq : H q = some (.lst (nv l))) (hp : H p = some (.lst [])) : RV (rNeD K) (.ref q) (.ref p) H (.bl (!l.isEmpty)) := fun H1 e Q k => by
  refine ⟨.list (nD l), .list (nD []), Dp.lst (sq_of (e _ _ hq)) (dp_nv l), Dp.lst (sq_of (e _ _ hp)) (dp_nv []), nD_shaped l, nD_shaped [], ?_⟩
  have e0 : PyData.eqv (.list (nD l)) (.list (nD [])) = l.isEmpty := by
    cases l with
    | nil => simp [nD, PyData.eqv, PyData.eqvAll]
    | cons n l => simp [nD, PyData.eqv, PyData.eqvAll]
  rw [e0]
  exact k H1 (Ex.refl H1)
theorem fv_app (l m : List (Nat × Nat)) : fv (l ++ m) = fv l ++ fv m := List.flatMap_append
theorem fv_len (l : List (Nat × Nat)) : (fv l).length = 2 * l.length := by
  unfold fv
  induction l with
  | nil => rfl
  | cons a l ih => rw [List.flatMap_cons, List.length_append, ih, List.length_cons]; simp; omega
section
variable {P : Program} {w : World} {K : PySem.W.Frag} {mg : Str → Option Value} {base : Heap} {A : Ads}
abbrev s_scored : Stmt := top 58
abbrev N_scored : List Str := ["listed", "found", "word", "hits", "faults", "misses", "exact"]
abbrev P_scored : List Str := ["listed"]
theorem sc_scored : FnScope N_scored P_scored (defScope s_scored) := ⟨rfl, rfl, rfl, by decide +kernel, rfl, by decide +kernel, by decide +kernel⟩
theorem ok_scored {f : Addr} {fd : FuncData} (F : Fun K "scored" "scored" s_scored f fd) (T : Txt K mg A) (f_held_against : Cal P w K mg base CX0 6 "held_against" P_held_against (spL (rHeld A))) : FnOk P w K mg base CX0 7 f fd P_scored (spL (rScored A)) := by
  refine F.ok sc_scored (fun vs H Q E h => ?_) (fun cdv A' outer s H vs Q E hr h => ⟨_,
    (pss_cons (ps_set (i := 1) sc_scored.nd rfl (Or.inl rfl) (pe_lst (pa_cons pe_int (pa_cons pe_int (pa_cons pe_int (pa_cons pe_int pa_nil))))))
    (pss_cons (ps_for PassesOwn.never rfl (pi_list (pe_fld (pv 0) rfl)) (pg_name (i := 2) sc_scored.nd rfl (Or.inl rfl)) (pss_cons (ps_asg (pe_callU f_held_against (hr.mono (by decide)) rfl (fun _ => pz) (pa_cons (pv 0) (pa_cons (pv 2) pa_nil))) (pg_lst rfl (pgs_cons (pg_name (i := 3) sc_scored.nd rfl (Or.inl rfl)) (pgs_cons (pg_name (i := 4) sc_scored.nd rfl (Or.inl rfl)) (pgs_cons (pg_name (i := 5) sc_scored.nd rfl (Or.inl rfl)) pgs_nil)))))
    (pss_cons (ps_set (i := 6) sc_scored.nd rfl (Or.inl rfl) (pe_callTy cw_int (by rfl) T.n_int (by decide +kernel) (pa_cons (pe_and (pe_cmpR op_eq (pv 4) pe_int (nomark _)) (pe_one (pe_cmpR op_eq (pv 5) pe_int (nomark _)))) pa_nil)))
    (pss_one (ps_set (i := 1) sc_scored.nd rfl (Or.inl rfl) (pe_lst (pa_cons (pe_op op_add (pe_ix ix_list (pv 1) pe_int (fun _ _ => rfl)) (pv 6)) (pa_cons (pe_op op_add (pe_ix ix_list (pv 1) pe_int (fun _ _ => rfl)) (pv 3)) (pa_cons (pe_op op_add (pe_ix ix_list (pv 1) pe_int (fun _ _ => rfl)) (pv 4)) (pa_cons (pe_op op_add (pe_ix ix_list (pv 1) pe_int (fun _ _ => rfl)) (pv 5)) pa_nil))))))))))
    (pss_one (ps_ret (pv 1)))))
    , ?_⟩)
  · obtain ⟨v, ⟨a, sl, rfl, _⟩, _⟩ := h
    rfl
  · obtain ⟨v, ⟨a, sl, rfl, hL, rfl⟩, k⟩ := h
    have hL0 := hL
    obtain ⟨⟨dx, wa, pa, wv, pv, ha, hwa, hw, hpa, hp⟩, ok⟩ := hL
    refine q_asgL (xs := [iv 0, iv 0, iv 0, iv 0]) (el_lst (ea_cons ev_c (ea_cons ev_c (ea_cons ev_c (ea_cons ev_c ea_nil)))) (by simp)) fun f0 H1 n1 e1 h1 => ?_
    refine q_forL (a := wa) (xs := wv) (ev_fld (ev_var rfl) (e1 _ _ ha) T.clL T.nl.2.2.1 lkL_words) (sq_of (e1 _ _ hwa)) (fun i σ' H' => ∃ f v2 v3 v4 v5 v6, σ' = [some (.ref a), some (.ref f), v2, v3, v4, v5, v6] ∧ Ex H H' ∧ H f = none ∧ H' f = some (.lst (scV sl (sl.words.take i))))
      (fun H2 e2 => ⟨f0, none, none, none, none, none, rfl, e1.trans e2, n1, e2 _ _ h1⟩) (fun i σ' H' _ ⟨_, _, _, _, _, _, _, e, _⟩ => sq_of (e _ _ hwa)) (fun i x σ' H' hx hP => ?_) (fun σ' H' hP => ?_)
    · obtain ⟨f, v2, v3, v4, v5, v6, rfl, eH, nf, hf⟩ := hP
      obtain ⟨wd, hwd, hwv⟩ := hw.get hx
      have okw := ok.ws wd (List.mem_of_getElem? hwd)
      refine go_name ?_
      refine q_asgG (xs := [iv (scoreWord sl wd).hits, iv (scoreWord sl wd).faults, iv (scoreWord sl wd).misses]) (el_callU (ea_cons (ev_var rfl) (ea_cons (ev_var rfl) ea_nil)) (spl_held (hL0.mono eH) (hwv.mono eH) okw)) fun p H2 np e2 hp => ?_
      refine ⟨p, _, rfl, sq_of hp, rfl, _, _, rfl, _, _, rfl, _, _, rfl, rfl, ?_⟩
      refine q_asg (v := .int (b2i (exact sl wd))) (ev_intB (ev_is (ev_andV (ev_op (ev_var rfl) ev_c (rv_eq rfl)) fun _ => ev_op (ev_var rfl) ev_c (rv_eq rfl)) ?_)) fun H3 e3 => ?_
      · unfold exact
        show V.bl (decide (V.int ((scoreWord sl wd).faults : Int) = V.int ((0 : Nat) : Int)) && decide (V.int ((scoreWord sl wd).misses : Int) = V.int ((0 : Nat) : Int))) = _
        rw [dec_nat, dec_nat]
      have hf3 := (e2.trans e3) _ _ hf
      refine s_asgL (xs := scV sl (sl.words.take (i + 1))) (el_lst (ea_cons (ev_is (ev_op (ev_op (ev_var rfl) ev_c (rv_ixL (sq_of hf3) rfl)) (ev_var rfl) rv_I0) ?_) (ea_cons (ev_is (ev_op (ev_op (ev_var rfl) ev_c (rv_ixL (sq_of hf3) rfl)) (ev_var rfl) rv_I0) ?_) (ea_cons (ev_is (ev_op (ev_op (ev_var rfl) ev_c (rv_ixL (sq_of hf3) rfl)) (ev_var rfl) rv_I0) ?_) (ea_cons (ev_is (ev_op (ev_op (ev_var rfl) ev_c (rv_ixL (sq_of hf3) rfl)) (ev_var rfl) rv_I0) ?_) ea_nil)))) (by show 4 ≤ 100000; decide)) fun f2 H4 n4 e4 h4 => ?_
      · rw [take_snoc hwd, ex_snoc]
        show V.int (_ + b2i (exact sl wd)) = V.int ((_ : Nat) : Int)
        congr 1
        cases exact sl wd <;> simp [b2i]
      · rw [take_snoc hwd, scz_snoc]; rfl
      · rw [take_snoc hwd, scz_snoc]; rfl
      · rw [take_snoc hwd, scz_snoc]; rfl
      · have eH4 := ((eH.trans e2).trans e3)
        exact ⟨f2, _, _, _, _, _, rfl, eH4.trans e4, fresh_back eH4 n4, h4⟩
    · obtain ⟨f, v2, v3, v4, v5, v6, rfl, eH, nf, hf⟩ := hP
      rw [hw.length, List.take_length] at hf
      exact s_ret (v := .ref f) (ev_var rfl) fun H2 e2 => k f H2 nf (eH.trans e2) (e2 _ _ hf)
abbrev s_places_with : Stmt := top 59
abbrev N_places_with : List Str := ["one", "letters", "gap", "level", "place"]
abbrev P_places_with : List Str := ["one", "letters", "gap", "level"]
theorem sc_places_with : FnScope N_places_with P_places_with (defScope s_places_with) := ⟨rfl, rfl, rfl, by decide +kernel, rfl, by decide +kernel, by decide +kernel⟩
theorem ok_places_with {f : Addr} {fd : FuncData} (F : Fun K "places_with" "places_with" s_places_with f fd) (T : Txt K mg A) (f_places_of : Cal P w K mg base CX0 2 "places_of" P_places_of (spL rPlaces)) (f_digit_at : Cal P w K mg base CX0 1 "digit_at" P_digit_at (spV rDig)) : FnOk P w K mg base CX0 3 f fd P_places_with (spL rPW) := by
  refine F.ok sc_places_with (fun vs H Q E h => ?_) (fun cdv A' outer s H vs Q E hr h => ⟨_,
    (pss_one (ps_ret (pe_lc rfl sc_places_with.nd (pi_list (pe_callU f_places_of (hr.mono (by decide)) rfl (fun _ => pz) (pa_cons (pv 0) (pa_cons (pv 1) pa_nil)))) (blkOk_by (own := [("place", 4)]) (N := N_places_with) (sc := defScope s_places_with) (by decide +kernel)) (fun _ _ _ _ _ => (pg_name (i := 4) sc_places_with.nd rfl (Or.inl rfl))) (fun _ _ _ _ _ => (pts_one (pt_cmpR op_eq (pe_callU f_digit_at (hr.mono (by decide)) rfl (fun _ => pz) (pa_cons (pv 0) (pa_cons (pv 4) (pa_cons (pv 2) pa_nil)))) (pv 3) (nomark _)))) (fun _ _ _ _ _ => (pv 4)))))
    , ?_⟩)
  · obtain ⟨v, ⟨pv, p, x, g, v, rfl, _⟩, _⟩ := h
    rfl
  · obtain ⟨v, ⟨pv, p, x, g, v, rfl, hp, ok, hx, rfl⟩, k⟩ := h
    have hpl := placesOf_len p x
    refine s_retL (xs := nv (placesWith p x g v)) ?_ fun q H1 n e hq => k q H1 n e hq
    exact el_lcN (placesOf p x) iv (fun o => digAt p o g == v) iv (el_callU (ea_cons (ev_var rfl) (ea_cons (ev_var rfl) ea_nil)) (spl_places hp ok hx)) (by omega) (fun _ => rfl) (fun o H' ho e => et_is (et_test (ev_op (ev_callU (ea_cons (ev_var rfl) (ea_cons (ev_var rfl) (ea_cons (ev_var rfl) ea_nil))) (spv_dig (hp.mono e) ok)) (ev_var rfl) (rv_eq rfl))) (dec_nat _ _)) (fun o H' ho e _ => ev_var rfl)
abbrev s_decider : Stmt := top 60
abbrev N_decider : List Str := ["listed", "letters", "gap", "level", "p", "one", "some"]
abbrev P_decider : List Str := ["listed", "letters", "gap"]
theorem sc_decider : FnScope N_decider P_decider (defScope s_decider) := ⟨rfl, rfl, rfl, by decide +kernel, rfl, by decide +kernel, by decide +kernel⟩
theorem ok_decider {f : Addr} {fd : FuncData} (F : Fun K "decider" "decider" s_decider f fd) (T : Txt K mg A) (f_level_at : Cal P w K mg base CX0 4 "level_at" P_level_at (spV (rLvAt A))) (f_places_with : Cal P w K mg base CX0 3 "places_with" P_places_with (spL rPW)) : FnOk P w K mg base CX0 5 f fd P_decider (spL (rDec A)) := by
  refine F.ok sc_decider (fun vs H Q E h => ?_) (fun cdv A' outer s H vs Q E hr h => ⟨_,
    (pss_cons (ps_set (i := 3) sc_decider.nd rfl (Or.inl rfl) (pe_callU f_level_at (hr.mono (by decide)) rfl (fun _ => pz) (pa_cons (pv 0) (pa_cons (pv 1) (pa_cons (pv 2) pa_nil)))))
    (pss_cons (ps_if (pt_cmpR op_eq (pv 3) pe_int (nomark _)) (pss_one (ps_ret (pe_lst (pa_cons pe_int pa_nil)))) pss_nil)
    (pss_cons (ps_for PassesOwn.never rfl (pi_enum (by rfl) T.n_enumerate (pa_cons (pe_fld (pv 0) rfl) pa_nil)) (pg_tup rfl (pgs_cons (pg_name (i := 4) sc_decider.nd rfl (Or.inl rfl)) (pgs_cons (pg_name (i := 5) sc_decider.nd rfl (Or.inl rfl)) pgs_nil))) (pss_cons (ps_set (i := 6) sc_decider.nd rfl (Or.inl rfl) (pe_callU f_places_with (hr.mono (by decide)) rfl (fun _ => pz) (pa_cons (pv 5) (pa_cons (pv 1) (pa_cons (pv 2) (pa_cons (pv 3) pa_nil))))))
    (pss_one (ps_if (pt_cmpR (op_neD hr.units) (pv 6) (pe_lst pa_nil) (nomark _)) (pss_one (ps_ret (pe_lst (pa_cons pe_int (pa_cons (pv 4) (pa_cons (pe_ix ix_list (pv 6) pe_int (fun _ _ => rfl)) (pa_cons (pv 3) pa_nil))))))) pss_nil))))
    (pss_one (ps_ret (pe_lst (pa_cons pe_int pa_nil)))))))
    , ?_⟩)
  · obtain ⟨v, ⟨a, sl, x, g, rfl, _⟩, _⟩ := h
    rfl
  · obtain ⟨v, ⟨a, sl, x, g, rfl, hL, hx, rfl⟩, k⟩ := h
    have hL0 := hL
    obtain ⟨⟨dx, wa, pa, wv, pv, ha, hwa, hw, hpa, hp⟩, ok⟩ := hL
    refine q_asg (v := iv (levelAt sl.pats x g)) (ev_callU (ea_cons (ev_var rfl) (ea_cons (ev_var rfl) (ea_cons (ev_var rfl) ea_nil))) (spv_lvat hL0 hx)) fun H1 e1 => ?_
    refine q_when (b := levelAt sl.pats x g == 0) (et_is (et_test (ev_op (ev_var rfl) ev_c (rv_eq rfl))) (dec_nat _ 0)) (fun hb H2 e2 => ?_) (fun hb H2 e2 => ?_)
    · have h0 : levelAt sl.pats x g = 0 := by simpa using hb
      have e0 : decV sl x g = [iv 0] := by
        unfold decV decides
        show (match (if levelAt sl.pats x g = 0 then none else _ : Option (Nat × Nat)) with
          | none => [iv 0]
          | some y => [iv 1, iv y.1, iv y.2, iv (levelAt sl.pats x g)]) = _
        rw [if_pos h0]
      rw [e0] at k
      exact s_retL (el_lst (ea_cons ev_c ea_nil) (by simp)) fun p H3 n e3 h3 => k p H3 (fresh_back (e1.trans e2) n) ((e1.trans e2).trans e3) h3
    · have h0 : levelAt sl.pats x g ≠ 0 := by simpa using hb
      have ed := decides_is (x := x) (g := g) (fun p m => (ok.ps p m).l1) h0
      have e12 := e1.trans e2
      refine q_forEnum (a := pa) (xs := pv) (ea_cons (ev_fld (ev_var rfl) (e12 _ _ ha) T.clL T.nl.2.2.2 lkL_pats) ea_nil) (sq_of (e12 _ _ hpa)) (fun i σ' H' => ∃ v4 v5 v6, σ' = [some (.ref a), some (.str (S x)), some (iv g), some (iv (levelAt sl.pats x g)), v4, v5, v6] ∧ Ex H H' ∧ decides sl x g = (sl.pats.zipIdx.drop i).findSome? (decF x g (levelAt sl.pats x g)))
        (fun H3 e3 => ⟨none, none, none, rfl, e12.trans e3, ed⟩) (fun i σ' H' _ ⟨_, _, _, _, e, _⟩ => sq_of (e _ _ hpa)) (fun i xv Tt σ' H' hxv hP hT => ?_) (fun σ' H' hP => ?_)
      · obtain ⟨v4, v5, v6, rfl, eH, edr⟩ := hP
        obtain ⟨pd, hpd, hpv⟩ := hp.get hxv
        have okp := ok.ps pd (List.mem_of_getElem? hpd)
        have hi : i < sl.pats.zipIdx.length := by
          rw [List.length_zipIdx]
          exact (List.getElem?_eq_some_iff.mp hpd).1
        have edrop : sl.pats.zipIdx.drop i = (pd, i) :: sl.pats.zipIdx.drop (i + 1) := by
          rw [List.drop_eq_getElem_cons hi]
          congr 1
          have h1 : sl.pats.zipIdx[i]? = some (pd, i) := by rw [List.getElem?_zipIdx, hpd]; simp
          exact (List.getElem?_eq_some_iff.mp h1).2
        rw [edrop, List.findSome?_cons] at edr
        refine ⟨Tt, _, rfl, st_of upd_same, rfl, _, _, rfl, _, _, rfl, rfl, ?_⟩
        have eT : Ex H (upd H' Tt (.tup [iv i, xv])) := eH.trans (Ex.new hT)
        refine q_asgL (xs := nv (placesWith pd x g (levelAt sl.pats x g))) (el_callU (ea_cons (ev_var rfl) (ea_cons (ev_var rfl) (ea_cons (ev_var rfl) (ea_cons (ev_var rfl) ea_nil)))) (spl_pw (hpv.mono eT) okp hx)) fun q H3 nq e3 hq => ?_
        refine s_when (b := !(placesWith pd x g (levelAt sl.pats x g)).isEmpty) (et_test (ev_opL (xs := []) (ev_var rfl) (el_lst ea_nil (by simp)) fun p H4 hp4 e4 => rv_neNil (e4 _ _ hq) hp4)) (fun hb H4 e4 => ?_) (fun hb H4 e4 => ?_)
        · cases hpw : placesWith pd x g (levelAt sl.pats x g) with
          | nil => rw [hpw] at hb; cases hb
          | cons o rest =>
            have e0 : decF x g (levelAt sl.pats x g) (pd, i) = some (i, o) := by
              unfold decF
              rw [hpw]
              rfl
            rw [e0] at edr
            have edr : decides sl x g = some (i, o) := edr
            have e5 : decV sl x g = [iv 1, iv i, iv o, iv (levelAt sl.pats x g)] := by
              unfold decV
              rw [edr]
            rw [e5] at k
            rw [hpw] at hq
            exact s_retL (el_lst (ea_cons ev_c (ea_cons (ev_var rfl) (ea_cons (ev_op (ev_var rfl) ev_c (rv_ixL (sq_of (e4 _ _ hq)) (show atI (nv (o :: rest)) ((0 : Nat) : Int) = _ from atI_nat rfl))) (ea_cons (ev_var rfl) ea_nil)))) (by simp)) fun p H5 n e5 h5 => k p H5 (fresh_back ((eT.trans e3).trans e4) n) (((eT.trans e3).trans e4).trans e5) h5
        · have hpw : placesWith pd x g (levelAt sl.pats x g) = [] := by
            have h2 : (placesWith pd x g (levelAt sl.pats x g)).isEmpty = true := by simpa using hb
            exact List.isEmpty_iff.mp h2
          have e0 : decF x g (levelAt sl.pats x g) (pd, i) = none := by
            unfold decF
            rw [hpw]
            rfl
          rw [e0] at edr
          exact ⟨_, _, _, rfl, (eT.trans e3).trans e4, edr⟩
      · obtain ⟨v4, v5, v6, rfl, eH, edr⟩ := hP
        rw [hp.length, List.drop_eq_nil_iff.mpr (by rw [List.length_zipIdx]; exact Nat.le_refl _)] at edr
        have edr : decides sl x g = none := edr
        have e5 : decV sl x g = [iv 0] := by
          unfold decV
          rw [edr]
        rw [e5] at k
        exact s_retL (el_lst (ea_cons ev_c ea_nil) (by simp)) fun p H3 n e3 h3 => k p H3 (fresh_back eH n) (eH.trans e3) h3
abbrev s_all_fits : Stmt := top 61
abbrev N_all_fits : List Str := ["listed", "one", "found", "i", "letters", "may", "place"]
abbrev P_all_fits : List Str := ["listed", "one"]
theorem sc_all_fits : FnScope N_all_fits P_all_fits (defScope s_all_fits) := ⟨rfl, rfl, rfl, by decide +kernel, rfl, by decide +kernel, by decide +kernel⟩
theorem ok_all_fits {f : Addr} {fd : FuncData} (F : Fun K "all_fits" "all_fits" s_all_fits f fd) (T : Txt K mg A) (f_places_of : Cal P w K mg base CX0 2 "places_of" P_places_of (spL rPlaces)) : FnOk P w K mg base CX0 3 f fd P_all_fits (spL (rAllF A)) := by
  refine F.ok sc_all_fits (fun vs H Q E h => ?_) (fun cdv A' outer s H vs Q E hr h => ⟨_,
    (pss_cons (ps_set (i := 2) sc_all_fits.nd rfl (Or.inl rfl) (pe_lst pa_nil))
    (pss_cons (ps_for PassesOwn.never rfl (pi_enum (by rfl) T.n_enumerate (pa_cons (pe_fld (pv 0) rfl) pa_nil)) (pg_tup rfl (pgs_cons (pg_name (i := 3) sc_all_fits.nd rfl (Or.inl rfl)) (pgs_cons (pg_tup rfl (pgs_cons (pg_name (i := 4) sc_all_fits.nd rfl (Or.inl rfl)) (pgs_cons (pg_name (i := 5) sc_all_fits.nd rfl (Or.inl rfl)) pgs_nil))) pgs_nil))) (pss_one (ps_for PassesOwn.never rfl (pi_list (pe_callU f_places_of (hr.mono (by decide)) rfl (fun _ => pz) (pa_cons (pv 1) (pa_cons (pv 4) pa_nil)))) (pg_name (i := 6) sc_all_fits.nd rfl (Or.inl rfl)) (pss_one (ps_expr (pe_bm PySem.F.plainAttrs_list PySem.F.slot_list_extend PySem.F.type_list_extend mt_extend (pv 2) (pa_cons (pe_lst (pa_cons (pv 3) (pa_cons (pv 6) pa_nil))) pa_nil)))))))
    (pss_one (ps_ret (pv 2)))))
    , ?_⟩)
  · obtain ⟨v, ⟨a, sl, pv, p, rfl, _⟩, _⟩ := h
    rfl
  · obtain ⟨v, ⟨a, sl, pv0, p, rfl, hL, hpv, okp, rfl⟩, k⟩ := h
    obtain ⟨⟨dx, wa, pa, wv, pv, ha, hwa, hw, hpa, hp⟩, ok⟩ := hL
    rw [fitsIn_is sl okp.l1] at k
    have hw24 := ok.w24
    have bnd : ∀ i, i ≤ sl.words.length → ((sl.words.zipIdx.take i).flatMap (fitF p)).length ≤ 16 * i := fun i => by
      induction i with
      | zero => intro _; exact Nat.le_refl _
      | succ i ih =>
        intro hi
        have hwd : sl.words[i]? = some sl.words[i] := List.getElem?_eq_getElem (by omega)
        have h1 : sl.words.zipIdx[i]? = some (sl.words[i], i) := by rw [List.getElem?_zipIdx, hwd]; simp
        rw [take_snoc h1, List.flatMap_append, List.length_append]
        have ih := ih (by omega)
        have h2 : ([(sl.words[i], i)].flatMap (fitF p)).length ≤ 16 := by
          show (fitF p (sl.words[i], i) ++ []).length ≤ 16
          rw [List.append_nil]
          unfold fitF
          rw [List.length_map]
          have h3 := placesOf_len p sl.words[i].x
          have h4 := (ok.ws _ (List.mem_of_getElem? hwd)).l16
          show (placesOf p sl.words[i].x).length ≤ 16
          omega
        omega
    refine q_asgL (xs := []) (el_lst ea_nil (by simp)) fun g H1 ng e1 hg => ?_
    refine q_forEnum (a := wa) (xs := wv) (ea_cons (ev_fld (ev_var rfl) (e1 _ _ ha) T.clL T.nl.2.2.1 lkL_words) ea_nil) (sq_of (e1 _ _ hwa)) (fun i σ' H' => ∃ v3 v4 v5 v6, σ' = [some (.ref a), some pv0, some (.ref g), v3, v4, v5, v6] ∧ Ex H H' ∧ H' g = some (.lst (fv ((sl.words.zipIdx.take i).flatMap (fitF p)))))
      (fun H2 e2 => ⟨none, none, none, none, rfl, e1.trans e2, e2 _ _ hg⟩) (fun i σ' H' _ ⟨_, _, _, _, _, e, _⟩ => sq_of (e _ _ hwa)) (fun i xv Tt σ' H' hxv hP hT => ?_) (fun σ' H' hP => ?_)
    · obtain ⟨v3, v4, v5, v6, rfl, eH, hgH⟩ := hP
      obtain ⟨wd, hwd, ⟨aw, cw, rfl, haw, hcw⟩⟩ := hw.get hxv
      have okw := ok.ws wd (List.mem_of_getElem? hwd)
      have hl16 := okw.l16
      have eT : Ex H (upd H' Tt (.tup [iv i, .ref aw])) := eH.trans (Ex.new hT)
      have hil : i < sl.words.length := (List.getElem?_eq_some_iff.mp hwd).1
      have hgT : (upd H' Tt (.tup [iv i, .ref aw])) g = some (.lst (fv ((sl.words.zipIdx.take i).flatMap (fitF p)))) := by rw [upd_ne (ne_of_none hgH hT)]; exact hgH
      refine ⟨Tt, _, rfl, st_of upd_same, rfl, _, _, rfl, _, _, rfl, aw, _, rfl, st_of (eT _ _ haw), rfl, _, _, rfl, _, _, rfl, rfl, rfl, ?_⟩
      have h1 : sl.words.zipIdx[i]? = some (wd, i) := by rw [List.getElem?_zipIdx, hwd]; simp
      have hb := bnd i (by omega)
      have hpl := placesOf_len p wd.x
      refine s_forNL (xs := nv (placesOf p wd.x)) (el_callU (ea_cons (ev_var rfl) (ea_cons (ev_var rfl) ea_nil)) (spl_places (hpv.mono eT) okp (by omega))) (fun q j σ' H2 => ∃ v6, σ' = [some (.ref a), some pv0, some (.ref g), some (iv i), some (.str (S wd.x)), some (.ref cw), v6] ∧ Ex H H2 ∧ q ≠ g ∧ H2 q = some (.lst (nv (placesOf p wd.x))) ∧ H2 g = some (.lst (fv ((sl.words.zipIdx.take i).flatMap (fitF p) ++ ((placesOf p wd.x).take j).map fun o => (i, o)))))
        (fun q H2 nq e2 hq => ⟨_, rfl, eT.trans e2, (fun z => by rw [z, hgT] at nq; cases nq), hq, by rw [List.take_zero, List.map_nil, List.append_nil]; exact e2 _ _ hgT⟩) (fun q j σ' H2 _ ⟨_, _, _, _, h, _⟩ => sq_of h) (fun q j ov σ' H2 hov hP2 => ?_) (fun q σ' H2 hP2 => ?_)
      · obtain ⟨v6, rfl, eH2, nqg, hq, hg2⟩ := hP2
        obtain ⟨o, ho, rfl⟩ := of_map_get hov
        have hj : j < (placesOf p wd.x).length := (List.getElem?_eq_some_iff.mp ho).1
        refine go_name ?_
        refine s_extL (ys := [iv i, iv o]) hg2 (ev_var rfl) (el_lst (ea_cons (ev_var rfl) (ea_cons (ev_var rfl) ea_nil)) (by simp)) ?_ fun H3 e3 => ?_
        · rw [fv_len, List.length_append, List.length_map]
          have h7 := List.length_take_le j (placesOf p wd.x)
          show 2 * (_ + _) + 2 ≤ 16777216
          omega
        · refine ⟨_, rfl, Ex.mut (eH2.trans e3) ng, nqg, by rw [upd_ne nqg]; exact e3 _ _ hq, ?_⟩
          rw [upd_same, take_snoc ho, List.map_append, ← List.append_assoc, fv_app (_ ++ _)]
          rfl
      · obtain ⟨v6, rfl, eH2, nqg, hq, hg2⟩ := hP2
        refine ⟨_, _, _, _, rfl, eH2, ?_⟩
        rw [hg2, take_snoc h1, List.flatMap_append]
        have e0 : (nv (placesOf p wd.x)).length = (placesOf p wd.x).length := by unfold nv; rw [List.length_map]
        rw [e0, List.take_length]
        show some (HO.lst (fv (_ ++ _))) = some (HO.lst (fv (_ ++ (fitF p (wd, i) ++ []))))
        rw [List.append_nil]
        rfl
    · obtain ⟨v3, v4, v5, v6, rfl, eH, hgH⟩ := hP
      rw [hw.length, List.take_of_length_le (by rw [List.length_zipIdx]; exact Nat.le_refl _)] at hgH
      exact s_ret (v := .ref g) (ev_var rfl) fun H2 e2 => k g H2 ng (eH.trans e2) (e2 _ _ hgH)
end
end Pw

set_option Elab.async false
set_option linter.all false
set_option maxRecDepth 100000
set_option maxHeartbeats 4000000
namespace Pw
open PySem PySem.Spec PyProof.Rows L2 Evl
open VahypBase (Bytes isLetter isDigit index)
open Vahypa (Word Pat Lst fitsAt levelAt gaps within parts readLetters)
local macro_rules | `(tactic| trivial) => `(tactic| first
  | with_reducible exact ev_c
  | ((with_reducible apply ev_var); exact rfl)
  | with_reducible apply et_test
  | with_reducible apply et_B
  | with_reducible apply et_not
  | with_reducible exact rv_I0
  | with_reducible exact rv_isN
  | with_reducible exact rv_notN
  | with_reducible exact rv_in _
  | with_reducible exact rv_inF _
  | with_reducible exact rv_eq rfl
  | with_reducible exact rv_ne rfl
  | with_reducible exact ru_neg
  | with_reducible apply ev_chain
  | with_reducible apply ev_op
  | with_reducible apply ev_un
  | with_reducible exact ea_nil
  | with_reducible apply ea_cons
  | with_reducible exact eo_none
  | with_reducible apply eo_some
  | with_reducible assumption)
def iL (l : List Int) : List V := l.map V.int
def enc (a : VahypBase.Answer) : List Int := a.value :: a.rest
def HeldAt (A : Ads) (H : Hp) (o : Option Lst) (v : V) : Prop := match o with
  | none => v = .non
  | some s => ∃ a, v = .ref a ∧ LstAt A H a s
theorem HeldAt.mono {A : Ads} {H H' : Hp} {o : Option Lst} {v : V} (e : Ex H H') (h : HeldAt A H o v) : HeldAt A H' o v := by
  cases o with
  | none => exact h
  | some s => obtain ⟨a, h1, h2⟩ := h; exact ⟨a, h1, h2.mono e⟩
def DeskAt (A : Ads) (H : Hp) (d : Addr) (o : Option Lst) : Prop := ∃ dx v, H d = some (.ins A.D dx [("listed", v)]) ∧ HeldAt A H o v
theorem DeskAt.mono {A : Ads} {H H' : Hp} {o : Option Lst} {d : Addr} (e : Ex H H') (h : DeskAt A H d o) : DeskAt A H' d o := by
  obtain ⟨dx, v, h1, h2⟩ := h
  exact ⟨dx, v, e _ _ h1, h2.mono e⟩
def DeskS (A : Ads) (H : Hp) (d a : Addr) (s : Lst) : Prop := (∃ dx, H d = some (.ins A.D dx [("listed", .ref a)])) ∧ LstAt A H a s
theorem DeskS.mono {A : Ads} {H H' : Hp} {s : Lst} {d a : Addr} (e : Ex H H') (h : DeskS A H d a s) : DeskS A H' d a s := by
  obtain ⟨⟨dx, h1⟩, h2⟩ := h
  exact ⟨⟨dx, e _ _ h1⟩, h2.mono e⟩
/-- the held lists stand apart from g -/
def DAv (A : Ads) (H : Hp) (d g : Addr) : Prop := ∀ (dx a : Addr), H d = some (.ins A.D dx [("listed", .ref a)]) → Avoid A H a g
theorem DAv.mono {A : Ads} {H H' : Hp} {d g : Addr} {o : Option Lst} (h : DAv A H d g) (hD : DeskAt A H d o) (e : Ex H H') : DAv A H' d g := fun dx a h' => by
  obtain ⟨dx2, v, h1, h2⟩ := hD
  rw [e _ _ h1] at h'
  cases h'
  cases o with
  | none => cases (show V.ref a = .non from h2)
  | some s =>
    obtain ⟨a', h3, h4⟩ := h2
    cases h3
    exact (h _ _ h1).mono h4 e
theorem lkD {v : V} : ([("listed", v)] : List (Str × V)).lookup ("listed" : Str) = some v := lk_here
theorem lkD_no {v : V} {m : Str} (h : (["listed"] : List Str).contains m = false) : ([("listed", v)] : List (Str × V)).lookup m = none := lk_no _ rfl h
def spWant (A : Ads) : Sp := fun vs H Q E => ∃ (t : Bool) (n : Int), vs = [.bl t, .int n] ∧ (t = false → Rfs A n H E) ∧ (t = true → RetV .non H Q)
def spWantL (K : PySem.W.Frag) (A : Ads) : Sp := fun vs H Q E => ∃ (a : Addr) (b : Bytes), vs = [.ref a] ∧ SqL K H a (bv b) ∧ b.length ≤ 40000 ∧ (readLetters b = none → Rfs A (-4) H E) ∧ (∀ x, readLetters b = some x → RetV (.str (S x)) H Q)
def rCnt : List V → Hp → List V → Prop := fun vs H xs => ∃ (p : Addr) (ys : List V), vs = [.ref p] ∧ H p = some (.lst ys) ∧ ys.length ≤ 1000000 ∧ xs = iv ys.length :: ys
def spDeskI (A : Ads) : Sp := fun vs H Q _ => ∃ (p dx : Addr), vs = [.ref p] ∧ H p = some (.ins A.D dx []) ∧ ∀ H2, H2 p = some (.ins A.D dx [("listed", .non)]) → ExO p H H2 → Q .non H2
def spLoad (K : PySem.W.Frag) (A : Ads) : Sp := fun vs H Q _ => ∃ (d a : Addr) (b : Bytes) (o : Option Lst), vs = [.ref d, .ref a] ∧ DeskAt A H d o ∧ SqL K H a (bv b) ∧ b.length ≤ 40000 ∧
  ∀ p H2, H p = none → ExO d H H2 → H2 p = some (.lst (iL (enc (Vahypa.step o (.load b)).2))) → DeskAt A H2 d (Vahypa.step o (.load b)).1 → (∀ g u, H g = some u → DAv A H d g → DAv A H2 d g) → Q (.ref p) H2
def spWordM (A : Ads) : Sp := fun vs H Q E => ∃ (d a : Addr) (s : Lst) (i : Int), vs = [.ref d, .int i] ∧ DeskS A H d a s ∧ (index i s.words.length = none → Rfs A (-2) H E) ∧ (∀ k w, index i s.words.length = some k → s.words[k]? = some w → ∀ v H2, Ex H H2 → WrdV H2 v w → Q v H2)
section
variable {K : PySem.W.Frag} {A : Ads} {σ : L2.St} {H : Hp} {te ta tb : TE} {D : Ends} {tu tz : TS} {g : TG} {xs ys : List V} {t : TA} {E : L2.St → XK}
theorem q_want {b : Bool} {n : Int} (h : EvA t σ H [.bl b, .int n]) (k1 : b = false → ∀ H1, Ex H H1 → Rfs A n H1 (E σ)) (k2 : b = true → ∀ H1, Ex H H1 → tz D σ H1) : tSeq (tDrop (tCallU (spWant A) E t)) tz D σ H :=
  h H (Ex.refl H) _ fun H1 e1 => ⟨b, n, rfl, fun q => k1 q H1 e1, fun q H2 e2 => k2 q H2 (e1.trans e2)⟩
theorem el_cntL (h : EvL te σ H ys) (hz : ys.length ≤ 1000000) : EvL (tCallU (spL rCnt) E (tCons te tNil)) σ H (iv ys.length :: ys) := fun H1 e Q q =>
  h H1 e _ fun p H2 np e2 hp => ⟨_, ⟨p, ys, rfl, hp, hz, rfl⟩, fun p2 H3 n3 e3 h3 => q p2 H3 (fresh_back e2 n3) (e2.trans e3) h3⟩
theorem ev_xf {a dd C : Addr} {f : Str} {fs : List (Str × V)} {v : V} {i : Nat} (h : σ[i]? = some (some (.ref a))) (hd : H dd = some (.xd fs)) (hl : fs.lookup f = some v) : Ev (tXf a (.ref C) (some dd) C f (tVar i)) σ H v := fun H1 e Q q =>
  ⟨.ref a, h, rfl, rfl, dd, fs, v, rfl, e dd _ hd, hl, q H1 (Ex.refl H1)⟩
theorem spv_letters {a : Addr} {b : Bytes} (h : SqL K H a (bv b)) (hz : b.length ≤ 40000) : SpV (spLetters K) [.ref a] H (if b.all isLetter = true then .str (S b) else .non) := fun H1 e Q q E => ⟨a, b, rfl, ex_l e h, hz, by
  split
  · rename_i h; rw [if_pos h] at q; exact q
  · rename_i h; rw [if_neg h] at q; exact q⟩
end
section
variable {P : Program} {w : World} {K : PySem.W.Frag} {mg : Str → Option Value} {base : Heap} {A : Ads}
abbrev s_want : Stmt := top 72
abbrev N_want : List Str := ["truth", "number"]
abbrev P_want : List Str := ["truth", "number"]
theorem sc_want : FnScope N_want P_want (defScope s_want) := ⟨rfl, rfl, rfl, by decide +kernel, rfl, by decide +kernel, by decide +kernel⟩
theorem ok_want {f : Addr} {fd : FuncData} (F : Fun K "want" "want" s_want f fd) (T : Txt K mg A) (x_Refused : Xcl P w K mg base 1 A.Q "Refused" ["self", "number"] (spRefused A)) : FnOk P w K mg base (L2.CX P w) 3 f fd P_want (spWant A) := by
  refine F.okX sc_want (fun vs H Q E h => ?_) (fun cdv A' outer s H vs Q E hr h => ⟨_,
    (pss_one (ps_if (pt_not (pt_val (pv 0))) (pss_one (ps_raise rfl (takes_of rfl rfl rfl rfl) (pmk_U x_Refused (hr.mono (by decide)) (by rfl) (pa_cons (pv 1) pa_nil)))) pss_nil))
    , ?_⟩)
  · obtain ⟨t, n, rfl, _⟩ := h
    rfl
  · obtain ⟨t, n, rfl, k1, k2⟩ := h
    refine s_when (b := !t) (et_not (et_B (ev_var rfl))) (fun hb H1 e1 => ?_) (fun hb H1 e1 => ?_)
    · exact rd_refused (n := n) (ea_cons (ev_var rfl) ea_nil) ((k1 (by simpa using hb)).mono e1)
    · exact k2 (by simpa using hb) H1 e1
abbrev s_want_letters : Stmt := top 73
abbrev N_want_letters : List Str := ["row", "letters"]
abbrev P_want_letters : List Str := ["row"]
theorem sc_want_letters : FnScope N_want_letters P_want_letters (defScope s_want_letters) := ⟨rfl, rfl, rfl, by decide +kernel, rfl, by decide +kernel, by decide +kernel⟩
theorem ok_want_letters {f : Addr} {fd : FuncData} (F : Fun K "want_letters" "want_letters" s_want_letters f fd) (T : Txt K mg A) (f_want : Cal P w K mg base (L2.CX P w) 3 "want" P_want (spWant A)) (f_letters_in : Cal P w K mg base CX0 1 "letters_in" P_letters_in (spLetters K)) : FnOk P w K mg base (L2.CX P w) 4 f fd P_want_letters (spWantL K A) := by
  refine F.okX sc_want_letters (fun vs H Q E h => ?_) (fun cdv A' outer s H vs Q E hr h => ⟨_,
    (pss_cons (ps_expr (pe_callU f_want (hr.mono (by decide)) rfl (fun q => passAt (takes_of rfl rfl rfl rfl) q) (pa_cons (pe_chain op_le op_le (pe_gi T.g_LEAST_LETTERS rfl) (pe_callB cw_len (by rfl) T.n_len PySem.boot_len (pa_cons (pv 0) pa_nil)) (pe_gi T.g_MOST_LETTERS rfl)) (pa_cons (pe_gi T.g_NO_LETTERS rfl) pa_nil))))
    (pss_cons (ps_set (i := 1) sc_want_letters.nd rfl (Or.inl rfl) (pe_callU f_letters_in (hr.mono (by decide)) rfl (fun _ => pz) (pa_cons (pv 0) pa_nil)))
    (pss_cons (ps_expr (pe_callU f_want (hr.mono (by decide)) rfl (fun q => passAt (takes_of rfl rfl rfl rfl) q) (pa_cons (pe_cmpR op_notN1 (pv 1) pe_non (nomark _)) (pa_cons (pe_gi T.g_NO_LETTERS rfl) pa_nil))))
    (pss_one (ps_ret (pv 1))))))
    , ?_⟩)
  · obtain ⟨a, b, rfl, _⟩ := h
    rfl
  · obtain ⟨a, b, rfl, hS, hz, k1, k2⟩ := h
    have er : readLetters b = if b.length < 2 ∨ 16 < b.length ∨ b.all isLetter = false then none else some b := rfl
    refine q_want (b := decide (2 ≤ b.length) && decide (b.length ≤ 16)) (n := -4) (ea_cons (ev_is (ev_chain ev_c (ev_len (ev_var rfl) hS) ev_c) ?_) (ea_cons ev_c ea_nil)) (fun hb H1 e1 => ?_) (fun hb H1 e1 => ?_)
    · rw [bv_length]
      congr 1
      congr 1 <;> exact decide_eq_decide.mpr (by omega)
    · refine (k1 ?_).mono e1
      rw [er, if_pos]
      rw [Bool.and_eq_false_iff] at hb
      rcases hb with h | h
      · have := of_decide_eq_false h; exact .inl (by omega)
      · have := of_decide_eq_false h; exact .inr (.inl (by omega))
    · rw [Bool.and_eq_true] at hb
      have h1 := of_decide_eq_true hb.1
      have h2 := of_decide_eq_true hb.2
      refine q_asg (ev_callU (ea_cons (ev_var rfl) ea_nil) (spv_letters (ex_l e1 hS) hz)) fun H2 e2 => ?_
      cases hl : b.all isLetter with
      | false =>
        rw [if_neg (by decide)]
        refine q_want (b := false) (n := -4) (ea_cons (ev_op (ev_var rfl) ev_c rv_notN) (ea_cons ev_c ea_nil)) (fun _ H3 e3 => ?_) (fun z => by cases z)
        refine (k1 ?_).mono ((e1.trans e2).trans e3)
        rw [er, if_pos (.inr (.inr hl))]
      | true =>
        rw [if_pos rfl]
        refine q_want (b := true) (n := -4) (ea_cons (ev_is (ev_op (ev_var rfl) ev_c rv_notN) (by rw [decide_eq_false (fun z => by cases z)]; rfl)) (ea_cons ev_c ea_nil)) (fun z => by cases z) (fun _ H3 e3 => ?_)
        refine s_ret (v := .str (S b)) (ev_var rfl) fun H4 e4 => k2 b ?_ H4 (((e1.trans e2).trans e3).trans e4)
        rw [er, if_neg]
        rintro (z | z | z)
        · omega
        · omega
        · rw [hl] at z; cases z
abbrev s_counted : Stmt := top 74
abbrev N_counted : List Str := ["some"]
abbrev P_counted : List Str := ["some"]
theorem sc_counted : FnScope N_counted P_counted (defScope s_counted) := ⟨rfl, rfl, rfl, by decide +kernel, rfl, by decide +kernel, by decide +kernel⟩
theorem ok_counted {f : Addr} {fd : FuncData} (F : Fun K "counted" "counted" s_counted f fd) (T : Txt K mg A) : FnOk P w K mg base CX0 1 f fd P_counted (spL rCnt) := by
  refine F.ok sc_counted (fun vs H Q E h => ?_) (fun cdv A' outer s H vs Q E hr h => ⟨_,
    (pss_one (ps_ret (pe_op op_cat (pe_lst (pa_cons (pe_callB cw_len (by rfl) T.n_len PySem.boot_len (pa_cons (pv 0) pa_nil)) pa_nil)) (pv 0))))
    , ?_⟩)
  · obtain ⟨v, ⟨p, ys, rfl, _⟩, _⟩ := h
    rfl
  · obtain ⟨v, ⟨p, ys, rfl, hp, hz, rfl⟩, k⟩ := h
    exact s_retL (el_catB (xs := [iv ys.length]) (el_lst (ea_cons (ev_len (ev_var rfl) (sq_of hp)) ea_nil) (by simp)) (ev_var rfl) hp (by simp; omega)) fun q H1 n e hq => k q H1 n e hq
abbrev s_Desk_init : Stmt := inClass (top 75) 0
abbrev N_Desk_init : List Str := ["self"]
abbrev P_Desk_init : List Str := ["self"]
theorem sc_Desk_init : FnScope N_Desk_init P_Desk_init (defScope s_Desk_init) := ⟨rfl, rfl, rfl, by decide +kernel, rfl, by decide +kernel, by decide +kernel⟩
theorem ok_Desk_init {f : Addr} {fd : FuncData} (F : Fun K "__init__" "Desk.__init__" s_Desk_init f fd) (T : Txt K mg A) : FnOk P w K mg base CX0 1 f fd P_Desk_init (spDeskI A) := by
  refine F.ok sc_Desk_init (fun vs H Q E h => ?_) (fun cdv A' outer s H vs Q E hr h => ⟨_,
    (pss_one (ps_fld (pv 0) pe_non rfl))
    , ?_⟩)
  · obtain ⟨p, dx, rfl, _⟩ := h
    rfl
  · obtain ⟨p, dx, rfl, hp, k⟩ := h
    exact ⟨_, rfl, p, A.D, dx, _, rfl, hp, T.clD, T.nd, (by show 0 < 1000; decide), k _ upd_same (ExO.upd ExO.refl)⟩
abbrev s_Desk_load : Stmt := inClass (top 75) 1
abbrev N_Desk_load : List Str := ["self", "row", "e"]
abbrev P_Desk_load : List Str := ["self", "row"]
theorem sc_Desk_load : FnScope N_Desk_load P_Desk_load (defScope s_Desk_load) := ⟨rfl, rfl, rfl, by decide +kernel, rfl, by decide +kernel, by decide +kernel⟩
theorem ok_Desk_load {f : Addr} {fd : FuncData} (F : Fun K "load" "Desk.load" s_Desk_load f fd) (T : Txt K mg A) (f_list_in : Cal P w K mg base (L2.CX P w) 7 "list_in" P_list_in (spList K A)) : FnOk P w K mg base CX0 8 f fd P_Desk_load (spLoad K A) := by
  refine F.ok sc_Desk_load (fun vs H Q E h => ?_) (fun cdv A' outer s H vs Q E hr h => ⟨_,
    (pss_cons (ps_try_as (i := 2) (tb := fun W => sFld K (tVar 0) (tCallU (spList K A) (WE W) (tCons (tVar 1) tNil)) "listed") (ts := fun a cls d => tRet (tLst (tCons (tC (.int 0)) (tCons (tXf a cls d A.F "code" (tVar 2)) (tCons (tXf a cls d A.F "place" (tVar 2)) tNil))))) (Wout := fun _ _ _ _ => False) rfl rfl sc_Desk_load.nd rfl rfl ⟨rfl, by decide, Or.inl T.gFault⟩ takes0
      (fun W pn xe tk _ => (pss_one (by exact (ps_fld (pv 0) (by exact (pe_callU f_list_in (hr.mono (by decide)) rfl (fun q => passAt tk q) (by exact (pa_cons (pv 1) pa_nil)))) rfl))))
      (fun a oe cls d pn hz hf => (pss_one (ps_ret (by exact (pe_lst (pa_cons pe_int (pa_cons (pe_xf T.xf_Fault T.xa_code hz hf (pv 2)) (pa_cons (pe_xf T.xf_Fault T.xa_place hz hf (pv 2)) pa_nil)))))))))
    (pss_one (ps_ret (pe_lst (pa_cons pe_int (pa_cons (pe_callB cw_len (by rfl) T.n_len PySem.boot_len (pa_cons (pe_fld (pe_fld (pv 0) rfl) rfl) pa_nil)) (pa_cons (pe_callB cw_len (by rfl) T.n_len PySem.boot_len (pa_cons (pe_fld (pe_fld (pv 0) rfl) rfl) pa_nil)) pa_nil)))))))
    , ?_⟩)
  · obtain ⟨d, a, b, o, rfl, _⟩ := h
    rfl
  · obtain ⟨d, a, b, o, rfl, ⟨dx, v, hd, hv⟩, hS, hz, k⟩ := h
    refine ⟨_, rfl, a, b, rfl, hS, hz, fun fl hf => ?_, fun sl hs p H2 e2 hL hAv => ?_⟩
    · intro dd H2 nd ex hxd
      refine ⟨true, T.teF, fun _ x nx => ?_, fun z => by cases z⟩
      have e0 : Vahypa.step o (.load b) = (o, VahypBase.faulty fl) := by
        show (match Vahypa.read b with
          | .ok s => (some s, (⟨1, VahypBase.nats [s.words.length, s.pats.length]⟩ : VahypBase.Answer))
          | .error f => (o, VahypBase.faulty f)) = _
        rw [hf]
      rw [e0] at k
      exact s_retL (xs := [.int 0, .int fl.code, .int fl.place]) (el_lst (ea_cons ev_c (ea_cons (ev_xf rfl hxd ((lk_past (by decide +kernel)).trans lk_here)) (ea_cons (ev_xf rfl hxd lk_here) ea_nil))) (by simp)) fun p H3 np e3 hp => k p H3 (fresh_back ex np) (ExO.of (ex.trans e3)) hp ⟨dx, v, (ex.trans e3) _ _ hd, hv.mono (ex.trans e3)⟩ fun g u _ h => h.mono ⟨dx, v, hd, hv⟩ (ex.trans e3)
    · have e0 : Vahypa.step o (.load b) = (some sl, ⟨1, VahypBase.nats [sl.words.length, sl.pats.length]⟩) := by
        show (match Vahypa.read b with
          | .ok s => (some s, (⟨1, VahypBase.nats [s.words.length, s.pats.length]⟩ : VahypBase.Answer))
          | .error f => (o, VahypBase.faulty f)) = _
        rw [hs]
      rw [e0] at k
      have eput : putF "listed" (.ref p) ([("listed", v)] : List (Str × V)) = ([("listed", .ref p)] : List (Str × V)) := put_here
      refine ⟨_, rfl, d, A.D, dx, _, rfl, e2 _ _ hd, T.clD, T.nd, (by show 1 < 1000; decide), ?_⟩
      rw [eput]
      obtain ⟨⟨dx2, wa, pa, wv, pv, ha, hwa, hw, hpa, hp⟩, ok⟩ := hL
      have hd2 := e2 _ _ hd
      have n1 : p ≠ d := fun z => by
        rw [z, hd2] at ha
        have q := congrArg (fun o : HO => match o with | .ins _ _ fs => fs.length | _ => 0) (Option.some.inj ha)
        exact absurd (show (1 : Nat) = 4 from q) (by decide)
      have n2 : wa ≠ d := fun z => by rw [z, hd2] at hwa; cases hwa
      have n3 : pa ≠ d := fun z => by rw [z, hd2] at hpa; cases hpa
      generalize hH3 : upd H2 d (.ins A.D dx [("listed", .ref p)]) = H3
      have keep : ∀ b o, b ≠ d → H2 b = some o → H3 b = some o := fun b o n h => by rw [← hH3, upd_ne n]; exact h
      have hL3 : LstAt A H3 p sl := by
        refine ⟨⟨dx2, wa, pa, wv, pv, keep _ _ n1 ha, keep _ _ n2 hwa, hw.mono fun v w => ?_, keep _ _ n3 hpa, hp.mono fun v p => ?_⟩, ok⟩
        · rintro ⟨a1, c1, h1, h2, h3⟩
          exact ⟨a1, c1, h1, keep _ _ (fun z => by rw [z, hd2] at h2; cases h2) h2, keep _ _ (fun z => by rw [z, hd2] at h3; cases h3) h3⟩
        · rintro ⟨a1, c1, h1, h2, h3⟩
          exact ⟨a1, c1, h1, keep _ _ (fun z => by rw [z, hd2] at h2; cases h2) h2, keep _ _ (fun z => by rw [z, hd2] at h3; cases h3) h3⟩
      have hd3 : H3 d = some (.ins A.D dx [("listed", .ref p)]) := by rw [← hH3]; exact upd_same
      have eO : ExO d H H3 := fun b o n h => keep b o n (e2 b o h)
      clear hH3
      have nback : ∀ {p2 : Addr} {H4 : Hp}, Ex H3 H4 → H3 p2 = none → H p2 = none := fun {p2 H4} _ n => by
        cases q : H p2 with
        | none => rfl
        | some o =>
          by_cases z : p2 = d
          · rw [z, hd3] at n; cases n
          · rw [eO p2 o z q] at n; cases n
      have hfl : Ev (tFld K (tVar 0) "listed") [some (.ref d), some (.ref a), none] H3 (.ref p) := ev_fld (ev_var rfl) hd3 T.clD T.nd lkD
      refine s_retL (xs := [.int 1, iv sl.words.length, iv sl.pats.length]) (el_lst (ea_cons ev_c (ea_cons (ev_is (ev_len (ev_fld hfl (keep _ _ n1 ha) T.clL T.nl.2.2.1 lkL_words) (sq_of (keep _ _ n2 hwa))) (by rw [hw.length])) (ea_cons (ev_is (ev_len (ev_fld hfl (keep _ _ n1 ha) T.clL T.nl.2.2.2 lkL_pats) (sq_of (keep _ _ n3 hpa))) (by rw [hp.length])) ea_nil))) (by simp)) fun p2 H4 np2 e4 hp2 => ?_
      exact k p2 H4 (nback e4 np2) (eO.trans (ExO.of e4)) hp2 ⟨dx, .ref p, e4 _ _ hd3, p, rfl, hL3.mono e4⟩ fun g u hg _ dx' a' h' => by
        rw [e4 _ _ hd3] at h'
        cases h'
        intro dx3 l3 r3 wa3 pa3 h3
        rw [e4 _ _ (keep _ _ n1 ha)] at h3
        cases h3
        exact hAv g u hg _ _ _ _ _ ha
abbrev s_Desk_word : Stmt := inClass (top 75) 2
abbrev N_Desk_word : List Str := ["self", "i"]
abbrev P_Desk_word : List Str := ["self", "i"]
theorem sc_Desk_word : FnScope N_Desk_word P_Desk_word (defScope s_Desk_word) := ⟨rfl, rfl, rfl, by decide +kernel, rfl, by decide +kernel, by decide +kernel⟩
theorem ok_Desk_word {f : Addr} {fd : FuncData} (F : Fun K "word" "Desk.word" s_Desk_word f fd) (T : Txt K mg A) (f_want : Cal P w K mg base (L2.CX P w) 3 "want" P_want (spWant A)) : FnOk P w K mg base (L2.CX P w) 4 f fd P_Desk_word (spWordM A) := by
  refine F.okX sc_Desk_word (fun vs H Q E h => ?_) (fun cdv A' outer s H vs Q E hr h => ⟨_,
    (pss_cons (ps_expr (pe_callU f_want (hr.mono (by decide)) rfl (fun q => passAt (takes_of rfl rfl rfl rfl) q) (pa_cons (pe_chain op_le op_lt pe_int (pv 1) (pe_callB cw_len (by rfl) T.n_len PySem.boot_len (pa_cons (pe_fld (pe_fld (pv 0) rfl) rfl) pa_nil))) (pa_cons (pe_gi T.g_NOT_THERE rfl) pa_nil))))
    (pss_one (ps_ret (pe_ix ix_list (pe_fld (pe_fld (pv 0) rfl) rfl) (pv 1) (fun _ _ => rfl)))))
    , ?_⟩)
  · obtain ⟨d, a, s, i, rfl, _⟩ := h
    rfl
  · obtain ⟨d, a, sl, i, rfl, ⟨⟨dx, hd⟩, ⟨⟨dx2, wa, pa, wv, pv, ha, hwa, hw, hpa, hp⟩, ok⟩⟩, k1, k2⟩ := h
    have hwl := hw.length
    have hwords : ∀ H1, Ex H H1 → Ev (tFld K (tFld K (tVar 0) "listed") "words") [some (.ref d), some (.int i)] H1 (.ref wa) := fun H1 e1 => ev_fld (ev_fld (ev_var rfl) (e1 _ _ hd) T.clD T.nd lkD) (e1 _ _ ha) T.clL T.nl.2.2.1 lkL_words
    refine q_want (b := decide (0 ≤ i) && decide (i < (sl.words.length : Int))) (n := -2) (ea_cons (ev_is (ev_chain ev_c (ev_var rfl) (ev_len (hwords _ (Ex.refl H)) (sq_of hwa))) (by rw [hwl])) (ea_cons ev_c ea_nil)) (fun hb H1 e1 => ?_) (fun hb H1 e1 => ?_)
    · refine (k1 ?_).mono e1
      unfold VahypBase.index
      rw [if_neg]
      rintro ⟨z1, z2⟩
      rw [decide_eq_true z1, decide_eq_true z2] at hb
      cases hb
    · rw [Bool.and_eq_true] at hb
      have h1 := of_decide_eq_true hb.1
      have h2 := of_decide_eq_true hb.2
      have hk : i.toNat < sl.words.length := by omega
      have hwd : sl.words[i.toNat]? = some sl.words[i.toNat] := List.getElem?_eq_getElem hk
      obtain ⟨v, hv, hvw⟩ := hw.get' hwd
      have ei : index i sl.words.length = some i.toNat := by unfold VahypBase.index; rw [if_pos ⟨h1, h2⟩]
      refine s_ret (v := v) (ev_op (hwords _ e1) (ev_var rfl) (rv_ixL (sq_of (e1 _ _ hwa)) ?_)) fun H2 e2 => k2 _ _ ei hwd v H2 (e1.trans e2) (hvw.mono (e1.trans e2))
      have e3 : i = ((i.toNat : Nat) : Int) := by omega
      rw [e3]
      exact atI_nat hv
end
end Pw

set_option Elab.async false
set_option linter.all false
set_option maxRecDepth 100000
set_option maxHeartbeats 4000000
namespace Pw
open PySem PySem.Spec PyProof.Rows L2 Evl
open VahypBase (Bytes isLetter isDigit index nats textAnswer)
open Vahypa (Word Pat Lst fitsAt levelAt gaps within parts readLetters hyphened)
local macro_rules | `(tactic| trivial) => `(tactic| first
  | with_reducible exact ev_c
  | ((with_reducible apply ev_var); exact rfl)
  | with_reducible apply et_test
  | with_reducible apply et_B
  | with_reducible apply et_not
  | with_reducible exact rv_I0
  | with_reducible exact rv_isN
  | with_reducible exact rv_notN
  | with_reducible exact rv_in _
  | with_reducible exact rv_inF _
  | with_reducible exact rv_eq rfl
  | with_reducible exact rv_ne rfl
  | with_reducible exact ru_neg
  | with_reducible apply ev_chain
  | with_reducible apply ev_op
  | with_reducible apply ev_un
  | with_reducible exact ea_nil
  | with_reducible apply ea_cons
  | with_reducible exact eo_none
  | with_reducible apply eo_some
  | with_reducible assumption)
def OutL (A : Ads) (r : Except Int (List Int)) (H : Hp) (Q : VK) (E : XK) : Prop := match r with
  | .error n => Rfs A n H E
  | .ok l => RetL (iL l) H Q
theorem OutL.mono {A : Ads} {r : Except Int (List Int)} {H H' : Hp} {Q : VK} {E : XK} (h : OutL A r H Q E) (e : Ex H H') : OutL A r H' Q E := by
  cases r with
  | error n => exact Rfs.mono (E := E) h e
  | ok l => exact fun p H2 n e2 hp => h p H2 (fresh_back e n) (e.trans e2) hp
def val (r : Except Int (List Int)) : List Int := match r with
  | .error n => [n]
  | .ok l => l
def resLevels (s : Lst) (b : Bytes) : Except Int (List Int) := match readLetters b with
  | none => .error (-4)
  | some x => .ok (((Vahypa.levels s.pats x).length : Int) :: nats (Vahypa.levels s.pats x ++ parts s x))
def resW (s : Lst) (i : Int) (f : Word → Except Int (List Int)) : Except Int (List Int) := match (index i s.words.length).bind fun k => s.words[k]? with
  | none => .error (-2)
  | some w => f w
def resPart (s : Lst) (w : Word) : Except Int (List Int) := .ok (((parts s w.x).length : Int) :: nats (parts s w.x ++ [(Vahypa.scoreWord s w).hits, (Vahypa.scoreWord s w).faults, (Vahypa.scoreWord s w).misses]))
def resWhy (s : Lst) (g : Int) (w : Word) : Except Int (List Int) := match index (g - 1) (w.x.length - 1) with
  | none => .error (-3)
  | some k => .ok (match Vahypa.decides s w.x (k + 1) with
    | none => [0]
    | some x => 1 :: nats [x.1, x.2, levelAt s.pats w.x (k + 1)])
def resFits (s : Lst) (p : Int) : Except Int (List Int) := match (index p s.pats.length).bind fun k => s.pats[k]? with
  | none => .error (-2)
  | some q => .ok (((Vahypa.fitsIn s q).length : Int) :: (Vahypa.fitsIn s q).flatMap fun x => nats [x.1, x.2])
def resSpell (s : Lst) (b : Bytes) : Except Int (List Int) := match readLetters b with
  | none => .error (-4)
  | some x => .ok (enc (textAnswer (hyphened x (parts s x))))
def resScore (s : Lst) : List Int := ((s.words.filter (Vahypa.exact s)).length : Int) :: nats [(Vahypa.scoreOf s).hits, (Vahypa.scoreOf s).faults, (Vahypa.scoreOf s).misses]
def res (s : Lst) : Vahypa.Call → Except Int (List Int)
  | .load _ => .error (-1)
  | .shown => .ok (enc (textAnswer (Vahypa.shown s)))
  | .levels b => resLevels s b
  | .part i => resW s i (resPart s)
  | .score => .ok (resScore s)
  | .why i g => resW s i (resWhy s g)
  | .fits p => resFits s p
  | .spell b => resSpell s b
theorem res_enc (s : Lst) (c : Vahypa.Call) (h : ∀ b, c ≠ .load b) : val (res s c) = enc (Vahypa.looked s c) := by
  cases c with
  | load b => exact absurd rfl (h b)
  | shown => rfl
  | levels b =>
    unfold res resLevels Vahypa.looked
    dsimp only
    cases readLetters b <;> rfl
  | part i =>
    unfold res resW Vahypa.looked Vahypa.withWord
    dsimp only
    cases (index i s.words.length).bind fun k => s.words[k]? <;> rfl
  | score => rfl
  | why i g =>
    unfold res resW Vahypa.looked Vahypa.withWord
    dsimp only
    cases (index i s.words.length).bind fun k => s.words[k]? with
    | none => rfl
    | some w =>
      show val (resWhy s g w) = enc (match index (g - 1) (w.x.length - 1) with
        | none => VahypBase.one (-3)
        | some k => match Vahypa.decides s w.x (k + 1) with
          | none => VahypBase.one 0
          | some x => ⟨1, nats [x.1, x.2, levelAt s.pats w.x (k + 1)]⟩)
      unfold resWhy
      cases index (g - 1) (w.x.length - 1) with
      | none => rfl
      | some k =>
        show (match Vahypa.decides s w.x (k + 1) with
          | none => [0]
          | some x => 1 :: nats [x.1, x.2, levelAt s.pats w.x (k + 1)]) = enc (match Vahypa.decides s w.x (k + 1) with
          | none => VahypBase.one 0
          | some x => ⟨1, nats [x.1, x.2, levelAt s.pats w.x (k + 1)]⟩)
        cases Vahypa.decides s w.x (k + 1) <;> rfl
  | fits p =>
    unfold res resFits Vahypa.looked
    dsimp only
    cases (index p s.pats.length).bind fun k => s.pats[k]? <;> rfl
  | spell b =>
    unfold res resSpell Vahypa.looked
    dsimp only
    cases readLetters b <;> rfl
theorem iL_nats (l : List Nat) : iL (nats l) = nv l := by
  unfold iL nats nv
  rw [List.map_map]
  rfl
theorem iL_cons (i : Int) (l : List Int) : iL (i :: l) = V.int i :: iL l := rfl
theorem iL_app (l m : List Int) : iL (l ++ m) = iL l ++ iL m := List.map_append
theorem nv_app (l m : List Nat) : nv (l ++ m) = nv l ++ nv m := List.map_append
theorem nv_len (l : List Nat) : (nv l).length = l.length := by unfold nv; rw [List.length_map]
theorem iL_text (b : Bytes) : iL (enc (textAnswer b)) = iv b.length :: bv b := by
  show V.int _ :: iL (b.map fun c => (c.toNat : Int)) = _
  unfold iL bv
  rw [List.map_map]
  rfl
theorem iL_fv (l : List (Nat × Nat)) : iL (l.flatMap fun x => nats [x.1, x.2]) = fv l := by
  unfold iL fv
  rw [List.map_flatMap]
  rfl
theorem readL {b x : Bytes} (h : readLetters b = some x) : x = b ∧ 2 ≤ x.length ∧ x.length ≤ 16 := by
  have er : readLetters b = if b.length < 2 ∨ 16 < b.length ∨ b.all isLetter = false then none else some b := rfl
  rw [er] at h
  split at h
  · cases h
  · rename_i hn
    cases h
    refine ⟨rfl, ?_, ?_⟩
    · by_cases z : b.length < 2
      · exact absurd (.inl z) hn
      · omega
    · by_cases z : 16 < b.length
      · exact absurd (.inr (.inl z)) hn
      · omega
def spLevels (K : PySem.W.Frag) (A : Ads) : Sp := fun vs H Q E => ∃ (d a r : Addr) (b : Bytes) (s : Lst), vs = [.ref d, .ref r] ∧ DeskS A H d a s ∧ SqL K H r (bv b) ∧ b.length ≤ 40000 ∧ OutL A (resLevels s b) H Q E
def spSpell (K : PySem.W.Frag) (A : Ads) : Sp := fun vs H Q E => ∃ (d a r : Addr) (b : Bytes) (s : Lst), vs = [.ref d, .ref r] ∧ DeskS A H d a s ∧ SqL K H r (bv b) ∧ b.length ≤ 40000 ∧ OutL A (resSpell s b) H Q E
def spPart (A : Ads) : Sp := fun vs H Q E => ∃ (d a : Addr) (i : Int) (s : Lst), vs = [.ref d, .int i] ∧ DeskS A H d a s ∧ OutL A (resW s i (resPart s)) H Q E
def spWhy (A : Ads) : Sp := fun vs H Q E => ∃ (d a : Addr) (i g : Int) (s : Lst), vs = [.ref d, .int i, .int g] ∧ DeskS A H d a s ∧ OutL A (resW s i (resWhy s g)) H Q E
def spFitsM (A : Ads) : Sp := fun vs H Q E => ∃ (d a : Addr) (p : Int) (s : Lst), vs = [.ref d, .int p] ∧ DeskS A H d a s ∧ OutL A (resFits s p) H Q E
section
variable {K : PySem.W.Frag} {A : Ads} {σ : L2.St} {H : Hp} {te ta tb : TE} {D : Ends} {xs ys : List V} {t : TA} {E : L2.St → XK}
theorem ev_wtextL {x : Bytes} {cuts : List Nat} {i : Nat} (hv : σ[i]? = some (some (.str (S x)))) (h : EvL te σ H (nv cuts)) (hz : x.length ≤ 40) (h0 : 0 ∉ cuts) : Ev (tCallU (spWText K) E (tCons (tVar i) (tCons te tNil))) σ H (.str (S (hyphened x cuts))) := fun H1 e Q q =>
  ⟨_, hv, h H1 e _ fun p H2 np e2 hp => ⟨x, p, cuts, rfl, .inr (sq_of hp), hz, h0, fun H3 e3 => q H3 (e2.trans e3)⟩⟩
theorem spl_bytes {b : Bytes} (hz : b.length ≤ 40000) : SpL spBytes [.str (S b)] H (bv b) := fun H1 e Q q E => ⟨b, rfl, hz, fun p H2 n e2 hp => q p H2 n e2 hp⟩
theorem spv_form {a : Addr} {s : Lst} (h : LstAt A H a s) : SpV (spForm A) [.ref a] H (.str (S (Vahypa.shown s))) := fun H1 e Q q E => ⟨a, s, rfl, h.mono e, q⟩
theorem ev_listed {d a dx : Addr} {i : Nat} (hσ : σ[i]? = some (some (.ref d))) (T : Cls K A.D) (N : NoAttr K A.D "listed") (hd : H d = some (.ins A.D dx [("listed", .ref a)])) : Ev (tFld K (tVar i) "listed") σ H (.ref a) := ev_fld (ev_var hσ) hd T N lkD
end
section
variable {P : Program} {w : World} {K : PySem.W.Frag} {mg : Str → Option Value} {base : Heap} {A : Ads}
abbrev s_Desk_levels : Stmt := inClass (top 75) 3
abbrev N_Desk_levels : List Str := ["self", "row", "letters", "found", "gap"]
abbrev P_Desk_levels : List Str := ["self", "row"]
theorem sc_Desk_levels : FnScope N_Desk_levels P_Desk_levels (defScope s_Desk_levels) := ⟨rfl, rfl, rfl, by decide +kernel, rfl, by decide +kernel, by decide +kernel⟩
theorem ok_Desk_levels {f : Addr} {fd : FuncData} (F : Fun K "levels" "Desk.levels" s_Desk_levels f fd) (T : Txt K mg A) (f_want_letters : Cal P w K mg base (L2.CX P w) 4 "want_letters" P_want_letters (spWantL K A)) (f_counted : Cal P w K mg base CX0 1 "counted" P_counted (spL rCnt))
    (f_inner_gaps : Cal P w K mg base CX0 1 "inner_gaps" P_inner_gaps (spL rGaps)) (f_level_at : Cal P w K mg base CX0 4 "level_at" P_level_at (spV (rLvAt A))) (f_parted_at : Cal P w K mg base CX0 5 "parted_at" P_parted_at (spL (rParts A))) :
    FnOk P w K mg base (L2.CX P w) 6 f fd P_Desk_levels (spLevels K A) := by
  refine F.okX sc_Desk_levels (fun vs H Q E h => ?_) (fun cdv A' outer s H vs Q E hr h => ⟨_,
    (pss_cons (ps_set (i := 2) sc_Desk_levels.nd rfl (Or.inr rfl) (pe_callU f_want_letters (hr.mono (by decide)) rfl (fun q => passAt (takes_of rfl rfl rfl rfl) q) (pa_cons (pv 1) pa_nil)))
    (pss_cons (ps_set (i := 3) sc_Desk_levels.nd rfl (Or.inl rfl) (pe_callU f_counted (hr.mono (by decide)) rfl (fun _ => pz) (pa_cons (pe_lc rfl sc_Desk_levels.nd (pi_list (pe_callU f_inner_gaps (hr.mono (by decide)) rfl (fun _ => pz) (pa_cons (pv 2) pa_nil))) (blkOk_by (own := [("gap", 4)]) (N := N_Desk_levels) (sc := defScope s_Desk_levels) (by decide +kernel)) (fun _ _ _ _ _ => (pg_name (i := 4) sc_Desk_levels.nd rfl (Or.inl rfl))) (fun _ _ _ _ _ => pts_nil) (fun _ _ _ _ _ => (pe_callU f_level_at (hr.mono (by decide)) rfl (fun _ => pz) (pa_cons (pe_fldK (K := K) rfl (pv 0) rfl) (pa_cons (pv 2) (pa_cons (pv 4) pa_nil)))))) pa_nil)))
    (pss_one (ps_ret (pe_op op_cat (pv 3) (pe_callU f_parted_at (hr.mono (by decide)) rfl (fun _ => pz) (pa_cons (pe_fld (pv 0) rfl) (pa_cons (pv 2) pa_nil))))))))
    , ?_⟩)
  · obtain ⟨d, a, r, b, s, rfl, _⟩ := h
    rfl
  · obtain ⟨d, a, r, b, sl, rfl, ⟨⟨dx, hd⟩, hL⟩, hS, hz, k⟩ := h
    refine ⟨_, rfl, r, b, rfl, hS, hz, fun hn => ?_, fun x hx H1 e1 => ?_⟩
    · unfold resLevels at k
      rw [hn] at k
      exact k
    obtain ⟨rfl, h2, h16⟩ := readL hx
    unfold resLevels at k
    rw [hx] at k
    have k : RetL (iL (((Vahypa.levels sl.pats x).length : Int) :: nats (Vahypa.levels sl.pats x ++ parts sl x))) H Q := k
    rw [iL_cons, iL_nats, nv_app] at k
    have hgl := gaps_len x
    have hpl := parts_len sl x
    have hlv : nv (Vahypa.levels sl.pats x) = (gaps x).map fun g => iv (levelAt sl.pats x g) := by
      unfold Vahypa.levels nv
      rw [List.map_map]
      rfl
    have hll : (Vahypa.levels sl.pats x).length = (gaps x).length := by unfold Vahypa.levels; rw [List.length_map]
    refine go_name ?_
    dsimp only
    refine q_asgL (xs := iv (nv (Vahypa.levels sl.pats x)).length :: nv (Vahypa.levels sl.pats x)) (el_cntL ?_ (by rw [nv_len]; omega)) fun q H2 nq e2 hq => ?_
    · rw [hlv]
      have z := el_lcN (K := K) (σ := [some (.ref d), some (.ref r), some (.str (S x)), none, none]) (H := H1) (tl := tCallU (spL rGaps) (fun _ => E0) (tCons (tVar 2) tNil)) (t := tYes) (te := tCallU (spV (rLvAt A)) (fun _ => E0) (tCons (tFld K (tVar 0) "listed") (tCons (tVar 2) (tCons (tVar 4) tNil)))) (j := 4) (vs := [4]) (gaps x) iv (fun _ => true) (fun g => iv (levelAt sl.pats x g)) (el_callU (ea_cons (ev_var rfl) ea_nil) (spl_gaps (by omega))) (by omega) (fun _ => rfl) (fun _ _ _ _ => et_yes) (fun g H' hg e _ => ev_callU (ea_cons (ev_listed rfl T.clD T.nd ((e1.trans e) _ _ hd)) (ea_cons (ev_var rfl) (ea_cons (ev_var rfl) ea_nil))) (spv_lvat (hL.mono (e1.trans e)) (by omega)))
      rw [filter_yes] at z
      exact z
    · have e12 := e1.trans e2
      refine s_retL (el_catA (ev_var rfl) hq (el_callU (ea_cons (ev_listed rfl T.clD T.nd (e12 _ _ hd)) (ea_cons (ev_var rfl) ea_nil)) (spl_parts (hL.mono e12) (by omega))) (by rw [List.length_cons, nv_len, nv_len]; omega)) fun p H3 n e3 hp => k p H3 (fresh_back e12 n) (e12.trans e3) ?_
      rw [hp, nv_len]
      rfl
abbrev s_Desk_part : Stmt := inClass (top 75) 4
abbrev N_Desk_part : List Str := ["self", "i", "word"]
abbrev P_Desk_part : List Str := ["self", "i"]
theorem sc_Desk_part : FnScope N_Desk_part P_Desk_part (defScope s_Desk_part) := ⟨rfl, rfl, rfl, by decide +kernel, rfl, by decide +kernel, by decide +kernel⟩
theorem ok_Desk_part {f : Addr} {fd : FuncData} (F : Fun K "part" "Desk.part" s_Desk_part f fd) (T : Txt K mg A) (m_Desk_word : Met P w K mg base (L2.CX P w) 4 A.D "word" P_Desk_word (spWordM A)) (f_counted : Cal P w K mg base CX0 1 "counted" P_counted (spL rCnt))
    (f_parted_at : Cal P w K mg base CX0 5 "parted_at" P_parted_at (spL (rParts A))) (f_held_against : Cal P w K mg base CX0 6 "held_against" P_held_against (spL (rHeld A))) :
    FnOk P w K mg base (L2.CX P w) 7 f fd P_Desk_part (spPart A) := by
  refine F.okX sc_Desk_part (fun vs H Q E h => ?_) (fun cdv A' outer s H vs Q E hr h => ⟨_,
    (pss_cons (ps_set (i := 2) sc_Desk_part.nd rfl (Or.inl rfl) (pe_methU (pv 0) m_Desk_word (hr.mono (by decide)) (fun q => passAt (takes_of rfl rfl rfl rfl) q) (pa_cons (pv 1) pa_nil)))
    (pss_one (ps_ret (pe_op op_cat (pe_callU f_counted (hr.mono (by decide)) rfl (fun _ => pz) (pa_cons (pe_callU f_parted_at (hr.mono (by decide)) rfl (fun _ => pz) (pa_cons (pe_fld (pv 0) rfl) (pa_cons (pe_ix ix_tup (pv 2) pe_int (fun _ _ => rfl)) pa_nil))) pa_nil)) (pe_callU f_held_against (hr.mono (by decide)) rfl (fun _ => pz) (pa_cons (pe_fld (pv 0) rfl) (pa_cons (pv 2) pa_nil)))))))
    , ?_⟩)
  · obtain ⟨d, a, i, s, rfl, _⟩ := h
    rfl
  · obtain ⟨d, a, i, sl, rfl, ⟨⟨dx, hd⟩, hL⟩, k⟩ := h
    unfold resW at k
    refine ⟨_, rfl, d, dx, _, rfl, hd, lkD_no (by decide +kernel), _, rfl, d, a, sl, i, rfl, ⟨⟨dx, hd⟩, hL⟩, fun hn => ?_, fun n wd hn hwd v H1 e1 hv => ?_⟩
    · rw [hn] at k
      exact k
    rw [hn, Option.bind_some, hwd] at k
    have k : RetL (iL (((parts sl wd.x).length : Int) :: nats (parts sl wd.x ++ [(Vahypa.scoreWord sl wd).hits, (Vahypa.scoreWord sl wd).faults, (Vahypa.scoreWord sl wd).misses]))) H Q := k
    rw [iL_cons, iL_nats, nv_app] at k
    have okw := hL.ok.ws wd (List.mem_of_getElem? hwd)
    have h16 := okw.l16
    have hpl := parts_len sl wd.x
    have hv0 := hv
    obtain ⟨aw, cw, rfl, haw, hcw⟩ := hv
    refine go_name ?_
    dsimp only
    refine s_retL (el_cat (xs := iv (nv (parts sl wd.x)).length :: nv (parts sl wd.x)) (ys := [iv (Vahypa.scoreWord sl wd).hits, iv (Vahypa.scoreWord sl wd).faults, iv (Vahypa.scoreWord sl wd).misses]) (el_cntL (el_callU (ea_cons (ev_listed rfl T.clD T.nd (e1 _ _ hd)) (ea_cons (ev_op (ev_var rfl) ev_c (rv_ixT (st_of haw) rfl)) ea_nil)) (spl_parts (hL.mono e1) (by omega))) (by rw [nv_len]; omega)) (fun H2 e2 => el_callU (ea_cons (ev_listed rfl T.clD T.nd ((e1.trans e2) _ _ hd)) (ea_cons (ev_var rfl) ea_nil)) (spl_held (hL.mono (e1.trans e2)) (hv0.mono e2) okw)) (by rw [List.length_cons, nv_len]; simp; omega)) fun p H3 n e3 hp => k p H3 (fresh_back e1 n) (e1.trans e3) ?_
    rw [hp, nv_len]
    rfl
abbrev s_Desk_why : Stmt := inClass (top 75) 5
abbrev N_Desk_why : List Str := ["self", "i", "gap", "letters"]
abbrev P_Desk_why : List Str := ["self", "i", "gap"]
theorem sc_Desk_why : FnScope N_Desk_why P_Desk_why (defScope s_Desk_why) := ⟨rfl, rfl, rfl, by decide +kernel, rfl, by decide +kernel, by decide +kernel⟩
theorem ok_Desk_why {f : Addr} {fd : FuncData} (F : Fun K "why" "Desk.why" s_Desk_why f fd) (T : Txt K mg A) (m_Desk_word : Met P w K mg base (L2.CX P w) 4 A.D "word" P_Desk_word (spWordM A)) (f_want : Cal P w K mg base (L2.CX P w) 3 "want" P_want (spWant A))
    (f_decider : Cal P w K mg base CX0 5 "decider" P_decider (spL (rDec A))) : FnOk P w K mg base (L2.CX P w) 6 f fd P_Desk_why (spWhy A) := by
  refine F.okX sc_Desk_why (fun vs H Q E h => ?_) (fun cdv A' outer s H vs Q E hr h => ⟨_,
    (pss_cons (ps_set (i := 3) sc_Desk_why.nd rfl (Or.inl rfl) (pe_ix ix_tup (pe_methU (pv 0) m_Desk_word (hr.mono (by decide)) (fun q => passAt (takes_of rfl rfl rfl rfl) q) (pa_cons (pv 1) pa_nil)) pe_int (fun _ _ => rfl)))
    (pss_cons (ps_expr (pe_callU f_want (hr.mono (by decide)) rfl (fun q => passAt (takes_of rfl rfl rfl rfl) q) (pa_cons (pe_chain op_le op_lt pe_int (pv 2) (pe_callB cw_lens (by rfl) T.n_len PySem.boot_len (pa_cons (pv 3) pa_nil))) (pa_cons (pe_gi T.g_NO_GAP rfl) pa_nil))))
    (pss_one (ps_ret (pe_callU f_decider (hr.mono (by decide)) rfl (fun _ => pz) (pa_cons (pe_fld (pv 0) rfl) (pa_cons (pv 3) (pa_cons (pv 2) pa_nil))))))))
    , ?_⟩)
  · obtain ⟨d, a, i, g, s, rfl, _⟩ := h
    rfl
  · obtain ⟨d, a, i, g, sl, rfl, ⟨⟨dx, hd⟩, hL⟩, k⟩ := h
    unfold resW at k
    refine ⟨_, rfl, d, dx, _, rfl, hd, lkD_no (by decide +kernel), _, rfl, d, a, sl, i, rfl, ⟨⟨dx, hd⟩, hL⟩, fun hn => ?_, fun n wd hn hwd v H1 e1 hv => ?_⟩
    · rw [hn] at k
      exact k
    rw [hn, Option.bind_some, hwd] at k
    have k : OutL A (resWhy sl g wd) H Q E := k
    unfold resWhy at k
    have okw := hL.ok.ws wd (List.mem_of_getElem? hwd)
    have h2 := okw.l2
    have h16 := okw.l16
    obtain ⟨aw, cw, rfl, haw, hcw⟩ := hv
    refine ⟨aw, _, 0, .str (S wd.x), rfl, rfl, st_of haw, rfl, ?_⟩
    refine go_name ?_
    dsimp only
    refine q_want (b := decide (1 ≤ g) && decide (g < (wd.x.length : Int))) (n := -3) (ea_cons (ev_chain ev_c (ev_var rfl) (ev_lens (ev_var rfl) (by omega))) (ea_cons ev_c ea_nil)) (fun hb H2 e2 => ?_) (fun hb H2 e2 => ?_)
    · have ei : index (g - 1) (wd.x.length - 1) = none := by
        unfold VahypBase.index
        rw [if_neg]
        rintro ⟨z1, z2⟩
        rw [decide_eq_true (show (1 : Int) ≤ g by omega), decide_eq_true (show g < (wd.x.length : Int) by omega)] at hb
        cases hb
      rw [ei] at k
      exact Rfs.mono (E := E) k (e1.trans e2)
    · rw [Bool.and_eq_true] at hb
      have g1 := of_decide_eq_true hb.1
      have g2 := of_decide_eq_true hb.2
      obtain ⟨g', rfl⟩ : ∃ g' : Nat, g = ((g' + 1 : Nat) : Int) := ⟨(g - 1).toNat, by omega⟩
      have ei : index (((g' + 1 : Nat) : Int) - 1) (wd.x.length - 1) = some g' := by
        unfold VahypBase.index
        rw [if_pos ⟨by omega, by omega⟩]
        congr 1
        omega
      rw [ei] at k
      have e12 := e1.trans e2
      have ed : iL (match Vahypa.decides sl wd.x (g' + 1) with
          | none => [0]
          | some x => 1 :: nats [x.1, x.2, levelAt sl.pats wd.x (g' + 1)]) = decV sl wd.x (g' + 1) := by
        unfold decV
        cases Vahypa.decides sl wd.x (g' + 1) <;> rfl
      have k : RetL (iL (match Vahypa.decides sl wd.x (g' + 1) with
          | none => [0]
          | some x => 1 :: nats [x.1, x.2, levelAt sl.pats wd.x (g' + 1)])) H Q := k
      rw [ed] at k
      exact s_retL (el_callU (ea_cons (ev_listed rfl T.clD T.nd (e12 _ _ hd)) (ea_cons (ev_var rfl) (ea_cons (ev_var rfl) ea_nil))) (spl_dec (hL.mono e12) (by omega))) fun p H3 n e3 hp => k p H3 (fresh_back e12 n) (e12.trans e3) hp
abbrev s_Desk_fits : Stmt := inClass (top 75) 6
abbrev N_Desk_fits : List Str := ["self", "p", "found"]
abbrev P_Desk_fits : List Str := ["self", "p"]
theorem sc_Desk_fits : FnScope N_Desk_fits P_Desk_fits (defScope s_Desk_fits) := ⟨rfl, rfl, rfl, by decide +kernel, rfl, by decide +kernel, by decide +kernel⟩
theorem ok_Desk_fits {f : Addr} {fd : FuncData} (F : Fun K "fits" "Desk.fits" s_Desk_fits f fd) (T : Txt K mg A) (f_want : Cal P w K mg base (L2.CX P w) 3 "want" P_want (spWant A))
    (f_all_fits : Cal P w K mg base CX0 3 "all_fits" P_all_fits (spL (rAllF A))) : FnOk P w K mg base (L2.CX P w) 4 f fd P_Desk_fits (spFitsM A) := by
  refine F.okX sc_Desk_fits (fun vs H Q E h => ?_) (fun cdv A' outer s H vs Q E hr h => ⟨_,
    (pss_cons (ps_expr (pe_callU f_want (hr.mono (by decide)) rfl (fun q => passAt (takes_of rfl rfl rfl rfl) q) (pa_cons (pe_chain op_le op_lt pe_int (pv 1) (pe_callB cw_len (by rfl) T.n_len PySem.boot_len (pa_cons (pe_fld (pe_fld (pv 0) rfl) rfl) pa_nil))) (pa_cons (pe_gi T.g_NOT_THERE rfl) pa_nil))))
    (pss_cons (ps_set (i := 2) sc_Desk_fits.nd rfl (Or.inl rfl) (pe_callU f_all_fits (hr.mono (by decide)) rfl (fun _ => pz) (pa_cons (pe_fld (pv 0) rfl) (pa_cons (pe_ix ix_list (pe_fld (pe_fld (pv 0) rfl) rfl) (pv 1) (fun _ _ => rfl)) pa_nil))))
    (pss_one (ps_ret (pe_op op_cat (pe_lst (pa_cons (pe_op op_fdiv (pe_callB cw_len (by rfl) T.n_len PySem.boot_len (pa_cons (pv 2) pa_nil)) pe_int) pa_nil)) (pv 2))))))
    , ?_⟩)
  · obtain ⟨d, a, p, s, rfl, _⟩ := h
    rfl
  · obtain ⟨d, a, i, sl, rfl, ⟨⟨dx, hd⟩, hL⟩, k⟩ := h
    have hL0 := hL
    obtain ⟨⟨dx2, wa, pa, wv, pv, ha, hwa, hw, hpa, hp⟩, ok⟩ := hL
    unfold resFits at k
    have hpl := hp.length
    have hpats : ∀ {σ : L2.St} H1, σ[0]? = some (some (.ref d)) → Ex H H1 → Ev (tFld K (tFld K (tVar 0) "listed") "patterns") σ H1 (.ref pa) := fun H1 h0 e1 => ev_fld (ev_listed h0 T.clD T.nd (e1 _ _ hd)) (e1 _ _ ha) T.clL T.nl.2.2.2 lkL_pats
    refine q_want (b := decide (0 ≤ i) && decide (i < (sl.pats.length : Int))) (n := -2) (ea_cons (ev_is (ev_chain ev_c (ev_var rfl) (ev_len (hpats _ rfl (Ex.refl H)) (sq_of hpa))) (by rw [hpl])) (ea_cons ev_c ea_nil)) (fun hb H1 e1 => ?_) (fun hb H1 e1 => ?_)
    · have ei : index i sl.pats.length = none := by
        unfold VahypBase.index
        rw [if_neg]
        rintro ⟨z1, z2⟩
        rw [decide_eq_true z1, decide_eq_true z2] at hb
        cases hb
      rw [ei] at k
      exact Rfs.mono (E := E) k e1
    · rw [Bool.and_eq_true] at hb
      have g1 := of_decide_eq_true hb.1
      have g2 := of_decide_eq_true hb.2
      have hk : i.toNat < sl.pats.length := by omega
      have hpd : sl.pats[i.toNat]? = some sl.pats[i.toNat] := List.getElem?_eq_getElem hk
      generalize sl.pats[i.toNat] = pd at hpd
      obtain ⟨v, hv, hvp⟩ := hp.get' hpd
      have okp := ok.ps pd (List.mem_of_getElem? hpd)
      have ei : index i sl.pats.length = some i.toNat := by unfold VahypBase.index; rw [if_pos ⟨g1, g2⟩]
      rw [ei, Option.bind_some, hpd] at k
      have k : RetL (iL (((Vahypa.fitsIn sl pd).length : Int) :: (Vahypa.fitsIn sl pd).flatMap fun x => nats [x.1, x.2])) H Q := k
      rw [iL_cons, iL_fv] at k
      have e3 : i = ((i.toNat : Nat) : Int) := by omega
      have hat : atI pv i = some v := by rw [e3]; exact atI_nat hv
      refine q_asgL (xs := fv (Vahypa.fitsIn sl pd)) (el_callU (ea_cons (ev_listed rfl T.clD T.nd (e1 _ _ hd)) (ea_cons (ev_op (hpats _ rfl e1) (ev_var rfl) (rv_ixL (sq_of (e1 _ _ hpa)) hat)) ea_nil)) (spl_allf (hL0.mono e1) (hvp.mono e1) okp)) fun q H2 nq e2 hq => ?_
      have hfb : (Vahypa.fitsIn sl pd).length ≤ 100000 := by
        rw [fitsIn_is sl okp.l1]
        have key : ∀ l : List (Word × Nat), (∀ z ∈ l, z.1.x.length ≤ 16) → (l.flatMap (fitF pd)).length ≤ 16 * l.length := by
          intro l
          induction l with
          | nil => intro _; exact Nat.le_refl _
          | cons z l ih =>
            intro hl
            rw [List.flatMap_cons, List.length_append, List.length_cons]
            have h1 := ih fun y m => hl y (by simp [m])
            have h2 : (fitF pd z).length ≤ 16 := by
              unfold fitF
              rw [List.length_map]
              exact Nat.le_trans (placesOf_len pd z.1.x) (hl z (by simp))
            omega
        have h1 := key sl.words.zipIdx fun z m => by
          obtain ⟨_, _, e⟩ := List.mem_zipIdx m
          rw [e]
          exact (ok.ws _ (List.getElem_mem _)).l16
        rw [List.length_zipIdx] at h1
        have := ok.w24
        omega
      have e12 := e1.trans e2
      refine s_retL (el_catB (xs := [iv (Vahypa.fitsIn sl pd).length]) (el_lst (ea_cons (ev_is (ev_op (ev_len (ev_var rfl) (sq_of hq)) ev_c (rv_I (by show (0 : Int) < 2 ∧ (2 : Int) < 1073741824; decide))) ?_) ea_nil) (by simp)) (ev_var rfl) hq (by rw [fv_len]; simp; omega)) fun p H3 n e3 hp3 => k p H3 (fresh_back e12 n) (e12.trans e3) hp3
      rw [fv_len]
      congr 1
      omega
abbrev s_Desk_spell : Stmt := inClass (top 75) 7
abbrev N_Desk_spell : List Str := ["self", "row", "letters"]
abbrev P_Desk_spell : List Str := ["self", "row"]
theorem sc_Desk_spell : FnScope N_Desk_spell P_Desk_spell (defScope s_Desk_spell) := ⟨rfl, rfl, rfl, by decide +kernel, rfl, by decide +kernel, by decide +kernel⟩
theorem ok_Desk_spell {f : Addr} {fd : FuncData} (F : Fun K "spell" "Desk.spell" s_Desk_spell f fd) (T : Txt K mg A) (f_want_letters : Cal P w K mg base (L2.CX P w) 4 "want_letters" P_want_letters (spWantL K A)) (f_counted : Cal P w K mg base CX0 1 "counted" P_counted (spL rCnt))
    (f_bytes_of : Cal P w K mg base CX0 1 "bytes_of" P_bytes_of spBytes) (f_word_text : Cal P w K mg base CX0 1 "word_text" P_word_text (spWText K)) (f_parted_at : Cal P w K mg base CX0 5 "parted_at" P_parted_at (spL (rParts A))) :
    FnOk P w K mg base (L2.CX P w) 6 f fd P_Desk_spell (spSpell K A) := by
  refine F.okX sc_Desk_spell (fun vs H Q E h => ?_) (fun cdv A' outer s H vs Q E hr h => ⟨_,
    (pss_cons (ps_set (i := 2) sc_Desk_spell.nd rfl (Or.inl rfl) (pe_callU f_want_letters (hr.mono (by decide)) rfl (fun q => passAt (takes_of rfl rfl rfl rfl) q) (pa_cons (pv 1) pa_nil)))
    (pss_one (ps_ret (pe_callU f_counted (hr.mono (by decide)) rfl (fun _ => pz) (pa_cons (pe_callU f_bytes_of (hr.mono (by decide)) rfl (fun _ => pz) (pa_cons (pe_callU f_word_text (hr.mono (by decide)) rfl (fun _ => pz) (pa_cons (pv 2) (pa_cons (pe_callU f_parted_at (hr.mono (by decide)) rfl (fun _ => pz) (pa_cons (pe_fld (pv 0) rfl) (pa_cons (pv 2) pa_nil))) pa_nil))) pa_nil)) pa_nil)))))
    , ?_⟩)
  · obtain ⟨d, a, r, b, s, rfl, _⟩ := h
    rfl
  · obtain ⟨d, a, r, b, sl, rfl, ⟨⟨dx, hd⟩, hL⟩, hS, hz, k⟩ := h
    refine ⟨_, rfl, r, b, rfl, hS, hz, fun hn => ?_, fun x hx H1 e1 => ?_⟩
    · unfold resSpell at k
      rw [hn] at k
      exact k
    obtain ⟨rfl, h2, h16⟩ := readL hx
    unfold resSpell at k
    rw [hx] at k
    have k : RetL (iL (enc (textAnswer (hyphened x (parts sl x))))) H Q := k
    rw [iL_text] at k
    have hhl := hyN_len x (parts sl x) x.length
    rw [hyN_all] at hhl
    have h0 : 0 ∉ parts sl x := fun m => by have := (parts_in m).1; omega
    refine go_name ?_
    dsimp only
    refine s_retL (el_cntL (el_callU (ea_cons (ev_wtextL rfl (el_callU (ea_cons (ev_listed rfl T.clD T.nd (e1 _ _ hd)) (ea_cons (ev_var rfl) ea_nil)) (spl_parts (hL.mono e1) (by omega))) (by omega) h0) ea_nil) (spl_bytes (by omega))) (by rw [bv_length]; omega)) fun p H3 n e3 hp => k p H3 (fresh_back e1 n) (e1.trans e3) ?_
    rw [hp, bv_length]
end
end Pw

set_option Elab.async false
set_option linter.all false
set_option maxRecDepth 100000
set_option maxHeartbeats 4000000
namespace Pw
open PySem PySem.Spec PyProof.Rows L2 Evl
open VahypBase (Bytes isLetter isDigit index nats textAnswer)
open Vahypa (Word Pat Lst Call)
local macro_rules | `(tactic| trivial) => `(tactic| first
  | with_reducible exact ev_c
  | ((with_reducible apply ev_var); exact rfl)
  | with_reducible apply et_test
  | with_reducible apply et_B
  | with_reducible apply et_not
  | with_reducible exact rv_I0
  | with_reducible exact rv_isN
  | with_reducible exact rv_notN
  | with_reducible exact rv_in _
  | with_reducible exact rv_inF _
  | with_reducible exact rv_eq rfl
  | with_reducible exact rv_ne rfl
  | with_reducible exact ru_neg
  | with_reducible apply ev_chain
  | with_reducible apply ev_op
  | with_reducible apply ev_un
  | with_reducible exact ea_nil
  | with_reducible apply ea_cons
  | with_reducible exact eo_none
  | with_reducible apply eo_some
  | with_reducible assumption)
def CallV (K : PySem.W.Frag) (H : Hp) (cn : Int) (na ra : Addr) : Call → Prop
  | .load b => cn = 0 ∧ SqL K H ra (bv b) ∧ b.length ≤ 40000
  | .shown => cn = 1
  | .levels b => cn = 2 ∧ SqL K H ra (bv b) ∧ b.length ≤ 40000
  | .part i => cn = 3 ∧ SqL K H na [.int i]
  | .score => cn = 4
  | .why i g => cn = 5 ∧ SqL K H na [.int i, .int g]
  | .fits p => cn = 6 ∧ SqL K H na [.int p]
  | .spell b => cn = 7 ∧ SqL K H ra (bv b) ∧ b.length ≤ 40000
theorem CallV.mono {K : PySem.W.Frag} {H H' : Hp} {cn : Int} {na ra : Addr} {c : Call} (e : Ex H H') (h : CallV K H cn na ra c) : CallV K H' cn na ra c := by
  cases c with
  | load b => exact ⟨h.1, ex_l e h.2.1, h.2.2⟩
  | shown => exact h
  | levels b => exact ⟨h.1, ex_l e h.2.1, h.2.2⟩
  | part i => exact ⟨h.1, ex_l e h.2⟩
  | score => exact h
  | why i g => exact ⟨h.1, ex_l e h.2⟩
  | fits p => exact ⟨h.1, ex_l e h.2⟩
  | spell b => exact ⟨h.1, ex_l e h.2.1, h.2.2⟩
def OutO (A : Ads) (o : Option Lst) (c : Call) (H : Hp) (Q : VK) (E : XK) : Prop := match o with
  | none => Rfs A (-1) H E
  | some s => OutL A (res s c) H Q E
def spAsked (K : PySem.W.Frag) (A : Ads) : Sp := fun vs H Q E => ∃ (d na ra : Addr) (cn : Int) (o : Option Lst) (c : Call), vs = [.ref d, .int cn, .ref na, .ref ra] ∧ DeskAt A H d o ∧ CallV K H cn na ra c ∧ (∀ b, c ≠ .load b) ∧ OutO A o c H Q E
def spAnswer (K : PySem.W.Frag) (A : Ads) : Sp := fun vs H Q _ => ∃ (d na ra : Addr) (cn : Int) (o : Option Lst) (c : Call), vs = [.ref d, .int cn, .ref na, .ref ra] ∧ DeskAt A H d o ∧ CallV K H cn na ra c ∧
  ∀ p H2, H p = none → ExO d H H2 → H2 p = some (.lst (iL (enc (Vahypa.step o c).2))) → DeskAt A H2 d (Vahypa.step o c).1 → (∀ g u, H g = some u → DAv A H d g → DAv A H2 d g) → Q (.ref p) H2
section
variable {K : PySem.W.Frag} {A : Ads} {σ : L2.St} {H : Hp} {te ta tb : TE} {D : Ends} {tu tz : TS} {i : Nat} {n m : Int}
theorem q_no (h : σ[i]? = some (some (.int n))) (hn : (n == m) = false) (k : tz D σ H) : tSeq (tIfS (tTest (tOp rEq (tVar i) (tC (.int m)))) tu tNext) tz D σ H :=
  ⟨.int n, h, rfl, _, rfl, by rw [dec_int, hn]; exact k⟩
theorem q_yes (h : σ[i]? = some (some (.int n))) (hn : (n == m) = true) (k : tu { D with nx := tz D } σ H) : tSeq (tIfS (tTest (tOp rEq (tVar i) (tC (.int m)))) tu tNext) tz D σ H :=
  ⟨.int n, h, rfl, _, rfl, by rw [dec_int, hn]; exact k⟩
theorem r_no (h : σ[i]? = some (some (.int n))) (hn : (n == m) = false) (k : tRet tb D σ H) : tRet (tIf (tTest (tOp rEq (tVar i) (tC (.int m)))) ta tb) D σ H :=
  ⟨.int n, h, rfl, _, rfl, by rw [dec_int, hn]; exact k⟩
theorem r_yes (h : σ[i]? = some (some (.int n))) (hn : (n == m) = true) (k : tRet ta D σ H) : tRet (tIf (tTest (tOp rEq (tVar i) (tC (.int m)))) ta tb) D σ H :=
  ⟨.int n, h, rfl, _, rfl, by rw [dec_int, hn]; exact k⟩
end
theorem step_is (o : Option Lst) (c : Call) (h : ∀ b, c ≠ .load b) : Vahypa.step o c = (o, match o with
    | none => VahypBase.one (-1)
    | some s => Vahypa.looked s c) := by
  cases c with
  | load b => exact absurd rfl (h b)
  | shown => cases o <;> rfl
  | levels b => cases o <;> rfl
  | part i => cases o <;> rfl
  | score => cases o <;> rfl
  | why i g => cases o <;> rfl
  | fits p => cases o <;> rfl
  | spell b => cases o <;> rfl
section
variable {P : Program} {w : World} {K : PySem.W.Frag} {mg : Str → Option Value} {base : Heap} {A : Ads}
abbrev s_Desk_asked : Stmt := inClass (top 75) 8
abbrev N_Desk_asked : List Str := ["self", "call", "n", "row"]
abbrev P_Desk_asked : List Str := ["self", "call", "n", "row"]
theorem sc_Desk_asked : FnScope N_Desk_asked P_Desk_asked (defScope s_Desk_asked) := ⟨rfl, rfl, rfl, by decide +kernel, rfl, by decide +kernel, by decide +kernel⟩
theorem ok_Desk_asked {f : Addr} {fd : FuncData} (F : Fun K "asked" "Desk.asked" s_Desk_asked f fd) (T : Txt K mg A) (f_want : Cal P w K mg base (L2.CX P w) 3 "want" P_want (spWant A)) (f_counted : Cal P w K mg base CX0 1 "counted" P_counted (spL rCnt)) (f_bytes_of : Cal P w K mg base CX0 1 "bytes_of" P_bytes_of spBytes)
    (f_form_text : Cal P w K mg base CX0 2 "form_text" P_form_text (spForm A)) (f_scored : Cal P w K mg base CX0 7 "scored" P_scored (spL (rScored A)))
    (m_Desk_levels : Met P w K mg base (L2.CX P w) 6 A.D "levels" P_Desk_levels (spLevels K A)) (m_Desk_part : Met P w K mg base (L2.CX P w) 7 A.D "part" P_Desk_part (spPart A)) (m_Desk_why : Met P w K mg base (L2.CX P w) 6 A.D "why" P_Desk_why (spWhy A))
    (m_Desk_fits : Met P w K mg base (L2.CX P w) 4 A.D "fits" P_Desk_fits (spFitsM A)) (m_Desk_spell : Met P w K mg base (L2.CX P w) 6 A.D "spell" P_Desk_spell (spSpell K A)) :
    FnOk P w K mg base (L2.CX P w) 8 f fd P_Desk_asked (spAsked K A) := by
  refine F.okX sc_Desk_asked (fun vs H Q E h => ?_) (fun cdv A' outer s H vs Q E hr h => ⟨_,
    (pss_cons (ps_expr (pe_callU f_want (hr.mono (by decide)) rfl (fun q => passAt (takes_of rfl rfl rfl rfl) q) (pa_cons (pe_cmpR op_notN1 (pe_fld (pv 0) rfl) pe_non (nomark _)) (pa_cons (pe_gi T.g_NO_LIST rfl) pa_nil))))
    (pss_cons (ps_if (pt_cmpR op_eq (pv 1) pe_int (nomark _)) (pss_one (ps_ret (pe_callU f_counted (hr.mono (by decide)) rfl (fun _ => pz) (pa_cons (pe_callU f_bytes_of (hr.mono (by decide)) rfl (fun _ => pz) (pa_cons (pe_callU f_form_text (hr.mono (by decide)) rfl (fun _ => pz) (pa_cons (pe_fld (pv 0) rfl) pa_nil)) pa_nil)) pa_nil)))) pss_nil)
    (pss_cons (ps_if (pt_cmpR op_eq (pv 1) pe_int (nomark _)) (pss_one (ps_ret (pe_methU (pv 0) m_Desk_levels (hr.mono (by decide)) (fun q => passAt (takes_of rfl rfl rfl rfl) q) (pa_cons (pv 3) pa_nil)))) pss_nil)
    (pss_cons (ps_if (pt_cmpR op_eq (pv 1) pe_int (nomark _)) (pss_one (ps_ret (pe_methU (pv 0) m_Desk_part (hr.mono (by decide)) (fun q => passAt (takes_of rfl rfl rfl rfl) q) (pa_cons (pe_ix ix_list (pv 2) pe_int (fun _ _ => rfl)) pa_nil)))) pss_nil)
    (pss_cons (ps_if (pt_cmpR op_eq (pv 1) pe_int (nomark _)) (pss_one (ps_ret (pe_callU f_scored (hr.mono (by decide)) rfl (fun _ => pz) (pa_cons (pe_fld (pv 0) rfl) pa_nil)))) pss_nil)
    (pss_cons (ps_if (pt_cmpR op_eq (pv 1) pe_int (nomark _)) (pss_one (ps_ret (pe_methU (pv 0) m_Desk_why (hr.mono (by decide)) (fun q => passAt (takes_of rfl rfl rfl rfl) q) (pa_cons (pe_ix ix_list (pv 2) pe_int (fun _ _ => rfl)) (pa_cons (pe_ix ix_list (pv 2) pe_int (fun _ _ => rfl)) pa_nil))))) pss_nil)
    (pss_one (ps_ret (pe_ifExp (pt_cmpR op_eq (pv 1) pe_int (nomark _)) (pe_methU (pv 0) m_Desk_fits (hr.mono (by decide)) (fun q => passAt (takes_of rfl rfl rfl rfl) q) (pa_cons (pe_ix ix_list (pv 2) pe_int (fun _ _ => rfl)) pa_nil)) (pe_methU (pv 0) m_Desk_spell (hr.mono (by decide)) (fun q => passAt (takes_of rfl rfl rfl rfl) q) (pa_cons (pv 3) pa_nil)))))))))))
    , ?_⟩)
  · obtain ⟨d, na, ra, cn, o, c, rfl, _⟩ := h
    rfl
  · obtain ⟨d, na, ra, cn, o, c, rfl, ⟨dx, v, hd, hv⟩, hc, hnl, k⟩ := h
    cases o with
    | none =>
      have hv : v = .non := hv
      subst hv
      refine q_want (b := false) (n := -1) (ea_cons (ev_op (ev_fld (ev_var rfl) hd T.clD T.nd lkD) ev_c rv_notN) (ea_cons ev_c ea_nil)) (fun _ H1 e1 => ?_) (fun z => by cases z)
      exact Rfs.mono (E := E) k e1
    | some sl =>
      obtain ⟨a, rfl, hL⟩ := hv
      refine q_want (b := true) (n := -1) (ea_cons (ev_is (ev_op (ev_fld (ev_var rfl) hd T.clD T.nd lkD) ev_c rv_notN) (by rw [decide_eq_false (fun z => by cases z)]; rfl)) (ea_cons ev_c ea_nil)) (fun z => by cases z) (fun _ H1 e1 => ?_)
      have k : OutL A (res sl c) H Q E := k
      have k := k.mono e1
      have hc := hc.mono e1
      have hd := e1 _ _ hd
      have hL := hL.mono e1
      have hDS : DeskS A H1 d a sl := ⟨⟨dx, hd⟩, hL⟩
      cases c with
      | load b => exact absurd rfl (hnl b)
      | shown =>
        have hc : cn = 1 := hc
        subst hc
        refine q_yes rfl rfl ?_
        have k : RetL (iL (enc (textAnswer (Vahypa.shown sl)))) H1 Q := k
        rw [iL_text] at k
        have hsl := shown_len sl hL.ok
        refine s_retL (el_cntL (el_callU (ea_cons (ev_callU (ea_cons (ev_listed rfl T.clD T.nd hd) ea_nil) (spv_form hL)) ea_nil) (spl_bytes (by omega))) (by rw [bv_length]; omega)) fun p H3 n e3 hp => k p H3 n e3 ?_
        rw [hp, bv_length]
      | levels b =>
        obtain ⟨rfl, hS, hz⟩ := hc
        refine q_no rfl rfl (q_yes rfl rfl ?_)
        exact ⟨_, rfl, d, dx, _, rfl, hd, lkD_no (by decide +kernel), _, rfl, d, a, ra, b, sl, rfl, hDS, hS, hz, k⟩
      | part i =>
        obtain ⟨rfl, hN⟩ := hc
        refine q_no rfl rfl (q_no rfl rfl (q_yes rfl rfl ?_))
        exact ⟨_, rfl, d, dx, _, rfl, hd, lkD_no (by decide +kernel), _, rfl, na, _, 0, _, rfl, rfl, hN, rfl, d, a, i, sl, rfl, hDS, k⟩
      | score =>
        have hc : cn = 4 := hc
        subst hc
        refine q_no rfl rfl (q_no rfl rfl (q_no rfl rfl (q_yes rfl rfl ?_)))
        have k : RetL (iL (resScore sl)) H1 Q := k
        have e0 : iL (resScore sl) = scV sl sl.words := rfl
        rw [e0] at k
        exact s_retL (el_callU (ea_cons (ev_listed rfl T.clD T.nd hd) ea_nil) (spl_scored hL)) fun p H3 n e3 hp => k p H3 n e3 hp
      | why i g =>
        obtain ⟨rfl, hN⟩ := hc
        refine q_no rfl rfl (q_no rfl rfl (q_no rfl rfl (q_no rfl rfl (q_yes rfl rfl ?_))))
        exact ⟨_, rfl, d, dx, _, rfl, hd, lkD_no (by decide +kernel), _, rfl, na, _, 0, _, rfl, rfl, hN, rfl, _, rfl, na, _, 1, _, rfl, rfl, hN, rfl, d, a, i, g, sl, rfl, hDS, k⟩
      | fits p =>
        obtain ⟨rfl, hN⟩ := hc
        refine q_no rfl rfl (q_no rfl rfl (q_no rfl rfl (q_no rfl rfl (q_no rfl rfl (r_yes rfl rfl ?_)))))
        exact ⟨_, rfl, d, dx, _, rfl, hd, lkD_no (by decide +kernel), _, rfl, na, _, 0, _, rfl, rfl, hN, rfl, d, a, p, sl, rfl, hDS, k⟩
      | spell b =>
        obtain ⟨rfl, hS, hz⟩ := hc
        refine q_no rfl rfl (q_no rfl rfl (q_no rfl rfl (q_no rfl rfl (q_no rfl rfl (r_no rfl rfl ?_)))))
        exact ⟨_, rfl, d, dx, _, rfl, hd, lkD_no (by decide +kernel), _, rfl, d, a, ra, b, sl, rfl, hDS, hS, hz, k⟩
abbrev s_Desk_answer : Stmt := inClass (top 75) 9
abbrev N_Desk_answer : List Str := ["self", "call", "n", "row", "e"]
abbrev P_Desk_answer : List Str := ["self", "call", "n", "row"]
theorem sc_Desk_answer : FnScope N_Desk_answer P_Desk_answer (defScope s_Desk_answer) := ⟨rfl, rfl, rfl, by decide +kernel, rfl, by decide +kernel, by decide +kernel⟩
theorem ok_Desk_answer {f : Addr} {fd : FuncData} (F : Fun K "answer" "Desk.answer" s_Desk_answer f fd) (T : Txt K mg A) (m_Desk_load : Met P w K mg base CX0 8 A.D "load" P_Desk_load (spLoad K A)) (m_Desk_asked : Met P w K mg base (L2.CX P w) 8 A.D "asked" P_Desk_asked (spAsked K A)) :
    FnOk P w K mg base CX0 9 f fd P_Desk_answer (spAnswer K A) := by
  refine F.ok sc_Desk_answer (fun vs H Q E h => ?_) (fun cdv A' outer s H vs Q E hr h => ⟨_,
    (pss_cons (ps_if (pt_cmpR op_eq (pv 1) (pe_gi T.g_LOAD rfl) (nomark _)) (pss_one (ps_ret (pe_methU (pv 0) m_Desk_load (hr.mono (by decide)) (fun _ => pz) (pa_cons (pv 3) pa_nil)))) pss_nil)
    (pss_one (ps_try_as (i := 4) (tb := fun W => tRet (tMethU A.D "asked" (spAsked K A) (WE W) (tVar 0) (tCons (tVar 1) (tCons (tVar 2) (tCons (tVar 3) tNil))))) (ts := fun a cls d => tRet (tLst (tCons (tXf a cls d A.Q "number" (tVar 4)) tNil))) (Wout := fun _ _ _ _ => False) rfl rfl sc_Desk_answer.nd rfl rfl ⟨rfl, by decide, Or.inl T.gRefused⟩ takes0
      (fun W pn xe tk _ => (pss_one (by exact (ps_ret (by exact (pe_methU (pv 0) m_Desk_asked (hr.mono (by decide)) (fun q => passAt tk q) (by exact (pa_cons (pv 1) (pa_cons (pv 2) (pa_cons (pv 3) pa_nil))))))))))
      (fun a oe cls d pn hz hf => (pss_one (ps_ret (by exact (pe_lst (pa_cons (pe_xf T.xf_Refused T.xa_number hz hf (pv 4)) pa_nil)))))))))
    , ?_⟩)
  · obtain ⟨d, na, ra, cn, o, c, rfl, _⟩ := h
    rfl
  · obtain ⟨d, na, ra, cn, o, c, rfl, hD, hc, k⟩ := h
    have hD0 := hD
    obtain ⟨dx, v, hd, hv⟩ := hD
    by_cases hl : ∃ b, c = .load b
    · obtain ⟨b, rfl⟩ := hl
      obtain ⟨rfl, hS, hz⟩ := hc
      refine q_yes rfl rfl ?_
      exact ⟨_, rfl, d, dx, _, rfl, hd, lkD_no (by decide +kernel), _, rfl, d, ra, b, o, rfl, hD0, hS, hz, k⟩
    · have hnl : ∀ b, c ≠ .load b := fun b e => hl ⟨b, e⟩
      have hcn : (cn == 0) = false := by
        cases c with
        | load b => exact absurd rfl (hnl b)
        | shown => have h : cn = 1 := hc; rw [h]; rfl
        | levels b => rw [hc.1]; rfl
        | part i => rw [hc.1]; rfl
        | score => have h : cn = 4 := hc; rw [h]; rfl
        | why i g => rw [hc.1]; rfl
        | fits p => rw [hc.1]; rfl
        | spell b => rw [hc.1]; rfl
      have es := step_is o c hnl
      refine q_no rfl hcn ?_
      have back : ∀ n : Int, enc (Vahypa.step o c).2 = [n] → ∀ E' : XK, (∀ dd H2, H dd = none → Ex H H2 → H2 dd = some (.xd [("number", .int n)]) → E' (.ref A.Q) (some dd) H2) → Rfs A n H E' := fun n _ E' h => h
      have hand : ∀ (n : Int) (dd x : Addr) (H2 : Hp) (D2 : Ends), enc (Vahypa.step o c).2 = [n] → D2.rt = Q → H dd = none → Ex H H2 → H2 dd = some (.xd [("number", .int n)]) →
          tRet (tLst (tCons (tXf x (.ref A.Q) (some dd) A.Q "number" (tVar 4)) tNil)) D2 [some (.ref d), some (.int cn), some (.ref na), some (.ref ra), some (.ref x)] H2 := fun n dd x H2 D2 he hrt nd ex hxd =>
        s_retL (xs := [.int n]) (el_lst (ea_cons (ev_xf rfl hxd lk_here) ea_nil) (by simp)) fun p H3 np e3 hp => by
          rw [hrt]
          refine k p H3 (fresh_back ex np) (ExO.of (ex.trans e3)) (by rw [he]; exact hp) ?_ ?_
          · rw [es]
            exact hD0.mono (ex.trans e3)
          · exact fun g u _ h => h.mono hD0 (ex.trans e3)
      refine ⟨_, rfl, d, dx, _, rfl, hd, lkD_no (by decide +kernel), _, rfl, _, rfl, _, rfl, d, na, ra, cn, o, c, rfl, hD0, hc, hnl, ?_⟩
      cases o with
      | none =>
        intro dd H2 nd ex hxd
        exact ⟨true, T.teQ, fun _ x nx => hand (-1) dd x H2 _ (by rw [es]; rfl) rfl nd ex hxd, fun z => by cases z⟩
      | some sl =>
        have hval := res_enc sl c hnl
        have es2 : enc (Vahypa.step (some sl) c).2 = val (res sl c) := by rw [es, hval]
        show OutL A (res sl c) H _ _
        cases hr2 : res sl c with
        | error n =>
          rw [hr2] at es2
          intro dd H2 nd ex hxd
          exact ⟨true, T.teQ, fun _ x nx => hand n dd x H2 _ es2 rfl nd ex hxd, fun z => by cases z⟩
        | ok l =>
          rw [hr2] at es2
          intro p H2 np e2 hp
          refine k p H2 np (ExO.of e2) (by rw [es2]; exact hp) ?_ fun g u _ h => h.mono hD0 e2
          rw [es]
          exact hD0.mono e2
end
end Pw

set_option Elab.async false
set_option linter.all false
set_option maxRecDepth 100000
set_option maxHeartbeats 4000000
/-! # The flat calls, plainly -/
namespace Pw
open PySem PySem.Spec PyProof.Rows L2 Evl
open VahypBase (Bytes)
open Vahypa (Call Lst)
def bi (b : Bytes) : List Int := b.map fun c => (c.toNat : Int)
inductive Parse : Int → List Int → Call → List Int → Prop
  | load (b : Bytes) (t : List Int) : b.length ≤ 8192 → Parse 0 ((b.length : Int) :: (bi b ++ t)) (.load b) t
  | shown (t : List Int) : Parse 1 t .shown t
  | levels (b : Bytes) (t : List Int) : b.length ≤ 8192 → Parse 2 ((b.length : Int) :: (bi b ++ t)) (.levels b) t
  | part (i : Int) (t : List Int) : Parse 3 (i :: t) (.part i) t
  | score (t : List Int) : Parse 4 t .score t
  | why (i g : Int) (t : List Int) : Parse 5 (i :: g :: t) (.why i g) t
  | fits (p : Int) (t : List Int) : Parse 6 (p :: t) (.fits p) t
  | spell (b : Bytes) (t : List Int) : b.length ≤ 8192 → Parse 7 ((b.length : Int) :: (bi b ++ t)) (.spell b) t
theorem bytes_back {l : List Int} (h : l.all (PyInside.within 0 255) = true) : bi (VahypaNeutral.bytesOf l) = l := by
  unfold bi VahypaNeutral.bytesOf
  rw [List.map_map]
  refine (List.map_congr_left fun z m => ?_).trans (List.map_id l)
  have hz := List.all_eq_true.mp h z m
  unfold PyInside.within at hz
  rw [Bool.and_eq_true] at hz
  have h1 := of_decide_eq_true hz.1
  have h2 := of_decide_eq_true hz.2
  show (((UInt8.ofNat z.toNat).toNat : Nat) : Int) = z
  rw [UInt8.toNat_ofNat']
  omega
theorem bytes_ok {l : List Int} (h : l.all (PyInside.within 0 255) = true) : NeutralIO.bytes l = true := h
theorem row_one {r : List Int} {xs : List (List Int)} {t : List Int} (h : PyFlat.rows 1 r = some (xs, t)) : ∃ x, xs = [x] ∧ r = (x.length : Int) :: (x ++ t) := by
  have e : PyFlat.rows 1 r = match PyFlat.row r with
    | none => none
    | some (x, s) => some ([x], s) := rfl
  rw [e] at h
  cases r with
  | nil => cases h
  | cons n r =>
    have e2 : PyFlat.row (n :: r) = if 0 ≤ n ∧ n.toNat ≤ r.length then some (r.take n.toNat, r.drop n.toNat) else none := rfl
    rw [e2] at h
    by_cases hn : 0 ≤ n ∧ n.toNat ≤ r.length
    · rw [if_pos hn] at h
      cases h
      refine ⟨_, rfl, ?_⟩
      rw [List.take_append_drop, List.length_take, Nat.min_eq_left hn.2]
      congr 1
      omega
    · rw [if_neg hn] at h; cases h
theorem callB {p : Int} {f : Nat} {r : List Int} {raws : List (List (List Int))} (hs : PyVahypa.shape p = some (0, 1)) (h : PyFlat.calls PyVahypa.shape (f + 1) (p :: r) = some raws) :
    ∃ x t cs, raws = [[p], x] :: cs ∧ PyFlat.calls PyVahypa.shape f t = some cs ∧ r = (x.length : Int) :: (x ++ t) := by
  have e : PyFlat.calls PyVahypa.shape (f + 1) (p :: r) = match (match PyVahypa.shape p with
      | none => none
      | some (n, k) => if r.length < n then none else match PyFlat.rows k (r.drop n) with
        | none => none
        | some (xs, t) => some ((p :: r.take n) :: xs, t)) with
    | none => none
    | some (c, t) => match PyFlat.calls PyVahypa.shape f t with
      | none => none
      | some cs => some (c :: cs) := rfl
  rw [e, hs] at h
  have h : (match (match PyFlat.rows 1 r with
        | none => none
        | some (xs, t) => some ((p :: r.take 0) :: xs, t)) with
    | none => none
    | some (c, t) => match PyFlat.calls PyVahypa.shape f t with
      | none => none
      | some cs => some (c :: cs)) = some raws := h
  cases hr : PyFlat.rows 1 r with
  | none => rw [hr] at h; cases h
  | some y =>
    obtain ⟨xs, t⟩ := y
    obtain ⟨x, rfl, er⟩ := row_one hr
    rw [hr] at h
    have h : (match PyFlat.calls PyVahypa.shape f t with
      | none => none
      | some cs => some ([[p], x] :: cs)) = some raws := h
    cases hc : PyFlat.calls PyVahypa.shape f t with
    | none => rw [hc] at h; cases h
    | some cs => rw [hc] at h; cases h; exact ⟨x, t, cs, rfl, hc, er⟩
theorem callN {p : Int} {f n : Nat} {r : List Int} {raws : List (List (List Int))} (hs : PyVahypa.shape p = some (n, 0)) (h : PyFlat.calls PyVahypa.shape (f + 1) (p :: r) = some raws) :
    ∃ cs, n ≤ r.length ∧ raws = [p :: r.take n] :: cs ∧ PyFlat.calls PyVahypa.shape f (r.drop n) = some cs := by
  have e : PyFlat.calls PyVahypa.shape (f + 1) (p :: r) = match (match PyVahypa.shape p with
      | none => none
      | some (n, k) => if r.length < n then none else match PyFlat.rows k (r.drop n) with
        | none => none
        | some (xs, t) => some ((p :: r.take n) :: xs, t)) with
    | none => none
    | some (c, t) => match PyFlat.calls PyVahypa.shape f t with
      | none => none
      | some cs => some (c :: cs) := rfl
  rw [e, hs] at h
  have h : (match (if r.length < n then none else some ([p :: r.take n], r.drop n)) with
    | none => none
    | some (c, t) => match PyFlat.calls PyVahypa.shape f t with
      | none => none
      | some cs => some (c :: cs)) = some raws := h
  by_cases hl : r.length < n
  · rw [if_pos hl] at h; cases h
  · rw [if_neg hl] at h
    have h : (match PyFlat.calls PyVahypa.shape f (r.drop n) with
      | none => none
      | some cs => some ([p :: r.take n] :: cs)) = some raws := h
    cases hc : PyFlat.calls PyVahypa.shape f (r.drop n) with
    | none => rw [hc] at h; cases h
    | some cs => rw [hc] at h; cases h; exact ⟨cs, by omega, rfl, rfl⟩
theorem shape_none {p : Int} {f : Nat} {r : List Int} {raws : List (List (List Int))} (h : PyFlat.calls PyVahypa.shape (f + 1) (p :: r) = some raws) : PyVahypa.shape p ≠ none := fun hs => by
  have e : PyFlat.calls PyVahypa.shape (f + 1) (p :: r) = match (match PyVahypa.shape p with
      | none => none
      | some (n, k) => if r.length < n then none else match PyFlat.rows k (r.drop n) with
        | none => none
        | some (xs, t) => some ((p :: r.take n) :: xs, t)) with
    | none => none
    | some (c, t) => match PyFlat.calls PyVahypa.shape f t with
      | none => none
      | some cs => some (c :: cs) := rfl
  rw [e, hs] at h
  cases h
theorem shape_in {p : Int} (h : PyVahypa.shape p ≠ none) : p = 0 ∨ p = 1 ∨ p = 2 ∨ p = 3 ∨ p = 4 ∨ p = 5 ∨ p = 6 ∨ p = 7 := by
  by_cases h0 : p = 0
  · exact .inl h0
  by_cases h1 : p = 1
  · exact .inr (.inl h1)
  by_cases h2 : p = 2
  · exact .inr (.inr (.inl h2))
  by_cases h3 : p = 3
  · exact .inr (.inr (.inr (.inl h3)))
  by_cases h4 : p = 4
  · exact .inr (.inr (.inr (.inr (.inl h4))))
  by_cases h5 : p = 5
  · exact .inr (.inr (.inr (.inr (.inr (.inl h5)))))
  by_cases h6 : p = 6
  · exact .inr (.inr (.inr (.inr (.inr (.inr (.inl h6))))))
  by_cases h7 : p = 7
  · exact .inr (.inr (.inr (.inr (.inr (.inr (.inr h7))))))
  exfalso
  apply h
  unfold PyVahypa.shape
  rw [if_neg h0, if_neg h1, if_neg h2, if_neg h3, if_neg h4, if_neg h5, if_neg h6, if_neg h7]
theorem in_cons {c : List (List Int)} {cs : List (List (List Int))} (h : PyInside.calls PyVahypa.bound (c :: cs) = true) : PyInside.call PyVahypa.bound c = true ∧ PyInside.calls PyVahypa.bound cs = true := by
  unfold PyInside.calls at h
  rw [List.all_cons, Bool.and_eq_true] at h
  exact h
theorem in_row {p : Int} {x : List Int} (hb : (PyVahypa.bound p).2 = [(0, 255, 0, 8192)]) (h : PyInside.call PyVahypa.bound [[p], x] = true) : x.length ≤ 8192 ∧ x.all (PyInside.within 0 255) = true := by
  have e : PyInside.call PyVahypa.bound [[p], x] = (PyInside.each (PyVahypa.bound p).1 [] && PyInside.lists (PyVahypa.bound p).2 [x]) := rfl
  rw [e, hb, Bool.and_eq_true] at h
  have h2 : (decide (0 ≤ x.length) && decide (x.length ≤ 8192) && x.all (PyInside.within 0 255) && PyInside.lists [] []) = true := h.2
  rw [Bool.and_eq_true, Bool.and_eq_true, Bool.and_eq_true] at h2
  exact ⟨of_decide_eq_true h2.1.1.2, h2.1.2⟩
theorem parse {f : Nat} {p : Int} {r : List Int} {raws : List (List (List Int))} (h : PyFlat.calls PyVahypa.shape (f + 1) (p :: r) = some raws) (hi : PyInside.calls PyVahypa.bound raws = true) :
    ∃ cl t c cs, raws = c :: cs ∧ PyFlat.calls PyVahypa.shape f t = some cs ∧ Parse p r cl t ∧ VahypaNeutral.callOf (PyVahypa.whole c) = some cl ∧ PyInside.calls PyVahypa.bound cs = true := by
  have row : ∀ (q : Int) (mk : Bytes → Call), PyVahypa.shape q = some (0, 1) → (PyVahypa.bound q).2 = [(0, 255, 0, 8192)] → p = q → (∀ (b : Bytes) (t : List Int), b.length ≤ 8192 → Parse q ((b.length : Int) :: (bi b ++ t)) (mk b) t) →
      (∀ x : List Int, NeutralIO.bytes x = true → VahypaNeutral.callOf (PyVahypa.whole [[q], x]) = some (mk (VahypaNeutral.bytesOf x))) →
      ∃ cl t c cs, raws = c :: cs ∧ PyFlat.calls PyVahypa.shape f t = some cs ∧ Parse p r cl t ∧ VahypaNeutral.callOf (PyVahypa.whole c) = some cl ∧ PyInside.calls PyVahypa.bound cs = true := by
    intro q mk hs hb e hp hc
    subst e
    obtain ⟨x, t, cs, rfl, hcs, rfl⟩ := callB hs h
    obtain ⟨i1, i2⟩ := in_cons hi
    obtain ⟨l1, l2⟩ := in_row hb i1
    refine ⟨_, t, _, cs, rfl, hcs, ?_, hc x (bytes_ok l2), i2⟩
    have hbk := bytes_back l2
    have hln : (VahypaNeutral.bytesOf x).length = x.length := by unfold VahypaNeutral.bytesOf; rw [List.length_map]
    have z := hp (VahypaNeutral.bytesOf x) t (by omega)
    rw [hbk, hln] at z
    exact z
  rcases shape_in (shape_none h) with e | e | e | e | e | e | e | e
  · exact row 0 .load rfl rfl e .load fun x hx => by
      show (if NeutralIO.bytes x = true then some (Call.load (VahypaNeutral.bytesOf x)) else none) = _
      rw [if_pos hx]
  · subst e
    obtain ⟨cs, hn, rfl, hcs⟩ := callN (n := 0) rfl h
    exact ⟨.shown, r, _, cs, rfl, hcs, .shown r, rfl, (in_cons hi).2⟩
  · exact row 2 .levels rfl rfl e .levels fun x hx => by
      show (if NeutralIO.bytes x = true then some (Call.levels (VahypaNeutral.bytesOf x)) else none) = _
      rw [if_pos hx]
  · subst e
    obtain ⟨cs, hn, rfl, hcs⟩ := callN (n := 1) rfl h
    cases r with
    | nil => exact absurd hn (by decide)
    | cons i t => exact ⟨.part i, t, _, cs, rfl, hcs, .part i t, rfl, (in_cons hi).2⟩
  · subst e
    obtain ⟨cs, hn, rfl, hcs⟩ := callN (n := 0) rfl h
    exact ⟨.score, r, _, cs, rfl, hcs, .score r, rfl, (in_cons hi).2⟩
  · subst e
    obtain ⟨cs, hn, rfl, hcs⟩ := callN (n := 2) rfl h
    cases r with
    | nil => exact absurd hn (by decide)
    | cons i r => cases r with
      | nil => exact absurd hn (by simp)
      | cons g t => exact ⟨.why i g, t, _, cs, rfl, hcs, .why i g t, rfl, (in_cons hi).2⟩
  · subst e
    obtain ⟨cs, hn, rfl, hcs⟩ := callN (n := 1) rfl h
    cases r with
    | nil => exact absurd hn (by decide)
    | cons i t => exact ⟨.fits i, t, _, cs, rfl, hcs, .fits i t, rfl, (in_cons hi).2⟩
  · exact row 7 .spell rfl rfl e .spell fun x hx => by
      show (if NeutralIO.bytes x = true then some (Call.spell (VahypaNeutral.bytesOf x)) else none) = _
      rw [if_pos hx]
def numsV : List V := [.int 0, .int 0, .int 0, .int 1, .int 0, .int 2, .int 1, .int 0]
def lstV : List V := [.int 0, .int 2, .int 7]
theorem iL_bi (b : Bytes) : iL (bi b) = bv b := by
  unfold iL bi bv
  rw [List.map_map]
  rfl
/-- what the program reads of a call -/
structure PF (p : Int) (r : List Int) (cl : Call) (t : List Int) (n : Nat) (lb : Bool) (b : Bytes) : Prop where
  num : atI numsV p = some (iv n)
  lst : inV (.int p) lstV = lb
  le : n ≤ r.length
  no : lb = false → t = r.drop n ∧ b = []
  yes : lb = true → n = 0 ∧ r = (b.length : Int) :: (bi b ++ t)
  len : b.length ≤ 8192
  call : ∀ {K : PySem.W.Frag} {H : Hp} {na ra : Addr}, SqL K H na (iL (r.take n)) → SqL K H ra (bv b) → CallV K H p na ra cl
theorem pf {p : Int} {r : List Int} {cl : Call} {t : List Int} (h : Parse p r cl t) : ∃ n lb b, PF p r cl t n lb b := by
  cases h with
  | load b t hb => exact ⟨0, true, b, rfl, rfl, Nat.zero_le _, (fun z => by cases z), (fun _ => ⟨rfl, rfl⟩), hb, fun _ h => ⟨rfl, h, by omega⟩⟩
  | shown t => exact ⟨0, false, [], rfl, rfl, Nat.zero_le _, (fun _ => ⟨rfl, rfl⟩), (fun z => by cases z), Nat.zero_le _, fun _ _ => rfl⟩
  | levels b t hb => exact ⟨0, true, b, rfl, rfl, Nat.zero_le _, (fun z => by cases z), (fun _ => ⟨rfl, rfl⟩), hb, fun _ h => ⟨rfl, h, by omega⟩⟩
  | part i t => exact ⟨1, false, [], rfl, rfl, by simp, (fun _ => ⟨rfl, rfl⟩), (fun z => by cases z), Nat.zero_le _, fun h _ => ⟨rfl, h⟩⟩
  | score t => exact ⟨0, false, [], rfl, rfl, Nat.zero_le _, (fun _ => ⟨rfl, rfl⟩), (fun z => by cases z), Nat.zero_le _, fun _ _ => rfl⟩
  | why i g t => exact ⟨2, false, [], rfl, rfl, by simp, (fun _ => ⟨rfl, rfl⟩), (fun z => by cases z), Nat.zero_le _, fun h _ => ⟨rfl, h⟩⟩
  | fits i t => exact ⟨1, false, [], rfl, rfl, by simp, (fun _ => ⟨rfl, rfl⟩), (fun z => by cases z), Nat.zero_le _, fun h _ => ⟨rfl, h⟩⟩
  | spell b t hb => exact ⟨0, true, b, rfl, rfl, Nat.zero_le _, (fun z => by cases z), (fun _ => ⟨rfl, rfl⟩), hb, fun _ h => ⟨rfl, h, by omega⟩⟩
/-- what is told of the calls that are left -/
def left (o : Option Lst) (raws : List (List (List Int))) : List Int := PyFlat.told (PyFlat.played VahypaNeutral.step o (raws.map PyVahypa.whole))
theorem left_cons {o : Option Lst} {c : List (List Int)} {cs : List (List (List Int))} {cl : Call} (h : VahypaNeutral.callOf (PyVahypa.whole c) = some cl) :
    left o (c :: cs) = ((enc (Vahypa.step o cl).2).length : Int) :: (enc (Vahypa.step o cl).2 ++ left (Vahypa.step o cl).1 cs) := by
  have e : VahypaNeutral.step o (PyVahypa.whole c) = ((Vahypa.step o cl).1, enc (Vahypa.step o cl).2) := by
    unfold VahypaNeutral.step
    rw [h]
    rfl
  unfold left
  show PyFlat.told ((VahypaNeutral.step o (PyVahypa.whole c)).2 :: PyFlat.played VahypaNeutral.step (VahypaNeutral.step o (PyVahypa.whole c)).1 (cs.map PyVahypa.whole)) = _
  rw [e]
  rfl
theorem answers_left {L : List Int} {raws : List (List (List Int))} (h : PyFlat.calls PyVahypa.shape L.length L = some raws) : PyVahypa.answers L = left none raws := by
  have e : PyVahypa.calls L = some (raws.map PyVahypa.whole) := by
    unfold PyVahypa.calls
    rw [h]
  unfold PyVahypa.answers
  rw [e]
  rfl
/-- what is asked of the calls -/
theorem asked_is {L : List Int} (h : PyVahypa.answers_asked L = true) : ∃ raws, PyFlat.calls PyVahypa.shape L.length L = some raws ∧ PyInside.calls PyVahypa.bound raws = true ∧ (PyVahypa.answers L).length ≤ 10000000 := by
  unfold PyVahypa.answers_asked at h
  cases hc : PyFlat.calls PyVahypa.shape L.length L with
  | none => rw [hc] at h; cases h
  | some raws =>
    rw [hc] at h
    have h : (!raws.isEmpty && PyFlat.atMost 100 raws && PyInside.calls PyVahypa.bound raws && VahypaNeutral.asked (raws.map PyVahypa.whole) && PyFlat.short 10000000 (PyVahypa.answers L)) = true := h
    rw [Bool.and_eq_true, Bool.and_eq_true, Bool.and_eq_true] at h
    exact ⟨raws, rfl, h.1.1.2, of_decide_eq_true h.2⟩
end Pw

set_option Elab.async false
set_option linter.all false
set_option maxRecDepth 100000
set_option maxHeartbeats 4000000
namespace Pw
open PySem PySem.Spec PyProof.Rows L2 Evl
open VahypBase (Bytes)
open Vahypa (Call Lst)
local macro_rules | `(tactic| trivial) => `(tactic| first
  | with_reducible exact ev_c
  | ((with_reducible apply ev_var); exact rfl)
  | with_reducible apply et_test
  | with_reducible apply et_B
  | with_reducible apply et_not
  | with_reducible exact rv_I0
  | with_reducible exact rv_isN
  | with_reducible exact rv_notN
  | with_reducible exact rv_in _
  | with_reducible exact rv_inF _
  | with_reducible exact rv_eq rfl
  | with_reducible exact rv_ne rfl
  | with_reducible exact ru_neg
  | with_reducible apply ev_chain
  | with_reducible apply ev_op
  | with_reducible apply ev_un
  | with_reducible exact ea_nil
  | with_reducible apply ea_cons
  | with_reducible exact eo_none
  | with_reducible apply eo_some
  | with_reducible assumption)
theorem iL_len (l : List Int) : (iL l).length = l.length := by unfold iL; rw [List.length_map]
theorem iL_get {l : List Int} {i : Nat} {z : Int} (h : l[i]? = some z) : (iL l)[i]? = some (V.int z) := by
  unfold iL; rw [List.getElem?_map, h]; rfl
theorem cutV_nat (xs : List V) (i n : Nat) (h : i + n ≤ xs.length) : cutV xs (some (i : Int)) (some ((i + n : Nat) : Int)) = (xs.drop i).take n := by
  unfold cutV
  have e1 : HT.sIx xs.length 0 (some (i : Int)) = min i xs.length := HT.sIx_nat xs.length 0 i
  have e2 : HT.sIx xs.length xs.length (some ((i + n : Nat) : Int)) = min (i + n) xs.length := HT.sIx_nat xs.length xs.length (i + n)
  rw [e1, e2, Nat.min_eq_left (show i ≤ xs.length by omega), Nat.min_eq_left h, show i + n - i = n by omega]
theorem cut_iL {L r : List Int} {k n : Nat} (h : L.drop k = r) (hk : k ≤ L.length) (hn : n ≤ r.length) : cutV (iL L) (some (k : Int)) (some ((k + n : Nat) : Int)) = iL (r.take n) := by
  have hl : r.length = L.length - k := by rw [← h, List.length_drop]
  rw [cutV_nat _ _ _ (by rw [iL_len]; omega), ← h]
  unfold iL
  rw [List.map_take, List.map_drop]
section
variable {K : PySem.W.Frag} {A : Ads} {σ : L2.St} {H : Hp} {te ta : TE} {t : TT} {D : Ends} {tu tz : TS} {b : Bool}
theorem el_is {xs ys : List V} (h : EvL te σ H xs) (e : xs = ys) : EvL te σ H ys := e ▸ h
theorem q_whenK (h : EvT t σ H b) (Mid : L2.St → Hp → Prop) (h1 : b = true → ∀ H1, Ex H H1 → ∀ N : L2.St → Hp → Prop, (∀ σ' H', Mid σ' H' → N σ' H') → tu { D with nx := N } σ H1) (h2 : b = false → ∀ H1, Ex H H1 → Mid σ H1) (k : ∀ σ' H', Mid σ' H' → tz D σ' H') :
    tSeq (tIfS t tu tNext) tz D σ H := q_when h (fun hb H1 e => h1 hb H1 e _ k) (fun hb H1 e => k σ H1 (h2 hb H1 e))
theorem q_app2 {l : Addr} {xs : List V} {v : V} (hl : H l = some (.lst xs)) (ha : Ev ta σ H (.ref l)) (h : Ev te σ H v) (hz : xs.length < 16777216) (k : ∀ H1, Ex H H1 → tz D σ (upd H1 l (.lst (xs ++ [v])))) :
    tSeq (tDrop (tBM K "list" rAppend ta (tCons te tNil))) tz D σ H := ha H (Ex.refl H) _ fun H1 e1 =>
  ⟨Or.inl ⟨rfl, xs, sq_of (e1 l _ hl)⟩, h H1 e1 _ fun H2 e2 => ⟨l, xs, v, rfl, rfl, e2 l _ (e1 l _ hl), sz2 hz, k H2 (e1.trans e2)⟩⟩
theorem q_extV {l q : Addr} {xs ys : List V} (hl : H l = some (.lst xs)) (hq : H q = some (.lst ys)) (ha : Ev ta σ H (.ref l)) (h : Ev te σ H (.ref q)) (hz : xs.length + ys.length ≤ 16777216) (k : ∀ H1, Ex H H1 → tz D σ (upd H1 l (.lst (xs ++ ys)))) :
    tSeq (tDrop (tBM K "list" rExtend ta (tCons te tNil))) tz D σ H := ha H (Ex.refl H) _ fun H1 e1 =>
  ⟨Or.inl ⟨rfl, xs, sq_of (e1 l _ hl)⟩, h H1 e1 _ fun H2 e2 => ⟨l, q, xs, ys, rfl, rfl, e2 l _ (e1 l _ hl), (e1.trans e2) _ _ hq, sz1 hz, k H2 (e1.trans e2)⟩⟩
theorem DeskAt.app {d g : Addr} {o : Option Lst} {xs ys : List V} (h : DeskAt A H d o) (av : DAv A H d g) (hg : H g = some (.lst xs)) : DeskAt A (upd H g (.lst ys)) d o ∧ DAv A (upd H g (.lst ys)) d g := by
  obtain ⟨dx, v, hd, hv⟩ := h
  have nd : d ≠ g := fun z => by rw [z, hg] at hd; cases hd
  cases o with
  | none =>
    have hv : v = .non := hv
    subst hv
    refine ⟨⟨dx, .non, by rw [upd_ne nd]; exact hd, rfl⟩, fun dx a h' => ?_⟩
    rw [upd_ne nd, hd] at h'
    cases h'
  | some s =>
    obtain ⟨a, rfl, ⟨⟨dx2, wa, pa, wv, pv, ha, hwa, hw, hpa, hp⟩, ok⟩⟩ := hv
    have na : a ≠ g := fun z => by rw [z, hg] at ha; cases ha
    obtain ⟨nw, np⟩ := av dx a hd _ _ _ _ _ ha
    refine ⟨⟨dx, .ref a, by rw [upd_ne nd]; exact hd, a, rfl, ⟨⟨dx2, wa, pa, wv, pv, by rw [upd_ne na]; exact ha, by rw [upd_ne nw]; exact hwa, hw.mono fun _ _ => WrdV.app hg, by rw [upd_ne np]; exact hpa, hp.mono fun _ _ => PatV.app hg⟩, ok⟩⟩, fun dx' a' h' => ?_⟩
    rw [upd_ne nd, hd] at h'
    cases h'
    intro dx3 l3 r3 wa3 pa3 h3
    rw [upd_ne na, ha] at h3
    cases h3
    exact ⟨nw, np⟩
end
def spTop (K : PySem.W.Frag) : Sp := fun vs H Q _ => ∃ (ca : Addr) (L : List Int), vs = [.ref ca] ∧ SqL K H ca (iL L) ∧ PyVahypa.answers_asked L = true ∧ ∀ p H2, H p = none → Ex H H2 → H2 p = some (.lst (iL (PyVahypa.answers L))) → Q (.ref p) H2
/-- where the calls stand -/
structure CAt (K : PySem.W.Frag) (A : Ads) (L : List Int) (H : Hp) (ca d fo : Addr) (H' : Hp) (k : Nat) (rest : List Int) (f : Nat) (raws : List (List (List Int))) (o : Option Lst) (acc : List Int) : Prop where
  ex : Ex H H'
  nd : H d = none
  nf : H fo = none
  desk : DeskAt A H' d o
  av : DAv A H' d fo
  fnd : H' fo = some (.lst (iL acc))
  at_ : L.drop k = rest
  le : k ≤ L.length
  fuel : rest.length ≤ f
  raw : PyFlat.calls PyVahypa.shape f rest = some raws
  ins : PyInside.calls PyVahypa.bound raws = true
  eq : PyVahypa.answers L = acc ++ left o raws
section
variable {P : Program} {w : World} {K : PySem.W.Frag} {mg : Str → Option Value} {base : Heap} {A : Ads}
abbrev s_answers : Stmt := top 76
abbrev N_answers : List Str := ["calls", "desk", "found", "at", "call", "end", "n", "row", "told"]
abbrev P_answers : List Str := ["calls"]
theorem sc_answers : FnScope N_answers P_answers (defScope s_answers) := ⟨rfl, rfl, rfl, by decide +kernel, rfl, by decide +kernel, by decide +kernel⟩
theorem ok_answers {f : Addr} {fd : FuncData} (F : Fun K "answers" "answers" s_answers f fd) (T : Txt K mg A) (c_Desk : Mkr P w K mg base CX0 1 A.D "Desk" P_Desk_init (spDeskI A)) (m_Desk_answer : Met P w K mg base CX0 9 A.D "answer" P_Desk_answer (spAnswer K A)) :
    FnOk P w K mg base CX0 30 f fd P_answers (spTop K) := by
  refine F.ok sc_answers (fun vs H Q E h => ?_) (fun cdv A' outer s H vs Q E hr h => ⟨_,
    (pss_cons (ps_set (i := 1) sc_answers.nd rfl (Or.inl rfl) (pe_makeU0 c_Desk (hr.mono (by decide)) rfl (fun _ => pz)))
    (pss_cons (ps_set (i := 2) sc_answers.nd rfl (Or.inl rfl) (pe_lst pa_nil))
    (pss_cons (ps_set (i := 3) sc_answers.nd rfl (Or.inl rfl) pe_int)
    (pss_cons (ps_while PassesOwn.never (pt_cmpR op_lt (pv 3) (pe_callB cw_len (by rfl) T.n_len PySem.boot_len (pa_cons (pv 0) pa_nil)) (nomark _)) (pss_cons (ps_set (i := 4) sc_answers.nd rfl (Or.inl rfl) (pe_ix ix_list (pv 0) (pv 3) (fun _ _ => rfl)))
    (pss_cons (ps_set (i := 5) sc_answers.nd rfl (Or.inl rfl) (pe_op op_add (pe_op op_add (pv 3) pe_int) (pe_ix ix_tup (pe_gt T.g_NUMBERS_OF rfl) (pv 4) (fun _ _ => rfl))))
    (pss_cons (ps_set (i := 6) sc_answers.nd rfl (Or.inl rfl) (pe_slice sl_list (pv 0) (po_some (pe_op op_add (pv 3) pe_int)) (po_some (pv 5))))
    (pss_cons (ps_set (i := 7) sc_answers.nd rfl (Or.inl rfl) (pe_lst pa_nil))
    (pss_cons (ps_if (pt_cmpR op_in_seq (pv 4) (pe_gt T.g_LISTED rfl) (by rfl)) (pss_cons (ps_set (i := 7) sc_answers.nd rfl (Or.inl rfl) (pe_slice sl_list (pv 0) (po_some (pe_op op_add (pv 5) pe_int)) (po_some (pe_op op_add (pe_op op_add (pv 5) pe_int) (pe_ix ix_list (pv 0) (pv 5) (fun _ _ => rfl))))))
    (pss_one (ps_set (i := 5) sc_answers.nd rfl (Or.inl rfl) (pe_op op_add (pe_op op_add (pv 5) pe_int) (pe_ix ix_list (pv 0) (pv 5) (fun _ _ => rfl)))))) pss_nil)
    (pss_cons (ps_set (i := 8) sc_answers.nd rfl (Or.inl rfl) (pe_methU (pv 1) m_Desk_answer (hr.mono (by decide)) (fun _ => pz) (pa_cons (pv 4) (pa_cons (pv 6) (pa_cons (pv 7) pa_nil)))))
    (pss_cons (ps_expr (pe_bm PySem.F.plainAttrs_list PySem.F.slot_list_append PySem.F.type_list_append mt_append (pv 2) (pa_cons (pe_callB cw_len (by rfl) T.n_len PySem.boot_len (pa_cons (pv 8) pa_nil)) pa_nil)))
    (pss_cons (ps_expr (pe_bm PySem.F.plainAttrs_list PySem.F.slot_list_extend PySem.F.type_list_extend mt_extend (pv 2) (pa_cons (pv 8) pa_nil)))
    (pss_one (ps_set (i := 3) sc_answers.nd rfl (Or.inl rfl) (pv 5))))))))))))
    (pss_one (ps_ret (pv 2)))))))
    , ?_⟩)
  · obtain ⟨ca, L, rfl, _⟩ := h
    rfl
  · obtain ⟨ca, L, rfl, hS, hask, k⟩ := h
    obtain ⟨raws0, hraw, hins, hlen⟩ := asked_is hask
    have hal := answers_left hraw
    refine fun d dx nd ndx ne => ⟨d, dx, rfl, upd_same, fun H1 h1 eO => ⟨rfl, ?_⟩⟩
    have e1 : Ex H H1 := fun c o h => eO c o (ne_of_none h nd) (((Ex.new ndx).trans (Ex.new (by rw [upd_ne (Ne.symm ne)]; exact nd))) c o h)
    refine go_name ?_
    dsimp only
    refine q_asgL (xs := []) (el_lst ea_nil (by simp)) fun fo H2 nfo e2 hfo => ?_
    have nfo0 : H fo = none := fresh_back e1 nfo
    apply q_asg
    · repeat' trivial
    intro H3 e3
    have hd3 := (e2.trans e3) _ _ h1
    refine q_while (fun m σ' H' => ∃ kk rest f raws o acc v4 v5 v6 v7 v8, m = rest.length ∧ σ' = [some (.ref ca), some (.ref d), some (.ref fo), some (iv kk), v4, v5, v6, v7, v8] ∧ CAt K A L H ca d fo H' kk rest f raws o acc) L.length
      ⟨0, L, L.length, raws0, none, [], none, none, none, none, none, rfl, rfl, ⟨(e1.trans e2).trans e3, nd, nfo0, ⟨dx, .non, hd3, rfl⟩, (fun dx' a' h' => by rw [hd3] at h'; cases h'), e3 _ _ hfo, rfl, Nat.zero_le _, Nat.le_refl _, hraw, hins, hal⟩⟩ ?_
    rintro m σ' H4 ⟨kk, rest, fu, raws, o, acc, v4, v5, v6, v7, v8, rfl, rfl, I⟩
    have hS4 := ex_l I.ex hS
    have hrl : rest.length = L.length - kk := by rw [← I.at_, List.length_drop]
    have hle := I.le
    refine ⟨decide (kk < L.length), et_is (et_test (ev_op (ev_var rfl) (ev_len (ev_var rfl) hS4) rv_I0)) (by rw [iL_len]; exact decide_eq_decide.mpr (by omega)), fun hb H5 e5 => ?_, fun hb H5 e5 => ?_⟩
    · have hkl := of_decide_eq_true hb
      obtain ⟨p, r, rfl⟩ : ∃ p r, rest = p :: r := by
        cases rest with
        | nil => simp at hrl; omega
        | cons p r => exact ⟨p, r, rfl⟩
      rw [List.length_cons] at hrl
      have hat := I.at_
      have hp : L[kk]? = some p := by
        have := congrArg (fun l : List Int => l[0]?) hat
        simpa using this
      have hr : L.drop (kk + 1) = r := by
        have := congrArg (fun l : List Int => l.drop 1) hat
        simpa [Nat.add_comm] using this
      obtain ⟨fu, rfl⟩ : ∃ f', fu = f' + 1 := ⟨fu - 1, by have := I.fuel; simp at this; omega⟩
      obtain ⟨cl, t, c, cs, rfl, hcs, hpar, hco, hin⟩ := parse I.raw I.ins
      obtain ⟨n, lb, bb, pf⟩ := pf hpar
      have heq := I.eq
      rw [left_cons hco] at heq
      have hanslen := congrArg List.length heq
      rw [List.length_append, List.length_cons, List.length_append] at hanslen
      have hnle := pf.le
      have hS5 := ex_l e5 hS4
      -- the place behind the call
      obtain ⟨k2, hk2, hk2l, hk2r, hk2t⟩ : ∃ k2, k2 ≤ L.length ∧ L.drop k2 = t ∧ kk < k2 ∧ (lb = false → k2 = kk + 1 + n) ∧ (lb = true → k2 = kk + 1 + 1 + bb.length) := by
        cases hlb : lb with
        | false =>
          obtain ⟨h1, h2⟩ := pf.no hlb
          refine ⟨kk + 1 + n, by omega, ?_, by omega, fun _ => rfl, fun z => by cases z⟩
          rw [h1, ← hr, List.drop_drop]
        | true =>
          obtain ⟨h1, h2⟩ := pf.yes hlb
          have h3 := congrArg List.length h2
          have hbl : (bi bb).length = bb.length := by unfold bi; rw [List.length_map]
          simp only [List.length_cons, List.length_append, hbl] at h3
          refine ⟨kk + 1 + 1 + bb.length, by omega, ?_, by omega, (fun z => by cases z), fun _ => rfl⟩
          have h4 : L.drop (kk + 1 + (1 + bb.length)) = r.drop (1 + bb.length) := by rw [← hr, List.drop_drop]
          rw [show kk + 1 + 1 + bb.length = kk + 1 + (1 + bb.length) by omega, h4, h2, Nat.add_comm 1, List.drop_succ_cons, ← hbl, List.drop_left]
      have hkk : ((kk : Int) + 1) = ((kk + 1 : Nat) : Int) := rfl
      refine ⟨fun σ2 H' => ∃ kk' rest' f raws o acc v4 v5 v6 v7 v8, rest'.length < (p :: r).length ∧ σ2 = [some (.ref ca), some (.ref d), some (.ref fo), some (iv kk'), v4, v5, v6, v7, v8] ∧ CAt K A L H ca d fo H' kk' rest' f raws o acc,
        fun σ2 H' ⟨kk', rest', f, raws, o, acc, v4, v5, v6, v7, v8, h1, h2, h3⟩ => ⟨_, h1, kk', rest', f, raws, o, acc, v4, v5, v6, v7, v8, rfl, h2, h3⟩, ?_⟩
      refine q_asg (v := .int p) (ev_op (ev_var rfl) (ev_var rfl) (rv_ixL hS5 (atI_nat (iL_get hp)))) fun H6 e6 => ?_
      refine q_asg (v := iv (kk + 1 + n)) (ev_is (ev_op (x := .int ((kk : Int) + 1)) (y := iv n) (ev_op (ev_var rfl) ev_c rv_I0) (ev_opG1 (ev_var rfl) fun a hs => rv_ixT (hs _) pf.num) rv_I0) rfl) fun H7 e7 => ?_
      have hS7 := ex_l (e6.trans e7) hS5
      have ecut : cutV (iL L) (some ((kk : Int) + 1)) (some ((kk + 1 + n : Nat) : Int)) = iL (r.take n) := cut_iL (k := kk + 1) hr (by omega) hnle
      refine q_asgL (xs := iL (r.take n)) (el_is (el_sl (ev_var rfl) (eo_some (ev_op (ev_var rfl) ev_c rv_I0)) (eo_some (ev_var rfl)) hS7) ecut) fun na H8 nna e8 hna => ?_
      refine q_asgL (xs := []) (el_lst ea_nil (by simp)) fun r0 H9 nr0 e9 hr0 => ?_
      have hS9 := ex_l (e8.trans e9) hS7
      have e59 := ((e6.trans e7).trans e8).trans e9
      have hna9 := e9 _ _ hna
      refine q_whenK (b := lb) (et_is (et_test (ev_opG (ev_var rfl) fun a hs => rv_isT (hs _) rfl rfl)) pf.lst) (fun σ2 H2 => ∃ ra v8, σ2 = [some (.ref ca), some (.ref d), some (.ref fo), some (iv kk), some (.int p), some (iv k2), some (.ref na), some (.ref ra), v8] ∧ Ex H9 H2 ∧ H2 ra = some (.lst (bv bb)))
        (fun hlb H10 e10 N hN => ?_) (fun hlb H10 e10 => ?_) (fun σ2 H10 hM => ?_)
      · obtain ⟨h1, h2⟩ := pf.yes hlb
        subst h1
        have hS10 := ex_l e10 hS9
        have hlen2 := congrArg List.length h2
        have hbl : (bi bb).length = bb.length := by unfold bi; rw [List.length_map]
        simp only [List.length_cons, List.length_append, hbl] at hlen2
        have hm : L[kk + 1]? = some (bb.length : Int) := by
          have := congrArg (fun l : List Int => l[0]?) hr
          rw [h2] at this
          simpa using this
        have hrr : L.drop (kk + 1 + 1) = bi bb ++ t := by
          have := congrArg (fun l : List Int => l.drop 1) hr
          rw [h2] at this
          simpa [Nat.add_comm, Nat.add_left_comm] using this
        have hix : ∀ {σ : L2.St} H', σ[0]? = some (some (.ref ca)) → σ[5]? = some (some (iv (kk + 1))) → Ex H10 H' → Ev (tOp (rIxL K) (tVar 0) (tVar 5)) σ H' (iv bb.length) := fun H' h0 h5 e => ev_op (ev_var h0) (ev_var h5) (rv_ixL (ex_l e hS10) (atI_nat (iL_get hm)))
        have ecut2 : cutV (iL L) (some (((kk + 1 + 0 : Nat) : Int) + 1)) (some (((kk + 1 + 0 : Nat) : Int) + 1 + ((bb.length : Nat) : Int))) = bv bb := by
          have z := cut_iL (L := L) (k := kk + 1 + 1) (n := bb.length) hrr (by omega) (by rw [List.length_append, hbl]; omega)
          rw [← hbl, List.take_left, iL_bi, hbl] at z
          exact z
        refine q_asgL (xs := bv bb) (el_is (el_sl (ev_var rfl) (eo_some (ev_op (ev_var rfl) ev_c rv_I0)) (eo_some (ev_op (ev_op (ev_var rfl) ev_c rv_I0) (hix _ rfl rfl (Ex.refl _)) rv_I0)) hS10) ecut2) fun ra H11 nra e11 hra => ?_
        refine s_asg (v := iv k2) (ev_is (ev_op (ev_op (ev_var rfl) ev_c rv_I0) (hix _ rfl rfl e11) rv_I0) ?_) fun H12 e12 => ?_
        · rw [hk2t.2 hlb]
          rfl
        · exact hN _ _ ⟨ra, _, rfl, (e10.trans e11).trans e12, e12 _ _ hra⟩
      · refine ⟨r0, _, by rw [hk2t.1 hlb]; rfl, e10, ?_⟩
        rw [(pf.no hlb).2]
        exact e10 _ _ hr0
      · obtain ⟨ra, v8', rfl, e10, hra⟩ := hM
        have e4a := (e5.trans e59).trans e10
        have eHa := I.ex.trans e4a
        have hDa := I.desk.mono e4a
        have hAva := I.av.mono I.desk e4a
        obtain ⟨dx', v', hdd, hvv⟩ := id hDa
        have hfoa := e4a _ _ I.fnd
        have nfd : fo ≠ d := fun z => by rw [z, hdd] at hfoa; cases hfoa
        refine ⟨_, rfl, d, dx', _, rfl, hdd, lkD_no (by decide +kernel), _, rfl, _, rfl, _, rfl, d, na, ra, p, o, cl, rfl, hDa, pf.call (sq_of (e10 _ _ hna9)) (sq_of hra), fun q H11 nq eO hq hD11 hAv11 => ?_⟩
        refine go_name ?_
        dsimp only
        have hfo11 : H11 fo = some (.lst (iL acc)) := eO fo _ nfd hfoa
        have eH11 : Ex H H11 := fun c o h => eO c o (ne_of_none h I.nd) (eHa c o h)
        have nqf : q ≠ fo := fun z => by rw [z, hfoa] at nq; cases nq
        have hAvf := hAv11 fo _ hfoa hAva
        refine q_app2 (v := iv (enc (Vahypa.step o cl).2).length) hfo11 (ev_var rfl) (ev_is (ev_len (ev_var rfl) (sq_of hq)) (by rw [iL_len])) (by rw [iL_len]; omega) fun H12 e12 => ?_
        have hfo12 := e12 _ _ hfo11
        have hD12 := (hD11.mono e12).app (hAvf.mono hD11 e12) hfo12 (ys := iL acc ++ [iv (enc (Vahypa.step o cl).2).length])
        generalize hH13 : upd H12 fo (.lst (iL acc ++ [iv (enc (Vahypa.step o cl).2).length])) = H13 at hD12
        have hfo13 : H13 fo = some (.lst (iL acc ++ [iv (enc (Vahypa.step o cl).2).length])) := by rw [← hH13]; exact upd_same
        have hq13 : H13 q = some (.lst (iL (enc (Vahypa.step o cl).2))) := by rw [← hH13, upd_ne nqf]; exact e12 _ _ hq
        have eH13 : Ex H H13 := by rw [← hH13]; exact Ex.mut (eH11.trans e12) I.nf
        clear hH13
        refine q_extV hfo13 hq13 (ev_var rfl) (ev_var rfl) (by rw [List.length_append, iL_len, iL_len]; simp; omega) fun H14 e14 => ?_
        have hD15 := (hD12.1.mono e14).app (hD12.2.mono hD12.1 e14) (e14 _ _ hfo13) (ys := (iL acc ++ [iv (enc (Vahypa.step o cl).2).length]) ++ iL (enc (Vahypa.step o cl).2))
        generalize hH15 : upd H14 fo (.lst ((iL acc ++ [iv (enc (Vahypa.step o cl).2).length]) ++ iL (enc (Vahypa.step o cl).2))) = H15 at hD15
        have hfo15 : H15 fo = some (.lst ((iL acc ++ [iv (enc (Vahypa.step o cl).2).length]) ++ iL (enc (Vahypa.step o cl).2))) := by rw [← hH15]; exact upd_same
        have eH15 : Ex H H15 := by rw [← hH15]; exact Ex.mut (eH13.trans e14) I.nf
        clear hH15
        refine s_asg (v := iv k2) (ev_var rfl) fun H16 e16 => ?_
        have htl : t.length = L.length - k2 := by rw [← hk2l, List.length_drop]
        refine ⟨k2, t, fu, cs, (Vahypa.step o cl).1, (acc ++ [((enc (Vahypa.step o cl).2).length : Int)]) ++ enc (Vahypa.step o cl).2, _, _, _, _, _, (by rw [List.length_cons]; omega), rfl, ⟨eH15.trans e16, I.nd, I.nf, hD15.1.mono e16, hD15.2.mono hD15.1 e16, ?_, hk2l, hk2, ?_, hcs, hin, ?_⟩⟩
        · rw [iL_app, iL_app]
          exact e16 _ _ hfo15
        · have := I.fuel
          rw [List.length_cons] at this
          omega
        · rw [heq, List.append_assoc, List.append_assoc]
          rfl
    · have hkl := of_decide_eq_false hb
      have e0 : rest = [] := by
        have : rest.length = 0 := by omega
        exact List.eq_nil_of_length_eq_zero this
      subst e0
      have hr0 : raws = [] := by
        have h := I.raw
        cases fu with
        | zero =>
          have h : some [] = some raws := h
          exact (Option.some.inj h).symm
        | succ n =>
          have h : some [] = some raws := h
          exact (Option.some.inj h).symm
      subst hr0
      have heq := I.eq
      have e1 : left o [] = [] := rfl
      rw [e1, List.append_nil] at heq
      refine s_ret (v := .ref fo) (ev_var rfl) fun H6 e6 => k fo H6 I.nf (I.ex.trans (e5.trans e6)) ?_
      rw [heq]
      exact (e5.trans e6) _ _ I.fnd
end
end Pw

set_option Elab.async false
set_option linter.all false
set_option maxRecDepth 100000
set_option maxHeartbeats 8000000
namespace Pw
open PySem PySem.Spec PyProof.Rows L2 Evl
open VahypBase (inChunk)
theorem exm_self {K : PySem.W.Frag} {S : Addr} (h1 : PySem.W.subIn K (.ref S) (.type "BaseException") = some true) (h2 : PySem.W.isClsIn K S = true) (h3 : PySem.W.typeIn K (.ref S) = some (.type "type")) (h4 : PySem.W.subIn K (.ref S) (.ref S) = some true) :
    PySem.W.exmOne K (.ref S) (.ref S) = some true := by
  have e1 : (PySem.W.subIn K (.ref S) (.type "BaseException") == some true) = true := by rw [h1] <;> rfl
  have e2 : ((PySem.W.clsIn K S).isSome && PySem.W.typeIn K (.ref S) == some (.type "type")) = true := by
    have h2' : (PySem.W.clsIn K S).isSome = true := h2
    rw [h2', h3] <;> rfl
  show (if (PySem.W.subIn K (.ref S) (.type "BaseException") == some true) = true then (if ((PySem.W.clsIn K S).isSome && PySem.W.typeIn K (.ref S) == some (.type "type")) = true then PySem.W.subIn K (.ref S) (.ref S) else none) else none) = some true
  rw [if_pos e1, if_pos e2]
  exact h4
theorem all_mk {P : Program} {w : World} {K : PySem.W.Frag} {h : Heap} {mg : Str → Option Value} {fa : Addr} (X : K.In h) (G : h.Ns mainGlobals mg) (hfa : mg "answers" = some (.ref fa))
    {t_LETTERS : Tok}
    {t_FIGURES : Tok}
    {t_END_SIGN : Tok}
    {t_MARGINS : Tok}
    {t_WORD : Tok}
    {t_PATTERN : Tok}
    {t_MOST_BYTES : Tok}
    {t_MOST_CHUNK : Tok}
    {t_LINE_END : Tok}
    {t_REMARK : Tok}
    {t_DASH : Tok}
    {t_POINT : Tok}
    {t_SEMICOLON : Tok}
    {t_TOO_LONG : Tok}
    {t_NO_TOKEN : Tok}
    {t_NOT_ALLOWED : Tok}
    {t_TOO_MANY : Tok}
    {t_TAKEN : Tok}
    {t_BAD_CHUNK : Tok}
    {t_MOST_MARGIN : Tok}
    {t_MOST_WORDS : Tok}
    {t_MOST_PATTERNS : Tok}
    {t_MOST_LETTERS : Tok}
    {t_MOST_OF_PATTERN : Tok}
    {t_NO_LIST : Tok}
    {t_NOT_THERE : Tok}
    {t_NO_GAP : Tok}
    {t_NO_LETTERS : Tok}
    {t_LOAD : Tok}
    {t_LEAST_LETTERS : Tok}
    {b_BLANKS : Addr} {d_BLANKS : Option Addr} {i_BLANKS : Array Value} {n_BLANKS : Nat} {z_BLANKS : Array (Option Value)}
    {b_NUMBERS_OF : Addr} {d_NUMBERS_OF : Option Addr} {i_NUMBERS_OF : Array Value} {n_NUMBERS_OF : Nat} {z_NUMBERS_OF : Array (Option Value)}
    {b_LISTED : Addr} {d_LISTED : Option Addr} {i_LISTED : Array Value} {n_LISTED : Nat} {z_LISTED : Array (Option Value)}
    {CF : Addr}
    {CQ : Addr}
    {CL : Addr}
    {CR : Addr}
    {CD : Addr}
    {nm_Fault q_Fault : Str} {N_Fault : Addr} {bs_Fault : List Value} {sn_Fault : List Str} {sub_Fault : List Value} {ab_Fault : Bool} {col_Fault : Option Bool} {dd_Fault : Option Addr} {m0_Fault m1_Fault m2_Fault m3_Fault m5_Fault : Option Value}
    {nm_Refused q_Refused : Str} {N_Refused : Addr} {bs_Refused : List Value} {sn_Refused : List Str} {sub_Refused : List Value} {ab_Refused : Bool} {col_Refused : Option Bool} {dd_Refused : Option Addr} {m0_Refused m1_Refused m2_Refused m3_Refused m5_Refused : Option Value}
    {p_Fault_init : Addr} {od_Fault_init an_Fault_init : Option Addr} {sl_Fault_init : Array (Option Value)} {oc_Fault_init kV_Fault_init dc_Fault_init pm_Fault_init cd_Fault_init ct_Fault_init : Value}
    {p_Refused_init : Addr} {od_Refused_init an_Refused_init : Option Addr} {sl_Refused_init : Array (Option Value)} {oc_Refused_init kV_Refused_init dc_Refused_init pm_Refused_init cd_Refused_init ct_Refused_init : Value}
    {p_sign_of : Addr} {od_sign_of an_sign_of : Option Addr} {sl_sign_of : Array (Option Value)} {oc_sign_of kV_sign_of dc_sign_of pm_sign_of cd_sign_of ct_sign_of : Value}
    {p_end_of_chunk : Addr} {od_end_of_chunk an_end_of_chunk : Option Addr} {sl_end_of_chunk : Array (Option Value)} {oc_end_of_chunk kV_end_of_chunk dc_end_of_chunk pm_end_of_chunk cd_end_of_chunk ct_end_of_chunk : Value}
    {p_end_of_remark : Addr} {od_end_of_remark an_end_of_remark : Option Addr} {sl_end_of_remark : Array (Option Value)} {oc_end_of_remark kV_end_of_remark dc_end_of_remark pm_end_of_remark cd_end_of_remark ct_end_of_remark : Value}
    {p_chunk_at : Addr} {od_chunk_at an_chunk_at : Option Addr} {sl_chunk_at : Array (Option Value)} {oc_chunk_at kV_chunk_at dc_chunk_at pm_chunk_at cd_chunk_at ct_chunk_at : Value}
    {p_bytes_of : Addr} {od_bytes_of an_bytes_of : Option Addr} {sl_bytes_of : Array (Option Value)} {oc_bytes_of kV_bytes_of dc_bytes_of pm_bytes_of cd_bytes_of ct_bytes_of : Value}
    {p_letters_in : Addr} {od_letters_in an_letters_in : Option Addr} {sl_letters_in : Array (Option Value)} {oc_letters_in kV_letters_in dc_letters_in pm_letters_in cd_letters_in ct_letters_in : Value}
    {p_tokens_of : Addr} {od_tokens_of an_tokens_of : Option Addr} {sl_tokens_of : Array (Option Value)} {oc_tokens_of kV_tokens_of dc_tokens_of pm_tokens_of cd_tokens_of ct_tokens_of : Value}
    {p_Listed_init : Addr} {od_Listed_init an_Listed_init : Option Addr} {sl_Listed_init : Array (Option Value)} {oc_Listed_init kV_Listed_init dc_Listed_init pm_Listed_init cd_Listed_init ct_Listed_init : Value}
    {p_Reader_init : Addr} {od_Reader_init an_Reader_init : Option Addr} {sl_Reader_init : Array (Option Value)} {oc_Reader_init kV_Reader_init dc_Reader_init pm_Reader_init cd_Reader_init ct_Reader_init : Value}
    {p_Reader_is_done : Addr} {od_Reader_is_done an_Reader_is_done : Option Addr} {sl_Reader_is_done : Array (Option Value)} {oc_Reader_is_done kV_Reader_is_done dc_Reader_is_done pm_Reader_is_done cd_Reader_is_done ct_Reader_is_done : Value}
    {p_Reader_token : Addr} {od_Reader_token an_Reader_token : Option Addr} {sl_Reader_token : Array (Option Value)} {oc_Reader_token kV_Reader_token dc_Reader_token pm_Reader_token cd_Reader_token ct_Reader_token : Value}
    {p_Reader_is_next : Addr} {od_Reader_is_next an_Reader_is_next : Option Addr} {sl_Reader_is_next : Array (Option Value)} {oc_Reader_is_next kV_Reader_is_next dc_Reader_is_next pm_Reader_is_next cd_Reader_is_next ct_Reader_is_next : Value}
    {p_Reader_take : Addr} {od_Reader_take an_Reader_take : Option Addr} {sl_Reader_take : Array (Option Value)} {oc_Reader_take kV_Reader_take dc_Reader_take pm_Reader_take cd_Reader_take ct_Reader_take : Value}
    {p_Reader_take_chunk : Addr} {od_Reader_take_chunk an_Reader_take_chunk : Option Addr} {sl_Reader_take_chunk : Array (Option Value)} {oc_Reader_take_chunk kV_Reader_take_chunk dc_Reader_take_chunk pm_Reader_take_chunk cd_Reader_take_chunk ct_Reader_take_chunk : Value}
    {p_is_margin : Addr} {od_is_margin an_is_margin : Option Addr} {sl_is_margin : Array (Option Value)} {oc_is_margin kV_is_margin dc_is_margin pm_is_margin cd_is_margin ct_is_margin : Value}
    {p_margin_in : Addr} {od_margin_in an_margin_in : Option Addr} {sl_margin_in : Array (Option Value)} {oc_margin_in kV_margin_in dc_margin_in pm_margin_in cd_margin_in ct_margin_in : Value}
    {p_word_of : Addr} {od_word_of an_word_of : Option Addr} {sl_word_of : Array (Option Value)} {oc_word_of kV_word_of dc_word_of pm_word_of cd_word_of ct_word_of : Value}
    {p_letters_and_digits : Addr} {od_letters_and_digits an_letters_and_digits : Option Addr} {sl_letters_and_digits : Array (Option Value)} {oc_letters_and_digits kV_letters_and_digits dc_letters_and_digits pm_letters_and_digits cd_letters_and_digits ct_letters_and_digits : Value}
    {p_pattern_of : Addr} {od_pattern_of an_pattern_of : Option Addr} {sl_pattern_of : Array (Option Value)} {oc_pattern_of kV_pattern_of dc_pattern_of pm_pattern_of cd_pattern_of ct_pattern_of : Value}
    {p_words_in : Addr} {od_words_in an_words_in : Option Addr} {sl_words_in : Array (Option Value)} {oc_words_in kV_words_in dc_words_in pm_words_in cd_words_in ct_words_in : Value}
    {p_patterns_in : Addr} {od_patterns_in an_patterns_in : Option Addr} {sl_patterns_in : Array (Option Value)} {oc_patterns_in kV_patterns_in dc_patterns_in pm_patterns_in cd_patterns_in ct_patterns_in : Value}
    {p_list_in : Addr} {od_list_in an_list_in : Option Addr} {sl_list_in : Array (Option Value)} {oc_list_in kV_list_in dc_list_in pm_list_in cd_list_in ct_list_in : Value}
    {p_word_text : Addr} {od_word_text an_word_text : Option Addr} {sl_word_text : Array (Option Value)} {oc_word_text kV_word_text dc_word_text pm_word_text cd_word_text ct_word_text : Value}
    {p_pattern_text : Addr} {od_pattern_text an_pattern_text : Option Addr} {sl_pattern_text : Array (Option Value)} {oc_pattern_text kV_pattern_text dc_pattern_text pm_pattern_text cd_pattern_text ct_pattern_text : Value}
    {p_form_text : Addr} {od_form_text an_form_text : Option Addr} {sl_form_text : Array (Option Value)} {oc_form_text kV_form_text dc_form_text pm_form_text cd_form_text ct_form_text : Value}
    {p_fits_at : Addr} {od_fits_at an_fits_at : Option Addr} {sl_fits_at : Array (Option Value)} {oc_fits_at kV_fits_at dc_fits_at pm_fits_at cd_fits_at ct_fits_at : Value}
    {p_places_of : Addr} {od_places_of an_places_of : Option Addr} {sl_places_of : Array (Option Value)} {oc_places_of kV_places_of dc_places_of pm_places_of cd_places_of ct_places_of : Value}
    {p_digit_at : Addr} {od_digit_at an_digit_at : Option Addr} {sl_digit_at : Array (Option Value)} {oc_digit_at kV_digit_at dc_digit_at pm_digit_at cd_digit_at ct_digit_at : Value}
    {p_level_of : Addr} {od_level_of an_level_of : Option Addr} {sl_level_of : Array (Option Value)} {oc_level_of kV_level_of dc_level_of pm_level_of cd_level_of ct_level_of : Value}
    {p_level_at : Addr} {od_level_at an_level_at : Option Addr} {sl_level_at : Array (Option Value)} {oc_level_at kV_level_at dc_level_at pm_level_at cd_level_at ct_level_at : Value}
    {p_inner_gaps : Addr} {od_inner_gaps an_inner_gaps : Option Addr} {sl_inner_gaps : Array (Option Value)} {oc_inner_gaps kV_inner_gaps dc_inner_gaps pm_inner_gaps cd_inner_gaps ct_inner_gaps : Value}
    {p_is_within : Addr} {od_is_within an_is_within : Option Addr} {sl_is_within : Array (Option Value)} {oc_is_within kV_is_within dc_is_within pm_is_within cd_is_within ct_is_within : Value}
    {p_parted_at : Addr} {od_parted_at an_parted_at : Option Addr} {sl_parted_at : Array (Option Value)} {oc_parted_at kV_parted_at dc_parted_at pm_parted_at cd_parted_at ct_parted_at : Value}
    {p_held_against : Addr} {od_held_against an_held_against : Option Addr} {sl_held_against : Array (Option Value)} {oc_held_against kV_held_against dc_held_against pm_held_against cd_held_against ct_held_against : Value}
    {p_scored : Addr} {od_scored an_scored : Option Addr} {sl_scored : Array (Option Value)} {oc_scored kV_scored dc_scored pm_scored cd_scored ct_scored : Value}
    {p_places_with : Addr} {od_places_with an_places_with : Option Addr} {sl_places_with : Array (Option Value)} {oc_places_with kV_places_with dc_places_with pm_places_with cd_places_with ct_places_with : Value}
    {p_decider : Addr} {od_decider an_decider : Option Addr} {sl_decider : Array (Option Value)} {oc_decider kV_decider dc_decider pm_decider cd_decider ct_decider : Value}
    {p_all_fits : Addr} {od_all_fits an_all_fits : Option Addr} {sl_all_fits : Array (Option Value)} {oc_all_fits kV_all_fits dc_all_fits pm_all_fits cd_all_fits ct_all_fits : Value}
    {p_want : Addr} {od_want an_want : Option Addr} {sl_want : Array (Option Value)} {oc_want kV_want dc_want pm_want cd_want ct_want : Value}
    {p_want_letters : Addr} {od_want_letters an_want_letters : Option Addr} {sl_want_letters : Array (Option Value)} {oc_want_letters kV_want_letters dc_want_letters pm_want_letters cd_want_letters ct_want_letters : Value}
    {p_counted : Addr} {od_counted an_counted : Option Addr} {sl_counted : Array (Option Value)} {oc_counted kV_counted dc_counted pm_counted cd_counted ct_counted : Value}
    {p_Desk_init : Addr} {od_Desk_init an_Desk_init : Option Addr} {sl_Desk_init : Array (Option Value)} {oc_Desk_init kV_Desk_init dc_Desk_init pm_Desk_init cd_Desk_init ct_Desk_init : Value}
    {p_Desk_load : Addr} {od_Desk_load an_Desk_load : Option Addr} {sl_Desk_load : Array (Option Value)} {oc_Desk_load kV_Desk_load dc_Desk_load pm_Desk_load cd_Desk_load ct_Desk_load : Value}
    {p_Desk_word : Addr} {od_Desk_word an_Desk_word : Option Addr} {sl_Desk_word : Array (Option Value)} {oc_Desk_word kV_Desk_word dc_Desk_word pm_Desk_word cd_Desk_word ct_Desk_word : Value}
    {p_Desk_levels : Addr} {od_Desk_levels an_Desk_levels : Option Addr} {sl_Desk_levels : Array (Option Value)} {oc_Desk_levels kV_Desk_levels dc_Desk_levels pm_Desk_levels cd_Desk_levels ct_Desk_levels : Value}
    {p_Desk_part : Addr} {od_Desk_part an_Desk_part : Option Addr} {sl_Desk_part : Array (Option Value)} {oc_Desk_part kV_Desk_part dc_Desk_part pm_Desk_part cd_Desk_part ct_Desk_part : Value}
    {p_Desk_why : Addr} {od_Desk_why an_Desk_why : Option Addr} {sl_Desk_why : Array (Option Value)} {oc_Desk_why kV_Desk_why dc_Desk_why pm_Desk_why cd_Desk_why ct_Desk_why : Value}
    {p_Desk_fits : Addr} {od_Desk_fits an_Desk_fits : Option Addr} {sl_Desk_fits : Array (Option Value)} {oc_Desk_fits kV_Desk_fits dc_Desk_fits pm_Desk_fits cd_Desk_fits ct_Desk_fits : Value}
    {p_Desk_spell : Addr} {od_Desk_spell an_Desk_spell : Option Addr} {sl_Desk_spell : Array (Option Value)} {oc_Desk_spell kV_Desk_spell dc_Desk_spell pm_Desk_spell cd_Desk_spell ct_Desk_spell : Value}
    {p_Desk_asked : Addr} {od_Desk_asked an_Desk_asked : Option Addr} {sl_Desk_asked : Array (Option Value)} {oc_Desk_asked kV_Desk_asked dc_Desk_asked pm_Desk_asked cd_Desk_asked ct_Desk_asked : Value}
    {p_Desk_answer : Addr} {od_Desk_answer an_Desk_answer : Option Addr} {sl_Desk_answer : Array (Option Value)} {oc_Desk_answer kV_Desk_answer dc_Desk_answer pm_Desk_answer cd_Desk_answer ct_Desk_answer : Value}
    {p_answers : Addr} {od_answers an_answers : Option Addr} {sl_answers : Array (Option Value)} {oc_answers kV_answers dc_answers pm_answers cd_answers ct_answers : Value}
    (g_LETTERS : PySem.W.nsIn K mainGlobals "LETTERS" = some (some (.str "abcdefghijklmnopqrstuvwxyz" t_LETTERS)))
    (g_FIGURES : PySem.W.nsIn K mainGlobals "FIGURES" = some (some (.str "0123456789" t_FIGURES)))
    (g_END_SIGN : PySem.W.nsIn K mainGlobals "END_SIGN" = some (some (.str ";" t_END_SIGN)))
    (g_MARGINS : PySem.W.nsIn K mainGlobals "MARGINS" = some (some (.str "margins" t_MARGINS)))
    (g_WORD : PySem.W.nsIn K mainGlobals "WORD" = some (some (.str "word" t_WORD)))
    (g_PATTERN : PySem.W.nsIn K mainGlobals "PATTERN" = some (some (.str "pattern" t_PATTERN)))
    (g_MOST_BYTES : PySem.W.nsIn K mainGlobals "MOST_BYTES" = some (some (.int (4096) t_MOST_BYTES)))
    (g_MOST_CHUNK : PySem.W.nsIn K mainGlobals "MOST_CHUNK" = some (some (.int (40) t_MOST_CHUNK)))
    (g_LINE_END : PySem.W.nsIn K mainGlobals "LINE_END" = some (some (.int (10) t_LINE_END)))
    (g_REMARK : PySem.W.nsIn K mainGlobals "REMARK" = some (some (.int (35) t_REMARK)))
    (g_DASH : PySem.W.nsIn K mainGlobals "DASH" = some (some (.int (45) t_DASH)))
    (g_POINT : PySem.W.nsIn K mainGlobals "POINT" = some (some (.int (46) t_POINT)))
    (g_SEMICOLON : PySem.W.nsIn K mainGlobals "SEMICOLON" = some (some (.int (59) t_SEMICOLON)))
    (g_TOO_LONG : PySem.W.nsIn K mainGlobals "TOO_LONG" = some (some (.int (1) t_TOO_LONG)))
    (g_NO_TOKEN : PySem.W.nsIn K mainGlobals "NO_TOKEN" = some (some (.int (2) t_NO_TOKEN)))
    (g_NOT_ALLOWED : PySem.W.nsIn K mainGlobals "NOT_ALLOWED" = some (some (.int (3) t_NOT_ALLOWED)))
    (g_TOO_MANY : PySem.W.nsIn K mainGlobals "TOO_MANY" = some (some (.int (4) t_TOO_MANY)))
    (g_TAKEN : PySem.W.nsIn K mainGlobals "TAKEN" = some (some (.int (5) t_TAKEN)))
    (g_BAD_CHUNK : PySem.W.nsIn K mainGlobals "BAD_CHUNK" = some (some (.int (7) t_BAD_CHUNK)))
    (g_MOST_MARGIN : PySem.W.nsIn K mainGlobals "MOST_MARGIN" = some (some (.int (5) t_MOST_MARGIN)))
    (g_MOST_WORDS : PySem.W.nsIn K mainGlobals "MOST_WORDS" = some (some (.int (24) t_MOST_WORDS)))
    (g_MOST_PATTERNS : PySem.W.nsIn K mainGlobals "MOST_PATTERNS" = some (some (.int (40) t_MOST_PATTERNS)))
    (g_MOST_LETTERS : PySem.W.nsIn K mainGlobals "MOST_LETTERS" = some (some (.int (16) t_MOST_LETTERS)))
    (g_MOST_OF_PATTERN : PySem.W.nsIn K mainGlobals "MOST_OF_PATTERN" = some (some (.int (6) t_MOST_OF_PATTERN)))
    (g_NO_LIST : PySem.W.nsIn K mainGlobals "NO_LIST" = some (some (.int (-1) t_NO_LIST)))
    (g_NOT_THERE : PySem.W.nsIn K mainGlobals "NOT_THERE" = some (some (.int (-2) t_NOT_THERE)))
    (g_NO_GAP : PySem.W.nsIn K mainGlobals "NO_GAP" = some (some (.int (-3) t_NO_GAP)))
    (g_NO_LETTERS : PySem.W.nsIn K mainGlobals "NO_LETTERS" = some (some (.int (-4) t_NO_LETTERS)))
    (g_LOAD : PySem.W.nsIn K mainGlobals "LOAD" = some (some (.int (0) t_LOAD)))
    (g_LEAST_LETTERS : PySem.W.nsIn K mainGlobals "LEAST_LETTERS" = some (some (.int (2) t_LEAST_LETTERS)))
    (g_BLANKS : PySem.W.nsIn K mainGlobals "BLANKS" = some (some (.ref b_BLANKS)))
    (o_BLANKS : K.lookup b_BLANKS = some ⟨.type "tuple", d_BLANKS, .seq i_BLANKS n_BLANKS, z_BLANKS⟩)
    (s_BLANKS : i_BLANKS.size ≤ sizeLine)
    (v_BLANKS : Vals [.int 32, .int 9, .int 10] i_BLANKS.toList)
    (g_NUMBERS_OF : PySem.W.nsIn K mainGlobals "NUMBERS_OF" = some (some (.ref b_NUMBERS_OF)))
    (o_NUMBERS_OF : K.lookup b_NUMBERS_OF = some ⟨.type "tuple", d_NUMBERS_OF, .seq i_NUMBERS_OF n_NUMBERS_OF, z_NUMBERS_OF⟩)
    (s_NUMBERS_OF : i_NUMBERS_OF.size ≤ sizeLine)
    (v_NUMBERS_OF : Vals [.int 0, .int 0, .int 0, .int 1, .int 0, .int 2, .int 1, .int 0] i_NUMBERS_OF.toList)
    (g_LISTED : PySem.W.nsIn K mainGlobals "LISTED" = some (some (.ref b_LISTED)))
    (o_LISTED : K.lookup b_LISTED = some ⟨.type "tuple", d_LISTED, .seq i_LISTED n_LISTED, z_LISTED⟩)
    (s_LISTED : i_LISTED.size ≤ sizeLine)
    (v_LISTED : Vals [.int 0, .int 2, .int 7] i_LISTED.toList)
    (n_len : PySem.W.nsIn K mainGlobals "len" = some none)
    (n_all : PySem.W.nsIn K mainGlobals "all" = some none)
    (n_max : PySem.W.nsIn K mainGlobals "max" = some none)
    (n_str : PySem.W.nsIn K mainGlobals "str" = some none)
    (n_ord : PySem.W.nsIn K mainGlobals "ord" = some none)
    (n_int : PySem.W.nsIn K mainGlobals "int" = some none)
    (n_tuple : PySem.W.nsIn K mainGlobals "tuple" = some none)
    (n_list : PySem.W.nsIn K mainGlobals "list" = some none)
    (n_range : PySem.W.nsIn K mainGlobals "range" = some none)
    (n_enumerate : PySem.W.nsIn K mainGlobals "enumerate" = some none)
    (n_zip : PySem.W.nsIn K mainGlobals "zip" = some none)
    (n_ValueError : PySem.W.nsIn K mainGlobals "ValueError" = some none)
    (vV : PySem.W.findCls K (.type "ValueError") (.type "type") "__init__" = some (.val (.builtin "ValueError.__init__")))
    (a_Fault : PySem.W.nsIn K mainGlobals "Fault" = some (some (.ref CF)))
    (a_Refused : PySem.W.nsIn K mainGlobals "Refused" = some (some (.ref CQ)))
    (a_Listed : PySem.W.nsIn K mainGlobals "Listed" = some (some (.ref CL)))
    (a_Reader : PySem.W.nsIn K mainGlobals "Reader" = some (some (.ref CR)))
    (a_Desk : PySem.W.nsIn K mainGlobals "Desk" = some (some (.ref CD)))
    (xL_Fault : K.lookup CF = some (PySem.excClassObj nm_Fault q_Fault CF N_Fault bs_Fault [.type "ValueError", .type "Exception", .type "BaseException", .type "object"] true sn_Fault sub_Fault ab_Fault col_Fault dd_Fault m0_Fault m1_Fault m2_Fault m3_Fault m5_Fault "ValueError.__new__"))
    (sa_Fault : PySem.W.findIn K (.ref CF) "__setattr__" = some (some (.builtin "object.__setattr__")))
    (ga_Fault : PySem.W.findIn K (.ref CF) "__getattribute__" = some (some (.builtin "BaseException.__getattribute__")))
    (gg_Fault : PySem.W.findIn K (.ref CF) "__getattr__" = some none)
    (xa_code : PySem.W.findIn K (.ref CF) "code" = some none)
    (xa_place : PySem.W.findIn K (.ref CF) "place" = some none)
    (kC_Fault : PySem.W.keepIn K (.ref CF) = true)
    (eC_Fault : PySem.W.subIn K (.ref CF) (.type "BaseException") = some true)
    (tC_Fault : PySem.W.typeIn K (.ref CF) = some (.type "type"))
    (hC_Fault : PySem.W.hasDictIn K CF = true)
    (iC_Fault : PySem.W.isClsIn K CF = true)
    (sC_Fault : PySem.W.subIn K (.ref CF) (.ref CF) = some true)
    (xL_Refused : K.lookup CQ = some (PySem.excClassObj nm_Refused q_Refused CQ N_Refused bs_Refused [.type "ValueError", .type "Exception", .type "BaseException", .type "object"] true sn_Refused sub_Refused ab_Refused col_Refused dd_Refused m0_Refused m1_Refused m2_Refused m3_Refused m5_Refused "ValueError.__new__"))
    (sa_Refused : PySem.W.findIn K (.ref CQ) "__setattr__" = some (some (.builtin "object.__setattr__")))
    (ga_Refused : PySem.W.findIn K (.ref CQ) "__getattribute__" = some (some (.builtin "BaseException.__getattribute__")))
    (gg_Refused : PySem.W.findIn K (.ref CQ) "__getattr__" = some none)
    (xa_number : PySem.W.findIn K (.ref CQ) "number" = some none)
    (kC_Refused : PySem.W.keepIn K (.ref CQ) = true)
    (eC_Refused : PySem.W.subIn K (.ref CQ) (.type "BaseException") = some true)
    (tC_Refused : PySem.W.typeIn K (.ref CQ) = some (.type "type"))
    (hC_Refused : PySem.W.hasDictIn K CQ = true)
    (iC_Refused : PySem.W.isClsIn K CQ = true)
    (sC_Refused : PySem.W.subIn K (.ref CQ) (.ref CQ) = some true)
    (pg_Listed : PySem.W.plainGet K CL Str.empty = true)
    (hd_Listed : PySem.W.hasDictIn K CL = true)
    (po_Listed : PySem.W.plainOver K CL = true)
    (sa_Listed : PySem.W.findIn K (.ref CL) "__setattr__" = some (some (.builtin "object.__setattr__")))
    (mk_Listed : PySem.W.makesIn K CL = true)
    (kc_Listed : PySem.W.keepIn K (.ref CL) = true)
    (no_Listed_left : PySem.W.findIn K (.ref CL) "left" = some none)
    (no_Listed_right : PySem.W.findIn K (.ref CL) "right" = some none)
    (no_Listed_words : PySem.W.findIn K (.ref CL) "words" = some none)
    (no_Listed_patterns : PySem.W.findIn K (.ref CL) "patterns" = some none)
    (pg_Reader : PySem.W.plainGet K CR Str.empty = true)
    (hd_Reader : PySem.W.hasDictIn K CR = true)
    (po_Reader : PySem.W.plainOver K CR = true)
    (sa_Reader : PySem.W.findIn K (.ref CR) "__setattr__" = some (some (.builtin "object.__setattr__")))
    (mk_Reader : PySem.W.makesIn K CR = true)
    (kc_Reader : PySem.W.keepIn K (.ref CR) = true)
    (no_Reader_tokens : PySem.W.findIn K (.ref CR) "tokens" = some none)
    (no_Reader_at : PySem.W.findIn K (.ref CR) "at" = some none)
    (no_Reader_end : PySem.W.findIn K (.ref CR) "end" = some none)
    (pg_Desk : PySem.W.plainGet K CD Str.empty = true)
    (hd_Desk : PySem.W.hasDictIn K CD = true)
    (po_Desk : PySem.W.plainOver K CD = true)
    (sa_Desk : PySem.W.findIn K (.ref CD) "__setattr__" = some (some (.builtin "object.__setattr__")))
    (mk_Desk : PySem.W.makesIn K CD = true)
    (kc_Desk : PySem.W.keepIn K (.ref CD) = true)
    (no_Desk_listed : PySem.W.findIn K (.ref CD) "listed" = some none)
    (a_Fault_init : PySem.W.findIn K (.ref CF) "__init__" = some (some (.ref p_Fault_init)))
    (ty_Fault_init : PySem.W.typeIn K (.ref p_Fault_init) = some (.type "function"))
    (l_Fault_init : K.lookup p_Fault_init = some ⟨oc_Fault_init, od_Fault_init, .func (PySem.W.fnOf "__init__" "Fault.__init__" (defArgs s_Fault_init) (defBody s_Fault_init) (defScope s_Fault_init) .none kV_Fault_init dc_Fault_init pm_Fault_init an_Fault_init cd_Fault_init ct_Fault_init), sl_Fault_init⟩)
    (c_Fault_init_ : PySem.W.codeIn K cd_Fault_init "Fault.__init__" = true)
    (k_Fault_init : PySem.W.keepIn K (.ref p_Fault_init) = true)
    (a_Refused_init : PySem.W.findIn K (.ref CQ) "__init__" = some (some (.ref p_Refused_init)))
    (ty_Refused_init : PySem.W.typeIn K (.ref p_Refused_init) = some (.type "function"))
    (l_Refused_init : K.lookup p_Refused_init = some ⟨oc_Refused_init, od_Refused_init, .func (PySem.W.fnOf "__init__" "Refused.__init__" (defArgs s_Refused_init) (defBody s_Refused_init) (defScope s_Refused_init) .none kV_Refused_init dc_Refused_init pm_Refused_init an_Refused_init cd_Refused_init ct_Refused_init), sl_Refused_init⟩)
    (c_Refused_init_ : PySem.W.codeIn K cd_Refused_init "Refused.__init__" = true)
    (k_Refused_init : PySem.W.keepIn K (.ref p_Refused_init) = true)
    (a_sign_of : PySem.W.nsIn K mainGlobals "sign_of" = some (some (.ref p_sign_of)))
    (l_sign_of : K.lookup p_sign_of = some ⟨oc_sign_of, od_sign_of, .func (PySem.W.fnOf "sign_of" "sign_of" (defArgs s_sign_of) (defBody s_sign_of) (defScope s_sign_of) .none kV_sign_of dc_sign_of pm_sign_of an_sign_of cd_sign_of ct_sign_of), sl_sign_of⟩)
    (c_sign_of_ : PySem.W.codeIn K cd_sign_of "sign_of" = true)
    (k_sign_of : PySem.W.keepIn K (.ref p_sign_of) = true)
    (a_end_of_chunk : PySem.W.nsIn K mainGlobals "end_of_chunk" = some (some (.ref p_end_of_chunk)))
    (l_end_of_chunk : K.lookup p_end_of_chunk = some ⟨oc_end_of_chunk, od_end_of_chunk, .func (PySem.W.fnOf "end_of_chunk" "end_of_chunk" (defArgs s_end_of_chunk) (defBody s_end_of_chunk) (defScope s_end_of_chunk) .none kV_end_of_chunk dc_end_of_chunk pm_end_of_chunk an_end_of_chunk cd_end_of_chunk ct_end_of_chunk), sl_end_of_chunk⟩)
    (c_end_of_chunk_ : PySem.W.codeIn K cd_end_of_chunk "end_of_chunk" = true)
    (k_end_of_chunk : PySem.W.keepIn K (.ref p_end_of_chunk) = true)
    (a_end_of_remark : PySem.W.nsIn K mainGlobals "end_of_remark" = some (some (.ref p_end_of_remark)))
    (l_end_of_remark : K.lookup p_end_of_remark = some ⟨oc_end_of_remark, od_end_of_remark, .func (PySem.W.fnOf "end_of_remark" "end_of_remark" (defArgs s_end_of_remark) (defBody s_end_of_remark) (defScope s_end_of_remark) .none kV_end_of_remark dc_end_of_remark pm_end_of_remark an_end_of_remark cd_end_of_remark ct_end_of_remark), sl_end_of_remark⟩)
    (c_end_of_remark_ : PySem.W.codeIn K cd_end_of_remark "end_of_remark" = true)
    (k_end_of_remark : PySem.W.keepIn K (.ref p_end_of_remark) = true)
    (a_chunk_at : PySem.W.nsIn K mainGlobals "chunk_at" = some (some (.ref p_chunk_at)))
    (l_chunk_at : K.lookup p_chunk_at = some ⟨oc_chunk_at, od_chunk_at, .func (PySem.W.fnOf "chunk_at" "chunk_at" (defArgs s_chunk_at) (defBody s_chunk_at) (defScope s_chunk_at) .none kV_chunk_at dc_chunk_at pm_chunk_at an_chunk_at cd_chunk_at ct_chunk_at), sl_chunk_at⟩)
    (c_chunk_at_ : PySem.W.codeIn K cd_chunk_at "chunk_at" = true)
    (k_chunk_at : PySem.W.keepIn K (.ref p_chunk_at) = true)
    (a_bytes_of : PySem.W.nsIn K mainGlobals "bytes_of" = some (some (.ref p_bytes_of)))
    (l_bytes_of : K.lookup p_bytes_of = some ⟨oc_bytes_of, od_bytes_of, .func (PySem.W.fnOf "bytes_of" "bytes_of" (defArgs s_bytes_of) (defBody s_bytes_of) (defScope s_bytes_of) .none kV_bytes_of dc_bytes_of pm_bytes_of an_bytes_of cd_bytes_of ct_bytes_of), sl_bytes_of⟩)
    (c_bytes_of_ : PySem.W.codeIn K cd_bytes_of "bytes_of" = true)
    (k_bytes_of : PySem.W.keepIn K (.ref p_bytes_of) = true)
    (a_letters_in : PySem.W.nsIn K mainGlobals "letters_in" = some (some (.ref p_letters_in)))
    (l_letters_in : K.lookup p_letters_in = some ⟨oc_letters_in, od_letters_in, .func (PySem.W.fnOf "letters_in" "letters_in" (defArgs s_letters_in) (defBody s_letters_in) (defScope s_letters_in) .none kV_letters_in dc_letters_in pm_letters_in an_letters_in cd_letters_in ct_letters_in), sl_letters_in⟩)
    (c_letters_in_ : PySem.W.codeIn K cd_letters_in "letters_in" = true)
    (k_letters_in : PySem.W.keepIn K (.ref p_letters_in) = true)
    (a_tokens_of : PySem.W.nsIn K mainGlobals "tokens_of" = some (some (.ref p_tokens_of)))
    (l_tokens_of : K.lookup p_tokens_of = some ⟨oc_tokens_of, od_tokens_of, .func (PySem.W.fnOf "tokens_of" "tokens_of" (defArgs s_tokens_of) (defBody s_tokens_of) (defScope s_tokens_of) .none kV_tokens_of dc_tokens_of pm_tokens_of an_tokens_of cd_tokens_of ct_tokens_of), sl_tokens_of⟩)
    (c_tokens_of_ : PySem.W.codeIn K cd_tokens_of "tokens_of" = true)
    (k_tokens_of : PySem.W.keepIn K (.ref p_tokens_of) = true)
    (a_Listed_init : PySem.W.findIn K (.ref CL) "__init__" = some (some (.ref p_Listed_init)))
    (i_Listed_init : PySem.W.isFn K (.ref p_Listed_init) = true)
    (l_Listed_init : K.lookup p_Listed_init = some ⟨oc_Listed_init, od_Listed_init, .func (PySem.W.fnOf "__init__" "Listed.__init__" (defArgs s_Listed_init) (defBody s_Listed_init) (defScope s_Listed_init) .none kV_Listed_init dc_Listed_init pm_Listed_init an_Listed_init cd_Listed_init ct_Listed_init), sl_Listed_init⟩)
    (c_Listed_init_ : PySem.W.codeIn K cd_Listed_init "Listed.__init__" = true)
    (k_Listed_init : PySem.W.keepIn K (.ref p_Listed_init) = true)
    (a_Reader_init : PySem.W.findIn K (.ref CR) "__init__" = some (some (.ref p_Reader_init)))
    (i_Reader_init : PySem.W.isFn K (.ref p_Reader_init) = true)
    (l_Reader_init : K.lookup p_Reader_init = some ⟨oc_Reader_init, od_Reader_init, .func (PySem.W.fnOf "__init__" "Reader.__init__" (defArgs s_Reader_init) (defBody s_Reader_init) (defScope s_Reader_init) .none kV_Reader_init dc_Reader_init pm_Reader_init an_Reader_init cd_Reader_init ct_Reader_init), sl_Reader_init⟩)
    (c_Reader_init_ : PySem.W.codeIn K cd_Reader_init "Reader.__init__" = true)
    (k_Reader_init : PySem.W.keepIn K (.ref p_Reader_init) = true)
    (a_Reader_is_done : PySem.W.findIn K (.ref CR) "is_done" = some (some (.ref p_Reader_is_done)))
    (i_Reader_is_done : PySem.W.isFn K (.ref p_Reader_is_done) = true)
    (l_Reader_is_done : K.lookup p_Reader_is_done = some ⟨oc_Reader_is_done, od_Reader_is_done, .func (PySem.W.fnOf "is_done" "Reader.is_done" (defArgs s_Reader_is_done) (defBody s_Reader_is_done) (defScope s_Reader_is_done) .none kV_Reader_is_done dc_Reader_is_done pm_Reader_is_done an_Reader_is_done cd_Reader_is_done ct_Reader_is_done), sl_Reader_is_done⟩)
    (c_Reader_is_done_ : PySem.W.codeIn K cd_Reader_is_done "Reader.is_done" = true)
    (k_Reader_is_done : PySem.W.keepIn K (.ref p_Reader_is_done) = true)
    (a_Reader_token : PySem.W.findIn K (.ref CR) "token" = some (some (.ref p_Reader_token)))
    (i_Reader_token : PySem.W.isFn K (.ref p_Reader_token) = true)
    (l_Reader_token : K.lookup p_Reader_token = some ⟨oc_Reader_token, od_Reader_token, .func (PySem.W.fnOf "token" "Reader.token" (defArgs s_Reader_token) (defBody s_Reader_token) (defScope s_Reader_token) .none kV_Reader_token dc_Reader_token pm_Reader_token an_Reader_token cd_Reader_token ct_Reader_token), sl_Reader_token⟩)
    (c_Reader_token_ : PySem.W.codeIn K cd_Reader_token "Reader.token" = true)
    (k_Reader_token : PySem.W.keepIn K (.ref p_Reader_token) = true)
    (a_Reader_is_next : PySem.W.findIn K (.ref CR) "is_next" = some (some (.ref p_Reader_is_next)))
    (i_Reader_is_next : PySem.W.isFn K (.ref p_Reader_is_next) = true)
    (l_Reader_is_next : K.lookup p_Reader_is_next = some ⟨oc_Reader_is_next, od_Reader_is_next, .func (PySem.W.fnOf "is_next" "Reader.is_next" (defArgs s_Reader_is_next) (defBody s_Reader_is_next) (defScope s_Reader_is_next) .none kV_Reader_is_next dc_Reader_is_next pm_Reader_is_next an_Reader_is_next cd_Reader_is_next ct_Reader_is_next), sl_Reader_is_next⟩)
    (c_Reader_is_next_ : PySem.W.codeIn K cd_Reader_is_next "Reader.is_next" = true)
    (k_Reader_is_next : PySem.W.keepIn K (.ref p_Reader_is_next) = true)
    (a_Reader_take : PySem.W.findIn K (.ref CR) "take" = some (some (.ref p_Reader_take)))
    (i_Reader_take : PySem.W.isFn K (.ref p_Reader_take) = true)
    (l_Reader_take : K.lookup p_Reader_take = some ⟨oc_Reader_take, od_Reader_take, .func (PySem.W.fnOf "take" "Reader.take" (defArgs s_Reader_take) (defBody s_Reader_take) (defScope s_Reader_take) .none kV_Reader_take dc_Reader_take pm_Reader_take an_Reader_take cd_Reader_take ct_Reader_take), sl_Reader_take⟩)
    (c_Reader_take_ : PySem.W.codeIn K cd_Reader_take "Reader.take" = true)
    (k_Reader_take : PySem.W.keepIn K (.ref p_Reader_take) = true)
    (a_Reader_take_chunk : PySem.W.findIn K (.ref CR) "take_chunk" = some (some (.ref p_Reader_take_chunk)))
    (i_Reader_take_chunk : PySem.W.isFn K (.ref p_Reader_take_chunk) = true)
    (l_Reader_take_chunk : K.lookup p_Reader_take_chunk = some ⟨oc_Reader_take_chunk, od_Reader_take_chunk, .func (PySem.W.fnOf "take_chunk" "Reader.take_chunk" (defArgs s_Reader_take_chunk) (defBody s_Reader_take_chunk) (defScope s_Reader_take_chunk) .none kV_Reader_take_chunk dc_Reader_take_chunk pm_Reader_take_chunk an_Reader_take_chunk cd_Reader_take_chunk ct_Reader_take_chunk), sl_Reader_take_chunk⟩)
    (c_Reader_take_chunk_ : PySem.W.codeIn K cd_Reader_take_chunk "Reader.take_chunk" = true)
    (k_Reader_take_chunk : PySem.W.keepIn K (.ref p_Reader_take_chunk) = true)
    (a_is_margin : PySem.W.nsIn K mainGlobals "is_margin" = some (some (.ref p_is_margin)))
    (l_is_margin : K.lookup p_is_margin = some ⟨oc_is_margin, od_is_margin, .func (PySem.W.fnOf "is_margin" "is_margin" (defArgs s_is_margin) (defBody s_is_margin) (defScope s_is_margin) .none kV_is_margin dc_is_margin pm_is_margin an_is_margin cd_is_margin ct_is_margin), sl_is_margin⟩)
    (c_is_margin_ : PySem.W.codeIn K cd_is_margin "is_margin" = true)
    (k_is_margin : PySem.W.keepIn K (.ref p_is_margin) = true)
    (a_margin_in : PySem.W.nsIn K mainGlobals "margin_in" = some (some (.ref p_margin_in)))
    (l_margin_in : K.lookup p_margin_in = some ⟨oc_margin_in, od_margin_in, .func (PySem.W.fnOf "margin_in" "margin_in" (defArgs s_margin_in) (defBody s_margin_in) (defScope s_margin_in) .none kV_margin_in dc_margin_in pm_margin_in an_margin_in cd_margin_in ct_margin_in), sl_margin_in⟩)
    (c_margin_in_ : PySem.W.codeIn K cd_margin_in "margin_in" = true)
    (k_margin_in : PySem.W.keepIn K (.ref p_margin_in) = true)
    (a_word_of : PySem.W.nsIn K mainGlobals "word_of" = some (some (.ref p_word_of)))
    (l_word_of : K.lookup p_word_of = some ⟨oc_word_of, od_word_of, .func (PySem.W.fnOf "word_of" "word_of" (defArgs s_word_of) (defBody s_word_of) (defScope s_word_of) .none kV_word_of dc_word_of pm_word_of an_word_of cd_word_of ct_word_of), sl_word_of⟩)
    (c_word_of_ : PySem.W.codeIn K cd_word_of "word_of" = true)
    (k_word_of : PySem.W.keepIn K (.ref p_word_of) = true)
    (a_letters_and_digits : PySem.W.nsIn K mainGlobals "letters_and_digits" = some (some (.ref p_letters_and_digits)))
    (l_letters_and_digits : K.lookup p_letters_and_digits = some ⟨oc_letters_and_digits, od_letters_and_digits, .func (PySem.W.fnOf "letters_and_digits" "letters_and_digits" (defArgs s_letters_and_digits) (defBody s_letters_and_digits) (defScope s_letters_and_digits) .none kV_letters_and_digits dc_letters_and_digits pm_letters_and_digits an_letters_and_digits cd_letters_and_digits ct_letters_and_digits), sl_letters_and_digits⟩)
    (c_letters_and_digits_ : PySem.W.codeIn K cd_letters_and_digits "letters_and_digits" = true)
    (k_letters_and_digits : PySem.W.keepIn K (.ref p_letters_and_digits) = true)
    (a_pattern_of : PySem.W.nsIn K mainGlobals "pattern_of" = some (some (.ref p_pattern_of)))
    (l_pattern_of : K.lookup p_pattern_of = some ⟨oc_pattern_of, od_pattern_of, .func (PySem.W.fnOf "pattern_of" "pattern_of" (defArgs s_pattern_of) (defBody s_pattern_of) (defScope s_pattern_of) .none kV_pattern_of dc_pattern_of pm_pattern_of an_pattern_of cd_pattern_of ct_pattern_of), sl_pattern_of⟩)
    (c_pattern_of_ : PySem.W.codeIn K cd_pattern_of "pattern_of" = true)
    (k_pattern_of : PySem.W.keepIn K (.ref p_pattern_of) = true)
    (a_words_in : PySem.W.nsIn K mainGlobals "words_in" = some (some (.ref p_words_in)))
    (l_words_in : K.lookup p_words_in = some ⟨oc_words_in, od_words_in, .func (PySem.W.fnOf "words_in" "words_in" (defArgs s_words_in) (defBody s_words_in) (defScope s_words_in) .none kV_words_in dc_words_in pm_words_in an_words_in cd_words_in ct_words_in), sl_words_in⟩)
    (c_words_in_ : PySem.W.codeIn K cd_words_in "words_in" = true)
    (k_words_in : PySem.W.keepIn K (.ref p_words_in) = true)
    (a_patterns_in : PySem.W.nsIn K mainGlobals "patterns_in" = some (some (.ref p_patterns_in)))
    (l_patterns_in : K.lookup p_patterns_in = some ⟨oc_patterns_in, od_patterns_in, .func (PySem.W.fnOf "patterns_in" "patterns_in" (defArgs s_patterns_in) (defBody s_patterns_in) (defScope s_patterns_in) .none kV_patterns_in dc_patterns_in pm_patterns_in an_patterns_in cd_patterns_in ct_patterns_in), sl_patterns_in⟩)
    (c_patterns_in_ : PySem.W.codeIn K cd_patterns_in "patterns_in" = true)
    (k_patterns_in : PySem.W.keepIn K (.ref p_patterns_in) = true)
    (a_list_in : PySem.W.nsIn K mainGlobals "list_in" = some (some (.ref p_list_in)))
    (l_list_in : K.lookup p_list_in = some ⟨oc_list_in, od_list_in, .func (PySem.W.fnOf "list_in" "list_in" (defArgs s_list_in) (defBody s_list_in) (defScope s_list_in) .none kV_list_in dc_list_in pm_list_in an_list_in cd_list_in ct_list_in), sl_list_in⟩)
    (c_list_in_ : PySem.W.codeIn K cd_list_in "list_in" = true)
    (k_list_in : PySem.W.keepIn K (.ref p_list_in) = true)
    (a_word_text : PySem.W.nsIn K mainGlobals "word_text" = some (some (.ref p_word_text)))
    (l_word_text : K.lookup p_word_text = some ⟨oc_word_text, od_word_text, .func (PySem.W.fnOf "word_text" "word_text" (defArgs s_word_text) (defBody s_word_text) (defScope s_word_text) .none kV_word_text dc_word_text pm_word_text an_word_text cd_word_text ct_word_text), sl_word_text⟩)
    (c_word_text_ : PySem.W.codeIn K cd_word_text "word_text" = true)
    (k_word_text : PySem.W.keepIn K (.ref p_word_text) = true)
    (a_pattern_text : PySem.W.nsIn K mainGlobals "pattern_text" = some (some (.ref p_pattern_text)))
    (l_pattern_text : K.lookup p_pattern_text = some ⟨oc_pattern_text, od_pattern_text, .func (PySem.W.fnOf "pattern_text" "pattern_text" (defArgs s_pattern_text) (defBody s_pattern_text) (defScope s_pattern_text) .none kV_pattern_text dc_pattern_text pm_pattern_text an_pattern_text cd_pattern_text ct_pattern_text), sl_pattern_text⟩)
    (c_pattern_text_ : PySem.W.codeIn K cd_pattern_text "pattern_text" = true)
    (k_pattern_text : PySem.W.keepIn K (.ref p_pattern_text) = true)
    (a_form_text : PySem.W.nsIn K mainGlobals "form_text" = some (some (.ref p_form_text)))
    (l_form_text : K.lookup p_form_text = some ⟨oc_form_text, od_form_text, .func (PySem.W.fnOf "form_text" "form_text" (defArgs s_form_text) (defBody s_form_text) (defScope s_form_text) .none kV_form_text dc_form_text pm_form_text an_form_text cd_form_text ct_form_text), sl_form_text⟩)
    (c_form_text_ : PySem.W.codeIn K cd_form_text "form_text" = true)
    (k_form_text : PySem.W.keepIn K (.ref p_form_text) = true)
    (a_fits_at : PySem.W.nsIn K mainGlobals "fits_at" = some (some (.ref p_fits_at)))
    (l_fits_at : K.lookup p_fits_at = some ⟨oc_fits_at, od_fits_at, .func (PySem.W.fnOf "fits_at" "fits_at" (defArgs s_fits_at) (defBody s_fits_at) (defScope s_fits_at) .none kV_fits_at dc_fits_at pm_fits_at an_fits_at cd_fits_at ct_fits_at), sl_fits_at⟩)
    (c_fits_at_ : PySem.W.codeIn K cd_fits_at "fits_at" = true)
    (k_fits_at : PySem.W.keepIn K (.ref p_fits_at) = true)
    (a_places_of : PySem.W.nsIn K mainGlobals "places_of" = some (some (.ref p_places_of)))
    (l_places_of : K.lookup p_places_of = some ⟨oc_places_of, od_places_of, .func (PySem.W.fnOf "places_of" "places_of" (defArgs s_places_of) (defBody s_places_of) (defScope s_places_of) .none kV_places_of dc_places_of pm_places_of an_places_of cd_places_of ct_places_of), sl_places_of⟩)
    (c_places_of_ : PySem.W.codeIn K cd_places_of "places_of" = true)
    (k_places_of : PySem.W.keepIn K (.ref p_places_of) = true)
    (a_digit_at : PySem.W.nsIn K mainGlobals "digit_at" = some (some (.ref p_digit_at)))
    (l_digit_at : K.lookup p_digit_at = some ⟨oc_digit_at, od_digit_at, .func (PySem.W.fnOf "digit_at" "digit_at" (defArgs s_digit_at) (defBody s_digit_at) (defScope s_digit_at) .none kV_digit_at dc_digit_at pm_digit_at an_digit_at cd_digit_at ct_digit_at), sl_digit_at⟩)
    (c_digit_at_ : PySem.W.codeIn K cd_digit_at "digit_at" = true)
    (k_digit_at : PySem.W.keepIn K (.ref p_digit_at) = true)
    (a_level_of : PySem.W.nsIn K mainGlobals "level_of" = some (some (.ref p_level_of)))
    (l_level_of : K.lookup p_level_of = some ⟨oc_level_of, od_level_of, .func (PySem.W.fnOf "level_of" "level_of" (defArgs s_level_of) (defBody s_level_of) (defScope s_level_of) .none kV_level_of dc_level_of pm_level_of an_level_of cd_level_of ct_level_of), sl_level_of⟩)
    (c_level_of_ : PySem.W.codeIn K cd_level_of "level_of" = true)
    (k_level_of : PySem.W.keepIn K (.ref p_level_of) = true)
    (a_level_at : PySem.W.nsIn K mainGlobals "level_at" = some (some (.ref p_level_at)))
    (l_level_at : K.lookup p_level_at = some ⟨oc_level_at, od_level_at, .func (PySem.W.fnOf "level_at" "level_at" (defArgs s_level_at) (defBody s_level_at) (defScope s_level_at) .none kV_level_at dc_level_at pm_level_at an_level_at cd_level_at ct_level_at), sl_level_at⟩)
    (c_level_at_ : PySem.W.codeIn K cd_level_at "level_at" = true)
    (k_level_at : PySem.W.keepIn K (.ref p_level_at) = true)
    (a_inner_gaps : PySem.W.nsIn K mainGlobals "inner_gaps" = some (some (.ref p_inner_gaps)))
    (l_inner_gaps : K.lookup p_inner_gaps = some ⟨oc_inner_gaps, od_inner_gaps, .func (PySem.W.fnOf "inner_gaps" "inner_gaps" (defArgs s_inner_gaps) (defBody s_inner_gaps) (defScope s_inner_gaps) .none kV_inner_gaps dc_inner_gaps pm_inner_gaps an_inner_gaps cd_inner_gaps ct_inner_gaps), sl_inner_gaps⟩)
    (c_inner_gaps_ : PySem.W.codeIn K cd_inner_gaps "inner_gaps" = true)
    (k_inner_gaps : PySem.W.keepIn K (.ref p_inner_gaps) = true)
    (a_is_within : PySem.W.nsIn K mainGlobals "is_within" = some (some (.ref p_is_within)))
    (l_is_within : K.lookup p_is_within = some ⟨oc_is_within, od_is_within, .func (PySem.W.fnOf "is_within" "is_within" (defArgs s_is_within) (defBody s_is_within) (defScope s_is_within) .none kV_is_within dc_is_within pm_is_within an_is_within cd_is_within ct_is_within), sl_is_within⟩)
    (c_is_within_ : PySem.W.codeIn K cd_is_within "is_within" = true)
    (k_is_within : PySem.W.keepIn K (.ref p_is_within) = true)
    (a_parted_at : PySem.W.nsIn K mainGlobals "parted_at" = some (some (.ref p_parted_at)))
    (l_parted_at : K.lookup p_parted_at = some ⟨oc_parted_at, od_parted_at, .func (PySem.W.fnOf "parted_at" "parted_at" (defArgs s_parted_at) (defBody s_parted_at) (defScope s_parted_at) .none kV_parted_at dc_parted_at pm_parted_at an_parted_at cd_parted_at ct_parted_at), sl_parted_at⟩)
    (c_parted_at_ : PySem.W.codeIn K cd_parted_at "parted_at" = true)
    (k_parted_at : PySem.W.keepIn K (.ref p_parted_at) = true)
    (a_held_against : PySem.W.nsIn K mainGlobals "held_against" = some (some (.ref p_held_against)))
    (l_held_against : K.lookup p_held_against = some ⟨oc_held_against, od_held_against, .func (PySem.W.fnOf "held_against" "held_against" (defArgs s_held_against) (defBody s_held_against) (defScope s_held_against) .none kV_held_against dc_held_against pm_held_against an_held_against cd_held_against ct_held_against), sl_held_against⟩)
    (c_held_against_ : PySem.W.codeIn K cd_held_against "held_against" = true)
    (k_held_against : PySem.W.keepIn K (.ref p_held_against) = true)
    (a_scored : PySem.W.nsIn K mainGlobals "scored" = some (some (.ref p_scored)))
    (l_scored : K.lookup p_scored = some ⟨oc_scored, od_scored, .func (PySem.W.fnOf "scored" "scored" (defArgs s_scored) (defBody s_scored) (defScope s_scored) .none kV_scored dc_scored pm_scored an_scored cd_scored ct_scored), sl_scored⟩)
    (c_scored_ : PySem.W.codeIn K cd_scored "scored" = true)
    (k_scored : PySem.W.keepIn K (.ref p_scored) = true)
    (a_places_with : PySem.W.nsIn K mainGlobals "places_with" = some (some (.ref p_places_with)))
    (l_places_with : K.lookup p_places_with = some ⟨oc_places_with, od_places_with, .func (PySem.W.fnOf "places_with" "places_with" (defArgs s_places_with) (defBody s_places_with) (defScope s_places_with) .none kV_places_with dc_places_with pm_places_with an_places_with cd_places_with ct_places_with), sl_places_with⟩)
    (c_places_with_ : PySem.W.codeIn K cd_places_with "places_with" = true)
    (k_places_with : PySem.W.keepIn K (.ref p_places_with) = true)
    (a_decider : PySem.W.nsIn K mainGlobals "decider" = some (some (.ref p_decider)))
    (l_decider : K.lookup p_decider = some ⟨oc_decider, od_decider, .func (PySem.W.fnOf "decider" "decider" (defArgs s_decider) (defBody s_decider) (defScope s_decider) .none kV_decider dc_decider pm_decider an_decider cd_decider ct_decider), sl_decider⟩)
    (c_decider_ : PySem.W.codeIn K cd_decider "decider" = true)
    (k_decider : PySem.W.keepIn K (.ref p_decider) = true)
    (a_all_fits : PySem.W.nsIn K mainGlobals "all_fits" = some (some (.ref p_all_fits)))
    (l_all_fits : K.lookup p_all_fits = some ⟨oc_all_fits, od_all_fits, .func (PySem.W.fnOf "all_fits" "all_fits" (defArgs s_all_fits) (defBody s_all_fits) (defScope s_all_fits) .none kV_all_fits dc_all_fits pm_all_fits an_all_fits cd_all_fits ct_all_fits), sl_all_fits⟩)
    (c_all_fits_ : PySem.W.codeIn K cd_all_fits "all_fits" = true)
    (k_all_fits : PySem.W.keepIn K (.ref p_all_fits) = true)
    (a_want : PySem.W.nsIn K mainGlobals "want" = some (some (.ref p_want)))
    (l_want : K.lookup p_want = some ⟨oc_want, od_want, .func (PySem.W.fnOf "want" "want" (defArgs s_want) (defBody s_want) (defScope s_want) .none kV_want dc_want pm_want an_want cd_want ct_want), sl_want⟩)
    (c_want_ : PySem.W.codeIn K cd_want "want" = true)
    (k_want : PySem.W.keepIn K (.ref p_want) = true)
    (a_want_letters : PySem.W.nsIn K mainGlobals "want_letters" = some (some (.ref p_want_letters)))
    (l_want_letters : K.lookup p_want_letters = some ⟨oc_want_letters, od_want_letters, .func (PySem.W.fnOf "want_letters" "want_letters" (defArgs s_want_letters) (defBody s_want_letters) (defScope s_want_letters) .none kV_want_letters dc_want_letters pm_want_letters an_want_letters cd_want_letters ct_want_letters), sl_want_letters⟩)
    (c_want_letters_ : PySem.W.codeIn K cd_want_letters "want_letters" = true)
    (k_want_letters : PySem.W.keepIn K (.ref p_want_letters) = true)
    (a_counted : PySem.W.nsIn K mainGlobals "counted" = some (some (.ref p_counted)))
    (l_counted : K.lookup p_counted = some ⟨oc_counted, od_counted, .func (PySem.W.fnOf "counted" "counted" (defArgs s_counted) (defBody s_counted) (defScope s_counted) .none kV_counted dc_counted pm_counted an_counted cd_counted ct_counted), sl_counted⟩)
    (c_counted_ : PySem.W.codeIn K cd_counted "counted" = true)
    (k_counted : PySem.W.keepIn K (.ref p_counted) = true)
    (a_Desk_init : PySem.W.findIn K (.ref CD) "__init__" = some (some (.ref p_Desk_init)))
    (i_Desk_init : PySem.W.isFn K (.ref p_Desk_init) = true)
    (l_Desk_init : K.lookup p_Desk_init = some ⟨oc_Desk_init, od_Desk_init, .func (PySem.W.fnOf "__init__" "Desk.__init__" (defArgs s_Desk_init) (defBody s_Desk_init) (defScope s_Desk_init) .none kV_Desk_init dc_Desk_init pm_Desk_init an_Desk_init cd_Desk_init ct_Desk_init), sl_Desk_init⟩)
    (c_Desk_init_ : PySem.W.codeIn K cd_Desk_init "Desk.__init__" = true)
    (k_Desk_init : PySem.W.keepIn K (.ref p_Desk_init) = true)
    (a_Desk_load : PySem.W.findIn K (.ref CD) "load" = some (some (.ref p_Desk_load)))
    (i_Desk_load : PySem.W.isFn K (.ref p_Desk_load) = true)
    (l_Desk_load : K.lookup p_Desk_load = some ⟨oc_Desk_load, od_Desk_load, .func (PySem.W.fnOf "load" "Desk.load" (defArgs s_Desk_load) (defBody s_Desk_load) (defScope s_Desk_load) .none kV_Desk_load dc_Desk_load pm_Desk_load an_Desk_load cd_Desk_load ct_Desk_load), sl_Desk_load⟩)
    (c_Desk_load_ : PySem.W.codeIn K cd_Desk_load "Desk.load" = true)
    (k_Desk_load : PySem.W.keepIn K (.ref p_Desk_load) = true)
    (a_Desk_word : PySem.W.findIn K (.ref CD) "word" = some (some (.ref p_Desk_word)))
    (i_Desk_word : PySem.W.isFn K (.ref p_Desk_word) = true)
    (l_Desk_word : K.lookup p_Desk_word = some ⟨oc_Desk_word, od_Desk_word, .func (PySem.W.fnOf "word" "Desk.word" (defArgs s_Desk_word) (defBody s_Desk_word) (defScope s_Desk_word) .none kV_Desk_word dc_Desk_word pm_Desk_word an_Desk_word cd_Desk_word ct_Desk_word), sl_Desk_word⟩)
    (c_Desk_word_ : PySem.W.codeIn K cd_Desk_word "Desk.word" = true)
    (k_Desk_word : PySem.W.keepIn K (.ref p_Desk_word) = true)
    (a_Desk_levels : PySem.W.findIn K (.ref CD) "levels" = some (some (.ref p_Desk_levels)))
    (i_Desk_levels : PySem.W.isFn K (.ref p_Desk_levels) = true)
    (l_Desk_levels : K.lookup p_Desk_levels = some ⟨oc_Desk_levels, od_Desk_levels, .func (PySem.W.fnOf "levels" "Desk.levels" (defArgs s_Desk_levels) (defBody s_Desk_levels) (defScope s_Desk_levels) .none kV_Desk_levels dc_Desk_levels pm_Desk_levels an_Desk_levels cd_Desk_levels ct_Desk_levels), sl_Desk_levels⟩)
    (c_Desk_levels_ : PySem.W.codeIn K cd_Desk_levels "Desk.levels" = true)
    (k_Desk_levels : PySem.W.keepIn K (.ref p_Desk_levels) = true)
    (a_Desk_part : PySem.W.findIn K (.ref CD) "part" = some (some (.ref p_Desk_part)))
    (i_Desk_part : PySem.W.isFn K (.ref p_Desk_part) = true)
    (l_Desk_part : K.lookup p_Desk_part = some ⟨oc_Desk_part, od_Desk_part, .func (PySem.W.fnOf "part" "Desk.part" (defArgs s_Desk_part) (defBody s_Desk_part) (defScope s_Desk_part) .none kV_Desk_part dc_Desk_part pm_Desk_part an_Desk_part cd_Desk_part ct_Desk_part), sl_Desk_part⟩)
    (c_Desk_part_ : PySem.W.codeIn K cd_Desk_part "Desk.part" = true)
    (k_Desk_part : PySem.W.keepIn K (.ref p_Desk_part) = true)
    (a_Desk_why : PySem.W.findIn K (.ref CD) "why" = some (some (.ref p_Desk_why)))
    (i_Desk_why : PySem.W.isFn K (.ref p_Desk_why) = true)
    (l_Desk_why : K.lookup p_Desk_why = some ⟨oc_Desk_why, od_Desk_why, .func (PySem.W.fnOf "why" "Desk.why" (defArgs s_Desk_why) (defBody s_Desk_why) (defScope s_Desk_why) .none kV_Desk_why dc_Desk_why pm_Desk_why an_Desk_why cd_Desk_why ct_Desk_why), sl_Desk_why⟩)
    (c_Desk_why_ : PySem.W.codeIn K cd_Desk_why "Desk.why" = true)
    (k_Desk_why : PySem.W.keepIn K (.ref p_Desk_why) = true)
    (a_Desk_fits : PySem.W.findIn K (.ref CD) "fits" = some (some (.ref p_Desk_fits)))
    (i_Desk_fits : PySem.W.isFn K (.ref p_Desk_fits) = true)
    (l_Desk_fits : K.lookup p_Desk_fits = some ⟨oc_Desk_fits, od_Desk_fits, .func (PySem.W.fnOf "fits" "Desk.fits" (defArgs s_Desk_fits) (defBody s_Desk_fits) (defScope s_Desk_fits) .none kV_Desk_fits dc_Desk_fits pm_Desk_fits an_Desk_fits cd_Desk_fits ct_Desk_fits), sl_Desk_fits⟩)
    (c_Desk_fits_ : PySem.W.codeIn K cd_Desk_fits "Desk.fits" = true)
    (k_Desk_fits : PySem.W.keepIn K (.ref p_Desk_fits) = true)
    (a_Desk_spell : PySem.W.findIn K (.ref CD) "spell" = some (some (.ref p_Desk_spell)))
    (i_Desk_spell : PySem.W.isFn K (.ref p_Desk_spell) = true)
    (l_Desk_spell : K.lookup p_Desk_spell = some ⟨oc_Desk_spell, od_Desk_spell, .func (PySem.W.fnOf "spell" "Desk.spell" (defArgs s_Desk_spell) (defBody s_Desk_spell) (defScope s_Desk_spell) .none kV_Desk_spell dc_Desk_spell pm_Desk_spell an_Desk_spell cd_Desk_spell ct_Desk_spell), sl_Desk_spell⟩)
    (c_Desk_spell_ : PySem.W.codeIn K cd_Desk_spell "Desk.spell" = true)
    (k_Desk_spell : PySem.W.keepIn K (.ref p_Desk_spell) = true)
    (a_Desk_asked : PySem.W.findIn K (.ref CD) "asked" = some (some (.ref p_Desk_asked)))
    (i_Desk_asked : PySem.W.isFn K (.ref p_Desk_asked) = true)
    (l_Desk_asked : K.lookup p_Desk_asked = some ⟨oc_Desk_asked, od_Desk_asked, .func (PySem.W.fnOf "asked" "Desk.asked" (defArgs s_Desk_asked) (defBody s_Desk_asked) (defScope s_Desk_asked) .none kV_Desk_asked dc_Desk_asked pm_Desk_asked an_Desk_asked cd_Desk_asked ct_Desk_asked), sl_Desk_asked⟩)
    (c_Desk_asked_ : PySem.W.codeIn K cd_Desk_asked "Desk.asked" = true)
    (k_Desk_asked : PySem.W.keepIn K (.ref p_Desk_asked) = true)
    (a_Desk_answer : PySem.W.findIn K (.ref CD) "answer" = some (some (.ref p_Desk_answer)))
    (i_Desk_answer : PySem.W.isFn K (.ref p_Desk_answer) = true)
    (l_Desk_answer : K.lookup p_Desk_answer = some ⟨oc_Desk_answer, od_Desk_answer, .func (PySem.W.fnOf "answer" "Desk.answer" (defArgs s_Desk_answer) (defBody s_Desk_answer) (defScope s_Desk_answer) .none kV_Desk_answer dc_Desk_answer pm_Desk_answer an_Desk_answer cd_Desk_answer ct_Desk_answer), sl_Desk_answer⟩)
    (c_Desk_answer_ : PySem.W.codeIn K cd_Desk_answer "Desk.answer" = true)
    (k_Desk_answer : PySem.W.keepIn K (.ref p_Desk_answer) = true)
    (a_answers : PySem.W.nsIn K mainGlobals "answers" = some (some (.ref p_answers)))
    (l_answers : K.lookup p_answers = some ⟨oc_answers, od_answers, .func (PySem.W.fnOf "answers" "answers" (defArgs s_answers) (defBody s_answers) (defScope s_answers) .none kV_answers dc_answers pm_answers an_answers cd_answers ct_answers), sl_answers⟩)
    (c_answers_ : PySem.W.codeIn K cd_answers "answers" = true)
    (k_answers : PySem.W.keepIn K (.ref p_answers) = true) :
    ∃ fd : FuncData, (∀ (s : Shared) (us : List Value), us.length = (["calls"] : List Str).length → BindsTo s fd ⟨us, []⟩ ((["calls"] : List Str).zip us)) ∧ ∀ base : Heap, K.In base → base.Ns mainGlobals mg → FnOk P w K mg base CX0 30 fa fd ["calls"] (spTop K) := by
  have e := hfa.symm.trans (PySem.W.mg_of X G a_answers)
  cases e
  have T : Txt K mg ⟨CF, CL, CR, CQ, CD⟩ :=
    { g_LETTERS := ⟨_, PySem.W.mg_of X G g_LETTERS⟩,
      g_FIGURES := ⟨_, PySem.W.mg_of X G g_FIGURES⟩,
      g_END_SIGN := ⟨_, PySem.W.mg_of X G g_END_SIGN⟩,
      g_MARGINS := ⟨_, PySem.W.mg_of X G g_MARGINS⟩,
      g_WORD := ⟨_, PySem.W.mg_of X G g_WORD⟩,
      g_PATTERN := ⟨_, PySem.W.mg_of X G g_PATTERN⟩,
      g_MOST_BYTES := ⟨_, PySem.W.mg_of X G g_MOST_BYTES⟩,
      g_MOST_CHUNK := ⟨_, PySem.W.mg_of X G g_MOST_CHUNK⟩,
      g_LINE_END := ⟨_, PySem.W.mg_of X G g_LINE_END⟩,
      g_REMARK := ⟨_, PySem.W.mg_of X G g_REMARK⟩,
      g_DASH := ⟨_, PySem.W.mg_of X G g_DASH⟩,
      g_POINT := ⟨_, PySem.W.mg_of X G g_POINT⟩,
      g_SEMICOLON := ⟨_, PySem.W.mg_of X G g_SEMICOLON⟩,
      g_TOO_LONG := ⟨_, PySem.W.mg_of X G g_TOO_LONG⟩,
      g_NO_TOKEN := ⟨_, PySem.W.mg_of X G g_NO_TOKEN⟩,
      g_NOT_ALLOWED := ⟨_, PySem.W.mg_of X G g_NOT_ALLOWED⟩,
      g_TOO_MANY := ⟨_, PySem.W.mg_of X G g_TOO_MANY⟩,
      g_TAKEN := ⟨_, PySem.W.mg_of X G g_TAKEN⟩,
      g_BAD_CHUNK := ⟨_, PySem.W.mg_of X G g_BAD_CHUNK⟩,
      g_MOST_MARGIN := ⟨_, PySem.W.mg_of X G g_MOST_MARGIN⟩,
      g_MOST_WORDS := ⟨_, PySem.W.mg_of X G g_MOST_WORDS⟩,
      g_MOST_PATTERNS := ⟨_, PySem.W.mg_of X G g_MOST_PATTERNS⟩,
      g_MOST_LETTERS := ⟨_, PySem.W.mg_of X G g_MOST_LETTERS⟩,
      g_MOST_OF_PATTERN := ⟨_, PySem.W.mg_of X G g_MOST_OF_PATTERN⟩,
      g_NO_LIST := ⟨_, PySem.W.mg_of X G g_NO_LIST⟩,
      g_NOT_THERE := ⟨_, PySem.W.mg_of X G g_NOT_THERE⟩,
      g_NO_GAP := ⟨_, PySem.W.mg_of X G g_NO_GAP⟩,
      g_NO_LETTERS := ⟨_, PySem.W.mg_of X G g_NO_LETTERS⟩,
      g_LOAD := ⟨_, PySem.W.mg_of X G g_LOAD⟩,
      g_LEAST_LETTERS := ⟨_, PySem.W.mg_of X G g_LEAST_LETTERS⟩,
      g_BLANKS := ⟨_, PySem.W.mg_of X G g_BLANKS, fun _ => .inr ⟨_, _, _, o_BLANKS, rfl, rfl, s_BLANKS, v_BLANKS⟩⟩,
      g_NUMBERS_OF := ⟨_, PySem.W.mg_of X G g_NUMBERS_OF, fun _ => .inr ⟨_, _, _, o_NUMBERS_OF, rfl, rfl, s_NUMBERS_OF, v_NUMBERS_OF⟩⟩,
      g_LISTED := ⟨_, PySem.W.mg_of X G g_LISTED, fun _ => .inr ⟨_, _, _, o_LISTED, rfl, rfl, s_LISTED, v_LISTED⟩⟩,
      n_len := PySem.W.mg_none_of X G n_len,
      n_all := PySem.W.mg_none_of X G n_all,
      n_max := PySem.W.mg_none_of X G n_max,
      n_str := PySem.W.mg_none_of X G n_str,
      n_ord := PySem.W.mg_none_of X G n_ord,
      n_int := PySem.W.mg_none_of X G n_int,
      n_tuple := PySem.W.mg_none_of X G n_tuple,
      n_list := PySem.W.mg_none_of X G n_list,
      n_range := PySem.W.mg_none_of X G n_range,
      n_enumerate := PySem.W.mg_none_of X G n_enumerate,
      n_zip := PySem.W.mg_none_of X G n_zip,
      n_ValueError := PySem.W.mg_none_of X G n_ValueError,
      vV := vV,
      xa_code := xa_code,
      xa_place := xa_place,
      gFault := PySem.W.mg_of X G a_Fault,
      oF := ⟨⟨nm_Fault, q_Fault, N_Fault, bs_Fault, _, sn_Fault, sub_Fault, ab_Fault, col_Fault, dd_Fault, m0_Fault, m1_Fault, m2_Fault, m3_Fault, m5_Fault, xL_Fault, by decide +kernel⟩, sa_Fault, eC_Fault, tC_Fault, kC_Fault⟩,
      xf_Fault := ⟨ga_Fault, gg_Fault, eC_Fault, hC_Fault⟩,
      teF := exm_self eC_Fault iC_Fault tC_Fault sC_Fault,
      xa_number := xa_number,
      gRefused := PySem.W.mg_of X G a_Refused,
      oQ := ⟨⟨nm_Refused, q_Refused, N_Refused, bs_Refused, _, sn_Refused, sub_Refused, ab_Refused, col_Refused, dd_Refused, m0_Refused, m1_Refused, m2_Refused, m3_Refused, m5_Refused, xL_Refused, by decide +kernel⟩, sa_Refused, eC_Refused, tC_Refused, kC_Refused⟩,
      xf_Refused := ⟨ga_Refused, gg_Refused, eC_Refused, hC_Refused⟩,
      teQ := exm_self eC_Refused iC_Refused tC_Refused sC_Refused,
      clL := ⟨pg_Listed, hd_Listed, po_Listed, sa_Listed⟩,
      nl := ⟨no_Listed_left, no_Listed_right, no_Listed_words, no_Listed_patterns⟩,
      clR := ⟨pg_Reader, hd_Reader, po_Reader, sa_Reader⟩,
      nr := ⟨no_Reader_tokens, no_Reader_at, no_Reader_end⟩,
      clD := ⟨pg_Desk, hd_Desk, po_Desk, sa_Desk⟩,
      nd := no_Desk_listed }
  refine ⟨PySem.W.fnOf "answers" "answers" (defArgs s_answers) (defBody s_answers) (defScope s_answers) .none kV_answers dc_answers pm_answers an_answers cd_answers ct_answers, fun s us hu => match us, hu with | [_], _ => .of_eq rfl, fun base _ _ => ?_⟩
  generalize hA : (⟨CF, CL, CR, CQ, CD⟩ : Ads) = A at T
  have eF : CF = A.F := by rw [← hA]
  have eL : CL = A.L := by rw [← hA]
  have eR : CR = A.R := by rw [← hA]
  have eQ : CQ = A.Q := by rw [← hA]
  have eD : CD = A.D := by rw [← hA]
  clear hA
  subst eF eL eR eQ eD
  have F_Fault_init := fun_mk (st := s_Fault_init) l_Fault_init c_Fault_init_ k_Fault_init
  have b_Fault_init := F_Fault_init.binds (ps := P_Fault_init) fun _ _ _ _ _ _ us hl => match us, hl with | [_, _, _], _ => rfl
  have x_Fault : Xcl P w K mg base 1 A.F "Fault" P_Fault_init (spFault A) := ⟨_, _, PySem.W.mg_of X G a_Fault, T.oF, a_Fault_init, ty_Fault_init, b_Fault_init, (ok_Fault_init F_Fault_init T)⟩
  have F_Refused_init := fun_mk (st := s_Refused_init) l_Refused_init c_Refused_init_ k_Refused_init
  have b_Refused_init := F_Refused_init.binds (ps := P_Refused_init) fun _ _ _ _ _ _ us hl => match us, hl with | [_, _], _ => rfl
  have x_Refused : Xcl P w K mg base 1 A.Q "Refused" P_Refused_init (spRefused A) := ⟨_, _, PySem.W.mg_of X G a_Refused, T.oQ, a_Refused_init, ty_Refused_init, b_Refused_init, (ok_Refused_init F_Refused_init T)⟩
  have F_sign_of := fun_mk (st := s_sign_of) l_sign_of c_sign_of_ k_sign_of
  have b_sign_of := F_sign_of.binds (ps := P_sign_of) fun _ _ _ _ _ _ us hl => match us, hl with | [_], _ => rfl
  have f_sign_of : Cal P w K mg base CX0 1 "sign_of" P_sign_of spSign := ⟨_, _, PySem.W.mg_of X G a_sign_of, k_sign_of, b_sign_of, (ok_sign_of F_sign_of T)⟩
  have F_end_of_chunk := fun_mk (st := s_end_of_chunk) l_end_of_chunk c_end_of_chunk_ k_end_of_chunk
  have b_end_of_chunk := F_end_of_chunk.binds (ps := P_end_of_chunk) fun _ _ _ _ _ _ us hl => match us, hl with | [_, _], _ => rfl
  have f_end_of_chunk : Cal P w K mg base CX0 2 "end_of_chunk" P_end_of_chunk (spEnd K inChunk) := ⟨_, _, PySem.W.mg_of X G a_end_of_chunk, k_end_of_chunk, b_end_of_chunk, (ok_end_of_chunk F_end_of_chunk T f_sign_of)⟩
  have F_end_of_remark := fun_mk (st := s_end_of_remark) l_end_of_remark c_end_of_remark_ k_end_of_remark
  have b_end_of_remark := F_end_of_remark.binds (ps := P_end_of_remark) fun _ _ _ _ _ _ us hl => match us, hl with | [_, _], _ => rfl
  have f_end_of_remark : Cal P w K mg base CX0 1 "end_of_remark" P_end_of_remark (spEnd K (· != 10)) := ⟨_, _, PySem.W.mg_of X G a_end_of_remark, k_end_of_remark, b_end_of_remark, (ok_end_of_remark F_end_of_remark T)⟩
  have F_chunk_at := fun_mk (st := s_chunk_at) l_chunk_at c_chunk_at_ k_chunk_at
  have b_chunk_at := F_chunk_at.binds (ps := P_chunk_at) fun _ _ _ _ _ _ us hl => match us, hl with | [_, _, _], _ => rfl
  have f_chunk_at : Cal P w K mg base (L2.CX P w) 3 "chunk_at" P_chunk_at (spChunk K A) := ⟨_, _, PySem.W.mg_of X G a_chunk_at, k_chunk_at, b_chunk_at, (ok_chunk_at F_chunk_at T f_sign_of x_Fault)⟩
  have F_bytes_of := fun_mk (st := s_bytes_of) l_bytes_of c_bytes_of_ k_bytes_of
  have b_bytes_of := F_bytes_of.binds (ps := P_bytes_of) fun _ _ _ _ _ _ us hl => match us, hl with | [_], _ => rfl
  have f_bytes_of : Cal P w K mg base CX0 1 "bytes_of" P_bytes_of spBytes := ⟨_, _, PySem.W.mg_of X G a_bytes_of, k_bytes_of, b_bytes_of, (ok_bytes_of F_bytes_of T)⟩
  have F_letters_in := fun_mk (st := s_letters_in) l_letters_in c_letters_in_ k_letters_in
  have b_letters_in := F_letters_in.binds (ps := P_letters_in) fun _ _ _ _ _ _ us hl => match us, hl with | [_], _ => rfl
  have f_letters_in : Cal P w K mg base CX0 1 "letters_in" P_letters_in (spLetters K) := ⟨_, _, PySem.W.mg_of X G a_letters_in, k_letters_in, b_letters_in, (ok_letters_in F_letters_in T)⟩
  have F_tokens_of := fun_mk (st := s_tokens_of) l_tokens_of c_tokens_of_ k_tokens_of
  have b_tokens_of := F_tokens_of.binds (ps := P_tokens_of) fun _ _ _ _ _ _ us hl => match us, hl with | [_], _ => rfl
  have f_tokens_of : Cal P w K mg base (L2.CX P w) 4 "tokens_of" P_tokens_of (spToks K A) := ⟨_, _, PySem.W.mg_of X G a_tokens_of, k_tokens_of, b_tokens_of, (ok_tokens_of F_tokens_of T x_Fault f_end_of_chunk f_end_of_remark f_chunk_at)⟩
  have F_Listed_init := fun_mk (st := s_Listed_init) l_Listed_init c_Listed_init_ k_Listed_init
  have b_Listed_init := F_Listed_init.binds (ps := P_Listed_init) fun _ _ _ _ _ _ us hl => match us, hl with | [_, _, _, _, _], _ => rfl
  have c_Listed : Mkr P w K mg base CX0 1 A.L "Listed" P_Listed_init (spListed A) := ⟨_, _, PySem.W.mg_of X G a_Listed, ⟨mk_Listed, a_Listed_init, i_Listed_init, kc_Listed⟩, b_Listed_init, (ok_Listed_init F_Listed_init T)⟩
  have F_Reader_init := fun_mk (st := s_Reader_init) l_Reader_init c_Reader_init_ k_Reader_init
  have b_Reader_init := F_Reader_init.binds (ps := P_Reader_init) fun _ _ _ _ _ _ us hl => match us, hl with | [_, _], _ => rfl
  have c_Reader : Mkr P w K mg base (L2.CX P w) 5 A.R "Reader" P_Reader_init (spRdr K A) := ⟨_, _, PySem.W.mg_of X G a_Reader, ⟨mk_Reader, a_Reader_init, i_Reader_init, kc_Reader⟩, b_Reader_init, (ok_Reader_init F_Reader_init T f_tokens_of)⟩
  have F_Reader_is_done := fun_mk (st := s_Reader_is_done) l_Reader_is_done c_Reader_is_done_ k_Reader_is_done
  have b_Reader_is_done := F_Reader_is_done.binds (ps := P_Reader_is_done) fun _ _ _ _ _ _ us hl => match us, hl with | [_], _ => rfl
  have m_Reader_is_done : Met P w K mg base CX0 1 A.R "is_done" P_Reader_is_done (spDone A) := ⟨_, _, T.clR, ⟨a_Reader_is_done, i_Reader_is_done, k_Reader_is_done⟩, b_Reader_is_done, (ok_Reader_is_done F_Reader_is_done T)⟩
  have F_Reader_token := fun_mk (st := s_Reader_token) l_Reader_token c_Reader_token_ k_Reader_token
  have b_Reader_token := F_Reader_token.binds (ps := P_Reader_token) fun _ _ _ _ _ _ us hl => match us, hl with | [_], _ => rfl
  have m_Reader_token : Met P w K mg base CX0 2 A.R "token" P_Reader_token (spTok A) := ⟨_, _, T.clR, ⟨a_Reader_token, i_Reader_token, k_Reader_token⟩, b_Reader_token, (ok_Reader_token F_Reader_token T m_Reader_is_done)⟩
  have F_Reader_is_next := fun_mk (st := s_Reader_is_next) l_Reader_is_next c_Reader_is_next_ k_Reader_is_next
  have b_Reader_is_next := F_Reader_is_next.binds (ps := P_Reader_is_next) fun _ _ _ _ _ _ us hl => match us, hl with | [_, _], _ => rfl
  have m_Reader_is_next : Met P w K mg base CX0 3 A.R "is_next" P_Reader_is_next (spNext A) := ⟨_, _, T.clR, ⟨a_Reader_is_next, i_Reader_is_next, k_Reader_is_next⟩, b_Reader_is_next, (ok_Reader_is_next F_Reader_is_next T m_Reader_token)⟩
  have F_Reader_take := fun_mk (st := s_Reader_take) l_Reader_take c_Reader_take_ k_Reader_take
  have b_Reader_take := F_Reader_take.binds (ps := P_Reader_take) fun _ _ _ _ _ _ us hl => match us, hl with | [_, _], _ => rfl
  have m_Reader_take : Met P w K mg base (L2.CX P w) 4 A.R "take" P_Reader_take (spTake A) := ⟨_, _, T.clR, ⟨a_Reader_take, i_Reader_take, k_Reader_take⟩, b_Reader_take, (ok_Reader_take F_Reader_take T m_Reader_token m_Reader_is_next x_Fault)⟩
  have F_Reader_take_chunk := fun_mk (st := s_Reader_take_chunk) l_Reader_take_chunk c_Reader_take_chunk_ k_Reader_take_chunk
  have b_Reader_take_chunk := F_Reader_take_chunk.binds (ps := P_Reader_take_chunk) fun _ _ _ _ _ _ us hl => match us, hl with | [_], _ => rfl
  have m_Reader_take_chunk : Met P w K mg base (L2.CX P w) 3 A.R "take_chunk" P_Reader_take_chunk (spTakeC A) := ⟨_, _, T.clR, ⟨a_Reader_take_chunk, i_Reader_take_chunk, k_Reader_take_chunk⟩, b_Reader_take_chunk, (ok_Reader_take_chunk F_Reader_take_chunk T m_Reader_token x_Fault)⟩
  have F_is_margin := fun_mk (st := s_is_margin) l_is_margin c_is_margin_ k_is_margin
  have b_is_margin := F_is_margin.binds (ps := P_is_margin) fun _ _ _ _ _ _ us hl => match us, hl with | [_], _ => rfl
  have f_is_margin : Cal P w K mg base CX0 1 "is_margin" P_is_margin spMargB := ⟨_, _, PySem.W.mg_of X G a_is_margin, k_is_margin, b_is_margin, (ok_is_margin F_is_margin T)⟩
  have F_margin_in := fun_mk (st := s_margin_in) l_margin_in c_margin_in_ k_margin_in
  have b_margin_in := F_margin_in.binds (ps := P_margin_in) fun _ _ _ _ _ _ us hl => match us, hl with | [_], _ => rfl
  have f_margin_in : Cal P w K mg base (L2.CX P w) 4 "margin_in" P_margin_in (spMargin A) := ⟨_, _, PySem.W.mg_of X G a_margin_in, k_margin_in, b_margin_in, (ok_margin_in F_margin_in T f_is_margin m_Reader_take_chunk x_Fault)⟩
  have F_word_of := fun_mk (st := s_word_of) l_word_of c_word_of_ k_word_of
  have b_word_of := F_word_of.binds (ps := P_word_of) fun _ _ _ _ _ _ us hl => match us, hl with | [_], _ => rfl
  have f_word_of : Cal P w K mg base CX0 1 "word_of" P_word_of spWordOf := ⟨_, _, PySem.W.mg_of X G a_word_of, k_word_of, b_word_of, (ok_word_of F_word_of T)⟩
  have F_letters_and_digits := fun_mk (st := s_letters_and_digits) l_letters_and_digits c_letters_and_digits_ k_letters_and_digits
  have b_letters_and_digits := F_letters_and_digits.binds (ps := P_letters_and_digits) fun _ _ _ _ _ _ us hl => match us, hl with | [_], _ => rfl
  have f_letters_and_digits : Cal P w K mg base CX0 1 "letters_and_digits" P_letters_and_digits spLd := ⟨_, _, PySem.W.mg_of X G a_letters_and_digits, k_letters_and_digits, b_letters_and_digits, (ok_letters_and_digits F_letters_and_digits T)⟩
  have F_pattern_of := fun_mk (st := s_pattern_of) l_pattern_of c_pattern_of_ k_pattern_of
  have b_pattern_of := F_pattern_of.binds (ps := P_pattern_of) fun _ _ _ _ _ _ us hl => match us, hl with | [_], _ => rfl
  have f_pattern_of : Cal P w K mg base CX0 2 "pattern_of" P_pattern_of spPatOf := ⟨_, _, PySem.W.mg_of X G a_pattern_of, k_pattern_of, b_pattern_of, (ok_pattern_of F_pattern_of T f_letters_and_digits)⟩
  have F_words_in := fun_mk (st := s_words_in) l_words_in c_words_in_ k_words_in
  have b_words_in := F_words_in.binds (ps := P_words_in) fun _ _ _ _ _ _ us hl => match us, hl with | [_], _ => rfl
  have f_words_in : Cal P w K mg base (L2.CX P w) 5 "words_in" P_words_in (spWords A) := ⟨_, _, PySem.W.mg_of X G a_words_in, k_words_in, b_words_in, (ok_words_in F_words_in T m_Reader_is_next m_Reader_take m_Reader_take_chunk f_word_of x_Fault)⟩
  have F_patterns_in := fun_mk (st := s_patterns_in) l_patterns_in c_patterns_in_ k_patterns_in
  have b_patterns_in := F_patterns_in.binds (ps := P_patterns_in) fun _ _ _ _ _ _ us hl => match us, hl with | [_], _ => rfl
  have f_patterns_in : Cal P w K mg base (L2.CX P w) 5 "patterns_in" P_patterns_in (spPats A) := ⟨_, _, PySem.W.mg_of X G a_patterns_in, k_patterns_in, b_patterns_in, (ok_patterns_in F_patterns_in T m_Reader_is_done m_Reader_take m_Reader_take_chunk f_pattern_of x_Fault)⟩
  have F_list_in := fun_mk (st := s_list_in) l_list_in c_list_in_ k_list_in
  have b_list_in := F_list_in.binds (ps := P_list_in) fun _ _ _ _ _ _ us hl => match us, hl with | [_], _ => rfl
  have f_list_in : Cal P w K mg base (L2.CX P w) 7 "list_in" P_list_in (spList K A) := ⟨_, _, PySem.W.mg_of X G a_list_in, k_list_in, b_list_in, (ok_list_in F_list_in T c_Reader m_Reader_take f_margin_in f_words_in f_patterns_in c_Listed x_Fault)⟩
  have F_word_text := fun_mk (st := s_word_text) l_word_text c_word_text_ k_word_text
  have b_word_text := F_word_text.binds (ps := P_word_text) fun _ _ _ _ _ _ us hl => match us, hl with | [_, _], _ => rfl
  have f_word_text : Cal P w K mg base CX0 1 "word_text" P_word_text (spWText K) := ⟨_, _, PySem.W.mg_of X G a_word_text, k_word_text, b_word_text, (ok_word_text F_word_text T)⟩
  have F_pattern_text := fun_mk (st := s_pattern_text) l_pattern_text c_pattern_text_ k_pattern_text
  have b_pattern_text := F_pattern_text.binds (ps := P_pattern_text) fun _ _ _ _ _ _ us hl => match us, hl with | [_], _ => rfl
  have f_pattern_text : Cal P w K mg base CX0 1 "pattern_text" P_pattern_text (spPText K) := ⟨_, _, PySem.W.mg_of X G a_pattern_text, k_pattern_text, b_pattern_text, (ok_pattern_text F_pattern_text T)⟩
  have F_form_text := fun_mk (st := s_form_text) l_form_text c_form_text_ k_form_text
  have b_form_text := F_form_text.binds (ps := P_form_text) fun _ _ _ _ _ _ us hl => match us, hl with | [_], _ => rfl
  have f_form_text : Cal P w K mg base CX0 2 "form_text" P_form_text (spForm A) := ⟨_, _, PySem.W.mg_of X G a_form_text, k_form_text, b_form_text, (ok_form_text F_form_text T f_word_text f_pattern_text)⟩
  have F_fits_at := fun_mk (st := s_fits_at) l_fits_at c_fits_at_ k_fits_at
  have b_fits_at := F_fits_at.binds (ps := P_fits_at) fun _ _ _ _ _ _ us hl => match us, hl with | [_, _, _], _ => rfl
  have f_fits_at : Cal P w K mg base CX0 1 "fits_at" P_fits_at (spV rFits) := ⟨_, _, PySem.W.mg_of X G a_fits_at, k_fits_at, b_fits_at, (ok_fits_at F_fits_at T)⟩
  have F_places_of := fun_mk (st := s_places_of) l_places_of c_places_of_ k_places_of
  have b_places_of := F_places_of.binds (ps := P_places_of) fun _ _ _ _ _ _ us hl => match us, hl with | [_, _], _ => rfl
  have f_places_of : Cal P w K mg base CX0 2 "places_of" P_places_of (spL rPlaces) := ⟨_, _, PySem.W.mg_of X G a_places_of, k_places_of, b_places_of, (ok_places_of F_places_of T f_fits_at)⟩
  have F_digit_at := fun_mk (st := s_digit_at) l_digit_at c_digit_at_ k_digit_at
  have b_digit_at := F_digit_at.binds (ps := P_digit_at) fun _ _ _ _ _ _ us hl => match us, hl with | [_, _, _], _ => rfl
  have f_digit_at : Cal P w K mg base CX0 1 "digit_at" P_digit_at (spV rDig) := ⟨_, _, PySem.W.mg_of X G a_digit_at, k_digit_at, b_digit_at, (ok_digit_at F_digit_at T)⟩
  have F_level_of := fun_mk (st := s_level_of) l_level_of c_level_of_ k_level_of
  have b_level_of := F_level_of.binds (ps := P_level_of) fun _ _ _ _ _ _ us hl => match us, hl with | [_, _, _], _ => rfl
  have f_level_of : Cal P w K mg base CX0 3 "level_of" P_level_of (spV rLvOf) := ⟨_, _, PySem.W.mg_of X G a_level_of, k_level_of, b_level_of, (ok_level_of F_level_of T f_places_of f_digit_at)⟩
  have F_level_at := fun_mk (st := s_level_at) l_level_at c_level_at_ k_level_at
  have b_level_at := F_level_at.binds (ps := P_level_at) fun _ _ _ _ _ _ us hl => match us, hl with | [_, _, _], _ => rfl
  have f_level_at : Cal P w K mg base CX0 4 "level_at" P_level_at (spV (rLvAt A)) := ⟨_, _, PySem.W.mg_of X G a_level_at, k_level_at, b_level_at, (ok_level_at F_level_at T f_level_of)⟩
  have F_inner_gaps := fun_mk (st := s_inner_gaps) l_inner_gaps c_inner_gaps_ k_inner_gaps
  have b_inner_gaps := F_inner_gaps.binds (ps := P_inner_gaps) fun _ _ _ _ _ _ us hl => match us, hl with | [_], _ => rfl
  have f_inner_gaps : Cal P w K mg base CX0 1 "inner_gaps" P_inner_gaps (spL rGaps) := ⟨_, _, PySem.W.mg_of X G a_inner_gaps, k_inner_gaps, b_inner_gaps, (ok_inner_gaps F_inner_gaps T)⟩
  have F_is_within := fun_mk (st := s_is_within) l_is_within c_is_within_ k_is_within
  have b_is_within := F_is_within.binds (ps := P_is_within) fun _ _ _ _ _ _ us hl => match us, hl with | [_, _, _], _ => rfl
  have f_is_within : Cal P w K mg base CX0 1 "is_within" P_is_within (spV (rWith A)) := ⟨_, _, PySem.W.mg_of X G a_is_within, k_is_within, b_is_within, (ok_is_within F_is_within T)⟩
  have F_parted_at := fun_mk (st := s_parted_at) l_parted_at c_parted_at_ k_parted_at
  have b_parted_at := F_parted_at.binds (ps := P_parted_at) fun _ _ _ _ _ _ us hl => match us, hl with | [_, _], _ => rfl
  have f_parted_at : Cal P w K mg base CX0 5 "parted_at" P_parted_at (spL (rParts A)) := ⟨_, _, PySem.W.mg_of X G a_parted_at, k_parted_at, b_parted_at, (ok_parted_at F_parted_at T f_inner_gaps f_is_within f_level_at)⟩
  have F_held_against := fun_mk (st := s_held_against) l_held_against c_held_against_ k_held_against
  have b_held_against := F_held_against.binds (ps := P_held_against) fun _ _ _ _ _ _ us hl => match us, hl with | [_, _], _ => rfl
  have f_held_against : Cal P w K mg base CX0 6 "held_against" P_held_against (spL (rHeld A)) := ⟨_, _, PySem.W.mg_of X G a_held_against, k_held_against, b_held_against, (ok_held_against F_held_against T f_parted_at f_is_within)⟩
  have F_scored := fun_mk (st := s_scored) l_scored c_scored_ k_scored
  have b_scored := F_scored.binds (ps := P_scored) fun _ _ _ _ _ _ us hl => match us, hl with | [_], _ => rfl
  have f_scored : Cal P w K mg base CX0 7 "scored" P_scored (spL (rScored A)) := ⟨_, _, PySem.W.mg_of X G a_scored, k_scored, b_scored, (ok_scored F_scored T f_held_against)⟩
  have F_places_with := fun_mk (st := s_places_with) l_places_with c_places_with_ k_places_with
  have b_places_with := F_places_with.binds (ps := P_places_with) fun _ _ _ _ _ _ us hl => match us, hl with | [_, _, _, _], _ => rfl
  have f_places_with : Cal P w K mg base CX0 3 "places_with" P_places_with (spL rPW) := ⟨_, _, PySem.W.mg_of X G a_places_with, k_places_with, b_places_with, (ok_places_with F_places_with T f_places_of f_digit_at)⟩
  have F_decider := fun_mk (st := s_decider) l_decider c_decider_ k_decider
  have b_decider := F_decider.binds (ps := P_decider) fun _ _ _ _ _ _ us hl => match us, hl with | [_, _, _], _ => rfl
  have f_decider : Cal P w K mg base CX0 5 "decider" P_decider (spL (rDec A)) := ⟨_, _, PySem.W.mg_of X G a_decider, k_decider, b_decider, (ok_decider F_decider T f_level_at f_places_with)⟩
  have F_all_fits := fun_mk (st := s_all_fits) l_all_fits c_all_fits_ k_all_fits
  have b_all_fits := F_all_fits.binds (ps := P_all_fits) fun _ _ _ _ _ _ us hl => match us, hl with | [_, _], _ => rfl
  have f_all_fits : Cal P w K mg base CX0 3 "all_fits" P_all_fits (spL (rAllF A)) := ⟨_, _, PySem.W.mg_of X G a_all_fits, k_all_fits, b_all_fits, (ok_all_fits F_all_fits T f_places_of)⟩
  have F_want := fun_mk (st := s_want) l_want c_want_ k_want
  have b_want := F_want.binds (ps := P_want) fun _ _ _ _ _ _ us hl => match us, hl with | [_, _], _ => rfl
  have f_want : Cal P w K mg base (L2.CX P w) 3 "want" P_want (spWant A) := ⟨_, _, PySem.W.mg_of X G a_want, k_want, b_want, (ok_want F_want T x_Refused)⟩
  have F_want_letters := fun_mk (st := s_want_letters) l_want_letters c_want_letters_ k_want_letters
  have b_want_letters := F_want_letters.binds (ps := P_want_letters) fun _ _ _ _ _ _ us hl => match us, hl with | [_], _ => rfl
  have f_want_letters : Cal P w K mg base (L2.CX P w) 4 "want_letters" P_want_letters (spWantL K A) := ⟨_, _, PySem.W.mg_of X G a_want_letters, k_want_letters, b_want_letters, (ok_want_letters F_want_letters T f_want f_letters_in)⟩
  have F_counted := fun_mk (st := s_counted) l_counted c_counted_ k_counted
  have b_counted := F_counted.binds (ps := P_counted) fun _ _ _ _ _ _ us hl => match us, hl with | [_], _ => rfl
  have f_counted : Cal P w K mg base CX0 1 "counted" P_counted (spL rCnt) := ⟨_, _, PySem.W.mg_of X G a_counted, k_counted, b_counted, (ok_counted F_counted T)⟩
  have F_Desk_init := fun_mk (st := s_Desk_init) l_Desk_init c_Desk_init_ k_Desk_init
  have b_Desk_init := F_Desk_init.binds (ps := P_Desk_init) fun _ _ _ _ _ _ us hl => match us, hl with | [_], _ => rfl
  have c_Desk : Mkr P w K mg base CX0 1 A.D "Desk" P_Desk_init (spDeskI A) := ⟨_, _, PySem.W.mg_of X G a_Desk, ⟨mk_Desk, a_Desk_init, i_Desk_init, kc_Desk⟩, b_Desk_init, (ok_Desk_init F_Desk_init T)⟩
  have F_Desk_load := fun_mk (st := s_Desk_load) l_Desk_load c_Desk_load_ k_Desk_load
  have b_Desk_load := F_Desk_load.binds (ps := P_Desk_load) fun _ _ _ _ _ _ us hl => match us, hl with | [_, _], _ => rfl
  have m_Desk_load : Met P w K mg base CX0 8 A.D "load" P_Desk_load (spLoad K A) := ⟨_, _, T.clD, ⟨a_Desk_load, i_Desk_load, k_Desk_load⟩, b_Desk_load, (ok_Desk_load F_Desk_load T f_list_in)⟩
  have F_Desk_word := fun_mk (st := s_Desk_word) l_Desk_word c_Desk_word_ k_Desk_word
  have b_Desk_word := F_Desk_word.binds (ps := P_Desk_word) fun _ _ _ _ _ _ us hl => match us, hl with | [_, _], _ => rfl
  have m_Desk_word : Met P w K mg base (L2.CX P w) 4 A.D "word" P_Desk_word (spWordM A) := ⟨_, _, T.clD, ⟨a_Desk_word, i_Desk_word, k_Desk_word⟩, b_Desk_word, (ok_Desk_word F_Desk_word T f_want)⟩
  have F_Desk_levels := fun_mk (st := s_Desk_levels) l_Desk_levels c_Desk_levels_ k_Desk_levels
  have b_Desk_levels := F_Desk_levels.binds (ps := P_Desk_levels) fun _ _ _ _ _ _ us hl => match us, hl with | [_, _], _ => rfl
  have m_Desk_levels : Met P w K mg base (L2.CX P w) 6 A.D "levels" P_Desk_levels (spLevels K A) := ⟨_, _, T.clD, ⟨a_Desk_levels, i_Desk_levels, k_Desk_levels⟩, b_Desk_levels, (ok_Desk_levels F_Desk_levels T f_want_letters f_counted f_inner_gaps f_level_at f_parted_at)⟩
  have F_Desk_part := fun_mk (st := s_Desk_part) l_Desk_part c_Desk_part_ k_Desk_part
  have b_Desk_part := F_Desk_part.binds (ps := P_Desk_part) fun _ _ _ _ _ _ us hl => match us, hl with | [_, _], _ => rfl
  have m_Desk_part : Met P w K mg base (L2.CX P w) 7 A.D "part" P_Desk_part (spPart A) := ⟨_, _, T.clD, ⟨a_Desk_part, i_Desk_part, k_Desk_part⟩, b_Desk_part, (ok_Desk_part F_Desk_part T m_Desk_word f_counted f_parted_at f_held_against)⟩
  have F_Desk_why := fun_mk (st := s_Desk_why) l_Desk_why c_Desk_why_ k_Desk_why
  have b_Desk_why := F_Desk_why.binds (ps := P_Desk_why) fun _ _ _ _ _ _ us hl => match us, hl with | [_, _, _], _ => rfl
  have m_Desk_why : Met P w K mg base (L2.CX P w) 6 A.D "why" P_Desk_why (spWhy A) := ⟨_, _, T.clD, ⟨a_Desk_why, i_Desk_why, k_Desk_why⟩, b_Desk_why, (ok_Desk_why F_Desk_why T m_Desk_word f_want f_decider)⟩
  have F_Desk_fits := fun_mk (st := s_Desk_fits) l_Desk_fits c_Desk_fits_ k_Desk_fits
  have b_Desk_fits := F_Desk_fits.binds (ps := P_Desk_fits) fun _ _ _ _ _ _ us hl => match us, hl with | [_, _], _ => rfl
  have m_Desk_fits : Met P w K mg base (L2.CX P w) 4 A.D "fits" P_Desk_fits (spFitsM A) := ⟨_, _, T.clD, ⟨a_Desk_fits, i_Desk_fits, k_Desk_fits⟩, b_Desk_fits, (ok_Desk_fits F_Desk_fits T f_want f_all_fits)⟩
  have F_Desk_spell := fun_mk (st := s_Desk_spell) l_Desk_spell c_Desk_spell_ k_Desk_spell
  have b_Desk_spell := F_Desk_spell.binds (ps := P_Desk_spell) fun _ _ _ _ _ _ us hl => match us, hl with | [_, _], _ => rfl
  have m_Desk_spell : Met P w K mg base (L2.CX P w) 6 A.D "spell" P_Desk_spell (spSpell K A) := ⟨_, _, T.clD, ⟨a_Desk_spell, i_Desk_spell, k_Desk_spell⟩, b_Desk_spell, (ok_Desk_spell F_Desk_spell T f_want_letters f_counted f_bytes_of f_word_text f_parted_at)⟩
  have F_Desk_asked := fun_mk (st := s_Desk_asked) l_Desk_asked c_Desk_asked_ k_Desk_asked
  have b_Desk_asked := F_Desk_asked.binds (ps := P_Desk_asked) fun _ _ _ _ _ _ us hl => match us, hl with | [_, _, _, _], _ => rfl
  have m_Desk_asked : Met P w K mg base (L2.CX P w) 8 A.D "asked" P_Desk_asked (spAsked K A) := ⟨_, _, T.clD, ⟨a_Desk_asked, i_Desk_asked, k_Desk_asked⟩, b_Desk_asked, (ok_Desk_asked F_Desk_asked T f_want f_counted f_bytes_of f_form_text f_scored m_Desk_levels m_Desk_part m_Desk_why m_Desk_fits m_Desk_spell)⟩
  have F_Desk_answer := fun_mk (st := s_Desk_answer) l_Desk_answer c_Desk_answer_ k_Desk_answer
  have b_Desk_answer := F_Desk_answer.binds (ps := P_Desk_answer) fun _ _ _ _ _ _ us hl => match us, hl with | [_, _, _, _], _ => rfl
  have m_Desk_answer : Met P w K mg base CX0 9 A.D "answer" P_Desk_answer (spAnswer K A) := ⟨_, _, T.clD, ⟨a_Desk_answer, i_Desk_answer, k_Desk_answer⟩, b_Desk_answer, (ok_Desk_answer F_Desk_answer T m_Desk_load m_Desk_asked)⟩
  have F_answers := fun_mk (st := s_answers) l_answers c_answers_ k_answers
  have b_answers := F_answers.binds (ps := P_answers) fun _ _ _ _ _ _ us hl => match us, hl with | [_], _ => rfl
  exact ok_answers F_answers T c_Desk m_Desk_answer
end Pw

set_option Elab.async false
set_option linter.all false
set_option maxRecDepth 100000
set_option maxHeartbeats 8000000
open PySem PySem.W PyProof.Rows
theorem PySem.Challenge.cw_partedwords_s01_answers_holds : PySem.Challenge.rw_partedwords_s01_answers.Holds := by
  w_on; k_headS; (case hw => exact ⟨[.list [.int 1]], by decide +kernel, by decide +kernel⟩)
  k_fillS
  refine L2.walk_specK (r := PySem.Challenge.rw_partedwords_s01_answers) (k := 30) (CX := L2.CX0) (ps := ["calls"]) (sp := Pw.spTop) (by decide +kernel) rfl rfl ⟨rfl, by decide, by decide⟩ (fun w h Y => PySem.W.kIn_of Y) ?F ?S (fun _ _ _ _ z => z)
  case F =>
    intro w mg fa h Y KX G hmg
    refine' Pw.all_mk KX G hmg ?g_LETTERS ?g_FIGURES ?g_END_SIGN ?g_MARGINS ?g_WORD ?g_PATTERN ?g_MOST_BYTES ?g_MOST_CHUNK ?g_LINE_END ?g_REMARK ?g_DASH ?g_POINT ?g_SEMICOLON ?g_TOO_LONG ?g_NO_TOKEN ?g_NOT_ALLOWED ?g_TOO_MANY ?g_TAKEN ?g_BAD_CHUNK ?g_MOST_MARGIN ?g_MOST_WORDS ?g_MOST_PATTERNS ?g_MOST_LETTERS ?g_MOST_OF_PATTERN ?g_NO_LIST ?g_NOT_THERE ?g_NO_GAP ?g_NO_LETTERS ?g_LOAD ?g_LEAST_LETTERS ?g_BLANKS ?o_BLANKS ?s_BLANKS ?v_BLANKS ?g_NUMBERS_OF ?o_NUMBERS_OF ?s_NUMBERS_OF ?v_NUMBERS_OF ?g_LISTED ?o_LISTED ?s_LISTED ?v_LISTED ?n_len ?n_all ?n_max ?n_str ?n_ord ?n_int ?n_tuple ?n_list ?n_range ?n_enumerate ?n_zip ?n_ValueError ?vV ?a_Fault ?a_Refused ?a_Listed ?a_Reader ?a_Desk ?xL_Fault ?sa_Fault ?ga_Fault ?gg_Fault ?xa_code ?xa_place ?kC_Fault ?eC_Fault ?tC_Fault ?hC_Fault ?iC_Fault ?sC_Fault ?xL_Refused ?sa_Refused ?ga_Refused ?gg_Refused ?xa_number ?kC_Refused ?eC_Refused ?tC_Refused ?hC_Refused ?iC_Refused ?sC_Refused ?pg_Listed ?hd_Listed ?po_Listed ?sa_Listed ?mk_Listed ?kc_Listed ?no_Listed_left ?no_Listed_right ?no_Listed_words ?no_Listed_patterns ?pg_Reader ?hd_Reader ?po_Reader ?sa_Reader ?mk_Reader ?kc_Reader ?no_Reader_tokens ?no_Reader_at ?no_Reader_end ?pg_Desk ?hd_Desk ?po_Desk ?sa_Desk ?mk_Desk ?kc_Desk ?no_Desk_listed ?a_Fault_init ?ty_Fault_init ?l_Fault_init ?c_Fault_init_ ?k_Fault_init ?a_Refused_init ?ty_Refused_init ?l_Refused_init ?c_Refused_init_ ?k_Refused_init ?a_sign_of ?l_sign_of ?c_sign_of_ ?k_sign_of ?a_end_of_chunk ?l_end_of_chunk ?c_end_of_chunk_ ?k_end_of_chunk ?a_end_of_remark ?l_end_of_remark ?c_end_of_remark_ ?k_end_of_remark ?a_chunk_at ?l_chunk_at ?c_chunk_at_ ?k_chunk_at ?a_bytes_of ?l_bytes_of ?c_bytes_of_ ?k_bytes_of ?a_letters_in ?l_letters_in ?c_letters_in_ ?k_letters_in ?a_tokens_of ?l_tokens_of ?c_tokens_of_ ?k_tokens_of ?a_Listed_init ?i_Listed_init ?l_Listed_init ?c_Listed_init_ ?k_Listed_init ?a_Reader_init ?i_Reader_init ?l_Reader_init ?c_Reader_init_ ?k_Reader_init ?a_Reader_is_done ?i_Reader_is_done ?l_Reader_is_done ?c_Reader_is_done_ ?k_Reader_is_done ?a_Reader_token ?i_Reader_token ?l_Reader_token ?c_Reader_token_ ?k_Reader_token ?a_Reader_is_next ?i_Reader_is_next ?l_Reader_is_next ?c_Reader_is_next_ ?k_Reader_is_next ?a_Reader_take ?i_Reader_take ?l_Reader_take ?c_Reader_take_ ?k_Reader_take ?a_Reader_take_chunk ?i_Reader_take_chunk ?l_Reader_take_chunk ?c_Reader_take_chunk_ ?k_Reader_take_chunk ?a_is_margin ?l_is_margin ?c_is_margin_ ?k_is_margin ?a_margin_in ?l_margin_in ?c_margin_in_ ?k_margin_in ?a_word_of ?l_word_of ?c_word_of_ ?k_word_of ?a_letters_and_digits ?l_letters_and_digits ?c_letters_and_digits_ ?k_letters_and_digits ?a_pattern_of ?l_pattern_of ?c_pattern_of_ ?k_pattern_of ?a_words_in ?l_words_in ?c_words_in_ ?k_words_in ?a_patterns_in ?l_patterns_in ?c_patterns_in_ ?k_patterns_in ?a_list_in ?l_list_in ?c_list_in_ ?k_list_in ?a_word_text ?l_word_text ?c_word_text_ ?k_word_text ?a_pattern_text ?l_pattern_text ?c_pattern_text_ ?k_pattern_text ?a_form_text ?l_form_text ?c_form_text_ ?k_form_text ?a_fits_at ?l_fits_at ?c_fits_at_ ?k_fits_at ?a_places_of ?l_places_of ?c_places_of_ ?k_places_of ?a_digit_at ?l_digit_at ?c_digit_at_ ?k_digit_at ?a_level_of ?l_level_of ?c_level_of_ ?k_level_of ?a_level_at ?l_level_at ?c_level_at_ ?k_level_at ?a_inner_gaps ?l_inner_gaps ?c_inner_gaps_ ?k_inner_gaps ?a_is_within ?l_is_within ?c_is_within_ ?k_is_within ?a_parted_at ?l_parted_at ?c_parted_at_ ?k_parted_at ?a_held_against ?l_held_against ?c_held_against_ ?k_held_against ?a_scored ?l_scored ?c_scored_ ?k_scored ?a_places_with ?l_places_with ?c_places_with_ ?k_places_with ?a_decider ?l_decider ?c_decider_ ?k_decider ?a_all_fits ?l_all_fits ?c_all_fits_ ?k_all_fits ?a_want ?l_want ?c_want_ ?k_want ?a_want_letters ?l_want_letters ?c_want_letters_ ?k_want_letters ?a_counted ?l_counted ?c_counted_ ?k_counted ?a_Desk_init ?i_Desk_init ?l_Desk_init ?c_Desk_init_ ?k_Desk_init ?a_Desk_load ?i_Desk_load ?l_Desk_load ?c_Desk_load_ ?k_Desk_load ?a_Desk_word ?i_Desk_word ?l_Desk_word ?c_Desk_word_ ?k_Desk_word ?a_Desk_levels ?i_Desk_levels ?l_Desk_levels ?c_Desk_levels_ ?k_Desk_levels ?a_Desk_part ?i_Desk_part ?l_Desk_part ?c_Desk_part_ ?k_Desk_part ?a_Desk_why ?i_Desk_why ?l_Desk_why ?c_Desk_why_ ?k_Desk_why ?a_Desk_fits ?i_Desk_fits ?l_Desk_fits ?c_Desk_fits_ ?k_Desk_fits ?a_Desk_spell ?i_Desk_spell ?l_Desk_spell ?c_Desk_spell_ ?k_Desk_spell ?a_Desk_asked ?i_Desk_asked ?l_Desk_asked ?c_Desk_asked_ ?k_Desk_asked ?a_Desk_answer ?i_Desk_answer ?l_Desk_answer ?c_Desk_answer_ ?k_Desk_answer ?a_answers ?l_answers ?c_answers_ ?k_answers
    (case g_LETTERS => k_is)
    (case g_FIGURES => k_is)
    (case g_END_SIGN => k_is)
    (case g_MARGINS => k_is)
    (case g_WORD => k_is)
    (case g_PATTERN => k_is)
    (case g_MOST_BYTES => k_is)
    (case g_MOST_CHUNK => k_is)
    (case g_LINE_END => k_is)
    (case g_REMARK => k_is)
    (case g_DASH => k_is)
    (case g_POINT => k_is)
    (case g_SEMICOLON => k_is)
    (case g_TOO_LONG => k_is)
    (case g_NO_TOKEN => k_is)
    (case g_NOT_ALLOWED => k_is)
    (case g_TOO_MANY => k_is)
    (case g_TAKEN => k_is)
    (case g_BAD_CHUNK => k_is)
    (case g_MOST_MARGIN => k_is)
    (case g_MOST_WORDS => k_is)
    (case g_MOST_PATTERNS => k_is)
    (case g_MOST_LETTERS => k_is)
    (case g_MOST_OF_PATTERN => k_is)
    (case g_NO_LIST => k_is)
    (case g_NOT_THERE => k_is)
    (case g_NO_GAP => k_is)
    (case g_NO_LETTERS => k_is)
    (case g_LOAD => k_is)
    (case g_LEAST_LETTERS => k_is)
    (case g_BLANKS => k_is)
    (case o_BLANKS => k_is)
    (case s_BLANKS => exact (show 3 ≤ sizeLine by decide))
    (case v_BLANKS => exact .cons ⟨_, rfl⟩ (.cons ⟨_, rfl⟩ (.cons ⟨_, rfl⟩ .nil)))
    (case g_NUMBERS_OF => k_is)
    (case o_NUMBERS_OF => k_is)
    (case s_NUMBERS_OF => exact (show 8 ≤ sizeLine by decide))
    (case v_NUMBERS_OF => exact .cons ⟨_, rfl⟩ (.cons ⟨_, rfl⟩ (.cons ⟨_, rfl⟩ (.cons ⟨_, rfl⟩ (.cons ⟨_, rfl⟩ (.cons ⟨_, rfl⟩ (.cons ⟨_, rfl⟩ (.cons ⟨_, rfl⟩ .nil))))))))
    (case g_LISTED => k_is)
    (case o_LISTED => k_is)
    (case s_LISTED => exact (show 3 ≤ sizeLine by decide))
    (case v_LISTED => exact .cons ⟨_, rfl⟩ (.cons ⟨_, rfl⟩ (.cons ⟨_, rfl⟩ .nil)))
    (case n_len => k_is)
    (case n_all => k_is)
    (case n_max => k_is)
    (case n_str => k_is)
    (case n_ord => k_is)
    (case n_int => k_is)
    (case n_tuple => k_is)
    (case n_list => k_is)
    (case n_range => k_is)
    (case n_enumerate => k_is)
    (case n_zip => k_is)
    (case n_ValueError => k_is)
    (case vV => first | k_is | exact rfl | decide +kernel)
    (case a_Fault => k_is)
    (case a_Refused => k_is)
    (case a_Listed => k_is)
    (case a_Reader => k_is)
    (case a_Desk => k_is)
    (case xL_Fault => k_is)
    (case sa_Fault => k_is)
    (case ga_Fault => k_is)
    (case gg_Fault => k_is)
    (case xa_code => k_is)
    (case xa_place => k_is)
    (case kC_Fault => k_is)
    (case eC_Fault => k_is)
    (case tC_Fault => k_is)
    (case hC_Fault => k_is)
    (case iC_Fault => k_is)
    (case sC_Fault => first | rfl | k_is)
    (case xL_Refused => k_is)
    (case sa_Refused => k_is)
    (case ga_Refused => k_is)
    (case gg_Refused => k_is)
    (case xa_number => k_is)
    (case kC_Refused => k_is)
    (case eC_Refused => k_is)
    (case tC_Refused => k_is)
    (case hC_Refused => k_is)
    (case iC_Refused => k_is)
    (case sC_Refused => first | rfl | k_is)
    (case pg_Listed => k_is)
    (case hd_Listed => k_is)
    (case po_Listed => k_is)
    (case sa_Listed => k_is)
    (case mk_Listed => k_is)
    (case kc_Listed => k_is)
    (case no_Listed_left => k_is)
    (case no_Listed_right => k_is)
    (case no_Listed_words => k_is)
    (case no_Listed_patterns => k_is)
    (case pg_Reader => k_is)
    (case hd_Reader => k_is)
    (case po_Reader => k_is)
    (case sa_Reader => k_is)
    (case mk_Reader => k_is)
    (case kc_Reader => k_is)
    (case no_Reader_tokens => k_is)
    (case no_Reader_at => k_is)
    (case no_Reader_end => k_is)
    (case pg_Desk => k_is)
    (case hd_Desk => k_is)
    (case po_Desk => k_is)
    (case sa_Desk => k_is)
    (case mk_Desk => k_is)
    (case kc_Desk => k_is)
    (case no_Desk_listed => k_is)
    (case a_Fault_init => k_is)
    (case ty_Fault_init => k_is)
    (case l_Fault_init => k_is)
    (case c_Fault_init_ => k_is)
    (case k_Fault_init => k_is)
    (case a_Refused_init => k_is)
    (case ty_Refused_init => k_is)
    (case l_Refused_init => k_is)
    (case c_Refused_init_ => k_is)
    (case k_Refused_init => k_is)
    (case a_sign_of => k_is)
    (case l_sign_of => k_is)
    (case c_sign_of_ => k_is)
    (case k_sign_of => k_is)
    (case a_end_of_chunk => k_is)
    (case l_end_of_chunk => k_is)
    (case c_end_of_chunk_ => k_is)
    (case k_end_of_chunk => k_is)
    (case a_end_of_remark => k_is)
    (case l_end_of_remark => k_is)
    (case c_end_of_remark_ => k_is)
    (case k_end_of_remark => k_is)
    (case a_chunk_at => k_is)
    (case l_chunk_at => k_is)
    (case c_chunk_at_ => k_is)
    (case k_chunk_at => k_is)
    (case a_bytes_of => k_is)
    (case l_bytes_of => k_is)
    (case c_bytes_of_ => k_is)
    (case k_bytes_of => k_is)
    (case a_letters_in => k_is)
    (case l_letters_in => k_is)
    (case c_letters_in_ => k_is)
    (case k_letters_in => k_is)
    (case a_tokens_of => k_is)
    (case l_tokens_of => k_is)
    (case c_tokens_of_ => k_is)
    (case k_tokens_of => k_is)
    (case a_Listed_init => k_is)
    (case i_Listed_init => k_is)
    (case l_Listed_init => k_is)
    (case c_Listed_init_ => k_is)
    (case k_Listed_init => k_is)
    (case a_Reader_init => k_is)
    (case i_Reader_init => k_is)
    (case l_Reader_init => k_is)
    (case c_Reader_init_ => k_is)
    (case k_Reader_init => k_is)
    (case a_Reader_is_done => k_is)
    (case i_Reader_is_done => k_is)
    (case l_Reader_is_done => k_is)
    (case c_Reader_is_done_ => k_is)
    (case k_Reader_is_done => k_is)
    (case a_Reader_token => k_is)
    (case i_Reader_token => k_is)
    (case l_Reader_token => k_is)
    (case c_Reader_token_ => k_is)
    (case k_Reader_token => k_is)
    (case a_Reader_is_next => k_is)
    (case i_Reader_is_next => k_is)
    (case l_Reader_is_next => k_is)
    (case c_Reader_is_next_ => k_is)
    (case k_Reader_is_next => k_is)
    (case a_Reader_take => k_is)
    (case i_Reader_take => k_is)
    (case l_Reader_take => k_is)
    (case c_Reader_take_ => k_is)
    (case k_Reader_take => k_is)
    (case a_Reader_take_chunk => k_is)
    (case i_Reader_take_chunk => k_is)
    (case l_Reader_take_chunk => k_is)
    (case c_Reader_take_chunk_ => k_is)
    (case k_Reader_take_chunk => k_is)
    (case a_is_margin => k_is)
    (case l_is_margin => k_is)
    (case c_is_margin_ => k_is)
    (case k_is_margin => k_is)
    (case a_margin_in => k_is)
    (case l_margin_in => k_is)
    (case c_margin_in_ => k_is)
    (case k_margin_in => k_is)
    (case a_word_of => k_is)
    (case l_word_of => k_is)
    (case c_word_of_ => k_is)
    (case k_word_of => k_is)
    (case a_letters_and_digits => k_is)
    (case l_letters_and_digits => k_is)
    (case c_letters_and_digits_ => k_is)
    (case k_letters_and_digits => k_is)
    (case a_pattern_of => k_is)
    (case l_pattern_of => k_is)
    (case c_pattern_of_ => k_is)
    (case k_pattern_of => k_is)
    (case a_words_in => k_is)
    (case l_words_in => k_is)
    (case c_words_in_ => k_is)
    (case k_words_in => k_is)
    (case a_patterns_in => k_is)
    (case l_patterns_in => k_is)
    (case c_patterns_in_ => k_is)
    (case k_patterns_in => k_is)
    (case a_list_in => k_is)
    (case l_list_in => k_is)
    (case c_list_in_ => k_is)
    (case k_list_in => k_is)
    (case a_word_text => k_is)
    (case l_word_text => k_is)
    (case c_word_text_ => k_is)
    (case k_word_text => k_is)
    (case a_pattern_text => k_is)
    (case l_pattern_text => k_is)
    (case c_pattern_text_ => k_is)
    (case k_pattern_text => k_is)
    (case a_form_text => k_is)
    (case l_form_text => k_is)
    (case c_form_text_ => k_is)
    (case k_form_text => k_is)
    (case a_fits_at => k_is)
    (case l_fits_at => k_is)
    (case c_fits_at_ => k_is)
    (case k_fits_at => k_is)
    (case a_places_of => k_is)
    (case l_places_of => k_is)
    (case c_places_of_ => k_is)
    (case k_places_of => k_is)
    (case a_digit_at => k_is)
    (case l_digit_at => k_is)
    (case c_digit_at_ => k_is)
    (case k_digit_at => k_is)
    (case a_level_of => k_is)
    (case l_level_of => k_is)
    (case c_level_of_ => k_is)
    (case k_level_of => k_is)
    (case a_level_at => k_is)
    (case l_level_at => k_is)
    (case c_level_at_ => k_is)
    (case k_level_at => k_is)
    (case a_inner_gaps => k_is)
    (case l_inner_gaps => k_is)
    (case c_inner_gaps_ => k_is)
    (case k_inner_gaps => k_is)
    (case a_is_within => k_is)
    (case l_is_within => k_is)
    (case c_is_within_ => k_is)
    (case k_is_within => k_is)
    (case a_parted_at => k_is)
    (case l_parted_at => k_is)
    (case c_parted_at_ => k_is)
    (case k_parted_at => k_is)
    (case a_held_against => k_is)
    (case l_held_against => k_is)
    (case c_held_against_ => k_is)
    (case k_held_against => k_is)
    (case a_scored => k_is)
    (case l_scored => k_is)
    (case c_scored_ => k_is)
    (case k_scored => k_is)
    (case a_places_with => k_is)
    (case l_places_with => k_is)
    (case c_places_with_ => k_is)
    (case k_places_with => k_is)
    (case a_decider => k_is)
    (case l_decider => k_is)
    (case c_decider_ => k_is)
    (case k_decider => k_is)
    (case a_all_fits => k_is)
    (case l_all_fits => k_is)
    (case c_all_fits_ => k_is)
    (case k_all_fits => k_is)
    (case a_want => k_is)
    (case l_want => k_is)
    (case c_want_ => k_is)
    (case k_want => k_is)
    (case a_want_letters => k_is)
    (case l_want_letters => k_is)
    (case c_want_letters_ => k_is)
    (case k_want_letters => k_is)
    (case a_counted => k_is)
    (case l_counted => k_is)
    (case c_counted_ => k_is)
    (case k_counted => k_is)
    (case a_Desk_init => k_is)
    (case i_Desk_init => k_is)
    (case l_Desk_init => k_is)
    (case c_Desk_init_ => k_is)
    (case k_Desk_init => k_is)
    (case a_Desk_load => k_is)
    (case i_Desk_load => k_is)
    (case l_Desk_load => k_is)
    (case c_Desk_load_ => k_is)
    (case k_Desk_load => k_is)
    (case a_Desk_word => k_is)
    (case i_Desk_word => k_is)
    (case l_Desk_word => k_is)
    (case c_Desk_word_ => k_is)
    (case k_Desk_word => k_is)
    (case a_Desk_levels => k_is)
    (case i_Desk_levels => k_is)
    (case l_Desk_levels => k_is)
    (case c_Desk_levels_ => k_is)
    (case k_Desk_levels => k_is)
    (case a_Desk_part => k_is)
    (case i_Desk_part => k_is)
    (case l_Desk_part => k_is)
    (case c_Desk_part_ => k_is)
    (case k_Desk_part => k_is)
    (case a_Desk_why => k_is)
    (case i_Desk_why => k_is)
    (case l_Desk_why => k_is)
    (case c_Desk_why_ => k_is)
    (case k_Desk_why => k_is)
    (case a_Desk_fits => k_is)
    (case i_Desk_fits => k_is)
    (case l_Desk_fits => k_is)
    (case c_Desk_fits_ => k_is)
    (case k_Desk_fits => k_is)
    (case a_Desk_spell => k_is)
    (case i_Desk_spell => k_is)
    (case l_Desk_spell => k_is)
    (case c_Desk_spell_ => k_is)
    (case k_Desk_spell => k_is)
    (case a_Desk_asked => k_is)
    (case i_Desk_asked => k_is)
    (case l_Desk_asked => k_is)
    (case c_Desk_asked_ => k_is)
    (case k_Desk_asked => k_is)
    (case a_Desk_answer => k_is)
    (case i_Desk_answer => k_is)
    (case l_Desk_answer => k_is)
    (case c_Desk_answer_ => k_is)
    (case k_Desk_answer => k_is)
    (case a_answers => k_is)
    (case l_answers => k_is)
    (case c_answers_ => k_is)
    (case k_answers => k_is)
  case S =>
    intro K H xs a hO hwi hask hx
    cases hx with
    | cons h1 h2 =>
      cases h2
      cases h1 with
      | lst hs ha =>
        have e := L2.ints_dw a.1 _ ha
        subst e
        exact ⟨_, a.1, rfl, hs, hask, fun p H' np ex hp => .lst (L2.SqL.of hp) (L2.dw_ints _)⟩
