import PyProof.Rows.All
import Wide.All
import OpenK.AllK
import Wide.FinOn
import HandS.ForMost
import HandS.ForExc
import HandS.ExcInit
import HandS.ExcField
import HandS.ExcIs
import HandS.IsInst
import HandS.Codes
import HandS.Conv
import KE.KExcSuper
import PyProof.TupleOfStr
import KE.KExcIs
import PyProof.StrOps2
import PySem.Challenge.RW_askproved_k09_texts_are_the_tokens_that
set_option Elab.async false
set_option linter.all false
set_option maxRecDepth 100000
set_option maxHeartbeats 2000000
/-! the plain law: texts are lists of codes -/
namespace K9
open PySem
/-! ### signs -/
def LET : List Nat := [97,98,99,100,101,102,103,104,105,106,107,108,109,110,111,112,113,114,115,116,117,118,119,120,121,122]
def DIG : List Nat := [48,49,50,51,52,53,54,55,56,57]
def LAT : List Nat := LET ++ (DIG ++ [95])
abbrev isLet (c : Nat) : Bool := decide (c ∈ LET)
abbrev isDig (c : Nat) : Bool := decide (c ∈ DIG)
abbrev isLat (c : Nat) : Bool := decide (c ∈ LAT)
abbrev isBl (c : Nat) : Bool := decide (c ∈ ([32, 10] : List Nat))
theorem let_lat {c : Nat} (h : isLet c = true) : isLat c = true := decide_eq_true (List.mem_append_left _ (of_decide_eq_true h))
theorem dig_lat {c : Nat} (h : isDig c = true) : isLat c = true := decide_eq_true (List.mem_append_right _ (List.mem_append_left _ (of_decide_eq_true h)))
theorem let_cases {P : Nat → Prop} (h : ∀ c ∈ LET, P c) {c : Nat} (hc : isLet c = true) : P c := h c (of_decide_eq_true hc)
theorem let_no_bl {c : Nat} (h : isLet c = true) : isBl c = false := let_cases (P := fun c => isBl c = false) (by decide) h
theorem let_no_dig {c : Nat} (h : isLet c = true) : isDig c = false := let_cases (P := fun c => isDig c = false) (by decide) h
theorem dig_no_let {c : Nat} (h : isDig c = true) : isLet c = false := (by decide : ∀ c ∈ DIG, isLet c = false) c (of_decide_eq_true h)
theorem dig_no_bl {c : Nat} (h : isDig c = true) : isBl c = false := (by decide : ∀ c ∈ DIG, isBl c = false) c (of_decide_eq_true h)
theorem bl_no_lat {c : Nat} (h : isBl c = true) : isLat c = false := (by decide : ∀ c ∈ ([32, 10] : List Nat), isLat c = false) c (of_decide_eq_true h)
def KW : List (List Nat) := [[98,97,115,101],[100,101,114,105,118,101,100],[114,117,108,101],[110,101,118,101,114],[105,102],[110,111,116],[108,101,116],[109,111,100],[110,117,109,98,101,114],[119,111,114,100],[99,111,117,110,116],[115,117,109],[108,101,97,115,116],[109,111,115,116]]
def SG : List (List Nat) := [[60,61],[60],[61],[43],[45],[42],[47],[40],[41],[44]]
def kKey : List Nat := [107,101,121,119,111,114,100]
def kName : List Nat := [110,97,109,101]
def kNum : List Nat := [110,117,109,98,101,114]
def kQuo : List Nat := [113,117,111,116,101,100]
def kSign : List Nat := [115,105,103,110]
/-! ### reading -/
inductive Tv where
  | s (l : List Nat) | n (i : Nat)
  deriving DecidableEq
/-- kind, value, place -/
abbrev Tok := List Nat × Tv × Nat
abbrev dval : List Nat → Nat := NumText.digitsVal
/-- the run of signs of a kind from a place on -/
def run (p : Nat → Bool) (t : List Nat) (i : Nat) : List Nat := (t.drop i).takeWhile p
def endOf (p : Nat → Bool) (t : List Nat) (i : Nat) : Nat := i + (run p t i).length
/-- a sign stands at a place -/
def sgAt (t : List Nat) (i : Nat) (g : List Nat) : Bool := decide ((t.drop i).take g.length = g)
inductive Rd where
  | no (i : Nat) | ok (k : List Nat) (v : Tv) (e : Nat)
def quoAt (t : List Nat) (i : Nat) : Bool := t.getD i 0 == 39 && isLet (t.getD (i + 1) 0)
def readTok (t : List Nat) (i : Nat) : Rd :=
  if isLet (t.getD i 0) = true then
    if 40 < (run isLat t i).length then .no i else .ok (if run isLat t i ∈ KW then kKey else kName) (.s (run isLat t i)) (endOf isLat t i)
  else if isDig (t.getD i 0) = true then
    if 13 < (run isDig t i).length ∨ 1000000000000 < dval (run isDig t i) then .no i else .ok kNum (.n (dval (run isDig t i))) (endOf isDig t i)
  else if quoAt t i = true then
    if 40 < (run isLat t (i + 1)).length then .no (i + 1) else .ok kQuo (.s (run isLat t (i + 1))) (endOf isLat t (i + 1))
  else match SG.find? (sgAt t i) with
    | some g => .ok kSign (.s g) (i + g.length)
    | none => .no i
/-- all tokens from a place on, behind some; or where it is refused -/
def go (t : List Nat) (i : Nat) (acc : List Tok) : Nat ⊕ List Tok :=
  if i < t.length then
    if isBl (t.getD i 0) = true then go t (i + 1) acc
    else match readTok t i with
      | .no j => .inl j
      | .ok k v e => if i < e then go t e (acc ++ [(k, v, i)]) else .inl i
  else .inr acc
termination_by t.length - i
theorem go_end {t : List Nat} {i : Nat} {acc : List Tok} (h : ¬ i < t.length) : go t i acc = .inr acc := by rw [go, if_neg h]
theorem go_bl {t : List Nat} {i : Nat} {acc : List Tok} (h : i < t.length) (b : isBl (t.getD i 0) = true) : go t i acc = go t (i + 1) acc := by rw [go, if_pos h, if_pos b]
theorem go_no {t : List Nat} {i j : Nat} {acc : List Tok} (h : i < t.length) (b : isBl (t.getD i 0) = false) (r : readTok t i = .no j) : go t i acc = .inl j := by
  rw [go, if_pos h, if_neg (by rw [b]; exact Bool.false_ne_true), r]
theorem go_ok {t : List Nat} {i e : Nat} {k : List Nat} {v : Tv} {acc : List Tok} (h : i < t.length) (b : isBl (t.getD i 0) = false) (r : readTok t i = .ok k v e) (l : i < e) : go t i acc = go t e (acc ++ [(k, v, i)]) := by
  rw [go, if_pos h, if_neg (by rw [b]; exact Bool.false_ne_true), r]
  exact if_pos l
/-! ### runs and places in a text that is put together -/
theorem getD_app (p q : List Nat) : (p ++ q).getD p.length 0 = q.getD 0 0 := by
  rw [List.getD_eq_getElem?_getD, List.getD_eq_getElem?_getD, List.getElem?_append_right (Nat.le_refl _), Nat.sub_self]
theorem getD_app1 (p q : List Nat) : (p ++ q).getD (p.length + 1) 0 = q.getD 1 0 := by
  rw [List.getD_eq_getElem?_getD, List.getD_eq_getElem?_getD, List.getElem?_append_right (by omega), show p.length + 1 - p.length = 1 by omega]
theorem drop_app (p q : List Nat) : (p ++ q).drop p.length = q := List.drop_left
theorem takeWhile_all {p : Nat → Bool} : ∀ {w : List Nat}, (∀ c ∈ w, p c = true) → ∀ r : List Nat, (∀ c, r.head? = some c → p c = false) → (w ++ r).takeWhile p = w
  | [], _, [], _ => rfl
  | [], _, c :: r, h => by
    show (c :: r).takeWhile p = []
    rw [List.takeWhile_cons, if_neg (by rw [h c rfl]; exact Bool.false_ne_true)]
  | c :: w, a, r, h => by
    show (c :: (w ++ r)).takeWhile p = c :: w
    rw [List.takeWhile_cons, if_pos (a c (List.mem_cons_self ..)), takeWhile_all (fun d hd => a d (List.mem_cons_of_mem _ hd)) r h]
theorem run_app {p : Nat → Bool} {w : List Nat} (a : ∀ c ∈ w, p c = true) (t r : List Nat) (h : ∀ c, r.head? = some c → p c = false) : run p (t ++ (w ++ r)) t.length = w := by
  unfold run
  rw [drop_app, takeWhile_all a r h]
theorem run_app1 {p : Nat → Bool} {w : List Nat} (a : ∀ c ∈ w, p c = true) (t : List Nat) (x : Nat) (r : List Nat) (h : ∀ c, r.head? = some c → p c = false) : run p (t ++ (x :: (w ++ r))) (t.length + 1) = w := by
  unfold run
  have e : (t ++ (x :: (w ++ r))).drop (t.length + 1) = w ++ r := by
    rw [show t ++ (x :: (w ++ r)) = (t ++ [x]) ++ (w ++ r) by simp]
    rw [show t.length + 1 = (t ++ [x]).length by simp]
    exact List.drop_left
  rw [e, takeWhile_all a r h]
theorem run_le (p : Nat → Bool) (t : List Nat) (i : Nat) : (run p t i).length ≤ t.length - i := by
  unfold run
  have h := (List.takeWhile_sublist p (l := t.drop i)).length_le
  rw [List.length_drop] at h
  exact h
theorem endOf_le {p : Nat → Bool} {t : List Nat} {i : Nat} (h : i ≤ t.length) : endOf p t i ≤ t.length := by
  unfold endOf
  have := run_le p t i
  omega
theorem drop_cons {t : List Nat} {i : Nat} (h : i < t.length) : t.drop i = t.getD i 0 :: t.drop (i + 1) := by
  rw [List.drop_eq_getElem_cons h, List.getD_eq_getElem?_getD, List.getElem?_eq_getElem h, Option.getD_some]
theorem endOf_step {p : Nat → Bool} {t : List Nat} {i : Nat} (h : i < t.length) (hp : p (t.getD i 0) = true) : endOf p t i = endOf p t (i + 1) := by
  unfold endOf run
  rw [drop_cons h, List.takeWhile_cons, if_pos hp, List.length_cons]
  omega
theorem endOf_stop {p : Nat → Bool} {t : List Nat} {i : Nat} (h : ¬ (i < t.length ∧ p (t.getD i 0) = true)) : endOf p t i = i := by
  unfold endOf run
  by_cases hi : i < t.length
  · rw [drop_cons hi, List.takeWhile_cons, if_neg (fun z => h ⟨hi, z⟩)]
    rfl
  · rw [List.drop_eq_nil_of_le (by omega)]
    rfl
theorem endOf_lt {p : Nat → Bool} {t : List Nat} {i : Nat} (h : i < t.length) (hp : p (t.getD i 0) = true) : i < endOf p t i := by
  rw [endOf_step h hp]
  unfold endOf
  omega
/-- the signs of a run, cut out -/
theorem run_cut (p : Nat → Bool) (t : List Nat) (i : Nat) : (t.drop i).take (endOf p t i - i) = run p t i := by
  unfold endOf run
  rw [Nat.add_sub_cancel_left]
  exact List.prefix_iff_eq_take.mp (List.takeWhile_prefix p) |>.symm
theorem getD_lt {t : List Nat} {i c : Nat} (h : t.getD i 0 = c) (hc : c ≠ 0) : i < t.length := by
  rcases Nat.lt_or_ge i t.length with k | k
  · exact k
  · rw [List.getD_eq_getElem?_getD, List.getElem?_eq_none k] at h
    exact absurd h.symm hc
theorem sg_pos : ∀ g ∈ SG, 0 < g.length := by decide
theorem readTok_lt {t : List Nat} {i e : Nat} {k : List Nat} {v : Tv} (h : i < t.length) (r : readTok t i = .ok k v e) : i < e := by
  unfold readTok at r
  split at r
  · rename_i h1
    split at r
    · cases r
    · cases r
      exact endOf_lt h (let_lat h1)
  · split at r
    · rename_i h1
      split at r
      · cases r
      · cases r
        exact endOf_lt h h1
    · split at r
      · split at r
        · cases r
        · cases r
          unfold endOf
          omega
      · split at r
        · rename_i g hg
          cases r
          have := sg_pos g (List.mem_of_find?_eq_some hg)
          omega
        · cases r
end K9
namespace K9
open PySem
/-! ### tokens and their texts -/
structure Word (w : List Nat) : Prop where
  ne : w ≠ []
  hd : ∀ c, w.head? = some c → isLet c = true
  all : ∀ c ∈ w, isLat c = true
  len : w.length ≤ 40
inductive TokText : List Nat → Tv → List Nat → Prop where
  | word {w : List Nat} (h : Word w) : TokText (if w ∈ KW then kKey else kName) (.s w) w
  | quo {w : List Nat} (h : Word w) : TokText kQuo (.s w) (39 :: w)
  | num {w : List Nat} (a : ∀ c ∈ w, isDig c = true) (ne : w ≠ []) (l : w.length ≤ 13) (m : dval w ≤ 1000000000000) : TokText kNum (.n (dval w)) w
  | sign {g : List Nat} (h : g ∈ SG) : TokText kSign (.s g) g
/-- what may not stand behind a token's text -/
def stopOf (k x : List Nat) (c : Nat) : Bool :=
  if k ∈ [kKey, kName, kQuo] then isLat c else if k = kNum then isDig c else decide (x.getLast? = some 60) && decide (c = 61)
def Bd (p : Nat → Bool) (post : List Nat) : Prop := ∀ c, post.head? = some c → p c = false
theorem stop_sp (k x : List Nat) : stopOf k x 32 = false := by
  unfold stopOf
  split
  · decide
  · split
    · decide
    · rw [show decide ((32 : Nat) = 61) = false from rfl, Bool.and_false]
theorem stop_nl (k x : List Nat) : stopOf k x 10 = false := by
  unfold stopOf
  split
  · decide
  · split
    · decide
    · rw [show decide ((10 : Nat) = 61) = false from rfl, Bool.and_false]
theorem bd_nil (p : Nat → Bool) : Bd p [] := fun c h => by cases h
theorem bd_cons {p : Nat → Bool} {c : Nat} {r : List Nat} (h : p c = false) : Bd p (c :: r) := fun d e => by
  cases e
  exact h
theorem TokText.ne {k x : List Nat} {v : Tv} (h : TokText k v x) : x ≠ [] := by
  cases h with
  | word h => exact h.ne
  | quo h => simp
  | num _ ne => exact ne
  | sign h =>
    intro z
    subst z
    exact absurd h (by decide)
theorem TokText.len {k x : List Nat} {v : Tv} (h : TokText k v x) : x.length ≤ 41 := by
  cases h with
  | word h => exact Nat.le_succ_of_le h.len
  | quo h =>
    rw [List.length_cons]
    exact Nat.succ_le_succ h.len
  | num _ _ l => omega
  | sign h => exact (by decide : ∀ g ∈ SG, g.length ≤ 41) _ h
theorem kKey_ne : kKey ≠ kNum := by decide
theorem hd_getD {w : List Nat} {r : List Nat} (ne : w ≠ []) : (w ++ r).getD 0 0 = w.getD 0 0 := by
  cases w with
  | nil => exact absurd rfl ne
  | cons c w => rfl
theorem Word.h0 {w : List Nat} (h : Word w) : isLet (w.getD 0 0) = true := by
  cases w with
  | nil => exact absurd rfl h.ne
  | cons c w => exact h.hd c rfl
theorem sgAt_app (t g r : List Nat) : sgAt (t ++ (g ++ r)) t.length g = true := by
  unfold sgAt
  rw [drop_app, List.take_left]
  exact decide_eq_true rfl
theorem sgAt_iff (t r : List Nat) (g : List Nat) : sgAt (t ++ r) t.length g = decide (r.take g.length = g) := by
  unfold sgAt
  rw [drop_app]
/-- reading a token where it stands -/
theorem readTok_tok {k x : List Nat} {v : Tv} (h : TokText k v x) (t post : List Nat) (b : Bd (stopOf k x) post) : readTok (t ++ (x ++ post)) t.length = .ok k v (t.length + x.length) := by
  have g0 : (t ++ (x ++ post)).getD t.length 0 = x.getD 0 0 := by rw [getD_app, hd_getD h.ne]
  cases h with
  | word h =>
    have st : ∀ c, post.head? = some c → isLat c = false := fun c e => by
      have z := b c e
      unfold stopOf at z
      rw [if_pos (by split <;> decide)] at z
      exact z
    have e := run_app h.all t post st
    unfold readTok
    rw [g0, if_pos h.h0, e, if_neg (by have := h.len; omega)]
    unfold endOf
    rw [e]
  | quo h =>
    have st : ∀ c, post.head? = some c → isLat c = false := fun c e => by
      have z := b c e
      unfold stopOf at z
      rw [if_pos (by decide)] at z
      exact z
    rename_i w
    have e := run_app1 h.all t 39 post st
    have q : quoAt (t ++ (39 :: w ++ post)) t.length = true := by
      unfold quoAt
      rw [g0, getD_app1]
      have e1 : (39 :: w ++ post).getD 1 0 = w.getD 0 0 := by
        cases w with
        | nil => exact absurd rfl h.ne
        | cons c w => rfl
      rw [e1, h.h0]
      rfl
    have g39 : (t ++ (39 :: w ++ post)).getD t.length 0 = 39 := g0
    unfold readTok
    rw [g39, if_neg (show ¬ isLet 39 = true by decide), if_neg (show ¬ isDig 39 = true by decide), if_pos q]
    rw [show run isLat (t ++ (39 :: w ++ post)) (t.length + 1) = w from e, if_neg (by have := h.len; omega)]
    unfold endOf
    rw [show run isLat (t ++ (39 :: w ++ post)) (t.length + 1) = w from e, List.length_cons]
    congr 1
    omega
  | num a ne l m =>
    have st : ∀ c, post.head? = some c → isDig c = false := fun c e => by
      have z := b c e
      unfold stopOf at z
      rw [if_neg (by decide), if_pos rfl] at z
      exact z
    have e := run_app a t post st
    have hd : isDig (x.getD 0 0) = true := by
      cases x with
      | nil => exact absurd rfl ne
      | cons c w => exact a c (List.mem_cons_self ..)
    unfold readTok
    rw [g0, if_neg (by rw [dig_no_let hd]; exact Bool.false_ne_true), if_pos hd, e, if_neg (by omega)]
    unfold endOf
    rw [e]
  | sign h =>
    have key : ∀ g ∈ SG, isLet (g.getD 0 0) = false ∧ isDig (g.getD 0 0) = false ∧ g.getD 0 0 ≠ 39 := by decide
    obtain ⟨k1, k2, k3⟩ := key _ h
    have q : quoAt (t ++ (x ++ post)) t.length = false := by
      unfold quoAt
      rw [g0, beq_false_of_ne k3, Bool.false_and]
    have st : x = [60] → ∀ c, post.head? = some c → c ≠ 61 := fun hx c e z => by
      have y := b c e
      subst hx
      subst z
      revert y
      decide
    have fd : SG.find? (sgAt (t ++ (x ++ post)) t.length) = some x := by
      have nb : ∀ g, sgAt (t ++ (x ++ post)) t.length g = decide ((x ++ post).take g.length = g) := sgAt_iff t (x ++ post)
      have hx : x ∈ SG := h
      simp only [SG, List.mem_cons, List.not_mem_nil, or_false] at hx
      unfold SG
      rcases hx with rfl | rfl | rfl | rfl | rfl | rfl | rfl | rfl | rfl | rfl
      all_goals simp only [List.find?_cons, nb]
      case inr.inl =>
        cases post with
        | nil => rfl
        | cons c r =>
          have := st rfl c rfl
          simp [this]
      all_goals simp
    unfold readTok
    rw [g0, if_neg (by rw [k1]; exact Bool.false_ne_true), if_neg (by rw [k2]; exact Bool.false_ne_true), if_neg (by rw [q]; exact Bool.false_ne_true), fd]
/-! ### texts that are put together -/
def Good (T : List Nat) (D : List Tok) (p : Nat → Bool) : Prop := ∀ post, Bd p post → go (T ++ post) 0 [] = go (T ++ post) T.length D
theorem good_nil : Good [] [] (fun _ => false) := fun _ _ => rfl
theorem good_bl {T : List Nat} {D : List Tok} {p : Nat → Bool} {c : Nat} (h : Good T D p) (hp : p c = false) (b : isBl c = true) : Good (T ++ [c]) D (fun _ => false) := fun post _ => by
  have e := h (c :: post) (bd_cons hp)
  rw [show T ++ [c] ++ post = T ++ (c :: post) by simp, e, go_bl (by simp) (by rw [getD_app]; exact b), List.length_append, List.length_singleton]
theorem good_bls {D : List Tok} : ∀ (s : List Nat) {T : List Nat}, Good T D (fun _ => false) → (∀ c ∈ s, isBl c = true) → Good (T ++ s) D (fun _ => false)
  | [], T, h, _ => by rw [List.append_nil]; exact h
  | c :: s, T, h, b => by
    rw [show T ++ (c :: s) = (T ++ [c]) ++ s by simp]
    exact good_bls s (good_bl h rfl (b c (List.mem_cons_self ..))) fun d hd => b d (List.mem_cons_of_mem _ hd)
theorem tok_hd {k x : List Nat} {v : Tv} (h : TokText k v x) : isBl (x.getD 0 0) = false := by
  cases h with
  | word h => exact let_no_bl h.h0
  | quo h => rfl
  | num a ne =>
    cases x with
    | nil => exact absurd rfl ne
    | cons c w => exact dig_no_bl (a c (List.mem_cons_self ..))
  | sign h => exact (by decide : ∀ g ∈ SG, isBl (g.getD 0 0) = false) _ h
theorem good_tok {T : List Nat} {D : List Tok} {p : Nat → Bool} {k x : List Nat} {v : Tv} (h : Good T D p) (tx : TokText k v x) (hp : p (x.getD 0 0) = false) : Good (T ++ x) (D ++ [(k, v, T.length)]) (stopOf k x) := fun post b => by
  have xl : 0 < x.length := List.length_pos_iff.mpr tx.ne
  have hb : Bd p (x ++ post) := by
    cases x with
    | nil => exact absurd rfl tx.ne
    | cons c r => exact bd_cons hp
  have e := h (x ++ post) hb
  rw [List.append_assoc, e, go_ok (by simp; omega) (by rw [getD_app, hd_getD tx.ne]; exact tok_hd tx) (readTok_tok tx T post b) (by omega), List.length_append]
/-- what is known of the text up to a place, where a blank stands next -/
def GoodP (P : List Nat) (D : List Tok) : Prop := ∀ post, go (P ++ (32 :: post)) 0 [] = go (P ++ (32 :: post)) P.length D
theorem Good.p {T : List Nat} {D : List Tok} {p : Nat → Bool} (h : Good T D p) (hp : p 32 = false) : GoodP T D := fun post => h (32 :: post) (bd_cons hp)
theorem GoodP.ok {P : List Nat} {D : List Tok} (h : GoodP P D) : go (P ++ [32]) 0 [] = .inr D := by
  rw [h [], go_bl (by simp) (by rw [getD_app]; rfl), go_end (by simp)]
theorem Good.ok {T : List Nat} {D : List Tok} {p : Nat → Bool} (h : Good T D p) : go T 0 [] = .inr D := by
  have e := h [] (bd_nil p)
  rw [List.append_nil] at e
  rw [e, go_end (by omega)]
/-! ### signs at which no token starts -/
def ODD : List (List Nat) := [[65], [63], [46], [39], [39, 65], [95], [9], [59], [39, 39], List.replicate 14 57, [49,48,48,48,48,48,48,48,48,48,48,48,49], List.replicate 41 98, 39 :: List.replicate 41 99, [62]]
/-- a further place, where a quoted word is too long -/
def oddAt (o : List Nat) : Nat := if o.getD 0 0 = 39 ∧ o.getD 1 0 = 99 then 1 else 0
theorem odd_no {o : List Nat} (h : o ∈ ODD) (t post : List Nat) : readTok (t ++ (o ++ (32 :: post))) t.length = .no (t.length + oddAt o) := by
  have g0 : (t ++ (o ++ (32 :: post))).getD t.length 0 = (o ++ (32 :: post)).getD 0 0 := getD_app _ _
  have g1 : (t ++ (o ++ (32 :: post))).getD (t.length + 1) 0 = (o ++ (32 :: post)).getD 1 0 := getD_app1 _ _
  have nb : ∀ g, sgAt (t ++ (o ++ (32 :: post))) t.length g = decide ((o ++ (32 :: post)).take g.length = g) := sgAt_iff t _
  have nf : ∀ c r, o ++ (32 :: post) = c :: r → c ∉ [60, 61, 43, 45, 42, 47, 40, 41, 44] → SG.find? (sgAt (t ++ (o ++ (32 :: post))) t.length) = none := fun c r e hc => by
    rw [List.find?_eq_none]
    intro g hg
    rw [nb, e]
    have key : ∀ g ∈ SG, ∃ d q, g = d :: q ∧ d ∈ ([60, 61, 43, 45, 42, 47, 40, 41, 44] : List Nat) := by
      intro g hg
      simp only [SG, List.mem_cons, List.not_mem_nil, or_false] at hg
      rcases hg with rfl | rfl | rfl | rfl | rfl | rfl | rfl | rfl | rfl | rfl <;> exact ⟨_, _, rfl, by decide⟩
    obtain ⟨d, q, rfl, hd⟩ := key g hg
    have : c ≠ d := fun z => hc (z ▸ hd)
    simp [this]
  have sp : ∀ {p : Nat → Bool}, p 32 = false → ∀ c, (32 :: post).head? = some c → p c = false := fun hp c e => by
    cases e
    exact hp
  have plain : ∀ c r, o ++ (32 :: post) = c :: r → isLet c = false → isDig c = false → (c = 39 → isLet (r.getD 0 0) = false) → c ∉ [60, 61, 43, 45, 42, 47, 40, 41, 44] → readTok (t ++ (o ++ (32 :: post))) t.length = .no t.length := fun c r e h1 h2 h3 h4 => by
    have q : quoAt (t ++ (o ++ (32 :: post))) t.length = false := by
      unfold quoAt
      rw [g0, g1, e]
      by_cases z : c = 39
      · have : isLet ((c :: r).getD 1 0) = false := h3 z
        rw [this, Bool.and_false]
      · rw [show (c :: r).getD 0 0 = c from rfl, beq_false_of_ne z, Bool.false_and]
    unfold readTok
    rw [g0, e, show (c :: r).getD 0 0 = c from rfl, if_neg (by rw [h1]; exact Bool.false_ne_true), if_neg (by rw [h2]; exact Bool.false_ne_true), ← e, if_neg (by rw [q]; exact Bool.false_ne_true), nf c r e h4]
  have word : ∀ w : List Nat, o = w → (∀ c ∈ w, isLat c = true) → isLet (w.getD 0 0) = true → 40 < w.length → readTok (t ++ (o ++ (32 :: post))) t.length = .no t.length := fun w e a h0 l => by
    subst e
    have ne : o ≠ [] := fun z => by rw [z] at l; exact absurd l (by decide)
    have r := run_app a t (32 :: post) (sp (p := isLat) (by decide))
    unfold readTok
    rw [g0, hd_getD ne, if_pos h0, r, if_pos l]
  have digs : ∀ w : List Nat, o = w → (∀ c ∈ w, isDig c = true) → w ≠ [] → (13 < w.length ∨ 1000000000000 < dval w) → readTok (t ++ (o ++ (32 :: post))) t.length = .no t.length := fun w e a ne l => by
    subst e
    have h0 : isDig (o.getD 0 0) = true := by
      cases o with
      | nil => exact absurd rfl ne
      | cons c r => exact a c (List.mem_cons_self ..)
    have r := run_app a t (32 :: post) (sp (p := isDig) (by decide))
    unfold readTok
    rw [g0, hd_getD ne, if_neg (by rw [dig_no_let h0]; exact Bool.false_ne_true), if_pos h0, r, if_pos l]
  simp only [ODD, List.mem_cons, List.not_mem_nil, or_false] at h
  rcases h with rfl | rfl | rfl | rfl | rfl | rfl | rfl | rfl | rfl | rfl | rfl | rfl | rfl | rfl
  · exact plain 65 (32 :: post) rfl rfl rfl (fun z => by cases z) (by decide)
  · exact plain 63 (32 :: post) rfl rfl rfl (fun z => by cases z) (by decide)
  · exact plain 46 (32 :: post) rfl rfl rfl (fun z => by cases z) (by decide)
  · exact plain 39 (32 :: post) rfl rfl rfl (fun _ => rfl) (by decide)
  · exact plain 39 (65 :: 32 :: post) rfl rfl rfl (fun _ => rfl) (by decide)
  · exact plain 95 (32 :: post) rfl rfl rfl (fun z => by cases z) (by decide)
  · exact plain 9 (32 :: post) rfl rfl rfl (fun z => by cases z) (by decide)
  · exact plain 59 (32 :: post) rfl rfl rfl (fun z => by cases z) (by decide)
  · exact plain 39 (39 :: 32 :: post) rfl rfl rfl (fun _ => rfl) (by decide)
  · exact digs _ rfl (by decide) (by decide) (.inl (by decide))
  · exact digs _ rfl (by decide) (by decide) (.inr (by decide))
  · exact word _ rfl (by decide) rfl (by decide)
  · have a : ∀ c ∈ List.replicate 41 99, isLat c = true := by decide
    have r := run_app1 a t 39 (32 :: post) (sp (p := isLat) (by decide))
    have q : quoAt (t ++ (39 :: List.replicate 41 99 ++ (32 :: post))) t.length = true := by
      unfold quoAt
      rw [g0, g1]
      rfl
    have g39 : (t ++ (39 :: List.replicate 41 99 ++ (32 :: post))).getD t.length 0 = 39 := g0
    unfold readTok
    rw [g39, if_neg (show ¬ isLet 39 = true by decide), if_neg (show ¬ isDig 39 = true by decide), if_pos q, show run isLat (t ++ (39 :: List.replicate 41 99 ++ (32 :: post))) (t.length + 1) = List.replicate 41 99 from r, if_pos (by decide)]
    rfl
  · exact plain 62 (32 :: post) rfl rfl rfl (fun z => by cases z) (by decide)
/-- an odd thing behind a blank at a place is refused there -/
theorem refused_odd {P : List Nat} {D : List Tok} (h : GoodP P D) {o : List Nat} (ho : o ∈ ODD) (rest : List Nat) : go (P ++ (32 :: (o ++ (32 :: rest)))) 0 [] = .inl (P.length + 1 + oddAt o) := by
  rw [h, go_bl (by simp) (by rw [getD_app]; rfl)]
  have e : P ++ (32 :: (o ++ (32 :: rest))) = (P ++ [32]) ++ (o ++ (32 :: rest)) := by simp
  have l : P.length + 1 = (P ++ [32]).length := by simp
  have ol : 0 < o.length := (by decide : ∀ o ∈ ODD, 0 < o.length) o ho
  have ob : isBl (o.getD 0 0) = false := (by decide : ∀ o ∈ ODD, isBl (o.getD 0 0) = false) o ho
  rw [e, l]
  exact go_no (by simp; omega) (by rw [getD_app, hd_getD (List.length_pos_iff.mp ol)]; exact ob) (odd_no ho (P ++ [32]) rest)
end K9
namespace K9
open PySem L2
def top (i : Nat) : Stmt := PySem.Challenge.pw_askproved_k09_texts_are_the_tokens_that.main.body.getD i (.Pass ⟨0, 0, 0, 0⟩)
def sInit : Stmt := match top 2 with
  | .ClassDef _ _ _ b _ _ _ _ _ _ _ => b.getD 0 (.Pass ⟨0, 0, 0, 0⟩)
  | s => s
end K9
namespace K9
open PySem PySem.W PySem.Calls PyProof.Rows PySem.HandSPX L2
/-- what the written part says of RefusedText, at C, and of its __init__, at fI -/
structure RefTxt (P : Program) (K : Frag) (mg : Str → Option Value) (C fI : Addr) : Prop where
  gC : mg "RefusedText" = some (.ref C)
  gSup : mg "super" = none
  gStr : mg "str" = none
  cls : ∃ nm q N bs bm sn sub ab col dd k0 k1 k2 k3 k5, K.lookup C = some (excClassObj nm q C N bs bm true sn sub ab col dd k0 k1 k2 k3 k5 "ValueError.__new__") ∧ refsVE bm = true ∧ alongIn K "__init__" bm = some (some (.builtin "ValueError.__init__"))
  sa : findIn K (.ref C) "__setattr__" = some (some (.builtin "object.__setattr__"))
  noN : findIn K (.ref C) "position" = some none
  iC : findIn K (.ref C) "__init__" = some (some (.ref fI))
  tC : typeIn K (.ref fI) = some (.type "function")
  kC : keepIn K (.ref C) = true
  exC : subIn K (.ref C) (.type "BaseException") = some true
  veC : subIn K (.ref C) (.type "ValueError") = some true
  sC : mroIn K C (.ref C) = some true
  tyC : typeIn K (.ref C) = some (.type "type")
  noX : nsIn K cStatics "thirdparty.any" = some none
  fn : ∃ (oc ccl ctl : Value) (od cdd ctd : Option Addr) (doc pm : Value) (an : Option Addr) (cda cc : Addr) (ct : Value) (osl ccs cts : Array (Option Value)) (vs : Array Value) (file : Str) (tf : PySem.Tok),
    K.lookup fI = some ⟨oc, od, .func (ksFn "__init__" "RefusedText.__init__" (defArgs sInit) (defBody sInit) (defScope sInit) .none .none doc pm an (.ref cda) ct cc), osl⟩ ∧ codeIn K (.ref cda) "RefusedText.__init__" = true ∧
    K.lookup cda = some ⟨ccl, cdd, .fields vs, ccs⟩ ∧ vs[2]? = some (.str file tf) ∧ ((P.main.file : Str) == file) = true ∧ (P.main.scope.names.lookup ("super" : Str)).isSome = false ∧
    K.lookup cc = some ⟨ctl, ctd, .cell (some (.ref C)), cts⟩
theorem one_size (v : Value) : [v].length ≤ sizeLine := by
  rw [sizeLine_eq]
  exact (by decide : 1 ≤ 16777216)
/-- what __init__ leaves of a fresh exception at x -/
structure InitEnd (h h' : Heap) (x C dx t1 : Addr) (v : Value) : Prop where
  keep : ∀ b o, b ≠ x → h.get? b = some o → h'.get? b = some o
  obj : h'.get? x = some { cls := .ref C, dict := some dx, data := .fields #[.ref t1, .none, .none, .none, .bool false, .none] }
  dbig : h.objs.size ≤ dx
  dne : dx ≠ x
  ns : h'.Ns1 dx (fun y => if y = "position" then some v else none)
/-- a made RefusedText -/
structure OwnMade (h h' : Heap) (e C d : Addr) (v : Value) : Prop where
  keep : ∀ b o, h.get? b = some o → h'.get? b = some o
  new : h.objs.size ≤ e
  obj : ∃ oe vs, h'.get? e = some oe ∧ oe.cls = .ref C ∧ oe.dict = some d ∧ oe.data = .fields vs ∧ vs[1]? = some .none
  dbig : h.objs.size ≤ d
  dne : d ≠ e
  ns : h'.Ns1 d (fun y => if y = "position" then some v else none)
section
variable {prog : Program} {w : World} {A : Around} {E : Value → Shared → Prop} {R : Result → Shared → Prop} {s : Shared} {K : Frag} {mg mb : Str → Option Value} {C fI : Addr}
theorem log_small {n : Nat} (h : n ≤ 1000000) : ((n : Int)).natAbs.log2 < 1920 := by
  rw [Int.natAbs_natCast]
  by_cases z : n = 0
  · subst z
    decide
  · exact Nat.lt_of_lt_of_le ((Nat.log2_lt z).mpr (Nat.lt_of_le_of_lt h (by decide : 1000000 < 2 ^ 20))) (by decide)
theorem ldI {M : Model} {h : Heap} {g : Array GenState} {d : Drawn} {t : Nat} {os : OsState} {env : Env} {m : Str → Option Value} {x : Str} {pos : Pos} {v : Value} {Q : Value → Shared → Prop} {A : Around} {E : Value → Shared → Prop} (hn : h.Ns env.locals m) (hv : m x = some v) (q : Q v ⟨h, g, d, t, os⟩)
    (hk : env.scope.kind = .function) (hl : env.kindOf x = some .local) (hd : (x == ("__debug__" : Str)) = false := by decide) :
    wpAny M A (eval (.Name x pos) env) Q E ⟨h, g, d, t, os⟩ := wpAny_Name (wpAny_loadName_local hk hl hn hv q) hd
theorem ref_init (T : RefTxt prog K mg C fI) {x t0 : Addr} {n : Nat} {tn : PySem.Tok} (hn : n ≤ 1000000) (X : K.In s.heap) (hlim : s.heap.NoLimit) (hG : s.heap.Ns mainGlobals mg) (hB : s.heap.Ns builtinsNs mb) (hmb : ∀ x : Str, x ≠ "__name__" → mb x = bootBuiltins x)
    (hx : s.heap.get? x = some (excO C t0)) (hnx : K.lookup x = none) (hroom : A.depth < recursionLimit)
    (hq : ∀ h' tk dx t1, InitEnd s.heap h' x C dx t1 (.int n tn) → R (.ok (.ret .none)) { s with heap := h', toks := tk }) :
    codeAny (model prog w) A (.call (.ref fI) ⟨[.ref x, .int n tn], []⟩) R s := by
  obtain ⟨oc, ccl, ctl, od, cdd, ctd, doc, pm, an, cda, cc, ct, osl, ccs, cts, vs, file, tf, ho, hcd, hcode, hvs, hfile, htop, hcell⟩ := T.fn
  obtain ⟨nm, q, N, bs, bm, sn, sub, ab, col, dd, k0, k1, k2, k3, k5, hC, hbm, hal⟩ := T.cls
  have hcl : clsIn K C = some { name := nm, bases := bs, mro := .ref C :: bm, ns := N, qualname := q, hasDict := true, slotNames := sn, subclasses := sub, abstract := ab, collection := col, hasDel := false } := by unfold clsIn; rw [hC] <;> rfl
  refine ks_codeAny_call_defAt (fd := ksFn "__init__" "RefusedText.__init__" (defArgs sInit) (defBody sInit) (defScope sInit) .none .none doc pm an (.ref cda) ct cc) (body := defBody sInit) (binds := [("self", .ref x), ("position", .int n tn)])
    hroom (X _ _ ho) rfl hlim (codeRec_of X hcd) rfl (BindsTo.of_eq (by first | rfl | with_unfolding_all rfl)) (show ∀ y ∈ (defScope sInit).names, y.2 ≠ .cell by decide +kernel)
    (fun y hy => by
      rcases List.mem_cons.mp hy with rfl | hy
      · exact (by decide +kernel : (defScope sInit).names.lookup ("self" : Str) = some .local)
      · obtain rfl := List.mem_singleton.mp hy
        exact (by decide +kernel : (defScope sInit).names.lookup ("position" : Str) = some .local)) (fun h₁ hns k => ?_)
  obtain ⟨hp, g, d, t, os⟩ := s
  have hns : h₁.Ns hp.objs.size (fun y => ([("self", Value.ref x), ("position", .int n tn)] : List (Str × Value)).reverse.lookup y) := hns
  have k : ∀ b o, hp.get? b = some o → h₁.get? b = some o := k
  have hx : hp.get? x = some (excO C t0) := hx
  have X : K.In hp := X
  have X₁ : K.In h₁ := X.keeps k
  have hx₁ := k _ _ hx
  have hG₁ : h₁.Ns mainGlobals mg := Heap.Ns.keeps hG k
  have hB₁ : h₁.Ns builtinsNs mb := Heap.Ns.keeps hB k
  show _root_.PySem.wpAt (model prog w) _ _ (execs (defBody sInit) (ksEnv "RefusedText.__init__" (defScope sInit) hp.objs.size fI (.ref cda) cc)) _ _ _
  refine ks_wpAt_execs_cons (ks_wpAt_Expr_any (ks_wpAt_MethodCall ?_))
  have kSup : (ksEnv "RefusedText.__init__" (defScope sInit) hp.objs.size fI (.ref cda) cc).kindOf "super" = some .globalImplicit := (by decide +kernel : (defScope sInit).names.lookup ("super" : Str) = some .globalImplicit)
  have kStr : (ksEnv "RefusedText.__init__" (defScope sInit) hp.objs.size fI (.ref cda) cc).kindOf "str" = some .globalImplicit := (by decide +kernel : (defScope sInit).names.lookup ("str" : Str) = some .globalImplicit)
  have kCls : (ksEnv "RefusedText.__init__" (defScope sInit) hp.objs.size fI (.ref cda) cc).kindOf "__class__" = some .free := (by decide +kernel : (defScope sInit).names.lookup ("__class__" : Str) = some .free)
  have kSelf : (ksEnv "RefusedText.__init__" (defScope sInit) hp.objs.size fI (.ref cda) cc).kindOf "self" = some .local := (by decide +kernel : (defScope sInit).names.lookup ("self" : Str) = some .local)
  have kPos : (ksEnv "RefusedText.__init__" (defScope sInit) hp.objs.size fI (.ref cda) cc).kindOf "position" = some .local := (by decide +kernel : (defScope sInit).names.lookup ("position" : Str) = some .local)
  have kFun : (ksEnv "RefusedText.__init__" (defScope sInit) hp.objs.size fI (.ref cda) cc).scope.kind = .function := rfl
  refine ks_wpAt_super_base (ar := { arg := "self", annotation := none, pos := ⟨6, 17, 6, 21⟩ }) kSup kCls (by decide +kernel) rfl (X₁ _ _ ho) rfl rfl rfl (X₁ _ _ hcode) rfl hvs hfile htop ?_
  refine ks_loadName_global kFun kSup (loadGlobal_builtin hG₁ T.gSup hB₁ ((hmb _ (by decide)).trans (by first | exact PyProof.Rows.Boot.«super» | kernel_rfl)) ⟨rfl, ?_⟩)
  refine wpAny_loadName_free kFun kCls rfl ⟨_, X₁ _ _ hcell, rfl⟩ ?_
  refine wpAny_loadName_local kFun kSelf hns rfl ?_
  refine ks_wpAny_isType_cls (X₁ _ _ hC) rfl ⟨rfl, ?_⟩
  refine ks_wpAny_call_super (X₁ _ _ hC) rfl hx₁ rfl (fun c e => by cases e) (looks_mroIn X₁ T.sC) (fun h₂ hso k₂ => ?_)
  have X₂ : K.In h₂ := X₁.keeps k₂
  have I₂ : InstAt h₂ x (excO C t0) C none := ⟨k₂ _ _ hx₁, rfl, rfl, trivial⟩
  refine kxs_getMethod (B := "ValueError") kxs_ValueError hso (looks_opaque X₂ T.noX) (l₀ := .ref C :: bm) ((looks_clsIn X₂ hcl).andThen .now) (by simp [List.dropWhile_cons]) X₂ hal (I₂.type.andThen (looks_subIn X₂ T.veC)) (ks_ne X₂ I₂ hcl) (by decide +kernel) ?_
  have k₃ : ∀ b o, h₂.get? b = some o → (h₂.push (kxs_mw "ValueError.__init__" x)).get? b = some o := fun b o e => Heap.get?_push_of_some _ e
  have hu : (h₂.push (kxs_mw "ValueError.__init__" x)).get? h₂.objs.size = some (kxs_mw "ValueError.__init__" x) := Heap.get?_push_at rfl rfl
  generalize h₂.push (kxs_mw "ValueError.__init__" x) = h₃ at k₃ hu ⊢
  have k13 : ∀ b o, h₁.get? b = some o → h₃.get? b = some o := fun b o e => k₃ b o (k₂ b o e)
  have X₃ : K.In h₃ := X₂.keeps k₃
  refine kxs_callWith (i := "ValueError.__init__") (x := x) rfl (evalArgs_plain (spliced_cons ?_))
  refine wpAny_BinOp (wpAny_Constant_str ?_)
  refine wpAny_Call_Name_kw (Name_function_global kFun kStr (loadGlobal_builtin (Heap.Ns.keeps hG₁ k13) T.gStr (Heap.Ns.keeps hB₁ k13) ((hmb _ (by decide)).trans (by first | exact PyProof.Rows.Boot.«str» | kernel_rfl)) ?_))
  refine PyProof.Rows.callWith_type1 (spliced_cons (ldI (v := .int n tn) (Heap.Ns.keeps hns k13) rfl (spliced_nil (PySem.P.str_of_int (log_small hn) ?_)) kFun kPos))
  refine PyProof.Rows.add_str (fun t' tk => spliced_nil ⟨hu, ?_⟩) ?_
  · have he₃ : h₃.get? x = some (excRec (.ref C) t0 none .none .none (.bool false)) := k13 _ _ hx₁
    have hC₃ : h₃.get? C = some (excClassObj nm q C N bs bm true sn sub ab col dd k0 k1 k2 k3 k5 "ValueError.__new__") := X₃ _ _ hC
    refine wpAny_call (codeAny_of_tree ?_)
    refine wpAny_bind (wpAny_load hu ?_)
    simp only [kxs_mw, show (Value.type "method-wrapper" == Value.type "method" || Value.type "method-wrapper" == Value.type "builtin_function_or_method" || Value.type "method-wrapper" == Value.type "method-wrapper") = true by decide, if_true]
    refine KFB.if_so (by decide) ?_
    refine wpAny_bind (check_bound_init F.excBase_ValueError.toExcCallFacts hC₃ he₃ rfl ?_)
    refine wpAny_bind (wpAny_pure (wpAny_pure ?_))
    refine ⟨plainId_quiet F.excBase_ValueError.init.plain _, codeAny_builtin F.excBase_ValueError.initEntry ?_⟩
    refine exc_init_tree (cls := .ref C) (t0 := t0) (dv := none) (c2 := .none) (c3 := .none) (b4 := .bool false) he₃ (one_size _) fun h₄ k₄ e₄ _ => ?_
    have xL : hp.objs.size ≠ x := Nat.ne_of_gt (Heap.lt_size hx)
    have hns₄ : h₄.Ns hp.objs.size (fun y => ([("self", Value.ref x), ("position", .int n tn)] : List (Str × Value)).reverse.lookup y) := by
      obtain ⟨o, es, ep, e1, e2⟩ := Heap.Ns.keeps hns k13
      exact ⟨o, es, ep, k₄ _ _ xL e1, e2⟩
    have xK : ∀ b o, K.lookup b = some o → b ≠ x := fun b o z y => by
      rw [y, hnx] at z
      cases z
    have X₄ : K.In h₄ := fun b o z => k₄ b o (xK b o z) (X₃ b o z)
    have e₄ : h₄.get? x = some (excO C h₃.objs.size) := e₄
    refine ks_wpAt_execs_cons (ks_wpAt_Assign_Attr ?_)
    refine _root_.PySem.wpAt_of_wpAny (ldI (v := .int n tn) hns₄ rfl ?_ kFun kPos)
    refine ldI (v := .ref x) hns₄ rfl ?_ kFun kSelf
    refine set_plain X₄ (ox := excO C h₃.objs.size) (od := none) ⟨e₄, rfl, rfl, trivial⟩ T.sa ?_
    refine exc_osa X₄ e₄ hcl (show refsVE (.ref C :: bm) = true from hbm) rfl T.noN (fun h₅ tk₅ dx k₅ dn dne hx₅ hn₅ => ?_)
    show _root_.PySem.wpAt _ _ _ (execs _ _) _ _ _
    refine _root_.PySem.wpAt_of_wpAny (wpAny_execs_nil ?_)
    have z2 : hp.objs.size < h₄.objs.size := by
      obtain ⟨o, es, ep, e1, e2⟩ := hns₄
      exact Heap.lt_size e1
    exact hq h₅ tk₅ dx _ ⟨fun b o hb e => k₅ b o hb (k₄ b o hb (k13 b o (k b o e))), hx₅, Nat.le_of_lt (Nat.lt_of_lt_of_le z2 dn), dne, hn₅⟩
  · have e := len_str_of_int (n : Int)
    have e1 : (Str.ofString "unexpected text at position ").length = 28 := by decide +kernel
    have e2 : ((n : Int)).natAbs = n := Int.natAbs_natCast n
    rw [sizeLine_eq]
    omega
theorem ref_made (T : RefTxt prog K mg C fI) {n : Nat} {tn : PySem.Tok} (hn : n ≤ 1000000) (X : K.In s.heap) (hlim : s.heap.NoLimit) (hG : s.heap.Ns mainGlobals mg) (hB : s.heap.Ns builtinsNs mb) (hmb : ∀ x : Str, x ≠ "__name__" → mb x = bootBuiltins x)
    (hroom : A.depth + 1 < recursionLimit)
    (hq : ∀ h' tk e d, OwnMade s.heap h' e C d (.int n tn) → R (.ok (.ret (.ref e))) { s with heap := h', toks := tk }) :
    codeAny (model prog w) A (.call (.ref C) ⟨[.int n tn], []⟩) R s := by
  obtain ⟨nm, q, N, bs, bm, sn, sub, ab, col, dd, k0, k1, k2, k3, k5, hC, hbm, _⟩ := T.cls
  obtain ⟨hp, g, dr, tk, os⟩ := s
  have k : ∀ b o, hp.get? b = some o → ((hp.push (kdv_tup [Value.int n tn])).push (excO C hp.objs.size)).get? b = some o := fun b o e => Heap.get?_push_of_some _ (Heap.get?_push_of_some _ e)
  have hget : ((hp.push (kdv_tup [Value.int n tn])).push (excO C hp.objs.size)).get? (hp.objs.size + 1) = some (excO C hp.objs.size) := by heap_get
  have hnx : K.lookup (hp.objs.size + 1) = none := by
    cases e : K.lookup (hp.objs.size + 1) with
    | none => rfl
    | some o =>
      have z : hp.get? (hp.objs.size + 1) = some o := X _ _ e
      exact absurd (Nat.lt_of_succ_lt (Heap.lt_size z)) (Nat.lt_irrefl _)
  refine call_own F.excBase_ValueError (fun X => refsVE_contains X bm hbm) (X _ _ hC) (looks_findIn X T.iC) (fun self => bind_fn X self T.tC) (one_size _) ?_
  refine ref_init (s := ⟨(hp.push (kdv_tup [Value.int n tn])).push (excO C hp.objs.size), g, dr, tk, os⟩) T hn (X.keeps k) (hlim.keeps k) (Heap.Ns.keeps hG k) (Heap.Ns.keeps hB k) hmb hget hnx ?_ fun h' tk' dx t1 ⟨k', hx, dn, dne, hns⟩ => ?_
  · show A.depth + 1 < recursionLimit
    exact hroom
  · have old : ∀ b o, hp.get? b = some o → h'.get? b = some o := fun b o e => k' b o (Nat.ne_of_lt (Nat.lt_succ_of_lt (Heap.lt_size e))) (k b o e)
    have z : hp.objs.size + 1 + 1 ≤ dx := by
      first
        | (simpa only [Heap.size_push] using dn)
        | exact dn
        | (have q := dn; rw [Heap.size_push, Heap.size_push] at q; exact q)
    exact ⟨rfl, hq h' tk' (hp.objs.size + 1) dx ⟨old, Nat.le_succ _, ⟨_, _, hx, rfl, rfl, rfl, rfl⟩, Nat.le_trans (Nat.le_trans (Nat.le_succ _) (Nat.le_succ _)) z, dne, hns⟩⟩
end
end K9
namespace K9
open PySem L2 PySem.Spec PyProof.Rows
theorem relO_pos {v : V} {v' : Value} (r : RelV v v') (f : Str) : RelO (List.lookup f [(("position" : Str), v)]) (if f = "position" then some v' else none) := by
  by_cases hw : f = "position"
  · subst hw
    rw [if_pos rfl]
    have q : List.lookup ("position" : Str) [(("position" : Str), v)] = some v := by simp [List.lookup]
    rw [q]
    exact r
  · rw [if_neg hw]
    have qw : (f == ("position" : Str)) = false := by simpa using hw
    have q2 : List.lookup f [(("position" : Str), v)] = none := by simp [List.lookup, qw]
    rw [q2]
    trivial
section
variable {X : Cx} {C fI : Addr}
/-- RefusedText(e) -/
def tMkRef (C : Addr) (ta : TA) : L2.St → Hp → XK → Prop := fun σ H Q => ta σ H fun vs H1 => ∃ n : Nat, vs = [.int (n : Int)] ∧ n ≤ 1000000 ∧ ∀ d, H1 d = none → Q (.ref C) (some d) (upd H1 d (.xd [(("position" : Str), .int (n : Int))]))
theorem pmk_ref {a : Expr} {ta : TA} {p pos : Pos} {k : Nat} (T : RefTxt X.prog X.K X.mg C fI) (hr : Room k X.A) (ha : PA X [a] ta) (hg : Gl X "RefusedText" := by rfl)
    (he : starEach (a :: []) X.env = (false, eval a X.env) :: starEach [] X.env := by rfl) (hpl : (backTo pos (starEach [] X.env)).any (·.1) = false := by rfl) :
    PMk X (.Call (.Name "RefusedText" p) [a] [] pos) (tMkRef C ta) := by
  intro pins s σ H Q I h
  refine wpAny_Call_Name_kw (ld_glob I hg T.gC ?_)
  refine PySem.W.callWith_K (h₀ := X.base) I.ok.mod.kin T.kC (thn (ha.run pos pins s σ H _ I h) fun us s1 hh => ?_) he hpl
  obtain ⟨vs, H1, I1, r1, n, ev, hn, q1⟩ := hh
  subst ev
  refine ⟨I1.kIn, ?_⟩
  cases r1 with
  | cons rv rn =>
    rename_i v' us'
    cases rn
    obtain ⟨tn, rfl⟩ := rv
    show wpAny _ _ (call (.ref C) [Value.int n tn]) _ _ _
    have hlim := I1.nolimit
    obtain ⟨mb, hB, hmb⟩ := I1.mod.blt
    have hB' := hB.keeps I1.bk
    have hG' := I1.mod.glob.keeps I1.bk
    obtain ⟨hp, g, dr, tk, os⟩ := s1
    refine wpAny_call (ref_made T hn I1.kIn hlim hG' hB' hmb (by have := hr.dp; omega) fun h' tk' e d M => ?_)
    show MkP X pins σ Q (.ref e) ⟨h', g, dr, tk', os⟩
    obtain ⟨oe, fv, hoe, hc, hd, hdat, h1⟩ := M.obj
    have hns := M.ns
    obtain ⟨G', g1, g2⟩ := restrict h' fun b => decide (b ≠ e)
    have gk : ∀ b, b ≠ e → G'.get? b = h'.get? b := fun b hb => g1 b (decide_eq_true hb)
    have ge : G'.get? e = none := g2 e (by simp)
    have old : ∀ b o, hp.get? b = some o → G'.get? b = some o := fun b o q => (gk b (Nat.ne_of_lt (Nat.lt_of_lt_of_le (Heap.lt_size q) M.new))).trans (M.keep b o q)
    have ob : ObjOk X.prog X.w (upd H1 d (.xd [(("position" : Str), .int (n : Int))])) G' d (.xd [(("position" : Str), .int (n : Int))]) :=
      ⟨_, hns.at (fun o q => (gk d M.dne).trans q), fun f => relO_pos (v := .int (n : Int)) (v' := .int n tn) ⟨tn, rfl⟩ f⟩
    have J : Inv X pins σ (upd H1 d (.xd [(("position" : Str), .int (n : Int))])) ⟨G', g, dr, tk', os⟩ := I1.laid (t' := tk') old M.dbig ob
    refine ⟨e, oe, fv, ⟨G', g, dr, tk', os⟩, _, .ref C, some d, rfl, J, fun b o q => ?_, ge, hoe, ⟨hc, hd⟩, hdat, h1, ?_, rfl, I1.bare, raises_own T.exC T.tyC, q1 d (I1.hok.fresh M.dbig)⟩
    · by_cases hb : b = e
      · have q' : G'.get? b = some o := q
        rw [hb, ge] at q'; cases q'
      · exact (gk b hb).symm.trans q
    · rw [upd_ne (Ne.symm M.dne)]
      exact I1.hok.fresh M.new
/-- raise RefusedText(e) -/
def tRaiseRef (C : Addr) (W : WX) (ta : TA) : TS := fun _ σ H => tMkRef C ta σ H fun cls d H' => W cls d σ H'
theorem ps_raiseRef {a : Expr} {ta : TA} {W : WX} {p pos pos2 : Pos} {k : Nat} (hc : X.calm = true) (T : RefTxt X.prog X.K X.mg C fI) (hr : Room k X.A) (tk : Takes X W) (ha : PA X [a] ta) (hg : Gl X "RefusedText" := by rfl)
    (he : starEach (a :: []) X.env = (false, eval a X.env) :: starEach [] X.env := by rfl) (hpl : (backTo pos (starEach [] X.env)).any (·.1) = false := by rfl) :
    PS X (.Raise (some (.Call (.Name "RefusedText" p) [a] [] pos)) none pos2) (tRaiseRef C W ta) := ps_raise hc tk (pmk_ref T hr ha hg he hpl)
end
end K9
namespace K9
open PySem L2
abbrev S (l : List Nat) : Str := SX.S l
theorem S_toList (l : List Nat) : (S l).cps.toList = l := by simp [SX.S]
theorem S_len (l : List Nat) : (S l).length = l.length := SX.S_len l
theorem S_at {l : List Nat} {i : Nat} (h : i < l.length) : (S l).cps[i]? = some (l.getD i 0) := by
  show l.toArray[i]? = _
  rw [List.getElem?_toArray, List.getElem?_eq_getElem h, List.getD_eq_getElem?_getD, List.getElem?_eq_getElem h]
  rfl
theorem S_inj {a b : List Nat} : S a = S b ↔ a = b := ⟨fun h => by
  have := congrArg (fun z : Str => z.cps.toList) h
  simpa [SX.S] using this, fun h => by rw [h]⟩
abbrev sEnd : Stmt := top 12
abbrev sWord : Stmt := top 13
abbrev sTokR : Stmt := top 14
abbrev sTokz : Stmt := top 15
abbrev sNext : Stmt := top 17
abbrev sSame : Stmt := top 18
abbrev sDrawn : Stmt := top 19
abbrev sJoins : Stmt := top 20
abbrev sRef : Stmt := top 21
abbrev sLaw : Stmt := top 22
/-- a text, a number of the module's top -/
def GS (mg : Str → Option Value) (x : Str) (l : List Nat) : Prop := ∃ t, mg x = some (.str (S l) t)
def GI (mg : Str → Option Value) (x : Str) (n : Int) : Prop := ∃ t, mg x = some (.int n t)
theorem pe_gs {X : Cx} {x : Str} {l : List Nat} {pos : Pos} (hm : GS X.mg x l) (hg : Gl X x := by rfl) (hd : (x == ("__debug__" : Str)) = false := by decide) : PE X (.Name x pos) (tC (.str (S l))) := by
  obtain ⟨t, h⟩ := hm
  exact pe_glob (u := _) hg h ⟨_, rfl⟩ hd
theorem pe_gi {X : Cx} {x : Str} {n : Int} {pos : Pos} (hm : GI X.mg x n) (hg : Gl X x := by rfl) (hd : (x == ("__debug__" : Str)) = false := by decide) : PE X (.Name x pos) (tC (.int n)) := by
  obtain ⟨t, h⟩ := hm
  exact pe_glob (u := _) hg h ⟨_, rfl⟩ hd
/-- a def of the module under its name -/
structure Dd (K : PySem.W.Frag) (mg : Str → Option Value) (x : Str) (st : Stmt) (ps : List Str) (f : Addr) (fd : FuncData) : Prop where
  fn : Fun K x x st f fd
  b : Binds K fd ps []
  g : mg x = some (.ref f)
  k : PySem.W.keepIn K (.ref f) = true
structure Txt (P : Program) (K : PySem.W.Frag) (mg : Str → Option Value) (C fI : Addr) : Prop where
  len : mg "len" = none
  int : mg "int" = none
  str : mg "str" = none
  min : mg "min" = none
  tuple : mg "tuple" = none
  list : mg "list" = none
  range : mg "range" = none
  bool : mg "bool" = none
  isi : mg "isinstance" = none
  ref : RefTxt P K mg C fI
  LAT : GS mg "LATER" LAT
  LET : GS mg "LETTERS" LET
  DIG : GS mg "DIGITS" DIG
  MW : GI mg "MOST_WORD" 40
  MD : GI mg "MOST_DIGITS" 13
  MN : GI mg "MOST_NUMBER" 1000000000000
def LINE : Nat := 100000
theorem if_true_of {c : Bool} {A B : Prop} (hc : c = true) (h : A) : if c = true then A else B := by
  rw [if_pos hc]
  exact h
theorem if_false_of {c : Bool} {A B : Prop} (hc : c = false) (h : B) : if c = true then A else B := by
  rw [hc, if_neg Bool.false_ne_true]
  exact h
/-! ### end_of -/
def spEnd : Sp := fun vs H Q _ => ∃ (t : List Nat) (i : Nat) (L : List Nat), vs = [.str (S t), .int (i : Int), .str (S L)] ∧ i ≤ t.length ∧ t.length ≤ LINE ∧ Q (.int ((endOf (fun c => decide (c ∈ L)) t i : Nat) : Int)) H
section
variable {P : Program} {w : World} {K : PySem.W.Frag} {mg : Str → Option Value} {base : Heap}
theorem scEnd : FnScope ["text", "start", "letters", "end"] ["text", "start", "letters"] (defScope sEnd) := ⟨rfl, rfl, rfl, by decide +kernel, rfl, by decide +kernel, by decide +kernel⟩
theorem line_size {n : Nat} (h : n ≤ LINE) : n ≤ sizeLine := Nat.le_trans h (by decide)
theorem ok_end {f : Addr} {fd : FuncData} {C fI : Addr} (F : Fun K "end_of" "end_of" sEnd f fd) (T : Txt P K mg C fI) : FnOk P w K mg base CX0 1 f fd ["text", "start", "letters"] spEnd := by
  refine F.ok scEnd (fun vs H Q E h => ?_) (fun cdv A outer s H vs Q E hr h => ?_)
  · obtain ⟨t, i, L, rfl, _⟩ := h
    rfl
  · obtain ⟨t, i, L, rfl, hi, hl, k⟩ := h
    refine ⟨_, pss_cons (ps_set (i := 3) scEnd.nd rfl (Or.inl rfl) (pv 1))
      (pss_cons (ps_while PassesOwn.never (PW.pt (pw_and (pt_cmpR op_lt (pv 3) (pe_callB call_len_str (by rfl) T.len PySem.boot_len (pa_cons (pv 0) pa_nil)) (nomark _))
          (pw_and1 (pt_cmpR op_in_sign (pe_item_str (pv 0) (pv 3) (fun _ _ => rfl)) (pv 2) rfl))))
        (pss_one (ps_aug (i := 3) scEnd.nd rfl (Or.inl rfl) pe_int ip_add)))
      (pss_one (ps_ret (pv 3)))), ?_⟩
    refine ⟨_, rfl, fun m σ H' => ∃ j : Nat, σ = [some (.str (S t)), some (.int (i : Int)), some (.str (S L)), some (.int (j : Int))] ∧ H' = H ∧ j ≤ t.length ∧ m = t.length - j ∧ endOf (fun c => decide (c ∈ L)) t j = endOf (fun c => decide (c ∈ L)) t i, ⟨_, i, rfl, rfl, hi, rfl, rfl⟩, ?_⟩
    rintro m σ H' ⟨j, rfl, rfl, hj, rfl, e⟩
    refine ⟨_, rfl, _, rfl, _, rfl, (by rw [S_len]; exact line_size hl), _, _, rfl, rfl, _, rfl, ?_⟩
    rw [S_len]
    by_cases hlt : j < t.length
    · refine if_true_of (decide_eq_true (by omega)) ?_
      refine ⟨_, rfl, _, rfl, S t, _, _, rfl, rfl, by omega, ?_, by rw [S_len]; omega, (by rw [Int.toNat_natCast]; exact S_at hlt), ?_⟩
      · have : t.length ≤ 100000 := hl
        omega
      refine ⟨_, rfl, _, S L, rfl, rfl, _, rfl, ?_⟩
      rw [S_toList]
      by_cases hc : t.getD j 0 ∈ L
      · refine if_true_of (decide_eq_true hc) ?_
        refine ⟨fun σ'' H'' => σ'' = [some (.str (S t)), some (.int (i : Int)), some (.str (S L)), some (.int ((j + 1 : Nat) : Int))] ∧ H'' = H', ?_, ?_⟩
        · rintro σ'' H'' ⟨rfl, rfl⟩
          exact ⟨t.length - (j + 1), by omega, j + 1, rfl, rfl, hlt, rfl, (endOf_step (p := fun c => decide (c ∈ L)) hlt (decide_eq_true hc)).symm.trans e⟩
        · refine ⟨_, rfl, _, _, rfl, rfl, rfl, rfl⟩
      · refine if_false_of (decide_eq_false hc) ?_
        refine ⟨_, rfl, ?_⟩
        rw [← e, endOf_stop (fun z => hc (of_decide_eq_true z.2))] at k
        exact k
    · refine if_false_of (decide_eq_false (by omega)) ?_
      refine ⟨_, rfl, ?_⟩
      rw [← e, endOf_stop (fun z => hlt z.1)] at k
      exact k
/-! ### read_word -/
theorem cut_run (p : Nat → Bool) {t : List Nat} {i : Nat} (hi : i ≤ t.length) : cutS (S t) (some (i : Int)) (some ((endOf p t i : Nat) : Int)) = S (run p t i) := by
  unfold cutS
  rw [HT.sIx_nat, HT.sIx_nat, S_toList, S_len, Nat.min_eq_left hi, Nat.min_eq_left (endOf_le hi), run_cut]
def spWord (C : Addr) : Sp := fun vs H Q E => ∃ (t : List Nat) (i : Nat), vs = [.str (S t), .int (i : Int)] ∧ i ≤ t.length ∧ t.length ≤ LINE ∧
  (40 < (run isLat t i).length → ∀ d : Addr, H d = none → E (.ref C) (some d) (upd H d (.xd [(("position" : Str), .int (i : Int))]))) ∧
  (¬ 40 < (run isLat t i).length → ∀ p : Addr, H p = none → Q (.ref p) (upd H p (.tup [.str (S (run isLat t i)), .int ((endOf isLat t i : Nat) : Int)])))
theorem scWord : FnScope ["text", "start", "end"] ["text", "start"] (defScope sWord) := ⟨rfl, rfl, rfl, by decide +kernel, rfl, by decide +kernel, by decide +kernel⟩
theorem ok_word {f C fI fE : Addr} {fd fdE : FuncData} (F : Fun K "read_word" "read_word" sWord f fd) (T : Txt P K mg C fI) (DE : Dd K mg "end_of" sEnd ["text", "start", "letters"] fE fdE) : FnOk P w K mg base (L2.CX P w) 3 f fd ["text", "start"] (spWord C) := by
  have GE : FnOk P w K mg base CX0 1 fE fdE ["text", "start", "letters"] spEnd := ok_end DE.fn T
  refine F.okX scWord (fun vs H Q E h => ?_) (fun cdv A outer s H vs Q E hr h => ?_)
  · obtain ⟨t, i, rfl, _⟩ := h
    rfl
  · obtain ⟨t, i, rfl, hi, hl, kE, kQ⟩ := h
    have hr1 : Room 1 _ := hr.mono (by decide)
    refine ⟨_, pss_cons (ps_set (i := 2) scWord.nd rfl (Or.inl rfl) (pe_call GE hr1 rfl DE.g DE.k DE.b .nil pass0 (pa_cons (pv 0) (pa_cons (pv 1) (pa_cons (pe_gs T.LAT) pa_nil)))))
      (pss_cons (ps_if (pt_cmpR op_gt (pe_op op_sub (pv 2) (pv 1)) (pe_gi T.MW) (nomark _)) (pss_one (ps_raiseRef (W := fun cls d _ H => E cls d H) rfl T.ref hr (takes_of rfl rfl rfl rfl) (pa_cons (pv 1) pa_nil))) pss_nil)
      (pss_one (ps_ret (pe_tup (pa_cons (pe_slice sl_str (pv 0) (po_some (pv 1)) (po_some (pv 2))) (pa_cons (pv 2) pa_nil)))))), ?_⟩
    refine ⟨_, rfl, _, rfl, t, i, LAT, rfl, hi, hl, ?_⟩
    refine ⟨_, rfl, _, rfl, _, _, rfl, rfl, _, _, rfl, rfl, _, rfl, ?_⟩
    have el : ((endOf isLat t i : Nat) : Int) - (i : Int) = ((run isLat t i).length : Int) := by
      unfold endOf
      omega
    by_cases c : 40 < (run isLat t i).length
    · refine if_true_of (decide_eq_true (by show (40 : Int) < ((endOf isLat t i : Nat) : Int) - (i : Int); omega)) ?_
      refine ⟨_, rfl, i, rfl, Nat.le_trans hi (Nat.le_trans hl (by decide)), fun d hd => kE c d hd⟩
    · refine if_false_of (decide_eq_false (by show ¬ (40 : Int) < ((endOf isLat t i : Nat) : Int) - (i : Int); omega)) ?_
      refine ⟨_, rfl, _, rfl, _, rfl, _, rfl, _, rfl, S t, rfl, (by rw [S_len]; exact line_size hl), _, rfl, (by show 2 ≤ sizeLine; decide), fun p hp => ?_⟩
      have e := cut_run isLat hi
      show Q (.ref p) (upd H p (.tup [.str (cutS (S t) (some (i : Int)) (some ((endOf isLat t i : Nat) : Int))), .int ((endOf isLat t i : Nat) : Int)]))
      rw [e]
      exact kQ c p hp
end
end K9
namespace K9
open PySem L2 PyProof.Rows
/-! ### tuples of the module's top -/
def GT (K : PySem.W.Frag) (mg : Str → Option Value) (x : Str) (xs : List V) : Prop := ∃ a, mg x = some (.ref a) ∧ ∀ H, SqT K H a xs
def tGT (K : PySem.W.Frag) (xs : List V) : TE := fun _ H Q => ∀ a, (∀ H', SqT K H' a xs) → Q (.ref a) H
theorem pe_gt {X : Cx} {x : Str} {xs : List V} {pos : Pos} (hm : GT X.K X.mg x xs) (hg : Gl X x := by rfl) (hd : (x == ("__debug__" : Str)) = false := by decide) : PE X (.Name x pos) (tGT X.K xs) := by
  obtain ⟨a, h, hs⟩ := hm
  exact ⟨fun pins s σ H Q I q => (pe_glob (v := V.ref a) hg h rfl hd).run pins s σ H Q I (q a hs)⟩
abbrev vs (l : List Nat) : V := .str (S l)
theorem eqV_strs (a b : List Nat) : eqV (vs a) (vs b) = decide (a = b) := by
  show (S a == S b) = _
  rw [show (S a == S b) = decide (S a = S b) from rfl]
  exact decide_eq_decide.mpr S_inj
theorem inV_strs (w : List Nat) : ∀ ls : List (List Nat), inV (vs w) (ls.map vs) = decide (w ∈ ls)
  | [] => rfl
  | a :: ls => by
    have ih := inV_strs w ls
    unfold inV at ih ⊢
    rw [List.map_cons, List.any_cons, ih, eqV_strs]
    by_cases h : w = a
    · subst h
      simp
    · have h' : ¬ a = w := fun z => h z.symm
      simp [h, h']
theorem flat_strs (ls : List (List Nat)) : (ls.map vs).all flatV = true := by
  rw [List.all_map]
  exact List.all_eq_true.mpr fun _ _ => rfl
structure TupTxt (K : PySem.W.Frag) (mg : Str → Option Value) : Prop where
  kw : GT K mg "KEYWORDS" (KW.map vs)
  sg : GT K mg "SIGNS" (SG.map vs)
/-- tuple(text) -/
theorem call_tupStr {X : Cx} (hc : X.calm = true) : CallR X (.type "tuple") (fun xs H Q => ∃ l : List Nat, xs = [vs l] ∧ l.length ≤ 1000 ∧ ∀ p, H p = none → Q (.ref p) (upd H p (.tup ((l.map fun c => [c]).map vs)))) := by
  intro pins s σ H xs us Q I r h
  obtain ⟨l, rfl, hl, q⟩ := h
  obtain ⟨u, rfl, t, rfl⟩ := vals1 r
  have hs : (S l).cps.size = l.length := S_len l
  refine PySem.call_tuple_str (I.ok.hd hc) (S l) t (fun h' tk acc hk hi => ?_) (by rw [hs, sizeLine_eq]; omega)
  have hlen : acc.toList.length = l.length := by
    have := hi.1
    rw [hs] at this
    simpa using this
  have hv : Vals ((l.map fun c => [c]).map vs) acc.toList := by
    refine vals_of_at (by simp [hlen]) fun j x u hx hu => ?_
    obtain ⟨c, u', hc, rfl⟩ := hi.2 j u (by simpa using hu)
    have hc' : l[j]? = some c := by
      rw [← S_toList l]
      simpa using hc
    have : x = vs [c] := by
      rw [List.getElem?_map, List.getElem?_map, hc'] at hx
      exact (Option.some.inj hx).symm
    subst this
    exact ⟨u', rfl⟩
  have I1 : Inv X pins σ H { s with heap := h' } := I.kept (t' := s.toks) hk
  have I2 : Inv X pins σ (upd H h'.objs.size (.tup ((l.map fun c => [c]).map vs))) { s with heap := h'.push { cls := .type "tuple", data := .seq acc }, toks := tk } := by
    have ea : acc = acc.toList.toArray := by simp
    rw [ea]
    exact I1.laid (t' := tk) (fun b o e => Heap.get?_push_of_some _ e) (Nat.le_refl _) (show ObjOk X.prog X.w _ _ _ (.tup _) from ⟨by simp; rw [sizeLine_eq]; omega, acc.toList, hv, IsTup.new _ _⟩)
  exact ⟨.ref h'.objs.size, _, I2, rfl, q _ (I1.hok.fresh (Nat.le_refl _))⟩
/-! ### slices -/
theorem cut_take {t : List Nat} {i n : Nat} (hi : i ≤ t.length) : cutS (S t) (some (i : Int)) (some ((i : Int) + (n : Int))) = S ((t.drop i).take n) := by
  unfold cutS
  rw [show (i : Int) + (n : Int) = ((i + n : Nat) : Int) by omega, HT.sIx_nat, HT.sIx_nat, S_toList, S_len, Nat.min_eq_left hi]
  have : (t.drop i).take (min (i + n) t.length - i) = (t.drop i).take n := by
    rw [show min (i + n) t.length - i = min n (t.drop i).length by rw [List.length_drop]; omega]
    exact List.take_eq_take_iff.mpr (by rw [Nat.min_assoc, Nat.min_self])
  rw [this]
theorem take1 {t : List Nat} {i : Nat} : (t.drop i).take 1 = if i < t.length then [t.getD i 0] else [] := by
  by_cases h : i < t.length
  · rw [if_pos h, drop_cons h]
    rfl
  · rw [if_neg h, List.drop_eq_nil_of_le (by omega)]
    rfl
theorem one_in {t : List Nat} {i : Nat} : inV (vs ((t.drop i).take 1)) ((LET.map fun c => [c]).map vs) = isLet (t.getD i 0) := by
  rw [inV_strs, take1]
  by_cases h : i < t.length
  · rw [if_pos h]
    exact decide_eq_decide.mpr (by simp)
  · rw [if_neg h, List.getD_eq_getElem?_getD, List.getElem?_eq_none (by omega)]
    rfl
theorem find_at {p : List Nat → Bool} : ∀ {l : List (List Nat)} {j : Nat} {g : List Nat}, (∀ x ∈ l.take j, p x = false) → l[j]? = some g → p g = true → l.find? p = some g
  | [], j, g, _, h, _ => by simp at h
  | a :: l, 0, g, _, h, hp => by
    cases Option.some.inj h
    rw [List.find?_cons, hp]
  | a :: l, j + 1, g, hf, h, hp => by
    rw [List.find?_cons, hf a (by simp)]
    exact find_at (fun x hx => hf x (by simp [hx])) h hp
theorem find_none {p : List Nat → Bool} {l : List (List Nat)} (h : ∀ x ∈ l, p x = false) : l.find? p = none := List.find?_eq_none.mpr fun x hx => by rw [h x hx]; exact Bool.false_ne_true
theorem dig_val {w : List Nat} (h : ∀ c ∈ w, isDig c = true) (ne : w ≠ []) (l : w.length ≤ 640) : intText? (S w) = some ((dval w : Nat) : Int) :=
  SX.int_S (List.all_eq_true.mpr fun c hc => (by decide : ∀ c ∈ DIG, (decide (48 ≤ c) && decide (c ≤ 57)) = true) c (of_decide_eq_true (h c hc))) ne (by omega)
theorem run_all {p : Nat → Bool} {t : List Nat} {i : Nat} : ∀ c ∈ run p t i, p c = true := fun c hc => by
  unfold run at hc
  exact List.all_eq_true.mp (List.all_takeWhile (p := p) (l := t.drop i)) c hc
theorem eKey : Str.ofString "keyword" = S kKey := by decide +kernel
theorem eName : Str.ofString "name" = S kName := by decide +kernel
theorem eNum : Str.ofString "number" = S kNum := by decide +kernel
theorem eQuo : Str.ofString "quoted" = S kQuo := by decide +kernel
theorem eSign : Str.ofString "sign" = S kSign := by decide +kernel
theorem eTick : Str.ofString "'" = S [39] := by decide +kernel
/-! ### read_token -/
def tvV : Tv → V
  | .s l => vs l
  | .n n => .int (n : Int)
def spTokR (C : Addr) : Sp := fun us H Q E => ∃ (t : List Nat) (i : Nat), us = [vs t, .int (i : Int)] ∧ i < t.length ∧ t.length ≤ LINE ∧
  (∀ j, readTok t i = .no j → ∀ (H' : Hp) (d : Addr), Same H H' → H d = none → H' d = some (.xd [(("position" : Str), .int (j : Int))]) → E (.ref C) (some d) H') ∧
  (∀ k v e, readTok t i = .ok k v e → ∀ (H' : Hp) (p : Addr), Same H H' → H p = none → H' p = some (.tup [vs k, tvV v, .int (e : Int)]) → Q (.ref p) H')
theorem same_upd {H H1 : Hp} {p : Addr} {o : HO} (s : Same H H1) (hp : H1 p = none) : Same H (upd H1 p o) := fun b u e => by
  rw [upd_ne (ne_of_none (s b u e) hp)]
  exact s b u e
theorem ofS {s : String} {l : List Nat} (h : (Str.ofString s).cps.toList = l) : Str.ofString s = S l := by
  subst h
  simp [SX.S]
section
variable {P : Program} {w : World} {K : PySem.W.Frag} {mg : Str → Option Value} {base : Heap}
theorem tick_iff {c : Nat} : V.str ⟨#[c]⟩ = V.str (Str.ofString "'") ↔ c = 39 := by
  rw [eTick]
  constructor
  · intro h
    have e := V.str.inj h
    have e2 := congrArg (fun z : Str => z.cps.toList) e
    simpa [SX.S] using e2
  · rintro rfl
    rfl
/-- for sign in SIGNS: .. ; raise RefusedText(start) -/
def tSigns (K : PySem.W.Frag) (C : Addr) (E : XK) : TS :=
  tSeq (tFor (iTup K (tGT K (SG.map vs))) (gName 4)
      (tIfS (tTest (tOp rEq (tSl rSlS (tVar 0) (tPart (tVar 1)) (tPart (tOp (rI0 fun i j => V.int (i + j)) (tVar 1) (tCB (fun xs H Q => ∃ z, xs = [V.str z] ∧ z.length ≤ sizeLine ∧ Q (V.int (z.length : Int)) H) (tCons (tVar 4) tNil))))) (tVar 4)))
        (tRet (tTup (tCons (tC (V.str (Str.ofString "sign"))) (tCons (tVar 4) (tCons (tOp (rI0 fun i j => V.int (i + j)) (tVar 1) (tCB (fun xs H Q => ∃ z, xs = [V.str z] ∧ z.length ≤ sizeLine ∧ Q (V.int (z.length : Int)) H) (tCons (tVar 4) tNil))) tNil))))) tNext))
    (tRaiseRef C (fun cls d _ H => E cls d H) (tCons (tVar 1) tNil))
theorem signs_read {t : List Nat} {i : Nat} {H H1 : Hp} {C : Addr} {Q : VK} {E : XK} (hi : i < t.length) (hl : t.length ≤ LINE) (h63 : (i : Int) < 2 ^ 63) (il : (i : Int) < ((S t).length : Int)) (sl : (S t).length ≤ sizeLine) (hil : i ≤ 1000000)
    (r1 : ¬ isLet (t.getD i 0) = true) (r2 : ¬ isDig (t.getD i 0) = true) (q : ¬ quoAt t i = true) (hS : Same H H1)
    (kE : ∀ j, readTok t i = .no j → ∀ (H' : Hp) (d : Addr), Same H H' → H d = none → H' d = some (.xd [(("position" : Str), .int (j : Int))]) → E (.ref C) (some d) H')
    (kQ : ∀ k v e, readTok t i = .ok k v e → ∀ (H' : Hp) (p : Addr), Same H H' → H p = none → H' p = some (.tup [vs k, tvV v, .int (e : Int)]) → Q (.ref p) H') :
    tSigns K C E { nx := fun _ H' => Q .non H', rt := Q } [some (vs t), some (.int (i : Int)), none, none, none] H1 := by
  have rd : readTok t i = match SG.find? (sgAt t i) with
    | some g => .ok kSign (.s g) (i + g.length)
    | none => .no i := by
    unfold readTok
    rw [if_neg r1, if_neg r2, if_neg q]
    all_goals (cases SG.find? (sgAt t i) <;> rfl)
  refine fun a hs => ⟨a, rfl, ⟨_, hs _⟩, for_tup (K := K) (a := a) (xs := SG.map vs) (fun j σ H' => (∃ v, σ = [some (vs t), some (.int (i : Int)), none, none, v]) ∧ Same H H' ∧ ∀ g ∈ SG.take j, sgAt t i g = false)
    ⟨⟨none, rfl⟩, hS, by simp⟩ (fun _ _ H' _ _ => hs H') ?_ ?_⟩
  · rintro j x σ H' hx ⟨⟨v, rfl⟩, s1, nf⟩
    obtain ⟨g, hg, rfl⟩ : ∃ g, SG[j]? = some g ∧ x = vs g := by
      rw [List.getElem?_map] at hx
      cases e : SG[j]? with
      | none => rw [e] at hx; cases hx
      | some g =>
        rw [e] at hx
        exact ⟨g, rfl, (Option.some.inj hx).symm⟩
    have gl : g.length ≤ 2 := (by decide : ∀ g ∈ SG, g.length ≤ 2) g (List.mem_of_getElem? hg)
    have gz : (S g).length ≤ sizeLine := by rw [S_len]; exact Nat.le_trans gl (by decide)
    have ce : cutS (S t) (some (i : Int)) (some ((i : Int) + ((S g).length : Int))) = S ((t.drop i).take g.length) := by
      rw [S_len]
      exact cut_take (Nat.le_of_lt hi)
    refine ⟨_, rfl, _, rfl, _, rfl, _, rfl, _, rfl, S g, rfl, gz, _, _, rfl, rfl, _, rfl, S t, rfl, sl, _, rfl, rfl, _, rfl, ?_⟩
    rw [ce]
    by_cases c : (t.drop i).take g.length = g
    · refine if_true_of (decide_eq_true (by rw [c])) ?_
      have fd : SG.find? (sgAt t i) = some g := find_at nf hg (decide_eq_true c)
      rw [fd] at rd
      refine ⟨_, rfl, _, rfl, _, rfl, S g, rfl, gz, _, _, rfl, rfl, (by show 3 ≤ sizeLine; decide), fun p hp => ?_⟩
      have z := kQ _ _ _ rd (upd H' p (.tup [vs kSign, vs g, .int ((i + g.length : Nat) : Int)])) p (same_upd s1 hp) (s1.free hp) upd_same
      have e1 : V.str (Str.ofString "sign") = vs kSign := congrArg V.str eSign
      have e2 : V.int ((i : Int) + ((S g).length : Int)) = V.int ((i + g.length : Nat) : Int) := by rw [S_len, show (i : Int) + (g.length : Int) = ((i + g.length : Nat) : Int) by omega]
      show Q (.ref p) (upd H' p (.tup [V.str (Str.ofString "sign"), vs g, V.int ((i : Int) + ((S g).length : Int))]))
      rw [e1, e2]
      exact z
    · refine if_false_of (decide_eq_false fun z => c (S_inj.mp (V.str.inj z))) ?_
      refine ⟨⟨_, rfl⟩, s1, fun x hx => ?_⟩
      rw [List.take_add_one, hg] at hx
      rcases List.mem_append.mp hx with hx | hx
      · exact nf x hx
      · have : x = g := by simpa using hx
        rw [this]
        exact decide_eq_false c
  · rintro σ H' ⟨⟨v, rfl⟩, s1, nf⟩
    have fd : SG.find? (sgAt t i) = none := find_none fun x hx => nf x (by simpa using hx)
    rw [fd] at rd
    exact ⟨_, rfl, i, rfl, hil, fun d hd => kE i rd _ d (same_upd s1 hd) (s1.free hd) upd_same⟩
theorem scTokR : FnScope ["text", "start", "word", "end", "sign"] ["text", "start"] (defScope sTokR) := ⟨rfl, rfl, rfl, by decide +kernel, rfl, by decide +kernel, by decide +kernel⟩
theorem ok_tokR {f C fI fE fW : Addr} {fd fdE fdW : FuncData} (F : Fun K "read_token" "read_token" sTokR f fd) (T : Txt P K mg C fI) (TT : TupTxt K mg) (DE : Dd K mg "end_of" sEnd ["text", "start", "letters"] fE fdE)
    (DW : Dd K mg "read_word" sWord ["text", "start"] fW fdW) : FnOk P w K mg base (L2.CX P w) 5 f fd ["text", "start"] (spTokR C) := by
  have GE : FnOk P w K mg base CX0 1 fE fdE ["text", "start", "letters"] spEnd := ok_end DE.fn T
  have GW : FnOk P w K mg base (L2.CX P w) 3 fW fdW ["text", "start"] (spWord C) := ok_word DW.fn T DE
  refine F.okX scTokR (fun us H Q E h => ?_) (fun cdv A outer s H us Q E hr h => ?_)
  · obtain ⟨t, i, rfl, _⟩ := h
    rfl
  · obtain ⟨t, i, rfl, hi, hl, kE, kQ⟩ := h
    have hr1 : Room 1 _ := hr.mono (by decide)
    have hr3 : Room 3 _ := hr.mono (by decide)
    refine ⟨_, pss_cons (ps_if (pt_cmpR op_in_sign (pe_item_str (pv 0) (pv 1) (fun _ _ => rfl)) (pe_gs T.LET) rfl)
        (pss_cons (ps_asg (pe_call GW hr3 rfl DW.g DW.k DW.b .nil (passes_call (W := fun cls d _ H => E cls d H) (takes_of rfl rfl rfl rfl) (fun _ _ _ _ h => h)) (pa_cons (pv 0) (pa_cons (pv 1) pa_nil)))
            (pg_tup (by rfl) (pgs_cons (pg_name (i := 2) scTokR.nd rfl (.inl rfl)) (pgs_cons (pg_name (i := 3) scTokR.nd rfl (.inl rfl)) pgs_nil))))
          (pss_one (ps_ret (pe_tup (pa_cons (pe_ifExp (pt_cmpR op_in_seq (pv 2) (pe_gt TT.kw) rfl) pe_str pe_str) (pa_cons (pv 2) (pa_cons (pv 3) pa_nil))))))) pss_nil)
      (pss_cons (ps_if (pt_cmpR op_in_sign (pe_item_str (pv 0) (pv 1) (fun _ _ => rfl)) (pe_gs T.DIG) rfl)
        (pss_cons (ps_set (i := 3) scTokR.nd rfl (Or.inl rfl) (pe_call GE hr1 rfl DE.g DE.k DE.b .nil pass0 (pa_cons (pv 0) (pa_cons (pv 1) (pa_cons (pe_gs T.DIG) pa_nil)))))
          (pss_cons (ps_if (PW.pt (pw_or (pt_cmpR op_gt (pe_op op_sub (pv 3) (pv 1)) (pe_gi T.MD) (nomark _))
              (pw_or1 (pt_cmpR op_gt (pe_callTy call_int_str (by rfl) T.int boot_int (pa_cons (pe_slice sl_str (pv 0) (po_some (pv 1)) (po_some (pv 3))) pa_nil)) (pe_gi T.MN) (nomark _)))))
            (pss_one (ps_raiseRef (W := fun cls d _ H => E cls d H) rfl T.ref hr (takes_of rfl rfl rfl rfl) (pa_cons (pv 1) pa_nil))) pss_nil)
          (pss_one (ps_ret (pe_tup (pa_cons pe_str (pa_cons (pe_callTy call_int_str (by rfl) T.int boot_int (pa_cons (pe_slice sl_str (pv 0) (po_some (pv 1)) (po_some (pv 3))) pa_nil)) (pa_cons (pv 3) pa_nil)))))))) pss_nil)
      (pss_cons (ps_if (PW.pt (pw_and (pt_cmpR op_eq (pe_item_str (pv 0) (pv 1) (fun _ _ => rfl)) pe_str (nomark _))
            (pw_and1 (pt_cmpR op_in_seq (pe_slice sl_str (pv 0) (po_some (pe_op op_add (pv 1) pe_int)) (po_some (pe_op op_add (pv 1) pe_int))) (pe_callTy (call_tupStr rfl) (by rfl) T.tuple boot_tuple (pa_cons (pe_gs T.LET) pa_nil)) rfl))))
        (pss_cons (ps_asg (pe_call GW hr3 rfl DW.g DW.k DW.b .nil (passes_call (W := fun cls d _ H => E cls d H) (takes_of rfl rfl rfl rfl) (fun _ _ _ _ h => h)) (pa_cons (pv 0) (pa_cons (pe_op op_add (pv 1) pe_int) pa_nil)))
            (pg_tup (by rfl) (pgs_cons (pg_name (i := 2) scTokR.nd rfl (.inl rfl)) (pgs_cons (pg_name (i := 3) scTokR.nd rfl (.inl rfl)) pgs_nil))))
          (pss_one (ps_ret (pe_tup (pa_cons pe_str (pa_cons (pv 2) (pa_cons (pv 3) pa_nil))))))) pss_nil)
      (pss_cons (ps_for (passes_of rfl) rfl (pi_tup (pe_gt TT.sg)) (pg_name (i := 4) scTokR.nd rfl (.inl rfl))
        (pss_one (ps_if (pt_cmpR op_eq (pe_slice sl_str (pv 0) (po_some (pv 1)) (po_some (pe_op op_add (pv 1) (pe_callB call_len_str (by rfl) T.len PySem.boot_len (pa_cons (pv 4) pa_nil))))) (pv 4) (nomark _))
          (pss_one (ps_ret (pe_tup (pa_cons pe_str (pa_cons (pv 4) (pa_cons (pe_op op_add (pv 1) (pe_callB call_len_str (by rfl) T.len PySem.boot_len (pa_cons (pv 4) pa_nil))) pa_nil)))))) pss_nil)))
      (pss_one (ps_raiseRef (W := fun cls d _ H => E cls d H) rfl T.ref hr (takes_of rfl rfl rfl rfl) (pa_cons (pv 1) pa_nil)))))), ?_⟩
    have h63 : (i : Int) < 2 ^ 63 := by
      have : t.length ≤ 100000 := hl
      omega
    have at0 : (S t).cps[((i : Int)).toNat]? = some (t.getD i 0) := by rw [Int.toNat_natCast]; exact S_at hi
    have il : (i : Int) < ((S t).length : Int) := by rw [S_len]; omega
    have hil : i ≤ 1000000 := Nat.le_trans (Nat.le_of_lt hi) (Nat.le_trans hl (by decide))
    have sl : (S t).length ≤ sizeLine := by rw [S_len]; exact line_size hl
    refine ⟨_, rfl, _, rfl, S t, _, _, rfl, rfl, by omega, h63, il, at0, _, _, rfl, rfl, _, rfl, ?_⟩
    rw [S_toList]
    by_cases c1 : t.getD i 0 ∈ LET
    · refine if_true_of (decide_eq_true c1) ?_
      have r1 : isLet (t.getD i 0) = true := decide_eq_true c1
      refine ⟨_, rfl, _, rfl, t, i, rfl, Nat.le_of_lt hi, hl, fun c d hd => ?_, fun c p hp => ?_⟩
      · exact kE i (by unfold readTok; rw [if_pos r1, if_pos c]) _ d (same_upd (Same.refl H) hd) hd upd_same
      · refine ⟨p, _, rfl, SqT.of upd_same, rfl, _, _, rfl, _, _, rfl, rfl, ?_⟩
        have fin : ∀ k, readTok t i = .ok k (.s (run isLat t i)) (endOf isLat t i) → ∀ q, upd H p (.tup [.str (S (run isLat t i)), .int ((endOf isLat t i : Nat) : Int)]) q = none → Q (.ref q) (upd (upd H p (.tup [.str (S (run isLat t i)), .int ((endOf isLat t i : Nat) : Int)])) q (.tup [vs k, vs (run isLat t i), .int ((endOf isLat t i : Nat) : Int)])) := fun k hk q hq => by
          refine kQ k _ _ hk _ q (same_upd (same_upd (Same.refl H) hp) hq) ?_ upd_same
          rw [upd_ne (fun z => by rw [z, upd_same] at hq; cases hq)] at hq
          exact hq
        have rk : readTok t i = .ok (if run isLat t i ∈ KW then kKey else kName) (.s (run isLat t i)) (endOf isLat t i) := by unfold readTok; rw [if_pos r1, if_neg c]
        refine ⟨_, rfl, fun a hs => ⟨a, _, rfl, .inr (hs _), rfl, flat_strs KW, _, rfl, ?_⟩⟩
        rw [if_neg Bool.false_ne_true, inV_strs]
        by_cases kw : run isLat t i ∈ KW
        · refine if_true_of (decide_eq_true kw) ?_
          refine ⟨_, rfl, _, rfl, (by show 3 ≤ sizeLine; decide), fun q hq => ?_⟩
          rw [if_pos kw] at rk
          have z := fin kKey rk q hq
          rw [vs, ← eKey] at z
          exact z
        · refine if_false_of (decide_eq_false kw) ?_
          refine ⟨_, rfl, _, rfl, (by show 3 ≤ sizeLine; decide), fun q hq => ?_⟩
          rw [if_neg kw] at rk
          have z := fin kName rk q hq
          rw [vs, ← eName] at z
          exact z
    · refine if_false_of (decide_eq_false c1) ?_
      have r1 : ¬ isLet (t.getD i 0) = true := fun z => c1 (of_decide_eq_true z)
      refine ⟨_, rfl, _, rfl, S t, _, _, rfl, rfl, by omega, h63, il, at0, _, _, rfl, rfl, _, rfl, ?_⟩
      rw [S_toList]
      by_cases c2 : t.getD i 0 ∈ DIG
      · refine if_true_of (decide_eq_true c2) ?_
        have r2 : isDig (t.getD i 0) = true := decide_eq_true c2
        have ne : run isDig t i ≠ [] := fun z => by
          have := endOf_lt (p := isDig) hi r2
          unfold endOf at this
          rw [z] at this
          simp at this
        have le : (run isDig t i).length = endOf isDig t i - i := by unfold endOf; omega
        have ge : i ≤ endOf isDig t i := by unfold endOf; omega
        have cr : cutS (S t) (some (i : Int)) (some ((endOf isDig t i : Nat) : Int)) = S (run isDig t i) := cut_run isDig (Nat.le_of_lt hi)
        refine ⟨_, rfl, _, rfl, t, i, DIG, rfl, Nat.le_of_lt hi, hl, ?_⟩
        refine ⟨_, rfl, _, rfl, _, _, rfl, rfl, _, _, rfl, rfl, _, rfl, ?_⟩
        by_cases c3 : 13 < (run isDig t i).length
        · refine if_true_of (decide_eq_true (by show (13 : Int) < ((endOf isDig t i : Nat) : Int) - (i : Int); omega)) ?_
          refine if_true_of rfl ?_
          refine ⟨_, rfl, i, rfl, hil, fun d hd => ?_⟩
          exact kE i (by unfold readTok; rw [if_neg r1, if_pos r2, if_pos (.inl c3)]) _ d (same_upd (Same.refl H) hd) hd upd_same
        · refine if_false_of (decide_eq_false (by show ¬ (13 : Int) < ((endOf isDig t i : Nat) : Int) - (i : Int); omega)) ?_
          have iv : intText? (cutS (S t) (some (i : Int)) (some ((endOf isDig t i : Nat) : Int))) = some ((dval (run isDig t i) : Nat) : Int) := by rw [cr]; exact dig_val run_all ne (by omega)
          have ll : (cutS (S t) (some (i : Int)) (some ((endOf isDig t i : Nat) : Int))).length ≤ 640 := by rw [cr, S_len]; omega
          refine ⟨_, rfl, _, rfl, _, rfl, _, rfl, _, rfl, S t, rfl, sl, _, _, rfl, iv, ll, _, _, rfl, rfl, _, rfl, ?_⟩
          by_cases c4 : 1000000000000 < dval (run isDig t i)
          · refine if_true_of (decide_eq_true (by omega)) ?_
            refine ⟨_, rfl, i, rfl, hil, fun d hd => ?_⟩
            exact kE i (by unfold readTok; rw [if_neg r1, if_pos r2, if_pos (.inr c4)]) _ d (same_upd (Same.refl H) hd) hd upd_same
          · refine if_false_of (decide_eq_false (by omega)) ?_
            refine ⟨_, rfl, _, rfl, _, rfl, _, rfl, _, rfl, S t, rfl, sl, _, _, rfl, iv, ll, _, rfl, (by show 3 ≤ sizeLine; decide), fun q hq => ?_⟩
            have rk : readTok t i = .ok kNum (.n (dval (run isDig t i))) (endOf isDig t i) := by
              unfold readTok
              rw [if_neg r1, if_pos r2, if_neg (by omega)]
            have z := kQ _ _ _ rk _ q (same_upd (Same.refl H) hq) hq upd_same
            rw [vs, ← eNum] at z
            exact z
      · refine if_false_of (decide_eq_false c2) ?_
        have r2 : ¬ isDig (t.getD i 0) = true := fun z => c2 (of_decide_eq_true z)
        have cr : cutS (S t) (some ((i : Int) + 1)) (some ((i : Int) + 2)) = S ((t.drop (i + 1)).take 1) := by
          have z := cut_take (t := t) (i := i + 1) (n := 1) hi
          rw [← z, show ((i + 1 : Nat) : Int) = (i : Int) + 1 by omega, show (i : Int) + 1 + ((1 : Nat) : Int) = (i : Int) + 2 by omega]
        refine ⟨_, rfl, _, rfl, S t, _, _, rfl, rfl, by omega, h63, il, at0, rfl, _, rfl, ?_⟩
        by_cases c3 : t.getD i 0 = 39
        · refine if_true_of (decide_eq_true (tick_iff.mpr c3)) ?_
          refine ⟨_, rfl, _, rfl, _, _, rfl, rfl, _, rfl, _, rfl, _, _, rfl, rfl, _, rfl, S t, rfl, sl, LET, rfl, by decide, fun p0 hp0 => ?_⟩
          refine ⟨p0, _, rfl, .inr (SqT.of upd_same), rfl, flat_strs _, _, rfl, ?_⟩
          rw [if_neg Bool.false_ne_true, cr, one_in]
          have hS := same_upd (o := .tup ((LET.map fun c => [c]).map vs)) (Same.refl H) hp0
          by_cases c4 : isLet (t.getD (i + 1) 0) = true
          · refine if_true_of c4 ?_
            have q : quoAt t i = true := by
              unfold quoAt
              rw [c3, c4]
              rfl
            refine ⟨_, rfl, _, rfl, _, _, rfl, rfl, t, i + 1, (by show [vs t, V.int ((i : Int) + 1)] = _; rw [show (i : Int) + 1 = ((i + 1 : Nat) : Int) by omega]), hi, hl, fun c d hd => ?_, fun c p hp => ?_⟩
            · refine kE (i + 1) (by unfold readTok; rw [if_neg r1, if_neg r2, if_pos q, if_pos c]) _ d (same_upd hS hd) (hS.free hd) upd_same
            · refine ⟨p, _, rfl, SqT.of upd_same, rfl, _, _, rfl, _, _, rfl, rfl, ?_⟩
              refine ⟨_, rfl, _, rfl, (by show 3 ≤ sizeLine; decide), fun q' hq => ?_⟩
              have rk : readTok t i = .ok kQuo (.s (run isLat t (i + 1))) (endOf isLat t (i + 1)) := by
                unfold readTok
                rw [if_neg r1, if_neg r2, if_pos q, if_neg c]
              have z := kQ _ _ _ rk _ q' (same_upd (same_upd hS hp) hq) ((same_upd hS hp).free hq) upd_same
              rw [vs, ← eQuo] at z
              exact z
          · have c4' : isLet (t.getD (i + 1) 0) = false := by
              cases z : isLet (t.getD (i + 1) 0) with
              | true => exact absurd z c4
              | false => rfl
            refine if_false_of c4' ?_
            have q : ¬ quoAt t i = true := by
              unfold quoAt
              rw [c4', Bool.and_false]
              exact Bool.false_ne_true
            exact signs_read hi hl h63 il sl hil r1 r2 q hS kE kQ
        · refine if_false_of (decide_eq_false fun z => c3 (tick_iff.mp z)) ?_
          have q : ¬ quoAt t i = true := by
            unfold quoAt
            rw [beq_false_of_ne c3, Bool.false_and]
            exact Bool.false_ne_true
          exact signs_read hi hl h63 il sl hil r1 r2 q (Same.refl H) kE kQ
end
end K9
namespace K9
open PySem L2 PyProof.Rows
/-! ### tokenize -/
def tokV (d : Tok) : List V := [vs d.1, tvV d.2.1, .int (d.2.2 : Int)]
def TokAt (H : Hp) (x : V) (d : Tok) : Prop := ∃ a, x = .ref a ∧ H a = some (.tup (tokV d))
def ToksAt (H : Hp) (p : Addr) (D : List Tok) : Prop := ∃ rs, H p = some (.lst rs) ∧ Paired (TokAt H) rs D
theorem Paired.snoc {α β : Type} {F : α → β → Prop} {a : α} {b : β} (h : F a b) : ∀ {l₁ : List α} {l₂ : List β}, Paired F l₁ l₂ → Paired F (l₁ ++ [a]) (l₂ ++ [b])
  | _, _, .nil => .cons h .nil
  | _, _, .cons r t => .cons r (Paired.snoc h t)
theorem Paired.imp {α β : Type} {F G : α → β → Prop} (f : ∀ a b, F a b → G a b) : ∀ {l₁ : List α} {l₂ : List β}, Paired F l₁ l₂ → Paired G l₁ l₂
  | _, _, .nil => .nil
  | _, _, .cons r t => .cons (f _ _ r) (Paired.imp f t)
theorem TokAt.keep {H H' : Hp} (h : ∀ a xs, H a = some (.tup xs) → H' a = some (.tup xs)) (x : V) (d : Tok) : TokAt H x d → TokAt H' x d := fun ⟨a, e, q⟩ => ⟨a, e, h _ _ q⟩
def spTokz (C : Addr) : Sp := fun us H Q E => ∃ t : List Nat, us = [vs t] ∧ t.length ≤ LINE ∧
  (∀ j, go t 0 [] = .inl j → ∀ (H' : Hp) (d : Addr), Same H H' → H d = none → H' d = some (.xd [(("position" : Str), .int (j : Int))]) → E (.ref C) (some d) H') ∧
  (∀ D, go t 0 [] = .inr D → ∀ (H' : Hp) (p : Addr), Same H H' → H p = none → ToksAt H' p D → Q (.ref p) H')
theorem bl_in (c : Nat) : inV (V.str ⟨#[c]⟩) [V.str (Str.ofString " "), V.str (Str.ofString "\n")] = isBl c := by
  have e1 : Str.ofString " " = S [32] := by decide +kernel
  have e2 : Str.ofString "\n" = S [10] := by decide +kernel
  rw [e1, e2]
  show inV (vs [c]) ([[32], [10]].map vs) = _
  rw [inV_strs]
  exact decide_eq_decide.mpr (by simp)
section
variable {P : Program} {w : World} {K : PySem.W.Frag} {mg : Str → Option Value} {base : Heap}
theorem scTokz : FnScope ["text", "tokens", "start", "kind", "value", "end"] ["text"] (defScope sTokz) := ⟨rfl, rfl, rfl, by decide +kernel, rfl, by decide +kernel, by decide +kernel⟩
theorem ok_tokz {f C fI fE fW fR : Addr} {fd fdE fdW fdR : FuncData} (F : Fun K "tokenize" "tokenize" sTokz f fd) (T : Txt P K mg C fI) (TT : TupTxt K mg) (DE : Dd K mg "end_of" sEnd ["text", "start", "letters"] fE fdE)
    (DW : Dd K mg "read_word" sWord ["text", "start"] fW fdW) (DR : Dd K mg "read_token" sTokR ["text", "start"] fR fdR) : FnOk P w K mg base (L2.CX P w) 6 f fd ["text"] (spTokz C) := by
  have GR : FnOk P w K mg base (L2.CX P w) 5 fR fdR ["text", "start"] (spTokR C) := ok_tokR DR.fn T TT DE DW
  refine F.okX scTokz (fun us H Q E h => ?_) (fun cdv A outer s H us Q E hr h => ?_)
  · obtain ⟨t, rfl, _⟩ := h
    rfl
  · obtain ⟨t, rfl, hl, kE, kQ⟩ := h
    have hr5 : Room 5 _ := hr.mono (by decide)
    refine ⟨_, pss_cons (ps_set (i := 1) scTokz.nd rfl (Or.inl rfl) (pe_lst pa_nil)) (pss_cons (ps_set (i := 2) scTokz.nd rfl (Or.inl rfl) pe_int)
      (pss_cons (ps_while (passes_of rfl) (pt_cmpR op_lt (pv 2) (pe_callB call_len_str (by rfl) T.len PySem.boot_len (pa_cons (pv 0) pa_nil)) (nomark _))
        (pss_one (ps_if (pt_cmpR op_in_seq (pe_item_str (pv 0) (pv 2) (fun _ _ => rfl)) (pe_tup (pa_cons pe_str (pa_cons pe_str pa_nil))) rfl)
          (pss_one (ps_aug (i := 2) scTokz.nd rfl (Or.inl rfl) pe_int ip_add))
          (pss_cons (ps_asg (pe_call GR hr5 rfl DR.g DR.k DR.b .nil (passes_call (W := fun cls d _ H => E cls d H) (takes_of rfl rfl rfl rfl) (fun _ _ _ _ h => h)) (pa_cons (pv 0) (pa_cons (pv 2) pa_nil)))
              (pg_tup (by rfl) (pgs_cons (pg_name (i := 3) scTokz.nd rfl (.inl rfl)) (pgs_cons (pg_name (i := 4) scTokz.nd rfl (.inl rfl)) (pgs_cons (pg_name (i := 5) scTokz.nd rfl (.inl rfl)) pgs_nil)))))
            (pss_cons (ps_expr (pe_bm PySem.F.plainAttrs_list PySem.F.slot_list_append PySem.F.type_list_append mt_append (pv 1) (pa_cons (pe_tup (pa_cons (pv 3) (pa_cons (pv 4) (pa_cons (pv 2) pa_nil)))) pa_nil)))
            (pss_one (ps_set (i := 2) scTokz.nd rfl (Or.inl rfl) (pv 5))))))))
      (pss_one (ps_ret (pv 1))))), ?_⟩
    refine ⟨Nat.zero_le _, fun l hl0 => ?_⟩
    refine ⟨fun m σ H' => ∃ (j : Nat) (acc : List Tok) (rs : List V) (v3 v4 v5 : Option V), σ = [some (vs t), some (.ref l), some (.int (j : Int)), v3, v4, v5] ∧ Same H H' ∧ H' l = some (.lst rs) ∧ Paired (TokAt H') rs acc ∧
        m = t.length - j ∧ go t j acc = go t 0 [] ∧ acc.length ≤ j, ⟨_, 0, [], [], none, none, none, rfl, same_upd (Same.refl H) hl0, upd_same, .nil, rfl, rfl, Nat.le_refl _⟩, ?_⟩
    rintro m σ H' ⟨j, acc, rs, v3, v4, v5, rfl, s1, hL, hP, rfl, e, hacc⟩
    have sl : (S t).length ≤ sizeLine := by rw [S_len]; exact line_size hl
    refine ⟨_, rfl, _, rfl, S t, rfl, sl, _, _, rfl, rfl, _, rfl, ?_⟩
    rw [S_len]
    have l63 : t.length ≤ 100000 := hl
    by_cases hlt : j < t.length
    · refine if_true_of (decide_eq_true (by omega)) ?_
      refine ⟨fun σ2 H2 => ∃ (j2 : Nat) (acc : List Tok) (rs : List V) (v3 v4 v5 : Option V), j < j2 ∧ σ2 = [some (vs t), some (.ref l), some (.int (j2 : Int)), v3, v4, v5] ∧ Same H H2 ∧ H2 l = some (.lst rs) ∧ Paired (TokAt H2) rs acc ∧
        go t j2 acc = go t 0 [] ∧ acc.length ≤ j2, ?_, ?_⟩
      · rintro σ2 H2 ⟨j2, acc, rs, v3, v4, v5, hj, rfl, a1, a2, a3, a4, a5⟩
        exact ⟨t.length - j2, by omega, j2, acc, rs, v3, v4, v5, rfl, a1, a2, a3, rfl, a4, a5⟩
      refine ⟨_, rfl, _, rfl, S t, _, _, rfl, rfl, by omega, by omega, by rw [S_len]; omega, (by rw [Int.toNat_natCast]; exact S_at hlt), ?_⟩
      refine ⟨(by show 2 ≤ sizeLine; decide), fun p0 hp0 => ?_⟩
      have s2 := same_upd (o := .tup [V.str (Str.ofString " "), V.str (Str.ofString "\n")]) s1 hp0
      have nl : l ≠ p0 := ne_of_none hL hp0
      have keep0 : ∀ a xs, H' a = some (.tup xs) → upd H' p0 (.tup [V.str (Str.ofString " "), V.str (Str.ofString "\n")]) a = some (.tup xs) := fun a xs q => by
        rw [upd_ne (ne_of_none q hp0)]
        exact q
      refine ⟨p0, _, rfl, .inr (SqT.of upd_same), rfl, rfl, _, rfl, ?_⟩
      rw [if_neg Bool.false_ne_true, bl_in]
      by_cases b : isBl (t.getD j 0) = true
      · refine if_true_of b ?_
        refine ⟨_, rfl, _, _, rfl, rfl, ?_⟩
        refine ⟨j + 1, acc, rs, v3, v4, v5, Nat.lt_succ_self j, rfl, s2, ?_, Paired.imp (TokAt.keep keep0) hP, ?_, Nat.le_succ_of_le hacc⟩
        · rw [upd_ne nl]
          exact hL
        · rw [← go_bl hlt b]
          exact e
      · have b' : isBl (t.getD j 0) = false := by
          cases z : isBl (t.getD j 0) with
          | true => exact absurd z b
          | false => rfl
        refine if_false_of b' ?_
        refine ⟨_, rfl, _, rfl, t, j, rfl, hlt, hl, fun i r H2 d q1 q2 q3 => ?_, fun k v e2 r H2 p q1 q2 q3 => ?_⟩
        · exact kE i (e ▸ go_no hlt b' r) H2 d (s2.trans q1) (s2.free q2) q3
        · have q4 := q1 _ _ (show upd H' p0 (.tup [V.str (Str.ofString " "), V.str (Str.ofString "\n")]) l = some (.lst rs) by rw [upd_ne nl]; exact hL)
          refine ⟨p, _, rfl, SqT.of q3, rfl, _, _, rfl, _, _, rfl, _, _, rfl, rfl, ?_⟩
          refine ⟨_, rfl, .inl ⟨rfl, _, SqL.of q4⟩, _, rfl, _, rfl, _, rfl, (by show 3 ≤ sizeLine; decide), fun q hq => ?_⟩
          have nlq : l ≠ q := ne_of_none q4 hq
          have hLq : upd H2 q (.tup [vs k, tvV v, V.int (j : Int)]) l = some (.lst rs) := by
            rw [upd_ne nlq]
            exact q4
          have hz : rs.length < sizeLine := by
            have := Paired.length hP
            have : (100000 : Nat) < sizeLine := by decide
            omega
          refine ⟨l, _, _, rfl, rfl, hLq, hz, ?_⟩
          refine ⟨_, rfl, ?_⟩
          have lt := readTok_lt hlt r
          have keep2 : ∀ a xs, H' a = some (.tup xs) → upd (upd H2 q (.tup [vs k, tvV v, V.int (j : Int)])) l (.lst (rs ++ [.ref q])) a = some (.tup xs) := fun a xs z => by
            have z2 := q1 _ _ (keep0 a xs z)
            rw [upd_ne (ne_of z hL (by intro y; cases y)), upd_ne (ne_of_none z2 hq)]
            exact z2
          refine ⟨e2, acc ++ [(k, v, j)], rs ++ [.ref q], _, _, _, lt, rfl, ?_, upd_same, Paired.snoc ⟨q, rfl, ?_⟩ (Paired.imp (TokAt.keep keep2) hP), ?_, ?_⟩
          · intro b u hb
            have nb : b ≠ l := ne_of_none hb hl0
            have z := (s2.trans q1) b u hb
            rw [upd_ne nb, upd_ne (ne_of_none z hq)]
            exact z
          · rw [← go_ok hlt b' r lt]
            exact e
          · rw [List.length_append, List.length_singleton]
            omega
          · rw [upd_ne nlq.symm, upd_same]
            rfl
    · refine if_false_of (decide_eq_false (by omega)) ?_
      refine ⟨_, rfl, ?_⟩
      exact kQ acc (e ▸ go_end hlt) H' l s1 hl0 ⟨rs, hL, hP⟩
end
end K9
namespace K9
open PySem L2 PyProof.Rows
/-! ### the law's draws -/
theorem get_list {X : Cx} : PGet X (fun o i H Q => ∃ (p : Addr) (xs : List V) (j : Nat) (v : V), o = .ref p ∧ i = .int (j : Int) ∧ SqL X.K H p xs ∧ xs[j]? = some v ∧ j < 1000 ∧ Q v H) := by
  intro pins s σ H o i ov iv Q I ro ri h
  obtain ⟨p, xs, j, v, rfl, rfl, hq, hx, hj, q⟩ := h
  cases ro
  obtain ⟨t, rfl⟩ := ri
  obtain ⟨its, r, pl, hz⟩ := I.list hq
  obtain ⟨u, eu, ru⟩ := r.get hx
  exact wpAny_getItem_list pl.isList (by omega) (by omega) (by rw [Int.toNat_natCast]; simpa using eu) ⟨v, H, I, ru, q⟩
/-- the law's state at a: the script's copy at sc, how many cells are taken, the cell at hand, the seed -/
def St4 (sc : Addr) (i : Nat) (c s : Int) : List V := [.ref sc, .int (i : Int), .int c, .int s]
def StAt (H : Hp) (a sc : Addr) (ns : List Int) : Prop := ∃ (i : Nat) (c s : Int), H a = some (.lst (St4 sc i c s)) ∧ H sc = some (.lst (ns.map V.int)) ∧ ns.length ≤ 63 ∧ i ≤ ns.length ∧ 0 ≤ c
theorem StAt.ne {H : Hp} {a sc : Addr} {ns : List Int} (h : StAt H a sc ns) : sc ≠ a := by
  obtain ⟨i, c, s, h1, h2, _⟩ := h
  rintro rfl
  rw [h1] at h2
  have e := HO.lst.inj (Option.some.inj h2)
  cases ns with
  | nil => cases e
  | cons n ns =>
    rw [List.map_cons] at e
    have := (List.cons.inj e).1
    cases this
/-- all but what stands at a is as it was -/
def But (a : Addr) (H H' : Hp) : Prop := ∀ b, b ≠ a → H' b = H b
theorem But.refl (a : Addr) (H : Hp) : But a H H := fun _ _ => rfl
theorem But.upd {a : Addr} {H H1 : Hp} (h : But a H H1) (o : HO) : But a H (upd H1 a o) := fun b hb => by rw [upd_ne hb, h b hb]
def spNext : Sp := fun us H Q _ => ∃ (a sc : Addr) (ns : List Int) (lim : Nat), us = [.ref a, .int (lim : Int)] ∧ StAt H a sc ns ∧ 0 < lim ∧ lim ≤ 1000000 ∧
  ∀ (v : Nat) (H' : Hp), v < lim → StAt H' a sc ns → But a H H' → Q (.int (v : Int)) H'
section
variable {P : Program} {w : World} {K : PySem.W.Frag} {mg : Str → Option Value} {base : Heap}
theorem scNext : FnScope ["state", "limit", "cell", "value"] ["state", "limit"] (defScope sNext) := ⟨rfl, rfl, rfl, by decide +kernel, rfl, by decide +kernel, by decide +kernel⟩
theorem ok_next {f C fI : Addr} {fd : FuncData} (F : Fun K "_law_next" "_law_next" sNext f fd) (T : Txt P K mg C fI) : FnOk P w K mg base CX0 1 f fd ["state", "limit"] spNext := by
  refine F.ok scNext (fun us H Q E h => ?_) (fun cdv A outer s H us Q E hr h => ?_)
  · obtain ⟨a, sc, ns, lim, rfl, _⟩ := h
    rfl
  · obtain ⟨a, sc, ns, lim, rfl, hS, l0, l1, k⟩ := h
    refine ⟨_, C8.pss_cut (ps_if (PW.pt (pw_and (pt_cmpR op_eq (pe_ix ix_list (pv 0) pe_int (fun _ _ => rfl)) pe_int (nomark _))
          (pw_and1 (pt_cmpR op_lt (pe_ix ix_list (pv 0) pe_int (fun _ _ => rfl)) (pe_callB call_len_seq (by rfl) T.len PySem.boot_len (pa_cons (pe_ix ix_list (pv 0) pe_int (fun _ _ => rfl)) pa_nil)) (nomark _)))))
        (pss_cons (ps_set (i := 2) scNext.nd rfl (Or.inl rfl) (pe_ix ix_list (pe_ix ix_list (pv 0) pe_int (fun _ _ => rfl)) (pe_ix ix_list (pv 0) pe_int (fun _ _ => rfl)) (fun _ _ => rfl)))
          (pss_cons (ps_augS (pv 0) pe_int get_list pe_int ip_add set_list)
          (pss_one (ps_if (pt_cmpR op_ge (pv 2) (pe_op op_pow pe_int pe_int) (nomark _))
            (pss_one (ps_asg (pv 2) (pg_sub (pv 0) pe_int set_list)))
            (pss_one (ps_asg (pe_op op_mod (pe_callTy call_int1 (by rfl) T.int boot_int (pa_cons (pe_op op_add (pe_op op_add (pe_op op_mul (pe_ix ix_list (pv 0) pe_int (fun _ _ => rfl)) pe_int) (pe_op op_mod (pe_callTy call_int1 (by rfl) T.int boot_int (pa_cons (pv 2) pa_nil)) pe_int)) pe_int) pa_nil)) pe_int) (pg_sub (pv 0) pe_int set_list))))))) pss_nil)
      (pss_cons (ps_if (pt_cmpR op_gt (pe_ix ix_list (pv 0) pe_int (fun _ _ => rfl)) pe_int (nomark _))
        (pss_cons (ps_set (i := 3) scNext.nd rfl (Or.inl rfl) (pe_op op_mod (pe_callTy call_int1 (by rfl) T.int boot_int (pa_cons (pe_ix ix_list (pv 0) pe_int (fun _ _ => rfl)) pa_nil)) (pv 1)))
          (pss_cons (ps_asg (pe_op op_fdivN (pe_ix ix_list (pv 0) pe_int (fun _ _ => rfl)) (pv 1)) (pg_sub (pv 0) pe_int set_list))
          (pss_one (ps_ret (pv 3))))) pss_nil)
      (pss_cons (ps_asg (pe_op op_mod (pe_callTy call_int1 (by rfl) T.int boot_int (pa_cons (pe_op op_add (pe_op op_mul (pe_ix ix_list (pv 0) pe_int (fun _ _ => rfl)) pe_int) pe_int) pa_nil)) pe_int) (pg_sub (pv 0) pe_int set_list))
      (pss_one (ps_ret (pe_op op_mod (pe_callTy call_int1 (by rfl) T.int boot_int (pa_cons (pe_op op_fdivN (pe_ix ix_list (pv 0) pe_int (fun _ _ => rfl)) pe_int) pa_nil)) (pv 1)))))), ?_⟩
    obtain ⟨i, c, s, hA, hC, hn, hi, hc⟩ := hS
    have nsa : sc ≠ a := StAt.ne ⟨i, c, s, hA, hC, hn, hi, hc⟩
    have aq : ∀ {H' : Hp} {i : Nat} {c s : Int}, H' a = some (.lst (St4 sc i c s)) → SqL K H' a (St4 sc i c s) := fun h => SqL.of h
    refine ⟨fun σ' H' => ∃ (v : Option V) (i : Nat) (c s : Int), σ' = [some (.ref a), some (.int (lim : Int)), v, none] ∧ H' a = some (.lst (St4 sc i c s)) ∧ H' sc = some (.lst (ns.map V.int)) ∧ i ≤ ns.length ∧ 0 ≤ c ∧ But a H H', ?_, ?_⟩
    · refine ⟨_, rfl, a, St4 sc i c s, 2, .int c, rfl, rfl, aq hA, rfl, rfl, _, rfl, ?_⟩
      by_cases c0 : V.int c = V.int 0
      · refine if_true_of (decide_eq_true c0) ?_
        refine ⟨_, rfl, a, St4 sc i c s, 1, .int (i : Int), rfl, rfl, aq hA, rfl, ?_⟩
        refine ⟨_, rfl, a, St4 sc i c s, 0, .ref sc, rfl, rfl, aq hA, rfl, sc, _, rfl, .inl (SqL.of hC), _, _, rfl, rfl, _, rfl, ?_⟩
        rw [List.length_map]
        by_cases c1 : i < ns.length
        · refine if_true_of (decide_eq_true (by omega)) ?_
          have hx : (ns.map V.int)[i]? = some (.int (ns[i])) := by rw [List.getElem?_map, List.getElem?_eq_getElem c1]; rfl
          refine ⟨_, rfl, a, St4 sc i c s, 0, .ref sc, rfl, rfl, aq hA, rfl, _, rfl, a, St4 sc i c s, 1, .int (i : Int), rfl, rfl, aq hA, rfl, sc, _, (i : Int), _, rfl, rfl, SqL.of hC, atI_nat hx, ?_⟩
          refine ⟨_, rfl, a, St4 sc i c s, 1, .int (i : Int), rfl, rfl, aq hA, rfl, by decide, _, _, rfl, rfl, a, St4 sc i c s, 1, 1, rfl, rfl, hA, rfl, ?_⟩
          have h1 : upd H a (.lst ((St4 sc i c s).set 1 (.int ((i : Int) + 1)))) a = some (.lst (St4 sc (i + 1) c s)) := upd_same
          have c1' : upd H a (.lst ((St4 sc i c s).set 1 (.int ((i : Int) + 1)))) sc = some (.lst (ns.map V.int)) := by rw [upd_ne nsa]; exact hC
          refine ⟨_, rfl, _, _, rfl, rfl, ⟨by decide, by decide, by decide⟩, _, _, rfl, rfl, _, rfl, ?_⟩
          by_cases big : (10 : Int) ^ ((18 : Int).toNat) ≤ ns[i]
          · refine if_true_of (decide_eq_true big) ?_
            refine ⟨_, rfl, _, rfl, a, St4 sc (i + 1) c s, 2, 2, rfl, rfl, h1, rfl, ?_⟩
            have b0 : (0 : Int) ≤ ns[i] := by
              have : (0 : Int) ≤ (10 : Int) ^ ((18 : Int).toNat) := by decide
              omega
            exact ⟨some (.int ns[i]), i + 1, ns[i], s, rfl, upd_same, (by rw [upd_ne nsa]; exact c1'), c1, b0, ((But.refl a H).upd _).upd _⟩
          · refine if_false_of (decide_eq_false big) ?_
            refine ⟨_, rfl, a, St4 sc (i + 1) c s, 3, .int s, rfl, rfl, aq h1, rfl, _, _, rfl, rfl, .inr (by decide), ?_⟩
            refine ⟨_, rfl, .inl ⟨_, rfl, _, _, rfl, rfl, (show (0 : Int) < 2147483647 by decide), _, _, rfl, rfl, _, _, rfl, rfl, .inl ⟨_, rfl, _, _, rfl, rfl, (show (0 : Int) < 2147483647 by decide), ?_⟩⟩⟩
            refine ⟨_, rfl, a, St4 sc (i + 1) c s, 3, 3, rfl, rfl, h1, rfl, ?_⟩
            exact ⟨some (.int ns[i]), i + 1, c, _, rfl, upd_same, (by rw [upd_ne nsa]; exact c1'), c1, hc, ((But.refl a H).upd _).upd _⟩
        · refine if_false_of (decide_eq_false (by omega)) ?_
          exact ⟨none, i, c, s, rfl, hA, hC, hi, hc, But.refl a H⟩
      · refine if_false_of (decide_eq_false c0) ?_
        exact ⟨none, i, c, s, rfl, hA, hC, hi, hc, But.refl a H⟩
    · rintro σ' H' ⟨v, i, c, s, rfl, hA, hC, hi, hc, hB⟩
      have lpos : (0 : Int) < (lim : Int) := by omega
      have fin : ∀ (x : Int) (H2 : Hp), StAt H2 a sc ns → But a H H2 → Q (.int (x % (lim : Int))) H2 := fun x H2 q1 q2 => by
        have e0 := Int.emod_nonneg x (by omega : (lim : Int) ≠ 0)
        have e1 := Int.emod_lt_of_pos x lpos
        have z := k (x % (lim : Int)).toNat H2 (by omega) q1 q2
        rw [Int.toNat_of_nonneg e0] at z
        exact z
      refine ⟨_, rfl, a, St4 sc i c s, 2, .int c, rfl, rfl, aq hA, rfl, _, _, rfl, rfl, _, rfl, ?_⟩
      by_cases c0 : (0 : Int) < c
      · refine if_true_of (decide_eq_true c0) ?_
        refine ⟨_, rfl, a, St4 sc i c s, 2, .int c, rfl, rfl, aq hA, rfl, .inl ⟨_, rfl, _, rfl, _, _, rfl, rfl, lpos, ?_⟩⟩
        refine ⟨_, rfl, a, St4 sc i c s, 2, .int c, rfl, rfl, aq hA, rfl, _, rfl, _, _, rfl, rfl, ⟨by omega, by omega⟩, _, rfl, a, St4 sc i c s, 2, 2, rfl, rfl, hA, rfl, ?_⟩
        refine ⟨_, rfl, fin _ _ ⟨i, _, s, upd_same, (by rw [upd_ne nsa]; exact hC), hn, hi, ?_⟩ (hB.upd _)⟩
        rw [Int.fdiv_eq_ediv_of_nonneg _ (by omega)]
        exact Int.ediv_nonneg hc (by omega)
      · refine if_false_of (decide_eq_false c0) ?_
        refine ⟨_, rfl, a, St4 sc i c s, 3, .int s, rfl, rfl, aq hA, rfl, _, _, rfl, rfl, .inr (by decide), _, _, rfl, rfl, .inl ⟨_, rfl, _, _, rfl, rfl, (show (0 : Int) < 2147483647 by decide), ?_⟩⟩
        refine ⟨_, rfl, a, St4 sc i c s, 3, 3, rfl, rfl, hA, rfl, ?_⟩
        refine ⟨_, rfl, a, St4 sc i c _, 3, _, rfl, rfl, SqL.of upd_same, rfl, _, _, rfl, rfl, ⟨by decide, by decide⟩, .inl ⟨_, rfl, _, rfl, _, _, rfl, rfl, lpos, ?_⟩⟩
        exact fin _ _ ⟨i, c, _, upd_same, (by rw [upd_ne nsa]; exact hC), hn, hi, hc⟩ (hB.upd _)
end
end K9
namespace K9
open PySem L2 PyProof.Rows
/-! ### _law_same: what is the same data is told to be the same -/
def Atom (x : V) : Prop := (∃ i, x = .int i) ∨ ∃ z, x = .str z
def spSame0 : Sp := fun us H Q _ => ∃ x, us = [x, x] ∧ Atom x ∧ Q (.bl true) H
def spSame1 : Sp := fun us H Q _ => ∃ (a b : Addr) (xs : List V), us = [.ref a, .ref b] ∧ H a = some (.tup xs) ∧ H b = some (.tup xs) ∧ xs.length ≤ 1000 ∧ (∀ x ∈ xs, Atom x) ∧ Q (.bl true) H
def spSame2 : Sp := fun us H Q _ => ∃ (a b : Addr) (rs qs : List V), us = [.ref a, .ref b] ∧ H a = some (.lst rs) ∧ H b = some (.lst qs) ∧ rs.length ≤ 1000 ∧
  Paired (fun x y => ∃ (p q : Addr) (xs : List V), x = .ref p ∧ y = .ref q ∧ H p = some (.tup xs) ∧ H q = some (.tup xs) ∧ xs.length ≤ 1000 ∧ ∀ x ∈ xs, Atom x) rs qs ∧ Q (.bl true) H
section
variable {P : Program} {w : World} {K : PySem.W.Frag} {mg : Str → Option Value} {base : Heap}
theorem scSame : FnScope ["actual", "expected", "k"] ["actual", "expected"] (defScope sSame) := ⟨rfl, rfl, rfl, by decide +kernel, rfl, by decide +kernel, by decide +kernel⟩
theorem fn_false {f : Addr} {fd : FuncData} {ps : List Str} : FnOk P w K mg base CX0 0 f fd ps (fun _ _ _ _ => False) := ⟨fun _ _ _ _ h => h.elim, fun _ _ _ _ _ _ _ _ _ _ _ _ _ h => h.elim⟩
theorem Paired.at {α β : Type} {F : α → β → Prop} : ∀ {l₁ : List α} {l₂ : List β} {i : Nat}, Paired F l₁ l₂ → (h1 : i < l₁.length) → (h2 : i < l₂.length) → F l₁[i] l₂[i]
  | _, _, _, .nil, h1, _ => absurd h1 (Nat.not_lt_zero _)
  | _, _, 0, .cons r _, _, _ => r
  | _, _, i + 1, .cons _ t, h1, h2 => Paired.at t (Nat.lt_of_succ_lt_succ h1) (Nat.lt_of_succ_lt_succ h2)
theorem ok_same0 {f C fI : Addr} {fd : FuncData} (T : Txt P K mg C fI) (DS : Dd K mg "_law_same" sSame ["actual", "expected"] f fd) : FnOk P w K mg base CX0 1 f fd ["actual", "expected"] spSame0 := by
  have G : FnOk P w K mg base CX0 0 f fd ["actual", "expected"] (fun _ _ _ _ => False) := fn_false
  refine DS.fn.ok scSame (fun us H Q E h => ?_) (fun cdv A outer s H us Q E hr h => ?_)
  · obtain ⟨x, rfl, _⟩ := h
    rfl
  · obtain ⟨x, rfl, hx, k⟩ := h
    refine ⟨_, pss_cons (ps_if (pt_cmpR op_isN (pv 1) pe_non (nomark _)) (pss_one (ps_ret (pe_cmpR op_isN (pv 0) pe_non (nomark _)))) pss_nil)
      (pss_cons (ps_if (pt_val (pe_callB call_isi (by rfl) T.isi boot_isinstance (pa_cons (pv 1) (pa_cons (pe_bltn (v := .ty "bool") (by rfl) T.bool boot_bool rfl) pa_nil)))) (pss_one (ps_ret (pe_and (pe_callB call_isi (by rfl) T.isi boot_isinstance (pa_cons (pv 0) (pa_cons (pe_bltn (v := .ty "bool") (by rfl) T.bool boot_bool rfl) pa_nil))) (pe_one (pe_cmpR op_eq (pv 0) (pv 1) (nomark _)))))) pss_nil)
      (pss_cons (ps_if (pt_val (pe_callB call_isi (by rfl) T.isi boot_isinstance (pa_cons (pv 1) (pa_cons (pe_bltn (v := .ty "int") (by rfl) T.int boot_int rfl) pa_nil)))) (pss_one (ps_ret (pe_and (pe_callB call_isi (by rfl) T.isi boot_isinstance (pa_cons (pv 0) (pa_cons (pe_bltn (v := .ty "int") (by rfl) T.int boot_int rfl) pa_nil))) (pe_and (pe_not (pe_callB call_isi (by rfl) T.isi boot_isinstance (pa_cons (pv 0) (pa_cons (pe_bltn (v := .ty "bool") (by rfl) T.bool boot_bool rfl) pa_nil)))) (pe_one (pe_cmpR op_eq (pv 0) (pv 1) (nomark _))))))) pss_nil)
      (pss_cons (ps_if (pt_val (pe_callB call_isi (by rfl) T.isi boot_isinstance (pa_cons (pv 1) (pa_cons (pe_bltn (v := .ty "str") (by rfl) T.str boot_str rfl) pa_nil)))) (pss_one (ps_ret (pe_and (pe_callB call_isi (by rfl) T.isi boot_isinstance (pa_cons (pv 0) (pa_cons (pe_bltn (v := .ty "str") (by rfl) T.str boot_str rfl) pa_nil))) (pe_one (pe_cmpR op_eq (pv 0) (pv 1) (nomark _)))))) pss_nil)
      (pss_cons (ps_if (PW.pt (pw_and (pt_val (pe_callB call_isi (by rfl) T.isi boot_isinstance (pa_cons (pv 1) (pa_cons (pe_bltn (v := .ty "tuple") (by rfl) T.tuple boot_tuple rfl) pa_nil)))) (pw_and1 (pt_not (pt_val (pe_callB call_isi (by rfl) T.isi boot_isinstance (pa_cons (pv 0) (pa_cons (pe_bltn (v := .ty "tuple") (by rfl) T.tuple boot_tuple rfl) pa_nil)))))))) (pss_one (ps_ret pe_bl)) pss_nil)
      (pss_cons (ps_if (PW.pt (pw_and (pt_val (pe_callB call_isi (by rfl) T.isi boot_isinstance (pa_cons (pv 1) (pa_cons (pe_bltn (v := .ty "list") (by rfl) T.list boot_list rfl) pa_nil)))) (pw_and1 (pt_not (pt_val (pe_callB call_isi (by rfl) T.isi boot_isinstance (pa_cons (pv 0) (pa_cons (pe_bltn (v := .ty "list") (by rfl) T.list boot_list rfl) pa_nil)))))))) (pss_one (ps_ret pe_bl)) pss_nil)
      (pss_cons (ps_if (pt_cmpR op_ne (pe_callB call_len_seq (by rfl) T.len PySem.boot_len (pa_cons (pv 0) pa_nil)) (pe_callB call_len_seq (by rfl) T.len PySem.boot_len (pa_cons (pv 1) pa_nil)) (nomark _)) (pss_one (ps_ret pe_bl)) pss_nil)
      (pss_cons (ps_for PassesOwn.never rfl (pi_range1 rfl T.range (pa_cons (pe_callB call_len_seq (by rfl) T.len PySem.boot_len (pa_cons (pv 1) pa_nil)) pa_nil)) (pg_name (i := 2) scSame.nd rfl (Or.inl rfl))
        (pss_one (ps_if (pt_not (pt_val (pe_call G hr rfl DS.g DS.k DS.b .nil pass0 (pa_cons (pe_ix ix_seq (pv 0) (pv 2) (fun _ _ => rfl)) (pa_cons (pe_ix ix_seq (pv 1) (pv 2) (fun _ _ => rfl)) pa_nil))))) (pss_one (ps_ret pe_bl)) pss_nil)))
      (pss_one (ps_ret pe_bl))))))))), ?_⟩
    refine ⟨_, rfl, rfl, _, rfl, ?_⟩
    refine if_false_of (decide_eq_false (fun z => by obtain ⟨i, rfl⟩ | ⟨z', rfl⟩ := hx <;> cases z)) ?_
    obtain ⟨i, rfl⟩ | ⟨z, rfl⟩ := hx
    · refine ⟨_, rfl, .int i, .ty "bool", .type "int", .type "bool", false, rfl, .ty _, .base (.int i), kit_ty (by decide +kernel), _, rfl, ?_⟩
      refine if_false_of rfl ?_
      refine ⟨_, rfl, .int i, .ty "int", .type "int", .type "int", true, rfl, .ty _, .base (.int i), kit_ty (by decide +kernel), _, rfl, ?_⟩
      refine if_true_of rfl ?_
      refine ⟨_, rfl, .int i, .ty "int", .type "int", .type "int", true, rfl, .ty _, .base (.int i), kit_ty (by decide +kernel), _, rfl, ?_⟩
      refine if_true_of rfl ?_
      refine ⟨_, rfl, .int i, .ty "bool", .type "int", .type "bool", false, rfl, .ty _, .base (.int i), kit_ty (by decide +kernel), _, rfl, _, rfl, ?_⟩
      refine if_true_of rfl ?_
      refine ⟨_, rfl, _, rfl, rfl, ?_⟩
      have e : decide (V.int i = V.int i) = true := decide_eq_true rfl
      rw [e]
      exact k
    · refine ⟨_, rfl, .str z, .ty "bool", .type "str", .type "bool", false, rfl, .ty _, .base (.str z), kit_ty (by decide +kernel), _, rfl, ?_⟩
      refine if_false_of rfl ?_
      refine ⟨_, rfl, .str z, .ty "int", .type "str", .type "int", false, rfl, .ty _, .base (.str z), kit_ty (by decide +kernel), _, rfl, ?_⟩
      refine if_false_of rfl ?_
      refine ⟨_, rfl, .str z, .ty "str", .type "str", .type "str", true, rfl, .ty _, .base (.str z), kit_ty (by decide +kernel), _, rfl, ?_⟩
      refine if_true_of rfl ?_
      refine ⟨_, rfl, .str z, .ty "str", .type "str", .type "str", true, rfl, .ty _, .base (.str z), kit_ty (by decide +kernel), _, rfl, ?_⟩
      refine if_true_of rfl ?_
      refine ⟨_, rfl, _, rfl, rfl, ?_⟩
      have e : decide (V.str z = V.str z) = true := decide_eq_true rfl
      rw [e]
      exact k
theorem ok_same1 {f C fI : Addr} {fd : FuncData} (T : Txt P K mg C fI) (DS : Dd K mg "_law_same" sSame ["actual", "expected"] f fd) : FnOk P w K mg base CX0 2 f fd ["actual", "expected"] spSame1 := by
  have G : FnOk P w K mg base CX0 1 f fd ["actual", "expected"] spSame0 := ok_same0 T DS
  refine DS.fn.ok scSame (fun us H Q E h => ?_) (fun cdv A outer s H us Q E hr h => ?_)
  · obtain ⟨a, b, xs, rfl, _⟩ := h
    rfl
  · obtain ⟨a, b, xs, rfl, ha, hb, hn, hat, k⟩ := h
    refine ⟨_, pss_cons (ps_if (pt_cmpR op_isN (pv 1) pe_non (nomark _)) (pss_one (ps_ret (pe_cmpR op_isN (pv 0) pe_non (nomark _)))) pss_nil)
      (pss_cons (ps_if (pt_val (pe_callB call_isi (by rfl) T.isi boot_isinstance (pa_cons (pv 1) (pa_cons (pe_bltn (v := .ty "bool") (by rfl) T.bool boot_bool rfl) pa_nil)))) (pss_one (ps_ret (pe_and (pe_callB call_isi (by rfl) T.isi boot_isinstance (pa_cons (pv 0) (pa_cons (pe_bltn (v := .ty "bool") (by rfl) T.bool boot_bool rfl) pa_nil))) (pe_one (pe_cmpR op_eq (pv 0) (pv 1) (nomark _)))))) pss_nil)
      (pss_cons (ps_if (pt_val (pe_callB call_isi (by rfl) T.isi boot_isinstance (pa_cons (pv 1) (pa_cons (pe_bltn (v := .ty "int") (by rfl) T.int boot_int rfl) pa_nil)))) (pss_one (ps_ret (pe_and (pe_callB call_isi (by rfl) T.isi boot_isinstance (pa_cons (pv 0) (pa_cons (pe_bltn (v := .ty "int") (by rfl) T.int boot_int rfl) pa_nil))) (pe_and (pe_not (pe_callB call_isi (by rfl) T.isi boot_isinstance (pa_cons (pv 0) (pa_cons (pe_bltn (v := .ty "bool") (by rfl) T.bool boot_bool rfl) pa_nil)))) (pe_one (pe_cmpR op_eq (pv 0) (pv 1) (nomark _))))))) pss_nil)
      (pss_cons (ps_if (pt_val (pe_callB call_isi (by rfl) T.isi boot_isinstance (pa_cons (pv 1) (pa_cons (pe_bltn (v := .ty "str") (by rfl) T.str boot_str rfl) pa_nil)))) (pss_one (ps_ret (pe_and (pe_callB call_isi (by rfl) T.isi boot_isinstance (pa_cons (pv 0) (pa_cons (pe_bltn (v := .ty "str") (by rfl) T.str boot_str rfl) pa_nil))) (pe_one (pe_cmpR op_eq (pv 0) (pv 1) (nomark _)))))) pss_nil)
      (pss_cons (ps_if (PW.pt (pw_and (pt_val (pe_callB call_isi (by rfl) T.isi boot_isinstance (pa_cons (pv 1) (pa_cons (pe_bltn (v := .ty "tuple") (by rfl) T.tuple boot_tuple rfl) pa_nil)))) (pw_and1 (pt_not (pt_val (pe_callB call_isi (by rfl) T.isi boot_isinstance (pa_cons (pv 0) (pa_cons (pe_bltn (v := .ty "tuple") (by rfl) T.tuple boot_tuple rfl) pa_nil)))))))) (pss_one (ps_ret pe_bl)) pss_nil)
      (pss_cons (ps_if (PW.pt (pw_and (pt_val (pe_callB call_isi (by rfl) T.isi boot_isinstance (pa_cons (pv 1) (pa_cons (pe_bltn (v := .ty "list") (by rfl) T.list boot_list rfl) pa_nil)))) (pw_and1 (pt_not (pt_val (pe_callB call_isi (by rfl) T.isi boot_isinstance (pa_cons (pv 0) (pa_cons (pe_bltn (v := .ty "list") (by rfl) T.list boot_list rfl) pa_nil)))))))) (pss_one (ps_ret pe_bl)) pss_nil)
      (pss_cons (ps_if (pt_cmpR op_ne (pe_callB call_len_seq (by rfl) T.len PySem.boot_len (pa_cons (pv 0) pa_nil)) (pe_callB call_len_seq (by rfl) T.len PySem.boot_len (pa_cons (pv 1) pa_nil)) (nomark _)) (pss_one (ps_ret pe_bl)) pss_nil)
      (pss_cons (ps_for PassesOwn.never rfl (pi_range1 rfl T.range (pa_cons (pe_callB call_len_seq (by rfl) T.len PySem.boot_len (pa_cons (pv 1) pa_nil)) pa_nil)) (pg_name (i := 2) scSame.nd rfl (Or.inl rfl))
        (pss_one (ps_if (pt_not (pt_val (pe_call G hr rfl DS.g DS.k DS.b .nil pass0 (pa_cons (pe_ix ix_seq (pv 0) (pv 2) (fun _ _ => rfl)) (pa_cons (pe_ix ix_seq (pv 1) (pv 2) (fun _ _ => rfl)) pa_nil))))) (pss_one (ps_ret pe_bl)) pss_nil)))
      (pss_one (ps_ret pe_bl))))))))), ?_⟩
    refine ⟨_, rfl, rfl, _, rfl, ?_⟩
    refine if_false_of (decide_eq_false (fun z => by cases z)) ?_
    refine ⟨_, rfl, .ref b, .ty "bool", .type "tuple", .type "bool", false, rfl, .ty _, .base (.tup hb), kit_ty (by decide +kernel), _, rfl, ?_⟩
    refine if_false_of rfl ?_
    refine ⟨_, rfl, .ref b, .ty "int", .type "tuple", .type "int", false, rfl, .ty _, .base (.tup hb), kit_ty (by decide +kernel), _, rfl, ?_⟩
    refine if_false_of rfl ?_
    refine ⟨_, rfl, .ref b, .ty "str", .type "tuple", .type "str", false, rfl, .ty _, .base (.tup hb), kit_ty (by decide +kernel), _, rfl, ?_⟩
    refine if_false_of rfl ?_
    refine ⟨_, rfl, .ref b, .ty "tuple", .type "tuple", .type "tuple", true, rfl, .ty _, .base (.tup hb), kit_ty (by decide +kernel), _, rfl, ?_⟩
    refine if_true_of rfl ?_
    refine ⟨_, rfl, .ref a, .ty "tuple", .type "tuple", .type "tuple", true, rfl, .ty _, .base (.tup ha), kit_ty (by decide +kernel), _, rfl, ?_⟩
    refine if_false_of rfl ?_
    refine ⟨_, rfl, .ref b, .ty "list", .type "tuple", .type "list", false, rfl, .ty _, .base (.tup hb), kit_ty (by decide +kernel), _, rfl, ?_⟩
    refine if_false_of rfl ?_
    have n62 : (xs.length : Int) < 2 ^ 62 := by omega
    refine ⟨_, rfl, a, xs, rfl, .inr (SqT.of ha), _, rfl, b, xs, rfl, .inr (SqT.of hb), rfl, _, rfl, ?_⟩
    refine if_false_of (by rw [decide_eq_true rfl]; rfl) ?_
    refine ⟨_, rfl, b, xs, rfl, .inr (SqT.of hb), _, rfl, by omega, n62, for_range (fun i σ H' => (∃ v, σ = [some (.ref a), some (.ref b), v]) ∧ H' = H) ⟨⟨_, rfl⟩, rfl⟩ ?_ ?_⟩
    · rintro i σ H' hi ⟨⟨v, rfl⟩, rfl⟩
      have hi' : i < xs.length := by omega
      have hx : xs[i]? = some (xs[i]) := List.getElem?_eq_getElem hi'
      have hz : atI xs ((0 : Int) + (i : Int)) = some (xs[i]) := by rw [Int.zero_add]; exact atI_nat hx
      refine ⟨_, rfl, _, rfl, .inr (.inl ⟨a, xs, _, _, rfl, rfl, SqT.of ha, hz, _, rfl, _, rfl, .inr (.inl ⟨b, xs, _, _, rfl, rfl, SqT.of hb, hz, ?_⟩)⟩)⟩
      refine ⟨_, rfl, hat _ (List.getElem_mem hi'), _, rfl, ?_⟩
      refine if_false_of rfl ?_
      exact ⟨⟨_, rfl⟩, rfl⟩
    · rintro σ H' ⟨⟨v, rfl⟩, rfl⟩
      exact k
theorem ok_same2 {f C fI : Addr} {fd : FuncData} (T : Txt P K mg C fI) (DS : Dd K mg "_law_same" sSame ["actual", "expected"] f fd) : FnOk P w K mg base CX0 3 f fd ["actual", "expected"] spSame2 := by
  have G : FnOk P w K mg base CX0 2 f fd ["actual", "expected"] spSame1 := ok_same1 T DS
  refine DS.fn.ok scSame (fun us H Q E h => ?_) (fun cdv A outer s H us Q E hr h => ?_)
  · obtain ⟨a, b, rs, qs, rfl, _⟩ := h
    rfl
  · obtain ⟨a, b, rs, qs, rfl, ha, hb, hn, hP, k⟩ := h
    refine ⟨_, pss_cons (ps_if (pt_cmpR op_isN (pv 1) pe_non (nomark _)) (pss_one (ps_ret (pe_cmpR op_isN (pv 0) pe_non (nomark _)))) pss_nil)
      (pss_cons (ps_if (pt_val (pe_callB call_isi (by rfl) T.isi boot_isinstance (pa_cons (pv 1) (pa_cons (pe_bltn (v := .ty "bool") (by rfl) T.bool boot_bool rfl) pa_nil)))) (pss_one (ps_ret (pe_and (pe_callB call_isi (by rfl) T.isi boot_isinstance (pa_cons (pv 0) (pa_cons (pe_bltn (v := .ty "bool") (by rfl) T.bool boot_bool rfl) pa_nil))) (pe_one (pe_cmpR op_eq (pv 0) (pv 1) (nomark _)))))) pss_nil)
      (pss_cons (ps_if (pt_val (pe_callB call_isi (by rfl) T.isi boot_isinstance (pa_cons (pv 1) (pa_cons (pe_bltn (v := .ty "int") (by rfl) T.int boot_int rfl) pa_nil)))) (pss_one (ps_ret (pe_and (pe_callB call_isi (by rfl) T.isi boot_isinstance (pa_cons (pv 0) (pa_cons (pe_bltn (v := .ty "int") (by rfl) T.int boot_int rfl) pa_nil))) (pe_and (pe_not (pe_callB call_isi (by rfl) T.isi boot_isinstance (pa_cons (pv 0) (pa_cons (pe_bltn (v := .ty "bool") (by rfl) T.bool boot_bool rfl) pa_nil)))) (pe_one (pe_cmpR op_eq (pv 0) (pv 1) (nomark _))))))) pss_nil)
      (pss_cons (ps_if (pt_val (pe_callB call_isi (by rfl) T.isi boot_isinstance (pa_cons (pv 1) (pa_cons (pe_bltn (v := .ty "str") (by rfl) T.str boot_str rfl) pa_nil)))) (pss_one (ps_ret (pe_and (pe_callB call_isi (by rfl) T.isi boot_isinstance (pa_cons (pv 0) (pa_cons (pe_bltn (v := .ty "str") (by rfl) T.str boot_str rfl) pa_nil))) (pe_one (pe_cmpR op_eq (pv 0) (pv 1) (nomark _)))))) pss_nil)
      (pss_cons (ps_if (PW.pt (pw_and (pt_val (pe_callB call_isi (by rfl) T.isi boot_isinstance (pa_cons (pv 1) (pa_cons (pe_bltn (v := .ty "tuple") (by rfl) T.tuple boot_tuple rfl) pa_nil)))) (pw_and1 (pt_not (pt_val (pe_callB call_isi (by rfl) T.isi boot_isinstance (pa_cons (pv 0) (pa_cons (pe_bltn (v := .ty "tuple") (by rfl) T.tuple boot_tuple rfl) pa_nil)))))))) (pss_one (ps_ret pe_bl)) pss_nil)
      (pss_cons (ps_if (PW.pt (pw_and (pt_val (pe_callB call_isi (by rfl) T.isi boot_isinstance (pa_cons (pv 1) (pa_cons (pe_bltn (v := .ty "list") (by rfl) T.list boot_list rfl) pa_nil)))) (pw_and1 (pt_not (pt_val (pe_callB call_isi (by rfl) T.isi boot_isinstance (pa_cons (pv 0) (pa_cons (pe_bltn (v := .ty "list") (by rfl) T.list boot_list rfl) pa_nil)))))))) (pss_one (ps_ret pe_bl)) pss_nil)
      (pss_cons (ps_if (pt_cmpR op_ne (pe_callB call_len_seq (by rfl) T.len PySem.boot_len (pa_cons (pv 0) pa_nil)) (pe_callB call_len_seq (by rfl) T.len PySem.boot_len (pa_cons (pv 1) pa_nil)) (nomark _)) (pss_one (ps_ret pe_bl)) pss_nil)
      (pss_cons (ps_for PassesOwn.never rfl (pi_range1 rfl T.range (pa_cons (pe_callB call_len_seq (by rfl) T.len PySem.boot_len (pa_cons (pv 1) pa_nil)) pa_nil)) (pg_name (i := 2) scSame.nd rfl (Or.inl rfl))
        (pss_one (ps_if (pt_not (pt_val (pe_call G hr rfl DS.g DS.k DS.b .nil pass0 (pa_cons (pe_ix ix_seq (pv 0) (pv 2) (fun _ _ => rfl)) (pa_cons (pe_ix ix_seq (pv 1) (pv 2) (fun _ _ => rfl)) pa_nil))))) (pss_one (ps_ret pe_bl)) pss_nil)))
      (pss_one (ps_ret pe_bl))))))))), ?_⟩
    refine ⟨_, rfl, rfl, _, rfl, ?_⟩
    refine if_false_of (decide_eq_false (fun z => by cases z)) ?_
    refine ⟨_, rfl, .ref b, .ty "bool", .type "list", .type "bool", false, rfl, .ty _, .base (.lst hb), kit_ty (by decide +kernel), _, rfl, ?_⟩
    refine if_false_of rfl ?_
    refine ⟨_, rfl, .ref b, .ty "int", .type "list", .type "int", false, rfl, .ty _, .base (.lst hb), kit_ty (by decide +kernel), _, rfl, ?_⟩
    refine if_false_of rfl ?_
    refine ⟨_, rfl, .ref b, .ty "str", .type "list", .type "str", false, rfl, .ty _, .base (.lst hb), kit_ty (by decide +kernel), _, rfl, ?_⟩
    refine if_false_of rfl ?_
    refine ⟨_, rfl, .ref b, .ty "tuple", .type "list", .type "tuple", false, rfl, .ty _, .base (.lst hb), kit_ty (by decide +kernel), _, rfl, ?_⟩
    refine if_false_of rfl ?_
    refine ⟨_, rfl, .ref b, .ty "list", .type "list", .type "list", true, rfl, .ty _, .base (.lst hb), kit_ty (by decide +kernel), _, rfl, ?_⟩
    refine if_true_of rfl ?_
    refine ⟨_, rfl, .ref a, .ty "list", .type "list", .type "list", true, rfl, .ty _, .base (.lst ha), kit_ty (by decide +kernel), _, rfl, ?_⟩
    refine if_false_of rfl ?_
    have eln := Paired.length hP
    have n62 : (qs.length : Int) < 2 ^ 62 := by omega
    refine ⟨_, rfl, a, rs, rfl, .inl (SqL.of ha), _, rfl, b, qs, rfl, .inl (SqL.of hb), rfl, _, rfl, ?_⟩
    refine if_false_of (by rw [eln, decide_eq_true rfl]; rfl) ?_
    refine ⟨_, rfl, b, qs, rfl, .inl (SqL.of hb), _, rfl, by omega, n62, for_range (fun i σ H' => (∃ v, σ = [some (.ref a), some (.ref b), v]) ∧ H' = H) ⟨⟨_, rfl⟩, rfl⟩ ?_ ?_⟩
    · rintro i σ H' hi ⟨⟨v, rfl⟩, rfl⟩
      have hi' : i < qs.length := by omega
      have hj' : i < rs.length := by omega
      have hz : atI rs ((0 : Int) + (i : Int)) = some (rs[i]) := by rw [Int.zero_add]; exact atI_nat (List.getElem?_eq_getElem hj')
      have hy : atI qs ((0 : Int) + (i : Int)) = some (qs[i]) := by rw [Int.zero_add]; exact atI_nat (List.getElem?_eq_getElem hi')
      obtain ⟨p, q, xs, e1, e2, h1, h2, h3, h4⟩ := Paired.at hP hj' hi'
      refine ⟨_, rfl, _, rfl, .inl ⟨a, rs, _, _, rfl, rfl, SqL.of ha, hz, _, rfl, _, rfl, .inl ⟨b, qs, _, _, rfl, rfl, SqL.of hb, hy, ?_⟩⟩⟩
      refine ⟨p, q, xs, by rw [e1, e2]; rfl, h1, h2, h3, h4, _, rfl, ?_⟩
      refine if_false_of rfl ?_
      exact ⟨⟨_, rfl⟩, rfl⟩
    · rintro σ H' ⟨⟨v, rfl⟩, rfl⟩
      exact k
end
end K9
namespace K9
open PySem L2 PyProof.Rows
/-! ### _law_joins -/
theorem cut_last {x : List Nat} (ne : x ≠ []) : cutS (S x) (some (-1)) none = S [x.getLast ne] := by
  have hl : 0 < x.length := List.length_pos_iff.mpr ne
  unfold cutS
  rw [HT.sIx_none, S_toList, S_len]
  have e : HT.sIx x.length 0 (some (-1)) = x.length - 1 := by
    show (if (-1 : Int) < 0 then ((-1 : Int) + (x.length : Int)).toNat else min ((-1 : Int)).toNat x.length) = _
    rw [if_pos (by decide)]
    omega
  have d : x.drop (x.length - 1) = [x.getLast ne] := by
    have z := List.dropLast_concat_getLast ne
    have l : x.dropLast.length = x.length - 1 := by simp
    calc x.drop (x.length - 1) = (x.dropLast ++ [x.getLast ne]).drop (x.length - 1) := by rw [z]
      _ = [x.getLast ne] := by rw [← l, List.drop_left]
  rw [e, d, show x.length - (x.length - 1) = 1 by omega]
  rfl
theorem cut_first {y : List Nat} (ne : y ≠ []) : cutS (S y) none (some 1) = S [y.getD 0 0] := by
  unfold cutS
  rw [HT.sIx_none, S_toList, S_len, show (1 : Int) = ((1 : Nat) : Int) from rfl, HT.sIx_nat]
  cases y with
  | nil => exact absurd rfl ne
  | cons c r =>
    rw [List.length_cons, show min 1 (r.length + 1) - 0 = 1 by omega]
    rfl
theorem eLAT : Str.ofString "abcdefghijklmnopqrstuvwxyz0123456789_" = S LAT := by decide +kernel
theorem eDIG : Str.ofString "0123456789" = S DIG := by decide +kernel
theorem eLt : Str.ofString "<" = S [60] := by decide +kernel
theorem eEq : Str.ofString "=" = S [61] := by decide +kernel
def TokVs (k : List Nat) (v : Tv) (x : List Nat) : List V := [vs k, tvV v, vs x]
def spJoins : Sp := fun us H Q _ => ∃ (a b : Addr) (k k2 : List Nat) (v v2 : Tv) (x y : List Nat), us = [.ref a, .ref b] ∧ H a = some (.tup (TokVs k v x)) ∧ H b = some (.tup (TokVs k2 v2 y)) ∧ x ≠ [] ∧ y ≠ [] ∧ x.length ≤ 100 ∧ y.length ≤ 100 ∧
  ∀ H', Same H H' → Q (.bl (stopOf k x (y.getD 0 0))) H'
section
variable {P : Program} {w : World} {K : PySem.W.Frag} {mg : Str → Option Value} {base : Heap}
theorem scJoins : FnScope ["one", "other", "last", "first", "words"] ["one", "other"] (defScope sJoins) := ⟨rfl, rfl, rfl, by decide +kernel, rfl, by decide +kernel, by decide +kernel⟩
theorem ok_joins {f C fI : Addr} {fd : FuncData} (F : Fun K "_law_joins" "_law_joins" sJoins f fd) (T : Txt P K mg C fI) : FnOk P w K mg base CX0 1 f fd ["one", "other"] spJoins := by
  refine F.ok scJoins (fun us H Q E h => ?_) (fun cdv A outer s H us Q E hr h => ?_)
  · obtain ⟨a, b, k, k2, v, v2, x, y, rfl, _⟩ := h
    rfl
  · obtain ⟨a, b, k, k2, v, v2, x, y, rfl, ha, hb, nx, ny, lx, ly, q⟩ := h
    refine ⟨_, pss_cons (ps_par (i := 2) (j := 3) rfl scJoins.nd rfl rfl (by decide) rfl rfl (pa_cons (pe_slice sl_str (pe_ix ix_tup (pv 0) pe_int (fun _ _ => rfl)) (po_some (pe_un un_neg pe_int)) po_none) (pa_cons (pe_slice sl_str (pe_ix ix_tup (pv 1) pe_int (fun _ _ => rfl)) po_none (po_some pe_int)) pa_nil)) (by rfl))
      (pss_cons (ps_set (i := 4) scJoins.nd rfl (Or.inl rfl) pe_str)
      (pss_cons (ps_if (pt_cmpR op_in_seq (pe_ix ix_tup (pv 0) pe_int (fun _ _ => rfl)) (pe_lst (pa_cons pe_str (pa_cons pe_str (pa_cons pe_str pa_nil)))) rfl)
        (pss_one (ps_ret (pe_cmpR op_in_sign (pv 3) (pv 4) rfl))) pss_nil)
      (pss_cons (ps_if (pt_cmpR op_eq (pe_ix ix_tup (pv 0) pe_int (fun _ _ => rfl)) pe_str (nomark _))
        (pss_one (ps_ret (pe_cmpR op_in_sign (pv 3) pe_str rfl))) pss_nil)
      (pss_one (ps_ret (pe_and (pe_cmpR op_eq (pv 2) pe_str (nomark _)) (pe_one (pe_cmpR op_eq (pv 3) pe_str (nomark _))))))))), ?_⟩
    have sA : SqT K H a (TokVs k v x) := SqT.of ha
    have sB : SqT K H b (TokVs k2 v2 y) := SqT.of hb
    have zx : (S x).length ≤ sizeLine := by rw [S_len]; exact Nat.le_trans lx (by decide)
    have zy : (S y).length ≤ sizeLine := by rw [S_len]; exact Nat.le_trans ly (by decide)
    refine ⟨_, rfl, a, _, 2, _, rfl, rfl, sA, rfl, _, rfl, _, rfl, S x, rfl, zx, ?_⟩
    refine ⟨_, rfl, b, _, 2, _, rfl, rfl, sB, rfl, _, rfl, S y, rfl, zy, _, _, rfl, ?_⟩
    rw [show (-1 : Int) = -1 from rfl, cut_last nx, cut_first ny]
    refine ⟨_, rfl, a, _, 0, _, rfl, rfl, sA, rfl, (by show 3 ≤ sizeLine; decide), fun l hl => ?_⟩
    have e3 : [V.str (Str.ofString "keyword"), V.str (Str.ofString "name"), V.str (Str.ofString "quoted")] = [kKey, kName, kQuo].map vs := by
      rw [eKey, eName, eQuo]
      rfl
    have sS : Same H (upd H l (.lst [V.str (Str.ofString "keyword"), V.str (Str.ofString "name"), V.str (Str.ofString "quoted")])) := same_upd (Same.refl H) hl
    refine ⟨l, _, rfl, .inl (SqL.of upd_same), rfl, rfl, _, rfl, ?_⟩
    rw [if_neg Bool.false_ne_true, e3, inV_strs]
    have hu : ∀ c : Nat, S [c] = ⟨#[c]⟩ := fun c => rfl
    by_cases c1 : k ∈ [kKey, kName, kQuo]
    · refine if_true_of (decide_eq_true c1) ?_
      refine ⟨_, rfl, _, rfl, y.getD 0 0, Str.ofString "abcdefghijklmnopqrstuvwxyz0123456789_", rfl, rfl, ?_⟩
      have z := q _ (e3 ▸ sS)
      unfold stopOf at z
      rw [if_pos c1] at z
      rw [eLAT, S_toList]
      exact z
    · refine if_false_of (decide_eq_false c1) ?_
      refine ⟨_, rfl, a, _, 0, _, rfl, rfl, SqT.of (sS _ _ ha), rfl, rfl, _, rfl, ?_⟩
      have z := q _ (e3 ▸ sS)
      unfold stopOf at z
      rw [if_neg c1] at z
      by_cases c2 : k = kNum
      · refine if_true_of (decide_eq_true (by show vs k = _; rw [c2, vs, ← eNum])) ?_
        rw [if_pos c2] at z
        refine ⟨_, rfl, y.getD 0 0, Str.ofString "0123456789", rfl, rfl, ?_⟩
        rw [eDIG, S_toList]
        exact z
      · refine if_false_of (decide_eq_false (fun y => c2 ?_)) ?_
        · have y' : vs k = V.str (Str.ofString "number") := y
          rw [eNum] at y'
          exact S_inj.mp (V.str.inj y')
        rw [if_neg c2] at z
        refine ⟨_, rfl, rfl, _, rfl, ?_⟩
        have gl : x.getLast? = some (x.getLast nx) := List.getLast?_eq_some_getLast nx
        rw [gl] at z
        by_cases c3 : x.getLast nx = 60
        · refine if_true_of (decide_eq_true (by rw [c3, eLt])) ?_
          refine ⟨_, rfl, rfl, ?_⟩
          rw [decide_eq_true (by rw [c3]), Bool.true_and] at z
          have e : decide (V.str (S [y.getD 0 0]) = V.str (Str.ofString "=")) = decide (y.getD 0 0 = 61) := by
            refine decide_eq_decide.mpr ?_
            rw [eEq]
            constructor
            · intro h
              have := S_inj.mp (V.str.inj h)
              exact (List.cons.inj this).1
            · intro h
              rw [h]
          rw [e]
          exact z
        · refine if_false_of (decide_eq_false (fun h => c3 ?_)) ?_
          · rw [eLt] at h
            exact (List.cons.inj (S_inj.mp (V.str.inj h))).1
          rw [decide_eq_false (fun h => c3 (Option.some.inj h)), Bool.false_and] at z
          exact z
end
end K9
namespace K9
open PySem L2 PyProof.Rows
/-! ### isinstance of a caught error that has its own dict -/
section
open PySem.W
variable {prog : Program} {w : World} {A : Around} {E : Value → Shared → Prop} {s : Shared} {K : Frag} {x D : Addr} {ox : Obj} {od : Option Obj}
theorem kit_excD (C : ExcC K D) : KitX K (.ref x) (.ref D) (fun h => ∃ od, InstAt h x ox D od) where
  ty := fun _ _ _ ⟨_, I⟩ => I.type
  it := fun M h X _ => by
    obtain ⟨cdD, hcD, _⟩ := any_some C.hd
    unfold clsIn at hcD
    split at hcD
    · rename_i c' d' cd' sl' ho
      intro A' Q' E' s' k q
      unfold isType loadHead
      exact wpAny_bind (wpAny_loadPart (k _ _ (X _ _ ho)) (wpAny_pure q))
    · cases hcD
  ne := fun h tp dd its n sl X htp => (handS_kitx_exc (x := x) (ox := ox) C.hg C.hk C.hs C.hd C.ha C.hn C.ht C.hm).ne h tp dd its n sl X htp
  ca := fun X ⟨od, I⟩ k => kx_classE X I C.hg C.hk C.hs (findObj_dataE (by obtain ⟨cd, hc, _⟩ := any_some C.hd; rw [hc]; rfl) C.ha C.hn C.ht) C.hm k
end
/-- isinstance(e, c), e the exception that the suite holds -/
def rIsD (K : PySem.W.Frag) (D a : Addr) (d : Option Addr) : List V → Hp → VK → Prop := fun xs H Q => ∃ (c : V) (cv : Value) (b : Bool) (dd : Addr) (fs : List (Str × V)), xs = [.ref a, c] ∧ (∀ u, RelV c u → u = cv) ∧ PySem.W.kitOne K (.ref D) cv = some b ∧ d = some dd ∧ H dd = some (.xd fs) ∧ Q (.bl b) H
theorem call_isD {X : Cx} {a D : Addr} {oe : Obj} {cls : Value} {d : Option Addr} {pn : List (Addr × Obj)} (C : ExcC X.K D) (hz : Zc cls d oe) (hf : ∃ vs, oe.data = .fields vs) : CallR (X.suite a ((a, oe) :: pn)) (.builtin "isinstance") (fun xs H Q => cls = .ref D ∧ rIsD X.K D a d xs H Q) := by
  intro pins s σ H xs us Q I r h
  obtain ⟨rfl, c, cv, b, dd, fs, rfl, hcv, e, rfl, hd, q⟩ := h
  cases r with
  | cons rx rr =>
    cases rr with
    | cons rt rr =>
      cases rr
      cases rx
      have ec := hcv _ rt
      subst ec
      obtain ⟨hget, _⟩ := I.pin (a, oe) (List.mem_append.mpr (.inl List.mem_cons_self))
      obtain ⟨vs, hv⟩ := hf
      have hx : ObjOk X.prog X.w H s.heap dd (.xd fs) := I.hok dd _ hd
      obtain ⟨mA, hns, hr⟩ := hx
      obtain ⟨od, ho, hl⟩ := lookIn_ns hns
      have J : PySem.W.InstAt s.heap a oe D (some od) := ⟨hget, hz.1, by unfold PySem.W.notCls; rw [hv] <;> rfl, by rw [hz.2]; exact ho⟩
      exact PySem.W.kia_one (kit_excD C) I.kIn ⟨_, J⟩ e (fun z => nomatch z) fun tk => ⟨.bl b, H, I.kept (t' := tk) fun _ _ z => z, rfl, q⟩
/-! ### _law_refused -/
structure SuiTxt (K : PySem.W.Frag) (mg : Str → Option Value) (C cA : Addr) : Prop where
  gA : mg "AskprovedError" = some (.ref cA)
  kA : PySem.W.kitOne K (.ref C) (.ref cA) = some true
  gV : mg "ValueError" = none
  kV : PySem.W.kitOne K (.ref C) (.type "ValueError") = some true
  te : PySem.W.exmOne K (.ref C) (.ref C) = some true
  xf : XfC K C
  xc : ExcC K C
def spRef : Sp := fun us H Q _ => ∃ t : List Nat, us = [vs t] ∧ t.length ≤ LINE ∧ (∀ j, go t 0 [] = .inl j → ∀ H', Same H H' → Q (.int (j : Int)) H') ∧ (∀ D, go t 0 [] = .inr D → ∀ H', Same H H' → Q .non H')
section
variable {P : Program} {w : World} {K : PySem.W.Frag} {mg : Str → Option Value} {base : Heap}
theorem scRef : FnScope ["text", "error"] ["text"] (defScope sRef) := ⟨rfl, rfl, rfl, by decide +kernel, rfl, by decide +kernel, by decide +kernel⟩
theorem ok_ref {f C cA fI fE fW fR fT : Addr} {fd fdE fdW fdR fdT : FuncData} (F : Fun K "_law_refused" "_law_refused" sRef f fd) (T : Txt P K mg C fI) (TT : TupTxt K mg) (TS : SuiTxt K mg C cA) (DE : Dd K mg "end_of" sEnd ["text", "start", "letters"] fE fdE)
    (DW : Dd K mg "read_word" sWord ["text", "start"] fW fdW) (DR : Dd K mg "read_token" sTokR ["text", "start"] fR fdR) (DT : Dd K mg "tokenize" sTokz ["text"] fT fdT) : FnOk P w K mg base CX0 7 f fd ["text"] spRef := by
  have GT : FnOk P w K mg base (L2.CX P w) 6 fT fdT ["text"] (spTokz C) := ok_tokz DT.fn T TT DE DW DR
  refine F.ok scRef (fun us H Q E h => ?_) (fun cdv A outer s H us Q E hr h => ?_)
  · obtain ⟨t, rfl, _⟩ := h
    rfl
  · obtain ⟨t, rfl, hl, kE, kQ⟩ := h
    have hr6 : Room 6 _ := hr.mono (by decide)
    refine ⟨_, pss_cons (ps_try_as (i := 1) (Wout := fun _ _ _ _ => False) rfl rfl scRef.nd rfl rfl ⟨rfl, by decide, .inl T.ref.gC⟩ takes0
        (fun W pn xe tk _ => pss_one (ps_expr (pe_callS GT hr6 rfl DT.g DT.k DT.b (fun σ => passAt tk σ) (pa_cons (pv 0) pa_nil))))
        (fun a oe cls d pn hz hf => pss_one (ps_ret (pe_ifExp (PW.pt (pw_and (pt_val (pe_callB (call_isD TS.xc hz hf) (by rfl) T.isi boot_isinstance (pa_cons (pv 1) (pa_cons (pe_glob (v := .ref cA) (by rfl) TS.gA rfl) pa_nil))))
            (pw_and1 (pt_val (pe_callB (call_isD TS.xc hz hf) (by rfl) T.isi boot_isinstance (pa_cons (pv 1) (pa_cons (pe_bltn (v := .ty "ValueError") (by rfl) TS.gV PyProof.Rows.Boot.«ValueError» rfl) pa_nil)))))))
          (pe_xf TS.xf T.ref.noN hz hf (pv 1)) (pe_un un_neg pe_int)))))
      (pss_one (ps_ret pe_non)), ?_⟩
    refine ⟨_, rfl, t, rfl, hl, fun j hj H' d hS hd hx => ?_, fun D hD H' p hS hp hx => ?_⟩
    · refine ⟨true, TS.te, fun _ a0 _ => ?_, fun q => Bool.noConfusion q⟩
      refine ⟨_, rfl, rfl, _, _, true, d, _, rfl, fun u r => r, TS.kA, rfl, hx, _, rfl, ?_⟩
      refine if_true_of rfl ?_
      refine ⟨_, rfl, rfl, _, _, true, d, _, rfl, fun u r => r, TS.kV, rfl, hx, _, rfl, ?_⟩
      refine if_true_of rfl ?_
      exact ⟨_, rfl, rfl, rfl, d, _, _, rfl, hx, by simp [List.lookup], kE j hj H' hS⟩
    · exact kQ D hD H' hS
end
end K9
namespace K9
open PySem L2 PyProof.Rows
theorem fold_rep (c : Nat) : ∀ (n : Nat) (a : Array Nat), (List.replicate n (#[c] : Array Nat)).foldl (· ++ ·) a = a ++ (List.replicate n c).toArray
  | 0, a => by simp
  | n + 1, a => by
    rw [List.replicate_succ, List.foldl_cons, fold_rep c n, List.replicate_succ]
    apply Array.ext'
    simp
/-- '0' * n -/
theorem op_mul_zero {X : Cx} (c : Nat) : OpR X (binaryOp .Mult) (fun x y H Q => ∃ n : Nat, x = vs [c] ∧ y = .int (n : Int) ∧ n ≤ 1000 ∧ Q (vs (List.replicate n c)) H) := by
  intro pins s σ H x y v u Q I rx ry h
  obtain ⟨n, rfl, rfl, hn, q⟩ := h
  obtain ⟨t, rfl⟩ := rx
  obtain ⟨t', rfl⟩ := ry
  have e1 : (S [c]).length = 1 := S_len [c]
  refine PySem.P.mul_str (by rw [decide_eq_false (by omega), decide_eq_false (by omega)]; rfl) (fun _ _ => ?_) (fun _ _ => ?_) ?_
  · rw [e1]
    have : (1 : Int) ≤ (2 ^ 63 - 1) / (n : Int) := by
      refine Int.le_ediv_of_mul_le (by omega) (by omega)
    omega
  · rw [e1]
    refine decide_eq_false ?_
    have : sizeLine = 16777216 := sizeLine_eq
    omega
  · by_cases c1 : (n : Int) < 1
    · rw [if_pos c1]
      have : n = 0 := by omega
      subst this
      exact ⟨by decide, .str _, H, I.tok _, ⟨_, rfl⟩, q⟩
    · rw [if_neg c1]
      by_cases c2 : (n : Int) = 1
      · rw [if_pos (by rw [c2]; rfl)]
        have : n = 1 := by omega
        subst this
        exact ⟨.str _, H, I, ⟨_, rfl⟩, q⟩
      · rw [if_neg (by rw [e1]; simp; omega)]
        have e2 : (⟨(List.replicate ((n : Int)).toNat (S [c]).cps).foldl (· ++ ·) #[]⟩ : Str) = S (List.replicate n c) := by
          show (⟨(List.replicate ((n : Int)).toNat (#[c] : Array Nat)).foldl (· ++ ·) #[]⟩ : Str) = _
          rw [Int.toNat_natCast, fold_rep]
          simp [SX.S]
        rw [e2]
        exact ⟨Nat.le_trans (Nat.le_of_eq (S_len _)) (by rw [List.length_replicate, sizeLine_eq]; omega), .str _, H, I.tok _, ⟨_, rfl⟩, q⟩
def numL (n : Nat) : List Nat := (Str.ofString (toString (n : Int))).cps.toList
def numOk (n : Nat) : Bool := (numL n).all isDig && decide (numL n ≠ []) && decide ((numL n).length ≤ 13) && decide (dval (numL n) = n) && decide (n ≤ 1000000000000)
theorem num_small : ∀ n < 1000, numOk n = true := by decide +kernel
theorem num_b : numOk 1000000000000 = true := by decide +kernel
theorem num_c : numOk 999999999999 = true := by decide +kernel
/-- what stood and is not at a stands -/
def SameBut (a : Addr) (H H' : Hp) : Prop := ∀ b u, b ≠ a → H b = some u → H' b = some u
theorem But.same {a : Addr} {H H' : Hp} (h : But a H H') : SameBut a H H' := fun b u n e => (h b n).trans e
theorem SameBut.refl (a : Addr) (H : Hp) : SameBut a H H := fun _ _ _ e => e
theorem SameBut.trans {a : Addr} {H H1 H2 : Hp} (h : SameBut a H H1) (g : SameBut a H1 H2) : SameBut a H H2 := fun b u n e => g b u n (h b u n e)
/-- the law's state at a is in order; all else that stood stands -/
structure Going (a sc : Addr) (ns : List Int) (H H' : Hp) : Prop where
  st : StAt H' a sc ns
  same : SameBut a H H'
theorem Going.start {a sc : Addr} {ns : List Int} {H : Hp} (h : StAt H a sc ns) : Going a sc ns H H := ⟨h, SameBut.refl a H⟩
theorem Going.next {a sc : Addr} {ns : List Int} {H H1 H2 : Hp} (g : Going a sc ns H H1) (s : StAt H2 a sc ns) (b : But a H1 H2) : Going a sc ns H H2 := ⟨s, g.same.trans b.same⟩
theorem StAt.upd {a sc p : Addr} {ns : List Int} {H : Hp} {o : HO} (h : StAt H a sc ns) (hp : H p = none) : StAt (upd H p o) a sc ns := by
  obtain ⟨i, c, s, h1, h2, h3⟩ := h
  exact ⟨i, c, s, by rw [upd_ne (ne_of_none h1 hp)]; exact h1, by rw [upd_ne (ne_of_none h2 hp)]; exact h2, h3⟩
theorem Going.new {a sc p : Addr} {ns : List Int} {H H1 : Hp} {o : HO} (g : Going a sc ns H H1) (hp : H1 p = none) : Going a sc ns H (upd H1 p o) :=
  ⟨g.st.upd hp, fun b u n e => by
    have z := g.same b u n e
    rw [upd_ne (ne_of_none z hp)]
    exact z⟩
theorem StAt.some {a sc : Addr} {ns : List Int} {H : Hp} (h : StAt H a sc ns) : ∃ u, H a = some u := by
  obtain ⟨i, c, s, h1, _⟩ := h
  exact ⟨_, h1⟩
theorem Going.free {a sc p : Addr} {ns : List Int} {H H1 : Hp} (g : Going a sc ns H H1) (hp : H1 p = none) : H p = none := by
  cases e : H p with
  | none => rfl
  | some u =>
    by_cases n : p = a
    · subst n
      obtain ⟨u, hu⟩ := g.st.some
      rw [hp] at hu
      cases hu
    · have := g.same p u n e
      rw [hp] at this
      cases this
/-- what stands at another place stands after a draw -/
theorem Going.keep {a sc p : Addr} {ns : List Int} {H H1 : Hp} {o : HO} (g : Going a sc ns H H1) (n : p ≠ a) (h : H p = some o) : H1 p = some o := g.same p o n h
theorem Going.put {a sc p : Addr} {ns : List Int} {H H1 : Hp} {o : HO} (g : Going a sc ns H H1) (hp : H p = none) (na : p ≠ a) (nc : p ≠ sc) : Going a sc ns H (upd H1 p o) := by
  refine ⟨?_, fun b u n e => ?_⟩
  · obtain ⟨i, c, s, h1, h2, h3⟩ := g.st
    exact ⟨i, c, s, by rw [upd_ne (Ne.symm na)]; exact h1, by rw [upd_ne (Ne.symm nc)]; exact h2, h3⟩
  · rw [upd_ne (ne_of_none e hp)]
    exact g.same b u n e
theorem StAt.nota {a sc p : Addr} {ns : List Int} {H : Hp} (h : StAt H a sc ns) (hp : H p = none) : p ≠ a ∧ p ≠ sc := by
  obtain ⟨i, c, s, h1, h2, _⟩ := h
  constructor
  · rintro rfl
    rw [h1] at hp
    cases hp
  · rintro rfl
    rw [h2] at hp
    cases hp
theorem joinL_signs : ∀ w : List Nat, TL.joinL [] (w.map fun c => [c]) = w
  | [] => rfl
  | [c] => rfl
  | c :: d :: w => by
    have := joinL_signs (d :: w)
    show [c] ++ ([] ++ TL.joinL [] ((d :: w).map fun c => [c])) = _
    rw [this]
    rfl
theorem join_signs (w : List Nat) : Txt.join (Str.ofString "") (w.map fun c => S [c]) = S w := by
  have e : Str.ofString "" = S [] := by decide +kernel
  have m : (w.map fun c => S [c]) = (w.map fun c => [c]).map S := by rw [List.map_map]; rfl
  rw [e, m, SX.join_S, joinL_signs]
theorem sum_ones : ∀ w : List Nat, (w.map fun _ => 1).sum = w.length
  | [] => rfl
  | _ :: w => by
    rw [List.map_cons, List.sum_cons, sum_ones w, List.length_cons]
    omega
theorem word_of {w : List Nat} (h : w ≠ [] ∧ isLet (w.getD 0 0) = true ∧ w.all isLat = true ∧ w.length ≤ 40) : Word w := by
  obtain ⟨h1, h2, h3, h4⟩ := h
  refine ⟨h1, fun c e => ?_, fun c hc => List.all_eq_true.mp h3 c hc, h4⟩
  cases w with
  | nil => cases e
  | cons d w =>
    cases e
    exact h2
theorem kw_word : ∀ w ∈ KW, Word w := fun w h => word_of ((by decide : ∀ w ∈ KW, w ≠ [] ∧ isLet (w.getD 0 0) = true ∧ w.all isLat = true ∧ w.length ≤ 40) w h)
theorem kws_word : ∀ w ∈ KW, Word (w ++ [115]) := fun w h => word_of ((by decide : ∀ w ∈ KW, w ++ [115] ≠ [] ∧ isLet ((w ++ [115]).getD 0 0) = true ∧ (w ++ [115]).all isLat = true ∧ (w ++ [115]).length ≤ 40) w h)
theorem kws_no : ∀ w ∈ KW, w ++ [115] ∉ KW := by decide
theorem getD_mem {l : List (List Nat)} {i : Nat} (h : i < l.length) : l[i]? = some (l.getD i []) ∧ l.getD i [] ∈ l := by
  rw [List.getD_eq_getElem?_getD, List.getElem?_eq_getElem h]
  exact ⟨rfl, List.getElem_mem _⟩
theorem vs_at {l : List (List Nat)} {i : Nat} {x : List Nat} (h : l[i]? = some x) : (l.map vs)[i]? = some (vs x) := by rw [List.getElem?_map, h]; rfl
theorem But.keep {a p : Addr} {H H' : Hp} {o : HO} (h : But a H H') (n : p ≠ a) (e : H p = some o) : H' p = some o := (h p n).trans e
theorem dval_zeros (w : List Nat) : ∀ n, dval (List.replicate n 48 ++ w) = dval w
  | 0 => rfl
  | n + 1 => by
    rw [List.replicate_succ, List.cons_append]
    exact (by rfl : dval (48 :: (List.replicate n 48 ++ w)) = dval (List.replicate n 48 ++ w)).trans (dval_zeros w n)
theorem new_keep {H : Hp} {p q : Addr} {o o' : HO} (h : H p = some o) (hq : H q = none) : upd H q o' p = some o := by
  rw [upd_ne (ne_of_none h hq)]
  exact h
theorem tv_key (x : List Nat) : TokVs kKey (.s x) x = [V.str (Str.ofString "keyword"), vs x, vs x] := by rw [eKey]; rfl
theorem tv_name (x : List Nat) : TokVs kName (.s x) x = [V.str (Str.ofString "name"), vs x, vs x] := by rw [eName]; rfl
theorem tv_quo (x y : List Nat) : TokVs kQuo (.s x) y = [V.str (Str.ofString "quoted"), vs x, vs y] := by rw [eQuo]; rfl
theorem tv_num (n : Nat) (y : List Nat) : TokVs kNum (.n n) y = [V.str (Str.ofString "number"), .int (n : Int), vs y] := by rw [eNum]; rfl
theorem tv_sign (x : List Nat) : TokVs kSign (.s x) x = [V.str (Str.ofString "sign"), vs x, vs x] := by rw [eSign]; rfl
def spDrawn : Sp := fun us H Q _ => ∃ (a sc : Addr) (ns : List Int), us = [.ref a] ∧ StAt H a sc ns ∧
  ∀ (k : List Nat) (v : Tv) (x : List Nat) (H' : Hp) (p : Addr), TokText k v x → StAt H' a sc ns → SameBut a H H' → H p = none → H' p = some (.tup (TokVs k v x)) → Q (.ref p) H'
abbrev ND : List Str := ["state", "pick", "letters", "signs", "word", "keywords", "told", "number", "text", "sign", "k"]
section
variable {P : Program} {w : World} {K : PySem.W.Frag} {mg : Str → Option Value} {base : Heap}
theorem scDrawn : FnScope ND ["state"] (defScope sDrawn) := ⟨rfl, rfl, rfl, by decide +kernel, rfl, by decide +kernel, by decide +kernel⟩
theorem ok_drawn {f fN C fI : Addr} {fd fdN : FuncData} (F : Fun K "_law_drawn_token" "_law_drawn_token" sDrawn f fd) (T : Txt P K mg C fI) (DN : Dd K mg "_law_next" sNext ["state", "limit"] fN fdN) : FnOk P w K mg base CX0 2 f fd ["state"] spDrawn := by
  have GN : FnOk P w K mg base CX0 1 fN fdN ["state", "limit"] spNext := ok_next DN.fn T
  refine F.ok scDrawn (fun us H Q E h => ?_) (fun cdv A outer s H us Q E hr h => ?_)
  · obtain ⟨a, sc, ns, rfl, _⟩ := h
    rfl
  · obtain ⟨a, sc, ns, rfl, hS, q⟩ := h
    have hr1 : Room 1 _ := hr
    refine ⟨_, (pss_cons (ps_set (i := 1) scDrawn.nd rfl (Or.inl rfl) (pe_call GN hr1 rfl DN.g DN.k DN.b .nil pass0 (pa_cons (pv 0) (pa_cons pe_int pa_nil))))
      (pss_cons (ps_set (i := 2) scDrawn.nd rfl (Or.inl rfl) pe_str)
      (pss_cons (ps_set (i := 3) scDrawn.nd rfl (Or.inr rfl) (pe_op op_add_str (pv 2) pe_str))
      (pss_cons (ps_set (i := 4) scDrawn.nd rfl (Or.inl rfl) (pe_op op_add_str (pe_item_str (pv 2) (pe_call GN hr1 rfl DN.g DN.k DN.b .nil pass0 (pa_cons (pv 0) (pa_cons pe_int pa_nil))) (fun _ _ => rfl)) (pe_join pe_str (pe_lc (own := [("k", 10)]) (g := gName 10) (tt := tYes) rfl scDrawn.nd (pi_range1 (by rfl) T.range (pa_cons (pe_ix ix_list (pe_lst (pa_cons pe_int (pa_cons pe_int (pa_cons pe_int (pa_cons pe_int (pa_cons pe_int pa_nil)))))) (pe_call GN hr1 rfl DN.g DN.k DN.b .nil pass0 (pa_cons (pv 0) (pa_cons pe_int pa_nil))) (fun _ _ => rfl)) pa_nil)) (blkOk_by (own := [("k", 10)]) (N := ND) (sc := defScope sDrawn) (by decide +kernel)) (fun _ _ _ _ _ => pg_name (i := 10) scDrawn.nd rfl (Or.inl rfl)) (fun _ _ _ _ _ => pts_nil) (fun _ _ _ _ _ => pe_item_str (pv 3) (pe_call GN hr1 rfl DN.g DN.k DN.b .nil pass0 (pa_cons (pv 0) (pa_cons pe_int pa_nil))) (fun _ _ => rfl))))))
      (pss_cons (ps_set (i := 5) scDrawn.nd rfl (Or.inl rfl) (pe_lst (pa_cons pe_str (pa_cons pe_str (pa_cons pe_str (pa_cons pe_str (pa_cons pe_str (pa_cons pe_str (pa_cons pe_str (pa_cons pe_str (pa_cons pe_str (pa_cons pe_str (pa_cons pe_str (pa_cons pe_str (pa_cons pe_str (pa_cons pe_str pa_nil))))))))))))))))
      (pss_cons (ps_if (pt_cmpR op_eq (pv 1) pe_int (nomark _)) (pss_cons (ps_set (i := 6) scDrawn.nd rfl (Or.inl rfl) (pe_ix ix_list (pv 5) (pe_call GN hr1 rfl DN.g DN.k DN.b .nil pass0 (pa_cons (pv 0) (pa_cons pe_int pa_nil))) (fun _ _ => rfl))) (pss_one (ps_ret (pe_ix ix_list (pe_lst (pa_cons (pe_tup (pa_cons pe_str (pa_cons (pv 6) (pa_cons (pv 6) pa_nil)))) (pa_cons (pe_tup (pa_cons pe_str (pa_cons (pe_op op_add_str (pv 6) pe_str) (pa_cons (pe_op op_add_str (pv 6) pe_str) pa_nil)))) (pa_cons (pe_tup (pa_cons pe_str (pa_cons (pv 6) (pa_cons (pe_op op_add_str pe_str (pv 6)) pa_nil)))) pa_nil)))) (pe_call GN hr1 rfl DN.g DN.k DN.b .nil pass0 (pa_cons (pv 0) (pa_cons pe_int pa_nil))) (fun _ _ => rfl))))) pss_nil)
      (pss_cons (ps_if (pt_cmpR op_eq (pv 1) pe_int (nomark _)) (pss_one (ps_ret (pe_ifExp (pt_cmpR op_in_seq (pv 4) (pv 5) rfl) (pe_tup (pa_cons pe_str (pa_cons (pv 4) (pa_cons (pv 4) pa_nil)))) (pe_tup (pa_cons pe_str (pa_cons (pv 4) (pa_cons (pv 4) pa_nil))))))) pss_nil)
      (pss_cons (ps_if (pt_cmpR op_eq (pv 1) pe_int (nomark _)) (pss_one (ps_ret (pe_tup (pa_cons pe_str (pa_cons (pv 4) (pa_cons (pe_op op_add_str pe_str (pv 4)) pa_nil)))))) pss_nil)
      (pss_cons (ps_if (pt_cmpR op_eq (pv 1) pe_int (nomark _)) (pss_cons (ps_set (i := 7) scDrawn.nd rfl (Or.inl rfl) (pe_ix ix_list (pe_lst (pa_cons pe_int (pa_cons pe_int (pa_cons (pe_op op_pow pe_int pe_int) (pa_cons (pe_op op_sub (pe_op op_pow pe_int pe_int) pe_int) (pa_cons (pe_call GN hr1 rfl DN.g DN.k DN.b .nil pass0 (pa_cons (pv 0) (pa_cons pe_int pa_nil))) pa_nil)))))) (pe_call GN hr1 rfl DN.g DN.k DN.b .nil pass0 (pa_cons (pv 0) (pa_cons pe_int pa_nil))) (fun _ _ => rfl))) (pss_cons (ps_set (i := 8) scDrawn.nd rfl (Or.inl rfl) (pe_callTy call_str_int (by rfl) T.str boot_str (pa_cons (pv 7) pa_nil))) (pss_one (ps_ret (pe_tup (pa_cons pe_str (pa_cons (pv 7) (pa_cons (pe_op op_add_str (pe_op (op_mul_zero 48) pe_str (pe_callB (call_min2 rfl) (by rfl) T.min PyProof.Rows.Boot.«min» (pa_cons (pe_call GN hr1 rfl DN.g DN.k DN.b .nil pass0 (pa_cons (pv 0) (pa_cons pe_int pa_nil))) (pa_cons (pe_op op_sub pe_int (pe_callB call_len_str (by rfl) T.len PySem.boot_len (pa_cons (pv 8) pa_nil))) pa_nil)))) (pv 8)) pa_nil)))))))) pss_nil)
      (pss_cons (ps_set (i := 9) scDrawn.nd rfl (Or.inl rfl) (pe_ix ix_list (pe_lst (pa_cons pe_str (pa_cons pe_str (pa_cons pe_str (pa_cons pe_str (pa_cons pe_str (pa_cons pe_str (pa_cons pe_str (pa_cons pe_str (pa_cons pe_str (pa_cons pe_str pa_nil))))))))))) (pe_call GN hr1 rfl DN.g DN.k DN.b .nil pass0 (pa_cons (pv 0) (pa_cons pe_int pa_nil))) (fun _ _ => rfl)))
      (pss_one (ps_ret (pe_tup (pa_cons pe_str (pa_cons (pv 9) (pa_cons (pv 9) pa_nil)))))))))))))))), ?_⟩
    have g0 : Going a sc ns H H := .start hS
    refine ⟨_, rfl, a, sc, ns, 5, rfl, g0.st, by decide, by decide, fun pk H1 hpk hS1 hB1 => ?_⟩
    have g1 : Going a sc ns H H1 := g0.next hS1 hB1
    refine ⟨_, rfl, _, _, rfl, rfl, (by decide +kernel), ?_⟩
    have eL : Str.ofString "abcdefghijklmnopqrstuvwxyz" = S LET := by decide +kernel
    have eS : Str.ofString "abcdefghijklmnopqrstuvwxyz" ++ Str.ofString "0123456789_" = S LAT := by decide +kernel
    refine ⟨_, rfl, _, rfl, a, sc, ns, 26, rfl, g1.st, by decide, by decide, fun d0 H2 hd0 hS2 hB2 => ?_⟩
    have g2 : Going a sc ns H H2 := g1.next hS2 hB2
    refine ⟨S LET, _, LET.getD d0 0, congrArg V.str eL, rfl, by omega, by omega, by rw [S_len]; show (d0 : Int) < 26; omega, (by rw [Int.toNat_natCast]; exact S_at (show d0 < 26 from hd0)), ?_⟩
    refine ⟨⟨_, rfl⟩, (by show 5 ≤ sizeLine; decide), fun l hl => ?_⟩
    have g3 := g2.new (o := .lst [V.int 0, V.int 1, V.int 3, V.int 38, V.int 39]) hl
    refine ⟨_, rfl, a, sc, ns, 5, rfl, g3.st, by decide, by decide, fun dn H4 hdn hS4 hB4 => ?_⟩
    have g4 : Going a sc ns H H4 := g3.next hS4 hB4
    have nla : l ≠ a := by
      rintro rfl
      obtain ⟨u, hu⟩ := g2.st.some
      rw [hl] at hu
      cases hu
    have hl4 : H4 l = some (.lst [V.int 0, V.int 1, V.int 3, V.int 38, V.int 39]) := (hB4 l nla).trans upd_same
    have hnn : ∃ nn : Nat, ([V.int 0, V.int 1, V.int 3, V.int 38, V.int 39] : List V)[dn]? = some (.int (nn : Int)) ∧ nn ≤ 39 := by
      match dn, hdn with
      | 0, _ => exact ⟨0, rfl, by decide⟩
      | 1, _ => exact ⟨1, rfl, by decide⟩
      | 2, _ => exact ⟨3, rfl, by decide⟩
      | 3, _ => exact ⟨38, rfl, by decide⟩
      | 4, _ => exact ⟨39, rfl, by decide⟩
      | n + 5, h => exact absurd h (by omega)
    obtain ⟨nn, hnn, nn39⟩ := hnn
    refine ⟨l, _, (dn : Int), _, rfl, rfl, SqL.of hl4, atI_nat hnn, ?_⟩
    refine ⟨(nn : Int), rfl, by omega, by omega, fun D hD => ?_⟩
    have nDa : D ≠ a := by
      rintro rfl
      obtain ⟨u, hu⟩ := g4.st.some
      rw [hD] at hu
      cases hu
    refine lc_range (lo := 0) (n := ((nn : Int)).toNat) (fun i H' => ∃ w : List Nat, w.length = i ∧ (∀ c ∈ w, isLat c = true) ∧ Going a sc ns H H' ∧ H' D = some (.lst (w.map fun c => vs [c]))) ⟨[], rfl, by simp, g4.new hD, upd_same⟩ ?_ ?_
    · rintro i H' hi ⟨w, hw, hc, g, hl'⟩
      refine ⟨rfl, ?_⟩
      unfold tYes
      dsimp only
      rw [if_pos rfl]
      refine ⟨_, rfl, _, rfl, a, sc, ns, 37, rfl, g.st, by decide, by decide, fun e H6 he hS6 hB6 => ?_⟩
      have g6 := g.next hS6 hB6
      refine ⟨S LAT, _, LAT.getD e 0, congrArg V.str eS, rfl, by omega, by omega, by rw [S_len]; show (e : Int) < 37; omega, (by rw [Int.toNat_natCast]; exact S_at (show e < 37 from he)), ?_⟩
      have hl6 := hB6 D nDa
      refine ⟨w.map fun c => vs [c], hl6.trans hl', by rw [List.length_map, hw, sizeLine_eq]; omega, w ++ [LAT.getD e 0], by rw [List.length_append, hw]; rfl, ?_, ?_, ?_⟩
      · intro c hc'
        rcases List.mem_append.mp hc' with h1 | h1
        · exact hc c h1
        · rw [List.mem_singleton.mp h1]
          refine decide_eq_true ?_
          rw [List.getD_eq_getElem?_getD, List.getElem?_eq_getElem (show e < LAT.length from he)]
          exact List.getElem_mem _
      · exact g6.put (g4.free hD) nDa (g4.st.nota hD).2
      · rw [upd_same, List.map_append]
        rfl
    · rintro H5 ⟨w, hw, hc, g5, hl5⟩
      have hw39 : w.length ≤ 39 := by omega
      refine ⟨_, D, w.map fun c => S [c], rfl, rfl, .inl (SqL.of (by rw [hl5, List.map_map]; rfl)), ?_, ?_⟩
      · have e1 : ((w.map fun c => S [c]).map (·.length)) = w.map fun _ => 1 := by
          rw [List.map_map]
          exact List.map_congr_left fun c _ => S_len [c]
        have e2 : (Str.ofString "").length = 0 := by decide +kernel
        have e3 : (w.map fun _ => 1).sum = w.length := sum_ones w
        rw [e1, e2, e3]
        omega
      have lt0 : LET.getD d0 0 ∈ LET := by
        rw [List.getD_eq_getElem?_getD, List.getElem?_eq_getElem (show d0 < LET.length from hd0)]
        exact List.getElem_mem _
      generalize LET.getD d0 0 = c0 at lt0
      refine ⟨_, _, rfl, rfl, ?_, ?_⟩
      · rw [join_signs, S_len, sizeLine_eq]
        show 1 + w.length ≤ _
        omega
      have ew : (⟨#[c0]⟩ : Str) ++ Txt.join (Str.ofString "") (w.map fun c => S [c]) = S (c0 :: w) := by
        rw [join_signs]
        exact SX.S_cat [c0] w
      rw [ew]
      have W : Word (c0 :: w) := ⟨by simp, fun c h => by cases h; exact decide_eq_true lt0, fun c h => by
        rcases List.mem_cons.mp h with rfl | h
        · exact let_lat (decide_eq_true lt0)
        · exact hc c h, by rw [List.length_cons]; omega⟩
      generalize c0 :: w = wd at W
      refine ⟨(by show 14 ≤ sizeLine; decide), fun kl hkl => ?_⟩
      have eK : [V.str (Str.ofString "base"), V.str (Str.ofString "derived"), V.str (Str.ofString "rule"), V.str (Str.ofString "never"), V.str (Str.ofString "if"), V.str (Str.ofString "not"), V.str (Str.ofString "let"), V.str (Str.ofString "mod"), V.str (Str.ofString "number"), V.str (Str.ofString "word"), V.str (Str.ofString "count"), V.str (Str.ofString "sum"), V.str (Str.ofString "least"), V.str (Str.ofString "most")] = KW.map vs := by decide +kernel
      have g7 := g5.new (o := .lst (KW.map vs)) hkl
      have hk7 : upd H5 kl (.lst (KW.map vs)) kl = some (.lst (KW.map vs)) := upd_same
      rw [eK]
      generalize upd H5 kl (.lst (KW.map vs)) = H7 at g7 hk7
      have nka : kl ≠ a := by
        rintro rfl
        obtain ⟨u, hu⟩ := g5.st.some
        rw [hkl] at hu
        cases hu
      have fin : ∀ (k : List Nat) (v : Tv) (x : List Nat) (p : Addr) (Hm : Hp), TokText k v x → Going a sc ns H Hm → Hm p = none → Q (.ref p) (upd Hm p (.tup (TokVs k v x))) := fun k v x p Hm tt g hp =>
        q k v x _ p tt (g.new hp).st (g.new hp).same (g.free hp) upd_same
      have wl : wd.length ≤ 40 := W.len
      have fin2 : ∀ (k : List Nat) (v : Tv) (x : List Nat) (p : Addr) (Hm : Hp), TokText k v x → Going a sc ns H Hm → H p = none → Hm p = some (.tup (TokVs k v x)) → Q (.ref p) Hm := fun k v x p Hm tt g hp he =>
        q k v x _ p tt g.st g.same hp he
      refine ⟨_, rfl, rfl, _, rfl, ?_⟩
      by_cases p0 : V.int (pk : Int) = V.int 0
      · refine if_true_of (decide_eq_true p0) ?_
        refine ⟨_, rfl, _, rfl, a, sc, ns, 14, rfl, g7.st, by decide, by decide, fun e H8 he hS8 hB8 => ?_⟩
        have g8 := g7.next hS8 hB8
        obtain ⟨t1, t2⟩ := getD_mem (l := KW) (i := e) he
        generalize KW.getD e [] = td at t1 t2
        have Wt := kw_word td t2
        have Ws := kws_word td t2
        have tl : td.length ≤ 40 := Wt.len
        refine ⟨kl, _, (e : Int), vs td, rfl, rfl, SqL.of (hB8.keep nka hk7), atI_nat (vs_at t1), ?_⟩
        have e2 : S td ++ Str.ofString "s" = S (td ++ [115]) := by
          rw [show Str.ofString "s" = S [115] by decide +kernel]
          exact SX.S_cat td [115]
        have e3 : Str.ofString "'" ++ S td = S (39 :: td) := by
          rw [eTick]
          exact SX.S_cat [39] td
        have b2 : (S td).length + (Str.ofString "s").length ≤ sizeLine := by
          rw [show (Str.ofString "s").length = 1 by decide +kernel, S_len, sizeLine_eq]
          omega
        have b3 : (Str.ofString "'").length + (S td).length ≤ sizeLine := by
          rw [show (Str.ofString "'").length = 1 by decide +kernel, S_len, sizeLine_eq]
          omega
        have z3 : (3 : Nat) ≤ sizeLine := by decide
        refine ⟨_, rfl, _, rfl, z3, fun q1 hq1 => ?_⟩
        refine ⟨_, rfl, _, _, rfl, rfl, b2, _, rfl, _, _, rfl, rfl, b2, z3, fun q2 hq2 => ?_⟩
        refine ⟨_, rfl, _, rfl, _, _, rfl, rfl, b3, z3, fun q3 hq3 => ?_⟩
        refine ⟨z3, fun ql hql => ?_⟩
        rw [e2] at hq3 hql ⊢
        rw [e3] at hql ⊢
        have ga := g8.new (o := .tup [V.str (Str.ofString "keyword"), vs td, vs td]) hq1
        have gb := ga.new (o := .tup [V.str (Str.ofString "name"), vs (td ++ [115]), vs (td ++ [115])]) hq2
        have gc := gb.new (o := .tup [V.str (Str.ofString "quoted"), vs td, vs (39 :: td)]) hq3
        have gd := gc.new (o := .lst [V.ref q1, V.ref q2, V.ref q3]) hql
        have k1 := new_keep (o' := .lst [V.ref q1, V.ref q2, V.ref q3]) (new_keep (o' := .tup [V.str (Str.ofString "quoted"), vs td, vs (39 :: td)]) (new_keep (o' := .tup [V.str (Str.ofString "name"), vs (td ++ [115]), vs (td ++ [115])]) (upd_same (H := H8) (a := q1) (o := .tup [V.str (Str.ofString "keyword"), vs td, vs td])) hq2) hq3) hql
        have k2 := new_keep (o' := .lst [V.ref q1, V.ref q2, V.ref q3]) (new_keep (o' := .tup [V.str (Str.ofString "quoted"), vs td, vs (39 :: td)]) (upd_same (o := .tup [V.str (Str.ofString "name"), vs (td ++ [115]), vs (td ++ [115])])) hq3) hql
        have k3 := new_keep (o' := .lst [V.ref q1, V.ref q2, V.ref q3]) (upd_same (o := .tup [V.str (Str.ofString "quoted"), vs td, vs (39 :: td)])) hql
        refine ⟨_, rfl, a, sc, ns, 3, rfl, gd.st, by decide, by decide, fun e9 H9 he9 hS9 hB9 => ?_⟩
        have g9 := gd.next hS9 hB9
        have kq : H9 ql = some (.lst [V.ref q1, V.ref q2, V.ref q3]) := hB9.keep (gc.st.nota hql).1 upd_same
        match e9, he9 with
        | 0, _ => exact ⟨ql, _, ((0 : Nat) : Int), _, rfl, rfl, SqL.of kq, rfl, fin2 kKey (.s td) td q1 H9 (by have := TokText.word Wt; rw [if_pos t2] at this; exact this) g9 (g8.free hq1) (by rw [tv_key]; exact hB9.keep (g8.st.nota hq1).1 k1)⟩
        | 1, _ => exact ⟨ql, _, ((1 : Nat) : Int), _, rfl, rfl, SqL.of kq, rfl, fin2 kName (.s (td ++ [115])) (td ++ [115]) q2 H9 (by have := TokText.word Ws; rw [if_neg (kws_no td t2)] at this; exact this) g9 (ga.free hq2) (by rw [tv_name]; exact hB9.keep (ga.st.nota hq2).1 k2)⟩
        | 2, _ => exact ⟨ql, _, ((2 : Nat) : Int), _, rfl, rfl, SqL.of kq, rfl, fin2 kQuo (.s td) (39 :: td) q3 H9 (.quo Wt) g9 (gb.free hq3) (by rw [tv_quo]; exact hB9.keep (gb.st.nota hq3).1 k3)⟩
        | n + 3, h => exact absurd h (by omega)
      · refine if_false_of (decide_eq_false p0) ?_
        refine ⟨_, rfl, rfl, _, rfl, ?_⟩
        by_cases p1 : V.int (pk : Int) = V.int 1
        · refine if_true_of (decide_eq_true p1) ?_
          refine ⟨_, rfl, _, rfl, kl, _, rfl, .inl (SqL.of hk7), rfl, flat_strs KW, _, rfl, ?_⟩
          rw [if_neg Bool.false_ne_true, inV_strs]
          by_cases kw : wd ∈ KW
          · refine if_true_of (decide_eq_true kw) ?_
            refine ⟨_, rfl, _, rfl, (by show 3 ≤ sizeLine; decide), fun p hp => ?_⟩
            have z := fin kKey (.s wd) wd p H7 (by have := TokText.word W; rw [if_pos kw] at this; exact this) g7 hp
            rw [TokVs, vs, ← eKey] at z
            exact z
          · refine if_false_of (decide_eq_false kw) ?_
            refine ⟨_, rfl, _, rfl, (by show 3 ≤ sizeLine; decide), fun p hp => ?_⟩
            have z := fin kName (.s wd) wd p H7 (by have := TokText.word W; rw [if_neg kw] at this; exact this) g7 hp
            rw [TokVs, vs, ← eName] at z
            exact z
        · refine if_false_of (decide_eq_false p1) ?_
          refine ⟨_, rfl, rfl, _, rfl, ?_⟩
          by_cases p2 : V.int (pk : Int) = V.int 2
          · refine if_true_of (decide_eq_true p2) ?_
            have e1 : Str.ofString "'" ++ S wd = S (39 :: wd) := by
              rw [eTick]
              exact SX.S_cat [39] wd
            refine ⟨_, rfl, _, rfl, _, _, rfl, rfl, ?_, (by show 3 ≤ sizeLine; decide), fun p hp => ?_⟩
            · rw [eTick, S_len, S_len, sizeLine_eq]
              show 1 + wd.length ≤ _
              omega
            rw [e1]
            have z := fin kQuo (.s wd) (39 :: wd) p H7 (.quo W) g7 hp
            rw [TokVs, vs, ← eQuo] at z
            exact z
          · refine if_false_of (decide_eq_false p2) ?_
            refine ⟨_, rfl, rfl, _, rfl, ?_⟩
            by_cases p3 : V.int (pk : Int) = V.int 3
            · refine if_true_of (decide_eq_true p3) ?_
              have pw : CPow 10 12 := ⟨by decide, by decide, by decide⟩
              refine ⟨_, _, rfl, rfl, pw, _, _, rfl, rfl, pw, _, _, rfl, rfl, ?_⟩
              refine ⟨_, rfl, a, sc, ns, 1000, rfl, g7.st, by decide, by decide, fun r8 H8 hr8 hS8 hB8 => ?_⟩
              have g8 := g7.next hS8 hB8
              have eN : [V.int 0, V.int 7, V.int ((10 : Int) ^ ((12 : Int)).toNat), V.int ((10 : Int) ^ ((12 : Int)).toNat - 1), V.int (r8 : Int)] = [0, 7, 1000000000000, 999999999999, r8].map fun n : Nat => V.int (n : Int) := rfl
              refine ⟨(by show 5 ≤ sizeLine; decide), fun nl hnl => ?_⟩
              rw [eN]
              have g9 := g8.new (o := .lst ([0, 7, 1000000000000, 999999999999, r8].map fun n : Nat => V.int (n : Int))) hnl
              refine ⟨_, rfl, a, sc, ns, 5, rfl, g9.st, by decide, by decide, fun e H10 he hS10 hB10 => ?_⟩
              have g10 := g9.next hS10 hB10
              obtain ⟨n, hn, ok⟩ : ∃ n : Nat, [0, 7, 1000000000000, 999999999999, r8][e]? = some n ∧ numOk n = true := by
                match e, he with
                | 0, _ => exact ⟨_, rfl, num_small 0 (by decide)⟩
                | 1, _ => exact ⟨_, rfl, num_small 7 (by decide)⟩
                | 2, _ => exact ⟨_, rfl, num_b⟩
                | 3, _ => exact ⟨_, rfl, num_c⟩
                | 4, _ => exact ⟨_, rfl, num_small r8 hr8⟩
                | k + 5, h => exact absurd h (by omega)
              unfold numOk at ok
              simp only [Bool.and_eq_true, decide_eq_true_eq] at ok
              obtain ⟨⟨⟨⟨o1, o2⟩, o3⟩, o4⟩, o5⟩ := ok
              have hnv : ([0, 7, 1000000000000, 999999999999, r8].map fun n : Nat => V.int (n : Int))[e]? = some (V.int (n : Int)) := by
                rw [List.getElem?_map, hn]
                rfl
              refine ⟨nl, _, (e : Int), V.int (n : Int), rfl, rfl, SqL.of (hB10.keep (g8.st.nota hnl).1 upd_same), atI_nat hnv, ?_⟩
              have lg : ((n : Int)).natAbs.log2 < 1920 := by
                rw [Int.natAbs_natCast]
                by_cases z : n = 0
                · rw [z]
                  decide
                · exact Nat.lt_of_lt_of_le ((Nat.log2_lt z).mpr (Nat.lt_of_le_of_lt o5 (by decide : 1000000000000 < 2 ^ 40))) (by decide)
              refine ⟨_, rfl, (n : Int), rfl, lg, ?_⟩
              have eT : Str.ofString (toString (n : Int)) = S (numL n) := ofS rfl
              rw [eT]
              generalize numL n = tx at o1 o2 o3 o4
              refine ⟨_, rfl, _, rfl, a, sc, ns, 4, rfl, g10.st, by decide, by decide, fun d4 H11 hd4 hS11 hB11 => ?_⟩
              have g11 := g10.next hS11 hB11
              refine ⟨_, rfl, S tx, rfl, (by rw [S_len, sizeLine_eq]; omega), _, _, rfl, rfl, _, _, rfl, ?_⟩
              have em : (if (13 : Int) - ((S tx).length : Int) < (d4 : Int) then (13 : Int) - ((S tx).length : Int) else (d4 : Int)) = ((min d4 (13 - tx.length) : Nat) : Int) := by
                rw [S_len]
                split <;> omega
              refine ⟨min d4 (13 - tx.length), congrArg V.str (by decide +kernel : Str.ofString "0" = S [48]), congrArg V.int em, by omega, ?_⟩
              generalize hz : min d4 (13 - tx.length) = zn
              refine ⟨_, rfl, _, _, rfl, rfl, (by rw [S_len, S_len, List.length_replicate, sizeLine_eq]; omega), (by show 3 ≤ sizeLine; decide), fun p hp => ?_⟩
              rw [SX.S_cat]
              have tt : TokText kNum (.n (dval (List.replicate zn 48 ++ tx))) (List.replicate zn 48 ++ tx) := by
                refine .num (fun c hc => ?_) (by simp [o2]) (by rw [List.length_append, List.length_replicate]; omega) (by rw [dval_zeros, o4]; exact o5)
                rcases List.mem_append.mp hc with h | h
                · rw [(List.mem_replicate.mp h).2]
                  decide
                · exact List.all_eq_true.mp o1 c h
              rw [dval_zeros, o4] at tt
              have z := fin kNum (.n n) _ p H11 tt g11 hp
              rw [tv_num] at z
              exact z
            · refine if_false_of (decide_eq_false p3) ?_
              have eG : [V.str (Str.ofString "<="), V.str (Str.ofString "<"), V.str (Str.ofString "="), V.str (Str.ofString "+"), V.str (Str.ofString "-"), V.str (Str.ofString "*"), V.str (Str.ofString "/"), V.str (Str.ofString "("), V.str (Str.ofString ")"), V.str (Str.ofString ",")] = SG.map vs := by decide +kernel
              refine ⟨(by show 10 ≤ sizeLine; decide), fun gl hgl => ?_⟩
              rw [eG]
              have g8 := g7.new (o := .lst (SG.map vs)) hgl
              refine ⟨_, rfl, a, sc, ns, 10, rfl, g8.st, by decide, by decide, fun e H9 he hS9 hB9 => ?_⟩
              have g9 := g8.next hS9 hB9
              obtain ⟨t1, t2⟩ := getD_mem (l := SG) (i := e) he
              generalize SG.getD e [] = td at t1 t2
              refine ⟨gl, _, (e : Int), vs td, rfl, rfl, SqL.of (hB9.keep (g7.st.nota hgl).1 upd_same), atI_nat (vs_at t1), ?_⟩
              refine ⟨_, rfl, _, rfl, (by show 3 ≤ sizeLine; decide), fun p hp => ?_⟩
              have z := fin kSign (.s td) td p H9 (.sign t2) g9 hp
              rw [tv_sign] at z
              exact z
end
end K9
namespace K9
open PySem L2 PyProof.Rows
def spLaw (K : PySem.W.Frag) : Sp := fun us H Q _ => ∃ (a : Addr) (ns : List Int), us = [.ref a] ∧ SqL K H a (ns.map V.int) ∧ ns.length ≤ 63 ∧ ∀ H', Q (.bl true) H'
abbrev NL : List Str := ["script", "state", "turn", "told", "blanks", "text", "due", "at", "place", "places", "odd", "own", "start", "k", "kind", "value"]
/-! ### the plain law of one row of tokens -/
abbrev Tk := List Nat × Tv × List Nat
structure Lay (L : List Tk) (i : Nat) (b : Bool) (T : List Nat) (D : List Tok) (p : Nat → Bool) : Prop where
  good : Good T D p
  len : D.length = i
  siz : T.length ≤ 45 * i
  sp : p 32 = false
  nl : p 10 = false
  pl : ∀ d ∈ D, d.2.2 ≤ T.length ∧ ∃ D', GoodP (T.take d.2.2) D'
  st : b = false → 0 < i → ∀ d, L[i - 1]? = some d → p = stopOf d.1 d.2.2
  z : i = 0 → p = fun _ => false
theorem lay_nil (L : List Tk) (b : Bool) : Lay L 0 b [] [] (fun _ => false) := ⟨good_nil, rfl, Nat.le_refl _, rfl, rfl, fun d h => absurd h (List.not_mem_nil), fun _ h => absurd h (Nat.lt_irrefl _), fun _ => rfl⟩
theorem lay_step {L : List Tk} {i : Nat} {b : Bool} {T : List Nat} {D : List Tok} {p p1 : Nat → Bool} {k x s : List Nat} {v : Tv} (h : Lay L i b T D p) (hL : L[i]? = some (k, v, x)) (tt : TokText k v x) (g : Good (T ++ s) D p1) (q1 : p1 32 = false)
    (q2 : p1 (x.getD 0 0) = false) (hs : s.length ≤ 3) : Lay L (i + 1) b (T ++ s ++ x) (D ++ [(k, v, (T ++ s).length)]) (stopOf k x) where
  good := good_tok g tt q2
  len := by rw [List.length_append, h.len]; rfl
  siz := by
    have := tt.len
    have := h.siz
    rw [List.length_append, List.length_append]
    omega
  sp := stop_sp k x
  nl := stop_nl k x
  pl := fun d hd => by
    rcases List.mem_append.mp hd with hd | hd
    · obtain ⟨h1, D', h2⟩ := h.pl d hd
      refine ⟨by rw [List.length_append, List.length_append]; omega, D', ?_⟩
      rw [List.append_assoc, List.take_append_of_le_length h1]
      exact h2
    · rw [List.mem_singleton.mp hd]
      refine ⟨by rw [List.length_append (as := T ++ s)]; exact Nat.le_add_right _ _, D, ?_⟩
      rw [List.take_left]
      exact g.p q1
  st := fun _ _ d hd => by
    rw [Nat.add_sub_cancel, hL] at hd
    cases hd
    rfl
  z := fun h => absurd h (Nat.succ_ne_zero i)
/-- blanks before a token -/
def BLK : List (List Nat) := [[32], [10], [32, 32], [10, 32, 10]]
theorem lay_bl {L : List Tk} {i : Nat} {b : Bool} {T : List Nat} {D : List Tok} {p : Nat → Bool} (h : Lay L i b T D p) {s : List Nat} (hs : s ∈ BLK) : Good (T ++ s) D (fun _ => false) ∧ s.length ≤ 3 := by
  have key : ∀ s ∈ BLK, s.length ≤ 3 ∧ (s.all isBl) = true ∧ s ≠ [] := by decide
  obtain ⟨k1, k2, k3⟩ := key s hs
  refine ⟨?_, k1⟩
  cases s with
  | nil => exact absurd rfl k3
  | cons c r =>
    have hc := List.all_eq_true.mp k2
    have c1 := hc c (List.mem_cons_self ..)
    have pc : p c = false := by
      have z : c ∈ ([32, 10] : List Nat) := of_decide_eq_true c1
      rcases List.mem_cons.mp z with rfl | z
      · exact h.sp
      · rw [List.mem_singleton.mp z]
        exact h.nl
    have g := good_bls r (good_bl h.good pc c1) (fun d hd => hc d (List.mem_cons_of_mem _ hd))
    rwa [List.append_assoc, List.singleton_append] at g
theorem lay_sp {L : List Tk} {i : Nat} {b : Bool} {T : List Nat} {D : List Tok} {p : Nat → Bool} (h : Lay L i b T D p) : Good (T ++ [32]) D (fun _ => false) := good_bl h.good h.sp (by decide)
theorem cut_to {t : List Nat} {i : Nat} : cutS (S t) none (some (i : Int)) = S (t.take i) := by
  unfold cutS
  rw [HT.sIx_none, HT.sIx_nat, S_toList, S_len, Nat.sub_zero]
  have e : t.take (min i t.length) = t.take i := by
    by_cases h : i ≤ t.length
    · rw [Nat.min_eq_left h]
    · rw [Nat.min_eq_right (by omega), List.take_length, List.take_of_length_le (by omega)]
  rw [List.drop_zero, e]
theorem cut_from {t : List Nat} {i : Nat} (hi : i ≤ t.length) : cutS (S t) (some (i : Int)) none = S (t.drop i) := by
  unfold cutS
  rw [HT.sIx_none, HT.sIx_nat, S_toList, S_len, Nat.min_eq_left hi, List.take_of_length_le (by rw [List.length_drop]; omega)]
theorem cut_12 {t : List Nat} (h : 1 ≤ t.length) : cutS (S t) (some 1) (some 2) = S ((t.drop 1).take 1) := cut_take (t := t) (i := 1) (n := 1) h
theorem odd_facts : ∀ o ∈ ODD, 1 ≤ o.length ∧ o.length ≤ 42 ∧ decide ((o.drop 1).take 1 = [99]) = decide (o.getD 1 0 = 99) := by decide
/-! ### heaps -/
theorem Going.sameTo {a sc : Addr} {ns : List Int} {H H1 H2 : Hp} (g : Going a sc ns H H1) (s : Same H1 H2) : Going a sc ns H H2 := by
  refine ⟨?_, fun b u n e => s b u (g.same b u n e)⟩
  obtain ⟨i, c, t, h1, h2, h3⟩ := g.st
  exact ⟨i, c, t, s _ _ h1, s _ _ h2, h3⟩
theorem Going.drawn {a sc : Addr} {ns : List Int} {H H1 H2 : Hp} (g : Going a sc ns H H1) (s : StAt H2 a sc ns) (b : SameBut a H1 H2) : Going a sc ns H H2 := ⟨s, g.same.trans b⟩
theorem Going.comp {a sc : Addr} {ns : List Int} {H H1 H2 : Hp} (g : Going a sc ns H H1) (h : Going a sc ns H1 H2) : Going a sc ns H H2 := ⟨h.st, g.same.trans h.same⟩
theorem atom_tok (d : Tok) : ∀ z ∈ tokV d, Atom z := fun z hz => by
  have hz' : z ∈ [vs d.1, tvV d.2.1, V.int (d.2.2 : Int)] := hz
  simp only [List.mem_cons, List.not_mem_nil, or_false] at hz'
  rcases hz' with rfl | rfl | rfl
  · exact .inr ⟨_, rfl⟩
  · cases d.2.1 with
    | s l => exact .inr ⟨_, rfl⟩
    | n i => exact .inl ⟨_, rfl⟩
  · exact .inl ⟨_, rfl⟩
def TkAt (H : Hp) (x : V) (d : Tk) : Prop := ∃ p, x = .ref p ∧ H p = some (.tup (TokVs d.1 d.2.1 d.2.2)) ∧ TokText d.1 d.2.1 d.2.2
theorem TkAt.keep {H H' : Hp} (h : ∀ p xs, H p = some (.tup xs) → H' p = some (.tup xs)) (x : V) (d : Tk) : TkAt H x d → TkAt H' x d := fun ⟨p, e, q, t⟩ => ⟨p, e, h _ _ q, t⟩
theorem Going.tup {a sc : Addr} {ns : List Int} {H H1 : Hp} (h0 : StAt H a sc ns) (g : Going a sc ns H H1) (p : Addr) (xs : List V) (e : H p = some (.tup xs)) : H1 p = some (.tup xs) := by
  refine g.same p _ ?_ e
  rintro rfl
  obtain ⟨i, c, s, h1, _⟩ := h0
  rw [h1] at e
  cases e
theorem Paired.get? {α β : Type} {F : α → β → Prop} : ∀ {l₁ : List α} {l₂ : List β} {i : Nat} {y : β}, Paired F l₁ l₂ → l₂[i]? = some y → ∃ x, l₁[i]? = some x ∧ F x y
  | _, _, _, _, .nil, h => by simp at h
  | _, _, 0, _, .cons r _, h => by cases h; exact ⟨_, rfl, r⟩
  | _, _, i + 1, _, .cons _ t, h => Paired.get? (i := i) t (show _ from h)
theorem Paired.get1? {α β : Type} {F : α → β → Prop} : ∀ {l₁ : List α} {l₂ : List β} {i : Nat} {x : α}, Paired F l₁ l₂ → l₁[i]? = some x → ∃ y, l₂[i]? = some y ∧ F x y
  | _, _, _, _, .nil, h => by simp at h
  | _, _, 0, _, .cons r _, h => by cases h; exact ⟨_, rfl, r⟩
  | _, _, i + 1, _, .cons _ t, h => Paired.get1? (i := i) t (show _ from h)
theorem Paired.both {α β γ : Type} {F : α → γ → Prop} {G : β → γ → Prop} : ∀ {l₁ : List α} {l₂ : List β} {l : List γ}, Paired F l₁ l → Paired G l₂ l → Paired (fun x y => ∃ d, F x d ∧ G y d) l₁ l₂
  | _, _, _, .nil, .nil => .nil
  | _, _, _, .cons r t, .cons r' t' => .cons ⟨_, r, r'⟩ (Paired.both t t')
section
variable {P : Program} {w : World} {K : PySem.W.Frag} {mg : Str → Option Value} {base : Heap}
theorem scLaw : FnScope NL ["script"] (defScope sLaw) := ⟨rfl, rfl, rfl, by decide +kernel, rfl, by decide +kernel, by decide +kernel⟩
theorem ok_law {f C cA fI fE fW fR fT fN fS fD fJ fRf : Addr} {fd fdE fdW fdR fdT fdN fdS fdD fdJ fdRf : FuncData} (F : Fun K "law" "law" sLaw f fd) (T : Txt P K mg C fI) (TT : TupTxt K mg) (TS : SuiTxt K mg C cA) (DE : Dd K mg "end_of" sEnd ["text", "start", "letters"] fE fdE)
    (DW : Dd K mg "read_word" sWord ["text", "start"] fW fdW) (DR : Dd K mg "read_token" sTokR ["text", "start"] fR fdR) (DT : Dd K mg "tokenize" sTokz ["text"] fT fdT) (DN : Dd K mg "_law_next" sNext ["state", "limit"] fN fdN)
    (DS : Dd K mg "_law_same" sSame ["actual", "expected"] fS fdS) (DD : Dd K mg "_law_drawn_token" sDrawn ["state"] fD fdD) (DJ : Dd K mg "_law_joins" sJoins ["one", "other"] fJ fdJ) (DRf : Dd K mg "_law_refused" sRef ["text"] fRf fdRf) :
    FnOk P w K mg base CX0 8 f fd ["script"] (spLaw K) := by
  have GT : FnOk P w K mg base (L2.CX P w) 6 fT fdT ["text"] (spTokz C) := ok_tokz DT.fn T TT DE DW DR
  have GN : FnOk P w K mg base CX0 1 fN fdN ["state", "limit"] spNext := ok_next DN.fn T
  have GD : FnOk P w K mg base CX0 2 fD fdD ["state"] spDrawn := ok_drawn DD.fn T DN
  have GJ : FnOk P w K mg base CX0 1 fJ fdJ ["one", "other"] spJoins := ok_joins DJ.fn T
  have GS : FnOk P w K mg base CX0 3 fS fdS ["actual", "expected"] spSame2 := ok_same2 T DS
  have GR : FnOk P w K mg base CX0 7 fRf fdRf ["text"] spRef := ok_ref DRf.fn T TT TS DE DW DR DT
  refine F.ok scLaw (fun us H Q E h => ?_) (fun cdv A outer s H us Q E hr h => ?_)
  · obtain ⟨a, ns, rfl, _⟩ := h
    rfl
  · obtain ⟨a0, ns, rfl, hS, hn, q⟩ := h
    have hr1 : Room 1 _ := hr.mono (by decide)
    have hr2 : Room 2 _ := hr.mono (by decide)
    have hr3 : Room 3 _ := hr.mono (by decide)
    have hr6 : Room 6 _ := hr.mono (by decide)
    have hr7 : Room 7 _ := hr
    refine ⟨_, (pss_cons (ps_set (i := 1) scLaw.nd rfl (Or.inr rfl) (pe_lst (pa_cons (pe_callTy call_list_of (by rfl) T.list boot_list (pa_cons (pv 0) pa_nil)) (pa_cons pe_int (pa_cons pe_int (pa_cons pe_int pa_nil))))))
      (pss_cons (ps_for PassesOwn.never rfl (pi_range1 (by rfl) T.range (pa_cons pe_int pa_nil)) (pg_name (i := 2) scLaw.nd rfl (Or.inl rfl)) (pss_cons (ps_setLc (i := 3) (own := [("k", 13)]) (g := gName 13) (tt := tYes) rfl scLaw.nd rfl rfl (sw_true rfl rfl rfl (by decide +kernel)) (pi_range1 (by rfl) T.range (pa_cons (pe_call GN hr1 rfl DN.g DN.k DN.b .nil pass0 (pa_cons (pv 1) (pa_cons pe_int pa_nil))) pa_nil)) (blkOk_by (own := [("k", 13)]) (N := NL) (sc := defScope sLaw) (by decide +kernel)) (fun _ _ _ _ _ => (pg_name (i := 13) scLaw.nd rfl (Or.inl rfl))) (fun _ _ _ _ _ => pts_nil) (fun _ _ _ _ _ => pe_call GD hr2 rfl DD.g DD.k DD.b .nil pass0 (pa_cons (pv 1) pa_nil)))
      (pss_one (ps_for PassesOwn.never rfl (pi_list (pe_lst (pa_cons pe_bl (pa_cons pe_bl pa_nil)))) (pg_name (i := 4) scLaw.nd rfl (Or.inl rfl)) (pss_cons (ps_set (i := 5) scLaw.nd rfl (Or.inl rfl) pe_str)
      (pss_cons (ps_set (i := 6) scLaw.nd rfl (Or.inl rfl) (pe_lst pa_nil))
      (pss_cons (ps_for PassesOwn.never rfl (pi_range1 (by rfl) T.range (pa_cons (pe_callB call_len_seq (by rfl) T.len PySem.boot_len (pa_cons (pv 3) pa_nil)) pa_nil)) (pg_name (i := 7) scLaw.nd rfl (Or.inl rfl)) (C8.pss_cut (ps_if (pt_val (pv 4)) (pss_one (ps_set (i := 5) scLaw.nd rfl (Or.inl rfl) (pe_op op_add_str (pv 5) (pe_ix ix_list (pe_lst (pa_cons pe_str (pa_cons pe_str (pa_cons pe_str (pa_cons pe_str pa_nil))))) (pe_call GN hr1 rfl DN.g DN.k DN.b .nil pass0 (pa_cons (pv 1) (pa_cons pe_int pa_nil))) (fun _ _ => rfl))))) (pss_one (ps_if (PW.pt (pw_and (pt_cmpR op_gt (pv 7) pe_int (nomark _)) (pw_and1 (pt_val (pe_call GJ hr1 rfl DJ.g DJ.k DJ.b .nil pass0 (pa_cons (pe_ix ix_list (pv 3) (pe_op op_sub (pv 7) pe_int) (fun _ _ => rfl)) (pa_cons (pe_ix ix_list (pv 3) (pv 7) (fun _ _ => rfl)) pa_nil))))))) (pss_one (ps_set (i := 5) scLaw.nd rfl (Or.inl rfl) (pe_op op_add_str (pv 5) pe_str))) pss_nil))) (pss_cons (ps_expr (pe_bm PySem.F.plainAttrs_list PySem.F.slot_list_append PySem.F.type_list_append mt_append (pv 6) (pa_cons (pe_tup (pa_cons (pe_ix ix_tup (pe_ix ix_list (pv 3) (pv 7) (fun _ _ => rfl)) pe_int (fun _ _ => rfl)) (pa_cons (pe_ix ix_tup (pe_ix ix_list (pv 3) (pv 7) (fun _ _ => rfl)) pe_int (fun _ _ => rfl)) (pa_cons (pe_callB call_len_str (by rfl) T.len PySem.boot_len (pa_cons (pv 5) pa_nil)) pa_nil)))) pa_nil)))
      (pss_one (ps_set (i := 5) scLaw.nd rfl (Or.inl rfl) (pe_op op_add_str (pv 5) (pe_ix ix_tup (pe_ix ix_list (pv 3) (pv 7) (fun _ _ => rfl)) pe_int (fun _ _ => rfl))))))))
      (pss_cons (ps_if (pt_not (pt_val (pe_call GS hr3 rfl DS.g DS.k DS.b .nil pass0 (pa_cons (pe_call GT hr6 rfl DT.g DT.k DT.b .nil (passes_call takes0 (fun _ _ _ _ h => h)) (pa_cons (pv 5) pa_nil)) (pa_cons (pv 6) pa_nil))))) (pss_one (ps_ret pe_bl)) pss_nil)
      (pss_cons (ps_set (i := 9) scLaw.nd rfl (Or.inl rfl) (pe_op op_cat (pe_lc (own := [("kind", 14), ("value", 15), ("place", 8)]) (g := gTup K 3 (gCons (gName 14) (gCons (gName 15) (gCons (gName 8) gNil)))) (tt := tYes) rfl scLaw.nd (pi_list (pv 6)) (blkOk_by (own := [("kind", 14), ("value", 15), ("place", 8)]) (N := NL) (sc := defScope sLaw) (by decide +kernel)) (fun _ _ _ _ _ => pg_tup (by rfl) (pgs_cons (pg_name (i := 14) scLaw.nd rfl (Or.inl rfl)) (pgs_cons (pg_name (i := 15) scLaw.nd rfl (Or.inl rfl)) (pgs_cons (pg_name (i := 8) scLaw.nd rfl (Or.inl rfl)) pgs_nil)))) (fun _ _ _ _ _ => pts_nil) (fun _ _ _ _ _ => (pv 8))) (pe_lst (pa_cons (pe_callB call_len_str (by rfl) T.len PySem.boot_len (pa_cons (pv 5) pa_nil)) pa_nil))))
      (pss_cons (ps_set (i := 7) scLaw.nd rfl (Or.inl rfl) (pe_call GN hr1 rfl DN.g DN.k DN.b .nil pass0 (pa_cons (pv 1) (pa_cons (pe_callB call_len_seq (by rfl) T.len PySem.boot_len (pa_cons (pv 9) pa_nil)) pa_nil))))
      (pss_cons (ps_set (i := 8) scLaw.nd rfl (Or.inl rfl) (pe_ix ix_list (pv 9) (pv 7) (fun _ _ => rfl)))
      (pss_cons (ps_set (i := 10) scLaw.nd rfl (Or.inl rfl) (pe_ix ix_list (pe_lst (pa_cons pe_str (pa_cons pe_str (pa_cons pe_str (pa_cons pe_str (pa_cons pe_str (pa_cons pe_str (pa_cons pe_str (pa_cons pe_str (pa_cons pe_str (pa_cons (pe_op (op_mul_zero 57) pe_str pe_int) (pa_cons pe_str (pa_cons (pe_op (op_mul_zero 98) pe_str pe_int) (pa_cons (pe_op op_add_str pe_str (pe_op (op_mul_zero 99) pe_str pe_int)) (pa_cons pe_str pa_nil))))))))))))))) (pe_call GN hr1 rfl DN.g DN.k DN.b .nil pass0 (pa_cons (pv 1) (pa_cons pe_int pa_nil))) (fun _ _ => rfl)))
      (pss_cons (ps_set (i := 11) scLaw.nd rfl (Or.inl rfl) (pe_op op_add_str (pe_op op_add_str (pe_op op_add_str (pe_op op_add_str (pe_slice sl_str (pv 5) po_none (po_some (pv 8))) pe_str) (pv 10)) pe_str) (pe_slice sl_str (pv 5) (po_some (pv 8)) po_none)))
      (C8.pss_cut (ps_set (i := 12) scLaw.nd rfl (Or.inl rfl) (pe_op op_add_ib (pe_op op_add (pv 8) pe_int) (pe_and (pe_cmpR op_eq (pe_item_str (pv 10) pe_int (fun _ _ => rfl)) pe_str (nomark _)) (pe_one (pe_cmpR op_eq (pe_slice sl_str (pv 10) (po_some pe_int) (po_some pe_int)) pe_str (nomark _)))))) (pss_one (ps_if (PW.pt (pw_or (pt_cmpR op_ne (pe_call GR hr7 rfl DRf.g DRf.k DRf.b .nil pass0 (pa_cons (pv 11) pa_nil)) (pv 12) (nomark _)) (pw_or1 (pt_cmpR op_notN (pe_call GR hr7 rfl DRf.g DRf.k DRf.b .nil pass0 (pa_cons (pe_slice sl_str (pv 11) po_none (po_some (pe_op op_add (pv 8) pe_int))) pa_nil)) pe_non (nomark _))))) (pss_one (ps_ret pe_bl)) pss_nil))))))))))))))))
      (pss_one (ps_ret pe_bl)))), ?_⟩
    -- state = [list(script), 0, 0, 1]
    refine ⟨_, rfl, a0, _, rfl, .inl hS, fun sc hsc => ?_⟩
    refine ⟨(by show 4 ≤ sizeLine; decide), fun a ha => ?_⟩
    have nsa : sc ≠ a := ne_of_none (upd_same (H := H) (o := .lst (ns.map V.int))) ha
    have st0 : StAt (upd (upd H sc (.lst (ns.map V.int))) a (.lst [.ref sc, .int 0, .int 0, .int 1])) a sc ns :=
      ⟨0, 0, 1, upd_same, by rw [upd_ne nsa, upd_same], hn, Nat.zero_le _, by decide⟩
    generalize upd (upd H sc (.lst (ns.map V.int))) a (.lst [.ref sc, .int 0, .int 0, .int 1]) = H0 at st0
    -- for turn in range(8)
    refine ⟨8, rfl, by decide, by decide, for_range (n := 8) (fun i σ H' => ∃ v2 v3 v4 v5 v6 v7 v8 v9 v10 v11 v12 : Option V, σ = [some (.ref a0), some (.ref a), v2, v3, v4, v5, v6, v7, v8, v9, v10, v11, v12, none, none, none] ∧ Going a sc ns H0 H')
      ⟨none, none, none, none, none, none, none, none, none, none, none, rfl, .start st0⟩ ?_ (fun σ H' _ => q H')⟩
    rintro i σ H1 hi ⟨v2, v3, v4, v5, v6, v7, v8, v9, v10, v11, v12, rfl, g1⟩
    -- told
    refine ⟨_, rfl, a, sc, ns, 12, rfl, g1.st, by decide, by decide, fun m H2 hm hS2 hB2 => ?_⟩
    have g2 := g1.next hS2 hB2
    refine ⟨(m : Int), rfl, by omega, by omega, fun tA htA => ?_⟩
    have ntA := g2.st.nota htA
    have htA0 := g2.free htA
    refine lc_range (lo := 0) (n := ((m : Int)).toNat) (fun i H' => ∃ (rs : List V) (L : List Tk), L.length = i ∧ Going a sc ns H0 H' ∧ H' tA = some (.lst rs) ∧ Paired (TkAt H') rs L) ⟨[], [], rfl, g2.new htA, upd_same, .nil⟩ ?_ ?_
    · rintro j H' hj ⟨rs, L, hL, g, hl', hP⟩
      refine ⟨rfl, ?_⟩
      unfold tYes
      dsimp only
      rw [if_pos rfl]
      refine ⟨_, rfl, a, sc, ns, rfl, g.st, fun k v x H6 p tt hS6 sb6 hp hx => ?_⟩
      have g6 := g.drawn hS6 sb6
      have hl6 : H6 tA = some (.lst rs) := sb6 tA _ ntA.1 hl'
      have lr := Paired.length hP
      refine ⟨rs, hl6, by rw [sizeLine_eq]; omega, rs ++ [.ref p], L ++ [(k, v, x)], by rw [List.length_append, hL]; rfl, g6.put htA0 ntA.1 ntA.2, upd_same, ?_⟩
      have up : ∀ q xs, H6 q = some (.tup xs) → upd H6 tA (.lst (rs ++ [.ref p])) q = some (.tup xs) := fun q xs e => by
        rw [upd_ne (ne_of e hl6 (by intro z; cases z))]
        exact e
      exact Paired.snoc ⟨p, rfl, up p _ hx, tt⟩ (Paired.imp (TkAt.keep fun q xs e => up q xs (Going.tup g.st ⟨hS6, sb6⟩ q xs e)) hP)
    rintro H3 ⟨rsT, L, hLm, g3, hT3, hP3⟩
    have hm12 : L.length < 12 := by omega
    -- for blanks in [False, True]
    refine ⟨(by show 2 ≤ sizeLine; decide), fun bl hbl => ?_⟩
    have g4 := g3.new (o := .lst [V.bl false, V.bl true]) hbl
    have nbl := g3.st.nota hbl
    have hT4 := new_keep (o' := .lst [V.bl false, V.bl true]) hT3 hbl
    have hP4 := Paired.imp (TkAt.keep fun q xs e => new_keep (o' := .lst [V.bl false, V.bl true]) e hbl) hP3
    have hb4 : upd H3 bl (.lst [V.bl false, V.bl true]) bl = some (.lst [V.bl false, V.bl true]) := upd_same
    generalize upd H3 bl (.lst [V.bl false, V.bl true]) = H4 at g4 hT4 hP4 hb4
    refine ⟨bl, rfl, ⟨_, SqL.of hb4⟩, for_list (K := K) (a := bl) (xs := [V.bl false, V.bl true]) (fun i σ H' => ∃ v2 v4 v5 v6 v7 v8 v9 v10 v11 v12 : Option V, σ = [some (.ref a0), some (.ref a), v2, some (.ref tA), v4, v5, v6, v7, v8, v9, v10, v11, v12, none, none, none] ∧ Going a sc ns H4 H')
      ⟨_, _, _, _, _, _, _, _, _, _, rfl, .start g4.st⟩ (fun i σ H' _ ⟨_, _, _, _, _, _, _, _, _, _, _, g⟩ => SqL.of (g.same bl _ nbl.1 hb4)) ?_
      (fun σ H' ⟨_, _, _, _, _, _, _, _, _, _, e, g⟩ => ⟨_, _, _, _, _, _, _, _, _, _, _, e, g4.comp g⟩)⟩
    rintro jb x σ H5 hx ⟨v2, v4, v5, v6, v7, v8, v9, v10, v11, v12, rfl, g5⟩
    obtain ⟨b, rfl⟩ : ∃ b, x = V.bl b := by
      match jb, hx with
      | 0, h => exact ⟨false, (Option.some.inj h).symm⟩
      | 1, h => exact ⟨true, (Option.some.inj h).symm⟩
      | n + 2, h => exact absurd h (by simp)
    have hT5 := g5.same tA _ ntA.1 hT4
    have hP5 := Paired.imp (TkAt.keep fun q xs e => Going.tup g4.st g5 q xs e) hP4
    -- text = '', due = []
    refine ⟨Nat.zero_le _, fun du hdu => ?_⟩
    have ndu := g5.st.nota hdu
    have eE : V.str (Str.ofString "") = vs [] := congrArg V.str (by decide +kernel : Str.ofString "" = S [])
    rw [eE]
    have hT6 := new_keep (o' := .lst []) hT5 hdu
    have lrT : rsT.length = L.length := Paired.length hP5
    have sLT : ∀ {H' : Hp}, Going a sc ns H5 H' → SqL K H' tA rsT := fun g => SqL.of (g.same tA _ ntA.1 hT5)
    refine ⟨_, rfl, tA, rsT, rfl, .inl (SqL.of hT6), (rsT.length : Int), rfl, by omega, by omega, for_range (n := ((rsT.length : Int)).toNat) (fun i σ H' => ∃ (T : List Nat) (D : List Tok) (rs : List V) (p : Nat → Bool) (v7 : Option V),
        σ = [some (.ref a0), some (.ref a), v2, some (.ref tA), some (.bl b), some (vs T), some (.ref du), v7, v8, v9, v10, v11, v12, none, none, none] ∧ Going a sc ns H5 H' ∧ H' du = some (.lst rs) ∧ Paired (TokAt H') rs D ∧ Lay L i b T D p)
      ⟨[], [], [], _, v7, rfl, (Going.start g5.st).new hdu, upd_same, .nil, lay_nil L b⟩ ?_ ?_⟩
    · rintro i σ H7 hi ⟨T, D, rs, p, v7, rfl, g7, hd7, hPd, lay⟩
      rw [Int.zero_add]
      have hiL : i < L.length := by omega
      obtain ⟨d, hLd⟩ : ∃ d, L[i]? = some d := ⟨_, List.getElem?_eq_getElem hiL⟩
      obtain ⟨k, v, x⟩ := d
      obtain ⟨xr, hxr, pr, rfl, hpr, tt⟩ := Paired.get? hP5 hLd
      have tT := lay.siz
      have xl : x.length ≤ 41 := tt.len
      have drs : rs.length = D.length := Paired.length hPd
      have dl := lay.len
      refine ⟨fun σ' H' => ∃ (s : List Nat) (p1 : Nat → Bool), σ' = [some (.ref a0), some (.ref a), v2, some (.ref tA), some (.bl b), some (vs (T ++ s)), some (.ref du), some (.int (i : Int)), v8, v9, v10, v11, v12, none, none, none] ∧ Going a sc ns H5 H' ∧
        H' du = some (.lst rs) ∧ Paired (TokAt H') rs D ∧ Good (T ++ s) D p1 ∧ p1 32 = false ∧ p1 (x.getD 0 0) = false ∧ s.length ≤ 3, ?_, ?_⟩
      · refine ⟨_, rfl, b, rfl, ?_⟩
        cases b with
        | true =>
          refine if_true_of rfl ?_
          refine ⟨_, rfl, (by show 4 ≤ sizeLine; decide), fun l4 h4 => ?_⟩
          have eB : [V.str (Str.ofString " "), V.str (Str.ofString "\n"), V.str (Str.ofString "  "), V.str (Str.ofString "\n \n")] = BLK.map vs := by decide +kernel
          rw [eB]
          have g8 := g7.new (o := .lst (BLK.map vs)) h4
          refine ⟨_, rfl, a, sc, ns, 4, rfl, g8.st, by decide, by decide, fun e H9 he hS9 hB9 => ?_⟩
          have g9 := g8.next hS9 hB9
          obtain ⟨t1, t2⟩ := getD_mem (l := BLK) (i := e) he
          generalize BLK.getD e [] = s at t1 t2
          obtain ⟨gb, sl⟩ := lay_bl lay t2
          refine ⟨l4, _, (e : Int), vs s, rfl, rfl, SqL.of (hB9.keep (g7.st.nota h4).1 upd_same), atI_nat (vs_at t1), ?_⟩
          refine ⟨_, _, rfl, rfl, (by rw [S_len, S_len, sizeLine_eq]; omega), ?_⟩
          rw [SX.S_cat]
          exact ⟨s, fun _ => false, rfl, g9, hB9.keep ndu.1 (new_keep hd7 h4), Paired.imp (TokAt.keep fun q xs e => Going.tup (g7.new (o := .lst (BLK.map vs)) h4).st ⟨hS9, hB9.same⟩ q xs (new_keep e h4)) hPd, gb, rfl, rfl, sl⟩
        | false =>
          refine if_false_of rfl ?_
          refine ⟨_, rfl, _, _, rfl, rfl, _, rfl, ?_⟩
          have none0 : ∀ {H' : Hp}, Going a sc ns H5 H' → H' du = some (.lst rs) → Paired (TokAt H') rs D → p (x.getD 0 0) = false → ∃ (s : List Nat) (p1 : Nat → Bool), ([some (.ref a0), some (.ref a), v2, some (.ref tA), some (.bl false), some (vs T), some (.ref du), some (.int (i : Int)), v8, v9, v10, v11, v12, none, none, none] : L2.St) = [some (.ref a0), some (.ref a), v2, some (.ref tA), some (.bl false), some (vs (T ++ s)), some (.ref du), some (.int (i : Int)), v8, v9, v10, v11, v12, none, none, none] ∧ Going a sc ns H5 H' ∧
            H' du = some (.lst rs) ∧ Paired (TokAt H') rs D ∧ Good (T ++ s) D p1 ∧ p1 32 = false ∧ p1 (x.getD 0 0) = false ∧ s.length ≤ 3 := fun g h1 h2 h3 => ⟨[], p, by rw [List.append_nil], g, h1, h2, by rw [List.append_nil]; exact lay.good, lay.sp, h3, Nat.zero_le _⟩
          by_cases i0 : 0 < i
          · refine if_true_of (decide_eq_true (by show (0 : Int) < (i : Int); omega)) ?_
            obtain ⟨d0, hL0⟩ : ∃ d, L[i - 1]? = some d := ⟨_, List.getElem?_eq_getElem (by omega)⟩
            obtain ⟨k0, v0, x0⟩ := d0
            obtain ⟨xr0, hxr0, pr0, rfl, hpr0, tt0⟩ := Paired.get? hP5 hL0
            have x0l : x0.length ≤ 41 := tt0.len
            refine ⟨_, rfl, _, rfl, _, _, rfl, rfl, tA, rsT, (i : Int) - 1, .ref pr0, rfl, rfl, sLT g7, (by rw [show (i : Int) - 1 = ((i - 1 : Nat) : Int) by omega]; exact atI_nat hxr0), ?_⟩
            refine ⟨_, rfl, _, rfl, tA, rsT, (i : Int), .ref pr, rfl, rfl, sLT g7, atI_nat hxr, ?_⟩
            refine ⟨pr0, pr, k0, k, v0, v, x0, x, rfl, Going.tup g5.st g7 _ _ hpr0, Going.tup g5.st g7 _ _ hpr, tt0.ne, tt.ne, by omega, by omega, fun H9 hS9 => ?_⟩
            have g9 := g7.sameTo hS9
            have ep := lay.st rfl i0 _ hL0
            have hPd9 := Paired.imp (TokAt.keep fun q xs e => hS9 q _ e) hPd
            refine ⟨_, rfl, ?_⟩
            cases hj : stopOf k0 x0 (x.getD 0 0) with
            | true =>
              refine if_true_of rfl ?_
              refine ⟨_, rfl, _, _, rfl, rfl, ?_, ?_⟩
              · rw [S_len, show (Str.ofString " ").length = 1 by decide +kernel, sizeLine_eq]
                omega
              rw [show Str.ofString " " = S [32] by decide +kernel, SX.S_cat]
              exact ⟨[32], fun _ => false, rfl, g9, hS9 _ _ hd7, hPd9, lay_sp lay, rfl, rfl, by decide⟩
            | false =>
              refine if_false_of rfl ?_
              exact none0 g9 (hS9 _ _ hd7) hPd9 (by rw [ep]; exact hj)
          · refine if_false_of (decide_eq_false (by show ¬ (0 : Int) < (i : Int); omega)) ?_
            refine if_false_of rfl ?_
            exact none0 g7 hd7 hPd (by rw [lay.z (by omega)])
      · rintro σ' H8 ⟨s, p1, rfl, g8, hd8, hPd8, gd, q1, q2, hs⟩
        have hpr8 := Going.tup g5.st g8 _ _ hpr
        have ts : (T ++ s).length ≤ 600 := by rw [List.length_append]; omega
        have zs : (S (T ++ s)).length ≤ sizeLine := by rw [S_len, sizeLine_eq]; omega
        refine ⟨_, rfl, .inl ⟨rfl, _, SqL.of hd8⟩, ?_⟩
        refine ⟨_, rfl, _, rfl, tA, rsT, (i : Int), .ref pr, rfl, rfl, sLT g8, atI_nat hxr, pr, _, 0, vs k, rfl, rfl, SqT.of hpr8, rfl, ?_⟩
        refine ⟨_, rfl, _, rfl, tA, rsT, (i : Int), .ref pr, rfl, rfl, sLT g8, atI_nat hxr, pr, _, 1, tvV v, rfl, rfl, SqT.of hpr8, rfl, ?_⟩
        refine ⟨_, rfl, S (T ++ s), rfl, zs, (by show 3 ≤ sizeLine; decide), fun q hq => ?_⟩
        rw [S_len]
        have hdq := new_keep (o' := .tup [vs k, tvV v, V.int ((T ++ s).length : Int)]) hd8 hq
        have ndq : du ≠ q := ne_of_none hd8 hq
        refine ⟨du, rs, _, rfl, rfl, hdq, by rw [sizeLine_eq]; omega, ?_⟩
        have g10 : Going a sc ns H5 (upd (upd H8 q (.tup [vs k, tvV v, V.int ((T ++ s).length : Int)])) du (.lst (rs ++ [.ref q]))) := (g8.new hq).put hdu ndu.1 ndu.2
        have keep10 : ∀ p xs, H8 p = some (.tup xs) → upd (upd H8 q (.tup [vs k, tvV v, V.int ((T ++ s).length : Int)])) du (.lst (rs ++ [.ref q])) p = some (.tup xs) := fun p xs e => by
          rw [upd_ne (ne_of e hd8 (by intro z; cases z))]
          exact new_keep e hq
        have hq10 : upd (upd H8 q (.tup [vs k, tvV v, V.int ((T ++ s).length : Int)])) du (.lst (rs ++ [.ref q])) q = some (.tup (tokV (k, v, (T ++ s).length))) := by
          rw [upd_ne ndq.symm, upd_same]
          rfl
        refine ⟨_, rfl, _, rfl, _, rfl, tA, rsT, (i : Int), .ref pr, rfl, rfl, sLT g10, atI_nat hxr, pr, _, 2, vs x, rfl, rfl, SqT.of (keep10 _ _ hpr8), rfl, ?_⟩
        refine ⟨_, _, rfl, rfl, (by rw [S_len, S_len, sizeLine_eq]; omega), ?_⟩
        rw [SX.S_cat]
        exact ⟨T ++ s ++ x, D ++ [(k, v, (T ++ s).length)], rs ++ [.ref q], stopOf k x, _, rfl, g10, upd_same, Paired.snoc ⟨q, rfl, hq10⟩ (Paired.imp (TokAt.keep keep10) hPd8), lay_step lay hLd tt gd q1 q2 hs⟩
    · rintro σ H7 ⟨T, D, rs, p, v7, rfl, g7, hd7, hPd, lay⟩
      have iL : ((rsT.length : Int)).toNat = L.length := by omega
      rw [iL] at lay
      have tT := lay.siz
      have drs : rs.length = D.length := Paired.length hPd
      have dl := lay.len
      have gok := lay.good.ok
      have zT : (S T).length ≤ sizeLine := by rw [S_len, sizeLine_eq]; omega
      -- tokenize, _law_same
      refine ⟨_, rfl, T, rfl, (by show T.length ≤ 100000; omega), fun j hj => absurd (gok.symm.trans hj) (by simp), fun D' hD' H8 p8 hS8 hp8 hTk => ?_⟩
      obtain rfl : D = D' := Sum.inr.inj (gok.symm.trans hD')
      obtain ⟨rs8, h8, hP8⟩ := hTk
      have g8 := g7.sameTo hS8
      have hd8 := hS8 _ _ hd7
      have hPd8 := Paired.imp (TokAt.keep fun q xs e => hS8 q _ e) hPd
      have drs8 : rs8.length = D.length := Paired.length hP8
      refine ⟨_, rfl, p8, du, rs8, rs, rfl, h8, hd8, by omega, Paired.imp (fun x y ⟨d, ⟨p, e1, e2⟩, ⟨q, e3, e4⟩⟩ => ⟨p, q, _, e1, e3, e2, e4, (by show 3 ≤ 1000; decide), atom_tok d⟩) (Paired.both hP8 hPd8), _, rfl, ?_⟩
      refine if_false_of rfl ?_
      -- places
      refine ⟨_, rfl, du, rfl, ⟨_, SqL.of hd8⟩, fun Dl hDl => ?_⟩
      have nDl := g8.st.nota hDl
      have hDl5 := g8.free hDl
      have duDl : du ≠ Dl := ne_of_none hd8 hDl
      refine lc_list (K := K) (a := du) (xs := rs) (fun j H' => Going a sc ns H5 H' ∧ H' du = some (.lst rs) ∧ Paired (TokAt H') rs D ∧ H' Dl = some (.lst ((D.take j).map fun d => V.int (d.2.2 : Int))))
        ⟨g8.new hDl, new_keep hd8 hDl, Paired.imp (TokAt.keep fun q xs e => new_keep e hDl) hPd8, upd_same⟩ (fun j H' _ h => SqL.of h.2.1) ?_ ?_
      · rintro j xj H' hxj ⟨g, hd, hP, hl⟩
        obtain ⟨d, hdj, pq, rfl, hpq⟩ := Paired.get1? hP hxj
        refine ⟨pq, _, rfl, SqT.of hpq, rfl, _, _, rfl, _, _, rfl, _, _, rfl, rfl, rfl, ?_⟩
        unfold tYes
        dsimp only
        rw [if_pos rfl]
        refine ⟨_, rfl, _, hl, ?_, g.put hDl5 nDl.1 nDl.2, ?_, ?_, ?_⟩
        · rw [List.length_map, List.length_take, sizeLine_eq]
          omega
        · rw [upd_ne duDl]
          exact hd
        · exact Paired.imp (TokAt.keep fun q xs e => by rw [upd_ne (ne_of e hl (by intro z; cases z))]; exact e) hP
        · rw [upd_same, List.take_add_one, hdj, List.map_append]
          rfl
      rintro H9 ⟨g9, hd9, hP9, hl9⟩
      rw [drs, List.take_length] at hl9
      refine ⟨_, rfl, S T, rfl, zT, (by show 1 ≤ sizeLine; decide), fun l1 hl1 => ?_⟩
      rw [S_len]
      have g10 := g9.new (o := .lst [V.int (T.length : Int)]) hl1
      have hl10 := new_keep (o' := .lst [V.int (T.length : Int)]) hl9 hl1
      have ll : (D.map fun d => V.int (d.2.2 : Int)).length = D.length := List.length_map _
      refine ⟨Dl, l1, _, _, rfl, rfl, hl10, upd_same, by rw [ll, sizeLine_eq]; show D.length + 1 ≤ _; omega, fun pA hpA => ?_⟩
      have g11 := g10.new (o := .lst ((D.map fun d => V.int (d.2.2 : Int)) ++ [V.int (T.length : Int)])) hpA
      have npA := g10.st.nota hpA
      have hA11 : upd (upd H9 l1 (.lst [V.int (T.length : Int)])) pA (.lst ((D.map fun d => V.int (d.2.2 : Int)) ++ [V.int (T.length : Int)])) pA = some (.lst ((D.map fun d => V.int (d.2.2 : Int)) ++ [V.int (T.length : Int)])) := upd_same
      generalize upd (upd H9 l1 (.lst [V.int (T.length : Int)])) pA (.lst ((D.map fun d => V.int (d.2.2 : Int)) ++ [V.int (T.length : Int)])) = H11 at g11 hA11
      have lPL : ((D.map fun d => V.int (d.2.2 : Int)) ++ [V.int (T.length : Int)]).length = D.length + 1 := by rw [List.length_append, ll]; rfl
      -- at, place
      refine ⟨_, rfl, _, rfl, pA, _, rfl, .inl (SqL.of hA11), ?_⟩
      rw [lPL]
      refine ⟨a, sc, ns, D.length + 1, rfl, g11.st, Nat.succ_pos _, by omega, fun at_ H12 hat hS12 hB12 => ?_⟩
      have g12 := g11.next hS12 hB12
      have hA12 := hB12.keep npA.1 hA11
      obtain ⟨pl, hpl, plT, D', hGP⟩ : ∃ pl : Nat, ((D.map fun d => V.int (d.2.2 : Int)) ++ [V.int (T.length : Int)])[at_]? = some (V.int (pl : Int)) ∧ pl ≤ T.length ∧ ∃ D', GoodP (T.take pl) D' := by
        by_cases hlt : at_ < D.length
        · obtain ⟨p1, D', p2⟩ := lay.pl D[at_] (List.getElem_mem _)
          refine ⟨D[at_].2.2, ?_, p1, D', p2⟩
          rw [List.getElem?_append_left (by rw [ll]; exact hlt), List.getElem?_map, List.getElem?_eq_getElem hlt]
          rfl
        · have e : at_ = D.length := by omega
          refine ⟨T.length, ?_, Nat.le_refl _, D, by rw [List.take_length]; exact lay.good.p lay.sp⟩
          rw [List.getElem?_append_right (by rw [ll]; omega), ll, e, Nat.sub_self]
          rfl
      refine ⟨_, rfl, _, rfl, pA, _, (at_ : Int), V.int (pl : Int), rfl, rfl, SqL.of hA12, atI_nat hpl, ?_⟩
      -- odd
      have m9 : Str.ofString "9" = S [57] := by decide +kernel
      have mb : Str.ofString "b" = S [98] := by decide +kernel
      have mc : Str.ofString "c" = S [99] := by decide +kernel
      refine ⟨14, congrArg V.str m9, rfl, by decide, ?_⟩
      refine ⟨41, congrArg V.str mb, rfl, by decide, ?_⟩
      refine ⟨41, congrArg V.str mc, rfl, by decide, _, _, rfl, rfl, (by decide +kernel), ?_⟩
      refine ⟨(by show 14 ≤ sizeLine; decide), fun lo hlo => ?_⟩
      have eO : [V.str (Str.ofString "A"), V.str (Str.ofString "?"), V.str (Str.ofString "."), V.str (Str.ofString "'"), V.str (Str.ofString "'A"), V.str (Str.ofString "_"), V.str (Str.ofString "\t"), V.str (Str.ofString ";"), V.str (Str.ofString "''"), vs (List.replicate 14 57), V.str (Str.ofString "1000000000001"), vs (List.replicate 41 98), V.str (Str.ofString "'" ++ S (List.replicate 41 99)), V.str (Str.ofString ">")] = ODD.map vs := by decide +kernel
      rw [eO]
      have g13 := g12.new (o := .lst (ODD.map vs)) hlo
      refine ⟨_, rfl, a, sc, ns, 14, rfl, g13.st, by decide, by decide, fun eo H14 heo hS14 hB14 => ?_⟩
      have g14 := g13.next hS14 hB14
      obtain ⟨t1, t2⟩ := getD_mem (l := ODD) (i := eo) heo
      generalize ODD.getD eo [] = o at t1 t2
      obtain ⟨o1, o2, o3⟩ := odd_facts o t2
      refine ⟨lo, _, (eo : Int), vs o, rfl, rfl, SqL.of (hB14.keep (g12.st.nota hlo).1 upd_same), atI_nat (vs_at t1), ?_⟩
      -- own
      have eSp : Str.ofString " " = S [32] := by decide +kernel
      rw [eSp]
      refine ⟨_, rfl, _, rfl, _, rfl, S T, rfl, zT, ?_⟩
      rw [cut_to]
      have lt1 : (T.take pl).length = pl := List.length_take_of_le plT
      refine ⟨_, _, rfl, rfl, (by rw [S_len, S_len, lt1, sizeLine_eq]; show pl + 1 ≤ _; omega), ?_⟩
      rw [SX.S_cat]
      refine ⟨_, rfl, _, _, rfl, rfl, (by rw [S_len, S_len, List.length_append, lt1, sizeLine_eq]; show pl + 1 + o.length ≤ _; omega), ?_⟩
      rw [SX.S_cat]
      refine ⟨_, _, rfl, rfl, (by rw [S_len, S_len, List.length_append, List.length_append, lt1, sizeLine_eq]; show pl + 1 + o.length + 1 ≤ _; omega), ?_⟩
      rw [SX.S_cat]
      refine ⟨_, rfl, _, rfl, _, rfl, S T, rfl, zT, ?_⟩
      rw [cut_from plT]
      refine ⟨_, _, rfl, rfl, (by rw [S_len, S_len, List.length_append, List.length_append, List.length_append, lt1, List.length_drop, sizeLine_eq]; show pl + 1 + o.length + 1 + (T.length - pl) ≤ _; omega), ?_⟩
      rw [SX.S_cat]
      have eOwn : T.take pl ++ [32] ++ o ++ [32] ++ T.drop pl = T.take pl ++ (32 :: (o ++ (32 :: T.drop pl))) := by simp
      rw [eOwn]
      have lOwn : (T.take pl ++ (32 :: (o ++ (32 :: T.drop pl)))).length ≤ 700 := by
        rw [List.length_append, List.length_cons, List.length_append, List.length_cons, lt1, List.length_drop]
        omega
      have rOwn := refused_odd hGP t2 (T.drop pl)
      rw [lt1] at rOwn
      have tOwn : (T.take pl ++ (32 :: (o ++ (32 :: T.drop pl)))).take (pl + 1) = T.take pl ++ [32] := by
        rw [List.take_append, lt1, List.take_of_length_le (by omega), show pl + 1 - pl = 1 by omega]
        rfl
      generalize T.take pl ++ (32 :: (o ++ (32 :: T.drop pl))) = ow at lOwn rOwn tOwn
      -- start
      have zo : (S o).length ≤ sizeLine := by rw [S_len, sizeLine_eq]; omega
      have fin : ∀ kb : Bool, kb = decide (o.getD 0 0 = 39 ∧ o.getD 1 0 = 99) → (pl : Int) + 1 + b2i kb = ((pl + 1 + oddAt o : Nat) : Int) := fun kb e => by
        subst e
        unfold oddAt b2i
        by_cases h : o.getD 0 0 = 39 ∧ o.getD 1 0 = 99
        · rw [if_pos h, decide_eq_true h, if_pos rfl]
          omega
        · rw [if_neg h, decide_eq_false h, if_neg Bool.false_ne_true]
          omega
      refine ⟨fun σ' H' => σ' = [some (.ref a0), some (.ref a), v2, some (.ref tA), some (.bl b), some (vs T), some (.ref du), some (.int (at_ : Int)), some (.int (pl : Int)), some (.ref pA), some (vs o), some (vs ow), some (.int ((pl + 1 + oddAt o : Nat) : Int)), none, none, none] ∧ H' = H14, ?_, ?_⟩
      · refine ⟨_, rfl, _, _, rfl, rfl, ?_⟩
        refine ⟨_, rfl, S o, 0, o.getD 0 0, rfl, rfl, by decide, by decide, (by rw [S_len]; omega), S_at (show 0 < o.length by omega), rfl, _, rfl, ?_⟩
        have tick : decide (V.str ⟨#[o.getD 0 0]⟩ = V.str (Str.ofString "'")) = decide (o.getD 0 0 = 39) := decide_eq_decide.mpr tick_iff
        by_cases c1 : o.getD 0 0 = 39
        · refine if_true_of (tick.trans (decide_eq_true c1)) ?_
          refine ⟨_, rfl, _, rfl, _, rfl, S o, rfl, zo, ?_⟩
          rw [cut_12 o1]
          refine ⟨rfl, _, _, rfl, rfl, ?_⟩
          rw [fin _ ?_]
          · exact ⟨rfl, rfl⟩
          · have e1 : decide (V.str (S ((o.drop 1).take 1)) = V.str (Str.ofString "c")) = decide ((o.drop 1).take 1 = [99]) := decide_eq_decide.mpr (by
              rw [mc]
              exact ⟨fun h => S_inj.mp (V.str.inj h), fun h => by rw [h]⟩)
            rw [e1, o3]
            exact decide_eq_decide.mpr ⟨fun h => ⟨c1, h⟩, fun h => h.2⟩
        · refine if_false_of (tick.trans (decide_eq_false c1)) ?_
          refine ⟨_, _, rfl, rfl, ?_⟩
          rw [fin _ (by rw [decide_eq_false (fun h => c1 h.1)])]
          exact ⟨rfl, rfl⟩
      rintro σ' H' ⟨rfl, rfl⟩
      refine ⟨_, rfl, ow, rfl, (by show ow.length ≤ 100000; omega), fun j hj H15 hS15 => ?_, fun D2 hD2 => absurd (rOwn.symm.trans hD2) (by simp)⟩
      obtain rfl : pl + 1 + oddAt o = j := Sum.inl.inj (rOwn.symm.trans hj)
      refine ⟨_, rfl, rfl, _, rfl, ?_⟩
      refine if_false_of (by simp) ?_
      have zw : (S ow).length ≤ sizeLine := by rw [S_len, sizeLine_eq]; omega
      refine ⟨_, rfl, _, rfl, _, _, rfl, rfl, _, rfl, S ow, rfl, zw, ?_⟩
      rw [show (pl : Int) + 1 = ((pl + 1 : Nat) : Int) by omega, cut_to, tOwn]
      have rP := hGP.ok
      refine ⟨_, rfl, (by show (T.take pl ++ [32]).length ≤ 100000; rw [List.length_append, lt1]; show pl + 1 ≤ _; omega), fun j hj => absurd (rP.symm.trans hj) (by simp), fun D2 hD2 H16 hS16 => ?_⟩
      refine ⟨rfl, _, rfl, ?_⟩
      refine if_false_of (by simp) ?_
      exact ⟨_, _, _, _, _, _, _, _, _, _, rfl, g5.comp ((g14.sameTo hS15).sameTo hS16)⟩
end
end K9
namespace K9
open PySem L2 PyProof.Rows
def strsB : List Value → List (List Nat) → Bool
  | [], [] => true
  | .str x _ :: r, l :: m => decide (x = S l) && strsB r m
  | _, _ => false
theorem strsB_ok : ∀ {us : List Value} {ls : List (List Nat)}, strsB us ls = true → Vals (ls.map vs) us
  | [], [], _ => .nil
  | .str x t :: r, l :: m, h => by
    obtain ⟨h1, h2⟩ := Bool.and_eq_true_iff.mp h
    obtain rfl := of_decide_eq_true h1
    exact .cons ⟨t, rfl⟩ (strsB_ok h2)
theorem gt_mk {K : PySem.W.Frag} {mg : Str → Option Value} {x : Str} {a : Addr} {d : Option Addr} {its : Array Value} {n : Nat} {sl : Array (Option Value)} {ls : List (List Nat)} (g : mg x = some (.ref a)) (l : K.lookup a = some ⟨.type "tuple", d, .seq its n, sl⟩) (v : strsB its.toList ls = true)
    (hl : ls.length ≤ 1000) : GT K mg x (ls.map vs) := by
  have V := strsB_ok v
  have e := Paired.length V
  rw [List.length_map] at e
  refine ⟨a, g, fun H => .inr ⟨_, its, n, l, rfl, rfl, ?_, V⟩⟩
  have : its.size = its.toList.length := by simp
  rw [sizeLine_eq]
  omega
theorem all_mk {l : PySem.W.OpenLaw} {w : World} {K : PySem.W.Frag} {h : Heap} {mg : Str → Option Value} {fa C cA fI cda cc aK aG : Addr}
    {nm q : Str} {N : Addr} {bs : List Value} {sn : List Str} {sub : List Value} {ab : Bool} {col : Option Bool} {dd : Option Addr} {m0 m1 m2 m3 m5 : Option Value}
    {oc0 ccl ctl dc0 pm0 ct0 : Value} {od0 cdd ctd an0 dK dG : Option Addr} {sl0 ccs cts slK slG : Array (Option Value)} {vsC itsK itsG : Array Value} {nK nG : Nat} {file : Str} {tf : PySem.Tok}
    {xLat xLet xDig : Str} {t1 t2 t3 t4 t5 t6 : PySem.Tok}
    {f1 : Addr} {od1 an1 : Option Addr} {sl1 : Array (Option Value)} {oc1 kV1 dc1 pm1 cd1 ct1 : Value}
    {f2 : Addr} {od2 an2 : Option Addr} {sl2 : Array (Option Value)} {oc2 kV2 dc2 pm2 cd2 ct2 : Value}
    {f3 : Addr} {od3 an3 : Option Addr} {sl3 : Array (Option Value)} {oc3 kV3 dc3 pm3 cd3 ct3 : Value}
    {f4 : Addr} {od4 an4 : Option Addr} {sl4 : Array (Option Value)} {oc4 kV4 dc4 pm4 cd4 ct4 : Value}
    {f5 : Addr} {od5 an5 : Option Addr} {sl5 : Array (Option Value)} {oc5 kV5 dc5 pm5 cd5 ct5 : Value}
    {f6 : Addr} {od6 an6 : Option Addr} {sl6 : Array (Option Value)} {oc6 kV6 dc6 pm6 cd6 ct6 : Value}
    {f7 : Addr} {od7 an7 : Option Addr} {sl7 : Array (Option Value)} {oc7 kV7 dc7 pm7 cd7 ct7 : Value}
    {f8 : Addr} {od8 an8 : Option Addr} {sl8 : Array (Option Value)} {oc8 kV8 dc8 pm8 cd8 ct8 : Value}
    {f9 : Addr} {od9 an9 : Option Addr} {sl9 : Array (Option Value)} {oc9 kV9 dc9 pm9 cd9 ct9 : Value}
    {f10 : Addr} {od10 an10 : Option Addr} {sl10 : Array (Option Value)} {oc10 kV10 dc10 pm10 cd10 ct10 : Value}
    (X : K.In h) (G : h.Ns mainGlobals mg) (hfa : mg "law" = some (.ref fa))
    (aC : PySem.W.nsIn K mainGlobals "RefusedText" = some (some (.ref C)))
    (aA : PySem.W.nsIn K mainGlobals "AskprovedError" = some (some (.ref cA)))
    (xC : K.lookup C = some (excClassObj nm q C N bs [.ref cA, .type "ValueError", .type "Exception", .type "BaseException", .type "object"] true sn sub ab col dd m0 m1 m2 m3 m5 "ValueError.__new__"))
    (al : PySem.W.alongIn K "__init__" [.ref cA, .type "ValueError", .type "Exception", .type "BaseException", .type "object"] = some (some (.builtin "ValueError.__init__")))
    (sa : PySem.W.findIn K (.ref C) "__setattr__" = some (some (.builtin "object.__setattr__")))
    (ga : PySem.W.findIn K (.ref C) "__getattribute__" = some (some (.builtin "BaseException.__getattribute__")))
    (gg : PySem.W.findIn K (.ref C) "__getattr__" = some none)
    (np : PySem.W.findIn K (.ref C) "position" = some none)
    (aI : PySem.W.findIn K (.ref C) "__init__" = some (some (.ref fI)))
    (tI : PySem.W.typeIn K (.ref fI) = some (.type "function"))
    (lI : K.lookup fI = some ⟨oc0, od0, .func (PySem.W.ksFn "__init__" "RefusedText.__init__" (defArgs sInit) (defBody sInit) (defScope sInit) .none .none dc0 pm0 an0 (.ref cda) ct0 cc), sl0⟩)
    (cI : PySem.W.codeIn K (.ref cda) "RefusedText.__init__" = true)
    (lc : K.lookup cda = some ⟨ccl, cdd, .fields vsC, ccs⟩)
    (vc : vsC[2]? = some (.str file tf))
    (ef : ((l.prog.main.file : Str) == file) = true)
    (es : (l.prog.main.scope.names.lookup ("super" : Str)).isSome = false)
    (lcc : K.lookup cc = some ⟨ctl, ctd, .cell (some (.ref C)), cts⟩)
    (kC : PySem.W.keepIn K (.ref C) = true)
    (eC : PySem.W.subIn K (.ref C) (.type "BaseException") = some true)
    (vC : PySem.W.subIn K (.ref C) (.type "ValueError") = some true)
    (sC : PySem.W.mroIn K C (.ref C) = some true)
    (yC : PySem.W.typeIn K (.ref C) = some (.type "type"))
    (nX : PySem.W.nsIn K cStatics "thirdparty.any" = some none)
    (kA : PySem.W.kitOne K (.ref C) (.ref cA) = some true)
    (kV : PySem.W.kitOne K (.ref C) (.type "ValueError") = some true)
    (te : PySem.W.exmOne K (.ref C) (.ref C) = some true)
    (hd : PySem.W.hasDictIn K C = true)
    (ha : PySem.W.findIn K (.ref C) "__class__" = some (some (.builtin "object.__class__")))
    (hn : PySem.W.specialIn K (.builtin "object.__class__") "__get__" = some (some (.builtin "getset_descriptor.__get__")))
    (ht : PySem.W.takesIn K (.builtin "object.__class__") = some true)
    (hm : PySem.W.mroIn K C (.type "object") = some true)
    (z0 : PySem.W.nsIn K mainGlobals "super" = some none)
    (z1 : PySem.W.nsIn K mainGlobals "str" = some none)
    (z2 : PySem.W.nsIn K mainGlobals "len" = some none)
    (z3 : PySem.W.nsIn K mainGlobals "int" = some none)
    (z4 : PySem.W.nsIn K mainGlobals "min" = some none)
    (z5 : PySem.W.nsIn K mainGlobals "tuple" = some none)
    (z6 : PySem.W.nsIn K mainGlobals "list" = some none)
    (z7 : PySem.W.nsIn K mainGlobals "range" = some none)
    (z8 : PySem.W.nsIn K mainGlobals "bool" = some none)
    (z9 : PySem.W.nsIn K mainGlobals "isinstance" = some none)
    (z10 : PySem.W.nsIn K mainGlobals "ValueError" = some none)
    (gLATER : PySem.W.nsIn K mainGlobals "LATER" = some (some (.str xLat t1)))
    (eLATER : xLat = S LAT)
    (gLETTERS : PySem.W.nsIn K mainGlobals "LETTERS" = some (some (.str xLet t2)))
    (eLETTERS : xLet = S LET)
    (gDIGITS : PySem.W.nsIn K mainGlobals "DIGITS" = some (some (.str xDig t3)))
    (eDIGITS : xDig = S DIG)
    (gMOST_WORD : PySem.W.nsIn K mainGlobals "MOST_WORD" = some (some (.int 40 t4)))
    (gMOST_DIGITS : PySem.W.nsIn K mainGlobals "MOST_DIGITS" = some (some (.int 13 t5)))
    (gMOST_NUMBER : PySem.W.nsIn K mainGlobals "MOST_NUMBER" = some (some (.int 1000000000000 t6)))
    (gKEYWORDS : PySem.W.nsIn K mainGlobals "KEYWORDS" = some (some (.ref aK)))
    (lKEYWORDS : K.lookup aK = some ⟨.type "tuple", dK, .seq itsK nK, slK⟩)
    (vKEYWORDS : strsB itsK.toList KW = true)
    (gSIGNS : PySem.W.nsIn K mainGlobals "SIGNS" = some (some (.ref aG)))
    (lSIGNS : K.lookup aG = some ⟨.type "tuple", dG, .seq itsG nG, slG⟩)
    (vSIGNS : strsB itsG.toList SG = true)
    (a1 : PySem.W.nsIn K mainGlobals "end_of" = some (some (.ref f1)))
    (l1 : K.lookup f1 = some ⟨oc1, od1, .func (PySem.W.fnOf "end_of" "end_of" (defArgs sEnd) (defBody sEnd) (defScope sEnd) .none kV1 dc1 pm1 an1 cd1 ct1), sl1⟩)
    (c1 : PySem.W.codeIn K cd1 "end_of" = true)
    (k1 : PySem.W.keepIn K (.ref f1) = true)
    (a2 : PySem.W.nsIn K mainGlobals "read_word" = some (some (.ref f2)))
    (l2 : K.lookup f2 = some ⟨oc2, od2, .func (PySem.W.fnOf "read_word" "read_word" (defArgs sWord) (defBody sWord) (defScope sWord) .none kV2 dc2 pm2 an2 cd2 ct2), sl2⟩)
    (c2 : PySem.W.codeIn K cd2 "read_word" = true)
    (k2 : PySem.W.keepIn K (.ref f2) = true)
    (a3 : PySem.W.nsIn K mainGlobals "read_token" = some (some (.ref f3)))
    (l3 : K.lookup f3 = some ⟨oc3, od3, .func (PySem.W.fnOf "read_token" "read_token" (defArgs sTokR) (defBody sTokR) (defScope sTokR) .none kV3 dc3 pm3 an3 cd3 ct3), sl3⟩)
    (c3 : PySem.W.codeIn K cd3 "read_token" = true)
    (k3 : PySem.W.keepIn K (.ref f3) = true)
    (a4 : PySem.W.nsIn K mainGlobals "tokenize" = some (some (.ref f4)))
    (l4 : K.lookup f4 = some ⟨oc4, od4, .func (PySem.W.fnOf "tokenize" "tokenize" (defArgs sTokz) (defBody sTokz) (defScope sTokz) .none kV4 dc4 pm4 an4 cd4 ct4), sl4⟩)
    (c4 : PySem.W.codeIn K cd4 "tokenize" = true)
    (k4 : PySem.W.keepIn K (.ref f4) = true)
    (a5 : PySem.W.nsIn K mainGlobals "_law_next" = some (some (.ref f5)))
    (l5 : K.lookup f5 = some ⟨oc5, od5, .func (PySem.W.fnOf "_law_next" "_law_next" (defArgs sNext) (defBody sNext) (defScope sNext) .none kV5 dc5 pm5 an5 cd5 ct5), sl5⟩)
    (c5 : PySem.W.codeIn K cd5 "_law_next" = true)
    (k5 : PySem.W.keepIn K (.ref f5) = true)
    (a6 : PySem.W.nsIn K mainGlobals "_law_same" = some (some (.ref f6)))
    (l6 : K.lookup f6 = some ⟨oc6, od6, .func (PySem.W.fnOf "_law_same" "_law_same" (defArgs sSame) (defBody sSame) (defScope sSame) .none kV6 dc6 pm6 an6 cd6 ct6), sl6⟩)
    (c6 : PySem.W.codeIn K cd6 "_law_same" = true)
    (k6 : PySem.W.keepIn K (.ref f6) = true)
    (a7 : PySem.W.nsIn K mainGlobals "_law_drawn_token" = some (some (.ref f7)))
    (l7 : K.lookup f7 = some ⟨oc7, od7, .func (PySem.W.fnOf "_law_drawn_token" "_law_drawn_token" (defArgs sDrawn) (defBody sDrawn) (defScope sDrawn) .none kV7 dc7 pm7 an7 cd7 ct7), sl7⟩)
    (c7 : PySem.W.codeIn K cd7 "_law_drawn_token" = true)
    (k7 : PySem.W.keepIn K (.ref f7) = true)
    (a8 : PySem.W.nsIn K mainGlobals "_law_joins" = some (some (.ref f8)))
    (l8 : K.lookup f8 = some ⟨oc8, od8, .func (PySem.W.fnOf "_law_joins" "_law_joins" (defArgs sJoins) (defBody sJoins) (defScope sJoins) .none kV8 dc8 pm8 an8 cd8 ct8), sl8⟩)
    (c8 : PySem.W.codeIn K cd8 "_law_joins" = true)
    (k8 : PySem.W.keepIn K (.ref f8) = true)
    (a9 : PySem.W.nsIn K mainGlobals "_law_refused" = some (some (.ref f9)))
    (l9 : K.lookup f9 = some ⟨oc9, od9, .func (PySem.W.fnOf "_law_refused" "_law_refused" (defArgs sRef) (defBody sRef) (defScope sRef) .none kV9 dc9 pm9 an9 cd9 ct9), sl9⟩)
    (c9 : PySem.W.codeIn K cd9 "_law_refused" = true)
    (k9 : PySem.W.keepIn K (.ref f9) = true)
    (a10 : PySem.W.nsIn K mainGlobals "law" = some (some (.ref f10)))
    (l10 : K.lookup f10 = some ⟨oc10, od10, .func (PySem.W.fnOf "law" "law" (defArgs sLaw) (defBody sLaw) (defScope sLaw) .none kV10 dc10 pm10 an10 cd10 ct10), sl10⟩)
    (c10 : PySem.W.codeIn K cd10 "law" = true)
    (k10 : PySem.W.keepIn K (.ref f10) = true) :
    ∃ fd : FuncData, (∀ (s : Shared) (v : Value), BindsTo s fd ⟨[v], []⟩ [("script", v)]) ∧ ∀ base : Heap, K.In base → base.Ns mainGlobals mg → FnOk l.prog w K mg base CX0 8 fa fd ["script"] (spLaw K) := by
  have e := hfa.symm.trans (PySem.W.mg_of X G a10)
  cases e
  subst eLATER eLETTERS eDIGITS
  have nn := fun {n : Str} (z : PySem.W.nsIn K mainGlobals n = some none) => PySem.W.mg_none_of X G z
  have rv : PySem.HandSPX.refsVE [.ref cA, .type "ValueError", .type "Exception", .type "BaseException", .type "object"] = true := (by decide +kernel : PySem.HandSPX.refsVE [.type "ValueError", .type "Exception", .type "BaseException", .type "object"] = true)
  have ref : RefTxt l.prog K mg C fI := { gC := PySem.W.mg_of X G aC, gSup := nn z0, gStr := nn z1, cls := ⟨nm, q, N, bs, _, sn, sub, ab, col, dd, m0, m1, m2, m3, m5, xC, rv, al⟩, sa := sa, noN := np, iC := aI, tC := tI, kC := kC, exC := eC, veC := vC, sC := sC, tyC := yC, noX := nX, fn := ⟨oc0, ccl, ctl, od0, cdd, ctd, dc0, pm0, an0, cda, cc, ct0, sl0, ccs, cts, vsC, file, tf, lI, cI, lc, vc, ef, es, lcc⟩ }
  have T : Txt l.prog K mg C fI := { len := nn z2, int := nn z3, str := nn z1, min := nn z4, tuple := nn z5, list := nn z6, range := nn z7, bool := nn z8, isi := nn z9, ref := ref, LAT := ⟨_, PySem.W.mg_of X G gLATER⟩, LET := ⟨_, PySem.W.mg_of X G gLETTERS⟩, DIG := ⟨_, PySem.W.mg_of X G gDIGITS⟩, MW := ⟨_, PySem.W.mg_of X G gMOST_WORD⟩, MD := ⟨_, PySem.W.mg_of X G gMOST_DIGITS⟩, MN := ⟨_, PySem.W.mg_of X G gMOST_NUMBER⟩ }
  have TT : TupTxt K mg := ⟨gt_mk (PySem.W.mg_of X G gKEYWORDS) lKEYWORDS vKEYWORDS (by decide), gt_mk (PySem.W.mg_of X G gSIGNS) lSIGNS vSIGNS (by decide)⟩
  have TS : SuiTxt K mg C cA := { gA := PySem.W.mg_of X G aA, kA := kA, gV := nn z10, kV := kV, te := te, xf := ⟨ga, gg, eC, hd⟩, xc := ⟨ga, gg, eC, hd, ha, hn, ht, hm⟩ }
  have F1 := fun_mk (st := sEnd) l1 c1 k1
  have D1 : Dd K mg "end_of" sEnd ["text", "start", "letters"] f1 _ := ⟨F1, F1.binds (ps := ["text", "start", "letters"]) fun _ _ _ _ _ _ us hl => match us, hl with | [_, _, _], _ => rfl, PySem.W.mg_of X G a1, k1⟩
  have F2 := fun_mk (st := sWord) l2 c2 k2
  have D2 : Dd K mg "read_word" sWord ["text", "start"] f2 _ := ⟨F2, F2.binds (ps := ["text", "start"]) fun _ _ _ _ _ _ us hl => match us, hl with | [_, _], _ => rfl, PySem.W.mg_of X G a2, k2⟩
  have F3 := fun_mk (st := sTokR) l3 c3 k3
  have D3 : Dd K mg "read_token" sTokR ["text", "start"] f3 _ := ⟨F3, F3.binds (ps := ["text", "start"]) fun _ _ _ _ _ _ us hl => match us, hl with | [_, _], _ => rfl, PySem.W.mg_of X G a3, k3⟩
  have F4 := fun_mk (st := sTokz) l4 c4 k4
  have D4 : Dd K mg "tokenize" sTokz ["text"] f4 _ := ⟨F4, F4.binds (ps := ["text"]) fun _ _ _ _ _ _ us hl => match us, hl with | [_], _ => rfl, PySem.W.mg_of X G a4, k4⟩
  have F5 := fun_mk (st := sNext) l5 c5 k5
  have D5 : Dd K mg "_law_next" sNext ["state", "limit"] f5 _ := ⟨F5, F5.binds (ps := ["state", "limit"]) fun _ _ _ _ _ _ us hl => match us, hl with | [_, _], _ => rfl, PySem.W.mg_of X G a5, k5⟩
  have F6 := fun_mk (st := sSame) l6 c6 k6
  have D6 : Dd K mg "_law_same" sSame ["actual", "expected"] f6 _ := ⟨F6, F6.binds (ps := ["actual", "expected"]) fun _ _ _ _ _ _ us hl => match us, hl with | [_, _], _ => rfl, PySem.W.mg_of X G a6, k6⟩
  have F7 := fun_mk (st := sDrawn) l7 c7 k7
  have D7 : Dd K mg "_law_drawn_token" sDrawn ["state"] f7 _ := ⟨F7, F7.binds (ps := ["state"]) fun _ _ _ _ _ _ us hl => match us, hl with | [_], _ => rfl, PySem.W.mg_of X G a7, k7⟩
  have F8 := fun_mk (st := sJoins) l8 c8 k8
  have D8 : Dd K mg "_law_joins" sJoins ["one", "other"] f8 _ := ⟨F8, F8.binds (ps := ["one", "other"]) fun _ _ _ _ _ _ us hl => match us, hl with | [_, _], _ => rfl, PySem.W.mg_of X G a8, k8⟩
  have F9 := fun_mk (st := sRef) l9 c9 k9
  have D9 : Dd K mg "_law_refused" sRef ["text"] f9 _ := ⟨F9, F9.binds (ps := ["text"]) fun _ _ _ _ _ _ us hl => match us, hl with | [_], _ => rfl, PySem.W.mg_of X G a9, k9⟩
  have F10 := fun_mk (st := sLaw) l10 c10 k10
  exact ⟨PySem.W.fnOf "law" "law" (defArgs sLaw) (defBody sLaw) (defScope sLaw) .none kV10 dc10 pm10 an10 cd10 ct10, fun s v => .of_eq rfl, fun base _ _ => ok_law F10 T TT TS D1 D2 D3 D4 D5 D6 D7 D8 D9⟩
theorem walk {l : PySem.W.OpenLaw} {q : Program} {loose : List Str} {XP : (Str → Option Value) → Heap → Prop} {YP : World → Heap → Prop} {d : DefRec} {K : Params → PySem.W.Frag} (hn : l.most = some 63) (hdf : d.params.defaults = [])
    (hY : ∀ (w : World) (h : Heap), YP w h → (K w.params).In h)
    (F : ∀ (w : World) (mg : Str → Option Value) (fa : Addr) (h : Heap), (K w.params).In h → h.Ns mainGlobals mg → mg d.name = some (.ref fa) →
      ∃ fd : FuncData, (∀ (s : Shared) (u : Value), BindsTo s fd ⟨[u], []⟩ [("script", u)]) ∧ ∀ base : Heap, (K w.params).In base → base.Ns mainGlobals mg → FnOk l.prog w (K w.params) mg base CX0 8 fa fd ["script"] (spLaw (K w.params))) :
    PySem.W.WalkO q loose XP YP l.row.toRowW d [] (fun f vs => PySem.call f vs) :=
  L2.walk_of (n := 63) (k := 8) (x := "script") (CX := fun _ => CX0) (sp := fun w => spLaw (K w.params)) hn (by decide) hdf ⟨rfl, by decide, by decide⟩ hY F (fun _ _ a ns hl _ hS => ⟨a, ns, rfl, hS, hl, fun _ => rfl⟩) fun _ _ _ _ _ z => z
end K9
open PySem PySem.W PyProof.Rows in
set_option maxRecDepth 100000 in
set_option maxHeartbeats 0 in
theorem PySem.Challenge.cw_askproved_k09_texts_are_the_tokens_that_holds : PySem.Challenge.rw_askproved_k09_texts_are_the_tokens_that.Holds := by
  w_on; o_law; k_head; (case hw => w_witness2)
  k_fill
  refine K9.walk (l := PySem.Challenge.rw_askproved_k09_texts_are_the_tokens_that) rfl rfl (fun w h Y => PySem.W.kIn_of Y) ?F
  case F =>
    intro w mg fa h KX G hmg
    refine' K9.all_mk KX G hmg ?aC ?aA ?xC ?al ?sa ?ga ?gg ?np ?aI ?tI ?lI ?cI ?lc ?vc ?ef ?es ?lcc ?kC ?eC ?vC ?sC ?yC ?nX ?kA ?kV ?te ?hd ?ha ?hn ?ht ?hm ?z0 ?z1 ?z2 ?z3 ?z4 ?z5 ?z6 ?z7 ?z8 ?z9 ?z10 ?gLATER ?eLATER ?gLETTERS ?eLETTERS ?gDIGITS ?eDIGITS ?gMOST_WORD ?gMOST_DIGITS ?gMOST_NUMBER ?gKEYWORDS ?lKEYWORDS ?vKEYWORDS ?gSIGNS ?lSIGNS ?vSIGNS ?a1 ?l1 ?c1 ?k1 ?a2 ?l2 ?c2 ?k2 ?a3 ?l3 ?c3 ?k3 ?a4 ?l4 ?c4 ?k4 ?a5 ?l5 ?c5 ?k5 ?a6 ?l6 ?c6 ?k6 ?a7 ?l7 ?c7 ?k7 ?a8 ?l8 ?c8 ?k8 ?a9 ?l9 ?c9 ?k9 ?a10 ?l10 ?c10 ?k10
    (case aC => first | k_is | rfl)
    (case aA => first | k_is | rfl)
    (case xC => first | k_is | rfl)
    (case al => first | k_is | rfl)
    (case sa => first | k_is | rfl)
    (case ga => first | k_is | rfl)
    (case gg => first | k_is | rfl)
    (case np => first | k_is | rfl)
    (case aI => first | k_is | rfl)
    (case tI => first | k_is | rfl)
    (case lI => first | k_is | rfl)
    (case cI => first | k_is | rfl)
    (case lc => first | k_is | rfl)
    (case vc => first | rfl | kernel_rfl | decide +kernel)
    (case ef => first | rfl | kernel_rfl | decide +kernel)
    (case es => first | rfl | decide +kernel)
    (case lcc => first | k_is | rfl)
    (case kC => first | k_is | rfl)
    (case eC => first | k_is | rfl)
    (case vC => first | k_is | rfl)
    (case sC => first | k_is | rfl)
    (case yC => first | k_is | rfl)
    (case nX => first | k_is | rfl)
    (case kA => first | k_is | rfl)
    (case kV => first | k_is | rfl)
    (case te => first | k_is | rfl)
    (case hd => first | k_is | rfl)
    (case ha => first | k_is | rfl)
    (case hn => first | k_is | rfl)
    (case ht => first | k_is | rfl)
    (case hm => first | k_is | rfl)
    (case z0 => first | k_is | rfl)
    (case z1 => first | k_is | rfl)
    (case z2 => first | k_is | rfl)
    (case z3 => first | k_is | rfl)
    (case z4 => first | k_is | rfl)
    (case z5 => first | k_is | rfl)
    (case z6 => first | k_is | rfl)
    (case z7 => first | k_is | rfl)
    (case z8 => first | k_is | rfl)
    (case z9 => first | k_is | rfl)
    (case z10 => first | k_is | rfl)
    (case gLATER => first | k_is | rfl)
    (case eLATER => first | rfl | kernel_rfl | decide +kernel)
    (case gLETTERS => first | k_is | rfl)
    (case eLETTERS => first | rfl | kernel_rfl | decide +kernel)
    (case gDIGITS => first | k_is | rfl)
    (case eDIGITS => first | rfl | kernel_rfl | decide +kernel)
    (case gMOST_WORD => first | k_is | rfl)
    (case gMOST_DIGITS => first | k_is | rfl)
    (case gMOST_NUMBER => first | k_is | rfl)
    (case gKEYWORDS => first | k_is | rfl)
    (case lKEYWORDS => first | k_is | rfl)
    (case vKEYWORDS => first | rfl | kernel_rfl | decide +kernel)
    (case gSIGNS => first | k_is | rfl)
    (case lSIGNS => first | k_is | rfl)
    (case vSIGNS => first | rfl | kernel_rfl | decide +kernel)
    (case a1 => first | k_is | rfl)
    (case l1 => first | k_is | rfl)
    (case c1 => first | k_is | rfl)
    (case k1 => first | k_is | rfl)
    (case a2 => first | k_is | rfl)
    (case l2 => first | k_is | rfl)
    (case c2 => first | k_is | rfl)
    (case k2 => first | k_is | rfl)
    (case a3 => first | k_is | rfl)
    (case l3 => first | k_is | rfl)
    (case c3 => first | k_is | rfl)
    (case k3 => first | k_is | rfl)
    (case a4 => first | k_is | rfl)
    (case l4 => first | k_is | rfl)
    (case c4 => first | k_is | rfl)
    (case k4 => first | k_is | rfl)
    (case a5 => first | k_is | rfl)
    (case l5 => first | k_is | rfl)
    (case c5 => first | k_is | rfl)
    (case k5 => first | k_is | rfl)
    (case a6 => first | k_is | rfl)
    (case l6 => first | k_is | rfl)
    (case c6 => first | k_is | rfl)
    (case k6 => first | k_is | rfl)
    (case a7 => first | k_is | rfl)
    (case l7 => first | k_is | rfl)
    (case c7 => first | k_is | rfl)
    (case k7 => first | k_is | rfl)
    (case a8 => first | k_is | rfl)
    (case l8 => first | k_is | rfl)
    (case c8 => first | k_is | rfl)
    (case k8 => first | k_is | rfl)
    (case a9 => first | k_is | rfl)
    (case l9 => first | k_is | rfl)
    (case c9 => first | k_is | rfl)
    (case k9 => first | k_is | rfl)
    (case a10 => first | k_is | rfl)
    (case l10 => first | k_is | rfl)
    (case c10 => first | k_is | rfl)
    (case k10 => first | k_is | rfl)
