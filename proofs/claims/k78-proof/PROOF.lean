import PyProof.Rows.All
import HandS.ForMost
import HandS.ForExc
import HandS.ExcInit
import HandS.ExcField
import HandS.ExcIs
import HandS.IsInst
import HandS.Codes
import HandS.Conv
import KE.KExcSuper
import PyProof.TupleOfStr
import HandS.CallLocal
import HandS.ExcOwn
import PyProof.StrOps2
import KE.KExcIs
import PySem.Challenge.RW_askproved_k78_texts_are_refused_just_whe
set_option Elab.async false
/-! the plain law: texts are lists of codes -/
namespace K9
open PySem
/-! ### signs -/
def LET : List Nat := [97,98,99,100,101,102,103,104,105,106,107,108,109,110,111,112,113,114,115,116,117,118,119,120,121,122]
def DIG : List Nat := [48,49,50,51,52,53,54,55,56,57]
def LAT : List Nat := LET ++ (DIG ++ [95])
abbrev isLet (c : Nat) : Bool := decide (c ∈ LET)
abbrev isDig (c : Nat) : Bool := decide (c ∈ DIG)
abbrev isLat (c : Nat) : Bool := decide (c ∈ LAT)
abbrev isBl (c : Nat) : Bool := decide (c ∈ ([32, 10] : List Nat))
theorem let_lat {c : Nat} (h : isLet c = true) : isLat c = true := decide_eq_true (List.mem_append_left _ (of_decide_eq_true h))
theorem dig_lat {c : Nat} (h : isDig c = true) : isLat c = true := decide_eq_true (List.mem_append_right _ (List.mem_append_left _ (of_decide_eq_true h)))
theorem let_cases {P : Nat → Prop} (h : ∀ c ∈ LET, P c) {c : Nat} (hc : isLet c = true) : P c := h c (of_decide_eq_true hc)
theorem let_no_bl {c : Nat} (h : isLet c = true) : isBl c = false := let_cases (P := fun c => isBl c = false) (by decide) h
theorem let_no_dig {c : Nat} (h : isLet c = true) : isDig c = false := let_cases (P := fun c => isDig c = false) (by decide) h
theorem dig_no_let {c : Nat} (h : isDig c = true) : isLet c = false := (by decide : ∀ c ∈ DIG, isLet c = false) c (of_decide_eq_true h)
theorem dig_no_bl {c : Nat} (h : isDig c = true) : isBl c = false := (by decide : ∀ c ∈ DIG, isBl c = false) c (of_decide_eq_true h)
theorem bl_no_lat {c : Nat} (h : isBl c = true) : isLat c = false := (by decide : ∀ c ∈ ([32, 10] : List Nat), isLat c = false) c (of_decide_eq_true h)
def KW : List (List Nat) := [[98,97,115,101],[100,101,114,105,118,101,100],[114,117,108,101],[110,101,118,101,114],[105,102],[110,111,116],[108,101,116],[109,111,100],[110,117,109,98,101,114],[119,111,114,100],[99,111,117,110,116],[115,117,109],[108,101,97,115,116],[109,111,115,116]]
def SG : List (List Nat) := [[60,61],[60],[61],[43],[45],[42],[47],[40],[41],[44]]
def kKey : List Nat := [107,101,121,119,111,114,100]
def kName : List Nat := [110,97,109,101]
def kNum : List Nat := [110,117,109,98,101,114]
def kQuo : List Nat := [113,117,111,116,101,100]
def kSign : List Nat := [115,105,103,110]
/-! ### reading -/
inductive Tv where
  | s (l : List Nat) | n (i : Nat)
  deriving DecidableEq
/-- kind, value, place -/
abbrev Tok := List Nat × Tv × Nat
abbrev dval : List Nat → Nat := NumText.digitsVal
/-- the run of signs of a kind from a place on -/
def run (p : Nat → Bool) (t : List Nat) (i : Nat) : List Nat := (t.drop i).takeWhile p
def endOf (p : Nat → Bool) (t : List Nat) (i : Nat) : Nat := i + (run p t i).length
/-- a sign stands at a place -/
def sgAt (t : List Nat) (i : Nat) (g : List Nat) : Bool := decide ((t.drop i).take g.length = g)
inductive Rd where
  | no (i : Nat) | ok (k : List Nat) (v : Tv) (e : Nat)
def quoAt (t : List Nat) (i : Nat) : Bool := t.getD i 0 == 39 && isLet (t.getD (i + 1) 0)
def readTok (t : List Nat) (i : Nat) : Rd :=
  if isLet (t.getD i 0) = true then
    if 40 < (run isLat t i).length then .no i else .ok (if run isLat t i ∈ KW then kKey else kName) (.s (run isLat t i)) (endOf isLat t i)
  else if isDig (t.getD i 0) = true then
    if 13 < (run isDig t i).length ∨ 1000000000000 < dval (run isDig t i) then .no i else .ok kNum (.n (dval (run isDig t i))) (endOf isDig t i)
  else if quoAt t i = true then
    if 40 < (run isLat t (i + 1)).length then .no (i + 1) else .ok kQuo (.s (run isLat t (i + 1))) (endOf isLat t (i + 1))
  else match SG.find? (sgAt t i) with
    | some g => .ok kSign (.s g) (i + g.length)
    | none => .no i
/-- all tokens from a place on, behind some; or where it is refused -/
def go (t : List Nat) (i : Nat) (acc : List Tok) : Nat ⊕ List Tok :=
  if i < t.length then
    if isBl (t.getD i 0) = true then go t (i + 1) acc
    else match readTok t i with
      | .no j => .inl j
      | .ok k v e => if i < e then go t e (acc ++ [(k, v, i)]) else .inl i
  else .inr acc
termination_by t.length - i
theorem go_end {t : List Nat} {i : Nat} {acc : List Tok} (h : ¬ i < t.length) : go t i acc = .inr acc := by rw [go, if_neg h]
theorem go_bl {t : List Nat} {i : Nat} {acc : List Tok} (h : i < t.length) (b : isBl (t.getD i 0) = true) : go t i acc = go t (i + 1) acc := by rw [go, if_pos h, if_pos b]
theorem go_no {t : List Nat} {i j : Nat} {acc : List Tok} (h : i < t.length) (b : isBl (t.getD i 0) = false) (r : readTok t i = .no j) : go t i acc = .inl j := by
  rw [go, if_pos h, if_neg (by rw [b]; exact Bool.false_ne_true), r]
theorem go_ok {t : List Nat} {i e : Nat} {k : List Nat} {v : Tv} {acc : List Tok} (h : i < t.length) (b : isBl (t.getD i 0) = false) (r : readTok t i = .ok k v e) (l : i < e) : go t i acc = go t e (acc ++ [(k, v, i)]) := by
  rw [go, if_pos h, if_neg (by rw [b]; exact Bool.false_ne_true), r]
  exact if_pos l
/-! ### runs and places in a text that is put together -/
theorem getD_app (p q : List Nat) : (p ++ q).getD p.length 0 = q.getD 0 0 := by
  rw [List.getD_eq_getElem?_getD, List.getD_eq_getElem?_getD, List.getElem?_append_right (Nat.le_refl _), Nat.sub_self]
theorem getD_app1 (p q : List Nat) : (p ++ q).getD (p.length + 1) 0 = q.getD 1 0 := by
  rw [List.getD_eq_getElem?_getD, List.getD_eq_getElem?_getD, List.getElem?_append_right (by omega), show p.length + 1 - p.length = 1 by omega]
theorem drop_app (p q : List Nat) : (p ++ q).drop p.length = q := List.drop_left
theorem takeWhile_all {p : Nat → Bool} : ∀ {w : List Nat}, (∀ c ∈ w, p c = true) → ∀ r : List Nat, (∀ c, r.head? = some c → p c = false) → (w ++ r).takeWhile p = w
  | [], _, [], _ => rfl
  | [], _, c :: r, h => by
    show (c :: r).takeWhile p = []
    rw [List.takeWhile_cons, if_neg (by rw [h c rfl]; exact Bool.false_ne_true)]
  | c :: w, a, r, h => by
    show (c :: (w ++ r)).takeWhile p = c :: w
    rw [List.takeWhile_cons, if_pos (a c (List.mem_cons_self ..)), takeWhile_all (fun d hd => a d (List.mem_cons_of_mem _ hd)) r h]
theorem run_app {p : Nat → Bool} {w : List Nat} (a : ∀ c ∈ w, p c = true) (t r : List Nat) (h : ∀ c, r.head? = some c → p c = false) : run p (t ++ (w ++ r)) t.length = w := by
  unfold run
  rw [drop_app, takeWhile_all a r h]
theorem run_app1 {p : Nat → Bool} {w : List Nat} (a : ∀ c ∈ w, p c = true) (t : List Nat) (x : Nat) (r : List Nat) (h : ∀ c, r.head? = some c → p c = false) : run p (t ++ (x :: (w ++ r))) (t.length + 1) = w := by
  unfold run
  have e : (t ++ (x :: (w ++ r))).drop (t.length + 1) = w ++ r := by
    rw [show t ++ (x :: (w ++ r)) = (t ++ [x]) ++ (w ++ r) by simp]
    rw [show t.length + 1 = (t ++ [x]).length by simp]
    exact List.drop_left
  rw [e, takeWhile_all a r h]
theorem run_le (p : Nat → Bool) (t : List Nat) (i : Nat) : (run p t i).length ≤ t.length - i := by
  unfold run
  have h := (List.takeWhile_sublist p (l := t.drop i)).length_le
  rw [List.length_drop] at h
  exact h
theorem endOf_le {p : Nat → Bool} {t : List Nat} {i : Nat} (h : i ≤ t.length) : endOf p t i ≤ t.length := by
  unfold endOf
  have := run_le p t i
  omega
theorem drop_cons {t : List Nat} {i : Nat} (h : i < t.length) : t.drop i = t.getD i 0 :: t.drop (i + 1) := by
  rw [List.drop_eq_getElem_cons h, List.getD_eq_getElem?_getD, List.getElem?_eq_getElem h, Option.getD_some]
theorem endOf_step {p : Nat → Bool} {t : List Nat} {i : Nat} (h : i < t.length) (hp : p (t.getD i 0) = true) : endOf p t i = endOf p t (i + 1) := by
  unfold endOf run
  rw [drop_cons h, List.takeWhile_cons, if_pos hp, List.length_cons]
  omega
theorem endOf_stop {p : Nat → Bool} {t : List Nat} {i : Nat} (h : ¬ (i < t.length ∧ p (t.getD i 0) = true)) : endOf p t i = i := by
  unfold endOf run
  by_cases hi : i < t.length
  · rw [drop_cons hi, List.takeWhile_cons, if_neg (fun z => h ⟨hi, z⟩)]
    rfl
  · rw [List.drop_eq_nil_of_le (by omega)]
    rfl
theorem endOf_lt {p : Nat → Bool} {t : List Nat} {i : Nat} (h : i < t.length) (hp : p (t.getD i 0) = true) : i < endOf p t i := by
  rw [endOf_step h hp]
  unfold endOf
  omega
/-- the signs of a run, cut out -/
theorem run_cut (p : Nat → Bool) (t : List Nat) (i : Nat) : (t.drop i).take (endOf p t i - i) = run p t i := by
  unfold endOf run
  rw [Nat.add_sub_cancel_left]
  exact List.prefix_iff_eq_take.mp (List.takeWhile_prefix p) |>.symm
theorem getD_lt {t : List Nat} {i c : Nat} (h : t.getD i 0 = c) (hc : c ≠ 0) : i < t.length := by
  rcases Nat.lt_or_ge i t.length with k | k
  · exact k
  · rw [List.getD_eq_getElem?_getD, List.getElem?_eq_none k] at h
    exact absurd h.symm hc
theorem sg_pos : ∀ g ∈ SG, 0 < g.length := by decide
theorem readTok_lt {t : List Nat} {i e : Nat} {k : List Nat} {v : Tv} (h : i < t.length) (r : readTok t i = .ok k v e) : i < e := by
  unfold readTok at r
  split at r
  · rename_i h1
    split at r
    · cases r
    · cases r
      exact endOf_lt h (let_lat h1)
  · split at r
    · rename_i h1
      split at r
      · cases r
      · cases r
        exact endOf_lt h h1
    · split at r
      · split at r
        · cases r
        · cases r
          unfold endOf
          omega
      · split at r
        · rename_i g hg
          cases r
          have := sg_pos g (List.mem_of_find?_eq_some hg)
          omega
        · cases r
end K9
set_option Elab.async false
namespace K9
open PySem
/-! ### tokens and their texts -/
structure Word (w : List Nat) : Prop where
  ne : w ≠ []
  hd : ∀ c, w.head? = some c → isLet c = true
  all : ∀ c ∈ w, isLat c = true
  len : w.length ≤ 40
inductive TokText : List Nat → Tv → List Nat → Prop where
  | word {w : List Nat} (h : Word w) : TokText (if w ∈ KW then kKey else kName) (.s w) w
  | quo {w : List Nat} (h : Word w) : TokText kQuo (.s w) (39 :: w)
  | num {w : List Nat} (a : ∀ c ∈ w, isDig c = true) (ne : w ≠ []) (l : w.length ≤ 13) (m : dval w ≤ 1000000000000) : TokText kNum (.n (dval w)) w
  | sign {g : List Nat} (h : g ∈ SG) : TokText kSign (.s g) g
/-- what may not stand behind a token's text -/
def stopOf (k x : List Nat) (c : Nat) : Bool :=
  if k ∈ [kKey, kName, kQuo] then isLat c else if k = kNum then isDig c else decide (x.getLast? = some 60) && decide (c = 61)
def Bd (p : Nat → Bool) (post : List Nat) : Prop := ∀ c, post.head? = some c → p c = false
theorem stop_sp (k x : List Nat) : stopOf k x 32 = false := by
  unfold stopOf
  split
  · decide
  · split
    · decide
    · rw [show decide ((32 : Nat) = 61) = false from rfl, Bool.and_false]
theorem stop_nl (k x : List Nat) : stopOf k x 10 = false := by
  unfold stopOf
  split
  · decide
  · split
    · decide
    · rw [show decide ((10 : Nat) = 61) = false from rfl, Bool.and_false]
theorem bd_nil (p : Nat → Bool) : Bd p [] := fun c h => by cases h
theorem bd_cons {p : Nat → Bool} {c : Nat} {r : List Nat} (h : p c = false) : Bd p (c :: r) := fun d e => by
  cases e
  exact h
theorem TokText.ne {k x : List Nat} {v : Tv} (h : TokText k v x) : x ≠ [] := by
  cases h with
  | word h => exact h.ne
  | quo h => simp
  | num _ ne => exact ne
  | sign h =>
    intro z
    subst z
    exact absurd h (by decide)
theorem TokText.len {k x : List Nat} {v : Tv} (h : TokText k v x) : x.length ≤ 41 := by
  cases h with
  | word h => exact Nat.le_succ_of_le h.len
  | quo h =>
    rw [List.length_cons]
    exact Nat.succ_le_succ h.len
  | num _ _ l => omega
  | sign h => exact (by decide : ∀ g ∈ SG, g.length ≤ 41) _ h
theorem kKey_ne : kKey ≠ kNum := by decide
theorem hd_getD {w : List Nat} {r : List Nat} (ne : w ≠ []) : (w ++ r).getD 0 0 = w.getD 0 0 := by
  cases w with
  | nil => exact absurd rfl ne
  | cons c w => rfl
theorem Word.h0 {w : List Nat} (h : Word w) : isLet (w.getD 0 0) = true := by
  cases w with
  | nil => exact absurd rfl h.ne
  | cons c w => exact h.hd c rfl
theorem sgAt_app (t g r : List Nat) : sgAt (t ++ (g ++ r)) t.length g = true := by
  unfold sgAt
  rw [drop_app, List.take_left]
  exact decide_eq_true rfl
theorem sgAt_iff (t r : List Nat) (g : List Nat) : sgAt (t ++ r) t.length g = decide (r.take g.length = g) := by
  unfold sgAt
  rw [drop_app]
/-- reading a token where it stands -/
theorem readTok_tok {k x : List Nat} {v : Tv} (h : TokText k v x) (t post : List Nat) (b : Bd (stopOf k x) post) : readTok (t ++ (x ++ post)) t.length = .ok k v (t.length + x.length) := by
  have g0 : (t ++ (x ++ post)).getD t.length 0 = x.getD 0 0 := by rw [getD_app, hd_getD h.ne]
  cases h with
  | word h =>
    have st : ∀ c, post.head? = some c → isLat c = false := fun c e => by
      have z := b c e
      unfold stopOf at z
      rw [if_pos (by split <;> decide)] at z
      exact z
    have e := run_app h.all t post st
    unfold readTok
    rw [g0, if_pos h.h0, e, if_neg (by have := h.len; omega)]
    unfold endOf
    rw [e]
  | quo h =>
    have st : ∀ c, post.head? = some c → isLat c = false := fun c e => by
      have z := b c e
      unfold stopOf at z
      rw [if_pos (by decide)] at z
      exact z
    rename_i w
    have e := run_app1 h.all t 39 post st
    have q : quoAt (t ++ (39 :: w ++ post)) t.length = true := by
      unfold quoAt
      rw [g0, getD_app1]
      have e1 : (39 :: w ++ post).getD 1 0 = w.getD 0 0 := by
        cases w with
        | nil => exact absurd rfl h.ne
        | cons c w => rfl
      rw [e1, h.h0]
      rfl
    have g39 : (t ++ (39 :: w ++ post)).getD t.length 0 = 39 := g0
    unfold readTok
    rw [g39, if_neg (show ¬ isLet 39 = true by decide), if_neg (show ¬ isDig 39 = true by decide), if_pos q]
    rw [show run isLat (t ++ (39 :: w ++ post)) (t.length + 1) = w from e, if_neg (by have := h.len; omega)]
    unfold endOf
    rw [show run isLat (t ++ (39 :: w ++ post)) (t.length + 1) = w from e, List.length_cons]
    congr 1
    omega
  | num a ne l m =>
    have st : ∀ c, post.head? = some c → isDig c = false := fun c e => by
      have z := b c e
      unfold stopOf at z
      rw [if_neg (by decide), if_pos rfl] at z
      exact z
    have e := run_app a t post st
    have hd : isDig (x.getD 0 0) = true := by
      cases x with
      | nil => exact absurd rfl ne
      | cons c w => exact a c (List.mem_cons_self ..)
    unfold readTok
    rw [g0, if_neg (by rw [dig_no_let hd]; exact Bool.false_ne_true), if_pos hd, e, if_neg (by omega)]
    unfold endOf
    rw [e]
  | sign h =>
    have key : ∀ g ∈ SG, isLet (g.getD 0 0) = false ∧ isDig (g.getD 0 0) = false ∧ g.getD 0 0 ≠ 39 := by decide
    obtain ⟨k1, k2, k3⟩ := key _ h
    have q : quoAt (t ++ (x ++ post)) t.length = false := by
      unfold quoAt
      rw [g0, beq_false_of_ne k3, Bool.false_and]
    have st : x = [60] → ∀ c, post.head? = some c → c ≠ 61 := fun hx c e z => by
      have y := b c e
      subst hx
      subst z
      revert y
      decide
    have fd : SG.find? (sgAt (t ++ (x ++ post)) t.length) = some x := by
      have nb : ∀ g, sgAt (t ++ (x ++ post)) t.length g = decide ((x ++ post).take g.length = g) := sgAt_iff t (x ++ post)
      have hx : x ∈ SG := h
      simp only [SG, List.mem_cons, List.not_mem_nil, or_false] at hx
      unfold SG
      rcases hx with rfl | rfl | rfl | rfl | rfl | rfl | rfl | rfl | rfl | rfl
      all_goals simp only [List.find?_cons, nb]
      case inr.inl =>
        cases post with
        | nil => rfl
        | cons c r =>
          have := st rfl c rfl
          simp [this]
      all_goals simp
    unfold readTok
    rw [g0, if_neg (by rw [k1]; exact Bool.false_ne_true), if_neg (by rw [k2]; exact Bool.false_ne_true), if_neg (by rw [q]; exact Bool.false_ne_true), fd]
/-! ### texts that are put together -/
def Good (T : List Nat) (D : List Tok) (p : Nat → Bool) : Prop := ∀ post, Bd p post → go (T ++ post) 0 [] = go (T ++ post) T.length D
theorem good_nil : Good [] [] (fun _ => false) := fun _ _ => rfl
theorem good_bl {T : List Nat} {D : List Tok} {p : Nat → Bool} {c : Nat} (h : Good T D p) (hp : p c = false) (b : isBl c = true) : Good (T ++ [c]) D (fun _ => false) := fun post _ => by
  have e := h (c :: post) (bd_cons hp)
  rw [show T ++ [c] ++ post = T ++ (c :: post) by simp, e, go_bl (by simp) (by rw [getD_app]; exact b), List.length_append, List.length_singleton]
theorem good_bls {D : List Tok} : ∀ (s : List Nat) {T : List Nat}, Good T D (fun _ => false) → (∀ c ∈ s, isBl c = true) → Good (T ++ s) D (fun _ => false)
  | [], T, h, _ => by rw [List.append_nil]; exact h
  | c :: s, T, h, b => by
    rw [show T ++ (c :: s) = (T ++ [c]) ++ s by simp]
    exact good_bls s (good_bl h rfl (b c (List.mem_cons_self ..))) fun d hd => b d (List.mem_cons_of_mem _ hd)
theorem tok_hd {k x : List Nat} {v : Tv} (h : TokText k v x) : isBl (x.getD 0 0) = false := by
  cases h with
  | word h => exact let_no_bl h.h0
  | quo h => rfl
  | num a ne =>
    cases x with
    | nil => exact absurd rfl ne
    | cons c w => exact dig_no_bl (a c (List.mem_cons_self ..))
  | sign h => exact (by decide : ∀ g ∈ SG, isBl (g.getD 0 0) = false) _ h
theorem good_tok {T : List Nat} {D : List Tok} {p : Nat → Bool} {k x : List Nat} {v : Tv} (h : Good T D p) (tx : TokText k v x) (hp : p (x.getD 0 0) = false) : Good (T ++ x) (D ++ [(k, v, T.length)]) (stopOf k x) := fun post b => by
  have xl : 0 < x.length := List.length_pos_iff.mpr tx.ne
  have hb : Bd p (x ++ post) := by
    cases x with
    | nil => exact absurd rfl tx.ne
    | cons c r => exact bd_cons hp
  have e := h (x ++ post) hb
  rw [List.append_assoc, e, go_ok (by simp; omega) (by rw [getD_app, hd_getD tx.ne]; exact tok_hd tx) (readTok_tok tx T post b) (by omega), List.length_append]
/-- what is known of the text up to a place, where a blank stands next -/
def GoodP (P : List Nat) (D : List Tok) : Prop := ∀ post, go (P ++ (32 :: post)) 0 [] = go (P ++ (32 :: post)) P.length D
theorem Good.p {T : List Nat} {D : List Tok} {p : Nat → Bool} (h : Good T D p) (hp : p 32 = false) : GoodP T D := fun post => h (32 :: post) (bd_cons hp)
theorem GoodP.ok {P : List Nat} {D : List Tok} (h : GoodP P D) : go (P ++ [32]) 0 [] = .inr D := by
  rw [h [], go_bl (by simp) (by rw [getD_app]; rfl), go_end (by simp)]
theorem Good.ok {T : List Nat} {D : List Tok} {p : Nat → Bool} (h : Good T D p) : go T 0 [] = .inr D := by
  have e := h [] (bd_nil p)
  rw [List.append_nil] at e
  rw [e, go_end (by omega)]
/-! ### signs at which no token starts -/
def ODD : List (List Nat) := [[65], [63], [46], [39], [39, 65], [95], [9], [59], [39, 39], List.replicate 14 57, [49,48,48,48,48,48,48,48,48,48,48,48,49], List.replicate 41 98, 39 :: List.replicate 41 99, [62]]
/-- a further place, where a quoted word is too long -/
def oddAt (o : List Nat) : Nat := if o.getD 0 0 = 39 ∧ o.getD 1 0 = 99 then 1 else 0
theorem odd_no {o : List Nat} (h : o ∈ ODD) (t post : List Nat) : readTok (t ++ (o ++ (32 :: post))) t.length = .no (t.length + oddAt o) := by
  have g0 : (t ++ (o ++ (32 :: post))).getD t.length 0 = (o ++ (32 :: post)).getD 0 0 := getD_app _ _
  have g1 : (t ++ (o ++ (32 :: post))).getD (t.length + 1) 0 = (o ++ (32 :: post)).getD 1 0 := getD_app1 _ _
  have nb : ∀ g, sgAt (t ++ (o ++ (32 :: post))) t.length g = decide ((o ++ (32 :: post)).take g.length = g) := sgAt_iff t _
  have nf : ∀ c r, o ++ (32 :: post) = c :: r → c ∉ [60, 61, 43, 45, 42, 47, 40, 41, 44] → SG.find? (sgAt (t ++ (o ++ (32 :: post))) t.length) = none := fun c r e hc => by
    rw [List.find?_eq_none]
    intro g hg
    rw [nb, e]
    have key : ∀ g ∈ SG, ∃ d q, g = d :: q ∧ d ∈ ([60, 61, 43, 45, 42, 47, 40, 41, 44] : List Nat) := by
      intro g hg
      simp only [SG, List.mem_cons, List.not_mem_nil, or_false] at hg
      rcases hg with rfl | rfl | rfl | rfl | rfl | rfl | rfl | rfl | rfl | rfl <;> exact ⟨_, _, rfl, by decide⟩
    obtain ⟨d, q, rfl, hd⟩ := key g hg
    have : c ≠ d := fun z => hc (z ▸ hd)
    simp [this]
  have sp : ∀ {p : Nat → Bool}, p 32 = false → ∀ c, (32 :: post).head? = some c → p c = false := fun hp c e => by
    cases e
    exact hp
  have plain : ∀ c r, o ++ (32 :: post) = c :: r → isLet c = false → isDig c = false → (c = 39 → isLet (r.getD 0 0) = false) → c ∉ [60, 61, 43, 45, 42, 47, 40, 41, 44] → readTok (t ++ (o ++ (32 :: post))) t.length = .no t.length := fun c r e h1 h2 h3 h4 => by
    have q : quoAt (t ++ (o ++ (32 :: post))) t.length = false := by
      unfold quoAt
      rw [g0, g1, e]
      by_cases z : c = 39
      · have : isLet ((c :: r).getD 1 0) = false := h3 z
        rw [this, Bool.and_false]
      · rw [show (c :: r).getD 0 0 = c from rfl, beq_false_of_ne z, Bool.false_and]
    unfold readTok
    rw [g0, e, show (c :: r).getD 0 0 = c from rfl, if_neg (by rw [h1]; exact Bool.false_ne_true), if_neg (by rw [h2]; exact Bool.false_ne_true), ← e, if_neg (by rw [q]; exact Bool.false_ne_true), nf c r e h4]
  have word : ∀ w : List Nat, o = w → (∀ c ∈ w, isLat c = true) → isLet (w.getD 0 0) = true → 40 < w.length → readTok (t ++ (o ++ (32 :: post))) t.length = .no t.length := fun w e a h0 l => by
    subst e
    have ne : o ≠ [] := fun z => by rw [z] at l; exact absurd l (by decide)
    have r := run_app a t (32 :: post) (sp (p := isLat) (by decide))
    unfold readTok
    rw [g0, hd_getD ne, if_pos h0, r, if_pos l]
  have digs : ∀ w : List Nat, o = w → (∀ c ∈ w, isDig c = true) → w ≠ [] → (13 < w.length ∨ 1000000000000 < dval w) → readTok (t ++ (o ++ (32 :: post))) t.length = .no t.length := fun w e a ne l => by
    subst e
    have h0 : isDig (o.getD 0 0) = true := by
      cases o with
      | nil => exact absurd rfl ne
      | cons c r => exact a c (List.mem_cons_self ..)
    have r := run_app a t (32 :: post) (sp (p := isDig) (by decide))
    unfold readTok
    rw [g0, hd_getD ne, if_neg (by rw [dig_no_let h0]; exact Bool.false_ne_true), if_pos h0, r, if_pos l]
  simp only [ODD, List.mem_cons, List.not_mem_nil, or_false] at h
  rcases h with rfl | rfl | rfl | rfl | rfl | rfl | rfl | rfl | rfl | rfl | rfl | rfl | rfl | rfl
  · exact plain 65 (32 :: post) rfl rfl rfl (fun z => by cases z) (by decide)
  · exact plain 63 (32 :: post) rfl rfl rfl (fun z => by cases z) (by decide)
  · exact plain 46 (32 :: post) rfl rfl rfl (fun z => by cases z) (by decide)
  · exact plain 39 (32 :: post) rfl rfl rfl (fun _ => rfl) (by decide)
  · exact plain 39 (65 :: 32 :: post) rfl rfl rfl (fun _ => rfl) (by decide)
  · exact plain 95 (32 :: post) rfl rfl rfl (fun z => by cases z) (by decide)
  · exact plain 9 (32 :: post) rfl rfl rfl (fun z => by cases z) (by decide)
  · exact plain 59 (32 :: post) rfl rfl rfl (fun z => by cases z) (by decide)
  · exact plain 39 (39 :: 32 :: post) rfl rfl rfl (fun _ => rfl) (by decide)
  · exact digs _ rfl (by decide) (by decide) (.inl (by decide))
  · exact digs _ rfl (by decide) (by decide) (.inr (by decide))
  · exact word _ rfl (by decide) rfl (by decide)
  · have a : ∀ c ∈ List.replicate 41 99, isLat c = true := by decide
    have r := run_app1 a t 39 (32 :: post) (sp (p := isLat) (by decide))
    have q : quoAt (t ++ (39 :: List.replicate 41 99 ++ (32 :: post))) t.length = true := by
      unfold quoAt
      rw [g0, g1]
      rfl
    have g39 : (t ++ (39 :: List.replicate 41 99 ++ (32 :: post))).getD t.length 0 = 39 := g0
    unfold readTok
    rw [g39, if_neg (show ¬ isLet 39 = true by decide), if_neg (show ¬ isDig 39 = true by decide), if_pos q, show run isLat (t ++ (39 :: List.replicate 41 99 ++ (32 :: post))) (t.length + 1) = List.replicate 41 99 from r, if_pos (by decide)]
    rfl
  · exact plain 62 (32 :: post) rfl rfl rfl (fun z => by cases z) (by decide)
/-- an odd thing behind a blank at a place is refused there -/
theorem refused_odd {P : List Nat} {D : List Tok} (h : GoodP P D) {o : List Nat} (ho : o ∈ ODD) (rest : List Nat) : go (P ++ (32 :: (o ++ (32 :: rest)))) 0 [] = .inl (P.length + 1 + oddAt o) := by
  rw [h, go_bl (by simp) (by rw [getD_app]; rfl)]
  have e : P ++ (32 :: (o ++ (32 :: rest))) = (P ++ [32]) ++ (o ++ (32 :: rest)) := by simp
  have l : P.length + 1 = (P ++ [32]).length := by simp
  have ol : 0 < o.length := (by decide : ∀ o ∈ ODD, 0 < o.length) o ho
  have ob : isBl (o.getD 0 0) = false := (by decide : ∀ o ∈ ODD, isBl (o.getD 0 0) = false) o ho
  rw [e, l]
  exact go_no (by simp; omega) (by rw [getD_app, hd_getD (List.length_pos_iff.mp ol)]; exact ob) (odd_no ho (P ++ [32]) rest)
end K9
set_option Elab.async false
set_option linter.all false
set_option maxRecDepth 100000
set_option maxHeartbeats 2000000
namespace K9
open PySem L2
def top (i : Nat) : Stmt := PySem.Challenge.pw_askproved_k78_texts_are_refused_just_whe.main.body.getD i (.Pass ⟨0, 0, 0, 0⟩)
def sInit : Stmt := match top 2 with
  | .ClassDef _ _ _ b _ _ _ _ _ _ _ => b.getD 0 (.Pass ⟨0, 0, 0, 0⟩)
  | s => s
end K9
namespace K9
open PySem PySem.W PySem.Calls PyProof.Rows PySem.HandSPX L2
/-- what the written part says of RefusedText, at C, and of its __init__, at fI -/
structure RefTxt (P : Program) (K : Frag) (mg : Str → Option Value) (C fI : Addr) : Prop where
  gC : mg "RefusedText" = some (.ref C)
  gSup : mg "super" = none
  gStr : mg "str" = none
  cls : ∃ nm q N bs bm sn sub ab col dd k0 k1 k2 k3 k5, K.lookup C = some (excClassObj nm q C N bs bm true sn sub ab col dd k0 k1 k2 k3 k5 "ValueError.__new__") ∧ refsVE bm = true ∧ alongIn K "__init__" bm = some (some (.builtin "ValueError.__init__"))
  sa : findIn K (.ref C) "__setattr__" = some (some (.builtin "object.__setattr__"))
  noN : findIn K (.ref C) "position" = some none
  iC : findIn K (.ref C) "__init__" = some (some (.ref fI))
  tC : typeIn K (.ref fI) = some (.type "function")
  kC : keepIn K (.ref C) = true
  exC : subIn K (.ref C) (.type "BaseException") = some true
  veC : subIn K (.ref C) (.type "ValueError") = some true
  sC : mroIn K C (.ref C) = some true
  tyC : typeIn K (.ref C) = some (.type "type")
  noX : nsIn K cStatics "thirdparty.any" = some none
  fn : ∃ (oc ccl ctl : Value) (od cdd ctd : Option Addr) (doc pm : Value) (an : Option Addr) (cda cc : Addr) (ct : Value) (osl ccs cts : Array (Option Value)) (vs : Array Value) (file : Str) (tf : PySem.Tok),
    K.lookup fI = some ⟨oc, od, .func (ksFn "__init__" "RefusedText.__init__" (defArgs sInit) (defBody sInit) (defScope sInit) .none .none doc pm an (.ref cda) ct cc), osl⟩ ∧ codeIn K (.ref cda) "RefusedText.__init__" = true ∧
    K.lookup cda = some ⟨ccl, cdd, .fields vs, ccs⟩ ∧ vs[2]? = some (.str file tf) ∧ ((P.main.file : Str) == file) = true ∧ (P.main.scope.names.lookup ("super" : Str)).isSome = false ∧
    K.lookup cc = some ⟨ctl, ctd, .cell (some (.ref C)), cts⟩
theorem one_size (v : Value) : [v].length ≤ sizeLine := by
  rw [sizeLine_eq]
  exact (by decide : 1 ≤ 16777216)
/-- what __init__ leaves of a fresh exception at x -/
structure InitEnd (h h' : Heap) (x C dx t1 : Addr) (v : Value) : Prop where
  keep : ∀ b o, b ≠ x → h.get? b = some o → h'.get? b = some o
  obj : h'.get? x = some { cls := .ref C, dict := some dx, data := .fields #[.ref t1, .none, .none, .none, .bool false, .none] }
  dbig : h.objs.size ≤ dx
  dne : dx ≠ x
  ns : h'.Ns1 dx (fun y => if y = "position" then some v else none)
/-- a made RefusedText -/
structure OwnMade (h h' : Heap) (e C d : Addr) (v : Value) : Prop where
  keep : ∀ b o, h.get? b = some o → h'.get? b = some o
  new : h.objs.size ≤ e
  obj : ∃ oe vs, h'.get? e = some oe ∧ oe.cls = .ref C ∧ oe.dict = some d ∧ oe.data = .fields vs ∧ vs[1]? = some .none
  dbig : h.objs.size ≤ d
  dne : d ≠ e
  ns : h'.Ns1 d (fun y => if y = "position" then some v else none)
section
variable {prog : Program} {w : World} {A : Around} {E : Value → Shared → Prop} {R : Result → Shared → Prop} {s : Shared} {K : Frag} {mg mb : Str → Option Value} {C fI : Addr}
theorem log_small {n : Nat} (h : n ≤ 1000000) : ((n : Int)).natAbs.log2 < 1920 := by
  rw [Int.natAbs_natCast]
  by_cases z : n = 0
  · subst z
    decide
  · exact Nat.lt_of_lt_of_le ((Nat.log2_lt z).mpr (Nat.lt_of_le_of_lt h (by decide : 1000000 < 2 ^ 20))) (by decide)
theorem ldI {M : Model} {h : Heap} {g : Array GenState} {d : Drawn} {t : Nat} {os : OsState} {env : Env} {m : Str → Option Value} {x : Str} {pos : Pos} {v : Value} {Q : Value → Shared → Prop} {A : Around} {E : Value → Shared → Prop} (hn : h.Ns env.locals m) (hv : m x = some v) (q : Q v ⟨h, g, d, t, os⟩)
    (hk : env.scope.kind = .function) (hl : env.kindOf x = some .local) (hd : (x == ("__debug__" : Str)) = false := by decide) :
    wpAny M A (eval (.Name x pos) env) Q E ⟨h, g, d, t, os⟩ := wpAny_Name (wpAny_loadName_local hk hl hn hv q) hd
theorem ref_init (T : RefTxt prog K mg C fI) {x t0 : Addr} {n : Nat} {tn : PySem.Tok} (hn : n ≤ 1000000) (X : K.In s.heap) (hlim : s.heap.NoLimit) (hG : s.heap.Ns mainGlobals mg) (hB : s.heap.Ns builtinsNs mb) (hmb : ∀ x : Str, x ≠ "__name__" → mb x = bootBuiltins x)
    (hx : s.heap.get? x = some (excO C t0)) (hnx : K.lookup x = none) (hroom : A.depth < recursionLimit)
    (hq : ∀ h' tk dx t1, InitEnd s.heap h' x C dx t1 (.int n tn) → R (.ok (.ret .none)) { s with heap := h', toks := tk }) :
    codeAny (model prog w) A (.call (.ref fI) ⟨[.ref x, .int n tn], []⟩) R s := by
  obtain ⟨oc, ccl, ctl, od, cdd, ctd, doc, pm, an, cda, cc, ct, osl, ccs, cts, vs, file, tf, ho, hcd, hcode, hvs, hfile, htop, hcell⟩ := T.fn
  obtain ⟨nm, q, N, bs, bm, sn, sub, ab, col, dd, k0, k1, k2, k3, k5, hC, hbm, hal⟩ := T.cls
  have hcl : clsIn K C = some { name := nm, bases := bs, mro := .ref C :: bm, ns := N, qualname := q, hasDict := true, slotNames := sn, subclasses := sub, abstract := ab, collection := col, hasDel := false } := by unfold clsIn; rw [hC] <;> rfl
  refine ks_codeAny_call_defAt (fd := ksFn "__init__" "RefusedText.__init__" (defArgs sInit) (defBody sInit) (defScope sInit) .none .none doc pm an (.ref cda) ct cc) (body := defBody sInit) (binds := [("self", .ref x), ("position", .int n tn)])
    hroom (X _ _ ho) rfl hlim (codeRec_of X hcd) rfl (BindsTo.of_eq (by first | rfl | with_unfolding_all rfl)) (show ∀ y ∈ (defScope sInit).names, y.2 ≠ .cell by decide +kernel)
    (fun y hy => by
      rcases List.mem_cons.mp hy with rfl | hy
      · exact (by decide +kernel : (defScope sInit).names.lookup ("self" : Str) = some .local)
      · obtain rfl := List.mem_singleton.mp hy
        exact (by decide +kernel : (defScope sInit).names.lookup ("position" : Str) = some .local)) (fun h₁ hns k => ?_)
  obtain ⟨hp, g, d, t, os⟩ := s
  have hns : h₁.Ns hp.objs.size (fun y => ([("self", Value.ref x), ("position", .int n tn)] : List (Str × Value)).reverse.lookup y) := hns
  have k : ∀ b o, hp.get? b = some o → h₁.get? b = some o := k
  have hx : hp.get? x = some (excO C t0) := hx
  have X : K.In hp := X
  have X₁ : K.In h₁ := X.keeps k
  have hx₁ := k _ _ hx
  have hG₁ : h₁.Ns mainGlobals mg := Heap.Ns.keeps hG k
  have hB₁ : h₁.Ns builtinsNs mb := Heap.Ns.keeps hB k
  show _root_.PySem.wpAt (model prog w) _ _ (execs (defBody sInit) (ksEnv "RefusedText.__init__" (defScope sInit) hp.objs.size fI (.ref cda) cc)) _ _ _
  refine ks_wpAt_execs_cons (ks_wpAt_Expr_any (ks_wpAt_MethodCall ?_))
  have kSup : (ksEnv "RefusedText.__init__" (defScope sInit) hp.objs.size fI (.ref cda) cc).kindOf "super" = some .globalImplicit := (by decide +kernel : (defScope sInit).names.lookup ("super" : Str) = some .globalImplicit)
  have kStr : (ksEnv "RefusedText.__init__" (defScope sInit) hp.objs.size fI (.ref cda) cc).kindOf "str" = some .globalImplicit := (by decide +kernel : (defScope sInit).names.lookup ("str" : Str) = some .globalImplicit)
  have kCls : (ksEnv "RefusedText.__init__" (defScope sInit) hp.objs.size fI (.ref cda) cc).kindOf "__class__" = some .free := (by decide +kernel : (defScope sInit).names.lookup ("__class__" : Str) = some .free)
  have kSelf : (ksEnv "RefusedText.__init__" (defScope sInit) hp.objs.size fI (.ref cda) cc).kindOf "self" = some .local := (by decide +kernel : (defScope sInit).names.lookup ("self" : Str) = some .local)
  have kPos : (ksEnv "RefusedText.__init__" (defScope sInit) hp.objs.size fI (.ref cda) cc).kindOf "position" = some .local := (by decide +kernel : (defScope sInit).names.lookup ("position" : Str) = some .local)
  have kFun : (ksEnv "RefusedText.__init__" (defScope sInit) hp.objs.size fI (.ref cda) cc).scope.kind = .function := rfl
  refine ks_wpAt_super_base (ar := { arg := "self", annotation := none, pos := ⟨6, 17, 6, 21⟩ }) kSup kCls (by decide +kernel) rfl (X₁ _ _ ho) rfl rfl rfl (X₁ _ _ hcode) rfl hvs hfile htop ?_
  refine ks_loadName_global kFun kSup (loadGlobal_builtin hG₁ T.gSup hB₁ ((hmb _ (by decide)).trans (by first | exact PyProof.Rows.Boot.«super» | kernel_rfl)) ⟨rfl, ?_⟩)
  refine wpAny_loadName_free kFun kCls rfl ⟨_, X₁ _ _ hcell, rfl⟩ ?_
  refine wpAny_loadName_local kFun kSelf hns rfl ?_
  refine ks_wpAny_isType_cls (X₁ _ _ hC) rfl ⟨rfl, ?_⟩
  refine ks_wpAny_call_super (X₁ _ _ hC) rfl hx₁ rfl (fun c e => by cases e) (looks_mroIn X₁ T.sC) (fun h₂ hso k₂ => ?_)
  have X₂ : K.In h₂ := X₁.keeps k₂
  have I₂ : InstAt h₂ x (excO C t0) C none := ⟨k₂ _ _ hx₁, rfl, rfl, trivial⟩
  refine kxs_getMethod (B := "ValueError") kxs_ValueError hso (looks_opaque X₂ T.noX) (l₀ := .ref C :: bm) ((looks_clsIn X₂ hcl).andThen .now) (by simp [List.dropWhile_cons]) X₂ hal (I₂.type.andThen (looks_subIn X₂ T.veC)) (ks_ne X₂ I₂ hcl) (by decide +kernel) ?_
  have k₃ : ∀ b o, h₂.get? b = some o → (h₂.push (kxs_mw "ValueError.__init__" x)).get? b = some o := fun b o e => Heap.get?_push_of_some _ e
  have hu : (h₂.push (kxs_mw "ValueError.__init__" x)).get? h₂.objs.size = some (kxs_mw "ValueError.__init__" x) := Heap.get?_push_at rfl rfl
  generalize h₂.push (kxs_mw "ValueError.__init__" x) = h₃ at k₃ hu ⊢
  have k13 : ∀ b o, h₁.get? b = some o → h₃.get? b = some o := fun b o e => k₃ b o (k₂ b o e)
  have X₃ : K.In h₃ := X₂.keeps k₃
  refine kxs_callWith (i := "ValueError.__init__") (x := x) rfl (evalArgs_plain (spliced_cons ?_))
  refine wpAny_BinOp (wpAny_Constant_str ?_)
  refine wpAny_Call_Name_kw (Name_function_global kFun kStr (loadGlobal_builtin (Heap.Ns.keeps hG₁ k13) T.gStr (Heap.Ns.keeps hB₁ k13) ((hmb _ (by decide)).trans (by first | exact PyProof.Rows.Boot.«str» | kernel_rfl)) ?_))
  refine PyProof.Rows.callWith_type1 (spliced_cons (ldI (v := .int n tn) (Heap.Ns.keeps hns k13) rfl (spliced_nil (PySem.P.str_of_int (log_small hn) ?_)) kFun kPos))
  refine PyProof.Rows.add_str (fun t' tk => spliced_nil ⟨hu, ?_⟩) ?_
  · have he₃ : h₃.get? x = some (excRec (.ref C) t0 none .none .none (.bool false)) := k13 _ _ hx₁
    have hC₃ : h₃.get? C = some (excClassObj nm q C N bs bm true sn sub ab col dd k0 k1 k2 k3 k5 "ValueError.__new__") := X₃ _ _ hC
    refine wpAny_call (codeAny_of_tree ?_)
    refine wpAny_bind (wpAny_load hu ?_)
    simp only [kxs_mw, show (Value.type "method-wrapper" == Value.type "method" || Value.type "method-wrapper" == Value.type "builtin_function_or_method" || Value.type "method-wrapper" == Value.type "method-wrapper") = true by decide, if_true]
    refine KFB.if_so (by decide) ?_
    refine wpAny_bind (check_bound_init F.excBase_ValueError.toExcCallFacts hC₃ he₃ rfl ?_)
    refine wpAny_bind (wpAny_pure (wpAny_pure ?_))
    refine ⟨plainId_quiet F.excBase_ValueError.init.plain _, codeAny_builtin F.excBase_ValueError.initEntry ?_⟩
    refine exc_init_tree (cls := .ref C) (t0 := t0) (dv := none) (c2 := .none) (c3 := .none) (b4 := .bool false) he₃ (one_size _) fun h₄ k₄ e₄ _ => ?_
    have xL : hp.objs.size ≠ x := Nat.ne_of_gt (Heap.lt_size hx)
    have hns₄ : h₄.Ns hp.objs.size (fun y => ([("self", Value.ref x), ("position", .int n tn)] : List (Str × Value)).reverse.lookup y) := by
      obtain ⟨o, es, ep, e1, e2⟩ := Heap.Ns.keeps hns k13
      exact ⟨o, es, ep, k₄ _ _ xL e1, e2⟩
    have xK : ∀ b o, K.lookup b = some o → b ≠ x := fun b o z y => by
      rw [y, hnx] at z
      cases z
    have X₄ : K.In h₄ := fun b o z => k₄ b o (xK b o z) (X₃ b o z)
    have e₄ : h₄.get? x = some (excO C h₃.objs.size) := e₄
    refine ks_wpAt_execs_cons (ks_wpAt_Assign_Attr ?_)
    refine _root_.PySem.wpAt_of_wpAny (ldI (v := .int n tn) hns₄ rfl ?_ kFun kPos)
    refine ldI (v := .ref x) hns₄ rfl ?_ kFun kSelf
    refine set_plain X₄ (ox := excO C h₃.objs.size) (od := none) ⟨e₄, rfl, rfl, trivial⟩ T.sa ?_
    refine exc_osa X₄ e₄ hcl (show refsVE (.ref C :: bm) = true from hbm) rfl T.noN (fun h₅ tk₅ dx k₅ dn dne hx₅ hn₅ => ?_)
    show _root_.PySem.wpAt _ _ _ (execs _ _) _ _ _
    refine _root_.PySem.wpAt_of_wpAny (wpAny_execs_nil ?_)
    have z2 : hp.objs.size < h₄.objs.size := by
      obtain ⟨o, es, ep, e1, e2⟩ := hns₄
      exact Heap.lt_size e1
    exact hq h₅ tk₅ dx _ ⟨fun b o hb e => k₅ b o hb (k₄ b o hb (k13 b o (k b o e))), hx₅, Nat.le_of_lt (Nat.lt_of_lt_of_le z2 dn), dne, hn₅⟩
  · have e := len_str_of_int (n : Int)
    have e1 : (Str.ofString "unexpected text at position ").length = 28 := by decide +kernel
    have e2 : ((n : Int)).natAbs = n := Int.natAbs_natCast n
    rw [sizeLine_eq]
    omega
theorem ref_made (T : RefTxt prog K mg C fI) {n : Nat} {tn : PySem.Tok} (hn : n ≤ 1000000) (X : K.In s.heap) (hlim : s.heap.NoLimit) (hG : s.heap.Ns mainGlobals mg) (hB : s.heap.Ns builtinsNs mb) (hmb : ∀ x : Str, x ≠ "__name__" → mb x = bootBuiltins x)
    (hroom : A.depth + 1 < recursionLimit)
    (hq : ∀ h' tk e d, OwnMade s.heap h' e C d (.int n tn) → R (.ok (.ret (.ref e))) { s with heap := h', toks := tk }) :
    codeAny (model prog w) A (.call (.ref C) ⟨[.int n tn], []⟩) R s := by
  obtain ⟨nm, q, N, bs, bm, sn, sub, ab, col, dd, k0, k1, k2, k3, k5, hC, hbm, _⟩ := T.cls
  obtain ⟨hp, g, dr, tk, os⟩ := s
  have k : ∀ b o, hp.get? b = some o → ((hp.push (kdv_tup [Value.int n tn])).push (excO C hp.objs.size)).get? b = some o := fun b o e => Heap.get?_push_of_some _ (Heap.get?_push_of_some _ e)
  have hget : ((hp.push (kdv_tup [Value.int n tn])).push (excO C hp.objs.size)).get? (hp.objs.size + 1) = some (excO C hp.objs.size) := by heap_get
  have hnx : K.lookup (hp.objs.size + 1) = none := by
    cases e : K.lookup (hp.objs.size + 1) with
    | none => rfl
    | some o =>
      have z : hp.get? (hp.objs.size + 1) = some o := X _ _ e
      exact absurd (Nat.lt_of_succ_lt (Heap.lt_size z)) (Nat.lt_irrefl _)
  refine call_own F.excBase_ValueError (fun X => refsVE_contains X bm hbm) (X _ _ hC) (looks_findIn X T.iC) (fun self => bind_fn X self T.tC) (one_size _) ?_
  refine ref_init (s := ⟨(hp.push (kdv_tup [Value.int n tn])).push (excO C hp.objs.size), g, dr, tk, os⟩) T hn (X.keeps k) (hlim.keeps k) (Heap.Ns.keeps hG k) (Heap.Ns.keeps hB k) hmb hget hnx ?_ fun h' tk' dx t1 ⟨k', hx, dn, dne, hns⟩ => ?_
  · show A.depth + 1 < recursionLimit
    exact hroom
  · have old : ∀ b o, hp.get? b = some o → h'.get? b = some o := fun b o e => k' b o (Nat.ne_of_lt (Nat.lt_succ_of_lt (Heap.lt_size e))) (k b o e)
    have z : hp.objs.size + 1 + 1 ≤ dx := by
      first
        | (simpa only [Heap.size_push] using dn)
        | exact dn
        | (have q := dn; rw [Heap.size_push, Heap.size_push] at q; exact q)
    exact ⟨rfl, hq h' tk' (hp.objs.size + 1) dx ⟨old, Nat.le_succ _, ⟨_, _, hx, rfl, rfl, rfl, rfl⟩, Nat.le_trans (Nat.le_trans (Nat.le_succ _) (Nat.le_succ _)) z, dne, hns⟩⟩
end
end K9
namespace K9
open PySem L2 PySem.Spec PyProof.Rows
theorem relO_pos {v : V} {v' : Value} (r : RelV v v') (f : Str) : RelO (List.lookup f [(("position" : Str), v)]) (if f = "position" then some v' else none) := by
  by_cases hw : f = "position"
  · subst hw
    rw [if_pos rfl]
    have q : List.lookup ("position" : Str) [(("position" : Str), v)] = some v := by simp [List.lookup]
    rw [q]
    exact r
  · rw [if_neg hw]
    have qw : (f == ("position" : Str)) = false := by simpa using hw
    have q2 : List.lookup f [(("position" : Str), v)] = none := by simp [List.lookup, qw]
    rw [q2]
    trivial
section
variable {X : Cx} {C fI : Addr}
/-- RefusedText(e) -/
def tMkRef (C : Addr) (ta : TA) : L2.St → Hp → XK → Prop := fun σ H Q => ta σ H fun vs H1 => ∃ n : Nat, vs = [.int (n : Int)] ∧ n ≤ 1000000 ∧ ∀ d, H1 d = none → Q (.ref C) (some d) (upd H1 d (.xd [(("position" : Str), .int (n : Int))]))
theorem pmk_ref {a : Expr} {ta : TA} {p pos : Pos} {k : Nat} (T : RefTxt X.prog X.K X.mg C fI) (hr : Room k X.A) (ha : PA X [a] ta) (hg : Gl X "RefusedText" := by rfl)
    (he : starEach (a :: []) X.env = (false, eval a X.env) :: starEach [] X.env := by rfl) (hpl : (backTo pos (starEach [] X.env)).any (·.1) = false := by rfl) :
    PMk X (.Call (.Name "RefusedText" p) [a] [] pos) (tMkRef C ta) := by
  intro pins s σ H Q I h
  refine wpAny_Call_Name_kw (ld_glob I hg T.gC ?_)
  refine PySem.W.callWith_K (h₀ := X.base) I.ok.mod.kin T.kC (thn (ha.run pos pins s σ H _ I h) fun us s1 hh => ?_) he hpl
  obtain ⟨vs, H1, I1, r1, n, ev, hn, q1⟩ := hh
  subst ev
  refine ⟨I1.kIn, ?_⟩
  cases r1 with
  | cons rv rn =>
    rename_i v' us'
    cases rn
    obtain ⟨tn, rfl⟩ := rv
    show wpAny _ _ (call (.ref C) [Value.int n tn]) _ _ _
    have hlim := I1.nolimit
    obtain ⟨mb, hB, hmb⟩ := I1.mod.blt
    have hB' := hB.keeps I1.bk
    have hG' := I1.mod.glob.keeps I1.bk
    obtain ⟨hp, g, dr, tk, os⟩ := s1
    refine wpAny_call (ref_made T hn I1.kIn hlim hG' hB' hmb (by have := hr.dp; omega) fun h' tk' e d M => ?_)
    show MkP X pins σ Q (.ref e) ⟨h', g, dr, tk', os⟩
    obtain ⟨oe, fv, hoe, hc, hd, hdat, h1⟩ := M.obj
    have hns := M.ns
    obtain ⟨G', g1, g2⟩ := restrict h' fun b => decide (b ≠ e)
    have gk : ∀ b, b ≠ e → G'.get? b = h'.get? b := fun b hb => g1 b (decide_eq_true hb)
    have ge : G'.get? e = none := g2 e (by simp)
    have old : ∀ b o, hp.get? b = some o → G'.get? b = some o := fun b o q => (gk b (Nat.ne_of_lt (Nat.lt_of_lt_of_le (Heap.lt_size q) M.new))).trans (M.keep b o q)
    have ob : ObjOk X.prog X.w (upd H1 d (.xd [(("position" : Str), .int (n : Int))])) G' d (.xd [(("position" : Str), .int (n : Int))]) :=
      ⟨_, hns.at (fun o q => (gk d M.dne).trans q), fun f => relO_pos (v := .int (n : Int)) (v' := .int n tn) ⟨tn, rfl⟩ f⟩
    have J : Inv X pins σ (upd H1 d (.xd [(("position" : Str), .int (n : Int))])) ⟨G', g, dr, tk', os⟩ := I1.laid (t' := tk') old M.dbig ob
    refine ⟨e, oe, fv, ⟨G', g, dr, tk', os⟩, _, .ref C, some d, rfl, J, fun b o q => ?_, ge, hoe, ⟨hc, hd⟩, hdat, h1, ?_, rfl, I1.bare, raises_own T.exC T.tyC, q1 d (I1.hok.fresh M.dbig)⟩
    · by_cases hb : b = e
      · have q' : G'.get? b = some o := q
        rw [hb, ge] at q'; cases q'
      · exact (gk b hb).symm.trans q
    · rw [upd_ne (Ne.symm M.dne)]
      exact I1.hok.fresh M.new
/-- raise RefusedText(e) -/
def tRaiseRef (C : Addr) (W : WX) (ta : TA) : TS := fun _ σ H => tMkRef C ta σ H fun cls d H' => W cls d σ H'
theorem ps_raiseRef {a : Expr} {ta : TA} {W : WX} {p pos pos2 : Pos} {k : Nat} (hc : X.calm = true) (T : RefTxt X.prog X.K X.mg C fI) (hr : Room k X.A) (tk : Takes X W) (ha : PA X [a] ta) (hg : Gl X "RefusedText" := by rfl)
    (he : starEach (a :: []) X.env = (false, eval a X.env) :: starEach [] X.env := by rfl) (hpl : (backTo pos (starEach [] X.env)).any (·.1) = false := by rfl) :
    PS X (.Raise (some (.Call (.Name "RefusedText" p) [a] [] pos)) none pos2) (tRaiseRef C W ta) := ps_raise hc tk (pmk_ref T hr ha hg he hpl)
end
end K9
set_option Elab.async false
set_option linter.all false
set_option maxRecDepth 100000
namespace K9
open PySem L2
abbrev S (l : List Nat) : Str := SX.S l
theorem S_toList (l : List Nat) : (S l).cps.toList = l := by simp [SX.S]
theorem S_len (l : List Nat) : (S l).length = l.length := SX.S_len l
theorem S_at {l : List Nat} {i : Nat} (h : i < l.length) : (S l).cps[i]? = some (l.getD i 0) := by
  show l.toArray[i]? = _
  rw [List.getElem?_toArray, List.getElem?_eq_getElem h, List.getD_eq_getElem?_getD, List.getElem?_eq_getElem h]
  rfl
theorem S_inj {a b : List Nat} : S a = S b ↔ a = b := ⟨fun h => by
  have := congrArg (fun z : Str => z.cps.toList) h
  simpa [SX.S] using this, fun h => by rw [h]⟩
abbrev sEnd : Stmt := top 13
abbrev sWord : Stmt := top 14
abbrev sTokR : Stmt := top 15
abbrev sTokz : Stmt := top 16
abbrev sNext : Stmt := top 26
abbrev sSame : Stmt := top 27
abbrev sDrawn : Stmt := top 19
abbrev sJoins : Stmt := top 20
abbrev sRef : Stmt := top 21
abbrev sLaw : Stmt := top 22
/-- a text, a number of the module's top -/
def GS (mg : Str → Option Value) (x : Str) (l : List Nat) : Prop := ∃ t, mg x = some (.str (S l) t)
def GI (mg : Str → Option Value) (x : Str) (n : Int) : Prop := ∃ t, mg x = some (.int n t)
theorem pe_gs {X : Cx} {x : Str} {l : List Nat} {pos : Pos} (hm : GS X.mg x l) (hg : Gl X x := by rfl) (hd : (x == ("__debug__" : Str)) = false := by decide) : PE X (.Name x pos) (tC (.str (S l))) := by
  obtain ⟨t, h⟩ := hm
  exact pe_glob (u := _) hg h ⟨_, rfl⟩ hd
theorem pe_gi {X : Cx} {x : Str} {n : Int} {pos : Pos} (hm : GI X.mg x n) (hg : Gl X x := by rfl) (hd : (x == ("__debug__" : Str)) = false := by decide) : PE X (.Name x pos) (tC (.int n)) := by
  obtain ⟨t, h⟩ := hm
  exact pe_glob (u := _) hg h ⟨_, rfl⟩ hd
/-- a def of the module under its name -/
structure Dd (K : PySem.W.Frag) (mg : Str → Option Value) (x : Str) (st : Stmt) (ps : List Str) (f : Addr) (fd : FuncData) : Prop where
  fn : Fun K x x st f fd
  b : Binds K fd ps []
  g : mg x = some (.ref f)
  k : PySem.W.keepIn K (.ref f) = true
structure Txt (P : Program) (K : PySem.W.Frag) (mg : Str → Option Value) (C fI : Addr) : Prop where
  len : mg "len" = none
  int : mg "int" = none
  str : mg "str" = none
  min : mg "min" = none
  tuple : mg "tuple" = none
  list : mg "list" = none
  range : mg "range" = none
  bool : mg "bool" = none
  isi : mg "isinstance" = none
  ref : RefTxt P K mg C fI
  LAT : GS mg "LATER" LAT
  LET : GS mg "LETTERS" LET
  DIG : GS mg "DIGITS" DIG
  MW : GI mg "MOST_WORD" 40
  MD : GI mg "MOST_DIGITS" 13
  MN : GI mg "MOST_NUMBER" 1000000000000
def LINE : Nat := 100000
theorem if_true_of {c : Bool} {A B : Prop} (hc : c = true) (h : A) : if c = true then A else B := by
  rw [if_pos hc]
  exact h
theorem if_false_of {c : Bool} {A B : Prop} (hc : c = false) (h : B) : if c = true then A else B := by
  rw [hc, if_neg Bool.false_ne_true]
  exact h
/-! ### end_of -/
def spEnd : Sp := fun vs H Q _ => ∃ (t : List Nat) (i : Nat) (L : List Nat), vs = [.str (S t), .int (i : Int), .str (S L)] ∧ i ≤ t.length ∧ t.length ≤ LINE ∧ Q (.int ((endOf (fun c => decide (c ∈ L)) t i : Nat) : Int)) H
section
variable {P : Program} {w : World} {K : PySem.W.Frag} {mg : Str → Option Value} {base : Heap}
theorem scEnd : FnScope ["text", "start", "letters", "end"] ["text", "start", "letters"] (defScope sEnd) := ⟨rfl, rfl, rfl, by decide +kernel, rfl, by decide +kernel, by decide +kernel⟩
theorem line_size {n : Nat} (h : n ≤ LINE) : n ≤ sizeLine := Nat.le_trans h (by decide)
theorem ok_end {f : Addr} {fd : FuncData} {C fI : Addr} (F : Fun K "end_of" "end_of" sEnd f fd) (T : Txt P K mg C fI) : FnOk P w K mg base CX0 1 f fd ["text", "start", "letters"] spEnd := by
  refine F.ok scEnd (fun vs H Q E h => ?_) (fun cdv A outer s H vs Q E hr h => ?_)
  · obtain ⟨t, i, L, rfl, _⟩ := h
    rfl
  · obtain ⟨t, i, L, rfl, hi, hl, k⟩ := h
    refine ⟨_, pss_cons (ps_set (i := 3) scEnd.nd rfl (Or.inl rfl) (pv 1))
      (pss_cons (ps_while PassesOwn.never (PW.pt (pw_and (pt_cmpR op_lt (pv 3) (pe_callB call_len_str (by rfl) T.len PySem.boot_len (pa_cons (pv 0) pa_nil)) (nomark _))
          (pw_and1 (pt_cmpR op_in_sign (pe_item_str (pv 0) (pv 3) (fun _ _ => rfl)) (pv 2) rfl))))
        (pss_one (ps_aug (i := 3) scEnd.nd rfl (Or.inl rfl) pe_int ip_add)))
      (pss_one (ps_ret (pv 3)))), ?_⟩
    refine ⟨_, rfl, fun m σ H' => ∃ j : Nat, σ = [some (.str (S t)), some (.int (i : Int)), some (.str (S L)), some (.int (j : Int))] ∧ H' = H ∧ j ≤ t.length ∧ m = t.length - j ∧ endOf (fun c => decide (c ∈ L)) t j = endOf (fun c => decide (c ∈ L)) t i, ⟨_, i, rfl, rfl, hi, rfl, rfl⟩, ?_⟩
    rintro m σ H' ⟨j, rfl, rfl, hj, rfl, e⟩
    refine ⟨_, rfl, _, rfl, _, rfl, (by rw [S_len]; exact line_size hl), _, _, rfl, rfl, _, rfl, ?_⟩
    rw [S_len]
    by_cases hlt : j < t.length
    · refine if_true_of (decide_eq_true (by omega)) ?_
      refine ⟨_, rfl, _, rfl, S t, _, _, rfl, rfl, by omega, ?_, by rw [S_len]; omega, (by rw [Int.toNat_natCast]; exact S_at hlt), ?_⟩
      · have : t.length ≤ 100000 := hl
        omega
      refine ⟨_, rfl, _, S L, rfl, rfl, _, rfl, ?_⟩
      rw [S_toList]
      by_cases hc : t.getD j 0 ∈ L
      · refine if_true_of (decide_eq_true hc) ?_
        refine ⟨fun σ'' H'' => σ'' = [some (.str (S t)), some (.int (i : Int)), some (.str (S L)), some (.int ((j + 1 : Nat) : Int))] ∧ H'' = H', ?_, ?_⟩
        · rintro σ'' H'' ⟨rfl, rfl⟩
          exact ⟨t.length - (j + 1), by omega, j + 1, rfl, rfl, hlt, rfl, (endOf_step (p := fun c => decide (c ∈ L)) hlt (decide_eq_true hc)).symm.trans e⟩
        · refine ⟨_, rfl, _, _, rfl, rfl, rfl, rfl⟩
      · refine if_false_of (decide_eq_false hc) ?_
        refine ⟨_, rfl, ?_⟩
        rw [← e, endOf_stop (fun z => hc (of_decide_eq_true z.2))] at k
        exact k
    · refine if_false_of (decide_eq_false (by omega)) ?_
      refine ⟨_, rfl, ?_⟩
      rw [← e, endOf_stop (fun z => hlt z.1)] at k
      exact k
/-! ### read_word -/
theorem cut_run (p : Nat → Bool) {t : List Nat} {i : Nat} (hi : i ≤ t.length) : cutS (S t) (some (i : Int)) (some ((endOf p t i : Nat) : Int)) = S (run p t i) := by
  unfold cutS
  rw [HT.sIx_nat, HT.sIx_nat, S_toList, S_len, Nat.min_eq_left hi, Nat.min_eq_left (endOf_le hi), run_cut]
def spWord (C : Addr) : Sp := fun vs H Q E => ∃ (t : List Nat) (i : Nat), vs = [.str (S t), .int (i : Int)] ∧ i ≤ t.length ∧ t.length ≤ LINE ∧
  (40 < (run isLat t i).length → ∀ d : Addr, H d = none → E (.ref C) (some d) (upd H d (.xd [(("position" : Str), .int (i : Int))]))) ∧
  (¬ 40 < (run isLat t i).length → ∀ p : Addr, H p = none → Q (.ref p) (upd H p (.tup [.str (S (run isLat t i)), .int ((endOf isLat t i : Nat) : Int)])))
theorem scWord : FnScope ["text", "start", "end"] ["text", "start"] (defScope sWord) := ⟨rfl, rfl, rfl, by decide +kernel, rfl, by decide +kernel, by decide +kernel⟩
theorem ok_word {f C fI fE : Addr} {fd fdE : FuncData} (F : Fun K "read_word" "read_word" sWord f fd) (T : Txt P K mg C fI) (DE : Dd K mg "end_of" sEnd ["text", "start", "letters"] fE fdE) : FnOk P w K mg base (L2.CX P w) 3 f fd ["text", "start"] (spWord C) := by
  have GE : FnOk P w K mg base CX0 1 fE fdE ["text", "start", "letters"] spEnd := ok_end DE.fn T
  refine F.okX scWord (fun vs H Q E h => ?_) (fun cdv A outer s H vs Q E hr h => ?_)
  · obtain ⟨t, i, rfl, _⟩ := h
    rfl
  · obtain ⟨t, i, rfl, hi, hl, kE, kQ⟩ := h
    have hr1 : Room 1 _ := hr.mono (by decide)
    refine ⟨_, pss_cons (ps_set (i := 2) scWord.nd rfl (Or.inl rfl) (pe_call GE hr1 rfl DE.g DE.k DE.b .nil pass0 (pa_cons (pv 0) (pa_cons (pv 1) (pa_cons (pe_gs T.LAT) pa_nil)))))
      (pss_cons (ps_if (pt_cmpR op_gt (pe_op op_sub (pv 2) (pv 1)) (pe_gi T.MW) (nomark _)) (pss_one (ps_raiseRef (W := fun cls d _ H => E cls d H) rfl T.ref hr (takes_of rfl rfl rfl rfl) (pa_cons (pv 1) pa_nil))) pss_nil)
      (pss_one (ps_ret (pe_tup (pa_cons (pe_slice sl_str (pv 0) (po_some (pv 1)) (po_some (pv 2))) (pa_cons (pv 2) pa_nil)))))), ?_⟩
    refine ⟨_, rfl, _, rfl, t, i, LAT, rfl, hi, hl, ?_⟩
    refine ⟨_, rfl, _, rfl, _, _, rfl, rfl, _, _, rfl, rfl, _, rfl, ?_⟩
    have el : ((endOf isLat t i : Nat) : Int) - (i : Int) = ((run isLat t i).length : Int) := by
      unfold endOf
      omega
    by_cases c : 40 < (run isLat t i).length
    · refine if_true_of (decide_eq_true (by show (40 : Int) < ((endOf isLat t i : Nat) : Int) - (i : Int); omega)) ?_
      refine ⟨_, rfl, i, rfl, Nat.le_trans hi (Nat.le_trans hl (by decide)), fun d hd => kE c d hd⟩
    · refine if_false_of (decide_eq_false (by show ¬ (40 : Int) < ((endOf isLat t i : Nat) : Int) - (i : Int); omega)) ?_
      refine ⟨_, rfl, _, rfl, _, rfl, _, rfl, _, rfl, S t, rfl, (by rw [S_len]; exact line_size hl), _, rfl, (by show 2 ≤ sizeLine; decide), fun p hp => ?_⟩
      have e := cut_run isLat hi
      show Q (.ref p) (upd H p (.tup [.str (cutS (S t) (some (i : Int)) (some ((endOf isLat t i : Nat) : Int))), .int ((endOf isLat t i : Nat) : Int)]))
      rw [e]
      exact kQ c p hp
end
end K9
set_option Elab.async false
set_option linter.all false
set_option maxRecDepth 100000
namespace K9
open PySem L2 PyProof.Rows
/-! ### tuples of the module's top -/
def GT (K : PySem.W.Frag) (mg : Str → Option Value) (x : Str) (xs : List V) : Prop := ∃ a, mg x = some (.ref a) ∧ ∀ H, SqT K H a xs
def tGT (K : PySem.W.Frag) (xs : List V) : TE := fun _ H Q => ∀ a, (∀ H', SqT K H' a xs) → Q (.ref a) H
theorem pe_gt {X : Cx} {x : Str} {xs : List V} {pos : Pos} (hm : GT X.K X.mg x xs) (hg : Gl X x := by rfl) (hd : (x == ("__debug__" : Str)) = false := by decide) : PE X (.Name x pos) (tGT X.K xs) := by
  obtain ⟨a, h, hs⟩ := hm
  exact ⟨fun pins s σ H Q I q => (pe_glob (v := V.ref a) hg h rfl hd).run pins s σ H Q I (q a hs)⟩
abbrev vs (l : List Nat) : V := .str (S l)
theorem eqV_strs (a b : List Nat) : eqV (vs a) (vs b) = decide (a = b) := by
  show (S a == S b) = _
  rw [show (S a == S b) = decide (S a = S b) from rfl]
  exact decide_eq_decide.mpr S_inj
theorem inV_strs (w : List Nat) : ∀ ls : List (List Nat), inV (vs w) (ls.map vs) = decide (w ∈ ls)
  | [] => rfl
  | a :: ls => by
    have ih := inV_strs w ls
    unfold inV at ih ⊢
    rw [List.map_cons, List.any_cons, ih, eqV_strs]
    by_cases h : w = a
    · subst h
      simp
    · have h' : ¬ a = w := fun z => h z.symm
      simp [h, h']
theorem flat_strs (ls : List (List Nat)) : (ls.map vs).all flatV = true := by
  rw [List.all_map]
  exact List.all_eq_true.mpr fun _ _ => rfl
structure TupTxt (K : PySem.W.Frag) (mg : Str → Option Value) : Prop where
  kw : GT K mg "KEYWORDS" (KW.map vs)
  sg : GT K mg "SIGNS" (SG.map vs)
/-- tuple(text) -/
theorem call_tupStr {X : Cx} (hc : X.calm = true) : CallR X (.type "tuple") (fun xs H Q => ∃ l : List Nat, xs = [vs l] ∧ l.length ≤ 1000 ∧ ∀ p, H p = none → Q (.ref p) (upd H p (.tup ((l.map fun c => [c]).map vs)))) := by
  intro pins s σ H xs us Q I r h
  obtain ⟨l, rfl, hl, q⟩ := h
  obtain ⟨u, rfl, t, rfl⟩ := vals1 r
  have hs : (S l).cps.size = l.length := S_len l
  refine PySem.call_tuple_str (I.ok.hd hc) (S l) t (fun h' tk acc hk hi => ?_) (by rw [hs, sizeLine_eq]; omega)
  have hlen : acc.toList.length = l.length := by
    have := hi.1
    rw [hs] at this
    simpa using this
  have hv : Vals ((l.map fun c => [c]).map vs) acc.toList := by
    refine vals_of_at (by simp [hlen]) fun j x u hx hu => ?_
    obtain ⟨c, u', hc, rfl⟩ := hi.2 j u (by simpa using hu)
    have hc' : l[j]? = some c := by
      rw [← S_toList l]
      simpa using hc
    have : x = vs [c] := by
      rw [List.getElem?_map, List.getElem?_map, hc'] at hx
      exact (Option.some.inj hx).symm
    subst this
    exact ⟨u', rfl⟩
  have I1 : Inv X pins σ H { s with heap := h' } := I.kept (t' := s.toks) hk
  have I2 : Inv X pins σ (upd H h'.objs.size (.tup ((l.map fun c => [c]).map vs))) { s with heap := h'.push { cls := .type "tuple", data := .seq acc }, toks := tk } := by
    have ea : acc = acc.toList.toArray := by simp
    rw [ea]
    exact I1.laid (t' := tk) (fun b o e => Heap.get?_push_of_some _ e) (Nat.le_refl _) (show ObjOk X.prog X.w _ _ _ (.tup _) from ⟨by simp; rw [sizeLine_eq]; omega, acc.toList, hv, IsTup.new _ _⟩)
  exact ⟨.ref h'.objs.size, _, I2, rfl, q _ (I1.hok.fresh (Nat.le_refl _))⟩
/-! ### slices -/
theorem cut_take {t : List Nat} {i n : Nat} (hi : i ≤ t.length) : cutS (S t) (some (i : Int)) (some ((i : Int) + (n : Int))) = S ((t.drop i).take n) := by
  unfold cutS
  rw [show (i : Int) + (n : Int) = ((i + n : Nat) : Int) by omega, HT.sIx_nat, HT.sIx_nat, S_toList, S_len, Nat.min_eq_left hi]
  have : (t.drop i).take (min (i + n) t.length - i) = (t.drop i).take n := by
    rw [show min (i + n) t.length - i = min n (t.drop i).length by rw [List.length_drop]; omega]
    exact List.take_eq_take_iff.mpr (by rw [Nat.min_assoc, Nat.min_self])
  rw [this]
theorem take1 {t : List Nat} {i : Nat} : (t.drop i).take 1 = if i < t.length then [t.getD i 0] else [] := by
  by_cases h : i < t.length
  · rw [if_pos h, drop_cons h]
    rfl
  · rw [if_neg h, List.drop_eq_nil_of_le (by omega)]
    rfl
theorem one_in {t : List Nat} {i : Nat} : inV (vs ((t.drop i).take 1)) ((LET.map fun c => [c]).map vs) = isLet (t.getD i 0) := by
  rw [inV_strs, take1]
  by_cases h : i < t.length
  · rw [if_pos h]
    exact decide_eq_decide.mpr (by simp)
  · rw [if_neg h, List.getD_eq_getElem?_getD, List.getElem?_eq_none (by omega)]
    rfl
theorem find_at {p : List Nat → Bool} : ∀ {l : List (List Nat)} {j : Nat} {g : List Nat}, (∀ x ∈ l.take j, p x = false) → l[j]? = some g → p g = true → l.find? p = some g
  | [], j, g, _, h, _ => by simp at h
  | a :: l, 0, g, _, h, hp => by
    cases Option.some.inj h
    rw [List.find?_cons, hp]
  | a :: l, j + 1, g, hf, h, hp => by
    rw [List.find?_cons, hf a (by simp)]
    exact find_at (fun x hx => hf x (by simp [hx])) h hp
theorem find_none {p : List Nat → Bool} {l : List (List Nat)} (h : ∀ x ∈ l, p x = false) : l.find? p = none := List.find?_eq_none.mpr fun x hx => by rw [h x hx]; exact Bool.false_ne_true
theorem dig_val {w : List Nat} (h : ∀ c ∈ w, isDig c = true) (ne : w ≠ []) (l : w.length ≤ 640) : intText? (S w) = some ((dval w : Nat) : Int) :=
  SX.int_S (List.all_eq_true.mpr fun c hc => (by decide : ∀ c ∈ DIG, (decide (48 ≤ c) && decide (c ≤ 57)) = true) c (of_decide_eq_true (h c hc))) ne (by omega)
theorem run_all {p : Nat → Bool} {t : List Nat} {i : Nat} : ∀ c ∈ run p t i, p c = true := fun c hc => by
  unfold run at hc
  exact List.all_eq_true.mp (List.all_takeWhile (p := p) (l := t.drop i)) c hc
theorem eKey : Str.ofString "keyword" = S kKey := by decide +kernel
theorem eName : Str.ofString "name" = S kName := by decide +kernel
theorem eNum : Str.ofString "number" = S kNum := by decide +kernel
theorem eQuo : Str.ofString "quoted" = S kQuo := by decide +kernel
theorem eSign : Str.ofString "sign" = S kSign := by decide +kernel
theorem eTick : Str.ofString "'" = S [39] := by decide +kernel
/-! ### read_token -/
def tvV : Tv → V
  | .s l => vs l
  | .n n => .int (n : Int)
def spTokR (C : Addr) : Sp := fun us H Q E => ∃ (t : List Nat) (i : Nat), us = [vs t, .int (i : Int)] ∧ i < t.length ∧ t.length ≤ LINE ∧
  (∀ j, readTok t i = .no j → ∀ (H' : Hp) (d : Addr), Same H H' → H d = none → H' d = some (.xd [(("position" : Str), .int (j : Int))]) → E (.ref C) (some d) H') ∧
  (∀ k v e, readTok t i = .ok k v e → ∀ (H' : Hp) (p : Addr), Same H H' → H p = none → H' p = some (.tup [vs k, tvV v, .int (e : Int)]) → Q (.ref p) H')
theorem same_upd {H H1 : Hp} {p : Addr} {o : HO} (s : Same H H1) (hp : H1 p = none) : Same H (upd H1 p o) := fun b u e => by
  rw [upd_ne (ne_of_none (s b u e) hp)]
  exact s b u e
theorem ofS {s : String} {l : List Nat} (h : (Str.ofString s).cps.toList = l) : Str.ofString s = S l := by
  subst h
  simp [SX.S]
section
variable {P : Program} {w : World} {K : PySem.W.Frag} {mg : Str → Option Value} {base : Heap}
theorem tick_iff {c : Nat} : V.str ⟨#[c]⟩ = V.str (Str.ofString "'") ↔ c = 39 := by
  rw [eTick]
  constructor
  · intro h
    have e := V.str.inj h
    have e2 := congrArg (fun z : Str => z.cps.toList) e
    simpa [SX.S] using e2
  · rintro rfl
    rfl
/-- for sign in SIGNS: .. ; raise RefusedText(start) -/
def tSigns (K : PySem.W.Frag) (C : Addr) (E : XK) : TS :=
  tSeq (tFor (iTup K (tGT K (SG.map vs))) (gName 4)
      (tIfS (tTest (tOp rEq (tSl rSlS (tVar 0) (tPart (tVar 1)) (tPart (tOp (rI0 fun i j => V.int (i + j)) (tVar 1) (tCB (fun xs H Q => ∃ z, xs = [V.str z] ∧ z.length ≤ sizeLine ∧ Q (V.int (z.length : Int)) H) (tCons (tVar 4) tNil))))) (tVar 4)))
        (tRet (tTup (tCons (tC (V.str (Str.ofString "sign"))) (tCons (tVar 4) (tCons (tOp (rI0 fun i j => V.int (i + j)) (tVar 1) (tCB (fun xs H Q => ∃ z, xs = [V.str z] ∧ z.length ≤ sizeLine ∧ Q (V.int (z.length : Int)) H) (tCons (tVar 4) tNil))) tNil))))) tNext))
    (tRaiseRef C (fun cls d _ H => E cls d H) (tCons (tVar 1) tNil))
theorem signs_read {t : List Nat} {i : Nat} {H H1 : Hp} {C : Addr} {Q : VK} {E : XK} (hi : i < t.length) (hl : t.length ≤ LINE) (h63 : (i : Int) < 2 ^ 63) (il : (i : Int) < ((S t).length : Int)) (sl : (S t).length ≤ sizeLine) (hil : i ≤ 1000000)
    (r1 : ¬ isLet (t.getD i 0) = true) (r2 : ¬ isDig (t.getD i 0) = true) (q : ¬ quoAt t i = true) (hS : Same H H1)
    (kE : ∀ j, readTok t i = .no j → ∀ (H' : Hp) (d : Addr), Same H H' → H d = none → H' d = some (.xd [(("position" : Str), .int (j : Int))]) → E (.ref C) (some d) H')
    (kQ : ∀ k v e, readTok t i = .ok k v e → ∀ (H' : Hp) (p : Addr), Same H H' → H p = none → H' p = some (.tup [vs k, tvV v, .int (e : Int)]) → Q (.ref p) H') :
    tSigns K C E { nx := fun _ H' => Q .non H', rt := Q } [some (vs t), some (.int (i : Int)), none, none, none] H1 := by
  have rd : readTok t i = match SG.find? (sgAt t i) with
    | some g => .ok kSign (.s g) (i + g.length)
    | none => .no i := by
    unfold readTok
    rw [if_neg r1, if_neg r2, if_neg q]
    all_goals (cases SG.find? (sgAt t i) <;> rfl)
  refine fun a hs => ⟨a, rfl, ⟨_, hs _⟩, for_tup (K := K) (a := a) (xs := SG.map vs) (fun j σ H' => (∃ v, σ = [some (vs t), some (.int (i : Int)), none, none, v]) ∧ Same H H' ∧ ∀ g ∈ SG.take j, sgAt t i g = false)
    ⟨⟨none, rfl⟩, hS, by simp⟩ (fun _ _ H' _ _ => hs H') ?_ ?_⟩
  · rintro j x σ H' hx ⟨⟨v, rfl⟩, s1, nf⟩
    obtain ⟨g, hg, rfl⟩ : ∃ g, SG[j]? = some g ∧ x = vs g := by
      rw [List.getElem?_map] at hx
      cases e : SG[j]? with
      | none => rw [e] at hx; cases hx
      | some g =>
        rw [e] at hx
        exact ⟨g, rfl, (Option.some.inj hx).symm⟩
    have gl : g.length ≤ 2 := (by decide : ∀ g ∈ SG, g.length ≤ 2) g (List.mem_of_getElem? hg)
    have gz : (S g).length ≤ sizeLine := by rw [S_len]; exact Nat.le_trans gl (by decide)
    have ce : cutS (S t) (some (i : Int)) (some ((i : Int) + ((S g).length : Int))) = S ((t.drop i).take g.length) := by
      rw [S_len]
      exact cut_take (Nat.le_of_lt hi)
    refine ⟨_, rfl, _, rfl, _, rfl, _, rfl, _, rfl, S g, rfl, gz, _, _, rfl, rfl, _, rfl, S t, rfl, sl, _, rfl, rfl, _, rfl, ?_⟩
    rw [ce]
    by_cases c : (t.drop i).take g.length = g
    · refine if_true_of (decide_eq_true (by rw [c])) ?_
      have fd : SG.find? (sgAt t i) = some g := find_at nf hg (decide_eq_true c)
      rw [fd] at rd
      refine ⟨_, rfl, _, rfl, _, rfl, S g, rfl, gz, _, _, rfl, rfl, (by show 3 ≤ sizeLine; decide), fun p hp => ?_⟩
      have z := kQ _ _ _ rd (upd H' p (.tup [vs kSign, vs g, .int ((i + g.length : Nat) : Int)])) p (same_upd s1 hp) (s1.free hp) upd_same
      have e1 : V.str (Str.ofString "sign") = vs kSign := congrArg V.str eSign
      have e2 : V.int ((i : Int) + ((S g).length : Int)) = V.int ((i + g.length : Nat) : Int) := by rw [S_len, show (i : Int) + (g.length : Int) = ((i + g.length : Nat) : Int) by omega]
      show Q (.ref p) (upd H' p (.tup [V.str (Str.ofString "sign"), vs g, V.int ((i : Int) + ((S g).length : Int))]))
      rw [e1, e2]
      exact z
    · refine if_false_of (decide_eq_false fun z => c (S_inj.mp (V.str.inj z))) ?_
      refine ⟨⟨_, rfl⟩, s1, fun x hx => ?_⟩
      rw [List.take_add_one, hg] at hx
      rcases List.mem_append.mp hx with hx | hx
      · exact nf x hx
      · have : x = g := by simpa using hx
        rw [this]
        exact decide_eq_false c
  · rintro σ H' ⟨⟨v, rfl⟩, s1, nf⟩
    have fd : SG.find? (sgAt t i) = none := find_none fun x hx => nf x (by simpa using hx)
    rw [fd] at rd
    exact ⟨_, rfl, i, rfl, hil, fun d hd => kE i rd _ d (same_upd s1 hd) (s1.free hd) upd_same⟩
theorem scTokR : FnScope ["text", "start", "word", "end", "sign"] ["text", "start"] (defScope sTokR) := ⟨rfl, rfl, rfl, by decide +kernel, rfl, by decide +kernel, by decide +kernel⟩
theorem ok_tokR {f C fI fE fW : Addr} {fd fdE fdW : FuncData} (F : Fun K "read_token" "read_token" sTokR f fd) (T : Txt P K mg C fI) (TT : TupTxt K mg) (DE : Dd K mg "end_of" sEnd ["text", "start", "letters"] fE fdE)
    (DW : Dd K mg "read_word" sWord ["text", "start"] fW fdW) : FnOk P w K mg base (L2.CX P w) 5 f fd ["text", "start"] (spTokR C) := by
  have GE : FnOk P w K mg base CX0 1 fE fdE ["text", "start", "letters"] spEnd := ok_end DE.fn T
  have GW : FnOk P w K mg base (L2.CX P w) 3 fW fdW ["text", "start"] (spWord C) := ok_word DW.fn T DE
  refine F.okX scTokR (fun us H Q E h => ?_) (fun cdv A outer s H us Q E hr h => ?_)
  · obtain ⟨t, i, rfl, _⟩ := h
    rfl
  · obtain ⟨t, i, rfl, hi, hl, kE, kQ⟩ := h
    have hr1 : Room 1 _ := hr.mono (by decide)
    have hr3 : Room 3 _ := hr.mono (by decide)
    refine ⟨_, pss_cons (ps_if (pt_cmpR op_in_sign (pe_item_str (pv 0) (pv 1) (fun _ _ => rfl)) (pe_gs T.LET) rfl)
        (pss_cons (ps_asg (pe_call GW hr3 rfl DW.g DW.k DW.b .nil (passes_call (W := fun cls d _ H => E cls d H) (takes_of rfl rfl rfl rfl) (fun _ _ _ _ h => h)) (pa_cons (pv 0) (pa_cons (pv 1) pa_nil)))
            (pg_tup (by rfl) (pgs_cons (pg_name (i := 2) scTokR.nd rfl (.inl rfl)) (pgs_cons (pg_name (i := 3) scTokR.nd rfl (.inl rfl)) pgs_nil))))
          (pss_one (ps_ret (pe_tup (pa_cons (pe_ifExp (pt_cmpR op_in_seq (pv 2) (pe_gt TT.kw) rfl) pe_str pe_str) (pa_cons (pv 2) (pa_cons (pv 3) pa_nil))))))) pss_nil)
      (pss_cons (ps_if (pt_cmpR op_in_sign (pe_item_str (pv 0) (pv 1) (fun _ _ => rfl)) (pe_gs T.DIG) rfl)
        (pss_cons (ps_set (i := 3) scTokR.nd rfl (Or.inl rfl) (pe_call GE hr1 rfl DE.g DE.k DE.b .nil pass0 (pa_cons (pv 0) (pa_cons (pv 1) (pa_cons (pe_gs T.DIG) pa_nil)))))
          (pss_cons (ps_if (PW.pt (pw_or (pt_cmpR op_gt (pe_op op_sub (pv 3) (pv 1)) (pe_gi T.MD) (nomark _))
              (pw_or1 (pt_cmpR op_gt (pe_callTy call_int_str (by rfl) T.int boot_int (pa_cons (pe_slice sl_str (pv 0) (po_some (pv 1)) (po_some (pv 3))) pa_nil)) (pe_gi T.MN) (nomark _)))))
            (pss_one (ps_raiseRef (W := fun cls d _ H => E cls d H) rfl T.ref hr (takes_of rfl rfl rfl rfl) (pa_cons (pv 1) pa_nil))) pss_nil)
          (pss_one (ps_ret (pe_tup (pa_cons pe_str (pa_cons (pe_callTy call_int_str (by rfl) T.int boot_int (pa_cons (pe_slice sl_str (pv 0) (po_some (pv 1)) (po_some (pv 3))) pa_nil)) (pa_cons (pv 3) pa_nil)))))))) pss_nil)
      (pss_cons (ps_if (PW.pt (pw_and (pt_cmpR op_eq (pe_item_str (pv 0) (pv 1) (fun _ _ => rfl)) pe_str (nomark _))
            (pw_and1 (pt_cmpR op_in_seq (pe_slice sl_str (pv 0) (po_some (pe_op op_add (pv 1) pe_int)) (po_some (pe_op op_add (pv 1) pe_int))) (pe_callTy (call_tupStr rfl) (by rfl) T.tuple boot_tuple (pa_cons (pe_gs T.LET) pa_nil)) rfl))))
        (pss_cons (ps_asg (pe_call GW hr3 rfl DW.g DW.k DW.b .nil (passes_call (W := fun cls d _ H => E cls d H) (takes_of rfl rfl rfl rfl) (fun _ _ _ _ h => h)) (pa_cons (pv 0) (pa_cons (pe_op op_add (pv 1) pe_int) pa_nil)))
            (pg_tup (by rfl) (pgs_cons (pg_name (i := 2) scTokR.nd rfl (.inl rfl)) (pgs_cons (pg_name (i := 3) scTokR.nd rfl (.inl rfl)) pgs_nil))))
          (pss_one (ps_ret (pe_tup (pa_cons pe_str (pa_cons (pv 2) (pa_cons (pv 3) pa_nil))))))) pss_nil)
      (pss_cons (ps_for (passes_of rfl) rfl (pi_tup (pe_gt TT.sg)) (pg_name (i := 4) scTokR.nd rfl (.inl rfl))
        (pss_one (ps_if (pt_cmpR op_eq (pe_slice sl_str (pv 0) (po_some (pv 1)) (po_some (pe_op op_add (pv 1) (pe_callB call_len_str (by rfl) T.len PySem.boot_len (pa_cons (pv 4) pa_nil))))) (pv 4) (nomark _))
          (pss_one (ps_ret (pe_tup (pa_cons pe_str (pa_cons (pv 4) (pa_cons (pe_op op_add (pv 1) (pe_callB call_len_str (by rfl) T.len PySem.boot_len (pa_cons (pv 4) pa_nil))) pa_nil)))))) pss_nil)))
      (pss_one (ps_raiseRef (W := fun cls d _ H => E cls d H) rfl T.ref hr (takes_of rfl rfl rfl rfl) (pa_cons (pv 1) pa_nil)))))), ?_⟩
    have h63 : (i : Int) < 2 ^ 63 := by
      have : t.length ≤ 100000 := hl
      omega
    have at0 : (S t).cps[((i : Int)).toNat]? = some (t.getD i 0) := by rw [Int.toNat_natCast]; exact S_at hi
    have il : (i : Int) < ((S t).length : Int) := by rw [S_len]; omega
    have hil : i ≤ 1000000 := Nat.le_trans (Nat.le_of_lt hi) (Nat.le_trans hl (by decide))
    have sl : (S t).length ≤ sizeLine := by rw [S_len]; exact line_size hl
    refine ⟨_, rfl, _, rfl, S t, _, _, rfl, rfl, by omega, h63, il, at0, _, _, rfl, rfl, _, rfl, ?_⟩
    rw [S_toList]
    by_cases c1 : t.getD i 0 ∈ LET
    · refine if_true_of (decide_eq_true c1) ?_
      have r1 : isLet (t.getD i 0) = true := decide_eq_true c1
      refine ⟨_, rfl, _, rfl, t, i, rfl, Nat.le_of_lt hi, hl, fun c d hd => ?_, fun c p hp => ?_⟩
      · exact kE i (by unfold readTok; rw [if_pos r1, if_pos c]) _ d (same_upd (Same.refl H) hd) hd upd_same
      · refine ⟨p, _, rfl, SqT.of upd_same, rfl, _, _, rfl, _, _, rfl, rfl, ?_⟩
        have fin : ∀ k, readTok t i = .ok k (.s (run isLat t i)) (endOf isLat t i) → ∀ q, upd H p (.tup [.str (S (run isLat t i)), .int ((endOf isLat t i : Nat) : Int)]) q = none → Q (.ref q) (upd (upd H p (.tup [.str (S (run isLat t i)), .int ((endOf isLat t i : Nat) : Int)])) q (.tup [vs k, vs (run isLat t i), .int ((endOf isLat t i : Nat) : Int)])) := fun k hk q hq => by
          refine kQ k _ _ hk _ q (same_upd (same_upd (Same.refl H) hp) hq) ?_ upd_same
          rw [upd_ne (fun z => by rw [z, upd_same] at hq; cases hq)] at hq
          exact hq
        have rk : readTok t i = .ok (if run isLat t i ∈ KW then kKey else kName) (.s (run isLat t i)) (endOf isLat t i) := by unfold readTok; rw [if_pos r1, if_neg c]
        refine ⟨_, rfl, fun a hs => ⟨a, _, rfl, .inr (hs _), rfl, flat_strs KW, _, rfl, ?_⟩⟩
        rw [if_neg Bool.false_ne_true, inV_strs]
        by_cases kw : run isLat t i ∈ KW
        · refine if_true_of (decide_eq_true kw) ?_
          refine ⟨_, rfl, _, rfl, (by show 3 ≤ sizeLine; decide), fun q hq => ?_⟩
          rw [if_pos kw] at rk
          have z := fin kKey rk q hq
          rw [vs, ← eKey] at z
          exact z
        · refine if_false_of (decide_eq_false kw) ?_
          refine ⟨_, rfl, _, rfl, (by show 3 ≤ sizeLine; decide), fun q hq => ?_⟩
          rw [if_neg kw] at rk
          have z := fin kName rk q hq
          rw [vs, ← eName] at z
          exact z
    · refine if_false_of (decide_eq_false c1) ?_
      have r1 : ¬ isLet (t.getD i 0) = true := fun z => c1 (of_decide_eq_true z)
      refine ⟨_, rfl, _, rfl, S t, _, _, rfl, rfl, by omega, h63, il, at0, _, _, rfl, rfl, _, rfl, ?_⟩
      rw [S_toList]
      by_cases c2 : t.getD i 0 ∈ DIG
      · refine if_true_of (decide_eq_true c2) ?_
        have r2 : isDig (t.getD i 0) = true := decide_eq_true c2
        have ne : run isDig t i ≠ [] := fun z => by
          have := endOf_lt (p := isDig) hi r2
          unfold endOf at this
          rw [z] at this
          simp at this
        have le : (run isDig t i).length = endOf isDig t i - i := by unfold endOf; omega
        have ge : i ≤ endOf isDig t i := by unfold endOf; omega
        have cr : cutS (S t) (some (i : Int)) (some ((endOf isDig t i : Nat) : Int)) = S (run isDig t i) := cut_run isDig (Nat.le_of_lt hi)
        refine ⟨_, rfl, _, rfl, t, i, DIG, rfl, Nat.le_of_lt hi, hl, ?_⟩
        refine ⟨_, rfl, _, rfl, _, _, rfl, rfl, _, _, rfl, rfl, _, rfl, ?_⟩
        by_cases c3 : 13 < (run isDig t i).length
        · refine if_true_of (decide_eq_true (by show (13 : Int) < ((endOf isDig t i : Nat) : Int) - (i : Int); omega)) ?_
          refine if_true_of rfl ?_
          refine ⟨_, rfl, i, rfl, hil, fun d hd => ?_⟩
          exact kE i (by unfold readTok; rw [if_neg r1, if_pos r2, if_pos (.inl c3)]) _ d (same_upd (Same.refl H) hd) hd upd_same
        · refine if_false_of (decide_eq_false (by show ¬ (13 : Int) < ((endOf isDig t i : Nat) : Int) - (i : Int); omega)) ?_
          have iv : intText? (cutS (S t) (some (i : Int)) (some ((endOf isDig t i : Nat) : Int))) = some ((dval (run isDig t i) : Nat) : Int) := by rw [cr]; exact dig_val run_all ne (by omega)
          have ll : (cutS (S t) (some (i : Int)) (some ((endOf isDig t i : Nat) : Int))).length ≤ 640 := by rw [cr, S_len]; omega
          refine ⟨_, rfl, _, rfl, _, rfl, _, rfl, _, rfl, S t, rfl, sl, _, _, rfl, iv, ll, _, _, rfl, rfl, _, rfl, ?_⟩
          by_cases c4 : 1000000000000 < dval (run isDig t i)
          · refine if_true_of (decide_eq_true (by omega)) ?_
            refine ⟨_, rfl, i, rfl, hil, fun d hd => ?_⟩
            exact kE i (by unfold readTok; rw [if_neg r1, if_pos r2, if_pos (.inr c4)]) _ d (same_upd (Same.refl H) hd) hd upd_same
          · refine if_false_of (decide_eq_false (by omega)) ?_
            refine ⟨_, rfl, _, rfl, _, rfl, _, rfl, _, rfl, S t, rfl, sl, _, _, rfl, iv, ll, _, rfl, (by show 3 ≤ sizeLine; decide), fun q hq => ?_⟩
            have rk : readTok t i = .ok kNum (.n (dval (run isDig t i))) (endOf isDig t i) := by
              unfold readTok
              rw [if_neg r1, if_pos r2, if_neg (by omega)]
            have z := kQ _ _ _ rk _ q (same_upd (Same.refl H) hq) hq upd_same
            rw [vs, ← eNum] at z
            exact z
      · refine if_false_of (decide_eq_false c2) ?_
        have r2 : ¬ isDig (t.getD i 0) = true := fun z => c2 (of_decide_eq_true z)
        have cr : cutS (S t) (some ((i : Int) + 1)) (some ((i : Int) + 2)) = S ((t.drop (i + 1)).take 1) := by
          have z := cut_take (t := t) (i := i + 1) (n := 1) hi
          rw [← z, show ((i + 1 : Nat) : Int) = (i : Int) + 1 by omega, show (i : Int) + 1 + ((1 : Nat) : Int) = (i : Int) + 2 by omega]
        refine ⟨_, rfl, _, rfl, S t, _, _, rfl, rfl, by omega, h63, il, at0, rfl, _, rfl, ?_⟩
        by_cases c3 : t.getD i 0 = 39
        · refine if_true_of (decide_eq_true (tick_iff.mpr c3)) ?_
          refine ⟨_, rfl, _, rfl, _, _, rfl, rfl, _, rfl, _, rfl, _, _, rfl, rfl, _, rfl, S t, rfl, sl, LET, rfl, by decide, fun p0 hp0 => ?_⟩
          refine ⟨p0, _, rfl, .inr (SqT.of upd_same), rfl, flat_strs _, _, rfl, ?_⟩
          rw [if_neg Bool.false_ne_true, cr, one_in]
          have hS := same_upd (o := .tup ((LET.map fun c => [c]).map vs)) (Same.refl H) hp0
          by_cases c4 : isLet (t.getD (i + 1) 0) = true
          · refine if_true_of c4 ?_
            have q : quoAt t i = true := by
              unfold quoAt
              rw [c3, c4]
              rfl
            refine ⟨_, rfl, _, rfl, _, _, rfl, rfl, t, i + 1, (by show [vs t, V.int ((i : Int) + 1)] = _; rw [show (i : Int) + 1 = ((i + 1 : Nat) : Int) by omega]), hi, hl, fun c d hd => ?_, fun c p hp => ?_⟩
            · refine kE (i + 1) (by unfold readTok; rw [if_neg r1, if_neg r2, if_pos q, if_pos c]) _ d (same_upd hS hd) (hS.free hd) upd_same
            · refine ⟨p, _, rfl, SqT.of upd_same, rfl, _, _, rfl, _, _, rfl, rfl, ?_⟩
              refine ⟨_, rfl, _, rfl, (by show 3 ≤ sizeLine; decide), fun q' hq => ?_⟩
              have rk : readTok t i = .ok kQuo (.s (run isLat t (i + 1))) (endOf isLat t (i + 1)) := by
                unfold readTok
                rw [if_neg r1, if_neg r2, if_pos q, if_neg c]
              have z := kQ _ _ _ rk _ q' (same_upd (same_upd hS hp) hq) ((same_upd hS hp).free hq) upd_same
              rw [vs, ← eQuo] at z
              exact z
          · have c4' : isLet (t.getD (i + 1) 0) = false := by
              cases z : isLet (t.getD (i + 1) 0) with
              | true => exact absurd z c4
              | false => rfl
            refine if_false_of c4' ?_
            have q : ¬ quoAt t i = true := by
              unfold quoAt
              rw [c4', Bool.and_false]
              exact Bool.false_ne_true
            exact signs_read hi hl h63 il sl hil r1 r2 q hS kE kQ
        · refine if_false_of (decide_eq_false fun z => c3 (tick_iff.mp z)) ?_
          have q : ¬ quoAt t i = true := by
            unfold quoAt
            rw [beq_false_of_ne c3, Bool.false_and]
            exact Bool.false_ne_true
          exact signs_read hi hl h63 il sl hil r1 r2 q (Same.refl H) kE kQ
end
end K9
set_option Elab.async false
set_option linter.all false
set_option maxRecDepth 100000
namespace K9
open PySem L2 PyProof.Rows
/-! ### tokenize -/
def tokV (d : Tok) : List V := [vs d.1, tvV d.2.1, .int (d.2.2 : Int)]
def TokAt (H : Hp) (x : V) (d : Tok) : Prop := ∃ a, x = .ref a ∧ H a = some (.tup (tokV d))
def ToksAt (H : Hp) (p : Addr) (D : List Tok) : Prop := ∃ rs, H p = some (.lst rs) ∧ Paired (TokAt H) rs D
theorem Paired.snoc {α β : Type} {F : α → β → Prop} {a : α} {b : β} (h : F a b) : ∀ {l₁ : List α} {l₂ : List β}, Paired F l₁ l₂ → Paired F (l₁ ++ [a]) (l₂ ++ [b])
  | _, _, .nil => .cons h .nil
  | _, _, .cons r t => .cons r (Paired.snoc h t)
theorem Paired.imp {α β : Type} {F G : α → β → Prop} (f : ∀ a b, F a b → G a b) : ∀ {l₁ : List α} {l₂ : List β}, Paired F l₁ l₂ → Paired G l₁ l₂
  | _, _, .nil => .nil
  | _, _, .cons r t => .cons (f _ _ r) (Paired.imp f t)
theorem TokAt.keep {H H' : Hp} (h : ∀ a xs, H a = some (.tup xs) → H' a = some (.tup xs)) (x : V) (d : Tok) : TokAt H x d → TokAt H' x d := fun ⟨a, e, q⟩ => ⟨a, e, h _ _ q⟩
def spTokz (C : Addr) : Sp := fun us H Q E => ∃ t : List Nat, us = [vs t] ∧ t.length ≤ LINE ∧
  (∀ j, go t 0 [] = .inl j → ∀ (H' : Hp) (d : Addr), Same H H' → H d = none → H' d = some (.xd [(("position" : Str), .int (j : Int))]) → E (.ref C) (some d) H') ∧
  (∀ D, go t 0 [] = .inr D → ∀ (H' : Hp) (p : Addr), Same H H' → H p = none → ToksAt H' p D → Q (.ref p) H')
theorem bl_in (c : Nat) : inV (V.str ⟨#[c]⟩) [V.str (Str.ofString " "), V.str (Str.ofString "\n")] = isBl c := by
  have e1 : Str.ofString " " = S [32] := by decide +kernel
  have e2 : Str.ofString "\n" = S [10] := by decide +kernel
  rw [e1, e2]
  show inV (vs [c]) ([[32], [10]].map vs) = _
  rw [inV_strs]
  exact decide_eq_decide.mpr (by simp)
section
variable {P : Program} {w : World} {K : PySem.W.Frag} {mg : Str → Option Value} {base : Heap}
theorem scTokz : FnScope ["text", "tokens", "start", "kind", "value", "end"] ["text"] (defScope sTokz) := ⟨rfl, rfl, rfl, by decide +kernel, rfl, by decide +kernel, by decide +kernel⟩
theorem ok_tokz {f C fI fE fW fR : Addr} {fd fdE fdW fdR : FuncData} (F : Fun K "tokenize" "tokenize" sTokz f fd) (T : Txt P K mg C fI) (TT : TupTxt K mg) (DE : Dd K mg "end_of" sEnd ["text", "start", "letters"] fE fdE)
    (DW : Dd K mg "read_word" sWord ["text", "start"] fW fdW) (DR : Dd K mg "read_token" sTokR ["text", "start"] fR fdR) : FnOk P w K mg base (L2.CX P w) 6 f fd ["text"] (spTokz C) := by
  have GR : FnOk P w K mg base (L2.CX P w) 5 fR fdR ["text", "start"] (spTokR C) := ok_tokR DR.fn T TT DE DW
  refine F.okX scTokz (fun us H Q E h => ?_) (fun cdv A outer s H us Q E hr h => ?_)
  · obtain ⟨t, rfl, _⟩ := h
    rfl
  · obtain ⟨t, rfl, hl, kE, kQ⟩ := h
    have hr5 : Room 5 _ := hr.mono (by decide)
    refine ⟨_, pss_cons (ps_set (i := 1) scTokz.nd rfl (Or.inl rfl) (pe_lst pa_nil)) (pss_cons (ps_set (i := 2) scTokz.nd rfl (Or.inl rfl) pe_int)
      (pss_cons (ps_while (passes_of rfl) (pt_cmpR op_lt (pv 2) (pe_callB call_len_str (by rfl) T.len PySem.boot_len (pa_cons (pv 0) pa_nil)) (nomark _))
        (pss_one (ps_if (pt_cmpR op_in_seq (pe_item_str (pv 0) (pv 2) (fun _ _ => rfl)) (pe_tup (pa_cons pe_str (pa_cons pe_str pa_nil))) rfl)
          (pss_one (ps_aug (i := 2) scTokz.nd rfl (Or.inl rfl) pe_int ip_add))
          (pss_cons (ps_asg (pe_call GR hr5 rfl DR.g DR.k DR.b .nil (passes_call (W := fun cls d _ H => E cls d H) (takes_of rfl rfl rfl rfl) (fun _ _ _ _ h => h)) (pa_cons (pv 0) (pa_cons (pv 2) pa_nil)))
              (pg_tup (by rfl) (pgs_cons (pg_name (i := 3) scTokz.nd rfl (.inl rfl)) (pgs_cons (pg_name (i := 4) scTokz.nd rfl (.inl rfl)) (pgs_cons (pg_name (i := 5) scTokz.nd rfl (.inl rfl)) pgs_nil)))))
            (pss_cons (ps_expr (pe_bm PySem.F.plainAttrs_list PySem.F.slot_list_append PySem.F.type_list_append mt_append (pv 1) (pa_cons (pe_tup (pa_cons (pv 3) (pa_cons (pv 4) (pa_cons (pv 2) pa_nil)))) pa_nil)))
            (pss_one (ps_set (i := 2) scTokz.nd rfl (Or.inl rfl) (pv 5))))))))
      (pss_one (ps_ret (pv 1))))), ?_⟩
    refine ⟨Nat.zero_le _, fun l hl0 => ?_⟩
    refine ⟨fun m σ H' => ∃ (j : Nat) (acc : List Tok) (rs : List V) (v3 v4 v5 : Option V), σ = [some (vs t), some (.ref l), some (.int (j : Int)), v3, v4, v5] ∧ Same H H' ∧ H' l = some (.lst rs) ∧ Paired (TokAt H') rs acc ∧
        m = t.length - j ∧ go t j acc = go t 0 [] ∧ acc.length ≤ j, ⟨_, 0, [], [], none, none, none, rfl, same_upd (Same.refl H) hl0, upd_same, .nil, rfl, rfl, Nat.le_refl _⟩, ?_⟩
    rintro m σ H' ⟨j, acc, rs, v3, v4, v5, rfl, s1, hL, hP, rfl, e, hacc⟩
    have sl : (S t).length ≤ sizeLine := by rw [S_len]; exact line_size hl
    refine ⟨_, rfl, _, rfl, S t, rfl, sl, _, _, rfl, rfl, _, rfl, ?_⟩
    rw [S_len]
    have l63 : t.length ≤ 100000 := hl
    by_cases hlt : j < t.length
    · refine if_true_of (decide_eq_true (by omega)) ?_
      refine ⟨fun σ2 H2 => ∃ (j2 : Nat) (acc : List Tok) (rs : List V) (v3 v4 v5 : Option V), j < j2 ∧ σ2 = [some (vs t), some (.ref l), some (.int (j2 : Int)), v3, v4, v5] ∧ Same H H2 ∧ H2 l = some (.lst rs) ∧ Paired (TokAt H2) rs acc ∧
        go t j2 acc = go t 0 [] ∧ acc.length ≤ j2, ?_, ?_⟩
      · rintro σ2 H2 ⟨j2, acc, rs, v3, v4, v5, hj, rfl, a1, a2, a3, a4, a5⟩
        exact ⟨t.length - j2, by omega, j2, acc, rs, v3, v4, v5, rfl, a1, a2, a3, rfl, a4, a5⟩
      refine ⟨_, rfl, _, rfl, S t, _, _, rfl, rfl, by omega, by omega, by rw [S_len]; omega, (by rw [Int.toNat_natCast]; exact S_at hlt), ?_⟩
      refine ⟨(by show 2 ≤ sizeLine; decide), fun p0 hp0 => ?_⟩
      have s2 := same_upd (o := .tup [V.str (Str.ofString " "), V.str (Str.ofString "\n")]) s1 hp0
      have nl : l ≠ p0 := ne_of_none hL hp0
      have keep0 : ∀ a xs, H' a = some (.tup xs) → upd H' p0 (.tup [V.str (Str.ofString " "), V.str (Str.ofString "\n")]) a = some (.tup xs) := fun a xs q => by
        rw [upd_ne (ne_of_none q hp0)]
        exact q
      refine ⟨p0, _, rfl, .inr (SqT.of upd_same), rfl, rfl, _, rfl, ?_⟩
      rw [if_neg Bool.false_ne_true, bl_in]
      by_cases b : isBl (t.getD j 0) = true
      · refine if_true_of b ?_
        refine ⟨_, rfl, _, _, rfl, rfl, ?_⟩
        refine ⟨j + 1, acc, rs, v3, v4, v5, Nat.lt_succ_self j, rfl, s2, ?_, Paired.imp (TokAt.keep keep0) hP, ?_, Nat.le_succ_of_le hacc⟩
        · rw [upd_ne nl]
          exact hL
        · rw [← go_bl hlt b]
          exact e
      · have b' : isBl (t.getD j 0) = false := by
          cases z : isBl (t.getD j 0) with
          | true => exact absurd z b
          | false => rfl
        refine if_false_of b' ?_
        refine ⟨_, rfl, _, rfl, t, j, rfl, hlt, hl, fun i r H2 d q1 q2 q3 => ?_, fun k v e2 r H2 p q1 q2 q3 => ?_⟩
        · exact kE i (e ▸ go_no hlt b' r) H2 d (s2.trans q1) (s2.free q2) q3
        · have q4 := q1 _ _ (show upd H' p0 (.tup [V.str (Str.ofString " "), V.str (Str.ofString "\n")]) l = some (.lst rs) by rw [upd_ne nl]; exact hL)
          refine ⟨p, _, rfl, SqT.of q3, rfl, _, _, rfl, _, _, rfl, _, _, rfl, rfl, ?_⟩
          refine ⟨_, rfl, .inl ⟨rfl, _, SqL.of q4⟩, _, rfl, _, rfl, _, rfl, (by show 3 ≤ sizeLine; decide), fun q hq => ?_⟩
          have nlq : l ≠ q := ne_of_none q4 hq
          have hLq : upd H2 q (.tup [vs k, tvV v, V.int (j : Int)]) l = some (.lst rs) := by
            rw [upd_ne nlq]
            exact q4
          have hz : rs.length < sizeLine := by
            have := Paired.length hP
            have : (100000 : Nat) < sizeLine := by decide
            omega
          refine ⟨l, _, _, rfl, rfl, hLq, hz, ?_⟩
          refine ⟨_, rfl, ?_⟩
          have lt := readTok_lt hlt r
          have keep2 : ∀ a xs, H' a = some (.tup xs) → upd (upd H2 q (.tup [vs k, tvV v, V.int (j : Int)])) l (.lst (rs ++ [.ref q])) a = some (.tup xs) := fun a xs z => by
            have z2 := q1 _ _ (keep0 a xs z)
            rw [upd_ne (ne_of z hL (by intro y; cases y)), upd_ne (ne_of_none z2 hq)]
            exact z2
          refine ⟨e2, acc ++ [(k, v, j)], rs ++ [.ref q], _, _, _, lt, rfl, ?_, upd_same, Paired.snoc ⟨q, rfl, ?_⟩ (Paired.imp (TokAt.keep keep2) hP), ?_, ?_⟩
          · intro b u hb
            have nb : b ≠ l := ne_of_none hb hl0
            have z := (s2.trans q1) b u hb
            rw [upd_ne nb, upd_ne (ne_of_none z hq)]
            exact z
          · rw [← go_ok hlt b' r lt]
            exact e
          · rw [List.length_append, List.length_singleton]
            omega
          · rw [upd_ne nlq.symm, upd_same]
            rfl
    · refine if_false_of (decide_eq_false (by omega)) ?_
      refine ⟨_, rfl, ?_⟩
      exact kQ acc (e ▸ go_end hlt) H' l s1 hl0 ⟨rs, hL, hP⟩
end
end K9
set_option Elab.async false
set_option linter.all false
set_option maxRecDepth 100000
namespace K9
open PySem L2 PyProof.Rows
/-! ### the law's draws -/
theorem get_list {X : Cx} : PGet X (fun o i H Q => ∃ (p : Addr) (xs : List V) (j : Nat) (v : V), o = .ref p ∧ i = .int (j : Int) ∧ SqL X.K H p xs ∧ xs[j]? = some v ∧ j < 1000 ∧ Q v H) := by
  intro pins s σ H o i ov iv Q I ro ri h
  obtain ⟨p, xs, j, v, rfl, rfl, hq, hx, hj, q⟩ := h
  cases ro
  obtain ⟨t, rfl⟩ := ri
  obtain ⟨its, r, pl, hz⟩ := I.list hq
  obtain ⟨u, eu, ru⟩ := r.get hx
  exact wpAny_getItem_list pl.isList (by omega) (by omega) (by rw [Int.toNat_natCast]; simpa using eu) ⟨v, H, I, ru, q⟩
/-- the law's state at a: the script's copy at sc, how many cells are taken, the cell at hand, the seed -/
def St4 (sc : Addr) (i : Nat) (c s : Int) : List V := [.ref sc, .int (i : Int), .int c, .int s]
def StAt (H : Hp) (a sc : Addr) (ns : List Int) : Prop := ∃ (i : Nat) (c s : Int), H a = some (.lst (St4 sc i c s)) ∧ H sc = some (.lst (ns.map V.int)) ∧ ns.length ≤ 63 ∧ i ≤ ns.length ∧ 0 ≤ c
theorem StAt.ne {H : Hp} {a sc : Addr} {ns : List Int} (h : StAt H a sc ns) : sc ≠ a := by
  obtain ⟨i, c, s, h1, h2, _⟩ := h
  rintro rfl
  rw [h1] at h2
  have e := HO.lst.inj (Option.some.inj h2)
  cases ns with
  | nil => cases e
  | cons n ns =>
    rw [List.map_cons] at e
    have := (List.cons.inj e).1
    cases this
/-- all but what stands at a is as it was -/
def But (a : Addr) (H H' : Hp) : Prop := ∀ b, b ≠ a → H' b = H b
theorem But.refl (a : Addr) (H : Hp) : But a H H := fun _ _ => rfl
theorem But.upd {a : Addr} {H H1 : Hp} (h : But a H H1) (o : HO) : But a H (upd H1 a o) := fun b hb => by rw [upd_ne hb, h b hb]
def spNext : Sp := fun us H Q _ => ∃ (a sc : Addr) (ns : List Int) (lim : Nat), us = [.ref a, .int (lim : Int)] ∧ StAt H a sc ns ∧ 0 < lim ∧ lim ≤ 1000000 ∧
  ∀ (v : Nat) (H' : Hp), v < lim → StAt H' a sc ns → But a H H' → Q (.int (v : Int)) H'
section
variable {P : Program} {w : World} {K : PySem.W.Frag} {mg : Str → Option Value} {base : Heap}
theorem scNext : FnScope ["state", "limit", "cell", "value"] ["state", "limit"] (defScope sNext) := ⟨rfl, rfl, rfl, by decide +kernel, rfl, by decide +kernel, by decide +kernel⟩
theorem ok_next {f C fI : Addr} {fd : FuncData} (F : Fun K "_law_next" "_law_next" sNext f fd) (T : Txt P K mg C fI) : FnOk P w K mg base CX0 1 f fd ["state", "limit"] spNext := by
  refine F.ok scNext (fun us H Q E h => ?_) (fun cdv A outer s H us Q E hr h => ?_)
  · obtain ⟨a, sc, ns, lim, rfl, _⟩ := h
    rfl
  · obtain ⟨a, sc, ns, lim, rfl, hS, l0, l1, k⟩ := h
    refine ⟨_, C8.pss_cut (ps_if (PW.pt (pw_and (pt_cmpR op_eq (pe_ix ix_list (pv 0) pe_int (fun _ _ => rfl)) pe_int (nomark _))
          (pw_and1 (pt_cmpR op_lt (pe_ix ix_list (pv 0) pe_int (fun _ _ => rfl)) (pe_callB call_len_seq (by rfl) T.len PySem.boot_len (pa_cons (pe_ix ix_list (pv 0) pe_int (fun _ _ => rfl)) pa_nil)) (nomark _)))))
        (pss_cons (ps_set (i := 2) scNext.nd rfl (Or.inl rfl) (pe_ix ix_list (pe_ix ix_list (pv 0) pe_int (fun _ _ => rfl)) (pe_ix ix_list (pv 0) pe_int (fun _ _ => rfl)) (fun _ _ => rfl)))
          (pss_cons (ps_augS (pv 0) pe_int get_list pe_int ip_add set_list)
          (pss_one (ps_if (pt_cmpR op_ge (pv 2) (pe_op op_pow pe_int pe_int) (nomark _))
            (pss_one (ps_asg (pv 2) (pg_sub (pv 0) pe_int set_list)))
            (pss_one (ps_asg (pe_op op_mod (pe_callTy call_int1 (by rfl) T.int boot_int (pa_cons (pe_op op_add (pe_op op_add (pe_op op_mul (pe_ix ix_list (pv 0) pe_int (fun _ _ => rfl)) pe_int) (pe_op op_mod (pe_callTy call_int1 (by rfl) T.int boot_int (pa_cons (pv 2) pa_nil)) pe_int)) pe_int) pa_nil)) pe_int) (pg_sub (pv 0) pe_int set_list))))))) pss_nil)
      (pss_cons (ps_if (pt_cmpR op_gt (pe_ix ix_list (pv 0) pe_int (fun _ _ => rfl)) pe_int (nomark _))
        (pss_cons (ps_set (i := 3) scNext.nd rfl (Or.inl rfl) (pe_op op_mod (pe_callTy call_int1 (by rfl) T.int boot_int (pa_cons (pe_ix ix_list (pv 0) pe_int (fun _ _ => rfl)) pa_nil)) (pv 1)))
          (pss_cons (ps_asg (pe_op op_fdivN (pe_ix ix_list (pv 0) pe_int (fun _ _ => rfl)) (pv 1)) (pg_sub (pv 0) pe_int set_list))
          (pss_one (ps_ret (pv 3))))) pss_nil)
      (pss_cons (ps_asg (pe_op op_mod (pe_callTy call_int1 (by rfl) T.int boot_int (pa_cons (pe_op op_add (pe_op op_mul (pe_ix ix_list (pv 0) pe_int (fun _ _ => rfl)) pe_int) pe_int) pa_nil)) pe_int) (pg_sub (pv 0) pe_int set_list))
      (pss_one (ps_ret (pe_op op_mod (pe_callTy call_int1 (by rfl) T.int boot_int (pa_cons (pe_op op_fdivN (pe_ix ix_list (pv 0) pe_int (fun _ _ => rfl)) pe_int) pa_nil)) (pv 1)))))), ?_⟩
    obtain ⟨i, c, s, hA, hC, hn, hi, hc⟩ := hS
    have nsa : sc ≠ a := StAt.ne ⟨i, c, s, hA, hC, hn, hi, hc⟩
    have aq : ∀ {H' : Hp} {i : Nat} {c s : Int}, H' a = some (.lst (St4 sc i c s)) → SqL K H' a (St4 sc i c s) := fun h => SqL.of h
    refine ⟨fun σ' H' => ∃ (v : Option V) (i : Nat) (c s : Int), σ' = [some (.ref a), some (.int (lim : Int)), v, none] ∧ H' a = some (.lst (St4 sc i c s)) ∧ H' sc = some (.lst (ns.map V.int)) ∧ i ≤ ns.length ∧ 0 ≤ c ∧ But a H H', ?_, ?_⟩
    · refine ⟨_, rfl, a, St4 sc i c s, 2, .int c, rfl, rfl, aq hA, rfl, rfl, _, rfl, ?_⟩
      by_cases c0 : V.int c = V.int 0
      · refine if_true_of (decide_eq_true c0) ?_
        refine ⟨_, rfl, a, St4 sc i c s, 1, .int (i : Int), rfl, rfl, aq hA, rfl, ?_⟩
        refine ⟨_, rfl, a, St4 sc i c s, 0, .ref sc, rfl, rfl, aq hA, rfl, sc, _, rfl, .inl (SqL.of hC), _, _, rfl, rfl, _, rfl, ?_⟩
        rw [List.length_map]
        by_cases c1 : i < ns.length
        · refine if_true_of (decide_eq_true (by omega)) ?_
          have hx : (ns.map V.int)[i]? = some (.int (ns[i])) := by rw [List.getElem?_map, List.getElem?_eq_getElem c1]; rfl
          refine ⟨_, rfl, a, St4 sc i c s, 0, .ref sc, rfl, rfl, aq hA, rfl, _, rfl, a, St4 sc i c s, 1, .int (i : Int), rfl, rfl, aq hA, rfl, sc, _, (i : Int), _, rfl, rfl, SqL.of hC, atI_nat hx, ?_⟩
          refine ⟨_, rfl, a, St4 sc i c s, 1, .int (i : Int), rfl, rfl, aq hA, rfl, by decide, _, _, rfl, rfl, a, St4 sc i c s, 1, 1, rfl, rfl, hA, rfl, ?_⟩
          have h1 : upd H a (.lst ((St4 sc i c s).set 1 (.int ((i : Int) + 1)))) a = some (.lst (St4 sc (i + 1) c s)) := upd_same
          have c1' : upd H a (.lst ((St4 sc i c s).set 1 (.int ((i : Int) + 1)))) sc = some (.lst (ns.map V.int)) := by rw [upd_ne nsa]; exact hC
          refine ⟨_, rfl, _, _, rfl, rfl, ⟨by decide, by decide, by decide⟩, _, _, rfl, rfl, _, rfl, ?_⟩
          by_cases big : (10 : Int) ^ ((18 : Int).toNat) ≤ ns[i]
          · refine if_true_of (decide_eq_true big) ?_
            refine ⟨_, rfl, _, rfl, a, St4 sc (i + 1) c s, 2, 2, rfl, rfl, h1, rfl, ?_⟩
            have b0 : (0 : Int) ≤ ns[i] := by
              have : (0 : Int) ≤ (10 : Int) ^ ((18 : Int).toNat) := by decide
              omega
            exact ⟨some (.int ns[i]), i + 1, ns[i], s, rfl, upd_same, (by rw [upd_ne nsa]; exact c1'), c1, b0, ((But.refl a H).upd _).upd _⟩
          · refine if_false_of (decide_eq_false big) ?_
            refine ⟨_, rfl, a, St4 sc (i + 1) c s, 3, .int s, rfl, rfl, aq h1, rfl, _, _, rfl, rfl, .inr (by decide), ?_⟩
            refine ⟨_, rfl, .inl ⟨_, rfl, _, _, rfl, rfl, (show (0 : Int) < 2147483647 by decide), _, _, rfl, rfl, _, _, rfl, rfl, .inl ⟨_, rfl, _, _, rfl, rfl, (show (0 : Int) < 2147483647 by decide), ?_⟩⟩⟩
            refine ⟨_, rfl, a, St4 sc (i + 1) c s, 3, 3, rfl, rfl, h1, rfl, ?_⟩
            exact ⟨some (.int ns[i]), i + 1, c, _, rfl, upd_same, (by rw [upd_ne nsa]; exact c1'), c1, hc, ((But.refl a H).upd _).upd _⟩
        · refine if_false_of (decide_eq_false (by omega)) ?_
          exact ⟨none, i, c, s, rfl, hA, hC, hi, hc, But.refl a H⟩
      · refine if_false_of (decide_eq_false c0) ?_
        exact ⟨none, i, c, s, rfl, hA, hC, hi, hc, But.refl a H⟩
    · rintro σ' H' ⟨v, i, c, s, rfl, hA, hC, hi, hc, hB⟩
      have lpos : (0 : Int) < (lim : Int) := by omega
      have fin : ∀ (x : Int) (H2 : Hp), StAt H2 a sc ns → But a H H2 → Q (.int (x % (lim : Int))) H2 := fun x H2 q1 q2 => by
        have e0 := Int.emod_nonneg x (by omega : (lim : Int) ≠ 0)
        have e1 := Int.emod_lt_of_pos x lpos
        have z := k (x % (lim : Int)).toNat H2 (by omega) q1 q2
        rw [Int.toNat_of_nonneg e0] at z
        exact z
      refine ⟨_, rfl, a, St4 sc i c s, 2, .int c, rfl, rfl, aq hA, rfl, _, _, rfl, rfl, _, rfl, ?_⟩
      by_cases c0 : (0 : Int) < c
      · refine if_true_of (decide_eq_true c0) ?_
        refine ⟨_, rfl, a, St4 sc i c s, 2, .int c, rfl, rfl, aq hA, rfl, .inl ⟨_, rfl, _, rfl, _, _, rfl, rfl, lpos, ?_⟩⟩
        refine ⟨_, rfl, a, St4 sc i c s, 2, .int c, rfl, rfl, aq hA, rfl, _, rfl, _, _, rfl, rfl, ⟨by omega, by omega⟩, _, rfl, a, St4 sc i c s, 2, 2, rfl, rfl, hA, rfl, ?_⟩
        refine ⟨_, rfl, fin _ _ ⟨i, _, s, upd_same, (by rw [upd_ne nsa]; exact hC), hn, hi, ?_⟩ (hB.upd _)⟩
        rw [Int.fdiv_eq_ediv_of_nonneg _ (by omega)]
        exact Int.ediv_nonneg hc (by omega)
      · refine if_false_of (decide_eq_false c0) ?_
        refine ⟨_, rfl, a, St4 sc i c s, 3, .int s, rfl, rfl, aq hA, rfl, _, _, rfl, rfl, .inr (by decide), _, _, rfl, rfl, .inl ⟨_, rfl, _, _, rfl, rfl, (show (0 : Int) < 2147483647 by decide), ?_⟩⟩
        refine ⟨_, rfl, a, St4 sc i c s, 3, 3, rfl, rfl, hA, rfl, ?_⟩
        refine ⟨_, rfl, a, St4 sc i c _, 3, _, rfl, rfl, SqL.of upd_same, rfl, _, _, rfl, rfl, ⟨by decide, by decide⟩, .inl ⟨_, rfl, _, rfl, _, _, rfl, rfl, lpos, ?_⟩⟩
        exact fin _ _ ⟨i, c, _, upd_same, (by rw [upd_ne nsa]; exact hC), hn, hi, hc⟩ (hB.upd _)
end
end K9
set_option Elab.async false
namespace K9
open PySem
/-! ### the parser, in plain Lean: tokens, a place, what comes out -/
def wBase : List Nat := [98,97,115,101]
def wDerived : List Nat := [100,101,114,105,118,101,100]
def wRule : List Nat := [114,117,108,101]
def wNever : List Nat := [110,101,118,101,114]
def wIf : List Nat := [105,102]
def wNot : List Nat := [110,111,116]
def wLet : List Nat := [108,101,116]
def wMod : List Nat := [109,111,100]
def wNumber : List Nat := [110,117,109,98,101,114]
def wWord : List Nat := [119,111,114,100]
def wCount : List Nat := [99,111,117,110,116]
def wSum : List Nat := [115,117,109]
def wLeast : List Nat := [108,101,97,115,116]
def wMost : List Nat := [109,111,115,116]
def wVariable : List Nat := [118,97,114,105,97,98,108,101]
def wValue : List Nat := [118,97,108,117,101]
def wFact : List Nat := [102,97,99,116]
def wTest : List Nat := [116,101,115,116]
def wOp : List Nat := [111,112]
def wProgram : List Nat := [112,114,111,103,114,97,109]
def gOpen : List Nat := [40]
def gClose : List Nat := [41]
def gComma : List Nat := [44]
def gEq : List Nat := [61]
def gLt : List Nat := [60]
def gLe : List Nat := [60,61]
def gPlus : List Nat := [43]
def gMinus : List Nat := [45]
def gTimes : List Nat := [42]
def gDiv : List Nat := [47]
structure Ps where
  ts : List Tok
  len : Nat
def Ps.kind (p : Ps) (i : Nat) : List Nat := match p.ts[i]? with
  | some t => t.1
  | none => []
def Ps.val (p : Ps) (i : Nat) : Tv := match p.ts[i]? with
  | some t => t.2.1
  | none => .s []
def Ps.at (p : Ps) (i : Nat) : Nat := match p.ts[i]? with
  | some t => t.2.2
  | none => p.len
inductive Rs (α : Type) where
  | no (j : Nat) | ok (a : α) (i : Nat)
def Rs.bind {α β : Type} (r : Rs α) (f : α → Nat → Rs β) : Rs β := match r with
  | .no j => .no j
  | .ok a i => f a i
def dS (l : List Nat) : PyData := .str ⟨l.toArray⟩
def dT (xs : List PyData) : PyData := .tuple xs
def tvD : Tv → PyData
  | .s l => dS l
  | .n n => .int (n : Int)
def Ps.sees (p : Ps) (i : Nat) (k : List Nat) (ws : List (List Nat)) : Bool := decide (p.kind i = k) && ws.any fun w => decide (p.val i = .s w)
def Ps.move (p : Ps) (i : Nat) : Rs Tv := if i = 4000 then .no (p.at i) else .ok (p.val i) (i + 1)
def Ps.want (p : Ps) (k : List Nat) (i : Nat) : Rs Tv := if p.kind i = k then p.move i else .no (p.at i)
def Ps.accepts (p : Ps) (k w : List Nat) (i : Nat) : Rs Bool := if p.sees i k [w] = true then (p.move i).bind fun _ i => .ok true i else .ok false i
def Ps.sign (p : Ps) (w : List Nat) (i : Nat) : Rs Unit := (p.accepts kSign w i).bind fun b j => if b = true then .ok () j else .no (p.at j)
def Ps.next (p : Ps) (count most i : Nat) : Rs Bool := if p.sees i kSign [gComma] = true ∧ count = most then .no (p.at i) else p.accepts kSign gComma i
/-- the further ones of a row: n of them may come -/
def Ps.more (p : Ps) (most : Nat) (el : Nat → Rs PyData) : Nat → List PyData → Nat → Rs (List PyData)
  | 0, acc, i => (p.next acc.length most i).bind fun b i => if b = true then .no 0 else .ok acc i
  | n + 1, acc, i => (p.next acc.length most i).bind fun b i => if b = true then (el i).bind fun d i => p.more most el n (acc ++ [d]) i else .ok acc i
/-- ( a, b, .. ) -/
def Ps.row (p : Ps) (el : Nat → Rs PyData) (i : Nat) : Rs (List PyData) :=
  (p.sign gOpen i).bind fun _ i =>
    (if p.sees i kSign [gClose] = true then .ok [] i else (el i).bind fun d i => p.more 6 el 5 [d] i).bind fun xs i =>
      (p.sign gClose i).bind fun _ i => .ok xs i
def Ps.oneSort (p : Ps) (i : Nat) : Rs PyData := if p.sees i kKey [wNumber, wWord] = true then (p.move i).bind fun v i => .ok (tvD v) i else .no (p.at i)
def Ps.relation (p : Ps) (i : Nat) : Rs PyData :=
  (p.move i).bind fun w i => (p.want kName i).bind fun n i => (p.row p.oneSort i).bind fun xs i => .ok (dT [tvD w, tvD n, dT xs]) i
def tvNeg : Tv → PyData
  | .n n => .int (-(n : Int))
  | .s _ => .none
def Ps.value (p : Ps) (i : Nat) : Rs PyData :=
  (p.accepts kSign gMinus i).bind fun b i =>
    if b = true then (p.want kNum i).bind fun v i => .ok (dT [dS wValue, tvNeg v]) i
    else if p.kind i = kNum ∨ p.kind i = kQuo then (p.move i).bind fun v i => .ok (dT [dS wValue, tvD v]) i else .no (p.at i)
def Ps.termB (p : Ps) (i : Nat) : Rs PyData :=
  if p.kind i = kName then (p.move i).bind fun v i => .ok (dT [dS wVariable, tvD v]) i else p.value i
def Ps.term (p : Ps) (head : Bool) (i : Nat) : Rs PyData :=
  if head = true then
    (p.accepts kKey wCount i).bind fun b i => if b = true then .ok (dT [dS wCount]) i
      else if p.sees i kKey [wSum, wLeast, wMost] = true then (p.move i).bind fun w i => (p.want kName i).bind fun v i => .ok (dT [tvD w, tvD v]) i
      else p.termB i
  else p.termB i
def Ps.terms (p : Ps) (head : Bool) (i : Nat) : Rs PyData := (p.row (p.term head) i).bind fun xs i => .ok (dT xs) i
/-- a piece of an expression; what stands in parentheses: none where so many are open -/
def Ps.pieceOf (p : Ps) (sums : Option (Nat → Rs PyData)) (i : Nat) : Rs PyData :=
  if p.kind i = kName then (p.move i).bind fun v i => .ok (dT [dS wVariable, tvD v]) i
  else if p.sees i kSign [gOpen] = true then match sums with
    | none => .no (p.at i)
    | some f => (p.sign gOpen i).bind fun _ i => (f i).bind fun t i => (p.sign gClose i).bind fun _ i => .ok t i
  else p.value i
/-- n more signs may come in the row -/
def Ps.opRow (p : Ps) (sees : Nat → Bool) (el : Nat → Rs PyData) : Nat → PyData → Nat → Rs PyData
  | 0, t, i => if sees i = true then .no (p.at i) else .ok t i
  | n + 1, t, i => if sees i = true then (p.move i).bind fun s i => (el i).bind fun u i => p.opRow sees el n (dT [dS wOp, tvD s, t, u]) i else .ok t i
def Ps.seesMul (p : Ps) (i : Nat) : Bool := p.sees i kSign [gTimes, gDiv] || p.sees i kKey [wMod]
def Ps.seesAdd (p : Ps) (i : Nat) : Bool := p.sees i kSign [gPlus, gMinus]
def Ps.productOf (p : Ps) (sums : Option (Nat → Rs PyData)) (i : Nat) : Rs PyData := (p.pieceOf sums i).bind fun t i => p.opRow p.seesMul (p.pieceOf sums) 12 t i
def Ps.sumsOf (p : Ps) (sums : Option (Nat → Rs PyData)) (i : Nat) : Rs PyData := (p.productOf sums i).bind fun t i => p.opRow p.seesAdd (p.productOf sums) 12 t i
/-- so many more parentheses may open -/
def Ps.sums (p : Ps) : Nat → Nat → Rs PyData
  | 0 => p.sumsOf none
  | d + 1 => p.sumsOf (some (p.sums d))
def Ps.test (p : Ps) (i : Nat) : Rs PyData :=
  (p.sums 20 i).bind fun a i => if p.sees i kSign [gLt, gLe, gEq] = true then (p.move i).bind fun s i => (p.sums 20 i).bind fun b i => .ok (dT [dS wTest, tvD s, a, b]) i else .no (p.at i)
def Ps.part (p : Ps) (i : Nat) : Rs PyData :=
  (p.accepts kKey wNot i).bind fun b i =>
    if b = true then (p.want kName i).bind fun n i => (p.terms false i).bind fun t i => .ok (dT [dS wNot, tvD n, t]) i
    else (p.accepts kKey wLet i).bind fun b i =>
      if b = true then (p.want kName i).bind fun n i => (p.sign gEq i).bind fun _ i => (p.sums 20 i).bind fun t i => .ok (dT [dS wLet, tvD n, t]) i
      else if p.kind i = kName ∧ (p.ts[i + 1]?).map (·.2.1) = some (.s gOpen) then (p.move i).bind fun n i => (p.terms false i).bind fun t i => .ok (dT [dS wFact, tvD n, t]) i
      else p.test i
def Ps.body (p : Ps) (i : Nat) : Rs PyData := (p.part i).bind fun d i => (p.more 12 p.part 11 [d] i).bind fun xs i => .ok (dT xs) i
def Ps.ruleTail (p : Ps) (n : Tv) (t : PyData) (i : Nat) : Rs PyData :=
  (p.accepts kKey wIf i).bind fun b i => (if b = true then p.body i else .ok (dT []) i).bind fun u i => .ok (dT [dS wRule, dT [tvD n, t], u]) i
def Ps.rule (p : Ps) (i : Nat) : Rs PyData :=
  (p.accepts kKey wRule i).bind fun b i => if b = true then (p.want kName i).bind fun n i => (p.terms true i).bind fun t i => p.ruleTail n t i else .no (p.at i)
def Ps.neverTail (p : Ps) (i : Nat) : Rs PyData :=
  (p.want kName i).bind fun n i => (p.accepts kKey wIf i).bind fun b i => if b = true then (p.body i).bind fun t i => .ok (dT [dS wNever, tvD n, t]) i else .no (p.at i)
def Ps.program (p : Ps) : Nat → List PyData → List PyData → List PyData → Nat → Rs PyData
  | 0, _, _, _, _ => .no 0
  | n + 1, rel, rul, nev, i =>
    if i < p.ts.length then
      if p.sees i kKey [wBase, wDerived] = true then (p.relation i).bind fun d i => p.program n (rel ++ [d]) rul nev i
      else (p.accepts kKey wNever i).bind fun b i =>
        if b = true then (p.neverTail i).bind fun d i => p.program n rel rul (nev ++ [d]) i
        else (p.rule i).bind fun d i => p.program n rel (rul ++ [d]) nev i
    else .ok (dT [dS wProgram, dT rel, dT rul, dT nev]) i
inductive Out where
  | no (j : Nat) | tree (d : PyData)
/-- all of a text -/
def parseL (t : List Nat) : Out := match go t 0 [] with
  | .inl j => .no j
  | .inr ts => match (Ps.mk ts t.length).program (ts.length + 1) [] [] [] 0 with
    | .no j => .no j
    | .ok d _ => .tree d
def ruleL (t : List Nat) : Out := match go t 0 [] with
  | .inl j => .no j
  | .inr ts => match (Ps.mk ts t.length).rule 0 with
    | .no j => .no j
    | .ok d i => if i < ts.length then .no ((Ps.mk ts t.length).at i) else .tree d
end K9
set_option Elab.async false
set_option linter.all false
set_option maxRecDepth 100000
namespace K9
open PySem L2 PyProof.Rows
/-! ### what stands: all but one object's fields -/
def SameBut (a : Addr) (H H' : Hp) : Prop := ∀ b u, b ≠ a → H b = some u → H' b = some u
theorem SameBut.refl (a : Addr) (H : Hp) : SameBut a H H := fun _ _ _ e => e
theorem SameBut.trans {a : Addr} {H H1 H2 : Hp} (h : SameBut a H H1) (g : SameBut a H1 H2) : SameBut a H H2 := fun b u n e => g b u n (h b u n e)
theorem Same.but {a : Addr} {H H' : Hp} (h : Same H H') : SameBut a H H' := fun b u _ e => h b u e
theorem SameBut.put {a : Addr} {H H' : Hp} {o : HO} (h : SameBut a H H') : SameBut a H (upd H' a o) := fun b u n e => by
  rw [upd_ne n]
  exact h b u n e
theorem SameBut.new {a p : Addr} {H H' : Hp} {o : HO} (h : SameBut a H H') (hp : H' p = none) : SameBut a H (upd H' p o) := fun b u n e => by
  have z := h b u n e
  rw [upd_ne (ne_of_none z hp)]
  exact z
theorem new_keep {H : Hp} {p q : Addr} {o o' : HO} (h : H p = some o) (hq : H q = none) : upd H q o' p = some o := by
  rw [upd_ne (ne_of_none h hq)]
  exact h
/-! ### trees: tuples of texts and whole numbers, at any depth -/
mutual
inductive Tp (H : Hp) : V → PyData → Prop
  | int (i : Int) : Tp H (.int i) (.int i)
  | str (x : Str) : Tp H (.str x) (.str x)
  | tup {a : Addr} {xs : List V} {ds : List PyData} : H a = some (.tup xs) → TpAll H xs ds → Tp H (.ref a) (.tuple ds)
inductive TpAll (H : Hp) : List V → List PyData → Prop
  | nil : TpAll H [] []
  | cons {v : V} {vs : List V} {d : PyData} {ds : List PyData} : Tp H v d → TpAll H vs ds → TpAll H (v :: vs) (d :: ds)
end
mutual
theorem Tp.keep {H H' : Hp} (h : ∀ a xs, H a = some (.tup xs) → H' a = some (.tup xs)) : ∀ {v : V} {d : PyData}, Tp H v d → Tp H' v d
  | _, _, .int i => .int i
  | _, _, .str x => .str x
  | _, _, .tup e r => .tup (h _ _ e) (TpAll.keep h r)
theorem TpAll.keep {H H' : Hp} (h : ∀ a xs, H a = some (.tup xs) → H' a = some (.tup xs)) : ∀ {vs : List V} {ds : List PyData}, TpAll H vs ds → TpAll H' vs ds
  | _, _, .nil => .nil
  | _, _, .cons r t => .cons (Tp.keep h r) (TpAll.keep h t)
end
theorem TpAll.snoc {H : Hp} {v : V} {d : PyData} (h : Tp H v d) : ∀ {vs : List V} {ds : List PyData}, TpAll H vs ds → TpAll H (vs ++ [v]) (ds ++ [d])
  | _, _, .nil => .cons h .nil
  | _, _, .cons r t => .cons r (TpAll.snoc h t)
theorem TpAll.length {H : Hp} : ∀ {vs : List V} {ds : List PyData}, TpAll H vs ds → vs.length = ds.length
  | _, _, .nil => rfl
  | _, _, .cons _ t => by rw [List.length_cons, List.length_cons, TpAll.length t]
theorem tp_tv {H : Hp} (v : Tv) : Tp H (tvV v) (tvD v) := by
  cases v with
  | s l => exact .str _
  | n i => exact .int _
theorem tp_str {H : Hp} (l : List Nat) : Tp H (vs l) (dS l) := .str _
/-! ### the parser's object -/
def pf (tk : Addr) (len i o : Nat) : List (Str × V) := [("tokens", .ref tk), ("length", .int (len : Int)), ("at", .int (i : Int)), ("opened", .int (o : Int))]
theorem pf_tokens (tk : Addr) (len i o : Nat) : (pf tk len i o).lookup ("tokens" : Str) = some (.ref tk) := rfl
theorem pf_length (tk : Addr) (len i o : Nat) : (pf tk len i o).lookup ("length" : Str) = some (.int (len : Int)) := rfl
theorem pf_at (tk : Addr) (len i o : Nat) : (pf tk len i o).lookup ("at" : Str) = some (.int (i : Int)) := rfl
theorem pf_opened (tk : Addr) (len i o : Nat) : (pf tk len i o).lookup ("opened" : Str) = some (.int (o : Int)) := rfl
theorem pf_put_at (tk : Addr) (len i j o : Nat) : putF "at" (.int (j : Int)) (pf tk len i o) = pf tk len j o := rfl
theorem pf_put_opened (tk : Addr) (len i o q : Nat) : putF "opened" (.int (q : Int)) (pf tk len i o) = pf tk len i q := rfl
structure PsOk (p : Ps) : Prop where
  len : p.len ≤ LINE
  few : p.ts.length ≤ LINE
  plc : ∀ t ∈ p.ts, t.2.2 ≤ LINE
  num : ∀ t ∈ p.ts, t.1 = kNum → ∃ n, t.2.1 = .n n
  txt : ∀ t ∈ p.ts, (tvD t.2.1).canLay0 = true
/-- with where its tokens lie -/
structure Pt extends Ps where
  tk : Addr
/-- the parser's object at x: its tokens p.ts, it stands at i, d more parentheses may open -/
structure PAt (C : Addr) (p : Pt) (H : Hp) (x : Addr) (i d : Nat) : Prop where
  ok : PsOk p.toPs
  le : i ≤ p.ts.length
  op : d ≤ 20
  at_ : ∃ dx tk rs, H x = some (.ins C dx (pf tk p.len i (20 - d))) ∧ H tk = some (.lst rs) ∧ Paired (TokAt H) rs p.ts
  tkq : ∀ dx tk, H x = some (.ins C dx (pf tk p.len i (20 - d))) → tk = p.tk
theorem PAt.same {C x : Addr} {p : Pt} {H H' : Hp} {i d : Nat} (h : PAt C p H x i d) (s : Same H H') : PAt C p H' x i d := by
  obtain ⟨dx, tk, rs, h1, h2, h3⟩ := h.at_
  refine ⟨h.ok, h.le, h.op, ⟨dx, tk, rs, s _ _ h1, s _ _ h2, Paired.imp (TokAt.keep fun a xs e => s _ _ e) h3⟩, fun dx' tk' e => ?_⟩
  rw [s _ _ h1] at e
  have z := h.tkq _ _ h1
  cases e
  exact z
theorem PAt.new {C x q : Addr} {p : Pt} {H : Hp} {i d : Nat} {o : HO} (h : PAt C p H x i d) (hq : H q = none) : PAt C p (upd H q o) x i d := h.same (same_upd (Same.refl H) hq)
theorem PAt.ne {C x : Addr} {p : Pt} {H : Hp} {i d : Nat} (h : PAt C p H x i d) : ∀ a xs, H a = some (.tup xs) → a ≠ x := fun a xs e => by
  obtain ⟨dx, tk, rs, h1, _⟩ := h.at_
  exact ne_of e h1 (by intro z; cases z)
theorem SameBut.tup {C x : Addr} {p : Pt} {H H' : Hp} {i d : Nat} (s : SameBut x H H') (h : PAt C p H x i d) (a : Addr) (xs : List V) (e : H a = some (.tup xs)) : H' a = some (.tup xs) := s a _ (h.ne a xs e) e
/-- moving on, or opening -/
theorem PAt.put {C x : Addr} {p : Pt} {H : Hp} {i d j e : Nat} (h : PAt C p H x i d) (hj : j ≤ p.ts.length) (he : e ≤ 20) : ∃ dx tk rs, H x = some (.ins C dx (pf tk p.len i (20 - d))) ∧ H tk = some (.lst rs) ∧ Paired (TokAt H) rs p.ts ∧
    PAt C p (upd H x (.ins C dx (pf tk p.len j (20 - e)))) x j e := by
  obtain ⟨dx, tk, rs, h1, h2, h3⟩ := h.at_
  have nt : tk ≠ x := ne_of h2 h1 (by intro z; cases z)
  refine ⟨dx, tk, rs, h1, h2, h3, h.ok, hj, he, ⟨dx, tk, rs, upd_same, by rw [upd_ne nt]; exact h2, Paired.imp (TokAt.keep fun a xs z => by rw [upd_ne (h.ne a xs z)]; exact z) h3⟩, fun dx' tk' e => ?_⟩
  rw [upd_same] at e
  have z := h.tkq _ _ h1
  cases e
  exact z
/-- how a method ends: CR: the class of RefusedText -/
def Dn {α : Type} (C CR : Addr) (p : Pt) (x : Addr) (d : Nat) (H : Hp) (Q : VK) (E : XK) (rep : Hp → V → α → Prop) : Rs α → Prop
  | .no j => ∀ H' e, SameBut x H H' → H e = none → H' e = some (.xd [(("position" : Str), .int (j : Int))]) → E (.ref CR) (some e) H'
  | .ok a i => ∀ H' v, SameBut x H H' → PAt C p H' x i d → rep H' v a → Q v H'
def rTv : Hp → V → Tv → Prop := fun _ v t => v = tvV t
def rBl : Hp → V → Bool → Prop := fun _ v b => v = .bl b
def rU0 : Hp → V → Unit → Prop := fun _ v _ => v = .non
def rTp : Hp → V → PyData → Prop := fun H v d => Tp H v d
/-- the promise of a method without arguments -/
def spM {α : Type} (C CR : Addr) (rep : Hp → V → α → Prop) (f : Ps → Nat → Rs α) : Sp := fun us H Q E => ∃ (x : Addr) (p : Pt) (i d : Nat), us = [.ref x] ∧ PAt C p H x i d ∧ Dn C CR p x d H Q E rep (f p.toPs i)
end K9
set_option Elab.async false
set_option linter.all false
set_option maxRecDepth 100000
namespace K9
open PySem L2 PyProof.Rows
abbrev sM (j : Nat) : Stmt := inClass (top 22) j
structure PTxt (P : Program) (K : PySem.W.Frag) (mg : Str → Option Value) (C CR fI : Addr) : Prop where
  cl : Cls K C
  nT : NoAttr K C "tokens"
  nL : NoAttr K C "length"
  nA : NoAttr K C "at"
  nO : NoAttr K C "opened"
  ref : RefTxt P K mg CR fI
  len : mg "len" = none
  tuple : mg "tuple" = none
  MT : GI mg "MOST_TOKENS" 4000
  MO : GI mg "MOST_OPEN" 20
  MI : GI mg "MOST_IN_ROW" 12
  MP : GI mg "MOST_PARTS" 12
  MC : GI mg "MOST_COLUMNS" 6
/-- a method of Parser -/
structure Dm (K : PySem.W.Frag) (C : Addr) (m q : Str) (st : Stmt) (ps : List Str) (f : Addr) (fd : FuncData) : Prop where
  fn : Fun K m q st f fd
  b : Binds K fd ps []
  mt : Meth K C m f
theorem paired_at {H : Hp} {rs : List V} {ts : List Tok} (h : Paired (TokAt H) rs ts) {i : Nat} {t : Tok} (e : ts[i]? = some t) : ∃ a, rs[i]? = some (.ref a) ∧ H a = some (.tup (tokV t)) := by
  induction h generalizing i with
  | nil => simp at e
  | cons r _ ih =>
    cases i with
    | zero =>
      cases e
      obtain ⟨a, rfl, q⟩ := r
      exact ⟨a, rfl, q⟩
    | succ i => exact ih e
theorem kind_some {p : Ps} {i : Nat} {t : Tok} (e : p.ts[i]? = some t) : p.kind i = t.1 := by unfold Ps.kind; rw [e]
theorem val_some {p : Ps} {i : Nat} {t : Tok} (e : p.ts[i]? = some t) : p.val i = t.2.1 := by unfold Ps.val; rw [e]
theorem at_some {p : Ps} {i : Nat} {t : Tok} (e : p.ts[i]? = some t) : p.at i = t.2.2 := by unfold Ps.at; rw [e]
theorem kind_none {p : Ps} {i : Nat} (e : p.ts[i]? = none) : p.kind i = [] := by unfold Ps.kind; rw [e]
theorem at_none {p : Ps} {i : Nat} (e : p.ts[i]? = none) : p.at i = p.len := by unfold Ps.at; rw [e]
theorem at_le {p : Ps} (ok : PsOk p) (i : Nat) : p.at i ≤ LINE := by
  cases e : p.ts[i]? with
  | none => rw [at_none e]; exact ok.len
  | some t => rw [at_some e]; exact ok.plc t (List.mem_of_getElem? e)
theorem kind_lt {p : Ps} {i : Nat} {k : List Nat} (h : p.kind i = k) (ne : k ≠ []) : i < p.ts.length := by
  cases e : p.ts[i]? with
  | none => rw [kind_none e] at h; exact absurd h.symm ne
  | some t => exact (List.getElem?_eq_some_iff.mp e).1
theorem eEmp : Str.ofString "" = S [] := by decide +kernel
section
variable {P : Program} {w : World} {K : PySem.W.Frag} {mg : Str → Option Value} {base : Heap}
/-! ### is_read, kind, sees -/
def spRead (C : Addr) : Sp := fun us H Q _ => ∃ (x : Addr) (p : Pt) (i d : Nat), us = [.ref x] ∧ PAt C p H x i d ∧ Q (.bl (decide (i = p.ts.length))) H
theorem scRead : FnScope ["self"] ["self"] (defScope (sM 2)) := ⟨rfl, rfl, rfl, by decide +kernel, rfl, by decide +kernel, by decide +kernel⟩
theorem ok_read {f C CR fI : Addr} {fd : FuncData} (F : Fun K "is_read" "Parser.is_read" (sM 2) f fd) (T : PTxt P K mg C CR fI) : FnOk P w K mg base CX0 1 f fd ["self"] (spRead C) := by
  refine F.ok scRead (fun us H Q E h => ?_) (fun cdv A outer s H us Q E hr h => ?_)
  · obtain ⟨x, p, i, d, rfl, _⟩ := h
    rfl
  · obtain ⟨x, p, i, d, rfl, hp, k⟩ := h
    refine ⟨_, pss_one (ps_ret (pe_cmpR op_eq (pe_fld (pv 0) rfl) (pe_callB call_len_seq (by rfl) T.len PySem.boot_len (pa_cons (pe_fld (pv 0) rfl) pa_nil)) (nomark _))), ?_⟩
    obtain ⟨dx, tk, rs, h1, h2, h3⟩ := hp.at_
    have e := Paired.length h3
    refine ⟨_, rfl, x, C, dx, _, _, rfl, h1, T.cl, T.nA, pf_at _ _ _ _, _, rfl, x, C, dx, _, _, rfl, h1, T.cl, T.nT, pf_tokens _ _ _ _, tk, rs, rfl, .inl (SqL.of h2), rfl, ?_⟩
    have e2 : decide (V.int (i : Int) = V.int (rs.length : Int)) = decide (i = p.ts.length) := decide_eq_decide.mpr (by
      rw [e]
      exact ⟨fun h => by have := V.int.inj h; omega, fun h => by rw [h]⟩)
    rw [e2]
    exact k
def spKind (C : Addr) : Sp := fun us H Q _ => ∃ (x : Addr) (p : Pt) (i d : Nat), us = [.ref x] ∧ PAt C p H x i d ∧ Q (vs (p.kind i)) H
theorem scKind : FnScope ["self"] ["self"] (defScope (sM 3)) := ⟨rfl, rfl, rfl, by decide +kernel, rfl, by decide +kernel, by decide +kernel⟩
theorem ok_kind {f fR C CR fI : Addr} {fd fdR : FuncData} (F : Fun K "kind" "Parser.kind" (sM 3) f fd) (T : PTxt P K mg C CR fI) (DR : Dm K C "is_read" "Parser.is_read" (sM 2) ["self"] fR fdR) : FnOk P w K mg base CX0 2 f fd ["self"] (spKind C) := by
  have GR : FnOk P w K mg base CX0 1 fR fdR ["self"] (spRead C) := ok_read DR.fn T
  refine F.ok scKind (fun us H Q E h => ?_) (fun cdv A outer s H us Q E hr h => ?_)
  · obtain ⟨x, p, i, d, rfl, _⟩ := h
    rfl
  · obtain ⟨x, p, i, d, rfl, hp, k⟩ := h
    refine ⟨_, pss_one (ps_ret (pe_ifExp (pt_val (pe_meth0 (pv 0) T.cl DR.mt GR hr DR.b .nil pass0)) pe_str (pe_ix ix_tup (pe_ix ix_list (pe_fld (pv 0) rfl) (pe_fld (pv 0) rfl) (fun _ _ => rfl)) pe_int (fun _ _ => rfl)))), ?_⟩
    obtain ⟨dx, tk, rs, h1, h2, h3⟩ := id hp.at_
    have e := Paired.length h3
    refine ⟨_, rfl, x, dx, _, rfl, h1, rfl, x, p, i, d, rfl, hp, _, rfl, ?_⟩
    by_cases c : i = p.ts.length
    · refine if_true_of (decide_eq_true c) ?_
      have n : p.ts[i]? = none := List.getElem?_eq_none (by omega)
      rw [eEmp, ← kind_none n]
      exact k
    · refine if_false_of (decide_eq_false c) ?_
      have lt : i < p.ts.length := by have := hp.le; omega
      obtain ⟨t, ht⟩ : ∃ t, p.ts[i]? = some t := ⟨_, List.getElem?_eq_getElem lt⟩
      obtain ⟨a, ha, hx⟩ := paired_at h3 ht
      rw [kind_some ht] at k
      exact ⟨_, rfl, x, C, dx, _, _, rfl, h1, T.cl, T.nT, pf_tokens _ _ _ _, _, rfl, x, C, dx, _, _, rfl, h1, T.cl, T.nA, pf_at _ _ _ _, tk, rs, (i : Int), .ref a, rfl, rfl, SqL.of h2, atI_nat ha, a, _, 0, _, rfl, rfl, SqT.of hx, rfl, k⟩
def spSees (K : PySem.W.Frag) (C : Addr) : Sp := fun us H Q _ => ∃ (x : Addr) (p : Pt) (i d : Nat) (k : List Nat) (ws : List (List Nat)) (a : Addr), us = [.ref x, vs k, .ref a] ∧ PAt C p H x i d ∧ k ≠ [] ∧ SqT K H a (ws.map vs) ∧ Q (.bl (p.sees i k ws)) H
theorem inV_tv (v : Tv) (ws : List (List Nat)) : inV (tvV v) (ws.map vs) = ws.any fun w => decide (v = .s w) := by
  cases v with
  | s l =>
    show inV (vs l) (ws.map vs) = _
    rw [inV_strs, Bool.eq_iff_iff]
    simp
  | n i =>
    have : ∀ ws : List (List Nat), inV (V.int (i : Int)) (ws.map vs) = false := fun ws => by
      induction ws with
      | nil => rfl
      | cons a ws ih =>
        unfold inV at ih ⊢
        rw [List.map_cons, List.any_cons, ih]
        rfl
    rw [show tvV (.n i) = V.int (i : Int) from rfl, this ws]
    symm
    rw [List.any_eq_false]
    intro w _ h
    cases of_decide_eq_true h
theorem tv_flat (v : Tv) : flatV (tvV v) = true := by cases v <;> rfl
theorem scSees : FnScope ["self", "kind", "words"] ["self", "kind", "words"] (defScope (sM 4)) := ⟨rfl, rfl, rfl, by decide +kernel, rfl, by decide +kernel, by decide +kernel⟩
theorem ok_sees {f fK fR C CR fI : Addr} {fd fdK fdR : FuncData} (F : Fun K "sees" "Parser.sees" (sM 4) f fd) (T : PTxt P K mg C CR fI) (DK : Dm K C "kind" "Parser.kind" (sM 3) ["self"] fK fdK) (DR : Dm K C "is_read" "Parser.is_read" (sM 2) ["self"] fR fdR) :
    FnOk P w K mg base CX0 3 f fd ["self", "kind", "words"] (spSees K C) := by
  have GK : FnOk P w K mg base CX0 2 fK fdK ["self"] (spKind C) := ok_kind DK.fn T DR
  refine F.ok scSees (fun us H Q E h => ?_) (fun cdv A outer s H us Q E hr h => ?_)
  · obtain ⟨x, p, i, d, k, ws, a, rfl, _⟩ := h
    rfl
  · obtain ⟨x, p, i, d, k, ws, a, rfl, hp, ne, hw, q⟩ := h
    refine ⟨_, pss_one (ps_ret (pe_and (pe_cmpR op_eq (pe_meth0 (pv 0) T.cl DK.mt GK hr DK.b .nil pass0) (pv 1) (nomark _)) (pe_one (pe_cmpR op_in_seq (pe_ix ix_tup (pe_ix ix_list (pe_fld (pv 0) rfl) (pe_fld (pv 0) rfl) (fun _ _ => rfl)) pe_int (fun _ _ => rfl)) (pv 2) rfl)))), ?_⟩
    obtain ⟨dx, tk, rs, h1, h2, h3⟩ := id hp.at_
    refine ⟨_, rfl, x, dx, _, rfl, h1, rfl, x, p, i, d, rfl, hp, _, rfl, rfl, _, rfl, ?_⟩
    unfold Ps.sees at q
    by_cases c : p.kind i = k
    · refine if_true_of (decide_eq_true (by rw [c])) ?_
      have lt := kind_lt c ne
      obtain ⟨t, ht⟩ : ∃ t, p.ts[i]? = some t := ⟨_, List.getElem?_eq_getElem lt⟩
      obtain ⟨b, hb, hx⟩ := paired_at h3 ht
      rw [decide_eq_true c, Bool.true_and, val_some ht, ← inV_tv] at q
      exact ⟨_, rfl, x, C, dx, _, _, rfl, h1, T.cl, T.nT, pf_tokens _ _ _ _, _, rfl, x, C, dx, _, _, rfl, h1, T.cl, T.nA, pf_at _ _ _ _, tk, rs, (i : Int), .ref b, rfl, rfl, SqL.of h2, atI_nat hb, b, _, 1, _, rfl, rfl, SqT.of hx, rfl, _, rfl, a, _, rfl, .inr hw, tv_flat _, flat_strs ws, q⟩
    · refine if_false_of (decide_eq_false fun z => c (S_inj.mp (V.str.inj z))) ?_
      rw [decide_eq_false c, Bool.false_and] at q
      exact q
end
end K9
set_option Elab.async false
set_option linter.all false
set_option maxRecDepth 100000
namespace K9
open PySem L2 PyProof.Rows
section
variable {α β : Type} {C CR x : Addr} {p : Pt} {d : Nat} {H H1 : Hp} {Q Q' : VK} {E : XK} {rep : Hp → V → α → Prop} {rep' : Hp → V → β → Prop}
theorem PAt.there {i : Nat} (h : PAt C p H x i d) : ∃ u, H x = some u := by
  obtain ⟨dx, tk, rs, h1, _⟩ := h.at_
  exact ⟨_, h1⟩
theorem SameBut.free {i : Nat} (hp : PAt C p H1 x i d) (s : SameBut x H H1) {e : Addr} (n : H1 e = none) : H e = none := by
  cases z : H e with
  | none => rfl
  | some u =>
    by_cases c : e = x
    · subst c
      obtain ⟨u, hu⟩ := hp.there
      rw [n] at hu
      cases hu
    · have := s e u c z
      rw [n] at this
      cases this
theorem Dn.from {i : Nat} {r : Rs α} (hp : PAt C p H1 x i d) (s : SameBut x H H1) (h : Dn C CR p x d H Q E rep r) : Dn C CR p x d H1 Q E rep r := by
  cases r with
  | no j => exact fun H' e s1 n1 x1 => h H' e (s.trans s1) (SameBut.free hp s n1) x1
  | ok a i => exact fun H' v s1 hp1 r1 => h H' v (s.trans s1) hp1 r1
theorem Dn.bind {r : Rs β} {f : β → Nat → Rs α} (q : Dn C CR p x d H Q E rep (r.bind f))
    (k : ∀ a i2 H' v, r = .ok a i2 → SameBut x H H' → PAt C p H' x i2 d → rep' H' v a → Dn C CR p x d H' Q E rep (f a i2) → Q' v H') : Dn C CR p x d H Q' E rep' r := by
  cases r with
  | no j => exact q
  | ok a i2 => exact fun H' v s1 hp1 r1 => k a i2 H' v rfl s1 hp1 r1 (Dn.from hp1 s1 q)
end
section
variable {P : Program} {w : World} {K : PySem.W.Frag} {mg : Str → Option Value} {base : Heap}
abbrev pass {X : Cx} {E : XK} (tk : Takes X (fun cls d _ H => E cls d H)) : Passes (L2.CX X.prog X.w) X E := passes_call tk (fun _ _ _ _ h => h)
/-! ### refuse, move -/
def spRefuse (C CR : Addr) : Sp := fun us H _ E => ∃ (x : Addr) (p : Pt) (i d : Nat), us = [.ref x] ∧ PAt C p H x i d ∧ ∀ H' e, SameBut x H H' → H e = none → H' e = some (.xd [(("position" : Str), .int (p.at i : Int))]) → E (.ref CR) (some e) H'
theorem scRefuse : FnScope ["self"] ["self"] (defScope (sM 1)) := ⟨rfl, rfl, rfl, by decide +kernel, rfl, by decide +kernel, by decide +kernel⟩
theorem ok_refuse {f fR C CR fI : Addr} {fd fdR : FuncData} (F : Fun K "refuse" "Parser.refuse" (sM 1) f fd) (T : PTxt P K mg C CR fI) (DR : Dm K C "is_read" "Parser.is_read" (sM 2) ["self"] fR fdR) : FnOk P w K mg base (L2.CX P w) 3 f fd ["self"] (spRefuse C CR) := by
  have GR : FnOk P w K mg base CX0 1 fR fdR ["self"] (spRead C) := ok_read DR.fn T
  refine F.okX scRefuse (fun us H Q E h => ?_) (fun cdv A outer s H us Q E hr h => ?_)
  · obtain ⟨x, p, i, d, rfl, _⟩ := h
    rfl
  · obtain ⟨x, p, i, d, rfl, hp, k⟩ := h
    have hr1 : Room 1 _ := hr.mono (by decide)
    refine ⟨_, pss_one (ps_raiseRef (W := fun cls d _ H => E cls d H) rfl T.ref hr (takes_of rfl rfl rfl rfl) (pa_cons (pe_ifExp (pt_val (pe_meth0 (pv 0) T.cl DR.mt GR hr1 DR.b .nil pass0)) (pe_fld (pv 0) rfl)
      (pe_ix ix_tup (pe_ix ix_list (pe_fld (pv 0) rfl) (pe_fld (pv 0) rfl) (fun _ _ => rfl)) pe_int (fun _ _ => rfl))) pa_nil)), ?_⟩
    obtain ⟨dx, tk, rs, h1, h2, h3⟩ := id hp.at_
    have pl := at_le hp.ok i
    have pl2 : p.at i ≤ 1000000 := Nat.le_trans pl (by decide)
    have fin : ∀ d : Addr, H d = none → E (.ref CR) (some d) (upd H d (.xd [(("position" : Str), .int (p.at i : Int))])) := fun e he => k _ e ((SameBut.refl x H).new he) he upd_same
    refine ⟨_, rfl, x, dx, _, rfl, h1, rfl, x, p, i, d, rfl, hp, _, rfl, ?_⟩
    by_cases c : i = p.ts.length
    · refine if_true_of (decide_eq_true c) ?_
      have n : p.ts[i]? = none := List.getElem?_eq_none (by omega)
      rw [at_none n] at fin pl2
      exact ⟨_, rfl, x, C, dx, _, _, rfl, h1, T.cl, T.nL, pf_length _ _ _ _, p.len, rfl, pl2, fin⟩
    · refine if_false_of (decide_eq_false c) ?_
      have lt : i < p.ts.length := by have := hp.le; omega
      obtain ⟨t, ht⟩ : ∃ t, p.ts[i]? = some t := ⟨_, List.getElem?_eq_getElem lt⟩
      obtain ⟨a, ha, hx⟩ := paired_at h3 ht
      rw [at_some ht] at fin pl2
      exact ⟨_, rfl, x, C, dx, _, _, rfl, h1, T.cl, T.nT, pf_tokens _ _ _ _, _, rfl, x, C, dx, _, _, rfl, h1, T.cl, T.nA, pf_at _ _ _ _, tk, rs, (i : Int), .ref a, rfl, rfl, SqL.of h2, atI_nat ha, a, _, 2, _, rfl, rfl, SqT.of hx, rfl, t.2.2, rfl, pl2, fin⟩
def spMove (C CR : Addr) : Sp := fun us H Q E => ∃ (x : Addr) (p : Pt) (i d : Nat), us = [.ref x] ∧ PAt C p H x i d ∧ i < p.ts.length ∧ Dn C CR p x d H Q E rTv (p.move i)
theorem scMove : FnScope ["self"] ["self"] (defScope (sM 5)) := ⟨rfl, rfl, rfl, by decide +kernel, rfl, by decide +kernel, by decide +kernel⟩
structure Dms (K : PySem.W.Frag) (C fRf fR fK fS fM fW fAc fSg fN : Addr) (dRf dR dK dS dM dW dAc dSg dN : FuncData) : Prop where
  rf : Dm K C "refuse" "Parser.refuse" (sM 1) ["self"] fRf dRf
  rd : Dm K C "is_read" "Parser.is_read" (sM 2) ["self"] fR dR
  kd : Dm K C "kind" "Parser.kind" (sM 3) ["self"] fK dK
  se : Dm K C "sees" "Parser.sees" (sM 4) ["self", "kind", "words"] fS dS
  mv : Dm K C "move" "Parser.move" (sM 5) ["self"] fM dM
  wa : Dm K C "want" "Parser.want" (sM 6) ["self", "kind"] fW dW
  ac : Dm K C "accepts" "Parser.accepts" (sM 7) ["self", "kind", "word"] fAc dAc
  sg : Dm K C "sign" "Parser.sign" (sM 8) ["self", "word"] fSg dSg
  nx : Dm K C "next_of_row" "Parser.next_of_row" (sM 9) ["self", "count", "most"] fN dN
variable {fRf fR fK fS fM fW fAc fSg fN C CR fI : Addr} {dRf dR dK dS dM dW dAc dSg dN : FuncData}
theorem ok_move (D : Dms K C fRf fR fK fS fM fW fAc fSg fN dRf dR dK dS dM dW dAc dSg dN) (T : PTxt P K mg C CR fI) : FnOk P w K mg base (L2.CX P w) 4 fM dM ["self"] (spMove C CR) := by
  have GR : FnOk P w K mg base (L2.CX P w) 3 fRf dRf ["self"] (spRefuse C CR) := ok_refuse D.rf.fn T D.rd
  refine D.mv.fn.okX scMove (fun us H Q E h => ?_) (fun cdv A outer s H us Q E hr h => ?_)
  · obtain ⟨x, p, i, d, rfl, _⟩ := h
    rfl
  · obtain ⟨x, p, i, d, rfl, hp, lt, q⟩ := h
    refine ⟨_, pss_cons (ps_if (pt_cmpR op_eq (pe_fld (pv 0) rfl) (pe_gi T.MT) (nomark _)) (pss_one (ps_expr (pe_meth0 (pv 0) T.cl D.rf.mt GR hr D.rf.b .nil (pass (takes_of rfl rfl rfl rfl))))) pss_nil)
      (pss_cons (ps_fldaug (pv 0) pe_int in_add)
      (pss_one (ps_ret (pe_ix ix_tup (pe_ix ix_list (pe_fld (pv 0) rfl) (pe_op op_sub (pe_fld (pv 0) rfl) pe_int) (fun _ _ => rfl)) pe_int (fun _ _ => rfl))))), ?_⟩
    obtain ⟨dx, tk, rs, h1, h2, h3, hp'⟩ := hp.put (j := i + 1) (e := d) lt hp.op
    refine ⟨_, rfl, x, C, dx, _, _, rfl, h1, T.cl, T.nA, pf_at _ _ _ _, rfl, _, rfl, ?_⟩
    unfold Ps.move at q
    by_cases c : i = 4000
    · refine if_true_of (decide_eq_true (by rw [c]; rfl)) ?_
      rw [if_pos c] at q
      exact ⟨_, rfl, x, dx, _, rfl, h1, rfl, x, p, i, d, rfl, hp, q⟩
    · refine if_false_of (decide_eq_false fun z => c (by have := V.int.inj z; omega)) ?_
      rw [if_neg c] at q
      obtain ⟨t, ht⟩ : ∃ t, p.ts[i]? = some t := ⟨_, List.getElem?_eq_getElem lt⟩
      obtain ⟨a, ha, hx⟩ := paired_at h3 ht
      have ax := hp.ne _ _ hx
      have tx : tk ≠ x := ne_of h2 h1 (by intro z; cases z)
      rw [val_some ht] at q
      refine ⟨_, rfl, x, C, dx, _, _, rfl, h1, T.cl, T.nA, pf_at _ _ _ _, _, _, rfl, rfl, dx, _, h1, (by show 4 < 1000; decide), ?_⟩
      have e1 : putF "at" (V.int ((i : Int) + 1)) (pf tk p.len i (20 - d)) = pf tk p.len (i + 1) (20 - d) := pf_put_at tk p.len i (i + 1) (20 - d)
      rw [e1]
      refine ⟨_, rfl, x, C, dx, _, _, rfl, upd_same, T.cl, T.nT, pf_tokens _ _ _ _, _, rfl, x, C, dx, _, _, rfl, upd_same, T.cl, T.nA, pf_at _ _ _ _, _, _, rfl, rfl, tk, rs, ((i + 1 : Nat) : Int) - 1, .ref a, rfl, rfl, SqL.of (by rw [upd_ne tx]; exact h2),
        (by rw [show ((i + 1 : Nat) : Int) - 1 = (i : Int) by omega]; exact atI_nat ha), a, _, 1, _, rfl, rfl, SqT.of (by rw [upd_ne ax]; exact hx), rfl, ?_⟩
      exact q _ _ (SameBut.refl x H).put hp' rfl
end
end K9
set_option Elab.async false
set_option linter.all false
set_option maxRecDepth 100000
namespace K9
open PySem L2 PyProof.Rows
section
variable {P : Program} {w : World} {K : PySem.W.Frag} {mg : Str → Option Value} {base : Heap}
variable {fRf fR fK fS fM fW fAc fSg fN C CR fI : Addr} {dRf dR dK dS dM dW dAc dSg dN : FuncData}
/-- how a refusal is reached: self.refuse() -/
theorem refuse_of {x : Addr} {p : Pt} {i d : Nat} {H H1 : Hp} {Q : VK} {E : XK} {α : Type} {rep : Hp → V → α → Prop} (hp : PAt C p H1 x i d) (s : SameBut x H H1) (q : Dn C CR p x d H Q E rep (.no (p.at i))) :
    ∀ H' e, SameBut x H1 H' → H1 e = none → H' e = some (.xd [(("position" : Str), .int (p.at i : Int))]) → E (.ref CR) (some e) H' := Dn.from hp s q
/-! ### want, accepts, sign, next_of_row -/
def spWant (C CR : Addr) : Sp := fun us H Q E => ∃ (x : Addr) (p : Pt) (i d : Nat) (k : List Nat), us = [.ref x, vs k] ∧ PAt C p H x i d ∧ k ≠ [] ∧ Dn C CR p x d H Q E rTv (p.want k i)
theorem scWant : FnScope ["self", "kind"] ["self", "kind"] (defScope (sM 6)) := ⟨rfl, rfl, rfl, by decide +kernel, rfl, by decide +kernel, by decide +kernel⟩
theorem ok_want (D : Dms K C fRf fR fK fS fM fW fAc fSg fN dRf dR dK dS dM dW dAc dSg dN) (T : PTxt P K mg C CR fI) : FnOk P w K mg base (L2.CX P w) 5 fW dW ["self", "kind"] (spWant C CR) := by
  have GR : FnOk P w K mg base (L2.CX P w) 3 fRf dRf ["self"] (spRefuse C CR) := ok_refuse D.rf.fn T D.rd
  have GK : FnOk P w K mg base CX0 2 fK dK ["self"] (spKind C) := ok_kind D.kd.fn T D.rd
  have GM : FnOk P w K mg base (L2.CX P w) 4 fM dM ["self"] (spMove C CR) := ok_move D T
  refine D.wa.fn.okX scWant (fun us H Q E h => ?_) (fun cdv A outer s H us Q E hr h => ?_)
  · obtain ⟨x, p, i, d, k, rfl, _⟩ := h
    rfl
  · obtain ⟨x, p, i, d, k, rfl, hp, ne, q⟩ := h
    have hr2 : Room 2 _ := hr.mono (by decide)
    have hr3 : Room 3 _ := hr.mono (by decide)
    refine ⟨_, pss_cons (ps_if (pt_cmpR op_ne (pe_meth0 (pv 0) T.cl D.kd.mt GK hr2 D.kd.b .nil pass0) (pv 1) (nomark _)) (pss_one (ps_expr (pe_meth0 (pv 0) T.cl D.rf.mt GR hr3 D.rf.b .nil (pass (takes_of rfl rfl rfl rfl))))) pss_nil)
      (pss_one (ps_ret (pe_meth0 (pv 0) T.cl D.mv.mt GM hr D.mv.b .nil (pass (takes_of rfl rfl rfl rfl))))), ?_⟩
    obtain ⟨dx, tk, rs, h1, h2, h3⟩ := id hp.at_
    refine ⟨_, rfl, x, dx, _, rfl, h1, rfl, x, p, i, d, rfl, hp, _, rfl, rfl, _, rfl, ?_⟩
    unfold Ps.want at q
    by_cases c : p.kind i = k
    · rw [if_pos c] at q
      refine if_false_of (by rw [c]; simp) ?_
      exact ⟨_, rfl, x, dx, _, rfl, h1, rfl, x, p, i, d, rfl, hp, kind_lt c ne, q⟩
    · rw [if_neg c] at q
      refine if_true_of (by rw [decide_eq_false fun z => c (S_inj.mp (V.str.inj z))]; rfl) ?_
      exact ⟨_, rfl, x, dx, _, rfl, h1, rfl, x, p, i, d, rfl, hp, q⟩
def spAcc (C CR : Addr) : Sp := fun us H Q E => ∃ (x : Addr) (p : Pt) (i d : Nat) (k w : List Nat), us = [.ref x, vs k, vs w] ∧ PAt C p H x i d ∧ k ≠ [] ∧ Dn C CR p x d H Q E rBl (p.accepts k w i)
theorem scAcc : FnScope ["self", "kind", "word"] ["self", "kind", "word"] (defScope (sM 7)) := ⟨rfl, rfl, rfl, by decide +kernel, rfl, by decide +kernel, by decide +kernel⟩
theorem sees_lt {p : Ps} {i : Nat} {k : List Nat} {ws : List (List Nat)} (h : p.sees i k ws = true) (ne : k ≠ []) : i < p.ts.length := by
  unfold Ps.sees at h
  exact kind_lt (of_decide_eq_true (Bool.and_eq_true_iff.mp h).1) ne
theorem ok_acc (D : Dms K C fRf fR fK fS fM fW fAc fSg fN dRf dR dK dS dM dW dAc dSg dN) (T : PTxt P K mg C CR fI) : FnOk P w K mg base (L2.CX P w) 5 fAc dAc ["self", "kind", "word"] (spAcc C CR) := by
  have GS : FnOk P w K mg base CX0 3 fS dS ["self", "kind", "words"] (spSees K C) := ok_sees D.se.fn T D.kd D.rd
  have GM : FnOk P w K mg base (L2.CX P w) 4 fM dM ["self"] (spMove C CR) := ok_move D T
  refine D.ac.fn.okX scAcc (fun us H Q E h => ?_) (fun cdv A outer s H us Q E hr h => ?_)
  · obtain ⟨x, p, i, d, k, w, rfl, _⟩ := h
    rfl
  · obtain ⟨x, p, i, d, k, w, rfl, hp, ne, q⟩ := h
    have hr3 : Room 3 _ := hr.mono (by decide)
    refine ⟨_, pss_cons (ps_if (pt_not (pt_val (pe_meth (pv 0) T.cl D.se.mt GS hr3 D.se.b .nil pass0 (pa_cons (pv 1) (pa_cons (pe_tup (pa_cons (pv 2) pa_nil)) pa_nil))))) (pss_one (ps_ret pe_bl)) pss_nil)
      (pss_cons (ps_expr (pe_meth0 (pv 0) T.cl D.mv.mt GM hr D.mv.b .nil (pass (takes_of rfl rfl rfl rfl)))) (pss_one (ps_ret pe_bl))), ?_⟩
    obtain ⟨dx, tk, rs, h1, h2, h3⟩ := id hp.at_
    refine ⟨_, rfl, x, dx, _, rfl, h1, rfl, _, rfl, _, rfl, (by show 1 ≤ sizeLine; decide), fun t ht => ?_⟩
    have hp2 := hp.new (o := .tup [vs w]) ht
    have s2 : SameBut x H (upd H t (.tup [vs w])) := (SameBut.refl x H).new ht
    refine ⟨x, p, i, d, k, [w], t, rfl, hp2, ne, SqT.of upd_same, _, rfl, ?_⟩
    have q2 := Dn.from hp2 s2 q
    have h12 := new_keep (o' := .tup [vs w]) h1 ht
    unfold Ps.accepts at q2
    cases c : p.sees i k [w] with
    | true =>
      refine if_false_of rfl ?_
      rw [if_pos c] at q2
      exact ⟨_, rfl, x, dx, _, rfl, h12, rfl, x, p, i, d, rfl, hp2, sees_lt c ne, Dn.bind q2 fun a i2 H' v e s hp' r q' => q' H' (.bl true) (SameBut.refl x H') hp' rfl⟩
    | false =>
      refine if_true_of rfl ?_
      rw [if_neg (by rw [c]; exact Bool.false_ne_true)] at q2
      exact q2 _ (.bl false) (SameBut.refl x _) hp2 rfl
def spSign (C CR : Addr) : Sp := fun us H Q E => ∃ (x : Addr) (p : Pt) (i d : Nat) (w : List Nat), us = [.ref x, vs w] ∧ PAt C p H x i d ∧ Dn C CR p x d H Q E rU0 (p.sign w i)
theorem scSign : FnScope ["self", "word"] ["self", "word"] (defScope (sM 8)) := ⟨rfl, rfl, rfl, by decide +kernel, rfl, by decide +kernel, by decide +kernel⟩
theorem ok_sign (D : Dms K C fRf fR fK fS fM fW fAc fSg fN dRf dR dK dS dM dW dAc dSg dN) (T : PTxt P K mg C CR fI) : FnOk P w K mg base (L2.CX P w) 6 fSg dSg ["self", "word"] (spSign C CR) := by
  have GR : FnOk P w K mg base (L2.CX P w) 3 fRf dRf ["self"] (spRefuse C CR) := ok_refuse D.rf.fn T D.rd
  have GA : FnOk P w K mg base (L2.CX P w) 5 fAc dAc ["self", "kind", "word"] (spAcc C CR) := ok_acc D T
  refine D.sg.fn.okX scSign (fun us H Q E h => ?_) (fun cdv A outer s H us Q E hr h => ?_)
  · obtain ⟨x, p, i, d, w, rfl, _⟩ := h
    rfl
  · obtain ⟨x, p, i, d, w, rfl, hp, q⟩ := h
    have hr3 : Room 3 _ := hr.mono (by decide)
    refine ⟨_, pss_one (ps_if (pt_not (pt_val (pe_meth (pv 0) T.cl D.ac.mt GA hr D.ac.b .nil (pass (takes_of rfl rfl rfl rfl)) (pa_cons pe_str (pa_cons (pv 1) pa_nil))))) (pss_one (ps_expr (pe_meth0 (pv 0) T.cl D.rf.mt GR hr3 D.rf.b .nil (pass (takes_of rfl rfl rfl rfl))))) pss_nil), ?_⟩
    obtain ⟨dx, tk, rs, h1, h2, h3⟩ := id hp.at_
    refine ⟨_, rfl, x, dx, _, rfl, h1, rfl, _, rfl, ?_⟩
    refine ⟨x, p, i, d, kSign, w, (by rw [eSign]; rfl), hp, by decide, Dn.bind q fun b i2 H' v e s hp' r q' => ?_⟩
    obtain rfl : v = .bl b := r
    refine ⟨_, rfl, ?_⟩
    cases b with
    | true =>
      refine if_false_of rfl ?_
      exact q' H' .non (SameBut.refl x H') hp' rfl
    | false =>
      refine if_true_of rfl ?_
      obtain ⟨dx', tk', rs', h1', _⟩ := id hp'.at_
      exact ⟨_, rfl, x, dx', _, rfl, h1', rfl, x, p, i2, d, rfl, hp', q'⟩
def spNx (C CR : Addr) : Sp := fun us H Q E => ∃ (x : Addr) (p : Pt) (i d n m : Nat), us = [.ref x, .int (n : Int), .int (m : Int)] ∧ PAt C p H x i d ∧ Dn C CR p x d H Q E rBl (p.next n m i)
theorem scNx : FnScope ["self", "count", "most"] ["self", "count", "most"] (defScope (sM 9)) := ⟨rfl, rfl, rfl, by decide +kernel, rfl, by decide +kernel, by decide +kernel⟩
theorem eComma : Str.ofString "," = S gComma := by decide +kernel
theorem ok_nx (D : Dms K C fRf fR fK fS fM fW fAc fSg fN dRf dR dK dS dM dW dAc dSg dN) (T : PTxt P K mg C CR fI) : FnOk P w K mg base (L2.CX P w) 6 fN dN ["self", "count", "most"] (spNx C CR) := by
  have GR : FnOk P w K mg base (L2.CX P w) 3 fRf dRf ["self"] (spRefuse C CR) := ok_refuse D.rf.fn T D.rd
  have GS : FnOk P w K mg base CX0 3 fS dS ["self", "kind", "words"] (spSees K C) := ok_sees D.se.fn T D.kd D.rd
  have GA : FnOk P w K mg base (L2.CX P w) 5 fAc dAc ["self", "kind", "word"] (spAcc C CR) := ok_acc D T
  refine D.nx.fn.okX scNx (fun us H Q E h => ?_) (fun cdv A outer s H us Q E hr h => ?_)
  · obtain ⟨x, p, i, d, n, m, rfl, _⟩ := h
    rfl
  · obtain ⟨x, p, i, d, n, m, rfl, hp, q⟩ := h
    have hr3 : Room 3 _ := hr.mono (by decide)
    refine ⟨_, C8.pss_cut (ps_if (PW.pt (pw_and (pt_val (pe_meth (pv 0) T.cl D.se.mt GS hr3 D.se.b .nil pass0 (pa_cons pe_str (pa_cons (pe_tup (pa_cons pe_str pa_nil)) pa_nil)))) (pw_and1 (pt_cmpR op_eq (pv 1) (pv 2) (nomark _)))))
        (pss_one (ps_expr (pe_meth0 (pv 0) T.cl D.rf.mt GR hr3 D.rf.b .nil (pass (takes_of rfl rfl rfl rfl))))) pss_nil)
      (pss_one (ps_ret (pe_meth (pv 0) T.cl D.ac.mt GA hr D.ac.b .nil (pass (takes_of rfl rfl rfl rfl)) (pa_cons pe_str (pa_cons pe_str pa_nil))))), ?_⟩
    obtain ⟨dx, tk, rs, h1, h2, h3⟩ := id hp.at_
    refine ⟨fun σ H' => σ = [some (.ref x), some (.int (n : Int)), some (.int (m : Int))] ∧ PAt C p H' x i d ∧ Dn C CR p x d H' Q E rBl (p.accepts kSign gComma i), ?_, ?_⟩
    · refine ⟨_, rfl, x, dx, _, rfl, h1, rfl, (by show 1 ≤ sizeLine; decide), fun t ht => ?_⟩
      have hp2 := hp.new (o := .tup [V.str (Str.ofString ",")]) ht
      have s2 : SameBut x H (upd H t (.tup [V.str (Str.ofString ",")])) := (SameBut.refl x H).new ht
      refine ⟨x, p, i, d, kSign, [gComma], t, (by rw [eSign]; rfl), hp2, by decide, SqT.of (by rw [upd_same, eComma]; rfl), _, rfl, ?_⟩
      have q2 := Dn.from hp2 s2 q
      have h12 := new_keep (o' := .tup [V.str (Str.ofString ",")]) h1 ht
      unfold Ps.next at q2
      cases c : p.sees i kSign [gComma] with
      | true =>
        refine if_true_of rfl ?_
        refine ⟨_, rfl, _, rfl, rfl, _, rfl, ?_⟩
        by_cases nm : n = m
        · refine if_true_of (decide_eq_true (by rw [nm])) ?_
          rw [if_pos ⟨c, nm⟩] at q2
          exact ⟨_, rfl, x, dx, _, rfl, h12, rfl, x, p, i, d, rfl, hp2, q2⟩
        · refine if_false_of (decide_eq_false fun z => nm (by have := V.int.inj z; omega)) ?_
          rw [if_neg fun z => nm z.2] at q2
          exact ⟨rfl, hp2, q2⟩
      | false =>
        refine if_false_of rfl ?_
        refine if_false_of rfl ?_
        rw [if_neg fun z => by rw [c] at z; exact Bool.false_ne_true z.1] at q2
        exact ⟨rfl, hp2, q2⟩
    · rintro σ H' ⟨rfl, hp', q'⟩
      obtain ⟨dx', tk', rs', h1', _⟩ := id hp'.at_
      exact ⟨_, rfl, x, dx', _, rfl, h1', rfl, x, p, i, d, kSign, gComma, (by rw [eSign, eComma]; rfl), hp', by decide, q'⟩
end
end K9
set_option Elab.async false
set_option linter.all false
set_option maxRecDepth 100000
namespace K9
open PySem L2 PyProof.Rows
theorem Rs.bind_assoc {α β γ : Type} (r : Rs α) (f : α → Nat → Rs β) (g : β → Nat → Rs γ) : (r.bind f).bind g = r.bind fun a i => (f a i).bind g := by cases r <;> rfl
theorem Rs.bind_ok {α β : Type} (a : α) (i : Nat) (f : α → Nat → Rs β) : (Rs.ok a i).bind f = f a i := rfl
theorem Rs.bind_no {α β : Type} (j : Nat) (f : α → Nat → Rs β) : (Rs.no j : Rs α).bind f = .no j := rfl
theorem move_ok {p : Ps} {i i2 : Nat} {v : Tv} (h : p.move i = .ok v i2) : v = p.val i ∧ i2 = i + 1 := by
  unfold Ps.move at h
  split at h
  · cases h
  · cases h
    exact ⟨rfl, rfl⟩
theorem want_ok {p : Ps} {k : List Nat} {i i2 : Nat} {v : Tv} (h : p.want k i = .ok v i2) : p.kind i = k ∧ v = p.val i ∧ i2 = i + 1 := by
  unfold Ps.want at h
  split at h
  · exact ⟨by assumption, move_ok h⟩
  · cases h
theorem want_num {p : Ps} (ok : PsOk p) {i i2 : Nat} {v : Tv} (h : p.want kNum i = .ok v i2) : ∃ n, v = .n n := by
  obtain ⟨h1, h2, _⟩ := want_ok h
  have lt := kind_lt h1 (by decide)
  have e : p.ts[i]? = some p.ts[i] := List.getElem?_eq_getElem lt
  obtain ⟨n, hn⟩ := ok.num _ (List.getElem_mem lt) (by rw [← kind_some e]; exact h1)
  exact ⟨n, by rw [h2, val_some e, hn]⟩
theorem eNumb : Str.ofString "number" = S wNumber := by decide +kernel
theorem eWordw : Str.ofString "word" = S wWord := by decide +kernel
theorem eMinus : Str.ofString "-" = S gMinus := by decide +kernel
theorem eValue : Str.ofString "value" = S wValue := by decide +kernel
theorem eVari : Str.ofString "variable" = S wVariable := by decide +kernel
theorem eCount : Str.ofString "count" = S wCount := by decide +kernel
theorem eSum : Str.ofString "sum" = S wSum := by decide +kernel
theorem eLeast : Str.ofString "least" = S wLeast := by decide +kernel
theorem eMostw : Str.ofString "most" = S wMost := by decide +kernel
theorem eOpen : Str.ofString "(" = S gOpen := by decide +kernel
theorem eClose : Str.ofString ")" = S gClose := by decide +kernel
section
variable {P : Program} {w : World} {K : PySem.W.Frag} {mg : Str → Option Value} {base : Heap}
variable {fRf fR fK fS fM fW fAc fSg fN C CR fI : Addr} {dRf dR dK dS dM dW dAc dSg dN : FuncData}
theorem tp_pair {H : Hp} {q : Addr} {a b : V} {x y : PyData} (hq : H q = none) (h1 : Tp H a x) (h2 : Tp H b y) : Tp (upd H q (.tup [a, b])) (.ref q) (dT [x, y]) := by
  have k : ∀ c xs, H c = some (.tup xs) → upd H q (.tup [a, b]) c = some (.tup xs) := fun c xs e => new_keep e hq
  exact .tup upd_same (.cons (h1.keep k) (.cons (h2.keep k) .nil))
/-! ### one_sort, value, term -/
theorem scSort : FnScope ["self"] ["self"] (defScope (sM 12)) := ⟨rfl, rfl, rfl, by decide +kernel, rfl, by decide +kernel, by decide +kernel⟩
theorem ok_sort {f : Addr} {fd : FuncData} (F : Fun K "one_sort" "Parser.one_sort" (sM 12) f fd) (D : Dms K C fRf fR fK fS fM fW fAc fSg fN dRf dR dK dS dM dW dAc dSg dN) (T : PTxt P K mg C CR fI) : FnOk P w K mg base (L2.CX P w) 5 f fd ["self"] (spM C CR rTp Ps.oneSort) := by
  have GR : FnOk P w K mg base (L2.CX P w) 3 fRf dRf ["self"] (spRefuse C CR) := ok_refuse D.rf.fn T D.rd
  have GS : FnOk P w K mg base CX0 3 fS dS ["self", "kind", "words"] (spSees K C) := ok_sees D.se.fn T D.kd D.rd
  have GM : FnOk P w K mg base (L2.CX P w) 4 fM dM ["self"] (spMove C CR) := ok_move D T
  refine F.okX scSort (fun us H Q E h => ?_) (fun cdv A outer s H us Q E hr h => ?_)
  · obtain ⟨x, p, i, d, rfl, _⟩ := h
    rfl
  · obtain ⟨x, p, i, d, rfl, hp, q⟩ := h
    have hr3 : Room 3 _ := hr.mono (by decide)
    refine ⟨_, pss_cons (ps_if (pt_not (pt_val (pe_meth (pv 0) T.cl D.se.mt GS hr3 D.se.b .nil pass0 (pa_cons pe_str (pa_cons (pe_tup (pa_cons pe_str (pa_cons pe_str pa_nil))) pa_nil))))) (pss_one (ps_expr (pe_meth0 (pv 0) T.cl D.rf.mt GR hr3 D.rf.b .nil (pass (takes_of rfl rfl rfl rfl))))) pss_nil)
      (pss_one (ps_ret (pe_meth0 (pv 0) T.cl D.mv.mt GM hr D.mv.b .nil (pass (takes_of rfl rfl rfl rfl))))), ?_⟩
    obtain ⟨dx, tk, rs, h1, h2, h3⟩ := id hp.at_
    refine ⟨_, rfl, x, dx, _, rfl, h1, rfl, (by show 2 ≤ sizeLine; decide), fun t ht => ?_⟩
    have hp2 := hp.new (o := .tup [V.str (Str.ofString "number"), V.str (Str.ofString "word")]) ht
    have q2 := Dn.from hp2 ((SameBut.refl x H).new ht) q
    have h12 := new_keep (o' := .tup [V.str (Str.ofString "number"), V.str (Str.ofString "word")]) h1 ht
    refine ⟨x, p, i, d, kKey, [wNumber, wWord], t, (by rw [eKey]; rfl), hp2, by decide, SqT.of (by rw [upd_same, eNumb, eWordw]; rfl), _, rfl, ?_⟩
    unfold Ps.oneSort at q2
    cases c : p.sees i kKey [wNumber, wWord] with
    | true =>
      refine if_false_of rfl ?_
      rw [if_pos c] at q2
      exact ⟨_, rfl, x, dx, _, rfl, h12, rfl, x, p, i, d, rfl, hp2, sees_lt c (by decide), Dn.bind q2 fun a i2 H' v e s hp' r q' => by
        obtain rfl : v = tvV a := r
        exact q' H' _ (SameBut.refl x H') hp' (tp_tv a)⟩
    | false =>
      refine if_true_of rfl ?_
      rw [if_neg (by rw [c]; exact Bool.false_ne_true)] at q2
      exact ⟨_, rfl, x, dx, _, rfl, h12, rfl, x, p, i, d, rfl, hp2, q2⟩
theorem scValue : FnScope ["self"] ["self"] (defScope (sM 16)) := ⟨rfl, rfl, rfl, by decide +kernel, rfl, by decide +kernel, by decide +kernel⟩
theorem ok_value {f : Addr} {fd : FuncData} (F : Fun K "value" "Parser.value" (sM 16) f fd) (D : Dms K C fRf fR fK fS fM fW fAc fSg fN dRf dR dK dS dM dW dAc dSg dN) (T : PTxt P K mg C CR fI) : FnOk P w K mg base (L2.CX P w) 6 f fd ["self"] (spM C CR rTp Ps.value) := by
  have GR : FnOk P w K mg base (L2.CX P w) 3 fRf dRf ["self"] (spRefuse C CR) := ok_refuse D.rf.fn T D.rd
  have GK : FnOk P w K mg base CX0 2 fK dK ["self"] (spKind C) := ok_kind D.kd.fn T D.rd
  have GM : FnOk P w K mg base (L2.CX P w) 4 fM dM ["self"] (spMove C CR) := ok_move D T
  have GA : FnOk P w K mg base (L2.CX P w) 5 fAc dAc ["self", "kind", "word"] (spAcc C CR) := ok_acc D T
  have GW : FnOk P w K mg base (L2.CX P w) 5 fW dW ["self", "kind"] (spWant C CR) := ok_want D T
  refine F.okX scValue (fun us H Q E h => ?_) (fun cdv A outer s H us Q E hr h => ?_)
  · obtain ⟨x, p, i, d, rfl, _⟩ := h
    rfl
  · obtain ⟨x, p, i, d, rfl, hp, q⟩ := h
    have hr2 : Room 2 _ := hr.mono (by decide)
    have hr3 : Room 3 _ := hr.mono (by decide)
    have hr4 : Room 4 _ := hr.mono (by decide)
    refine ⟨_, pss_cons (ps_if (pt_val (pe_meth (pv 0) T.cl D.ac.mt GA hr D.ac.b .nil (pass (takes_of rfl rfl rfl rfl)) (pa_cons pe_str (pa_cons pe_str pa_nil))))
        (pss_one (ps_ret (pe_tup (pa_cons pe_str (pa_cons (pe_un un_neg (pe_meth (pv 0) T.cl D.wa.mt GW hr D.wa.b .nil (pass (takes_of rfl rfl rfl rfl)) (pa_cons pe_str pa_nil))) pa_nil))))) pss_nil)
      (pss_cons (ps_if (pt_cmpR op_notIn_seq (pe_meth0 (pv 0) T.cl D.kd.mt GK hr2 D.kd.b .nil pass0) (pe_tup (pa_cons pe_str (pa_cons pe_str pa_nil))) rfl) (pss_one (ps_expr (pe_meth0 (pv 0) T.cl D.rf.mt GR hr3 D.rf.b .nil (pass (takes_of rfl rfl rfl rfl))))) pss_nil)
      (pss_one (ps_ret (pe_tup (pa_cons pe_str (pa_cons (pe_meth0 (pv 0) T.cl D.mv.mt GM hr4 D.mv.b .nil (pass (takes_of rfl rfl rfl rfl))) pa_nil)))))), ?_⟩
    obtain ⟨dx, tk, rs, h1, h2, h3⟩ := id hp.at_
    unfold Ps.value at q
    refine ⟨_, rfl, x, dx, _, rfl, h1, rfl, x, p, i, d, kSign, gMinus, (by rw [eSign, eMinus]; rfl), hp, by decide, Dn.bind q fun b i2 H2 v _ s2 hp2 r q2 => ?_⟩
    obtain rfl : v = .bl b := r
    refine ⟨_, rfl, ?_⟩
    obtain ⟨dx2, tk2, rs2, h12, _⟩ := id hp2.at_
    cases b with
    | true =>
      refine if_true_of rfl ?_
      rw [if_pos rfl] at q2
      refine ⟨_, rfl, x, dx2, _, rfl, h12, rfl, x, p, i2, d, kNum, (by rw [eNum]; rfl), hp2, by decide, Dn.bind q2 fun v i3 H3 u e s3 hp3 r q3 => ?_⟩
      obtain ⟨n, rfl⟩ := want_num hp.ok e
      obtain rfl : u = tvV (.n n) := r
      refine ⟨(n : Int), rfl, (by show 2 ≤ sizeLine; decide), fun t ht => ?_⟩
      refine q3 _ _ ((SameBut.refl x H3).new ht) (hp3.new ht) ?_
      have z := tp_pair ht (tp_str (H := H3) wValue) (Tp.int (-(n : Int)))
      rw [vs, ← eValue] at z
      exact z
    | false =>
      refine if_false_of rfl ?_
      rw [if_neg Bool.false_ne_true] at q2
      refine ⟨_, rfl, x, dx2, _, rfl, h12, rfl, x, p, i2, d, rfl, hp2, (by show 2 ≤ sizeLine; decide), fun t ht => ?_⟩
      have eT : [V.str (Str.ofString "number"), V.str (Str.ofString "quoted")] = [kNum, kQuo].map vs := by rw [eNum, eQuo]; rfl
      rw [eT]
      have hp3 := hp2.new (o := .tup ([kNum, kQuo].map vs)) ht
      have q3 := Dn.from hp3 ((SameBut.refl x H2).new ht) q2
      have h13 := new_keep (o' := .tup ([kNum, kQuo].map vs)) h12 ht
      refine ⟨t, _, rfl, .inr (SqT.of upd_same), rfl, flat_strs _, _, rfl, ?_⟩
      rw [if_pos rfl, inV_strs]
      by_cases c : p.kind i2 = kNum ∨ p.kind i2 = kQuo
      · rw [if_pos c] at q3
        refine if_false_of (by rw [decide_eq_true (by simpa using c)]; rfl) ?_
        have lt : i2 < p.ts.length := c.elim (fun c => kind_lt c (by decide)) (fun c => kind_lt c (by decide))
        refine ⟨_, rfl, x, dx2, _, rfl, h13, rfl, x, p, i2, d, rfl, hp3, lt, Dn.bind q3 fun v i3 H3 u e s3 hp4 r q4 => ?_⟩
        obtain rfl : u = tvV v := r
        refine ⟨(by show 2 ≤ sizeLine; decide), fun t ht => ?_⟩
        refine q4 _ _ ((SameBut.refl x H3).new ht) (hp4.new ht) ?_
        have z := tp_pair ht (tp_str (H := H3) wValue) (tp_tv v)
        rw [vs, ← eValue] at z
        exact z
      · rw [if_neg c] at q3
        refine if_true_of (by rw [decide_eq_false (by simpa using c)]; rfl) ?_
        exact ⟨_, rfl, x, dx2, _, rfl, h13, rfl, x, p, i2, d, rfl, hp3, q3⟩
end
end K9
set_option Elab.async false
set_option linter.all false
set_option maxRecDepth 100000
namespace K9
open PySem L2 PyProof.Rows
theorem next_most {p : Ps} {m i i2 : Nat} (h : p.next m m i = .ok true i2) : False := by
  unfold Ps.next at h
  split at h
  · cases h
  · rename_i c
    have c' : p.sees i kSign [gComma] = false := by
      cases z : p.sees i kSign [gComma] with
      | true => exact absurd ⟨z, rfl⟩ c
      | false => rfl
    unfold Ps.accepts at h
    rw [if_neg (by rw [c']; exact Bool.false_ne_true)] at h
    cases h
section
variable {P : Program} {w : World} {K : PySem.W.Frag} {mg : Str → Option Value} {base : Heap}
variable {fRf fR fK fS fM fW fAc fSg fN C CR fI : Addr} {dRf dR dK dS dM dW dAc dSg dN : FuncData}
theorem SameBut.keep {x : Addr} {H H' : Hp} (s : SameBut x H H') {q : Addr} {o : HO} (h : H q = some o) (n : q ≠ x) : H' q = some o := s q o n h
theorem TpAll.but {x : Addr} {p : Pt} {H H' : Hp} {i d : Nat} (s : SameBut x H H') (hp : PAt C p H x i d) {vs : List V} {ds : List PyData} (h : TpAll H vs ds) : TpAll H' vs ds := h.keep (s.tup hp)
theorem Tp.but {x : Addr} {p : Pt} {H H' : Hp} {i d : Nat} (s : SameBut x H H') (hp : PAt C p H x i d) {v : V} {e : PyData} (h : Tp H v e) : Tp H' v e := h.keep (s.tup hp)
theorem TpAll.put {l : Addr} {xs ys : List V} {H : Hp} (hl : H l = some (.lst xs)) {vs : List V} {ds : List PyData} (h : TpAll H vs ds) : TpAll (upd H l (.lst ys)) vs ds := h.keep fun a zs e => by
  rw [upd_ne (ne_of e hl (by intro z; cases z))]
  exact e
theorem Tp.put {l : Addr} {xs ys : List V} {H : Hp} (hl : H l = some (.lst xs)) {v : V} {d : PyData} (h : Tp H v d) : Tp (upd H l (.lst ys)) v d := h.keep fun a zs e => by
  rw [upd_ne (ne_of e hl (by intro z; cases z))]
  exact e
theorem TpAll.new {q : Addr} {o : HO} {H : Hp} (hq : H q = none) {vs : List V} {ds : List PyData} (h : TpAll H vs ds) : TpAll (upd H q o) vs ds := h.keep fun a zs e => new_keep e hq
theorem Tp.new {q : Addr} {o : HO} {H : Hp} (hq : H q = none) {v : V} {d : PyData} (h : Tp H v d) : Tp (upd H q o) v d := h.keep fun a zs e => new_keep e hq
/-- a list of the def's own changes -/
theorem PAt.lst {x l : Addr} {p : Pt} {H : Hp} {i d : Nat} {xs ys : List V} (h : PAt C p H x i d) (hl : H l = some (.lst xs)) (hn : p.tk ≠ l) : PAt C p (upd H l (.lst ys)) x i d := by
  obtain ⟨dx, tk, rs, h1, h2, h3⟩ := h.at_
  have n1 : x ≠ l := ne_of h1 hl (by intro z; cases z)
  have n2 : tk ≠ l := by rw [h.tkq _ _ h1]; exact hn
  refine ⟨h.ok, h.le, h.op, ⟨dx, tk, rs, by rw [upd_ne n1]; exact h1, by rw [upd_ne n2]; exact h2, Paired.imp (TokAt.keep fun a zs e => by rw [upd_ne (ne_of e hl (by intro z; cases z))]; exact e) h3⟩, fun dx' tk' e => ?_⟩
  rw [upd_ne n1] at e
  exact h.tkq _ _ e
theorem PAt.ntk {x q : Addr} {p : Pt} {H : Hp} {i d : Nat} (h : PAt C p H x i d) (hq : H q = none) : p.tk ≠ q := by
  obtain ⟨dx, tk, rs, h1, h2, h3⟩ := h.at_
  rw [← h.tkq _ _ h1]
  exact ne_of_none h2 hq
theorem PAt.nx {x q : Addr} {p : Pt} {H : Hp} {i d : Nat} (h : PAt C p H x i d) (hq : H q = none) : q ≠ x := by
  obtain ⟨dx, tk, rs, h1, h2, h3⟩ := h.at_
  exact (ne_of_none h1 hq).symm
def spTerm (C CR : Addr) : Sp := fun us H Q E => ∃ (x : Addr) (p : Pt) (i d : Nat) (b : Bool), us = [.ref x, .bl b] ∧ PAt C p H x i d ∧ Dn C CR p x d H Q E rTp (p.term b i)
theorem scTerm : FnScope ["self", "in_head", "word"] ["self", "in_head"] (defScope (sM 15)) := ⟨rfl, rfl, rfl, by decide +kernel, rfl, by decide +kernel, by decide +kernel⟩
theorem ok_term {f fV : Addr} {fd fdV : FuncData} (F : Fun K "term" "Parser.term" (sM 15) f fd) (D : Dms K C fRf fR fK fS fM fW fAc fSg fN dRf dR dK dS dM dW dAc dSg dN) (DV : Dm K C "value" "Parser.value" (sM 16) ["self"] fV fdV) (T : PTxt P K mg C CR fI) :
    FnOk P w K mg base (L2.CX P w) 7 f fd ["self", "in_head"] (spTerm C CR) := by
  have GK : FnOk P w K mg base CX0 2 fK dK ["self"] (spKind C) := ok_kind D.kd.fn T D.rd
  have GS : FnOk P w K mg base CX0 3 fS dS ["self", "kind", "words"] (spSees K C) := ok_sees D.se.fn T D.kd D.rd
  have GM : FnOk P w K mg base (L2.CX P w) 4 fM dM ["self"] (spMove C CR) := ok_move D T
  have GA : FnOk P w K mg base (L2.CX P w) 5 fAc dAc ["self", "kind", "word"] (spAcc C CR) := ok_acc D T
  have GW : FnOk P w K mg base (L2.CX P w) 5 fW dW ["self", "kind"] (spWant C CR) := ok_want D T
  have GV : FnOk P w K mg base (L2.CX P w) 6 fV fdV ["self"] (spM C CR rTp Ps.value) := ok_value DV.fn D T
  refine F.okX scTerm (fun us H Q E h => ?_) (fun cdv A outer s H us Q E hr h => ?_)
  · obtain ⟨x, p, i, d, b, rfl, _⟩ := h
    rfl
  · obtain ⟨x, p, i, d, b, rfl, hp, q⟩ := h
    have hr2 : Room 2 _ := hr.mono (by decide)
    have hr3 : Room 3 _ := hr.mono (by decide)
    have hr4 : Room 4 _ := hr.mono (by decide)
    have hr5 : Room 5 _ := hr.mono (by decide)
    refine ⟨_, C8.pss_cut (ps_if (PW.pt (pw_and (pt_val (pv 1)) (pw_and1 (pt_val (pe_meth (pv 0) T.cl D.ac.mt GA hr5 D.ac.b .nil (pass (takes_of rfl rfl rfl rfl)) (pa_cons pe_str (pa_cons pe_str pa_nil))))))) (pss_one (ps_ret (pe_tup (pa_cons pe_str pa_nil)))) pss_nil)
      (C8.pss_cut (ps_if (PW.pt (pw_and (pt_val (pv 1)) (pw_and1 (pt_val (pe_meth (pv 0) T.cl D.se.mt GS hr3 D.se.b .nil pass0 (pa_cons pe_str (pa_cons (pe_tup (pa_cons pe_str (pa_cons pe_str (pa_cons pe_str pa_nil)))) pa_nil)))))))
        (pss_cons (ps_set (i := 2) scTerm.nd rfl (Or.inl rfl) (pe_meth0 (pv 0) T.cl D.mv.mt GM hr4 D.mv.b .nil (pass (takes_of rfl rfl rfl rfl)))) (pss_one (ps_ret (pe_tup (pa_cons (pv 2) (pa_cons (pe_meth (pv 0) T.cl D.wa.mt GW hr5 D.wa.b .nil (pass (takes_of rfl rfl rfl rfl)) (pa_cons pe_str pa_nil)) pa_nil)))))) pss_nil)
      (pss_cons (ps_if (pt_cmpR op_eq (pe_meth0 (pv 0) T.cl D.kd.mt GK hr2 D.kd.b .nil pass0) pe_str (nomark _)) (pss_one (ps_ret (pe_tup (pa_cons pe_str (pa_cons (pe_meth0 (pv 0) T.cl D.mv.mt GM hr4 D.mv.b .nil (pass (takes_of rfl rfl rfl rfl))) pa_nil))))) pss_nil)
      (pss_one (ps_ret (pe_meth0 (pv 0) T.cl DV.mt GV hr DV.b .nil (pass (takes_of rfl rfl rfl rfl))))))), ?_⟩
    obtain ⟨dx, tk, rs, h1, h2, h3⟩ := id hp.at_
    refine ⟨fun σ H' => ∃ i, σ = [some (.ref x), some (.bl b), none] ∧ PAt C p H' x i d ∧ Dn C CR p x d H' Q E rTp (if b = true then (if p.sees i kKey [wSum, wLeast, wMost] = true then (p.move i).bind fun w i => (p.want kName i).bind fun v i => .ok (dT [tvD w, tvD v]) i else p.termB i) else p.termB i), ?_, ?_⟩
    · refine ⟨_, rfl, b, rfl, ?_⟩
      unfold Ps.term at q
      cases b with
      | false =>
        refine if_false_of rfl ?_
        refine if_false_of rfl ?_
        exact ⟨i, rfl, hp, q⟩
      | true =>
        refine if_true_of rfl ?_
        rw [if_pos rfl] at q
        refine ⟨_, rfl, x, dx, _, rfl, h1, rfl, x, p, i, d, kKey, wCount, (by rw [eKey, eCount]; rfl), hp, by decide, Dn.bind q fun c i2 H2 v _ s2 hp2 r q2 => ?_⟩
        obtain rfl : v = .bl c := r
        refine ⟨_, rfl, ?_⟩
        cases c with
        | true =>
          refine if_true_of rfl ?_
          rw [if_pos rfl] at q2
          refine ⟨(by show 1 ≤ sizeLine; decide), fun t ht => q2 _ _ ((SameBut.refl x H2).new ht) (hp2.new ht) ?_⟩
          rw [eCount]
          exact .tup upd_same (.cons (tp_str wCount) .nil)
        | false =>
          refine if_false_of rfl ?_
          rw [if_neg Bool.false_ne_true] at q2
          exact ⟨i2, rfl, hp2, by rw [if_pos rfl]; exact q2⟩
    · rintro σ H2 ⟨i, rfl, hp2, q2⟩
      obtain ⟨dx2, tk2, rs2, h12, _⟩ := id hp2.at_
      refine ⟨fun σ H' => σ = [some (.ref x), some (.bl b), none] ∧ PAt C p H' x i d ∧ Dn C CR p x d H' Q E rTp (p.termB i), ?_, ?_⟩
      · refine ⟨_, rfl, b, rfl, ?_⟩
        cases b with
        | false =>
          refine if_false_of rfl ?_
          refine if_false_of rfl ?_
          exact ⟨rfl, hp2, q2⟩
        | true =>
          refine if_true_of rfl ?_
          rw [if_pos rfl] at q2
          refine ⟨_, rfl, x, dx2, _, rfl, h12, rfl, (by show 3 ≤ sizeLine; decide), fun t ht => ?_⟩
          have eT : [V.str (Str.ofString "sum"), V.str (Str.ofString "least"), V.str (Str.ofString "most")] = [wSum, wLeast, wMost].map vs := by rw [eSum, eLeast, eMostw]; rfl
          rw [eT]
          have hp3 := hp2.new (o := .tup ([wSum, wLeast, wMost].map vs)) ht
          have q3 := Dn.from hp3 ((SameBut.refl x H2).new ht) q2
          have h13 := new_keep (o' := .tup ([wSum, wLeast, wMost].map vs)) h12 ht
          refine ⟨x, p, i, d, kKey, [wSum, wLeast, wMost], t, (by rw [eKey]; rfl), hp3, by decide, SqT.of upd_same, _, rfl, ?_⟩
          cases c : p.sees i kKey [wSum, wLeast, wMost] with
          | true =>
            refine if_true_of rfl ?_
            rw [if_pos c] at q3
            refine ⟨_, rfl, x, dx2, _, rfl, h13, rfl, x, p, i, d, rfl, hp3, sees_lt c (by decide), Dn.bind q3 fun u i4 H4 v _ s4 hp4 r q4 => ?_⟩
            obtain rfl : v = tvV u := r
            obtain ⟨dx4, tk4, rs4, h14, _⟩ := id hp4.at_
            refine ⟨_, rfl, _, rfl, x, dx4, _, rfl, h14, rfl, x, p, i4, d, kName, (by rw [eName]; rfl), hp4, by decide, Dn.bind q4 fun u2 i5 H5 v2 _ s5 hp5 r q5 => ?_⟩
            obtain rfl : v2 = tvV u2 := r
            exact ⟨(by show 2 ≤ sizeLine; decide), fun t ht => q5 _ _ ((SameBut.refl x H5).new ht) (hp5.new ht) (tp_pair ht (tp_tv u) (tp_tv u2))⟩
          | false =>
            refine if_false_of rfl ?_
            rw [if_neg (by rw [c]; exact Bool.false_ne_true)] at q3
            exact ⟨rfl, hp3, q3⟩
      · rintro σ H3 ⟨rfl, hp3, q3⟩
        obtain ⟨dx3, tk3, rs3, h13, _⟩ := id hp3.at_
        unfold Ps.termB at q3
        refine ⟨_, rfl, x, dx3, _, rfl, h13, rfl, x, p, i, d, rfl, hp3, rfl, _, rfl, ?_⟩
        by_cases c : p.kind i = kName
        · rw [if_pos c] at q3
          refine if_true_of (decide_eq_true (by rw [c, eName])) ?_
          refine ⟨_, rfl, x, dx3, _, rfl, h13, rfl, x, p, i, d, rfl, hp3, kind_lt c (by decide), Dn.bind q3 fun u i4 H4 v _ s4 hp4 r q4 => ?_⟩
          obtain rfl : v = tvV u := r
          refine ⟨(by show 2 ≤ sizeLine; decide), fun t ht => q4 _ _ ((SameBut.refl x H4).new ht) (hp4.new ht) ?_⟩
          have z := tp_pair ht (tp_str (H := H4) wVariable) (tp_tv u)
          rw [vs, ← eVari] at z
          exact z
        · rw [if_neg c] at q3
          refine if_false_of (decide_eq_false fun z => c (by rw [eName] at z; exact S_inj.mp (V.str.inj z))) ?_
          exact ⟨_, rfl, x, dx3, _, rfl, h13, rfl, x, p, i, d, rfl, hp3, q3⟩
end
end K9
set_option Elab.async false
set_option linter.all false
set_option maxRecDepth 100000
namespace K9
open PySem L2 PyProof.Rows
theorem more_0 (p : Ps) (most : Nat) (el : Nat → Rs PyData) (acc : List PyData) (i : Nat) : p.more most el 0 acc i = (p.next acc.length most i).bind fun b i => if b = true then .no 0 else .ok acc i := rfl
theorem more_s (p : Ps) (most : Nat) (el : Nat → Rs PyData) (n : Nat) (acc : List PyData) (i : Nat) : p.more most el (n + 1) acc i = (p.next acc.length most i).bind fun b i => if b = true then (el i).bind fun d i => p.more most el n (acc ++ [d]) i else .ok acc i := rfl
section
variable {α β : Type} {C CR x : Addr} {p : Pt} {d : Nat} {H H1 : Hp} {Q Q' : VK} {E : XK} {rep : Hp → V → α → Prop} {rep' : Hp → V → β → Prop}
/-- a call on the way, the wish told of an elder heap -/
theorem Dn.to {r : Rs β} {f : β → Nat → Rs α} {i : Nat} (q : Dn C CR p x d H Q E rep (r.bind f)) (hp : PAt C p H1 x i d) (s : SameBut x H H1)
    (k : ∀ a i2 H' v, r = .ok a i2 → SameBut x H H' → SameBut x H1 H' → PAt C p H' x i2 d → rep' H' v a → Dn C CR p x d H Q E rep (f a i2) → Q' v H') : Dn C CR p x d H1 Q' E rep' r := by
  cases r with
  | no j => exact Dn.from (rep := rep) (r := .no j) hp s q
  | ok a i2 => exact fun H' v s1 hp1 r1 => k a i2 H' v rfl (s.trans s1) s1 hp1 r1 q
theorem SameBut.own {l : Addr} {o : HO} (s : SameBut x H H1) (n : H l = none) : SameBut x H (upd H1 l o) := fun b u nb e => by
  rw [upd_ne (ne_of_none e n)]
  exact s b u nb e
end
section
variable {P : Program} {w : World} {K : PySem.W.Frag} {mg : Str → Option Value} {base : Heap}
variable {fRf fR fK fS fM fW fAc fSg fN C CR fI : Addr} {dRf dR dK dS dM dW dAc dSg dN : FuncData}
def spTerms (C CR : Addr) : Sp := fun us H Q E => ∃ (x : Addr) (p : Pt) (i d : Nat) (b : Bool), us = [.ref x, .bl b] ∧ PAt C p H x i d ∧ Dn C CR p x d H Q E rTp (p.terms b i)
theorem scTerms : FnScope ["self", "in_head", "found"] ["self", "in_head"] (defScope (sM 14)) := ⟨rfl, rfl, rfl, by decide +kernel, rfl, by decide +kernel, by decide +kernel⟩
theorem ok_terms {f fT fV : Addr} {fd fdT fdV : FuncData} (F : Fun K "terms" "Parser.terms" (sM 14) f fd) (D : Dms K C fRf fR fK fS fM fW fAc fSg fN dRf dR dK dS dM dW dAc dSg dN) (DT : Dm K C "term" "Parser.term" (sM 15) ["self", "in_head"] fT fdT) (DV : Dm K C "value" "Parser.value" (sM 16) ["self"] fV fdV)
    (T : PTxt P K mg C CR fI) : FnOk P w K mg base (L2.CX P w) 8 f fd ["self", "in_head"] (spTerms C CR) := by
  have GS : FnOk P w K mg base CX0 3 fS dS ["self", "kind", "words"] (spSees K C) := ok_sees D.se.fn T D.kd D.rd
  have GG : FnOk P w K mg base (L2.CX P w) 6 fSg dSg ["self", "word"] (spSign C CR) := ok_sign D T
  have GN : FnOk P w K mg base (L2.CX P w) 6 fN dN ["self", "count", "most"] (spNx C CR) := ok_nx D T
  have GT : FnOk P w K mg base (L2.CX P w) 7 fT fdT ["self", "in_head"] (spTerm C CR) := ok_term DT.fn D DV T
  refine F.okX scTerms (fun us H Q E h => ?_) (fun cdv A outer s H us Q E hr h => ?_)
  · obtain ⟨x, p, i, d, b, rfl, _⟩ := h
    rfl
  · obtain ⟨x, p, i, d, b, rfl, hp, q⟩ := h
    have hr3 : Room 3 _ := hr.mono (by decide)
    have hr6 : Room 6 _ := hr.mono (by decide)
    refine ⟨_, pss_cons (ps_expr (pe_meth (pv 0) T.cl D.sg.mt GG hr6 D.sg.b .nil (pass (takes_of rfl rfl rfl rfl)) (pa_cons pe_str pa_nil)))
      (pss_cons (ps_set (i := 2) scTerms.nd rfl (Or.inl rfl) (pe_lst pa_nil))
      (C8.pss_cut (ps_if (pt_not (pt_val (pe_meth (pv 0) T.cl D.se.mt GS hr3 D.se.b .nil pass0 (pa_cons pe_str (pa_cons (pe_tup (pa_cons pe_str pa_nil)) pa_nil)))))
          (pss_cons (ps_expr (pe_bm PySem.F.plainAttrs_list PySem.F.slot_list_append PySem.F.type_list_append mt_append (pv 2) (pa_cons (pe_meth (pv 0) T.cl DT.mt GT hr DT.b .nil (pass (takes_of rfl rfl rfl rfl)) (pa_cons (pv 1) pa_nil)) pa_nil)))
            (pss_one (ps_while (passes_of rfl) (pt_val (pe_meth (pv 0) T.cl D.nx.mt GN hr6 D.nx.b .nil (pass (takes_of rfl rfl rfl rfl)) (pa_cons (pe_callB call_len_seq (by rfl) T.len PySem.boot_len (pa_cons (pv 2) pa_nil)) (pa_cons (pe_gi T.MC) pa_nil))))
              (pss_one (ps_expr (pe_bm PySem.F.plainAttrs_list PySem.F.slot_list_append PySem.F.type_list_append mt_append (pv 2) (pa_cons (pe_meth (pv 0) T.cl DT.mt GT hr DT.b .nil (pass (takes_of rfl rfl rfl rfl)) (pa_cons (pv 1) pa_nil)) pa_nil))))))) pss_nil)
      (pss_cons (ps_expr (pe_meth (pv 0) T.cl D.sg.mt GG hr6 D.sg.b .nil (pass (takes_of rfl rfl rfl rfl)) (pa_cons pe_str pa_nil)))
      (pss_one (ps_ret (pe_callTy call_tuple_of (by rfl) T.tuple boot_tuple (pa_cons (pv 2) pa_nil))))))), ?_⟩
    obtain ⟨dx, tk, rs, h1, h2, h3⟩ := id hp.at_
    unfold Ps.terms Ps.row at q
    rw [Rs.bind_assoc] at q
    refine ⟨_, rfl, x, dx, _, rfl, h1, rfl, x, p, i, d, gOpen, (by rw [eOpen]; rfl), hp, Dn.bind q fun u i2 H2 v _ s2 hp2 r q2 => ?_⟩
    rw [Rs.bind_assoc] at q2
    refine ⟨Nat.zero_le _, fun l hl => ?_⟩
    have nlx := hp2.nx hl
    have nlt := hp2.ntk hl
    have hp3 := hp2.new (o := .lst []) hl
    have s3 := (SameBut.refl x H2).new (o := .lst []) hl
    have hl3 : upd H2 l (.lst []) l = some (.lst []) := upd_same
    obtain ⟨dx3, tk3, rs3, h13, _⟩ := id hp3.at_
    generalize upd H2 l (.lst []) = H3 at hp3 s3 hl3 h13
    refine ⟨fun σ H' => ∃ (xs : List PyData) (vL : List V) (i : Nat), σ = [some (.ref x), some (.bl b), some (.ref l)] ∧ PAt C p H' x i d ∧ SameBut x H2 H' ∧ H' l = some (.lst vL) ∧ TpAll H' vL xs ∧ Dn C CR p x d H2 Q E rTp (((p.sign gClose i).bind fun _ i => .ok xs i).bind fun xs i => .ok (dT xs) i), ?_, ?_⟩
    · refine ⟨_, rfl, x, dx3, _, rfl, h13, rfl, (by show 1 ≤ sizeLine; decide), fun t ht => ?_⟩
      have hp4 := hp3.new (o := .tup [V.str (Str.ofString ")")]) ht
      have s4 := s3.new (o := .tup [V.str (Str.ofString ")")]) ht
      have h14 := new_keep (o' := .tup [V.str (Str.ofString ")")]) h13 ht
      have hl4 := new_keep (o' := .tup [V.str (Str.ofString ")")]) hl3 ht
      refine ⟨x, p, i2, d, kSign, [gClose], t, (by rw [eSign]; rfl), hp4, by decide, SqT.of (by rw [upd_same, eClose]; rfl), _, rfl, ?_⟩
      generalize upd H3 t (.tup [V.str (Str.ofString ")")]) = H4 at hp4 s4 h14 hl4
      cases c : p.sees i2 kSign [gClose] with
      | true =>
        refine if_false_of rfl ?_
        rw [if_pos c] at q2
        exact ⟨[], [], i2, rfl, hp4, s4, hl4, .nil, q2⟩
      | false =>
        refine if_true_of rfl ?_
        rw [if_neg (by rw [c]; exact Bool.false_ne_true), Rs.bind_assoc] at q2
        refine ⟨_, rfl, .inl ⟨rfl, _, SqL.of hl4⟩, ?_⟩
        refine ⟨_, rfl, x, dx3, _, rfl, h14, rfl, _, rfl, x, p, i2, d, b, rfl, hp4, Dn.to q2 hp4 s4 fun a i5 H5 v _ s5 s45 hp5 r5 q5 => ?_⟩
        have hl5 := s45.keep hl4 nlx
        refine ⟨l, _, _, rfl, rfl, hl5, by rw [sizeLine_eq]; decide, ?_⟩
        refine ⟨fun m σ H' => ∃ (acc : List PyData) (vL : List V) (i : Nat), σ = [some (.ref x), some (.bl b), some (.ref l)] ∧ PAt C p H' x i d ∧ SameBut x H2 H' ∧ H' l = some (.lst vL) ∧ TpAll H' vL acc ∧ acc.length + m = 6 ∧
            Dn C CR p x d H2 Q E rTp ((p.more 6 (p.term b) m acc i).bind fun xs i => ((p.sign gClose i).bind fun _ i => .ok xs i).bind fun xs i => .ok (dT xs) i),
          ⟨5, [a], [v], i5, rfl, hp5.lst hl5 nlt, s5.own hl, upd_same, .cons (Tp.put hl5 r5) .nil, rfl, q5⟩, ?_⟩
        rintro m σ H6 ⟨acc, vL, i6, rfl, hp6, s6, hl6, ht6, hm, q6⟩
        obtain ⟨dx6, tk6, rs6, h16, _⟩ := id hp6.at_
        have lv := TpAll.length ht6
        have nq : Dn C CR p x d H2 Q E rTp ((p.next vL.length 6 i6).bind fun c i => (if c = true then (if m = 0 then .no 0 else (p.term b i).bind fun d i => p.more 6 (p.term b) (m - 1) (acc ++ [d]) i) else .ok acc i).bind fun xs i => ((p.sign gClose i).bind fun _ i => .ok xs i).bind fun xs i => .ok (dT xs) i) := by
          rw [lv]
          cases m with
          | zero => rw [more_0, Rs.bind_assoc] at q6; exact q6
          | succ m => rw [more_s, Rs.bind_assoc] at q6; exact q6
        refine ⟨_, rfl, x, dx6, _, rfl, h16, rfl, _, rfl, l, vL, rfl, .inl (SqL.of hl6), x, p, i6, d, vL.length, 6, rfl, hp6, Dn.to nq hp6 s6 fun c i7 H7 u e7 s7 s67 hp7 r7 q7 => ?_⟩
        obtain rfl : u = .bl c := r7
        have hl7 := s67.keep hl6 nlx
        have ht7 := ht6.but s67 hp6
        refine ⟨_, rfl, ?_⟩
        cases c with
        | false =>
          refine if_false_of rfl ?_
          rw [if_neg Bool.false_ne_true] at q7
          exact ⟨acc, vL, i7, rfl, hp7, s7, hl7, ht7, q7⟩
        | true =>
          refine if_true_of rfl ?_
          rw [if_pos rfl] at q7
          have m0 : m ≠ 0 := fun z => by
            have : vL.length = 6 := by omega
            rw [this] at e7
            exact next_most e7
          rw [if_neg m0, Rs.bind_assoc] at q7
          obtain ⟨dx7, tk7, rs7, h17, _⟩ := id hp7.at_
          refine ⟨fun σ' H' => ∃ (acc : List PyData) (vL : List V) (i : Nat), σ' = [some (.ref x), some (.bl b), some (.ref l)] ∧ PAt C p H' x i d ∧ SameBut x H2 H' ∧ H' l = some (.lst vL) ∧ TpAll H' vL acc ∧ acc.length + (m - 1) = 6 ∧
            Dn C CR p x d H2 Q E rTp ((p.more 6 (p.term b) (m - 1) acc i).bind fun xs i => ((p.sign gClose i).bind fun _ i => .ok xs i).bind fun xs i => .ok (dT xs) i), fun σ' H' h => ⟨m - 1, by omega, h⟩, ?_⟩
          refine ⟨_, rfl, .inl ⟨rfl, _, SqL.of hl7⟩, ?_⟩
          refine ⟨_, rfl, x, dx7, _, rfl, h17, rfl, _, rfl, x, p, i7, d, b, rfl, hp7, Dn.to q7 hp7 s7 fun a i8 H8 v _ s8 s78 hp8 r8 q8 => ?_⟩
          have hl8 := s78.keep hl7 nlx
          refine ⟨l, _, _, rfl, rfl, hl8, by rw [sizeLine_eq]; omega, ?_⟩
          exact ⟨acc ++ [a], vL ++ [v], i8, rfl, hp8.lst hl8 nlt, s8.own hl, upd_same, TpAll.snoc (Tp.put hl8 r8) (TpAll.put hl8 (ht7.but s78 hp7)), by rw [List.length_append, List.length_singleton]; omega, q8⟩
    · rintro σ H5 ⟨xs, vL, i5, rfl, hp5, s5, hl5, ht5, q5⟩
      obtain ⟨dx5, tk5, rs5, h15, _⟩ := id hp5.at_
      rw [Rs.bind_assoc] at q5
      refine ⟨_, rfl, x, dx5, _, rfl, h15, rfl, x, p, i5, d, gClose, (by rw [eClose]; rfl), hp5, Dn.to q5 hp5 s5 fun u i6 H6 v _ s6 s56 hp6 r q6 => ?_⟩
      have hl6 := s56.keep hl5 nlx
      refine ⟨_, rfl, l, vL, rfl, .inl ⟨SqL.of hl6, fun t ht => ?_⟩⟩
      exact q6 _ _ (s6.new ht) (hp6.new ht) (.tup upd_same ((ht5.but s56 hp5).new ht))
end
end K9
set_option Elab.async false
set_option linter.all false
set_option maxRecDepth 100000
namespace K9
open PySem L2 PyProof.Rows
section
variable {P : Program} {w : World} {K : PySem.W.Frag} {mg : Str → Option Value} {base : Heap}
variable {fRf fR fK fS fM fW fAc fSg fN C CR fI : Addr} {dRf dR dK dS dM dW dAc dSg dN : FuncData}
def spRel (C CR : Addr) : Sp := fun us H Q E => ∃ (x : Addr) (p : Pt) (i d : Nat), us = [.ref x] ∧ PAt C p H x i d ∧ i < p.ts.length ∧ Dn C CR p x d H Q E rTp (p.relation i)
theorem scRel : FnScope ["self", "word", "name", "sorts"] ["self"] (defScope (sM 11)) := ⟨rfl, rfl, rfl, by decide +kernel, rfl, by decide +kernel, by decide +kernel⟩
theorem ok_rel {f fO : Addr} {fd fdO : FuncData} (F : Fun K "relation" "Parser.relation" (sM 11) f fd) (D : Dms K C fRf fR fK fS fM fW fAc fSg fN dRf dR dK dS dM dW dAc dSg dN) (DO : Dm K C "one_sort" "Parser.one_sort" (sM 12) ["self"] fO fdO)
    (T : PTxt P K mg C CR fI) : FnOk P w K mg base (L2.CX P w) 7 f fd ["self"] (spRel C CR) := by
  have GS : FnOk P w K mg base CX0 3 fS dS ["self", "kind", "words"] (spSees K C) := ok_sees D.se.fn T D.kd D.rd
  have GM : FnOk P w K mg base (L2.CX P w) 4 fM dM ["self"] (spMove C CR) := ok_move D T
  have GW : FnOk P w K mg base (L2.CX P w) 5 fW dW ["self", "kind"] (spWant C CR) := ok_want D T
  have GG : FnOk P w K mg base (L2.CX P w) 6 fSg dSg ["self", "word"] (spSign C CR) := ok_sign D T
  have GN : FnOk P w K mg base (L2.CX P w) 6 fN dN ["self", "count", "most"] (spNx C CR) := ok_nx D T
  have GO : FnOk P w K mg base (L2.CX P w) 5 fO fdO ["self"] (spM C CR rTp Ps.oneSort) := ok_sort DO.fn D T
  refine F.okX scRel (fun us H Q E h => ?_) (fun cdv A outer s H us Q E hr h => ?_)
  · obtain ⟨x, p, i, d, rfl, _⟩ := h
    rfl
  · obtain ⟨x, p, i, d, rfl, hp, lt, q⟩ := h
    have hr3 : Room 3 _ := hr.mono (by decide)
    have hr4 : Room 4 _ := hr.mono (by decide)
    have hr5 : Room 5 _ := hr.mono (by decide)
    refine ⟨_, pss_cons (ps_set (i := 1) scRel.nd rfl (Or.inl rfl) (pe_meth0 (pv 0) T.cl D.mv.mt GM hr4 D.mv.b .nil (pass (takes_of rfl rfl rfl rfl))))
      (pss_cons (ps_set (i := 2) scRel.nd rfl (Or.inl rfl) (pe_meth (pv 0) T.cl D.wa.mt GW hr5 D.wa.b .nil (pass (takes_of rfl rfl rfl rfl)) (pa_cons pe_str pa_nil)))
      (pss_cons (ps_expr (pe_meth (pv 0) T.cl D.sg.mt GG hr D.sg.b .nil (pass (takes_of rfl rfl rfl rfl)) (pa_cons pe_str pa_nil)))
      (pss_cons (ps_set (i := 3) scRel.nd rfl (Or.inl rfl) (pe_lst pa_nil))
      (C8.pss_cut (ps_if (pt_not (pt_val (pe_meth (pv 0) T.cl D.se.mt GS hr3 D.se.b .nil pass0 (pa_cons pe_str (pa_cons (pe_tup (pa_cons pe_str pa_nil)) pa_nil)))))
          (pss_cons (ps_expr (pe_bm PySem.F.plainAttrs_list PySem.F.slot_list_append PySem.F.type_list_append mt_append (pv 3) (pa_cons (pe_meth0 (pv 0) T.cl DO.mt GO hr5 DO.b .nil (pass (takes_of rfl rfl rfl rfl))) pa_nil)))
            (pss_one (ps_while (passes_of rfl) (pt_val (pe_meth (pv 0) T.cl D.nx.mt GN hr D.nx.b .nil (pass (takes_of rfl rfl rfl rfl)) (pa_cons (pe_callB call_len_seq (by rfl) T.len PySem.boot_len (pa_cons (pv 3) pa_nil)) (pa_cons (pe_gi T.MC) pa_nil))))
              (pss_one (ps_expr (pe_bm PySem.F.plainAttrs_list PySem.F.slot_list_append PySem.F.type_list_append mt_append (pv 3) (pa_cons (pe_meth0 (pv 0) T.cl DO.mt GO hr5 DO.b .nil (pass (takes_of rfl rfl rfl rfl))) pa_nil))))))) pss_nil)
      (pss_cons (ps_expr (pe_meth (pv 0) T.cl D.sg.mt GG hr D.sg.b .nil (pass (takes_of rfl rfl rfl rfl)) (pa_cons pe_str pa_nil)))
      (pss_one (ps_ret (pe_tup (pa_cons (pv 1) (pa_cons (pv 2) (pa_cons (pe_callTy call_tuple_of (by rfl) T.tuple boot_tuple (pa_cons (pv 3) pa_nil)) pa_nil))))))))))), ?_⟩
    obtain ⟨dxa, tka, rsa, h1a, _⟩ := id hp.at_
    unfold Ps.relation Ps.row at q
    refine ⟨_, rfl, x, dxa, _, rfl, h1a, rfl, x, p, i, d, rfl, hp, lt, Dn.bind q fun wo ib Hb v _ sb hpb r qb => ?_⟩
    obtain rfl : v = tvV wo := r
    obtain ⟨dxb, tkb, rsb, h1b, _⟩ := id hpb.at_
    refine ⟨_, rfl, x, dxb, _, rfl, h1b, rfl, x, p, ib, d, kName, (by rw [eName]; rfl), hpb, by decide, Dn.bind qb fun na i0 H0 v _ s0 hp0 r q0 => ?_⟩
    obtain rfl : v = tvV na := r
    obtain ⟨dx, tk, rs, h1, h2, h3⟩ := id hp0.at_
    rw [Rs.bind_assoc] at q0
    refine ⟨_, rfl, x, dx, _, rfl, h1, rfl, x, p, i0, d, gOpen, (by rw [eOpen]; rfl), hp0, Dn.bind q0 fun u i2 H2 v _ s2 hp2 r q2 => ?_⟩
    rw [Rs.bind_assoc] at q2
    refine ⟨Nat.zero_le _, fun l hl => ?_⟩
    have nlx := hp2.nx hl
    have nlt := hp2.ntk hl
    have hp3 := hp2.new (o := .lst []) hl
    have s3 := (SameBut.refl x H2).new (o := .lst []) hl
    have hl3 : upd H2 l (.lst []) l = some (.lst []) := upd_same
    obtain ⟨dx3, tk3, rs3, h13, _⟩ := id hp3.at_
    generalize upd H2 l (.lst []) = H3 at hp3 s3 hl3 h13
    refine ⟨fun σ H' => ∃ (xs : List PyData) (vL : List V) (i : Nat), σ = [some (.ref x), some (tvV wo), some (tvV na), some (.ref l)] ∧ PAt C p H' x i d ∧ SameBut x H2 H' ∧ H' l = some (.lst vL) ∧ TpAll H' vL xs ∧ Dn C CR p x d H2 Q E rTp (((p.sign gClose i).bind fun _ i => .ok xs i).bind fun xs i => .ok (dT [tvD wo, tvD na, dT xs]) i), ?_, ?_⟩
    · refine ⟨_, rfl, x, dx3, _, rfl, h13, rfl, (by show 1 ≤ sizeLine; decide), fun t ht => ?_⟩
      have hp4 := hp3.new (o := .tup [V.str (Str.ofString ")")]) ht
      have s4 := s3.new (o := .tup [V.str (Str.ofString ")")]) ht
      have h14 := new_keep (o' := .tup [V.str (Str.ofString ")")]) h13 ht
      have hl4 := new_keep (o' := .tup [V.str (Str.ofString ")")]) hl3 ht
      refine ⟨x, p, i2, d, kSign, [gClose], t, (by rw [eSign]; rfl), hp4, by decide, SqT.of (by rw [upd_same, eClose]; rfl), _, rfl, ?_⟩
      generalize upd H3 t (.tup [V.str (Str.ofString ")")]) = H4 at hp4 s4 h14 hl4
      cases c : p.sees i2 kSign [gClose] with
      | true =>
        refine if_false_of rfl ?_
        rw [if_pos c] at q2
        exact ⟨[], [], i2, rfl, hp4, s4, hl4, .nil, q2⟩
      | false =>
        refine if_true_of rfl ?_
        rw [if_neg (by rw [c]; exact Bool.false_ne_true), Rs.bind_assoc] at q2
        refine ⟨_, rfl, .inl ⟨rfl, _, SqL.of hl4⟩, ?_⟩
        refine ⟨_, rfl, x, dx3, _, rfl, h14, rfl, x, p, i2, d, rfl, hp4, Dn.to q2 hp4 s4 fun a i5 H5 v _ s5 s45 hp5 r5 q5 => ?_⟩
        have hl5 := s45.keep hl4 nlx
        refine ⟨l, _, _, rfl, rfl, hl5, by rw [sizeLine_eq]; decide, ?_⟩
        refine ⟨fun m σ H' => ∃ (acc : List PyData) (vL : List V) (i : Nat), σ = [some (.ref x), some (tvV wo), some (tvV na), some (.ref l)] ∧ PAt C p H' x i d ∧ SameBut x H2 H' ∧ H' l = some (.lst vL) ∧ TpAll H' vL acc ∧ acc.length + m = 6 ∧
            Dn C CR p x d H2 Q E rTp ((p.more 6 p.oneSort m acc i).bind fun xs i => ((p.sign gClose i).bind fun _ i => .ok xs i).bind fun xs i => .ok (dT [tvD wo, tvD na, dT xs]) i),
          ⟨5, [a], [v], i5, rfl, hp5.lst hl5 nlt, s5.own hl, upd_same, .cons (Tp.put hl5 r5) .nil, rfl, q5⟩, ?_⟩
        rintro m σ H6 ⟨acc, vL, i6, rfl, hp6, s6, hl6, ht6, hm, q6⟩
        obtain ⟨dx6, tk6, rs6, h16, _⟩ := id hp6.at_
        have lv := TpAll.length ht6
        have nq : Dn C CR p x d H2 Q E rTp ((p.next vL.length 6 i6).bind fun c i => (if c = true then (if m = 0 then .no 0 else (p.oneSort i).bind fun d i => p.more 6 p.oneSort (m - 1) (acc ++ [d]) i) else .ok acc i).bind fun xs i => ((p.sign gClose i).bind fun _ i => .ok xs i).bind fun xs i => .ok (dT [tvD wo, tvD na, dT xs]) i) := by
          rw [lv]
          cases m with
          | zero => rw [more_0, Rs.bind_assoc] at q6; exact q6
          | succ m => rw [more_s, Rs.bind_assoc] at q6; exact q6
        refine ⟨_, rfl, x, dx6, _, rfl, h16, rfl, _, rfl, l, vL, rfl, .inl (SqL.of hl6), x, p, i6, d, vL.length, 6, rfl, hp6, Dn.to nq hp6 s6 fun c i7 H7 u e7 s7 s67 hp7 r7 q7 => ?_⟩
        obtain rfl : u = .bl c := r7
        have hl7 := s67.keep hl6 nlx
        have ht7 := ht6.but s67 hp6
        refine ⟨_, rfl, ?_⟩
        cases c with
        | false =>
          refine if_false_of rfl ?_
          rw [if_neg Bool.false_ne_true] at q7
          exact ⟨acc, vL, i7, rfl, hp7, s7, hl7, ht7, q7⟩
        | true =>
          refine if_true_of rfl ?_
          rw [if_pos rfl] at q7
          have m0 : m ≠ 0 := fun z => by
            have : vL.length = 6 := by omega
            rw [this] at e7
            exact next_most e7
          rw [if_neg m0, Rs.bind_assoc] at q7
          obtain ⟨dx7, tk7, rs7, h17, _⟩ := id hp7.at_
          refine ⟨fun σ' H' => ∃ (acc : List PyData) (vL : List V) (i : Nat), σ' = [some (.ref x), some (tvV wo), some (tvV na), some (.ref l)] ∧ PAt C p H' x i d ∧ SameBut x H2 H' ∧ H' l = some (.lst vL) ∧ TpAll H' vL acc ∧ acc.length + (m - 1) = 6 ∧
            Dn C CR p x d H2 Q E rTp ((p.more 6 p.oneSort (m - 1) acc i).bind fun xs i => ((p.sign gClose i).bind fun _ i => .ok xs i).bind fun xs i => .ok (dT [tvD wo, tvD na, dT xs]) i), fun σ' H' h => ⟨m - 1, by omega, h⟩, ?_⟩
          refine ⟨_, rfl, .inl ⟨rfl, _, SqL.of hl7⟩, ?_⟩
          refine ⟨_, rfl, x, dx7, _, rfl, h17, rfl, x, p, i7, d, rfl, hp7, Dn.to q7 hp7 s7 fun a i8 H8 v _ s8 s78 hp8 r8 q8 => ?_⟩
          have hl8 := s78.keep hl7 nlx
          refine ⟨l, _, _, rfl, rfl, hl8, by rw [sizeLine_eq]; omega, ?_⟩
          exact ⟨acc ++ [a], vL ++ [v], i8, rfl, hp8.lst hl8 nlt, s8.own hl, upd_same, TpAll.snoc (Tp.put hl8 r8) (TpAll.put hl8 (ht7.but s78 hp7)), by rw [List.length_append, List.length_singleton]; omega, q8⟩
    · rintro σ H5 ⟨xs, vL, i5, rfl, hp5, s5, hl5, ht5, q5⟩
      obtain ⟨dx5, tk5, rs5, h15, _⟩ := id hp5.at_
      rw [Rs.bind_assoc] at q5
      refine ⟨_, rfl, x, dx5, _, rfl, h15, rfl, x, p, i5, d, gClose, (by rw [eClose]; rfl), hp5, Dn.to q5 hp5 s5 fun u i6 H6 v _ s6 s56 hp6 r q6 => ?_⟩
      have hl6 := s56.keep hl5 nlx
      refine ⟨_, rfl, _, rfl, _, rfl, l, vL, rfl, .inl ⟨SqL.of hl6, fun t ht => ⟨(by show 3 ≤ sizeLine; decide), fun t2 ht2 => ?_⟩⟩⟩
      have tx : Tp (upd H6 t (.tup vL)) (.ref t) (dT xs) := .tup upd_same ((ht5.but s56 hp5).new ht)
      exact q6 _ _ ((s6.new ht).new ht2) ((hp6.new ht).new ht2) (.tup upd_same (.cons ((tp_tv wo).new ht2) (.cons ((tp_tv na).new ht2) (.cons (tx.new ht2) .nil))))
end
end K9
set_option Elab.async false
set_option linter.all false
set_option maxRecDepth 100000
namespace K9
open PySem L2 PyProof.Rows
theorem opRow_0 (p : Ps) (se : Nat → Bool) (el : Nat → Rs PyData) (t : PyData) (i : Nat) : p.opRow se el 0 t i = if se i = true then .no (p.at i) else .ok t i := rfl
theorem opRow_s (p : Ps) (se : Nat → Bool) (el : Nat → Rs PyData) (n : Nat) (t : PyData) (i : Nat) : p.opRow se el (n + 1) t i = if se i = true then (p.move i).bind fun s i => (el i).bind fun u i => p.opRow se el n (dT [dS wOp, tvD s, t, u]) i else .ok t i := rfl
theorem eOp : Str.ofString "op" = S wOp := by decide +kernel
theorem ePlus : Str.ofString "+" = S gPlus := by decide +kernel
theorem eTimes : Str.ofString "*" = S gTimes := by decide +kernel
theorem eDiv : Str.ofString "/" = S gDiv := by decide +kernel
theorem eMod : Str.ofString "mod" = S wMod := by decide +kernel
section
variable {α β : Type} {C CR x : Addr} {p : Pt} {d e : Nat} {H H1 : Hp} {Q Q' : VK} {E : XK} {rep : Hp → V → α → Prop} {rep' : Hp → V → β → Prop}
theorem Dn.tod {r : Rs β} {f : β → Nat → Rs α} {i : Nat} (q : Dn C CR p x d H Q E rep (r.bind f)) (hp : PAt C p H1 x i e) (s : SameBut x H H1)
    (k : ∀ a i2 H' v, r = .ok a i2 → SameBut x H H' → SameBut x H1 H' → PAt C p H' x i2 e → rep' H' v a → Dn C CR p x d H Q E rep (f a i2) → Q' v H') : Dn C CR p x e H1 Q' E rep' r := by
  cases r with
  | no j => exact fun H' e s1 n1 x1 => q H' e (s.trans s1) (SameBut.free hp s n1) x1
  | ok a i2 => exact fun H' v s1 hp1 r1 => k a i2 H' v rfl (s.trans s1) s1 hp1 r1 q
end
section
variable {P : Program} {w : World} {K : PySem.W.Frag} {mg : Str → Option Value} {base : Heap}
variable {fRf fR fK fS fM fW fAc fSg fN C CR fI : Addr} {dRf dR dK dS dM dW dAc dSg dN : FuncData}
/-! ### one_more -/
def spOne (C CR : Addr) : Sp := fun us H Q E => ∃ (x : Addr) (p : Pt) (i d n : Nat), us = [.ref x, .int (n : Int)] ∧ PAt C p H x i d ∧ (n = 12 → ∀ H' e, SameBut x H H' → H e = none → H' e = some (.xd [(("position" : Str), .int (p.at i : Int))]) → E (.ref CR) (some e) H') ∧ (n ≠ 12 → Q (.int ((n + 1 : Nat) : Int)) H)
theorem scOne : FnScope ["self", "count"] ["self", "count"] (defScope (sM 21)) := ⟨rfl, rfl, rfl, by decide +kernel, rfl, by decide +kernel, by decide +kernel⟩
theorem ok_one {f : Addr} {fd : FuncData} (F : Fun K "one_more" "Parser.one_more" (sM 21) f fd) (D : Dms K C fRf fR fK fS fM fW fAc fSg fN dRf dR dK dS dM dW dAc dSg dN) (T : PTxt P K mg C CR fI) : FnOk P w K mg base (L2.CX P w) 4 f fd ["self", "count"] (spOne C CR) := by
  have GR : FnOk P w K mg base (L2.CX P w) 3 fRf dRf ["self"] (spRefuse C CR) := ok_refuse D.rf.fn T D.rd
  refine F.okX scOne (fun us H Q E h => ?_) (fun cdv A outer s H us Q E hr h => ?_)
  · obtain ⟨x, p, i, d, n, rfl, _⟩ := h
    rfl
  · obtain ⟨x, p, i, d, n, rfl, hp, kE, kQ⟩ := h
    refine ⟨_, pss_cons (ps_if (pt_cmpR op_eq (pv 1) (pe_gi T.MI) (nomark _)) (pss_one (ps_expr (pe_meth0 (pv 0) T.cl D.rf.mt GR hr D.rf.b .nil (pass (takes_of rfl rfl rfl rfl))))) pss_nil)
      (pss_one (ps_ret (pe_op op_add (pv 1) pe_int))), ?_⟩
    obtain ⟨dx, tk, rs, h1, _⟩ := id hp.at_
    refine ⟨_, rfl, rfl, _, rfl, ?_⟩
    by_cases c : n = 12
    · refine if_true_of (decide_eq_true (by rw [c]; rfl)) ?_
      exact ⟨_, rfl, x, dx, _, rfl, h1, rfl, x, p, i, d, rfl, hp, kE c⟩
    · refine if_false_of (decide_eq_false fun z => c (by have := V.int.inj z; omega)) ?_
      exact ⟨_, rfl, _, _, rfl, rfl, kQ c⟩
/-- an expression where d more parentheses may open -/
def spE (C CR : Addr) (d : Nat) (f : Ps → Nat → Rs PyData) : Sp := fun us H Q E => ∃ (x : Addr) (p : Pt) (i : Nat), us = [.ref x] ∧ PAt C p H x i d ∧ Dn C CR p x d H Q E rTp (f p.toPs i)
theorem scProd : FnScope ["self", "told", "count", "sign"] ["self"] (defScope (sM 20)) := ⟨rfl, rfl, rfl, by decide +kernel, rfl, by decide +kernel, by decide +kernel⟩
theorem ok_product {f fO fE : Addr} {fd fdO fdE : FuncData} {k d : Nat} {so : Ps → Option (Nat → Rs PyData)} (F : Fun K "product" "Parser.product" (sM 20) f fd) (D : Dms K C fRf fR fK fS fM fW fAc fSg fN dRf dR dK dS dM dW dAc dSg dN) (DO : Dm K C "one_more" "Parser.one_more" (sM 21) ["self", "count"] fO fdO)
    (DE : Dm K C "piece" "Parser.piece" (sM 22) ["self"] fE fdE) (T : PTxt P K mg C CR fI) (k6 : 6 ≤ k) (GE : FnOk P w K mg base (L2.CX P w) k fE fdE ["self"] (spE C CR d fun p => p.pieceOf (so p))) : FnOk P w K mg base (L2.CX P w) (k + 1) f fd ["self"] (spE C CR d fun p => p.productOf (so p)) := by
  have GS : FnOk P w K mg base CX0 3 fS dS ["self", "kind", "words"] (spSees K C) := ok_sees D.se.fn T D.kd D.rd
  have GM : FnOk P w K mg base (L2.CX P w) 4 fM dM ["self"] (spMove C CR) := ok_move D T
  have GO : FnOk P w K mg base (L2.CX P w) 4 fO fdO ["self", "count"] (spOne C CR) := ok_one DO.fn D T
  refine F.okX scProd (fun us H Q E h => ?_) (fun cdv A outer s H us Q E hr h => ?_)
  · obtain ⟨x, p, i, rfl, _⟩ := h
    rfl
  · obtain ⟨x, p, i, rfl, hp, q⟩ := h
    have hr3 : Room 3 _ := hr.mono (by omega)
    have hr4 : Room 4 _ := hr.mono (by omega)
    refine ⟨_, pss_cons (ps_set (i := 1) scProd.nd rfl (Or.inl rfl) (pe_meth0 (pv 0) T.cl DE.mt GE hr DE.b .nil (pass (takes_of rfl rfl rfl rfl))))
      (pss_cons (ps_set (i := 2) scProd.nd rfl (Or.inl rfl) pe_int)
      (pss_cons (ps_while (passes_of rfl) (PW.pt (pw_or (pt_val (pe_meth (pv 0) T.cl D.se.mt GS hr3 D.se.b .nil pass0 (pa_cons pe_str (pa_cons (pe_tup (pa_cons pe_str (pa_cons pe_str pa_nil))) pa_nil)))) (pw_or1 (pt_val (pe_meth (pv 0) T.cl D.se.mt GS hr3 D.se.b .nil pass0 (pa_cons pe_str (pa_cons (pe_tup (pa_cons pe_str pa_nil)) pa_nil)))))))
        (pss_cons (ps_set (i := 2) scProd.nd rfl (Or.inl rfl) (pe_meth (pv 0) T.cl DO.mt GO hr4 DO.b .nil (pass (takes_of rfl rfl rfl rfl)) (pa_cons (pv 2) pa_nil)))
          (pss_cons (ps_set (i := 3) scProd.nd rfl (Or.inl rfl) (pe_meth0 (pv 0) T.cl D.mv.mt GM hr4 D.mv.b .nil (pass (takes_of rfl rfl rfl rfl))))
          (pss_one (ps_set (i := 1) scProd.nd rfl (Or.inl rfl) (pe_tup (pa_cons pe_str (pa_cons (pv 3) (pa_cons (pv 1) (pa_cons (pe_meth0 (pv 0) T.cl DE.mt GE hr DE.b .nil (pass (takes_of rfl rfl rfl rfl))) pa_nil))))))))))
      (pss_one (ps_ret (pv 1))))), ?_⟩
    obtain ⟨dx, tk, rs, h1, _⟩ := id hp.at_
    have q0 : Dn C CR p x d H Q E rTp ((p.pieceOf (so p.toPs) i).bind fun t i => p.opRow p.seesMul (p.pieceOf (so p.toPs)) 12 t i) := q
    refine ⟨_, rfl, x, dx, _, rfl, h1, rfl, x, p, i, rfl, hp, Dn.bind q0 fun t i2 H2 v _ s2 hp2 r2 q2 => ?_⟩
    refine ⟨fun m σ H' => ∃ (t : PyData) (v : V) (i : Nat) (s3 : Option V), σ = [some (.ref x), some v, some (.int ((12 - m : Nat) : Int)), s3] ∧ PAt C p H' x i d ∧ SameBut x H2 H' ∧ Tp H' v t ∧ m ≤ 12 ∧ Dn C CR p x d H2 Q E rTp (p.opRow p.seesMul (p.pieceOf (so p.toPs)) m t i),
      ⟨12, t, v, i2, none, rfl, hp2, SameBut.refl x H2, r2, Nat.le_refl _, q2⟩, ?_⟩
    rintro m σ H3 ⟨t, v, i3, s3, rfl, hp3, sb3, r3, hm, q3⟩
    obtain ⟨dx3, tk3, rs3, h13, _⟩ := id hp3.at_
    have no : ∀ H', PAt C p H' x i3 d → SameBut x H2 H' → Tp H' v t → p.seesMul i3 = false → Q v H' := fun H' hp' s' r' c => by
      have q4 : Dn C CR p x d H2 Q E rTp (.ok t i3) := by
        cases m with
        | zero => rw [opRow_0, if_neg (by rw [c]; exact Bool.false_ne_true)] at q3; exact q3
        | succ m => rw [opRow_s, if_neg (by rw [c]; exact Bool.false_ne_true)] at q3; exact q3
      exact q4 H' v s' hp' r'
    refine ⟨_, rfl, x, dx3, _, rfl, h13, rfl, (by show 2 ≤ sizeLine; decide), fun wA hwA => ?_⟩
    have eWA : [V.str (Str.ofString "*"), V.str (Str.ofString "/")] = [gTimes, gDiv].map vs := by rw [eTimes, eDiv]; rfl
    rw [eWA]
    have hpA := hp3.new (o := .tup ([gTimes, gDiv].map vs)) hwA
    have sbA := sb3.new (o := .tup ([gTimes, gDiv].map vs)) hwA
    have rA := r3.new (o := .tup ([gTimes, gDiv].map vs)) hwA
    have h1A := new_keep (o' := .tup ([gTimes, gDiv].map vs)) h13 hwA
    refine ⟨x, p, i3, d, kSign, [gTimes, gDiv], wA, (by rw [eSign]; rfl), hpA, by decide, SqT.of upd_same, _, rfl, ?_⟩
    cases cA : p.sees i3 kSign [gTimes, gDiv] with
    | true =>
      have c : p.seesMul i3 = true := by unfold Ps.seesMul; rw [cA]; rfl
      refine if_true_of rfl ?_
      obtain ⟨m', rfl⟩ | rfl : (∃ m', m = m' + 1) ∨ m = 0 := by cases m with | zero => exact .inr rfl | succ m' => exact .inl ⟨m', rfl⟩
      · rw [opRow_s, if_pos c] at q3
        refine ⟨fun σ' H' => ∃ (t : PyData) (v : V) (i : Nat) (s3 : Option V), σ' = [some (.ref x), some v, some (.int ((12 - m' : Nat) : Int)), s3] ∧ PAt C p H' x i d ∧ SameBut x H2 H' ∧ Tp H' v t ∧ m' ≤ 12 ∧ Dn C CR p x d H2 Q E rTp (p.opRow p.seesMul (p.pieceOf (so p.toPs)) m' t i), fun σ' H' h => ⟨m', by omega, h⟩, ?_⟩
        refine ⟨_, rfl, x, dx3, _, rfl, h1A, rfl, _, rfl, x, p, i3, d, 12 - (m' + 1), rfl, hpA, fun z => absurd z (by omega), fun _ => ?_⟩
        refine ⟨_, rfl, x, dx3, _, rfl, h1A, rfl, x, p, i3, d, rfl, hpA, (sees_lt cA (by decide)), Dn.to q3 hpA sbA fun sg i4 H4 u _ s4 s34 hp4 r4 q4 => ?_⟩
        obtain rfl : u = tvV sg := r4
        obtain ⟨dx4, tk4, rs4, h14, _⟩ := id hp4.at_
        refine ⟨_, rfl, _, rfl, _, rfl, x, dx4, _, rfl, h14, rfl, x, p, i4, rfl, hp4, Dn.to q4 hp4 s4 fun t2 i5 H5 u2 _ s5 s45 hp5 r5 q5 => ⟨(by show 4 ≤ sizeLine; decide), fun tt htt => ?_⟩⟩
        have r6 := (rA.but s34 hpA).but s45 hp4
        refine ⟨_, _, i5, _, (by rw [show 12 - (m' + 1) + 1 = 12 - m' by omega]; rfl), hp5.new htt, s5.new htt, .tup upd_same (.cons ?_ (.cons ((tp_tv sg).new htt) (.cons (r6.new htt) (.cons (r5.new htt) .nil)))), by omega, q5⟩
        rw [eOp]
        exact tp_str _
      · rw [opRow_0, if_pos c] at q3
        exact ⟨fun _ _ => False, fun _ _ h => h.elim, _, rfl, x, dx3, _, rfl, h1A, rfl, _, rfl, x, p, i3, d, 12, rfl, hpA, fun _ => Dn.from (rep := rTp) (r := .no (p.at i3)) hpA sbA q3, fun z => absurd rfl z⟩
    | false =>
      refine if_false_of rfl ?_
      refine ⟨_, rfl, x, dx3, _, rfl, h1A, rfl, (by show 1 ≤ sizeLine; decide), fun wB hwB => ?_⟩
      have eWB : [V.str (Str.ofString "mod")] = [wMod].map vs := by rw [eMod]; rfl
      rw [eWB]
      have hpB := hpA.new (o := .tup ([wMod].map vs)) hwB
      have sbB := sbA.new (o := .tup ([wMod].map vs)) hwB
      have rB := rA.new (o := .tup ([wMod].map vs)) hwB
      have h1B := new_keep (o' := .tup ([wMod].map vs)) h1A hwB
      refine ⟨x, p, i3, d, kKey, [wMod], wB, (by rw [eKey]; rfl), hpB, by decide, SqT.of upd_same, _, rfl, ?_⟩
      cases cB : p.sees i3 kKey [wMod] with
      | true =>
        have c : p.seesMul i3 = true := by unfold Ps.seesMul; rw [cA, cB]; rfl
        refine if_true_of rfl ?_
        obtain ⟨m', rfl⟩ | rfl : (∃ m', m = m' + 1) ∨ m = 0 := by cases m with | zero => exact .inr rfl | succ m' => exact .inl ⟨m', rfl⟩
        · rw [opRow_s, if_pos c] at q3
          refine ⟨fun σ' H' => ∃ (t : PyData) (v : V) (i : Nat) (s3 : Option V), σ' = [some (.ref x), some v, some (.int ((12 - m' : Nat) : Int)), s3] ∧ PAt C p H' x i d ∧ SameBut x H2 H' ∧ Tp H' v t ∧ m' ≤ 12 ∧ Dn C CR p x d H2 Q E rTp (p.opRow p.seesMul (p.pieceOf (so p.toPs)) m' t i), fun σ' H' h => ⟨m', by omega, h⟩, ?_⟩
          refine ⟨_, rfl, x, dx3, _, rfl, h1B, rfl, _, rfl, x, p, i3, d, 12 - (m' + 1), rfl, hpB, fun z => absurd z (by omega), fun _ => ?_⟩
          refine ⟨_, rfl, x, dx3, _, rfl, h1B, rfl, x, p, i3, d, rfl, hpB, (sees_lt cB (by decide)), Dn.to q3 hpB sbB fun sg i4 H4 u _ s4 s34 hp4 r4 q4 => ?_⟩
          obtain rfl : u = tvV sg := r4
          obtain ⟨dx4, tk4, rs4, h14, _⟩ := id hp4.at_
          refine ⟨_, rfl, _, rfl, _, rfl, x, dx4, _, rfl, h14, rfl, x, p, i4, rfl, hp4, Dn.to q4 hp4 s4 fun t2 i5 H5 u2 _ s5 s45 hp5 r5 q5 => ⟨(by show 4 ≤ sizeLine; decide), fun tt htt => ?_⟩⟩
          have r6 := (rB.but s34 hpB).but s45 hp4
          refine ⟨_, _, i5, _, (by rw [show 12 - (m' + 1) + 1 = 12 - m' by omega]; rfl), hp5.new htt, s5.new htt, .tup upd_same (.cons ?_ (.cons ((tp_tv sg).new htt) (.cons (r6.new htt) (.cons (r5.new htt) .nil)))), by omega, q5⟩
          rw [eOp]
          exact tp_str _
        · rw [opRow_0, if_pos c] at q3
          exact ⟨fun _ _ => False, fun _ _ h => h.elim, _, rfl, x, dx3, _, rfl, h1B, rfl, _, rfl, x, p, i3, d, 12, rfl, hpB, fun _ => Dn.from (rep := rTp) (r := .no (p.at i3)) hpB sbB q3, fun z => absurd rfl z⟩
      | false =>
        refine if_false_of rfl ?_
        exact ⟨_, rfl, no _ hpB sbB rB (by unfold Ps.seesMul; rw [cA, cB]; rfl)⟩

theorem scSums : FnScope ["self", "told", "count", "sign"] ["self"] (defScope (sM 19)) := ⟨rfl, rfl, rfl, by decide +kernel, rfl, by decide +kernel, by decide +kernel⟩
theorem ok_sums {f fO fE : Addr} {fd fdO fdE : FuncData} {k d : Nat} {so : Ps → Option (Nat → Rs PyData)} (F : Fun K "sums" "Parser.sums" (sM 19) f fd) (D : Dms K C fRf fR fK fS fM fW fAc fSg fN dRf dR dK dS dM dW dAc dSg dN) (DO : Dm K C "one_more" "Parser.one_more" (sM 21) ["self", "count"] fO fdO)
    (DE : Dm K C "product" "Parser.product" (sM 20) ["self"] fE fdE) (T : PTxt P K mg C CR fI) (k6 : 6 ≤ k) (GE : FnOk P w K mg base (L2.CX P w) k fE fdE ["self"] (spE C CR d fun p => p.productOf (so p))) : FnOk P w K mg base (L2.CX P w) (k + 1) f fd ["self"] (spE C CR d fun p => p.sumsOf (so p)) := by
  have GS : FnOk P w K mg base CX0 3 fS dS ["self", "kind", "words"] (spSees K C) := ok_sees D.se.fn T D.kd D.rd
  have GM : FnOk P w K mg base (L2.CX P w) 4 fM dM ["self"] (spMove C CR) := ok_move D T
  have GO : FnOk P w K mg base (L2.CX P w) 4 fO fdO ["self", "count"] (spOne C CR) := ok_one DO.fn D T
  refine F.okX scSums (fun us H Q E h => ?_) (fun cdv A outer s H us Q E hr h => ?_)
  · obtain ⟨x, p, i, rfl, _⟩ := h
    rfl
  · obtain ⟨x, p, i, rfl, hp, q⟩ := h
    have hr3 : Room 3 _ := hr.mono (by omega)
    have hr4 : Room 4 _ := hr.mono (by omega)
    refine ⟨_, pss_cons (ps_set (i := 1) scSums.nd rfl (Or.inl rfl) (pe_meth0 (pv 0) T.cl DE.mt GE hr DE.b .nil (pass (takes_of rfl rfl rfl rfl))))
      (pss_cons (ps_set (i := 2) scSums.nd rfl (Or.inl rfl) pe_int)
      (pss_cons (ps_while (passes_of rfl) (pt_val (pe_meth (pv 0) T.cl D.se.mt GS hr3 D.se.b .nil pass0 (pa_cons pe_str (pa_cons (pe_tup (pa_cons pe_str (pa_cons pe_str pa_nil))) pa_nil))))
        (pss_cons (ps_set (i := 2) scSums.nd rfl (Or.inl rfl) (pe_meth (pv 0) T.cl DO.mt GO hr4 DO.b .nil (pass (takes_of rfl rfl rfl rfl)) (pa_cons (pv 2) pa_nil)))
          (pss_cons (ps_set (i := 3) scSums.nd rfl (Or.inl rfl) (pe_meth0 (pv 0) T.cl D.mv.mt GM hr4 D.mv.b .nil (pass (takes_of rfl rfl rfl rfl))))
          (pss_one (ps_set (i := 1) scSums.nd rfl (Or.inl rfl) (pe_tup (pa_cons pe_str (pa_cons (pv 3) (pa_cons (pv 1) (pa_cons (pe_meth0 (pv 0) T.cl DE.mt GE hr DE.b .nil (pass (takes_of rfl rfl rfl rfl))) pa_nil))))))))))
      (pss_one (ps_ret (pv 1))))), ?_⟩
    obtain ⟨dx, tk, rs, h1, _⟩ := id hp.at_
    have q0 : Dn C CR p x d H Q E rTp ((p.productOf (so p.toPs) i).bind fun t i => p.opRow p.seesAdd (p.productOf (so p.toPs)) 12 t i) := q
    refine ⟨_, rfl, x, dx, _, rfl, h1, rfl, x, p, i, rfl, hp, Dn.bind q0 fun t i2 H2 v _ s2 hp2 r2 q2 => ?_⟩
    refine ⟨fun m σ H' => ∃ (t : PyData) (v : V) (i : Nat) (s3 : Option V), σ = [some (.ref x), some v, some (.int ((12 - m : Nat) : Int)), s3] ∧ PAt C p H' x i d ∧ SameBut x H2 H' ∧ Tp H' v t ∧ m ≤ 12 ∧ Dn C CR p x d H2 Q E rTp (p.opRow p.seesAdd (p.productOf (so p.toPs)) m t i),
      ⟨12, t, v, i2, none, rfl, hp2, SameBut.refl x H2, r2, Nat.le_refl _, q2⟩, ?_⟩
    rintro m σ H3 ⟨t, v, i3, s3, rfl, hp3, sb3, r3, hm, q3⟩
    obtain ⟨dx3, tk3, rs3, h13, _⟩ := id hp3.at_
    have no : ∀ H', PAt C p H' x i3 d → SameBut x H2 H' → Tp H' v t → p.seesAdd i3 = false → Q v H' := fun H' hp' s' r' c => by
      have q4 : Dn C CR p x d H2 Q E rTp (.ok t i3) := by
        cases m with
        | zero => rw [opRow_0, if_neg (by rw [c]; exact Bool.false_ne_true)] at q3; exact q3
        | succ m => rw [opRow_s, if_neg (by rw [c]; exact Bool.false_ne_true)] at q3; exact q3
      exact q4 H' v s' hp' r'
    refine ⟨_, rfl, x, dx3, _, rfl, h13, rfl, (by show 2 ≤ sizeLine; decide), fun wA hwA => ?_⟩
    have eWA : [V.str (Str.ofString "+"), V.str (Str.ofString "-")] = [gPlus, gMinus].map vs := by rw [ePlus, eMinus]; rfl
    rw [eWA]
    have hpA := hp3.new (o := .tup ([gPlus, gMinus].map vs)) hwA
    have sbA := sb3.new (o := .tup ([gPlus, gMinus].map vs)) hwA
    have rA := r3.new (o := .tup ([gPlus, gMinus].map vs)) hwA
    have h1A := new_keep (o' := .tup ([gPlus, gMinus].map vs)) h13 hwA
    refine ⟨x, p, i3, d, kSign, [gPlus, gMinus], wA, (by rw [eSign]; rfl), hpA, by decide, SqT.of upd_same, _, rfl, ?_⟩
    cases cA : p.sees i3 kSign [gPlus, gMinus] with
    | true =>
      have c : p.seesAdd i3 = true := cA
      refine if_true_of rfl ?_
      obtain ⟨m', rfl⟩ | rfl : (∃ m', m = m' + 1) ∨ m = 0 := by cases m with | zero => exact .inr rfl | succ m' => exact .inl ⟨m', rfl⟩
      · rw [opRow_s, if_pos c] at q3
        refine ⟨fun σ' H' => ∃ (t : PyData) (v : V) (i : Nat) (s3 : Option V), σ' = [some (.ref x), some v, some (.int ((12 - m' : Nat) : Int)), s3] ∧ PAt C p H' x i d ∧ SameBut x H2 H' ∧ Tp H' v t ∧ m' ≤ 12 ∧ Dn C CR p x d H2 Q E rTp (p.opRow p.seesAdd (p.productOf (so p.toPs)) m' t i), fun σ' H' h => ⟨m', by omega, h⟩, ?_⟩
        refine ⟨_, rfl, x, dx3, _, rfl, h1A, rfl, _, rfl, x, p, i3, d, 12 - (m' + 1), rfl, hpA, fun z => absurd z (by omega), fun _ => ?_⟩
        refine ⟨_, rfl, x, dx3, _, rfl, h1A, rfl, x, p, i3, d, rfl, hpA, (sees_lt cA (by decide)), Dn.to q3 hpA sbA fun sg i4 H4 u _ s4 s34 hp4 r4 q4 => ?_⟩
        obtain rfl : u = tvV sg := r4
        obtain ⟨dx4, tk4, rs4, h14, _⟩ := id hp4.at_
        refine ⟨_, rfl, _, rfl, _, rfl, x, dx4, _, rfl, h14, rfl, x, p, i4, rfl, hp4, Dn.to q4 hp4 s4 fun t2 i5 H5 u2 _ s5 s45 hp5 r5 q5 => ⟨(by show 4 ≤ sizeLine; decide), fun tt htt => ?_⟩⟩
        have r6 := (rA.but s34 hpA).but s45 hp4
        refine ⟨_, _, i5, _, (by rw [show 12 - (m' + 1) + 1 = 12 - m' by omega]; rfl), hp5.new htt, s5.new htt, .tup upd_same (.cons ?_ (.cons ((tp_tv sg).new htt) (.cons (r6.new htt) (.cons (r5.new htt) .nil)))), by omega, q5⟩
        rw [eOp]
        exact tp_str _
      · rw [opRow_0, if_pos c] at q3
        exact ⟨fun _ _ => False, fun _ _ h => h.elim, _, rfl, x, dx3, _, rfl, h1A, rfl, _, rfl, x, p, i3, d, 12, rfl, hpA, fun _ => Dn.from (rep := rTp) (r := .no (p.at i3)) hpA sbA q3, fun z => absurd rfl z⟩
    | false =>
      refine if_false_of rfl ?_
      exact ⟨_, rfl, no _ hpA sbA rA cA⟩

end
end K9
set_option Elab.async false
set_option linter.all false
set_option maxRecDepth 100000
namespace K9
open PySem L2 PyProof.Rows
section
variable {P : Program} {w : World} {K : PySem.W.Frag} {mg : Str → Option Value} {base : Heap}
variable {fRf fR fK fS fM fW fAc fSg fN C CR fI : Addr} {dRf dR dK dS dM dW dAc dSg dN : FuncData}
theorem fnX_false {f : Addr} {fd : FuncData} {ps : List Str} {k : Nat} : FnOk P w K mg base (L2.CX P w) k f fd ps (fun _ _ _ _ => False) := ⟨fun _ _ _ _ h => h.elim, fun _ _ _ _ _ _ _ _ _ _ _ _ _ h => h.elim⟩
theorem scPiece : FnScope ["self", "told"] ["self"] (defScope (sM 22)) := ⟨rfl, rfl, rfl, by decide +kernel, rfl, by decide +kernel, by decide +kernel⟩
theorem ok_piece {f fV fE : Addr} {fd fdV fdE : FuncData} {k d : Nat} {so : Ps → Option (Nat → Rs PyData)} {spS : Sp} (F : Fun K "piece" "Parser.piece" (sM 22) f fd) (D : Dms K C fRf fR fK fS fM fW fAc fSg fN dRf dR dK dS dM dW dAc dSg dN) (DV : Dm K C "value" "Parser.value" (sM 16) ["self"] fV fdV)
    (DE : Dm K C "sums" "Parser.sums" (sM 19) ["self"] fE fdE) (T : PTxt P K mg C CR fI) (k6 : 6 ≤ k) (GE : FnOk P w K mg base (L2.CX P w) k fE fdE ["self"] spS)
    (hd : (d = 0 ∧ ∀ p, so p = none) ∨ ∃ d' g, d = d' + 1 ∧ (∀ p, so p = some (g p)) ∧ spS = spE C CR d' g) : FnOk P w K mg base (L2.CX P w) (k + 1) f fd ["self"] (spE C CR d fun p => p.pieceOf (so p)) := by
  have GS : FnOk P w K mg base CX0 3 fS dS ["self", "kind", "words"] (spSees K C) := ok_sees D.se.fn T D.kd D.rd
  have GK : FnOk P w K mg base CX0 2 fK dK ["self"] (spKind C) := ok_kind D.kd.fn T D.rd
  have GR : FnOk P w K mg base (L2.CX P w) 3 fRf dRf ["self"] (spRefuse C CR) := ok_refuse D.rf.fn T D.rd
  have GM : FnOk P w K mg base (L2.CX P w) 4 fM dM ["self"] (spMove C CR) := ok_move D T
  have GG : FnOk P w K mg base (L2.CX P w) 6 fSg dSg ["self", "word"] (spSign C CR) := ok_sign D T
  have GV : FnOk P w K mg base (L2.CX P w) 6 fV fdV ["self"] (spM C CR rTp Ps.value) := ok_value DV.fn D T
  refine F.okX scPiece (fun us H Q E h => ?_) (fun cdv A outer s H us Q E hr h => ?_)
  · obtain ⟨x, p, i, rfl, _⟩ := h
    rfl
  · obtain ⟨x, p, i, rfl, hp, q⟩ := h
    have hr2 : Room 2 _ := hr.mono (by omega)
    have hr3 : Room 3 _ := hr.mono (by omega)
    have hr4 : Room 4 _ := hr.mono (by omega)
    have hr6 : Room 6 _ := hr.mono (by omega)
    refine ⟨_, pss_cons (ps_if (pt_cmpR op_eq (pe_meth0 (pv 0) T.cl D.kd.mt GK hr2 D.kd.b .nil pass0) pe_str (nomark _)) (pss_one (ps_ret (pe_tup (pa_cons pe_str (pa_cons (pe_meth0 (pv 0) T.cl D.mv.mt GM hr4 D.mv.b .nil (pass (takes_of rfl rfl rfl rfl))) pa_nil))))) pss_nil)
      (pss_cons (ps_if (pt_not (pt_val (pe_meth (pv 0) T.cl D.se.mt GS hr3 D.se.b .nil pass0 (pa_cons pe_str (pa_cons (pe_tup (pa_cons pe_str pa_nil)) pa_nil))))) (pss_one (ps_ret (pe_meth0 (pv 0) T.cl DV.mt GV hr6 DV.b .nil (pass (takes_of rfl rfl rfl rfl))))) pss_nil)
      (pss_cons (ps_if (pt_cmpR op_eq (pe_fld (pv 0) rfl) (pe_gi T.MO) (nomark _)) (pss_one (ps_expr (pe_meth0 (pv 0) T.cl D.rf.mt GR hr3 D.rf.b .nil (pass (takes_of rfl rfl rfl rfl))))) pss_nil)
      (pss_cons (ps_fldaug (pv 0) pe_int in_add)
      (pss_cons (ps_expr (pe_meth (pv 0) T.cl D.sg.mt GG hr6 D.sg.b .nil (pass (takes_of rfl rfl rfl rfl)) (pa_cons pe_str pa_nil)))
      (pss_cons (ps_set (i := 1) scPiece.nd rfl (Or.inl rfl) (pe_meth0 (pv 0) T.cl DE.mt GE hr DE.b .nil (pass (takes_of rfl rfl rfl rfl))))
      (pss_cons (ps_expr (pe_meth (pv 0) T.cl D.sg.mt GG hr6 D.sg.b .nil (pass (takes_of rfl rfl rfl rfl)) (pa_cons pe_str pa_nil)))
      (pss_cons (ps_fldaug (pv 0) pe_int in_sub)
      (pss_one (ps_ret (pv 1)))))))))), ?_⟩
    obtain ⟨dx, tk, rs, h1, _⟩ := id hp.at_
    have q0 : Dn C CR p x d H Q E rTp (p.pieceOf (so p.toPs) i) := q
    unfold Ps.pieceOf at q0
    refine ⟨_, rfl, x, dx, _, rfl, h1, rfl, x, p, i, d, rfl, hp, rfl, _, rfl, ?_⟩
    by_cases c : p.kind i = kName
    · rw [if_pos c] at q0
      refine if_true_of (decide_eq_true (by rw [c, eName])) ?_
      refine ⟨_, rfl, x, dx, _, rfl, h1, rfl, x, p, i, d, rfl, hp, kind_lt c (by decide), Dn.bind q0 fun u i4 H4 v _ s4 hp4 r q4 => ?_⟩
      obtain rfl : v = tvV u := r
      refine ⟨(by show 2 ≤ sizeLine; decide), fun t ht => q4 _ _ ((SameBut.refl x H4).new ht) (hp4.new ht) ?_⟩
      have z := tp_pair ht (tp_str (H := H4) wVariable) (tp_tv u)
      rw [vs, ← eVari] at z
      exact z
    rw [if_neg c] at q0
    refine if_false_of (decide_eq_false fun z => c (by rw [eName] at z; exact S_inj.mp (V.str.inj z))) ?_
    refine ⟨_, rfl, x, dx, _, rfl, h1, rfl, (by show 1 ≤ sizeLine; decide), fun t ht => ?_⟩
    have hp4 := hp.new (o := .tup [V.str (Str.ofString "(")]) ht
    have s4 := (SameBut.refl x H).new (o := .tup [V.str (Str.ofString "(")]) ht
    have h14 := new_keep (o' := .tup [V.str (Str.ofString "(")]) h1 ht
    refine ⟨x, p, i, d, kSign, [gOpen], t, (by rw [eSign]; rfl), hp4, by decide, SqT.of (by rw [upd_same, eOpen]; rfl), _, rfl, ?_⟩
    generalize upd H t (.tup [V.str (Str.ofString "(")]) = H4 at hp4 s4 h14
    cases c2 : p.sees i kSign [gOpen] with
    | false =>
      refine if_true_of rfl ?_
      rw [if_neg (by rw [c2]; exact Bool.false_ne_true)] at q0
      exact ⟨_, rfl, x, dx, _, rfl, h14, rfl, x, p, i, d, rfl, hp4, Dn.from hp4 s4 q0⟩
    | true =>
      refine if_false_of rfl ?_
      rw [if_pos c2] at q0
      refine ⟨_, rfl, x, C, dx, _, _, rfl, h14, T.cl, T.nO, pf_opened _ _ _ _, rfl, _, rfl, ?_⟩
      rcases hd with ⟨rfl, hso⟩ | ⟨d', g, rfl, hso, rfl⟩
      · refine if_true_of (decide_eq_true rfl) ?_
        rw [hso] at q0
        exact ⟨_, rfl, x, dx, _, rfl, h14, rfl, x, p, i, 0, rfl, hp4, Dn.from (rep := rTp) (r := .no (p.at i)) hp4 s4 q0⟩
      · have op := hp.op
        refine if_false_of (decide_eq_false fun z => by have := V.int.inj z; omega) ?_
        rw [hso] at q0
        obtain ⟨dx5, tk5, rs5, h15, _, _, hp5⟩ := hp4.put (j := i) (e := d') hp.le (by omega)
        refine ⟨_, rfl, x, C, dx5, _, _, rfl, h15, T.cl, T.nO, pf_opened _ _ _ _, _, _, rfl, rfl, dx5, _, h15, (by show 4 < 1000; decide), ?_⟩
        have e1 : putF "opened" (V.int (((20 - (d' + 1) : Nat) : Int) + 1)) (pf tk5 p.len i (20 - (d' + 1))) = pf tk5 p.len i (20 - d') := by
          rw [show ((20 - (d' + 1) : Nat) : Int) + 1 = ((20 - d' : Nat) : Int) by omega]
          exact pf_put_opened tk5 p.len i (20 - (d' + 1)) (20 - d')
        rw [e1]
        have s5 : SameBut x H (upd H4 x (.ins C dx5 (pf tk5 p.len i (20 - d')))) := s4.put
        generalize upd H4 x (.ins C dx5 (pf tk5 p.len i (20 - d'))) = H5 at hp5 s5
        obtain ⟨dx6, tk6, rs6, h16, _⟩ := id hp5.at_
        refine ⟨_, rfl, x, dx6, _, rfl, h16, rfl, x, p, i, d', gOpen, (by rw [eOpen]; rfl), hp5, Dn.tod q0 hp5 s5 fun u i7 H7 v _ s7 s57 hp7 r q7 => ?_⟩
        obtain ⟨dx7, tk7, rs7, h17, _⟩ := id hp7.at_
        refine ⟨_, rfl, x, dx7, _, rfl, h17, rfl, x, p, i7, rfl, hp7, Dn.tod q7 hp7 s7 fun u i8 H8 v8 _ s8 s78 hp8 r8 q8 => ?_⟩
        obtain ⟨dx8, tk8, rs8, h18, _⟩ := id hp8.at_
        refine ⟨_, rfl, x, dx8, _, rfl, h18, rfl, x, p, i8, d', gClose, (by rw [eClose]; rfl), hp8, Dn.tod q8 hp8 s8 fun u9 i9 H9 v9 _ s9 s89 hp9 r9 q9 => ?_⟩
        obtain ⟨dx9, tk9, rs9, h19, _, _, hp10⟩ := hp9.put (j := i9) (e := d' + 1) hp9.le hp.op
        refine ⟨_, rfl, x, C, dx9, _, _, rfl, h19, T.cl, T.nO, pf_opened _ _ _ _, _, _, rfl, rfl, dx9, _, h19, (by show 4 < 1000; decide), ?_⟩
        have e2 : putF "opened" (V.int (((20 - d' : Nat) : Int) - 1)) (pf tk9 p.len i9 (20 - d')) = pf tk9 p.len i9 (20 - (d' + 1)) := by
          rw [show ((20 - d' : Nat) : Int) - 1 = ((20 - (d' + 1) : Nat) : Int) by omega]
          exact pf_put_opened tk9 p.len i9 (20 - d') (20 - (d' + 1))
        rw [e2]
        refine ⟨_, rfl, ?_⟩
        refine q9 _ _ s9.put hp10 ?_
        exact (r8.but s89 hp8).keep fun a xs z => by rw [upd_ne (hp9.ne a xs z)]; exact z
/-- the expression, by how many parentheses may open -/
theorem ok_sumsD {fPi fPr fSu fV fO : Addr} {dPi dPr dSu fdV fdO : FuncData} (D : Dms K C fRf fR fK fS fM fW fAc fSg fN dRf dR dK dS dM dW dAc dSg dN) (DV : Dm K C "value" "Parser.value" (sM 16) ["self"] fV fdV) (DO : Dm K C "one_more" "Parser.one_more" (sM 21) ["self", "count"] fO fdO)
    (DI : Dm K C "piece" "Parser.piece" (sM 22) ["self"] fPi dPi) (DP : Dm K C "product" "Parser.product" (sM 20) ["self"] fPr dPr) (DU : Dm K C "sums" "Parser.sums" (sM 19) ["self"] fSu dSu) (T : PTxt P K mg C CR fI) :
    ∀ d, FnOk P w K mg base (L2.CX P w) (9 + 3 * d) fSu dSu ["self"] (spE C CR d fun p => p.sums d)
  | 0 => ok_sums (so := fun _ => none) DU.fn D DO DP T (by omega) (ok_product (so := fun _ => none) DP.fn D DO DI T (by omega) (ok_piece (k := 6) (so := fun _ => none) DI.fn D DV DU T (by omega) fnX_false (.inl ⟨rfl, fun _ => rfl⟩)))
  | d + 1 => (ok_sums (k := 8 + 3 * (d + 1)) (so := fun p => some (p.sums d)) DU.fn D DO DP T (by omega) ((ok_product (k := 7 + 3 * (d + 1)) (so := fun p => some (p.sums d)) DP.fn D DO DI T (by omega)
      ((ok_piece (k := 9 + 3 * d) (so := fun p => some (p.sums d)) DI.fn D DV DU T (by omega) (ok_sumsD D DV DO DI DP DU T d) (.inr ⟨d, fun p => p.sums d, rfl, fun _ => rfl, rfl⟩)).mono (by omega))).mono (by omega))).mono (by omega)
end
end K9
set_option Elab.async false
set_option linter.all false
set_option maxRecDepth 100000
namespace K9
open PySem L2 PyProof.Rows
theorem eNot : Str.ofString "not" = S wNot := by decide +kernel
theorem eLet : Str.ofString "let" = S wLet := by decide +kernel
theorem eFact : Str.ofString "fact" = S wFact := by decide +kernel
theorem eTest : Str.ofString "test" = S wTest := by decide +kernel
theorem eGEq : Str.ofString "=" = S gEq := by decide +kernel
theorem eGLt : Str.ofString "<" = S gLt := by decide +kernel
theorem eGLe : Str.ofString "<=" = S gLe := by decide +kernel
theorem cutV_one (rs : List V) (i : Nat) (h : i + 1 ≤ rs.length) : cutV rs (some ((i : Int) + 1)) (some ((i : Int) + 2)) = (rs.drop (i + 1)).take 1 := by
  unfold cutV
  rw [show (i : Int) + 1 = ((i + 1 : Nat) : Int) by omega, show (i : Int) + 2 = ((i + 2 : Nat) : Int) by omega, HT.sIx_nat, HT.sIx_nat, Nat.min_eq_left h]
  by_cases h2 : i + 2 ≤ rs.length
  · rw [Nat.min_eq_left h2, show i + 2 - (i + 1) = 1 by omega]
  · rw [Nat.min_eq_right (by omega), show rs.length - (i + 1) = 0 by omega, List.drop_eq_nil_of_le (by omega)]
    rfl
theorem drop_one {α : Type} {l : List α} {i : Nat} : (l.drop i).take 1 = match l[i]? with
  | some x => [x]
  | none => [] := by
  cases e : l[i]? with
  | none =>
    rw [List.drop_eq_nil_of_le (List.getElem?_eq_none_iff.mp e)]
    rfl
  | some x =>
    obtain ⟨h, rfl⟩ := List.getElem?_eq_some_iff.mp e
    rw [List.drop_eq_getElem_cons h]
    rfl
theorem tp_tri {H : Hp} {q : Addr} {a b c : V} {x y z : PyData} (hq : H q = none) (h1 : Tp H a x) (h2 : Tp H b y) (h3 : Tp H c z) : Tp (upd H q (.tup [a, b, c])) (.ref q) (dT [x, y, z]) := .tup upd_same (.cons (h1.new hq) (.cons (h2.new hq) (.cons (h3.new hq) .nil)))
theorem tv_dp {K : PySem.W.Frag} {H : Hp} (v : Tv) : Dp K H (tvV v) (tvD v) := by
  cases v with
  | s l => exact .str _
  | n i => exact .int _
theorem tv_shaped {v : Tv} (h : (tvD v).canLay0 = true) : SeqAt.shaped (.list [tvD v]) = true := by
  unfold SeqAt.shaped
  refine Bool.and_eq_true_iff.mpr ⟨?_, ?_⟩
  · show ((tvD v).canLay0 && true) = true
    rw [h]
    rfl
  · refine decide_eq_true ?_
    cases v <;> exact Nat.le_of_ble_eq_true rfl
theorem tv_eqv (v : Tv) : PyData.eqv (.list [tvD v]) (.list [dS gOpen]) = decide (v = .s gOpen) := by
  cases v with
  | s l =>
    show (((⟨l.toArray⟩ : Str) == (⟨gOpen.toArray⟩ : Str)) && true) = _
    rw [Bool.and_true, show ((⟨l.toArray⟩ : Str) == ⟨gOpen.toArray⟩) = decide ((⟨l.toArray⟩ : Str) = ⟨gOpen.toArray⟩) from rfl]
    refine decide_eq_decide.mpr ⟨fun h => ?_, fun h => by cases h; rfl⟩
    have z := congrArg (fun z : Str => z.cps.toList) h
    have z2 : l = gOpen := by simpa using z
    rw [z2]
  | n i => rfl
theorem Paired.drop {α β : Type} {F : α → β → Prop} : ∀ (n : Nat) {l₁ : List α} {l₂ : List β}, Paired F l₁ l₂ → Paired F (l₁.drop n) (l₂.drop n)
  | 0, _, _, h => h
  | n + 1, _, _, .nil => .nil
  | n + 1, _, _, .cons _ t => Paired.drop n t
theorem Paired.take {α β : Type} {F : α → β → Prop} : ∀ (n : Nat) {l₁ : List α} {l₂ : List β}, Paired F l₁ l₂ → Paired F (l₁.take n) (l₂.take n)
  | 0, _, _, _ => .nil
  | n + 1, _, _, .nil => .nil
  | n + 1, _, _, .cons r t => .cons r (Paired.take n t)
theorem Paired.get1? {α β : Type} {F : α → β → Prop} : ∀ {l₁ : List α} {l₂ : List β} {i : Nat} {x : α}, Paired F l₁ l₂ → l₁[i]? = some x → ∃ y, l₂[i]? = some y ∧ F x y
  | _, _, _, _, .nil, h => by simp at h
  | _, _, 0, _, .cons r _, h => by cases h; exact ⟨_, rfl, r⟩
  | _, _, i + 1, _, .cons _ t, h => Paired.get1? (i := i) t (show _ from h)
theorem dp_all {K : PySem.W.Frag} {H : Hp} : ∀ M : List Tok, DpAll K H (M.map fun t => tvV t.2.1) (M.map fun t => tvD t.2.1)
  | [] => .nil
  | t :: M => .cons (tv_dp t.2.1) (dp_all M)
abbrev NP : List Str := ["self", "name", "first", "sign", "token"]
section
variable {P : Program} {w : World} {K : PySem.W.Frag} {mg : Str → Option Value} {base : Heap}
variable {fRf fR fK fS fM fW fAc fSg fN C CR fI : Addr} {dRf dR dK dS dM dW dAc dSg dN : FuncData}
theorem scPart : FnScope NP ["self"] (defScope (sM 18)) := ⟨rfl, rfl, rfl, by decide +kernel, rfl, by decide +kernel, by decide +kernel⟩
theorem ok_part {f fT fE : Addr} {fd fdT fdE : FuncData} (F : Fun K "part" "Parser.part" (sM 18) f fd) (D : Dms K C fRf fR fK fS fM fW fAc fSg fN dRf dR dK dS dM dW dAc dSg dN) (DT : Dm K C "terms" "Parser.terms" (sM 14) ["self", "in_head"] fT fdT)
    (DE : Dm K C "sums" "Parser.sums" (sM 19) ["self"] fE fdE) (T : PTxt P K mg C CR fI) (GT : FnOk P w K mg base (L2.CX P w) 8 fT fdT ["self", "in_head"] (spTerms C CR)) (GE : FnOk P w K mg base (L2.CX P w) 69 fE fdE ["self"] (spE C CR 20 fun p => p.sums 20)) :
    FnOk P w K mg base (L2.CX P w) 70 f fd ["self"] (spE C CR 20 Ps.part) := by
  have GS : FnOk P w K mg base CX0 3 fS dS ["self", "kind", "words"] (spSees K C) := ok_sees D.se.fn T D.kd D.rd
  have GK : FnOk P w K mg base CX0 2 fK dK ["self"] (spKind C) := ok_kind D.kd.fn T D.rd
  have GR : FnOk P w K mg base (L2.CX P w) 3 fRf dRf ["self"] (spRefuse C CR) := ok_refuse D.rf.fn T D.rd
  have GM : FnOk P w K mg base (L2.CX P w) 4 fM dM ["self"] (spMove C CR) := ok_move D T
  have GA : FnOk P w K mg base (L2.CX P w) 5 fAc dAc ["self", "kind", "word"] (spAcc C CR) := ok_acc D T
  have GW : FnOk P w K mg base (L2.CX P w) 5 fW dW ["self", "kind"] (spWant C CR) := ok_want D T
  have GG : FnOk P w K mg base (L2.CX P w) 6 fSg dSg ["self", "word"] (spSign C CR) := ok_sign D T
  refine F.okX scPart (fun us H Q E h => ?_) (fun cdv A outer s H us Q E hr h => ?_)
  · obtain ⟨x, p, i, rfl, _⟩ := h
    rfl
  · obtain ⟨x, p, i, rfl, hp, q⟩ := h
    have hr2 : Room 2 _ := hr.mono (by omega)
    have hr3 : Room 3 _ := hr.mono (by omega)
    have hr4 : Room 4 _ := hr.mono (by omega)
    have hr5 : Room 5 _ := hr.mono (by omega)
    have hr6 : Room 6 _ := hr.mono (by omega)
    have hr8 : Room 8 _ := hr.mono (by omega)
    refine ⟨_, pss_cons (ps_if (pt_val (pe_meth (pv 0) T.cl D.ac.mt GA hr5 D.ac.b .nil (pass (takes_of rfl rfl rfl rfl)) (pa_cons pe_str (pa_cons pe_str pa_nil))))
        (pss_cons (ps_set (i := 1) scPart.nd rfl (Or.inl rfl) (pe_meth (pv 0) T.cl D.wa.mt GW hr5 D.wa.b .nil (pass (takes_of rfl rfl rfl rfl)) (pa_cons pe_str pa_nil)))
          (pss_one (ps_ret (pe_tup (pa_cons pe_str (pa_cons (pv 1) (pa_cons (pe_meth (pv 0) T.cl DT.mt GT hr8 DT.b .nil (pass (takes_of rfl rfl rfl rfl)) (pa_cons pe_bl pa_nil)) pa_nil))))))) pss_nil)
      (pss_cons (ps_if (pt_val (pe_meth (pv 0) T.cl D.ac.mt GA hr5 D.ac.b .nil (pass (takes_of rfl rfl rfl rfl)) (pa_cons pe_str (pa_cons pe_str pa_nil))))
        (pss_cons (ps_set (i := 1) scPart.nd rfl (Or.inl rfl) (pe_meth (pv 0) T.cl D.wa.mt GW hr5 D.wa.b .nil (pass (takes_of rfl rfl rfl rfl)) (pa_cons pe_str pa_nil)))
          (pss_cons (ps_expr (pe_meth (pv 0) T.cl D.sg.mt GG hr6 D.sg.b .nil (pass (takes_of rfl rfl rfl rfl)) (pa_cons pe_str pa_nil)))
          (pss_one (ps_ret (pe_tup (pa_cons pe_str (pa_cons (pv 1) (pa_cons (pe_meth0 (pv 0) T.cl DE.mt GE hr DE.b .nil (pass (takes_of rfl rfl rfl rfl))) pa_nil)))))))) pss_nil)
      (C8.pss_cut (ps_if (PW.pt (pw_and (pt_cmpR op_eq (pe_meth0 (pv 0) T.cl D.kd.mt GK hr2 D.kd.b .nil pass0) pe_str (nomark _))
          (pw_and1 (pt_cmpR (op_eqD hr.units) (pe_lc (own := [("token", 4)]) (g := gName 4) (tt := tYes) (te := tOp (rIxT K) (tVar 4) (tC (V.int 1))) rfl scPart.nd (pi_list (pe_slice sl_list (pe_fld (pv 0) rfl) (po_some (pe_op op_add (pe_fld (pv 0) rfl) pe_int)) (po_some (pe_op op_add (pe_fld (pv 0) rfl) pe_int))))
            (blkOk_by (own := [("token", 4)]) (N := NP) (sc := defScope (sM 18)) (by decide +kernel)) (fun _ _ _ _ _ => pg_name (i := 4) scPart.nd rfl (Or.inl rfl)) (fun _ _ _ _ _ => pts_nil) (fun _ _ _ _ _ => pe_ix ix_tup (pv 4) pe_int (fun _ _ => rfl))) (pe_lst (pa_cons pe_str pa_nil)) (nomark _)))))
        (pss_cons (ps_set (i := 1) scPart.nd rfl (Or.inl rfl) (pe_meth0 (pv 0) T.cl D.mv.mt GM hr4 D.mv.b .nil (pass (takes_of rfl rfl rfl rfl))))
          (pss_one (ps_ret (pe_tup (pa_cons pe_str (pa_cons (pv 1) (pa_cons (pe_meth (pv 0) T.cl DT.mt GT hr8 DT.b .nil (pass (takes_of rfl rfl rfl rfl)) (pa_cons pe_bl pa_nil)) pa_nil))))))) pss_nil)
      (pss_cons (ps_set (i := 2) scPart.nd rfl (Or.inl rfl) (pe_meth0 (pv 0) T.cl DE.mt GE hr DE.b .nil (pass (takes_of rfl rfl rfl rfl))))
      (pss_cons (ps_if (pt_not (pt_val (pe_meth (pv 0) T.cl D.se.mt GS hr3 D.se.b .nil pass0 (pa_cons pe_str (pa_cons (pe_tup (pa_cons pe_str (pa_cons pe_str (pa_cons pe_str pa_nil)))) pa_nil))))) (pss_one (ps_expr (pe_meth0 (pv 0) T.cl D.rf.mt GR hr3 D.rf.b .nil (pass (takes_of rfl rfl rfl rfl))))) pss_nil)
      (pss_cons (ps_set (i := 3) scPart.nd rfl (Or.inl rfl) (pe_meth0 (pv 0) T.cl D.mv.mt GM hr4 D.mv.b .nil (pass (takes_of rfl rfl rfl rfl))))
      (pss_one (ps_ret (pe_tup (pa_cons pe_str (pa_cons (pv 3) (pa_cons (pv 2) (pa_cons (pe_meth0 (pv 0) T.cl DE.mt GE hr DE.b .nil (pass (takes_of rfl rfl rfl rfl))) pa_nil)))))))))))), ?_⟩
    obtain ⟨dx, tk, rs, h1, h2, h3⟩ := id hp.at_
    have q0 : Dn C CR p x 20 H Q E rTp (p.part i) := q
    unfold Ps.part at q0
    -- not
    refine ⟨_, rfl, x, dx, _, rfl, h1, rfl, x, p, i, 20, kKey, wNot, (by rw [eKey, eNot]; rfl), hp, by decide, Dn.bind q0 fun b i2 H2 v _ s2 hp2 r q2 => ?_⟩
    obtain rfl : v = .bl b := r
    refine ⟨_, rfl, ?_⟩
    obtain ⟨dx2, tk2, rs2, h12, h22, h32⟩ := id hp2.at_
    cases b with
    | true =>
      refine if_true_of rfl ?_
      rw [if_pos rfl] at q2
      refine ⟨_, rfl, x, dx2, _, rfl, h12, rfl, x, p, i2, 20, kName, (by rw [eName]; rfl), hp2, by decide, Dn.bind q2 fun n i3 H3 v _ s3 hp3 r q3 => ?_⟩
      obtain rfl : v = tvV n := r
      obtain ⟨dx3, tk3, rs3, h13, _⟩ := id hp3.at_
      refine ⟨_, rfl, _, rfl, x, dx3, _, rfl, h13, rfl, x, p, i3, 20, false, rfl, hp3, Dn.bind q3 fun t i4 H4 v _ s4 hp4 r4 q4 => ⟨(by show 3 ≤ sizeLine; decide), fun a ha => q4 _ _ ((SameBut.refl x H4).new ha) (hp4.new ha) ?_⟩⟩
      rw [eNot]
      exact tp_tri ha (tp_str wNot) (tp_tv n) r4
    | false =>
    refine if_false_of rfl ?_
    rw [if_neg Bool.false_ne_true] at q2
    -- let
    refine ⟨_, rfl, x, dx2, _, rfl, h12, rfl, x, p, i2, 20, kKey, wLet, (by rw [eKey, eLet]; rfl), hp2, by decide, Dn.bind q2 fun b i3 H3 v _ s3 hp3 r q3 => ?_⟩
    obtain rfl : v = .bl b := r
    refine ⟨_, rfl, ?_⟩
    obtain ⟨dx3, tk3, rs3, h13, h23, h33⟩ := id hp3.at_
    cases b with
    | true =>
      refine if_true_of rfl ?_
      rw [if_pos rfl] at q3
      refine ⟨_, rfl, x, dx3, _, rfl, h13, rfl, x, p, i3, 20, kName, (by rw [eName]; rfl), hp3, by decide, Dn.bind q3 fun n i4 H4 v _ s4 hp4 r q4 => ?_⟩
      obtain rfl : v = tvV n := r
      obtain ⟨dx4, tk4, rs4, h14, _⟩ := id hp4.at_
      refine ⟨_, rfl, x, dx4, _, rfl, h14, rfl, x, p, i4, 20, gEq, (by rw [eGEq]; rfl), hp4, Dn.bind q4 fun _ i5 H5 v _ s5 hp5 r q5 => ?_⟩
      obtain ⟨dx5, tk5, rs5, h15, _⟩ := id hp5.at_
      refine ⟨_, rfl, _, rfl, x, dx5, _, rfl, h15, rfl, x, p, i5, rfl, hp5, Dn.bind q5 fun t i6 H6 v _ s6 hp6 r6 q6 => ⟨(by show 3 ≤ sizeLine; decide), fun a ha => q6 _ _ ((SameBut.refl x H6).new ha) (hp6.new ha) ?_⟩⟩
      rw [eLet]
      exact tp_tri ha (tp_str wLet) (tp_tv n) r6
    | false =>
    refine if_false_of rfl ?_
    rw [if_neg Bool.false_ne_true] at q3
    -- a fact
    refine ⟨fun σ H' => σ = [some (.ref x), none, none, none, none] ∧ PAt C p H' x i3 20 ∧ Dn C CR p x 20 H' Q E rTp (p.test i3), ?_, ?_⟩
    · refine ⟨_, rfl, x, dx3, _, rfl, h13, rfl, x, p, i3, 20, rfl, hp3, rfl, _, rfl, ?_⟩
      by_cases c : p.kind i3 = kName
      · refine if_true_of (decide_eq_true (by rw [c, eName])) ?_
        have lt := kind_lt c (by decide)
        have lr := Paired.length h33
        refine ⟨_, rfl, x, C, dx3, _, _, rfl, h13, T.cl, T.nT, pf_tokens _ _ _ _, _, rfl, x, C, dx3, _, _, rfl, h13, T.cl, T.nA, pf_at _ _ _ _, _, _, rfl, rfl, _, rfl, _, rfl, x, C, dx3, _, _, rfl, h13, T.cl, T.nA, pf_at _ _ _ _, _, _, rfl, rfl, _, rfl, tk3, rs3, rfl, SqL.of h23, fun sl hsl => ?_⟩
        rw [cutV_one rs3 i3 (by omega)]
        have hP0 := Paired.take 1 (Paired.drop (i3 + 1) h33)
        have pm : p.ts[i3 + 1]? = none ∧ (p.ts.drop (i3 + 1)).take 1 = [] ∨ ∃ t, p.ts[i3 + 1]? = some t ∧ (p.ts.drop (i3 + 1)).take 1 = [t] := by
          have z := drop_one (l := p.ts) (i := i3 + 1)
          cases e : p.ts[i3 + 1]? with
          | none => rw [e] at z; exact .inl ⟨rfl, z⟩
          | some t => rw [e] at z; exact .inr ⟨t, rfl, z⟩
        generalize (rs3.drop (i3 + 1)).take 1 = L at hP0
        generalize (p.ts.drop (i3 + 1)).take 1 = M at hP0 pm
        have lLM := Paired.length hP0
        have hp5 := hp3.new (o := .lst L) hsl
        have s5 := (SameBut.refl x H3).new (o := .lst L) hsl
        have hP5 := Paired.imp (TokAt.keep fun a xs e => new_keep (o' := .lst L) e hsl) hP0
        have hs5 : upd H3 sl (.lst L) sl = some (.lst L) := upd_same
        generalize upd H3 sl (.lst L) = H5 at hp5 s5 hP5 hs5
        refine ⟨sl, rfl, ⟨_, SqL.of hs5⟩, fun Dl hDl => ?_⟩
        have nD := hp5.ntk hDl
        have nDx := hp5.nx hDl
        have nDs : sl ≠ Dl := ne_of_none hs5 hDl
        have D3 : H3 Dl = none := SameBut.free hp5 s5 hDl
        refine lc_list (K := K) (a := sl) (xs := L) (fun j H' => PAt C p H' x i3 20 ∧ SameBut x H3 H' ∧ H' sl = some (.lst L) ∧ Paired (TokAt H') L M ∧ H' Dl = some (.lst ((M.take j).map fun t => tvV t.2.1)))
          ⟨hp5.new hDl, s5.new hDl, new_keep hs5 hDl, Paired.imp (TokAt.keep fun a xs e => new_keep e hDl) hP5, upd_same⟩ (fun j H' _ h => SqL.of h.2.2.1) ?_ ?_
        · rintro j y H' hy ⟨hp', s', hs', hP', hD'⟩
          obtain ⟨t, htj, a, rfl, hat⟩ := Paired.get1? hP' hy
          refine ⟨rfl, ?_⟩
          unfold tYes
          dsimp only
          rw [if_pos rfl]
          refine ⟨_, rfl, a, _, 1, _, rfl, rfl, SqT.of hat, rfl, _, hD', ?_, hp'.lst hD' nD, s'.own D3, ?_, ?_, ?_⟩
          · rw [List.length_map, List.length_take, sizeLine_eq]
            have : M.length ≤ 1 := by rcases pm with ⟨_, e⟩ | ⟨_, _, e⟩ <;> rw [e] <;> simp
            omega
          · rw [upd_ne nDs]
            exact hs'
          · exact Paired.imp (TokAt.keep fun b xs e => by rw [upd_ne (ne_of e hD' (by intro z; cases z))]; exact e) hP'
          · rw [upd_same, List.take_add_one, htj, List.map_append]
            rfl
        · rintro H6 ⟨hp6, s6, hs6, hP6, hD6⟩
          rw [lLM, List.take_length] at hD6
          refine ⟨(by show 1 ≤ sizeLine; decide), fun l2 hl2 => ?_⟩
          have hp7 := hp6.new (o := .lst [V.str (Str.ofString "(")]) hl2
          have s7 := s6.new (o := .lst [V.str (Str.ofString "(")]) hl2
          have q7 := Dn.from hp7 s7 q3
          have hx7 := new_keep (o' := .lst [V.str (Str.ofString "(")]) hD6 hl2
          refine ⟨.list (M.map fun t => tvD t.2.1), .list [K9.dS gOpen], .lst (SqL.of hx7) (dp_all M), .lst (SqL.of upd_same) (.cons (by rw [eOpen]; exact .str _) .nil), ?_, tv_shaped (v := .s gOpen) (by decide +kernel), _, rfl, ?_⟩
          · rcases pm with ⟨_, e⟩ | ⟨t, e1, e⟩
            · rw [e]
              rfl
            · rw [e]
              exact tv_shaped (hp.ok.txt t (List.mem_of_getElem? e1))
          have ev : PyData.eqv (.list (M.map fun t => tvD t.2.1)) (.list [K9.dS gOpen]) = decide ((p.ts[i3 + 1]?).map (·.2.1) = some (.s gOpen)) := by
            rcases pm with ⟨e1, e⟩ | ⟨t, e1, e⟩
            · rw [e, e1]
              rfl
            · rw [e, e1]
              refine (tv_eqv t.2.1).trans (decide_eq_decide.mpr ?_)
              simp
          rw [ev]
          obtain ⟨dx7, tk7, rs7, h17, _⟩ := id hp7.at_
          by_cases c2 : (p.ts[i3 + 1]?).map (·.2.1) = some (.s gOpen)
          · refine if_true_of (decide_eq_true c2) ?_
            rw [if_pos ⟨c, c2⟩] at q7
            refine ⟨_, rfl, x, dx7, _, rfl, h17, rfl, x, p, i3, 20, rfl, hp7, lt, Dn.bind q7 fun n i8 H8 v _ s8 hp8 r q8 => ?_⟩
            obtain rfl : v = tvV n := r
            obtain ⟨dx8, tk8, rs8, h18, _⟩ := id hp8.at_
            refine ⟨_, rfl, _, rfl, x, dx8, _, rfl, h18, rfl, x, p, i8, 20, false, rfl, hp8, Dn.bind q8 fun t i9 H9 v _ s9 hp9 r9 q9 => ⟨(by show 3 ≤ sizeLine; decide), fun a ha => q9 _ _ ((SameBut.refl x H9).new ha) (hp9.new ha) ?_⟩⟩
            rw [eFact]
            exact tp_tri ha (tp_str wFact) (tp_tv n) r9
          · refine if_false_of (decide_eq_false c2) ?_
            rw [if_neg fun z => c2 z.2] at q7
            exact ⟨rfl, hp7, q7⟩
      · refine if_false_of (decide_eq_false fun z => c (by rw [eName] at z; exact S_inj.mp (V.str.inj z))) ?_
        refine if_false_of rfl ?_
        rw [if_neg fun z => c z.1] at q3
        exact ⟨rfl, hp3, q3⟩
    · rintro σ H4 ⟨rfl, hp4, q4⟩
      obtain ⟨dx4, tk4, rs4, h14, _⟩ := id hp4.at_
      unfold Ps.test at q4
      refine ⟨_, rfl, x, dx4, _, rfl, h14, rfl, x, p, i3, rfl, hp4, Dn.bind q4 fun t1 i5 H5 v1 _ s5 hp5 r5 q5 => ?_⟩
      obtain ⟨dx5, tk5, rs5, h15, _⟩ := id hp5.at_
      refine ⟨_, rfl, x, dx5, _, rfl, h15, rfl, (by show 3 ≤ sizeLine; decide), fun t ht => ?_⟩
      have eT : [V.str (Str.ofString "<"), V.str (Str.ofString "<="), V.str (Str.ofString "=")] = [gLt, gLe, gEq].map vs := by rw [eGLt, eGLe, eGEq]; rfl
      rw [eT]
      have hp6 := hp5.new (o := .tup ([gLt, gLe, gEq].map vs)) ht
      have s6 := (SameBut.refl x H5).new (o := .tup ([gLt, gLe, gEq].map vs)) ht
      have h16 := new_keep (o' := .tup ([gLt, gLe, gEq].map vs)) h15 ht
      have r6 := r5.new (o := .tup ([gLt, gLe, gEq].map vs)) ht
      refine ⟨x, p, i5, 20, kSign, [gLt, gLe, gEq], t, (by rw [eSign]; rfl), hp6, by decide, SqT.of upd_same, _, rfl, ?_⟩
      generalize upd H5 t (.tup ([gLt, gLe, gEq].map vs)) = H6 at hp6 s6 h16 r6
      cases c : p.sees i5 kSign [gLt, gLe, gEq] with
      | false =>
        refine if_true_of rfl ?_
        rw [if_neg (by rw [c]; exact Bool.false_ne_true)] at q5
        exact ⟨_, rfl, x, dx5, _, rfl, h16, rfl, x, p, i5, 20, rfl, hp6, Dn.from (rep := rTp) (r := .no (p.at i5)) hp6 s6 q5⟩
      | true =>
        refine if_false_of rfl ?_
        rw [if_pos c] at q5
        refine ⟨_, rfl, x, dx5, _, rfl, h16, rfl, x, p, i5, 20, rfl, hp6, sees_lt c (by decide), Dn.to q5 hp6 s6 fun sg i7 H7 v _ s7 s67 hp7 r q7 => ?_⟩
        obtain rfl : v = tvV sg := r
        obtain ⟨dx7, tk7, rs7, h17, _⟩ := id hp7.at_
        refine ⟨_, rfl, _, rfl, _, rfl, x, dx7, _, rfl, h17, rfl, x, p, i7, rfl, hp7, Dn.to q7 hp7 s7 fun t2 i8 H8 v2 _ s8 s78 hp8 r8 q8 => ⟨(by show 4 ≤ sizeLine; decide), fun a ha => q8 _ _ (s8.new ha) (hp8.new ha) ?_⟩⟩
        rw [eTest]
        have r9 := (r6.but s67 hp6).but s78 hp7
        exact .tup upd_same (.cons (tp_str wTest) (.cons ((tp_tv sg).new ha) (.cons (r9.new ha) (.cons (r8.new ha) .nil))))
end
end K9
set_option Elab.async false
set_option linter.all false
set_option maxRecDepth 100000
namespace K9
open PySem L2 PyProof.Rows
theorem eIf : Str.ofString "if" = S wIf := by decide +kernel
theorem eRule : Str.ofString "rule" = S wRule := by decide +kernel
section
variable {P : Program} {w : World} {K : PySem.W.Frag} {mg : Str → Option Value} {base : Heap}
variable {fRf fR fK fS fM fW fAc fSg fN C CR fI : Addr} {dRf dR dK dSe dM dW dAc dSg dN : FuncData}
theorem scBody : FnScope ["self", "found"] ["self"] (defScope (sM 17)) := ⟨rfl, rfl, rfl, by decide +kernel, rfl, by decide +kernel, by decide +kernel⟩
theorem ok_body {f fE : Addr} {fd fdE : FuncData} (F : Fun K "body" "Parser.body" (sM 17) f fd) (D : Dms K C fRf fR fK fS fM fW fAc fSg fN dRf dR dK dSe dM dW dAc dSg dN) (DE : Dm K C "part" "Parser.part" (sM 18) ["self"] fE fdE) (T : PTxt P K mg C CR fI)
    (GE : FnOk P w K mg base (L2.CX P w) 70 fE fdE ["self"] (spE C CR 20 Ps.part)) : FnOk P w K mg base (L2.CX P w) 71 f fd ["self"] (spE C CR 20 Ps.body) := by
  have GN : FnOk P w K mg base (L2.CX P w) 6 fN dN ["self", "count", "most"] (spNx C CR) := ok_nx D T
  refine F.okX scBody (fun us H Q E h => ?_) (fun cdv A outer s H us Q E hr h => ?_)
  · obtain ⟨x, p, i, rfl, _⟩ := h
    rfl
  · obtain ⟨x, p, i, rfl, hp, q⟩ := h
    have hr6 : Room 6 _ := hr.mono (by decide)
    refine ⟨_, pss_cons (ps_set (i := 1) scBody.nd rfl (Or.inl rfl) (pe_lst (pa_cons (pe_meth0 (pv 0) T.cl DE.mt GE hr DE.b .nil (pass (takes_of rfl rfl rfl rfl))) pa_nil)))
      (pss_cons (ps_while (passes_of rfl) (pt_val (pe_meth (pv 0) T.cl D.nx.mt GN hr6 D.nx.b .nil (pass (takes_of rfl rfl rfl rfl)) (pa_cons (pe_callB call_len_seq (by rfl) T.len PySem.boot_len (pa_cons (pv 1) pa_nil)) (pa_cons (pe_gi T.MP) pa_nil))))
        (pss_one (ps_expr (pe_bm PySem.F.plainAttrs_list PySem.F.slot_list_append PySem.F.type_list_append mt_append (pv 1) (pa_cons (pe_meth0 (pv 0) T.cl DE.mt GE hr DE.b .nil (pass (takes_of rfl rfl rfl rfl))) pa_nil)))))
      (pss_one (ps_ret (pe_callTy call_tuple_of (by rfl) T.tuple boot_tuple (pa_cons (pv 1) pa_nil))))), ?_⟩
    obtain ⟨dx, tk, rs, h1, _⟩ := id hp.at_
    have q0 : Dn C CR p x 20 H Q E rTp (p.body i) := q
    unfold Ps.body at q0
    refine ⟨_, rfl, x, dx, _, rfl, h1, rfl, x, p, i, rfl, hp, Dn.bind q0 fun a i2 H2 v _ s2 hp2 r2 q2 => ⟨(by show 1 ≤ sizeLine; decide), fun l hl => ?_⟩⟩
    have nlx := hp2.nx hl
    have nlt := hp2.ntk hl
    refine ⟨fun m σ H' => ∃ (acc : List PyData) (vL : List V) (i : Nat), σ = [some (.ref x), some (.ref l)] ∧ PAt C p H' x i 20 ∧ SameBut x H2 H' ∧ H' l = some (.lst vL) ∧ TpAll H' vL acc ∧ acc.length + m = 12 ∧
        Dn C CR p x 20 H2 Q E rTp ((p.more 12 p.part m acc i).bind fun xs i => .ok (dT xs) i),
      ⟨11, [a], [v], i2, rfl, hp2.new hl, (SameBut.refl x H2).new hl, upd_same, .cons (r2.new hl) .nil, rfl, q2⟩, ?_⟩
    rintro m σ H6 ⟨acc, vL, i6, rfl, hp6, s6, hl6, ht6, hm, q6⟩
    obtain ⟨dx6, tk6, rs6, h16, _⟩ := id hp6.at_
    have lv := TpAll.length ht6
    have nq : Dn C CR p x 20 H2 Q E rTp ((p.next vL.length 12 i6).bind fun c i => (if c = true then (if m = 0 then .no 0 else (p.part i).bind fun d i => p.more 12 p.part (m - 1) (acc ++ [d]) i) else .ok acc i).bind fun xs i => .ok (dT xs) i) := by
      rw [lv]
      cases m with
      | zero => rw [more_0, Rs.bind_assoc] at q6; exact q6
      | succ m => rw [more_s, Rs.bind_assoc] at q6; exact q6
    refine ⟨_, rfl, x, dx6, _, rfl, h16, rfl, _, rfl, l, vL, rfl, .inl (SqL.of hl6), x, p, i6, 20, vL.length, 12, rfl, hp6, Dn.to nq hp6 s6 fun c i7 H7 u e7 s7 s67 hp7 r7 q7 => ?_⟩
    obtain rfl : u = .bl c := r7
    have hl7 := s67.keep hl6 nlx
    have ht7 := ht6.but s67 hp6
    refine ⟨_, rfl, ?_⟩
    cases c with
    | false =>
      refine if_false_of rfl ?_
      rw [if_neg Bool.false_ne_true] at q7
      refine ⟨_, rfl, l, vL, rfl, .inl ⟨SqL.of hl7, fun t ht => ?_⟩⟩
      exact q7 _ _ (s7.new ht) (hp7.new ht) (.tup upd_same (ht7.new ht))
    | true =>
      refine if_true_of rfl ?_
      rw [if_pos rfl] at q7
      have m0 : m ≠ 0 := fun z => by
        have : vL.length = 12 := by omega
        rw [this] at e7
        exact next_most e7
      rw [if_neg m0, Rs.bind_assoc] at q7
      obtain ⟨dx7, tk7, rs7, h17, _⟩ := id hp7.at_
      refine ⟨fun σ' H' => ∃ (acc : List PyData) (vL : List V) (i : Nat), σ' = [some (.ref x), some (.ref l)] ∧ PAt C p H' x i 20 ∧ SameBut x H2 H' ∧ H' l = some (.lst vL) ∧ TpAll H' vL acc ∧ acc.length + (m - 1) = 12 ∧
        Dn C CR p x 20 H2 Q E rTp ((p.more 12 p.part (m - 1) acc i).bind fun xs i => .ok (dT xs) i), fun σ' H' h => ⟨m - 1, by omega, h⟩, ?_⟩
      refine ⟨_, rfl, .inl ⟨rfl, _, SqL.of hl7⟩, ?_⟩
      refine ⟨_, rfl, x, dx7, _, rfl, h17, rfl, x, p, i7, rfl, hp7, Dn.to q7 hp7 s7 fun a i8 H8 v _ s8 s78 hp8 r8 q8 => ?_⟩
      have hl8 := s78.keep hl7 nlx
      refine ⟨l, _, _, rfl, rfl, hl8, by rw [sizeLine_eq]; omega, ?_⟩
      exact ⟨acc ++ [a], vL ++ [v], i8, rfl, hp8.lst hl8 nlt, s8.own hl, upd_same, TpAll.snoc (Tp.put hl8 r8) (TpAll.put hl8 (ht7.but s78 hp7)), by rw [List.length_append, List.length_singleton]; omega, q8⟩
/-! ### rule -/
theorem scRule : FnScope ["self", "head"] ["self"] (defScope (sM 13)) := ⟨rfl, rfl, rfl, by decide +kernel, rfl, by decide +kernel, by decide +kernel⟩
theorem ok_rule {f fT fB : Addr} {fd fdT fdB : FuncData} (F : Fun K "rule" "Parser.rule" (sM 13) f fd) (D : Dms K C fRf fR fK fS fM fW fAc fSg fN dRf dR dK dSe dM dW dAc dSg dN) (DT : Dm K C "terms" "Parser.terms" (sM 14) ["self", "in_head"] fT fdT) (DB : Dm K C "body" "Parser.body" (sM 17) ["self"] fB fdB) (T : PTxt P K mg C CR fI)
    (GT : FnOk P w K mg base (L2.CX P w) 8 fT fdT ["self", "in_head"] (spTerms C CR)) (GB : FnOk P w K mg base (L2.CX P w) 71 fB fdB ["self"] (spE C CR 20 Ps.body)) : FnOk P w K mg base (L2.CX P w) 72 f fd ["self"] (spE C CR 20 Ps.rule) := by
  have GR : FnOk P w K mg base (L2.CX P w) 3 fRf dRf ["self"] (spRefuse C CR) := ok_refuse D.rf.fn T D.rd
  have GA : FnOk P w K mg base (L2.CX P w) 5 fAc dAc ["self", "kind", "word"] (spAcc C CR) := ok_acc D T
  have GW : FnOk P w K mg base (L2.CX P w) 5 fW dW ["self", "kind"] (spWant C CR) := ok_want D T
  refine F.okX scRule (fun us H Q E h => ?_) (fun cdv A outer s H us Q E hr h => ?_)
  · obtain ⟨x, p, i, rfl, _⟩ := h
    rfl
  · obtain ⟨x, p, i, rfl, hp, q⟩ := h
    have hr3 : Room 3 _ := hr.mono (by decide)
    have hr5 : Room 5 _ := hr.mono (by decide)
    have hr8 : Room 8 _ := hr.mono (by decide)
    refine ⟨_, pss_cons (ps_if (pt_not (pt_val (pe_meth (pv 0) T.cl D.ac.mt GA hr5 D.ac.b .nil (pass (takes_of rfl rfl rfl rfl)) (pa_cons pe_str (pa_cons pe_str pa_nil))))) (pss_one (ps_expr (pe_meth0 (pv 0) T.cl D.rf.mt GR hr3 D.rf.b .nil (pass (takes_of rfl rfl rfl rfl))))) pss_nil)
      (pss_cons (ps_set (i := 1) scRule.nd rfl (Or.inl rfl) (pe_tup (pa_cons (pe_meth (pv 0) T.cl D.wa.mt GW hr5 D.wa.b .nil (pass (takes_of rfl rfl rfl rfl)) (pa_cons pe_str pa_nil)) (pa_cons (pe_meth (pv 0) T.cl DT.mt GT hr8 DT.b .nil (pass (takes_of rfl rfl rfl rfl)) (pa_cons pe_bl pa_nil)) pa_nil))))
      (pss_one (ps_ret (pe_tup (pa_cons pe_str (pa_cons (pv 1) (pa_cons (pe_ifExp (pt_val (pe_meth (pv 0) T.cl D.ac.mt GA hr5 D.ac.b .nil (pass (takes_of rfl rfl rfl rfl)) (pa_cons pe_str (pa_cons pe_str pa_nil)))) (pe_meth0 (pv 0) T.cl DB.mt GB hr DB.b .nil (pass (takes_of rfl rfl rfl rfl))) (pe_tup pa_nil)) pa_nil))))))), ?_⟩
    obtain ⟨dx, tk, rs, h1, _⟩ := id hp.at_
    have q0 : Dn C CR p x 20 H Q E rTp (p.rule i) := q
    unfold Ps.rule at q0
    refine ⟨_, rfl, x, dx, _, rfl, h1, rfl, x, p, i, 20, kKey, wRule, (by rw [eKey, eRule]; rfl), hp, by decide, Dn.bind q0 fun b i2 H2 v _ s2 hp2 r q2 => ?_⟩
    obtain rfl : v = .bl b := r
    refine ⟨_, rfl, ?_⟩
    obtain ⟨dx2, tk2, rs2, h12, _⟩ := id hp2.at_
    cases b with
    | false =>
      refine if_true_of rfl ?_
      rw [if_neg Bool.false_ne_true] at q2
      exact ⟨_, rfl, x, dx2, _, rfl, h12, rfl, x, p, i2, 20, rfl, hp2, q2⟩
    | true =>
      refine if_false_of rfl ?_
      rw [if_pos rfl] at q2
      refine ⟨_, rfl, x, dx2, _, rfl, h12, rfl, x, p, i2, 20, kName, (by rw [eName]; rfl), hp2, by decide, Dn.bind q2 fun n i3 H3 v _ s3 hp3 r q3 => ?_⟩
      obtain rfl : v = tvV n := r
      obtain ⟨dx3, tk3, rs3, h13, _⟩ := id hp3.at_
      refine ⟨_, rfl, x, dx3, _, rfl, h13, rfl, x, p, i3, 20, true, rfl, hp3, Dn.bind q3 fun t i4 H4 vt _ s4 hp4 r4 q4 => ⟨(by show 2 ≤ sizeLine; decide), fun a ha => ?_⟩⟩
      have hp5 := hp4.new (o := .tup [tvV n, vt]) ha
      have s5 := (SameBut.refl x H4).new (o := .tup [tvV n, vt]) ha
      have rh := tp_pair ha (tp_tv n) r4
      have q5 := Dn.from hp5 s5 q4
      generalize upd H4 a (.tup [tvV n, vt]) = H5 at hp5 s5 rh q5
      unfold Ps.ruleTail at q5
      obtain ⟨dx5, tk5, rs5, h15, _⟩ := id hp5.at_
      refine ⟨_, rfl, _, rfl, x, dx5, _, rfl, h15, rfl, x, p, i4, 20, kKey, wIf, (by rw [eKey, eIf]; rfl), hp5, by decide, Dn.bind q5 fun b i6 H6 v _ s6 hp6 r q6 => ?_⟩
      obtain rfl : v = .bl b := r
      refine ⟨_, rfl, ?_⟩
      obtain ⟨dx6, tk6, rs6, h16, _⟩ := id hp6.at_
      have rh6 := rh.but s6 hp5
      cases b with
      | true =>
        refine if_true_of rfl ?_
        rw [if_pos rfl] at q6
        refine ⟨_, rfl, x, dx6, _, rfl, h16, rfl, x, p, i6, rfl, hp6, Dn.bind q6 fun u i7 H7 v _ s7 hp7 r7 q7 => ⟨(by show 3 ≤ sizeLine; decide), fun c hc => q7 _ _ ((SameBut.refl x H7).new hc) (hp7.new hc) ?_⟩⟩
        rw [eRule]
        exact tp_tri hc (tp_str wRule) (rh6.but s7 hp6) r7
      | false =>
        refine if_false_of rfl ?_
        rw [if_neg Bool.false_ne_true] at q6
        refine ⟨Nat.zero_le _, fun e he => ⟨(by show 3 ≤ sizeLine; decide), fun c hc => q6 _ _ (((SameBut.refl x H6).new he).new hc) ((hp6.new he).new hc) ?_⟩⟩
        rw [eRule]
        exact tp_tri hc (tp_str wRule) (rh6.new he) (.tup upd_same .nil)
end
end K9
set_option Elab.async false
namespace K9
open PySem
/-! ### a parser never goes back -/
def Mono {α : Type} (f : Nat → Rs α) : Prop := ∀ i a j, f i = .ok a j → i ≤ j
theorem bind_ok_iff {α β : Type} {r : Rs α} {f : α → Nat → Rs β} {b : β} {j : Nat} (h : r.bind f = .ok b j) : ∃ a i, r = .ok a i ∧ f a i = .ok b j := by
  cases r with
  | no k => cases h
  | ok a i => exact ⟨a, i, rfl, h⟩
theorem move_up {p : Ps} {i j : Nat} {v : Tv} (h : p.move i = .ok v j) : j = i + 1 := by
  unfold Ps.move at h
  split at h
  · cases h
  · cases h
    rfl
theorem mono_move (p : Ps) : Mono p.move := fun i a j h => by have := move_up h; omega
theorem mono_want (p : Ps) (k : List Nat) : Mono (p.want k) := fun i a j h => by
  unfold Ps.want at h
  split at h
  · exact mono_move p i a j h
  · cases h
theorem acc_up {p : Ps} {k w : List Nat} {i j : Nat} {b : Bool} (h : p.accepts k w i = .ok b j) : i ≤ j ∧ (b = true → j = i + 1) ∧ (b = false → j = i) := by
  unfold Ps.accepts at h
  split at h
  · obtain ⟨a, i2, h1, h2⟩ := bind_ok_iff h
    have := move_up h1
    cases h2
    exact ⟨by omega, fun _ => this, fun z => by cases z⟩
  · cases h
    exact ⟨Nat.le_refl _, fun z => (by cases z), fun _ => rfl⟩
theorem mono_acc (p : Ps) (k w : List Nat) : Mono (p.accepts k w) := fun i a j h => (acc_up h).1
theorem mono_sign (p : Ps) (w : List Nat) : Mono (p.sign w) := fun i a j h => by
  obtain ⟨b, i2, h1, h2⟩ := bind_ok_iff h
  have := (acc_up h1).1
  split at h2
  · cases h2
    exact this
  · cases h2
theorem mono_next (p : Ps) (n m : Nat) : Mono (p.next n m) := fun i a j h => by
  unfold Ps.next at h
  split at h
  · cases h
  · exact mono_acc p _ _ i a j h
theorem Mono.bind {α β : Type} {f : Nat → Rs α} {g : α → Nat → Rs β} (hf : Mono f) (hg : ∀ a, Mono (g a)) : Mono fun i => (f i).bind g := fun i b j h => by
  obtain ⟨a, i2, h1, h2⟩ := bind_ok_iff h
  exact Nat.le_trans (hf i a i2 h1) (hg a i2 b j h2)
theorem Mono.ok {α : Type} (a : α) : Mono fun i => Rs.ok a i := fun i b j h => by
  cases h
  exact Nat.le_refl _
theorem Mono.no {α : Type} (f : Nat → Nat) : Mono fun i => (Rs.no (f i) : Rs α) := fun i b j h => by cases h
theorem Mono.ite {α : Type} {c : Nat → Prop} [∀ i, Decidable (c i)] {f g : Nat → Rs α} (hf : Mono f) (hg : Mono g) : Mono fun i => if c i then f i else g i := fun i b j h => by
  dsimp only at h
  split at h
  · exact hf i b j h
  · exact hg i b j h
theorem Mono.iteB {α : Type} {b : Bool} {f g : Nat → Rs α} (hf : Mono f) (hg : Mono g) : Mono fun i => if b = true then f i else g i := Mono.ite (c := fun _ => b = true) hf hg
theorem mono_more (p : Ps) (most : Nat) {el : Nat → Rs PyData} (h : Mono el) : ∀ n acc, Mono (p.more most el n acc)
  | 0, acc => Mono.bind (mono_next p _ _) fun b => Mono.iteB (Mono.no fun _ => 0) (Mono.ok _)
  | n + 1, acc => Mono.bind (mono_next p _ _) fun b => Mono.iteB (Mono.bind h fun d => mono_more p most h n _) (Mono.ok _)
theorem mono_row (p : Ps) {el : Nat → Rs PyData} (h : Mono el) : Mono (p.row el) :=
  Mono.bind (mono_sign p _) fun _ => Mono.bind (Mono.ite (Mono.ok _) (Mono.bind h fun d => mono_more p 6 h 5 _)) fun xs => Mono.bind (mono_sign p _) fun _ => Mono.ok _
theorem mono_sort (p : Ps) : Mono p.oneSort := Mono.ite (Mono.bind (mono_move p) fun _ => Mono.ok _) (Mono.no _)
theorem mono_value (p : Ps) : Mono p.value := Mono.bind (mono_acc p _ _) fun b => Mono.iteB (Mono.bind (mono_want p _) fun _ => Mono.ok _) (Mono.ite (Mono.bind (mono_move p) fun _ => Mono.ok _) (Mono.no _))
theorem mono_termB (p : Ps) : Mono p.termB := Mono.ite (Mono.bind (mono_move p) fun _ => Mono.ok _) (mono_value p)
theorem mono_term (p : Ps) (b : Bool) : Mono (p.term b) := Mono.iteB (Mono.bind (mono_acc p _ _) fun c => Mono.iteB (Mono.ok _) (Mono.ite (Mono.bind (mono_move p) fun _ => Mono.bind (mono_want p _) fun _ => Mono.ok _) (mono_termB p))) (mono_termB p)
theorem mono_terms (p : Ps) (b : Bool) : Mono (p.terms b) := Mono.bind (mono_row p (mono_term p b)) fun _ => Mono.ok _
theorem mono_piece (p : Ps) {so : Option (Nat → Rs PyData)} (h : ∀ f, so = some f → Mono f) : Mono (p.pieceOf so) := by
  refine Mono.ite (Mono.bind (mono_move p) fun _ => Mono.ok _) (Mono.ite ?_ (mono_value p))
  cases so with
  | none => exact Mono.no _
  | some f => exact Mono.bind (mono_sign p _) fun _ => Mono.bind (h f rfl) fun _ => Mono.bind (mono_sign p _) fun _ => Mono.ok _
theorem mono_opRow (p : Ps) (se : Nat → Bool) {el : Nat → Rs PyData} (h : Mono el) : ∀ n t, Mono (p.opRow se el n t)
  | 0, t => Mono.ite (c := fun i => se i = true) (Mono.no _) (Mono.ok _)
  | n + 1, t => Mono.ite (c := fun i => se i = true) (Mono.bind (mono_move p) fun _ => Mono.bind h fun _ => mono_opRow p se h n _) (Mono.ok _)
theorem mono_product (p : Ps) {so : Option (Nat → Rs PyData)} (h : ∀ f, so = some f → Mono f) : Mono (p.productOf so) := Mono.bind (mono_piece p h) fun _ => mono_opRow p _ (mono_piece p h) 12 _
theorem mono_sumsOf (p : Ps) {so : Option (Nat → Rs PyData)} (h : ∀ f, so = some f → Mono f) : Mono (p.sumsOf so) := Mono.bind (mono_product p h) fun _ => mono_opRow p _ (mono_product p h) 12 _
theorem mono_sums (p : Ps) : ∀ d, Mono (p.sums d)
  | 0 => mono_sumsOf p fun f h => by cases h
  | d + 1 => mono_sumsOf p fun f h => by
    cases h
    exact mono_sums p d
theorem mono_test (p : Ps) : Mono p.test := Mono.bind (mono_sums p 20) fun _ => Mono.ite (Mono.bind (mono_move p) fun _ => Mono.bind (mono_sums p 20) fun _ => Mono.ok _) (Mono.no _)
theorem mono_part (p : Ps) : Mono p.part := Mono.bind (mono_acc p _ _) fun b => Mono.iteB (Mono.bind (mono_want p _) fun _ => Mono.bind (mono_terms p _) fun _ => Mono.ok _)
  (Mono.bind (mono_acc p _ _) fun b => Mono.iteB (Mono.bind (mono_want p _) fun _ => Mono.bind (mono_sign p _) fun _ => Mono.bind (mono_sums p 20) fun _ => Mono.ok _)
    (Mono.ite (c := fun i => p.kind i = kName ∧ (p.ts[i + 1]?).map (·.2.1) = some (.s gOpen)) (Mono.bind (mono_move p) fun _ => Mono.bind (mono_terms p _) fun _ => Mono.ok _) (mono_test p)))
theorem mono_body (p : Ps) : Mono p.body := Mono.bind (mono_part p) fun _ => Mono.bind (mono_more p 12 (mono_part p) 11 _) fun _ => Mono.ok _
theorem mono_ruleTail (p : Ps) (n : Tv) (t : PyData) : Mono (p.ruleTail n t) := Mono.bind (mono_acc p _ _) fun b => Mono.bind (Mono.iteB (mono_body p) (Mono.ok _)) fun _ => Mono.ok _
theorem mono_neverTail (p : Ps) : Mono p.neverTail := Mono.bind (mono_want p _) fun _ => Mono.bind (mono_acc p _ _) fun b => Mono.iteB (Mono.bind (mono_body p) fun _ => Mono.ok _) (Mono.no _)
theorem rel_up {p : Ps} {i j : Nat} {d : PyData} (h : p.relation i = .ok d j) : i < j := by
  obtain ⟨a, i2, h1, h2⟩ := bind_ok_iff h
  have e := move_up h1
  have := (Mono.bind (mono_want p kName) fun n => Mono.bind (mono_row p (mono_sort p)) fun xs => Mono.ok (dT [tvD a, tvD n, dT xs])) i2 d j h2
  omega
theorem rule_up {p : Ps} {i j : Nat} {d : PyData} (h : p.rule i = .ok d j) : i < j := by
  obtain ⟨b, i2, h1, h2⟩ := bind_ok_iff h
  cases b with
  | false => cases h2
  | true =>
    have e := (acc_up h1).2.1 rfl
    have := (Mono.bind (mono_want p kName) fun n => Mono.bind (mono_terms p true) fun t => mono_ruleTail p n t) i2 d j h2
    omega
end K9
set_option Elab.async false
set_option linter.all false
set_option maxRecDepth 100000
namespace K9
open PySem L2 PyProof.Rows
theorem eBase : Str.ofString "base" = S wBase := by decide +kernel
theorem eDerived : Str.ofString "derived" = S wDerived := by decide +kernel
theorem eNever : Str.ofString "never" = S wNever := by decide +kernel
theorem eProgram : Str.ofString "program" = S wProgram := by decide +kernel
theorem program_s (p : Ps) (n : Nat) (rel rul nev : List PyData) (i : Nat) : p.program (n + 1) rel rul nev i = if i < p.ts.length then
      if p.sees i kKey [wBase, wDerived] = true then (p.relation i).bind fun d i => p.program n (rel ++ [d]) rul nev i
      else (p.accepts kKey wNever i).bind fun b i =>
        if b = true then (p.neverTail i).bind fun d i => p.program n rel rul (nev ++ [d]) i
        else (p.rule i).bind fun d i => p.program n rel (rul ++ [d]) nev i
    else .ok (dT [dS wProgram, dT rel, dT rul, dT nev]) i := rfl
section
variable {P : Program} {w : World} {K : PySem.W.Frag} {mg : Str → Option Value} {base : Heap}
variable {fRf fR fK fS fM fW fAc fSg fN C CR fI : Addr} {dRf dR dK dSe dM dW dAc dSg dN : FuncData}
def spProg (C CR : Addr) : Sp := fun us H Q E => ∃ (x : Addr) (p : Pt), us = [.ref x] ∧ PAt C p H x 0 20 ∧ Dn C CR p x 20 H Q E rTp (p.program (p.ts.length + 1) [] [] [] 0)
theorem scProg : FnScope ["self", "relations", "rules", "nevers", "name"] ["self"] (defScope (sM 10)) := ⟨rfl, rfl, rfl, by decide +kernel, rfl, by decide +kernel, by decide +kernel⟩
theorem ok_prog {f fL fB fU : Addr} {fd fdL fdB fdU : FuncData} (F : Fun K "program" "Parser.program" (sM 10) f fd) (D : Dms K C fRf fR fK fS fM fW fAc fSg fN dRf dR dK dSe dM dW dAc dSg dN) (DL : Dm K C "relation" "Parser.relation" (sM 11) ["self"] fL fdL)
    (DB : Dm K C "body" "Parser.body" (sM 17) ["self"] fB fdB) (DU : Dm K C "rule" "Parser.rule" (sM 13) ["self"] fU fdU) (T : PTxt P K mg C CR fI) (GL : FnOk P w K mg base (L2.CX P w) 7 fL fdL ["self"] (spRel C CR))
    (GB : FnOk P w K mg base (L2.CX P w) 71 fB fdB ["self"] (spE C CR 20 Ps.body)) (GU : FnOk P w K mg base (L2.CX P w) 72 fU fdU ["self"] (spE C CR 20 Ps.rule)) : FnOk P w K mg base (L2.CX P w) 73 f fd ["self"] (spProg C CR) := by
  have GS : FnOk P w K mg base CX0 3 fS dSe ["self", "kind", "words"] (spSees K C) := ok_sees D.se.fn T D.kd D.rd
  have GI : FnOk P w K mg base CX0 1 fR dR ["self"] (spRead C) := ok_read D.rd.fn T
  have GR : FnOk P w K mg base (L2.CX P w) 3 fRf dRf ["self"] (spRefuse C CR) := ok_refuse D.rf.fn T D.rd
  have GA : FnOk P w K mg base (L2.CX P w) 5 fAc dAc ["self", "kind", "word"] (spAcc C CR) := ok_acc D T
  have GW : FnOk P w K mg base (L2.CX P w) 5 fW dW ["self", "kind"] (spWant C CR) := ok_want D T
  refine F.okX scProg (fun us H Q E h => ?_) (fun cdv A outer s H us Q E hr h => ?_)
  · obtain ⟨x, p, rfl, _⟩ := h
    rfl
  · obtain ⟨x, p, rfl, hp, q⟩ := h
    have hr1 : Room 1 _ := hr.mono (by decide)
    have hr3 : Room 3 _ := hr.mono (by decide)
    have hr5 : Room 5 _ := hr.mono (by decide)
    have hr7 : Room 7 _ := hr.mono (by decide)
    have hr71 : Room 71 _ := hr.mono (by decide)
    refine ⟨_, pss_cons (ps_set (i := 1) scProg.nd rfl (Or.inl rfl) (pe_lst pa_nil)) (pss_cons (ps_set (i := 2) scProg.nd rfl (Or.inl rfl) (pe_lst pa_nil)) (pss_cons (ps_set (i := 3) scProg.nd rfl (Or.inl rfl) (pe_lst pa_nil))
      (pss_cons (ps_while (passes_of rfl) (pt_not (pt_val (pe_meth0 (pv 0) T.cl D.rd.mt GI hr1 D.rd.b .nil pass0)))
        (pss_one (ps_if (pt_val (pe_meth (pv 0) T.cl D.se.mt GS hr3 D.se.b .nil pass0 (pa_cons pe_str (pa_cons (pe_tup (pa_cons pe_str (pa_cons pe_str pa_nil))) pa_nil))))
          (pss_one (ps_expr (pe_bm PySem.F.plainAttrs_list PySem.F.slot_list_append PySem.F.type_list_append mt_append (pv 1) (pa_cons (pe_meth0 (pv 0) T.cl DL.mt GL hr7 DL.b .nil (pass (takes_of rfl rfl rfl rfl))) pa_nil))))
          (pss_one (ps_if (pt_val (pe_meth (pv 0) T.cl D.ac.mt GA hr5 D.ac.b .nil (pass (takes_of rfl rfl rfl rfl)) (pa_cons pe_str (pa_cons pe_str pa_nil))))
            (pss_cons (ps_set (i := 4) scProg.nd rfl (Or.inl rfl) (pe_meth (pv 0) T.cl D.wa.mt GW hr5 D.wa.b .nil (pass (takes_of rfl rfl rfl rfl)) (pa_cons pe_str pa_nil)))
              (pss_cons (ps_if (pt_not (pt_val (pe_meth (pv 0) T.cl D.ac.mt GA hr5 D.ac.b .nil (pass (takes_of rfl rfl rfl rfl)) (pa_cons pe_str (pa_cons pe_str pa_nil))))) (pss_one (ps_expr (pe_meth0 (pv 0) T.cl D.rf.mt GR hr3 D.rf.b .nil (pass (takes_of rfl rfl rfl rfl))))) pss_nil)
              (pss_one (ps_expr (pe_bm PySem.F.plainAttrs_list PySem.F.slot_list_append PySem.F.type_list_append mt_append (pv 3) (pa_cons (pe_tup (pa_cons pe_str (pa_cons (pv 4) (pa_cons (pe_meth0 (pv 0) T.cl DB.mt GB hr71 DB.b .nil (pass (takes_of rfl rfl rfl rfl))) pa_nil)))) pa_nil))))))
            (pss_one (ps_expr (pe_bm PySem.F.plainAttrs_list PySem.F.slot_list_append PySem.F.type_list_append mt_append (pv 2) (pa_cons (pe_meth0 (pv 0) T.cl DU.mt GU hr DU.b .nil (pass (takes_of rfl rfl rfl rfl))) pa_nil)))))))))
      (pss_one (ps_ret (pe_tup (pa_cons pe_str (pa_cons (pe_callTy call_tuple_of (by rfl) T.tuple boot_tuple (pa_cons (pv 1) pa_nil)) (pa_cons (pe_callTy call_tuple_of (by rfl) T.tuple boot_tuple (pa_cons (pv 2) pa_nil)) (pa_cons (pe_callTy call_tuple_of (by rfl) T.tuple boot_tuple (pa_cons (pv 3) pa_nil)) pa_nil)))))))))), ?_⟩
    refine ⟨Nat.zero_le _, fun a ha => ⟨Nat.zero_le _, fun b hb => ⟨Nat.zero_le _, fun c hc => ?_⟩⟩⟩
    have pa := hp.new (o := .lst []) ha
    have pb := pa.new (o := .lst []) hb
    have pc := pb.new (o := .lst []) hc
    have nax := hp.nx ha
    have nat := hp.ntk ha
    have nbx := pa.nx hb
    have nbt := pa.ntk hb
    have ncx := pb.nx hc
    have nct := pb.ntk hc
    have nab : a ≠ b := ne_of_none upd_same hb
    have nac : a ≠ c := ne_of_none (new_keep (o' := .lst []) (upd_same (H := H) (a := a) (o := .lst [])) hb) hc
    have nbc : b ≠ c := ne_of_none upd_same hc
    have sc := (((SameBut.refl x H).new (o := .lst []) ha).new (o := .lst []) hb).new (o := .lst []) hc
    have Hb : H b = none := by rw [upd_ne nab.symm] at hb; exact hb
    have Hc : H c = none := by rw [upd_ne nbc.symm, upd_ne nac.symm] at hc; exact hc
    refine ⟨fun m σ H' => ∃ (rel rul nev : List PyData) (vR vU vN : List V) (i : Nat) (v4 : Option V), σ = [some (.ref x), some (.ref a), some (.ref b), some (.ref c), v4] ∧ PAt C p H' x i 20 ∧ SameBut x H H' ∧ H' a = some (.lst vR) ∧ H' b = some (.lst vU) ∧ H' c = some (.lst vN) ∧
        TpAll H' vR rel ∧ TpAll H' vU rul ∧ TpAll H' vN nev ∧ p.ts.length < i + m ∧ rel.length + rul.length + nev.length ≤ i ∧ Dn C CR p x 20 H Q E rTp (p.program m rel rul nev i),
      ⟨p.ts.length + 1, [], [], [], [], [], [], 0, none, rfl, pc, sc, new_keep (new_keep upd_same hb) hc, new_keep upd_same hc, upd_same, .nil, .nil, .nil, by omega, Nat.le_refl _, q⟩, ?_⟩
    rintro m σ H1 ⟨rel, rul, nev, vR, vU, vN, i, v4, rfl, hp1, s1, ha1, hb1, hc1, tR, tU, tN, hm, hn, q1⟩
    obtain ⟨dx1, tk1, rs1, h11, _⟩ := id hp1.at_
    have hle := hp1.le
    obtain ⟨m, rfl⟩ : ∃ m', m = m' + 1 := ⟨m - 1, by omega⟩
    rw [program_s] at q1
    refine ⟨_, rfl, x, dx1, _, rfl, h11, rfl, x, p, i, 20, rfl, hp1, _, rfl, ?_⟩
    have lR := TpAll.length tR
    have lU := TpAll.length tU
    have lN := TpAll.length tN
    have few : p.ts.length ≤ 100000 := hp.ok.few
    by_cases ce : i = p.ts.length
    · refine if_false_of (by rw [decide_eq_true ce]; rfl) ?_
      rw [if_neg (by omega)] at q1
      refine ⟨_, rfl, a, vR, rfl, .inl ⟨SqL.of ha1, fun t1 ht1 => ?_⟩⟩
      have k1 := new_keep (o' := .tup vR) hb1 ht1
      have k2 := new_keep (o' := .tup vR) hc1 ht1
      refine ⟨_, rfl, b, vU, rfl, .inl ⟨SqL.of k1, fun t2 ht2 => ?_⟩⟩
      have k3 := new_keep (o' := .tup vU) k2 ht2
      refine ⟨_, rfl, c, vN, rfl, .inl ⟨SqL.of k3, fun t3 ht3 => ⟨(by show 4 ≤ sizeLine; decide), fun t4 ht4 => ?_⟩⟩⟩
      refine q1 _ _ ((((s1.new ht1).new ht2).new ht3).new ht4) ((((hp1.new ht1).new ht2).new ht3).new ht4) ?_
      have r1 : Tp (upd H1 t1 (.tup vR)) (.ref t1) (dT rel) := .tup upd_same (tR.new ht1)
      have r2 : Tp (upd (upd H1 t1 (.tup vR)) t2 (.tup vU)) (.ref t2) (dT rul) := .tup upd_same ((tU.new ht1).new ht2)
      have r3 : Tp (upd (upd (upd H1 t1 (.tup vR)) t2 (.tup vU)) t3 (.tup vN)) (.ref t3) (dT nev) := .tup upd_same (((tN.new ht1).new ht2).new ht3)
      rw [eProgram]
      exact .tup upd_same (.cons (tp_str wProgram) (.cons (((r1.new ht2).new ht3).new ht4) (.cons ((r2.new ht3).new ht4) (.cons (r3.new ht4) .nil))))
    · refine if_true_of (by rw [decide_eq_false ce]; rfl) ?_
      have lt : i < p.ts.length := by omega
      rw [if_pos lt] at q1
      refine ⟨_, fun σ' H' h => ⟨m, Nat.lt_succ_self m, h⟩, ?_⟩
      refine ⟨_, rfl, x, dx1, _, rfl, h11, rfl, (by show 2 ≤ sizeLine; decide), fun t ht => ?_⟩
      have eT : [V.str (Str.ofString "base"), V.str (Str.ofString "derived")] = [wBase, wDerived].map vs := by rw [eBase, eDerived]; rfl
      rw [eT]
      have hp2 := hp1.new (o := .tup ([wBase, wDerived].map vs)) ht
      have s2 := s1.new (o := .tup ([wBase, wDerived].map vs)) ht
      have h12 := new_keep (o' := .tup ([wBase, wDerived].map vs)) h11 ht
      have ha2 := new_keep (o' := .tup ([wBase, wDerived].map vs)) ha1 ht
      have hb2 := new_keep (o' := .tup ([wBase, wDerived].map vs)) hb1 ht
      have hc2 := new_keep (o' := .tup ([wBase, wDerived].map vs)) hc1 ht
      have tR2 := tR.new (o := .tup ([wBase, wDerived].map vs)) ht
      have tU2 := tU.new (o := .tup ([wBase, wDerived].map vs)) ht
      have tN2 := tN.new (o := .tup ([wBase, wDerived].map vs)) ht
      refine ⟨x, p, i, 20, kKey, [wBase, wDerived], t, (by rw [eKey]; rfl), hp2, by decide, SqT.of upd_same, _, rfl, ?_⟩
      generalize upd H1 t (.tup ([wBase, wDerived].map vs)) = H2 at hp2 s2 h12 ha2 hb2 hc2 tR2 tU2 tN2
      cases c1 : p.sees i kKey [wBase, wDerived] with
      | true =>
        refine if_true_of rfl ?_
        rw [if_pos c1] at q1
        refine ⟨_, rfl, .inl ⟨rfl, _, SqL.of ha2⟩, ?_⟩
        refine ⟨_, rfl, x, dx1, _, rfl, h12, rfl, x, p, i, 20, rfl, hp2, lt, Dn.to q1 hp2 s2 fun d i3 H3 v e3 s3 s23 hp3 r3 q3 => ?_⟩
        have up := rel_up e3
        have ha3 := s23.keep ha2 nax
        refine ⟨a, _, _, rfl, rfl, ha3, by rw [sizeLine_eq]; omega, ?_⟩
        exact ⟨rel ++ [d], rul, nev, vR ++ [v], vU, vN, i3, v4, rfl, hp3.lst ha3 nat, s3.own ha, upd_same, by rw [upd_ne nab.symm]; exact s23.keep hb2 nbx, by rw [upd_ne nac.symm]; exact s23.keep hc2 ncx,
          TpAll.snoc (Tp.put ha3 r3) (TpAll.put ha3 (tR2.but s23 hp2)), TpAll.put ha3 (tU2.but s23 hp2), TpAll.put ha3 (tN2.but s23 hp2), by omega, by rw [List.length_append, List.length_singleton]; omega, q3⟩
      | false =>
        refine if_false_of rfl ?_
        rw [if_neg (by rw [c1]; exact Bool.false_ne_true)] at q1
        refine ⟨_, rfl, x, dx1, _, rfl, h12, rfl, x, p, i, 20, kKey, wNever, (by rw [eKey, eNever]; rfl), hp2, by decide, Dn.to q1 hp2 s2 fun nb i3 H3 v e3 s3 s23 hp3 r3 q3 => ?_⟩
        obtain rfl : v = .bl nb := r3
        refine ⟨_, rfl, ?_⟩
        obtain ⟨dx3, tk3, rs3, h13, _⟩ := id hp3.at_
        have ha3 := s23.keep ha2 nax
        have hb3 := s23.keep hb2 nbx
        have hc3 := s23.keep hc2 ncx
        have tR3 := tR2.but s23 hp2
        have tU3 := tU2.but s23 hp2
        have tN3 := tN2.but s23 hp2
        cases nb with
        | false =>
          refine if_false_of rfl ?_
          rw [if_neg Bool.false_ne_true] at q3
          have e3' := (acc_up e3).2.2 rfl
          refine ⟨_, rfl, .inl ⟨rfl, _, SqL.of hb3⟩, ?_⟩
          refine ⟨_, rfl, x, dx3, _, rfl, h13, rfl, x, p, i3, rfl, hp3, Dn.to q3 hp3 s3 fun d i4 H4 v e4 s4 s34 hp4 r4 q4 => ?_⟩
          have up := rule_up e4
          have hb4 := s34.keep hb3 nbx
          refine ⟨b, _, _, rfl, rfl, hb4, by rw [sizeLine_eq]; omega, ?_⟩
          exact ⟨rel, rul ++ [d], nev, vR, vU ++ [v], vN, i4, v4, rfl, hp4.lst hb4 nbt, s4.own Hb, by rw [upd_ne nab]; exact s34.keep ha3 nax, upd_same, by rw [upd_ne nbc.symm]; exact s34.keep hc3 ncx,
            TpAll.put hb4 (tR3.but s34 hp3), TpAll.snoc (Tp.put hb4 r4) (TpAll.put hb4 (tU3.but s34 hp3)), TpAll.put hb4 (tN3.but s34 hp3), by omega, by rw [List.length_append, List.length_singleton]; omega, q4⟩
        | true =>
          refine if_true_of rfl ?_
          rw [if_pos rfl] at q3
          have e3' := (acc_up e3).2.1 rfl
          unfold Ps.neverTail at q3
          rw [Rs.bind_assoc] at q3
          refine ⟨_, rfl, x, dx3, _, rfl, h13, rfl, x, p, i3, 20, kName, (by rw [eName]; rfl), hp3, by decide, Dn.to q3 hp3 s3 fun n i4 H4 v e4 s4 s34 hp4 r4 q4 => ?_⟩
          obtain rfl : v = tvV n := r4
          have u4 := mono_want p.toPs kName _ _ _ e4
          obtain ⟨dx4, tk4, rs4, h14, _⟩ := id hp4.at_
          rw [Rs.bind_assoc] at q4
          refine ⟨_, rfl, x, dx4, _, rfl, h14, rfl, x, p, i4, 20, kKey, wIf, (by rw [eKey, eIf]; rfl), hp4, by decide, Dn.to q4 hp4 s4 fun ib i5 H5 v e5 s5 s45 hp5 r5 q5 => ?_⟩
          obtain rfl : v = .bl ib := r5
          have u5 := (acc_up e5).1
          refine ⟨_, rfl, ?_⟩
          obtain ⟨dx5, tk5, rs5, h15, _⟩ := id hp5.at_
          cases ib with
          | false =>
            refine if_true_of rfl ?_
            rw [if_neg Bool.false_ne_true] at q5
            exact ⟨_, rfl, x, dx5, _, rfl, h15, rfl, x, p, i5, 20, rfl, hp5, Dn.from (rep := rTp) (r := .no (p.at i5)) hp5 s5 q5⟩
          | true =>
            refine if_false_of rfl ?_
            rw [if_pos rfl, Rs.bind_assoc] at q5
            have hc5 := s45.keep (s34.keep hc3 ncx) ncx
            refine ⟨_, rfl, .inl ⟨rfl, _, SqL.of hc5⟩, ?_⟩
            refine ⟨_, rfl, _, rfl, x, dx5, _, rfl, h15, rfl, x, p, i5, rfl, hp5, Dn.to q5 hp5 s5 fun d i6 H6 v e6 s6 s56 hp6 r6 q6 => ⟨(by show 3 ≤ sizeLine; decide), fun t3 ht3 => ?_⟩⟩
            have u6 := mono_body p.toPs _ _ _ e6
            have hc6 := s56.keep hc5 ncx
            have hc7 := new_keep (o' := .tup [V.str (Str.ofString "never"), tvV n, v]) hc6 ht3
            have rn : Tp (upd H6 t3 (.tup [V.str (Str.ofString "never"), tvV n, v])) (.ref t3) (dT [K9.dS wNever, tvD n, d]) := by
              rw [eNever]
              exact tp_tri ht3 (tp_str wNever) (tp_tv n) r6
            refine ⟨c, _, _, rfl, rfl, hc7, by rw [sizeLine_eq]; omega, ?_⟩
            have kk : ∀ {vs : List V} {ds : List PyData}, TpAll H3 vs ds → TpAll (upd (upd H6 t3 (.tup [V.str (Str.ofString "never"), tvV n, v])) c (.lst (vN ++ [.ref t3]))) vs ds := fun h => TpAll.put hc7 (((((h.but s34 hp3).but s45 hp4).but s56 hp5)).new ht3)
            exact ⟨rel, rul, nev ++ [dT [K9.dS wNever, tvD n, d]], vR, vU, vN ++ [.ref t3], i6, _, rfl, (hp6.new ht3).lst hc7 nct, (s6.new ht3).own Hc,
              by rw [upd_ne nac]; exact new_keep (s56.keep (s45.keep (s34.keep ha3 nax) nax) nax) ht3, by rw [upd_ne nbc]; exact new_keep (s56.keep (s45.keep (s34.keep hb3 nbx) nbx) nbx) ht3, upd_same,
              kk tR3, kk tU3, TpAll.snoc (Tp.put hc7 rn) (kk tN3), by omega, by rw [List.length_append, List.length_singleton]; omega, q6⟩
end
end K9
set_option Elab.async false
set_option linter.all false
set_option maxRecDepth 100000
namespace K9
open PySem L2 PyProof.Rows
def TokOk (t : List Nat) (d : Tok) : Prop := d.2.2 ≤ t.length ∧ (d.1 = kNum → ∃ n, d.2.1 = .n n) ∧ (tvD d.2.1).canLay0 = true
theorem run_mem {p : Nat → Bool} {t : List Nat} {i : Nat} : ∀ c ∈ run p t i, p c = true := run_all
theorem lay_of {l : List Nat} (h : ∀ c ∈ l, c < 1114112) : (tvD (.s l)).canLay0 = true := by
  show ((⟨l.toArray⟩ : Str).cps.all (· < 0x110000)) = true
  simp only [List.all_toArray, List.all_eq_true, decide_eq_true_eq]
  exact h
theorem lat_small : ∀ c ∈ LAT, c < 1114112 := by decide
theorem sg_small : ∀ g ∈ SG, ∀ c ∈ g, c < 1114112 := by decide
theorem readTok_ok {t : List Nat} {i : Nat} {k : List Nat} {v : Tv} {e : Nat} (hi : i < t.length) (h : readTok t i = .ok k v e) : TokOk t (k, v, i) := by
  unfold readTok at h
  refine ⟨Nat.le_of_lt hi, ?_⟩
  split at h
  · split at h
    · cases h
    · cases h
      refine ⟨fun z => ?_, lay_of fun c hc => lat_small c (of_decide_eq_true (run_mem c hc))⟩
      have z' : (if run isLat t i ∈ KW then kKey else kName) = kNum := z
      split at z'
      · exact absurd z' (show ¬ kKey = kNum by decide)
      · exact absurd z' (show ¬ kName = kNum by decide)
  · split at h
    · split at h
      · cases h
      · cases h
        exact ⟨fun _ => ⟨_, rfl⟩, rfl⟩
    · split at h
      · split at h
        · cases h
        · cases h
          exact ⟨fun z => absurd (show kQuo = kNum from z) (by decide), lay_of fun c hc => lat_small c (of_decide_eq_true (run_mem c hc))⟩
      · split at h
        · rename_i g hg
          cases h
          exact ⟨fun z => absurd (show kSign = kNum from z) (by decide), lay_of fun c hc => sg_small _ (List.mem_of_find?_eq_some hg) c hc⟩
        · cases h
theorem readTok_le {t : List Nat} {i : Nat} {k : List Nat} {v : Tv} {e : Nat} (hi : i < t.length) (h : readTok t i = .ok k v e) : e ≤ t.length := by
  unfold readTok at h
  split at h
  · split at h
    · cases h
    · cases h
      exact endOf_le (Nat.le_of_lt hi)
  · split at h
    · split at h
      · cases h
      · cases h
        exact endOf_le (Nat.le_of_lt hi)
    · split at h
      · split at h
        · cases h
        · cases h
          exact endOf_le hi
      · split at h
        · rename_i g hg
          cases h
          have z := List.find?_some hg
          unfold sgAt at z
          have z2 := congrArg List.length (of_decide_eq_true z)
          rw [List.length_take, List.length_drop] at z2
          omega
        · cases h
theorem go_all {t : List Nat} : ∀ (n i : Nat) (acc ts : List Tok), t.length - i ≤ n → i ≤ t.length → (∀ d ∈ acc, TokOk t d) → acc.length ≤ i → go t i acc = .inr ts → (∀ d ∈ ts, TokOk t d) ∧ ts.length ≤ t.length
  | n, i, acc, ts, hn, hi, ha, hl, h => by
    by_cases c : i < t.length
    · cases b : isBl (t.getD i 0) with
      | true =>
        rw [go_bl c b] at h
        cases n with
        | zero => omega
        | succ n => exact go_all n (i + 1) acc ts (by omega) c ha (by omega) h
      | false =>
        cases r : readTok t i with
        | no j =>
          rw [go_no c b r] at h
          cases h
        | ok k v e =>
          have lt := readTok_lt c r
          rw [go_ok c b r lt] at h
          have le : e ≤ t.length := readTok_le c r
          cases n with
          | zero => omega
          | succ n =>
            refine go_all n e _ ts (by omega) le (fun d hd => ?_) (by rw [List.length_append, List.length_singleton]; omega) h
            rcases List.mem_append.mp hd with hd | hd
            · exact ha d hd
            · rw [List.mem_singleton.mp hd]
              exact readTok_ok c r
    · rw [go_end c] at h
      cases h
      exact ⟨ha, by omega⟩
theorem go_psok {t : List Nat} {ts : List Tok} (hl : t.length ≤ LINE) (h : go t 0 [] = .inr ts) : PsOk ⟨ts, t.length⟩ := by
  obtain ⟨h1, h2⟩ := go_all t.length 0 [] ts (by omega) (Nat.zero_le _) (fun d hd => by cases hd) (Nat.le_refl _) h
  exact ⟨hl, Nat.le_trans h2 hl, fun d hd => Nat.le_trans (h1 d hd).1 hl, fun d hd => (h1 d hd).2.1, fun d hd => (h1 d hd).2.2⟩
section
variable {P : Program} {w : World} {K : PySem.W.Frag} {mg : Str → Option Value} {base : Heap}
variable {fRf fR fK fS fM fW fAc fSg fN C CR fI : Addr} {dRf dR dK dSe dM dW dAc dSg dN : FuncData}
/-! ### making a parser -/
def spPInit (C CR : Addr) : Sp := fun us H Q E => ∃ (x dx : Addr) (t : List Nat), us = [.ref x, vs t] ∧ H x = some (.ins C dx []) ∧ t.length ≤ LINE ∧
  (∀ j, go t 0 [] = .inl j → ∀ H' e, Same H H' → H e = none → H' e = some (.xd [(("position" : Str), .int (j : Int))]) → E (.ref CR) (some e) H') ∧
  (∀ ts, go t 0 [] = .inr ts → ∀ H' tk, SameBut x H H' → PAt C ⟨⟨ts, t.length⟩, tk⟩ H' x 0 20 → Q .non H')
theorem scPInit : FnScope ["self", "text"] ["self", "text"] (defScope (sM 0)) := ⟨rfl, rfl, rfl, by decide +kernel, rfl, by decide +kernel, by decide +kernel⟩
theorem ok_pinit {f fT : Addr} {fd fdT : FuncData} (F : Fun K "__init__" "Parser.__init__" (sM 0) f fd) (T : PTxt P K mg C CR fI) (gT : mg "tokenize" = some (.ref fT)) (kT : PySem.W.keepIn K (.ref fT) = true) (bT : Binds K fdT ["text"] [])
    (GT : FnOk P w K mg base (L2.CX P w) 6 fT fdT ["text"] (spTokz CR)) : FnOk P w K mg base (L2.CX P w) 7 f fd ["self", "text"] (spPInit C CR) := by
  refine F.okX scPInit (fun us H Q E h => ?_) (fun cdv A outer s H us Q E hr h => ?_)
  · obtain ⟨x, dx, t, rfl, _⟩ := h
    rfl
  · obtain ⟨x, dx, t, rfl, hx, hl, kE, kQ⟩ := h
    refine ⟨_, pss_cons (ps_fld (pv 0) (pe_call GT hr rfl gT kT bT .nil (pass (takes_of rfl rfl rfl rfl)) (pa_cons (pv 1) pa_nil)) rfl)
      (pss_cons (ps_fld (pv 0) (pe_callB call_len_str (by rfl) T.len PySem.boot_len (pa_cons (pv 1) pa_nil)) rfl)
      (pss_cons (ps_fld (pv 0) pe_int rfl) (pss_one (ps_fld (pv 0) pe_int rfl)))), ?_⟩
    refine ⟨_, rfl, t, rfl, hl, kE, fun ts hts H1 tk s1 htk hTk => ?_⟩
    obtain ⟨rs, h2, h3⟩ := hTk
    have hx1 := s1 _ _ hx
    have nt : tk ≠ x := ne_of h2 hx1 (by intro z; cases z)
    have zt : (S t).length ≤ sizeLine := by rw [S_len]; exact line_size hl
    refine ⟨_, rfl, x, C, dx, [], rfl, hx1, T.cl, T.nT, (by show 0 < 1000; decide), ?_⟩
    refine ⟨_, rfl, S t, rfl, zt, _, rfl, x, C, dx, _, rfl, upd_same, T.cl, T.nL, (by show 1 < 1000; decide), ?_⟩
    rw [S_len]
    refine ⟨_, rfl, x, C, dx, _, rfl, upd_same, T.cl, T.nA, (by show 2 < 1000; decide), ?_⟩
    refine ⟨_, rfl, x, C, dx, _, rfl, upd_same, T.cl, T.nO, (by show 3 < 1000; decide), ?_⟩
    have ef : putF "opened" (V.int 0) (putF "at" (V.int 0) (putF "length" (V.int (t.length : Int)) (putF "tokens" (V.ref tk) []))) = pf tk t.length 0 (20 - 20) := rfl
    rw [ef]
    refine kQ ts hts _ tk (fun b u nb e => ?_) ⟨go_psok hl hts, Nat.zero_le _, Nat.le_refl _, ⟨dx, tk, rs, upd_same, ?_, Paired.imp (TokAt.keep fun a xs e => ?_) h3⟩, fun dx' tk' e => ?_⟩
    · rw [upd_ne nb, upd_ne nb, upd_ne nb, upd_ne nb]
      exact s1 _ _ e
    · rw [upd_ne nt, upd_ne nt, upd_ne nt, upd_ne nt]
      exact h2
    · have na : a ≠ x := ne_of e hx1 (by intro z; cases z)
      rw [upd_ne na, upd_ne na, upd_ne na, upd_ne na]
      exact e
    · rw [upd_same] at e
      cases e
      rfl
/-! ### parse, parse_rule -/
/-- what a reading of a text gives: E: refused at a place; Q: the tree -/
def spRd (CR : Addr) (out : List Nat → Out) : Sp := fun us H Q E => ∃ t : List Nat, us = [vs t] ∧ t.length ≤ LINE ∧
  (∀ j, out t = .no j → ∀ H' e, Same H H' → H e = none → H' e = some (.xd [(("position" : Str), .int (j : Int))]) → E (.ref CR) (some e) H') ∧
  (∀ d, out t = .tree d → ∀ H' v, Same H H' → Tp H' v d → Q v H')
end
end K9
set_option Elab.async false
set_option linter.all false
set_option maxRecDepth 100000
namespace K9
open PySem L2 PyProof.Rows
abbrev sParse : Stmt := top 23
abbrev sRuleF : Stmt := top 24
section
variable {P : Program} {w : World} {K : PySem.W.Frag} {mg : Str → Option Value} {base : Heap}
variable {fRf fR fK fS fM fW fAc fSg fN C CR fI : Addr} {dRf dR dK dSe dM dW dAc dSg dN : FuncData}
theorem scParse : FnScope ["text"] ["text"] (defScope sParse) := ⟨rfl, rfl, rfl, by decide +kernel, rfl, by decide +kernel, by decide +kernel⟩
theorem ok_parse {f fC fP : Addr} {fd fdC fdP : FuncData} (F : Fun K "parse" "parse" sParse f fd) (T : PTxt P K mg C CR fI) (gC : mg "Parser" = some (.ref C)) (M : Mk K C fC) (bC : Binds K fdC ["self", "text"] []) (GC : FnOk P w K mg base (L2.CX P w) 7 fC fdC ["self", "text"] (spPInit C CR))
    (DP : Dm K C "program" "Parser.program" (sM 10) ["self"] fP fdP) (GP : FnOk P w K mg base (L2.CX P w) 73 fP fdP ["self"] (spProg C CR)) : FnOk P w K mg base (L2.CX P w) 74 f fd ["text"] (spRd CR parseL) := by
  refine F.okX scParse (fun us H Q E h => ?_) (fun cdv A outer s H us Q E hr h => ?_)
  · obtain ⟨t, rfl, _⟩ := h
    rfl
  · obtain ⟨t, rfl, hl, kE, kQ⟩ := h
    have hr8 : Room 8 _ := hr.mono (by decide)
    refine ⟨_, pss_one (ps_ret (pe_meth0 (pe_make M GC hr8 rfl gC bC .nil (pass (takes_of rfl rfl rfl rfl)) (pa_cons (pv 0) pa_nil)) T.cl DP.mt GP hr DP.b .nil (pass (takes_of rfl rfl rfl rfl)))), ?_⟩
    refine ⟨_, rfl, fun x dx nx ndx nex => ?_⟩
    have s0 : Same H (upd (upd H dx (.own x)) x (.ins C dx [])) := fun b o e => by
      rw [upd_ne (ne_of_none e nx), upd_ne (ne_of_none e ndx)]
      exact e
    have hx0 : upd (upd H dx (.own x)) x (.ins C dx []) x = some (.ins C dx []) := upd_same
    generalize upd (upd H dx (.own x)) x (.ins C dx []) = H0 at s0 hx0
    have out : ∀ H', SameBut x H0 H' → Same H H' := fun H' s b u e => s b u (ne_of_none e nx) (s0 b u e)
    refine ⟨x, dx, t, rfl, hx0, hl, fun j hj H1 e s1 n1 x1 => ?_, fun ts hts H1 tk s1 hp1 => ⟨rfl, ?_⟩⟩
    · exact kE j (by unfold parseL; rw [hj]) H1 e (s0.trans s1) (s0.free n1) x1
    · obtain ⟨dx1, tk1, rs1, h11, _⟩ := id hp1.at_
      refine ⟨x, dx1, _, rfl, h11, rfl, x, ⟨⟨ts, t.length⟩, tk⟩, rfl, hp1, ?_⟩
      have eo : parseL t = match (Ps.mk ts t.length).program (ts.length + 1) [] [] [] 0 with
        | .no j => .no j
        | .ok d _ => .tree d := by
        unfold parseL
        rw [hts]
        all_goals rfl
      cases r : (Ps.mk ts t.length).program (ts.length + 1) [] [] [] 0 with
      | no j =>
        rw [r] at eo
        exact fun H' e s' n' x' => kE j eo H' e (out H' (s1.trans s')) ((out H1 s1).free n') x'
      | ok d i =>
        rw [r] at eo
        exact fun H' v s' hp' r' => kQ d eo H' v (out H' (s1.trans s')) r'
theorem scRuleF : FnScope ["text", "parser", "rule"] ["text"] (defScope sRuleF) := ⟨rfl, rfl, rfl, by decide +kernel, rfl, by decide +kernel, by decide +kernel⟩
theorem ok_ruleF {f fC fP : Addr} {fd fdC fdP : FuncData} (F : Fun K "parse_rule" "parse_rule" sRuleF f fd) (D : Dms K C fRf fR fK fS fM fW fAc fSg fN dRf dR dK dSe dM dW dAc dSg dN) (T : PTxt P K mg C CR fI) (gC : mg "Parser" = some (.ref C)) (M : Mk K C fC) (bC : Binds K fdC ["self", "text"] [])
    (GC : FnOk P w K mg base (L2.CX P w) 7 fC fdC ["self", "text"] (spPInit C CR)) (DP : Dm K C "rule" "Parser.rule" (sM 13) ["self"] fP fdP) (GP : FnOk P w K mg base (L2.CX P w) 72 fP fdP ["self"] (spE C CR 20 Ps.rule)) : FnOk P w K mg base (L2.CX P w) 73 f fd ["text"] (spRd CR ruleL) := by
  have GI : FnOk P w K mg base CX0 1 fR dR ["self"] (spRead C) := ok_read D.rd.fn T
  have GR : FnOk P w K mg base (L2.CX P w) 3 fRf dRf ["self"] (spRefuse C CR) := ok_refuse D.rf.fn T D.rd
  refine F.okX scRuleF (fun us H Q E h => ?_) (fun cdv A outer s H us Q E hr h => ?_)
  · obtain ⟨t, rfl, _⟩ := h
    rfl
  · obtain ⟨t, rfl, hl, kE, kQ⟩ := h
    have hr1 : Room 1 _ := hr.mono (by decide)
    have hr3 : Room 3 _ := hr.mono (by decide)
    have hr8 : Room 8 _ := hr.mono (by decide)
    refine ⟨_, pss_cons (ps_set (i := 1) scRuleF.nd rfl (Or.inl rfl) (pe_make M GC hr8 rfl gC bC .nil (pass (takes_of rfl rfl rfl rfl)) (pa_cons (pv 0) pa_nil)))
      (pss_cons (ps_set (i := 2) scRuleF.nd rfl (Or.inl rfl) (pe_meth0 (pv 1) T.cl DP.mt GP hr DP.b .nil (pass (takes_of rfl rfl rfl rfl))))
      (pss_cons (ps_if (pt_not (pt_val (pe_meth0 (pv 1) T.cl D.rd.mt GI hr1 D.rd.b .nil pass0))) (pss_one (ps_expr (pe_meth0 (pv 1) T.cl D.rf.mt GR hr3 D.rf.b .nil (pass (takes_of rfl rfl rfl rfl))))) pss_nil)
      (pss_one (ps_ret (pv 2))))), ?_⟩
    refine ⟨_, rfl, fun x dx nx ndx nex => ?_⟩
    have s0 : Same H (upd (upd H dx (.own x)) x (.ins C dx [])) := fun b o e => by
      rw [upd_ne (ne_of_none e nx), upd_ne (ne_of_none e ndx)]
      exact e
    have hx0 : upd (upd H dx (.own x)) x (.ins C dx []) x = some (.ins C dx []) := upd_same
    generalize upd (upd H dx (.own x)) x (.ins C dx []) = H0 at s0 hx0
    have out : ∀ H', SameBut x H0 H' → Same H H' := fun H' s b u e => s b u (ne_of_none e nx) (s0 b u e)
    refine ⟨x, dx, t, rfl, hx0, hl, fun j hj H1 e s1 n1 x1 => ?_, fun ts hts H1 tk s1 hp1 => ⟨rfl, ?_⟩⟩
    · exact kE j (by unfold ruleL; rw [hj]) H1 e (s0.trans s1) (s0.free n1) x1
    · obtain ⟨dx1, tk1, rs1, h11, _⟩ := id hp1.at_
      refine ⟨_, rfl, x, dx1, _, rfl, h11, rfl, x, ⟨⟨ts, t.length⟩, tk⟩, 0, rfl, hp1, ?_⟩
      have eo : ruleL t = match (Ps.mk ts t.length).rule 0 with
        | .no j => .no j
        | .ok d i => if i < ts.length then .no ((Ps.mk ts t.length).at i) else .tree d := by
        unfold ruleL
        rw [hts]
        all_goals rfl
      show Dn C CR _ x 20 H1 _ E rTp ((Ps.mk ts t.length).rule 0)
      cases r : (Ps.mk ts t.length).rule 0 with
      | no j =>
        rw [r] at eo
        exact fun H' e s' n' x' => kE j eo H' e (out H' (s1.trans s')) ((out H1 s1).free n') x'
      | ok d i =>
        rw [r] at eo
        intro H' v s' hp' r'
        obtain ⟨dx2, tk2, rs2, h12, _⟩ := id hp'.at_
        have le : i ≤ ts.length := hp'.le
        refine ⟨_, rfl, x, dx2, _, rfl, h12, rfl, x, ⟨⟨ts, t.length⟩, tk⟩, i, 20, rfl, hp', _, rfl, ?_⟩
        by_cases c : i = ts.length
        · refine if_false_of (by rw [decide_eq_true (show i = (Pt.mk ⟨ts, t.length⟩ tk).ts.length from c)]; rfl) ?_
          dsimp only at eo
          rw [if_neg (by omega)] at eo
          exact ⟨_, rfl, kQ d eo H' v (out H' (s1.trans s')) r'⟩
        · refine if_true_of (by rw [decide_eq_false (show ¬ i = (Pt.mk ⟨ts, t.length⟩ tk).ts.length from c)]; rfl) ?_
          dsimp only at eo
          rw [if_pos (by omega)] at eo
          exact ⟨_, rfl, x, dx2, _, rfl, h12, rfl, x, ⟨⟨ts, t.length⟩, tk⟩, i, 20, rfl, hp', fun H2 e s2 n2 x2 => kE _ eo H2 e (out H2 ((s1.trans s').trans s2)) ((out H' (s1.trans s')).free n2) x2⟩
end
end K9
set_option Elab.async false
set_option maxRecDepth 100000
namespace K9
open PySem
def goF : Nat → List Nat → Nat → List Tok → Nat ⊕ List Tok
  | 0, _, _, acc => .inr acc
  | n + 1, t, i, acc => if i < t.length then
      if isBl (t.getD i 0) = true then goF n t (i + 1) acc
      else match readTok t i with
        | .no j => .inl j
        | .ok k v e => if i < e then goF n t e (acc ++ [(k, v, i)]) else .inl i
    else .inr acc
theorem goF_eq : ∀ (n : Nat) (t : List Nat) (i : Nat) (acc : List Tok), t.length - i ≤ n → go t i acc = goF n t i acc
  | 0, t, i, acc, h => by rw [go_end (by omega)]; rfl
  | n + 1, t, i, acc, h => by
    by_cases c : i < t.length
    · show _ = if i < t.length then _ else _
      rw [if_pos c]
      cases b : isBl (t.getD i 0) with
      | true => rw [go_bl c b, if_pos rfl, goF_eq n t (i + 1) acc (by omega)]
      | false =>
        rw [if_neg Bool.false_ne_true]
        cases r : readTok t i with
        | no j => rw [go_no c b r]
        | ok k v e =>
          have l := readTok_lt c r
          rw [go_ok c b r l]
          show _ = if i < e then _ else _
          rw [if_pos l, goF_eq n t e _ (by omega)]
    · rw [go_end c]
      show _ = if i < t.length then _ else _
      rw [if_neg c]
def parseF (t : List Nat) : Out := match goF t.length t 0 [] with
  | .inl j => .no j
  | .inr ts => match (Ps.mk ts t.length).program (ts.length + 1) [] [] [] 0 with
    | .no j => .no j
    | .ok d _ => .tree d
def ruleF (t : List Nat) : Out := match goF t.length t 0 [] with
  | .inl j => .no j
  | .inr ts => match (Ps.mk ts t.length).rule 0 with
    | .no j => .no j
    | .ok d i => if i < ts.length then .no ((Ps.mk ts t.length).at i) else .tree d
theorem parseF_eq (t : List Nat) : parseL t = parseF t := by
  unfold parseL parseF
  rw [goF_eq t.length t 0 [] (by omega)]
  all_goals (cases goF t.length t 0 [] <;> rfl)
theorem ruleF_eq (t : List Nat) : ruleL t = ruleF t := by
  unfold ruleL ruleF
  rw [goF_eq t.length t 0 [] (by omega)]
  all_goals (cases goF t.length t 0 [] <;> rfl)
def Out.at? : Out → Option Nat
  | .no j => some j
  | .tree _ => none
theorem Out.at_some {o : Out} {j : Nat} (h : o.at? = some j) : o = .no j := by
  cases o with
  | no k => cases h; rfl
  | tree d => cases h
theorem Out.at_none {o : Out} (h : o.at? = none) : ∃ d, o = .tree d := by
  cases o with
  | no k => cases h
  | tree d => exact ⟨d, rfl⟩
/-! ### rows that are too long -/
def numT (n : Nat) : List Nat := (Str.ofString (toString (n : Int))).cps.toList
def joinT (s : List Nat) : List (List Nat) → List Nat
  | [] => []
  | [p] => p
  | p :: q :: r => p ++ (s ++ joinT s (q :: r))
def tLead : List Nat := [114,117,108,101,32,111,110,101,40,120,41,32,105,102,32]
def tOneX : List Nat := [111,110,101,40,120,41]
def tXLt : List Nat := [120,32,60,32]
def tSep : List Nat := [44,32]
def partsT (n : Nat) : List (List Nat) := tOneX :: (List.range (n - 1)).map fun k => tXLt ++ numT k
def tMany (n : Nat) : List Nat := tLead ++ joinT tSep (partsT n)
def bodyLen : Out → Nat
  | .tree (.tuple [_, _, .tuple xs]) => xs.length
  | _ => 0
theorem many12 : bodyLen (ruleF (tMany 12)) = 12 := by decide +kernel
theorem many13 : (ruleF (tMany 13)).at? = some (tMany 12).length := by decide +kernel
/-! ### too many terms or sorts -/
def LEADS : List (List Nat × List Nat) := [([114,117,108,101,32,107,40], [55]), ([114,117,108,101,32,107,40,49,41,32,105,102,32,110,111,116,32,111,110,101,40], [39,97,110,110]), ([98,97,115,101,32,107,40], [119,111,114,100]), ([110,101,118,101,114,32,98,97,100,32,105,102,32,109,97,114,107,40], [120])]
def tRow (l w : List Nat) (n : Nat) : List Nat := l ++ joinT tSep (List.replicate n w)
theorem leads6 : ∀ p ∈ LEADS, (parseF (tRow p.1 p.2 6 ++ [41])).at? = none := by decide +kernel
theorem leads7 : ∀ p ∈ LEADS, (parseF (tRow p.1 p.2 7 ++ [41])).at? = some (tRow p.1 p.2 6).length := by decide +kernel
end K9
set_option Elab.async false
set_option maxRecDepth 100000
namespace K9
open PySem
/-! ### steps of the parser where it is known which tokens stand next -/
theorem bind_ok {α β : Type} (a : α) (i : Nat) (f : α → Nat → Rs β) : Rs.bind (.ok a i) f = f a i := rfl
def Ps.tk (p : Ps) (i : Nat) (k : List Nat) (v : Tv) : Prop := ∃ q, p.ts[i]? = some (k, v, q)
section
variable {p : Ps} {i : Nat} {k k' w : List Nat} {v : Tv}
theorem tk_kind (h : p.tk i k v) : p.kind i = k := by
  obtain ⟨q, h⟩ := h
  unfold Ps.kind
  rw [h]
theorem tk_val (h : p.tk i k v) : p.val i = v := by
  obtain ⟨q, h⟩ := h
  unfold Ps.val
  rw [h]
def seesB (k : List Nat) (v : Tv) (k' : List Nat) (ws : List (List Nat)) : Bool := decide (k = k') && ws.any fun w => decide (v = .s w)
theorem tk_sees (h : p.tk i k v) (k' : List Nat) (ws : List (List Nat)) : p.sees i k' ws = seesB k v k' ws := by
  unfold Ps.sees seesB
  rw [tk_kind h, tk_val h]
theorem tk_move (h : p.tk i k v) (l : i < 4000) : p.move i = .ok v (i + 1) := by
  unfold Ps.move
  rw [if_neg (by omega), tk_val h]
theorem tk_want (h : p.tk i k v) (l : i < 4000) : p.want k i = .ok v (i + 1) := by
  unfold Ps.want
  rw [if_pos (tk_kind h)]
  exact tk_move h l
theorem sees_self (k w : List Nat) : seesB k (.s w) k [w] = true := by
  unfold seesB
  simp
theorem tk_acc (h : p.tk i k (.s w)) (l : i < 4000) : p.accepts k w i = .ok true (i + 1) := by
  unfold Ps.accepts
  rw [tk_sees h, if_pos (sees_self k w), tk_move h l]
  rfl
theorem no_acc (h : p.sees i k [w] = false) : p.accepts k w i = .ok false i := by
  unfold Ps.accepts
  rw [if_neg (by rw [h]; exact Bool.false_ne_true)]
theorem tk_no (h : p.tk i k v) (n : seesB k v k' [w] = false) : p.accepts k' w i = .ok false i := no_acc (by rw [tk_sees h]; exact n)
theorem tk_sign (h : p.tk i kSign (.s w)) (l : i < 4000) : p.sign w i = .ok () (i + 1) := by
  unfold Ps.sign
  rw [tk_acc h l]
  rfl
theorem no_next {n m : Nat} (h : p.sees i kSign [gComma] = false) : p.next n m i = .ok false i := by
  unfold Ps.next
  rw [if_neg (by rw [h]; exact fun z => Bool.false_ne_true z.1), no_acc h]
theorem tk_next {n m : Nat} (h : p.tk i kSign (.s gComma)) (l : i < 4000) (d : n ≠ m) : p.next n m i = .ok true (i + 1) := by
  unfold Ps.next
  rw [if_neg (fun z => d z.2), tk_acc h l]
/-- a row of none, of one -/
theorem row0 {el : Nat → Rs PyData} (h0 : p.tk i kSign (.s gOpen)) (h1 : p.tk (i + 1) kSign (.s gClose)) (l : i + 1 < 4000) : p.row el i = .ok [] (i + 2) := by
  unfold Ps.row
  rw [tk_sign h0 (by omega)]
  show Rs.bind (if p.sees (i + 1) kSign [gClose] = true then _ else _) _ = _
  rw [tk_sees h1, if_pos (sees_self _ _)]
  show Rs.bind (p.sign gClose (i + 1)) _ = _
  rw [tk_sign h1 l]
  rfl
theorem row1 {el : Nat → Rs PyData} {d : PyData} {j : Nat} (h0 : p.tk i kSign (.s gOpen)) (h1 : p.sees (i + 1) kSign [gClose] = false) (he : el (i + 1) = .ok d j) (h2 : p.tk j kSign (.s gClose)) (l : i < 4000) (l2 : j < 4000) : p.row el i = .ok [d] (j + 1) := by
  unfold Ps.row
  rw [tk_sign h0 (by omega)]
  show Rs.bind (if p.sees (i + 1) kSign [gClose] = true then _ else _) _ = _
  rw [h1, if_neg Bool.false_ne_true, he]
  show Rs.bind (p.more 6 el 5 [d] j) _ = _
  unfold Ps.more
  rw [no_next (by rw [tk_sees h2]; decide)]
  show Rs.bind (p.sign gClose j) _ = _
  rw [tk_sign h2 l2]
  rfl
theorem sees_ne {ws : List (List Nat)} (h : p.tk i k v) (n : k ≠ k') : p.sees i k' ws = false := by
  rw [tk_sees h]
  unfold seesB
  rw [decide_eq_false n]
  rfl
theorem acc_ne (h : p.tk i k v) (n : k ≠ k') : p.accepts k' w i = .ok false i := no_acc (sees_ne h n)
/-! terms -/
theorem value_num {n : Nat} (h : p.tk i kNum (.n n)) (l : i < 4000) : p.value i = .ok (dT [dS wValue, .int (n : Int)]) (i + 1) := by
  unfold Ps.value
  rw [acc_ne h (by decide)]
  rw [bind_ok]
  rw [if_neg Bool.false_ne_true, if_pos (.inl (tk_kind h)), tk_move h l]
  rfl
theorem termB_var (h : p.tk i kName v) (l : i < 4000) : p.termB i = .ok (dT [dS wVariable, tvD v]) (i + 1) := by
  unfold Ps.termB
  rw [if_pos (tk_kind h), tk_move h l]
  rfl
theorem termB_num {n : Nat} (h : p.tk i kNum (.n n)) (l : i < 4000) : p.termB i = .ok (dT [dS wValue, .int (n : Int)]) (i + 1) := by
  unfold Ps.termB
  rw [if_neg (by rw [tk_kind h]; decide), value_num h l]
theorem term_var {b : Bool} (h : p.tk i kName v) (l : i < 4000) : p.term b i = .ok (dT [dS wVariable, tvD v]) (i + 1) := by
  unfold Ps.term
  cases b with
  | false => exact termB_var h l
  | true =>
    rw [if_pos rfl, acc_ne h (by decide)]
    rw [bind_ok]
    rw [if_neg Bool.false_ne_true, sees_ne h (by decide), if_neg Bool.false_ne_true, termB_var h l]
theorem term_num {b : Bool} {n : Nat} (h : p.tk i kNum (.n n)) (l : i < 4000) : p.term b i = .ok (dT [dS wValue, .int (n : Int)]) (i + 1) := by
  unfold Ps.term
  cases b with
  | false => exact termB_num h l
  | true =>
    rw [if_pos rfl, acc_ne h (by decide)]
    rw [bind_ok]
    rw [if_neg Bool.false_ne_true, sees_ne h (by decide), if_neg Bool.false_ne_true, termB_num h l]
/-! expressions -/
theorem opRow_stop {se : Nat → Bool} {el : Nat → Rs PyData} {t : PyData} (h : se i = false) : ∀ n, p.opRow se el n t i = .ok t i
  | 0 => by
    unfold Ps.opRow
    rw [h, if_neg Bool.false_ne_true]
  | n + 1 => by
    unfold Ps.opRow
    rw [h, if_neg Bool.false_ne_true]
theorem opRow_full {se : Nat → Bool} {el : Nat → Rs PyData} {t : PyData} (h : se i = true) : p.opRow se el 0 t i = .no (p.at i) := by
  unfold Ps.opRow
  rw [h, if_pos rfl]
theorem opRow_step {se : Nat → Bool} {el : Nat → Rs PyData} {t u : PyData} {n j : Nat} (h : p.tk i k v) (s : se i = true) (l : i < 4000) (e : el (i + 1) = .ok u j) : p.opRow se el (n + 1) t i = p.opRow se el n (dT [dS wOp, tvD v, t, u]) j := by
  rw [Ps.opRow, s, if_pos rfl, tk_move h l]
  show Rs.bind (el (i + 1)) _ = _
  rw [e]
  rfl
theorem piece_var {so : Option (Nat → Rs PyData)} (h : p.tk i kName v) (l : i < 4000) : p.pieceOf so i = .ok (dT [dS wVariable, tvD v]) (i + 1) := by
  unfold Ps.pieceOf
  rw [if_pos (tk_kind h), tk_move h l]
  rfl
theorem piece_num {so : Option (Nat → Rs PyData)} {n : Nat} (h : p.tk i kNum (.n n)) (l : i < 4000) : p.pieceOf so i = .ok (dT [dS wValue, .int (n : Int)]) (i + 1) := by
  unfold Ps.pieceOf
  rw [if_neg (by rw [tk_kind h]; decide), sees_ne h (by decide), if_neg Bool.false_ne_true, value_num h l]
theorem piece_open {f : Nat → Rs PyData} {t : PyData} {j : Nat} (h : p.tk i kSign (.s gOpen)) (l : i < 4000) (e : f (i + 1) = .ok t j) (h2 : p.tk j kSign (.s gClose)) (l2 : j < 4000) : p.pieceOf (some f) i = .ok t (j + 1) := by
  unfold Ps.pieceOf
  rw [if_neg (by rw [tk_kind h]; decide), tk_sees h, if_pos (sees_self _ _)]
  show Rs.bind (p.sign gOpen i) _ = _
  rw [tk_sign h l]
  show Rs.bind (f (i + 1)) _ = _
  rw [e]
  show Rs.bind (p.sign gClose j) _ = _
  rw [tk_sign h2 l2]
  rfl
theorem product_one {so : Option (Nat → Rs PyData)} {t : PyData} {j : Nat} (e : p.pieceOf so i = .ok t j) (s : p.seesMul j = false) : p.productOf so i = .ok t j := by
  unfold Ps.productOf
  rw [e]
  exact opRow_stop s 12
theorem sums_one {so : Option (Nat → Rs PyData)} {t : PyData} {j : Nat} (e : p.pieceOf so i = .ok t j) (s : p.seesMul j = false) (s' : p.seesAdd j = false) : p.sumsOf so i = .ok t j := by
  unfold Ps.sumsOf
  rw [product_one e s]
  exact opRow_stop s' 12
/-- what stands at a place is no operation -/
structure Ps.noOp (p : Ps) (i : Nat) : Prop where
  mul : p.seesMul i = false
  add : p.seesAdd i = false
/-! ### rows of signs and numbers -/
def sgK (s : List Nat) : List Nat := if s = wMod then kKey else kSign
abbrev SN := List Nat × Nat
def Ps.rowAt (p : Ps) : Nat → List SN → Prop
  | _, [] => True
  | i, (s, n) :: r => p.tk i (sgK s) (.s s) ∧ p.tk (i + 1) kNum (.n n) ∧ p.rowAt (i + 2) r
def treeRow : PyData → List SN → PyData
  | t, [] => t
  | t, (s, n) :: r => treeRow (dT [dS wOp, dS s, t, dT [dS wValue, .int (n : Int)]]) r
def MULS : List (List Nat) := [gTimes, gDiv, wMod]
def ADDS : List (List Nat) := [gPlus, gMinus]
theorem mul_sees {s : List Nat} (h : s ∈ MULS) (t : p.tk i (sgK s) (.s s)) : p.seesMul i = true := by
  unfold Ps.seesMul
  rw [tk_sees t, tk_sees t]
  revert h
  revert s
  intro s _ h
  exact (by decide : ∀ s ∈ MULS, (seesB (sgK s) (.s s) kSign [gTimes, gDiv] || seesB (sgK s) (.s s) kKey [wMod]) = true) s h
theorem add_sees {s : List Nat} (h : s ∈ ADDS) (t : p.tk i (sgK s) (.s s)) : p.seesAdd i = true ∧ p.seesMul i = false := by
  unfold Ps.seesMul Ps.seesAdd
  rw [tk_sees t, tk_sees t, tk_sees t]
  exact (by decide : ∀ s ∈ ADDS, seesB (sgK s) (.s s) kSign [gPlus, gMinus] = true ∧ (seesB (sgK s) (.s s) kSign [gTimes, gDiv] || seesB (sgK s) (.s s) kKey [wMod]) = false) s h
theorem mul_row {so : Option (Nat → Rs PyData)} (n : Nat) : ∀ (l : List SN) (i : Nat) (t : PyData), (∀ x ∈ l, x.1 ∈ MULS) → p.rowAt i l → i + 2 * l.length ≤ 4000 →
    p.opRow p.seesMul (p.pieceOf so) (n + l.length) t i = p.opRow p.seesMul (p.pieceOf so) n (treeRow t l) (i + 2 * l.length)
  | [], i, t, _, _, _ => rfl
  | (s, m) :: r, i, t, hm, hr, hl => by
    obtain ⟨h1, h2, h3⟩ := hr
    rw [List.length_cons] at hl ⊢
    rw [show n + (r.length + 1) = (n + r.length) + 1 by omega, opRow_step h1 (mul_sees (hm _ (List.mem_cons_self ..)) h1) (by omega) (piece_num h2 (by omega))]
    rw [mul_row n r (i + 1 + 1) _ (fun x hx => hm x (List.mem_cons_of_mem _ hx)) h3 (by omega), show i + 1 + 1 + 2 * r.length = i + 2 * (r.length + 1) by omega]
    rfl
theorem add_row {so : Option (Nat → Rs PyData)} (n : Nat) : ∀ (l : List SN) (i : Nat) (t : PyData), (∀ x ∈ l, x.1 ∈ ADDS) → p.rowAt i l → i + 2 * l.length ≤ 4000 → p.seesMul (i + 2 * l.length) = false →
    p.opRow p.seesAdd (p.productOf so) (n + l.length) t i = p.opRow p.seesAdd (p.productOf so) n (treeRow t l) (i + 2 * l.length)
  | [], i, t, _, _, _, _ => rfl
  | (s, m) :: r, i, t, hm, hr, hl, he => by
    obtain ⟨h1, h2, h3⟩ := hr
    rw [List.length_cons] at hl he ⊢
    have sm : p.seesMul (i + 1 + 1) = false := by
      cases r with
      | nil => exact he
      | cons x r => exact (add_sees (hm x (List.mem_cons_of_mem _ (List.mem_cons_self ..))) h3.1).2
    rw [show n + (r.length + 1) = (n + r.length) + 1 by omega, opRow_step h1 (add_sees (hm _ (List.mem_cons_self ..)) h1).1 (by omega) (product_one (piece_num h2 (by omega)) sm)]
    rw [add_row n r (i + 1 + 1) _ (fun x hx => hm x (List.mem_cons_of_mem _ hx)) h3 (by omega) (by rw [show i + 1 + 1 + 2 * r.length = i + 2 * (r.length + 1) by omega]; exact he), show i + 1 + 1 + 2 * r.length = i + 2 * (r.length + 1) by omega]
    rfl
end
end K9
set_option Elab.async false
set_option maxRecDepth 100000
namespace K9
open PySem
/-! ### texts of rows of tokens with gaps -/
structure Tk4 where
  gap : List Nat
  k : List Nat
  v : Tv
  x : List Nat
def txt4 : List Tk4 → List Nat
  | [] => []
  | t :: r => t.gap ++ (t.x ++ txt4 r)
def pos4 : Nat → List Tk4 → List Tok
  | _, [] => []
  | o, t :: r => (t.k, t.v, o + t.gap.length) :: pos4 (o + t.gap.length + t.x.length) r
def wordB (w : List Nat) : Bool := !w.isEmpty && isLet (w.getD 0 0) && w.all isLat && decide (w.length ≤ 40)
def tokB (k : List Nat) (v : Tv) (x : List Nat) : Bool :=
  (decide (k = kNum) && (x.all isDig && !x.isEmpty && decide (x.length ≤ 13) && decide (dval x ≤ 1000000000000) && decide (v = .n (dval x)))) ||
  (decide (k = kSign) && (decide (x ∈ SG) && decide (v = .s x))) ||
  (decide (k = if x ∈ KW then kKey else kName) && (wordB x && decide (v = .s x))) ||
  (decide (k = kQuo) && (decide (x.head? = some 39) && wordB x.tail && decide (v = .s x.tail)))
theorem wordB_ok {w : List Nat} (h : wordB w = true) : Word w := by
  unfold wordB at h
  rw [Bool.and_eq_true_iff, Bool.and_eq_true_iff, Bool.and_eq_true_iff] at h
  obtain ⟨⟨⟨h1, h2⟩, h3⟩, h4⟩ := h
  have ne : w ≠ [] := fun z => by subst z; cases h1
  refine ⟨ne, fun c e => ?_, fun c hc => List.all_eq_true.mp h3 c hc, of_decide_eq_true h4⟩
  cases w with
  | nil => cases e
  | cons d w => cases e; exact h2
theorem tokB_ok {k x : List Nat} {v : Tv} (h : tokB k v x = true) : TokText k v x := by
  unfold tokB at h
  rcases Bool.or_eq_true_iff.mp h with h | h
  · rcases Bool.or_eq_true_iff.mp h with h | h
    · rcases Bool.or_eq_true_iff.mp h with h | h
      · simp only [Bool.and_eq_true_iff] at h
        obtain ⟨h0, ⟨⟨⟨h1, h2⟩, h3⟩, h4⟩, h5⟩ := h
        obtain rfl := of_decide_eq_true h0
        obtain rfl := of_decide_eq_true h5
        exact .num (fun c hc => List.all_eq_true.mp h1 c hc) (fun z => by subst z; cases h2) (of_decide_eq_true h3) (of_decide_eq_true h4)
      · simp only [Bool.and_eq_true_iff] at h
        obtain ⟨h0, h1, h2⟩ := h
        obtain rfl := of_decide_eq_true h0
        obtain rfl := of_decide_eq_true h2
        exact .sign (of_decide_eq_true h1)
    · simp only [Bool.and_eq_true_iff] at h
      obtain ⟨h0, h1, h2⟩ := h
      obtain rfl := of_decide_eq_true h0
      obtain rfl := of_decide_eq_true h2
      exact .word (wordB_ok h1)
  · simp only [Bool.and_eq_true_iff] at h
    obtain ⟨h0, ⟨h1, h2⟩, h3⟩ := h
    obtain rfl := of_decide_eq_true h0
    obtain rfl := of_decide_eq_true h3
    cases x with
    | nil => exact absurd (of_decide_eq_true h1) (by simp)
    | cons c w =>
      have z := of_decide_eq_true h1
      cases z
      exact .quo (wordB_ok h2)
def gapOk (p : Nat → Bool) (t : Tk4) : Bool := t.gap.all isBl && (match t.gap with
  | [] => !p (t.x.getD 0 0)
  | c :: _ => !p c)
def row4 : (Nat → Bool) → List Tk4 → Bool
  | _, [] => true
  | p, t :: r => gapOk p t && (tokB t.k t.v t.x && row4 (stopOf t.k t.x) r)
def last4 : (Nat → Bool) → List Tk4 → Nat → Bool
  | p, [] => p
  | _, t :: r => last4 (stopOf t.k t.x) r
theorem good_gap {T : List Nat} {D : List Tok} {p : Nat → Bool} {t : Tk4} (h : Good T D p) (g : gapOk p t = true) : ∃ q, Good (T ++ t.gap) D q ∧ q (t.x.getD 0 0) = false := by
  unfold gapOk at g
  obtain ⟨g1, g2⟩ := Bool.and_eq_true_iff.mp g
  cases e : t.gap with
  | nil =>
    rw [e] at g2
    refine ⟨p, by rw [List.append_nil]; exact h, ?_⟩
    revert g2
    cases p (t.x.getD 0 0) with
    | false => intro _; rfl
    | true => intro z; cases z
  | cons c s =>
    rw [e] at g1 g2
    have hc : p c = false := by
      revert g2
      show (!p c) = true → _
      cases p c with
      | false => intro _; rfl
      | true => intro z; cases z
    have al := List.all_eq_true.mp g1
    have z := good_bls s (good_bl h hc (al c (List.mem_cons_self ..))) fun d hd => al d (List.mem_cons_of_mem _ hd)
    refine ⟨fun _ => false, ?_, rfl⟩
    rw [show T ++ c :: s = T ++ [c] ++ s by simp]
    exact z
theorem good4 : ∀ (l : List Tk4) {T : List Nat} {D : List Tok} {p : Nat → Bool}, Good T D p → row4 p l = true → Good (T ++ txt4 l) (D ++ pos4 T.length l) (last4 p l)
  | [], T, D, p, h, _ => by
    show Good (T ++ []) (D ++ []) p
    rw [List.append_nil, List.append_nil]
    exact h
  | t :: r, T, D, p, h, g => by
    obtain ⟨g1, g2⟩ := Bool.and_eq_true_iff.mp g
    obtain ⟨g2, g3⟩ := Bool.and_eq_true_iff.mp g2
    obtain ⟨q, h1, h2⟩ := good_gap h g1
    have h3 := good_tok h1 (tokB_ok g2) h2
    have z := good4 r h3 g3
    show Good (T ++ (t.gap ++ (t.x ++ txt4 r))) (D ++ ((t.k, t.v, T.length + t.gap.length) :: pos4 (T.length + t.gap.length + t.x.length) r)) (last4 (stopOf t.k t.x) r)
    rw [List.append_assoc, List.append_assoc, List.append_assoc, List.length_append (as := T ++ t.gap), List.length_append (as := T)] at z
    exact z
theorem txt4_app : ∀ a b : List Tk4, txt4 (a ++ b) = txt4 a ++ txt4 b
  | [], b => rfl
  | t :: a, b => by
    show t.gap ++ (t.x ++ txt4 (a ++ b)) = (t.gap ++ (t.x ++ txt4 a)) ++ txt4 b
    rw [txt4_app a b, List.append_assoc, List.append_assoc]
theorem last4_app : ∀ (p : Nat → Bool) (a b : List Tk4), last4 p (a ++ b) = last4 (last4 p a) b
  | _, [], _ => rfl
  | _, t :: a, b => last4_app (stopOf t.k t.x) a b
theorem row4_app : ∀ (p : Nat → Bool) (a b : List Tk4), row4 p (a ++ b) = (row4 p a && row4 (last4 p a) b)
  | _, [], _ => rfl
  | p, t :: a, b => by
    show (gapOk p t && (tokB t.k t.v t.x && row4 (stopOf t.k t.x) (a ++ b))) = ((gapOk p t && (tokB t.k t.v t.x && row4 (stopOf t.k t.x) a)) && row4 (last4 (stopOf t.k t.x) a) b)
    rw [row4_app, Bool.and_assoc, Bool.and_assoc]
theorem pos4_len : ∀ (l : List Tk4) (o : Nat), (pos4 o l).length = l.length
  | [], _ => rfl
  | t :: r, o => by
    show (pos4 _ r).length + 1 = r.length + 1
    rw [pos4_len r]
theorem pos4_get : ∀ (l : List Tk4) (o i : Nat) (t : Tk4), l[i]? = some t → (pos4 o l)[i]? = some (t.k, t.v, o + (txt4 (l.take i)).length + t.gap.length)
  | [], _, _, _, h => by simp at h
  | s :: r, o, 0, t, h => by
    cases h
    rfl
  | s :: r, o, i + 1, t, h => by
    have z := pos4_get r (o + s.gap.length + s.x.length) i t (by simpa using h)
    show (pos4 _ r)[i]? = _
    rw [z]
    show some (t.k, t.v, o + s.gap.length + s.x.length + (txt4 (r.take i)).length + t.gap.length) = some (t.k, t.v, o + (s.gap ++ (s.x ++ txt4 (r.take i))).length + t.gap.length)
    rw [List.length_append, List.length_append]
    congr 3
    omega
/-- all tokens of a text -/
theorem go4 (l : List Tk4) (s : List Nat) (h : row4 (fun _ => false) l = true) (hs : ∀ c ∈ s, isBl c = true) : go (txt4 l ++ s) 0 [] = .inr (pos4 0 l) := by
  have z := good4 l good_nil h
  rw [List.nil_append, List.nil_append] at z
  cases s with
  | nil => rw [List.append_nil]; exact z.ok
  | cons c s =>
    have z2 : Good (txt4 l ++ [c]) (pos4 0 l) (fun _ => false) := by
      refine good_bl z ?_ (hs c (List.mem_cons_self ..))
      have hc : c ∈ ([32, 10] : List Nat) := of_decide_eq_true (hs c (List.mem_cons_self ..))
      have key : ∀ (l : List Tk4) (p : Nat → Bool), p 32 = false → p 10 = false → last4 p l 32 = false ∧ last4 p l 10 = false := by
        intro l
        induction l with
        | nil => intro p h1 h2; exact ⟨h1, h2⟩
        | cons t r ih => intro p _ _; exact ih _ (stop_sp _ _) (stop_nl _ _)
      have k2 := key l (fun _ => false) rfl rfl
      rcases List.mem_cons.mp hc with rfl | hc
      · exact k2.1
      · rw [List.mem_singleton.mp hc]
        exact k2.2
    have z3 := good_bls s z2 fun d hd => hs d (List.mem_cons_of_mem _ hd)
    rw [show txt4 l ++ c :: s = txt4 l ++ [c] ++ s by simp]
    exact z3.ok
/-- tokens stand from a place on -/
def Ps.has (p : Ps) (i : Nat) (l : List Tk4) : Prop := ∀ j t, l[j]? = some t → p.tk (i + j) t.k t.v
theorem has_of {l a b c : List Tk4} {n : Nat} (h : l = a ++ (b ++ c)) : (Ps.mk (pos4 0 l) n).has a.length b := fun j t e => by
  subst h
  refine ⟨_, pos4_get _ 0 _ t ?_⟩
  rw [List.getElem?_append_right (by omega), show a.length + j - a.length = j by omega]
  have lt : j < b.length := by
    rcases Nat.lt_or_ge j b.length with h | h
    · exact h
    · rw [List.getElem?_eq_none h] at e
      cases e
  rw [List.getElem?_append_left lt]
  exact e
theorem has_app {p : Ps} {i : Nat} {a b : List Tk4} (h : p.has i (a ++ b)) : p.has i a ∧ p.has (i + a.length) b := by
  refine ⟨fun j t e => ?_, fun j t e => ?_⟩
  · refine h j t ?_
    have lt : j < a.length := by
      rcases Nat.lt_or_ge j a.length with h | h
      · exact h
      · rw [List.getElem?_eq_none h] at e
        cases e
    rw [List.getElem?_append_left lt]
    exact e
  · have z := h (a.length + j) t (by rw [List.getElem?_append_right (by omega), show a.length + j - a.length = j by omega]; exact e)
    rw [Nat.add_assoc]
    exact z
end K9
set_option Elab.async false
set_option maxRecDepth 100000
namespace K9
open PySem
/-! ### bodies, rules, items -/
section
variable {p : Ps} {i j : Nat} {v : Tv} {d e : PyData}
theorem part_fact (h0 : p.tk i kName v) (h1 : p.tk (i + 1) kSign (.s gOpen)) (l : i < 4000) (ht : p.terms false (i + 1) = .ok d j) : p.part i = .ok (dT [dS wFact, tvD v, d]) j := by
  have c : p.kind i = kName ∧ (p.ts[i + 1]?).map (·.2.1) = some (.s gOpen) := ⟨tk_kind h0, by obtain ⟨q, e⟩ := h1; rw [e]; rfl⟩
  unfold Ps.part
  rw [acc_ne h0 (by decide)]
  rw [bind_ok]
  rw [if_neg Bool.false_ne_true, acc_ne h0 (by decide)]
  rw [bind_ok]
  rw [if_neg Bool.false_ne_true, if_pos c, tk_move h0 l]
  show Rs.bind (p.terms false (i + 1)) _ = _
  rw [ht]
  rfl
theorem part_test (h0 : p.tk i kName v) {k : List Nat} {u : Tv} (h1 : p.tk (i + 1) k u) (n : u ≠ .s gOpen) : p.part i = p.test i := by
  have c : ¬ (p.kind i = kName ∧ (p.ts[i + 1]?).map (·.2.1) = some (.s gOpen)) := fun z => by
    obtain ⟨q, e⟩ := h1
    rw [e] at z
    exact n (Option.some.inj z.2)
  unfold Ps.part
  rw [acc_ne h0 (by decide)]
  rw [bind_ok]
  rw [if_neg Bool.false_ne_true, acc_ne h0 (by decide)]
  rw [bind_ok]
  rw [if_neg Bool.false_ne_true, if_neg c]
theorem part_let (h0 : p.tk i kKey (.s wLet)) (h1 : p.tk (i + 1) kName v) (h2 : p.tk (i + 2) kSign (.s gEq)) (l : i + 2 < 4000) : p.part i = (p.sums 20 (i + 3)).bind fun t i => .ok (dT [dS wLet, tvD v, t]) i := by
  unfold Ps.part
  rw [tk_no h0 (by decide)]
  rw [bind_ok]
  rw [if_neg Bool.false_ne_true, tk_acc h0 (by omega)]
  rw [bind_ok]
  rw [if_pos rfl, tk_want h1 (by omega)]
  show Rs.bind (p.sign gEq (i + 1 + 1)) _ = _
  rw [tk_sign h2 l]
  rfl
theorem body1 (h : p.part i = .ok d j) (s : p.sees j kSign [gComma] = false) : p.body i = .ok (dT [d]) j := by
  unfold Ps.body
  rw [h]
  show Rs.bind (p.more 12 p.part 11 [d] j) _ = _
  unfold Ps.more
  rw [no_next s]
  rfl
theorem body2 (h : p.part i = .ok d j) (hc : p.tk j kSign (.s gComma)) (l : j < 4000) {m : Nat} (h2 : p.part (j + 1) = .ok e m) (s : p.sees m kSign [gComma] = false) : p.body i = .ok (dT [d, e]) m := by
  unfold Ps.body
  rw [h]
  show Rs.bind (p.more 12 p.part 11 [d] j) _ = _
  unfold Ps.more
  rw [tk_next (n := [d].length) hc l (show ([d].length : Nat) ≠ 12 from (by decide : (1 : Nat) ≠ 12))]
  show Rs.bind (Rs.bind (p.part (j + 1)) _) _ = _
  rw [h2]
  show Rs.bind (p.more 12 p.part 10 [d, e] m) _ = _
  unfold Ps.more
  rw [no_next s]
  rfl
theorem body2no (h : p.part i = .ok d j) (hc : p.tk j kSign (.s gComma)) (l : j < 4000) {m : Nat} (h2 : p.part (j + 1) = .no m) : p.body i = .no m := by
  unfold Ps.body
  rw [h]
  show Rs.bind (p.more 12 p.part 11 [d] j) _ = _
  unfold Ps.more
  rw [tk_next (n := [d].length) hc l (show ([d].length : Nat) ≠ 12 from (by decide : (1 : Nat) ≠ 12))]
  show Rs.bind (Rs.bind (p.part (j + 1)) _) _ = _
  rw [h2]
  rfl
theorem terms_var {b : Bool} (h0 : p.tk i kSign (.s gOpen)) (h1 : p.tk (i + 1) kName v) (h2 : p.tk (i + 2) kSign (.s gClose)) (l : i + 2 < 4000) : p.terms b i = .ok (dT [dT [dS wVariable, tvD v]]) (i + 3) := by
  unfold Ps.terms
  rw [row1 h0 (sees_ne h1 (by decide)) (term_var h1 (by omega)) h2 (by omega) l]
  rfl
theorem terms_num {b : Bool} {n : Nat} (h0 : p.tk i kSign (.s gOpen)) (h1 : p.tk (i + 1) kNum (.n n)) (h2 : p.tk (i + 2) kSign (.s gClose)) (l : i + 2 < 4000) : p.terms b i = .ok (dT [dT [dS wValue, .int (n : Int)]]) (i + 3) := by
  unfold Ps.terms
  rw [row1 h0 (sees_ne h1 (by decide)) (term_num h1 (by omega)) h2 (by omega) l]
  rfl
theorem terms_none {b : Bool} (h0 : p.tk i kSign (.s gOpen)) (h1 : p.tk (i + 1) kSign (.s gClose)) (l : i + 1 < 4000) : p.terms b i = .ok (dT []) (i + 2) := by
  unfold Ps.terms
  rw [row0 h0 h1 l]
  rfl
/-- an item can't go on here -/
structure Ps.stop (p : Ps) (i : Nat) : Prop where
  mul : p.seesMul i = false
  add : p.seesAdd i = false
  com : p.sees i kSign [gComma] = false
  iff : p.sees i kKey [wIf] = false
def HEADS : List (List Nat) := [wBase, wRule, wNever]
theorem stop_key {w : List Nat} (h : p.tk i kKey (.s w)) (hw : w ∈ HEADS) : p.stop i := by
  refine ⟨?_, ?_, ?_, ?_⟩
  · unfold Ps.seesMul
    rw [tk_sees h, tk_sees h]
    exact (by decide : ∀ w ∈ HEADS, (seesB kKey (.s w) kSign [gTimes, gDiv] || seesB kKey (.s w) kKey [wMod]) = false) w hw
  · unfold Ps.seesAdd
    rw [tk_sees h]
    exact (by decide : ∀ w ∈ HEADS, seesB kKey (.s w) kSign [gPlus, gMinus] = false) w hw
  · rw [tk_sees h]
    exact (by decide : ∀ w ∈ HEADS, seesB kKey (.s w) kSign [gComma] = false) w hw
  · rw [tk_sees h]
    exact (by decide : ∀ w ∈ HEADS, seesB kKey (.s w) kKey [wIf] = false) w hw
theorem kind_end (h : p.ts.length ≤ i) : p.kind i = [] := by
  unfold Ps.kind
  rw [List.getElem?_eq_none h]
theorem sees_end {k : List Nat} {ws : List (List Nat)} (h : p.ts.length ≤ i) (hk : k ≠ []) : p.sees i k ws = false := by
  unfold Ps.sees
  rw [kind_end h, decide_eq_false (Ne.symm hk)]
  rfl
theorem stop_end (h : p.ts.length ≤ i) : p.stop i := by
  refine ⟨?_, sees_end h (by decide), sees_end h (by decide), sees_end h (by decide)⟩
  unfold Ps.seesMul
  rw [sees_end h (by decide), sees_end h (by decide)]
  rfl
theorem at_end (h : p.ts.length ≤ i) : p.at i = p.len := by
  unfold Ps.at
  rw [List.getElem?_eq_none h]
/-- the head of a rule -/
theorem rule_head {n : Tv} {t : PyData} (h0 : p.tk i kKey (.s wRule)) (h1 : p.tk (i + 1) kName n) (l : i + 1 < 4000) (ht : p.terms true (i + 2) = .ok t j) : p.rule i = p.ruleTail n t j := by
  unfold Ps.rule
  rw [tk_acc h0 (by omega)]
  rw [bind_ok]
  rw [if_pos rfl, tk_want h1 (by omega)]
  show Rs.bind (p.terms true (i + 1 + 1)) _ = _
  rw [ht]
  rfl
theorem tail_none {n : Tv} {t : PyData} (s : p.sees i kKey [wIf] = false) : p.ruleTail n t i = .ok (dT [dS wRule, dT [tvD n, t], dT []]) i := by
  unfold Ps.ruleTail
  rw [no_acc s]
  rfl
theorem tail_body {n : Tv} {t : PyData} (h : p.tk i kKey (.s wIf)) (l : i < 4000) : p.ruleTail n t i = (p.body (i + 1)).bind fun u i => .ok (dT [dS wRule, dT [tvD n, t], u]) i := by
  unfold Ps.ruleTail
  rw [tk_acc h l]
  rfl
end
/-! ### the items of the law's program -/
def tOne : List Nat := [111,110,101]
def tBad : List Nat := [98,97,100]
def tK : List Nat := [107]
def tX : List Nat := [120]
def tY : List Nat := [121]
def kwT (g w : List Nat) : Tk4 := ⟨g, kKey, .s w, w⟩
def nmT (g w : List Nat) : Tk4 := ⟨g, kName, .s w, w⟩
def sgT (g w : List Nat) : Tk4 := ⟨g, kSign, .s w, w⟩
def nuT (g : List Nat) (n : Nat) (x : List Nat) : Tk4 := ⟨g, kNum, .n n, x⟩
def itm (c : Nat) (g : List Nat) : List Tk4 := match c with
  | 0 => [kwT g wBase, nmT [32] tOne, sgT [] gOpen, kwT [] wNumber, sgT [] gClose]
  | 1 => [kwT g wRule, nmT [32] tK, sgT [] gOpen, nuT [] 1 [49], sgT [] gClose]
  | 2 => [kwT g wRule, nmT [32] tK, sgT [] gOpen, nmT [] tX, sgT [] gClose, kwT [32] wIf, nmT [32] tOne, sgT [] gOpen, nmT [] tX, sgT [] gClose]
  | 3 => [kwT g wNever, nmT [32] tBad, kwT [32] wIf, nmT [32] tOne, sgT [] gOpen, nmT [] tX, sgT [] gClose, sgT [] gComma, nmT [32] tX, sgT [32] gLt, nuT [32] 3 [51]]
  | _ => [kwT g wRule, nmT [32] tK, sgT [] gOpen, sgT [] gClose]
theorem itm_len (c : Nat) (g : List Nat) : 4 ≤ (itm c g).length ∧ (itm c g).length ≤ 11 := by
  unfold itm
  split <;> exact ⟨Nat.le_of_ble_eq_true rfl, Nat.le_of_ble_eq_true rfl⟩
theorem itm_head (c : Nat) (g : List Nat) : ∃ w r, itm c g = kwT g w :: r ∧ w ∈ HEADS := by
  unfold itm
  split <;> exact ⟨_, _, rfl, by decide⟩
section
variable {p : Ps} {i : Nat}
theorem prog_rule {d : PyData} {j : Nat} (h0 : p.tk i kKey (.s wRule)) (hr : p.rule i = .ok d j) (n : Nat) (rel rul nev : List PyData) : p.program (n + 1) rel rul nev i = p.program n rel (rul ++ [d]) nev j := by
  have lt : i < p.ts.length := by
    obtain ⟨q, e⟩ := h0
    exact (List.getElem?_eq_some_iff.mp e).1
  rw [Ps.program, if_pos lt, tk_sees h0, if_neg (by decide), tk_no h0 (by decide)]
  rw [bind_ok]
  rw [if_neg Bool.false_ne_true, hr]
  rfl
theorem never_tail {v : Tv} {d : PyData} {j : Nat} (h1 : p.tk i kName v) (h2 : p.tk (i + 1) kKey (.s wIf)) (l : i + 1 < 4000) (hb : p.body (i + 2) = .ok d j) : p.neverTail i = .ok (dT [dS wNever, tvD v, d]) j := by
  unfold Ps.neverTail
  rw [tk_want h1 (by omega), bind_ok, tk_acc h2 l, bind_ok, if_pos rfl, hb]
  rfl
theorem prog_never {d : PyData} {j : Nat} (h0 : p.tk i kKey (.s wNever)) (hr : p.neverTail (i + 1) = .ok d j) (l : i < 4000) (n : Nat) (rel rul nev : List PyData) : p.program (n + 1) rel rul nev i = p.program n rel rul (nev ++ [d]) j := by
  have lt : i < p.ts.length := by
    obtain ⟨q, e⟩ := h0
    exact (List.getElem?_eq_some_iff.mp e).1
  rw [Ps.program, if_pos lt, tk_sees h0, if_neg (by decide), tk_acc h0 l, bind_ok, if_pos rfl, hr]
  rfl
theorem item_step {c : Nat} {g : List Nat} (h : p.has i (itm c g)) (l : i + (itm c g).length ≤ 4000) (s : p.stop (i + (itm c g).length)) (n : Nat) (rel rul nev : List PyData) :
    ∃ rel' rul' nev', p.program (n + 1) rel rul nev i = p.program n rel' rul' nev' (i + (itm c g).length) ∧ rel'.length + rul'.length + nev'.length = rel.length + rul.length + nev.length + 1 := by
  have lt : i < p.ts.length := by
    obtain ⟨w, r, e, _⟩ := itm_head c g
    obtain ⟨q, e⟩ := h 0 (kwT g w) (by rw [e]; rfl)
    exact (List.getElem?_eq_some_iff.mp e).1
  match c with
  | 0 =>
    have h0 : p.tk i kKey (.s wBase) := h 0 _ rfl
    have h1 : p.tk (i + 1) kName (.s tOne) := h 1 _ rfl
    have h2 : p.tk (i + 2) kSign (.s gOpen) := h 2 _ rfl
    have h3 : p.tk (i + 3) kKey (.s wNumber) := h 3 _ rfl
    have h4 : p.tk (i + 4) kSign (.s gClose) := h 4 _ rfl
    have l' : i + 5 ≤ 4000 := l
    have hs : p.oneSort (i + 2 + 1) = .ok (tvD (.s wNumber)) (i + 3 + 1) := by
      unfold Ps.oneSort
      rw [tk_sees h3, if_pos (by decide), tk_move h3 (by omega)]
      rfl
    have hr : p.relation i = .ok (dT [tvD (.s wBase), tvD (.s tOne), dT [tvD (.s wNumber)]]) (i + 5) := by
      unfold Ps.relation
      rw [tk_move h0 (by omega)]
      show Rs.bind (p.want kName (i + 1)) _ = _
      rw [tk_want h1 (by omega)]
      show Rs.bind (p.row p.oneSort (i + 2)) _ = _
      rw [row1 h2 (sees_ne h3 (by decide)) hs h4 (by omega) (by omega)]
      rfl
    refine ⟨rel ++ [dT [tvD (.s wBase), tvD (.s tOne), dT [tvD (.s wNumber)]]], rul, nev, ?_, by rw [List.length_append, List.length_singleton]; omega⟩
    rw [Ps.program, if_pos lt, tk_sees h0, if_pos (by decide), hr]
    rfl
  | 1 =>
    have h0 : p.tk i kKey (.s wRule) := h 0 _ rfl
    have h1 : p.tk (i + 1) kName (.s tK) := h 1 _ rfl
    have h2 : p.tk (i + 2) kSign (.s gOpen) := h 2 _ rfl
    have h3 : p.tk (i + 3) kNum (.n 1) := h 3 _ rfl
    have h4 : p.tk (i + 4) kSign (.s gClose) := h 4 _ rfl
    have l' : i + 5 ≤ 4000 := l
    have s' : p.stop (i + 5) := s
    have hr := (rule_head h0 h1 (by omega) (terms_num (b := true) h2 h3 h4 (by omega))).trans (tail_none s'.iff)
    exact ⟨_, _, _, prog_rule h0 hr n rel rul nev, by rw [List.length_append, List.length_singleton]; omega⟩
  | 2 =>
    have h0 : p.tk i kKey (.s wRule) := h 0 _ rfl
    have h1 : p.tk (i + 1) kName (.s tK) := h 1 _ rfl
    have h2 : p.tk (i + 2) kSign (.s gOpen) := h 2 _ rfl
    have h3 : p.tk (i + 3) kName (.s tX) := h 3 _ rfl
    have h4 : p.tk (i + 4) kSign (.s gClose) := h 4 _ rfl
    have h5 : p.tk (i + 5) kKey (.s wIf) := h 5 _ rfl
    have h6 : p.tk (i + 6) kName (.s tOne) := h 6 _ rfl
    have h7 : p.tk (i + 7) kSign (.s gOpen) := h 7 _ rfl
    have h8 : p.tk (i + 8) kName (.s tX) := h 8 _ rfl
    have h9 : p.tk (i + 9) kSign (.s gClose) := h 9 _ rfl
    have l' : i + 10 ≤ 4000 := l
    have s' : p.stop (i + 10) := s
    have hb := body1 (part_fact h6 h7 (by omega) (terms_var (b := false) h7 h8 h9 (by omega))) s'.com
    have hr := (rule_head h0 h1 (by omega) (terms_var (b := true) h2 h3 h4 (by omega))).trans (tail_body h5 (by omega))
    have hb' : p.body (i + 2 + 3 + 1) = _ := hb
    rw [hb'] at hr
    exact ⟨_, _, _, prog_rule h0 hr n rel rul nev, by rw [List.length_append, List.length_singleton]; omega⟩
  | 3 =>
    have h0 : p.tk i kKey (.s wNever) := h 0 _ rfl
    have h1 : p.tk (i + 1) kName (.s tBad) := h 1 _ rfl
    have h2 : p.tk (i + 2) kKey (.s wIf) := h 2 _ rfl
    have h3 : p.tk (i + 3) kName (.s tOne) := h 3 _ rfl
    have h4 : p.tk (i + 4) kSign (.s gOpen) := h 4 _ rfl
    have h5 : p.tk (i + 5) kName (.s tX) := h 5 _ rfl
    have h6 : p.tk (i + 6) kSign (.s gClose) := h 6 _ rfl
    have h7 : p.tk (i + 7) kSign (.s gComma) := h 7 _ rfl
    have h8 : p.tk (i + 8) kName (.s tX) := h 8 _ rfl
    have h9 : p.tk (i + 9) kSign (.s gLt) := h 9 _ rfl
    have h10 : p.tk (i + 10) kNum (.n 3) := h 10 _ rfl
    have l' : i + 11 ≤ 4000 := l
    have s' : p.stop (i + 11) := s
    have m9 : p.seesMul (i + 9) = false ∧ p.seesAdd (i + 9) = false := by
      unfold Ps.seesMul Ps.seesAdd
      rw [tk_sees h9, tk_sees h9, tk_sees h9]
      exact ⟨by decide, by decide⟩
    have ht : p.test (i + 8) = .ok (dT [dS wTest, tvD (.s gLt), dT [dS wVariable, tvD (.s tX)], dT [dS wValue, .int ((3 : Nat) : Int)]]) (i + 11) := by
      unfold Ps.test
      have e1 : p.sums 20 (i + 8) = .ok (dT [dS wVariable, tvD (.s tX)]) (i + 9) := sums_one (so := some (p.sums 19)) (piece_var h8 (by omega)) m9.1 m9.2
      have e2 : p.sums 20 (i + 10) = .ok (dT [dS wValue, .int ((3 : Nat) : Int)]) (i + 11) := sums_one (so := some (p.sums 19)) (piece_num h10 (by omega)) s'.mul s'.add
      rw [e1]
      rw [bind_ok]
      rw [tk_sees h9, if_pos (by decide), tk_move h9 (by omega)]
      show Rs.bind (p.sums 20 (i + 10)) _ = _
      rw [e2]
      rfl
    have hp := (part_test h8 h9 (by decide)).trans ht
    have hb := body2 (part_fact h3 h4 (by omega) (terms_var (b := false) h4 h5 h6 (by omega))) h7 (by omega) hp s'.com
    exact ⟨_, _, _, prog_never h0 (never_tail h1 h2 (by omega) hb) (by omega) n rel rul nev, by rw [List.length_append, List.length_singleton]; omega⟩
  | c + 4 =>
    have h0 : p.tk i kKey (.s wRule) := h 0 _ rfl
    have h1 : p.tk (i + 1) kName (.s tK) := h 1 _ rfl
    have h2 : p.tk (i + 2) kSign (.s gOpen) := h 2 _ rfl
    have h3 : p.tk (i + 3) kSign (.s gClose) := h 3 _ rfl
    have l' : i + 4 ≤ 4000 := l
    have s' : p.stop (i + 4) := s
    have hr := (rule_head h0 h1 (by omega) (terms_none (b := true) h2 h3 (by omega))).trans (tail_none s'.iff)
    exact ⟨_, _, _, prog_rule h0 hr n rel rul nev, by rw [List.length_append, List.length_singleton]; omega⟩
end
def itms : List (List Nat × Nat) → List Tk4
  | [] => []
  | (g, c) :: r => itm c g ++ itms r
theorem itms_app : ∀ a b, itms (a ++ b) = itms a ++ itms b
  | [], b => rfl
  | (g, c) :: a, b => by
    show itm c g ++ itms (a ++ b) = itm c g ++ itms a ++ itms b
    rw [itms_app a b, List.append_assoc]
theorem items_run {p : Ps} : ∀ (l : List (List Nat × Nat)) (i n : Nat) (rel rul nev : List PyData), p.has i (itms l) → i + (itms l).length ≤ 4000 → p.stop (i + (itms l).length) →
    ∃ rel' rul' nev', p.program (n + l.length) rel rul nev i = p.program n rel' rul' nev' (i + (itms l).length) ∧ rel'.length + rul'.length + nev'.length = rel.length + rul.length + nev.length + l.length
  | [], i, n, rel, rul, nev, _, _, _ => ⟨rel, rul, nev, rfl, rfl⟩
  | (g, c) :: r, i, n, rel, rul, nev, h, l, s => by
    have h' := has_app (show p.has i (itm c g ++ itms r) from h)
    have le : (itms ((g, c) :: r)).length = (itm c g).length + (itms r).length := List.length_append
    rw [le] at l s ⊢
    have s1 : p.stop (i + (itm c g).length) := by
      cases r with
      | nil => exact s
      | cons x r =>
        obtain ⟨w, q, e, hw⟩ := itm_head x.2 x.1
        refine stop_key (w := w) ?_ hw
        have z := h'.2 0 (kwT x.1 w) (by show (itm x.2 x.1 ++ itms r)[0]? = _; rw [e]; rfl)
        exact z
    obtain ⟨a, b, d, e1, e2⟩ := item_step (n := n + r.length) (rel := rel) (rul := rul) (nev := nev) h'.1 (by omega) s1
    obtain ⟨a', b', d', e3, e4⟩ := items_run r (i + (itm c g).length) n a b d h'.2 (by omega) (by rw [Nat.add_assoc]; exact s)
    refine ⟨a', b', d', ?_, by rw [List.length_cons]; omega⟩
    rw [List.length_cons, show n + (r.length + 1) = n + r.length + 1 by omega, e1, e3, Nat.add_assoc]
end K9
set_option Elab.async false
set_option maxRecDepth 100000
namespace K9
open PySem
/-! ### the law's program as a row of tokens -/
def itx (c : Nat) : List Nat := txt4 (itm c [])
theorem itm_txt (c : Nat) (g : List Nat) : txt4 (itm c g) = g ++ itx c := by
  unfold itx itm
  split <;> simp [txt4, kwT]
theorem row4_kw {g : List Nat} {w : List Nat} {p : Nat → Bool} {r : List Tk4} (h : (g = [] ∧ p = fun _ => false) ∨ (∃ c0, (c0 = 32 ∨ c0 = 10) ∧ g = [c0] ∧ p c0 = false) ∨ (g = [32, 32] ∧ p 32 = false)) : row4 p (kwT g w :: r) = (tokB kKey (.s w) w && row4 (stopOf kKey w) r) := by
  have e : gapOk p (kwT g w) = true := by
    rcases h with ⟨rfl, rfl⟩ | ⟨c0, hc, rfl, hp⟩ | ⟨rfl, hp⟩
    · rfl
    · have : gapOk p (kwT [c0] w) = (([c0] : List Nat).all isBl && !p c0) := rfl
      rw [this, hp]
      rcases hc with rfl | rfl <;> rfl
    · have : gapOk p (kwT [32, 32] w) = (([32, 32] : List Nat).all isBl && !p 32) := rfl
      rw [this, hp]
      rfl
  show (gapOk p (kwT g w) && _) = _
  rw [e]
  rfl
def GapFit (p : Nat → Bool) (g : List Nat) : Prop := (g = [] ∧ p = fun _ => false) ∨ (∃ c0, (c0 = 32 ∨ c0 = 10) ∧ g = [c0] ∧ p c0 = false) ∨ (g = [32, 32] ∧ p 32 = false)
theorem itm_row {c : Nat} {g : List Nat} {p : Nat → Bool} (h : GapFit p g) : row4 p (itm c g) = true := by
  unfold itm
  split <;> rw [row4_kw h] <;> decide +kernel
def blP (p : Nat → Bool) : Prop := p 32 = false ∧ p 10 = false
theorem last_bl : ∀ (l : List Tk4) (p : Nat → Bool), blP p → blP (last4 p l)
  | [], _, h => h
  | t :: r, _, _ => last_bl r _ ⟨stop_sp _ _, stop_nl _ _⟩
def gaps : List Nat → List Nat → List Nat → List (List Nat × Nat)
  | _, _, [] => []
  | g, s, c :: r => (g, c) :: gaps s s r
theorem gaps_len : ∀ (g s : List Nat) (l : List Nat), (gaps g s l).length = l.length
  | _, _, [] => rfl
  | g, s, c :: r => by
    show (gaps s s r).length + 1 = r.length + 1
    rw [gaps_len]
theorem gaps_txt : ∀ (g s : List Nat) (c : Nat) (r : List Nat), txt4 (itms (gaps g s (c :: r))) = g ++ joinT s ((c :: r).map itx)
  | g, s, c, [] => by
    show txt4 (itm c g ++ []) = g ++ itx c
    rw [List.append_nil, itm_txt]
  | g, s, c, d :: r => by
    show txt4 (itm c g ++ itms (gaps s s (d :: r))) = g ++ (itx c ++ (s ++ joinT s ((d :: r).map itx)))
    rw [txt4_app, gaps_txt s s d r, itm_txt, List.append_assoc]
theorem gaps_row {g s : List Nat} (hs : s = [10] ∨ s = [32]) : ∀ (l : List Nat) (p : Nat → Bool), GapFit p g → blP p → row4 p (itms (gaps g s l)) = true
  | [], _, _, _ => rfl
  | c :: r, p, h, b => by
    show row4 p (itm c g ++ itms (gaps s s r)) = true
    have b2 := last_bl (itm c g) p b
    have f2 : GapFit (last4 p (itm c g)) s := .inr (.inl (by
      rcases hs with rfl | rfl
      · exact ⟨10, .inr rfl, rfl, b2.2⟩
      · exact ⟨32, .inl rfl, rfl, b2.1⟩))
    rw [row4_app, itm_row h, gaps_row hs r _ f2 b2]
    rfl
theorem gaps_num : ∀ (g s : List Nat) (l : List Nat), (itms (gaps g s l)).length = (l.map fun c => (itm c []).length).sum
  | _, _, [] => rfl
  | g, s, c :: r => by
    show (itm c g ++ itms (gaps s s r)).length = _
    rw [List.length_append, gaps_num s s r, List.map_cons, List.sum_cons]
    have : (itm c g).length = (itm c []).length := by
      unfold itm
      split <;> rfl
    rw [this]
/-- the items of a program -/
def prog (cs : List Nat) (m : Nat) : List (List Nat × Nat) := gaps [] [10] cs ++ gaps [10] [32] (List.replicate m 4)
def progT (cs : List Nat) (m : Nat) : List Tk4 := itms (prog cs m)
theorem progT_eq (cs : List Nat) (m : Nat) : progT cs m = itms (gaps [] [10] cs) ++ itms (gaps [10] [32] (List.replicate m 4)) := itms_app _ _
theorem progT_txt {cs : List Nat} {m : Nat} (h : cs ≠ []) (hm : 0 < m) : txt4 (progT cs m) = joinT [10] (cs.map itx) ++ ([10] ++ joinT [32] (List.replicate m (itx 4))) := by
  rw [progT_eq, txt4_app]
  cases cs with
  | nil => exact absurd rfl h
  | cons c r =>
    obtain ⟨m, rfl⟩ : ∃ k, m = k + 1 := ⟨m - 1, by omega⟩
    rw [gaps_txt, List.replicate_succ, gaps_txt, ← List.replicate_succ, List.map_replicate]
    rfl
theorem progT_row (cs : List Nat) (m : Nat) : row4 (fun _ => false) (progT cs m) = true := by
  rw [progT_eq, row4_app, gaps_row (.inl rfl) cs _ (.inl ⟨rfl, rfl⟩) ⟨rfl, rfl⟩]
  have b := last_bl (itms (gaps [] [10] cs)) (fun _ => false) ⟨rfl, rfl⟩
  rw [gaps_row (.inr rfl) _ _ (.inr (.inl ⟨10, .inr rfl, rfl, b.2⟩)) b]
  rfl
theorem progT_len (cs : List Nat) (m : Nat) : (progT cs m).length = (cs.map fun c => (itm c []).length).sum + 4 * m := by
  rw [progT_eq, List.length_append, gaps_num, gaps_num, List.map_replicate, List.sum_replicate_nat]
  show _ + m * 4 = _
  omega
theorem progT_bl (cs : List Nat) (m : Nat) : blP (last4 (fun _ => false) (progT cs m)) := last_bl _ _ ⟨rfl, rfl⟩
/-- what stands behind them: the first r tokens of rule k ( ), then the others -/
def fin0 (g : List Nat) : List Tk4 := [kwT g wRule, nmT [32] tK, sgT [] gOpen, sgT [] gClose]
def finA : List Tk4 := [kwT [32] wRule, nmT [32] tK, sgT [] gOpen]
def finB : List Tk4 := [nmT [32] tK, sgT [32] gOpen, sgT [32] gClose]
def finC : List Tk4 := [kwT [32] wRule, nmT [32] tK, sgT [32] gOpen, sgT [32] gClose]
/-- rule k ( ) stands at a place, with gaps as they may be -/
structure Ps.fin (p : Ps) (i r : Nat) : Prop where
  f0 : 0 < r → p.tk i kKey (.s wRule)
  f1 : 1 < r → p.tk (i + 1) kName (.s tK)
  f2 : 2 < r → p.tk (i + 2) kSign (.s gOpen)
  f3 : 3 < r → p.tk (i + 3) kSign (.s gClose)
theorem move_full {p : Ps} : p.move 4000 = .no (p.at 4000) := by
  unfold Ps.move
  rw [if_pos rfl]
theorem acc_full {p : Ps} {k w : List Nat} (h : p.tk 4000 k (.s w)) : p.accepts k w 4000 = .no (p.at 4000) := by
  unfold Ps.accepts
  rw [tk_sees h, if_pos (sees_self _ _), move_full]
  rfl
/-- rule k ( ) over the 4000th token -/
theorem rule_over {p : Ps} {i r : Nat} (f : p.fin i 4) (hr : r < 4) (h : i + r = 4000) : p.rule i = .no (p.at 4000) := by
  have f0 := f.f0 (by decide)
  have f1 := f.f1 (by decide)
  have f2 := f.f2 (by decide)
  have f3 := f.f3 (by decide)
  match r, hr with
  | 0, _ =>
    obtain rfl : i = 4000 := h
    unfold Ps.rule
    rw [acc_full f0]
    rfl
  | 1, _ =>
    obtain rfl : i = 3999 := by omega
    unfold Ps.rule
    rw [tk_acc f0 (by omega), bind_ok, if_pos rfl]
    unfold Ps.want
    rw [if_pos (tk_kind f1), show 3999 + 1 = 4000 from rfl, move_full]
    rfl
  | 2, _ =>
    obtain rfl : i = 3998 := by omega
    unfold Ps.rule
    rw [tk_acc f0 (by omega), bind_ok, if_pos rfl, tk_want f1 (by omega), bind_ok]
    unfold Ps.terms Ps.row Ps.sign
    rw [show 3998 + 1 + 1 = 4000 from rfl, acc_full f2]
    rfl
  | 3, _ =>
    obtain rfl : i = 3997 := by omega
    unfold Ps.rule
    rw [tk_acc f0 (by omega), bind_ok, if_pos rfl, tk_want f1 (by omega), bind_ok]
    unfold Ps.terms Ps.row
    rw [show 3997 + 1 + 1 = 3999 from rfl, tk_sign f2 (by omega), bind_ok, show 3999 + 1 = 4000 from rfl, tk_sees f3, if_pos (sees_self _ _), bind_ok]
    unfold Ps.sign
    rw [acc_full f3]
    rfl
/-- the text ends too early -/
theorem rule_short {p : Ps} {i r : Nat} (f : p.fin i r) (h0 : 0 < r) (hr : r < 4) (h : i + r ≤ 4000) (he : p.ts.length = i + r) : p.rule i = .no p.len := by
  have f0 := f.f0 h0
  match r, hr with
  | 1, _ =>
    unfold Ps.rule
    rw [tk_acc f0 (by omega), bind_ok, if_pos rfl]
    unfold Ps.want
    rw [kind_end (by omega), if_neg (by decide), at_end (by omega)]
    rfl
  | 2, _ =>
    have f1 := f.f1 (by decide)
    unfold Ps.rule
    rw [tk_acc f0 (by omega), bind_ok, if_pos rfl, tk_want f1 (by omega), bind_ok]
    unfold Ps.terms Ps.row Ps.sign
    rw [no_acc (sees_end (by omega) (by decide)), bind_ok, if_neg Bool.false_ne_true, at_end (by omega)]
    rfl
  | 3, _ =>
    have f1 := f.f1 (by decide)
    have f2 := f.f2 (by decide)
    unfold Ps.rule
    rw [tk_acc f0 (by omega), bind_ok, if_pos rfl, tk_want f1 (by omega), bind_ok]
    unfold Ps.terms Ps.row
    rw [tk_sign (show p.tk (i + 1 + 1) kSign (.s gOpen) from f2) (by omega), bind_ok, sees_end (by omega) (by decide), if_neg Bool.false_ne_true]
    unfold Ps.term
    rw [if_pos rfl, no_acc (sees_end (by omega) (by decide)), bind_ok, if_neg Bool.false_ne_true, sees_end (by omega) (by decide), if_neg Bool.false_ne_true]
    unfold Ps.termB
    rw [kind_end (by omega), if_neg (by decide)]
    unfold Ps.value
    rw [no_acc (sees_end (by omega) (by decide)), bind_ok, if_neg Bool.false_ne_true, kind_end (by omega), if_neg (by decide), at_end (by omega)]
    rfl
theorem prog_no {p : Ps} {i q : Nat} (h0 : p.tk i kKey (.s wRule)) (hr : p.rule i = .no q) (n : Nat) (rel rul nev : List PyData) : p.program (n + 1) rel rul nev i = .no q := by
  have lt : i < p.ts.length := by
    obtain ⟨q, e⟩ := h0
    exact (List.getElem?_eq_some_iff.mp e).1
  rw [Ps.program, if_pos lt, tk_sees h0, if_neg (by decide), tk_no h0 (by decide), bind_ok, if_neg Bool.false_ne_true, hr]
  rfl
theorem prog_end {p : Ps} {i : Nat} (h : p.ts.length ≤ i) (n : Nat) (rel rul nev : List PyData) : p.program (n + 1) rel rul nev i = .ok (dT [dS wProgram, dT rel, dT rul, dT nev]) i := by
  rw [Ps.program, if_neg (by omega)]
theorem itms_ge : ∀ l : List (List Nat × Nat), l.length ≤ (itms l).length
  | [] => Nat.le_refl _
  | (g, c) :: r => by
    show r.length + 1 ≤ (itm c g ++ itms r).length
    rw [List.length_append]
    have := itms_ge r
    have := (itm_len c g).1
    omega
/-! what the law asks of the three texts -/
theorem prog_tree {cs : List Nat} {m : Nat} (s : List Nat) (hs : ∀ c ∈ s, isBl c = true) (h : (progT cs m).length = 4000) : ∃ rel rul nev, parseL (txt4 (progT cs m) ++ s) = .tree (dT [dS wProgram, dT rel, dT rul, dT nev]) ∧ rel.length + rul.length + nev.length = cs.length + m := by
  have g := go4 (progT cs m) s (progT_row cs m) hs
  have le := itms_ge (prog cs m)
  have hh : (Ps.mk (pos4 0 (progT cs m)) (txt4 (progT cs m) ++ s).length).has 0 (itms (prog cs m)) := has_of (l := progT cs m) (a := []) (c := []) (by rw [List.append_nil]; rfl)
  have h4 : (itms (prog cs m)).length = 4000 := h
  have hl : (prog cs m).length = cs.length + m := by
    unfold prog
    rw [List.length_append, gaps_len, gaps_len, List.length_replicate]
  have ln : (pos4 0 (progT cs m)).length = 4000 := by rw [pos4_len, h]
  obtain ⟨a, b, d, e1, e2⟩ := items_run (prog cs m) 0 (4001 - (prog cs m).length) [] [] [] hh (by omega) (stop_end (by show (pos4 0 (progT cs m)).length ≤ _; omega))
  refine ⟨a, b, d, ?_, by rw [e2]; simp only [List.length_nil]; omega⟩
  unfold parseL
  rw [g]
  show (match (Ps.mk (pos4 0 (progT cs m)) (txt4 (progT cs m) ++ s).length).program ((pos4 0 (progT cs m)).length + 1) [] [] [] 0 with
    | .no j => Out.no j
    | .ok d _ => .tree d) = _
  rw [ln, show 4000 + 1 = 4001 - (prog cs m).length + (prog cs m).length by omega, e1, show 4001 - (prog cs m).length = 4000 - (prog cs m).length + 1 by omega, prog_end (by show (pos4 0 (progT cs m)).length ≤ _; omega)]
theorem prog_bad {cs : List Nat} {m r : Nat} {fin : List Tk4} {q : Nat} (h : (progT cs m).length + r = 4000) (hr : 0 < fin.length) (hw : row4 (fun _ => false) (progT cs m ++ fin) = true) 
    (hf : ∀ p : Ps, p.ts = pos4 0 (progT cs m ++ fin) → p.len = (txt4 (progT cs m ++ fin)).length → p.has (progT cs m).length fin → p.tk (progT cs m).length kKey (.s wRule) ∧ p.rule (progT cs m).length = .no q) : parseL (txt4 (progT cs m ++ fin)) = .no q := by
  have g := go4 (progT cs m ++ fin) [] hw (fun c hc => by cases hc)
  rw [List.append_nil] at g
  have le := itms_ge (prog cs m)
  have hh : (Ps.mk (pos4 0 (progT cs m ++ fin)) (txt4 (progT cs m ++ fin)).length).has 0 (itms (prog cs m)) := has_of (l := progT cs m ++ fin) (a := []) (c := fin) rfl
  have hF : (Ps.mk (pos4 0 (progT cs m ++ fin)) (txt4 (progT cs m ++ fin)).length).has (progT cs m).length fin := has_of (l := progT cs m ++ fin) (a := progT cs m) (c := []) (by rw [List.append_nil])
  obtain ⟨k1, k2⟩ := hf _ rfl rfl hF
  have ln : (pos4 0 (progT cs m ++ fin)).length = (progT cs m).length + fin.length := by rw [pos4_len, List.length_append]
  have lt : (itms (prog cs m)).length = (progT cs m).length := rfl
  obtain ⟨a, b, d, e1, e2⟩ := items_run (prog cs m) 0 ((progT cs m).length + fin.length + 1 - (prog cs m).length) [] [] [] hh (by omega) (by rw [lt, Nat.zero_add]; exact stop_key k1 (by decide))
  unfold parseL
  rw [g]
  show (match (Ps.mk (pos4 0 (progT cs m ++ fin)) (txt4 (progT cs m ++ fin)).length).program ((pos4 0 (progT cs m ++ fin)).length + 1) [] [] [] 0 with
    | .no j => Out.no j
    | .ok d _ => .tree d) = _
  rw [ln, show (progT cs m).length + fin.length + 1 = (progT cs m).length + fin.length + 1 - (prog cs m).length + (prog cs m).length by omega, e1, show (progT cs m).length + fin.length + 1 - (prog cs m).length = (progT cs m).length + fin.length - (prog cs m).length + 1 by omega, lt, Nat.zero_add, prog_no k1 k2]
end K9
set_option Elab.async false
set_option maxRecDepth 100000
namespace K9
open PySem
/-! ### words and what they are read as -/
def cls (x : List Nat) : List Nat × Tv :=
  if isLet (x.getD 0 0) = true then (if x ∈ KW then kKey else kName, .s x)
  else if isDig (x.getD 0 0) = true then (kNum, .n (dval x))
  else if x.getD 0 0 = 39 then (kQuo, .s x.tail)
  else (kSign, .s x)
abbrev Wrd := List Nat
def Ps.hs (p : Ps) (i : Nat) (ws : List Wrd) : Prop := ∀ j x, ws[j]? = some x → p.tk (i + j) (cls x).1 (cls x).2
section
variable {p : Ps} {i : Nat} {a b : List Wrd} {x : Wrd}
theorem hs_app (h : p.hs i (a ++ b)) : p.hs i a ∧ p.hs (i + a.length) b := by
  refine ⟨fun j t e => ?_, fun j t e => ?_⟩
  · refine h j t ?_
    have lt : j < a.length := by
      rcases Nat.lt_or_ge j a.length with h | h
      · exact h
      · rw [List.getElem?_eq_none h] at e
        cases e
    rw [List.getElem?_append_left lt]
    exact e
  · have z := h (a.length + j) t (by rw [List.getElem?_append_right (by omega), show a.length + j - a.length = j by omega]; exact e)
    rw [Nat.add_assoc]
    exact z
theorem hs_cons (h : p.hs i (x :: b)) : p.tk i (cls x).1 (cls x).2 ∧ p.hs (i + 1) b := ⟨h 0 x rfl, (hs_app (a := [x]) (b := b) h).2⟩
theorem hs_one (h : p.hs i [x]) : p.tk i (cls x).1 (cls x).2 := h 0 x rfl
end
/-- data that are not too deep and not too wide -/
def Wd : Nat → PyData → Prop
  | _, .int _ => True
  | _, .str _ => True
  | n + 1, .tuple ds => ds.length ≤ 1000 ∧ ∀ d ∈ ds, Wd n d
  | _, _ => False
theorem Wd.up : ∀ {n : Nat} {d : PyData}, Wd n d → Wd (n + 1) d
  | _, .int _, _ => by unfold Wd; trivial
  | _, .str _, _ => by unfold Wd; trivial
  | 0, .tuple ds, h => by unfold Wd at h; exact h.elim
  | n + 1, .tuple ds, h => by
    unfold Wd at h ⊢
    exact ⟨h.1, fun d hd => (h.2 d hd).up⟩
  | 0, .none, h => by unfold Wd at h; exact h.elim
  | _ + 1, .none, h => by unfold Wd at h; exact h.elim
  | 0, .bool _, h => by unfold Wd at h; exact h.elim
  | _ + 1, .bool _, h => by unfold Wd at h; exact h.elim
  | 0, .list _, h => by unfold Wd at h; exact h.elim
  | _ + 1, .list _, h => by unfold Wd at h; exact h.elim
  | 0, .dict _, h => by unfold Wd at h; exact h.elim
  | _ + 1, .dict _, h => by unfold Wd at h; exact h.elim
theorem Wd.le {n m : Nat} {d : PyData} (h : Wd n d) (l : n ≤ m) : Wd m d := by
  induction l with
  | refl => exact h
  | step _ ih => exact ih.up
theorem wd_str (n : Nat) (l : List Nat) : Wd n (dS l) := by
  cases n <;> (unfold dS Wd; trivial)
theorem wd_int (n : Nat) (i : Int) : Wd n (.int i) := by
  cases n <;> (unfold Wd; trivial)
theorem wd_tv (n : Nat) (v : Tv) : Wd n (tvD v) := by
  cases v with
  | s l => exact wd_str n l
  | n k => exact wd_int n _
theorem wd_tup {n : Nat} {ds : List PyData} (l : ds.length ≤ 1000) (h : ∀ d ∈ ds, Wd n d) : Wd (n + 1) (dT ds) := by
  unfold dT Wd
  exact ⟨l, h⟩
theorem wd_op {n : Nat} {s : Tv} {t u : PyData} (h1 : Wd n t) (h2 : Wd n u) : Wd (n + 1) (dT [dS wOp, tvD s, t, u]) := wd_tup (Nat.le_of_ble_eq_true rfl) fun d hd => by
  simp only [List.mem_cons, List.not_mem_nil, or_false] at hd
  rcases hd with rfl | rfl | rfl | rfl
  · exact wd_str n _
  · exact wd_tv n _
  · exact h1
  · exact h2
theorem wd_var (v : Tv) (w : List Nat) : Wd 1 (dT [dS w, tvD v]) := wd_tup (Nat.le_of_ble_eq_true rfl) fun d hd => by
  simp only [List.mem_cons, List.not_mem_nil, or_false] at hd
  rcases hd with rfl | rfl
  · exact wd_str 0 _
  · exact wd_tv 0 _
theorem wd_num (i : Int) (w : List Nat) : Wd 1 (dT [dS w, .int i]) := wd_tup (Nat.le_of_ble_eq_true rfl) fun d hd => by
  simp only [List.mem_cons, List.not_mem_nil, or_false] at hd
  rcases hd with rfl | rfl
  · exact wd_str 0 _
  · exact wd_int 0 _
/-! ### what is read of words, wherever they stand -/
def Acc (n : Nat) (f : Ps → Nat → Rs PyData) (ws : List Wrd) : Prop := ∃ d, Wd n d ∧ ∀ p i, p.hs i ws → i + ws.length ≤ 4000 → f p i = .ok d (i + ws.length)
/-- where no operation stands behind -/
def AccO (n : Nat) (f : Ps → Nat → Rs PyData) (ws : List Wrd) : Prop := ∃ d, Wd n d ∧ ∀ p i, p.hs i ws → i + ws.length ≤ 4000 → p.noOp (i + ws.length) → f p i = .ok d (i + ws.length)
theorem Acc.o {n : Nat} {f : Ps → Nat → Rs PyData} {ws : List Wrd} (h : Acc n f ws) : AccO n f ws := by
  obtain ⟨d, h1, h2⟩ := h
  exact ⟨d, h1, fun p i a b _ => h2 p i a b⟩
theorem Acc.le {n m : Nat} {f : Ps → Nat → Rs PyData} {ws : List Wrd} (h : Acc n f ws) (l : n ≤ m) : Acc m f ws := by
  obtain ⟨d, h1, h2⟩ := h
  exact ⟨d, h1.le l, h2⟩
theorem AccO.le {n m : Nat} {f : Ps → Nat → Rs PyData} {ws : List Wrd} (h : AccO n f ws) (l : n ≤ m) : AccO m f ws := by
  obtain ⟨d, h1, h2⟩ := h
  exact ⟨d, h1.le l, h2⟩
theorem noop_sign {p : Ps} {i : Nat} {g : List Nat} (h : p.tk i kSign (.s g)) (n : (seesB kSign (.s g) kSign [gTimes, gDiv] || seesB kSign (.s g) kKey [wMod]) = false) (m : seesB kSign (.s g) kSign [gPlus, gMinus] = false) : p.noOp i := by
  refine ⟨?_, ?_⟩
  · unfold Ps.seesMul
    rw [tk_sees h, tk_sees h]
    exact n
  · unfold Ps.seesAdd
    rw [tk_sees h]
    exact m
theorem Ps.stop.noOp {p : Ps} {i : Nat} (h : p.stop i) : p.noOp i := ⟨h.mul, h.add⟩
/-! values -/
theorem value_neg {p : Ps} {i n : Nat} (h0 : p.tk i kSign (.s gMinus)) (h1 : p.tk (i + 1) kNum (.n n)) (l : i + 1 < 4000) : p.value i = .ok (dT [dS wValue, .int (-(n : Int))]) (i + 2) := by
  unfold Ps.value
  rw [tk_acc h0 (by omega), bind_ok, if_pos rfl, tk_want h1 l]
  rfl
theorem value_quo {p : Ps} {i : Nat} {v : Tv} (h : p.tk i kQuo v) (l : i < 4000) : p.value i = .ok (dT [dS wValue, tvD v]) (i + 1) := by
  unfold Ps.value
  rw [acc_ne h (by decide), bind_ok, if_neg Bool.false_ne_true, if_pos (.inr (tk_kind h)), tk_move h l]
  rfl
theorem piece_value {p : Ps} {i : Nat} {k : List Nat} {v : Tv} {so : Option (Nat → Rs PyData)} (h : p.tk i k v) (n1 : k ≠ kName) (n2 : seesB k v kSign [gOpen] = false) : p.pieceOf so i = p.value i := by
  unfold Ps.pieceOf
  rw [if_neg (by rw [tk_kind h]; exact n1), tk_sees h, if_neg (by rw [n2]; exact Bool.false_ne_true)]
theorem termB_value {p : Ps} {i : Nat} {k : List Nat} {v : Tv} (h : p.tk i k v) (n1 : k ≠ kName) : p.termB i = p.value i := by
  unfold Ps.termB
  rw [if_neg (by rw [tk_kind h]; exact n1)]
theorem term_value {p : Ps} {i : Nat} {b : Bool} {k : List Nat} {v : Tv} (h : p.tk i k v) (n1 : k ≠ kName) (n2 : k ≠ kKey) : p.term b i = p.value i := by
  unfold Ps.term
  cases b with
  | false => exact termB_value h n1
  | true =>
    rw [if_pos rfl, acc_ne h n2, bind_ok, if_neg Bool.false_ne_true, sees_ne h n2, if_neg Bool.false_ne_true]
    exact termB_value h n1
/-! pieces of expressions -/
def wX : Wrd := [120]
def w3 : Wrd := [51]
def w5 : Wrd := [53]
def w7 : Wrd := [55]
def w12 : Wrd := [49,50]
def wBob : Wrd := [39,98,111,98]
def wAnn : Wrd := [39,97,110,110]
def wY1 : Wrd := [121,49]
def EAT : List (List Wrd) := [[wX], [w3], [gMinus, w5], [wBob]]
theorem atom_acc {ws : List Wrd} (h : ws ∈ EAT) (so : Ps → Option (Nat → Rs PyData)) : Acc 1 (fun p => p.pieceOf (so p)) ws := by
  unfold EAT at h
  simp only [List.mem_cons, List.not_mem_nil, or_false] at h
  rcases h with rfl | rfl | rfl | rfl
  · exact ⟨_, wd_var _ _, fun p i h l => piece_var (v := .s wX) (hs_one h) l⟩
  · exact ⟨_, wd_num _ _, fun p i h l => piece_num (n := 3) (hs_one h) l⟩
  · exact ⟨_, wd_num _ _, fun p i h l => (piece_value (hs_cons h).1 (by decide) (by decide)).trans (value_neg (n := 5) (hs_cons h).1 (hs_one (hs_cons h).2) l)⟩
  · exact ⟨_, wd_var _ _, fun p i h l => (piece_value (hs_one h) (by decide) (by decide)).trans (value_quo (v := .s [98,111,98]) (hs_one h) l)⟩
theorem par_acc {n : Nat} {f : Ps → Nat → Rs PyData} {ws : List Wrd} (h : AccO n f ws) : Acc n (fun p => p.pieceOf (some (f p))) (gOpen :: (ws ++ [gClose])) := by
  obtain ⟨d, h1, h2⟩ := h
  refine ⟨d, h1, fun p i a l => ?_⟩
  rw [List.length_cons, List.length_append, List.length_singleton] at l ⊢
  obtain ⟨a1, a2⟩ := hs_cons a
  obtain ⟨a2, a3⟩ := hs_app a2
  have c := hs_one a3
  have z := piece_open (f := f p) (t := d) (j := i + 1 + ws.length) a1 (by omega) (h2 p (i + 1) a2 (by omega) (noop_sign c (by decide) (by decide))) c (by omega)
  rw [show i + (ws.length + 1 + 1) = i + 1 + ws.length + 1 by omega]
  exact z
/-! rows of operations -/
structure Pc where
  s : Wrd
  P : List Wrd
def flat : List Pc → List Wrd
  | [] => []
  | x :: r => x.s :: (x.P ++ flat r)
theorem flat_app : ∀ a b, flat (a ++ b) = flat a ++ flat b
  | [], b => rfl
  | x :: a, b => by
    show x.s :: (x.P ++ flat (a ++ b)) = x.s :: (x.P ++ flat a) ++ flat b
    rw [flat_app a b, List.cons_append, List.append_assoc]
def OPS : List Wrd := ADDS ++ MULS
theorem ops_cls : ∀ s ∈ OPS, cls s = (sgK s, .s s) := by decide
theorem muls_mem : ∀ s ∈ MULS, s ∈ OPS := by decide
theorem adds_mem : ∀ s ∈ ADDS, s ∈ OPS := by decide
theorem mul_acc {so : Ps → Option (Nat → Rs PyData)} {m : Nat} : ∀ (l : List Pc) (t : PyData) (b n : Nat), m ≤ b → Wd b t → (∀ x ∈ l, x.s ∈ MULS ∧ Acc m (fun p => p.pieceOf (so p)) x.P) →
    ∃ t', Wd (b + l.length) t' ∧ ∀ (p : Ps) i, p.hs i (flat l) → i + (flat l).length ≤ 4000 → p.opRow p.seesMul (p.pieceOf (so p)) (n + l.length) t i = p.opRow p.seesMul (p.pieceOf (so p)) n t' (i + (flat l).length)
  | [], t, b, n, _, ht, _ => ⟨t, ht, fun _ _ _ _ => rfl⟩
  | x :: r, t, b, n, hb, ht, h => by
    obtain ⟨h1, u, hu, h2⟩ := h x (List.mem_cons_self ..)
    obtain ⟨t', k1, k2⟩ := mul_acc r (dT [dS wOp, tvD (.s x.s), t, u]) (b + 1) n (by omega) (wd_op ht (hu.le hb)) (fun y hy => h y (List.mem_cons_of_mem _ hy))
    refine ⟨t', by rw [List.length_cons, show b + (r.length + 1) = b + 1 + r.length by omega]; exact k1, fun p i a l => ?_⟩
    have ef : flat (x :: r) = x.s :: (x.P ++ flat r) := rfl
    rw [ef] at a l ⊢
    rw [List.length_cons, List.length_append] at l
    obtain ⟨a1, a2⟩ := hs_cons a
    obtain ⟨a2, a3⟩ := hs_app a2
    rw [ops_cls _ (muls_mem _ h1)] at a1
    rw [List.length_cons, show n + (r.length + 1) = (n + r.length) + 1 by omega, opRow_step a1 (mul_sees h1 a1) (by omega) (h2 p (i + 1) a2 (by omega)), k2 p _ a3 (by omega), List.length_cons, List.length_append]
    congr 1
    omega
theorem prod_acc {so : Ps → Option (Nat → Rs PyData)} {m : Nat} {P0 : List Wrd} {l : List Pc} (h0 : Acc m (fun p => p.pieceOf (so p)) P0) (h : ∀ x ∈ l, x.s ∈ MULS ∧ Acc m (fun p => p.pieceOf (so p)) x.P) (hl : l.length ≤ 12) :
    ∃ t', Wd (m + l.length) t' ∧ ∀ (p : Ps) i, p.hs i (P0 ++ flat l) → i + (P0 ++ flat l).length ≤ 4000 → p.seesMul (i + (P0 ++ flat l).length) = false → p.productOf (so p) i = .ok t' (i + (P0 ++ flat l).length) := by
  obtain ⟨t, ht, h1⟩ := h0
  obtain ⟨t', k1, k2⟩ := mul_acc l t m (12 - l.length) (Nat.le_refl _) ht h
  refine ⟨t', k1, fun p i a le s => ?_⟩
  obtain ⟨a1, a2⟩ := hs_app a
  rw [List.length_append] at le s ⊢
  unfold Ps.productOf
  have e1 : p.pieceOf (so p) i = _ := h1 p i a1 (by omega)
  have e2 := k2 p _ a2 (by omega)
  rw [show 12 - l.length + l.length = 12 by omega] at e2
  rw [e1, bind_ok, e2, opRow_stop (by rw [Nat.add_assoc]; exact s), Nat.add_assoc]
/-- l, cut ahead of its first sum -/
theorem cut_mul : ∀ l : List Pc, (∀ x ∈ l, x.s ∈ OPS) → ∃ l1 l2, l = l1 ++ l2 ∧ (∀ x ∈ l1, x.s ∈ MULS) ∧ (l2 = [] ∨ ∃ x r, l2 = x :: r ∧ x.s ∈ ADDS)
  | [], _ => ⟨[], [], rfl, (fun x hx => by cases hx), .inl rfl⟩
  | x :: r, h => by
    have hx := h x (List.mem_cons_self ..)
    rcases List.mem_append.mp hx with hx | hx
    · exact ⟨[], x :: r, rfl, (fun x hx => by cases hx), .inr ⟨x, r, rfl, hx⟩⟩
    · obtain ⟨l1, l2, rfl, h1, h2⟩ := cut_mul r (fun y hy => h y (List.mem_cons_of_mem _ hy))
      refine ⟨x :: l1, l2, rfl, fun y hy => ?_, h2⟩
      rcases List.mem_cons.mp hy with rfl | hy
      · exact hx
      · exact h1 y hy
theorem sees_after {p : Ps} {i : Nat} {l2 : List Pc} (h : l2 = [] ∨ ∃ x r, l2 = x :: r ∧ x.s ∈ ADDS) (a : p.hs i (flat l2)) (e : l2 = [] → p.seesMul i = false) : p.seesMul i = false := by
  rcases h with rfl | ⟨x, r, rfl, hx⟩
  · exact e rfl
  · have a1 := (hs_cons (show p.hs i (x.s :: (x.P ++ flat r)) from a)).1
    rw [ops_cls _ (adds_mem _ hx)] at a1
    exact (add_sees hx a1).2
theorem add_acc {so : Ps → Option (Nat → Rs PyData)} {m : Nat} : ∀ (N : Nat) (l : List Pc) (t : PyData) (b n : Nat), l.length ≤ N → l.length ≤ n → n ≤ 12 → m + l.length ≤ b → Wd b t → (∀ x ∈ l, x.s ∈ OPS ∧ Acc m (fun p => p.pieceOf (so p)) x.P) → (l = [] ∨ ∃ x r, l = x :: r ∧ x.s ∈ ADDS) →
    ∃ t', Wd (b + l.length) t' ∧ ∀ (p : Ps) i, p.hs i (flat l) → i + (flat l).length ≤ 4000 → p.noOp (i + (flat l).length) → p.opRow p.seesAdd (p.productOf (so p)) n t i = .ok t' (i + (flat l).length)
  | _, [], t, b, n, _, _, _, _, ht, _, _ => ⟨t, ht, fun p i _ _ s => opRow_stop s.add n⟩
  | 0, x :: r, _, _, _, hN, _, _, _, _, _, _ => absurd hN (Nat.not_succ_le_zero _)
  | N + 1, x :: r, t, b, n, hN, hn, h12, hb, ht, h, hd => by
    have hxs : x.s ∈ ADDS := by
      rcases hd with hd | ⟨y, q, hd, hy⟩
      · cases hd
      · cases hd
        exact hy
    obtain ⟨l1, l2, rfl, g1, g2⟩ := cut_mul r (fun y hy => (h y (List.mem_cons_of_mem _ hy)).1)
    rw [List.length_cons, List.length_append] at hN hn hb
    obtain ⟨u, hu, k2⟩ := prod_acc (h x (List.mem_cons_self ..)).2 (fun y hy => ⟨g1 y hy, (h y (List.mem_cons_of_mem _ (List.mem_append_left _ hy))).2⟩) (l := l1) (by omega)
    obtain ⟨n, rfl⟩ : ∃ k, n = k + 1 := ⟨n - 1, by omega⟩
    obtain ⟨t', q1, q2⟩ := add_acc N l2 (dT [dS wOp, tvD (.s x.s), t, u]) (b + 1) n (by omega) (by omega) (by omega) (by omega) (wd_op ht (hu.le (by omega))) (fun y hy => h y (List.mem_cons_of_mem _ (List.mem_append_right _ hy))) g2
    refine ⟨t', by rw [List.length_cons, List.length_append]; exact q1.le (by omega), fun p i a l s => ?_⟩
    have ef : flat (x :: (l1 ++ l2)) = x.s :: ((x.P ++ flat l1) ++ flat l2) := by
      show x.s :: (x.P ++ flat (l1 ++ l2)) = _
      rw [flat_app, List.append_assoc]
    rw [ef] at a l s ⊢
    obtain ⟨a1, a2⟩ := hs_cons a
    obtain ⟨a2, a3⟩ := hs_app a2
    rw [ops_cls _ (adds_mem _ hxs)] at a1
    rw [List.length_cons, List.length_append] at l s ⊢
    have eq : i + ((x.P ++ flat l1).length + (flat l2).length + 1) = i + 1 + (x.P ++ flat l1).length + (flat l2).length := by omega
    rw [eq] at s ⊢
    have sm := sees_after g2 a3 (fun z => by subst z; have := s.mul; exact this)
    rw [opRow_step a1 (add_sees hxs a1).1 (by omega) (k2 p (i + 1) a2 (by omega) sm), q2 p _ a3 (by omega) s]
theorem sums_acc {so : Ps → Option (Nat → Rs PyData)} {m : Nat} {P0 : List Wrd} {l : List Pc} (h0 : Acc m (fun p => p.pieceOf (so p)) P0) (h : ∀ x ∈ l, x.s ∈ OPS ∧ Acc m (fun p => p.pieceOf (so p)) x.P) (hl : l.length ≤ 12) : AccO (m + l.length + l.length) (fun p => p.sumsOf (so p)) (P0 ++ flat l) := by
  obtain ⟨l1, l2, rfl, g1, g2⟩ := cut_mul l (fun y hy => (h y hy).1)
  rw [List.length_append] at hl ⊢
  obtain ⟨u, hu, k2⟩ := prod_acc h0 (fun y hy => ⟨g1 y hy, (h y (List.mem_append_left _ hy)).2⟩) (l := l1) (by omega)
  obtain ⟨t', q1, q2⟩ := add_acc l2.length l2 u (m + (l1.length + l2.length)) 12 (Nat.le_refl _) (by omega) (Nat.le_refl _) (by omega) (hu.le (by omega)) (fun y hy => h y (List.mem_append_right _ hy)) g2
  refine ⟨t', q1.le (by omega), fun p i a le s => ?_⟩
  have ef : P0 ++ flat (l1 ++ l2) = (P0 ++ flat l1) ++ flat l2 := by rw [flat_app, List.append_assoc]
  rw [ef] at a le s ⊢
  obtain ⟨a2, a3⟩ := hs_app a
  rw [List.length_append] at le s ⊢
  have eq : i + ((P0 ++ flat l1).length + (flat l2).length) = i + (P0 ++ flat l1).length + (flat l2).length := by omega
  rw [eq] at s ⊢
  have sm := sees_after g2 a3 (fun z => by subst z; have := s.mul; exact this)
  show Rs.bind (p.productOf (so p) i) _ = _
  rw [k2 p i a2 (by omega) sm, bind_ok, q2 p _ a3 (by omega) s]
/-! ### drawn expressions -/
inductive ExprW : Nat → List Wrd → Prop
  | atom {d : Nat} {ws : List Wrd} : ws ∈ EAT → ExprW d ws
  | par {d : Nat} {ws : List Wrd} : ExprW d ws → ExprW (d + 1) (gOpen :: (ws ++ [gClose]))
  | op {d : Nat} {a b : List Wrd} {s : Wrd} : ExprW d a → ExprW d b → s ∈ OPS → ExprW (d + 1) (a ++ s :: b)
def PieceW (d : Nat) (P : List Wrd) : Prop := P ∈ EAT ∨ ∃ e ws, e < d ∧ ExprW e ws ∧ P = gOpen :: (ws ++ [gClose])
theorem PieceW.up {d : Nat} {P : List Wrd} (h : PieceW d P) : PieceW (d + 1) P := by
  rcases h with h | ⟨e, ws, h1, h2, h3⟩
  · exact .inl h
  · exact .inr ⟨e, ws, by omega, h2, h3⟩
theorem expr_flat {d : Nat} {ws : List Wrd} (h : ExprW d ws) : ∃ P0 l, ws = P0 ++ flat l ∧ l.length + 1 ≤ 2 ^ d ∧ PieceW d P0 ∧ ∀ x ∈ l, x.s ∈ OPS ∧ PieceW d x.P := by
  induction h with
  | @atom d ws h => exact ⟨ws, [], by simp [flat], Nat.one_le_two_pow, .inl h, fun x hx => by cases hx⟩
  | @par d ws h _ => exact ⟨_, [], (List.append_nil _).symm, Nat.one_le_two_pow, .inr ⟨d, ws, by omega, h, rfl⟩, fun x hx => by cases hx⟩
  | @op d a b s _ _ hs iha ihb =>
    obtain ⟨P0, l, rfl, la, p1, q1⟩ := iha
    obtain ⟨Q0, l', rfl, lb, p2, q2⟩ := ihb
    refine ⟨P0, l ++ ⟨s, Q0⟩ :: l', ?_, ?_, p1.up, fun x hx => ?_⟩
    · rw [flat_app, List.append_assoc]
      rfl
    · rw [List.length_append, List.length_cons, Nat.pow_succ]
      omega
    · rcases List.mem_append.mp hx with hx | hx
      · exact ⟨(q1 x hx).1, (q1 x hx).2.up⟩
      · rcases List.mem_cons.mp hx with rfl | hx
        · exact ⟨hs, p2.up⟩
        · exact ⟨(q2 x hx).1, (q2 x hx).2.up⟩
def soK (k : Nat) (p : Ps) : Option (Nat → Rs PyData) := match k with
  | 0 => none
  | k + 1 => some (p.sums k)
theorem sums_so (p : Ps) (k : Nat) : p.sums k = p.sumsOf (soK k p) := by
  cases k <;> rfl
theorem expr_acc : ∀ (d k : Nat) (ws : List Wrd), d ≤ k → d ≤ 2 → ExprW d ws → AccO (6 * d + 1) (fun p => p.sums k) ws
  | d, k, ws, hk, h2, h => by
    obtain ⟨P0, l, rfl, hl, hp, hq⟩ := expr_flat h
    have l3 : l.length ≤ 3 := by
      have : 2 ^ d ≤ 2 ^ 2 := Nat.pow_le_pow_right (by omega) h2
      omega
    have l0 : d = 0 → l.length = 0 := fun z => by subst z; omega
    have pc : ∀ P, PieceW d P → Acc (6 * (d - 1) + 1) (fun p => p.pieceOf (soK k p)) P := fun P hP => by
      rcases hP with hP | ⟨e, ws, he, hw, rfl⟩
      · exact (atom_acc hP (soK k)).le (by omega)
      · obtain ⟨k, rfl⟩ : ∃ j, k = j + 1 := ⟨k - 1, by omega⟩
        exact (par_acc (expr_acc e k ws (by omega) (by omega) hw)).le (by omega)
    have z := sums_acc (pc P0 hp) (fun x hx => ⟨(hq x hx).1, pc x.P (hq x hx).2⟩) (by omega)
    have e : (fun p : Ps => p.sums k) = fun p => p.sumsOf (soK k p) := funext fun p => sums_so p k
    rw [e]
    refine z.le ?_
    cases d with
    | zero => rw [l0 rfl]; omega
    | succ d => omega
  termination_by d => d
end K9
set_option Elab.async false
set_option maxRecDepth 100000
namespace K9
open PySem
/-! ### rows with commas -/
def commas : List (List Wrd) → List Wrd
  | [] => []
  | [P] => P
  | P :: Q :: r => P ++ gComma :: commas (Q :: r)
def tailW (r : List (List Wrd)) : List Wrd := r.flatMap fun P => gComma :: P
theorem commas_cons (P : List Wrd) : ∀ r, commas (P :: r) = P ++ tailW r
  | [] => by
    show P = P ++ []
    rw [List.append_nil]
  | Q :: r => by
    show P ++ gComma :: commas (Q :: r) = P ++ (gComma :: Q ++ tailW r)
    rw [commas_cons Q r]
    rfl
theorem commas_snoc (l : List (List Wrd)) (P : List Wrd) : commas (l ++ [P]) = commas l ++ (if l = [] then [] else [gComma]) ++ P := by
  cases l with
  | nil => rfl
  | cons Q r =>
    rw [List.cons_append, commas_cons, commas_cons, if_neg (by simp)]
    unfold tailW
    rw [List.flatMap_append]
    simp
def rowW (parts : List (List Wrd)) : List Wrd := gOpen :: (commas parts ++ [gClose])
theorem comma_noop {p : Ps} {i : Nat} (h : p.tk i kSign (.s gComma)) : p.noOp i := noop_sign h (by decide) (by decide)
theorem more_acc {most m : Nat} {el : Ps → Nat → Rs PyData} : ∀ (r : List (List Wrd)) (n : Nat) (acc : List PyData), r.length ≤ n → acc.length + r.length ≤ most → (∀ P ∈ r, AccO m el P) →
    ∃ ds, ds.length = r.length ∧ (∀ d ∈ ds, Wd m d) ∧ ∀ (p : Ps) i, p.hs i (tailW r) → i + (tailW r).length ≤ 4000 → p.noOp (i + (tailW r).length) → p.sees (i + (tailW r).length) kSign [gComma] = false →
      p.more most (el p) n acc i = .ok (acc ++ ds) (i + (tailW r).length)
  | [], n, acc, _, _, _ => ⟨[], rfl, (fun d hd => by cases hd), fun p i _ _ _ s => by
      have s : p.sees i kSign [gComma] = false := s
      rw [List.append_nil]
      cases n with
      | zero =>
        unfold Ps.more
        rw [no_next s]
        rfl
      | succ n =>
        unfold Ps.more
        rw [no_next s]
        rfl⟩
  | P :: r, n, acc, hn, hm, h => by
    rw [List.length_cons] at hn hm
    obtain ⟨n, rfl⟩ : ∃ k, n = k + 1 := ⟨n - 1, by omega⟩
    obtain ⟨d, hd, h1⟩ := h P (List.mem_cons_self ..)
    obtain ⟨ds, k1, k2, k3⟩ := more_acc (most := most) r n (acc ++ [d]) (by omega) (by rw [List.length_append, List.length_singleton]; omega) (fun Q hQ => h Q (List.mem_cons_of_mem _ hQ))
    refine ⟨d :: ds, by rw [List.length_cons, k1, List.length_cons], fun e he => ?_, fun p i a l o s => ?_⟩
    · rcases List.mem_cons.mp he with rfl | he
      · exact hd
      · exact k2 e he
    · have et : tailW (P :: r) = gComma :: (P ++ tailW r) := rfl
      rw [et] at a l o s ⊢
      obtain ⟨a1, a2⟩ := hs_cons a
      obtain ⟨a2, a3⟩ := hs_app a2
      rw [List.length_cons, List.length_append] at l o s ⊢
      have eq : i + (P.length + (tailW r).length + 1) = i + 1 + P.length + (tailW r).length := by omega
      rw [eq] at l o s ⊢
      have o1 : p.noOp (i + 1 + P.length) := by
        cases r with
        | nil => exact o
        | cons Q r => exact comma_noop (hs_cons (show p.hs _ (gComma :: (Q ++ tailW r)) from a3)).1
      unfold Ps.more
      rw [tk_next (show p.tk i kSign (.s gComma) from a1) (by omega) (by omega), bind_ok, if_pos rfl, h1 p (i + 1) a2 (by omega) o1, bind_ok, k3 p _ a3 (by omega) o s, List.append_assoc]
      rfl
/-- what does not begin with a closing parenthesis -/
def Opens (P : List Wrd) : Prop := ∃ x r, P = x :: r ∧ seesB (cls x).1 (cls x).2 kSign [gClose] = false
theorem row_acc {m : Nat} {el : Ps → Nat → Rs PyData} (parts : List (List Wrd)) (h : ∀ P ∈ parts, AccO m el P ∧ Opens P) (h6 : parts.length ≤ 6) :
    ∃ ds, ds.length = parts.length ∧ (∀ d ∈ ds, Wd m d) ∧ ∀ (p : Ps) i, p.hs i (rowW parts) → i + (rowW parts).length ≤ 4000 → p.row (el p) i = .ok ds (i + (rowW parts).length) := by
  cases parts with
  | nil => exact ⟨[], rfl, (fun d hd => by cases hd), fun p i a l => row0 (hs_cons a).1 (hs_one (hs_cons a).2) l⟩
  | cons P r =>
    obtain ⟨⟨d, hd, h1⟩, x, q, rfl, hx⟩ := h P (List.mem_cons_self ..)
    rw [List.length_cons] at h6
    obtain ⟨ds, k1, k2, k3⟩ := more_acc (most := 6) r 5 [d] (by omega) (by show 1 + _ ≤ 6; omega) (fun Q hQ => (h Q (List.mem_cons_of_mem _ hQ)).1)
    refine ⟨d :: ds, by rw [List.length_cons, k1, List.length_cons], fun e he => ?_, fun p i a l => ?_⟩
    · rcases List.mem_cons.mp he with rfl | he
      · exact hd
      · exact k2 e he
    · have er : rowW ((x :: q) :: r) = gOpen :: ((x :: q) ++ (tailW r ++ [gClose])) := by
        unfold rowW
        rw [commas_cons, List.append_assoc]
      rw [er] at a l ⊢
      obtain ⟨a1, a2⟩ := hs_cons a
      have a0 := (hs_cons a2).1
      obtain ⟨a2, a3⟩ := hs_app a2
      obtain ⟨a3, a4⟩ := hs_app a3
      have c := hs_one a4
      rw [List.length_cons, List.length_append, List.length_append, List.length_singleton] at l ⊢
      have oc := noop_sign (show p.tk (i + 1 + (x :: q).length + (tailW r).length) kSign (.s gClose) from c) (by decide) (by decide)
      have sc : p.sees (i + 1 + (x :: q).length + (tailW r).length) kSign [gComma] = false := by
        rw [tk_sees (show p.tk (i + 1 + (x :: q).length + (tailW r).length) kSign (.s gClose) from c)]
        decide
      have o1 : p.noOp (i + 1 + (x :: q).length) := by
        cases r with
        | nil => exact oc
        | cons Q r => exact comma_noop (hs_cons (show p.hs _ (gComma :: (Q ++ tailW r)) from a3)).1
      have s1 : p.sees (i + 1) kSign [gClose] = false := by
        rw [tk_sees a0]
        exact hx
      unfold Ps.row
      rw [tk_sign (show p.tk i kSign (.s gOpen) from a1) (by omega), bind_ok, s1, if_neg Bool.false_ne_true, h1 p (i + 1) a2 (by omega) o1, bind_ok, k3 p _ a3 (by omega) oc sc, bind_ok, tk_sign (show p.tk _ kSign (.s gClose) from c) (by omega), bind_ok]
      show Rs.ok (d :: ds) _ = _
      congr 1
      omega
/-! ### terms -/
def wCnt : List Wrd := [wCount]
def wSumX : List Wrd := [wSum, wX]
def wLeY : List Wrd := [wLeast, wY1]
def TERMS : List (List Wrd) := [[wX], [w7], [gMinus, w12], [wAnn], [wY1]]
def HTERMS : List (List Wrd) := [[wCount], [wSum, wX], [wLeast, wY1]]
theorem opens_terms : ∀ P ∈ TERMS ++ HTERMS, Opens P := by
  have key : ∀ P ∈ TERMS ++ HTERMS, seesB (cls (P.headD [])).1 (cls (P.headD [])).2 kSign [gClose] = false ∧ P ≠ [] := by decide
  intro P hP
  obtain ⟨h1, h2⟩ := key P hP
  cases P with
  | nil => exact absurd rfl h2
  | cons x r => exact ⟨x, r, rfl, h1⟩
theorem term_acc {ws : List Wrd} (b : Bool) (h : ws ∈ TERMS) : Acc 1 (fun p => p.term b) ws := by
  unfold TERMS at h
  simp only [List.mem_cons, List.not_mem_nil, or_false] at h
  rcases h with rfl | rfl | rfl | rfl | rfl
  · exact ⟨_, wd_var _ _, fun p i h l => term_var (v := .s wX) (hs_one h) l⟩
  · exact ⟨_, wd_num _ _, fun p i h l => term_num (n := 7) (hs_one h) l⟩
  · exact ⟨_, wd_num _ _, fun p i h l => (term_value (hs_cons h).1 (by decide) (by decide)).trans (value_neg (n := 12) (hs_cons h).1 (hs_one (hs_cons h).2) l)⟩
  · exact ⟨_, wd_var _ _, fun p i h l => (term_value (hs_one h) (by decide) (by decide)).trans (value_quo (v := .s [97,110,110]) (hs_one h) l)⟩
  · exact ⟨_, wd_var _ _, fun p i h l => term_var (v := .s wY1) (hs_one h) l⟩
theorem hterm_acc {ws : List Wrd} (h : ws ∈ TERMS ++ HTERMS) : Acc 1 (fun p => p.term true) ws := by
  rcases List.mem_append.mp h with h | h
  · exact term_acc true h
  · unfold HTERMS at h
    simp only [List.mem_cons, List.not_mem_nil, or_false] at h
    have two : ∀ {p : Ps} {i : Nat} {w x : Wrd}, p.tk i kKey (.s w) → p.tk (i + 1) kName (.s x) → seesB kKey (.s w) kKey [wCount] = false → seesB kKey (.s w) kKey [wSum, wLeast, wMost] = true → i + 1 < 4000 → p.term true i = .ok (dT [dS w, dS x]) (i + 2) := fun h0 h1 e1 e2 l => by
      unfold Ps.term
      rw [if_pos rfl, tk_no h0 e1, bind_ok, if_neg Bool.false_ne_true, tk_sees h0, if_pos e2, tk_move h0 (by omega), bind_ok, tk_want h1 l]
      rfl
    rcases h with rfl | rfl | rfl
    · refine ⟨dT [dS wCount], wd_tup (Nat.le_of_ble_eq_true rfl) (fun d hd => by rw [List.mem_singleton.mp hd]; exact wd_str 0 _), fun p i h l => ?_⟩
      show p.term true i = _
      unfold Ps.term
      rw [if_pos rfl, tk_acc (show p.tk i kKey (.s wCount) from hs_one h) l]
      rfl
    · exact ⟨_, wd_var (.s wX) wSum, fun p i h l => two (hs_cons h).1 (hs_one (hs_cons h).2) (by decide) (by decide) l⟩
    · exact ⟨_, wd_var (.s wY1) wLeast, fun p i h l => two (hs_cons h).1 (hs_one (hs_cons h).2) (by decide) (by decide) l⟩
theorem terms_acc {b : Bool} (parts : List (List Wrd)) (h : ∀ P ∈ parts, P ∈ TERMS ∨ (b = true ∧ P ∈ HTERMS)) (h6 : parts.length ≤ 6) : Acc 2 (fun p => p.terms b) (rowW parts) := by
  obtain ⟨ds, k1, k2, k3⟩ := row_acc (m := 1) (el := fun p => p.term b) parts (fun P hP => by
    rcases h P hP with hq | ⟨hb, hq⟩
    · exact ⟨(term_acc b hq).o, opens_terms P (List.mem_append_left _ hq)⟩
    · subst hb
      exact ⟨(hterm_acc (List.mem_append_right _ hq)).o, opens_terms P (List.mem_append_right _ hq)⟩) h6
  refine ⟨dT ds, wd_tup (by omega) k2, fun p i a l => ?_⟩
  show (p.row (p.term b) i).bind _ = _
  rw [k3 p i a l]
  rfl
/-! ### parts, bodies, rules -/
def wK0 : Wrd := [107,48]
def wEdge : Wrd := [101,100,103,101]
def wA39b : Wrd := List.replicate 39 97 ++ [98]
def wA39c : Wrd := List.replicate 39 97 ++ [99]
def wPath : Wrd := [112,97,116,104,95,50]
def NAMES : List Wrd := [wK0, wEdge, wA39b, wA39c, wPath, wX]
def wZ : Wrd := [122]
def wBad0 : Wrd := [98,97,100,48]
def CMPS : List Wrd := [gLt, gLe, gEq]
theorem names_cls : ∀ n ∈ NAMES, cls n = (kName, .s n) := by decide +kernel
theorem cmps_cls : ∀ s ∈ CMPS, cls s = (kSign, .s s) ∧ seesB kSign (.s s) kSign [gLt, gLe, gEq] = true ∧ (seesB kSign (.s s) kSign [gTimes, gDiv] || seesB kSign (.s s) kKey [wMod]) = false ∧ seesB kSign (.s s) kSign [gPlus, gMinus] = false := by decide
inductive PartW : List Wrd → Prop
  | fact {n : Wrd} {ts : List (List Wrd)} : n ∈ NAMES → (∀ P ∈ ts, P ∈ TERMS) → ts.length ≤ 3 → PartW (n :: rowW ts)
  | not {n : Wrd} {ts : List (List Wrd)} : n ∈ NAMES → (∀ P ∈ ts, P ∈ TERMS) → ts.length ≤ 3 → PartW (wNot :: n :: rowW ts)
  | lete {e : List Wrd} : ExprW 2 e → PartW (wLet :: wZ :: gEq :: e)
  | test {a b : List Wrd} {s : Wrd} : ExprW 2 a → ExprW 1 b → s ∈ CMPS → PartW (a ++ s :: b)
/-- how an expression begins: no keyword; a name is not followed by a parenthesis -/
theorem expr_head {d : Nat} {ws : List Wrd} (h : ExprW d ws) : ∃ x r, ws = x :: r ∧ (cls x).1 ≠ kKey ∧ ((cls x).1 = kName → ∀ y q, r = y :: q → (cls y).2 ≠ .s gOpen) := by
  induction h with
  | atom h =>
    unfold EAT at h
    simp only [List.mem_cons, List.not_mem_nil, or_false] at h
    rcases h with rfl | rfl | rfl | rfl
    · exact ⟨_, _, rfl, by decide, fun _ y q e => by cases e⟩
    · exact ⟨_, _, rfl, by decide, fun _ y q e => by cases e⟩
    · exact ⟨_, _, rfl, by decide, fun z => absurd z (by decide)⟩
    · exact ⟨_, _, rfl, by decide, fun z => absurd z (by decide)⟩
  | par h _ => exact ⟨_, _, rfl, by decide, fun z => absurd z (by decide)⟩
  | @op d a b s _ _ hs iha _ =>
    obtain ⟨x, r, rfl, h1, h2⟩ := iha
    refine ⟨x, r ++ s :: b, rfl, h1, fun z y q e => ?_⟩
    cases r with
    | nil =>
      cases e
      rw [ops_cls s hs]
      exact (by decide : ∀ s ∈ OPS, Tv.s s ≠ .s gOpen) s hs
    | cons y' q' =>
      cases e
      exact h2 z _ _ rfl
theorem part_of_fact {p : Ps} {i j : Nat} {v : Tv} {d : PyData} (h0 : p.tk i kKey (.s wNot)) (h1 : p.tk (i + 1) kName v) (l : i + 1 < 4000) (ht : p.terms false (i + 2) = .ok d j) : p.part i = .ok (dT [dS wNot, tvD v, d]) j := by
  unfold Ps.part
  rw [tk_acc h0 (by omega), bind_ok, if_pos rfl, tk_want h1 l, bind_ok]
  show Rs.bind (p.terms false (i + 2)) _ = _
  rw [ht]
  rfl
theorem part_to_test {p : Ps} {i : Nat} {k : List Nat} {v : Tv} (h : p.tk i k v) (n : k ≠ kKey) (c : ¬ (p.kind i = kName ∧ (p.ts[i + 1]?).map (·.2.1) = some (.s gOpen))) : p.part i = p.test i := by
  unfold Ps.part
  rw [acc_ne h n, bind_ok, if_neg Bool.false_ne_true, acc_ne h n, bind_ok, if_neg Bool.false_ne_true, if_neg c]
theorem wd_three {n : Nat} {a b c : PyData} (h1 : Wd n a) (h2 : Wd n b) (h3 : Wd n c) : Wd (n + 1) (dT [a, b, c]) := wd_tup (Nat.le_of_ble_eq_true rfl) fun d hd => by
  simp only [List.mem_cons, List.not_mem_nil, or_false] at hd
  rcases hd with rfl | rfl | rfl
  · exact h1
  · exact h2
  · exact h3
theorem wd_four {n : Nat} {a b c e : PyData} (h1 : Wd n a) (h2 : Wd n b) (h3 : Wd n c) (h4 : Wd n e) : Wd (n + 1) (dT [a, b, c, e]) := wd_tup (Nat.le_of_ble_eq_true rfl) fun d hd => by
  simp only [List.mem_cons, List.not_mem_nil, or_false] at hd
  rcases hd with rfl | rfl | rfl | rfl
  · exact h1
  · exact h2
  · exact h3
  · exact h4
theorem part_acc {ws : List Wrd} (h : PartW ws) : AccO 14 Ps.part ws := by
  cases h with
  | @fact n ts hn ht hl =>
    obtain ⟨d, hd, h1⟩ := terms_acc (b := false) ts (fun P hP => .inl (ht P hP)) (by omega)
    refine ⟨dT [dS wFact, dS n, d], (wd_three (wd_str 2 _) (wd_str 2 _) hd).le (by omega), fun p i a l _ => ?_⟩
    rw [List.length_cons] at l ⊢
    obtain ⟨a1, a2⟩ := hs_cons a
    rw [names_cls n hn] at a1
    have z := h1 p (i + 1) a2 (by omega)
    have z2 := part_fact a1 (show p.tk (i + 1) kSign (.s gOpen) from (hs_cons (show p.hs (i + 1) (gOpen :: (commas ts ++ [gClose])) from a2)).1) (by omega) z
    rw [show i + ((rowW ts).length + 1) = i + 1 + (rowW ts).length by omega]
    exact z2
  | @not n ts hn ht hl =>
    obtain ⟨d, hd, h1⟩ := terms_acc (b := false) ts (fun P hP => .inl (ht P hP)) (by omega)
    refine ⟨dT [dS wNot, dS n, d], (wd_three (wd_str 2 _) (wd_str 2 _) hd).le (by omega), fun p i a l _ => ?_⟩
    rw [List.length_cons, List.length_cons] at l ⊢
    obtain ⟨a1, a2⟩ := hs_cons a
    obtain ⟨a2, a3⟩ := hs_cons a2
    rw [names_cls n hn] at a2
    have z := h1 p (i + 1 + 1) a3 (by omega)
    have z2 := part_of_fact a1 a2 (by omega) z
    rw [show i + ((rowW ts).length + 1 + 1) = i + 1 + 1 + (rowW ts).length by omega]
    exact z2
  | @lete e he =>
    obtain ⟨d, hd, h1⟩ := expr_acc 2 20 e (by decide) (by decide) he
    refine ⟨dT [dS wLet, dS wZ, d], (wd_three (wd_str 13 _) (wd_str 13 _) hd).le (by omega), fun p i a l o => ?_⟩
    rw [List.length_cons, List.length_cons, List.length_cons] at l o ⊢
    obtain ⟨a1, a2⟩ := hs_cons a
    obtain ⟨a2, a3⟩ := hs_cons a2
    obtain ⟨a3, a4⟩ := hs_cons a3
    have eq : i + (e.length + 1 + 1 + 1) = i + 3 + e.length := by omega
    rw [eq] at o l ⊢
    have z : p.sums 20 (i + 3) = _ := h1 p (i + 3) a4 (by omega) o
    rw [part_let a1 (show p.tk (i + 1) kName (.s wZ) from a2) a3 (by omega), z]
    rfl
  | @test x y s hx hy hs =>
    obtain ⟨d, hd, h1⟩ := expr_acc 2 20 x (by decide) (by decide) hx
    obtain ⟨e, he, h2⟩ := expr_acc 1 20 y (by decide) (by decide) hy
    obtain ⟨c1, c2, c3, c4⟩ := cmps_cls s hs
    refine ⟨dT [dS wTest, dS s, d, e], (wd_four (wd_str 13 _) (wd_str 13 _) hd (he.le (by omega))).le (by omega), fun p i a l o => ?_⟩
    rw [List.length_append, List.length_cons] at l o ⊢
    obtain ⟨a1, a2⟩ := hs_app a
    obtain ⟨a2, a3⟩ := hs_cons a2
    rw [c1] at a2
    have eq : i + (x.length + (y.length + 1)) = i + x.length + 1 + y.length := by omega
    rw [eq] at o l ⊢
    have z1 : p.sums 20 i = _ := h1 p i a1 (by omega) (noop_sign a2 c3 c4)
    have z2 : p.sums 20 (i + x.length + 1) = _ := h2 p _ a3 (by omega) o
    obtain ⟨w, r, ew, k1, k2⟩ := expr_head hx
    have aw : p.tk i (cls w).1 (cls w).2 := a1 0 w (by rw [ew]; rfl)
    have nt : ¬ (p.kind i = kName ∧ (p.ts[i + 1]?).map (·.2.1) = some (.s gOpen)) := fun z => by
      rw [tk_kind aw] at z
      obtain ⟨zn, zo⟩ := z
      have nx : ∃ y' q, (r ++ s :: y) = y' :: q := by
        cases r with
        | nil => exact ⟨_, _, rfl⟩
        | cons y' q => exact ⟨_, _, rfl⟩
      obtain ⟨y', q, eyq⟩ := nx
      have ay : p.tk (i + 1) (cls y').1 (cls y').2 := a 1 y' (by rw [ew, List.cons_append, eyq]; rfl)
      obtain ⟨pq, e1⟩ := ay
      rw [e1] at zo
      have zo' : (cls y').2 = .s gOpen := Option.some.inj zo
      cases r with
      | nil =>
        cases eyq
        rw [c1] at zo'
        exact absurd zo' ((by decide : ∀ s ∈ CMPS, Tv.s s ≠ .s gOpen) s hs)
      | cons y2 q2 =>
        cases eyq
        exact k2 zn _ _ rfl zo'
    rw [part_to_test aw k1 nt]
    unfold Ps.test
    rw [z1, bind_ok, tk_sees a2, if_pos c2, tk_move a2 (by omega), bind_ok, z2]
    rfl
def BodyW (ws : List Wrd) : Prop := ∃ P ps, PartW P ∧ (∀ Q ∈ ps, PartW Q) ∧ ps.length ≤ 2 ∧ ws = P ++ tailW ps
theorem body_acc {ws : List Wrd} (h : BodyW ws) : ∃ d, Wd 15 d ∧ ∀ (p : Ps) i, p.hs i ws → i + ws.length ≤ 4000 → p.stop (i + ws.length) → p.body i = .ok d (i + ws.length) := by
  obtain ⟨P, ps, hP, hps, hl, rfl⟩ := h
  obtain ⟨d, hd, h1⟩ := part_acc hP
  obtain ⟨ds, k1, k2, k3⟩ := more_acc (most := 12) (el := Ps.part) ps 11 [d] (by omega) (by show 1 + _ ≤ 12; omega) (fun Q hQ => part_acc (hps Q hQ))
  refine ⟨dT (d :: ds), wd_tup (by rw [List.length_cons]; omega) (fun e he => ?_), fun p i a l s => ?_⟩
  · rcases List.mem_cons.mp he with rfl | he
    · exact hd
    · exact k2 e he
  · obtain ⟨a1, a2⟩ := hs_app a
    rw [List.length_append] at l s ⊢
    have eq : i + (P.length + (tailW ps).length) = i + P.length + (tailW ps).length := by omega
    rw [eq] at l s ⊢
    have o1 : p.noOp (i + P.length) := by
      cases ps with
      | nil => exact s.noOp
      | cons Q r => exact comma_noop (hs_cons (show p.hs _ (gComma :: (Q ++ tailW r)) from a2)).1
    unfold Ps.body
    rw [h1 p i a1 (by omega) o1, bind_ok, k3 p _ a2 (by omega) s.noOp s.com]
    rfl
inductive RuleW : List Wrd → Prop
  | bare {n : Wrd} {ts : List (List Wrd)} : n ∈ NAMES → (∀ P ∈ ts, P ∈ TERMS ++ HTERMS) → ts.length ≤ 3 → RuleW (wRule :: n :: rowW ts)
  | body {n : Wrd} {ts : List (List Wrd)} {b : List Wrd} : n ∈ NAMES → (∀ P ∈ ts, P ∈ TERMS ++ HTERMS) → ts.length ≤ 3 → BodyW b → RuleW (wRule :: n :: (rowW ts ++ wIf :: b))
theorem hterms_acc {ts : List (List Wrd)} (ht : ∀ P ∈ ts, P ∈ TERMS ++ HTERMS) (hl : ts.length ≤ 3) : Acc 2 (fun p => p.terms true) (rowW ts) := terms_acc (b := true) ts (fun P hP => by
  rcases List.mem_append.mp (ht P hP) with h | h
  · exact .inl h
  · exact .inr ⟨rfl, h⟩) (by omega)
theorem wd_rule {n : Wrd} {t u : PyData} (h1 : Wd 2 t) (h2 : Wd 15 u) : Wd 16 (dT [dS wRule, dT [dS n, t], u]) :=
  wd_three (wd_str 15 _) ((wd_tup (n := 2) (Nat.le_of_ble_eq_true rfl) (fun d hd => by
    simp only [List.mem_cons, List.not_mem_nil, or_false] at hd
    rcases hd with rfl | rfl
    · exact wd_str 2 _
    · exact h1) : Wd 3 (dT [dS n, t])).le (by omega)) h2
theorem rule_acc {ws : List Wrd} (h : RuleW ws) : ∃ d, Wd 16 d ∧ ∀ (p : Ps) i, p.hs i ws → i + ws.length ≤ 4000 → p.stop (i + ws.length) → p.rule i = .ok d (i + ws.length) := by
  cases h with
  | @bare n ts hn ht hl =>
    obtain ⟨t, h1, h2⟩ := hterms_acc ht hl
    refine ⟨dT [dS wRule, dT [dS n, t], dT []], wd_rule h1 (wd_tup (Nat.zero_le _) (fun d hd => by cases hd)), fun p i a l s => ?_⟩
    obtain ⟨a1, a2⟩ := hs_cons a
    obtain ⟨a2, a3⟩ := hs_cons a2
    rw [names_cls n hn] at a2
    rw [List.length_cons, List.length_cons] at l s ⊢
    rw [show i + ((rowW ts).length + 1 + 1) = i + 2 + (rowW ts).length by omega] at l s ⊢
    rw [rule_head a1 a2 (by omega) (h2 p (i + 2) a3 (by omega)), tail_none s.iff]
    rfl
  | @body n ts b hn ht hl hb =>
    obtain ⟨t, h1, h2⟩ := hterms_acc ht hl
    obtain ⟨u, h3, h4⟩ := body_acc hb
    refine ⟨dT [dS wRule, dT [dS n, t], u], wd_rule h1 h3, fun p i a l s => ?_⟩
    obtain ⟨a1, a2⟩ := hs_cons a
    obtain ⟨a2, a3⟩ := hs_cons a2
    rw [names_cls n hn] at a2
    obtain ⟨a3, a4⟩ := hs_app a3
    obtain ⟨a4, a5⟩ := hs_cons a4
    rw [List.length_cons, List.length_cons, List.length_append, List.length_cons] at l s ⊢
    rw [show i + ((rowW ts).length + (b.length + 1) + 1 + 1) = i + 2 + (rowW ts).length + 1 + b.length by omega] at l s ⊢
    rw [rule_head a1 a2 (by omega) (h2 p (i + 2) a3 (by omega)), tail_body (show p.tk (i + 2 + (rowW ts).length) kKey (.s wIf) from a4) (by omega), h4 p _ a5 (by omega) s]
    rfl
/-! ### items -/
def SORTS : List (List Wrd) := [[wNumber], [wWord]]
inductive ItemW : List Wrd → Prop
  | rule {ws : List Wrd} : RuleW ws → ItemW ws
  | never {b : List Wrd} : BodyW b → ItemW (wNever :: wBad0 :: wIf :: b)
  | rel {w n : Wrd} {ss : List (List Wrd)} : w ∈ [wBase, wDerived] → n ∈ NAMES → (∀ P ∈ ss, P ∈ SORTS) → ss.length ≤ 4 → ItemW (w :: n :: rowW ss)
theorem sort_acc {P : List Wrd} (h : P ∈ SORTS) : AccO 1 Ps.oneSort P ∧ Opens P := by
  have key : ∀ {p : Ps} {i : Nat} {w : Wrd}, p.tk i kKey (.s w) → seesB kKey (.s w) kKey [wNumber, wWord] = true → i < 4000 → p.oneSort i = .ok (dS w) (i + 1) := fun h e l => by
    unfold Ps.oneSort
    rw [tk_sees h, if_pos e, tk_move h l]
    rfl
  unfold SORTS at h
  simp only [List.mem_cons, List.not_mem_nil, or_false] at h
  rcases h with rfl | rfl
  · exact ⟨⟨_, wd_str 1 wNumber, fun p i h l _ => key (hs_one h) (by decide) l⟩, _, _, rfl, by decide⟩
  · exact ⟨⟨_, wd_str 1 wWord, fun p i h l _ => key (hs_one h) (by decide) l⟩, _, _, rfl, by decide⟩
theorem rel_acc {w n : Wrd} {ss : List (List Wrd)} (hw : w ∈ [wBase, wDerived]) (hn : n ∈ NAMES) (hs : ∀ P ∈ ss, P ∈ SORTS) (hl : ss.length ≤ 4) : Acc 3 Ps.relation (w :: n :: rowW ss) := by
  obtain ⟨ds, k1, k2, k3⟩ := row_acc (m := 1) (el := Ps.oneSort) ss (fun P hP => sort_acc (hs P hP)) (by omega)
  have cw : cls w = (kKey, .s w) := (by decide : ∀ w ∈ [wBase, wDerived], cls w = (kKey, .s w)) w hw
  refine ⟨dT [dS w, dS n, dT ds], wd_three (wd_str 2 _) (wd_str 2 _) (wd_tup (by omega) k2), fun p i a l => ?_⟩
  obtain ⟨a1, a2⟩ := hs_cons a
  obtain ⟨a2, a3⟩ := hs_cons a2
  rw [names_cls n hn] at a2
  rw [cw] at a1
  rw [List.length_cons, List.length_cons] at l ⊢
  rw [show i + ((rowW ss).length + 1 + 1) = i + 1 + 1 + (rowW ss).length by omega] at l ⊢
  unfold Ps.relation
  rw [tk_move a1 (by omega), bind_ok, tk_want a2 (by omega), bind_ok, k3 p _ a3 (by omega)]
  rfl
/-- which row an item goes to -/
inductive Sd where
  | rel | rul | nev
  deriving DecidableEq
def put (s : Sd) (d : PyData) (t : List PyData × List PyData × List PyData) : List PyData × List PyData × List PyData := match s with
  | .rel => (t.1 ++ [d], t.2.1, t.2.2)
  | .rul => (t.1, t.2.1 ++ [d], t.2.2)
  | .nev => (t.1, t.2.1, t.2.2 ++ [d])
def Ps.prog3 (p : Ps) (n : Nat) (t : List PyData × List PyData × List PyData) (i : Nat) : Rs PyData := p.program n t.1 t.2.1 t.2.2 i
theorem rule_hd {ws : List Wrd} (h : RuleW ws) : ws.head? = some wRule := by
  cases h <;> rfl
theorem item_acc {ws : List Wrd} (h : ItemW ws) : ∃ s d, Wd 16 d ∧ (RuleW ws → s = .rul) ∧ ∀ (p : Ps) i, p.hs i ws → i + ws.length ≤ 4000 → p.stop (i + ws.length) → ∀ n t, p.prog3 (n + 1) t i = p.prog3 n (put s d t) (i + ws.length) := by
  cases h with
  | rule hr =>
    obtain ⟨d, hd, h1⟩ := rule_acc hr
    refine ⟨.rul, d, hd, fun _ => rfl, fun p i a l s n t => ?_⟩
    have h0 : p.tk i kKey (.s wRule) := by
      cases hr with
      | bare _ _ _ => exact (hs_cons a).1
      | body _ _ _ _ => exact (hs_cons a).1
    exact prog_rule h0 (h1 p i a l s) n t.1 t.2.1 t.2.2
  | @never b hb =>
    obtain ⟨u, h3, h4⟩ := body_acc hb
    refine ⟨.nev, dT [dS wNever, dS wBad0, u], wd_three (wd_str 15 _) (wd_str 15 _) h3, (fun z => by cases z), fun p i a l s n t => ?_⟩
    obtain ⟨a1, a2⟩ := hs_cons a
    obtain ⟨a2, a3⟩ := hs_cons a2
    obtain ⟨a3, a4⟩ := hs_cons a3
    rw [List.length_cons, List.length_cons, List.length_cons] at l s ⊢
    rw [show i + (b.length + 1 + 1 + 1) = i + 1 + 1 + 1 + b.length by omega] at l s ⊢
    exact prog_never a1 (never_tail (show p.tk (i + 1) kName (.s wBad0) from a2) a3 (by omega) (h4 p _ a4 (by omega) s)) (by omega) n t.1 t.2.1 t.2.2
  | @rel w n ss hw hn hs hl =>
    obtain ⟨d, hd, h1⟩ := rel_acc hw hn hs hl
    have cw : cls w = (kKey, .s w) ∧ seesB kKey (.s w) kKey [wBase, wDerived] = true := (by decide : ∀ w ∈ [wBase, wDerived], cls w = (kKey, .s w) ∧ seesB kKey (.s w) kKey [wBase, wDerived] = true) w hw
    refine ⟨.rel, d, hd.le (by omega), fun z => ?_, fun p i a l s k t => ?_⟩
    · have this : w = wRule := Option.some.inj (rule_hd z)
      subst this
      exact absurd hw (by decide)
    · have a1 := (hs_cons a).1
      rw [cw.1] at a1
      have lt : i < p.ts.length := by
        obtain ⟨q, e⟩ := a1
        exact (List.getElem?_eq_some_iff.mp e).1
      show p.program (k + 1) t.1 t.2.1 t.2.2 i = _
      rw [Ps.program, if_pos lt, tk_sees a1, if_pos cw.2, h1 p i a l]
      rfl
theorem item_head {ws : List Wrd} (h : ItemW ws) : ∃ w r, ws = w :: r ∧ cls w = (kKey, .s w) ∧ w ∈ [wBase, wDerived, wRule, wNever] := by
  cases h with
  | rule hr =>
    cases hr with
    | bare _ _ _ => exact ⟨_, _, rfl, by decide, by decide⟩
    | body _ _ _ _ => exact ⟨_, _, rfl, by decide, by decide⟩
  | never _ => exact ⟨_, _, rfl, by decide, by decide⟩
  | @rel w n ss hw hn hs hl =>
    refine ⟨w, _, rfl, (by decide : ∀ w ∈ [wBase, wDerived], cls w = (kKey, .s w)) w hw, ?_⟩
    rcases List.mem_cons.mp hw with rfl | hw
    · decide
    · rw [List.mem_singleton.mp hw]
      decide
end K9
set_option Elab.async false
set_option maxRecDepth 100000
namespace K9
open PySem
/-! ### two parsers that see the same up to a place, where the one sees an end or an if -/
structure Sim (p q : Ps) (n : Nat) : Prop where
  eq : ∀ j, j < n → ∃ k v, p.tk j k v ∧ q.tk j k v
  bar : q.ts[n]? = none ∨ q.tk n kKey (.s wIf)
  few : n ≤ 4000
inductive Res {α : Type} (q : Ps) (n : Nat) (r s : Rs α) : Prop
  | bar : s = .no (q.at n) → Res q n r s
  | fin (d : α) : s = .ok d n → Res q n r s
  | ok (d : α) (j : Nat) : j ≤ n → r = .ok d j → s = .ok d j → Res q n r s
  | pno (x : Nat) : r = .no x → Res q n r s
inductive ResS {α : Type} (q : Ps) (n : Nat) (r s : Rs α) : Prop
  | bar : s = .no (q.at n) → ResS q n r s
  | ok (d : α) (j : Nat) : j ≤ n → r = .ok d j → s = .ok d j → ResS q n r s
  | pno (x : Nat) : r = .no x → ResS q n r s
theorem ResS.res {α : Type} {q : Ps} {n : Nat} {r s : Rs α} (h : ResS q n r s) : Res q n r s := by
  cases h with
  | bar h => exact .bar h
  | ok d j a b c => exact .ok d j a b c
  | pno x h => exact .pno x h
def Lt {α : Type} (q : Ps) (n : Nat) (f g : Nat → Rs α) : Prop := ∀ j, j < n → Res q n (f j) (g j)
def LtS {α : Type} (q : Ps) (n : Nat) (f g : Nat → Rs α) : Prop := ∀ j, j < n → ResS q n (f j) (g j)
def LeS {α : Type} (q : Ps) (n : Nat) (f g : Nat → Rs α) : Prop := ∀ j, j ≤ n → ResS q n (f j) (g j)
def En {α : Type} (q : Ps) (n : Nat) (g : Nat → Rs α) : Prop := g n = .no (q.at n) ∨ ∃ d, g n = .ok d n
def EnS {α : Type} (q : Ps) (n : Nat) (g : Nat → Rs α) : Prop := g n = .no (q.at n)
section
variable {α β : Type} {q : Ps} {n : Nat} {f g : Nat → Rs α} {F G : α → Nat → Rs β}
theorem LtS.lt (h : LtS q n f g) : Lt q n f g := fun j hj => (h j hj).res
theorem EnS.en (h : EnS q n g) : En q n g := .inl h
theorem LeS.of (h : LtS q n f g) (e : EnS q n g) : LeS q n f g := fun j hj => by
  rcases Nat.lt_or_ge j n with l | l
  · exact h j l
  · obtain rfl : j = n := by omega
    exact .bar e
theorem LeS.lts (h : LeS q n f g) : LtS q n f g := fun j hj => h j (Nat.le_of_lt hj)
theorem LeS.pure (a : α) : LeS q n (fun i => Rs.ok a i) (fun i => Rs.ok a i) := fun j hj => .ok a j hj rfl rfl
theorem En.pure (a : α) : En q n (fun i => Rs.ok a i) := .inr ⟨a, rfl⟩
theorem Lt.bind (h : Lt q n f g) (hF : ∀ d, Lt q n (F d) (G d)) (hE : ∀ d, En q n (G d)) : Lt q n (fun j => (f j).bind F) (fun j => (g j).bind G) := fun j hj => by
  show Res q n ((f j).bind F) ((g j).bind G)
  have fin : ∀ d, g j = .ok d n → Res q n ((f j).bind F) ((g j).bind G) := fun d e => by
    rw [e]
    rcases hE d with z | ⟨d', z⟩
    · exact .bar z
    · exact .fin d' z
  cases h j hj with
  | bar e => exact .bar (by rw [e]; rfl)
  | fin d e => exact fin d e
  | ok d i hi e1 e2 =>
    rcases Nat.lt_or_ge i n with l | l
    · rw [e1, e2]
      exact hF d i l
    · obtain rfl : i = n := by omega
      exact fin d e2
  | pno x e => exact .pno x (by rw [e]; rfl)
theorem LtS.bind (h : Lt q n f g) (hF : ∀ d, LtS q n (F d) (G d)) (hE : ∀ d, EnS q n (G d)) : LtS q n (fun j => (f j).bind F) (fun j => (g j).bind G) := fun j hj => by
  show ResS q n ((f j).bind F) ((g j).bind G)
  cases h j hj with
  | bar e => exact .bar (by rw [e]; rfl)
  | fin d e => exact .bar (by rw [e]; exact hE d)
  | ok d i hi e1 e2 =>
    rcases Nat.lt_or_ge i n with l | l
    · rw [e1, e2]
      exact hF d i l
    · obtain rfl : i = n := by omega
      exact .bar (by rw [e2]; exact hE d)
  | pno x e => exact .pno x (by rw [e]; rfl)
theorem LtS.bindS (h : LtS q n f g) (hF : ∀ d, LeS q n (F d) (G d)) : LtS q n (fun j => (f j).bind F) (fun j => (g j).bind G) := fun j hj => by
  show ResS q n ((f j).bind F) ((g j).bind G)
  cases h j hj with
  | bar e => exact .bar (by rw [e]; rfl)
  | ok d i hi e1 e2 =>
    rw [e1, e2]
    exact hF d i hi
  | pno x e => exact .pno x (by rw [e]; rfl)
theorem LtS.map (h : LtS q n f g) (k : α → β) : LtS q n (fun j => (f j).bind fun d i => .ok (k d) i) (fun j => (g j).bind fun d i => .ok (k d) i) := LtS.bindS h fun d => LeS.pure (k d)
theorem EnS.bind (h : EnS q n g) : EnS q n (fun j => (g j).bind G) := by
  show (g n).bind G = _
  rw [show g n = _ from h]
  rfl
theorem En.bind (h : En q n g) (hE : ∀ d, En q n (G d)) : En q n (fun j => (g j).bind G) := by
  rcases h with h | ⟨d, h⟩
  · exact .inl (EnS.bind h)
  · rcases hE d with z | ⟨d', z⟩
    · exact .inl (by show (g n).bind G = _; rw [h]; exact z)
    · exact .inr ⟨d', by show (g n).bind G = _; rw [h]; exact z⟩
theorem EnS.bind2 (h : En q n g) (hE : ∀ d, EnS q n (G d)) : EnS q n (fun j => (g j).bind G) := by
  rcases h with h | ⟨d, h⟩
  · exact EnS.bind h
  · show (g n).bind G = _
    rw [h]
    exact hE d
end
section
variable {α : Type} {q : Ps} {n : Nat} {f g f' g' : Nat → Rs α} {c c' : Nat → Prop} [∀ j, Decidable (c j)] [∀ j, Decidable (c' j)]
theorem Lt.ite (hc : ∀ j, j < n → (c j ↔ c' j)) (h : Lt q n f g) (h' : Lt q n f' g') : Lt q n (fun j => if c j then f j else f' j) (fun j => if c' j then g j else g' j) := fun j hj => by
  by_cases z : c j
  · dsimp only
    rw [if_pos z, if_pos ((hc j hj).mp z)]
    exact h j hj
  · dsimp only
    rw [if_neg z, if_neg fun y => z ((hc j hj).mpr y)]
    exact h' j hj
theorem LtS.ite (hc : ∀ j, j < n → (c j ↔ c' j)) (h : LtS q n f g) (h' : LtS q n f' g') : LtS q n (fun j => if c j then f j else f' j) (fun j => if c' j then g j else g' j) := fun j hj => by
  by_cases z : c j
  · dsimp only
    rw [if_pos z, if_pos ((hc j hj).mp z)]
    exact h j hj
  · dsimp only
    rw [if_neg z, if_neg fun y => z ((hc j hj).mpr y)]
    exact h' j hj
theorem En.ite (hc : ¬ c' n) (h : En q n g') : En q n (fun j => if c' j then g j else g' j) := by
  unfold En
  dsimp only
  rw [if_neg hc]
  exact h
theorem EnS.ite (hc : ¬ c' n) (h : EnS q n g') : EnS q n (fun j => if c' j then g j else g' j) := by
  unfold EnS
  dsimp only
  rw [if_neg hc]
  exact h
theorem LtS.no (x : Nat → Nat) : LtS q n (fun j => (Rs.no (x j) : Rs α)) g := fun j _ => .pno _ rfl
end
section
variable {p q : Ps} {n : Nat}
theorem Sim.kind (S : Sim p q n) {j : Nat} (h : j < n) : p.kind j = q.kind j := by
  obtain ⟨k, v, a, b⟩ := S.eq j h
  rw [tk_kind a, tk_kind b]
theorem Sim.val (S : Sim p q n) {j : Nat} (h : j < n) : p.val j = q.val j := by
  obtain ⟨k, v, a, b⟩ := S.eq j h
  rw [tk_val a, tk_val b]
theorem Sim.sees (S : Sim p q n) {j : Nat} (h : j < n) (k : List Nat) (ws : List (List Nat)) : p.sees j k ws = q.sees j k ws := by
  unfold Ps.sees
  rw [S.kind h, S.val h]
theorem Sim.nosee (S : Sim p q n) {k : List Nat} {ws : List (List Nat)} (h0 : k ≠ []) (h1 : seesB kKey (.s wIf) k ws = false) : q.sees n k ws = false := by
  rcases S.bar with b | b
  · unfold Ps.sees Ps.kind
    rw [b]
    dsimp only
    rw [decide_eq_false (Ne.symm h0)]
    rfl
  · rw [tk_sees b]
    exact h1
theorem Sim.nokind (S : Sim p q n) {k : List Nat} (h0 : k ≠ []) (h1 : k ≠ kKey) : q.kind n ≠ k := by
  rcases S.bar with b | b
  · unfold Ps.kind
    rw [b]
    exact Ne.symm h0
  · rw [tk_kind b]
    exact Ne.symm h1
theorem lts_move (S : Sim p q n) : LtS q n p.move q.move := fun j hj => by
  have l := S.few
  refine .ok (q.val j) (j + 1) hj ?_ ?_
  · unfold Ps.move
    rw [if_neg (by omega), S.val hj]
  · unfold Ps.move
    rw [if_neg (by omega)]
theorem lts_want (S : Sim p q n) (k : List Nat) : LtS q n (p.want k) (q.want k) := LtS.ite (c := fun i => p.kind i = k) (c' := fun i => q.kind i = k) (fun j hj => by rw [S.kind hj]) (lts_move S) (LtS.no _)
theorem ens_want (S : Sim p q n) {k : List Nat} (h0 : k ≠ []) (h1 : k ≠ kKey) : EnS q n (q.want k) := EnS.ite (c' := fun i => q.kind i = k) (S.nokind h0 h1) rfl
theorem lts_acc (S : Sim p q n) (k w : List Nat) : LtS q n (p.accepts k w) (q.accepts k w) := LtS.ite (c := fun i => p.sees i k [w] = true) (c' := fun i => q.sees i k [w] = true) (fun j hj => by rw [S.sees hj]) (LtS.map (lts_move S) fun _ => true) (LeS.pure false).lts
theorem acc_n (S : Sim p q n) {k w : List Nat} (h0 : k ≠ []) (h1 : seesB kKey (.s wIf) k [w] = false) : q.accepts k w n = .ok false n := no_acc (S.nosee h0 h1)
theorem en_acc (S : Sim p q n) {k w : List Nat} (h0 : k ≠ []) (h1 : seesB kKey (.s wIf) k [w] = false) : En q n (q.accepts k w) := .inr ⟨false, acc_n S h0 h1⟩
theorem lts_sign (S : Sim p q n) (w : List Nat) : LtS q n (p.sign w) (q.sign w) := LtS.bindS (lts_acc S kSign w) fun b => by
  cases b with
  | true => exact LeS.pure ()
  | false => exact fun j _ => .pno _ (if_neg Bool.false_ne_true)
theorem ens_sign (S : Sim p q n) (w : List Nat) : EnS q n (q.sign w) := by
  show (q.accepts kSign w n).bind _ = _
  rw [acc_n S (by decide) (by unfold seesB; rw [decide_eq_false (by decide)]; rfl)]
  rfl
theorem lts_next (S : Sim p q n) (a b : Nat) : LtS q n (p.next a b) (q.next a b) := LtS.ite (c := fun i => p.sees i kSign [gComma] = true ∧ a = b) (c' := fun i => q.sees i kSign [gComma] = true ∧ a = b) (fun j hj => by rw [S.sees hj]) (LtS.no _) (lts_acc S _ _)
theorem en_next (S : Sim p q n) (a b : Nat) : En q n (q.next a b) := En.ite (c' := fun i => q.sees i kSign [gComma] = true ∧ a = b) (fun z => by rw [S.nosee (by decide) (by decide)] at z; exact Bool.false_ne_true z.1) (en_acc S (by decide) (by decide))
theorem more0 (p : Ps) {most : Nat} {el : Nat → Rs PyData} {acc : List PyData} (h : acc.length = most) (i : Nat) : p.more most el 0 acc i = if p.sees i kSign [gComma] = true then .no (p.at i) else .ok acc i := by
  unfold Ps.more Ps.next
  by_cases c : p.sees i kSign [gComma] = true
  · rw [if_pos ⟨c, h⟩, if_pos c]
    rfl
  · rw [if_neg (fun z => c z.1), if_neg c, no_acc (by revert c; cases p.sees i kSign [gComma] <;> simp)]
    rfl
theorem lt_more (S : Sim p q n) {most : Nat} {el el' : Nat → Rs PyData} (h : Lt q n el el') (e : En q n el') : ∀ (m : Nat) (acc : List PyData), acc.length + m = most → Lt q n (p.more most el m acc) (q.more most el' m acc) ∧ En q n (q.more most el' m acc)
  | 0, acc, hm => by
    have e1 : p.more most el 0 acc = fun i => if p.sees i kSign [gComma] = true then .no (p.at i) else .ok acc i := funext (more0 p hm)
    have e2 : q.more most el' 0 acc = fun i => if q.sees i kSign [gComma] = true then .no (q.at i) else .ok acc i := funext (more0 q hm)
    rw [e1, e2]
    exact ⟨(LtS.ite (c := fun i => p.sees i kSign [gComma] = true) (c' := fun i => q.sees i kSign [gComma] = true) (fun j hj => by rw [S.sees hj]) (LtS.no _) (LeS.pure acc).lts).lt,
      En.ite (c' := fun i => q.sees i kSign [gComma] = true) (by rw [S.nosee (by decide) (by decide)]; exact Bool.false_ne_true) (En.pure acc)⟩
  | m + 1, acc, hm => by
    have ih := fun d => lt_more (most := most) S h e m (acc ++ [d]) (by rw [List.length_append, List.length_singleton]; omega)
    refine ⟨Lt.bind (lts_next S acc.length most).lt (fun b => ?_) (fun b => ?_), En.bind (en_next S _ _) fun b => ?_⟩
    · cases b with
      | true => exact Lt.bind h (fun d => (ih d).1) (fun d => (ih d).2)
      | false => exact (LeS.pure acc).lts.lt
    · cases b with
      | true => exact En.bind e fun d => (ih d).2
      | false => exact En.pure acc
    · cases b with
      | true => exact En.bind e fun d => (ih d).2
      | false => exact En.pure acc
theorem lts_row (S : Sim p q n) {el el' : Nat → Rs PyData} (h : Lt q n el el') (e : En q n el') : LtS q n (p.row el) (q.row el') ∧ EnS q n (q.row el') := by
  have hin : Lt q n (fun i => if p.sees i kSign [gClose] = true then .ok [] i else (el i).bind fun d i => p.more 6 el 5 [d] i) (fun i => if q.sees i kSign [gClose] = true then .ok [] i else (el' i).bind fun d i => q.more 6 el' 5 [d] i) :=
    Lt.ite (c := fun i => p.sees i kSign [gClose] = true) (c' := fun i => q.sees i kSign [gClose] = true) (fun j hj => by rw [S.sees hj]) (LeS.pure []).lts.lt (Lt.bind h (fun d => (lt_more S h e 5 [d] rfl).1) (fun d => (lt_more S h e 5 [d] rfl).2))
  have ein : En q n (fun i => if q.sees i kSign [gClose] = true then .ok [] i else (el' i).bind fun d i => q.more 6 el' 5 [d] i) :=
    En.ite (c' := fun i => q.sees i kSign [gClose] = true) (by rw [S.nosee (by decide) (by decide)]; exact Bool.false_ne_true) (En.bind e fun d => (lt_more S h e 5 [d] rfl).2)
  exact ⟨LtS.bind (lts_sign S gOpen).lt (fun _ => LtS.bind hin (fun xs => LtS.map (lts_sign S gClose) fun _ => xs) (fun xs => EnS.bind (ens_sign S gClose))) (fun _ => EnS.bind2 ein fun xs => EnS.bind (ens_sign S gClose)), EnS.bind (ens_sign S gOpen)⟩
theorem lts_sort (S : Sim p q n) : LtS q n p.oneSort q.oneSort ∧ EnS q n q.oneSort :=
  ⟨LtS.ite (c := fun i => p.sees i kKey [wNumber, wWord] = true) (c' := fun i => q.sees i kKey [wNumber, wWord] = true) (fun j hj => by rw [S.sees hj]) (LtS.map (lts_move S) tvD) (LtS.no _),
    EnS.ite (c' := fun i => q.sees i kKey [wNumber, wWord] = true) (by rw [S.nosee (by decide) (by decide)]; exact Bool.false_ne_true) rfl⟩
theorem lts_rel (S : Sim p q n) : LtS q n p.relation q.relation :=
  LtS.bind (lts_move S).lt (fun w => LtS.bind (lts_want S kName).lt (fun m => LtS.map (lts_row S (lts_sort S).1.lt (lts_sort S).2.en).1 fun xs => dT [tvD w, tvD m, dT xs]) (fun m => EnS.bind (lts_row S (lts_sort S).1.lt (lts_sort S).2.en).2)) (fun w => EnS.bind (ens_want S (by decide) (by decide)))
theorem lts_value (S : Sim p q n) : LtS q n p.value q.value ∧ EnS q n q.value := by
  have hE : ∀ b : Bool, EnS q n (fun i => if b = true then (q.want kNum i).bind fun v i => .ok (dT [dS wValue, tvNeg v]) i else if q.kind i = kNum ∨ q.kind i = kQuo then (q.move i).bind fun v i => .ok (dT [dS wValue, tvD v]) i else .no (q.at i)) := fun b => by
    cases b with
    | true => exact EnS.bind (ens_want S (by decide) (by decide))
    | false => exact EnS.ite (c' := fun i => q.kind i = kNum ∨ q.kind i = kQuo) (fun z => by
        rcases z with z | z
        · exact S.nokind (by decide) (by decide) z
        · exact S.nokind (by decide) (by decide) z) rfl
  refine ⟨LtS.bind (lts_acc S kSign gMinus).lt (fun b => ?_) hE, EnS.bind2 (en_acc S (by decide) (by decide)) hE⟩
  cases b with
  | true => exact LtS.map (lts_want S kNum) fun v => dT [dS wValue, tvNeg v]
  | false => exact LtS.ite (c := fun i => p.kind i = kNum ∨ p.kind i = kQuo) (c' := fun i => q.kind i = kNum ∨ q.kind i = kQuo) (fun j hj => by rw [S.kind hj]) (LtS.map (lts_move S) fun v => dT [dS wValue, tvD v]) (LtS.no _)
theorem lts_termB (S : Sim p q n) : LtS q n p.termB q.termB ∧ EnS q n q.termB :=
  ⟨LtS.ite (c := fun i => p.kind i = kName) (c' := fun i => q.kind i = kName) (fun j hj => by rw [S.kind hj]) (LtS.map (lts_move S) fun v => dT [dS wVariable, tvD v]) (lts_value S).1,
    EnS.ite (c' := fun i => q.kind i = kName) (S.nokind (by decide) (by decide)) (lts_value S).2⟩
def Ps.termC (p : Ps) (b : Bool) (i : Nat) : Rs PyData := if b = true then .ok (dT [dS wCount]) i else if p.sees i kKey [wSum, wLeast, wMost] = true then (p.move i).bind fun w i => (p.want kName i).bind fun v i => .ok (dT [tvD w, tvD v]) i else p.termB i
theorem ens_termC (S : Sim p q n) : EnS q n (q.termC false) := by
  show q.termC false n = _
  unfold Ps.termC
  rw [if_neg Bool.false_ne_true, S.nosee (by decide) (by decide), if_neg Bool.false_ne_true]
  exact (lts_termB S).2
theorem lts_termC (S : Sim p q n) : LtS q n (p.termC false) (q.termC false) :=
  LtS.ite (c := fun i => p.sees i kKey [wSum, wLeast, wMost] = true) (c' := fun i => q.sees i kKey [wSum, wLeast, wMost] = true) (fun j hj => by rw [S.sees hj]) (LtS.bind (lts_move S).lt (fun w => LtS.map (lts_want S kName) fun v => dT [tvD w, tvD v]) (fun w => EnS.bind (ens_want S (by decide) (by decide)))) (lts_termB S).1
theorem les_termC (S : Sim p q n) (b : Bool) : LeS q n (p.termC b) (q.termC b) := by
  cases b with
  | true => exact LeS.pure (dT [dS wCount])
  | false => exact LeS.of (lts_termC S) (ens_termC S)
theorem lts_term (S : Sim p q n) (b : Bool) : LtS q n (p.term b) (q.term b) ∧ EnS q n (q.term b) := by
  cases b with
  | false => exact lts_termB S
  | true =>
    refine ⟨LtS.bindS (F := p.termC) (G := q.termC) (lts_acc S kKey wCount) (les_termC S), ?_⟩
    show (q.accepts kKey wCount n).bind q.termC = _
    rw [acc_n S (by decide) (by decide), bind_ok]
    exact ens_termC S
theorem lts_terms (S : Sim p q n) (b : Bool) : LtS q n (p.terms b) (q.terms b) ∧ EnS q n (q.terms b) :=
  ⟨LtS.map (lts_row S (lts_term S b).1.lt (lts_term S b).2.en).1 dT, EnS.bind (lts_row S (lts_term S b).1.lt (lts_term S b).2.en).2⟩
/-! expressions -/
theorem lts_piece (S : Sim p q n) {so so' : Option (Nat → Rs PyData)} (h : (so = none ∧ so' = none) ∨ ∃ f f', so = some f ∧ so' = some f' ∧ Lt q n f f' ∧ En q n f') : LtS q n (p.pieceOf so) (q.pieceOf so') ∧ EnS q n (q.pieceOf so') := by
  have e : ∀ g : Nat → Rs PyData, EnS q n (fun i => if q.kind i = kName then (q.move i).bind fun v i => .ok (dT [dS wVariable, tvD v]) i else if q.sees i kSign [gOpen] = true then g i else q.value i) := fun g =>
    EnS.ite (c' := fun i => q.kind i = kName) (S.nokind (by decide) (by decide)) (EnS.ite (c' := fun i => q.sees i kSign [gOpen] = true) (by rw [S.nosee (by decide) (by decide)]; exact Bool.false_ne_true) (lts_value S).2)
  have l : ∀ g g' : Nat → Rs PyData, LtS q n g g' → LtS q n (fun i => if p.kind i = kName then (p.move i).bind fun v i => .ok (dT [dS wVariable, tvD v]) i else if p.sees i kSign [gOpen] = true then g i else p.value i) (fun i => if q.kind i = kName then (q.move i).bind fun v i => .ok (dT [dS wVariable, tvD v]) i else if q.sees i kSign [gOpen] = true then g' i else q.value i) := fun g g' hg =>
    LtS.ite (c := fun i => p.kind i = kName) (c' := fun i => q.kind i = kName) (fun j hj => by rw [S.kind hj]) (LtS.map (lts_move S) fun v => dT [dS wVariable, tvD v])
      (LtS.ite (c := fun i => p.sees i kSign [gOpen] = true) (c' := fun i => q.sees i kSign [gOpen] = true) (fun j hj => by rw [S.sees hj]) hg (lts_value S).1)
  rcases h with ⟨rfl, rfl⟩ | ⟨f, f', rfl, rfl, hf, he⟩
  · exact ⟨l _ _ (LtS.no (fun i => p.at i)), e _⟩
  · exact ⟨l _ _ (LtS.bind (lts_sign S gOpen).lt (fun _ => LtS.bind hf (fun t => LtS.map (lts_sign S gClose) fun _ => t) (fun t => EnS.bind (ens_sign S gClose))) (fun _ => EnS.bind2 he fun t => EnS.bind (ens_sign S gClose))), e _⟩
theorem lt_opRow (S : Sim p q n) {se se' : Nat → Bool} {el el' : Nat → Rs PyData} (hs : ∀ j, j < n → se j = se' j) (hn : se' n = false) (h : Lt q n el el') (e : En q n el') : ∀ (m : Nat) (t : PyData), Lt q n (p.opRow se el m t) (q.opRow se' el' m t) ∧ En q n (q.opRow se' el' m t)
  | 0, t => ⟨(LtS.ite (c := fun i => se i = true) (c' := fun i => se' i = true) (fun j hj => by rw [hs j hj]) (LtS.no _) (LeS.pure t).lts).lt, En.ite (c' := fun i => se' i = true) (by rw [hn]; exact Bool.false_ne_true) (En.pure t)⟩
  | m + 1, t => ⟨Lt.ite (c := fun i => se i = true) (c' := fun i => se' i = true) (fun j hj => by rw [hs j hj]) (Lt.bind (lts_move S).lt (fun s => Lt.bind h (fun u => (lt_opRow S hs hn h e m _).1) (fun u => (lt_opRow S hs hn h e m _).2)) (fun s => En.bind e fun u => (lt_opRow S hs hn h e m _).2)) (LeS.pure t).lts.lt,
    En.ite (c' := fun i => se' i = true) (by rw [hn]; exact Bool.false_ne_true) (En.pure t)⟩
theorem mul_eq (S : Sim p q n) (j : Nat) (h : j < n) : p.seesMul j = q.seesMul j := by
  unfold Ps.seesMul
  rw [S.sees h, S.sees h]
theorem add_eq (S : Sim p q n) (j : Nat) (h : j < n) : p.seesAdd j = q.seesAdd j := S.sees h _ _
theorem mul_n (S : Sim p q n) : q.seesMul n = false := by
  unfold Ps.seesMul
  rw [S.nosee (by decide) (by decide), S.nosee (by decide) (by decide)]
  rfl
theorem add_n (S : Sim p q n) : q.seesAdd n = false := S.nosee (by decide) (by decide)
theorem lt_sumsOf (S : Sim p q n) {so so' : Option (Nat → Rs PyData)} (h : (so = none ∧ so' = none) ∨ ∃ f f', so = some f ∧ so' = some f' ∧ Lt q n f f' ∧ En q n f') : Lt q n (p.sumsOf so) (q.sumsOf so') ∧ EnS q n (q.sumsOf so') := by
  obtain ⟨h1, h2⟩ := lts_piece S h
  have hp : Lt q n (p.productOf so) (q.productOf so') := Lt.bind h1.lt (fun t => (lt_opRow S (mul_eq S) (mul_n S) h1.lt h2.en 12 t).1) (fun t => (lt_opRow S (mul_eq S) (mul_n S) h1.lt h2.en 12 t).2)
  have ep : EnS q n (q.productOf so') := EnS.bind h2
  exact ⟨Lt.bind hp (fun t => (lt_opRow S (add_eq S) (add_n S) hp ep.en 12 t).1) (fun t => (lt_opRow S (add_eq S) (add_n S) hp ep.en 12 t).2), EnS.bind ep⟩
theorem lt_sums (S : Sim p q n) : ∀ d, Lt q n (p.sums d) (q.sums d) ∧ EnS q n (q.sums d)
  | 0 => lt_sumsOf S (.inl ⟨rfl, rfl⟩)
  | d + 1 => lt_sumsOf S (.inr ⟨_, _, rfl, rfl, (lt_sums S d).1, (lt_sums S d).2.en⟩)
theorem lt_test (S : Sim p q n) : Lt q n p.test q.test ∧ EnS q n q.test := by
  obtain ⟨h1, h2⟩ := lt_sums S 20
  refine ⟨Lt.bind h1 (fun a => ?_) (fun a => ?_), EnS.bind h2⟩
  · exact Lt.ite (c := fun i => p.sees i kSign [gLt, gLe, gEq] = true) (c' := fun i => q.sees i kSign [gLt, gLe, gEq] = true) (fun j hj => by rw [S.sees hj]) (Lt.bind (lts_move S).lt (fun s => Lt.bind h1 (fun b => (LeS.pure _).lts.lt) (fun b => En.pure _)) (fun s => En.bind h2.en fun b => En.pure _)) (LtS.no _).lt
  · exact En.ite (c' := fun i => q.sees i kSign [gLt, gLe, gEq] = true) (by rw [S.nosee (by decide) (by decide)]; exact Bool.false_ne_true) (.inl rfl)
/-- a name stands last -/
theorem test_name (S : Sim p q n) {j : Nat} (hj : j + 1 = n) (h : q.kind j = kName) : q.test j = .no (q.at n) := by
  obtain ⟨k, v, a, b⟩ := S.eq j (by omega)
  rw [tk_kind b] at h
  subst h
  have l := S.few
  have e1 : q.sums 20 j = .ok (dT [dS wVariable, tvD v]) n := by
    have z := sums_one (so := some (q.sums 19)) (piece_var b (by omega)) (by rw [hj]; exact mul_n S) (by rw [hj]; exact add_n S)
    rw [hj] at z
    exact z
  unfold Ps.test
  rw [e1, bind_ok, S.nosee (by decide) (by decide), if_neg Bool.false_ne_true]
theorem lt_part (S : Sim p q n) : Lt q n p.part q.part ∧ EnS q n q.part := by
  obtain ⟨t1, t2⟩ := lts_terms S false
  obtain ⟨s1, s2⟩ := lt_sums S 20
  obtain ⟨e1, e2⟩ := lt_test S
  have hl : Lt q n (fun i => if p.kind i = kName ∧ (p.ts[i + 1]?).map (·.2.1) = some (.s gOpen) then (p.move i).bind fun n i => (p.terms false i).bind fun t i => .ok (dT [dS wFact, tvD n, t]) i else p.test i)
      (fun i => if q.kind i = kName ∧ (q.ts[i + 1]?).map (·.2.1) = some (.s gOpen) then (q.move i).bind fun n i => (q.terms false i).bind fun t i => .ok (dT [dS wFact, tvD n, t]) i else q.test i) := fun j hj => by
    have hA : LtS q n (fun i => (p.move i).bind fun n i => (p.terms false i).bind fun t i => .ok (dT [dS wFact, tvD n, t]) i) (fun i => (q.move i).bind fun n i => (q.terms false i).bind fun t i => .ok (dT [dS wFact, tvD n, t]) i) :=
      LtS.bind (lts_move S).lt (fun m => LtS.map t1 fun t => dT [dS wFact, tvD m, t]) (fun m => EnS.bind t2)
    rcases Nat.lt_or_ge (j + 1) n with l | l
    · obtain ⟨k, v, a, b⟩ := S.eq (j + 1) l
      have ec : (p.ts[j + 1]?).map (·.2.1) = (q.ts[j + 1]?).map (·.2.1) := by
        obtain ⟨x, a⟩ := a
        obtain ⟨y, b⟩ := b
        rw [a, b]
        rfl
      dsimp only
      rw [S.kind hj, ec]
      split
      · exact hA.lt j hj
      · exact e1 j hj
    · have hj1 : j + 1 = n := by omega
      have nq : ¬ (q.kind j = kName ∧ (q.ts[j + 1]?).map (·.2.1) = some (.s gOpen)) := fun z => by
        have z2 := z.2
        rw [hj1] at z2
        rcases S.bar with b | ⟨x, b⟩
        · rw [b] at z2
          cases z2
        · rw [b] at z2
          exact absurd (Option.some.inj z2) (show ¬ Tv.s wIf = .s gOpen by decide)
      dsimp only
      rw [if_neg nq]
      split
      · rename_i c
        exact .bar (test_name S hj1 (by rw [← S.kind hj]; exact c.1))
      · exact e1 j hj
  have el : EnS q n (fun i => if q.kind i = kName ∧ (q.ts[i + 1]?).map (·.2.1) = some (.s gOpen) then (q.move i).bind fun n i => (q.terms false i).bind fun t i => .ok (dT [dS wFact, tvD n, t]) i else q.test i) :=
    EnS.ite (c' := fun i => q.kind i = kName ∧ (q.ts[i + 1]?).map (·.2.1) = some (.s gOpen)) (fun z => S.nokind (by decide) (by decide) z.1) e2
  have hL : ∀ b : Bool, Lt q n (fun i => if b = true then (p.want kName i).bind fun n i => (p.sign gEq i).bind fun _ i => (p.sums 20 i).bind fun t i => .ok (dT [dS wLet, tvD n, t]) i
        else if p.kind i = kName ∧ (p.ts[i + 1]?).map (·.2.1) = some (.s gOpen) then (p.move i).bind fun n i => (p.terms false i).bind fun t i => .ok (dT [dS wFact, tvD n, t]) i else p.test i)
      (fun i => if b = true then (q.want kName i).bind fun n i => (q.sign gEq i).bind fun _ i => (q.sums 20 i).bind fun t i => .ok (dT [dS wLet, tvD n, t]) i
        else if q.kind i = kName ∧ (q.ts[i + 1]?).map (·.2.1) = some (.s gOpen) then (q.move i).bind fun n i => (q.terms false i).bind fun t i => .ok (dT [dS wFact, tvD n, t]) i else q.test i) ∧
      EnS q n (fun i => if b = true then (q.want kName i).bind fun n i => (q.sign gEq i).bind fun _ i => (q.sums 20 i).bind fun t i => .ok (dT [dS wLet, tvD n, t]) i
        else if q.kind i = kName ∧ (q.ts[i + 1]?).map (·.2.1) = some (.s gOpen) then (q.move i).bind fun n i => (q.terms false i).bind fun t i => .ok (dT [dS wFact, tvD n, t]) i else q.test i) := fun b => by
    cases b with
    | true => exact ⟨Lt.bind (lts_want S kName).lt (fun m => Lt.bind (lts_sign S gEq).lt (fun _ => Lt.bind s1 (fun t => (LeS.pure _).lts.lt) (fun t => En.pure _)) (fun _ => En.bind s2.en fun t => En.pure _)) (fun m => (EnS.bind (ens_sign S gEq)).en), EnS.bind (ens_want S (by decide) (by decide))⟩
    | false => exact ⟨hl, el⟩
  have hN : ∀ b : Bool, Lt q n (fun i => if b = true then (p.want kName i).bind fun n i => (p.terms false i).bind fun t i => .ok (dT [dS wNot, tvD n, t]) i
        else (p.accepts kKey wLet i).bind fun b i => if b = true then (p.want kName i).bind fun n i => (p.sign gEq i).bind fun _ i => (p.sums 20 i).bind fun t i => .ok (dT [dS wLet, tvD n, t]) i
          else if p.kind i = kName ∧ (p.ts[i + 1]?).map (·.2.1) = some (.s gOpen) then (p.move i).bind fun n i => (p.terms false i).bind fun t i => .ok (dT [dS wFact, tvD n, t]) i else p.test i)
      (fun i => if b = true then (q.want kName i).bind fun n i => (q.terms false i).bind fun t i => .ok (dT [dS wNot, tvD n, t]) i
        else (q.accepts kKey wLet i).bind fun b i => if b = true then (q.want kName i).bind fun n i => (q.sign gEq i).bind fun _ i => (q.sums 20 i).bind fun t i => .ok (dT [dS wLet, tvD n, t]) i
          else if q.kind i = kName ∧ (q.ts[i + 1]?).map (·.2.1) = some (.s gOpen) then (q.move i).bind fun n i => (q.terms false i).bind fun t i => .ok (dT [dS wFact, tvD n, t]) i else q.test i) ∧
      EnS q n (fun i => if b = true then (q.want kName i).bind fun n i => (q.terms false i).bind fun t i => .ok (dT [dS wNot, tvD n, t]) i
        else (q.accepts kKey wLet i).bind fun b i => if b = true then (q.want kName i).bind fun n i => (q.sign gEq i).bind fun _ i => (q.sums 20 i).bind fun t i => .ok (dT [dS wLet, tvD n, t]) i
          else if q.kind i = kName ∧ (q.ts[i + 1]?).map (·.2.1) = some (.s gOpen) then (q.move i).bind fun n i => (q.terms false i).bind fun t i => .ok (dT [dS wFact, tvD n, t]) i else q.test i) := fun b => by
    cases b with
    | true => exact ⟨(LtS.bind (lts_want S kName).lt (fun m => LtS.map t1 fun t => dT [dS wNot, tvD m, t]) (fun m => EnS.bind t2)).lt, EnS.bind (ens_want S (by decide) (by decide))⟩
    | false => exact ⟨Lt.bind (lts_acc S kKey wLet).lt (fun b => (hL b).1) (fun b => (hL b).2.en), EnS.bind2 (en_acc S (by decide) (by decide)) (fun b => (hL b).2)⟩
  exact ⟨Lt.bind (lts_acc S kKey wNot).lt (fun b => (hN b).1) (fun b => (hN b).2.en), EnS.bind2 (en_acc S (by decide) (by decide)) (fun b => (hN b).2)⟩
theorem lt_body (S : Sim p q n) : Lt q n p.body q.body ∧ EnS q n q.body := by
  obtain ⟨h1, h2⟩ := lt_part S
  exact ⟨Lt.bind h1 (fun d => Lt.bind (lt_more S h1 h2.en 11 [d] rfl).1 (fun xs => (LeS.pure _).lts.lt) (fun xs => En.pure _)) (fun d => En.bind (lt_more S h1 h2.en 11 [d] rfl).2 fun xs => En.pure _), EnS.bind h2⟩
/-! ### rules and items, where the first parser read them -/
def Ps.ruleHead (p : Ps) (i : Nat) : Rs (Tv × PyData) := (p.accepts kKey wRule i).bind fun b i => if b = true then (p.want kName i).bind fun n i => (p.terms true i).bind fun t i => .ok (n, t) i else .no (p.at i)
theorem rule_eq (p : Ps) (i : Nat) : p.rule i = (p.ruleHead i).bind fun h i => p.ruleTail h.1 h.2 i := by
  unfold Ps.rule Ps.ruleHead
  cases p.accepts kKey wRule i with
  | no j => rfl
  | ok b j =>
    rw [bind_ok, bind_ok]
    cases b with
    | false => rfl
    | true =>
      rw [if_pos rfl, if_pos rfl]
      cases p.want kName j with
      | no j => rfl
      | ok m j =>
        rw [bind_ok, bind_ok]
        cases p.terms true j with
        | no j => rfl
        | ok t j => rfl
theorem lts_head (S : Sim p q n) : LtS q n p.ruleHead q.ruleHead := LtS.bindS (lts_acc S kKey wRule) fun b => by
  cases b with
  | true => exact LeS.of (LtS.bind (lts_want S kName).lt (fun m => LtS.map (lts_terms S true).1 fun t => (m, t)) (fun m => EnS.bind (lts_terms S true).2)) (EnS.bind (ens_want S (by decide) (by decide)))
  | false => exact fun j _ => .pno _ (if_neg Bool.false_ne_true)
/-- the if is not one of the first parser's own, or there is an end -/
def Ends (p q : Ps) (n e : Nat) : Prop := (n < e ∧ p.sees n kKey [wIf] = false) ∨ (n ≤ e ∧ q.ts[n]? = none)
theorem body_out (S : Sim p q n) {i e : Nat} {d : PyData} (hi : i ≤ n) (hp : p.body i = .ok d e) (he : n ≤ e) : q.body i = .no (q.at n) ∨ ∃ d', q.body i = .ok d' n := by
  rcases Nat.lt_or_ge i n with l | l
  · cases (lt_body S).1 i l with
    | bar z => exact .inl z
    | fin d z => exact .inr ⟨d, z⟩
    | ok d' j hj e1 e2 =>
      rw [hp] at e1
      cases e1
      have : e = n := by omega
      subst this
      exact .inr ⟨_, e2⟩
    | pno x z => rw [hp] at z; cases z
  · obtain rfl : i = n := by omega
    exact .inl (lt_body S).2
theorem rule_sim (S : Sim p q n) {i e : Nat} {d : PyData} (hi : i < n) (hp : p.rule i = .ok d e) (he : Ends p q n e) : q.rule i = .no (q.at n) ∨ ∃ d', q.rule i = .ok d' n := by
  have ne : n ≤ e := by rcases he with ⟨h, _⟩ | ⟨h, _⟩ <;> omega
  rw [rule_eq] at hp ⊢
  cases lts_head S i hi with
  | bar z => exact .inl (by rw [z]; rfl)
  | pno x z => rw [z] at hp; cases hp
  | ok h j hj e1 e2 =>
    rw [e1, bind_ok] at hp
    rw [e2, bind_ok]
    have ft : ∀ {r : Ps} {u : PyData} {m : Nat}, (Rs.ok u m : Rs PyData).bind (fun u i => Rs.ok (dT [dS wRule, dT [tvD h.1, h.2], u]) i) = .ok (dT [dS wRule, dT [tvD h.1, h.2], u]) m := rfl
    rcases Nat.lt_or_ge j n with l | l
    · have sj := S.sees l kKey [wIf]
      obtain ⟨k, v, a, b⟩ := S.eq j l
      have l4 := S.few
      cases c : p.sees j kKey [wIf] with
      | false =>
        rw [tail_none c] at hp
        cases hp
        omega
      | true =>
        have tkp : ∀ {r : Ps}, r.tk j k v → r.sees j kKey [wIf] = true → r.tk j kKey (.s wIf) := fun {r} ht hs => by
          rw [tk_sees ht] at hs
          obtain ⟨z1, z2⟩ := Bool.and_eq_true_iff.mp hs
          have e1 := of_decide_eq_true z1
          have e2 : v = .s wIf := by simpa using z2
          subst e1
          subst e2
          exact ht
        have tp := tkp a c
        have tq := tkp b (by rw [← sj]; exact c)
        rw [tail_body tp (by omega)] at hp
        rw [tail_body tq (by omega)]
        cases hb : p.body (j + 1) with
        | no x => rw [hb] at hp; cases hp
        | ok u m =>
          rw [hb] at hp
          cases hp
          rcases body_out S (by omega) hb ne with z | ⟨u', z⟩
          · exact .inl (by rw [z]; rfl)
          · exact .inr ⟨_, by rw [z]; rfl⟩
    · obtain rfl : j = n := by omega
      rcases he with ⟨h1, h2⟩ | ⟨h1, h2⟩
      · rw [tail_none h2] at hp
        cases hp
        omega
      · have sq : q.sees j kKey [wIf] = false := by
          unfold Ps.sees Ps.kind
          rw [h2]
          rfl
        exact .inr ⟨_, tail_none sq⟩
theorem never_sim (S : Sim p q n) {i e : Nat} {d : PyData} (hi : i ≤ n) (hp : p.neverTail i = .ok d e) (he : Ends p q n e) : q.neverTail i = .no (q.at n) ∨ ∃ d', q.neverTail i = .ok d' n := by
  have ne : n ≤ e := by rcases he with ⟨h, _⟩ | ⟨h, _⟩ <;> omega
  rcases Nat.lt_or_ge i n with l | l
  · unfold Ps.neverTail at hp ⊢
    cases lts_want S kName i l with
    | bar z => exact .inl (by rw [z]; rfl)
    | pno x z => rw [z] at hp; cases hp
    | ok m j hj e1 e2 =>
      rw [e1, bind_ok] at hp
      rw [e2, bind_ok]
      cases hb : p.accepts kKey wIf j with
      | no x => rw [hb] at hp; cases hp
      | ok b k =>
        rw [hb, bind_ok] at hp
        cases b with
        | false => cases hp
        | true =>
          rw [if_pos rfl] at hp
          have sp : p.sees j kKey [wIf] = true := by
            cases c : p.sees j kKey [wIf] with
            | true => rfl
            | false => rw [no_acc c] at hb; cases hb
          cases hq : p.body k with
          | no x => rw [hq] at hp; cases hp
          | ok u e' =>
            rw [hq] at hp
            cases hp
            rcases Nat.lt_or_ge j n with l2 | l2
            · cases lts_acc S kKey wIf j l2 with
              | bar z => exact .inl (by rw [z]; rfl)
              | pno x z => rw [hb] at z; cases z
              | ok b' k' hk e3 e4 =>
                rw [hb] at e3
                cases e3
                rw [e4, bind_ok, if_pos rfl]
                rcases body_out S hk hq ne with z | ⟨u', z⟩
                · exact .inl (by rw [z]; rfl)
                · exact .inr ⟨_, by rw [z]; rfl⟩
            · obtain rfl : j = n := by omega
              rcases he with ⟨h1, h2⟩ | ⟨h1, h2⟩
              · rw [h2] at sp
                cases sp
              · have sq : q.sees j kKey [wIf] = false := by
                  unfold Ps.sees Ps.kind
                  rw [h2]
                  rfl
                rw [no_acc sq, bind_ok, if_neg Bool.false_ne_true]
                exact .inl rfl
  · obtain rfl : i = n := by omega
    exact .inl (EnS.bind (ens_want S (by decide) (by decide)))
theorem rel_sim (S : Sim p q n) {i e : Nat} {d : PyData} (hi : i < n) (hp : p.relation i = .ok d e) (he : n ≤ e) : q.relation i = .no (q.at n) ∨ ∃ d', q.relation i = .ok d' n := by
  cases lts_rel S i hi with
  | bar z => exact .inl z
  | pno x z => rw [hp] at z; cases z
  | ok h j hj e1 e2 =>
    rw [hp] at e1
    cases e1
    have : e = n := by omega
    subst this
    exact .inr ⟨_, e2⟩
end
end K9
set_option Elab.async false
set_option maxRecDepth 100000
namespace K9
open PySem
/-! ### whole texts -/
def PT (p : Ps) : Out := match p.program (p.ts.length + 1) [] [] [] 0 with
  | .no j => .no j
  | .ok d _ => .tree d
def RT (p : Ps) : Out := match p.rule 0 with
  | .no j => .no j
  | .ok d i => if i < p.ts.length then .no (p.at i) else .tree d
theorem tk_lt {p : Ps} {i : Nat} {k : List Nat} {v : Tv} (h : p.tk i k v) : i < p.ts.length := by
  obtain ⟨q, e⟩ := h
  exact (List.getElem?_eq_some_iff.mp e).1
theorem tk_same {p : Ps} {i : Nat} {k k' : List Nat} {v v' : Tv} (h : p.tk i k v) (h' : p.tk i k' v') : k = k' ∧ v = v' := by
  obtain ⟨q, e⟩ := h
  obtain ⟨q', e'⟩ := h'
  rw [e] at e'
  cases e'
  exact ⟨rfl, rfl⟩
def H4 : List Wrd := [wBase, wDerived, wRule, wNever]
theorem stop_key4 {p : Ps} {i : Nat} {w : Wrd} (h : p.tk i kKey (.s w)) (hw : w ∈ H4) : p.stop i := by
  refine ⟨?_, ?_, ?_, ?_⟩
  · unfold Ps.seesMul
    rw [tk_sees h, tk_sees h]
    exact (by decide : ∀ w ∈ H4, (seesB kKey (.s w) kSign [gTimes, gDiv] || seesB kKey (.s w) kKey [wMod]) = false) w hw
  · unfold Ps.seesAdd
    rw [tk_sees h]
    exact (by decide : ∀ w ∈ H4, seesB kKey (.s w) kSign [gPlus, gMinus] = false) w hw
  · rw [tk_sees h]
    exact (by decide : ∀ w ∈ H4, seesB kKey (.s w) kSign [gComma] = false) w hw
  · rw [tk_sees h]
    exact (by decide : ∀ w ∈ H4, seesB kKey (.s w) kKey [wIf] = false) w hw
theorem stop_close {p : Ps} {i : Nat} (h : p.tk i kSign (.s gClose)) : p.stop i := by
  refine ⟨?_, ?_, ?_, ?_⟩
  · unfold Ps.seesMul
    rw [tk_sees h, tk_sees h]
    decide
  · unfold Ps.seesAdd
    rw [tk_sees h]
    decide
  · rw [tk_sees h]
    decide
  · rw [tk_sees h]
    decide
abbrev T3 := List PyData × List PyData × List PyData
def Fit (k : Nat) (t : T3) : Prop := t.1.length ≤ k ∧ t.2.1.length ≤ k ∧ t.2.2.length ≤ k ∧ (∀ d ∈ t.1, Wd 16 d) ∧ (∀ d ∈ t.2.1, Wd 16 d) ∧ ∀ d ∈ t.2.2, Wd 16 d
theorem fit_put {k : Nat} {t : T3} {s : Sd} {d : PyData} (h : Fit k t) (hd : Wd 16 d) : Fit (k + 1) (put s d t) := by
  obtain ⟨h1, h2, h3, h4, h5, h6⟩ := h
  have snoc : ∀ l : List PyData, (∀ e ∈ l, Wd 16 e) → ∀ e ∈ l ++ [d], Wd 16 e := fun l hl e he => by
    rcases List.mem_append.mp he with he | he
    · exact hl e he
    · rw [List.mem_singleton.mp he]
      exact hd
  cases s with
  | rel => exact ⟨by show (t.1 ++ [d]).length ≤ _; rw [List.length_append]; exact Nat.succ_le_succ h1, Nat.le_succ_of_le h2, Nat.le_succ_of_le h3, snoc _ h4, h5, h6⟩
  | rul => exact ⟨Nat.le_succ_of_le h1, by show (t.2.1 ++ [d]).length ≤ _; rw [List.length_append]; exact Nat.succ_le_succ h2, Nat.le_succ_of_le h3, h4, snoc _ h5, h6⟩
  | nev => exact ⟨Nat.le_succ_of_le h1, Nat.le_succ_of_le h2, by show (t.2.2 ++ [d]).length ≤ _; rw [List.length_append]; exact Nat.succ_le_succ h3, h4, h5, snoc _ h6⟩
theorem items_acc : ∀ (L : List (List Wrd)) (k : Nat) (t0 : T3), (∀ I ∈ L, ItemW I) → Fit k t0 → ∃ t, Fit (k + L.length) t ∧ ∀ (p : Ps) i, p.hs i L.flatten → i + L.flatten.length ≤ 4000 → p.stop (i + L.flatten.length) → ∀ n, p.prog3 (n + L.length) t0 i = p.prog3 n t (i + L.flatten.length)
  | [], k, t0, _, hf => ⟨t0, hf, fun p i _ _ _ n => rfl⟩
  | I :: r, k, t0, h, hf => by
    obtain ⟨s, d, hd, _, h1⟩ := item_acc (h I (List.mem_cons_self ..))
    obtain ⟨t, k1, k2⟩ := items_acc r (k + 1) (put s d t0) (fun J hJ => h J (List.mem_cons_of_mem _ hJ)) (fit_put hf hd)
    refine ⟨t, by rw [List.length_cons, show k + (r.length + 1) = k + 1 + r.length by omega]; exact k1, fun p i a l st n => ?_⟩
    rw [List.flatten_cons] at a l st ⊢
    rw [List.length_append] at l st ⊢
    obtain ⟨a1, a2⟩ := hs_app a
    have s1 : p.stop (i + I.length) := by
      cases r with
      | nil => exact st
      | cons J r =>
        obtain ⟨w, q, e, c, hw⟩ := item_head (h J (List.mem_cons_of_mem _ (List.mem_cons_self ..)))
        have z := a2 0 w (by rw [List.flatten_cons, e]; rfl)
        rw [c] at z
        exact stop_key4 (show p.tk (i + I.length) kKey (.s w) from z) hw
    rw [← Nat.add_assoc] at l st ⊢
    rw [List.length_cons, show n + (r.length + 1) = n + r.length + 1 by omega, h1 p i a1 (by omega) s1, k2 p _ a2 l st]
theorem fit0 : Fit 0 ([], [], []) := ⟨Nat.le_refl _, Nat.le_refl _, Nat.le_refl _, (fun d hd => by cases hd), (fun d hd => by cases hd), fun d hd => by cases hd⟩
theorem flat_ge : ∀ L : List (List Wrd), (∀ I ∈ L, ItemW I) → L.length ≤ L.flatten.length
  | [], _ => Nat.le_refl _
  | I :: r, h => by
    obtain ⟨w, q, e, _⟩ := item_head (h I (List.mem_cons_self ..))
    have ih := flat_ge r (fun J hJ => h J (List.mem_cons_of_mem _ hJ))
    rw [List.flatten_cons, List.length_append, List.length_cons, e, List.length_cons]
    omega
theorem out_end {p : Ps} {n f : Nat} {t : T3} (h : p.ts.length ≤ n) (hf : 0 < f) : p.prog3 f t n = .ok (dT [dS wProgram, dT t.1, dT t.2.1, dT t.2.2]) n := by
  obtain ⟨f, rfl⟩ : ∃ k, f = k + 1 := ⟨f - 1, by omega⟩
  exact prog_end h f t.1 t.2.1 t.2.2
/-- what begins no item -/
theorem out_bad {p : Ps} {n f : Nat} {t : T3} {k : List Nat} {v : Tv} (h : p.tk n k v) (n1 : seesB k v kKey [wBase, wDerived] = false) (n2 : seesB k v kKey [wNever] = false) (n3 : seesB k v kKey [wRule] = false) (hf : 0 < f) : p.prog3 f t n = .no (p.at n) := by
  obtain ⟨f, rfl⟩ : ∃ k, f = k + 1 := ⟨f - 1, by omega⟩
  show p.program (f + 1) t.1 t.2.1 t.2.2 n = _
  rw [Ps.program, if_pos (tk_lt h), tk_sees h, n1, if_neg Bool.false_ne_true, tk_no h n2, bind_ok, if_neg Bool.false_ne_true]
  unfold Ps.rule
  rw [tk_no h n3, bind_ok, if_neg Bool.false_ne_true]
  rfl
theorem PT_of {p : Ps} : PT p = match p.prog3 (p.ts.length + 1) ([], [], []) 0 with
  | .no j => .no j
  | .ok d _ => .tree d := rfl
/-! ### a text of which the first part is known -/
def wps (ws : List Wrd) : Ps := ⟨ws.map fun x => ((cls x).1, (cls x).2, 0), 0⟩
theorem wps_hs (ws : List Wrd) : (wps ws).hs 0 ws := fun j x e => ⟨0, by
  show (ws.map _)[0 + j]? = _
  rw [Nat.zero_add, List.getElem?_map, e]
  rfl⟩
theorem wps_len (ws : List Wrd) : (wps ws).ts.length = ws.length := List.length_map _
theorem sim_of {ws : List Wrd} {p : Ps} {n : Nat} (h : p.hs 0 (ws.take n)) (hn : n ≤ ws.length) (l : n ≤ 4000) (hb : p.ts[n]? = none ∨ p.tk n kKey (.s wIf)) : Sim (wps ws) p n := by
  refine ⟨fun j hj => ?_, hb, l⟩
  have e : ws[j]? = some ws[j] := List.getElem?_eq_getElem (by omega)
  have a := wps_hs ws j _ e
  have b := h j ws[j] (by rw [List.getElem?_take_of_lt hj]; exact e)
  rw [Nat.zero_add] at a b
  exact ⟨_, _, a, b⟩
theorem cls_if {x : Wrd} (h : seesB (cls x).1 (cls x).2 kKey [wIf] = true) : x = wIf := by
  obtain ⟨h1, h2⟩ := Bool.and_eq_true_iff.mp h
  have e1 := of_decide_eq_true h1
  have e2 : (cls x).2 = .s wIf := by simpa using h2
  unfold cls at e1 e2
  split at e1
  · rename_i c
    rw [if_pos c] at e2
    exact Tv.s.inj e2
  · split at e1
    · exact absurd e1 (show ¬ kNum = kKey by decide)
    · split at e1
      · exact absurd e1 (show ¬ kQuo = kKey by decide)
      · exact absurd e1 (show ¬ kSign = kKey by decide)
theorem item_sim {w p : Ps} {n i : Nat} {I : List Wrd} (hI : ItemW I) (a : w.hs i I) (l : i + I.length ≤ 4000) (st : w.stop (i + I.length)) (S : Sim w p n) (hi : i < n) (he : Ends w p n (i + I.length)) (f : Nat) (t : T3) :
    p.prog3 (f + 1) t i = .no (p.at n) ∨ ∃ t', p.prog3 (f + 1) t i = p.prog3 f t' n := by
  have ne : n ≤ i + I.length := by rcases he with ⟨h, _⟩ | ⟨h, _⟩ <;> omega
  have at0 : ∀ {x : Wrd} {r : List Wrd}, I = x :: r → p.tk i (cls x).1 (cls x).2 := fun {x r} e => by
    obtain ⟨k, v, b, c⟩ := S.eq i hi
    obtain ⟨e1, e2⟩ := tk_same b (a 0 x (by rw [e]; rfl))
    rw [← e1, ← e2]
    exact c
  cases hI with
  | rule hr =>
    obtain ⟨d, _, h1⟩ := rule_acc hr
    have p0 : p.tk i kKey (.s wRule) := by
      cases hr with
      | bare _ _ _ => exact at0 rfl
      | body _ _ _ _ => exact at0 rfl
    rcases rule_sim S hi (h1 w i a l st) he with z | ⟨d', z⟩
    · exact .inl (prog_no p0 z f t.1 t.2.1 t.2.2)
    · exact .inr ⟨put .rul d' t, prog_rule p0 z f t.1 t.2.1 t.2.2⟩
  | @never b hb =>
    obtain ⟨u, _, h4⟩ := body_acc hb
    have p0 : p.tk i kKey (.s wNever) := at0 rfl
    have l4 := S.few
    obtain ⟨a1, a2⟩ := hs_cons a
    obtain ⟨a2, a3⟩ := hs_cons a2
    obtain ⟨a3, a4⟩ := hs_cons a3
    rw [List.length_cons, List.length_cons, List.length_cons] at l st he
    rw [show i + (b.length + 1 + 1 + 1) = i + 1 + 1 + 1 + b.length by omega] at l st he
    have hw := never_tail (show w.tk (i + 1) kName (.s wBad0) from a2) a3 (by omega) (h4 w _ a4 (by omega) st)
    have go : ∀ r, p.neverTail (i + 1) = r → p.prog3 (f + 1) t i = r.bind fun d j => p.prog3 f (put .nev d t) j := fun r e => by
      show p.program (f + 1) t.1 t.2.1 t.2.2 i = _
      rw [Ps.program, if_pos (tk_lt p0), tk_sees p0, if_neg (by decide), tk_acc p0 (by omega), bind_ok, if_pos rfl, e]
      rfl
    rcases never_sim S (by omega) hw he with z | ⟨d', z⟩
    · exact .inl (by rw [go _ z]; rfl)
    · exact .inr ⟨put .nev d' t, by rw [go _ z]; rfl⟩
  | @rel x m ss hw hn hs hl =>
    obtain ⟨d, _, h1⟩ := rel_acc hw hn hs hl
    have cw : cls x = (kKey, .s x) ∧ seesB kKey (.s x) kKey [wBase, wDerived] = true := (by decide : ∀ w ∈ [wBase, wDerived], cls w = (kKey, .s w) ∧ seesB kKey (.s w) kKey [wBase, wDerived] = true) x hw
    have p0 := at0 rfl
    rw [cw.1] at p0
    have go : ∀ r, p.relation i = r → p.prog3 (f + 1) t i = r.bind fun d j => p.prog3 f (put .rel d t) j := fun r e => by
      show p.program (f + 1) t.1 t.2.1 t.2.2 i = _
      rw [Ps.program, if_pos (tk_lt p0), tk_sees p0, if_pos cw.2, e]
      rfl
    rcases rel_sim S hi (h1 w i a l) ne with z | ⟨d', z⟩
    · exact .inl (by rw [go _ z]; rfl)
    · exact .inr ⟨put .rel d' t, by rw [go _ z]; rfl⟩
theorem split_at : ∀ (L : List (List Wrd)) (n : Nat), 0 < n → n ≤ L.flatten.length → ∃ A I B, L = A ++ I :: B ∧ A.flatten.length < n ∧ n ≤ A.flatten.length + I.length
  | [], n, h0, h => absurd h (by show ¬ n ≤ 0; omega)
  | I :: r, n, h0, h => by
    rw [List.flatten_cons, List.length_append] at h
    rcases Nat.lt_or_ge I.length n with l | l
    · obtain ⟨A, J, B, rfl, h1, h2⟩ := split_at r (n - I.length) (by omega) (by omega)
      refine ⟨I :: A, J, B, rfl, ?_, ?_⟩
      · rw [List.flatten_cons, List.length_append]; omega
      · rw [List.flatten_cons, List.length_append]; omega
    · exact ⟨[], I, r, rfl, h0, by show n ≤ 0 + _; omega⟩
/-- what the law asks of a reading of a row of words; fs: where items begin -/
structure Reads (TT : Ps → Out) (ws : List Wrd) (fs : List Nat) : Prop where
  all : ∃ d, Wd 18 d ∧ ∀ p : Ps, p.hs 0 ws → p.ts.length = ws.length → TT p = .tree d
  cut : ∀ (p : Ps) n, 0 < n → n ≤ ws.length → p.hs 0 (ws.take n) → p.ts.length = n → TT p = .no (p.at n) ∨ ∃ d, TT p = .tree d
  iff : ∀ (p : Ps) n, n < ws.length → n ∉ fs → ws[n]? ≠ some wIf → p.hs 0 (ws.take n) → p.tk n kKey (.s wIf) → TT p = .no (p.at n)
  close : ∀ p : Ps, p.hs 0 ws → p.tk ws.length kSign (.s gClose) → TT p = .no (p.at ws.length)
def starts (L : List (List Wrd)) : List Nat := (List.range L.length).map fun k => (L.take k).flatten.length
theorem prog_reads {L : List (List Wrd)} (hL : ∀ I ∈ L, ItemW I) (h0 : L ≠ []) (h4 : L.length ≤ 100) (hl : L.flatten.length ≤ 3000) : Reads PT L.flatten (starts L) := by
  have ge := flat_ge L hL
  obtain ⟨t, f1, f2⟩ := items_acc L 0 ([], [], []) hL fit0
  have pre : ∀ (p : Ps) n, 0 < n → n ≤ L.flatten.length → p.hs 0 (L.flatten.take n) → (p.ts[n]? = none ∨ (p.tk n kKey (.s wIf) ∧ n < L.flatten.length ∧ n ∉ starts L ∧ L.flatten[n]? ≠ some wIf)) → n ≤ p.ts.length → PT p = .no (p.at n) ∨ (p.ts[n]? = none ∧ ∃ d, PT p = .tree d) := fun p n hn hn2 hp hb hlen => by
    obtain ⟨A, I, B, rfl, s1, s2⟩ := split_at L n hn hn2
    have S := sim_of hp hn2 (by omega) (hb.imp (fun z => z) (fun z => z.1))
    have hA : ∀ J ∈ A, ItemW J := fun J hJ => hL J (List.mem_append_left _ hJ)
    have hI : ItemW I := hL I (List.mem_append_right _ (List.mem_cons_self ..))
    have gA := flat_ge A hA
    have fl : (A ++ I :: B).flatten = A.flatten ++ (I ++ B.flatten) := by rw [List.flatten_append, List.flatten_cons]
    rw [fl] at hp hb hn2 S
    have lfl : (A.flatten ++ (I ++ B.flatten)).length ≤ 3000 := by rw [← fl]; exact hl
    have lfl2 := lfl
    rw [List.length_append, List.length_append] at lfl2
    have w0 := wps_hs (A.flatten ++ (I ++ B.flatten))
    obtain ⟨w1, w2⟩ := hs_app w0
    obtain ⟨w2, w3⟩ := hs_app w2
    rw [Nat.zero_add] at w2 w3
    -- the items ahead
    obtain ⟨tA, _, kA⟩ := items_acc A 0 ([], [], []) hA fit0
    have pA : p.hs 0 A.flatten := fun j x e => hp j x (by
      have lj : j < A.flatten.length := (List.getElem?_eq_some_iff.mp e).1
      rw [List.getElem?_take_of_lt (by omega), List.getElem?_append_left lj]
      exact e)
    obtain ⟨w, q, eI, cI, hw⟩ := item_head hI
    have pI : p.tk A.flatten.length kKey (.s w) := by
      have z := hp A.flatten.length w (by rw [List.getElem?_take_of_lt s1, List.getElem?_append_right (Nat.le_refl _), Nat.sub_self, eI]; rfl)
      rw [cI, Nat.zero_add] at z
      exact z
    have eA := kA p 0 pA (by omega) (by rw [Nat.zero_add]; exact stop_key4 pI hw) (p.ts.length + 1 - A.length)
    rw [show p.ts.length + 1 - A.length + A.length = p.ts.length + 1 by omega, Nat.zero_add] at eA
    -- the item
    have st : (wps (A.flatten ++ (I ++ B.flatten))).stop (A.flatten.length + I.length) := by
      cases B with
      | nil =>
        refine stop_end ?_
        rw [wps_len, List.length_append, List.length_append]
        show _ + (_ + 0) ≤ _
        omega
      | cons J r =>
        obtain ⟨w', q', e', c', hw'⟩ := item_head (hL J (List.mem_append_right _ (List.mem_cons_of_mem _ (List.mem_cons_self ..))))
        have z := w3 0 w' (by rw [List.flatten_cons, e']; rfl)
        rw [c'] at z
        exact stop_key4 (show (wps _).tk (A.flatten.length + I.length) kKey (.s w') from z) hw'
    have he : Ends (wps (A.flatten ++ (I ++ B.flatten))) p n (A.flatten.length + I.length) := by
      rcases hb with hb | ⟨hb, hb2, hb3, hb4⟩
      · exact .inr ⟨s2, hb⟩
      · refine .inl ⟨?_, ?_⟩
        · rcases Nat.lt_or_ge n (A.flatten.length + I.length) with z | z
          · exact z
          · exfalso
            refine hb3 (List.mem_map.mpr ⟨A.length + 1, List.mem_range.mpr ?_, ?_⟩)
            · rw [List.length_append, List.length_cons]
              have : B ≠ [] := fun e => by
                subst e
                rw [List.length_append, List.length_append] at hb2
                have : ([] : List (List Wrd)).flatten.length = 0 := rfl
                omega
              have := List.length_pos_iff.mpr this
              omega
            · rw [show A ++ I :: B = (A ++ [I]) ++ B by simp, List.take_left' (by simp), List.flatten_append, List.length_append]
              show _ + (I ++ []).length = n
              rw [List.append_nil]
              omega
        · have e := List.getElem?_eq_getElem hb2
          have z := w0 n _ e
          rw [Nat.zero_add] at z
          rw [tk_sees z]
          cases c : seesB (cls (A.flatten ++ (I ++ B.flatten))[n]).1 (cls (A.flatten ++ (I ++ B.flatten))[n]).2 kKey [wIf] with
          | false => rfl
          | true => exact absurd (by rw [e, cls_if c]) hb4
    have fin : ∀ f t', 0 < f → (p.prog3 f t' n = .no (p.at n)) ∨ (p.ts[n]? = none ∧ ∃ d, p.prog3 f t' n = .ok d n) := fun f t' hf => by
      rcases hb with hb | ⟨hb, _⟩
      · exact .inr ⟨hb, _, out_end (List.getElem?_eq_none_iff.mp hb) hf⟩
      · exact .inl (out_bad hb (by decide) (by decide) (by decide) hf)
    obtain ⟨f, ef⟩ : ∃ f, p.ts.length + 1 - A.length = f + 1 + 1 := ⟨p.ts.length + 1 - A.length - 2, by omega⟩
    rw [ef] at eA
    rw [PT_of, eA]
    rcases item_sim hI w2 (by omega) st S s1 he (f + 1) tA with z | ⟨t', z⟩
    · exact .inl (by rw [z])
    · rw [z]
      rcases fin (f + 1) t' (by omega) with y | ⟨y1, d, y⟩
      · exact .inl (by rw [y])
      · exact .inr ⟨y1, d, by rw [y]⟩
  refine ⟨?_, ?_, ?_, ?_⟩
  · obtain ⟨g1, g2, g3, g4, g5, g6⟩ := f1
    refine ⟨dT [dS wProgram, dT t.1, dT t.2.1, dT t.2.2], wd_four (wd_str 17 _) (wd_tup (by omega) g4) (wd_tup (by omega) g5) (wd_tup (by omega) g6), fun p hp hlen => ?_⟩
    have e := f2 p 0 hp (by omega) (by rw [Nat.zero_add]; exact stop_end (by omega)) (p.ts.length + 1 - L.length)
    rw [show p.ts.length + 1 - L.length + L.length = p.ts.length + 1 by omega, Nat.zero_add, out_end (t := t) (n := L.flatten.length) (by omega) (by omega)] at e
    rw [PT_of, e]
  · intro p n hn hn2 hp hlen
    rcases pre p n hn hn2 hp (.inl (List.getElem?_eq_none_iff.mpr (by omega))) (by omega) with z | ⟨_, z⟩
    · exact .inl z
    · exact .inr z
  · intro p n hn hs hw hp ht
    have n0 : 0 < n := by
      rcases Nat.eq_zero_or_pos n with z | z
      · subst z
        exact absurd (List.mem_map.mpr ⟨0, List.mem_range.mpr (List.length_pos_iff.mpr h0), rfl⟩) hs
      · exact z
    have := tk_lt ht
    rcases pre p n n0 (by omega) hp (.inr ⟨ht, hn, hs, hw⟩) (by omega) with z | ⟨z, _⟩
    · exact z
    · obtain ⟨x, e⟩ := ht
      rw [e] at z
      cases z
  · intro p hp ht
    have := tk_lt ht
    have e := f2 p 0 hp (by omega) (by rw [Nat.zero_add]; exact stop_close ht) (p.ts.length + 1 - L.length)
    rw [show p.ts.length + 1 - L.length + L.length = p.ts.length + 1 by omega, Nat.zero_add, out_bad ht (by decide) (by decide) (by decide) (by omega)] at e
    rw [PT_of, e]
/-! ### one rule -/
theorem rule_reads {ws : List Wrd} (hr : RuleW ws) (hl : ws.length ≤ 3000) : Reads RT ws [0] ∧ (∀ p : Ps, p.hs 0 ws → p.tk ws.length kKey (.s wRule) → RT p = .no (p.at ws.length)) ∧
    ∃ d, Wd 16 d ∧ ∀ p : Ps, p.hs 0 ws → p.ts.length = ws.length → RT p = .tree d ∧ PT p = .tree (dT [dS wProgram, dT [], dT [d], dT []]) := by
  obtain ⟨d, hd, h1⟩ := rule_acc hr
  have w0 : ∀ p : Ps, p.hs 0 ws → p.tk 0 kKey (.s wRule) := fun p hp => by
    cases hr with
    | bare _ _ _ => exact (hs_cons hp).1
    | body _ _ _ _ => exact (hs_cons hp).1
  have all : ∀ p : Ps, p.hs 0 ws → p.ts.length = ws.length → RT p = .tree d := fun p hp hlen => by
    have e := h1 p 0 hp (by omega) (by rw [Nat.zero_add]; exact stop_end (by omega))
    rw [Nat.zero_add] at e
    unfold RT
    rw [e]
    dsimp only
    rw [if_neg (by omega)]
  have more : ∀ p : Ps, p.hs 0 ws → p.stop ws.length → ws.length < p.ts.length → RT p = .no (p.at ws.length) := fun p hp hs hlt => by
    have e := h1 p 0 hp (by omega) (by rw [Nat.zero_add]; exact hs)
    rw [Nat.zero_add] at e
    unfold RT
    rw [e]
    dsimp only
    rw [if_pos hlt]
  have wst : (wps ws).stop (0 + ws.length) := by
    rw [Nat.zero_add]
    exact stop_end (by rw [wps_len]; exact Nat.le_refl _)
  have pre : ∀ (p : Ps) n, 0 < n → n ≤ ws.length → p.hs 0 (ws.take n) → (p.ts[n]? = none ∨ (p.tk n kKey (.s wIf) ∧ n < ws.length ∧ ws[n]? ≠ some wIf)) → RT p = .no (p.at n) ∨ (p.ts[n]? = none ∧ ∃ d, RT p = .tree d) := fun p n hn hn2 hp hb => by
    have S := sim_of hp hn2 (by omega) (hb.imp (fun z => z) (fun z => z.1))
    have he : Ends (wps ws) p n (0 + ws.length) := by
      rw [Nat.zero_add]
      rcases hb with hb | ⟨hb, hb2, hb4⟩
      · exact .inr ⟨hn2, hb⟩
      · refine .inl ⟨hb2, ?_⟩
        have e := List.getElem?_eq_getElem hb2
        have z := wps_hs ws n _ e
        rw [Nat.zero_add] at z
        rw [tk_sees z]
        cases c : seesB (cls ws[n]).1 (cls ws[n]).2 kKey [wIf] with
        | false => rfl
        | true => exact absurd (by rw [e, cls_if c]) hb4
    rcases rule_sim S hn (h1 (wps ws) 0 (wps_hs ws) (by omega) wst) he with z | ⟨d', z⟩
    · exact .inl (by unfold RT; rw [z])
    · unfold RT
      rw [z]
      dsimp only
      by_cases c : n < p.ts.length
      · rw [if_pos c]
        exact .inl rfl
      · rw [if_neg c]
        exact .inr ⟨List.getElem?_eq_none_iff.mpr (by omega), _, rfl⟩
  refine ⟨⟨⟨d, hd.le (by omega), all⟩, ?_, ?_, ?_⟩, ?_, d, hd, fun p hp hlen => ⟨all p hp hlen, ?_⟩⟩
  · intro p n hn hn2 hp hlen
    rcases pre p n hn hn2 hp (.inl (List.getElem?_eq_none_iff.mpr (by omega))) with z | ⟨_, z⟩
    · exact .inl z
    · exact .inr z
  · intro p n hn hs hw hp ht
    have n0 : 0 < n := by
      rcases Nat.eq_zero_or_pos n with z | z
      · subst z
        exact absurd (List.mem_cons_self ..) hs
      · exact z
    rcases pre p n n0 (by omega) hp (.inr ⟨ht, hn, hw⟩) with z | ⟨z, _⟩
    · exact z
    · obtain ⟨x, e⟩ := ht
      rw [e] at z
      cases z
  · intro p hp ht
    exact more p hp (stop_close ht) (tk_lt ht)
  · intro p hp ht
    exact more p hp (stop_key4 ht (by decide)) (tk_lt ht)
  · have e := h1 p 0 hp (by omega) (by rw [Nat.zero_add]; exact stop_end (by omega))
    rw [Nat.zero_add] at e
    have z : p.prog3 (p.ts.length + 1) ([], [], []) 0 = p.prog3 p.ts.length (put .rul d ([], [], [])) ws.length := prog_rule (w0 p hp) e _ _ _ _
    have lt := tk_lt (w0 p hp)
    rw [PT_of, z, out_end (by omega) (by omega)]
    rfl
end K9
set_option Elab.async false
set_option maxRecDepth 100000
namespace K9
open PySem
/-! ### words that are drawn, and their number -/
def WORDS : List Wrd := [gOpen, gClose, gComma, gPlus, gMinus, gTimes, gDiv, wMod, gLt, gLe, gEq, wX, w3, w5, w7, w12, wBob, wAnn, wY1, wCount, wSum, wLeast, wK0, wEdge, wA39b, wA39c, wPath, wZ, wBad0, wNot, wLet, wIf, wRule, wNever, wBase, wDerived, wNumber, wWord]
theorem words_tok : ∀ x ∈ WORDS, tokB (cls x).1 (cls x).2 x = true := by decide +kernel
theorem words_len : ∀ x ∈ WORDS, x ≠ [] ∧ x.length ≤ 40 := by decide +kernel
abbrev AllW (ws : List Wrd) : Prop := ∀ x ∈ ws, x ∈ WORDS
theorem allw_app {a b : List Wrd} (h : AllW a) (h' : AllW b) : AllW (a ++ b) := fun x hx => by
  rcases List.mem_append.mp hx with hx | hx
  · exact h x hx
  · exact h' x hx
theorem allw_cons {x : Wrd} {b : List Wrd} (h : x ∈ WORDS) (h' : AllW b) : AllW (x :: b) := fun y hy => by
  rcases List.mem_cons.mp hy with rfl | hy
  · exact h
  · exact h' y hy
theorem allw_nil : AllW [] := fun x hx => by cases hx
theorem allw_tail : ∀ r : List (List Wrd), (∀ P ∈ r, AllW P) → AllW (tailW r)
  | [], _ => allw_nil
  | P :: r, h => by
    show AllW (gComma :: P ++ tailW r)
    exact allw_app (allw_cons (by decide) (h P (List.mem_cons_self ..))) (allw_tail r (fun Q hQ => h Q (List.mem_cons_of_mem _ hQ)))
theorem allw_row {r : List (List Wrd)} (h : ∀ P ∈ r, AllW P) : AllW (rowW r) := by
  unfold rowW
  refine allw_cons (by decide) (allw_app ?_ (allw_cons (by decide) allw_nil))
  cases r with
  | nil => exact allw_nil
  | cons P r =>
    rw [commas_cons]
    exact allw_app (h P (List.mem_cons_self ..)) (allw_tail r (fun Q hQ => h Q (List.mem_cons_of_mem _ hQ)))
theorem tail_len (k : Nat) : ∀ r : List (List Wrd), (∀ P ∈ r, P.length ≤ k) → (tailW r).length ≤ (k + 1) * r.length
  | [], _ => Nat.le_refl _
  | P :: r, h => by
    have h1 := h P (List.mem_cons_self ..)
    have ih := tail_len k r (fun Q hQ => h Q (List.mem_cons_of_mem _ hQ))
    show (gComma :: P ++ tailW r).length ≤ (k + 1) * (r.length + 1)
    rw [List.length_append, List.length_cons, Nat.mul_add, Nat.mul_one]
    omega
theorem row_len {k : Nat} {r : List (List Wrd)} (h : ∀ P ∈ r, P.length ≤ k) : (rowW r).length ≤ (k + 1) * r.length + 2 := by
  unfold rowW
  rw [List.length_cons, List.length_append]
  cases r with
  | nil => exact Nat.le_add_left _ _
  | cons P r =>
    have h1 := h P (List.mem_cons_self ..)
    have := tail_len k r (fun Q hQ => h Q (List.mem_cons_of_mem _ hQ))
    rw [commas_cons, List.length_append]
    show P.length + (tailW r).length + 1 + 1 ≤ (k + 1) * (r.length + 1) + 2
    rw [Nat.mul_add, Nat.mul_one]
    omega
theorem terms_w : ∀ P ∈ TERMS ++ HTERMS, AllW P ∧ P.length ≤ 2 := by decide +kernel
theorem sorts_w : ∀ P ∈ SORTS, AllW P ∧ P.length ≤ 2 := by decide +kernel
theorem names_w : ∀ n ∈ NAMES, n ∈ WORDS := by decide +kernel
theorem eat_w : ∀ P ∈ EAT, AllW P ∧ P.length ≤ 2 := by decide +kernel
theorem ops_w : ∀ s ∈ OPS, s ∈ WORDS := by decide +kernel
theorem cmps_w : ∀ s ∈ CMPS, s ∈ WORDS := by decide +kernel
theorem expr_w {d : Nat} {ws : List Wrd} (h : ExprW d ws) : AllW ws ∧ ws.length + 1 ≤ 2 ^ d * 3 := by
  induction h with
  | @atom d ws h =>
    obtain ⟨h1, h2⟩ := eat_w ws h
    have := Nat.one_le_two_pow (n := d)
    exact ⟨h1, by omega⟩
  | @par d ws h ih =>
    refine ⟨allw_cons (by decide) (allw_app ih.1 (allw_cons (by decide) allw_nil)), ?_⟩
    have := Nat.one_le_two_pow (n := d)
    rw [List.length_cons, List.length_append, List.length_singleton, Nat.pow_succ]
    omega
  | @op d a b s _ _ hs iha ihb =>
    refine ⟨allw_app iha.1 (allw_cons (ops_w s hs) ihb.1), ?_⟩
    rw [List.length_append, List.length_cons, Nat.pow_succ]
    omega
theorem part_w {ws : List Wrd} (h : PartW ws) : AllW ws ∧ ws.length ≤ 20 := by
  cases h with
  | @fact n ts hn ht hl =>
    have := row_len (k := 2) (r := ts) (fun P hP => (terms_w P (List.mem_append_left _ (ht P hP))).2)
    exact ⟨allw_cons (names_w n hn) (allw_row fun P hP => (terms_w P (List.mem_append_left _ (ht P hP))).1), by rw [List.length_cons]; omega⟩
  | @not n ts hn ht hl =>
    have := row_len (k := 2) (r := ts) (fun P hP => (terms_w P (List.mem_append_left _ (ht P hP))).2)
    exact ⟨allw_cons (by decide +kernel) (allw_cons (names_w n hn) (allw_row fun P hP => (terms_w P (List.mem_append_left _ (ht P hP))).1)), by rw [List.length_cons, List.length_cons]; omega⟩
  | @lete e he =>
    obtain ⟨h1, h2⟩ := expr_w he
    exact ⟨allw_cons (by decide +kernel) (allw_cons (by decide +kernel) (allw_cons (by decide +kernel) h1)), by rw [List.length_cons, List.length_cons, List.length_cons]; omega⟩
  | @test x y s hx hy hs =>
    obtain ⟨h1, h2⟩ := expr_w hx
    obtain ⟨h3, h4⟩ := expr_w hy
    exact ⟨allw_app h1 (allw_cons (cmps_w s hs) h3), by rw [List.length_append, List.length_cons]; omega⟩
theorem body_w {ws : List Wrd} (h : BodyW ws) : AllW ws ∧ ws.length ≤ 62 := by
  obtain ⟨P, ps, hP, hps, hl, rfl⟩ := h
  have := tail_len 20 ps (fun Q hQ => (part_w (hps Q hQ)).2)
  obtain ⟨h1, h2⟩ := part_w hP
  exact ⟨allw_app h1 (allw_tail ps fun Q hQ => (part_w (hps Q hQ)).1), by rw [List.length_append]; omega⟩
theorem rule_w {ws : List Wrd} (h : RuleW ws) : AllW ws ∧ ws.length ≤ 80 := by
  cases h with
  | @bare n ts hn ht hl =>
    have := row_len (k := 2) (r := ts) (fun P hP => (terms_w P (ht P hP)).2)
    exact ⟨allw_cons (by decide +kernel) (allw_cons (names_w n hn) (allw_row fun P hP => (terms_w P (ht P hP)).1)), by rw [List.length_cons, List.length_cons]; omega⟩
  | @body n ts b hn ht hl hb =>
    have := row_len (k := 2) (r := ts) (fun P hP => (terms_w P (ht P hP)).2)
    obtain ⟨h1, h2⟩ := body_w hb
    exact ⟨allw_cons (by decide +kernel) (allw_cons (names_w n hn) (allw_app (allw_row fun P hP => (terms_w P (ht P hP)).1) (allw_cons (by decide +kernel) h1))), by rw [List.length_cons, List.length_cons, List.length_append, List.length_cons]; omega⟩
theorem item_w {ws : List Wrd} (h : ItemW ws) : AllW ws ∧ ws.length ≤ 80 := by
  cases h with
  | rule hr => exact rule_w hr
  | @never b hb =>
    obtain ⟨h1, h2⟩ := body_w hb
    exact ⟨allw_cons (by decide +kernel) (allw_cons (by decide +kernel) (allw_cons (by decide +kernel) h1)), by rw [List.length_cons, List.length_cons, List.length_cons]; omega⟩
  | @rel w n ss hw hn hs hl =>
    have := row_len (k := 2) (r := ss) (fun P hP => (sorts_w P (hs P hP)).2)
    exact ⟨allw_cons ((by decide +kernel : ∀ w ∈ [wBase, wDerived], w ∈ WORDS) w hw) (allw_cons (names_w n hn) (allw_row fun P hP => (sorts_w P (hs P hP)).1)), by rw [List.length_cons, List.length_cons]; omega⟩
/-! ### written texts -/
abbrev GW := List Nat × Wrd
def tkw (x : GW) : Tk4 := ⟨x.1, (cls x.2).1, (cls x.2).2, x.2⟩
def mkL (gl : List GW) : List Tk4 := gl.map tkw
def txtW (gl : List GW) : List Nat := txt4 (mkL gl)
structure Wr (gl : List GW) : Prop where
  row : row4 (fun _ => false) (mkL gl) = true
  wd : ∀ x ∈ gl, x.2 ∈ WORDS ∧ x.1.length ≤ 2
theorem mkL_app (a b : List GW) : mkL (a ++ b) = mkL a ++ mkL b := List.map_append
theorem txtW_app (a b : List GW) : txtW (a ++ b) = txtW a ++ txtW b := by
  unfold txtW
  rw [mkL_app, txt4_app]
theorem txtW_one (x : GW) : txtW [x] = x.1 ++ x.2 := by
  show x.1 ++ (x.2 ++ []) = _
  rw [List.append_nil]
theorem txtW_len : ∀ gl : List GW, (∀ x ∈ gl, x.2 ∈ WORDS ∧ x.1.length ≤ 2) → (txtW gl).length ≤ 42 * gl.length
  | [], _ => Nat.le_refl _
  | x :: r, h => by
    obtain ⟨h1, h2⟩ := h x (List.mem_cons_self ..)
    have := (words_len x.2 h1).2
    have ih := txtW_len r (fun y hy => h y (List.mem_cons_of_mem _ hy))
    show (x.1 ++ (x.2 ++ txtW r)).length ≤ 42 * (r.length + 1)
    rw [List.length_append, List.length_append]
    omega
theorem hs_pos {gl : List GW} {n : Nat} (rest : List Tk4) : (Ps.mk (pos4 0 (mkL gl ++ rest)) n).hs 0 (gl.map (·.2)) := fun j x e => by
  rw [List.getElem?_map] at e
  obtain ⟨y, hy, rfl⟩ := Option.map_eq_some_iff.mp e
  have lt : j < (mkL gl).length := by
    unfold mkL
    rw [List.length_map]
    exact (List.getElem?_eq_some_iff.mp hy).1
  have g := pos4_get (mkL gl ++ rest) 0 j (tkw y) (by rw [List.getElem?_append_left lt]; unfold mkL; rw [List.getElem?_map, hy]; rfl)
  rw [Nat.zero_add]
  exact ⟨_, g⟩
theorem mkL_len (gl : List GW) : (mkL gl).length = gl.length := List.length_map _
theorem row_tok {p : Nat → Bool} {x : GW} {r : List Tk4} (h : x.2 ∈ WORDS) (g : gapOk p (tkw x) = true) (hr : row4 (stopOf (cls x.2).1 x.2) r = true) : row4 p (tkw x :: r) = true := by
  show (gapOk p (tkw x) && (tokB (cls x.2).1 (cls x.2).2 x.2 && row4 (stopOf (cls x.2).1 x.2) r)) = true
  rw [g, words_tok x.2 h, hr]
  rfl
/-- blanks ahead of a word; none only at the begin -/
def BlGap (p : Nat → Bool) (b : List Nat) : Prop := (∀ c ∈ b, isBl c = true) ∧ (b = [] → p = fun _ => false)
theorem bl_gap {p : Nat → Bool} {b : List Nat} {x : Wrd} (h : BlGap p b) (hp : blP p) : gapOk p (tkw (b, x)) = true := by
  obtain ⟨h1, h2⟩ := h
  cases b with
  | nil =>
    rw [h2 rfl]
    rfl
  | cons c r =>
    have hc : c ∈ ([32, 10] : List Nat) := of_decide_eq_true (h1 c (List.mem_cons_self ..))
    have pc : p c = false := by
      rcases List.mem_cons.mp hc with rfl | hc
      · exact hp.1
      · rw [List.mem_singleton.mp hc]
        exact hp.2
    show ((c :: r).all isBl && !p c) = true
    rw [List.all_eq_true.mpr h1, pc]
    rfl
theorem read_odd (t r : List Nat) : readTok (t ++ (63 :: r)) t.length = .no t.length := by
  have g0 : (t ++ (63 :: r)).getD t.length 0 = 63 := getD_app _ _
  have q : quoAt (t ++ (63 :: r)) t.length = false := by
    unfold quoAt
    rw [g0]
    rfl
  have fd : SG.find? (sgAt (t ++ (63 :: r)) t.length) = none := by
    rw [List.find?_eq_none]
    intro g hg
    rw [sgAt_iff]
    have key : ∀ g ∈ SG, ∃ d q, g = d :: q ∧ d ≠ 63 := by
      intro g hg
      simp only [SG, List.mem_cons, List.not_mem_nil, or_false] at hg
      rcases hg with rfl | rfl | rfl | rfl | rfl | rfl | rfl | rfl | rfl | rfl <;> exact ⟨_, _, rfl, by decide⟩
    obtain ⟨d, q, rfl, hd⟩ := key g hg
    simp [Ne.symm hd]
  unfold readTok
  rw [g0, if_neg (show ¬ isLet 63 = true by decide), if_neg (show ¬ isDig 63 = true by decide), if_neg (by rw [q]; exact Bool.false_ne_true), fd]
theorem go_odd {T : List Nat} {D : List Tok} {p : Nat → Bool} (h : Good T D p) (hp : p 63 = false) (r : List Nat) : go (T ++ (63 :: r)) 0 [] = .inl T.length := by
  rw [h (63 :: r) (bd_cons hp)]
  exact go_no (by simp) (by rw [getD_app]; rfl) (read_odd T r)
theorem good_bl0 {T : List Nat} {D : List Tok} {p : Nat → Bool} {b : List Nat} (h : Good T D p) (hb : BlGap p b) (hp : blP p) : Good (T ++ b) D (fun _ => false) := by
  obtain ⟨h1, h2⟩ := hb
  cases b with
  | nil =>
    rw [List.append_nil, ← h2 rfl]
    exact h
  | cons c r =>
    have hc : c ∈ ([32, 10] : List Nat) := of_decide_eq_true (h1 c (List.mem_cons_self ..))
    have pc : p c = false := by
      rcases List.mem_cons.mp hc with rfl | hc
      · exact hp.1
      · rw [List.mem_singleton.mp hc]
        exact hp.2
    rw [show T ++ c :: r = T ++ [c] ++ r by simp]
    exact good_bls r (good_bl h pc (h1 c (List.mem_cons_self ..))) fun d hd => h1 d (List.mem_cons_of_mem _ hd)
/-- how a reading of texts reads tokens -/
def Reader (out : List Nat → Out) (TT : Ps → Out) : Prop := ∀ t, out t = match go t 0 [] with
  | .inl j => .no j
  | .inr ts => TT ⟨ts, t.length⟩
theorem reader_parse : Reader parseL PT := fun t => by
  unfold parseL PT
  cases go t 0 [] <;> rfl
theorem reader_rule : Reader ruleL RT := fun t => by
  unfold ruleL RT
  cases go t 0 [] with
  | inl j => rfl
  | inr ts =>
    dsimp only
    all_goals (cases (Ps.mk ts t.length).rule 0 <;> rfl)
section
variable {out : List Nat → Out} {TT : Ps → Out} {ws : List Wrd} {fs : List Nat} {gl : List GW}
theorem rd_row (R : Reader out TT) {l : List Tk4} (h : row4 (fun _ => false) l = true) : out (txt4 l) = TT ⟨pos4 0 l, (txt4 l).length⟩ := by
  have g := go4 l [] h (fun c hc => by cases hc)
  rw [List.append_nil] at g
  rw [R, g]
theorem rd_no (R : Reader out TT) {t : List Nat} {j : Nat} (h : go t 0 [] = .inl j) : out t = .no j := by rw [R, h]
theorem w_all (R : Reader out TT) (G : Reads TT ws fs) : ∃ d, Wd 18 d ∧ ∀ gl, Wr gl → gl.map (·.2) = ws → out (txtW gl) = .tree d := by
  obtain ⟨d, hd, h⟩ := G.all
  refine ⟨d, hd, fun gl W e => ?_⟩
  have z := hs_pos (gl := gl) (n := (txtW gl).length) []
  rw [List.append_nil, e] at z
  unfold txtW at z ⊢
  rw [rd_row R W.row]
  refine h _ z ?_
  show (pos4 0 (mkL gl)).length = _
  rw [pos4_len, mkL_len, ← e, List.length_map]
theorem row4_take {gl : List GW} (n : Nat) (h : row4 (fun _ => false) (mkL gl) = true) : row4 (fun _ => false) (mkL (gl.take n)) = true ∧ row4 (last4 (fun _ => false) (mkL (gl.take n))) (mkL (gl.drop n)) = true := by
  have e : mkL gl = mkL (gl.take n) ++ mkL (gl.drop n) := by rw [← mkL_app, List.take_append_drop]
  rw [e, row4_app] at h
  exact Bool.and_eq_true_iff.mp h
theorem w_cut (R : Reader out TT) (G : Reads TT ws fs) (W : Wr gl) (e : gl.map (·.2) = ws) {n : Nat} (h0 : 0 < n) (hn : n ≤ gl.length) : out (txtW (gl.take n)) = .no (txtW (gl.take n)).length ∨ ∃ d, out (txtW (gl.take n)) = .tree d := by
  have z := hs_pos (gl := gl.take n) (n := (txtW (gl.take n)).length) []
  rw [List.append_nil, List.map_take, e] at z
  have lw : ws.length = gl.length := by rw [← e, List.length_map]
  have ln : (Ps.mk (pos4 0 (mkL (gl.take n))) (txtW (gl.take n)).length).ts.length = n := by
    show (pos4 0 _).length = n
    rw [pos4_len, mkL_len, List.length_take]
    omega
  have k := G.cut _ n h0 (by omega) z ln
  rw [at_end (by omega)] at k
  unfold txtW at k ⊢
  rw [rd_row R (row4_take n W.row).1]
  exact k
/-- the place behind n words, a word that stands there -/
theorem w_close (R : Reader out TT) (G : Reads TT ws fs) (W : Wr gl) (e : gl.map (·.2) = ws) : out (txtW gl ++ [32, 41]) = .no ((txtW gl).length + 1) := by
  have lw : ws.length = gl.length := by rw [← e, List.length_map]
  have hr : row4 (fun _ => false) (mkL gl ++ [tkw ([32], gClose)]) = true := by
    rw [row4_app, W.row]
    exact row_tok (x := ([32], gClose)) (by decide +kernel) (bl_gap ⟨by decide, fun z => by cases z⟩ (last_bl _ _ ⟨rfl, rfl⟩)) rfl
  have et : txtW gl ++ [32, 41] = txt4 (mkL gl ++ [tkw ([32], gClose)]) := by rw [txt4_app]; rfl
  rw [et, rd_row R hr]
  have z := hs_pos (gl := gl) (n := (txt4 (mkL gl ++ [tkw ([32], gClose)])).length) [tkw ([32], gClose)]
  rw [e] at z
  have g := pos4_get (mkL gl ++ [tkw ([32], gClose)]) 0 gl.length (tkw ([32], gClose)) (by rw [List.getElem?_append_right (by rw [mkL_len]; exact Nat.le_refl _), mkL_len, Nat.sub_self]; rfl)
  rw [show (mkL gl ++ [tkw ([32], gClose)]).take gl.length = mkL gl by rw [← mkL_len, List.take_left]] at g
  rw [G.close _ z (by rw [lw]; exact ⟨_, g⟩)]
  unfold Ps.at
  rw [lw]
  simp only [g]
  show Out.no (0 + (txtW gl).length + 1) = _
  rw [Nat.zero_add]
theorem w_more {ws : List Wrd} (R : Reader out TT) (G : ∀ p : Ps, p.hs 0 ws → p.tk ws.length kKey (.s wRule) → TT p = .no (p.at ws.length)) (W : Wr gl) (e : gl.map (·.2) = ws) : out (txtW gl ++ [32,114,117,108,101,32,107,48,40,41]) = .no ((txtW gl).length + 1) := by
  have lw : ws.length = gl.length := by rw [← e, List.length_map]
  have hr : row4 (fun _ => false) (mkL gl ++ mkL [([32], wRule), ([32], wK0), ([], gOpen), ([], gClose)]) = true := by
    rw [row4_app, W.row]
    exact row_tok (x := ([32], wRule)) (by decide +kernel) (bl_gap ⟨by decide, fun z => by cases z⟩ (last_bl _ _ ⟨rfl, rfl⟩)) (by decide +kernel)
  have et : txtW gl ++ [32,114,117,108,101,32,107,48,40,41] = txt4 (mkL gl ++ mkL [([32], wRule), ([32], wK0), ([], gOpen), ([], gClose)]) := by rw [txt4_app]; rfl
  rw [et, rd_row R hr]
  have z := hs_pos (gl := gl) (n := (txt4 (mkL gl ++ mkL [([32], wRule), ([32], wK0), ([], gOpen), ([], gClose)])).length) (mkL [([32], wRule), ([32], wK0), ([], gOpen), ([], gClose)])
  rw [e] at z
  have g := pos4_get (mkL gl ++ mkL [([32], wRule), ([32], wK0), ([], gOpen), ([], gClose)]) 0 gl.length (tkw ([32], wRule)) (by rw [List.getElem?_append_right (by rw [mkL_len]; exact Nat.le_refl _), mkL_len, Nat.sub_self]; rfl)
  rw [show (mkL gl ++ mkL [([32], wRule), ([32], wK0), ([], gOpen), ([], gClose)]).take gl.length = mkL gl by rw [← mkL_len, List.take_left]] at g
  rw [G _ z (by rw [lw]; exact ⟨_, g⟩)]
  unfold Ps.at
  rw [lw]
  simp only [g]
  show Out.no (0 + (txtW gl).length + 1) = _
  rw [Nat.zero_add]
/-! ### a sign, a keyword put in: at: how many words stand ahead, b: the blanks there -/
def leftW (gl : List GW) (n : Nat) (b : List Nat) : List Nat := txtW (gl.take n) ++ b
/-- the text from a word on -/
def rightW (gl : List GW) (n : Nat) : List Nat := match gl.drop n with
  | [] => []
  | x :: r => x.2 ++ txtW r
structure Put (gl : List GW) (n : Nat) (b : List Nat) : Prop where
  lt : n < gl.length
  bl : ∀ c ∈ b, isBl c = true
  ne : b = [] → n = 0
theorem Put.gap {n : Nat} {b : List Nat} (P : Put gl n b) : BlGap (last4 (fun _ => false) (mkL (gl.take n))) b := ⟨P.bl, fun z => by rw [P.ne z]; rfl⟩
theorem w_odd (R : Reader out TT) (W : Wr gl) {n : Nat} {b : List Nat} (P : Put gl n b) (r : List Nat) : out (leftW gl n b ++ (63 :: r)) = .no (leftW gl n b).length := by
  have g := good4 (mkL (gl.take n)) good_nil (row4_take n W.row).1
  rw [List.nil_append] at g
  have g2 := good_bl0 g P.gap (last_bl _ _ ⟨rfl, rfl⟩)
  exact rd_no R (go_odd g2 rfl r)
/-- the row with words put in ahead of the n-th, the first of them behind b -/
def putL (gl : List GW) (n : Nat) (b : List Nat) (y : Wrd) (ys : List GW) : List Tk4 := mkL (gl.take n) ++ (tkw (b, y) :: mkL (ys ++ ([32], (gl.getD n ([], [])).2) :: gl.drop (n + 1)))
theorem put_row (W : Wr gl) {n : Nat} {b : List Nat} {y : Wrd} {ys : List GW} (P : Put gl n b) (hy : y ∈ WORDS) (hys : ∀ q, row4 (stopOf (cls y).1 y) (mkL ys ++ q) = row4 (last4 (stopOf (cls y).1 y) (mkL ys)) q) : row4 (fun _ => false) (putL gl n b y ys) = true := by
  obtain ⟨h1, h2⟩ := row4_take n W.row
  have dx : gl.drop n = (gl.getD n ([], [])) :: gl.drop (n + 1) := by
    rw [List.drop_eq_getElem_cons P.lt, List.getD_eq_getElem?_getD, List.getElem?_eq_getElem P.lt]
    rfl
  rw [dx] at h2
  have h3 : row4 (stopOf (cls (gl.getD n ([], [])).2).1 (gl.getD n ([], [])).2) (mkL (gl.drop (n + 1))) = true := by
    have z : (gapOk _ _ && (_ && row4 (stopOf (cls (gl.getD n ([], [])).2).1 (gl.getD n ([], [])).2) (mkL (gl.drop (n + 1))))) = true := h2
    exact (Bool.and_eq_true_iff.mp (Bool.and_eq_true_iff.mp z).2).2
  have hx : (gl.getD n ([], [])).2 ∈ WORDS := by
    rw [List.getD_eq_getElem?_getD, List.getElem?_eq_getElem P.lt]
    exact (W.wd _ (List.getElem_mem _)).1
  unfold putL
  rw [row4_app, h1]
  refine row_tok (x := (b, y)) hy (bl_gap P.gap (last_bl _ _ ⟨rfl, rfl⟩)) ?_
  rw [mkL_app, hys]
  have bp : blP (last4 (stopOf (cls y).1 y) (mkL ys)) := last_bl _ _ ⟨stop_sp _ _, stop_nl _ _⟩
  exact row_tok (x := ([32], (gl.getD n ([], [])).2)) hx (bl_gap ⟨by decide, fun z => by cases z⟩ bp) h3
theorem put_txt {n : Nat} {b : List Nat} {y : Wrd} {ys : List GW} (P : Put gl n b) : txt4 (putL gl n b y ys) = leftW gl n b ++ (y ++ (txtW ys ++ (32 :: rightW gl n))) := by
  have dx : gl.drop n = (gl.getD n ([], [])) :: gl.drop (n + 1) := by
    rw [List.drop_eq_getElem_cons P.lt, List.getD_eq_getElem?_getD, List.getElem?_eq_getElem P.lt]
    rfl
  have er : rightW gl n = (gl.getD n ([], [])).2 ++ txtW (gl.drop (n + 1)) := by
    unfold rightW
    rw [dx]
  unfold putL leftW
  rw [txt4_app, er]
  show txtW (gl.take n) ++ (b ++ (y ++ txtW (ys ++ ([32], (gl.getD n ([], [])).2) :: gl.drop (n + 1)))) = _
  rw [txtW_app, List.append_assoc]
  rfl
theorem w_odd2 (R : Reader out TT) (W : Wr gl) {n : Nat} {b : List Nat} (P : Put gl n b) : out (leftW gl n b ++ ([41,32,41,32,105,102,32] ++ rightW gl n) ++ [32, 63]) = .no ((leftW gl n b).length + ([41,32,41,32,105,102,32] ++ rightW gl n).length + 1) := by
  have hr := put_row (ys := [([32], gClose), ([32], wIf)]) W P (y := gClose) (by decide +kernel) (fun q => by
    rw [row4_app]
    have : row4 (stopOf (cls gClose).1 gClose) (mkL [([32], gClose), ([32], wIf)]) = true := by decide +kernel
    rw [this]
    rfl)
  have g := good4 _ good_nil hr
  rw [List.nil_append, put_txt P] at g
  have et : gClose ++ (txtW [([32], gClose), ([32], wIf)] ++ (32 :: rightW gl n)) = [41,32,41,32,105,102,32] ++ rightW gl n := rfl
  rw [et] at g
  have g2 := good_bl0 (b := [32]) g ⟨by decide, fun z => by cases z⟩ (last_bl _ _ ⟨rfl, rfl⟩)
  have z := go_odd g2 rfl []
  rw [rd_no R (show go (leftW gl n b ++ ([41,32,41,32,105,102,32] ++ rightW gl n) ++ [32, 63]) 0 [] = .inl _ by
    rw [List.append_assoc _ [32] (63 :: [])] at z
    exact z), List.length_append, List.length_append]
  rfl
theorem w_iff (R : Reader out TT) (G : Reads TT ws fs) (W : Wr gl) (e : gl.map (·.2) = ws) {n : Nat} {b : List Nat} (P : Put gl n b) (h1 : n ∉ fs) (h2 : ws[n]? ≠ some wIf) : out (leftW gl n b ++ ([105,102,32] ++ rightW gl n)) = .no (leftW gl n b).length := by
  have lw : ws.length = gl.length := by rw [← e, List.length_map]
  have hr := put_row (ys := []) W P (y := wIf) (by decide +kernel) (fun q => rfl)
  have et : leftW gl n b ++ ([105,102,32] ++ rightW gl n) = txt4 (putL gl n b wIf []) := by
    rw [put_txt P]
    rfl
  rw [et, rd_row R hr]
  unfold putL
  have z := hs_pos (gl := gl.take n) (n := (txt4 (putL gl n b wIf [])).length) (tkw (b, wIf) :: mkL ([] ++ ([32], (gl.getD n ([], [])).2) :: gl.drop (n + 1)))
  rw [List.map_take, e] at z
  have ln : (mkL (gl.take n)).length = n := by
    rw [mkL_len, List.length_take]
    have := P.lt
    omega
  have g := pos4_get (mkL (gl.take n) ++ (tkw (b, wIf) :: mkL ([] ++ ([32], (gl.getD n ([], [])).2) :: gl.drop (n + 1)))) 0 n (tkw (b, wIf)) (by rw [List.getElem?_append_right (by omega), ln, Nat.sub_self]; rfl)
  rw [show (mkL (gl.take n) ++ (tkw (b, wIf) :: mkL ([] ++ ([32], (gl.getD n ([], [])).2) :: gl.drop (n + 1)))).take n = mkL (gl.take n) by
    conv => lhs; rw [← ln]
    rw [ln, List.take_left' ln]] at g
  have k := G.iff _ n (by have := P.lt; omega) h1 h2 z ⟨_, g⟩
  unfold putL at k
  rw [k]
  unfold Ps.at
  simp only [g]
  unfold leftW
  rw [List.length_append]
  show Out.no (0 + (txtW (gl.take n)).length + b.length) = _
  rw [Nat.zero_add]
end
end K9
set_option Elab.async false
set_option linter.all false
set_option maxRecDepth 100000
namespace K9
open PySem L2 PyProof.Rows
/-! ### a call of a def that is held in a local, in a try -/
def tCallLS (i : Nat) (f : Addr) (sp : Sp) (E : L2.St → XK) (t : TA) : TE := fun σ H Q => σ[i]? = some (some (.ref f)) ∧ t σ H fun vs H1 => sp vs H1 Q (E σ)
section
variable {X : Cx} {CX : CXT} {k i : Nat} {f : Addr} {fd : FuncData} {ps : List Str} {sp : Sp} {E : L2.St → XK} {x : Str} {p pos : Pos} {e : Expr} {es : List Expr} {t : TA}
theorem pe_callLS (F : FnOk X.prog X.w X.K X.mg X.base CX k f fd ps sp) (hr : Room k X.A) (hN : X.N[i]? = some x) (hv : Vis X.env.scope x) (hk : PySem.W.keepIn X.K (.ref f) = true) (hb : Binds X.K fd ps []) (hx : ∀ σ, PassesAt CX X σ (E σ)) (ha : PA X (e :: es) t)
    (hdb : (x == ("__debug__" : Str)) = false := by decide) (hcd : (x == ("__classdict__" : Str)) = false := by decide)
    (he : starEach (e :: es) X.env = (false, eval e X.env) :: starEach es X.env := by rfl) (hpl : (backTo pos (starEach es X.env)).any (·.1) = false := by rfl) : PE X (.Call (.Name x p) (e :: es) [] pos) (tCallLS i f sp E t) := by
  refine ⟨fun pins s σ H Q I h => ?_⟩
  obtain ⟨hs, ht⟩ := h
  refine wpAny_Call_Name_kw (thn ((pe_var (pos := p) hN hv hdb hcd).run pins s σ H (fun v H1 => v = .ref f ∧ H1 = H) I ⟨.ref f, hs, rfl, rfl⟩) fun u s1 ⟨v, H1, I1, r1, q1⟩ => ?_)
  obtain ⟨rfl, rfl⟩ := q1
  cases r1
  refine PySem.W.callWith_K (h₀ := X.base) I.ok.mod.kin hk (thn (ha.run pos pins s1 σ _ _ I1 ht) fun us s2 ⟨vs, H2, I2, r, q⟩ => ⟨I2.kIn, ?_⟩) he hpl
  exact run_fnS F hr hb (hx σ) I2 r q
end
theorem joinT_eq (s : List Nat) : ∀ l : List (List Nat), joinT s l = TL.joinL s l
  | [] => rfl
  | [p] => rfl
  | p :: q :: r => by
    show p ++ (s ++ joinT s (q :: r)) = p ++ (s ++ TL.joinL s (q :: r))
    rw [joinT_eq s (q :: r)]
theorem join_vs (s : List Nat) (l : List (List Nat)) : Txt.join (S s) (l.map S) = S (joinT s l) := by rw [joinT_eq]; exact SX.join_S s l
theorem Same.own {H H' : Hp} {p : Addr} {o : HO} (s : Same H H') (n : H p = none) : Same H (upd H' p o) := fun b u e => by
  rw [upd_ne (ne_of_none e n)]
  exact s b u e
theorem map_vs (l : List (List Nat)) : (l.map S).map V.str = l.map vs := by rw [List.map_map]; rfl
theorem log_k {k : Nat} (h : k ≤ 1000000) : ((k : Int)).natAbs.log2 < 1920 := log_small h
theorem numS (k : Nat) : Str.ofString (toString (k : Int)) = S (numT k) := ofS rfl
mutual
theorem Tp.dp {K : PySem.W.Frag} {H : Hp} : ∀ {v : V} {d : PyData}, Tp H v d → Dp K H v d
  | _, _, .int i => .int i
  | _, _, .str x => .str x
  | _, _, .tup e r => .tup (SqT.of e) (TpAll.dp r)
theorem TpAll.dp {K : PySem.W.Frag} {H : Hp} : ∀ {vs : List V} {ds : List PyData}, TpAll H vs ds → DpAll K H vs ds
  | _, _, .nil => .nil
  | _, _, .cons r t => .cons (Tp.dp r) (TpAll.dp t)
end
theorem tree_inv {H : Hp} {u : V} {d : PyData} (h : Tp H u (dT [dS wTree, d])) : ∃ a v, u = .ref a ∧ H a = some (.tup [vs wTree, v]) ∧ Tp H v d := by
  cases h with
  | tup e r =>
    cases r with
    | cons r0 r =>
      cases r with
      | cons r1 r =>
        cases r
        cases r0
        exact ⟨_, _, rfl, e, r1⟩
theorem tup_inv {H : Hp} {u : V} {ds : List PyData} (h : Tp H u (.tuple ds)) : ∃ a xs, u = .ref a ∧ H a = some (.tup xs) ∧ TpAll H xs ds := by
  cases h with
  | tup e r => exact ⟨_, _, rfl, e, r⟩
structure LTxt (mg : Str → Option Value) : Prop where
  range : mg "range" = none
  str : mg "str" = none
theorem fold_rep (c : Nat) : ∀ (n : Nat) (a : Array Nat), (List.replicate n (#[c] : Array Nat)).foldl (· ++ ·) a = a ++ (List.replicate n c).toArray
  | 0, a => by simp
  | n + 1, a => by
    rw [List.replicate_succ, List.foldl_cons, fold_rep c n, List.replicate_succ]
    apply Array.ext'
    simp
/-- a text of one sign, times n -/
theorem op_mul_one {X : Cx} (c : Nat) : OpR X (binaryOp .Mult) (fun x y H Q => ∃ n : Nat, x = vs [c] ∧ y = .int (n : Int) ∧ n ≤ 1000 ∧ Q (vs (List.replicate n c)) H) := by
  intro pins s σ H x y v u Q I rx ry h
  obtain ⟨n, rfl, rfl, hn, q⟩ := h
  obtain ⟨t, rfl⟩ := rx
  obtain ⟨t', rfl⟩ := ry
  have e1 : (S [c]).length = 1 := S_len [c]
  refine PySem.P.mul_str (by rw [decide_eq_false (by omega), decide_eq_false (by omega)]; rfl) (fun _ _ => ?_) (fun _ _ => ?_) ?_
  · rw [e1]
    have : (1 : Int) ≤ (2 ^ 63 - 1) / (n : Int) := by
      refine Int.le_ediv_of_mul_le (by omega) (by omega)
    omega
  · rw [e1]
    refine decide_eq_false ?_
    have : sizeLine = 16777216 := sizeLine_eq
    omega
  · by_cases c1 : (n : Int) < 1
    · rw [if_pos c1]
      have : n = 0 := by omega
      subst this
      exact ⟨by decide, .str _, H, I.tok _, ⟨_, rfl⟩, q⟩
    · rw [if_neg c1]
      by_cases c2 : (n : Int) = 1
      · rw [if_pos (by rw [c2]; rfl)]
        have : n = 1 := by omega
        subst this
        exact ⟨.str _, H, I, ⟨_, rfl⟩, q⟩
      · rw [if_neg (by rw [e1]; simp; omega)]
        have e2 : (⟨(List.replicate ((n : Int)).toNat (S [c]).cps).foldl (· ++ ·) #[]⟩ : Str) = S (List.replicate n c) := by
          show (⟨(List.replicate ((n : Int)).toNat (#[c] : Array Nat)).foldl (· ++ ·) #[]⟩ : Str) = _
          rw [Int.toNat_natCast, fold_rep]
          simp [SX.S]
        rw [e2]
        exact ⟨Nat.le_trans (Nat.le_of_eq (S_len _)) (by rw [List.length_replicate, sizeLine_eq]; omega), .str _, H, I.tok _, ⟨_, rfl⟩, q⟩
/-! ### the law's state is in order; all else that stood stands -/
theorem But.same {a : Addr} {H H' : Hp} (h : But a H H') : SameBut a H H' := fun b u n e => (h b n).trans e
structure Going (a sc : Addr) (ns : List Int) (H H' : Hp) : Prop where
  st : StAt H' a sc ns
  same : SameBut a H H'
theorem Going.start {a sc : Addr} {ns : List Int} {H : Hp} (h : StAt H a sc ns) : Going a sc ns H H := ⟨h, SameBut.refl a H⟩
theorem Going.next {a sc : Addr} {ns : List Int} {H H1 H2 : Hp} (g : Going a sc ns H H1) (s : StAt H2 a sc ns) (b : But a H1 H2) : Going a sc ns H H2 := ⟨s, g.same.trans b.same⟩
theorem Going.comp {a sc : Addr} {ns : List Int} {H H1 H2 : Hp} (g : Going a sc ns H H1) (h : Going a sc ns H1 H2) : Going a sc ns H H2 := ⟨h.st, g.same.trans h.same⟩
theorem StAt.upd {a sc p : Addr} {ns : List Int} {H : Hp} {o : HO} (h : StAt H a sc ns) (hp : H p = none) : StAt (upd H p o) a sc ns := by
  obtain ⟨i, c, s, h1, h2, h3⟩ := h
  exact ⟨i, c, s, by rw [upd_ne (ne_of_none h1 hp)]; exact h1, by rw [upd_ne (ne_of_none h2 hp)]; exact h2, h3⟩
theorem StAt.keep {a sc : Addr} {ns : List Int} {H H' : Hp} (h : StAt H a sc ns) (s : Same H H') : StAt H' a sc ns := by
  obtain ⟨i, c, z, h1, h2, h3⟩ := h
  exact ⟨i, c, z, s _ _ h1, s _ _ h2, h3⟩
theorem Going.new {a sc p : Addr} {ns : List Int} {H H1 : Hp} {o : HO} (g : Going a sc ns H H1) (hp : H1 p = none) : Going a sc ns H (upd H1 p o) :=
  ⟨g.st.upd hp, fun b u n e => by
    have z := g.same b u n e
    rw [upd_ne (ne_of_none z hp)]
    exact z⟩
theorem Going.sm {a sc : Addr} {ns : List Int} {H H1 H2 : Hp} (g : Going a sc ns H H1) (s : Same H1 H2) : Going a sc ns H H2 := ⟨g.st.keep s, fun b u n e => s b u (g.same b u n e)⟩
theorem StAt.some {a sc : Addr} {ns : List Int} {H : Hp} (h : StAt H a sc ns) : ∃ u, H a = some u := by
  obtain ⟨i, c, s, h1, _⟩ := h
  exact ⟨_, h1⟩
theorem Going.free {a sc p : Addr} {ns : List Int} {H H1 : Hp} (g : Going a sc ns H H1) (hp : H1 p = none) : H p = none := by
  cases e : H p with
  | none => rfl
  | some u =>
    by_cases n : p = a
    · subst n
      obtain ⟨u, hu⟩ := g.st.some
      rw [hp] at hu
      cases hu
    · have := g.same p u n e
      rw [hp] at this
      cases this
theorem Going.put {a sc p : Addr} {ns : List Int} {H H1 : Hp} {o : HO} (g : Going a sc ns H H1) (hp : H p = none) (na : p ≠ a) (nc : p ≠ sc) : Going a sc ns H (L2.upd H1 p o) := by
  refine ⟨?_, fun b u n e => ?_⟩
  · obtain ⟨i, c, s, h1, h2, h3⟩ := g.st
    exact ⟨i, c, s, by rw [upd_ne (Ne.symm na)]; exact h1, by rw [upd_ne (Ne.symm nc)]; exact h2, h3⟩
  · rw [upd_ne (ne_of_none e hp)]
    exact g.same b u n e
theorem StAt.nota {a sc p : Addr} {ns : List Int} {H : Hp} (h : StAt H a sc ns) (hp : H p = none) : p ≠ a ∧ p ≠ sc := by
  obtain ⟨i, c, s, h1, h2, _⟩ := h
  constructor
  · rintro rfl
    rw [h1] at hp
    cases hp
  · rintro rfl
    rw [h2] at hp
    cases hp
theorem Going.tup {a sc : Addr} {ns : List Int} {H H1 : Hp} (h0 : StAt H a sc ns) (g : Going a sc ns H H1) (p : Addr) (xs : List V) (e : H p = some (.tup xs)) : H1 p = some (.tup xs) := by
  refine g.same p _ ?_ e
  rintro rfl
  obtain ⟨i, c, s, h1, _⟩ := h0
  rw [h1] at e
  cases e
theorem Going.tp {a sc : Addr} {ns : List Int} {H H1 : Hp} (h0 : StAt H a sc ns) (g : Going a sc ns H H1) {v : V} {d : PyData} (h : Tp H v d) : Tp H1 v d := h.keep (Going.tup h0 g)
theorem Tp.same {H H1 : Hp} (s : Same H H1) {v : V} {d : PyData} (h : Tp H v d) : Tp H1 v d := h.keep fun a xs e => s a _ e
theorem paired_get {α β : Type} {F : α → β → Prop} : ∀ {l₁ : List α} {l₂ : List β} {i : Nat} {y : β}, Paired F l₁ l₂ → l₂[i]? = some y → ∃ x, l₁[i]? = some x ∧ F x y
  | _, _, _, _, .nil, h => by simp at h
  | _, _, 0, _, .cons r _, h => by cases h; exact ⟨_, rfl, r⟩
  | _, _, i + 1, _, .cons _ t, h => paired_get (i := i) t (show _ from h)
theorem Tp.mk {H : Hp} {p : Addr} {xs : List V} {ds : List PyData} (hp : H p = none) (h : TpAll (upd H p (.tup xs)) xs ds) : Tp (upd H p (.tup xs)) (.ref p) (dT ds) := .tup upd_same h
/-! ### isinstance of a caught error that has its own dict -/
section
open PySem.W
variable {prog : Program} {w : World} {A : Around} {E : Value → Shared → Prop} {s : Shared} {K : Frag} {x D : Addr} {ox : Obj} {od : Option Obj}
theorem kit_excD (C : ExcC K D) : KitX K (.ref x) (.ref D) (fun h => ∃ od, InstAt h x ox D od) where
  ty := fun _ _ _ ⟨_, I⟩ => I.type
  it := fun M h X _ => by
    obtain ⟨cdD, hcD, _⟩ := any_some C.hd
    unfold clsIn at hcD
    split at hcD
    · rename_i c' d' cd' sl' ho
      intro A' Q' E' s' k q
      unfold isType loadHead
      exact wpAny_bind (wpAny_loadPart (k _ _ (X _ _ ho)) (wpAny_pure q))
    · cases hcD
  ne := fun h tp dd its n sl X htp => (handS_kitx_exc (x := x) (ox := ox) C.hg C.hk C.hs C.hd C.ha C.hn C.ht C.hm).ne h tp dd its n sl X htp
  ca := fun X ⟨od, I⟩ k => kx_classE X I C.hg C.hk C.hs (findObj_dataE (by obtain ⟨cd, hc, _⟩ := any_some C.hd; rw [hc]; rfl) C.ha C.hn C.ht) C.hm k
end
/-- isinstance(e, c), e the exception that the suite holds -/
def rIsD (K : PySem.W.Frag) (D a : Addr) (d : Option Addr) : List V → Hp → VK → Prop := fun xs H Q => ∃ (c : V) (cv : Value) (b : Bool) (dd : Addr) (fs : List (Str × V)), xs = [.ref a, c] ∧ (∀ u, RelV c u → u = cv) ∧ PySem.W.kitOne K (.ref D) cv = some b ∧ d = some dd ∧ H dd = some (.xd fs) ∧ Q (.bl b) H
theorem call_isD {X : Cx} {a D : Addr} {oe : Obj} {cls : Value} {d : Option Addr} {pn : List (Addr × Obj)} (C : ExcC X.K D) (hz : Zc cls d oe) (hf : ∃ vs, oe.data = .fields vs) : CallR (X.suite a ((a, oe) :: pn)) (.builtin "isinstance") (fun xs H Q => cls = .ref D ∧ rIsD X.K D a d xs H Q) := by
  intro pins s σ H xs us Q I r h
  obtain ⟨rfl, c, cv, b, dd, fs, rfl, hcv, e, rfl, hd, q⟩ := h
  cases r with
  | cons rx rr =>
    cases rr with
    | cons rt rr =>
      cases rr
      cases rx
      have ec := hcv _ rt
      subst ec
      obtain ⟨hget, _⟩ := I.pin (a, oe) (List.mem_append.mpr (.inl List.mem_cons_self))
      obtain ⟨vs, hv⟩ := hf
      have hx : ObjOk X.prog X.w H s.heap dd (.xd fs) := I.hok dd _ hd
      obtain ⟨mA, hns, hr⟩ := hx
      obtain ⟨od, ho, hl⟩ := lookIn_ns hns
      have J : PySem.W.InstAt s.heap a oe D (some od) := ⟨hget, hz.1, by unfold PySem.W.notCls; rw [hv] <;> rfl, by rw [hz.2]; exact ho⟩
      exact PySem.W.kia_one (kit_excD C) I.kIn ⟨_, J⟩ e (fun z => nomatch z) fun tk => ⟨.bl b, H, I.kept (t' := tk) fun _ _ z => z, rfl, q⟩
structure SuiTxt (K : PySem.W.Frag) (mg : Str → Option Value) (C cA : Addr) : Prop where
  gA : mg "AskprovedError" = some (.ref cA)
  kA : PySem.W.kitOne K (.ref C) (.ref cA) = some true
  gV : mg "ValueError" = none
  kV : PySem.W.kitOne K (.ref C) (.type "ValueError") = some true
  te : PySem.W.exmOne K (.ref C) (.ref C) = some true
  xf : XfC K C
  xc : ExcC K C
end K9
set_option Elab.async false
set_option linter.all false
set_option maxRecDepth 100000
namespace K9
open PySem L2 PyProof.Rows
/-! ### _law_same: what is the same data is told to be the same -/
def spSameD (n : Nat) : Sp := fun us H Q _ => ∃ (v u : V) (d : PyData), us = [v, u] ∧ Tp H v d ∧ Tp H u d ∧ Wd n d ∧ Q (.bl true) H
section
variable {P : Program} {w : World} {K : PySem.W.Frag} {mg : Str → Option Value} {base : Heap}
theorem scSame : FnScope ["actual", "expected", "k"] ["actual", "expected"] (defScope sSame) := ⟨rfl, rfl, rfl, by decide +kernel, rfl, by decide +kernel, by decide +kernel⟩
theorem fn_false {f : Addr} {fd : FuncData} {ps : List Str} : FnOk P w K mg base CX0 0 f fd ps (fun _ _ _ _ => False) := ⟨fun _ _ _ _ h => h.elim, fun _ _ _ _ _ _ _ _ _ _ _ _ _ h => h.elim⟩
theorem tpall_at {H : Hp} : ∀ {vs : List V} {ds : List PyData} {i : Nat}, TpAll H vs ds → (h1 : i < vs.length) → (h2 : i < ds.length) → Tp H vs[i] ds[i]
  | _, _, _, .nil, h1, _ => absurd h1 (Nat.not_lt_zero _)
  | _, _, 0, .cons r _, _, _ => r
  | _, _, i + 1, .cons _ t, h1, h2 => tpall_at t (Nat.lt_of_succ_lt_succ h1) (Nat.lt_of_succ_lt_succ h2)
theorem ok_sameS {f C fI : Addr} {fd : FuncData} {n k : Nat} {spG : Sp} (T : Txt P K mg C fI) (DS : Dd K mg "_law_same" sSame ["actual", "expected"] f fd) (G : FnOk P w K mg base CX0 k f fd ["actual", "expected"] spG) (hG : ∀ m, n = m + 1 → spG = spSameD m) : FnOk P w K mg base CX0 (k + 1) f fd ["actual", "expected"] (spSameD n) := by
  refine DS.fn.ok scSame (fun us H Q E h => ?_) (fun cdv A outer s H us Q E hr h => ?_)
  · obtain ⟨v, u, d, rfl, _⟩ := h
    rfl
  · obtain ⟨v, u, d, rfl, hv, hu, hd, kq⟩ := h
    refine ⟨_, pss_cons (ps_if (pt_cmpR op_isN (pv 1) pe_non (nomark _)) (pss_one (ps_ret (pe_cmpR op_isN (pv 0) pe_non (nomark _)))) pss_nil)
      (pss_cons (ps_if (pt_val (pe_callB call_isi (by rfl) T.isi boot_isinstance (pa_cons (pv 1) (pa_cons (pe_bltn (v := .ty "bool") (by rfl) T.bool boot_bool rfl) pa_nil)))) (pss_one (ps_ret (pe_and (pe_callB call_isi (by rfl) T.isi boot_isinstance (pa_cons (pv 0) (pa_cons (pe_bltn (v := .ty "bool") (by rfl) T.bool boot_bool rfl) pa_nil))) (pe_one (pe_cmpR op_eq (pv 0) (pv 1) (nomark _)))))) pss_nil)
      (pss_cons (ps_if (pt_val (pe_callB call_isi (by rfl) T.isi boot_isinstance (pa_cons (pv 1) (pa_cons (pe_bltn (v := .ty "int") (by rfl) T.int boot_int rfl) pa_nil)))) (pss_one (ps_ret (pe_and (pe_callB call_isi (by rfl) T.isi boot_isinstance (pa_cons (pv 0) (pa_cons (pe_bltn (v := .ty "int") (by rfl) T.int boot_int rfl) pa_nil))) (pe_and (pe_not (pe_callB call_isi (by rfl) T.isi boot_isinstance (pa_cons (pv 0) (pa_cons (pe_bltn (v := .ty "bool") (by rfl) T.bool boot_bool rfl) pa_nil)))) (pe_one (pe_cmpR op_eq (pv 0) (pv 1) (nomark _))))))) pss_nil)
      (pss_cons (ps_if (pt_val (pe_callB call_isi (by rfl) T.isi boot_isinstance (pa_cons (pv 1) (pa_cons (pe_bltn (v := .ty "str") (by rfl) T.str boot_str rfl) pa_nil)))) (pss_one (ps_ret (pe_and (pe_callB call_isi (by rfl) T.isi boot_isinstance (pa_cons (pv 0) (pa_cons (pe_bltn (v := .ty "str") (by rfl) T.str boot_str rfl) pa_nil))) (pe_one (pe_cmpR op_eq (pv 0) (pv 1) (nomark _)))))) pss_nil)
      (pss_cons (ps_if (PW.pt (pw_and (pt_val (pe_callB call_isi (by rfl) T.isi boot_isinstance (pa_cons (pv 1) (pa_cons (pe_bltn (v := .ty "tuple") (by rfl) T.tuple boot_tuple rfl) pa_nil)))) (pw_and1 (pt_not (pt_val (pe_callB call_isi (by rfl) T.isi boot_isinstance (pa_cons (pv 0) (pa_cons (pe_bltn (v := .ty "tuple") (by rfl) T.tuple boot_tuple rfl) pa_nil)))))))) (pss_one (ps_ret pe_bl)) pss_nil)
      (pss_cons (ps_if (PW.pt (pw_and (pt_val (pe_callB call_isi (by rfl) T.isi boot_isinstance (pa_cons (pv 1) (pa_cons (pe_bltn (v := .ty "list") (by rfl) T.list boot_list rfl) pa_nil)))) (pw_and1 (pt_not (pt_val (pe_callB call_isi (by rfl) T.isi boot_isinstance (pa_cons (pv 0) (pa_cons (pe_bltn (v := .ty "list") (by rfl) T.list boot_list rfl) pa_nil)))))))) (pss_one (ps_ret pe_bl)) pss_nil)
      (pss_cons (ps_if (pt_cmpR op_ne (pe_callB call_len_seq (by rfl) T.len PySem.boot_len (pa_cons (pv 0) pa_nil)) (pe_callB call_len_seq (by rfl) T.len PySem.boot_len (pa_cons (pv 1) pa_nil)) (nomark _)) (pss_one (ps_ret pe_bl)) pss_nil)
      (pss_cons (ps_for PassesOwn.never rfl (pi_range1 rfl T.range (pa_cons (pe_callB call_len_seq (by rfl) T.len PySem.boot_len (pa_cons (pv 1) pa_nil)) pa_nil)) (pg_name (i := 2) scSame.nd rfl (Or.inl rfl))
        (pss_one (ps_if (pt_not (pt_val (pe_call G hr rfl DS.g DS.k DS.b .nil pass0 (pa_cons (pe_ix ix_seq (pv 0) (pv 2) (fun _ _ => rfl)) (pa_cons (pe_ix ix_seq (pv 1) (pv 2) (fun _ _ => rfl)) pa_nil))))) (pss_one (ps_ret pe_bl)) pss_nil)))
      (pss_one (ps_ret pe_bl))))))))), ?_⟩
    cases hv with
    | int i =>
      cases hu
      refine ⟨_, rfl, rfl, _, rfl, ?_⟩
      refine if_false_of (decide_eq_false (fun z => by cases z)) ?_
      refine ⟨_, rfl, .int i, .ty "bool", .type "int", .type "bool", false, rfl, .ty _, .base (.int i), kit_ty (by decide +kernel), _, rfl, ?_⟩
      refine if_false_of rfl ?_
      refine ⟨_, rfl, .int i, .ty "int", .type "int", .type "int", true, rfl, .ty _, .base (.int i), kit_ty (by decide +kernel), _, rfl, ?_⟩
      refine if_true_of rfl ?_
      refine ⟨_, rfl, .int i, .ty "int", .type "int", .type "int", true, rfl, .ty _, .base (.int i), kit_ty (by decide +kernel), _, rfl, ?_⟩
      refine if_true_of rfl ?_
      refine ⟨_, rfl, .int i, .ty "bool", .type "int", .type "bool", false, rfl, .ty _, .base (.int i), kit_ty (by decide +kernel), _, rfl, _, rfl, ?_⟩
      refine if_true_of rfl ?_
      refine ⟨_, rfl, _, rfl, rfl, ?_⟩
      have e : decide (V.int i = V.int i) = true := decide_eq_true rfl
      rw [e]
      exact kq
    | str z =>
      cases hu
      refine ⟨_, rfl, rfl, _, rfl, ?_⟩
      refine if_false_of (decide_eq_false (fun z => by cases z)) ?_
      refine ⟨_, rfl, .str z, .ty "bool", .type "str", .type "bool", false, rfl, .ty _, .base (.str z), kit_ty (by decide +kernel), _, rfl, ?_⟩
      refine if_false_of rfl ?_
      refine ⟨_, rfl, .str z, .ty "int", .type "str", .type "int", false, rfl, .ty _, .base (.str z), kit_ty (by decide +kernel), _, rfl, ?_⟩
      refine if_false_of rfl ?_
      refine ⟨_, rfl, .str z, .ty "str", .type "str", .type "str", true, rfl, .ty _, .base (.str z), kit_ty (by decide +kernel), _, rfl, ?_⟩
      refine if_true_of rfl ?_
      refine ⟨_, rfl, .str z, .ty "str", .type "str", .type "str", true, rfl, .ty _, .base (.str z), kit_ty (by decide +kernel), _, rfl, ?_⟩
      refine if_true_of rfl ?_
      refine ⟨_, rfl, _, rfl, rfl, ?_⟩
      have e : decide (V.str z = V.str z) = true := decide_eq_true rfl
      rw [e]
      exact kq
    | @tup a xs ds ha hx =>
      cases hu with
      | @tup b ys _ hb hy =>
      cases n with
      | zero => unfold Wd at hd; exact hd.elim
      | succ m =>
      obtain rfl := hG m rfl
      unfold Wd at hd
      obtain ⟨hl, hd⟩ := hd
      have ex := TpAll.length hx
      have ey := TpAll.length hy
      refine ⟨_, rfl, rfl, _, rfl, ?_⟩
      refine if_false_of (decide_eq_false (fun z => by cases z)) ?_
      refine ⟨_, rfl, .ref b, .ty "bool", .type "tuple", .type "bool", false, rfl, .ty _, .base (.tup hb), kit_ty (by decide +kernel), _, rfl, ?_⟩
      refine if_false_of rfl ?_
      refine ⟨_, rfl, .ref b, .ty "int", .type "tuple", .type "int", false, rfl, .ty _, .base (.tup hb), kit_ty (by decide +kernel), _, rfl, ?_⟩
      refine if_false_of rfl ?_
      refine ⟨_, rfl, .ref b, .ty "str", .type "tuple", .type "str", false, rfl, .ty _, .base (.tup hb), kit_ty (by decide +kernel), _, rfl, ?_⟩
      refine if_false_of rfl ?_
      refine ⟨_, rfl, .ref b, .ty "tuple", .type "tuple", .type "tuple", true, rfl, .ty _, .base (.tup hb), kit_ty (by decide +kernel), _, rfl, ?_⟩
      refine if_true_of rfl ?_
      refine ⟨_, rfl, .ref a, .ty "tuple", .type "tuple", .type "tuple", true, rfl, .ty _, .base (.tup ha), kit_ty (by decide +kernel), _, rfl, ?_⟩
      refine if_false_of rfl ?_
      refine ⟨_, rfl, .ref b, .ty "list", .type "tuple", .type "list", false, rfl, .ty _, .base (.tup hb), kit_ty (by decide +kernel), _, rfl, ?_⟩
      refine if_false_of rfl ?_
      refine ⟨_, rfl, a, xs, rfl, .inr (SqT.of ha), _, rfl, b, ys, rfl, .inr (SqT.of hb), rfl, _, rfl, ?_⟩
      refine if_false_of (by rw [ex, ey, decide_eq_true rfl]; rfl) ?_
      refine ⟨_, rfl, b, ys, rfl, .inr (SqT.of hb), _, rfl, by omega, by omega, for_range (fun i σ H' => (∃ v, σ = [some (.ref a), some (.ref b), v]) ∧ H' = H) ⟨⟨_, rfl⟩, rfl⟩ ?_ ?_⟩
      · rintro i σ H' hi ⟨⟨v, rfl⟩, rfl⟩
        have hy' : i < ys.length := by omega
        have hx' : i < xs.length := by omega
        have hd' : i < ds.length := by omega
        have zx : atI xs ((0 : Int) + (i : Int)) = some xs[i] := by rw [Int.zero_add]; exact atI_nat (List.getElem?_eq_getElem hx')
        have zy : atI ys ((0 : Int) + (i : Int)) = some ys[i] := by rw [Int.zero_add]; exact atI_nat (List.getElem?_eq_getElem hy')
        refine ⟨_, rfl, _, rfl, .inr (.inl ⟨a, xs, _, _, rfl, rfl, SqT.of ha, zx, _, rfl, _, rfl, .inr (.inl ⟨b, ys, _, _, rfl, rfl, SqT.of hb, zy, ?_⟩)⟩)⟩
        refine ⟨_, _, ds[i], rfl, tpall_at hx hx' hd', tpall_at hy hy' hd', hd _ (List.getElem_mem hd'), _, rfl, ?_⟩
        refine if_false_of rfl ?_
        exact ⟨⟨_, rfl⟩, rfl⟩
      · rintro σ H' ⟨⟨v, rfl⟩, rfl⟩
        exact kq
theorem ok_sameD {f C fI : Addr} {fd : FuncData} (T : Txt P K mg C fI) (DS : Dd K mg "_law_same" sSame ["actual", "expected"] f fd) : ∀ n, FnOk P w K mg base CX0 (n + 1) f fd ["actual", "expected"] (spSameD n)
  | 0 => ok_sameS T DS fn_false (fun m h => by cases h)
  | n + 1 => ok_sameS T DS (ok_sameD T DS n) (fun m h => by cases h; rfl)
end
end K9
set_option Elab.async false
set_option linter.all false
set_option maxRecDepth 100000
namespace K9
open PySem L2 PyProof.Rows
abbrev sName : Stmt := top 28
abbrev sTermT : Stmt := top 29
abbrev sRowT : Stmt := top 30
/-- walking an enumerate of a list -/
theorem for_enum {K : PySem.W.Frag} {a : Addr} {xs : List V} {g : TG} {tb : TS} {D : L2.Ends} {σ : L2.St} {H : Hp} (Pv : Nat → L2.St → Hp → Prop) (h0 : Pv 0 σ H) (hl : ∀ i σ H, i ≤ xs.length → Pv i σ H → SqL K H a xs)
    (hs : ∀ i x σ H T, xs[i]? = some x → Pv i σ H → H T = none → g (.ref T) σ (upd H T (.tup [.int (i : Nat), x])) fun σ2 H2 => tb { D with nx := Pv (i + 1), ct := Pv (i + 1), bk := D.nx } σ2 H2) (hd : ∀ σ H, Pv xs.length σ H → D.nx σ H) :
    ∃ W : Nat → Nat → L2.St → Hp → Prop, (∃ m, W 0 m σ H) ∧ ∀ i m σ H, W i m σ H →
      ((Ite K a).stop i H ∧ D.nx σ H) ∨ ((Ite K a).go i H ∧ ∃ N : L2.St → Hp → Prop, (∀ σ' H', N σ' H' → ∃ m', m' < m ∧ W (i + 1) m' σ' H') ∧ ∀ x H', (Ite K a).yld i H x H' → g x σ H' fun σ2 H2 => tb { D with nx := N, ct := N, bk := D.nx } σ2 H2) := by
  refine ⟨fun i m σ H => m = xs.length - i ∧ i ≤ xs.length ∧ Pv i σ H, ⟨xs.length, by simp, Nat.zero_le _, h0⟩, ?_⟩
  rintro i m σ H ⟨rfl, hi, p⟩
  have q := hl i σ H hi p
  by_cases hlt : i < xs.length
  · refine .inr ⟨⟨xs, xs[i], q, by simp [hlt]⟩, Pv (i + 1), fun σ' H' p' => ⟨xs.length - (i + 1), by omega, rfl, hlt, p'⟩, fun x H' y => ?_⟩
    obtain ⟨T, x, rfl, hT, rfl, y⟩ := y
    exact hs i x σ _ T (y xs q) p hT
  · have e : i = xs.length := by omega
    subst e
    exact .inl ⟨⟨xs, q, Nat.le_refl _⟩, hd σ H p⟩
structure ETxt (mg : Str → Option Value) : Prop where
  enumerate : mg "enumerate" = none
/-- a def that draws, and gives a new list of words -/
def spWs (Pd : List Wrd → Prop) : Sp := fun us H Q _ => ∃ (a sc : Addr) (ns : List Int), us = [.ref a] ∧ StAt H a sc ns ∧ ∀ (H' : Hp) (p : Addr) (ws : List Wrd), Pd ws → Going a sc ns H H' → H p = none → H' p = some (.lst (ws.map vs)) → Q (.ref p) H'
def spName : Sp := fun us H Q _ => ∃ (a sc : Addr) (ns : List Int), us = [.ref a] ∧ StAt H a sc ns ∧ ∀ (H' : Hp) (n : Wrd), n ∈ NAMES → Going a sc ns H H' → Q (vs n) H'
def TermB (b : Bool) (ws : List Wrd) : Prop := ws ∈ TERMS ∨ (b = true ∧ ws ∈ HTERMS)
def spTermT : Sp := fun us H Q _ => ∃ (a sc : Addr) (ns : List Int) (b : Bool), us = [.ref a, .bl b] ∧ StAt H a sc ns ∧ ∀ (H' : Hp) (p : Addr) (ws : List Wrd), TermB b ws → Going a sc ns H H' → H p = none → H' p = some (.lst (ws.map vs)) → Q (.ref p) H'
/-- a list of lists of words -/
def LL (H : Hp) (rs : List V) (parts : List (List Wrd)) : Prop := Paired (fun x P => ∃ q, x = V.ref q ∧ H q = some (.lst (P.map vs))) rs parts
theorem LL.same {H H' : Hp} {rs : List V} {parts : List (List Wrd)} (h : LL H rs parts) (s : Same H H') : LL H' rs parts := Paired.imp (fun _ _ ⟨q, e, k⟩ => ⟨q, e, s _ _ k⟩) h
def spRowT : Sp := fun us H Q _ => ∃ (pa : Addr) (rs : List V) (parts : List (List Wrd)), us = [.ref pa] ∧ H pa = some (.lst rs) ∧ LL H rs parts ∧ parts.length ≤ 6 ∧ (∀ P ∈ parts, P.length ≤ 2) ∧ ∀ (H' : Hp) (p : Addr), Same H H' → H p = none → H' p = some (.lst ((rowW parts).map vs)) → Q (.ref p) H'
section
variable {P : Program} {w : World} {K : PySem.W.Frag} {mg : Str → Option Value} {base : Heap} {C CR fI : Addr}
theorem scName : FnScope ["state"] ["state"] (defScope sName) := ⟨rfl, rfl, rfl, by decide +kernel, rfl, by decide +kernel, by decide +kernel⟩
theorem scTT : FnScope ["state", "is_head", "pick"] ["state", "is_head"] (defScope sTermT) := ⟨rfl, rfl, rfl, by decide +kernel, rfl, by decide +kernel, by decide +kernel⟩
theorem scRT : FnScope ["parts", "found", "at", "part"] ["parts"] (defScope sRowT) := ⟨rfl, rfl, rfl, by decide +kernel, rfl, by decide +kernel, by decide +kernel⟩
theorem ok_name {f fN : Addr} {fd fdN : FuncData} (F : Fun K "_law_name_drawn" "_law_name_drawn" sName f fd) (DN : Dd K mg "_law_next" sNext ["state", "limit"] fN fdN) (GN : FnOk P w K mg base CX0 1 fN fdN ["state", "limit"] spNext) : FnOk P w K mg base CX0 2 f fd ["state"] spName := by
  refine F.ok scName (fun us H Q E h => ?_) (fun cdv A outer s H us Q E hr h => ?_)
  · obtain ⟨a, sc, ns, rfl, _⟩ := h
    rfl
  · obtain ⟨a, sc, ns, rfl, hS, q⟩ := h
    have hr1 : Room 1 _ := hr
    refine ⟨_, (pss_one (ps_ret (pe_ix ix_list (pe_lst (pa_cons pe_str (pa_cons pe_str (pa_cons (pe_op op_add_str (pe_op (op_mul_one 97) pe_str pe_int) pe_str) (pa_cons (pe_op op_add_str (pe_op (op_mul_one 97) pe_str pe_int) pe_str) (pa_cons pe_str (pa_cons pe_str pa_nil))))))) (pe_call GN hr1 rfl DN.g DN.k DN.b .nil pass0 (pa_cons (pv 0) (pa_cons pe_int pa_nil))) (fun _ _ => rfl)))), ?_⟩
    have eA : V.str (Str.ofString "a") = vs [97] := congrArg V.str (by decide +kernel)
    have eB : Str.ofString "b" = S [98] := by decide +kernel
    have eC : Str.ofString "c" = S [99] := by decide +kernel
    refine ⟨39, eA, rfl, by decide, _, _, rfl, rfl, by rw [S_len, sizeLine_eq, List.length_replicate, eB, S_len]; decide, 39, eA, rfl, by decide, _, _, rfl, rfl, by rw [S_len, sizeLine_eq, List.length_replicate, eC, S_len]; decide, Nat.le_of_ble_eq_true rfl, fun ll hll => ?_⟩
    rw [eB, eC, SX.S_cat, SX.S_cat]
    have e6 : [V.str (Str.ofString "k0"), V.str (Str.ofString "edge"), V.str (S (List.replicate 39 97 ++ [98])), V.str (S (List.replicate 39 97 ++ [99])), V.str (Str.ofString "path_2"), V.str (Str.ofString "x")] = NAMES.map vs := by decide +kernel
    rw [e6]
    have g := (Going.start hS).new (o := .lst (NAMES.map vs)) hll
    have nll := (hS.nota hll).1
    have kll : upd H ll (.lst (NAMES.map vs)) ll = some (.lst (NAMES.map vs)) := upd_same
    generalize upd H ll (.lst (NAMES.map vs)) = H1 at g kll
    refine ⟨_, rfl, a, sc, ns, 6, rfl, g.st, by decide, by decide, fun m H2 hm hS2 hB2 => ?_⟩
    have g2 := g.next hS2 hB2
    have em : NAMES[m]? = some NAMES[m] := List.getElem?_eq_getElem hm
    refine ⟨ll, _, (m : Int), vs NAMES[m], rfl, rfl, SqL.of (hB2.same ll _ nll kll), atI_nat (by rw [List.getElem?_map, em]; rfl), ?_⟩
    exact q H2 _ (List.getElem_mem _) g2
theorem ok_termT {f fN : Addr} {fd fdN : FuncData} (F : Fun K "_law_term_tokens" "_law_term_tokens" sTermT f fd) (DN : Dd K mg "_law_next" sNext ["state", "limit"] fN fdN) (GN : FnOk P w K mg base CX0 1 fN fdN ["state", "limit"] spNext) : FnOk P w K mg base CX0 2 f fd ["state", "is_head"] spTermT := by
  refine F.ok scTT (fun us H Q E h => ?_) (fun cdv A outer s H us Q E hr h => ?_)
  · obtain ⟨a, sc, ns, b, rfl, _⟩ := h
    rfl
  · obtain ⟨a, sc, ns, b, rfl, hS, q⟩ := h
    have hr1 : Room 1 _ := hr
    refine ⟨_, (C8.pss_cut (ps_set (i := 2) scTT.nd rfl (Or.inl rfl) (pe_call GN hr1 rfl DN.g DN.k DN.b .nil pass0 (pa_cons (pv 0) (pa_cons (pe_ifExp (pt_val (pv 1)) pe_int pe_int) pa_nil))))
      (pss_cons (ps_if (pt_cmpR op_lt (pv 2) pe_int (nomark _)) (pss_one (ps_ret (pe_ix ix_list (pe_lst (pa_cons (pe_lst (pa_cons pe_str pa_nil)) (pa_cons (pe_lst (pa_cons pe_str pa_nil)) (pa_cons (pe_lst (pa_cons pe_str (pa_cons pe_str pa_nil))) (pa_cons (pe_lst (pa_cons pe_str pa_nil)) (pa_cons (pe_lst (pa_cons pe_str pa_nil)) pa_nil)))))) (pv 2) (fun _ _ => rfl)))) pss_nil)
      (pss_one (ps_ret (pe_ix ix_list (pe_lst (pa_cons (pe_lst (pa_cons pe_str pa_nil)) (pa_cons (pe_lst (pa_cons pe_str (pa_cons pe_str pa_nil))) (pa_cons (pe_lst (pa_cons pe_str (pa_cons pe_str pa_nil))) pa_nil)))) (pe_op op_sub (pv 2) pe_int) (fun _ _ => rfl)))))), ?_⟩
    refine ⟨fun σ' H' => ∃ m : Nat, σ' = [some (.ref a), some (.bl b), some (.int (m : Int))] ∧ Going a sc ns H H' ∧ m < 8 ∧ (b = false → m < 5), ?_, ?_⟩
    · refine ⟨_, rfl, _, rfl, b, rfl, ?_⟩
      cases b with
      | true =>
        refine if_true_of rfl ?_
        exact ⟨a, sc, ns, 8, rfl, hS, by decide, by decide, fun m H2 hm hS2 hB2 => ⟨m, rfl, (Going.start hS).next hS2 hB2, hm, fun z => by cases z⟩⟩
      | false =>
        refine if_false_of rfl ?_
        exact ⟨a, sc, ns, 5, rfl, hS, by decide, by decide, fun m H2 hm hS2 hB2 => ⟨m, rfl, (Going.start hS).next hS2 hB2, by omega, fun _ => hm⟩⟩
    rintro σ H1 ⟨m, rfl, g, m8, m5⟩
    refine ⟨_, rfl, _, _, rfl, rfl, _, rfl, ?_⟩
    by_cases c : m < 5
    · refine if_true_of (decide_eq_true (by omega)) ?_
      refine ⟨(Nat.le_of_ble_eq_true rfl), fun q0 hq0 => ?_⟩
      rw [show [V.str (Str.ofString "x")] = ([wX] : List (List Nat)).map vs by decide +kernel]
      have nq0 := (g.st.nota hq0).1
      have fq0 := g.free hq0
      have g' := g.new (o := .lst (([wX] : List (List Nat)).map vs)) hq0
      have kq0 : upd H1 q0 (.lst (([wX] : List (List Nat)).map vs)) q0 = some (.lst (([wX] : List (List Nat)).map vs)) := upd_same
      generalize upd H1 q0 (.lst (([wX] : List (List Nat)).map vs)) = Hq0 at g'  kq0 ⊢
      have g := g'
      clear g'
      refine ⟨(Nat.le_of_ble_eq_true rfl), fun q1 hq1 => ?_⟩
      rw [show [V.str (Str.ofString "7")] = ([w7] : List (List Nat)).map vs by decide +kernel]
      have nq1 := (g.st.nota hq1).1
      have fq1 := g.free hq1
      have g' := g.new (o := .lst (([w7] : List (List Nat)).map vs)) hq1
      have kq0 := new_keep (o' := .lst (([w7] : List (List Nat)).map vs)) kq0 hq1
      have kq1 : upd Hq0 q1 (.lst (([w7] : List (List Nat)).map vs)) q1 = some (.lst (([w7] : List (List Nat)).map vs)) := upd_same
      generalize upd Hq0 q1 (.lst (([w7] : List (List Nat)).map vs)) = Hq1 at g' kq0 kq1 ⊢
      have g := g'
      clear g'
      refine ⟨(Nat.le_of_ble_eq_true rfl), fun q2 hq2 => ?_⟩
      rw [show [V.str (Str.ofString "-"), V.str (Str.ofString "12")] = ([gMinus, w12] : List (List Nat)).map vs by decide +kernel]
      have nq2 := (g.st.nota hq2).1
      have fq2 := g.free hq2
      have g' := g.new (o := .lst (([gMinus, w12] : List (List Nat)).map vs)) hq2
      have kq0 := new_keep (o' := .lst (([gMinus, w12] : List (List Nat)).map vs)) kq0 hq2
      have kq1 := new_keep (o' := .lst (([gMinus, w12] : List (List Nat)).map vs)) kq1 hq2
      have kq2 : upd Hq1 q2 (.lst (([gMinus, w12] : List (List Nat)).map vs)) q2 = some (.lst (([gMinus, w12] : List (List Nat)).map vs)) := upd_same
      generalize upd Hq1 q2 (.lst (([gMinus, w12] : List (List Nat)).map vs)) = Hq2 at g' kq0 kq1 kq2 ⊢
      have g := g'
      clear g'
      refine ⟨(Nat.le_of_ble_eq_true rfl), fun q3 hq3 => ?_⟩
      rw [show [V.str (Str.ofString "'ann")] = ([wAnn] : List (List Nat)).map vs by decide +kernel]
      have nq3 := (g.st.nota hq3).1
      have fq3 := g.free hq3
      have g' := g.new (o := .lst (([wAnn] : List (List Nat)).map vs)) hq3
      have kq0 := new_keep (o' := .lst (([wAnn] : List (List Nat)).map vs)) kq0 hq3
      have kq1 := new_keep (o' := .lst (([wAnn] : List (List Nat)).map vs)) kq1 hq3
      have kq2 := new_keep (o' := .lst (([wAnn] : List (List Nat)).map vs)) kq2 hq3
      have kq3 : upd Hq2 q3 (.lst (([wAnn] : List (List Nat)).map vs)) q3 = some (.lst (([wAnn] : List (List Nat)).map vs)) := upd_same
      generalize upd Hq2 q3 (.lst (([wAnn] : List (List Nat)).map vs)) = Hq3 at g' kq0 kq1 kq2 kq3 ⊢
      have g := g'
      clear g'
      refine ⟨(Nat.le_of_ble_eq_true rfl), fun q4 hq4 => ?_⟩
      rw [show [V.str (Str.ofString "y1")] = ([wY1] : List (List Nat)).map vs by decide +kernel]
      have nq4 := (g.st.nota hq4).1
      have fq4 := g.free hq4
      have g' := g.new (o := .lst (([wY1] : List (List Nat)).map vs)) hq4
      have kq0 := new_keep (o' := .lst (([wY1] : List (List Nat)).map vs)) kq0 hq4
      have kq1 := new_keep (o' := .lst (([wY1] : List (List Nat)).map vs)) kq1 hq4
      have kq2 := new_keep (o' := .lst (([wY1] : List (List Nat)).map vs)) kq2 hq4
      have kq3 := new_keep (o' := .lst (([wY1] : List (List Nat)).map vs)) kq3 hq4
      have kq4 : upd Hq3 q4 (.lst (([wY1] : List (List Nat)).map vs)) q4 = some (.lst (([wY1] : List (List Nat)).map vs)) := upd_same
      generalize upd Hq3 q4 (.lst (([wY1] : List (List Nat)).map vs)) = Hq4 at g' kq0 kq1 kq2 kq3 kq4 ⊢
      have g := g'
      clear g'
      refine ⟨(Nat.le_of_ble_eq_true rfl), fun qL hqL => ?_⟩
      have nqL := (g.st.nota hqL).1
      have fqL := g.free hqL
      have g' := g.new (o := .lst [V.ref q0, V.ref q1, V.ref q2, V.ref q3, V.ref q4]) hqL
      have kq0 := new_keep (o' := .lst [V.ref q0, V.ref q1, V.ref q2, V.ref q3, V.ref q4]) kq0 hqL
      have kq1 := new_keep (o' := .lst [V.ref q0, V.ref q1, V.ref q2, V.ref q3, V.ref q4]) kq1 hqL
      have kq2 := new_keep (o' := .lst [V.ref q0, V.ref q1, V.ref q2, V.ref q3, V.ref q4]) kq2 hqL
      have kq3 := new_keep (o' := .lst [V.ref q0, V.ref q1, V.ref q2, V.ref q3, V.ref q4]) kq3 hqL
      have kq4 := new_keep (o' := .lst [V.ref q0, V.ref q1, V.ref q2, V.ref q3, V.ref q4]) kq4 hqL
      have kqL : upd Hq4 qL (.lst [V.ref q0, V.ref q1, V.ref q2, V.ref q3, V.ref q4]) qL = some (.lst [V.ref q0, V.ref q1, V.ref q2, V.ref q3, V.ref q4]) := upd_same
      generalize upd Hq4 qL (.lst [V.ref q0, V.ref q1, V.ref q2, V.ref q3, V.ref q4]) = HqL at g' kq0 kq1 kq2 kq3 kq4 kqL ⊢
      have g := g'
      clear g'

      have key : ∃ (p : Addr) (ws : List Wrd), [V.ref q0, V.ref q1, V.ref q2, V.ref q3, V.ref q4][m]? = some (V.ref p) ∧ HqL p = some (.lst (ws.map vs)) ∧ ws ∈ TERMS ∧ H p = none := by
        match m, c with
        | 0, _ => exact ⟨q0, _, rfl, kq0, by decide, fq0⟩
        | 1, _ => exact ⟨q1, _, rfl, kq1, by decide, fq1⟩
        | 2, _ => exact ⟨q2, _, rfl, kq2, by decide, fq2⟩
        | 3, _ => exact ⟨q3, _, rfl, kq3, by decide, fq3⟩
        | 4, _ => exact ⟨q4, _, rfl, kq4, by decide, fq4⟩
      obtain ⟨p, ws, e1, e2, e3, e4⟩ := key
      refine ⟨_, rfl, qL, _, (m : Int), .ref p, rfl, rfl, SqL.of kqL, atI_nat e1, ?_⟩
      exact q _ p ws (.inl e3) g e4 e2
    · refine if_false_of (decide_eq_false (by omega)) ?_
      have hb : b = true := by
        cases b with
        | true => rfl
        | false => exact absurd (m5 rfl) c
      refine ⟨(Nat.le_of_ble_eq_true rfl), fun q0 hq0 => ?_⟩
      rw [show [V.str (Str.ofString "count")] = ([wCount] : List (List Nat)).map vs by decide +kernel]
      have nq0 := (g.st.nota hq0).1
      have fq0 := g.free hq0
      have g' := g.new (o := .lst (([wCount] : List (List Nat)).map vs)) hq0
      have kq0 : upd H1 q0 (.lst (([wCount] : List (List Nat)).map vs)) q0 = some (.lst (([wCount] : List (List Nat)).map vs)) := upd_same
      generalize upd H1 q0 (.lst (([wCount] : List (List Nat)).map vs)) = Hq0 at g'  kq0 ⊢
      have g := g'
      clear g'
      refine ⟨(Nat.le_of_ble_eq_true rfl), fun q1 hq1 => ?_⟩
      rw [show [V.str (Str.ofString "sum"), V.str (Str.ofString "x")] = ([wSum, wX] : List (List Nat)).map vs by decide +kernel]
      have nq1 := (g.st.nota hq1).1
      have fq1 := g.free hq1
      have g' := g.new (o := .lst (([wSum, wX] : List (List Nat)).map vs)) hq1
      have kq0 := new_keep (o' := .lst (([wSum, wX] : List (List Nat)).map vs)) kq0 hq1
      have kq1 : upd Hq0 q1 (.lst (([wSum, wX] : List (List Nat)).map vs)) q1 = some (.lst (([wSum, wX] : List (List Nat)).map vs)) := upd_same
      generalize upd Hq0 q1 (.lst (([wSum, wX] : List (List Nat)).map vs)) = Hq1 at g' kq0 kq1 ⊢
      have g := g'
      clear g'
      refine ⟨(Nat.le_of_ble_eq_true rfl), fun q2 hq2 => ?_⟩
      rw [show [V.str (Str.ofString "least"), V.str (Str.ofString "y1")] = ([wLeast, wY1] : List (List Nat)).map vs by decide +kernel]
      have nq2 := (g.st.nota hq2).1
      have fq2 := g.free hq2
      have g' := g.new (o := .lst (([wLeast, wY1] : List (List Nat)).map vs)) hq2
      have kq0 := new_keep (o' := .lst (([wLeast, wY1] : List (List Nat)).map vs)) kq0 hq2
      have kq1 := new_keep (o' := .lst (([wLeast, wY1] : List (List Nat)).map vs)) kq1 hq2
      have kq2 : upd Hq1 q2 (.lst (([wLeast, wY1] : List (List Nat)).map vs)) q2 = some (.lst (([wLeast, wY1] : List (List Nat)).map vs)) := upd_same
      generalize upd Hq1 q2 (.lst (([wLeast, wY1] : List (List Nat)).map vs)) = Hq2 at g' kq0 kq1 kq2 ⊢
      have g := g'
      clear g'
      refine ⟨(Nat.le_of_ble_eq_true rfl), fun qL hqL => ?_⟩
      have nqL := (g.st.nota hqL).1
      have fqL := g.free hqL
      have g' := g.new (o := .lst [V.ref q0, V.ref q1, V.ref q2]) hqL
      have kq0 := new_keep (o' := .lst [V.ref q0, V.ref q1, V.ref q2]) kq0 hqL
      have kq1 := new_keep (o' := .lst [V.ref q0, V.ref q1, V.ref q2]) kq1 hqL
      have kq2 := new_keep (o' := .lst [V.ref q0, V.ref q1, V.ref q2]) kq2 hqL
      have kqL : upd Hq2 qL (.lst [V.ref q0, V.ref q1, V.ref q2]) qL = some (.lst [V.ref q0, V.ref q1, V.ref q2]) := upd_same
      generalize upd Hq2 qL (.lst [V.ref q0, V.ref q1, V.ref q2]) = HqL at g' kq0 kq1 kq2 kqL ⊢
      have g := g'
      clear g'

      have key : ∃ (p : Addr) (ws : List Wrd), [V.ref q0, V.ref q1, V.ref q2][m - 5]? = some (V.ref p) ∧ HqL p = some (.lst (ws.map vs)) ∧ ws ∈ HTERMS ∧ H p = none := by
        have c3 : m - 5 < 3 := by omega
        match m - 5, c3 with
        | 0, _ => exact ⟨q0, _, rfl, kq0, by decide, fq0⟩
        | 1, _ => exact ⟨q1, _, rfl, kq1, by decide, fq1⟩
        | 2, _ => exact ⟨q2, _, rfl, kq2, by decide, fq2⟩
      obtain ⟨p, ws, e1, e2, e3, e4⟩ := key
      refine ⟨_, rfl, _, _, rfl, rfl, qL, _, ((m - 5 : Nat) : Int), .ref p, rfl, congrArg V.int (show (m : Int) - 5 = ((m - 5 : Nat) : Int) by omega), SqL.of kqL, atI_nat e1, ?_⟩
      exact q _ p ws (.inr ⟨hb, e3⟩) g e4 e2
theorem ok_rowT {f : Addr} {fd : FuncData} (F : Fun K "_law_row_tokens" "_law_row_tokens" sRowT f fd) (TE : ETxt mg) : FnOk P w K mg base CX0 1 f fd ["parts"] spRowT := by
  refine F.ok scRT (fun us H Q E h => ?_) (fun cdv A outer s H us Q E hr h => ?_)
  · obtain ⟨pa, rs, parts, rfl, _⟩ := h
    rfl
  · obtain ⟨pa, rs, parts, rfl, hpa, hLL, h6, h2, q⟩ := h
    refine ⟨_, (pss_cons (ps_set (i := 1) scRT.nd rfl (Or.inl rfl) (pe_lst (pa_cons pe_str pa_nil)))
      (pss_cons (ps_for PassesOwn.never rfl (pi_enum (by rfl) TE.enumerate (pa_cons (pv 0) pa_nil)) (pg_tup (by rfl) (pgs_cons (pg_name (i := 2) scRT.nd rfl (Or.inl rfl)) (pgs_cons (pg_name (i := 3) scRT.nd rfl (Or.inl rfl)) pgs_nil))) (pss_one (ps_set (i := 1) scRT.nd rfl (Or.inl rfl) (pe_op op_cat (pe_op op_cat (pv 1) (pe_ifExp (pt_cmpR op_gt (pv 2) pe_int (nomark _)) (pe_lst (pa_cons pe_str pa_nil)) (pe_lst pa_nil))) (pv 3)))))
      (pss_one (ps_ret (pe_op op_cat (pv 1) (pe_lst (pa_cons pe_str pa_nil))))))), ?_⟩
    have eO : V.str (Str.ofString "(") = vs gOpen := congrArg V.str (by decide +kernel)
    have eC : V.str (Str.ofString ")") = vs gClose := congrArg V.str (by decide +kernel)
    have eM : V.str (Str.ofString ",") = vs gComma := congrArg V.str (by decide +kernel)
    have ll := Paired.length hLL
    refine ⟨Nat.le_of_ble_eq_true rfl, fun f0 hf0 => ?_⟩
    rw [eO]
    refine ⟨_, rfl, pa, rs, rfl, SqL.of (new_keep hpa hf0), ?_⟩
    have s0 := same_upd (o := .lst [vs gOpen]) (Same.refl H) hf0
    have k0 : upd H f0 (.lst [vs gOpen]) f0 = some (.lst [vs gOpen]) := upd_same
    generalize upd H f0 (.lst [vs gOpen]) = H0 at s0 k0
    have small : ∀ n ≤ parts.length, (gOpen :: commas (parts.take n)).length ≤ 1 + 3 * n := fun n hn => by
      have tl := tail_len 2 ((parts.take n).tail) (fun P hP => h2 P (List.mem_of_mem_take (List.mem_of_mem_tail hP)))
      rw [List.length_cons]
      cases e : parts.take n with
      | nil => show 0 + 1 ≤ _; omega
      | cons P r =>
        rw [e] at tl
        have lp := h2 P (List.mem_of_mem_take (by rw [e]; exact List.mem_cons_self ..))
        have ln : (P :: r).length = n := by rw [← e, List.length_take]; omega
        rw [List.length_cons] at ln
        rw [commas_cons, List.length_append]
        have tl' : (tailW r).length ≤ (2 + 1) * r.length := tl
        omega
    refine for_enum (K := K) (a := pa) (xs := rs) (fun i σ H' => ∃ (fa : Addr) (v2 v3 : Option V), σ = [some (.ref pa), some (.ref fa), v2, v3] ∧ Same H H' ∧ H' fa = some (.lst ((gOpen :: commas (parts.take i)).map vs)))
      ⟨f0, none, none, rfl, s0, k0⟩ (fun i σ H' _ ⟨_, _, _, _, s, _⟩ => SqL.of (s _ _ hpa)) ?_ ?_
    · rintro i x σ H1 T hx ⟨fa, v2, v3, rfl, s1, k1⟩ hT
      have hi : i < parts.length := by
        have := (List.getElem?_eq_some_iff.mp hx).1
        omega
      have hP : parts[i]? = some parts[i] := List.getElem?_eq_getElem hi
      obtain ⟨x', ex, qp, rfl, hqp⟩ := paired_get hLL hP
      rw [hx] at ex
      cases ex
      refine ⟨T, _, rfl, SqT.of upd_same, rfl, _, _, rfl, _, _, rfl, rfl, ?_⟩
      have s2 := same_upd (o := .tup [V.int (i : Nat), V.ref qp]) s1 hT
      have k2 := new_keep (o' := .tup [V.int (i : Nat), V.ref qp]) k1 hT
      generalize upd H1 T (.tup [V.int (i : Nat), V.ref qp]) = H2 at s2 k2
      have pl := h2 _ (List.getElem_mem hi)
      have sm := small i (by omega)
      have fin : ∀ (c : List Wrd) (H3 : Hp) (lc : Addr), c.length ≤ 1 → c = (if parts.take i = [] then [] else [gComma]) → Same H2 H3 → H3 lc = some (.lst (c.map vs)) → True := fun _ _ _ _ _ _ _ => trivial
      refine ⟨_, rfl, _, rfl, _, _, rfl, rfl, _, rfl, ?_⟩
      have ct : (parts.take i = []) ↔ i = 0 := by
        rw [List.take_eq_nil_iff]
        constructor
        · rintro (h | h)
          · exact h
          · rw [h] at hi; exact absurd hi (Nat.not_lt_zero _)
        · exact .inl
      have join : (gOpen :: commas (parts.take i)) ++ (if parts.take i = [] then [] else [gComma]) ++ parts[i] = gOpen :: commas (parts.take (i + 1)) := by
        rw [List.take_succ, hP, show (some parts[i]).toList = [parts[i]] from rfl, commas_snoc]
        simp only [List.cons_append, List.append_assoc]
      have rest : ∀ (lc : Addr) (c : List Wrd) (H3 : Hp), c = (if parts.take i = [] then [] else [gComma]) → Same H2 H3 → H3 lc = some (.lst (c.map vs)) → True := fun _ _ _ _ _ _ => trivial
      by_cases i0 : i = 0
      · refine if_false_of (decide_eq_false (by omega)) ?_
        refine ⟨Nat.zero_le _, fun lc hlc => ?_⟩
        have e0 : parts.take i = [] := ct.mpr i0
        have s3 := same_upd (o := .lst []) s2 hlc
        have k3 := new_keep (o' := .lst []) k2 hlc
        have c3 : upd H2 lc (.lst []) lc = some (.lst []) := upd_same
        generalize upd H2 lc (.lst []) = H3 at s3 k3 c3
        refine ⟨fa, lc, _, _, rfl, rfl, k3, c3, by rw [List.length_map, sizeLine_eq]; show _ + 0 ≤ _; omega, fun f1 hf1 => ?_⟩
        have s4 := same_upd (o := .lst ((gOpen :: commas (parts.take i)).map vs ++ [])) s3 hf1
        have k4 : upd H3 f1 (.lst ((gOpen :: commas (parts.take i)).map vs ++ [])) f1 = some (.lst ((gOpen :: commas (parts.take i)).map vs ++ [])) := upd_same
        generalize upd H3 f1 (.lst ((gOpen :: commas (parts.take i)).map vs ++ [])) = H4 at s4 k4
        refine ⟨_, rfl, f1, qp, _, _, rfl, rfl, k4, s4 _ _ hqp, by rw [List.append_nil, List.length_map, List.length_map, sizeLine_eq]; omega, fun f2 hf2 => ?_⟩
        refine ⟨f2, _, _, rfl, same_upd s4 hf2, ?_⟩
        rw [upd_same, ← join, if_pos e0, List.append_nil, List.append_nil, List.map_append]
      · refine if_true_of (decide_eq_true (by omega)) ?_
        refine ⟨Nat.le_of_ble_eq_true rfl, fun lc hlc => ?_⟩
        rw [eM]
        have e0 : ¬ parts.take i = [] := fun z => i0 (ct.mp z)
        have s3 := same_upd (o := .lst [vs gComma]) s2 hlc
        have k3 := new_keep (o' := .lst [vs gComma]) k2 hlc
        have c3 : upd H2 lc (.lst [vs gComma]) lc = some (.lst [vs gComma]) := upd_same
        generalize upd H2 lc (.lst [vs gComma]) = H3 at s3 k3 c3
        refine ⟨fa, lc, _, _, rfl, rfl, k3, c3, by rw [List.length_map, sizeLine_eq]; show _ + 1 ≤ _; omega, fun f1 hf1 => ?_⟩
        have s4 := same_upd (o := .lst ((gOpen :: commas (parts.take i)).map vs ++ [vs gComma])) s3 hf1
        have k4 : upd H3 f1 (.lst ((gOpen :: commas (parts.take i)).map vs ++ [vs gComma])) f1 = some (.lst ((gOpen :: commas (parts.take i)).map vs ++ [vs gComma])) := upd_same
        generalize upd H3 f1 (.lst ((gOpen :: commas (parts.take i)).map vs ++ [vs gComma])) = H4 at s4 k4
        refine ⟨_, rfl, f1, qp, _, _, rfl, rfl, k4, s4 _ _ hqp, by rw [List.length_append, List.length_map, List.length_map, sizeLine_eq]; show _ + 1 + _ ≤ _; omega, fun f2 hf2 => ?_⟩
        refine ⟨f2, _, _, rfl, same_upd s4 hf2, ?_⟩
        rw [upd_same, ← join, if_neg e0, List.map_append, List.map_append]
        rfl
    · rintro σ H1 ⟨fa, v2, v3, rfl, s1, k1⟩
      rw [ll, List.take_length] at k1
      have sm := small parts.length (Nat.le_refl _)
      rw [List.take_length] at sm
      refine ⟨_, rfl, Nat.le_of_ble_eq_true rfl, fun lc hlc => ?_⟩
      rw [eC]
      have s3 := same_upd (o := .lst [vs gClose]) s1 hlc
      have k3 := new_keep (o' := .lst [vs gClose]) k1 hlc
      refine ⟨fa, lc, _, _, rfl, rfl, k3, upd_same, by rw [List.length_map, sizeLine_eq]; show _ + 1 ≤ _; omega, fun f1 hf1 => ?_⟩
      refine q _ f1 (same_upd s3 hf1) (s3.free hf1) ?_
      rw [upd_same]
      unfold rowW
      rw [← List.cons_append, List.map_append]
      rfl
end
end K9
set_option Elab.async false
set_option linter.all false
set_option maxRecDepth 100000
namespace K9
open PySem L2 PyProof.Rows
abbrev sExprT : Stmt := top 31
def spExprT (d : Nat) : Sp := fun us H Q _ => ∃ (a sc : Addr) (ns : List Int), us = [.ref a, .int (d : Int)] ∧ StAt H a sc ns ∧ ∀ (H' : Hp) (p : Addr) (ws : List Wrd), ExprW d ws → Going a sc ns H H' → H p = none → H' p = some (.lst (ws.map vs)) → Q (.ref p) H'
def OPW : List Wrd := [gPlus, gMinus, gTimes, gDiv, wMod]
theorem opw_ops : ∀ s ∈ OPW, s ∈ OPS := by decide
theorem Going.keep {a sc p : Addr} {ns : List Int} {H H1 : Hp} {o : HO} (g : Going a sc ns H H1) (n : p ≠ a) (h : H p = some o) : H1 p = some o := g.same p o n h
section
variable {P : Program} {w : World} {K : PySem.W.Frag} {mg : Str → Option Value} {base : Heap} {C CR fI : Addr}
theorem scET : FnScope ["state", "depth", "pick"] ["state", "depth"] (defScope sExprT) := ⟨rfl, rfl, rfl, by decide +kernel, rfl, by decide +kernel, by decide +kernel⟩
theorem ok_exprS {f fN : Addr} {fd fdN : FuncData} {n k : Nat} {spG : Sp} (DX : Dd K mg "_law_expression_tokens" sExprT ["state", "depth"] f fd) (DN : Dd K mg "_law_next" sNext ["state", "limit"] fN fdN) (GN : FnOk P w K mg base CX0 1 fN fdN ["state", "limit"] spNext)
    (G : FnOk P w K mg base CX0 k f fd ["state", "depth"] spG) (hG : ∀ m, n = m + 1 → spG = spExprT m) (hk : 1 ≤ k) (hn : n ≤ 2) : FnOk P w K mg base CX0 (k + 1) f fd ["state", "depth"] (spExprT n) := by
  refine DX.fn.ok scET (fun us H Q E h => ?_) (fun cdv A outer s H us Q E hr h => ?_)
  · obtain ⟨a, sc, ns, rfl, _⟩ := h
    rfl
  · obtain ⟨a, sc, ns, rfl, hS, q⟩ := h
    have hrk : Room k _ := hr
    have hr1 : Room 1 _ := hr.mono hk
    refine ⟨_, (C8.pss_cut (ps_set (i := 2) scET.nd rfl (Or.inl rfl) (pe_ifExp (pt_cmpR op_gt (pv 1) pe_int (nomark _)) (pe_call GN hr1 rfl DN.g DN.k DN.b .nil pass0 (pa_cons (pv 0) (pa_cons pe_int pa_nil))) (pe_call GN hr1 rfl DN.g DN.k DN.b .nil pass0 (pa_cons (pv 0) (pa_cons pe_int pa_nil)))))
      (pss_cons (ps_if (pt_cmpR op_lt (pv 2) pe_int (nomark _)) (pss_one (ps_ret (pe_ix ix_list (pe_lst (pa_cons (pe_lst (pa_cons pe_str pa_nil)) (pa_cons (pe_lst (pa_cons pe_str pa_nil)) (pa_cons (pe_lst (pa_cons pe_str (pa_cons pe_str pa_nil))) (pa_cons (pe_lst (pa_cons pe_str pa_nil)) pa_nil))))) (pv 2) (fun _ _ => rfl)))) pss_nil)
      (pss_cons (ps_if (pt_cmpR op_eq (pv 2) pe_int (nomark _)) (pss_one (ps_ret (pe_op op_cat (pe_op op_cat (pe_lst (pa_cons pe_str pa_nil)) (pe_call G hrk rfl DX.g DX.k DX.b .nil pass0 (pa_cons (pv 0) (pa_cons (pe_op op_sub (pv 1) pe_int) pa_nil)))) (pe_lst (pa_cons pe_str pa_nil))))) pss_nil)
      (pss_one (ps_ret (pe_op op_cat (pe_op op_cat (pe_call G hrk rfl DX.g DX.k DX.b .nil pass0 (pa_cons (pv 0) (pa_cons (pe_op op_sub (pv 1) pe_int) pa_nil))) (pe_lst (pa_cons (pe_ix ix_list (pe_lst (pa_cons pe_str (pa_cons pe_str (pa_cons pe_str (pa_cons pe_str (pa_cons pe_str pa_nil)))))) (pe_call GN hr1 rfl DN.g DN.k DN.b .nil pass0 (pa_cons (pv 0) (pa_cons pe_int pa_nil))) (fun _ _ => rfl)) pa_nil))) (pe_call G hrk rfl DX.g DX.k DX.b .nil pass0 (pa_cons (pv 0) (pa_cons (pe_op op_sub (pv 1) pe_int) pa_nil))))))))), ?_⟩
    refine ⟨fun σ' H' => ∃ m : Nat, σ' = [some (.ref a), some (.int (n : Int)), some (.int (m : Int))] ∧ Going a sc ns H H' ∧ (n = 0 → m < 4), ?_, ?_⟩
    · refine ⟨_, rfl, _, _, rfl, rfl, _, rfl, ?_⟩
      by_cases c : n = 0
      · refine if_false_of (decide_eq_false (by omega)) ?_
        exact ⟨_, rfl, a, sc, ns, 4, rfl, hS, by decide, by decide, fun m H2 hm hS2 hB2 => ⟨m, rfl, (Going.start hS).next hS2 hB2, fun _ => hm⟩⟩
      · refine if_true_of (decide_eq_true (by omega)) ?_
        exact ⟨_, rfl, a, sc, ns, 7, rfl, hS, by decide, by decide, fun m H2 hm hS2 hB2 => ⟨m, rfl, (Going.start hS).next hS2 hB2, fun z => absurd z c⟩⟩
    rintro σ H1 ⟨m, rfl, g, m4⟩
    refine ⟨_, rfl, _, _, rfl, rfl, _, rfl, ?_⟩
    by_cases c : m < 4
    · refine if_true_of (decide_eq_true (by omega)) ?_
      refine ⟨(Nat.le_of_ble_eq_true rfl), fun q0 hq0 => ?_⟩
      rw [show [V.str (Str.ofString "x")] = ([wX] : List (List Nat)).map vs by decide +kernel]
      have nq0 := (g.st.nota hq0).1
      have fq0 := g.free hq0
      have g' := g.new (o := .lst (([wX] : List (List Nat)).map vs)) hq0
      have kq0 : upd H1 q0 (.lst (([wX] : List (List Nat)).map vs)) q0 = some (.lst (([wX] : List (List Nat)).map vs)) := upd_same
      generalize upd H1 q0 (.lst (([wX] : List (List Nat)).map vs)) = Hq0 at g'  kq0 ⊢
      have g := g'
      clear g'
      refine ⟨(Nat.le_of_ble_eq_true rfl), fun q1 hq1 => ?_⟩
      rw [show [V.str (Str.ofString "3")] = ([w3] : List (List Nat)).map vs by decide +kernel]
      have nq1 := (g.st.nota hq1).1
      have fq1 := g.free hq1
      have g' := g.new (o := .lst (([w3] : List (List Nat)).map vs)) hq1
      have kq0 := new_keep (o' := .lst (([w3] : List (List Nat)).map vs)) kq0 hq1
      have kq1 : upd Hq0 q1 (.lst (([w3] : List (List Nat)).map vs)) q1 = some (.lst (([w3] : List (List Nat)).map vs)) := upd_same
      generalize upd Hq0 q1 (.lst (([w3] : List (List Nat)).map vs)) = Hq1 at g' kq0 kq1 ⊢
      have g := g'
      clear g'
      refine ⟨(Nat.le_of_ble_eq_true rfl), fun q2 hq2 => ?_⟩
      rw [show [V.str (Str.ofString "-"), V.str (Str.ofString "5")] = ([gMinus, w5] : List (List Nat)).map vs by decide +kernel]
      have nq2 := (g.st.nota hq2).1
      have fq2 := g.free hq2
      have g' := g.new (o := .lst (([gMinus, w5] : List (List Nat)).map vs)) hq2
      have kq0 := new_keep (o' := .lst (([gMinus, w5] : List (List Nat)).map vs)) kq0 hq2
      have kq1 := new_keep (o' := .lst (([gMinus, w5] : List (List Nat)).map vs)) kq1 hq2
      have kq2 : upd Hq1 q2 (.lst (([gMinus, w5] : List (List Nat)).map vs)) q2 = some (.lst (([gMinus, w5] : List (List Nat)).map vs)) := upd_same
      generalize upd Hq1 q2 (.lst (([gMinus, w5] : List (List Nat)).map vs)) = Hq2 at g' kq0 kq1 kq2 ⊢
      have g := g'
      clear g'
      refine ⟨(Nat.le_of_ble_eq_true rfl), fun q3 hq3 => ?_⟩
      rw [show [V.str (Str.ofString "'bob")] = ([wBob] : List (List Nat)).map vs by decide +kernel]
      have nq3 := (g.st.nota hq3).1
      have fq3 := g.free hq3
      have g' := g.new (o := .lst (([wBob] : List (List Nat)).map vs)) hq3
      have kq0 := new_keep (o' := .lst (([wBob] : List (List Nat)).map vs)) kq0 hq3
      have kq1 := new_keep (o' := .lst (([wBob] : List (List Nat)).map vs)) kq1 hq3
      have kq2 := new_keep (o' := .lst (([wBob] : List (List Nat)).map vs)) kq2 hq3
      have kq3 : upd Hq2 q3 (.lst (([wBob] : List (List Nat)).map vs)) q3 = some (.lst (([wBob] : List (List Nat)).map vs)) := upd_same
      generalize upd Hq2 q3 (.lst (([wBob] : List (List Nat)).map vs)) = Hq3 at g' kq0 kq1 kq2 kq3 ⊢
      have g := g'
      clear g'
      refine ⟨(Nat.le_of_ble_eq_true rfl), fun qL hqL => ?_⟩
      have nqL := (g.st.nota hqL).1
      have fqL := g.free hqL
      have g' := g.new (o := .lst [V.ref q0, V.ref q1, V.ref q2, V.ref q3]) hqL
      have kq0 := new_keep (o' := .lst [V.ref q0, V.ref q1, V.ref q2, V.ref q3]) kq0 hqL
      have kq1 := new_keep (o' := .lst [V.ref q0, V.ref q1, V.ref q2, V.ref q3]) kq1 hqL
      have kq2 := new_keep (o' := .lst [V.ref q0, V.ref q1, V.ref q2, V.ref q3]) kq2 hqL
      have kq3 := new_keep (o' := .lst [V.ref q0, V.ref q1, V.ref q2, V.ref q3]) kq3 hqL
      have kqL : upd Hq3 qL (.lst [V.ref q0, V.ref q1, V.ref q2, V.ref q3]) qL = some (.lst [V.ref q0, V.ref q1, V.ref q2, V.ref q3]) := upd_same
      generalize upd Hq3 qL (.lst [V.ref q0, V.ref q1, V.ref q2, V.ref q3]) = HqL at g' kq0 kq1 kq2 kq3 kqL ⊢
      have g := g'
      clear g'

      have key : ∃ (p : Addr) (ws : List Wrd), [V.ref q0, V.ref q1, V.ref q2, V.ref q3][m]? = some (V.ref p) ∧ HqL p = some (.lst (ws.map vs)) ∧ ws ∈ EAT ∧ H p = none := by
        match m, c with
        | 0, _ => exact ⟨q0, _, rfl, kq0, by decide, fq0⟩
        | 1, _ => exact ⟨q1, _, rfl, kq1, by decide, fq1⟩
        | 2, _ => exact ⟨q2, _, rfl, kq2, by decide, fq2⟩
        | 3, _ => exact ⟨q3, _, rfl, kq3, by decide, fq3⟩
      obtain ⟨p, ws, e1, e2, e3, e4⟩ := key
      refine ⟨_, rfl, qL, _, (m : Int), .ref p, rfl, rfl, SqL.of kqL, atI_nat e1, ?_⟩
      exact q _ p ws (.atom e3) g e4 e2
    · refine if_false_of (decide_eq_false (by omega)) ?_
      obtain ⟨j, rfl⟩ : ∃ j, n = j + 1 := ⟨n - 1, by have : n ≠ 0 := fun z => c (m4 z); omega⟩
      obtain rfl := hG j rfl
      have ej : [V.ref a, V.int (((j + 1 : Nat) : Int) - 1)] = [V.ref a, V.int (j : Int)] := congrArg (fun z => [V.ref a, V.int z]) (by omega)
      have p2 : (2 : Nat) ^ j ≤ 2 := by
        have : 2 ^ j ≤ 2 ^ 1 := Nat.pow_le_pow_right (by omega) (by omega)
        omega
      have ln : ∀ ws : List Wrd, ExprW j ws → ws.length ≤ 10 := fun ws h => by
        have := (expr_w h).2
        omega
      refine ⟨_, rfl, rfl, _, rfl, ?_⟩
      by_cases c4 : m = 4
      · refine if_true_of (decide_eq_true (by rw [c4]; rfl)) ?_
        refine ⟨Nat.le_of_ble_eq_true rfl, fun l1 h1 => ?_⟩
        rw [show [V.str (Str.ofString "(")] = ([gOpen] : List Wrd).map vs by decide +kernel]
        have n1 := (g.st.nota h1).1
        have g2 := g.new (o := .lst (([gOpen] : List Wrd).map vs)) h1
        have k1 : upd H1 l1 (.lst (([gOpen] : List Wrd).map vs)) l1 = some (.lst (([gOpen] : List Wrd).map vs)) := upd_same
        generalize upd H1 l1 (.lst (([gOpen] : List Wrd).map vs)) = H2 at g2 k1
        refine ⟨_, rfl, _, rfl, _, _, rfl, rfl, a, sc, ns, ej, g2.st, fun H3 p ws hw g3' fp kp => ?_⟩
        have g3 := g2.comp g3'
        have lw := ln ws hw
        refine ⟨l1, p, _, _, rfl, rfl, g3'.keep n1 k1, kp, by rw [List.length_map, List.length_map, sizeLine_eq]; show 1 + _ ≤ _; omega, fun f1 hf1 => ?_⟩
        have g4 := g3.new (o := .lst (([gOpen] : List Wrd).map vs ++ ws.map vs)) hf1
        have k4 : upd H3 f1 (.lst (([gOpen] : List Wrd).map vs ++ ws.map vs)) f1 = some (.lst (([gOpen] : List Wrd).map vs ++ ws.map vs)) := upd_same
        generalize upd H3 f1 (.lst (([gOpen] : List Wrd).map vs ++ ws.map vs)) = H4 at g4 k4
        refine ⟨Nat.le_of_ble_eq_true rfl, fun l2 h2 => ?_⟩
        rw [show [V.str (Str.ofString ")")] = ([gClose] : List Wrd).map vs by decide +kernel]
        have g5 := g4.new (o := .lst (([gClose] : List Wrd).map vs)) h2
        refine ⟨f1, l2, _, _, rfl, rfl, new_keep k4 h2, upd_same, by rw [List.length_append, List.length_map, List.length_map, List.length_map, sizeLine_eq]; show 1 + _ + 1 ≤ _; omega, fun f2 hf2 => ?_⟩
        refine q _ f2 _ (.par hw) (g5.new hf2) (g5.free hf2) ?_
        rw [upd_same, ← List.map_append, ← List.map_append]
        rfl
      · refine if_false_of (decide_eq_false (fun z => c4 (by have := V.int.inj z; omega))) ?_
        refine ⟨_, rfl, _, rfl, _, _, rfl, rfl, a, sc, ns, ej, g.st, fun H2 p1 ws1 hw1 g2' fp1 kp1 => ?_⟩
        have g2 := g.comp g2'
        have np1 := (g.st.nota fp1).1
        have lw1 := ln ws1 hw1
        refine ⟨Nat.le_of_ble_eq_true rfl, fun lo ho => ?_⟩
        rw [show [V.str (Str.ofString "+"), V.str (Str.ofString "-"), V.str (Str.ofString "*"), V.str (Str.ofString "/"), V.str (Str.ofString "mod")] = OPW.map vs by decide +kernel]
        have no := (g2.st.nota ho).1
        have g3 := g2.new (o := .lst (OPW.map vs)) ho
        have kp1 := new_keep (o' := .lst (OPW.map vs)) kp1 ho
        have ko : upd H2 lo (.lst (OPW.map vs)) lo = some (.lst (OPW.map vs)) := upd_same
        generalize upd H2 lo (.lst (OPW.map vs)) = H3 at g3 kp1 ko
        refine ⟨_, rfl, a, sc, ns, 5, rfl, g3.st, by decide, by decide, fun e H4 he hS4 hB4 => ?_⟩
        have g4 := g3.next hS4 hB4
        have kp1 := hB4.same p1 _ np1 kp1
        have ko := hB4.same lo _ no ko
        have ee : OPW[e]? = some OPW[e] := List.getElem?_eq_getElem he
        refine ⟨lo, _, (e : Int), vs OPW[e], rfl, rfl, SqL.of ko, atI_nat (by rw [List.getElem?_map, ee]; rfl), ?_⟩
        have hs := opw_ops _ (List.getElem_mem he)
        generalize OPW[e] = op at hs
        refine ⟨Nat.le_of_ble_eq_true rfl, fun l1 h1 => ?_⟩
        have g5 := g4.new (o := .lst [vs op]) h1
        have kp1 := new_keep (o' := .lst [vs op]) kp1 h1
        have k1 : upd H4 l1 (.lst [vs op]) l1 = some (.lst [vs op]) := upd_same
        generalize upd H4 l1 (.lst [vs op]) = H5 at g5 kp1 k1
        refine ⟨p1, l1, _, _, rfl, rfl, kp1, k1, by rw [List.length_map, sizeLine_eq]; show _ + 1 ≤ _; omega, fun f1 hf1 => ?_⟩
        have nf1 := (g5.st.nota hf1).1
        have g6 := g5.new (o := .lst (ws1.map vs ++ [vs op])) hf1
        have k6 : upd H5 f1 (.lst (ws1.map vs ++ [vs op])) f1 = some (.lst (ws1.map vs ++ [vs op])) := upd_same
        generalize upd H5 f1 (.lst (ws1.map vs ++ [vs op])) = H6 at g6 k6
        refine ⟨_, rfl, _, rfl, _, _, rfl, rfl, a, sc, ns, ej, g6.st, fun H7 p2 ws2 hw2 g7' fp2 kp2 => ?_⟩
        have g7 := g6.comp g7'
        have lw2 := ln ws2 hw2
        refine ⟨f1, p2, _, _, rfl, rfl, g7'.keep nf1 k6, kp2, by rw [List.length_append, List.length_map, List.length_map, sizeLine_eq]; show _ + 1 + _ ≤ _; omega, fun f2 hf2 => ?_⟩
        refine q _ f2 _ (.op hw1 hw2 hs) (g7.new hf2) (g7.free hf2) ?_
        rw [upd_same, List.map_append]
        simp
theorem ok_expr {f fN : Addr} {fd fdN : FuncData} (DX : Dd K mg "_law_expression_tokens" sExprT ["state", "depth"] f fd) (DN : Dd K mg "_law_next" sNext ["state", "limit"] fN fdN) (GN : FnOk P w K mg base CX0 1 fN fdN ["state", "limit"] spNext) : ∀ n, n ≤ 2 → FnOk P w K mg base CX0 (n + 2) f fd ["state", "depth"] (spExprT n)
  | 0, h => ok_exprS DX DN GN (fn_false.mono (by decide : 0 ≤ 1)) (fun m h => by cases h) (Nat.le_refl _) h
  | n + 1, h => ok_exprS DX DN GN (ok_expr DX DN GN n (by omega)) (fun m h => by cases h; rfl) (by omega) h
end
end K9
set_option Elab.async false
set_option linter.all false
set_option maxRecDepth 100000
namespace K9
open PySem L2 PyProof.Rows
abbrev sPartT : Stmt := top 32
abbrev sBodyT : Stmt := top 33
abbrev sRuleT : Stmt := top 34
abbrev sItemT : Stmt := top 35
abbrev NPT : List Str := ["state", "pick", "terms", "k"]
abbrev NBT : List Str := ["state", "found", "k"]
abbrev NUT : List Str := ["state", "terms", "found", "k"]
abbrev NIT : List Str := ["state", "pick", "sorts", "k"]
def LLn (a t : Addr) (H : Hp) (rs : List V) (parts : List (List Wrd)) : Prop := Paired (fun x P => ∃ q, x = V.ref q ∧ q ≠ a ∧ q ≠ t ∧ H q = some (.lst (P.map vs))) rs parts
theorem LLn.ll {a t : Addr} {H : Hp} {rs : List V} {parts : List (List Wrd)} (h : LLn a t H rs parts) : LL H rs parts := Paired.imp (fun _ _ ⟨q, e, _, _, k⟩ => ⟨q, e, k⟩) h
theorem LLn.keep {a t sc : Addr} {ns : List Int} {H H' : Hp} {rs : List V} {parts : List (List Wrd)} (h : LLn a t H rs parts) (g : Going a sc ns H H') : LLn a t H' rs parts := Paired.imp (fun _ _ ⟨q, e, n1, n2, k⟩ => ⟨q, e, n1, n2, g.keep n1 k⟩) h
theorem termb_len {b : Bool} {P : List Wrd} (h : TermB b P) : P.length ≤ 2 := by
  rcases h with h | ⟨_, h⟩
  · exact (terms_w P (List.mem_append_left _ h)).2
  · exact (terms_w P (List.mem_append_right _ h)).2
theorem termb_f {P : List Wrd} (h : TermB false P) : P ∈ TERMS := by
  rcases h with h | ⟨h, _⟩
  · exact h
  · cases h
theorem termb_t {P : List Wrd} (h : TermB true P) : P ∈ TERMS ++ HTERMS := by
  rcases h with h | ⟨_, h⟩
  · exact List.mem_append_left _ h
  · exact List.mem_append_right _ h
theorem ix_listK {X : Cx} {K : PySem.W.Frag} (h : X.K = K) : IxR X (rIxL K) := h ▸ ix_list
theorem name_len : ∀ n ∈ NAMES, n.length ≤ 40 := by decide +kernel
section
variable {P : Program} {w : World} {K : PySem.W.Frag} {mg : Str → Option Value} {base : Heap} {C CR fI : Addr}
theorem scPT : FnScope NPT ["state"] (defScope sPartT) := ⟨rfl, rfl, rfl, by decide +kernel, rfl, by decide +kernel, by decide +kernel⟩
theorem scBT : FnScope NBT ["state"] (defScope sBodyT) := ⟨rfl, rfl, rfl, by decide +kernel, rfl, by decide +kernel, by decide +kernel⟩
theorem scUT : FnScope NUT ["state"] (defScope sRuleT) := ⟨rfl, rfl, rfl, by decide +kernel, rfl, by decide +kernel, by decide +kernel⟩
theorem scIT : FnScope NIT ["state"] (defScope sItemT) := ⟨rfl, rfl, rfl, by decide +kernel, rfl, by decide +kernel, by decide +kernel⟩
theorem ok_partT {f fN fNm fTt fRw fX : Addr} {fd fdN fdNm fdTt fdRw fdX : FuncData} (F : Fun K "_law_part_tokens" "_law_part_tokens" sPartT f fd) (TL : LTxt mg) (DN : Dd K mg "_law_next" sNext ["state", "limit"] fN fdN) (GN : FnOk P w K mg base CX0 1 fN fdN ["state", "limit"] spNext)
    (DNm : Dd K mg "_law_name_drawn" sName ["state"] fNm fdNm) (GNm : FnOk P w K mg base CX0 2 fNm fdNm ["state"] spName) (DTt : Dd K mg "_law_term_tokens" sTermT ["state", "is_head"] fTt fdTt) (GTt : FnOk P w K mg base CX0 2 fTt fdTt ["state", "is_head"] spTermT)
    (DRw : Dd K mg "_law_row_tokens" sRowT ["parts"] fRw fdRw) (GRw : FnOk P w K mg base CX0 1 fRw fdRw ["parts"] spRowT) (DX : Dd K mg "_law_expression_tokens" sExprT ["state", "depth"] fX fdX) (GX1 : FnOk P w K mg base CX0 3 fX fdX ["state", "depth"] (spExprT 1)) (GX2 : FnOk P w K mg base CX0 4 fX fdX ["state", "depth"] (spExprT 2)) :
    FnOk P w K mg base CX0 5 f fd ["state"] (spWs PartW) := by
  refine F.ok scPT (fun us H Q E h => ?_) (fun cdv A outer s H us Q E hr h => ?_)
  · obtain ⟨a, sc, ns, rfl, _⟩ := h
    rfl
  · obtain ⟨a, sc, ns, rfl, hS, q⟩ := h
    have hr1 : Room 1 _ := hr.mono (by decide)
    have hr2 : Room 2 _ := hr.mono (by decide)
    have hrx1 : Room 3 _ := hr.mono (by decide)
    have hrx2 : Room 4 _ := hr
    have T := TL
    refine ⟨_, (pss_cons (ps_set (i := 1) scPT.nd rfl (Or.inl rfl) (pe_call GN hr1 rfl DN.g DN.k DN.b .nil pass0 (pa_cons (pv 0) (pa_cons pe_int pa_nil))))
      (pss_cons (ps_setLc (i := 2) (own := [("k", 3)]) (g := (gName 3)) (tt := tYes) rfl scPT.nd rfl rfl (sw_true rfl rfl rfl (by decide +kernel)) (pi_range1 (by rfl) T.range (pa_cons (pe_call GN hr1 rfl DN.g DN.k DN.b .nil pass0 (pa_cons (pv 0) (pa_cons pe_int pa_nil))) pa_nil)) (blkOk_by (own := [("k", 3)]) (N := NPT) (sc := defScope sPartT) (by decide +kernel)) (fun _ _ _ _ _ => (pg_name (i := 3) scPT.nd rfl (Or.inl rfl))) (fun _ _ _ _ _ => pts_nil) (fun _ _ _ _ _ => (pe_call GTt hr2 rfl DTt.g DTt.k DTt.b .nil pass0 (pa_cons (pv 0) (pa_cons pe_bl pa_nil)))))
      (pss_cons (ps_if (pt_cmpR op_lt (pv 1) pe_int (nomark _)) (pss_one (ps_ret (pe_op op_cat (pe_lst (pa_cons (pe_call GNm hr2 rfl DNm.g DNm.k DNm.b .nil pass0 (pa_cons (pv 0) pa_nil)) pa_nil)) (pe_call GRw hr1 rfl DRw.g DRw.k DRw.b .nil pass0 (pa_cons (pv 2) pa_nil))))) pss_nil)
      (pss_cons (ps_if (pt_cmpR op_eq (pv 1) pe_int (nomark _)) (pss_one (ps_ret (pe_op op_cat (pe_lst (pa_cons pe_str (pa_cons (pe_call GNm hr2 rfl DNm.g DNm.k DNm.b .nil pass0 (pa_cons (pv 0) pa_nil)) pa_nil))) (pe_call GRw hr1 rfl DRw.g DRw.k DRw.b .nil pass0 (pa_cons (pv 2) pa_nil))))) pss_nil)
      (pss_cons (ps_if (pt_cmpR op_eq (pv 1) pe_int (nomark _)) (pss_one (ps_ret (pe_op op_cat (pe_lst (pa_cons pe_str (pa_cons pe_str (pa_cons pe_str pa_nil)))) (pe_call GX2 hrx2 rfl DX.g DX.k DX.b .nil pass0 (pa_cons (pv 0) (pa_cons pe_int pa_nil)))))) pss_nil)
      (pss_one (ps_ret (pe_op op_cat (pe_op op_cat (pe_call GX2 hrx2 rfl DX.g DX.k DX.b .nil pass0 (pa_cons (pv 0) (pa_cons pe_int pa_nil))) (pe_lst (pa_cons (pe_ix ix_list (pe_lst (pa_cons pe_str (pa_cons pe_str (pa_cons pe_str pa_nil)))) (pe_call GN hr1 rfl DN.g DN.k DN.b .nil pass0 (pa_cons (pv 0) (pa_cons pe_int pa_nil))) (fun _ _ => rfl)) pa_nil))) (pe_call GX1 hrx1 rfl DX.g DX.k DX.b .nil pass0 (pa_cons (pv 0) (pa_cons pe_int pa_nil))))))))))), ?_⟩
    refine ⟨_, rfl, a, sc, ns, 5, rfl, hS, by decide, by decide, fun m H1 hm hS1 hB1 => ?_⟩
    have g1 := (Going.start hS).next hS1 hB1
    refine ⟨_, rfl, a, sc, ns, 4, rfl, g1.st, by decide, by decide, fun mc Hc hmc hSc hBc => ?_⟩
    have gc := g1.next hSc hBc
    refine ⟨(mc : Int), rfl, by omega, by omega, fun tA htA => ?_⟩
    have ntA := gc.st.nota htA
    have ftA := gc.free htA
    refine lc_range (lo := 0) (n := ((mc : Int)).toNat) (fun i H' => ∃ (rs : List V) (parts : List (List Wrd)), parts.length = i ∧ Going a sc ns H H' ∧ H' tA = some (.lst rs) ∧ LLn a tA H' rs parts ∧ ∀ P ∈ parts, TermB false P) ⟨[], [], rfl, gc.new htA, upd_same, .nil, fun P hP => by cases hP⟩ ?_ ?_
    · rintro j H' hj ⟨rs, parts, hlp, gj, hA, hL, hp⟩
      refine ⟨rfl, ?_⟩
      unfold tYes
      dsimp only
      rw [if_pos rfl]
      have lr := Paired.length hL
      refine ⟨_, rfl, a, sc, ns, false, rfl, gj.st, fun H6 p ws hw g6' fp kp => ?_⟩
      have g6 := gj.comp g6'
      refine ⟨rs, g6'.keep ntA.1 hA, by rw [sizeLine_eq]; omega, rs ++ [.ref p], parts ++ [ws], by rw [List.length_append, hlp]; rfl, g6.put ftA ntA.1 ntA.2, upd_same, ?_, ?_⟩
      · have npt : p ≠ tA := fun z => by subst z; rw [fp] at hA; cases hA
        have npa := (gj.st.nota fp).1
        exact Paired.snoc ⟨p, rfl, npa, npt, by rw [upd_ne npt]; exact kp⟩ (Paired.imp (fun _ _ ⟨q, e, n1, n2, k⟩ => ⟨q, e, n1, n2, by rw [upd_ne n2]; exact g6'.keep n1 k⟩) hL)
      · intro P hP
        rcases List.mem_append.mp hP with hP | hP
        · exact hp P hP
        · rw [List.mem_singleton.mp hP]
          exact hw
    rintro Ht ⟨rs, parts, hlp, gt, hA, hLn, hp⟩
    have hL := hLn.ll
    have lp4 : parts.length < 4 := by omega


    have h6 : parts.length ≤ 6 := by omega
    have p2 : ∀ P ∈ parts, P.length ≤ 2 := fun P hP => termb_len (hp P hP)
    have pt : ∀ P ∈ parts, P ∈ TERMS := fun P hP => termb_f (hp P hP)
    have rl := row_len (k := 2) p2
    refine ⟨_, rfl, _, _, rfl, rfl, _, rfl, ?_⟩
    by_cases c2 : m < 2
    · refine if_true_of (decide_eq_true (by omega)) ?_
      refine ⟨_, rfl, a, sc, ns, rfl, gt.st, fun H2 n hn g2' => ?_⟩
      have g2 := gt.comp g2'
      refine ⟨Nat.le_of_ble_eq_true rfl, fun l1 h1 => ?_⟩
      have g3 := g2.new (o := .lst [vs n]) h1
      have s3 := (Going.start g2.st).new (o := .lst [vs n]) h1
      have k1 : upd H2 l1 (.lst [vs n]) l1 = some (.lst [vs n]) := upd_same
      have hA3 := new_keep (o' := .lst [vs n]) (g2'.keep ntA.1 hA) h1
      have hL3 := ((hLn.keep g2').keep s3).ll
      generalize upd H2 l1 (.lst [vs n]) = H3 at g3 s3 k1 hA3 hL3
      refine ⟨_, rfl, tA, rs, parts, rfl, hA3, hL3, h6, p2, fun H4 p s4 fp kp => ?_⟩
      have g4 := g3.sm s4
      refine ⟨l1, p, _, _, rfl, rfl, s4 _ _ k1, kp, by rw [List.length_map, sizeLine_eq]; show 1 + _ ≤ _; omega, fun f2 hf2 => ?_⟩
      refine q _ f2 _ (.fact hn pt (by omega)) (g4.new hf2) (g4.free hf2) ?_
      rw [upd_same]
      rfl
    refine if_false_of (decide_eq_false (by omega)) ?_
    refine ⟨_, rfl, rfl, _, rfl, ?_⟩
    by_cases c3 : m = 2
    · refine if_true_of (decide_eq_true (by rw [c3]; rfl)) ?_
      refine ⟨_, rfl, a, sc, ns, rfl, gt.st, fun H2 n hn g2' => ?_⟩
      have g2 := gt.comp g2'
      have eN : V.str (Str.ofString "not") = vs wNot := congrArg V.str (by decide +kernel)
      refine ⟨Nat.le_of_ble_eq_true rfl, fun l1 h1 => ?_⟩
      rw [eN]
      have g3 := g2.new (o := .lst [vs wNot, vs n]) h1
      have s3 := (Going.start g2.st).new (o := .lst [vs wNot, vs n]) h1
      have k1 : upd H2 l1 (.lst [vs wNot, vs n]) l1 = some (.lst [vs wNot, vs n]) := upd_same
      have hA3 := new_keep (o' := .lst [vs wNot, vs n]) (g2'.keep ntA.1 hA) h1
      have hL3 := ((hLn.keep g2').keep s3).ll
      generalize upd H2 l1 (.lst [vs wNot, vs n]) = H3 at g3 s3 k1 hA3 hL3
      refine ⟨_, rfl, tA, rs, parts, rfl, hA3, hL3, h6, p2, fun H4 p s4 fp kp => ?_⟩
      have g4 := g3.sm s4
      refine ⟨l1, p, _, _, rfl, rfl, s4 _ _ k1, kp, by rw [List.length_map, sizeLine_eq]; show 2 + _ ≤ _; omega, fun f2 hf2 => ?_⟩
      refine q _ f2 _ (.not hn pt (by omega)) (g4.new hf2) (g4.free hf2) ?_
      rw [upd_same]
      rfl
    refine if_false_of (decide_eq_false (fun z => c3 (by have := V.int.inj z; omega))) ?_
    refine ⟨_, rfl, rfl, _, rfl, ?_⟩
    have ln : ∀ d ws, d ≤ 2 → ExprW d ws → ws.length ≤ 20 := fun d ws hd h => by
      have z := (expr_w h).2
      have : 2 ^ d ≤ 2 ^ 2 := Nat.pow_le_pow_right (by omega) hd
      omega
    by_cases c4 : m = 3
    · refine if_true_of (decide_eq_true (by rw [c4]; rfl)) ?_
      refine ⟨Nat.le_of_ble_eq_true rfl, fun l1 h1 => ?_⟩
      rw [show [V.str (Str.ofString "let"), V.str (Str.ofString "z"), V.str (Str.ofString "=")] = ([wLet, wZ, gEq] : List Wrd).map vs by decide +kernel]
      have n1 := (gt.st.nota h1).1
      have g3 := gt.new (o := .lst (([wLet, wZ, gEq] : List Wrd).map vs)) h1
      have k1 : upd Ht l1 (.lst (([wLet, wZ, gEq] : List Wrd).map vs)) l1 = some (.lst (([wLet, wZ, gEq] : List Wrd).map vs)) := upd_same
      generalize upd Ht l1 (.lst (([wLet, wZ, gEq] : List Wrd).map vs)) = H3 at g3 k1
      refine ⟨_, rfl, a, sc, ns, rfl, g3.st, fun H4 p ws hw g4' fp kp => ?_⟩
      have g4 := g3.comp g4'
      have lw := ln 2 ws (by decide) hw
      refine ⟨l1, p, _, _, rfl, rfl, g4'.keep n1 k1, kp, by rw [List.length_map, List.length_map, sizeLine_eq]; show 3 + _ ≤ _; omega, fun f2 hf2 => ?_⟩
      refine q _ f2 _ (.lete hw) (g4.new hf2) (g4.free hf2) ?_
      rw [upd_same]
      rfl
    refine if_false_of (decide_eq_false (fun z => c4 (by have := V.int.inj z; omega))) ?_
    refine ⟨_, rfl, a, sc, ns, rfl, gt.st, fun H2 p1 ws1 hw1 g2' fp1 kp1 => ?_⟩
    have g2 := gt.comp g2'
    have np1 := (gt.st.nota fp1).1
    have lw1 := ln 2 ws1 (by decide) hw1
    refine ⟨Nat.le_of_ble_eq_true rfl, fun lo ho => ?_⟩
    rw [show [V.str (Str.ofString "<"), V.str (Str.ofString "<="), V.str (Str.ofString "=")] = CMPS.map vs by decide +kernel]
    have no := (g2.st.nota ho).1
    have g3 := g2.new (o := .lst (CMPS.map vs)) ho
    have kp1 := new_keep (o' := .lst (CMPS.map vs)) kp1 ho
    have ko : upd H2 lo (.lst (CMPS.map vs)) lo = some (.lst (CMPS.map vs)) := upd_same
    generalize upd H2 lo (.lst (CMPS.map vs)) = H3 at g3 kp1 ko
    refine ⟨_, rfl, a, sc, ns, 3, rfl, g3.st, by decide, by decide, fun e H4 he hS4 hB4 => ?_⟩
    have g4 := g3.next hS4 hB4
    have kp1 := hB4.same p1 _ np1 kp1
    have ko := hB4.same lo _ no ko
    have ee : CMPS[e]? = some CMPS[e] := List.getElem?_eq_getElem he
    refine ⟨lo, _, (e : Int), vs CMPS[e], rfl, rfl, SqL.of ko, atI_nat (by rw [List.getElem?_map, ee]; rfl), ?_⟩
    have hs : CMPS[e] ∈ CMPS := List.getElem_mem he
    generalize CMPS[e] = op at hs
    refine ⟨Nat.le_of_ble_eq_true rfl, fun l1 h1 => ?_⟩
    have g5 := g4.new (o := .lst [vs op]) h1
    have kp1 := new_keep (o' := .lst [vs op]) kp1 h1
    have k1 : upd H4 l1 (.lst [vs op]) l1 = some (.lst [vs op]) := upd_same
    generalize upd H4 l1 (.lst [vs op]) = H5 at g5 kp1 k1
    refine ⟨p1, l1, _, _, rfl, rfl, kp1, k1, by rw [List.length_map, sizeLine_eq]; show _ + 1 ≤ _; omega, fun f1 hf1 => ?_⟩
    have nf1 := (g5.st.nota hf1).1
    have g6 := g5.new (o := .lst (ws1.map vs ++ [vs op])) hf1
    have k6 : upd H5 f1 (.lst (ws1.map vs ++ [vs op])) f1 = some (.lst (ws1.map vs ++ [vs op])) := upd_same
    generalize upd H5 f1 (.lst (ws1.map vs ++ [vs op])) = H6 at g6 k6
    refine ⟨_, rfl, a, sc, ns, rfl, g6.st, fun H7 p2 ws2 hw2 g7' fp2 kp2 => ?_⟩
    have g7 := g6.comp g7'
    have lw2 := ln 1 ws2 (by decide) hw2
    refine ⟨f1, p2, _, _, rfl, rfl, g7'.keep nf1 k6, kp2, by rw [List.length_append, List.length_map, List.length_map, sizeLine_eq]; show _ + 1 + _ ≤ _; omega, fun f2 hf2 => ?_⟩
    refine q _ f2 _ (.test hw1 hw2 hs) (g7.new hf2) (g7.free hf2) ?_
    rw [upd_same, List.map_append]
    simp
theorem ok_bodyT {f fN fP : Addr} {fd fdN fdP : FuncData} (F : Fun K "_law_body_tokens" "_law_body_tokens" sBodyT f fd) (TL : LTxt mg) (DN : Dd K mg "_law_next" sNext ["state", "limit"] fN fdN) (GN : FnOk P w K mg base CX0 1 fN fdN ["state", "limit"] spNext)
    (DP : Dd K mg "_law_part_tokens" sPartT ["state"] fP fdP) (GP : FnOk P w K mg base CX0 5 fP fdP ["state"] (spWs PartW)) : FnOk P w K mg base CX0 6 f fd ["state"] (spWs BodyW) := by
  refine F.ok scBT (fun us H Q E h => ?_) (fun cdv A outer s H us Q E hr h => ?_)
  · obtain ⟨a, sc, ns, rfl, _⟩ := h
    rfl
  · obtain ⟨a, sc, ns, rfl, hS, q⟩ := h
    have hr1 : Room 1 _ := hr.mono (by decide)
    have hrP : Room 5 _ := hr
    have T := TL
    refine ⟨_, (pss_cons (ps_set (i := 1) scBT.nd rfl (Or.inl rfl) (pe_call GP hrP rfl DP.g DP.k DP.b .nil pass0 (pa_cons (pv 0) pa_nil)))
      (pss_cons (ps_for PassesOwn.never rfl (pi_range1 (by rfl) T.range (pa_cons (pe_call GN hr1 rfl DN.g DN.k DN.b .nil pass0 (pa_cons (pv 0) (pa_cons pe_int pa_nil))) pa_nil)) (pg_name (i := 2) scBT.nd rfl (Or.inl rfl)) (pss_one (ps_set (i := 1) scBT.nd rfl (Or.inl rfl) (pe_op op_cat (pe_op op_cat (pv 1) (pe_lst (pa_cons pe_str pa_nil))) (pe_call GP hrP rfl DP.g DP.k DP.b .nil pass0 (pa_cons (pv 0) pa_nil))))))
      (pss_one (ps_ret (pv 1))))), ?_⟩
    refine ⟨_, rfl, a, sc, ns, rfl, hS, fun H1 p ws hw g1 fp kp => ?_⟩
    have np := (hS.nota fp).1
    refine ⟨_, rfl, a, sc, ns, 3, rfl, g1.st, by decide, by decide, fun m H2 hm hS2 hB2 => ?_⟩
    have g2 := g1.next hS2 hB2
    refine ⟨(m : Int), rfl, by omega, by omega, for_range (n := ((m : Int)).toNat) (fun i σ H' => ∃ (fa : Addr) (ps : List (List Wrd)) (v2 : Option V), σ = [some (.ref a), some (.ref fa), v2] ∧ ps.length = i ∧ (∀ Q ∈ ps, PartW Q) ∧ Going a sc ns H H' ∧ H fa = none ∧ H' fa = some (.lst ((ws ++ tailW ps).map vs)))
      ⟨p, [], none, rfl, rfl, (fun Q hQ => by cases hQ), g2, fp, by rw [show tailW [] = [] from rfl, List.append_nil]; exact hB2.same p _ np kp⟩ ?_ ?_⟩
    · rintro i σ H3 hi ⟨fa, ps, v2, rfl, hl, hps, g3, ffa, kfa⟩
      have nfa := (hS.nota ffa).1
      have eM : V.str (Str.ofString ",") = vs gComma := congrArg V.str (by decide +kernel)
      have tl := tail_len 20 ps (fun Q hQ => (part_w (hps Q hQ)).2)
      have lw := (part_w hw).2
      have tl3 : (tailW ps).length ≤ 63 := by
        have : ps.length ≤ 3 := by omega
        omega
      refine ⟨_, rfl, Nat.le_of_ble_eq_true rfl, fun l1 h1 => ?_⟩
      rw [eM]
      have g4 := g3.new (o := .lst [vs gComma]) h1
      have k1 : upd H3 l1 (.lst [vs gComma]) l1 = some (.lst [vs gComma]) := upd_same
      have kfa := new_keep (o' := .lst [vs gComma]) kfa h1
      generalize upd H3 l1 (.lst [vs gComma]) = H4 at g4 k1 kfa
      refine ⟨fa, l1, _, _, rfl, rfl, kfa, k1, by rw [List.length_map, List.length_append, sizeLine_eq]; show _ + 1 ≤ _; omega, fun f1 hf1 => ?_⟩
      have nf1 := (g4.st.nota hf1).1
      have g5 := g4.new (o := .lst ((ws ++ tailW ps).map vs ++ [vs gComma])) hf1
      have k5 : upd H4 f1 (.lst ((ws ++ tailW ps).map vs ++ [vs gComma])) f1 = some (.lst ((ws ++ tailW ps).map vs ++ [vs gComma])) := upd_same
      generalize upd H4 f1 (.lst ((ws ++ tailW ps).map vs ++ [vs gComma])) = H5 at g5 k5
      refine ⟨_, rfl, a, sc, ns, rfl, g5.st, fun H6 p6 ws6 hw6 g6' fp6 kp6 => ?_⟩
      have g6 := g5.comp g6'
      have lw6 := (part_w hw6).2
      refine ⟨f1, p6, _, _, rfl, rfl, g6'.keep nf1 k5, kp6, by rw [List.length_append, List.length_map, List.length_map, List.length_append, sizeLine_eq]; show _ + 1 + _ ≤ _; omega, fun f2 hf2 => ?_⟩
      refine ⟨f2, ps ++ [ws6], _, rfl, by rw [List.length_append, hl]; rfl, fun Q hQ => ?_, g6.new hf2, g6.free hf2, ?_⟩
      · rcases List.mem_append.mp hQ with hQ | hQ
        · exact hps Q hQ
        · rw [List.mem_singleton.mp hQ]
          exact hw6
      · rw [upd_same]
        unfold tailW
        rw [List.flatMap_append, List.map_append, List.map_append, List.map_append]
        simp
    · rintro σ H3 ⟨fa, ps, v2, rfl, hl, hps, g3, ffa, kfa⟩
      refine ⟨_, rfl, ?_⟩
      exact q H3 fa _ ⟨ws, ps, hw, hps, by omega, rfl⟩ g3 ffa kfa
theorem ok_ruleT {f fN fNm fTt fRw fB : Addr} {fd fdN fdNm fdTt fdRw fdB : FuncData} (F : Fun K "_law_rule_tokens" "_law_rule_tokens" sRuleT f fd) (TL : LTxt mg) (DN : Dd K mg "_law_next" sNext ["state", "limit"] fN fdN) (GN : FnOk P w K mg base CX0 1 fN fdN ["state", "limit"] spNext)
    (DNm : Dd K mg "_law_name_drawn" sName ["state"] fNm fdNm) (GNm : FnOk P w K mg base CX0 2 fNm fdNm ["state"] spName) (DTt : Dd K mg "_law_term_tokens" sTermT ["state", "is_head"] fTt fdTt) (GTt : FnOk P w K mg base CX0 2 fTt fdTt ["state", "is_head"] spTermT)
    (DRw : Dd K mg "_law_row_tokens" sRowT ["parts"] fRw fdRw) (GRw : FnOk P w K mg base CX0 1 fRw fdRw ["parts"] spRowT) (DB : Dd K mg "_law_body_tokens" sBodyT ["state"] fB fdB) (GB : FnOk P w K mg base CX0 6 fB fdB ["state"] (spWs BodyW)) :
    FnOk P w K mg base CX0 7 f fd ["state"] (spWs RuleW) := by
  refine F.ok scUT (fun us H Q E h => ?_) (fun cdv A outer s H us Q E hr h => ?_)
  · obtain ⟨a, sc, ns, rfl, _⟩ := h
    rfl
  · obtain ⟨a, sc, ns, rfl, hS, q⟩ := h
    have hr1 : Room 1 _ := hr.mono (by decide)
    have hr2 : Room 2 _ := hr.mono (by decide)
    have hrB : Room 6 _ := hr
    have T := TL
    refine ⟨_, (pss_cons (ps_setLc (i := 1) (own := [("k", 3)]) (g := (gName 3)) (tt := tYes) rfl scUT.nd rfl rfl (sw_true rfl rfl rfl (by decide +kernel)) (pi_range1 (by rfl) T.range (pa_cons (pe_call GN hr1 rfl DN.g DN.k DN.b .nil pass0 (pa_cons (pv 0) (pa_cons pe_int pa_nil))) pa_nil)) (blkOk_by (own := [("k", 3)]) (N := NUT) (sc := defScope sRuleT) (by decide +kernel)) (fun _ _ _ _ _ => (pg_name (i := 3) scUT.nd rfl (Or.inl rfl))) (fun _ _ _ _ _ => pts_nil) (fun _ _ _ _ _ => (pe_call GTt hr2 rfl DTt.g DTt.k DTt.b .nil pass0 (pa_cons (pv 0) (pa_cons pe_bl pa_nil)))))
      (pss_cons (ps_set (i := 2) scUT.nd rfl (Or.inl rfl) (pe_op op_cat (pe_lst (pa_cons pe_str (pa_cons (pe_call GNm hr2 rfl DNm.g DNm.k DNm.b .nil pass0 (pa_cons (pv 0) pa_nil)) pa_nil))) (pe_call GRw hr1 rfl DRw.g DRw.k DRw.b .nil pass0 (pa_cons (pv 1) pa_nil))))
      (pss_one (ps_ret (pe_op op_cat (pv 2) (pe_ifExp (pt_cmpR op_gt (pe_call GN hr1 rfl DN.g DN.k DN.b .nil pass0 (pa_cons (pv 0) (pa_cons pe_int pa_nil))) pe_int (nomark _)) (pe_op op_cat (pe_lst (pa_cons pe_str pa_nil)) (pe_call GB hrB rfl DB.g DB.k DB.b .nil pass0 (pa_cons (pv 0) pa_nil))) (pe_lst pa_nil))))))), ?_⟩
    have g0 := Going.start hS
    refine ⟨_, rfl, a, sc, ns, 4, rfl, g0.st, by decide, by decide, fun mc Hc hmc hSc hBc => ?_⟩
    have gc := g0.next hSc hBc
    refine ⟨(mc : Int), rfl, by omega, by omega, fun tA htA => ?_⟩
    have ntA := gc.st.nota htA
    have ftA := gc.free htA
    refine lc_range (lo := 0) (n := ((mc : Int)).toNat) (fun i H' => ∃ (rs : List V) (parts : List (List Wrd)), parts.length = i ∧ Going a sc ns H H' ∧ H' tA = some (.lst rs) ∧ LLn a tA H' rs parts ∧ ∀ P ∈ parts, TermB true P) ⟨[], [], rfl, gc.new htA, upd_same, .nil, fun P hP => by cases hP⟩ ?_ ?_
    · rintro j H' hj ⟨rs, parts, hlp, gj, hA, hL, hp⟩
      refine ⟨rfl, ?_⟩
      unfold tYes
      dsimp only
      rw [if_pos rfl]
      have lr := Paired.length hL
      refine ⟨_, rfl, a, sc, ns, true, rfl, gj.st, fun H6 p ws hw g6' fp kp => ?_⟩
      have g6 := gj.comp g6'
      refine ⟨rs, g6'.keep ntA.1 hA, by rw [sizeLine_eq]; omega, rs ++ [.ref p], parts ++ [ws], by rw [List.length_append, hlp]; rfl, g6.put ftA ntA.1 ntA.2, upd_same, ?_, ?_⟩
      · have npt : p ≠ tA := fun z => by subst z; rw [fp] at hA; cases hA
        have npa := (gj.st.nota fp).1
        exact Paired.snoc ⟨p, rfl, npa, npt, by rw [upd_ne npt]; exact kp⟩ (Paired.imp (fun _ _ ⟨q, e, n1, n2, k⟩ => ⟨q, e, n1, n2, by rw [upd_ne n2]; exact g6'.keep n1 k⟩) hL)
      · intro P hP
        rcases List.mem_append.mp hP with hP | hP
        · exact hp P hP
        · rw [List.mem_singleton.mp hP]
          exact hw
    rintro Ht ⟨rs, parts, hlp, gt, hA, hLn, hp⟩
    have hL := hLn.ll
    have lp4 : parts.length < 4 := by omega


    have h6 : parts.length ≤ 6 := by omega
    have p2 : ∀ P ∈ parts, P.length ≤ 2 := fun P hP => termb_len (hp P hP)
    have pt : ∀ P ∈ parts, P ∈ TERMS ++ HTERMS := fun P hP => termb_t (hp P hP)
    have rl := row_len (k := 2) p2
    refine ⟨_, rfl, a, sc, ns, rfl, gt.st, fun H2 n hn g2' => ?_⟩
    have g2 := gt.comp g2'
    have eN : V.str (Str.ofString "rule") = vs wRule := congrArg V.str (by decide +kernel)
    refine ⟨Nat.le_of_ble_eq_true rfl, fun l1 h1 => ?_⟩
    rw [eN]
    have g3 := g2.new (o := .lst [vs wRule, vs n]) h1
    have s3 := (Going.start g2.st).new (o := .lst [vs wRule, vs n]) h1
    have k1 : upd H2 l1 (.lst [vs wRule, vs n]) l1 = some (.lst [vs wRule, vs n]) := upd_same
    have hA3 := new_keep (o' := .lst [vs wRule, vs n]) (g2'.keep ntA.1 hA) h1
    have hL3 := ((hLn.keep g2').keep s3).ll
    generalize upd H2 l1 (.lst [vs wRule, vs n]) = H3 at g3 s3 k1 hA3 hL3
    refine ⟨_, rfl, tA, rs, parts, rfl, hA3, hL3, h6, p2, fun H4 p s4 fp kp => ?_⟩
    have g4 := g3.sm s4
    refine ⟨l1, p, _, _, rfl, rfl, s4 _ _ k1, kp, by rw [List.length_map, sizeLine_eq]; show 2 + _ ≤ _; omega, fun f2 hf2 => ?_⟩
    have eh : [vs wRule, vs n] ++ (rowW parts).map vs = (wRule :: n :: rowW parts).map vs := rfl
    rw [eh]
    have nf2 := (g4.st.nota hf2).1
    have g5 := g4.new (o := .lst ((wRule :: n :: rowW parts).map vs)) hf2
    have k5 : upd H4 f2 (.lst ((wRule :: n :: rowW parts).map vs)) f2 = some (.lst ((wRule :: n :: rowW parts).map vs)) := upd_same
    generalize upd H4 f2 (.lst ((wRule :: n :: rowW parts).map vs)) = H5 at g5 k5
    refine ⟨_, rfl, _, rfl, a, sc, ns, 4, rfl, g5.st, by decide, by decide, fun e H6 he hS6 hB6 => ?_⟩
    have g6 := g5.next hS6 hB6
    have k6 := hB6.same f2 _ nf2 k5
    refine ⟨_, _, rfl, rfl, _, rfl, ?_⟩
    have lh : ((wRule :: n :: rowW parts).map vs).length = (rowW parts).length + 2 := by rw [List.length_map]; rfl
    by_cases c : 0 < e
    · refine if_true_of (decide_eq_true (by omega)) ?_
      refine ⟨Nat.le_of_ble_eq_true rfl, fun l2 h2 => ?_⟩
      rw [show [V.str (Str.ofString "if")] = ([wIf] : List Wrd).map vs by decide +kernel]
      have n2 := (g6.st.nota h2).1
      have g7 := g6.new (o := .lst (([wIf] : List Wrd).map vs)) h2
      have k7 := new_keep (o' := .lst (([wIf] : List Wrd).map vs)) k6 h2
      have l7 : upd H6 l2 (.lst (([wIf] : List Wrd).map vs)) l2 = some (.lst (([wIf] : List Wrd).map vs)) := upd_same
      generalize upd H6 l2 (.lst (([wIf] : List Wrd).map vs)) = H7 at g7 k7 l7
      refine ⟨_, rfl, a, sc, ns, rfl, g7.st, fun H8 pb wb hwb g8' fpb kpb => ?_⟩
      have g8 := g7.comp g8'
      have lb := (body_w hwb).2
      refine ⟨l2, pb, _, _, rfl, rfl, g8'.keep n2 l7, kpb, by rw [List.length_map, List.length_map, sizeLine_eq]; show 1 + _ ≤ _; omega, fun f3 hf3 => ?_⟩
      have g9 := g8.new (o := .lst (([wIf] : List Wrd).map vs ++ wb.map vs)) hf3
      refine ⟨f2, f3, _, _, rfl, rfl, new_keep (g8'.keep nf2 k7) hf3, upd_same, by rw [lh, List.length_append, List.length_map, List.length_map, sizeLine_eq]; show _ + (1 + _) ≤ _; omega, fun f4 hf4 => ?_⟩
      refine q _ f4 _ (.body hn pt (by omega) hwb) (g9.new hf4) (g9.free hf4) ?_
      rw [upd_same]
      simp
    · refine if_false_of (decide_eq_false (by omega)) ?_
      refine ⟨Nat.zero_le _, fun l2 h2 => ?_⟩
      have g7 := g6.new (o := .lst []) h2
      refine ⟨f2, l2, _, _, rfl, rfl, new_keep k6 h2, upd_same, by rw [lh, sizeLine_eq]; show _ + 0 ≤ _; omega, fun f4 hf4 => ?_⟩
      refine q _ f4 _ (.bare hn pt (by omega)) (g7.new hf4) (g7.free hf4) ?_
      rw [upd_same, List.append_nil]
theorem ok_itemT {f fN fNm fRw fB fU : Addr} {fd fdN fdNm fdRw fdB fdU : FuncData} (F : Fun K "_law_item_tokens" "_law_item_tokens" sItemT f fd) (TL : LTxt mg) (DN : Dd K mg "_law_next" sNext ["state", "limit"] fN fdN) (GN : FnOk P w K mg base CX0 1 fN fdN ["state", "limit"] spNext)
    (DNm : Dd K mg "_law_name_drawn" sName ["state"] fNm fdNm) (GNm : FnOk P w K mg base CX0 2 fNm fdNm ["state"] spName) (DRw : Dd K mg "_law_row_tokens" sRowT ["parts"] fRw fdRw) (GRw : FnOk P w K mg base CX0 1 fRw fdRw ["parts"] spRowT)
    (DB : Dd K mg "_law_body_tokens" sBodyT ["state"] fB fdB) (GB : FnOk P w K mg base CX0 6 fB fdB ["state"] (spWs BodyW)) (DU : Dd K mg "_law_rule_tokens" sRuleT ["state"] fU fdU) (GU : FnOk P w K mg base CX0 7 fU fdU ["state"] (spWs RuleW)) :
    FnOk P w K mg base CX0 8 f fd ["state"] (spWs ItemW) := by
  refine F.ok scIT (fun us H Q E h => ?_) (fun cdv A outer s H us Q E hr h => ?_)
  · obtain ⟨a, sc, ns, rfl, _⟩ := h
    rfl
  · obtain ⟨a, sc, ns, rfl, hS, q⟩ := h
    have hr1 : Room 1 _ := hr.mono (by decide)
    have hr2 : Room 2 _ := hr.mono (by decide)
    have hrB : Room 6 _ := hr.mono (by decide)
    have hrU : Room 7 _ := hr
    have T := TL
    refine ⟨_, (pss_cons (ps_set (i := 1) scIT.nd rfl (Or.inl rfl) (pe_call GN hr1 rfl DN.g DN.k DN.b .nil pass0 (pa_cons (pv 0) (pa_cons pe_int pa_nil))))
      (pss_cons (ps_if (pt_cmpR op_eq (pv 1) pe_int (nomark _)) (pss_one (ps_ret (pe_call GU hrU rfl DU.g DU.k DU.b .nil pass0 (pa_cons (pv 0) pa_nil)))) pss_nil)
      (pss_cons (ps_if (pt_cmpR op_eq (pv 1) pe_int (nomark _)) (pss_one (ps_ret (pe_op op_cat (pe_lst (pa_cons pe_str (pa_cons pe_str (pa_cons pe_str pa_nil)))) (pe_call GB hrB rfl DB.g DB.k DB.b .nil pass0 (pa_cons (pv 0) pa_nil))))) pss_nil)
      (pss_cons (ps_setLc (i := 2) (own := [("k", 3)]) (g := (gName 3)) (tt := tYes) rfl scIT.nd rfl rfl (sw_true rfl rfl rfl (by decide +kernel)) (pi_range1 (by rfl) T.range (pa_cons (pe_call GN hr1 rfl DN.g DN.k DN.b .nil pass0 (pa_cons (pv 0) (pa_cons pe_int pa_nil))) pa_nil)) (blkOk_by (own := [("k", 3)]) (N := NIT) (sc := defScope sItemT) (by decide +kernel)) (fun _ _ _ _ _ => (pg_name (i := 3) scIT.nd rfl (Or.inl rfl))) (fun _ _ _ _ _ => pts_nil) (fun _ _ _ _ _ => (pe_lst (pa_cons (pe_ix (ix_listK (K := K) rfl) (pe_lst (pa_cons pe_str (pa_cons pe_str pa_nil))) (pe_call GN hr1 rfl DN.g DN.k DN.b .nil pass0 (pa_cons (pv 0) (pa_cons pe_int pa_nil))) (fun _ _ => rfl)) pa_nil))))
      (pss_one (ps_ret (pe_op op_cat (pe_lst (pa_cons (pe_ix ix_list (pe_lst (pa_cons pe_str (pa_cons pe_str pa_nil))) (pe_op op_sub (pv 1) pe_int) (fun _ _ => rfl)) (pa_cons (pe_call GNm hr2 rfl DNm.g DNm.k DNm.b .nil pass0 (pa_cons (pv 0) pa_nil)) pa_nil))) (pe_call GRw hr1 rfl DRw.g DRw.k DRw.b .nil pass0 (pa_cons (pv 2) pa_nil))))))))), ?_⟩
    refine ⟨_, rfl, a, sc, ns, 4, rfl, hS, by decide, by decide, fun m H1 hm hS1 hB1 => ?_⟩
    have g1 := (Going.start hS).next hS1 hB1
    refine ⟨_, rfl, rfl, _, rfl, ?_⟩
    by_cases c0 : m = 0
    · refine if_true_of (decide_eq_true (by rw [c0]; rfl)) ?_
      refine ⟨_, rfl, a, sc, ns, rfl, g1.st, fun H2 p ws hw g2' fp kp => ?_⟩
      exact q H2 p ws (.rule hw) (g1.comp g2') (g1.free fp) kp
    · refine if_false_of (decide_eq_false (fun z => c0 (by have := V.int.inj z; omega))) ?_
      refine ⟨_, rfl, rfl, _, rfl, ?_⟩
      by_cases c1 : m = 1
      · refine if_true_of (decide_eq_true (by rw [c1]; rfl)) ?_
        refine ⟨Nat.le_of_ble_eq_true rfl, fun l2 h2 => ?_⟩
        rw [show [V.str (Str.ofString "never"), V.str (Str.ofString "bad0"), V.str (Str.ofString "if")] = ([wNever, wBad0, wIf] : List Wrd).map vs by decide +kernel]
        have n2 := (g1.st.nota h2).1
        have g7 := g1.new (o := .lst (([wNever, wBad0, wIf] : List Wrd).map vs)) h2
        have l7 : upd H1 l2 (.lst (([wNever, wBad0, wIf] : List Wrd).map vs)) l2 = some (.lst (([wNever, wBad0, wIf] : List Wrd).map vs)) := upd_same
        generalize upd H1 l2 (.lst (([wNever, wBad0, wIf] : List Wrd).map vs)) = H7 at g7 l7
        refine ⟨_, rfl, a, sc, ns, rfl, g7.st, fun H8 pb wb hwb g8' fpb kpb => ?_⟩
        have g8 := g7.comp g8'
        have lb := (body_w hwb).2
        refine ⟨l2, pb, _, _, rfl, rfl, g8'.keep n2 l7, kpb, by rw [List.length_map, List.length_map, sizeLine_eq]; show 3 + _ ≤ _; omega, fun f3 hf3 => ?_⟩
        refine q _ f3 _ (.never hwb) (g8.new hf3) (g8.free hf3) ?_
        rw [upd_same]
        rfl
      · refine if_false_of (decide_eq_false (fun z => c1 (by have := V.int.inj z; omega))) ?_
        refine ⟨_, rfl, a, sc, ns, 5, rfl, g1.st, by decide, by decide, fun mc Hc hmc hSc hBc => ?_⟩
        have gc := g1.next hSc hBc
        refine ⟨(mc : Int), rfl, by omega, by omega, fun tA htA => ?_⟩
        have ntA := gc.st.nota htA
        have ftA := gc.free htA
        refine lc_range (lo := 0) (n := ((mc : Int)).toNat) (fun i H' => ∃ (rs : List V) (parts : List (List Wrd)), parts.length = i ∧ Going a sc ns H H' ∧ H' tA = some (.lst rs) ∧ LLn a tA H' rs parts ∧ ∀ P ∈ parts, P ∈ SORTS) ⟨[], [], rfl, gc.new htA, upd_same, .nil, fun P hP => by cases hP⟩ ?_ ?_
        · rintro j H' hj ⟨rs, parts, hlp, gj, hA, hL, hp⟩
          refine ⟨rfl, ?_⟩
          unfold tYes
          dsimp only
          rw [if_pos rfl]
          have lr := Paired.length hL
          refine ⟨Nat.le_of_ble_eq_true rfl, fun lo ho => ?_⟩
          rw [show [V.str (Str.ofString "number"), V.str (Str.ofString "word")] = ([wNumber, wWord] : List Wrd).map vs by decide +kernel]
          have no := (gj.st.nota ho).1
          have g2' := (Going.start gj.st).new (o := .lst (([wNumber, wWord] : List Wrd).map vs)) ho
          have ko : upd H' lo (.lst (([wNumber, wWord] : List Wrd).map vs)) lo = some (.lst (([wNumber, wWord] : List Wrd).map vs)) := upd_same
          generalize upd H' lo (.lst (([wNumber, wWord] : List Wrd).map vs)) = H2 at g2' ko
          refine ⟨_, rfl, a, sc, ns, 2, rfl, g2'.st, by decide, by decide, fun e H4 he hS4 hB4 => ?_⟩
          have g4' := g2'.next hS4 hB4
          have ko := hB4.same lo _ no ko
          have ee : ([wNumber, wWord] : List Wrd)[e]? = some ([wNumber, wWord] : List Wrd)[e] := List.getElem?_eq_getElem he
          refine ⟨lo, _, (e : Int), vs ([wNumber, wWord] : List Wrd)[e], rfl, rfl, SqL.of ko, atI_nat (by rw [List.getElem?_map, ee]; rfl), ?_⟩
          have hs : ([wNumber, wWord] : List Wrd)[e] ∈ ([wNumber, wWord] : List Wrd) := List.getElem_mem he
          generalize ([wNumber, wWord] : List Wrd)[e] = op at hs
          refine ⟨Nat.le_of_ble_eq_true rfl, fun p hpn => ?_⟩
          have fp := g4'.free hpn
          have g6' := g4'.new (o := .lst [vs op]) hpn
          have kp : upd H4 p (.lst [vs op]) p = some (.lst (([op] : List Wrd).map vs)) := upd_same
          generalize upd H4 p (.lst [vs op]) = H6 at g6' kp
          obtain ⟨ws, ews⟩ : ∃ ws, ws = [op] := ⟨_, rfl⟩
          rw [← ews] at kp
          have hw : ws ∈ SORTS := by
            rw [ews]
            simp only [List.mem_cons, List.not_mem_nil, or_false] at hs
            rcases hs with rfl | rfl <;> decide
          have g6 := gj.comp g6'
          refine ⟨rs, g6'.keep ntA.1 hA, by rw [sizeLine_eq]; omega, rs ++ [.ref p], parts ++ [ws], by rw [List.length_append, hlp]; rfl, g6.put ftA ntA.1 ntA.2, upd_same, ?_, ?_⟩
          · have npt : p ≠ tA := fun z => by subst z; rw [fp] at hA; cases hA
            have npa := (gj.st.nota fp).1
            exact Paired.snoc ⟨p, rfl, npa, npt, by rw [upd_ne npt]; exact kp⟩ (Paired.imp (fun _ _ ⟨q, e, n1, n2, k⟩ => ⟨q, e, n1, n2, by rw [upd_ne n2]; exact g6'.keep n1 k⟩) hL)
          · intro P hP
            rcases List.mem_append.mp hP with hP | hP
            · exact hp P hP
            · rw [List.mem_singleton.mp hP]
              exact hw
        rintro Ht ⟨rs, parts, hlp, gt, hA, hLn, hp⟩
        have hL := hLn.ll
        have lp4 : parts.length < 5 := by omega


        have h6 : parts.length ≤ 6 := by omega
        have p2 : ∀ P ∈ parts, P.length ≤ 2 := fun P hP => (sorts_w P (hp P hP)).2
        have rl := row_len (k := 2) p2
        refine ⟨Nat.le_of_ble_eq_true rfl, fun lo ho => ?_⟩
        rw [show [V.str (Str.ofString "base"), V.str (Str.ofString "derived")] = ([wBase, wDerived] : List Wrd).map vs by decide +kernel]
        have no := (gt.st.nota ho).1
        have g2 := gt.new (o := .lst (([wBase, wDerived] : List Wrd).map vs)) ho
        have s2 := (Going.start gt.st).new (o := .lst (([wBase, wDerived] : List Wrd).map vs)) ho
        have ko : upd Ht lo (.lst (([wBase, wDerived] : List Wrd).map vs)) lo = some (.lst (([wBase, wDerived] : List Wrd).map vs)) := upd_same
        generalize upd Ht lo (.lst (([wBase, wDerived] : List Wrd).map vs)) = H2 at g2 s2 ko
        have m2 : m - 2 < ([wBase, wDerived] : List Wrd).length := by show m - 2 < 2; omega
        have ee : ([wBase, wDerived] : List Wrd)[m - 2]? = some ([wBase, wDerived] : List Wrd)[m - 2] := List.getElem?_eq_getElem m2
        refine ⟨_, rfl, _, _, rfl, rfl, lo, _, ((m - 2 : Nat) : Int), vs ([wBase, wDerived] : List Wrd)[m - 2], rfl, congrArg V.int (show (m : Int) - 2 = ((m - 2 : Nat) : Int) by omega), SqL.of ko, atI_nat (by rw [List.getElem?_map, ee]; rfl), ?_⟩
        have hw : ([wBase, wDerived] : List Wrd)[m - 2] ∈ [wBase, wDerived] := List.getElem_mem m2
        generalize ([wBase, wDerived] : List Wrd)[m - 2] = wd at hw
        refine ⟨_, rfl, a, sc, ns, rfl, g2.st, fun H3 n hn g3' => ?_⟩
        have g3 := g2.comp g3'
        have s3 := s2.comp g3'
        refine ⟨Nat.le_of_ble_eq_true rfl, fun l1 h1 => ?_⟩
        have g4 := g3.new (o := .lst [vs wd, vs n]) h1
        have s4 := s3.new (o := .lst [vs wd, vs n]) h1
        have k1 : upd H3 l1 (.lst [vs wd, vs n]) l1 = some (.lst [vs wd, vs n]) := upd_same
        generalize upd H3 l1 (.lst [vs wd, vs n]) = H4 at g4 s4 k1
        refine ⟨_, rfl, tA, rs, parts, rfl, s4.keep ntA.1 hA, (hLn.keep s4).ll, h6, p2, fun H5 p s5 fp kp => ?_⟩
        have g5 := g4.sm s5
        refine ⟨l1, p, _, _, rfl, rfl, s5 _ _ k1, kp, by rw [List.length_map, sizeLine_eq]; show 2 + _ ≤ _; omega, fun f2 hf2 => ?_⟩
        refine q _ f2 _ (.rel hw hn hp (by omega)) (g5.new hf2) (g5.free hf2) ?_
        rw [upd_same]
        rfl
end
end K9
set_option Elab.async false
set_option linter.all false
set_option maxRecDepth 100000
namespace K9
open PySem L2 PyProof.Rows
abbrev sPlace : Stmt := top 36
abbrev sWritten : Stmt := top 37
abbrev NWR : List Str := ["state", "tokens", "text", "starts", "token", "gap"]
def plcV : Out → V
  | .no j => .int (j : Int)
  | .tree _ => .non
def spPlc (g : Addr) (out : List Nat → Out) : Sp := fun us H Q _ => ∃ t : List Nat, us = [.ref g, vs t] ∧ t.length ≤ LINE ∧ ∀ H', Same H H' → Q (plcV (out t)) H'
/-- a text, times a truth -/
theorem op_mul_b {X : Cx} : OpR X (binaryOp .Mult) (fun x y H Q => ∃ (l : List Nat) (b : Bool), x = vs l ∧ y = .int (b2i b) ∧ l.length ≤ 1000 ∧ Q (vs (if b = true then l else [])) H) := by
  intro pins s σ H x y v u Q I rx ry h
  obtain ⟨l, b, rfl, rfl, hn, q⟩ := h
  obtain ⟨t, rfl⟩ := rx
  obtain ⟨t', rfl⟩ := ry
  have e1 : (S l).length = l.length := S_len l
  cases b with
  | false =>
    refine PySem.P.mul_str (by rfl) (fun h0 _ => ?_) (fun h0 _ => ?_) ?_
    · exact absurd h0 (by decide)
    · exact absurd h0 (by decide)
    · rw [if_pos (show (b2i false : Int) < 1 by decide)]
      exact ⟨by decide, .str _, H, I.tok _, ⟨_, rfl⟩, q⟩
  | true =>
    refine PySem.P.mul_str (by rfl) (fun _ _ => ?_) (fun _ _ => ?_) ?_
    · rw [e1]
      have e : (b2i true : Int) = 1 := rfl
      rw [e]
      omega
    · rw [e1]
      refine decide_eq_false ?_
      have : sizeLine = 16777216 := sizeLine_eq
      show ¬ (l.length * 1 > sizeLine)
      omega
    · rw [if_neg (show ¬ (b2i true : Int) < 1 by decide), if_pos (by rfl)]
      exact ⟨.str _, H, I, ⟨_, rfl⟩, q⟩
/-! ### where words begin -/
def posW (gl : List GW) : List Nat := (List.range gl.length).map fun j => (txtW (gl.take j)).length + (gl.getD j ([], [])).1.length
theorem posW_snoc (gl : List GW) (x : GW) : posW (gl ++ [x]) = posW gl ++ [(txtW gl).length + x.1.length] := by
  unfold posW
  rw [List.length_append, List.length_singleton, List.range_succ, List.map_append]
  congr 1
  · refine List.map_congr_left fun j hj => ?_
    have lj := List.mem_range.mp hj
    rw [List.take_append_of_le_length (by omega), List.getD_eq_getElem?_getD, List.getElem?_append_left lj, ← List.getD_eq_getElem?_getD]
  · show [(txtW ((gl ++ [x]).take gl.length)).length + ((gl ++ [x]).getD gl.length ([], [])).1.length] = _
    rw [List.take_left, List.getD_eq_getElem?_getD, List.getElem?_append_right (Nat.le_refl _), Nat.sub_self]
    rfl
theorem posW_len (gl : List GW) : (posW gl).length = gl.length := by
  unfold posW
  rw [List.length_map, List.length_range]
theorem posW_at {gl : List GW} {j : Nat} (h : j < gl.length) : (posW gl)[j]? = some ((txtW (gl.take j)).length + (gl.getD j ([], [])).1.length) := by
  unfold posW
  rw [List.getElem?_map, List.getElem?_range h]
  rfl
def PUN : List Wrd := [gOpen, gClose, gComma]
def GAPS : List (List Nat) := [[], [32], [10], [32, 32]]
theorem stop_pun (k x : List Nat) {c : Nat} (h : c ∈ [40, 41, 44]) : stopOf k x c = false := by
  have key : ∀ c ∈ [40, 41, 44], isLat c = false ∧ isDig c = false ∧ c ≠ 61 := by decide
  obtain ⟨h1, h2, h3⟩ := key c h
  unfold stopOf
  split
  · exact h1
  · split
    · exact h2
    · rw [decide_eq_false h3, Bool.and_false]
theorem pun_last : ∀ y ∈ WORDS, (y.getLast? = some 40 ∨ y.getLast? = some 41 ∨ y.getLast? = some 44) → (cls y).1 = kSign ∧ y.getLast? ≠ some 60 := by decide +kernel
theorem pun_hd : ∀ x ∈ PUN, x.getD 0 0 ∈ [40, 41, 44] := by decide
/-- a word may stand behind no blank -/
theorem gap_free {gl : List GW} {y : GW} {x : Wrd} (hy : y.2 ∈ WORDS) (h : x ∈ PUN ∨ (∃ c, (txtW (gl ++ [y])).getLast? = some c ∧ c ∈ [40, 41, 44])) : gapOk (last4 (fun _ => false) (mkL (gl ++ [y]))) (tkw ([], x)) = true := by
  have e : last4 (fun _ => false) (mkL (gl ++ [y])) = stopOf (cls y.2).1 y.2 := by
    rw [mkL_app, last4_app]
    rfl
  rw [e]
  show (true && !stopOf (cls y.2).1 y.2 (x.getD 0 0)) = true
  have z : stopOf (cls y.2).1 y.2 (x.getD 0 0) = false := by
    rcases h with h | ⟨c, h1, h2⟩
    · exact stop_pun _ _ (pun_hd x h)
    · rw [txtW_app, txtW_one] at h1
      have ne : y.2 ≠ [] := (words_len y.2 hy).1
      have l1 : (txtW gl ++ (y.1 ++ y.2)).getLast? = y.2.getLast? := by
        rw [← List.append_assoc, List.getLast?_append, List.getLast?_eq_some_getLast ne]
        rfl
      rw [l1] at h1
      obtain ⟨k1, k2⟩ := pun_last y.2 hy (by
        rw [h1]
        simp only [List.mem_cons, List.not_mem_nil, or_false] at h2
        rcases h2 with rfl | rfl | rfl
        · exact .inl rfl
        · exact .inr (.inl rfl)
        · exact .inr (.inr rfl))
      unfold stopOf
      rw [k1, if_neg (by decide), if_neg (by decide), decide_eq_false k2, Bool.false_and]
  rw [z]
  rfl
theorem txtW_ne {gl : List GW} (h : gl ≠ []) (hw : ∀ x ∈ gl, x.2 ∈ WORDS) : txtW gl ≠ [] := by
  cases gl with
  | nil => exact absurd rfl h
  | cons x r =>
    intro z
    have z2 : x.1 ++ (x.2 ++ txtW r) = [] := z
    have := (words_len x.2 (hw x (List.mem_cons_self ..))).1
    simp only [List.append_eq_nil_iff] at z2
    exact this z2.2.1
theorem wr_snoc {gl : List GW} {x : GW} (W : Wr gl) (hx : x.2 ∈ WORDS) (hl : x.1.length ≤ 2) (g : gapOk (last4 (fun _ => false) (mkL gl)) (tkw x) = true) : Wr (gl ++ [x]) := by
  refine ⟨?_, fun y hy => ?_⟩
  · rw [mkL_app, row4_app, W.row]
    exact row_tok hx g rfl
  · rcases List.mem_append.mp hy with hy | hy
    · exact W.wd y hy
    · rw [List.mem_singleton.mp hy]
      exact ⟨hx, hl⟩
theorem wr_nil : Wr [] := ⟨rfl, fun x hx => by cases hx⟩
def spWritten : Sp := fun us H Q _ => ∃ (a sc tk : Addr) (ns : List Int) (ws : List Wrd), us = [.ref a, .ref tk] ∧ StAt H a sc ns ∧ H tk = some (.lst (ws.map vs)) ∧ tk ≠ a ∧ AllW ws ∧ ws.length ≤ 400 ∧
  ∀ (H' : Hp) (p sp : Addr) (gl : List GW), Wr gl → gl.map (·.2) = ws → (gl.getD 0 ([], [])).1 = [] → Going a sc ns H H' → H' p = some (.tup [vs (txtW gl), .ref sp]) → H' sp = some (.lst ((posW gl).map fun n : Nat => V.int (n : Int))) → sp ≠ a → Q (.ref p) H'
section
variable {P : Program} {w : World} {K : PySem.W.Frag} {mg : Str → Option Value} {base : Heap} {C CR fI : Addr}
theorem scPlc : FnScope ["read", "text", "error"] ["read", "text"] (defScope sPlace) := ⟨rfl, rfl, rfl, by decide +kernel, rfl, by decide +kernel, by decide +kernel⟩
theorem scWr : FnScope NWR ["state", "tokens"] (defScope sWritten) := ⟨rfl, rfl, rfl, by decide +kernel, rfl, by decide +kernel, by decide +kernel⟩
theorem ok_plc {f g cA : Addr} {fd gd : FuncData} {k : Nat} {out : List Nat → Out} (F : Fun K "_law_place" "_law_place" sPlace f fd) (T : Txt P K mg CR fI) (TS : SuiTxt K mg CR cA) (kG : PySem.W.keepIn K (.ref g) = true) (bG : Binds K gd ["text"] []) (GG : FnOk P w K mg base (L2.CX P w) k g gd ["text"] (spRd CR out)) :
    FnOk P w K mg base CX0 (k + 1) f fd ["read", "text"] (spPlc g out) := by
  refine F.ok scPlc (fun us H Q E h => ?_) (fun cdv A outer s H us Q E hr h => ?_)
  · obtain ⟨t, rfl, _⟩ := h
    rfl
  · obtain ⟨t, rfl, hl, q⟩ := h
    refine ⟨_, pss_cons (ps_try_as (i := 2) (Wout := fun _ _ _ _ => False) rfl rfl scPlc.nd rfl rfl ⟨rfl, by decide, .inl T.ref.gC⟩ takes0
        (fun W pn xe tk _ => pss_one (ps_expr (pe_callLS (i := 0) (f := g) GG hr rfl (.inl rfl) kG bG (fun σ => passAt tk σ) (pa_cons (pv 1) pa_nil))))
        (fun a oe cls d pn hz hf => pss_one (ps_ret (pe_ifExp (pt_val (pe_callB (call_isD TS.xc hz hf) (by rfl) T.isi boot_isinstance (pa_cons (pv 2) (pa_cons (pe_glob (v := .ref cA) (by rfl) TS.gA rfl) pa_nil))))
          (pe_xf TS.xf T.ref.noN hz hf (pv 2)) (pe_un un_neg pe_int)))))
      (pss_one (ps_ret pe_non)), ?_⟩
    refine ⟨rfl, _, rfl, t, rfl, hl, fun j hj H' d s1 n1 x1 => ⟨true, TS.te, fun _ a0 _ => ?_, fun z => Bool.noConfusion z⟩, fun d hd H' v s1 r1 => ?_⟩
    · refine ⟨_, rfl, rfl, _, _, true, d, _, rfl, fun u r => r, TS.kA, rfl, x1, _, rfl, ?_⟩
      refine if_true_of rfl ?_
      refine ⟨_, rfl, rfl, rfl, d, _, V.int (j : Int), rfl, x1, by simp [List.lookup], ?_⟩
      have z := q H' s1
      rw [hj] at z
      exact z
    · have z := q H' s1
      rw [hd] at z
      exact z
theorem ok_written {f fN : Addr} {fd fdN : FuncData} (F : Fun K "_law_written" "_law_written" sWritten f fd) (T : Txt P K mg CR fI) (DN : Dd K mg "_law_next" sNext ["state", "limit"] fN fdN) (GN : FnOk P w K mg base CX0 1 fN fdN ["state", "limit"] spNext) : FnOk P w K mg base CX0 2 f fd ["state", "tokens"] spWritten := by
  refine F.ok scWr (fun us H Q E h => ?_) (fun cdv A outer s H us Q E hr h => ?_)
  · obtain ⟨a, sc, tk, ns, ws, rfl, _⟩ := h
    rfl
  · obtain ⟨a, sc, tk, ns, ws, rfl, hS, htk, ntk, hws, hl, q⟩ := h
    have hr1 : Room 1 _ := hr
    refine ⟨_, (pss_cons (ps_set (i := 2) scWr.nd rfl (Or.inl rfl) pe_str)
      (pss_cons (ps_set (i := 3) scWr.nd rfl (Or.inl rfl) (pe_lst pa_nil))
      (pss_cons (ps_for PassesOwn.never rfl (pi_list (pv 1)) (pg_name (i := 4) scWr.nd rfl (Or.inl rfl)) (C8.pss_cut (ps_set (i := 5) scWr.nd rfl (Or.inl rfl) (pe_ifExp (PW.pt (pw_and (pt_cmpR op_ne (pv 2) pe_str (nomark _)) (pw_and1 (PW.pt (pw_or (pt_cmpR op_in_seq (pv 4) (pe_lst (pa_cons pe_str (pa_cons pe_str (pa_cons pe_str pa_nil)))) rfl) (pw_or1 (pt_cmpR op_in_sign (pe_ix ix_str (pv 2) (pe_un un_neg pe_int) (fun _ _ => rfl)) pe_str rfl))))))) (pe_ix ix_list (pe_lst (pa_cons pe_str (pa_cons pe_str (pa_cons pe_str (pa_cons pe_str pa_nil))))) (pe_call GN hr1 rfl DN.g DN.k DN.b .nil pass0 (pa_cons (pv 0) (pa_cons pe_int pa_nil))) (fun _ _ => rfl)) pe_str))
      (pss_cons (ps_set (i := 2) scWr.nd rfl (Or.inl rfl) (pe_op op_add_str (pv 2) (pe_op op_mul_b (pv 5) (pe_callTy call_int1 (by rfl) T.int boot_int (pa_cons (pe_cmpR op_ne (pv 2) pe_str (nomark _)) pa_nil)))))
      (pss_cons (ps_expr (pe_bm PySem.F.plainAttrs_list PySem.F.slot_list_append PySem.F.type_list_append mt_append (pv 3) (pa_cons (pe_callB call_len_str (by rfl) T.len PySem.boot_len (pa_cons (pv 2) pa_nil)) pa_nil)))
      (pss_one (ps_set (i := 2) scWr.nd rfl (Or.inl rfl) (pe_op op_add_str (pv 2) (pv 4))))))))
      (pss_one (ps_ret (pe_tup (pa_cons (pv 2) (pa_cons (pv 3) pa_nil)))))))), ?_⟩
    have eE : Str.ofString "" = S [] := by decide +kernel
    have eSp : Str.ofString " " = S [32] := by decide +kernel
    have ePun : Str.ofString "(,)" = S [40, 44, 41] := by decide +kernel
    refine ⟨Nat.zero_le _, fun sp hsp => ?_⟩
    have nsp := hS.nota hsp
    rw [eE]
    have g0 := (Going.start hS).new (o := .lst []) hsp
    have k0 : upd H sp (.lst []) sp = some (.lst []) := upd_same
    have kt0 := new_keep (o' := .lst []) htk hsp
    have ntksp : tk ≠ sp := ne_of_none htk hsp
    refine ⟨_, rfl, tk, rfl, ⟨_, SqL.of kt0⟩, ?_⟩
    refine for_list (K := K) (a := tk) (xs := ws.map vs) (fun i σ H' => ∃ (gl : List GW) (v4 v5 : Option V), σ = [some (.ref a), some (.ref tk), some (vs (txtW gl)), some (.ref sp), v4, v5] ∧ gl.map (·.2) = ws.take i ∧ Wr gl ∧ (gl.getD 0 ([], [])).1 = [] ∧ Going a sc ns H H' ∧ H' sp = some (.lst ((posW gl).map fun n : Nat => V.int (n : Int))))
      ⟨[], none, none, rfl, rfl, wr_nil, rfl, g0, k0⟩ (fun i σ H' _ ⟨_, _, _, _, _, _, _, g, _⟩ => SqL.of (g.keep ntk htk)) ?_ ?_
    · rintro i x σ H1 hx ⟨gl, v4, v5, rfl, hgl, W, hfst, g1, k1⟩
      have hi : i < ws.length := by
        have := (List.getElem?_eq_some_iff.mp hx).1
        rw [List.length_map] at this
        exact this
      obtain ⟨tok, htok, rfl⟩ : ∃ tok, ws[i]? = some tok ∧ x = vs tok := by
        rw [List.getElem?_map] at hx
        cases e : ws[i]? with
        | none => rw [e] at hx; cases hx
        | some t => rw [e] at hx; exact ⟨t, rfl, (Option.some.inj hx).symm⟩
      have hwt := hws tok (List.mem_of_getElem? htok)
      have lgl : gl.length = i := by
        have := congrArg List.length hgl
        rw [List.length_map, List.length_take] at this
        omega
      have tl := txtW_len gl W.wd
      have tl2 : (txtW gl).length ≤ 16800 := by omega
      have tokl := (words_len tok hwt).2
      have wgl : ∀ y ∈ gl, y.2 ∈ WORDS := fun y hy => (W.wd y hy).1
      have ne_iff : txtW gl = [] ↔ gl = [] := ⟨fun z => by
        cases e : gl with
        | nil => rfl
        | cons y r => exact absurd z (txtW_ne (by rw [e]; exact List.cons_ne_nil _ _) wgl), fun z => by rw [z]; rfl⟩
      -- the gap
      refine ⟨fun σ' H' => ∃ gap : List Nat, σ' = [some (.ref a), some (.ref tk), some (vs (txtW gl)), some (.ref sp), some (vs tok), some (vs gap)] ∧ Going a sc ns H H' ∧ H' sp = some (.lst ((posW gl).map fun n : Nat => V.int (n : Int))) ∧ gap.length ≤ 2 ∧ (gl ≠ [] → gapOk (last4 (fun _ => false) (mkL gl)) (tkw (gap, tok)) = true), ?_, ?_⟩
      · have bp : blP (last4 (fun _ => false) (mkL gl)) := last_bl _ _ ⟨rfl, rfl⟩
        have sp1 : ∀ H', Going a sc ns H H' → H' sp = some (.lst ((posW gl).map fun n : Nat => V.int (n : Int))) → ∃ gap : List Nat, ([some (.ref a), some (.ref tk), some (vs (txtW gl)), some (.ref sp), some (vs tok), some (vs [32])] : List (Option V)) = [some (.ref a), some (.ref tk), some (vs (txtW gl)), some (.ref sp), some (vs tok), some (vs gap)] ∧ Going a sc ns H H' ∧ H' sp = some (.lst ((posW gl).map fun n : Nat => V.int (n : Int))) ∧ gap.length ≤ 2 ∧ (gl ≠ [] → gapOk (last4 (fun _ => false) (mkL gl)) (tkw (gap, tok)) = true) :=
          fun H' g k => ⟨[32], rfl, g, k, by decide, fun _ => bl_gap ⟨by decide, fun z => by cases z⟩ bp⟩
        refine ⟨_, rfl, rfl, _, rfl, ?_⟩
        by_cases c0 : gl = []
        · refine if_false_of (by rw [ne_iff.mpr c0]; simp) ?_
          refine if_false_of rfl ?_
          rw [eSp]
          exact sp1 H1 g1 k1
        · refine if_true_of (by rw [decide_eq_false (fun z => c0 (ne_iff.mp (SX.S_inj (V.str.inj z))))]; rfl) ?_
          refine ⟨_, rfl, Nat.le_of_ble_eq_true rfl, fun lp hlp => ?_⟩
          have eP : [V.str (Str.ofString "("), V.str (Str.ofString ")"), V.str (Str.ofString ",")] = PUN.map vs := by decide +kernel
          rw [eP]
          have g2 := g1.new (o := .lst (PUN.map vs)) hlp
          have k2 := new_keep (o' := .lst (PUN.map vs)) k1 hlp
          have kl : upd H1 lp (.lst (PUN.map vs)) lp = some (.lst (PUN.map vs)) := upd_same
          generalize upd H1 lp (.lst (PUN.map vs)) = H2 at g2 k2 kl
          refine ⟨lp, _, rfl, .inl (SqL.of kl), rfl, rfl, _, rfl, ?_⟩
          have draw : ∀ (H3 : Hp), Going a sc ns H H3 → H3 sp = some (.lst ((posW gl).map fun n : Nat => V.int (n : Int))) → (tok ∈ PUN ∨ (∃ c, (txtW gl).getLast? = some c ∧ c ∈ [40, 41, 44])) → ∀ l4, H3 l4 = none → Going a sc ns H (upd H3 l4 (.lst (GAPS.map vs))) ∧ ∀ e H5, e < 4 → StAt H5 a sc ns → But a (upd H3 l4 (.lst (GAPS.map vs))) H5 → H5 l4 = some (.lst (GAPS.map vs)) ∧ ∃ gap : List Nat, (GAPS.map vs)[e]? = some (vs gap) ∧ Going a sc ns H H5 ∧ H5 sp = some (.lst ((posW gl).map fun n : Nat => V.int (n : Int))) ∧ gap.length ≤ 2 ∧ (gl ≠ [] → gapOk (last4 (fun _ => false) (mkL gl)) (tkw (gap, tok)) = true) := fun H3 g3 k3 hp l4 h4 => by
            have n4 := (g3.st.nota h4).1
            have g4 := g3.new (o := .lst (GAPS.map vs)) h4
            refine ⟨g4, fun e H5 he hS5 hB5 => ?_⟩
            have g5 := g4.next hS5 hB5
            have ee : GAPS[e]? = some GAPS[e] := List.getElem?_eq_getElem he
            have eg : GAPS[e] ∈ GAPS := List.getElem_mem he
            refine ⟨hB5.same l4 _ n4 upd_same, GAPS[e], by rw [List.getElem?_map, ee]; rfl, g5, hB5.same sp _ nsp.1 (new_keep k3 h4), ?_, fun _ => ?_⟩
            · exact (by decide : ∀ g ∈ GAPS, g.length ≤ 2) _ eg
            · obtain ⟨gl', y, rfl⟩ : ∃ gl' y, gl = gl' ++ [y] := ⟨gl.dropLast, gl.getLast c0, (List.dropLast_concat_getLast c0).symm⟩
              generalize GAPS[e] = gp at eg
              by_cases z : gp = []
              · subst z
                exact gap_free (wgl y (List.mem_append_right _ (List.mem_singleton.mpr rfl))) hp
              · exact bl_gap ⟨(by decide : ∀ g ∈ GAPS, ∀ c ∈ g, isBl c = true) gp eg, fun z' => absurd z' z⟩ bp
          have eG : [V.str (S []), V.str (Str.ofString " "), V.str (Str.ofString "\n"), V.str (Str.ofString "  ")] = GAPS.map vs := by decide +kernel
          by_cases c1 : tok ∈ PUN
          · refine if_true_of (by rw [inV_strs, decide_eq_true c1]; rfl) ?_
            refine ⟨Nat.le_of_ble_eq_true rfl, fun l4 h4 => ?_⟩
            rw [eG]
            obtain ⟨g4, dr⟩ := draw H2 g2 k2 (.inl c1) l4 h4
            refine ⟨_, rfl, a, sc, ns, 4, rfl, g4.st, by decide, by decide, fun e H5 he hS5 hB5 => ?_⟩
            obtain ⟨k4, gap, e1, g5, k5, gl2, gok⟩ := dr e H5 he hS5 hB5
            refine ⟨l4, _, (e : Int), vs gap, rfl, rfl, SqL.of k4, atI_nat e1, ?_⟩
            exact ⟨gap, rfl, g5, k5, gl2, gok⟩
          · refine if_false_of (by rw [inV_strs, decide_eq_false c1]; rfl) ?_
            have nt : txtW gl ≠ [] := fun z => c0 (ne_iff.mp z)
            obtain ⟨l', c, el⟩ : ∃ l' c, txtW gl = l' ++ [c] := ⟨(txtW gl).dropLast, (txtW gl).getLast nt, (List.dropLast_concat_getLast nt).symm⟩
            refine ⟨_, rfl, _, rfl, S (txtW gl), -1, c, rfl, rfl, (by rw [S_len, sizeLine_eq]; omega), (by
              show atI (txtW gl).toArray.toList (-1) = some c
              rw [el]
              exact atI_last l' c), ?_⟩
            refine ⟨c, S [40, 44, 41], rfl, congrArg V.str ePun, _, rfl, ?_⟩
            by_cases c2 : c ∈ [40, 44, 41]
            · refine if_true_of (decide_eq_true c2) ?_
              refine ⟨Nat.le_of_ble_eq_true rfl, fun l4 h4 => ?_⟩
              rw [eG]
              obtain ⟨g4, dr⟩ := draw H2 g2 k2 (.inr ⟨c, by rw [el, List.getLast?_append]; rfl, (by
                simp only [List.mem_cons, List.not_mem_nil, or_false] at c2 ⊢
                rcases c2 with h | h | h
                · exact .inl h
                · exact .inr (.inr h)
                · exact .inr (.inl h))⟩) l4 h4
              refine ⟨_, rfl, a, sc, ns, 4, rfl, g4.st, by decide, by decide, fun e H5 he hS5 hB5 => ?_⟩
              obtain ⟨k4, gap, e1, g5, k5, gl2, gok⟩ := dr e H5 he hS5 hB5
              refine ⟨l4, _, (e : Int), vs gap, rfl, rfl, SqL.of k4, atI_nat e1, ?_⟩
              exact ⟨gap, rfl, g5, k5, gl2, gok⟩
            · refine if_false_of (decide_eq_false c2) ?_
              rw [eSp]
              exact sp1 H2 g2 k2
      rintro σ' H2 ⟨gap, rfl, g2, k2, gapl, hgap⟩
      obtain ⟨x, ex⟩ : ∃ x : GW, x = ((if gl = [] then [] else gap), tok) := ⟨_, rfl⟩
      have x2 : x.2 = tok := by rw [ex]
      have xl : x.1.length ≤ 2 := by
        rw [ex]
        dsimp only
        split
        · exact Nat.zero_le _
        · exact gapl
      have xg : gapOk (last4 (fun _ => false) (mkL gl)) (tkw x) = true := by
        rw [ex]
        by_cases c : gl = []
        · rw [if_pos c, c]
          rfl
        · rw [if_neg c]
          exact hgap c
      have W2 : Wr (gl ++ [x]) := wr_snoc W (by rw [x2]; exact hwt) xl xg
      have bt : (!decide (vs (txtW gl) = V.str (S []))) = !decide (gl = []) := by
        congr 1
        exact decide_eq_decide.mpr ⟨fun z => ne_iff.mp (SX.S_inj (V.str.inj z)), fun z => by rw [z]; rfl⟩
      refine ⟨_, rfl, _, rfl, _, rfl, rfl, .inr ⟨_, rfl, ?_⟩⟩
      refine ⟨gap, !decide (gl = []), rfl, congrArg (fun b => V.int (b2i b)) bt, by omega, ?_⟩
      have e1 : (if (!decide (gl = [])) = true then gap else []) = x.1 := by
        rw [ex]
        by_cases c : gl = []
        · rw [if_pos c, decide_eq_true c]
          rfl
        · rw [if_neg c, decide_eq_false c]
          rfl
      rw [e1]
      refine ⟨_, _, rfl, rfl, (by rw [S_len, S_len, sizeLine_eq]; omega), ?_⟩
      rw [SX.S_cat]
      refine ⟨_, rfl, .inl ⟨rfl, _, SqL.of k2⟩, _, rfl, S (txtW gl ++ x.1), rfl, (by rw [S_len, sizeLine_eq, List.length_append]; omega), ?_⟩
      refine ⟨sp, _, _, rfl, rfl, k2, (by rw [List.length_map, posW_len, sizeLine_eq]; omega), ?_⟩
      rw [S_len]
      refine ⟨_, rfl, _, rfl, _, _, rfl, rfl, (by rw [S_len, S_len, sizeLine_eq, List.length_append]; omega), ?_⟩
      rw [SX.S_cat]
      have et : txtW gl ++ x.1 ++ tok = txtW (gl ++ [x]) := by rw [txtW_app, txtW_one, x2, List.append_assoc]
      rw [et]
      refine ⟨gl ++ [x], _, _, rfl, ?_, W2, ?_, g2.put (hS.nota hsp |> fun _ => hsp) nsp.1 nsp.2, ?_⟩
      · rw [List.map_append, hgl, List.take_succ, htok, ← x2]
        rfl
      · cases gl with
        | nil => rw [ex]; rfl
        | cons y r => exact hfst
      · rw [upd_same, posW_snoc, List.map_append, List.length_append]
        rfl
    · rintro σ H1 ⟨gl, v4, v5, rfl, hgl, W, hfst, g1, k1⟩
      rw [List.length_map, List.take_length] at hgl
      refine ⟨_, rfl, _, rfl, Nat.le_of_ble_eq_true rfl, fun p hp => ?_⟩
      exact q _ p sp gl W hgl hfst (g1.new hp) upd_same (new_keep k1 hp) nsp.1
end
end K9
set_option Elab.async false
set_option linter.all false
set_option maxRecDepth 100000
namespace K9
open PySem L2 PyProof.Rows
abbrev sRight : Stmt := top 38
abbrev NRI : List Str := ["state", "read", "tokens", "firsts", "text", "starts", "at", "cut", "place", "turn", "left"]
theorem cut_to {t : List Nat} {i : Nat} : cutS (S t) none (some (i : Int)) = S (t.take i) := by
  unfold cutS
  rw [HT.sIx_none, HT.sIx_nat, S_toList, S_len, Nat.sub_zero]
  have e : t.take (min i t.length) = t.take i := by
    by_cases h : i ≤ t.length
    · rw [Nat.min_eq_left h]
    · rw [Nat.min_eq_right (by omega), List.take_length, List.take_of_length_le (by omega)]
  rw [List.drop_zero, e]
theorem cut_from {t : List Nat} {i : Nat} (hi : i ≤ t.length) : cutS (S t) (some (i : Int)) none = S (t.drop i) := by
  unfold cutS
  rw [HT.sIx_none, HT.sIx_nat, S_toList, S_len, Nat.min_eq_left hi, List.take_of_length_le (by rw [List.length_drop]; omega)]
theorem inV_nats (n : Nat) : ∀ l : List Nat, inV (V.int (n : Int)) (l.map fun k : Nat => V.int (k : Int)) = decide (n ∈ l)
  | [] => rfl
  | k :: l => by
    have ih := inV_nats n l
    unfold inV at ih ⊢
    rw [List.map_cons, List.any_cons, ih]
    have e : eqV (V.int (k : Int)) (V.int (n : Int)) = decide (k = n) := by
      show ((k : Int) == (n : Int)) = _
      rw [show ((k : Int) == (n : Int)) = decide ((k : Int) = (n : Int)) from rfl]
      exact decide_eq_decide.mpr (by omega)
    rw [e]
    by_cases h : n = k
    · subst h
      simp
    · have h' : ¬ k = n := fun z => h z.symm
      simp [h, h']
theorem flat_nats (l : List Nat) : (l.map fun k : Nat => V.int (k : Int)).all flatV = true := by
  rw [List.all_map]
  exact List.all_eq_true.mpr fun _ _ => rfl
/-! ### the text, cut at a word -/
theorem split_txt {gl : List GW} {j : Nat} (h : j < gl.length) : txtW gl = leftW gl j (gl.getD j ([], [])).1 ++ rightW gl j := by
  have dx : gl.drop j = (gl.getD j ([], [])) :: gl.drop (j + 1) := by
    rw [List.drop_eq_getElem_cons h, List.getD_eq_getElem?_getD, List.getElem?_eq_getElem h]
    rfl
  have e : txtW gl = txtW (gl.take j) ++ txtW (gl.drop j) := by rw [← txtW_app, List.take_append_drop]
  rw [e]
  unfold leftW rightW
  rw [dx, List.append_assoc]
  rfl
theorem left_len {gl : List GW} {j : Nat} (h : j < gl.length) : (posW gl)[j]? = some (leftW gl j (gl.getD j ([], [])).1).length := by
  rw [posW_at h]
  unfold leftW
  rw [List.length_append]
theorem take_left {gl : List GW} {j : Nat} (h : j < gl.length) : (txtW gl).take (leftW gl j (gl.getD j ([], [])).1).length = leftW gl j (gl.getD j ([], [])).1 := by
  conv => lhs; rw [split_txt h]
  exact List.take_left
theorem drop_left {gl : List GW} {j : Nat} (h : j < gl.length) : (txtW gl).drop (leftW gl j (gl.getD j ([], [])).1).length = rightW gl j := by
  conv => lhs; rw [split_txt h]
  exact List.drop_left
theorem take_word {gl : List GW} {j : Nat} (h : j < gl.length) : (txtW gl).take ((leftW gl j (gl.getD j ([], [])).1).length + (gl.getD j ([], [])).2.length) = txtW (gl.take (j + 1)) := by
  have e1 : txtW (gl.take (j + 1)) = leftW gl j (gl.getD j ([], [])).1 ++ (gl.getD j ([], [])).2 := by
    rw [List.take_succ, List.getElem?_eq_getElem h, txtW_app]
    unfold leftW
    rw [List.append_assoc, List.getD_eq_getElem?_getD, List.getElem?_eq_getElem h]
    show _ ++ txtW [gl[j]] = _
    rw [txtW_one]
    rfl
  have e2 : txtW gl = txtW (gl.take (j + 1)) ++ txtW (gl.drop (j + 1)) := by rw [← txtW_app, List.take_append_drop]
  rw [← List.length_append, ← e1]
  conv => lhs; rw [e2]
  exact List.take_left
theorem word_last : ∀ y ∈ WORDS, ∃ c, y.getLast? = some c ∧ c ∉ [32, 10] := by
  have key : ∀ y ∈ WORDS, y ≠ [] ∧ ∀ c, y.getLast? = some c → c ∉ [32, 10] := by
    have k : ∀ y ∈ WORDS, (match y.getLast? with | some c => decide (c ∉ [32, 10]) | none => false) = true := by decide +kernel
    intro y hy
    have z := k y hy
    refine ⟨(words_len y hy).1, fun c e => ?_⟩
    rw [e] at z
    exact of_decide_eq_true z
  intro y hy
  obtain ⟨h1, h2⟩ := key y hy
  exact ⟨y.getLast h1, List.getLast?_eq_some_getLast h1, h2 _ (List.getLast?_eq_some_getLast h1)⟩
/-- a blank is put in where none is -/
theorem put_of {gl : List GW} (W : Wr gl) {j : Nat} (h : j < gl.length) {e : List Nat} (he : e = [] ∨ e = [32]) (hz : e = [] → leftW gl j (gl.getD j ([], [])).1 = [] ∨ ∃ c, (leftW gl j (gl.getD j ([], [])).1).getLast? = some c ∧ c ∈ [32, 10]) : Put gl j ((gl.getD j ([], [])).1 ++ e) := by
  have hg : ∀ c ∈ (gl.getD j ([], [])).1, isBl c = true := by
    obtain ⟨_, h2⟩ := row4_take j W.row
    have dx : gl.drop j = (gl.getD j ([], [])) :: gl.drop (j + 1) := by
      rw [List.drop_eq_getElem_cons h, List.getD_eq_getElem?_getD, List.getElem?_eq_getElem h]
      rfl
    rw [dx] at h2
    have z : (gapOk _ (tkw (gl.getD j ([], []))) && (tokB _ _ _ && row4 _ _)) = true := h2
    have z1 := (Bool.and_eq_true_iff.mp z).1
    unfold gapOk at z1
    have z2 := (Bool.and_eq_true_iff.mp z1).1
    exact fun c hc => List.all_eq_true.mp z2 c hc
  refine ⟨h, fun c hc => ?_, fun z => ?_⟩
  · rcases List.mem_append.mp hc with hc | hc
    · exact hg c hc
    · rcases he with rfl | rfl
      · cases hc
      · rw [List.mem_singleton.mp hc]
        rfl
  · obtain ⟨z1, z2⟩ := List.append_eq_nil_iff.mp z
    rcases Nat.eq_zero_or_pos j with j0 | j0
    · exact j0
    · exfalso
      have ne : gl.take j ≠ [] := fun y => by
        have := congrArg List.length y
        rw [List.length_take] at this
        simp only [List.length_nil] at this
        omega
      have wt : ∀ x ∈ gl.take j, x.2 ∈ WORDS := fun x hx => (W.wd x (List.mem_of_mem_take hx)).1
      have tn := txtW_ne ne wt
      unfold leftW at hz
      rw [z1, List.append_nil] at hz
      rcases hz z2 with y | ⟨c, y1, y2⟩
      · exact tn y
      · obtain ⟨l, x, el⟩ : ∃ l x, gl.take j = l ++ [x] := ⟨_, _, (List.dropLast_concat_getLast ne).symm⟩
        have hx := wt x (by rw [el]; exact List.mem_append_right _ (List.mem_singleton.mpr rfl))
        obtain ⟨c', k1, k2⟩ := word_last x.2 hx
        rw [el, txtW_app, txtW_one, ← List.append_assoc, List.getLast?_append, k1] at y1
        cases y1
        exact k2 y2
def spRight (g : Addr) (TT : Ps → Out) : Sp := fun us H Q _ => ∃ (a sc tk fa : Addr) (ns : List Int) (ws : List Wrd) (fs : List Nat), us = [.ref a, .ref g, .ref tk, .ref fa] ∧ StAt H a sc ns ∧ H tk = some (.lst (ws.map vs)) ∧ H fa = some (.lst (fs.map fun k : Nat => V.int (k : Int))) ∧ tk ≠ a ∧ fa ≠ a ∧ AllW ws ∧ 0 < ws.length ∧ ws.length ≤ 400 ∧ Reads TT ws fs ∧
  ∀ H', Going a sc ns H H' → Q (.bl true) H'
section
variable {P : Program} {w : World} {K : PySem.W.Frag} {mg : Str → Option Value} {base : Heap} {C CR fI : Addr}
theorem scRi : FnScope NRI ["state", "read", "tokens", "firsts"] (defScope sRight) := ⟨rfl, rfl, rfl, by decide +kernel, rfl, by decide +kernel, by decide +kernel⟩
theorem ok_right {f g fN fW fP fS : Addr} {fd gd fdN fdW fdP fdS : FuncData} {out : List Nat → Out} {TT : Ps → Out} (F : Fun K "_law_right" "_law_right" sRight f fd) (T : Txt P K mg CR fI) (R : Reader out TT) (kG : PySem.W.keepIn K (.ref g) = true) (bG : Binds K gd ["text"] []) (GG : FnOk P w K mg base (L2.CX P w) 74 g gd ["text"] (spRd CR out))
    (DN : Dd K mg "_law_next" sNext ["state", "limit"] fN fdN) (GN : FnOk P w K mg base CX0 1 fN fdN ["state", "limit"] spNext) (DW : Dd K mg "_law_written" sWritten ["state", "tokens"] fW fdW) (GW : FnOk P w K mg base CX0 2 fW fdW ["state", "tokens"] spWritten)
    (DP : Dd K mg "_law_place" sPlace ["read", "text"] fP fdP) (GP : FnOk P w K mg base CX0 75 fP fdP ["read", "text"] (spPlc g out)) (DS : Dd K mg "_law_same" sSame ["actual", "expected"] fS fdS) (GS : FnOk P w K mg base CX0 19 fS fdS ["actual", "expected"] (spSameD 18)) :
    FnOk P w K mg base CX0 76 f fd ["state", "read", "tokens", "firsts"] (spRight g TT) := by
  refine F.ok scRi (fun us H Q E h => ?_) (fun cdv A outer s H us Q E hr h => ?_)
  · obtain ⟨a, sc, tk, fa, ns, ws, fs, rfl, _⟩ := h
    rfl
  · obtain ⟨a, sc, tk, fa, ns, ws, fs, rfl, hS, htk, hfa, ntk, nfa, hws, h0, hl, RD, q⟩ := h
    have hrP : Room 75 _ := hr
    have hrG : Room 74 _ := hr.mono (by decide)
    have hrS : Room 19 _ := hr.mono (by decide)
    have hr2 : Room 2 _ := hr.mono (by decide)
    have hr1 : Room 1 _ := hr.mono (by decide)
    refine ⟨_, (pss_cons (ps_asg (pe_call GW hr2 rfl DW.g DW.k DW.b .nil pass0 (pa_cons (pv 0) (pa_cons (pv 2) pa_nil))) (pg_tup (by rfl) (pgs_cons (pg_name (i := 4) scRi.nd rfl (Or.inl rfl)) (pgs_cons (pg_name (i := 5) scRi.nd rfl (Or.inl rfl)) pgs_nil))))
      (pss_cons (ps_if (PW.pt (pw_or (pt_cmpR op_notN (pe_call GP hrP rfl DP.g DP.k DP.b .nil pass0 (pa_cons (pv 1) (pa_cons (pv 4) pa_nil))) pe_non (nomark _)) (pw_or (pt_not (pt_val (pe_call GS hrS rfl DS.g DS.k DS.b .nil pass0 (pa_cons (pe_callLS (i := 1) (f := g) (E := WE (fun _ _ _ _ => False)) GG hrG rfl (.inl rfl) kG bG (fun σ => passAt takes0 σ) (pa_cons (pv 4) pa_nil)) (pa_cons (pe_callLS (i := 1) (f := g) (E := WE (fun _ _ _ _ => False)) GG hrG rfl (.inl rfl) kG bG (fun σ => passAt takes0 σ) (pa_cons (pv 4) pa_nil)) pa_nil))))) (pw_or1 (pt_not (pt_val (pe_call GS hrS rfl DS.g DS.k DS.b .nil pass0 (pa_cons (pe_callLS (i := 1) (f := g) (E := WE (fun _ _ _ _ => False)) GG hrG rfl (.inl rfl) kG bG (fun σ => passAt takes0 σ) (pa_cons (pe_ix ix_tup (pe_call GW hr2 rfl DW.g DW.k DW.b .nil pass0 (pa_cons (pv 0) (pa_cons (pv 2) pa_nil))) pe_int (fun _ _ => rfl)) pa_nil)) (pa_cons (pe_callLS (i := 1) (f := g) (E := WE (fun _ _ _ _ => False)) GG hrG rfl (.inl rfl) kG bG (fun σ => passAt takes0 σ) (pa_cons (pv 4) pa_nil)) pa_nil))))))))) (pss_one (ps_ret pe_bl)) pss_nil)
      (pss_cons (ps_for PassesOwn.never rfl (pi_range2 (by rfl) T.range (pa_cons pe_int (pa_cons (pe_callB call_len_seq (by rfl) T.len PySem.boot_len (pa_cons (pv 2) pa_nil)) pa_nil))) (pg_name (i := 6) scRi.nd rfl (Or.inl rfl)) (pss_cons (ps_set (i := 7) scRi.nd rfl (Or.inl rfl) (pe_slice sl_str (pv 4) po_none (po_some (pe_op op_add (pe_ix ix_list (pv 5) (pe_op op_sub (pv 6) pe_int) (fun _ _ => rfl)) (pe_callB call_len_str (by rfl) T.len PySem.boot_len (pa_cons (pe_ix ix_list (pv 2) (pe_op op_sub (pv 6) pe_int) (fun _ _ => rfl)) pa_nil))))))
      (pss_cons (ps_set (i := 8) scRi.nd rfl (Or.inl rfl) (pe_call GP hrP rfl DP.g DP.k DP.b .nil pass0 (pa_cons (pv 1) (pa_cons (pv 7) pa_nil))))
      (pss_one (ps_if (PW.pt (pw_and (pt_cmpR op_notN (pv 8) pe_non (nomark _)) (pw_and1 (pt_cmpR op_ne (pv 8) (pe_callB call_len_str (by rfl) T.len PySem.boot_len (pa_cons (pv 7) pa_nil)) (nomark _))))) (pss_one (ps_ret pe_bl)) pss_nil)))))
      (pss_cons (ps_for PassesOwn.never rfl (pi_range1 (by rfl) T.range (pa_cons pe_int pa_nil)) (pg_name (i := 9) scRi.nd rfl (Or.inl rfl)) (pss_cons (ps_set (i := 6) scRi.nd rfl (Or.inl rfl) (pe_call GN hr1 rfl DN.g DN.k DN.b .nil pass0 (pa_cons (pv 0) (pa_cons (pe_callB call_len_seq (by rfl) T.len PySem.boot_len (pa_cons (pv 2) pa_nil)) pa_nil))))
      (pss_cons (ps_set (i := 10) scRi.nd rfl (Or.inl rfl) (pe_slice sl_str (pv 4) po_none (po_some (pe_ix ix_list (pv 5) (pv 6) (fun _ _ => rfl)))))
      (C8.pss_cut (ps_set (i := 10) scRi.nd rfl (Or.inl rfl) (pe_op op_add_str (pv 10) (pe_op op_mul_b pe_str (pe_callTy call_int1 (by rfl) T.int boot_int (pa_cons (pe_and (pe_cmpR op_ne (pv 10) pe_str (nomark _)) (pe_one (pe_cmpR op_notIn_sign (pe_ix ix_str (pv 10) (pe_un un_neg pe_int) (fun _ _ => rfl)) pe_str rfl))) pa_nil)))))
      (C8.pss_cut (ps_if (PW.pt (pw_or (pt_cmpR op_ne (pe_call GP hrP rfl DP.g DP.k DP.b .nil pass0 (pa_cons (pv 1) (pa_cons (pe_op op_add_str (pe_op op_add_str (pv 10) pe_str) (pe_slice sl_str (pv 4) (po_some (pe_ix ix_list (pv 5) (pv 6) (fun _ _ => rfl))) po_none)) pa_nil))) (pe_callB call_len_str (by rfl) T.len PySem.boot_len (pa_cons (pv 10) pa_nil)) (nomark _)) (pw_or1 (pt_cmpR op_ne (pe_call GP hrP rfl DP.g DP.k DP.b .nil pass0 (pa_cons (pv 1) (pa_cons (pe_op op_add_str (pe_op op_add_str (pe_op op_add_str (pv 10) pe_str) (pe_slice sl_str (pv 4) (po_some (pe_ix ix_list (pv 5) (pv 6) (fun _ _ => rfl))) po_none)) pe_str) pa_nil))) (pe_op op_add (pe_op op_add (pe_callB call_len_str (by rfl) T.len PySem.boot_len (pa_cons (pv 10) pa_nil)) (pe_callB call_len_str (by rfl) T.len PySem.boot_len (pa_cons (pe_op op_add_str pe_str (pe_slice sl_str (pv 4) (po_some (pe_ix ix_list (pv 5) (pv 6) (fun _ _ => rfl))) po_none)) pa_nil))) pe_int) (nomark _))))) (pss_one (ps_ret pe_bl)) pss_nil)
      (pss_one (ps_if (PW.pt (pw_and (pt_cmpR op_notIn_seq (pv 6) (pv 3) rfl) (pw_and (pt_cmpR op_ne (pe_ix ix_list (pv 2) (pv 6) (fun _ _ => rfl)) pe_str (nomark _)) (pw_and1 (pt_cmpR op_ne (pe_call GP hrP rfl DP.g DP.k DP.b .nil pass0 (pa_cons (pv 1) (pa_cons (pe_op op_add_str (pe_op op_add_str (pv 10) pe_str) (pe_slice sl_str (pv 4) (po_some (pe_ix ix_list (pv 5) (pv 6) (fun _ _ => rfl))) po_none)) pa_nil))) (pe_callB call_len_str (by rfl) T.len PySem.boot_len (pa_cons (pv 10) pa_nil)) (nomark _)))))) (pss_one (ps_ret pe_bl)) pss_nil)))))))
      (pss_one (ps_ret (pe_cmpR op_eq (pe_call GP hrP rfl DP.g DP.k DP.b .nil pass0 (pa_cons (pv 1) (pa_cons (pe_op op_add_str (pv 4) pe_str) pa_nil))) (pe_op op_add (pe_callB call_len_str (by rfl) T.len PySem.boot_len (pa_cons (pv 4) pa_nil)) pe_int) (nomark _)))))))), ?_⟩
    obtain ⟨dd, hdd, hall⟩ := w_all R RD
    have lenW : ∀ gl, Wr gl → gl.map (·.2) = ws → (txtW gl).length ≤ 16800 := fun gl W e => by
      have := txtW_len gl W.wd
      have l2 := congrArg List.length e
      rw [List.length_map] at l2
      omega
    refine ⟨_, rfl, _, rfl, a, sc, tk, ns, ws, rfl, hS, htk, ntk, hws, hl, fun H1 p sp gl W e f0 g1 kp ksp nsp => ?_⟩
    refine ⟨p, _, rfl, SqT.of kp, rfl, _, _, rfl, _, _, rfl, rfl, ?_⟩
    have T1 := lenW gl W e
    have TL1 : (txtW gl).length ≤ LINE := Nat.le_trans T1 (by decide)
    have lg : gl.length = ws.length := by
      have := congrArg List.length e
      rw [List.length_map] at this
      exact this
    have tree := hall gl W e
    -- the first test
    refine ⟨_, rfl, _, rfl, txtW gl, rfl, TL1, fun H2 s2 => ?_⟩
    rw [tree]
    have g2 := g1.sm s2
    refine ⟨rfl, _, rfl, ?_⟩
    refine if_false_of rfl ?_
    refine ⟨rfl, _, rfl, txtW gl, rfl, TL1, fun j hj => (by rw [tree] at hj; cases hj), fun d1 hd1 H3 u1 s3 r1 => ?_⟩
    rw [tree] at hd1
    cases hd1
    refine ⟨rfl, _, rfl, txtW gl, rfl, TL1, fun j hj => (by rw [tree] at hj; cases hj), fun d2 hd2 H4 u2 s4 r2 => ?_⟩
    rw [tree] at hd2
    cases hd2
    refine ⟨u1, u2, dd, rfl, r1.same s4, r2, hdd, ?_⟩
    refine ⟨_, rfl, ?_⟩
    refine if_false_of rfl ?_
    have g4 := (g2.sm s3).sm s4
    refine ⟨rfl, _, rfl, _, rfl, a, sc, tk, ns, ws, rfl, g4.st, g4.keep ntk htk, ntk, hws, hl, fun H5 p5 sp5 gl5 W5 e5 f5 g5' kp5 ksp5 nsp5 => ?_⟩
    have g5 := g4.comp g5'
    refine ⟨p5, _, 0, _, rfl, rfl, SqT.of kp5, rfl, ?_⟩
    have tree5 := hall gl5 W5 e5
    refine ⟨txtW gl5, rfl, Nat.le_trans (lenW gl5 W5 e5) (by decide), fun j hj => (by rw [tree5] at hj; cases hj), fun d3 hd3 H6 u3 s6 r3 => ?_⟩
    rw [tree5] at hd3
    cases hd3
    refine ⟨rfl, _, rfl, txtW gl, rfl, TL1, fun j hj => (by rw [tree] at hj; cases hj), fun d4 hd4 H7 u4 s7 r4 => ?_⟩
    rw [tree] at hd4
    cases hd4
    refine ⟨u3, u4, dd, rfl, r3.same s7, r4, hdd, ?_⟩
    refine ⟨_, rfl, ?_⟩
    refine if_false_of rfl ?_
    have g7 := (g5.sm s6).sm s7
    have ksp7 : ∀ {H'}, Going a sc ns H7 H' → H' sp = some (.lst ((posW gl).map fun n : Nat => V.int (n : Int))) := fun g' => g'.keep nsp (s7 _ _ (s6 _ _ (g5'.keep nsp (s4 _ _ (s3 _ _ (s2 _ _ ksp))))))
    have ktk : ∀ {H'}, Going a sc ns H7 H' → H' tk = some (.lst (ws.map vs)) := fun g' => (g7.comp g').keep ntk htk
    have kfa : ∀ {H'}, Going a sc ns H7 H' → H' fa = some (.lst (fs.map fun k : Nat => V.int (k : Int))) := fun g' => (g7.comp g').keep nfa hfa
    -- cuts
    refine ⟨_, rfl, tk, _, rfl, .inl (SqL.of (ktk (.start g7.st))), 1, ((ws.map vs).length : Int), rfl, ⟨by decide, by decide, by rw [List.length_map]; omega, by rw [List.length_map]; omega⟩, ?_⟩
    refine for_range (lo := 1) (n := (((ws.map vs).length : Int) - 1).toNat) (fun i σ H' => ∃ v6 v7 v8 : Option V, σ = [some (.ref a), some (.ref g), some (.ref tk), some (.ref fa), some (vs (txtW gl)), some (.ref sp), v6, v7, v8, none, none] ∧ Going a sc ns H7 H') ⟨none, none, none, rfl, .start g7.st⟩ ?_ ?_
    · rintro i σ H8 hi ⟨v6, v7, v8, rfl, g8⟩
      rw [List.length_map] at hi
      have ij : i < gl.length := by omega
      have hw : ws[i]? = some (gl.getD i ([], [])).2 := by rw [← e, List.getElem?_map, List.getD_eq_getElem?_getD, List.getElem?_eq_getElem ij]; rfl
      have hxw : (gl.getD i ([], [])).2 ∈ WORDS := hws _ (List.mem_of_getElem? hw)
      have xl := (words_len _ hxw).2
      have lw : (leftW gl i (gl.getD i ([], [])).1).length ≤ 16800 := by
        have z := congrArg List.length (split_txt ij)
        rw [List.length_append] at z
        omega
      have eI : (1 : Int) + (i : Int) - 1 = (i : Int) := by omega
      refine ⟨_, rfl, _, rfl, _, rfl, _, _, rfl, rfl, sp, _, (i : Int), V.int ((leftW gl i (gl.getD i ([], [])).1).length : Int), rfl, congrArg V.int eI, SqL.of (ksp7 g8), atI_nat (by rw [List.getElem?_map, left_len ij]; rfl), ?_⟩
      refine ⟨_, rfl, _, rfl, _, _, rfl, rfl, tk, _, (i : Int), vs (gl.getD i ([], [])).2, rfl, congrArg V.int eI, SqL.of (ktk g8), atI_nat (by rw [List.getElem?_map, hw]; rfl), S (gl.getD i ([], [])).2, rfl, by rw [S_len, sizeLine_eq]; omega, _, _, rfl, rfl, ?_⟩
      refine ⟨(((leftW gl i (gl.getD i ([], [])).1).length + (gl.getD i ([], [])).2.length : Nat) : Int), congrArg V.int (by rw [S_len]; omega), S (txtW gl), rfl, by rw [S_len, sizeLine_eq]; omega, ?_⟩
      rw [cut_to, take_word ij]
      have tlen : (txtW (gl.take (i + 1))).length ≤ 16800 := by
        have z : (txtW gl).length = (txtW (gl.take (i + 1)) ++ txtW (gl.drop (i + 1))).length := by rw [← txtW_app, List.take_append_drop]
        rw [List.length_append] at z
        omega
      refine ⟨_, rfl, _, rfl, txtW (gl.take (i + 1)), rfl, Nat.le_trans tlen (by decide), fun H9 s9 => ?_⟩
      have g9 := g8.sm s9
      rcases w_cut R RD W e (n := i + 1) (by omega) (by omega) with z | ⟨d, z⟩
      · rw [z]
        refine ⟨_, rfl, rfl, _, rfl, ?_⟩
        refine if_true_of rfl ?_
        refine ⟨_, rfl, _, rfl, S (txtW (gl.take (i + 1))), rfl, by rw [S_len, sizeLine_eq]; omega, rfl, _, rfl, ?_⟩
        refine if_false_of (by rw [S_len]; show (!decide (V.int _ = V.int _)) = false; rw [decide_eq_true rfl]; rfl) ?_
        exact ⟨_, _, _, rfl, g9⟩
      · rw [z]
        refine ⟨_, rfl, rfl, _, rfl, ?_⟩
        refine if_false_of rfl ?_
        refine if_false_of rfl ?_
        exact ⟨_, _, _, rfl, g9⟩
    · rintro σ H8 ⟨v6, v7, v8, rfl, g8⟩
      refine ⟨4, rfl, by decide, by decide, for_range (n := 4) (fun i σ H' => ∃ v6 v7 v8 v9 v10 : Option V, σ = [some (.ref a), some (.ref g), some (.ref tk), some (.ref fa), some (vs (txtW gl)), some (.ref sp), v6, v7, v8, v9, v10] ∧ Going a sc ns H7 H') ⟨_, _, _, _, _, rfl, g8⟩ ?_ ?_⟩
      · rintro i σ H9 hi ⟨v6, v7, v8, v9, v10, rfl, g9⟩
        refine ⟨_, rfl, _, rfl, tk, _, rfl, .inl (SqL.of (ktk g9)), a, sc, ns, ws.length, by rw [List.length_map]; rfl, (g7.comp g9).st, h0, by omega, fun j H10 hj hS10 hB10 => ?_⟩
        have g10 := g9.next hS10 hB10
        have jg : j < gl.length := by omega
        obtain ⟨L0, eL0⟩ : ∃ L0, L0 = leftW gl j (gl.getD j ([], [])).1 := ⟨_, rfl⟩
        have sT := split_txt jg
        rw [← eL0] at sT
        have lT := congrArg List.length sT
        rw [List.length_append] at lT
        have leftlen := left_len jg
        rw [← eL0] at leftlen
        refine ⟨_, rfl, _, rfl, _, rfl, sp, _, (j : Int), V.int (L0.length : Int), rfl, rfl, SqL.of (ksp7 g10), atI_nat (by rw [List.getElem?_map, leftlen]; rfl), _, rfl, S (txtW gl), rfl, by rw [S_len, sizeLine_eq]; omega, ?_⟩
        have tkl := take_left jg
        rw [← eL0] at tkl
        have dpl := drop_left jg
        rw [← eL0] at dpl
        rw [cut_to, tkl]
        -- a blank
        have eSp : Str.ofString " " = S [32] := by decide +kernel
        have eBl : Str.ofString " \n" = S [32, 10] := by decide +kernel
        have eEm : Str.ofString "" = S [] := by decide +kernel
        refine ⟨fun σ' H' => ∃ x : List Nat, σ' = [some (.ref a), some (.ref g), some (.ref tk), some (.ref fa), some (vs (txtW gl)), some (.ref sp), some (.int (j : Int)), v7, v8, some (.int ((0 : Int) + (i : Int))), some (vs (L0 ++ x))] ∧ Going a sc ns H7 H' ∧ (x = [] ∨ x = [32]) ∧ (x = [] → L0 = [] ∨ ∃ c, L0.getLast? = some c ∧ c ∈ [32, 10]), ?_, ?_⟩
        · refine ⟨_, rfl, _, rfl, rfl, _, rfl, ?_⟩
          by_cases c0 : L0 = []
          · refine if_false_of (by rw [c0, eEm]; simp) ?_
            refine .inr ⟨_, rfl, ?_⟩
            rw [eSp]
            refine ⟨[32], false, rfl, rfl, by decide, _, _, rfl, rfl, by rw [S_len, S_len, sizeLine_eq]; show _ + 0 ≤ _; omega, ?_⟩
            rw [SX.S_cat]
            exact ⟨[], rfl, g10, .inl rfl, fun _ => .inl c0⟩
          · refine if_true_of (by rw [eEm, decide_eq_false (fun z => c0 (SX.S_inj (V.str.inj z)))]; rfl) ?_
            obtain ⟨l', c, el⟩ : ∃ l' c, L0 = l' ++ [c] := ⟨L0.dropLast, L0.getLast c0, (List.dropLast_concat_getLast c0).symm⟩
            refine ⟨_, rfl, _, rfl, S L0, -1, c, rfl, rfl, (by rw [S_len, sizeLine_eq]; omega), (by
              show atI L0.toArray.toList (-1) = some c
              rw [el]
              exact atI_last l' c), ?_⟩
            refine ⟨c, S [32, 10], rfl, congrArg V.str eBl, .inr ⟨_, rfl, ?_⟩⟩
            rw [eSp]
            by_cases c2 : c ∈ [32, 10]
            · refine ⟨[32], false, rfl, congrArg (fun b => V.int (b2i b)) (by show (!decide (c ∈ [32, 10])) = false; rw [decide_eq_true c2]; rfl), by decide, _, _, rfl, rfl, by rw [S_len, S_len, sizeLine_eq]; show _ + 0 ≤ _; omega, ?_⟩
              rw [SX.S_cat]
              exact ⟨[], rfl, g10, .inl rfl, fun _ => .inr ⟨c, by rw [el, List.getLast?_append]; rfl, c2⟩⟩
            · refine ⟨[32], true, rfl, congrArg (fun b => V.int (b2i b)) (by show (!decide (c ∈ [32, 10])) = true; rw [decide_eq_false c2]; rfl), by decide, _, _, rfl, rfl, by rw [S_len, S_len, sizeLine_eq]; show _ + 1 ≤ _; omega, ?_⟩
              rw [SX.S_cat]
              exact ⟨[32], rfl, g10, .inr rfl, fun z => by cases z⟩
        rintro σ' H11 ⟨x, rfl, g11, hx, hx0⟩
        have PU : Put gl j ((gl.getD j ([], [])).1 ++ x) := put_of W jg hx (by rw [← eL0]; exact hx0)
        have eLW : leftW gl j ((gl.getD j ([], [])).1 ++ x) = L0 ++ x := by
          rw [eL0]
          unfold leftW
          rw [List.append_assoc]
        have xlen : x.length ≤ 1 := by rcases hx with rfl | rfl <;> decide
        have llen : (L0 ++ x).length ≤ 16801 := by rw [List.length_append]; omega
        have rlen : (rightW gl j).length ≤ 16800 := by omega
        have eQ : Str.ofString "? " = S [63, 32] := by decide +kernel
        have eR : Str.ofString ") ) if " = S [41,32,41,32,105,102,32] := by decide +kernel
        have eQ2 : Str.ofString " ?" = S [32, 63] := by decide +kernel
        have eIf : Str.ofString "if " = S [105,102,32] := by decide +kernel
        have eIf2 : V.str (Str.ofString "if") = vs wIf := congrArg V.str (by decide +kernel)
        have lr7 : ([41,32,41,32,105,102,32] ++ rightW gl j).length = 7 + (rightW gl j).length := by rw [List.length_append]; rfl
        have lr3 : ([105,102,32] ++ rightW gl j).length = 3 + (rightW gl j).length := by rw [List.length_append]; rfl
        have wo1 := w_odd R W PU (32 :: rightW gl j)
        have wo2 := w_odd2 R W PU
        rw [eLW] at wo1 wo2
        have dle : L0.length ≤ (txtW gl).length := by omega
        refine ⟨fun σ' H' => σ' = [some (.ref a), some (.ref g), some (.ref tk), some (.ref fa), some (vs (txtW gl)), some (.ref sp), some (.int (j : Int)), v7, v8, some (.int ((0 : Int) + (i : Int))), some (vs (L0 ++ x))] ∧ Same H11 H', ?_, ?_⟩
        · rw [eQ]
          refine ⟨_, rfl, _, rfl, _, _, rfl, rfl, by rw [S_len, S_len, sizeLine_eq]; show _ + 2 ≤ _; omega, ?_⟩
          rw [SX.S_cat]
          refine ⟨_, rfl, _, rfl, _, rfl, sp, _, (j : Int), V.int (L0.length : Int), rfl, rfl, SqL.of (ksp7 g11), atI_nat (by rw [List.getElem?_map, leftlen]; rfl), _, rfl, S (txtW gl), rfl, by rw [S_len, sizeLine_eq]; omega, ?_⟩
          rw [cut_from dle, dpl]
          refine ⟨_, _, rfl, rfl, by rw [S_len, S_len, sizeLine_eq, List.length_append]; show _ + 2 + _ ≤ _; omega, ?_⟩
          rw [SX.S_cat]
          have et1 : L0 ++ x ++ [63, 32] ++ rightW gl j = L0 ++ x ++ (63 :: (32 :: rightW gl j)) := by simp
          rw [et1]
          refine ⟨_, rfl, by rw [List.length_append, List.length_cons, List.length_cons]; exact Nat.le_trans (by omega : _ ≤ 40000) (by decide), fun H12 s12 => ?_⟩
          rw [wo1]
          refine ⟨_, rfl, S (L0 ++ x), rfl, by rw [S_len, sizeLine_eq]; omega, rfl, _, rfl, ?_⟩
          refine if_false_of (by rw [S_len]; show (!decide (V.int _ = V.int _)) = false; rw [decide_eq_true rfl]; rfl) ?_
          rw [eR, eQ2]
          have g12 := g11.sm s12
          refine ⟨_, rfl, _, rfl, _, _, rfl, rfl, by rw [S_len, S_len, sizeLine_eq]; show _ + 7 ≤ _; omega, ?_⟩
          rw [SX.S_cat]
          refine ⟨_, rfl, _, rfl, _, rfl, sp, _, (j : Int), V.int (L0.length : Int), rfl, rfl, SqL.of (ksp7 g12), atI_nat (by rw [List.getElem?_map, leftlen]; rfl), _, rfl, S (txtW gl), rfl, by rw [S_len, sizeLine_eq]; omega, ?_⟩
          rw [cut_from dle, dpl]
          refine ⟨_, _, rfl, rfl, by rw [S_len, S_len, sizeLine_eq, List.length_append]; show _ + 7 + _ ≤ _; omega, ?_⟩
          rw [SX.S_cat]
          refine ⟨_, _, rfl, rfl, by rw [S_len, S_len, sizeLine_eq, List.length_append, List.length_append]; show _ + 7 + _ + 2 ≤ _; omega, ?_⟩
          rw [SX.S_cat]
          have et2 : L0 ++ x ++ [41,32,41,32,105,102,32] ++ rightW gl j ++ [32, 63] = L0 ++ x ++ ([41,32,41,32,105,102,32] ++ rightW gl j) ++ [32, 63] := by simp
          rw [et2]
          refine ⟨_, rfl, by rw [List.length_append (bs := [32, 63]), List.length_append (as := L0 ++ x), lr7]; exact Nat.le_trans (by show _ + (7 + _) + 2 ≤ 40000; omega : _ ≤ 40000) (by decide), fun H13 s13 => ?_⟩
          rw [wo2]
          have g13 := g12.sm s13
          refine ⟨_, rfl, S (L0 ++ x), rfl, by rw [S_len, sizeLine_eq]; omega, ?_⟩
          refine ⟨_, rfl, _, rfl, _, rfl, sp, _, (j : Int), V.int (L0.length : Int), rfl, rfl, SqL.of (ksp7 g13), atI_nat (by rw [List.getElem?_map, leftlen]; rfl), _, rfl, S (txtW gl), rfl, by rw [S_len, sizeLine_eq]; omega, ?_⟩
          rw [cut_from dle, dpl]
          refine ⟨_, _, rfl, rfl, by rw [S_len, S_len, sizeLine_eq]; show 7 + _ ≤ _; omega, ?_⟩
          rw [SX.S_cat]
          refine ⟨_, rfl, by rw [S_len, sizeLine_eq, List.length_append]; show 7 + _ ≤ _; omega, _, _, rfl, rfl, _, _, rfl, rfl, rfl, _, rfl, ?_⟩
          rw [S_len, S_len]
          have ev : plcV (Out.no ((L0 ++ x).length + ([41,32,41,32,105,102,32] ++ rightW gl j).length + 1)) = V.int ((((L0 ++ x).length : Nat) : Int) + (([41,32,41,32,105,102,32] ++ rightW gl j).length : Int) + 1) := congrArg V.int (by omega)
          refine if_false_of (by
            show (!decide (plcV (Out.no ((L0 ++ x).length + ([41,32,41,32,105,102,32] ++ rightW gl j).length + 1)) = V.int ((((L0 ++ x).length : Nat) : Int) + (([41,32,41,32,105,102,32] ++ rightW gl j).length : Int) + 1))) = false
            rw [decide_eq_true ev]
            rfl) ?_
          exact ⟨rfl, s12.trans s13⟩
        rintro σ' H12 ⟨rfl, s12⟩
        have g12 := g11.sm s12
        refine ⟨_, rfl, _, rfl, fa, _, rfl, .inl (SqL.of (kfa g12)), rfl, flat_nats fs, _, rfl, ?_⟩
        by_cases cf : j ∈ fs
        · refine if_false_of (by rw [inV_nats, decide_eq_true cf]; rfl) ?_
          refine if_false_of rfl ?_
          exact ⟨_, _, _, _, _, rfl, g12⟩
        · refine if_true_of (by rw [inV_nats, decide_eq_false cf]; rfl) ?_
          have hw : ws[j]? = some (gl.getD j ([], [])).2 := by rw [← e, List.getElem?_map, List.getD_eq_getElem?_getD, List.getElem?_eq_getElem jg]; rfl
          refine ⟨_, rfl, _, rfl, tk, _, (j : Int), vs (gl.getD j ([], [])).2, rfl, rfl, SqL.of (ktk g12), atI_nat (by rw [List.getElem?_map, hw]; rfl), rfl, _, rfl, ?_⟩
          rw [eIf2]
          by_cases ci : (gl.getD j ([], [])).2 = wIf
          · refine if_false_of (by rw [ci]; simp) ?_
            refine if_false_of rfl ?_
            exact ⟨_, _, _, _, _, rfl, g12⟩
          · refine if_true_of (by rw [decide_eq_false (fun z => ci (SX.S_inj (V.str.inj z)))]; rfl) ?_
            have wi := w_iff R RD W e PU cf (by rw [hw]; exact fun z => ci (Option.some.inj z))
            rw [eLW] at wi
            rw [eIf]
            refine ⟨_, rfl, _, rfl, _, _, rfl, rfl, by rw [S_len, S_len, sizeLine_eq]; show _ + 3 ≤ _; omega, ?_⟩
            rw [SX.S_cat]
            refine ⟨_, rfl, _, rfl, _, rfl, sp, _, (j : Int), V.int (L0.length : Int), rfl, rfl, SqL.of (ksp7 g12), atI_nat (by rw [List.getElem?_map, leftlen]; rfl), _, rfl, S (txtW gl), rfl, by rw [S_len, sizeLine_eq]; omega, ?_⟩
            rw [cut_from dle, dpl]
            refine ⟨_, _, rfl, rfl, by rw [S_len, S_len, sizeLine_eq, List.length_append]; show _ + 3 + _ ≤ _; omega, ?_⟩
            rw [SX.S_cat, List.append_assoc (L0 ++ x)]
            refine ⟨_, rfl, by rw [List.length_append (as := L0 ++ x), lr3]; exact Nat.le_trans (by omega : _ ≤ 40000) (by decide), fun H13 s13 => ?_⟩
            rw [wi]
            refine ⟨_, rfl, S (L0 ++ x), rfl, by rw [S_len, sizeLine_eq]; omega, rfl, _, rfl, ?_⟩
            refine if_false_of (by rw [S_len]; show (!decide (V.int _ = V.int _)) = false; rw [decide_eq_true rfl]; rfl) ?_
            exact ⟨_, _, _, _, _, rfl, g12.sm s13⟩
      · rintro σ H9 ⟨v6, v7, v8, v9, v10, rfl, g9⟩
        have eC : Str.ofString " )" = S [32, 41] := by decide +kernel
        refine ⟨_, rfl, _, rfl, _, _, rfl, rfl, (by rw [S_len, eC, S_len, sizeLine_eq]; show _ + 2 ≤ _; omega), ?_⟩
        rw [eC, SX.S_cat]
        refine ⟨txtW gl ++ [32, 41], rfl, by rw [List.length_append]; exact Nat.le_trans (Nat.add_le_add_right T1 2) (by decide), fun H10 s10 => ?_⟩
        rw [w_close R RD W e]
        refine ⟨_, rfl, S (txtW gl), rfl, by rw [S_len, sizeLine_eq]; omega, _, _, rfl, rfl, rfl, ?_⟩
        rw [S_len]
        have ev : decide (plcV (Out.no ((txtW gl).length + 1)) = V.int (((txtW gl).length : Int) + 1)) = true := decide_eq_true (congrArg V.int (by omega))
        show Q (.bl (decide (plcV (Out.no ((txtW gl).length + 1)) = V.int (((txtW gl).length : Int) + 1)))) H10
        rw [ev]
        exact q _ ((g7.comp g9).sm s10)
end
end K9
set_option Elab.async false
set_option linter.all false
set_option maxRecDepth 100000
namespace K9
open PySem L2 PyProof.Rows
abbrev sLaw78 : Stmt := top 39
abbrev NLW : List Str := ["script", "state", "turn", "items", "tokens", "firsts", "item", "rule", "text", "k"]
def spLaw (K : PySem.W.Frag) : Sp := fun us H Q _ => ∃ (a : Addr) (ns : List Int), us = [.ref a] ∧ SqL K H a (ns.map V.int) ∧ ns.length ≤ 63 ∧ ∀ H', Q (.bl true) H'
def tBase41 : List Nat := [98,97,115,101,32] ++ List.replicate 41 97 ++ [40,41]
theorem parse_nil : plcV (parseL []) = .non := by
  have z : (parseF []).at? = none := by decide +kernel
  obtain ⟨d, e⟩ := Out.at_none z
  rw [parseF_eq, e]
  rfl
theorem rule_nil : ruleL [] = .no 0 := by
  have z : (ruleF []).at? = some 0 := by decide +kernel
  rw [ruleF_eq]
  exact Out.at_some z
theorem parse_41 : parseL tBase41 = .no 5 := by
  have z : (parseF tBase41).at? = some 5 := by decide +kernel
  rw [parseF_eq]
  exact Out.at_some z
theorem starts_snoc (L : List (List Wrd)) (I : List Wrd) : starts (L ++ [I]) = starts L ++ [L.flatten.length] := by
  unfold starts
  rw [List.length_append, List.length_singleton, List.range_succ, List.map_append]
  congr 1
  · refine List.map_congr_left fun k hk => ?_
    have lk := List.mem_range.mp hk
    rw [List.take_append_of_le_length (by omega)]
  · show [((L ++ [I]).take L.length).flatten.length] = _
    rw [List.take_left]
theorem starts_len (L : List (List Wrd)) : (starts L).length = L.length := by
  unfold starts
  rw [List.length_map, List.length_range]
theorem flat_w : ∀ L : List (List Wrd), (∀ I ∈ L, ItemW I) → AllW L.flatten ∧ L.flatten.length ≤ 80 * L.length
  | [], _ => ⟨allw_nil, Nat.le_refl _⟩
  | I :: r, h => by
    obtain ⟨h1, h2⟩ := item_w (h I (List.mem_cons_self ..))
    obtain ⟨k1, k2⟩ := flat_w r (fun J hJ => h J (List.mem_cons_of_mem _ hJ))
    rw [List.flatten_cons]
    refine ⟨allw_app h1 k1, ?_⟩
    rw [List.length_append, List.length_cons]
    omega
theorem tp4 {H : Hp} {v : V} {a b c d : PyData} (h : Tp H v (dT [a, b, c, d])) : ∃ (p : Addr) (x0 x1 x2 x3 : V), v = .ref p ∧ H p = some (.tup [x0, x1, x2, x3]) ∧ Tp H x2 c := by
  unfold dT at h
  cases h with
  | tup e r =>
    cases r with
    | cons r0 r =>
      cases r with
      | cons r1 r =>
        cases r with
        | cons r2 r =>
          cases r with
          | cons r3 r =>
            cases r with
            | nil => exact ⟨_, _, _, _, _, rfl, e, r2⟩
section
variable {P : Program} {w : World} {K : PySem.W.Frag} {mg : Str → Option Value} {base : Heap} {C CR fI : Addr}
theorem scLaw : FnScope NLW ["script"] (defScope sLaw78) := ⟨rfl, rfl, rfl, by decide +kernel, rfl, by decide +kernel, by decide +kernel⟩
theorem ok_law {f fParse fRule fN fW fP fS fIt fU fR : Addr} {fd dParse dRule fdN fdW fdP fdS fdI fdU fdR : FuncData} (F : Fun K "law" "law" sLaw78 f fd) (T : Txt P K mg CR fI) (TL : LTxt mg)
    (DPa : Dd K mg "parse" sParse ["text"] fParse dParse) (GPa : FnOk P w K mg base (L2.CX P w) 74 fParse dParse ["text"] (spRd CR parseL)) (DPr : Dd K mg "parse_rule" sRuleF ["text"] fRule dRule) (GPr : FnOk P w K mg base (L2.CX P w) 74 fRule dRule ["text"] (spRd CR ruleL))
    (DN : Dd K mg "_law_next" sNext ["state", "limit"] fN fdN) (GN : FnOk P w K mg base CX0 1 fN fdN ["state", "limit"] spNext) (DW : Dd K mg "_law_written" sWritten ["state", "tokens"] fW fdW) (GW : FnOk P w K mg base CX0 2 fW fdW ["state", "tokens"] spWritten)
    (DP : Dd K mg "_law_place" sPlace ["read", "text"] fP fdP) (GPP : FnOk P w K mg base CX0 75 fP fdP ["read", "text"] (spPlc fParse parseL)) (GPR : FnOk P w K mg base CX0 75 fP fdP ["read", "text"] (spPlc fRule ruleL))
    (DS : Dd K mg "_law_same" sSame ["actual", "expected"] fS fdS) (GS : FnOk P w K mg base CX0 19 fS fdS ["actual", "expected"] (spSameD 18)) (DI : Dd K mg "_law_item_tokens" sItemT ["state"] fIt fdI) (GI : FnOk P w K mg base CX0 8 fIt fdI ["state"] (spWs ItemW))
    (DU : Dd K mg "_law_rule_tokens" sRuleT ["state"] fU fdU) (GU : FnOk P w K mg base CX0 7 fU fdU ["state"] (spWs RuleW)) (DR : Dd K mg "_law_right" sRight ["state", "read", "tokens", "firsts"] fR fdR) (GRP : FnOk P w K mg base CX0 76 fR fdR ["state", "read", "tokens", "firsts"] (spRight fParse PT)) (GRR : FnOk P w K mg base CX0 76 fR fdR ["state", "read", "tokens", "firsts"] (spRight fRule RT)) :
    FnOk P w K mg base CX0 77 f fd ["script"] (spLaw K) := by
  refine F.ok scLaw (fun us H Q E h => ?_) (fun cdv A outer s H us Q E hr h => ?_)
  · obtain ⟨a, ns, rfl, _⟩ := h
    rfl
  · obtain ⟨a0, ns, rfl, hS, hn, q⟩ := h
    have hrR : Room 76 _ := hr
    have hrP : Room 75 _ := hr.mono (by decide)
    have hrG : Room 74 _ := hr.mono (by decide)
    have hrS : Room 19 _ := hr.mono (by decide)
    have hrI : Room 8 _ := hr.mono (by decide)
    have hrU : Room 7 _ := hr.mono (by decide)
    have hr2 : Room 2 _ := hr.mono (by decide)
    have hr1 : Room 1 _ := hr.mono (by decide)
    refine ⟨_, (pss_cons (ps_set (i := 1) scLaw.nd rfl (Or.inr rfl) (pe_lst (pa_cons (pe_callTy call_list_of (by rfl) T.list boot_list (pa_cons (pv 0) pa_nil)) (pa_cons pe_int (pa_cons pe_int (pa_cons pe_int pa_nil))))))
      (pss_cons (ps_for PassesOwn.never rfl (pi_range1 (by rfl) TL.range (pa_cons pe_int pa_nil)) (pg_name (i := 2) scLaw.nd rfl (Or.inl rfl)) (pss_cons (ps_setLc (i := 3) (own := [("k", 9)]) (g := (gName 9)) (tt := tYes) rfl scLaw.nd rfl rfl (sw_true rfl rfl rfl (by decide +kernel)) (pi_range1 (by rfl) TL.range (pa_cons (pe_op op_add pe_int (pe_call GN hr1 rfl DN.g DN.k DN.b .nil pass0 (pa_cons (pv 1) (pa_cons pe_int pa_nil)))) pa_nil)) (blkOk_by (own := [("k", 9)]) (N := NLW) (sc := defScope sLaw78) (by decide +kernel)) (fun _ _ _ _ _ => (pg_name (i := 9) scLaw.nd rfl (Or.inl rfl))) (fun _ _ _ _ _ => pts_nil) (fun _ _ _ _ _ => (pe_call GI hrI rfl DI.g DI.k DI.b .nil pass0 (pa_cons (pv 1) pa_nil))))
      (pss_cons (ps_set (i := 4) scLaw.nd rfl (Or.inl rfl) (pe_lst pa_nil))
      (pss_cons (ps_set (i := 5) scLaw.nd rfl (Or.inl rfl) (pe_lst pa_nil))
      (pss_cons (ps_for PassesOwn.never rfl (pi_list (pv 3)) (pg_name (i := 6) scLaw.nd rfl (Or.inl rfl)) (pss_cons (ps_expr (pe_bm PySem.F.plainAttrs_list PySem.F.slot_list_append PySem.F.type_list_append mt_append (pv 5) (pa_cons (pe_callB call_len_seq (by rfl) T.len PySem.boot_len (pa_cons (pv 4) pa_nil)) pa_nil)))
      (pss_one (ps_set (i := 4) scLaw.nd rfl (Or.inl rfl) (pe_op op_cat (pv 4) (pv 6))))))
      (pss_cons (ps_if (pt_not (pt_val (pe_call GRP hrR rfl DR.g DR.k DR.b .nil pass0 (pa_cons (pv 1) (pa_cons (pe_glob (v := .ref fParse) (by rfl) DPa.g rfl) (pa_cons (pv 4) (pa_cons (pv 5) pa_nil))))))) (pss_one (ps_ret pe_bl)) pss_nil)
      (pss_cons (ps_set (i := 7) scLaw.nd rfl (Or.inl rfl) (pe_call GU hrU rfl DU.g DU.k DU.b .nil pass0 (pa_cons (pv 1) pa_nil)))
      (pss_cons (ps_if (pt_not (pt_val (pe_call GRR hrR rfl DR.g DR.k DR.b .nil pass0 (pa_cons (pv 1) (pa_cons (pe_glob (v := .ref fRule) (by rfl) DPr.g rfl) (pa_cons (pv 7) (pa_cons (pe_lst (pa_cons pe_int pa_nil)) pa_nil))))))) (pss_one (ps_ret pe_bl)) pss_nil)
      (pss_cons (ps_set (i := 8) scLaw.nd rfl (Or.inl rfl) (pe_ix ix_tup (pe_call GW hr2 rfl DW.g DW.k DW.b .nil pass0 (pa_cons (pv 1) (pa_cons (pv 7) pa_nil))) pe_int (fun _ _ => rfl)))
      (pss_one (ps_if (PW.pt (pw_or (pt_not (pt_val (pe_call GS hrS rfl DS.g DS.k DS.b .nil pass0 (pa_cons (pe_ix ix_tup (pe_call GPa hrG rfl DPa.g DPa.k DPa.b .nil (passes_call takes0 (fun _ _ _ _ h => h)) (pa_cons (pv 8) pa_nil)) pe_int (fun _ _ => rfl)) (pa_cons (pe_tup (pa_cons (pe_call GPr hrG rfl DPr.g DPr.k DPr.b .nil (passes_call takes0 (fun _ _ _ _ h => h)) (pa_cons (pv 8) pa_nil)) pa_nil)) pa_nil))))) (pw_or1 (pt_cmpR op_ne (pe_call GPR hrP rfl DP.g DP.k DP.b .nil pass0 (pa_cons (pe_glob (v := .ref fRule) (by rfl) DPr.g rfl) (pa_cons (pe_op op_add_str (pv 8) pe_str) pa_nil))) (pe_op op_add (pe_callB call_len_str (by rfl) T.len PySem.boot_len (pa_cons (pv 8) pa_nil)) pe_int) (nomark _))))) (pss_one (ps_ret pe_bl)) pss_nil)))))))))))
      (pss_one (ps_ret (pe_and (pe_cmpR op_isN (pe_call GPP hrP rfl DP.g DP.k DP.b .nil pass0 (pa_cons (pe_glob (v := .ref fParse) (by rfl) DPa.g rfl) (pa_cons pe_str pa_nil))) pe_non (nomark _)) (pe_and (pe_cmpR op_eq (pe_call GPR hrP rfl DP.g DP.k DP.b .nil pass0 (pa_cons (pe_glob (v := .ref fRule) (by rfl) DPr.g rfl) (pa_cons pe_str pa_nil))) pe_int (nomark _)) (pe_one (pe_cmpR op_eq (pe_call GPP hrP rfl DP.g DP.k DP.b .nil pass0 (pa_cons (pe_glob (v := .ref fParse) (by rfl) DPa.g rfl) (pa_cons (pe_op op_add_str (pe_op op_add_str pe_str (pe_op (op_mul_one 97) pe_str pe_int)) pe_str) pa_nil))) pe_int (nomark _))))))))), ?_⟩
    refine ⟨_, rfl, a0, _, rfl, .inl hS, fun sc hsc => ?_⟩
    refine ⟨(by show 4 ≤ sizeLine; decide), fun a ha => ?_⟩
    have nsa : sc ≠ a := ne_of_none (upd_same (H := H) (o := .lst (ns.map V.int))) ha
    have st0 : StAt (upd (upd H sc (.lst (ns.map V.int))) a (.lst [.ref sc, .int 0, .int 0, .int 1])) a sc ns :=
      ⟨0, 0, 1, upd_same, by rw [upd_ne nsa, upd_same], hn, Nat.zero_le _, by decide⟩
    generalize upd (upd H sc (.lst (ns.map V.int))) a (.lst [.ref sc, .int 0, .int 0, .int 1]) = H0 at st0
    refine ⟨3, rfl, by decide, by decide, for_range (n := 3) (fun i σ H' => ∃ v2 v3 v4 v5 v6 v7 v8 : Option V, σ = [some (.ref a0), some (.ref a), v2, v3, v4, v5, v6, v7, v8, none] ∧ Going a sc ns H0 H')
      ⟨none, none, none, none, none, none, none, rfl, .start st0⟩ ?_ ?_⟩
    · rintro i σ H1 hi ⟨v2, v3, v4, v5, v6, v7, v8, rfl, g1⟩
      refine ⟨_, rfl, a, sc, ns, 4, rfl, g1.st, by decide, by decide, fun mc Hc hmc hSc hBc => ?_⟩
      have gc := g1.next hSc hBc
      refine ⟨_, _, rfl, rfl, ?_⟩
      refine ⟨1 + (mc : Int), rfl, by omega, by omega, fun tA htA => ?_⟩
      have ntA := gc.st.nota htA
      refine lc_range (lo := 0) (n := (1 + (mc : Int)).toNat) (fun i H' => ∃ (rs : List V) (parts : List (List Wrd)), parts.length = i ∧ Going a sc ns Hc H' ∧ H' tA = some (.lst rs) ∧ LLn a tA H' rs parts ∧ ∀ P ∈ parts, ItemW P) ⟨[], [], rfl, (Going.start gc.st).new htA, upd_same, .nil, fun P hP => by cases hP⟩ ?_ ?_
      · rintro j H' hj ⟨rs, parts, hlp, gj, hA, hL, hp⟩
        refine ⟨rfl, ?_⟩
        unfold tYes
        dsimp only
        rw [if_pos rfl]
        have lr := Paired.length hL
        refine ⟨_, rfl, a, sc, ns, rfl, gj.st, fun H6 p ws hw g6' fp kp => ?_⟩
        have g6 := gj.comp g6'
        refine ⟨rs, g6'.keep ntA.1 hA, by rw [sizeLine_eq]; omega, rs ++ [.ref p], parts ++ [ws], by rw [List.length_append, hlp]; rfl, g6.put htA ntA.1 ntA.2, upd_same, ?_, ?_⟩
        · have npt : p ≠ tA := fun z => by subst z; rw [fp] at hA; cases hA
          have npa := (gj.st.nota fp).1
          exact Paired.snoc ⟨p, rfl, npa, npt, by rw [upd_ne npt]; exact kp⟩ (Paired.imp (fun _ _ ⟨q, e, n1, n2, k⟩ => ⟨q, e, n1, n2, by rw [upd_ne n2]; exact g6'.keep n1 k⟩) hL)
        · intro P hP
          rcases List.mem_append.mp hP with hP | hP
          · exact hp P hP
          · rw [List.mem_singleton.mp hP]
            exact hw
      rintro Ht ⟨rs, parts, hlp, gt', hA, hLn, hp⟩
      have gt := gc.comp gt'
      have lp : parts.length = mc + 1 := by omega
      have lr := Paired.length hLn
      refine ⟨Nat.zero_le _, fun l1 h1 => ?_⟩
      have s1 := (Going.start gt.st).new (o := .lst []) h1
      have n1 := (gt.st.nota h1).1
      have k1 : upd Ht l1 (.lst []) l1 = some (.lst []) := upd_same
      generalize upd Ht l1 (.lst []) = Ha at s1 k1
      refine ⟨Nat.zero_le _, fun fr hfr => ?_⟩
      have nfr := s1.st.nota hfr
      have ffr := s1.free hfr
      have s2 := s1.new (o := .lst []) hfr
      have n1f : l1 ≠ fr := ne_of_none k1 hfr
      have k1 := new_keep (o' := .lst []) k1 hfr
      have kf : upd Ha fr (.lst []) fr = some (.lst []) := upd_same
      generalize upd Ha fr (.lst []) = Hb at s2 k1 kf
      refine ⟨_, rfl, tA, rfl, ⟨_, SqL.of (s2.keep ntA.1 hA)⟩, ?_⟩
      refine for_list (K := K) (a := tA) (xs := rs) (fun j σ H' => ∃ (tk : Addr) (v6 : Option V), σ = [some (.ref a0), some (.ref a), some (.int ((0 : Int) + (i : Int))), some (.ref tA), some (.ref tk), some (.ref fr), v6, v7, v8, none] ∧ Going a sc ns Ht H' ∧ tk ≠ a ∧ tk ≠ fr ∧ H' tk = some (.lst ((parts.take j).flatten.map vs)) ∧ H' fr = some (.lst ((starts (parts.take j)).map fun k : Nat => V.int (k : Int))))
        ⟨l1, v6, rfl, s2, n1, n1f, k1, kf⟩ (fun j σ H' _ ⟨_, _, _, g, _⟩ => SqL.of (g.keep ntA.1 hA)) ?_ ?_
      · rintro j x σ H3 hx ⟨tk, v6, rfl, g3, ntk, ntf, ktk, kfr⟩
        obtain ⟨I, hI, q', rfl, nqa, nqt, kq⟩ := Paired.get1? hLn hx
        have nqf : q' ≠ fr := ne_of_none kq ffr
        have kq := g3.keep nqa kq
        have hj : j < parts.length := (List.getElem?_eq_some_iff.mp hI).1
        have tk1 : parts.take (j + 1) = parts.take j ++ [I] := by rw [List.take_succ, hI]; rfl
        have lt : (parts.take j).length = j := by rw [List.length_take]; omega
        have fl := (flat_w (parts.take j) (fun P hP => hp P (List.mem_of_mem_take hP))).2
        have li := (item_w (hp I (List.mem_of_getElem? hI))).2
        have ls := starts_len (parts.take j)
        refine ⟨_, rfl, .inl ⟨rfl, _, SqL.of kfr⟩, _, rfl, tk, _, rfl, .inl (SqL.of ktk), ?_⟩
        refine ⟨fr, _, _, rfl, rfl, kfr, (by rw [List.length_map, ls, sizeLine_eq]; omega), ?_⟩
        have g4 := g3.put (o := .lst (((starts (parts.take j)).map fun k : Nat => V.int (k : Int)) ++ [V.int (((parts.take j).flatten.map vs).length : Int)])) ffr nfr.1 nfr.2
        have kt4 : upd H3 fr (.lst (((starts (parts.take j)).map fun k : Nat => V.int (k : Int)) ++ [V.int (((parts.take j).flatten.map vs).length : Int)])) tk = _ := (upd_ne ntf).trans ktk
        have kq4 : upd H3 fr (.lst (((starts (parts.take j)).map fun k : Nat => V.int (k : Int)) ++ [V.int (((parts.take j).flatten.map vs).length : Int)])) q' = _ := (upd_ne nqf).trans kq
        have kf4 : upd H3 fr (.lst (((starts (parts.take j)).map fun k : Nat => V.int (k : Int)) ++ [V.int (((parts.take j).flatten.map vs).length : Int)])) fr = _ := upd_same
        generalize upd H3 fr (.lst (((starts (parts.take j)).map fun k : Nat => V.int (k : Int)) ++ [V.int (((parts.take j).flatten.map vs).length : Int)])) = H4 at g4 kt4 kq4 kf4
        refine ⟨_, rfl, _, rfl, tk, q', _, _, rfl, rfl, kt4, kq4, by rw [List.length_map, List.length_map, sizeLine_eq]; omega, fun f hf => ?_⟩
        have nf := (g4.st.nota hf).1
        have nff : f ≠ fr := fun z => by subst z; rw [kf4] at hf; cases hf
        refine ⟨f, _, rfl, g4.new hf, nf, nff, ?_, ?_⟩
        · rw [upd_same, tk1, List.flatten_append, List.map_append]
          simp
        · rw [new_keep kf4 hf, tk1, starts_snoc, List.map_append, List.length_map]
          rfl
      rintro σ H3 ⟨tk, v6, rfl, g3, ntk, ntf, ktk, kfr⟩
      rw [show rs.length = parts.length by omega, List.take_length] at ktk kfr
      obtain ⟨aw, fl⟩ := flat_w parts hp
      have ne : parts ≠ [] := fun z => by rw [z] at lp; cases lp
      have fpos : 0 < parts.flatten.length := by
        cases e : parts with
        | nil => exact absurd e ne
        | cons I r =>
          have := (flat_ge parts hp)
          rw [e] at this
          rw [List.length_cons] at this
          omega
      have RP := prog_reads hp ne (by omega) (by omega)
      refine ⟨_, rfl, _, rfl, _, rfl, a, sc, tk, fr, ns, _, _, rfl, g3.st, ktk, kfr, ntk, nfr.1, aw, fpos, by omega, RP, fun H4 g4' => ?_⟩
      refine ⟨_, rfl, ?_⟩
      refine if_false_of rfl ?_
      refine ⟨_, rfl, a, sc, ns, rfl, g4'.st, fun H5 pr wr hr' g5' fpr kpr => ?_⟩
      have npr := (g4'.st.nota fpr).1
      obtain ⟨awr, lwr⟩ := rule_w hr'
      obtain ⟨RR, more, d, hd, tree⟩ := rule_reads hr' (by omega)
      have wpos : 0 < wr.length := by cases hr' <;> exact Nat.succ_pos _
      refine ⟨_, rfl, _, rfl, Nat.le_of_ble_eq_true rfl, fun lz hz => ?_⟩
      have nz := (g5'.st.nota hz).1
      have g6 := g5'.new (o := .lst [.int 0]) hz
      have kpr := new_keep (o' := .lst [.int 0]) kpr hz
      have kz : upd H5 lz (.lst [.int 0]) lz = some (.lst [.int 0]) := upd_same
      generalize upd H5 lz (.lst [.int 0]) = H6 at g6 kpr kz
      refine ⟨a, sc, pr, lz, ns, wr, [0], rfl, g6.st, kpr, kz, npr, nz, awr, wpos, by omega, RR, fun H7 g7' => ?_⟩
      refine ⟨_, rfl, ?_⟩
      refine if_false_of rfl ?_
      have kpr := g7'.keep npr kpr
      refine ⟨_, rfl, _, rfl, a, sc, pr, ns, wr, rfl, g7'.st, kpr, npr, awr, by omega, fun H8 p8 sp8 gl W e f0 g8' kp8 ksp8 nsp8 => ?_⟩
      refine ⟨p8, _, 0, _, rfl, rfl, SqT.of kp8, rfl, ?_⟩
      have z := hs_pos (gl := gl) (n := (txtW gl).length) []
      rw [List.append_nil, e] at z
      have zl : (Ps.mk (pos4 0 (mkL gl)) (txtW gl).length).ts.length = wr.length := by
        show (pos4 0 (mkL gl)).length = _
        rw [pos4_len, mkL_len, ← e, List.length_map]
      have TP : parseL (txtW gl) = .tree (dT [dS wProgram, dT [], dT [d], dT []]) := (rd_row reader_parse W.row).trans (tree _ z zl).2
      have TR : ruleL (txtW gl) = .tree d := (rd_row reader_rule W.row).trans (tree _ z zl).1
      have tl := txtW_len gl W.wd
      have ll := congrArg List.length e
      rw [List.length_map] at ll
      have TL1 : (txtW gl).length ≤ LINE := Nat.le_trans (by omega : (txtW gl).length ≤ 16800) (by decide)
      refine ⟨_, rfl, txtW gl, rfl, TL1, fun j hj => (by rw [TP] at hj; cases hj), fun d1 hd1 H9 u1 s9 r1 => ?_⟩
      rw [TP] at hd1
      cases hd1
      obtain ⟨q1, x0, x1, x2, x3, rfl, kq1, r2⟩ := tp4 r1
      refine ⟨q1, _, 2, x2, rfl, rfl, SqT.of kq1, rfl, ?_⟩
      refine ⟨_, rfl, txtW gl, rfl, TL1, fun j hj => (by rw [TR] at hj; cases hj), fun d2 hd2 H10 u2 s10 r3 => ?_⟩
      rw [TR] at hd2
      cases hd2
      refine ⟨Nat.le_of_ble_eq_true rfl, fun pt hpt => ?_⟩
      have r4 : Tp (upd H10 pt (.tup [u2])) (.ref pt) (dT [d]) := Tp.mk hpt (.cons (r3.new hpt) .nil)
      have r2 := (r2.same s10).new (o := .tup [u2]) hpt
      have g11 := ((g8'.sm s9).sm s10).new (o := .tup [u2]) hpt
      generalize upd H10 pt (.tup [u2]) = H11 at r4 r2 g11
      have wd : Wd 18 (dT [d]) := (wd_tup (n := 16) (Nat.le_of_ble_eq_true rfl) (fun x hx => by rw [List.mem_singleton.mp hx]; exact hd)).le (by decide)
      refine ⟨x2, .ref pt, dT [d], rfl, r2, r4, wd, ?_⟩
      refine ⟨_, rfl, ?_⟩
      refine if_false_of rfl ?_
      have eM : Str.ofString " rule k0()" = S [32,114,117,108,101,32,107,48,40,41] := by decide +kernel
      rw [eM]
      refine ⟨_, rfl, _, _, rfl, rfl, (by rw [S_len, S_len, sizeLine_eq]; show _ + 10 ≤ _; omega), ?_⟩
      rw [SX.S_cat]
      have tl2 : (txtW gl ++ [32,114,117,108,101,32,107,48,40,41]).length = (txtW gl).length + 10 := by rw [List.length_append]; rfl
      refine ⟨_, rfl, (by rw [tl2]; exact Nat.le_trans (by omega : _ ≤ 16900) (by decide)), fun H12 s12 => ?_⟩
      rw [w_more reader_rule more W e]
      refine ⟨_, rfl, S (txtW gl), rfl, (by rw [S_len, sizeLine_eq]; omega), _, _, rfl, rfl, rfl, _, rfl, ?_⟩
      rw [S_len]
      have ev : decide (plcV (Out.no ((txtW gl).length + 1)) = V.int (((txtW gl).length : Int) + 1)) = true := decide_eq_true (congrArg V.int (by omega))
      refine if_false_of (by
        show (!decide (plcV (Out.no ((txtW gl).length + 1)) = V.int (((txtW gl).length : Int) + 1))) = false
        rw [ev]
        rfl) ?_
      exact ⟨_, _, _, _, _, _, _, rfl, ((((gt.comp g3).comp g4').comp g6).comp g7').comp (g11.sm s12)⟩
    · rintro σ H1 ⟨v2, v3, v4, v5, v6, v7, v8, rfl, g1⟩
      have eE : V.str (Str.ofString "") = vs [] := congrArg V.str (by decide +kernel)
      have eA : V.str (Str.ofString "a") = vs [97] := congrArg V.str (by decide +kernel)
      have eB : Str.ofString "base " = S [98,97,115,101,32] := by decide +kernel
      have eP : Str.ofString "()" = S [40,41] := by decide +kernel
      rw [eE]
      refine ⟨[], rfl, by decide, fun H2 s2 => ?_⟩
      rw [parse_nil]
      refine ⟨rfl, _, rfl, ?_⟩
      refine if_true_of rfl ?_
      refine ⟨[], rfl, by decide, fun H3 s3 => ?_⟩
      rw [rule_nil]
      refine ⟨rfl, _, rfl, ?_⟩
      refine if_true_of (decide_eq_true rfl) ?_
      refine ⟨41, eA, rfl, by decide, _, _, rfl, rfl, by rw [S_len, eB, S_len, sizeLine_eq, List.length_replicate]; decide, ?_⟩
      rw [eB, SX.S_cat]
      refine ⟨_, _, rfl, rfl, by rw [S_len, eP, S_len, sizeLine_eq, List.length_append, List.length_replicate]; decide, ?_⟩
      rw [eP, SX.S_cat]
      refine ⟨tBase41, rfl, by decide, fun H4 s4 => ?_⟩
      rw [parse_41]
      refine ⟨rfl, ?_⟩
      have ev : decide (plcV (Out.no 5) = V.int 5) = true := decide_eq_true rfl
      show Q (.bl (decide (plcV (Out.no 5) = V.int 5))) H4
      rw [ev]
      exact q _
end
end K9
set_option Elab.async false
set_option linter.all false
set_option maxRecDepth 100000
set_option maxHeartbeats 2000000
namespace K9
open PySem L2 PyProof.Rows
def strsB : List Value → List (List Nat) → Bool
  | [], [] => true
  | .str x _ :: r, l :: m => decide (x = S l) && strsB r m
  | _, _ => false
theorem strsB_ok : ∀ {us : List Value} {ls : List (List Nat)}, strsB us ls = true → Vals (ls.map vs) us
  | [], [], _ => .nil
  | .str x t :: r, l :: m, h => by
    obtain ⟨h1, h2⟩ := Bool.and_eq_true_iff.mp h
    obtain rfl := of_decide_eq_true h1
    exact .cons ⟨t, rfl⟩ (strsB_ok h2)
theorem gt_mk {K : PySem.W.Frag} {mg : Str → Option Value} {x : Str} {a : Addr} {d : Option Addr} {its : Array Value} {n : Nat} {sl : Array (Option Value)} {ls : List (List Nat)} (g : mg x = some (.ref a)) (l : K.lookup a = some ⟨.type "tuple", d, .seq its n, sl⟩) (v : strsB its.toList ls = true)
    (hl : ls.length ≤ 1000) : GT K mg x (ls.map vs) := by
  have V := strsB_ok v
  have e := Paired.length V
  rw [List.length_map] at e
  refine ⟨a, g, fun H => .inr ⟨_, its, n, l, rfl, rfl, ?_, V⟩⟩
  have : its.size = its.toList.length := by simp
  rw [sizeLine_eq]
  omega
theorem all_mk {l : PySem.W.OpenLaw} {w : World} {K : PySem.W.Frag} {h : Heap} {mg : Str → Option Value} {fa : Addr} {CR cA fI cda cc aK aG : Addr}
    {nm q : Str} {N : Addr} {bs : List Value} {sn : List Str} {sub : List Value} {ab : Bool} {col : Option Bool} {dd : Option Addr} {m0 m1 m2 m3 m5 : Option Value}
    {oc0 ccl ctl dc0 pm0 ct0 : Value} {od0 cdd ctd an0 dK dG : Option Addr} {sl0 ccs cts slK slG : Array (Option Value)} {vsC itsK itsG : Array Value} {nK nG : Nat} {file : Str} {tf : PySem.Tok}
    {xLat xLet xDig : Str} {t1 t2 t3 : PySem.Tok}
    {ti0 : PySem.Tok}
    {ti1 : PySem.Tok}
    {ti2 : PySem.Tok}
    {ti3 : PySem.Tok}
    {ti4 : PySem.Tok}
    {ti5 : PySem.Tok}
    {ti6 : PySem.Tok}
    {ti7 : PySem.Tok}
    {C : Addr}
    {f1 : Addr} {od1 an1 : Option Addr} {sl1 : Array (Option Value)} {oc1 kV1 dc1 pm1 cd1 ct1 : Value}
    {f2 : Addr} {od2 an2 : Option Addr} {sl2 : Array (Option Value)} {oc2 kV2 dc2 pm2 cd2 ct2 : Value}
    {f3 : Addr} {od3 an3 : Option Addr} {sl3 : Array (Option Value)} {oc3 kV3 dc3 pm3 cd3 ct3 : Value}
    {f4 : Addr} {od4 an4 : Option Addr} {sl4 : Array (Option Value)} {oc4 kV4 dc4 pm4 cd4 ct4 : Value}
    {f5 : Addr} {od5 an5 : Option Addr} {sl5 : Array (Option Value)} {oc5 kV5 dc5 pm5 cd5 ct5 : Value}
    {f6 : Addr} {od6 an6 : Option Addr} {sl6 : Array (Option Value)} {oc6 kV6 dc6 pm6 cd6 ct6 : Value}
    {f7 : Addr} {od7 an7 : Option Addr} {sl7 : Array (Option Value)} {oc7 kV7 dc7 pm7 cd7 ct7 : Value}
    {f8 : Addr} {od8 an8 : Option Addr} {sl8 : Array (Option Value)} {oc8 kV8 dc8 pm8 cd8 ct8 : Value}
    {f9 : Addr} {od9 an9 : Option Addr} {sl9 : Array (Option Value)} {oc9 kV9 dc9 pm9 cd9 ct9 : Value}
    {f10 : Addr} {od10 an10 : Option Addr} {sl10 : Array (Option Value)} {oc10 kV10 dc10 pm10 cd10 ct10 : Value}
    {f11 : Addr} {od11 an11 : Option Addr} {sl11 : Array (Option Value)} {oc11 kV11 dc11 pm11 cd11 ct11 : Value}
    {f12 : Addr} {od12 an12 : Option Addr} {sl12 : Array (Option Value)} {oc12 kV12 dc12 pm12 cd12 ct12 : Value}
    {f13 : Addr} {od13 an13 : Option Addr} {sl13 : Array (Option Value)} {oc13 kV13 dc13 pm13 cd13 ct13 : Value}
    {f14 : Addr} {od14 an14 : Option Addr} {sl14 : Array (Option Value)} {oc14 kV14 dc14 pm14 cd14 ct14 : Value}
    {f15 : Addr} {od15 an15 : Option Addr} {sl15 : Array (Option Value)} {oc15 kV15 dc15 pm15 cd15 ct15 : Value}
    {f16 : Addr} {od16 an16 : Option Addr} {sl16 : Array (Option Value)} {oc16 kV16 dc16 pm16 cd16 ct16 : Value}
    {f17 : Addr} {od17 an17 : Option Addr} {sl17 : Array (Option Value)} {oc17 kV17 dc17 pm17 cd17 ct17 : Value}
    {f18 : Addr} {od18 an18 : Option Addr} {sl18 : Array (Option Value)} {oc18 kV18 dc18 pm18 cd18 ct18 : Value}
    {f19 : Addr} {od19 an19 : Option Addr} {sl19 : Array (Option Value)} {oc19 kV19 dc19 pm19 cd19 ct19 : Value}
    {f20 : Addr} {od20 an20 : Option Addr} {sl20 : Array (Option Value)} {oc20 kV20 dc20 pm20 cd20 ct20 : Value}
    {f21 : Addr} {od21 an21 : Option Addr} {sl21 : Array (Option Value)} {oc21 kV21 dc21 pm21 cd21 ct21 : Value}
    {f22 : Addr} {od22 an22 : Option Addr} {sl22 : Array (Option Value)} {oc22 kV22 dc22 pm22 cd22 ct22 : Value}
    {f23 : Addr} {od23 an23 : Option Addr} {sl23 : Array (Option Value)} {oc23 kV23 dc23 pm23 cd23 ct23 : Value}
    {f24 : Addr} {od24 an24 : Option Addr} {sl24 : Array (Option Value)} {oc24 kV24 dc24 pm24 cd24 ct24 : Value}
    {f25 : Addr} {od25 an25 : Option Addr} {sl25 : Array (Option Value)} {oc25 kV25 dc25 pm25 cd25 ct25 : Value}
    {f26 : Addr} {od26 an26 : Option Addr} {sl26 : Array (Option Value)} {oc26 kV26 dc26 pm26 cd26 ct26 : Value}
    {f27 : Addr} {od27 an27 : Option Addr} {sl27 : Array (Option Value)} {oc27 kV27 dc27 pm27 cd27 ct27 : Value}
    {f28 : Addr} {od28 an28 : Option Addr} {sl28 : Array (Option Value)} {oc28 kV28 dc28 pm28 cd28 ct28 : Value}
    {f29 : Addr} {od29 an29 : Option Addr} {sl29 : Array (Option Value)} {oc29 kV29 dc29 pm29 cd29 ct29 : Value}
    {f30 : Addr} {od30 an30 : Option Addr} {sl30 : Array (Option Value)} {oc30 kV30 dc30 pm30 cd30 ct30 : Value}
    {f31 : Addr} {od31 an31 : Option Addr} {sl31 : Array (Option Value)} {oc31 kV31 dc31 pm31 cd31 ct31 : Value}
    {f32 : Addr} {od32 an32 : Option Addr} {sl32 : Array (Option Value)} {oc32 kV32 dc32 pm32 cd32 ct32 : Value}
    {f33 : Addr} {od33 an33 : Option Addr} {sl33 : Array (Option Value)} {oc33 kV33 dc33 pm33 cd33 ct33 : Value}
    {f34 : Addr} {od34 an34 : Option Addr} {sl34 : Array (Option Value)} {oc34 kV34 dc34 pm34 cd34 ct34 : Value}
    {f35 : Addr} {od35 an35 : Option Addr} {sl35 : Array (Option Value)} {oc35 kV35 dc35 pm35 cd35 ct35 : Value}
    {f36 : Addr} {od36 an36 : Option Addr} {sl36 : Array (Option Value)} {oc36 kV36 dc36 pm36 cd36 ct36 : Value}
    {f37 : Addr} {od37 an37 : Option Addr} {sl37 : Array (Option Value)} {oc37 kV37 dc37 pm37 cd37 ct37 : Value}
    {f38 : Addr} {od38 an38 : Option Addr} {sl38 : Array (Option Value)} {oc38 kV38 dc38 pm38 cd38 ct38 : Value}
    {f39 : Addr} {od39 an39 : Option Addr} {sl39 : Array (Option Value)} {oc39 kV39 dc39 pm39 cd39 ct39 : Value}
    {f40 : Addr} {od40 an40 : Option Addr} {sl40 : Array (Option Value)} {oc40 kV40 dc40 pm40 cd40 ct40 : Value}
    {f41 : Addr} {od41 an41 : Option Addr} {sl41 : Array (Option Value)} {oc41 kV41 dc41 pm41 cd41 ct41 : Value}
    {f42 : Addr} {od42 an42 : Option Addr} {sl42 : Array (Option Value)} {oc42 kV42 dc42 pm42 cd42 ct42 : Value}
    {f43 : Addr} {od43 an43 : Option Addr} {sl43 : Array (Option Value)} {oc43 kV43 dc43 pm43 cd43 ct43 : Value}
    (X : K.In h) (G : h.Ns mainGlobals mg) (hfa : mg "law" = some (.ref fa))
    (aC : PySem.W.nsIn K mainGlobals "RefusedText" = some (some (.ref CR)))
    (xC : K.lookup CR = some (excClassObj nm q CR N bs [.ref cA, .type "ValueError", .type "Exception", .type "BaseException", .type "object"] true sn sub ab col dd m0 m1 m2 m3 m5 "ValueError.__new__"))
    (al : PySem.W.alongIn K "__init__" [.ref cA, .type "ValueError", .type "Exception", .type "BaseException", .type "object"] = some (some (.builtin "ValueError.__init__")))
    (sa : PySem.W.findIn K (.ref CR) "__setattr__" = some (some (.builtin "object.__setattr__")))
    (ga : PySem.W.findIn K (.ref CR) "__getattribute__" = some (some (.builtin "BaseException.__getattribute__")))
    (gg : PySem.W.findIn K (.ref CR) "__getattr__" = some none)
    (np : PySem.W.findIn K (.ref CR) "position" = some none)
    (aI : PySem.W.findIn K (.ref CR) "__init__" = some (some (.ref fI)))
    (tI : PySem.W.typeIn K (.ref fI) = some (.type "function"))
    (lI : K.lookup fI = some ⟨oc0, od0, .func (PySem.W.ksFn "__init__" "RefusedText.__init__" (defArgs sInit) (defBody sInit) (defScope sInit) .none .none dc0 pm0 an0 (.ref cda) ct0 cc), sl0⟩)
    (cI : PySem.W.codeIn K (.ref cda) "RefusedText.__init__" = true)
    (lc : K.lookup cda = some ⟨ccl, cdd, .fields vsC, ccs⟩)
    (vc : vsC[2]? = some (.str file tf))
    (ef : ((l.prog.main.file : Str) == file) = true)
    (es : (l.prog.main.scope.names.lookup ("super" : Str)).isSome = false)
    (lcc : K.lookup cc = some ⟨ctl, ctd, .cell (some (.ref CR)), cts⟩)
    (kC : PySem.W.keepIn K (.ref CR) = true)
    (eC : PySem.W.subIn K (.ref CR) (.type "BaseException") = some true)
    (vC : PySem.W.subIn K (.ref CR) (.type "ValueError") = some true)
    (sC : PySem.W.mroIn K CR (.ref CR) = some true)
    (yC : PySem.W.typeIn K (.ref CR) = some (.type "type"))
    (nX : PySem.W.nsIn K cStatics "thirdparty.any" = some none)
    (te : PySem.W.exmOne K (.ref CR) (.ref CR) = some true)
    (hd : PySem.W.hasDictIn K CR = true)
    (zsuper : PySem.W.nsIn K mainGlobals "super" = some none)
    (zstr : PySem.W.nsIn K mainGlobals "str" = some none)
    (zlen : PySem.W.nsIn K mainGlobals "len" = some none)
    (zint : PySem.W.nsIn K mainGlobals "int" = some none)
    (zmin : PySem.W.nsIn K mainGlobals "min" = some none)
    (ztuple : PySem.W.nsIn K mainGlobals "tuple" = some none)
    (zlist : PySem.W.nsIn K mainGlobals "list" = some none)
    (zrange : PySem.W.nsIn K mainGlobals "range" = some none)
    (zbool : PySem.W.nsIn K mainGlobals "bool" = some none)
    (zisinstance : PySem.W.nsIn K mainGlobals "isinstance" = some none)
    (zenumerate : PySem.W.nsIn K mainGlobals "enumerate" = some none)
    (zValueError : PySem.W.nsIn K mainGlobals "ValueError" = some none)
    (aA : PySem.W.nsIn K mainGlobals "AskprovedError" = some (some (.ref cA)))
    (kA : PySem.W.kitOne K (.ref CR) (.ref cA) = some true)
    (kV : PySem.W.kitOne K (.ref CR) (.type "ValueError") = some true)
    (ha : PySem.W.findIn K (.ref CR) "__class__" = some (some (.builtin "object.__class__")))
    (hn : PySem.W.specialIn K (.builtin "object.__class__") "__get__" = some (some (.builtin "getset_descriptor.__get__")))
    (ht : PySem.W.takesIn K (.builtin "object.__class__") = some true)
    (hm : PySem.W.mroIn K CR (.type "object") = some true)
    (gLATER : PySem.W.nsIn K mainGlobals "LATER" = some (some (.str xLat t1)))
    (eLATER : xLat = S LAT)
    (gLETTERS : PySem.W.nsIn K mainGlobals "LETTERS" = some (some (.str xLet t2)))
    (eLETTERS : xLet = S LET)
    (gDIGITS : PySem.W.nsIn K mainGlobals "DIGITS" = some (some (.str xDig t3)))
    (eDIGITS : xDig = S DIG)
    (gMOST_WORD : PySem.W.nsIn K mainGlobals "MOST_WORD" = some (some (.int 40 ti0)))
    (gMOST_DIGITS : PySem.W.nsIn K mainGlobals "MOST_DIGITS" = some (some (.int 13 ti1)))
    (gMOST_NUMBER : PySem.W.nsIn K mainGlobals "MOST_NUMBER" = some (some (.int 1000000000000 ti2)))
    (gMOST_TOKENS : PySem.W.nsIn K mainGlobals "MOST_TOKENS" = some (some (.int 4000 ti3)))
    (gMOST_OPEN : PySem.W.nsIn K mainGlobals "MOST_OPEN" = some (some (.int 20 ti4)))
    (gMOST_IN_ROW : PySem.W.nsIn K mainGlobals "MOST_IN_ROW" = some (some (.int 12 ti5)))
    (gMOST_PARTS : PySem.W.nsIn K mainGlobals "MOST_PARTS" = some (some (.int 12 ti6)))
    (gMOST_COLUMNS : PySem.W.nsIn K mainGlobals "MOST_COLUMNS" = some (some (.int 6 ti7)))
    (gKEYWORDS : PySem.W.nsIn K mainGlobals "KEYWORDS" = some (some (.ref aK)))
    (lKEYWORDS : K.lookup aK = some ⟨.type "tuple", dK, .seq itsK nK, slK⟩)
    (vKEYWORDS : strsB itsK.toList KW = true)
    (gSIGNS : PySem.W.nsIn K mainGlobals "SIGNS" = some (some (.ref aG)))
    (lSIGNS : K.lookup aG = some ⟨.type "tuple", dG, .seq itsG nG, slG⟩)
    (vSIGNS : strsB itsG.toList SG = true)
    (aP : PySem.W.nsIn K mainGlobals "Parser" = some (some (.ref C)))
    (ppg : PySem.W.plainGet K C Str.empty = true)
    (phd : PySem.W.hasDictIn K C = true)
    (ppo : PySem.W.plainOver K C = true)
    (psa : PySem.W.findIn K (.ref C) "__setattr__" = some (some (.builtin "object.__setattr__")))
    (pmk : PySem.W.makesIn K C = true)
    (pkc : PySem.W.keepIn K (.ref C) = true)
    (ntokens : PySem.W.findIn K (.ref C) "tokens" = some none)
    (nlength : PySem.W.findIn K (.ref C) "length" = some none)
    (nat : PySem.W.findIn K (.ref C) "at" = some none)
    (nopened : PySem.W.findIn K (.ref C) "opened" = some none)
    (a1 : PySem.W.nsIn K mainGlobals "end_of" = some (some (.ref f1)))
    (l1 : K.lookup f1 = some ⟨oc1, od1, .func (PySem.W.fnOf "end_of" "end_of" (defArgs sEnd) (defBody sEnd) (defScope sEnd) .none kV1 dc1 pm1 an1 cd1 ct1), sl1⟩)
    (c1 : PySem.W.codeIn K cd1 "end_of" = true)
    (k1 : PySem.W.keepIn K (.ref f1) = true)
    (a2 : PySem.W.nsIn K mainGlobals "read_word" = some (some (.ref f2)))
    (l2 : K.lookup f2 = some ⟨oc2, od2, .func (PySem.W.fnOf "read_word" "read_word" (defArgs sWord) (defBody sWord) (defScope sWord) .none kV2 dc2 pm2 an2 cd2 ct2), sl2⟩)
    (c2 : PySem.W.codeIn K cd2 "read_word" = true)
    (k2 : PySem.W.keepIn K (.ref f2) = true)
    (a3 : PySem.W.nsIn K mainGlobals "read_token" = some (some (.ref f3)))
    (l3 : K.lookup f3 = some ⟨oc3, od3, .func (PySem.W.fnOf "read_token" "read_token" (defArgs sTokR) (defBody sTokR) (defScope sTokR) .none kV3 dc3 pm3 an3 cd3 ct3), sl3⟩)
    (c3 : PySem.W.codeIn K cd3 "read_token" = true)
    (k3 : PySem.W.keepIn K (.ref f3) = true)
    (a4 : PySem.W.nsIn K mainGlobals "tokenize" = some (some (.ref f4)))
    (l4 : K.lookup f4 = some ⟨oc4, od4, .func (PySem.W.fnOf "tokenize" "tokenize" (defArgs sTokz) (defBody sTokz) (defScope sTokz) .none kV4 dc4 pm4 an4 cd4 ct4), sl4⟩)
    (c4 : PySem.W.codeIn K cd4 "tokenize" = true)
    (k4 : PySem.W.keepIn K (.ref f4) = true)
    (a5 : PySem.W.nsIn K mainGlobals "parse" = some (some (.ref f5)))
    (l5 : K.lookup f5 = some ⟨oc5, od5, .func (PySem.W.fnOf "parse" "parse" (defArgs sParse) (defBody sParse) (defScope sParse) .none kV5 dc5 pm5 an5 cd5 ct5), sl5⟩)
    (c5 : PySem.W.codeIn K cd5 "parse" = true)
    (k5 : PySem.W.keepIn K (.ref f5) = true)
    (a6 : PySem.W.nsIn K mainGlobals "parse_rule" = some (some (.ref f6)))
    (l6 : K.lookup f6 = some ⟨oc6, od6, .func (PySem.W.fnOf "parse_rule" "parse_rule" (defArgs sRuleF) (defBody sRuleF) (defScope sRuleF) .none kV6 dc6 pm6 an6 cd6 ct6), sl6⟩)
    (c6 : PySem.W.codeIn K cd6 "parse_rule" = true)
    (k6 : PySem.W.keepIn K (.ref f6) = true)
    (a7 : PySem.W.nsIn K mainGlobals "_law_next" = some (some (.ref f7)))
    (l7 : K.lookup f7 = some ⟨oc7, od7, .func (PySem.W.fnOf "_law_next" "_law_next" (defArgs sNext) (defBody sNext) (defScope sNext) .none kV7 dc7 pm7 an7 cd7 ct7), sl7⟩)
    (c7 : PySem.W.codeIn K cd7 "_law_next" = true)
    (k7 : PySem.W.keepIn K (.ref f7) = true)
    (a8 : PySem.W.nsIn K mainGlobals "_law_same" = some (some (.ref f8)))
    (l8 : K.lookup f8 = some ⟨oc8, od8, .func (PySem.W.fnOf "_law_same" "_law_same" (defArgs sSame) (defBody sSame) (defScope sSame) .none kV8 dc8 pm8 an8 cd8 ct8), sl8⟩)
    (c8 : PySem.W.codeIn K cd8 "_law_same" = true)
    (k8 : PySem.W.keepIn K (.ref f8) = true)
    (a9 : PySem.W.nsIn K mainGlobals "_law_name_drawn" = some (some (.ref f9)))
    (l9 : K.lookup f9 = some ⟨oc9, od9, .func (PySem.W.fnOf "_law_name_drawn" "_law_name_drawn" (defArgs sName) (defBody sName) (defScope sName) .none kV9 dc9 pm9 an9 cd9 ct9), sl9⟩)
    (c9 : PySem.W.codeIn K cd9 "_law_name_drawn" = true)
    (k9 : PySem.W.keepIn K (.ref f9) = true)
    (a10 : PySem.W.nsIn K mainGlobals "_law_term_tokens" = some (some (.ref f10)))
    (l10 : K.lookup f10 = some ⟨oc10, od10, .func (PySem.W.fnOf "_law_term_tokens" "_law_term_tokens" (defArgs sTermT) (defBody sTermT) (defScope sTermT) .none kV10 dc10 pm10 an10 cd10 ct10), sl10⟩)
    (c10 : PySem.W.codeIn K cd10 "_law_term_tokens" = true)
    (k10 : PySem.W.keepIn K (.ref f10) = true)
    (a11 : PySem.W.nsIn K mainGlobals "_law_row_tokens" = some (some (.ref f11)))
    (l11 : K.lookup f11 = some ⟨oc11, od11, .func (PySem.W.fnOf "_law_row_tokens" "_law_row_tokens" (defArgs sRowT) (defBody sRowT) (defScope sRowT) .none kV11 dc11 pm11 an11 cd11 ct11), sl11⟩)
    (c11 : PySem.W.codeIn K cd11 "_law_row_tokens" = true)
    (k11 : PySem.W.keepIn K (.ref f11) = true)
    (a12 : PySem.W.nsIn K mainGlobals "_law_expression_tokens" = some (some (.ref f12)))
    (l12 : K.lookup f12 = some ⟨oc12, od12, .func (PySem.W.fnOf "_law_expression_tokens" "_law_expression_tokens" (defArgs sExprT) (defBody sExprT) (defScope sExprT) .none kV12 dc12 pm12 an12 cd12 ct12), sl12⟩)
    (c12 : PySem.W.codeIn K cd12 "_law_expression_tokens" = true)
    (k12 : PySem.W.keepIn K (.ref f12) = true)
    (a13 : PySem.W.nsIn K mainGlobals "_law_part_tokens" = some (some (.ref f13)))
    (l13 : K.lookup f13 = some ⟨oc13, od13, .func (PySem.W.fnOf "_law_part_tokens" "_law_part_tokens" (defArgs sPartT) (defBody sPartT) (defScope sPartT) .none kV13 dc13 pm13 an13 cd13 ct13), sl13⟩)
    (c13 : PySem.W.codeIn K cd13 "_law_part_tokens" = true)
    (k13 : PySem.W.keepIn K (.ref f13) = true)
    (a14 : PySem.W.nsIn K mainGlobals "_law_body_tokens" = some (some (.ref f14)))
    (l14 : K.lookup f14 = some ⟨oc14, od14, .func (PySem.W.fnOf "_law_body_tokens" "_law_body_tokens" (defArgs sBodyT) (defBody sBodyT) (defScope sBodyT) .none kV14 dc14 pm14 an14 cd14 ct14), sl14⟩)
    (c14 : PySem.W.codeIn K cd14 "_law_body_tokens" = true)
    (k14 : PySem.W.keepIn K (.ref f14) = true)
    (a15 : PySem.W.nsIn K mainGlobals "_law_rule_tokens" = some (some (.ref f15)))
    (l15 : K.lookup f15 = some ⟨oc15, od15, .func (PySem.W.fnOf "_law_rule_tokens" "_law_rule_tokens" (defArgs sRuleT) (defBody sRuleT) (defScope sRuleT) .none kV15 dc15 pm15 an15 cd15 ct15), sl15⟩)
    (c15 : PySem.W.codeIn K cd15 "_law_rule_tokens" = true)
    (k15 : PySem.W.keepIn K (.ref f15) = true)
    (a16 : PySem.W.nsIn K mainGlobals "_law_item_tokens" = some (some (.ref f16)))
    (l16 : K.lookup f16 = some ⟨oc16, od16, .func (PySem.W.fnOf "_law_item_tokens" "_law_item_tokens" (defArgs sItemT) (defBody sItemT) (defScope sItemT) .none kV16 dc16 pm16 an16 cd16 ct16), sl16⟩)
    (c16 : PySem.W.codeIn K cd16 "_law_item_tokens" = true)
    (k16 : PySem.W.keepIn K (.ref f16) = true)
    (a17 : PySem.W.nsIn K mainGlobals "_law_place" = some (some (.ref f17)))
    (l17 : K.lookup f17 = some ⟨oc17, od17, .func (PySem.W.fnOf "_law_place" "_law_place" (defArgs sPlace) (defBody sPlace) (defScope sPlace) .none kV17 dc17 pm17 an17 cd17 ct17), sl17⟩)
    (c17 : PySem.W.codeIn K cd17 "_law_place" = true)
    (k17 : PySem.W.keepIn K (.ref f17) = true)
    (a18 : PySem.W.nsIn K mainGlobals "_law_written" = some (some (.ref f18)))
    (l18 : K.lookup f18 = some ⟨oc18, od18, .func (PySem.W.fnOf "_law_written" "_law_written" (defArgs sWritten) (defBody sWritten) (defScope sWritten) .none kV18 dc18 pm18 an18 cd18 ct18), sl18⟩)
    (c18 : PySem.W.codeIn K cd18 "_law_written" = true)
    (k18 : PySem.W.keepIn K (.ref f18) = true)
    (a19 : PySem.W.nsIn K mainGlobals "_law_right" = some (some (.ref f19)))
    (l19 : K.lookup f19 = some ⟨oc19, od19, .func (PySem.W.fnOf "_law_right" "_law_right" (defArgs sRight) (defBody sRight) (defScope sRight) .none kV19 dc19 pm19 an19 cd19 ct19), sl19⟩)
    (c19 : PySem.W.codeIn K cd19 "_law_right" = true)
    (k19 : PySem.W.keepIn K (.ref f19) = true)
    (a20 : PySem.W.findIn K (.ref C) "__init__" = some (some (.ref f20)))
    (i20 : PySem.W.isFn K (.ref f20) = true)
    (l20 : K.lookup f20 = some ⟨oc20, od20, .func (PySem.W.fnOf "__init__" "Parser.__init__" (defArgs (sM 0)) (defBody (sM 0)) (defScope (sM 0)) .none kV20 dc20 pm20 an20 cd20 ct20), sl20⟩)
    (c20 : PySem.W.codeIn K cd20 "Parser.__init__" = true)
    (k20 : PySem.W.keepIn K (.ref f20) = true)
    (a21 : PySem.W.findIn K (.ref C) "refuse" = some (some (.ref f21)))
    (i21 : PySem.W.isFn K (.ref f21) = true)
    (l21 : K.lookup f21 = some ⟨oc21, od21, .func (PySem.W.fnOf "refuse" "Parser.refuse" (defArgs (sM 1)) (defBody (sM 1)) (defScope (sM 1)) .none kV21 dc21 pm21 an21 cd21 ct21), sl21⟩)
    (c21 : PySem.W.codeIn K cd21 "Parser.refuse" = true)
    (k21 : PySem.W.keepIn K (.ref f21) = true)
    (a22 : PySem.W.findIn K (.ref C) "is_read" = some (some (.ref f22)))
    (i22 : PySem.W.isFn K (.ref f22) = true)
    (l22 : K.lookup f22 = some ⟨oc22, od22, .func (PySem.W.fnOf "is_read" "Parser.is_read" (defArgs (sM 2)) (defBody (sM 2)) (defScope (sM 2)) .none kV22 dc22 pm22 an22 cd22 ct22), sl22⟩)
    (c22 : PySem.W.codeIn K cd22 "Parser.is_read" = true)
    (k22 : PySem.W.keepIn K (.ref f22) = true)
    (a23 : PySem.W.findIn K (.ref C) "kind" = some (some (.ref f23)))
    (i23 : PySem.W.isFn K (.ref f23) = true)
    (l23 : K.lookup f23 = some ⟨oc23, od23, .func (PySem.W.fnOf "kind" "Parser.kind" (defArgs (sM 3)) (defBody (sM 3)) (defScope (sM 3)) .none kV23 dc23 pm23 an23 cd23 ct23), sl23⟩)
    (c23 : PySem.W.codeIn K cd23 "Parser.kind" = true)
    (k23 : PySem.W.keepIn K (.ref f23) = true)
    (a24 : PySem.W.findIn K (.ref C) "sees" = some (some (.ref f24)))
    (i24 : PySem.W.isFn K (.ref f24) = true)
    (l24 : K.lookup f24 = some ⟨oc24, od24, .func (PySem.W.fnOf "sees" "Parser.sees" (defArgs (sM 4)) (defBody (sM 4)) (defScope (sM 4)) .none kV24 dc24 pm24 an24 cd24 ct24), sl24⟩)
    (c24 : PySem.W.codeIn K cd24 "Parser.sees" = true)
    (k24 : PySem.W.keepIn K (.ref f24) = true)
    (a25 : PySem.W.findIn K (.ref C) "move" = some (some (.ref f25)))
    (i25 : PySem.W.isFn K (.ref f25) = true)
    (l25 : K.lookup f25 = some ⟨oc25, od25, .func (PySem.W.fnOf "move" "Parser.move" (defArgs (sM 5)) (defBody (sM 5)) (defScope (sM 5)) .none kV25 dc25 pm25 an25 cd25 ct25), sl25⟩)
    (c25 : PySem.W.codeIn K cd25 "Parser.move" = true)
    (k25 : PySem.W.keepIn K (.ref f25) = true)
    (a26 : PySem.W.findIn K (.ref C) "want" = some (some (.ref f26)))
    (i26 : PySem.W.isFn K (.ref f26) = true)
    (l26 : K.lookup f26 = some ⟨oc26, od26, .func (PySem.W.fnOf "want" "Parser.want" (defArgs (sM 6)) (defBody (sM 6)) (defScope (sM 6)) .none kV26 dc26 pm26 an26 cd26 ct26), sl26⟩)
    (c26 : PySem.W.codeIn K cd26 "Parser.want" = true)
    (k26 : PySem.W.keepIn K (.ref f26) = true)
    (a27 : PySem.W.findIn K (.ref C) "accepts" = some (some (.ref f27)))
    (i27 : PySem.W.isFn K (.ref f27) = true)
    (l27 : K.lookup f27 = some ⟨oc27, od27, .func (PySem.W.fnOf "accepts" "Parser.accepts" (defArgs (sM 7)) (defBody (sM 7)) (defScope (sM 7)) .none kV27 dc27 pm27 an27 cd27 ct27), sl27⟩)
    (c27 : PySem.W.codeIn K cd27 "Parser.accepts" = true)
    (k27 : PySem.W.keepIn K (.ref f27) = true)
    (a28 : PySem.W.findIn K (.ref C) "sign" = some (some (.ref f28)))
    (i28 : PySem.W.isFn K (.ref f28) = true)
    (l28 : K.lookup f28 = some ⟨oc28, od28, .func (PySem.W.fnOf "sign" "Parser.sign" (defArgs (sM 8)) (defBody (sM 8)) (defScope (sM 8)) .none kV28 dc28 pm28 an28 cd28 ct28), sl28⟩)
    (c28 : PySem.W.codeIn K cd28 "Parser.sign" = true)
    (k28 : PySem.W.keepIn K (.ref f28) = true)
    (a29 : PySem.W.findIn K (.ref C) "next_of_row" = some (some (.ref f29)))
    (i29 : PySem.W.isFn K (.ref f29) = true)
    (l29 : K.lookup f29 = some ⟨oc29, od29, .func (PySem.W.fnOf "next_of_row" "Parser.next_of_row" (defArgs (sM 9)) (defBody (sM 9)) (defScope (sM 9)) .none kV29 dc29 pm29 an29 cd29 ct29), sl29⟩)
    (c29 : PySem.W.codeIn K cd29 "Parser.next_of_row" = true)
    (k29 : PySem.W.keepIn K (.ref f29) = true)
    (a30 : PySem.W.findIn K (.ref C) "program" = some (some (.ref f30)))
    (i30 : PySem.W.isFn K (.ref f30) = true)
    (l30 : K.lookup f30 = some ⟨oc30, od30, .func (PySem.W.fnOf "program" "Parser.program" (defArgs (sM 10)) (defBody (sM 10)) (defScope (sM 10)) .none kV30 dc30 pm30 an30 cd30 ct30), sl30⟩)
    (c30 : PySem.W.codeIn K cd30 "Parser.program" = true)
    (k30 : PySem.W.keepIn K (.ref f30) = true)
    (a31 : PySem.W.findIn K (.ref C) "relation" = some (some (.ref f31)))
    (i31 : PySem.W.isFn K (.ref f31) = true)
    (l31 : K.lookup f31 = some ⟨oc31, od31, .func (PySem.W.fnOf "relation" "Parser.relation" (defArgs (sM 11)) (defBody (sM 11)) (defScope (sM 11)) .none kV31 dc31 pm31 an31 cd31 ct31), sl31⟩)
    (c31 : PySem.W.codeIn K cd31 "Parser.relation" = true)
    (k31 : PySem.W.keepIn K (.ref f31) = true)
    (a32 : PySem.W.findIn K (.ref C) "one_sort" = some (some (.ref f32)))
    (i32 : PySem.W.isFn K (.ref f32) = true)
    (l32 : K.lookup f32 = some ⟨oc32, od32, .func (PySem.W.fnOf "one_sort" "Parser.one_sort" (defArgs (sM 12)) (defBody (sM 12)) (defScope (sM 12)) .none kV32 dc32 pm32 an32 cd32 ct32), sl32⟩)
    (c32 : PySem.W.codeIn K cd32 "Parser.one_sort" = true)
    (k32 : PySem.W.keepIn K (.ref f32) = true)
    (a33 : PySem.W.findIn K (.ref C) "rule" = some (some (.ref f33)))
    (i33 : PySem.W.isFn K (.ref f33) = true)
    (l33 : K.lookup f33 = some ⟨oc33, od33, .func (PySem.W.fnOf "rule" "Parser.rule" (defArgs (sM 13)) (defBody (sM 13)) (defScope (sM 13)) .none kV33 dc33 pm33 an33 cd33 ct33), sl33⟩)
    (c33 : PySem.W.codeIn K cd33 "Parser.rule" = true)
    (k33 : PySem.W.keepIn K (.ref f33) = true)
    (a34 : PySem.W.findIn K (.ref C) "terms" = some (some (.ref f34)))
    (i34 : PySem.W.isFn K (.ref f34) = true)
    (l34 : K.lookup f34 = some ⟨oc34, od34, .func (PySem.W.fnOf "terms" "Parser.terms" (defArgs (sM 14)) (defBody (sM 14)) (defScope (sM 14)) .none kV34 dc34 pm34 an34 cd34 ct34), sl34⟩)
    (c34 : PySem.W.codeIn K cd34 "Parser.terms" = true)
    (k34 : PySem.W.keepIn K (.ref f34) = true)
    (a35 : PySem.W.findIn K (.ref C) "term" = some (some (.ref f35)))
    (i35 : PySem.W.isFn K (.ref f35) = true)
    (l35 : K.lookup f35 = some ⟨oc35, od35, .func (PySem.W.fnOf "term" "Parser.term" (defArgs (sM 15)) (defBody (sM 15)) (defScope (sM 15)) .none kV35 dc35 pm35 an35 cd35 ct35), sl35⟩)
    (c35 : PySem.W.codeIn K cd35 "Parser.term" = true)
    (k35 : PySem.W.keepIn K (.ref f35) = true)
    (a36 : PySem.W.findIn K (.ref C) "value" = some (some (.ref f36)))
    (i36 : PySem.W.isFn K (.ref f36) = true)
    (l36 : K.lookup f36 = some ⟨oc36, od36, .func (PySem.W.fnOf "value" "Parser.value" (defArgs (sM 16)) (defBody (sM 16)) (defScope (sM 16)) .none kV36 dc36 pm36 an36 cd36 ct36), sl36⟩)
    (c36 : PySem.W.codeIn K cd36 "Parser.value" = true)
    (k36 : PySem.W.keepIn K (.ref f36) = true)
    (a37 : PySem.W.findIn K (.ref C) "body" = some (some (.ref f37)))
    (i37 : PySem.W.isFn K (.ref f37) = true)
    (l37 : K.lookup f37 = some ⟨oc37, od37, .func (PySem.W.fnOf "body" "Parser.body" (defArgs (sM 17)) (defBody (sM 17)) (defScope (sM 17)) .none kV37 dc37 pm37 an37 cd37 ct37), sl37⟩)
    (c37 : PySem.W.codeIn K cd37 "Parser.body" = true)
    (k37 : PySem.W.keepIn K (.ref f37) = true)
    (a38 : PySem.W.findIn K (.ref C) "part" = some (some (.ref f38)))
    (i38 : PySem.W.isFn K (.ref f38) = true)
    (l38 : K.lookup f38 = some ⟨oc38, od38, .func (PySem.W.fnOf "part" "Parser.part" (defArgs (sM 18)) (defBody (sM 18)) (defScope (sM 18)) .none kV38 dc38 pm38 an38 cd38 ct38), sl38⟩)
    (c38 : PySem.W.codeIn K cd38 "Parser.part" = true)
    (k38 : PySem.W.keepIn K (.ref f38) = true)
    (a39 : PySem.W.findIn K (.ref C) "sums" = some (some (.ref f39)))
    (i39 : PySem.W.isFn K (.ref f39) = true)
    (l39 : K.lookup f39 = some ⟨oc39, od39, .func (PySem.W.fnOf "sums" "Parser.sums" (defArgs (sM 19)) (defBody (sM 19)) (defScope (sM 19)) .none kV39 dc39 pm39 an39 cd39 ct39), sl39⟩)
    (c39 : PySem.W.codeIn K cd39 "Parser.sums" = true)
    (k39 : PySem.W.keepIn K (.ref f39) = true)
    (a40 : PySem.W.findIn K (.ref C) "product" = some (some (.ref f40)))
    (i40 : PySem.W.isFn K (.ref f40) = true)
    (l40 : K.lookup f40 = some ⟨oc40, od40, .func (PySem.W.fnOf "product" "Parser.product" (defArgs (sM 20)) (defBody (sM 20)) (defScope (sM 20)) .none kV40 dc40 pm40 an40 cd40 ct40), sl40⟩)
    (c40 : PySem.W.codeIn K cd40 "Parser.product" = true)
    (k40 : PySem.W.keepIn K (.ref f40) = true)
    (a41 : PySem.W.findIn K (.ref C) "one_more" = some (some (.ref f41)))
    (i41 : PySem.W.isFn K (.ref f41) = true)
    (l41 : K.lookup f41 = some ⟨oc41, od41, .func (PySem.W.fnOf "one_more" "Parser.one_more" (defArgs (sM 21)) (defBody (sM 21)) (defScope (sM 21)) .none kV41 dc41 pm41 an41 cd41 ct41), sl41⟩)
    (c41 : PySem.W.codeIn K cd41 "Parser.one_more" = true)
    (k41 : PySem.W.keepIn K (.ref f41) = true)
    (a42 : PySem.W.findIn K (.ref C) "piece" = some (some (.ref f42)))
    (i42 : PySem.W.isFn K (.ref f42) = true)
    (l42 : K.lookup f42 = some ⟨oc42, od42, .func (PySem.W.fnOf "piece" "Parser.piece" (defArgs (sM 22)) (defBody (sM 22)) (defScope (sM 22)) .none kV42 dc42 pm42 an42 cd42 ct42), sl42⟩)
    (c42 : PySem.W.codeIn K cd42 "Parser.piece" = true)
    (k42 : PySem.W.keepIn K (.ref f42) = true)
    (a43 : PySem.W.nsIn K mainGlobals "law" = some (some (.ref f43)))
    (l43 : K.lookup f43 = some ⟨oc43, od43, .func (PySem.W.fnOf "law" "law" (defArgs sLaw78) (defBody sLaw78) (defScope sLaw78) .none kV43 dc43 pm43 an43 cd43 ct43), sl43⟩)
    (c43 : PySem.W.codeIn K cd43 "law" = true)
    (k43 : PySem.W.keepIn K (.ref f43) = true) :
    ∃ fd : FuncData, (∀ (s : Shared) (v : Value), BindsTo s fd ⟨[v], []⟩ [("script", v)]) ∧ ∀ base : Heap, K.In base → base.Ns mainGlobals mg → FnOk l.prog w K mg base CX0 77 fa fd ["script"] (spLaw K) := by
  have e := hfa.symm.trans (PySem.W.mg_of X G a43)
  cases e
  subst eLATER eLETTERS eDIGITS
  have nn := fun {n : Str} (z : PySem.W.nsIn K mainGlobals n = some none) => PySem.W.mg_none_of X G z
  have rv : PySem.HandSPX.refsVE [.ref cA, .type "ValueError", .type "Exception", .type "BaseException", .type "object"] = true := (by decide +kernel : PySem.HandSPX.refsVE [.type "ValueError", .type "Exception", .type "BaseException", .type "object"] = true)
  have ref : RefTxt l.prog K mg CR fI := { gC := PySem.W.mg_of X G aC, gSup := nn zsuper, gStr := nn zstr, cls := ⟨nm, q, N, bs, _, sn, sub, ab, col, dd, m0, m1, m2, m3, m5, xC, rv, al⟩, sa := sa, noN := np, iC := aI, tC := tI, kC := kC, exC := eC, veC := vC, sC := sC, tyC := yC, noX := nX, fn := ⟨oc0, ccl, ctl, od0, cdd, ctd, dc0, pm0, an0, cda, cc, ct0, sl0, ccs, cts, vsC, file, tf, lI, cI, lc, vc, ef, es, lcc⟩ }
  have T : Txt l.prog K mg CR fI := { len := nn zlen, int := nn zint, str := nn zstr, min := nn zmin, tuple := nn ztuple, list := nn zlist, range := nn zrange, bool := nn zbool, isi := nn zisinstance, ref := ref, LAT := ⟨_, PySem.W.mg_of X G gLATER⟩, LET := ⟨_, PySem.W.mg_of X G gLETTERS⟩, DIG := ⟨_, PySem.W.mg_of X G gDIGITS⟩, MW := ⟨_, PySem.W.mg_of X G gMOST_WORD⟩, MD := ⟨_, PySem.W.mg_of X G gMOST_DIGITS⟩, MN := ⟨_, PySem.W.mg_of X G gMOST_NUMBER⟩ }
  have TT : TupTxt K mg := ⟨gt_mk (PySem.W.mg_of X G gKEYWORDS) lKEYWORDS vKEYWORDS (by decide), gt_mk (PySem.W.mg_of X G gSIGNS) lSIGNS vSIGNS (by decide)⟩
  have TS : SuiTxt K mg CR cA := { gA := PySem.W.mg_of X G aA, kA := kA, gV := nn zValueError, kV := kV, te := te, xf := ⟨ga, gg, eC, hd⟩, xc := ⟨ga, gg, eC, hd, ha, hn, ht, hm⟩ }
  have PT : PTxt l.prog K mg C CR fI := { cl := ⟨ppg, phd, ppo, psa⟩, nT := ntokens, nL := nlength, nA := nat, nO := nopened, ref := ref, len := nn zlen, tuple := nn ztuple, MT := ⟨_, PySem.W.mg_of X G gMOST_TOKENS⟩, MO := ⟨_, PySem.W.mg_of X G gMOST_OPEN⟩, MI := ⟨_, PySem.W.mg_of X G gMOST_IN_ROW⟩, MP := ⟨_, PySem.W.mg_of X G gMOST_PARTS⟩, MC := ⟨_, PySem.W.mg_of X G gMOST_COLUMNS⟩ }
  have F1 := fun_mk (st := sEnd) l1 c1 k1
  have DEo : Dd K mg "end_of" sEnd ["text", "start", "letters"] f1 _ := ⟨F1, F1.binds (ps := ["text", "start", "letters"]) fun _ _ _ _ _ _ us hl => match us, hl with | [_, _, _], _ => rfl, PySem.W.mg_of X G a1, k1⟩
  have F2 := fun_mk (st := sWord) l2 c2 k2
  have DRw : Dd K mg "read_word" sWord ["text", "start"] f2 _ := ⟨F2, F2.binds (ps := ["text", "start"]) fun _ _ _ _ _ _ us hl => match us, hl with | [_, _], _ => rfl, PySem.W.mg_of X G a2, k2⟩
  have F3 := fun_mk (st := sTokR) l3 c3 k3
  have DRt : Dd K mg "read_token" sTokR ["text", "start"] f3 _ := ⟨F3, F3.binds (ps := ["text", "start"]) fun _ _ _ _ _ _ us hl => match us, hl with | [_, _], _ => rfl, PySem.W.mg_of X G a3, k3⟩
  have F4 := fun_mk (st := sTokz) l4 c4 k4
  have DTk : Dd K mg "tokenize" sTokz ["text"] f4 _ := ⟨F4, F4.binds (ps := ["text"]) fun _ _ _ _ _ _ us hl => match us, hl with | [_], _ => rfl, PySem.W.mg_of X G a4, k4⟩
  have F5 := fun_mk (st := sParse) l5 c5 k5
  have DPa : Dd K mg "parse" sParse ["text"] f5 _ := ⟨F5, F5.binds (ps := ["text"]) fun _ _ _ _ _ _ us hl => match us, hl with | [_], _ => rfl, PySem.W.mg_of X G a5, k5⟩
  have F6 := fun_mk (st := sRuleF) l6 c6 k6
  have DPr : Dd K mg "parse_rule" sRuleF ["text"] f6 _ := ⟨F6, F6.binds (ps := ["text"]) fun _ _ _ _ _ _ us hl => match us, hl with | [_], _ => rfl, PySem.W.mg_of X G a6, k6⟩
  have F7 := fun_mk (st := sNext) l7 c7 k7
  have DNx : Dd K mg "_law_next" sNext ["state", "limit"] f7 _ := ⟨F7, F7.binds (ps := ["state", "limit"]) fun _ _ _ _ _ _ us hl => match us, hl with | [_, _], _ => rfl, PySem.W.mg_of X G a7, k7⟩
  have F8 := fun_mk (st := sSame) l8 c8 k8
  have DSa : Dd K mg "_law_same" sSame ["actual", "expected"] f8 _ := ⟨F8, F8.binds (ps := ["actual", "expected"]) fun _ _ _ _ _ _ us hl => match us, hl with | [_, _], _ => rfl, PySem.W.mg_of X G a8, k8⟩
  have F9 := fun_mk (st := sName) l9 c9 k9
  have DNm : Dd K mg "_law_name_drawn" sName ["state"] f9 _ := ⟨F9, F9.binds (ps := ["state"]) fun _ _ _ _ _ _ us hl => match us, hl with | [_], _ => rfl, PySem.W.mg_of X G a9, k9⟩
  have F10 := fun_mk (st := sTermT) l10 c10 k10
  have DTt : Dd K mg "_law_term_tokens" sTermT ["state", "is_head"] f10 _ := ⟨F10, F10.binds (ps := ["state", "is_head"]) fun _ _ _ _ _ _ us hl => match us, hl with | [_, _], _ => rfl, PySem.W.mg_of X G a10, k10⟩
  have F11 := fun_mk (st := sRowT) l11 c11 k11
  have DRo : Dd K mg "_law_row_tokens" sRowT ["parts"] f11 _ := ⟨F11, F11.binds (ps := ["parts"]) fun _ _ _ _ _ _ us hl => match us, hl with | [_], _ => rfl, PySem.W.mg_of X G a11, k11⟩
  have F12 := fun_mk (st := sExprT) l12 c12 k12
  have DEx : Dd K mg "_law_expression_tokens" sExprT ["state", "depth"] f12 _ := ⟨F12, F12.binds (ps := ["state", "depth"]) fun _ _ _ _ _ _ us hl => match us, hl with | [_, _], _ => rfl, PySem.W.mg_of X G a12, k12⟩
  have F13 := fun_mk (st := sPartT) l13 c13 k13
  have DPt : Dd K mg "_law_part_tokens" sPartT ["state"] f13 _ := ⟨F13, F13.binds (ps := ["state"]) fun _ _ _ _ _ _ us hl => match us, hl with | [_], _ => rfl, PySem.W.mg_of X G a13, k13⟩
  have F14 := fun_mk (st := sBodyT) l14 c14 k14
  have DBt : Dd K mg "_law_body_tokens" sBodyT ["state"] f14 _ := ⟨F14, F14.binds (ps := ["state"]) fun _ _ _ _ _ _ us hl => match us, hl with | [_], _ => rfl, PySem.W.mg_of X G a14, k14⟩
  have F15 := fun_mk (st := sRuleT) l15 c15 k15
  have DUt : Dd K mg "_law_rule_tokens" sRuleT ["state"] f15 _ := ⟨F15, F15.binds (ps := ["state"]) fun _ _ _ _ _ _ us hl => match us, hl with | [_], _ => rfl, PySem.W.mg_of X G a15, k15⟩
  have F16 := fun_mk (st := sItemT) l16 c16 k16
  have DIt : Dd K mg "_law_item_tokens" sItemT ["state"] f16 _ := ⟨F16, F16.binds (ps := ["state"]) fun _ _ _ _ _ _ us hl => match us, hl with | [_], _ => rfl, PySem.W.mg_of X G a16, k16⟩
  have F17 := fun_mk (st := sPlace) l17 c17 k17
  have DPl : Dd K mg "_law_place" sPlace ["read", "text"] f17 _ := ⟨F17, F17.binds (ps := ["read", "text"]) fun _ _ _ _ _ _ us hl => match us, hl with | [_, _], _ => rfl, PySem.W.mg_of X G a17, k17⟩
  have F18 := fun_mk (st := sWritten) l18 c18 k18
  have DWr : Dd K mg "_law_written" sWritten ["state", "tokens"] f18 _ := ⟨F18, F18.binds (ps := ["state", "tokens"]) fun _ _ _ _ _ _ us hl => match us, hl with | [_, _], _ => rfl, PySem.W.mg_of X G a18, k18⟩
  have F19 := fun_mk (st := sRight) l19 c19 k19
  have DRi : Dd K mg "_law_right" sRight ["state", "read", "tokens", "firsts"] f19 _ := ⟨F19, F19.binds (ps := ["state", "read", "tokens", "firsts"]) fun _ _ _ _ _ _ us hl => match us, hl with | [_, _, _, _], _ => rfl, PySem.W.mg_of X G a19, k19⟩
  have F20 := fun_mk (st := (sM 0)) l20 c20 k20
  have bI := F20.binds (ps := ["self", "text"]) fun _ _ _ _ _ _ us hl => match us, hl with | [_, _], _ => rfl
  have F21 := fun_mk (st := (sM 1)) l21 c21 k21
  have Mrefuse : Dm K C "refuse" "Parser.refuse" (sM 1) ["self"] f21 _ := ⟨F21, F21.binds (ps := ["self"]) fun _ _ _ _ _ _ us hl => match us, hl with | [_], _ => rfl, ⟨a21, i21, k21⟩⟩
  have F22 := fun_mk (st := (sM 2)) l22 c22 k22
  have Mis_read : Dm K C "is_read" "Parser.is_read" (sM 2) ["self"] f22 _ := ⟨F22, F22.binds (ps := ["self"]) fun _ _ _ _ _ _ us hl => match us, hl with | [_], _ => rfl, ⟨a22, i22, k22⟩⟩
  have F23 := fun_mk (st := (sM 3)) l23 c23 k23
  have Mkind : Dm K C "kind" "Parser.kind" (sM 3) ["self"] f23 _ := ⟨F23, F23.binds (ps := ["self"]) fun _ _ _ _ _ _ us hl => match us, hl with | [_], _ => rfl, ⟨a23, i23, k23⟩⟩
  have F24 := fun_mk (st := (sM 4)) l24 c24 k24
  have Msees : Dm K C "sees" "Parser.sees" (sM 4) ["self", "kind", "words"] f24 _ := ⟨F24, F24.binds (ps := ["self", "kind", "words"]) fun _ _ _ _ _ _ us hl => match us, hl with | [_, _, _], _ => rfl, ⟨a24, i24, k24⟩⟩
  have F25 := fun_mk (st := (sM 5)) l25 c25 k25
  have Mmove : Dm K C "move" "Parser.move" (sM 5) ["self"] f25 _ := ⟨F25, F25.binds (ps := ["self"]) fun _ _ _ _ _ _ us hl => match us, hl with | [_], _ => rfl, ⟨a25, i25, k25⟩⟩
  have F26 := fun_mk (st := (sM 6)) l26 c26 k26
  have Mwant : Dm K C "want" "Parser.want" (sM 6) ["self", "kind"] f26 _ := ⟨F26, F26.binds (ps := ["self", "kind"]) fun _ _ _ _ _ _ us hl => match us, hl with | [_, _], _ => rfl, ⟨a26, i26, k26⟩⟩
  have F27 := fun_mk (st := (sM 7)) l27 c27 k27
  have Maccepts : Dm K C "accepts" "Parser.accepts" (sM 7) ["self", "kind", "word"] f27 _ := ⟨F27, F27.binds (ps := ["self", "kind", "word"]) fun _ _ _ _ _ _ us hl => match us, hl with | [_, _, _], _ => rfl, ⟨a27, i27, k27⟩⟩
  have F28 := fun_mk (st := (sM 8)) l28 c28 k28
  have Msign : Dm K C "sign" "Parser.sign" (sM 8) ["self", "word"] f28 _ := ⟨F28, F28.binds (ps := ["self", "word"]) fun _ _ _ _ _ _ us hl => match us, hl with | [_, _], _ => rfl, ⟨a28, i28, k28⟩⟩
  have F29 := fun_mk (st := (sM 9)) l29 c29 k29
  have Mnext_of_row : Dm K C "next_of_row" "Parser.next_of_row" (sM 9) ["self", "count", "most"] f29 _ := ⟨F29, F29.binds (ps := ["self", "count", "most"]) fun _ _ _ _ _ _ us hl => match us, hl with | [_, _, _], _ => rfl, ⟨a29, i29, k29⟩⟩
  have F30 := fun_mk (st := (sM 10)) l30 c30 k30
  have Mprogram : Dm K C "program" "Parser.program" (sM 10) ["self"] f30 _ := ⟨F30, F30.binds (ps := ["self"]) fun _ _ _ _ _ _ us hl => match us, hl with | [_], _ => rfl, ⟨a30, i30, k30⟩⟩
  have F31 := fun_mk (st := (sM 11)) l31 c31 k31
  have Mrelation : Dm K C "relation" "Parser.relation" (sM 11) ["self"] f31 _ := ⟨F31, F31.binds (ps := ["self"]) fun _ _ _ _ _ _ us hl => match us, hl with | [_], _ => rfl, ⟨a31, i31, k31⟩⟩
  have F32 := fun_mk (st := (sM 12)) l32 c32 k32
  have Mone_sort : Dm K C "one_sort" "Parser.one_sort" (sM 12) ["self"] f32 _ := ⟨F32, F32.binds (ps := ["self"]) fun _ _ _ _ _ _ us hl => match us, hl with | [_], _ => rfl, ⟨a32, i32, k32⟩⟩
  have F33 := fun_mk (st := (sM 13)) l33 c33 k33
  have Mrule : Dm K C "rule" "Parser.rule" (sM 13) ["self"] f33 _ := ⟨F33, F33.binds (ps := ["self"]) fun _ _ _ _ _ _ us hl => match us, hl with | [_], _ => rfl, ⟨a33, i33, k33⟩⟩
  have F34 := fun_mk (st := (sM 14)) l34 c34 k34
  have Mterms : Dm K C "terms" "Parser.terms" (sM 14) ["self", "in_head"] f34 _ := ⟨F34, F34.binds (ps := ["self", "in_head"]) fun _ _ _ _ _ _ us hl => match us, hl with | [_, _], _ => rfl, ⟨a34, i34, k34⟩⟩
  have F35 := fun_mk (st := (sM 15)) l35 c35 k35
  have Mterm : Dm K C "term" "Parser.term" (sM 15) ["self", "in_head"] f35 _ := ⟨F35, F35.binds (ps := ["self", "in_head"]) fun _ _ _ _ _ _ us hl => match us, hl with | [_, _], _ => rfl, ⟨a35, i35, k35⟩⟩
  have F36 := fun_mk (st := (sM 16)) l36 c36 k36
  have Mvalue : Dm K C "value" "Parser.value" (sM 16) ["self"] f36 _ := ⟨F36, F36.binds (ps := ["self"]) fun _ _ _ _ _ _ us hl => match us, hl with | [_], _ => rfl, ⟨a36, i36, k36⟩⟩
  have F37 := fun_mk (st := (sM 17)) l37 c37 k37
  have Mbody : Dm K C "body" "Parser.body" (sM 17) ["self"] f37 _ := ⟨F37, F37.binds (ps := ["self"]) fun _ _ _ _ _ _ us hl => match us, hl with | [_], _ => rfl, ⟨a37, i37, k37⟩⟩
  have F38 := fun_mk (st := (sM 18)) l38 c38 k38
  have Mpart : Dm K C "part" "Parser.part" (sM 18) ["self"] f38 _ := ⟨F38, F38.binds (ps := ["self"]) fun _ _ _ _ _ _ us hl => match us, hl with | [_], _ => rfl, ⟨a38, i38, k38⟩⟩
  have F39 := fun_mk (st := (sM 19)) l39 c39 k39
  have Msums : Dm K C "sums" "Parser.sums" (sM 19) ["self"] f39 _ := ⟨F39, F39.binds (ps := ["self"]) fun _ _ _ _ _ _ us hl => match us, hl with | [_], _ => rfl, ⟨a39, i39, k39⟩⟩
  have F40 := fun_mk (st := (sM 20)) l40 c40 k40
  have Mproduct : Dm K C "product" "Parser.product" (sM 20) ["self"] f40 _ := ⟨F40, F40.binds (ps := ["self"]) fun _ _ _ _ _ _ us hl => match us, hl with | [_], _ => rfl, ⟨a40, i40, k40⟩⟩
  have F41 := fun_mk (st := (sM 21)) l41 c41 k41
  have Mone_more : Dm K C "one_more" "Parser.one_more" (sM 21) ["self", "count"] f41 _ := ⟨F41, F41.binds (ps := ["self", "count"]) fun _ _ _ _ _ _ us hl => match us, hl with | [_, _], _ => rfl, ⟨a41, i41, k41⟩⟩
  have F42 := fun_mk (st := (sM 22)) l42 c42 k42
  have Mpiece : Dm K C "piece" "Parser.piece" (sM 22) ["self"] f42 _ := ⟨F42, F42.binds (ps := ["self"]) fun _ _ _ _ _ _ us hl => match us, hl with | [_], _ => rfl, ⟨a42, i42, k42⟩⟩
  have F43 := fun_mk (st := sLaw78) l43 c43 k43
  have MK : Mk K C f20 := ⟨pmk, a20, i20, pkc⟩
  have DMS : Dms K C _ _ _ _ _ _ _ _ _ _ _ _ _ _ _ _ _ _ := ⟨Mrefuse, Mis_read, Mkind, Msees, Mmove, Mwant, Maccepts, Msign, Mnext_of_row⟩
  refine ⟨PySem.W.fnOf "law" "law" (defArgs sLaw78) (defBody sLaw78) (defScope sLaw78) .none kV43 dc43 pm43 an43 cd43 ct43, fun s v => .of_eq rfl, fun base _ _ => ?_⟩
  have TL : LTxt mg := ⟨nn zrange, nn zstr⟩
  have GTk : FnOk l.prog w K mg base (L2.CX l.prog w) 6 f4 _ ["text"] (spTokz CR) := ok_tokz DTk.fn T TT DEo DRw DRt
  have GIn := ok_pinit (base := base) (w := w) F20 PT DTk.g DTk.k DTk.b GTk
  have GTm := ok_terms (base := base) (w := w) Mterms.fn DMS Mterm Mvalue PT
  have GRl := ok_rel (base := base) (w := w) Mrelation.fn DMS Mone_sort PT
  have GSu := ok_sumsD (base := base) (w := w) DMS Mvalue Mone_more Mpiece Mproduct Msums PT 20
  have GPt := ok_part Mpart.fn DMS Mterms Msums PT GTm GSu
  have GBo := ok_body Mbody.fn DMS Mpart PT GPt
  have GRu := ok_rule Mrule.fn DMS Mterms Mbody PT GTm GBo
  have GPg := ok_prog Mprogram.fn DMS Mrelation Mbody Mrule PT GRl GBo GRu
  have GPa := ok_parse DPa.fn PT (PySem.W.mg_of X G aP) MK bI GIn Mprogram GPg
  have GPr := (ok_ruleF DPr.fn DMS PT (PySem.W.mg_of X G aP) MK bI GIn Mrule GRu).mono (show 73 ≤ 74 by decide)
  have GNx : FnOk l.prog w K mg base CX0 1 f7 _ ["state", "limit"] spNext := ok_next DNx.fn T
  have GNm := ok_name DNm.fn DNx GNx
  have GTt := ok_termT DTt.fn DNx GNx
  have GRo : FnOk l.prog w K mg base CX0 1 f11 _ ["parts"] spRowT := ok_rowT DRo.fn ⟨nn zenumerate⟩
  have GX1 := ok_expr DEx DNx GNx 1 (by decide)
  have GX2 := ok_expr DEx DNx GNx 2 (by decide)
  have GPT := ok_partT DPt.fn TL DNx GNx DNm GNm DTt GTt DRo GRo DEx GX1 GX2
  have GBT := ok_bodyT DBt.fn TL DNx GNx DPt GPT
  have GUT := ok_ruleT DUt.fn TL DNx GNx DNm GNm DTt GTt DRo GRo DBt GBT
  have GIT := ok_itemT DIt.fn TL DNx GNx DNm GNm DRo GRo DBt GBT DUt GUT
  have GPP := ok_plc DPl.fn T TS DPa.k DPa.b GPa
  have GPR := ok_plc DPl.fn T TS DPr.k DPr.b GPr
  have GWr := ok_written DWr.fn T DNx GNx
  have GSa : FnOk l.prog w K mg base CX0 19 f8 _ ["actual", "expected"] (spSameD 18) := ok_sameD T DSa 18
  have GRP := ok_right DRi.fn T reader_parse DPa.k DPa.b GPa DNx GNx DWr GWr DPl GPP DSa GSa
  have GRR := ok_right DRi.fn T reader_rule DPr.k DPr.b GPr DNx GNx DWr GWr DPl GPR DSa GSa
  exact ok_law F43 T TL DPa GPa DPr GPr DNx GNx DWr GWr DPl GPP GPR DSa GSa DIt GIT DUt GUT DRi GRP GRR
theorem walk {l : PySem.W.OpenLaw} {q : Program} {loose : List Str} {XP : (Str → Option Value) → Heap → Prop} {YP : World → Heap → Prop} {d : DefRec} {K : Params → PySem.W.Frag} (hn : l.most = some 63) (hdf : d.params.defaults = [])
    (hY : ∀ (w : World) (h : Heap), YP w h → (K w.params).In h)
    (F : ∀ (w : World) (mg : Str → Option Value) (fa : Addr) (h : Heap), (K w.params).In h → h.Ns mainGlobals mg → mg d.name = some (.ref fa) →
      ∃ fd : FuncData, (∀ (s : Shared) (u : Value), BindsTo s fd ⟨[u], []⟩ [("script", u)]) ∧ ∀ base : Heap, (K w.params).In base → base.Ns mainGlobals mg → FnOk l.prog w (K w.params) mg base CX0 77 fa fd ["script"] (spLaw (K w.params))) :
    PySem.W.WalkO q loose XP YP l.row.toRowW d [] (fun f vs => PySem.call f vs) :=
  L2.walk_of (n := 63) (k := 77) (x := "script") (CX := fun _ => CX0) (sp := fun w => spLaw (K w.params)) hn (by decide) hdf ⟨rfl, by decide, by decide⟩ hY F (fun _ _ a ns hl _ hS => ⟨a, ns, rfl, hS, hl, fun _ => rfl⟩) fun _ _ _ _ _ z => z
end K9
set_option Elab.async false
set_option linter.all false
open PySem PySem.W PyProof.Rows in
set_option maxRecDepth 100000 in
set_option maxHeartbeats 0 in
theorem PySem.Challenge.cw_askproved_k78_texts_are_refused_just_whe_holds : PySem.Challenge.rw_askproved_k78_texts_are_refused_just_whe.Holds := by
  w_on; o_law; k_head; (case hw => w_witness2)
  k_fill
  refine K9.walk (l := PySem.Challenge.rw_askproved_k78_texts_are_refused_just_whe) rfl rfl (fun w h Y => PySem.W.kIn_of Y) ?F
  case F =>
    intro w mg fa h KX G hmg
    refine' K9.all_mk KX G hmg ?aC ?xC ?al ?sa ?ga ?gg ?np ?aI ?tI ?lI ?cI ?lc ?vc ?ef ?es ?lcc ?kC ?eC ?vC ?sC ?yC ?nX ?te ?hd ?zsuper ?zstr ?zlen ?zint ?zmin ?ztuple ?zlist ?zrange ?zbool ?zisinstance ?zenumerate ?zValueError ?aA ?kA ?kV ?ha ?hn ?ht ?hm ?gLATER ?eLATER ?gLETTERS ?eLETTERS ?gDIGITS ?eDIGITS ?gMOST_WORD ?gMOST_DIGITS ?gMOST_NUMBER ?gMOST_TOKENS ?gMOST_OPEN ?gMOST_IN_ROW ?gMOST_PARTS ?gMOST_COLUMNS ?gKEYWORDS ?lKEYWORDS ?vKEYWORDS ?gSIGNS ?lSIGNS ?vSIGNS ?aP ?ppg ?phd ?ppo ?psa ?pmk ?pkc ?ntokens ?nlength ?nat ?nopened ?a1 ?l1 ?c1 ?k1 ?a2 ?l2 ?c2 ?k2 ?a3 ?l3 ?c3 ?k3 ?a4 ?l4 ?c4 ?k4 ?a5 ?l5 ?c5 ?k5 ?a6 ?l6 ?c6 ?k6 ?a7 ?l7 ?c7 ?k7 ?a8 ?l8 ?c8 ?k8 ?a9 ?l9 ?c9 ?k9 ?a10 ?l10 ?c10 ?k10 ?a11 ?l11 ?c11 ?k11 ?a12 ?l12 ?c12 ?k12 ?a13 ?l13 ?c13 ?k13 ?a14 ?l14 ?c14 ?k14 ?a15 ?l15 ?c15 ?k15 ?a16 ?l16 ?c16 ?k16 ?a17 ?l17 ?c17 ?k17 ?a18 ?l18 ?c18 ?k18 ?a19 ?l19 ?c19 ?k19 ?a20 ?i20 ?l20 ?c20 ?k20 ?a21 ?i21 ?l21 ?c21 ?k21 ?a22 ?i22 ?l22 ?c22 ?k22 ?a23 ?i23 ?l23 ?c23 ?k23 ?a24 ?i24 ?l24 ?c24 ?k24 ?a25 ?i25 ?l25 ?c25 ?k25 ?a26 ?i26 ?l26 ?c26 ?k26 ?a27 ?i27 ?l27 ?c27 ?k27 ?a28 ?i28 ?l28 ?c28 ?k28 ?a29 ?i29 ?l29 ?c29 ?k29 ?a30 ?i30 ?l30 ?c30 ?k30 ?a31 ?i31 ?l31 ?c31 ?k31 ?a32 ?i32 ?l32 ?c32 ?k32 ?a33 ?i33 ?l33 ?c33 ?k33 ?a34 ?i34 ?l34 ?c34 ?k34 ?a35 ?i35 ?l35 ?c35 ?k35 ?a36 ?i36 ?l36 ?c36 ?k36 ?a37 ?i37 ?l37 ?c37 ?k37 ?a38 ?i38 ?l38 ?c38 ?k38 ?a39 ?i39 ?l39 ?c39 ?k39 ?a40 ?i40 ?l40 ?c40 ?k40 ?a41 ?i41 ?l41 ?c41 ?k41 ?a42 ?i42 ?l42 ?c42 ?k42 ?a43 ?l43 ?c43 ?k43
    (case aC => first | k_is | rfl)
    (case xC => first | k_is | rfl)
    (case al => first | k_is | rfl)
    (case sa => first | k_is | rfl)
    (case ga => first | k_is | rfl)
    (case gg => first | k_is | rfl)
    (case np => first | k_is | rfl)
    (case aI => first | k_is | rfl)
    (case tI => first | k_is | rfl)
    (case lI => first | k_is | rfl)
    (case cI => first | k_is | rfl)
    (case lc => first | k_is | rfl)
    (case vc => first | rfl | kernel_rfl | decide +kernel)
    (case ef => first | rfl | kernel_rfl | decide +kernel)
    (case es => first | rfl | kernel_rfl | decide +kernel)
    (case lcc => first | k_is | rfl)
    (case kC => first | k_is | rfl)
    (case eC => first | k_is | rfl)
    (case vC => first | k_is | rfl)
    (case sC => first | k_is | rfl)
    (case yC => first | k_is | rfl)
    (case nX => first | k_is | rfl)
    (case te => first | k_is | rfl)
    (case hd => first | k_is | rfl)
    (case zsuper => first | k_is | rfl)
    (case zstr => first | k_is | rfl)
    (case zlen => first | k_is | rfl)
    (case zint => first | k_is | rfl)
    (case zmin => first | k_is | rfl)
    (case ztuple => first | k_is | rfl)
    (case zlist => first | k_is | rfl)
    (case zrange => first | k_is | rfl)
    (case zbool => first | k_is | rfl)
    (case zisinstance => first | k_is | rfl)
    (case zenumerate => first | k_is | rfl)
    (case zValueError => first | k_is | rfl)
    (case aA => first | k_is | rfl)
    (case kA => first | k_is | rfl)
    (case kV => first | k_is | rfl)
    (case ha => first | k_is | rfl)
    (case hn => first | k_is | rfl)
    (case ht => first | k_is | rfl)
    (case hm => first | k_is | rfl)
    (case gLATER => first | k_is | rfl)
    (case eLATER => first | rfl | kernel_rfl | decide +kernel)
    (case gLETTERS => first | k_is | rfl)
    (case eLETTERS => first | rfl | kernel_rfl | decide +kernel)
    (case gDIGITS => first | k_is | rfl)
    (case eDIGITS => first | rfl | kernel_rfl | decide +kernel)
    (case gMOST_WORD => first | k_is | rfl)
    (case gMOST_DIGITS => first | k_is | rfl)
    (case gMOST_NUMBER => first | k_is | rfl)
    (case gMOST_TOKENS => first | k_is | rfl)
    (case gMOST_OPEN => first | k_is | rfl)
    (case gMOST_IN_ROW => first | k_is | rfl)
    (case gMOST_PARTS => first | k_is | rfl)
    (case gMOST_COLUMNS => first | k_is | rfl)
    (case gKEYWORDS => first | k_is | rfl)
    (case lKEYWORDS => first | k_is | rfl)
    (case vKEYWORDS => first | rfl | kernel_rfl | decide +kernel)
    (case gSIGNS => first | k_is | rfl)
    (case lSIGNS => first | k_is | rfl)
    (case vSIGNS => first | rfl | kernel_rfl | decide +kernel)
    (case aP => first | k_is | rfl)
    (case ppg => first | k_is | rfl)
    (case phd => first | k_is | rfl)
    (case ppo => first | k_is | rfl)
    (case psa => first | k_is | rfl)
    (case pmk => first | k_is | rfl)
    (case pkc => first | k_is | rfl)
    (case ntokens => first | k_is | rfl)
    (case nlength => first | k_is | rfl)
    (case nat => first | k_is | rfl)
    (case nopened => first | k_is | rfl)
    (case a1 => first | k_is | rfl)
    (case l1 => first | k_is | rfl)
    (case c1 => first | k_is | rfl)
    (case k1 => first | k_is | rfl)
    (case a2 => first | k_is | rfl)
    (case l2 => first | k_is | rfl)
    (case c2 => first | k_is | rfl)
    (case k2 => first | k_is | rfl)
    (case a3 => first | k_is | rfl)
    (case l3 => first | k_is | rfl)
    (case c3 => first | k_is | rfl)
    (case k3 => first | k_is | rfl)
    (case a4 => first | k_is | rfl)
    (case l4 => first | k_is | rfl)
    (case c4 => first | k_is | rfl)
    (case k4 => first | k_is | rfl)
    (case a5 => first | k_is | rfl)
    (case l5 => first | k_is | rfl)
    (case c5 => first | k_is | rfl)
    (case k5 => first | k_is | rfl)
    (case a6 => first | k_is | rfl)
    (case l6 => first | k_is | rfl)
    (case c6 => first | k_is | rfl)
    (case k6 => first | k_is | rfl)
    (case a7 => first | k_is | rfl)
    (case l7 => first | k_is | rfl)
    (case c7 => first | k_is | rfl)
    (case k7 => first | k_is | rfl)
    (case a8 => first | k_is | rfl)
    (case l8 => first | k_is | rfl)
    (case c8 => first | k_is | rfl)
    (case k8 => first | k_is | rfl)
    (case a9 => first | k_is | rfl)
    (case l9 => first | k_is | rfl)
    (case c9 => first | k_is | rfl)
    (case k9 => first | k_is | rfl)
    (case a10 => first | k_is | rfl)
    (case l10 => first | k_is | rfl)
    (case c10 => first | k_is | rfl)
    (case k10 => first | k_is | rfl)
    (case a11 => first | k_is | rfl)
    (case l11 => first | k_is | rfl)
    (case c11 => first | k_is | rfl)
    (case k11 => first | k_is | rfl)
    (case a12 => first | k_is | rfl)
    (case l12 => first | k_is | rfl)
    (case c12 => first | k_is | rfl)
    (case k12 => first | k_is | rfl)
    (case a13 => first | k_is | rfl)
    (case l13 => first | k_is | rfl)
    (case c13 => first | k_is | rfl)
    (case k13 => first | k_is | rfl)
    (case a14 => first | k_is | rfl)
    (case l14 => first | k_is | rfl)
    (case c14 => first | k_is | rfl)
    (case k14 => first | k_is | rfl)
    (case a15 => first | k_is | rfl)
    (case l15 => first | k_is | rfl)
    (case c15 => first | k_is | rfl)
    (case k15 => first | k_is | rfl)
    (case a16 => first | k_is | rfl)
    (case l16 => first | k_is | rfl)
    (case c16 => first | k_is | rfl)
    (case k16 => first | k_is | rfl)
    (case a17 => first | k_is | rfl)
    (case l17 => first | k_is | rfl)
    (case c17 => first | k_is | rfl)
    (case k17 => first | k_is | rfl)
    (case a18 => first | k_is | rfl)
    (case l18 => first | k_is | rfl)
    (case c18 => first | k_is | rfl)
    (case k18 => first | k_is | rfl)
    (case a19 => first | k_is | rfl)
    (case l19 => first | k_is | rfl)
    (case c19 => first | k_is | rfl)
    (case k19 => first | k_is | rfl)
    (case a20 => first | k_is | rfl)
    (case i20 => first | k_is | rfl)
    (case l20 => first | k_is | rfl)
    (case c20 => first | k_is | rfl)
    (case k20 => first | k_is | rfl)
    (case a21 => first | k_is | rfl)
    (case i21 => first | k_is | rfl)
    (case l21 => first | k_is | rfl)
    (case c21 => first | k_is | rfl)
    (case k21 => first | k_is | rfl)
    (case a22 => first | k_is | rfl)
    (case i22 => first | k_is | rfl)
    (case l22 => first | k_is | rfl)
    (case c22 => first | k_is | rfl)
    (case k22 => first | k_is | rfl)
    (case a23 => first | k_is | rfl)
    (case i23 => first | k_is | rfl)
    (case l23 => first | k_is | rfl)
    (case c23 => first | k_is | rfl)
    (case k23 => first | k_is | rfl)
    (case a24 => first | k_is | rfl)
    (case i24 => first | k_is | rfl)
    (case l24 => first | k_is | rfl)
    (case c24 => first | k_is | rfl)
    (case k24 => first | k_is | rfl)
    (case a25 => first | k_is | rfl)
    (case i25 => first | k_is | rfl)
    (case l25 => first | k_is | rfl)
    (case c25 => first | k_is | rfl)
    (case k25 => first | k_is | rfl)
    (case a26 => first | k_is | rfl)
    (case i26 => first | k_is | rfl)
    (case l26 => first | k_is | rfl)
    (case c26 => first | k_is | rfl)
    (case k26 => first | k_is | rfl)
    (case a27 => first | k_is | rfl)
    (case i27 => first | k_is | rfl)
    (case l27 => first | k_is | rfl)
    (case c27 => first | k_is | rfl)
    (case k27 => first | k_is | rfl)
    (case a28 => first | k_is | rfl)
    (case i28 => first | k_is | rfl)
    (case l28 => first | k_is | rfl)
    (case c28 => first | k_is | rfl)
    (case k28 => first | k_is | rfl)
    (case a29 => first | k_is | rfl)
    (case i29 => first | k_is | rfl)
    (case l29 => first | k_is | rfl)
    (case c29 => first | k_is | rfl)
    (case k29 => first | k_is | rfl)
    (case a30 => first | k_is | rfl)
    (case i30 => first | k_is | rfl)
    (case l30 => first | k_is | rfl)
    (case c30 => first | k_is | rfl)
    (case k30 => first | k_is | rfl)
    (case a31 => first | k_is | rfl)
    (case i31 => first | k_is | rfl)
    (case l31 => first | k_is | rfl)
    (case c31 => first | k_is | rfl)
    (case k31 => first | k_is | rfl)
    (case a32 => first | k_is | rfl)
    (case i32 => first | k_is | rfl)
    (case l32 => first | k_is | rfl)
    (case c32 => first | k_is | rfl)
    (case k32 => first | k_is | rfl)
    (case a33 => first | k_is | rfl)
    (case i33 => first | k_is | rfl)
    (case l33 => first | k_is | rfl)
    (case c33 => first | k_is | rfl)
    (case k33 => first | k_is | rfl)
    (case a34 => first | k_is | rfl)
    (case i34 => first | k_is | rfl)
    (case l34 => first | k_is | rfl)
    (case c34 => first | k_is | rfl)
    (case k34 => first | k_is | rfl)
    (case a35 => first | k_is | rfl)
    (case i35 => first | k_is | rfl)
    (case l35 => first | k_is | rfl)
    (case c35 => first | k_is | rfl)
    (case k35 => first | k_is | rfl)
    (case a36 => first | k_is | rfl)
    (case i36 => first | k_is | rfl)
    (case l36 => first | k_is | rfl)
    (case c36 => first | k_is | rfl)
    (case k36 => first | k_is | rfl)
    (case a37 => first | k_is | rfl)
    (case i37 => first | k_is | rfl)
    (case l37 => first | k_is | rfl)
    (case c37 => first | k_is | rfl)
    (case k37 => first | k_is | rfl)
    (case a38 => first | k_is | rfl)
    (case i38 => first | k_is | rfl)
    (case l38 => first | k_is | rfl)
    (case c38 => first | k_is | rfl)
    (case k38 => first | k_is | rfl)
    (case a39 => first | k_is | rfl)
    (case i39 => first | k_is | rfl)
    (case l39 => first | k_is | rfl)
    (case c39 => first | k_is | rfl)
    (case k39 => first | k_is | rfl)
    (case a40 => first | k_is | rfl)
    (case i40 => first | k_is | rfl)
    (case l40 => first | k_is | rfl)
    (case c40 => first | k_is | rfl)
    (case k40 => first | k_is | rfl)
    (case a41 => first | k_is | rfl)
    (case i41 => first | k_is | rfl)
    (case l41 => first | k_is | rfl)
    (case c41 => first | k_is | rfl)
    (case k41 => first | k_is | rfl)
    (case a42 => first | k_is | rfl)
    (case i42 => first | k_is | rfl)
    (case l42 => first | k_is | rfl)
    (case c42 => first | k_is | rfl)
    (case k42 => first | k_is | rfl)
    (case a43 => first | k_is | rfl)
    (case l43 => first | k_is | rfl)
    (case c43 => first | k_is | rfl)
    (case k43 => first | k_is | rfl)
