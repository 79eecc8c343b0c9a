import PyProof.Rows.All
import Wide.All
import OpenK.AllK
import Wide.FinOn
import HandS.ForMost
import HandS.IsInst
import HandS.ReplaceLit
import HandS.StrMore
import HandS.ReplaceList
import HandS.Style
import HandS.TupLe
import PyProof.Rows.Digits
import KE.KExcSuper
import HandS.Exc
import HandS.ForExc
import HandS.FStr
import HandS.ExcIs
import KE.KExcIs
import HandS.Codes
import HandS.TupAny
import HandS.EndBits
import PySem.Challenge.RW_termstead_k19_plain_wrong_texts
set_option Elab.async false
set_option linter.all false
set_option maxRecDepth 100000
set_option maxHeartbeats 4000000
/-! Plain values and their texts, in plain Lean: what is shown, what is read. -/
namespace Tst
open PySem L2 TL
/-- a plain value -/
inductive D where
  | non | bl (b : Bool) | int (i : Int) | str (z : Str) | tup (xs : List D)
/-- a sign of a text between quotes -/
def enc1 (c : Nat) : List Nat := if c = 92 then [92, 92] else if c = 34 then [92, 34] else if c = 10 then [92, 110] else [c]
def encL (s : List Nat) : List Nat := s.flatMap enc1
def numI : Int → List Nat
  | .ofNat n => numL n
  | .negSucc n => 45 :: numL (n + 1)
mutual
def D.show : D → List Nat
  | .non => [78]
  | .bl true => [84]
  | .bl false => [70]
  | .int i => numI i
  | .str z => 34 :: (encL (tl z) ++ [34])
  | .tup xs => 40 :: (joinL [32] (D.shows xs) ++ [41])
def D.shows : List D → List (List Nat)
  | [] => []
  | d :: r => d.show :: D.shows r
end
mutual
def D.deep : D → Nat
  | .tup xs => D.deeps xs + 1
  | _ => 0
def D.deeps : List D → Nat
  | [] => 0
  | d :: r => max d.deep (D.deeps r)
end
mutual
/-- the integers in it are not too long -/
def D.Fit : D → Prop
  | .int i => i.natAbs < 10 ^ 200
  | .tup xs => D.Fits xs
  | _ => True
def D.Fits : List D → Prop
  | [] => True
  | d :: r => d.Fit ∧ D.Fits r
end
theorem shows_map : ∀ xs : List D, D.shows xs = xs.map D.show
  | [] => rfl
  | d :: r => by rw [D.shows, shows_map r]; rfl
theorem fits_mem : ∀ {xs : List D}, D.Fits xs → ∀ d ∈ xs, d.Fit
  | [], _, _, h => by cases h
  | a :: r, h, d, hd => by
    rw [D.Fits] at h
    rcases List.mem_cons.mp hd with rfl | q
    · exact h.1
    · exact fits_mem h.2 d q
theorem fits_of : ∀ {xs : List D}, (∀ d ∈ xs, d.Fit) → D.Fits xs
  | [], _ => by rw [D.Fits]; trivial
  | a :: r, h => by rw [D.Fits]; exact ⟨h a List.mem_cons_self, fits_of fun d q => h d (List.mem_cons_of_mem _ q)⟩
theorem deeps_mem : ∀ {xs : List D}, ∀ d ∈ xs, d.deep ≤ D.deeps xs
  | [], _, h => by cases h
  | a :: r, d, hd => by
    rw [D.deeps]
    rcases List.mem_cons.mp hd with rfl | q
    · omega
    · have := deeps_mem d q; omega
theorem deeps_le {n : Nat} : ∀ {xs : List D}, (∀ d ∈ xs, d.deep ≤ n) → D.deeps xs ≤ n
  | [], _ => by rw [D.deeps]; omega
  | a :: r, h => by
    rw [D.deeps]
    have h1 := h a List.mem_cons_self
    have h2 := deeps_le (xs := r) fun d q => h d (List.mem_cons_of_mem _ q)
    omega

/-! ### reading -/
abbrev PR := Except Nat (D × Nat)
def textAt : List Nat → Nat → List Nat → Except Nat (List Nat × Nat)
  | [], p, _ => .error p
  | c :: r, p, acc =>
    if c = 34 then .ok (acc, p + 1)
    else if c = 92 then
      match r with
      | [] => .error (p + 1)
      | e :: r' => if e = 34 ∨ e = 92 then textAt r' (p + 2) (acc ++ [e]) else if e = 110 then textAt r' (p + 2) (acc ++ [10]) else .error (p + 1)
    else if c = 10 then .error p
    else textAt r (p + 1) (acc ++ [c])
def dig (c : Nat) : Bool := decide (48 ≤ c ∧ c ≤ 57)
def intAt (L : List Nat) (p : Nat) : PR :=
  let b := if L[p]? = some 45 then p + 1 else p
  match (L.drop b).takeWhile dig with
  | [] => .error b
  | c :: r =>
    if c = 48 then (if b > p then .error b else if r = [] then .ok (.int 0, b + 1) else .error (b + 1))
    else if r.length ≥ 2000 then .error (b + 2000)
    else .ok (.int (if b > p then - (NumText.digitsVal (c :: r) : Int) else (NumText.digitsVal (c :: r) : Int)), b + (r.length + 1))
def members (L : List Nat) (f : Nat → PR) : Nat → Nat → List D → PR
  | 0, p, _ => .error p
  | n + 1, p, acc =>
    match f p with
    | .error q => .error q
    | .ok (d, q) =>
      match L[q]? with
      | some c => if c = 41 then .ok (.tup (acc ++ [d]), q + 1) else if c = 32 then members L f n (q + 1) (acc ++ [d]) else .error q
      | none => .error q
def strOf (l : List Nat) : Str := ⟨l.toArray⟩
def valueAt (L : List Nat) : Nat → Nat → PR
  | l, p =>
    match L[p]? with
    | none => .error p
    | some c =>
      if c = 78 then .ok (.non, p + 1)
      else if c = 84 then .ok (.bl true, p + 1)
      else if c = 70 then .ok (.bl false, p + 1)
      else if c = 34 then
        match textAt (L.drop (p + 1)) (p + 1) [] with
        | .error q => .error q
        | .ok (s, q) => .ok (.str (strOf s), q)
      else if c = 40 then
        match l with
        | 0 => .error p
        | l' + 1 => if L[p + 1]? = some 41 then .ok (.tup [], p + 2) else members L (valueAt L l') (L.length + 1) (p + 1) []
      else intAt L p
def readL (L : List Nat) : Except Nat D :=
  match valueAt L 40 0 with
  | .error q => .error q
  | .ok (d, q) => if q < L.length then .error q else .ok d

/-! ### what is shown is read back -/
theorem drop_cons {L r : List Nat} {p c : Nat} (h : L.drop p = c :: r) : L[p]? = some c ∧ L.drop (p + 1) = r ∧ p < L.length := by
  have hp : p < L.length := by
    have := congrArg List.length h
    rw [List.length_drop, List.length_cons] at this
    omega
  have e := List.drop_eq_getElem_cons hp
  rw [h] at e
  injection e with e1 e2
  exact ⟨by rw [List.getElem?_eq_getElem hp, e1], e2.symm, hp⟩
theorem drop_app {L a b : List Nat} {p : Nat} (h : L.drop p = a ++ b) : L.drop (p + a.length) = b := by
  rw [← List.drop_drop, h, List.drop_left]
theorem textAt_enc : ∀ (s post : List Nat) (p : Nat) (acc : List Nat), textAt (encL s ++ 34 :: post) p acc = .ok (acc ++ s, p + (encL s).length + 1)
  | [], post, p, acc => by
    show textAt (34 :: post) p acc = _
    unfold textAt
    simp [encL]
  | c :: s, post, p, acc => by
    have e : encL (c :: s) = enc1 c ++ encL s := by simp [encL]
    have ih := fun q ac => textAt_enc s post q ac
    rw [e]
    unfold enc1
    by_cases h1 : c = 92
    · subst h1
      simp [textAt, ih]
      omega
    · by_cases h2 : c = 34
      · subst h2
        simp [textAt, ih]
        omega
      · by_cases h3 : c = 10
        · subst h3
          simp [textAt, ih]
          omega
        · rw [if_neg h1, if_neg h2, if_neg h3]
          show textAt (c :: (encL s ++ 34 :: post)) p acc = _
          unfold textAt
          rw [if_neg h2, if_neg h1, if_neg h3, ih, List.append_assoc]
          simp
          omega
theorem dig_iff (c : Nat) : dig c = true ↔ 48 ≤ c ∧ c ≤ 57 := by simp [dig]
def Stop (post : List Nat) : Prop := ∀ c r, post = c :: r → dig c = false
theorem takeWhile_stop {ds post : List Nat} (hd : ∀ c ∈ ds, dig c = true) (hs : Stop post) : (ds ++ post).takeWhile dig = ds := by
  induction ds with
  | nil =>
    cases post with
    | nil => rfl
    | cons c r => rw [List.nil_append, List.takeWhile_cons, hs c r rfl]; rfl
  | cons a ds ih =>
    rw [List.cons_append, List.takeWhile_cons, hd a List.mem_cons_self, if_pos rfl, ih fun c q => hd c (List.mem_cons_of_mem _ q)]
theorem allDig (n : Nat) : ∀ c ∈ numL n, dig c = true := fun c hc => by
  have h := numL_digits n c hc
  rw [dig_iff]
  exact ⟨h.1, h.2⟩
theorem numL_head : ∀ (n : Nat), 0 < n → ∃ c r, numL n = c :: r ∧ c ≠ 48 := by
  intro n
  induction n using Nat.strongRecOn with
  | _ n ih =>
    intro h0
    by_cases h : n < 10
    · exact ⟨48 + n, [], by rw [numL_lt h], by omega⟩
    · rw [numL_step (by omega)]
      obtain ⟨c, r, e, hc⟩ := ih (n / 10) (by omega) (by omega)
      exact ⟨c, r ++ [48 + n % 10], by rw [e]; rfl, hc⟩
theorem numL_zero : numL 0 = [48] := numL_lt (by omega)
theorem numL_short {n : Nat} (h : n < 10 ^ 200) : (numL n).length ≤ 200 := numL_len (by omega) h
theorem intAt_num {L post : List Nat} {p : Nat} {i : Int} (h : L.drop p = numI i ++ post) (hs : Stop post) (hf : i.natAbs < 10 ^ 200) : intAt L p = .ok (.int i, p + (numI i).length) := by
  cases i with
  | ofNat n =>
    have hn : n < 10 ^ 200 := by simpa using hf
    change L.drop p = numL n ++ post at h
    have hne := numL_ne n
    cases e : numL n with
    | nil => exact absurd e hne
    | cons c r =>
      rw [e] at h
      have hc : dig c = true := allDig n c (by rw [e]; exact List.mem_cons_self)
      have hc' := (dig_iff c).mp hc
      have q := (drop_cons (r := r ++ post) h).1
      have hb : (if L[p]? = some 45 then p + 1 else p) = p := by rw [q, if_neg]; intro z; injection z with z; omega
      have ht : (L.drop p).takeWhile dig = c :: r := by
        rw [h]
        exact takeWhile_stop (ds := c :: r) (fun x hx => allDig n x (by rw [e]; exact hx)) hs
      have hv := numL_val n
      rw [e] at hv
      have hlen := numL_short hn
      rw [e, List.length_cons] at hlen
      unfold intAt
      simp only [hb, ht]
      rw [show (numI (Int.ofNat n)).length = r.length + 1 by show (numL n).length = _; rw [e, List.length_cons]]
      by_cases h0 : n = 0
      · subst h0
        rw [numL_zero] at e
        injection e with e1 e2
        subst e1 e2
        simp
      · obtain ⟨c', r', e', hc0⟩ := numL_head n (by omega)
        rw [e] at e'
        injection e' with e1 e2
        subst e1 e2
        rw [if_neg hc0, if_neg (by omega), if_neg (by omega), hv]
        rfl
  | negSucc n =>
    have hn : n + 1 < 10 ^ 200 := by simpa using hf
    change L.drop p = 45 :: numL (n + 1) ++ post at h
    obtain ⟨q1, q2, _⟩ := drop_cons (c := 45) (r := numL (n + 1) ++ post) h
    obtain ⟨c, r, e, hc0⟩ := numL_head (n + 1) (by omega)
    have hv := numL_val (n + 1)
    have hlen := numL_short hn
    rw [e] at hv hlen
    rw [List.length_cons] at hlen
    have ht : (L.drop (p + 1)).takeWhile dig = c :: r := by
      rw [q2, e]
      exact takeWhile_stop (ds := c :: r) (fun x hx => allDig (n + 1) x (by rw [e]; exact hx)) hs
    unfold intAt
    simp only [q1, if_true, ht]
    rw [if_neg hc0, if_neg (by omega), if_pos (by omega), hv, show (numI (Int.negSucc n)).length = r.length + 2 by show (45 :: numL (n + 1)).length = _; rw [List.length_cons, e, List.length_cons]]
    rw [show p + 1 + (r.length + 1) = p + (r.length + 2) by omega]
    rfl
theorem num_first : ∀ i : Int, ∃ c r, numI i = c :: r ∧ (dig c = true ∨ c = 45)
  | .ofNat n => by
    cases e : numL n with
    | nil => exact absurd e (numL_ne n)
    | cons c r => exact ⟨c, r, e, .inl (allDig n c (by rw [e]; exact List.mem_cons_self))⟩
  | .negSucc n => ⟨45, _, rfl, .inr rfl⟩
theorem stop_cons {c : Nat} {r : List Nat} (h : dig c = false) : Stop (c :: r) := fun c' r' e => by
  injection e with e1 _
  rw [← e1]; exact h
/-- the members, by the reader of one -/
theorem members_show {L : List Nat} {f : Nat → PR} : ∀ (ds : List D) (d : D) (n p : Nat) (acc : List D) (post : List Nat), ds.length < n →
    (∀ x ∈ d :: ds, ∀ p post, L.drop p = x.show ++ post → Stop post → f p = .ok (x, p + x.show.length)) → L.drop p = joinL [32] (D.shows (d :: ds)) ++ 41 :: post →
    members L f n p acc = .ok (.tup (acc ++ d :: ds), p + (joinL [32] (D.shows (d :: ds))).length + 1)
  | [], d, n + 1, p, acc, post, hn, hf, h => by
    have h : L.drop p = d.show ++ 41 :: post := h
    have e := hf d List.mem_cons_self p _ h (stop_cons (by decide))
    have q := (drop_cons (drop_app h)).1
    unfold members
    simp only [e, q]
    rfl
  | d2 :: ds, d, n + 1, p, acc, post, hn, hf, h => by
    have h : L.drop p = (d.show ++ 32 :: joinL [32] (D.shows (d2 :: ds))) ++ 41 :: post := h
    rw [List.append_assoc] at h
    have e := hf d List.mem_cons_self p _ h (stop_cons (by decide))
    obtain ⟨q, q2, _⟩ := drop_cons (drop_app h)
    have ih := members_show ds d2 n (p + d.show.length + 1) (acc ++ [d]) post (by rw [List.length_cons] at hn; omega) (fun x hx => hf x (List.mem_cons_of_mem _ hx)) q2
    unfold members
    simp only [e, q]
    rw [if_neg (by decide), if_pos True.intro, ih, List.append_assoc]
    show Except.ok (D.tup (acc ++ ([d] ++ d2 :: ds)), _) = Except.ok (D.tup (acc ++ d :: d2 :: ds), p + (d.show ++ 32 :: joinL [32] (D.shows (d2 :: ds))).length + 1)
    rw [List.length_append, List.length_cons]
    simp only [List.singleton_append]
    congr 2
    omega
theorem join_first : ∀ (ds : List D) (d : D) (x : Nat) (r : List Nat), d.show = x :: r → ∃ r', joinL [32] (D.shows (d :: ds)) = x :: r'
  | [], d, x, r, e => ⟨r, e⟩
  | d2 :: ds, d, x, r, e => by
    have z : joinL [32] (D.shows (d :: d2 :: ds)) = d.show ++ 32 :: joinL [32] (D.shows (d2 :: ds)) := rfl
    rw [z, e]
    exact ⟨_, rfl⟩
theorem show_first : ∀ d : D, ∃ c r, d.show = c :: r ∧ c ≠ 41
  | .non => ⟨78, [], rfl, by decide⟩
  | .bl true => ⟨84, [], rfl, by decide⟩
  | .bl false => ⟨70, [], rfl, by decide⟩
  | .int i => by
    obtain ⟨c, r, e, h⟩ := num_first i
    refine ⟨c, r, e, ?_⟩
    rcases h with h | h
    · rw [dig_iff] at h; omega
    · omega
  | .str z => ⟨34, _, rfl, by decide⟩
  | .tup xs => ⟨40, _, rfl, by decide⟩
theorem len_join : ∀ (ds : List D), ds.length ≤ (joinL [32] (D.shows ds)).length + 1
  | [] => by simp
  | [d] => by simp
  | d :: d2 :: ds => by
    have z : joinL [32] (D.shows (d :: d2 :: ds)) = d.show ++ 32 :: joinL [32] (D.shows (d2 :: ds)) := rfl
    have ih := len_join (d2 :: ds)
    rw [z, List.length_append, List.length_cons]
    rw [List.length_cons] at ih ⊢
    rw [List.length_cons]
    omega
theorem value_show {L : List Nat} : ∀ (l : Nat) (d : D) (p : Nat) (post : List Nat), d.deep ≤ l → d.Fit → L.drop p = d.show ++ post → Stop post → valueAt L l p = .ok (d, p + d.show.length) := by
  intro l
  induction l with
  | zero =>
    intro d p post hd hf h hs
    cases d with
    | non => obtain ⟨q, _⟩ := drop_cons (c := 78) (r := post) h; unfold valueAt; simp only [q]; rfl
    | bl b =>
      cases b with
      | true => obtain ⟨q, _⟩ := drop_cons (c := 84) (r := post) h; unfold valueAt; simp only [q]; rfl
      | false => obtain ⟨q, _⟩ := drop_cons (c := 70) (r := post) h; unfold valueAt; simp only [q]; rfl
    | int i =>
      obtain ⟨c, r, e, hc⟩ := num_first i
      have q : L[p]? = some c := by
        have h' : L.drop p = numI i ++ post := h
        rw [e] at h'
        exact (drop_cons (r := r ++ post) h').1
      have hi := intAt_num (L := L) (p := p) (i := i) h hs hf
      have hc' : (48 ≤ c ∧ c ≤ 57) ∨ c = 45 := hc.imp (dig_iff c).mp id
      unfold valueAt
      simp only [q]
      rw [if_neg (by omega), if_neg (by omega), if_neg (by omega), if_neg (by omega), if_neg (by omega)]
      exact hi
    | str z =>
      have h' : L.drop p = 34 :: (encL (tl z) ++ 34 :: post) := by
        rw [h]; show 34 :: (encL (tl z) ++ [34]) ++ post = _; simp
      obtain ⟨q, q2, _⟩ := drop_cons h'
      unfold valueAt
      simp only [q, q2, textAt_enc]
      show Except.ok (D.str (strOf ([] ++ tl z)), _) = Except.ok (D.str z, p + (34 :: (encL (tl z) ++ [34])).length)
      rw [List.nil_append, show strOf (tl z) = z from mk_tl z, List.length_cons, List.length_append]
      congr 2
      show _ = p + ((encL (tl z)).length + 1 + 1)
      omega
    | tup xs => rw [D.deep] at hd; omega
  | succ l ih =>
    intro d p post hd hf h hs
    cases d with
    | non => obtain ⟨q, _⟩ := drop_cons (c := 78) (r := post) h; unfold valueAt; simp only [q]; rfl
    | bl b =>
      cases b with
      | true => obtain ⟨q, _⟩ := drop_cons (c := 84) (r := post) h; unfold valueAt; simp only [q]; rfl
      | false => obtain ⟨q, _⟩ := drop_cons (c := 70) (r := post) h; unfold valueAt; simp only [q]; rfl
    | int i =>
      obtain ⟨c, r, e, hc⟩ := num_first i
      have q : L[p]? = some c := by
        have h' : L.drop p = numI i ++ post := h
        rw [e] at h'
        exact (drop_cons (r := r ++ post) h').1
      have hi := intAt_num (L := L) (p := p) (i := i) h hs hf
      have hc' : (48 ≤ c ∧ c ≤ 57) ∨ c = 45 := hc.imp (dig_iff c).mp id
      unfold valueAt
      simp only [q]
      rw [if_neg (by omega), if_neg (by omega), if_neg (by omega), if_neg (by omega), if_neg (by omega)]
      exact hi
    | str z =>
      have h' : L.drop p = 34 :: (encL (tl z) ++ 34 :: post) := by
        rw [h]; show 34 :: (encL (tl z) ++ [34]) ++ post = _; simp
      obtain ⟨q, q2, _⟩ := drop_cons h'
      unfold valueAt
      simp only [q, q2, textAt_enc]
      show Except.ok (D.str (strOf ([] ++ tl z)), _) = Except.ok (D.str z, p + (34 :: (encL (tl z) ++ [34])).length)
      rw [List.nil_append, show strOf (tl z) = z from mk_tl z, List.length_cons, List.length_append]
      congr 2
      show _ = p + ((encL (tl z)).length + 1 + 1)
      omega
    | tup xs =>
      rw [D.deep] at hd
      rw [D.Fit] at hf
      have h' : L.drop p = 40 :: (joinL [32] (D.shows xs) ++ 41 :: post) := by
        rw [h]; show 40 :: (joinL [32] (D.shows xs) ++ [41]) ++ post = _; simp
      obtain ⟨q, q2, hp⟩ := drop_cons h'
      unfold valueAt
      simp only [q]
      rw [if_neg (by decide), if_neg (by decide), if_neg (by decide), if_neg (by decide), if_pos True.intro]
      cases xs with
      | nil =>
        have q3 : L[p + 1]? = some 41 := (drop_cons (c := 41) (r := post) q2).1
        simp only [q3, if_true]
        rfl
      | cons d ds =>
        obtain ⟨c, r, e, hc⟩ := show_first d
        obtain ⟨r', e2⟩ := join_first ds d c r e
        have q3 : L[p + 1]? = some c := by
          rw [e2] at q2
          exact (drop_cons (r := r' ++ 41 :: post) q2).1
        rw [q3, if_neg (by intro z; injection z with z; exact hc z)]
        have lenL : (joinL [32] (D.shows (d :: ds))).length + 1 ≤ L.length := by
          have z := congrArg List.length q2
          rw [List.length_drop, List.length_append, List.length_cons] at z
          omega
        have lenD := len_join (d :: ds)
        rw [List.length_cons] at lenD
        rw [members_show ds d (L.length + 1) (p + 1) [] post (by omega) (fun x hx p' post' hh hs' => ih x p' post' (Nat.le_trans (deeps_mem x hx) (by omega)) (fits_mem hf x hx) hh hs') q2]
        show Except.ok (D.tup ([] ++ d :: ds), _) = Except.ok (D.tup (d :: ds), p + (40 :: (joinL [32] (D.shows (d :: ds)) ++ [41])).length)
        rw [List.nil_append, List.length_cons, List.length_append]
        congr 2
        show _ = p + ((joinL [32] (D.shows (d :: ds))).length + 1 + 1)
        omega
theorem read_show {d : D} (hd : d.deep ≤ 40) (hf : d.Fit) : readL d.show = .ok d := by
  unfold readL
  rw [value_show 40 d 0 [] hd hf (by simp) (fun c r e => by cases e)]
  simp
end Tst
/-! Texts: slices, places, what is put in the place of signs, whole numbers. -/
namespace Tst
open PySem L2 TL PySem.StrLaws PySem.Builtin PySem.Builtin.Str
def showS (d : D) : Str := strOf d.show
theorem tl_strOf (l : List Nat) : tl (strOf l) = l := rfl
theorem strOf_tl (z : Str) : strOf (tl z) = z := mk_tl z
theorem len_strOf (l : List Nat) : (strOf l).length = l.length := by rw [len_tl, tl_strOf]
/-! ### slices -/
theorem tl_cut {z : Str} {i j : Nat} (hi : i ≤ z.length) : tl (cutS z (some (i : Int)) (some (j : Int))) = ((tl z).drop i).take (j - i) := by
  show ((tl z).drop (HT.sIx z.length 0 (some (i : Int)))).take (HT.sIx z.length z.length (some (j : Int)) - HT.sIx z.length 0 (some (i : Int))) = _
  rw [HT.sIx_nat, HT.sIx_nat, Nat.min_eq_left hi]
  have hl := len_tl z
  by_cases h : j ≤ z.length
  · rw [Nat.min_eq_left h]
  · rw [Nat.min_eq_right (by omega), List.take_of_length_le (by rw [List.length_drop]; omega), List.take_of_length_le (by rw [List.length_drop]; omega)]
/-- the sign at a place, or none -/
def sg (z : Str) (p : Nat) : Str := strOf ((tl z)[p]?.toList)
theorem cut_sg {z : Str} {p : Nat} (hp : p ≤ z.length) : cutS z (some (p : Int)) (some ((p : Int) + 1)) = sg z p := by
  refine ext_tl ?_
  rw [show ((p : Int) + 1) = ((p + 1 : Nat) : Int) by omega, tl_cut hp, show p + 1 - p = 1 by omega]
  show _ = (tl z)[p]?.toList
  cases h : (tl z).drop p with
  | nil =>
    have : (tl z).length ≤ p := by
      have := congrArg List.length h
      rw [List.length_drop, List.length_nil] at this
      omega
    rw [List.getElem?_eq_none this]
    rfl
  | cons c r => rw [(drop_cons h).1]; rfl
theorem sg_some {z : Str} {p c : Nat} (h : (tl z)[p]? = some c) : sg z p = strOf [c] := by unfold sg; rw [h]; rfl
theorem sg_none {z : Str} {p : Nat} (h : (tl z)[p]? = none) : sg z p = strOf [] := by unfold sg; rw [h]; rfl
theorem dec_s (a b : Str) : decide (V.str a = V.str b) = decide (tl a = tl b) := by
  by_cases h : a = b
  · subst h; simp
  · have h2 : ¬ tl a = tl b := fun e => h (ext_tl e)
    simp [h, h2]
/-! ### the first place of a sign -/
theorem occ_more (s sub : Str) (hi : Nat) : ∀ (l : List Nat) (st : Array Nat × Nat), 1 ≤ st.fst.size → (forIn l st (occBody s sub hi 1)).run.fst = st.fst
  | [], _, _ => rfl
  | a :: l, st, h => by
    rw [List.forIn_cons]
    unfold occBody
    rw [if_neg (fun z => absurd z.1.1.1 (Nat.not_lt.mpr h))]
    exact occ_more s sub hi l _ h
theorem occ_first (s : Str) (c hi : Nat) : ∀ (n a k : Nat), (∀ i, a ≤ i → i < k → (tl s)[i]? ≠ some c) → a ≤ k → k < a + n → k < hi → hi ≤ s.length → (tl s)[k]? = some c →
    (forIn (List.range' a n) ((#[] : Array Nat), a) (occBody s ⟨#[c]⟩ hi 1)).run.fst = #[k] := by
  have one : (⟨#[c]⟩ : Str).length = 1 := rfl
  have sub : ∀ i, i + 1 ≤ s.length → (subAt s ⟨#[c]⟩ i = true ↔ (tl s)[i]? = some c) := fun i hi => by
    have h := subAt_one s c i
    rw [one] at h
    exact ⟨fun q => h.mp ⟨hi, q⟩, fun q => (h.mpr q).2⟩
  suffices H : ∀ (n a free k : Nat), free ≤ a → (∀ i, a ≤ i → i < k → (tl s)[i]? ≠ some c) → a ≤ k → k < a + n → k < hi → hi ≤ s.length → (tl s)[k]? = some c →
      (forIn (List.range' a n) ((#[] : Array Nat), free) (occBody s ⟨#[c]⟩ hi 1)).run.fst = #[k] from fun n a k h1 h2 h3 h4 h5 h6 => H n a a k (Nat.le_refl _) h1 h2 h3 h4 h5 h6
  intro n
  induction n with
  | zero => intro a free k _ _ h1 h2; omega
  | succ n ih =>
    intro a free k hf h0 h1 h2 h3 h4 h5
    rw [List.range'_succ, List.forIn_cons]
    unfold occBody
    rw [one]
    by_cases e : a = k
    · subst e
      rw [if_pos ⟨⟨⟨by show (0 : Nat) < 1; omega, hf⟩, by omega⟩, (sub a (by omega)).mpr h5⟩]
      exact occ_more s ⟨#[c]⟩ hi _ _ (by show (1 : Nat) ≤ 1; omega)
    · rw [if_neg (fun z => h0 a (Nat.le_refl _) (by omega) ((sub a (by have := z.1.2; omega)).mp z.2))]
      exact ih (a + 1) free k (by omega) (fun i hi hk => h0 i (by omega) hk) (by omega) (by omega) h3 h4 h5
theorem occ_never (s : Str) (c hi a n : Nat) (hs : hi ≤ s.length) (h : ∀ i, a ≤ i → i < hi → (tl s)[i]? ≠ some c) :
    (forIn (List.range' a n) ((#[] : Array Nat), a) (occBody s ⟨#[c]⟩ hi 1)).run.fst = #[] := by
  refine (occ_none s ⟨#[c]⟩ hi (List.range' a n) a (fun i hi => (List.mem_range'_1.mp hi).1)).mpr fun i hi' hc => ?_
  have h1 : i + 1 ≤ hi := hc.1
  have hsub := (subAt_one s c i).mp ⟨by show i + 1 ≤ s.length; omega, hc.2⟩
  exact h i (List.mem_range'_1.mp hi').1 (by omega) hsub
theorem findIn_first {s : Str} {c p e k : Nat} (hp : p ≤ k) (hk : k < e) (he : e ≤ s.length) (h0 : ∀ i, p ≤ i → i < k → (tl s)[i]? ≠ some c) (h1 : (tl s)[k]? = some c) :
    occurrences s ⟨#[c]⟩ p e 1 = [k] := by
  rw [occ_eq, occ_first s c e (e + 1 - p) p k h0 hp (by omega) hk he h1]
theorem findIn_never {s : Str} {c p e : Nat} (he : e ≤ s.length) (h : ∀ i, p ≤ i → i < e → (tl s)[i]? ≠ some c) :
    occurrences s ⟨#[c]⟩ p e 1 = [] := by
  rw [occ_eq, occ_never s c e p _ he h]
theorem from_nat {n p : Nat} : fromIndex n (p : Int) = p := by
  unfold fromIndex
  rw [if_neg (by omega)]
  omega
theorem toIx {n e : Nat} (h : e ≤ n) : toIndexW n (e : Int) = e := by
  unfold toIndexW
  rw [if_neg (by omega)]
  omega
theorem find4_first {s : Str} {c p e k : Nat} (hp : p ≤ k) (hk : k < e) (he : e ≤ s.length) (h0 : ∀ i, p ≤ i → i < k → (tl s)[i]? ≠ some c) (h1 : (tl s)[k]? = some c) :
    Txt.findIn s ⟨#[c]⟩ (p : Int) (e : Int) = (k : Int) := by
  unfold Txt.findIn
  rw [toIx he, show fromIndex s.length (p : Int) = p from from_nat, findIn_first hp hk he h0 h1]
theorem find4_never {s : Str} {c p e : Nat} (hp : p ≤ s.length) (he : e ≤ s.length) (h : ∀ i, p ≤ i → i < e → (tl s)[i]? ≠ some c) :
    Txt.findIn s ⟨#[c]⟩ (p : Int) (e : Int) = -1 := by
  unfold Txt.findIn
  rw [toIx he, show fromIndex s.length (p : Int) = p from from_nat, findIn_never he h]
theorem find3_first {s : Str} {c p k : Nat} (hp : p ≤ k) (hk : k < s.length) (h0 : ∀ i, p ≤ i → i < k → (tl s)[i]? ≠ some c) (h1 : (tl s)[k]? = some c) :
    Txt.find3 s ⟨#[c]⟩ (p : Int) = (k : Int) := by
  unfold Txt.find3
  rw [show fromIndex s.length (p : Int) = p from from_nat, findIn_first hp hk (Nat.le_refl _) h0 h1]
theorem find3_never {s : Str} {c p : Nat} (hp : p ≤ s.length) (h : ∀ i, p ≤ i → i < s.length → (tl s)[i]? ≠ some c) :
    Txt.find3 s ⟨#[c]⟩ (p : Int) = -1 := by
  unfold Txt.find3
  rw [show fromIndex s.length (p : Int) = p from from_nat, findIn_never (Nat.le_refl _) h]
/-! ### what is put in the place of signs -/
theorem replL_one (c : Nat) (z : List Nat) : ∀ l : List Nat, replL [c] z l = l.flatMap fun x => if x = c then z else [x]
  | [] => by rw [replL_nil]; rfl
  | x :: r => by
    by_cases h : x = c
    · subst h
      rw [replL_hit (by simp) (by simp)]
      rw [show ([x] : List Nat).length = 1 from rfl, List.drop_one, List.tail_cons, replL_one x z r, List.flatMap_cons, if_pos rfl]
    · rw [replL_miss (by simp; exact h), replL_one c z r, List.flatMap_cons, if_neg h]
      rfl
theorem flat_enc (s : List Nat) : (((s.flatMap fun x => if x = 92 then [92, 92] else [x]).flatMap fun x => if x = 34 then [92, 34] else [x]).flatMap fun x => if x = 10 then [92, 110] else [x]) = encL s := by
  rw [List.flatMap_assoc, List.flatMap_assoc]
  unfold encL
  congr 1
  funext x
  unfold enc1
  by_cases h1 : x = 92
  · subst h1; rfl
  · rw [if_neg h1, if_neg h1]
    by_cases h2 : x = 34
    · subst h2; rfl
    · rw [if_neg h2]
      by_cases h3 : x = 10
      · subst h3; rfl
      · rw [if_neg h3]
        simp [h1, h2, h3]
theorem repl_enc (z : Str) : Txt.replace (Txt.replace (Txt.replace z (Str.ofString "\\") (Str.ofString "\\\\")) (Str.ofString "\"") (Str.ofString "\\\"")) (Str.ofString "\n") (Str.ofString "\\n") = strOf (encL (tl z)) := by
  refine ext_tl ?_
  show (Txt.replace _ _ _).cps.toList = encL (tl z)
  rw [replace_list (by decide +kernel), replace_list (by decide +kernel), replace_list (by decide +kernel)]
  rw [show (Str.ofString "\\").cps.toList = [92] by decide +kernel, show (Str.ofString "\\\\").cps.toList = [92, 92] by decide +kernel, show (Str.ofString "\"").cps.toList = [34] by decide +kernel,
    show (Str.ofString "\\\"").cps.toList = [92, 34] by decide +kernel, show (Str.ofString "\n").cps.toList = [10] by decide +kernel, show (Str.ofString "\\n").cps.toList = [92, 110] by decide +kernel]
  rw [replL_one, replL_one, replL_one]
  exact flat_enc _
theorem len_enc : ∀ s : List Nat, (encL s).length ≤ 2 * s.length
  | [] => by simp [encL]
  | c :: s => by
    have ih := len_enc s
    have e : encL (c :: s) = enc1 c ++ encL s := by simp [encL]
    have h : (enc1 c).length ≤ 2 := by unfold enc1; repeat (first | (split) | simp)
    rw [e, List.length_append, List.length_cons]
    omega
theorem enc_len : ∀ s : List Nat, s.length ≤ (encL s).length
  | [] => by simp [encL]
  | c :: s => by
    have ih := enc_len s
    have e : encL (c :: s) = enc1 c ++ encL s := by simp [encL]
    have h : 1 ≤ (enc1 c).length := by unfold enc1; repeat (first | (split) | simp)
    rw [e, List.length_append, List.length_cons]
    omega
/-! ### whole numbers -/
theorem int_show (i : Int) : Str.ofString (toString i) = strOf (numI i) := by
  refine ext_tl ?_
  cases i with
  | ofNat n => exact tl_num n
  | negSucc n =>
    have e : (toString (Int.negSucc n) : String) = "-" ++ toString (((n + 1 : Nat)) : Int) := rfl
    rw [e, tl_ofString, String.toList_append, List.map_append, ← tl_ofString, ← tl_ofString, tl_num]
    rfl
theorem log_small {i : Int} (h : i.natAbs < 10 ^ 200) : i.natAbs.log2 < 1920 := by
  by_cases h0 : i.natAbs = 0
  · rw [h0]; decide
  · rw [Nat.log2_lt h0]
    exact Nat.lt_trans h (by decide +kernel)
end Tst
/-! Rules of our own over the hand layer: a call by a def's fact, is True, is False, isinstance of plain things, + of a replaced text; plain values on the heap. -/
namespace Tst
open PySem PySem.Spec PyProof.Rows L2
/-- a def that stands in the text, its promise kept -/
structure Cal (P : Program) (w : World) (K : PySem.W.Frag) (mg : Str → Option Value) (base : Heap) (CX : CXT) (k : Nat) (x : Str) (ps : List Str) (sp : Sp) : Prop where
  ex : ∃ f fd, FnOk P w K mg base CX k f fd ps sp ∧ Binds K fd ps [] ∧ PySem.W.keepIn K (.ref f) = true ∧ mg x = some (.ref f)
theorem Cal.mono {P : Program} {w : World} {K : PySem.W.Frag} {mg : Str → Option Value} {base : Heap} {CX : CXT} {j k : Nat} {x : Str} {ps : List Str} {sp : Sp} (C : Cal P w K mg base CX j x ps sp) (h : j ≤ k) : Cal P w K mg base CX k x ps sp := by
  obtain ⟨f, fd, F, b, kp, m⟩ := C.ex
  exact ⟨f, fd, F.mono h, b, kp, m⟩
/-- a promise that is never asked -/
def spNo : Sp := fun _ _ _ _ => False
theorem Cal.no {P : Program} {w : World} {K : PySem.W.Frag} {mg : Str → Option Value} {base : Heap} {CX : CXT} {k : Nat} {x : Str} {ps : List Str} {sp : Sp} {f : Addr} {fd : FuncData} (b : Binds K fd ps []) (kp : PySem.W.keepIn K (.ref f) = true) (m : mg x = some (.ref f))
    (no : ∀ vs H Q E, ¬ sp vs H Q E) : Cal P w K mg base CX k x ps sp :=
  ⟨f, fd, ⟨fun vs H Q E h => absurd h (no vs H Q E), fun A outer s H args us vs Q E _ _ _ _ h => absurd h (no vs H Q E)⟩, b, kp, m⟩
section
variable {X : Cx} {CX : CXT} {k : Nat} {x : Str} {ps : List Str} {sp : Sp} {E : XK} {e : Expr} {es : List Expr} {t : TA} {p pos : Pos}
theorem pe_cal (C : Cal X.prog X.w X.K X.mg X.base CX k x ps sp) (hr : Room k X.A) (hg : Gl X x) (hx : Passes CX X E)
    (ha : PA X (e :: es) t) (hdb : (x == ("__debug__" : Str)) = false := by decide) (he : starEach (e :: es) X.env = (false, eval e X.env) :: starEach es X.env := by rfl) (hpl : (backTo pos (starEach es X.env)).any (·.1) = false := by rfl) :
    PE X (.Call (.Name x p) (e :: es) [] pos) (tCall sp [] E t) := by
  obtain ⟨f, fd, F, b, kp, m⟩ := C.ex
  exact pe_call F hr hg m kp b .nil hx ha hdb he hpl
theorem pe_cal0 (C : Cal X.prog X.w X.K X.mg X.base CX k x ps sp) (hr : Room k X.A) (hg : Gl X x) (hx : Passes CX X E) (hdb : (x == ("__debug__" : Str)) = false := by decide) :
    PE X (.Call (.Name x p) [] [] pos) (tCall sp [] E tNil) := by
  obtain ⟨f, fd, F, b, kp, m⟩ := C.ex
  exact pe_call0 F hr hg m kp b .nil hx hdb
end
/-! ### is True, is False, of anything plain -/
def rIsBl (neg : Bool) : R2 := fun x y H Q => ∃ b, y = .bl b ∧ (∀ n, x ≠ .ty n) ∧ (∀ n, x ≠ .flt n) ∧ Q (.bl (xor neg (decide (x = .bl b)))) H
section
variable {X : Cx}
theorem op_isB : OpR X (compareOp .Is) (rIsBl false) := by
  intro pins s σ H x y v u Q I rx ry h
  obtain ⟨b, rfl, _, _, q⟩ := h
  cases (show u = Value.bool b from ry)
  cases x with
  | non => cases (show v = Value.none from rx); exact wpAny_is_other rfl (fun z => nomatch z) ⟨.bl false, H, I, rfl, by simpa using q⟩
  | bl a =>
    cases (show v = Value.bool a from rx)
    by_cases e : a = b
    · subst e; exact wpAny_is_self rfl ⟨.bl true, H, I, rfl, by simpa using q⟩
    · exact wpAny_is_other rfl (fun z => e (Value.bool.inj z)) ⟨.bl false, H, I, rfl, by simpa [e] using q⟩
  | int i => obtain ⟨t, rfl⟩ := (show ∃ t, v = Value.int i t from rx); exact wpAny_is_other rfl (fun z => nomatch z) ⟨.bl false, H, I, rfl, by simpa using q⟩
  | str i => obtain ⟨t, rfl⟩ := (show ∃ t, v = Value.str i t from rx); exact wpAny_is_other rfl (fun z => nomatch z) ⟨.bl false, H, I, rfl, by simpa using q⟩
  | byt i => obtain ⟨t, rfl⟩ := (show ∃ t, v = Value.bytes i t from rx); exact wpAny_is_other rfl (fun z => nomatch z) ⟨.bl false, H, I, rfl, by simpa using q⟩
  | flt i => obtain ⟨t, rfl⟩ := (show ∃ t, v = Value.float i t from rx); exact wpAny_is_other rfl (fun z => nomatch z) ⟨.bl false, H, I, rfl, by simpa using q⟩
  | ref a => cases (show v = Value.ref a from rx); exact wpAny_is_other rfl (fun z => nomatch z) ⟨.bl false, H, I, rfl, by simpa using q⟩
  | ty n => cases (show v = Value.type n from rx); exact wpAny_is_other rfl (fun z => nomatch z) ⟨.bl false, H, I, rfl, by simpa using q⟩
theorem op_notB : OpR X (compareOp .IsNot) (rIsBl true) := by
  intro pins s σ H x y v u Q I rx ry h
  obtain ⟨b, rfl, _, _, q⟩ := h
  cases (show u = Value.bool b from ry)
  cases x with
  | non => cases (show v = Value.none from rx); exact wpAny_isNot_other rfl (fun z => nomatch z) ⟨.bl true, H, I, rfl, by simpa using q⟩
  | bl a =>
    cases (show v = Value.bool a from rx)
    by_cases e : a = b
    · subst e; exact wpAny_isNot_self rfl ⟨.bl false, H, I, rfl, by simpa using q⟩
    · exact wpAny_isNot_other rfl (fun z => e (Value.bool.inj z)) ⟨.bl true, H, I, rfl, by simpa [e] using q⟩
  | int i => obtain ⟨t, rfl⟩ := (show ∃ t, v = Value.int i t from rx); exact wpAny_isNot_other rfl (fun z => nomatch z) ⟨.bl true, H, I, rfl, by simpa using q⟩
  | str i => obtain ⟨t, rfl⟩ := (show ∃ t, v = Value.str i t from rx); exact wpAny_isNot_other rfl (fun z => nomatch z) ⟨.bl true, H, I, rfl, by simpa using q⟩
  | byt i => obtain ⟨t, rfl⟩ := (show ∃ t, v = Value.bytes i t from rx); exact wpAny_isNot_other rfl (fun z => nomatch z) ⟨.bl true, H, I, rfl, by simpa using q⟩
  | flt i => obtain ⟨t, rfl⟩ := (show ∃ t, v = Value.float i t from rx); exact wpAny_isNot_other rfl (fun z => nomatch z) ⟨.bl true, H, I, rfl, by simpa using q⟩
  | ref a => cases (show v = Value.ref a from rx); exact wpAny_isNot_other rfl (fun z => nomatch z) ⟨.bl true, H, I, rfl, by simpa using q⟩
  | ty n => cases (show v = Value.type n from rx); exact wpAny_isNot_other rfl (fun z => nomatch z) ⟨.bl true, H, I, rfl, by simpa using q⟩
/-! ### written text + a text that wants a token -/
theorem pe_opT {op : Operator} {r : R2} {c : Str} {f : Expr} {tf : TE} {j : Nat} {p pos : Pos} (ho : OpR X (binaryOp op) r) (hb : PET X f tf) : PE X (.BinOp (.Constant (.str c) j p) op f pos) (tOp r (tC (.str c)) tf) := by
  refine ⟨fun pins s σ H Q I h => ?_⟩
  refine wpAny_BinOp (Calls.Constant_str ?_)
  exact thn (hb pins { s with toks := s.toks + 1 } σ H _ (by show 1 ≤ s.toks + 1; omega) (I.tok _) h) fun u s2 ⟨y, H2, I2, r2, q2⟩ => ho pins s2 σ H2 (.str c) y _ u Q I2 ⟨_, rfl⟩ r2 q2
/-! ### isinstance(x, T), T a built-in class -/
def kindO : Option HO → Option String
  | some (.tup _) => some "tuple"
  | some (.lst _) => some "list"
  | some (.dK _) => some "dict"
  | some (.dT _) => some "dict"
  | _ => none
def kindV (H : Hp) : V → Option String
  | .non => some "NoneType"
  | .bl _ => some "bool"
  | .int _ => some "int"
  | .str _ => some "str"
  | .ref a => kindO (H a)
  | _ => none
theorem kindV_ty {K : PySem.W.Frag} {H : Hp} {x : V} {t : String} (h : kindV H x = some t) : TyX K H x (.type t) := by
  cases x with
  | non => cases h; exact .base .non
  | bl b => cases h; exact .base (.bl b)
  | int i => cases h; exact .base (.int i)
  | str z => cases h; exact .base (.str z)
  | ref a =>
    have h : kindO (H a) = some t := h
    cases e : H a with
    | none => rw [e] at h; cases h
    | some o =>
      rw [e] at h
      cases o <;> first
        | (cases h; exact .base (.tup e))
        | (cases h; exact .base (.lst e))
        | (cases h; exact .base (.dK e))
        | (cases h; exact .base (.dT e))
        | cases h
  | byt b => cases h
  | flt b => cases h
  | ty n => cases h
/-- what isinstance tells of the kinds -/
def isK (t T : String) : Option Bool := kitB t T
def rIsK : List V → Hp → VK → Prop := fun xs H Q => ∃ x T t b, xs = [x, .ty T] ∧ kindV H x = some t ∧ kitB t T = some b ∧ Q (.bl b) H
theorem call_isK : CallR X (.builtin "isinstance") rIsK := by
  intro pins s σ H xs us Q I r h
  obtain ⟨x, T, t, b, rfl, hk, hb, q⟩ := h
  exact call_isi pins s σ H _ us Q I r ⟨x, .ty T, .type t, .type T, b, rfl, .ty T, kindV_ty hk, kit_ty hb, q⟩
end
theorem kb_it : kitB "int" "tuple" = some false := by decide +kernel
theorem kb_ii : kitB "int" "int" = some true := by decide +kernel
theorem kb_ib : kitB "int" "bool" = some false := by decide +kernel
theorem kb_is : kitB "int" "str" = some false := by decide +kernel
theorem kb_tt : kitB "tuple" "tuple" = some true := by decide +kernel
theorem kb_ti : kitB "tuple" "int" = some false := by decide +kernel
theorem kb_ts : kitB "tuple" "str" = some false := by decide +kernel
theorem kb_ss : kitB "str" "str" = some true := by decide +kernel
theorem kb_si : kitB "str" "int" = some false := by decide +kernel
theorem kb_st : kitB "str" "tuple" = some false := by decide +kernel
theorem kb_nt : kitB "NoneType" "tuple" = some false := by decide +kernel
theorem kb_bt : kitB "bool" "tuple" = some false := by decide +kernel
theorem kb_bb : kitB "bool" "bool" = some true := by decide +kernel
/-! ### plain values on the heap -/
mutual
def Rp (H : Hp) : D → V → Prop
  | .non, v => v = .non
  | .bl b, v => v = .bl b
  | .int i, v => v = .int i
  | .str z, v => v = .str z
  | .tup xs, v => ∃ a vs, v = .ref a ∧ H a = some (.tup vs) ∧ Rps H xs vs
def Rps (H : Hp) : List D → List V → Prop
  | [], vs => vs = []
  | d :: ds, vs => ∃ v r, vs = v :: r ∧ Rp H d v ∧ Rps H ds r
end
/-- the tuples stand as they stood -/
def Tup (H H' : Hp) : Prop := ∀ a xs, H a = some (.tup xs) → H' a = some (.tup xs)
theorem Same.tup {H H' : Hp} (h : Same H H') : Tup H H' := fun a xs e => h a _ e
theorem Tup.trans {H H1 H2 : Hp} (a : Tup H H1) (b : Tup H1 H2) : Tup H H2 := fun c xs e => b c xs (a c xs e)
theorem Tup.refl (H : Hp) : Tup H H := fun _ _ e => e
mutual
theorem Rp.mono {H H' : Hp} (h : Tup H H') : ∀ {d : D} {v : V}, Rp H d v → Rp H' d v
  | .non, _, r => by rw [Rp] at *; exact r
  | .bl b, _, r => by rw [Rp] at *; exact r
  | .int i, _, r => by rw [Rp] at *; exact r
  | .str z, _, r => by rw [Rp] at *; exact r
  | .tup xs, v, r => by
    rw [Rp] at *
    obtain ⟨a, vs, e, ha, rs⟩ := r
    exact ⟨a, vs, e, h a vs ha, Rps.mono h rs⟩
theorem Rps.mono {H H' : Hp} (h : Tup H H') : ∀ {ds : List D} {vs : List V}, Rps H ds vs → Rps H' ds vs
  | [], _, r => by rw [Rps] at *; exact r
  | d :: ds, vs, r => by
    rw [Rps] at *
    obtain ⟨v, t, e, r1, r2⟩ := r
    exact ⟨v, t, e, Rp.mono h r1, Rps.mono h r2⟩
end
theorem Rps.length {H : Hp} : ∀ {ds : List D} {vs : List V}, Rps H ds vs → vs.length = ds.length
  | [], _, r => by rw [Rps] at r; subst r; rfl
  | d :: ds, vs, r => by
    rw [Rps] at r
    obtain ⟨v, t, rfl, r1, r2⟩ := r
    rw [List.length_cons, List.length_cons, Rps.length r2]
theorem Rps.get {H : Hp} : ∀ {ds : List D} {vs : List V} {i : Nat} {v : V}, Rps H ds vs → vs[i]? = some v → ∃ d, ds[i]? = some d ∧ Rp H d v
  | [], _, i, v, r, e => by rw [Rps] at r; subst r; simp at e
  | d :: ds, vs, 0, v, r, e => by
    rw [Rps] at r
    obtain ⟨w, t, rfl, r1, r2⟩ := r
    simp at e; subst e
    exact ⟨d, rfl, r1⟩
  | d :: ds, vs, i + 1, v, r, e => by
    rw [Rps] at r
    obtain ⟨w, t, rfl, r1, r2⟩ := r
    simp at e
    obtain ⟨d', h1, h2⟩ := Rps.get (i := i) r2 e
    exact ⟨d', by simpa using h1, h2⟩
theorem Rps.append {H : Hp} {d : D} {v : V} (r1 : Rp H d v) : ∀ {ds : List D} {vs : List V}, Rps H ds vs → Rps H (ds ++ [d]) (vs ++ [v])
  | [], _, r => by rw [Rps] at r; subst r; rw [List.nil_append, Rps]; exact ⟨v, [], rfl, r1, by rw [Rps]⟩
  | e :: ds, vs, r => by
    rw [Rps] at r
    obtain ⟨w, t, rfl, q1, q2⟩ := r
    rw [List.cons_append, Rps]
    exact ⟨w, t ++ [v], rfl, q1, Rps.append r1 q2⟩
theorem Rps.nil {H : Hp} : Rps H [] [] := by rw [Rps]
theorem Rp.ty {H : Hp} {d : D} {v : V} (r : Rp H d v) : (∀ n, v ≠ .ty n) ∧ ∀ n, v ≠ .flt n := by
  cases d <;> rw [Rp] at r
  case tup xs => obtain ⟨a, vs, rfl, _⟩ := r; exact ⟨fun _ z => (nomatch z), fun _ z => (nomatch z)⟩
  all_goals (subst r; exact ⟨fun _ z => (nomatch z), fun _ z => (nomatch z)⟩)
theorem same_new {H : Hp} {p : Addr} (h : H p = none) (o : HO) : Same H (upd H p o) := fun b u q => by rw [upd_ne (ne_of_none q h)]; exact q
/-- all but what stands at b -/
def Kept (b : Addr) (H H' : Hp) : Prop := ∀ a o, a ≠ b → H a = some o → H' a = some o
theorem Kept.refl {b : Addr} (H : Hp) : Kept b H H := fun _ _ _ e => e
theorem Kept.trans {b : Addr} {H H1 H2 : Hp} (x : Kept b H H1) (y : Kept b H1 H2) : Kept b H H2 := fun a o n e => y a o n (x a o n e)
theorem Same.kept {b : Addr} {H H' : Hp} (h : Same H H') : Kept b H H' := fun a o _ e => h a o e
theorem Kept.upd {b : Addr} {H : Hp} {o : HO} : Kept b H (upd H b o) := fun a u n e => by rw [upd_ne n]; exact e
/-- the draws: digits and a place among them -/
def Box (H : Hp) (b d : Addr) : Prop := ∃ ds, ∃ at_ : Nat, H b = some (.lst [.ref d, .int at_]) ∧ H d = some (.lst (List.map V.int ds)) ∧ d ≠ b
theorem Box.same {H H' : Hp} {b d : Addr} (x : Box H b d) (h : Same H H') : Box H' b d := by
  obtain ⟨ds, n, h1, h2, h3⟩ := x
  exact ⟨ds, n, h _ _ h1, h _ _ h2, h3⟩
theorem Kept.tup {b d : Addr} {H H' : Hp} (x : Box H b d) (h : Kept b H H') : Tup H H' := fun a xs e => by
  obtain ⟨ds, n, h1, h2, h3⟩ := x
  exact h a _ (fun z => by subst z; rw [h1] at e; cases e) e
/-- another object is written -/
theorem Box.other {H : Hp} {b d L : Addr} {o : HO} (x : Box H b d) (h1 : L ≠ b) (h2 : L ≠ d) : Box (upd H L o) b d := by
  obtain ⟨ds, n, g1, g2, g3⟩ := x
  exact ⟨ds, n, by rw [upd_ne (Ne.symm h1)]; exact g1, by rw [upd_ne (Ne.symm h2)]; exact g2, g3⟩
theorem Box.ne {H : Hp} {b d L : Addr} (x : Box H b d) (h : H L = none) : L ≠ b ∧ L ≠ d := by
  obtain ⟨ds, n, g1, g2, g3⟩ := x
  exact ⟨fun e => (by rw [e, g1] at h; cases h), fun e => (by rw [e, g2] at h; cases h)⟩
end Tst
/-! Plain lemmas: lengths of what is shown; a text between quotes read by leaps; a run of digits. -/
namespace Tst
open PySem PySem.Spec PyProof.Rows L2 TL
theorem join_mem : ∀ {ds : List D} {d : D}, d ∈ ds → d.show.length ≤ (joinL [32] (D.shows ds)).length
  | [], _, h => by cases h
  | [a], d, h => by
    have e : d = a := by simpa using h
    subst e
    exact Nat.le_refl _
  | a :: b :: ds, d, h => by
    have z : joinL [32] (D.shows (a :: b :: ds)) = a.show ++ 32 :: joinL [32] (D.shows (b :: ds)) := rfl
    rw [z, List.length_append, List.length_cons]
    rcases List.mem_cons.mp h with rfl | h
    · omega
    · have := join_mem h
      omega
theorem tup_len (xs : List D) : (D.tup xs).show.length = (joinL [32] (D.shows xs)).length + 2 := by
  show (40 :: (joinL [32] (D.shows xs) ++ [41])).length = _
  rw [List.length_cons, List.length_append]
  rfl
theorem show_mem {xs : List D} {d : D} (h : d ∈ xs) : d.show.length + 2 ≤ (D.tup xs).show.length := by
  have := join_mem h
  rw [tup_len]
  omega
theorem many_len (xs : List D) : xs.length + 1 ≤ (D.tup xs).show.length := by
  have := len_join xs
  rw [tup_len]
  omega
theorem join_sum : ∀ ds : List D, ((ds.map showS).map (·.length)).sum + ds.length ≤ (joinL [32] (D.shows ds)).length + 1
  | [] => by simp
  | [d] => by
    show ([(showS d).length].sum) + 1 ≤ d.show.length + 1
    simp [showS, len_strOf]
  | d :: d2 :: ds => by
    have z : joinL [32] (D.shows (d :: d2 :: ds)) = d.show ++ 32 :: joinL [32] (D.shows (d2 :: ds)) := rfl
    have ih := join_sum (d2 :: ds)
    rw [z, List.length_append, List.map_cons, List.map_cons, List.sum_cons]
    simp only [List.length_cons] at ih ⊢
    have e : (showS d).length = d.show.length := len_strOf _
    omega
theorem tl_showS (d : D) : tl (showS d) = d.show := rfl
theorem map_showS (ds : List D) : (ds.map showS).map tl = D.shows ds := by
  rw [shows_map, List.map_map]
  rfl
theorem show_tup (xs : List D) : (strOf [40] ++ Txt.join (strOf [32]) (xs.map showS)) ++ strOf [41] = showS (.tup xs) := by
  refine ext_tl ?_
  rw [tl_append, tl_append, join_eq, tl_join, map_showS]
  show [40] ++ joinL [32] (D.shows xs) ++ [41] = 40 :: (joinL [32] (D.shows xs) ++ [41])
  simp
theorem show_str (z : Str) : (strOf [34] ++ strOf (encL (tl z))) ++ strOf [34] = showS (.str z) := by
  refine ext_tl ?_
  rw [tl_append, tl_append]
  show [34] ++ encL (tl z) ++ [34] = 34 :: (encL (tl z) ++ [34])
  simp
theorem lit (s : String) (l : List Nat) (h : (s.toList.map Char.toNat) = l := by rfl) : Str.ofString s = strOf l := by
  refine ext_tl ?_
  rw [tl_ofString, h]
  rfl
/-! ### a text between quotes, by leaps -/
def plainSign (c : Nat) : Bool := !(c == 34 || c == 92)
theorem textAt_leap : ∀ (u t : List Nat) (p : Nat) (acc : List Nat) (r : List Nat × Nat), (∀ c ∈ u, plainSign c = true) → textAt (u ++ t) p acc = .ok r → (∀ c ∈ u, c ≠ 10) ∧ textAt t (p + u.length) (acc ++ u) = .ok r
  | [], t, p, acc, r, _, h => ⟨fun _ z => (nomatch z), by simpa using h⟩
  | c :: u, t, p, acc, r, hu, h => by
    have hc := hu c List.mem_cons_self
    have h1 : c ≠ 34 ∧ c ≠ 92 := by
      unfold plainSign at hc
      simp at hc
      exact hc
    have h : textAt (c :: (u ++ t)) p acc = .ok r := h
    unfold textAt at h
    rw [if_neg h1.1, if_neg h1.2] at h
    by_cases h10 : c = 10
    · rw [if_pos h10] at h; cases h
    · rw [if_neg h10] at h
      obtain ⟨q1, q2⟩ := textAt_leap u t (p + 1) (acc ++ [c]) r (fun x hx => hu x (List.mem_cons_of_mem _ hx)) h
      refine ⟨fun x hx => ?_, ?_⟩
      · rcases List.mem_cons.mp hx with rfl | hx
        · exact h10
        · exact q1 x hx
      · rw [List.length_cons, show p + (u.length + 1) = p + 1 + u.length by omega]
        rw [List.append_assoc] at q2
        exact q2
/-- the next quote or slash -/
theorem leap (R : List Nat) : ∃ u t, R = u ++ t ∧ (∀ c ∈ u, plainSign c = true) ∧ ∀ c r, t = c :: r → c = 34 ∨ c = 92 := by
  induction R with
  | nil => exact ⟨[], [], rfl, fun _ z => (nomatch z), fun _ _ z => (nomatch z)⟩
  | cons a R ih =>
    by_cases h : plainSign a = true
    · obtain ⟨u, t, e, h1, h2⟩ := ih
      exact ⟨a :: u, t, by rw [e]; rfl, fun c hc => (List.mem_cons.mp hc).elim (fun z => z ▸ h) (h1 c), h2⟩
    · refine ⟨[], a :: R, rfl, fun _ z => (nomatch z), fun c r e => ?_⟩
      injection e with e1 _
      subst e1
      unfold plainSign at h
      simp at h
      omega
theorem get_in {L u t : List Nat} {p i : Nat} (h : L.drop p = u ++ t) (h1 : p ≤ i) (h2 : i < p + u.length) : ∃ c, L[i]? = some c ∧ c ∈ u := by
  have e : L[i]? = (L.drop p)[i - p]? := by rw [List.getElem?_drop, show p + (i - p) = i by omega]
  have hi : i - p < u.length := by omega
  rw [e, h, List.getElem?_append_left hi, List.getElem?_eq_getElem hi]
  exact ⟨_, rfl, List.getElem_mem hi⟩
theorem not_in {L u t : List Nat} {p i k : Nat} (h : L.drop p = u ++ t) (hk : k ∉ u) (h1 : p ≤ i) (h2 : i < p + u.length) : L[i]? ≠ some k := by
  obtain ⟨c, e, hc⟩ := get_in h h1 h2
  rw [e]
  intro z
  injection z with z
  subst z
  exact hk hc
theorem find3_cases {z : Str} {c p : Nat} (hp : p ≤ z.length) : (Txt.find3 z ⟨#[c]⟩ (p : Int) = -1) ∨ ∃ j, Txt.find3 z ⟨#[c]⟩ (p : Int) = ((j : Nat) : Int) ∧ p ≤ j ∧ j < z.length ∧ (tl z)[j]? = some c := by
  have hl := len_tl z
  by_cases h : c ∈ (tl z).drop p
  · obtain ⟨u, t, e, hu⟩ := List.eq_append_cons_of_mem h
    obtain ⟨q, _, q3⟩ := drop_cons (drop_app e)
    exact .inr ⟨p + u.length, find3_first (by omega) (by omega) (fun i h1 h2 => not_in e hu h1 h2) q, by omega, by omega, q⟩
  · refine .inl (find3_never hp fun i h1 h2 e => h ?_)
    have e' : (tl z)[i]? = ((tl z).drop p)[i - p]? := by rw [List.getElem?_drop, show p + (i - p) = i by omega]
    rw [e'] at e
    exact List.mem_of_getElem? e
theorem join_flat : ∀ l : List (List Nat), joinL [] l = l.flatten
  | [] => rfl
  | [a] => by simp [joinL]
  | a :: b :: l => by
    have z : joinL [] (a :: b :: l) = a ++ ([] ++ joinL [] (b :: l)) := rfl
    rw [z, join_flat (b :: l)]
    simp
/-! ### a run of digits -/
theorem run_of (l : List Nat) : ∃ post, l = l.takeWhile dig ++ post ∧ Stop post ∧ ∀ c ∈ l.takeWhile dig, dig c = true := by
  induction l with
  | nil => exact ⟨[], rfl, (fun _ _ z => (nomatch z)), fun _ z => (nomatch z)⟩
  | cons a l ih =>
    rw [List.takeWhile_cons]
    by_cases h : dig a = true
    · obtain ⟨post, e, h1, h2⟩ := ih
      rw [if_pos h]
      refine ⟨post, by rw [List.cons_append, ← e], h1, fun c hc => ?_⟩
      rcases List.mem_cons.mp hc with rfl | hc
      · exact h
      · exact h2 c hc
    · rw [if_neg h]
      refine ⟨a :: l, rfl, stop_cons (by simpa using h), fun _ z => (nomatch z)⟩
theorem val_ge : ∀ (l : List Nat) (a : Nat), 1 ≤ a → 10 ^ l.length ≤ l.foldl (fun acc c => acc * 10 + (c - 48)) a
  | [], a, h => by simpa using h
  | c :: l, a, h => by
    rw [List.foldl_cons, List.length_cons]
    have ih : ∀ b, a * 10 ≤ b → 10 ^ l.length * 10 ≤ l.foldl (fun acc c => acc * 10 + (c - 48)) b := by
      intro b hb
      have mono : ∀ (l : List Nat) (x k : Nat), k * 10 ≤ x → 1 ≤ k → 10 ^ l.length * (k * 10) ≤ l.foldl (fun acc c => acc * 10 + (c - 48)) x := by
        intro l
        induction l with
        | nil => intro x k hk _; simpa using hk
        | cons d l ih =>
          intro x k hk hk1
          rw [List.foldl_cons, List.length_cons, Nat.pow_succ]
          have := ih (x * 10 + (d - 48)) (k * 10) (by omega) (by omega)
          calc 10 ^ l.length * 10 * (k * 10) = 10 ^ l.length * (k * 10 * 10) := by rw [Nat.mul_assoc, Nat.mul_comm 10]
            _ ≤ _ := this
      have := mono l b a hb h
      refine Nat.le_trans ?_ this
      exact Nat.mul_le_mul_left _ (by omega)
    rw [Nat.pow_succ]
    exact ih _ (by omega)
theorem val_len {c : Nat} {r : List Nat} (hc : dig c = true) (h0 : c ≠ 48) : 10 ^ r.length ≤ NumText.digitsVal (c :: r) := by
  rw [dig_iff] at hc
  unfold NumText.digitsVal
  rw [List.foldl_cons]
  exact val_ge r _ (by omega)
theorem figs (c : Nat) : decide (c ∈ tl (Str.ofString "0123456789")) = dig c := by
  rw [tl_ofString]
  show decide (c ∈ [48, 49, 50, 51, 52, 53, 54, 55, 56, 57]) = decide (48 ≤ c ∧ c ≤ 57)
  congr 1
  simp
  omega
/-! ### one sign of a text against a written one -/
theorem sg_is {z s : Str} {p c : Nat} (h : tl s = [c]) : decide (V.str (sg z p) = V.str s) = decide ((tl z)[p]? = some c) := by
  rw [dec_s, h]
  show decide ((tl z)[p]?.toList = [c]) = _
  congr 1
  cases (tl z)[p]? with
  | none => simp
  | some d => simp
theorem sg_empty {z s : Str} {p : Nat} (h : tl s = []) : decide (V.str (sg z p) = V.str s) = decide ((tl z)[p]? = none) := by
  rw [dec_s, h]
  show decide ((tl z)[p]?.toList = []) = _
  congr 1
  cases (tl z)[p]? with
  | none => simp
  | some d => simp
theorem sg_fig {z : Str} {p c : Nat} (h : (tl z)[p]? = some c) : (!(Builtin.Str.occurrences (Str.ofString "0123456789") (sg z p) 0 (Str.ofString "0123456789").length 1).isEmpty) = dig c := by
  rw [sg_some h]
  show (!(Builtin.Str.occurrences (Str.ofString "0123456789") ⟨#[c]⟩ 0 (Str.ofString "0123456789").length 1).isEmpty) = dig c
  rw [StrLaws.found_one]
  exact figs c
/-! ### members, turn by turn -/
theorem members_ok {L : List Nat} {f : Nat → PR} {xs : List D} {q : Nat} : ∀ {n p : Nat} {acc : List D}, members L f n p acc = .ok (.tup xs, q) → ∃ ys, xs = acc ++ ys
  | 0, p, acc, h => by cases h
  | n + 1, p, acc, h => by
    unfold members at h
    cases e : f p with
    | error k => rw [e] at h; cases h
    | ok dq =>
      obtain ⟨d, k⟩ := dq
      rw [e] at h
      simp only at h
      split at h
      · split at h
        · cases h
          exact ⟨[d], rfl⟩
        · split at h
          · obtain ⟨ys, e⟩ := members_ok h
            exact ⟨d :: ys, by rw [e, List.append_assoc]; rfl⟩
          · cases h
      · cases h
end Tst
/-! int(text) of up to 4,300 signs: the world's own bound is asked for. -/
namespace Tst
open PySem PySem.Spec PyProof.Rows L2 TL PySem.NumText PySem.W
theorem most_digits {M : Model} {A : Around} {E : Value → Shared → Prop} {s : Shared} {Q : Nat → Shared → Prop} (hn : s.heap.NoDigits) (h : Q 4300 s) : wpAny M A Builtin.intMaxStrDigits Q E s := by
  obtain ⟨mc, h1, h2⟩ := hn
  unfold Builtin.intMaxStrDigits
  refine wpAny_bind (wpAny_nsGet h1 ?_)
  rw [h2]
  exact wpAny_pure h
theorem long_text {M : Model} {A : Around} {E : Value → Shared → Prop} {s : Shared} {Q : Value → Shared → Prop} {v : Value} {text : List Nat} {n : Int} (hn : s.heap.NoDigits)
    (hs : ¬ (text.takeWhile (· != 0)).length ≤ 640) (hr : (int_private% "readNumeral") 4300 10 (text.takeWhile (· != 0)) = (int_private% "Numeral.value") n)
    (ha : ((text.takeWhile (· != 0)).length == text.length) = true) (h : Q (.int n s.toks) { s with toks := s.toks + 1 }) :
    wpAny M A ((int_private% "intFromText") v text 10) Q E s := by
  obtain ⟨hp, g, d, tk, os⟩ := s
  repeat (any_goals (first
    | assumption
    | (with_reducible refine wpAny_ite_false (decide_eq_false hs) ?_)
    | (with_reducible refine most_digits hn ?_)
    | wp_step))
  all_goals (try rw [hr])
  all_goals (try dsimp only)
  repeat (any_goals (first
    | assumption
    | (with_reducible refine wpAny_ite_true (decide_eq_true ha) ?_)
    | wp_step))
structure Kept1 (p : Prop) : Prop where
  out : p
theorem meets_text {x : Str} {u : Tok} {n : Int} (hl : x.length ≤ 4000) (hv : PySem.intText? x = some n) :
    Meets (Builtin.«int.__new__» ⟨[.type "int", .str x u], []⟩) (fun _ R s => s.heap.NoDigits ∧ R (.ok (.ret (.int n s.toks))) { s with toks := s.toks + 1 }) := by
  intro prog w A R s hS
  obtain ⟨hn, hq⟩ := hS
  by_cases hsm : x.length ≤ 640
  · exact ((PySem.W.KIN.gives_text (u := u) hsm hv).meets) prog w A R s hq
  obtain ⟨hp, g, d, tk, os⟩ := s
  have f1 := PySem.F.conv_sub_int
  have f2 := PySem.F.madeHere_int
  have f3 := PySem.W.KIN.str_int
  have f4 := PySem.W.KIN.str_idx
  have f5 := PySem.W.KIN.str_trunc
  have f6 : typeOf (.str x u) = pure (.type "str") := rfl
  have sl := seen_length x
  by_cases hs : (numSeenOf x).length ≤ 640
  · have hr : (int_private% "readNumeral") 0 10 (numSeenOf x) = (int_private% "Numeral.value") n ∧ ((numSeenOf x).length == (numTextOf x).length) = true := by
      rcases read0 x hs with ⟨m, h1, h2, h3⟩ | ⟨h1, _⟩
      · rw [hv] at h1
        injection h1 with h1
        subst h1
        exact ⟨h3, h2⟩
      · rw [hv] at h1
        cases h1
    have hk := Kept1.mk (And.intro hs hr)
    clear hs hr hl hv sl
    repeat (any_goals (first
      | assumption
      | ((with_reducible show wpAny _ _ ((int_private% "intFromText") _ _ _) _ _ _); refine PySem.W.KIN.wp_text hk.out.1 hk.out.2.1 hk.out.2.2 ?_)
      | wp_step))
  · have hr : (int_private% "readNumeral") 4300 10 (numSeenOf x) = (int_private% "Numeral.value") n ∧ ((numSeenOf x).length == (numTextOf x).length) = true := by
      rcases read4300 x (by rw [sizeLine_eq]; omega) with ⟨m, h1, h2, h3⟩ | ⟨h1, _⟩
      · rw [hv] at h1
        injection h1 with h1
        subst h1
        exact ⟨h3, h2⟩
      · rw [hv] at h1
        cases h1
    have hk := Kept1.mk (And.intro hs hr)
    clear hs hr hl hv sl
    repeat (any_goals (first
      | assumption
      | ((with_reducible show wpAny _ _ ((int_private% "intFromText") _ _ _) _ _ _); refine long_text hn hk.out.1 hk.out.2.1 hk.out.2.2 ?_)
      | wp_step))
/-- int(text), of up to 4,000 signs -/
theorem call_int_long {X : Cx} (hd : PySem.W.nsIn X.K cStatics "sys.int_max_str_digits" = some none) :
    CallR X (.type "int") (fun xs H Q => ∃ a n, xs = [.str a] ∧ PySem.intText? a = some n ∧ a.length ≤ 4000 ∧ Q (.int n) H) := by
  intro pins s σ H xs us Q I rs h
  obtain ⟨a, n, rfl, hv, hl, q⟩ := h
  cases rs with
  | cons r1 rs =>
    cases rs
    obtain ⟨t, rfl⟩ := r1
    have hn : s.heap.NoDigits := by
      obtain ⟨mc, hns, _⟩ := I.nolimit
      refine ⟨mc, hns, ?_⟩
      obtain ⟨o, es, ep, ho, hdt, _, hf⟩ := hns
      unfold PySem.W.nsIn at hd
      split at hd
      · rename_i c d es' n' sl q
        have e := I.kIn _ _ q
        rw [ho] at e
        cases e
        cases hdt
        split at hd
        · cases hd
        · rename_i none_
          refine (hf _).symm.trans ?_
          unfold nsFind findBy
          rw [← Array.find?_toList]
          rw [none_]
          rfl
      · cases hd
    refine call_int_1 (meets_text hl hv) ⟨hn, ?_⟩
    exact ⟨rfl, .int n, H, I.tok _, ⟨_, rfl⟩, q⟩
end Tst
/-! An own exception over ValueError whose __init__ says super().__init__(f'{place}') and self.place = place. -/
namespace Tst
open PySem PySem.Spec PyProof.Rows L2 TL PySem.W PySem.Calls PySem.HandSPX
/-! ### the text of such an __init__ -/
def supA (fld : Str) (p1 p2 : Pos) : Arguments := { posonlyargs := [], args := [{ arg := "self", annotation := none, pos := p1 }, { arg := fld, annotation := none, pos := p2 }], vararg := none, kwonlyargs := [], kw_defaults := [], kwarg := none, defaults := [] }
def supB (e : Expr) (fld : Str) (p1 p2 p3 p4 p5 q1 q2 q3 q4 : Pos) : List Stmt :=
  [.Expr (.Call (.Attribute (.Call (.Name "super" p1) [] [] p2) "__init__" p3) [e] [] p4) p5, .Assign [.Attribute (.Name "self" q1) fld q2] (.Name fld q3) q4]
def supS (fld : Str) : Scope := { kind := .function, names := [(Str.ofString "self", .local), (fld, .local), (Str.ofString "__class__", .free), (Str.ofString "super", .globalImplicit)], isGenerator := false, isCoroutine := false, more := [] }
/-- super().__init__(e) is a call of a method, by the places of its signs -/
def SupCall (e : Expr) (r1 r2 r3 r4 r5 : Pos) : Prop := ∃ pl : Sem Bool, ∀ env : Env,
  eval (.Call (.Attribute (.Call (.Name "super" r1) [] [] r2) "__init__" r3) [e] [] r4) env = (do
      let ov ← attributeBase (.Call (.Name "super" r1) [] [] r2) "__init__" env (eval (.Call (.Name "super" r1) [] [] r2) env)
      standAt r3.atName
      let (f, first) ← holding [ov] (getMethod ov "__init__" pl)
      callWith r4 f first (backTo r4 (starEach [e] env)) []) ∧
  swapsWith (.Call (.Attribute (.Call (.Name "super" r1) [] [] r2) "__init__" r3) [e] [] r4) none r5.line env = pure false ∧
  starEach [e] env = [(false, eval e env)]
/-- what the written part says of the class (at C), of its __init__ (at fI), of the cell of __class__ (at cc) and of the code's record (at cda) -/
structure SupTxt (P : Program) (K : Frag) (mg : Str → Option Value) (cls fld : Str) (e : Expr) (C fI cc cda : Addr) : Prop where
  gC : mg cls = some (.ref C)
  obj : ∃ nm q N bs bm sn sub ab col dd k0 k1 k2 k3 k5, K.lookup C = some (excClassObj nm q C N bs bm true sn sub ab col dd k0 k1 k2 k3 k5 "ValueError.__new__") ∧ refsVE bm = true
  sa : findIn K (.ref C) "__setattr__" = some (some (.builtin "object.__setattr__"))
  ga : findIn K (.ref C) "__getattribute__" = some (some (.builtin "BaseException.__getattribute__"))
  gg : findIn K (.ref C) "__getattr__" = some none
  noN : findIn K (.ref C) fld = some none
  iC : findIn K (.ref C) "__init__" = some (some (.ref fI))
  tC : typeIn K (.ref fI) = some (.type "function")
  kC : keepIn K (.ref C) = true
  exC : subIn K (.ref C) (.type "BaseException") = some true
  tyC : typeIn K (.ref C) = some (.type "type")
  hdC : hasDictIn K C = true
  te : exmOne K (.ref C) (.ref C) = some true
  fn : ∃ (oc : Value) (od : Option Addr) (doc pm : Value) (an : Option Addr) (ct : Value) (osl : Array (Option Value)) (qual : Str) (p1 p2 r1 r2 r3 r4 r5 q1 q2 q3 q4 : Pos),
    K.lookup fI = some ⟨oc, od, .func (fnX "__init__" qual (supA fld p1 p2) (supB e fld r1 r2 r3 r4 r5 q1 q2 q3 q4) (supS fld) [("__class__", cc)] .none .none doc pm an (.ref cda) ct), osl⟩ ∧ codeIn K (.ref cda) qual = true ∧ SupCall e r1 r2 r3 r4 r5
  sup : mg "super" = none
  cell : ∃ cl cld csl, K.lookup cc = some ⟨cl, cld, .cell (some (.ref C)), csl⟩
  me : mroIn K C (.ref C) = some true
  code : ∃ ccl cdd vs ccs file tf, K.lookup cda = some ⟨ccl, cdd, .fields vs, ccs⟩ ∧ vs[2]? = some (.str file tf) ∧ ((P.main.file : Str) == file) = true
  top : (P.main.scope.names.lookup ("super" : Str)).isSome = false
  opq : nsIn K cStatics "thirdparty.any" = some none
  along : ks_superIn K C C "__init__" = some (some (.builtin "ValueError.__init__"))
  isV : subIn K (.ref C) (.type "ValueError") = some true
section
variable {prog : Program} {w : World} {A : Around} {E : Value → Shared → Prop} {h : Heap} {g : Array GenState} {d : Drawn} {t : Nat} {os : OsState}
variable {nm q : Str} {C N : Addr} {bs bm : List Value} {hdct : Bool} {sn : List Str} {sub : List Value} {ab : Bool} {col : Option Bool} {dd : Option Addr} {k0 k1 k2 k3 k5 : Option Value}
/-- ValueError.__init__, bound to the exception, called -/
theorem call_mw {u e t0 : Addr} {vs : List Value} {Q : Value → Shared → Prop}
    (hC : h.get? C = some (excClassObj nm q C N bs bm hdct sn sub ab col dd k0 k1 k2 k3 k5 "ValueError.__new__")) (he : h.get? e = some (excO C t0)) (hu : h.get? u = some (kxs_mw "ValueError.__init__" e)) (hz : vs.length ≤ sizeLine)
    (fin : ∀ h' t1, (∀ b o, b ≠ e → h.get? b = some o → h'.get? b = some o) → h'.get? e = some (excO C t1) → Q .none ⟨h', g, d, t, os⟩) :
    wpAny (model prog w) A (call (.ref u) vs) Q E ⟨h, g, d, t, os⟩ := by
  have FB := F.excBase_ValueError
  refine wpAny_call (codeAny_of_tree ?_)
  show wpAny _ A.in1 (callAny (.ref u) ⟨vs, []⟩) _ _ _
  simp only [callAny]
  refine wpAny_bind (wpAny_load hu ?_)
  have b1 : (Value.type "method-wrapper" == Value.type "method" || Value.type "method-wrapper" == Value.type "builtin_function_or_method" || Value.type "method-wrapper" == Value.type "method-wrapper") = true := by decide
  simp only [kxs_mw, b1, if_true]
  refine KFB.if_so (by decide) (wpAny_bind (check_bound_init FB.toExcCallFacts hC he rfl (wpAny_bind (wpAny_pure (wpAny_pure ?_)))))
  refine ⟨plainId_quiet FB.init.plain _, codeAny_builtin FB.initEntry ?_⟩
  exact exc_init_tree (cls := .ref C) (t0 := t0) (dv := none) (c2 := .none) (c3 := .none) (b4 := .bool false) he hz fun h' k e' _ => fin h' _ k e'
end
/-- what __init__ leaves of a fresh exception at x -/
structure SupEnd (h h' : Heap) (x C dx : Addr) (fld : Str) (v : Value) : Prop where
  keep : ∀ b o, b ≠ x → h.get? b = some o → h'.get? b = some o
  obj : ∃ t1 : Addr, h'.get? x = some { cls := .ref C, dict := some dx, data := .fields #[.ref t1, .none, .none, .none, .bool false, .none] }
  dbig : h.objs.size ≤ dx
  dne : dx ≠ x
  ns : h'.Ns1 dx (fun y => if y = fld then some v else none)
/-- what is reckoned of the field's name alone -/
structure FldOk (fld : Str) : Prop where
  bind : ∀ (qual : Str) (p1 p2 : Pos) (body : List Stmt) (cc : Addr) (doc pm : Value) (an : Option Addr) (cdv ct : Value) (x : Addr) (v : Value),
    bindArgs (fnX "__init__" qual (supA fld p1 p2) body (supS fld) [("__class__", cc)] .none .none doc pm an cdv ct) ⟨[.ref x, v], []⟩ = pure [((Str.ofString "self" : Str), Value.ref x), (fld, v)]
  look : (supS fld).names.lookup fld = some .local
  kcl : (supS fld).names.lookup (Str.ofString "__class__") = some .free
  ksu : (supS fld).names.lookup (Str.ofString "super") = some .globalImplicit
  nself : (Str.ofString "self" == fld) = false
  ndb : (fld == ("__debug__" : Str)) = false
theorem fld_place : FldOk (Str.ofString "place") := ⟨fun _ _ _ _ _ _ _ _ _ _ _ _ => rfl, rfl, rfl, rfl, by decide +kernel, by decide +kernel⟩
theorem fld_reason : FldOk (Str.ofString "reason") := ⟨fun _ _ _ _ _ _ _ _ _ _ _ _ => rfl, rfl, rfl, rfl, by decide +kernel, by decide +kernel⟩
section
variable {P : Program} {w : World} {A : Around} {E : Value → Shared → Prop} {R : Result → Shared → Prop} {s : Shared} {K : Frag} {mg : Str → Option Value} {cls fld : Str} {e : Expr} {C fI cc cda : Addr}
theorem sup_init (T : SupTxt P K mg cls fld e C fI cc cda) {x t0 : Addr} {v : Value} (X : K.In s.heap) (hlim : s.heap.NoLimit) (G : s.heap.Ns mainGlobals mg) (B : ∃ mb, s.heap.Ns builtinsNs mb ∧ mb "super" = bootBuiltins "super")
    (hx : s.heap.get? x = some (excO C t0)) (hnx : K.lookup x = none) (hroom : A.depth < recursionLimit) (FO : FldOk fld)
    (hev : ∀ (A : Around) (env : Env) (E : Value → Shared → Prop) (Q : Value → Shared → Prop) (s : Shared) (m : Str → Option Value), env.scope = supS fld → s.heap.Ns env.locals m → m fld = some v → (∀ z tk k, Q (.str z tk) { s with toks := k }) → wpAny (model P w) A (eval e env) Q E s)
    (hq : ∀ h' tk dx, SupEnd s.heap h' x C dx fld v → R (.ok (.ret .none)) { s with heap := h', toks := tk }) :
    codeAny (model P w) A (.call (.ref fI) ⟨[.ref x, v], []⟩) R s := by
  obtain ⟨oc, od, doc, pm, an, ct, osl, qual, p1, p2, r1, r2, r3, r4, r5, q1, q2, q3, q4, ho, hcd, pl, hcall⟩ := T.fn
  obtain ⟨nm, q, N, bs, bm, sn, sub, ab, col, dd, k0, k1, k2, k3, k5, hC, hbm⟩ := T.obj
  have hcls : clsIn K C = some { name := nm, bases := bs, mro := .ref C :: bm, ns := N, qualname := q, hasDict := true, slotNames := sn, subclasses := sub, abstract := ab, collection := col, hasDel := false } := by unfold clsIn; rw [hC] <;> rfl
  obtain ⟨cl, cld, csl, hcell⟩ := T.cell
  obtain ⟨ccl, cdd, vs, ccs, file, tf, hcode, hvs, hfile⟩ := T.code
  obtain ⟨mb, hmb, hsup⟩ := B
  have hlk := FO.look
  have hls : (supS fld).names.lookup (Str.ofString "self") = some .local := rfl
  refine ks_codeAny_call_defAt (binds := [("self", .ref x), (fld, v)]) hroom (X _ _ ho) rfl hlim (codeRec_of X hcd) rfl ?_ ?_ ?_ (fun h₁ hns k => ?_)
  · exact BindsTo.of_eq (FO.bind _ _ _ _ _ _ _ _ _ _ _ _)
  · intro y hy
    have hy' : y ∈ [(Str.ofString "self", NameKind.local), (fld, .local), (Str.ofString "__class__", .free), (Str.ofString "super", .globalImplicit)] := hy
    simp only [List.mem_cons, List.not_mem_nil, or_false] at hy'
    rcases hy' with rfl | rfl | rfl | rfl <;> exact fun z => (nomatch z)
  · intro y hy
    simp only [List.mem_cons, List.not_mem_nil, or_false] at hy
    rcases hy with rfl | rfl
    · exact hls
    · exact hlk
  have lks : ([((Str.ofString "self" : Str), Value.ref x), (fld, v)] : List (Str × Value)).reverse.lookup (Str.ofString "self") = some (.ref x) := by
    show List.lookup (Str.ofString "self") [(fld, v), (Str.ofString "self", Value.ref x)] = _
    rw [List.lookup_cons, FO.nself, List.lookup_cons, beq_self_eq_true]
  have lkf : ([((Str.ofString "self" : Str), Value.ref x), (fld, v)] : List (Str × Value)).reverse.lookup fld = some v := by
    show List.lookup fld [(fld, v), (Str.ofString "self", Value.ref x)] = _
    rw [List.lookup_cons, beq_self_eq_true]
  have X₁ : K.In h₁ := X.keeps k
  have hx₁ := k _ _ hx
  have hC₁ := X₁ _ _ hC
  have I₁ : InstAt h₁ x (excO C t0) C none := ⟨hx₁, rfl, rfl, trivial⟩
  -- super().__init__(e)
  refine ks_wpAt_execs_cons (ks_wpAt_Expr_any (ks_wpAt_MethodCall (pl := pl) ?_ (hcall _).1) rfl (hcall _).2.1)
  refine ks_wpAt_super_base FO.ksu FO.kcl (by decide) rfl (X₁ _ _ ho) rfl rfl rfl (X₁ _ _ hcode) rfl hvs hfile T.top ?_
  refine ks_loadName_global rfl FO.ksu (loadGlobal_builtin (G.keeps k) T.sup (hmb.keeps k) (hsup.trans (by first | boot_by_name | rfl | kernel_rfl)) ⟨rfl, ?_⟩)
  refine wpAny_loadName_free rfl FO.kcl rfl ⟨_, X₁ _ _ hcell, rfl⟩ ?_
  refine wpAny_loadName_local rfl hls hns lks ?_
  refine ks_wpAny_isType_cls hC₁ rfl ⟨rfl, ?_⟩
  refine ks_wpAny_call_super hC₁ rfl hx₁ rfl (fun c z => nomatch z) (looks_mroIn X₁ T.me) (fun h₂ eso k₂ => ?_)
  have X₂ : K.In h₂ := X₁.keeps k₂
  have hx₂ := k₂ _ _ hx₁
  have I₂ : InstAt h₂ x (excO C t0) C none := ⟨hx₂, rfl, rfl, trivial⟩
  have hmro : Looks (model P w) h₂ (mroOf (.ref C)) (.ref C :: bm) := fun A Q E s k q => wpAny_bind ((looks_clsIn X₂ hcls) A _ E s k (wpAny_pure q))
  have hal : alongIn K (Str.ofString "__init__") ((((Value.ref C) :: bm).dropWhile (· != .ref C)).drop 1) = some (some (.builtin "ValueError.__init__")) := by
    have h := T.along
    unfold ks_superIn at h
    rw [hcls] at h
    exact h
  refine kxs_getMethod kxs_ValueError eso (looks_opaque X₂ T.opq) hmro rfl X₂ hal (I₂.type.andThen (looks_subIn X₂ T.isV)) (ks_ne X₂ I₂ hcls) (by decide) ?_
  -- the call of what was bound
  have hbw : (h₂.push (kxs_mw "ValueError.__init__" x)).get? h₂.objs.size = some (kxs_mw "ValueError.__init__" x) := Heap.get?_push_at rfl rfl
  have k₃ : ∀ b o, h₂.get? b = some o → (h₂.push (kxs_mw "ValueError.__init__" x)).get? b = some o := fun b o q => Heap.get?_push_of_some _ q
  rw [(hcall _).2.2]
  refine kxs_callWith (i := "ValueError.__init__") (x := x) rfl (evalArgs_plain (spliced_cons ?_))
  have hns₃ := (hns.keeps k₂).keeps k₃
  refine hev _ _ _ _ _ _ rfl hns₃ lkf fun z tk kt => spliced_nil ⟨hbw, ?_⟩
  refine call_mw (k₃ _ _ (X₂ _ _ hC)) (k₃ _ _ hx₂) hbw (by rw [sizeLine_eq]; exact (by decide : 1 ≤ 16777216)) fun h₄ t1 k₄ hx₄ => ?_
  -- self.f = f
  have nL : s.heap.objs.size ≠ x := Nat.ne_of_gt (Heap.lt_size hx)
  have old₄ : ∀ b o, b ≠ x → h₁.get? b = some o → h₄.get? b = some o := fun b o hb q => k₄ b o hb (k₃ _ _ (k₂ _ _ q))
  have X₄ : K.In h₄ := fun a o q => old₄ a o (fun z => by rw [z, hnx] at q; cases q) (X₁ a o q)
  have hns₄ : h₄.Ns s.heap.objs.size (fun y => ([((Str.ofString "self" : Str), Value.ref x), (fld, v)] : List (Str × Value)).reverse.lookup y) := by
    obtain ⟨o, es, ep, ho, r⟩ := hns
    exact ⟨o, es, ep, old₄ _ _ nL ho, r⟩
  show _root_.PySem.wpAt _ _ _ (execs [_] _) _ _ _
  refine wpAt_of_wpAny (wpAny_execs_cons (plainObj_wpAny_Assign_Attribute ?_))
  refine wpAny_Name (wpAny_loadName_local rfl hlk hns₄ lkf ?_) FO.ndb
  refine wpAny_Name (wpAny_loadName_local rfl hls hns₄ lks ?_) (by decide)
  refine set_plain X₄ (ox := excO C t1) (od := none) ⟨hx₄, rfl, rfl, trivial⟩ T.sa ?_
  refine exc_osa X₄ hx₄ hcls (show refsVE (.ref C :: bm) = true from hbm) rfl T.noN (fun h₅ tk₅ dx k₅ dn dne hx₅ hn₅ => ?_)
  show wpAny _ _ (execs [] _) _ _ _
  have sz : s.heap.objs.size < h₄.objs.size := hns₄.lt
  exact wpAny_execs_nil (hq h₅ _ dx ⟨fun b o hb q => k₅ b o hb (old₄ b o hb (k b o q)), ⟨t1, hx₅⟩, Nat.le_of_lt (Nat.lt_of_lt_of_le sz dn), dne, hn₅⟩)
/-- a made one -/
structure SupMade (h h' : Heap) (e C d : Addr) (fld : Str) (v : Value) : Prop where
  keep : ∀ b o, h.get? b = some o → h'.get? b = some o
  new : h.objs.size ≤ e
  obj : ∃ oe vs, h'.get? e = some oe ∧ oe.cls = .ref C ∧ oe.dict = some d ∧ oe.data = .fields vs ∧ vs[1]? = some .none
  dbig : h.objs.size ≤ d
  dne : d ≠ e
  ns : h'.Ns1 d (fun y => if y = fld then some v else none)
/-- e, evaluated where the field's name stands for v, is some text -/
def EvTxt (P : Program) (w : World) (fld : Str) (e : Expr) (v : Value) : Prop :=
  ∀ (A : Around) (env : Env) (E : Value → Shared → Prop) (Q : Value → Shared → Prop) (s : Shared) (m : Str → Option Value), env.scope = supS fld → s.heap.Ns env.locals m → m fld = some v → (∀ z tk k, Q (.str z tk) { s with toks := k }) → wpAny (model P w) A (eval e env) Q E s
theorem sup_made (T : SupTxt P K mg cls fld e C fI cc cda) (FO : FldOk fld) {v : Value} (X : K.In s.heap) (hlim : s.heap.NoLimit) (G : s.heap.Ns mainGlobals mg) (B : ∃ mb, s.heap.Ns builtinsNs mb ∧ mb "super" = bootBuiltins "super") (hroom : A.depth + 1 < recursionLimit)
    (hev : EvTxt P w fld e v) (hq : ∀ h' tk x d, SupMade s.heap h' x C d fld v → R (.ok (.ret (.ref x))) { s with heap := h', toks := tk }) :
    codeAny (model P w) A (.call (.ref C) ⟨[v], []⟩) R s := by
  obtain ⟨nm, q, N, bs, bm, sn, sub, ab, col, dd, k0, k1, k2, k3, k5, hC, hbm⟩ := T.obj
  obtain ⟨mb, hmb, hsup⟩ := B
  obtain ⟨hp, g, dr, tk, os⟩ := s
  have k : ∀ b o, hp.get? b = some o → ((hp.push (kdv_tup [v])).push (excO C hp.objs.size)).get? b = some o := fun b o q => Heap.get?_push_of_some _ (Heap.get?_push_of_some _ q)
  have hget : ((hp.push (kdv_tup [v])).push (excO C hp.objs.size)).get? (hp.objs.size + 1) = some (excO C hp.objs.size) := by heap_get
  have hnx : K.lookup (hp.objs.size + 1) = none := by
    cases z : K.lookup (hp.objs.size + 1) with
    | none => rfl
    | some o => exact absurd (Nat.lt_of_succ_lt (Heap.lt_size (X _ _ z))) (Nat.lt_irrefl _)
  refine call_own F.excBase_ValueError (fun Y => refsVE_contains Y bm hbm) (X _ _ hC) (looks_findIn X T.iC) (fun self => bind_fn X self T.tC) (by rw [sizeLine_eq]; exact (by decide : 1 ≤ 16777216)) ?_
  refine sup_init (s := ⟨(hp.push (kdv_tup [v])).push (excO C hp.objs.size), g, dr, tk, os⟩) T (X.keeps k) (hlim.keeps k) (G.keeps k) ⟨mb, hmb.keeps k, hsup⟩ hget hnx ?_ FO hev fun h' tk' dx M => ?_
  · show A.depth + 1 < recursionLimit
    exact hroom
  · have old : ∀ b o, hp.get? b = some o → h'.get? b = some o := fun b o z => M.keep b o (Nat.ne_of_lt (Nat.lt_succ_of_lt (Heap.lt_size z))) (k b o z)
    have big : hp.objs.size ≤ dx := by
      have z := M.dbig
      have zz : hp.objs.size ≤ ((hp.push (kdv_tup [v])).push (excO C hp.objs.size)).objs.size := by
        rw [Heap.size_push, Heap.size_push]
        omega
      exact Nat.le_trans zz z
    obtain ⟨t1, hx⟩ := M.obj
    exact ⟨rfl, hq h' tk' (hp.objs.size + 1) dx ⟨old, Nat.le_succ _, ⟨_, _, hx, rfl, rfl, rfl, rfl⟩, big, M.dne, M.ns⟩⟩
end
section
variable {X : Cx} {cls fld : Str} {e : Expr} {C fI cc cda : Addr}
theorem relO_one {v : V} {u : Value} (r : RelV v u) (fld f : Str) : RelO (List.lookup f [(fld, v)]) (if f = fld then some u else none) := by
  by_cases hw : f = fld
  · subst hw
    rw [if_pos rfl, List.lookup_cons, beq_self_eq_true]
    exact r
  · rw [if_neg hw, List.lookup_cons, show (f == fld) = false by simpa using hw]
    trivial
/-- C(e): of e's value an exception with that field in its own dict -/
def tMkSup (C : Addr) (fld : Str) (ok : V → Prop) (ta : TA) : L2.St → Hp → XK → Prop := fun σ H Q => ta σ H fun vs H1 => ∃ v, vs = [v] ∧ ok v ∧ ∀ d, H1 d = none → Q (.ref C) (some d) (upd H1 d (.xd [(fld, v)]))
theorem pmk_sup {a : Expr} {ta : TA} {p pos : Pos} {k : Nat} {ok : V → Prop} (T : SupTxt X.prog X.K X.mg cls fld e C fI cc cda) (FO : FldOk fld) (hr : Room k X.A) (hev : ∀ v u, ok v → RelV v u → EvTxt X.prog X.w fld e u) (ha : PA X [a] ta)
    (hg : Gl X cls := by rfl) (hdb : (cls == ("__debug__" : Str)) = false := by decide) (he : starEach (a :: []) X.env = (false, eval a X.env) :: starEach [] X.env := by rfl) (hpl : (backTo pos (starEach [] X.env)).any (·.1) = false := by rfl) :
    PMk X (.Call (.Name cls p) [a] [] pos) (tMkSup C fld ok ta) := by
  intro pins s σ H Q I h
  refine wpAny_Call_Name_kw (ld_glob I hg T.gC ?_ hdb)
  refine callWith_K (h₀ := X.base) I.ok.mod.kin T.kC (thn (ha.run pos pins s σ H _ I h) fun us s1 hh => ?_) he hpl
  obtain ⟨vs, H1, I1, r1, v, ev, okv, q1⟩ := hh
  subst ev
  refine ⟨I1.kIn, ?_⟩
  cases r1 with
  | cons rv rn =>
    rename_i v' us'
    cases rn
    show wpAny _ _ (call (.ref C) [v']) _ _ _
    have hlim := I1.nolimit
    have gl : s1.heap.Ns mainGlobals X.mg := I1.mod.glob.keeps I1.bk
    obtain ⟨mb, hb1, hb2⟩ := I1.mod.blt
    have bl : ∃ mb, s1.heap.Ns builtinsNs mb ∧ mb "super" = bootBuiltins "super" := ⟨mb, hb1.keeps I1.bk, hb2 _ (by decide)⟩
    obtain ⟨hp, g, dr, tk, os⟩ := s1
    refine wpAny_call (sup_made T FO I1.kIn hlim gl bl (by have := hr.dp; omega) (hev _ _ okv rv) fun h' tk' x d M => ?_)
    obtain ⟨oe, fv, hoe, hc, hd, hdat, h1⟩ := M.obj
    obtain ⟨G', g1, g2⟩ := restrict h' fun b => decide (b ≠ x)
    have gk : ∀ b, b ≠ x → G'.get? b = h'.get? b := fun b hb => g1 b (decide_eq_true hb)
    have ge : G'.get? x = none := g2 x (by simp)
    have old : ∀ b o, hp.get? b = some o → G'.get? b = some o := fun b o q => (gk b (Nat.ne_of_lt (Nat.lt_of_lt_of_le (Heap.lt_size q) M.new))).trans (M.keep b o q)
    have ob : ObjOk X.prog X.w (upd H1 d (.xd [(fld, v)])) G' d (.xd [(fld, v)]) := ⟨_, M.ns.at (fun o q => (gk d M.dne).trans q), fun f => relO_one rv fld f⟩
    have J : L2.Inv X pins σ (upd H1 d (.xd [(fld, v)])) ⟨G', g, dr, tk', os⟩ := I1.laid (t' := tk') old M.dbig ob
    refine ⟨x, oe, fv, ⟨G', g, dr, tk', os⟩, _, .ref C, some d, rfl, J, fun b o q => ?_, ge, hoe, ⟨hc, hd⟩, hdat, h1, ?_, rfl, I1.bare, raises_own T.exC T.tyC, q1 d (I1.hok.fresh M.dbig)⟩
    · by_cases hb : b = x
      · have q' : G'.get? b = some o := q
        rw [hb, ge] at q'; cases q'
      · exact (gk b hb).symm.trans q
    · rw [upd_ne (Ne.symm M.dne)]
      exact I1.hok.fresh M.new
/-- raise C(e) -/
theorem ps_raiseSup {a : Expr} {ta : TA} {W : WX} {p pos pos2 : Pos} {k : Nat} {ok : V → Prop} (hc : X.calm = true) (T : SupTxt X.prog X.K X.mg cls fld e C fI cc cda) (FO : FldOk fld) (hr : Room k X.A) (tk : Takes X W) (hev : ∀ v u, ok v → RelV v u → EvTxt X.prog X.w fld e u) (ha : PA X [a] ta)
    (hg : Gl X cls := by rfl) (hdb : (cls == ("__debug__" : Str)) = false := by decide) (he : starEach (a :: []) X.env = (false, eval a X.env) :: starEach [] X.env := by rfl) (hpl : (backTo pos (starEach [] X.env)).any (·.1) = false := by rfl) :
    PS X (.Raise (some (.Call (.Name cls p) [a] [] pos)) none pos2) (fun _ σ H => tMkSup C fld ok ta σ H fun c d H' => W c d σ H') := ps_raise hc tk (pmk_sup T FO hr hev ha hg hdb he hpl)
/-- n.f, n the exception that the suite holds -/
def tBySup (C : Addr) (fld : Str) (a : Addr) (cv : Value) (d : Option Addr) (te : TE) : TE := fun σ H Q => te σ H fun x H1 => x = .ref a ∧ cv = .ref C ∧ ∃ (dd : Addr) (v : V), d = some dd ∧ H1 dd = some (.xd [(fld, v)]) ∧ Q v H1
theorem pe_bySup {a : Addr} {oe : Obj} {cv : Value} {d : Option Addr} {pn : List (Addr × Obj)} {en : Expr} {te : TE} {pos : Pos} (T : SupTxt X.prog X.K X.mg cls fld e C fI cc cda) (hz : Zc cv d oe) (hf : ∃ vs, oe.data = .fields vs) (he : PE (X.suite a ((a, oe) :: pn)) en te)
    (hb : attributeBase en fld X.env (eval en X.env) = eval en X.env := by rfl) :
    PE (X.suite a ((a, oe) :: pn)) (.Attribute en fld pos) (tBySup C fld a cv d te) := by
  refine ⟨fun pins s σ H Q I h => ?_⟩
  refine attr_of hb (thn (he.run pins s σ H _ I h) fun u s1 hh => ?_)
  obtain ⟨x, H1, I1, rx, ex, ec, dd, v, ed, ea, q⟩ := hh
  subst ex
  obtain rfl : u = Value.ref a := rx
  subst ec
  subst ed
  obtain ⟨ha, _⟩ := I1.pin (a, oe) (List.mem_append_left _ List.mem_cons_self)
  obtain ⟨vs, hd⟩ := hf
  have hx : ObjOk X.prog X.w H1 s1.heap dd (.xd [(fld, v)]) := I1.hok dd _ ea
  obtain ⟨mA, hns, hr⟩ := hx
  obtain ⟨od, ho, hl⟩ := lookIn_ns hns
  have l : List.lookup fld [(fld, v)] = some v := by rw [List.lookup_cons, beq_self_eq_true]
  obtain ⟨u, hu, ru⟩ := RelO.some_of (v := v) (o := mA fld) (by rw [← l]; exact hr fld)
  have J : InstAt s1.heap a oe C (some od) := ⟨ha, hz.1, by unfold notCls; rw [hd] <;> rfl, by rw [hz.2]; exact ho⟩
  exact exc_get I1.kIn J T.ga T.gg T.exC (findObj_own T.hdC T.noN rfl (by rw [hl, hu])) (handed_of ru) ⟨v, H1, I1.tok _, ru, q⟩
end
/-! ### isinstance(e, T), e the exception that the suite holds, with a dict of its own -/
structure KindTxt (K : Frag) (C : Addr) : Prop where
  ha : findIn K (.ref C) "__class__" = some (some (.builtin "object.__class__"))
  hn : specialIn K (.builtin "object.__class__") "__get__" = some (some (.builtin "getset_descriptor.__get__"))
  ht : takesIn K (.builtin "object.__class__") = some true
  hm : mroIn K C (.type "object") = some true
def rIsSup (K : Frag) (C a : Addr) (cv : Value) (d : Option Addr) : List V → Hp → VK → Prop := fun xs H Q => ∃ (c : V) (T : Value) (b : Bool) (dd : Addr) (fs : List (Str × V)), xs = [.ref a, c] ∧ cv = .ref C ∧ d = some dd ∧ H dd = some (.xd fs) ∧ (∀ u, RelV c u → u = T) ∧ kitOne K (.ref C) T = some b ∧ Q (.bl b) H
theorem call_isSup {X : Cx} {cls fld : Str} {e : Expr} {C fI cc cda a : Addr} {oe : Obj} {cv : Value} {d : Option Addr} {pn : List (Addr × Obj)} (T : SupTxt X.prog X.K X.mg cls fld e C fI cc cda) (KT : KindTxt X.K C) (hz : Zc cv d oe) (hf : ∃ vs, oe.data = .fields vs) :
    CallR (X.suite a ((a, oe) :: pn)) (.builtin "isinstance") (rIsSup X.K C a cv d) := by
  intro pins s σ H xs us Q I r h
  obtain ⟨c, cT, b, dd, fs, rfl, ec, ed, ea, hcv, hk, q⟩ := h
  obtain ⟨u1, u2, rfl, r1, r2⟩ := vals2 r
  cases r1
  have e2 := hcv _ r2
  subst e2 ec ed
  obtain ⟨hget, _⟩ := I.pin (a, oe) (List.mem_append.mpr (.inl List.mem_cons_self))
  obtain ⟨vs, hv⟩ := hf
  have hx : ObjOk X.prog X.w H s.heap dd (.xd fs) := I.hok dd _ ea
  obtain ⟨mA, hns, hr⟩ := hx
  obtain ⟨od, ho, hl⟩ := lookIn_ns hns
  have J : InstAt s.heap a oe C (some od) := ⟨hget, hz.1, by unfold notCls; rw [hv] <;> rfl, by rw [hz.2]; exact ho⟩
  have hcl : (clsIn X.K C).isSome = true := by
    obtain ⟨cd, hc, _⟩ := any_some T.hdC
    rw [hc]; rfl
  exact kia_one (kitx_exc hcl T.ga T.gg T.exC KT.ha KT.hn KT.ht KT.hm) I.kIn J hk (fun z => (nomatch z)) fun tk => ⟨.bl b, H, I.kept (t' := tk) fun _ _ z => z, rfl, q⟩
/-! ### one sign * number -/
theorem op_mul_one {X : Cx} : OpR X (binaryOp .Mult) (fun x y H Q => ∃ (c n : Nat), x = .str ⟨#[c]⟩ ∧ y = .int ((n : Nat) : Int) ∧ n ≤ 100000 ∧ Q (.str (strOf (List.replicate n c))) H) := by
  intro pins s σ H x y v u Q I rx ry h
  obtain ⟨c, n, rfl, rfl, hn, q⟩ := h
  obtain ⟨t, rfl⟩ := rx
  obtain ⟨t', rfl⟩ := ry
  have em : Txt.mul ⟨#[c]⟩ ((n : Nat) : Int) = strOf (List.replicate n c) := by
    refine ext_tl ?_
    show (Txt.mul ⟨#[c]⟩ ((n : Nat) : Int)).cps.toList = List.replicate n c
    rw [mul_one_list, Int.toNat_natCast]
  refine PySem.SB.mul ⟨?_, fun h1 h2 => ?_, fun h1 h2 => ?_⟩ fun tk k => ⟨.str (strOf (List.replicate n c)), H, I.tok k, ⟨tk, by rw [em]⟩, q⟩
  · rw [decide_eq_false (by omega), decide_eq_false (by omega)]
    rfl
  · show ¬ (((1 : Nat) : Int) > (2 ^ 63 - 1) / ((n : Nat) : Int))
    have : (1 : Int) ≤ (2 ^ 63 - 1) / ((n : Nat) : Int) := by
      rw [Int.le_ediv_iff_mul_le (by omega)]
      omega
    omega
  · show Builtin.Str.tooLong (1 * ((n : Nat) : Int).toNat) = false
    unfold Builtin.Str.tooLong
    rw [sizeLine_eq]
    simp
    omega
/-- f'{place}' of a whole number -/
theorem ev_place {P : Program} {w : World} {fld : Str} {p6 p7 p8 : Pos} (FO : FldOk fld) {n : Int} (hn : n.natAbs.log2 < 1920) {v : V} {u : Value} (hv : v = .int n) (r : RelV v u) : EvTxt P w fld (.JoinedStr [.FormattedValue (.Name fld p6) (-1) none p7] p8) u := by
  intro A env E Q s m hs hns hm hq
  subst hv
  obtain ⟨t, rfl⟩ := r
  refine wpAny_JoinedStr_one (wpAny_FormattedValue_plain ?_)
  refine wpAny_Name (wpAny_loadName_local (by rw [hs]; rfl) (by show env.scope.names.lookup fld = _; rw [hs]; exact FO.look) hns hm ?_) FO.ndb
  exact wpAny_formatField_int hn (hq _ _ _)
end Tst
/-! Reading that may fail, in plain Lean. -/
namespace Tst
open PySem PySem.Spec PyProof.Rows L2 TL
theorem textAt_free : ∀ (u t : List Nat) (p : Nat) (acc : List Nat), (∀ c ∈ u, plainSign c = true) → 10 ∉ u → textAt (u ++ t) p acc = textAt t (p + u.length) (acc ++ u)
  | [], t, p, acc, _, _ => by simp
  | c :: u, t, p, acc, hu, h10 => by
    have hc := hu c List.mem_cons_self
    have h1 : c ≠ 34 ∧ c ≠ 92 := by
      unfold plainSign at hc
      simp at hc
      exact hc
    have h2 : c ≠ 10 := fun e => h10 (by rw [e]; exact List.mem_cons_self)
    have ih := textAt_free u t (p + 1) (acc ++ [c]) (fun x hx => hu x (List.mem_cons_of_mem _ hx)) fun h => h10 (List.mem_cons_of_mem _ h)
    show textAt (c :: (u ++ t)) p acc = _
    rw [textAt.eq_def]
    simp only
    rw [if_neg h1.1, if_neg h1.2, if_neg h2, ih, List.length_cons, List.append_assoc]
    rw [show p + 1 + u.length = p + (u.length + 1) by omega]
    rfl
theorem textAt_feed (u t : List Nat) (p : Nat) (acc : List Nat) (hu : ∀ c ∈ u, plainSign c = true) (h10 : 10 ∉ u) : textAt (u ++ 10 :: t) p acc = .error (p + u.length) := by
  rw [textAt_free u (10 :: t) p acc hu h10, textAt.eq_def]
  rfl
theorem textAt_nil (p : Nat) (acc : List Nat) : textAt [] p acc = .error p := by rw [textAt.eq_def]
theorem textAt_end (r : List Nat) (p : Nat) (acc : List Nat) : textAt (34 :: r) p acc = .ok (acc, p + 1) := by rw [textAt.eq_def]; rfl
theorem textAt_slash (r : List Nat) (p : Nat) (acc : List Nat) : textAt (92 :: r) p acc = match r with
    | [] => .error (p + 1)
    | e :: r' => if e = 34 ∨ e = 92 then textAt r' (p + 2) (acc ++ [e]) else if e = 110 then textAt r' (p + 2) (acc ++ [10]) else .error (p + 1) := by
  rw [textAt.eq_def]
  cases r <;> rfl
/-- the digits behind the sign, and what the reader makes of them -/
theorem intAt_eq (L : List Nat) (p : Nat) : ∃ (b : Nat) (ds post : List Nat), ((L[p]? = some 45 ∧ b = p + 1) ∨ (L[p]? ≠ some 45 ∧ b = p)) ∧ L.drop b = ds ++ post ∧ Stop post ∧ (∀ x ∈ ds, dig x = true) ∧
    intAt L p = match ds with
      | [] => .error b
      | c :: r => if c = 48 then (if b > p then .error b else if r = [] then .ok (.int 0, b + 1) else .error (b + 1))
        else if r.length ≥ 2000 then .error (b + 2000)
        else .ok (.int (if b > p then - (NumText.digitsVal (c :: r) : Int) else (NumText.digitsVal (c :: r) : Int)), b + (r.length + 1)) := by
  obtain ⟨post, e, hs, hd⟩ := run_of (L.drop (if L[p]? = some 45 then p + 1 else p))
  refine ⟨if L[p]? = some 45 then p + 1 else p, _, post, ?_, e, hs, hd, ?_⟩
  · by_cases c : L[p]? = some 45
    · rw [if_pos c]; exact .inl ⟨c, rfl⟩
    · rw [if_neg c]; exact .inr ⟨c, rfl⟩
  · unfold intAt
    rfl
theorem intAt_none {L : List Nat} {p : Nat} (h : L[p]? = none) : intAt L p = .error p := by
  obtain ⟨b, ds, post, hb, e, _, _, q⟩ := intAt_eq L p
  have hb' : b = p := by
    rcases hb with ⟨h1, _⟩ | ⟨_, h2⟩
    · rw [h] at h1; cases h1
    · exact h2
  subst hb'
  have hd : L.drop b = [] := List.drop_eq_nil_of_le (by simpa using h)
  rw [hd] at e
  have : ds = [] := (List.append_eq_nil_iff.mp e.symm).1
  subst this
  exact q
/-- a place small enough to be written -/
theorem log_place {n : Nat} (h : n ≤ 2000000) : ((n : Nat) : Int).natAbs.log2 < 1920 := by
  rw [Int.natAbs_natCast]
  by_cases h0 : n = 0
  · rw [h0]; decide
  · rw [Nat.log2_lt h0]
    exact Nat.lt_of_le_of_lt h (by decide +kernel)
end Tst
/-! What is read: where it ends, how wide and how deep it is; the value's reading by its first sign. -/
namespace Tst
open PySem PySem.Spec PyProof.Rows L2 TL
theorem textAt_lt : ∀ (n : Nat) (R : List Nat) (p : Nat) (acc s : List Nat) (q : Nat), R.length ≤ n → textAt R p acc = .ok (s, q) → p < q ∧ q ≤ p + R.length
  | n, [], p, acc, s, q, _, h => by rw [textAt.eq_def] at h; cases h
  | 0, c :: r, p, acc, s, q, hn, h => absurd hn (by simp)
  | n + 1, c :: r, p, acc, s, q, hn, h => by
    rw [textAt.eq_def] at h
    simp only at h
    rw [List.length_cons] at hn ⊢
    split at h
    · cases h; omega
    · split at h
      · cases r with
        | nil => cases h
        | cons e r' =>
          rw [List.length_cons] at hn ⊢
          simp only at h
          split at h
          · have := textAt_lt n r' _ _ _ _ (by omega) h
            omega
          · split at h
            · have := textAt_lt n r' _ _ _ _ (by omega) h
              omega
            · cases h
      · split at h
        · cases h
        · have := textAt_lt n r _ _ _ _ (by omega) h
          omega
theorem intAt_lt {L : List Nat} {p q : Nat} {d : D} (h : intAt L p = .ok (d, q)) : p < q ∧ q ≤ L.length ∧ ∃ i, d = .int i := by
  obtain ⟨b, ds, post, hb, e, _, _, hI⟩ := intAt_eq L p
  have hbp : p ≤ b := by rcases hb with ⟨_, rfl⟩ | ⟨_, rfl⟩ <;> omega
  rw [hI] at h
  cases ds with
  | nil => cases h
  | cons c r =>
    have hl := congrArg List.length e
    rw [List.length_drop, List.length_append, List.length_cons] at hl
    simp only at h
    split at h
    · split at h
      · cases h
      · split at h
        · cases h
          exact ⟨by omega, by omega, _, rfl⟩
        · cases h
    · split at h
      · cases h
      · cases h
        exact ⟨by omega, by omega, _, rfl⟩
def tupAt (L : List Nat) (l p : Nat) : PR := if L[p]? = some 41 then .ok (.tup [], p + 1) else members L (valueAt L l) (L.length + 1) p []
def textV : Except Nat (List Nat × Nat) → PR
  | .error q => .error q
  | .ok (s, q) => .ok (.str (strOf s), q)
theorem valueAt_eq (L : List Nat) (l p : Nat) : valueAt L l p = if L[p]? = some 78 then .ok (.non, p + 1) else if L[p]? = some 84 then .ok (.bl true, p + 1) else if L[p]? = some 70 then .ok (.bl false, p + 1)
    else if L[p]? = some 34 then textV (textAt (L.drop (p + 1)) (p + 1) []) else if L[p]? = some 40 then (match l with | 0 => .error p | m + 1 => tupAt L m (p + 1)) else intAt L p := by
  unfold valueAt
  cases g : L[p]? with
  | none =>
    simp only [g]
    simpa using (intAt_none g).symm
  | some c =>
    simp only [g, Option.some.injEq]
    cases l with
    | zero => rfl
    | succ m => rfl
/-- how wide and how deep -/
inductive Lim (N : Nat) : Nat → D → Prop
  | non (n : Nat) : Lim N n .non
  | bl (n : Nat) (b : Bool) : Lim N n (.bl b)
  | int (n : Nat) (i : Int) : Lim N n (.int i)
  | str (n : Nat) (z : Str) : Lim N n (.str z)
  | tup (n : Nat) (xs : List D) : xs.length ≤ N → (∀ d ∈ xs, Lim N n d) → Lim N (n + 1) (.tup xs)
theorem members_lim {L : List Nat} {f : Nat → PR} {N l : Nat} (hf : ∀ p d q, f p = .ok (d, q) → p < q ∧ q ≤ L.length ∧ Lim N l d) : ∀ (n p : Nat) (acc : List D) (d : D) (q : Nat), members L f n p acc = .ok (d, q) → (∀ x ∈ acc, Lim N l x) → acc.length + n ≤ N → p < q ∧ q ≤ L.length ∧ Lim N (l + 1) d
  | 0, p, acc, d, q, h, _, _ => by cases h
  | n + 1, p, acc, d, q, h, ha, hn => by
    unfold members at h
    cases e : f p with
    | error k => rw [e] at h; cases h
    | ok dq =>
      obtain ⟨d1, k⟩ := dq
      obtain ⟨h1, h2, h3⟩ := hf p d1 k e
      rw [e] at h
      simp only at h
      have hall : ∀ x ∈ acc ++ [d1], Lim N l x := fun x hx => by
        rcases List.mem_append.mp hx with hx | hx
        · exact ha x hx
        · rw [List.mem_singleton] at hx; rw [hx]; exact h3
      have hlen : (acc ++ [d1]).length = acc.length + 1 := by rw [List.length_append]; rfl
      cases g : L[k]? with
      | none => rw [g] at h; cases h
      | some c =>
        have hk := (List.getElem?_eq_some_iff.mp g).1
        rw [g] at h
        simp only at h
        split at h
        · cases h
          exact ⟨by omega, by omega, .tup _ _ (by omega) hall⟩
        · split at h
          · have := members_lim hf n _ _ _ _ h hall (by omega)
            exact ⟨by omega, this.2⟩
          · cases h
theorem valueAt_lim {L : List Nat} : ∀ {l p q : Nat} {d : D}, valueAt L l p = .ok (d, q) → p < q ∧ q ≤ L.length ∧ Lim (L.length + 1) l d := by
  intro l
  induction l with
  | zero =>
    intro p q d h
    rw [valueAt_eq] at h
    have hlt : ∀ c, L[p]? = some c → p < L.length := fun c g => (List.getElem?_eq_some_iff.mp g).1
    split at h
    · rename_i g; cases h; exact ⟨by omega, hlt _ g, .non _⟩
    split at h
    · rename_i g; cases h; exact ⟨by omega, hlt _ g, .bl _ _⟩
    split at h
    · rename_i g; cases h; exact ⟨by omega, hlt _ g, .bl _ _⟩
    split at h
    · rename_i g
      have := hlt _ g
      cases e : textAt (L.drop (p + 1)) (p + 1) [] with
      | error k => rw [e] at h; cases h
      | ok sq =>
        obtain ⟨s, k⟩ := sq
        rw [e] at h
        cases h
        have t := textAt_lt _ _ _ _ _ _ (Nat.le_refl _) e
        rw [List.length_drop] at t
        exact ⟨by omega, by omega, .str _ _⟩
    split at h
    · cases h
    · obtain ⟨h1, h2, i, rfl⟩ := intAt_lt h
      exact ⟨h1, h2, .int _ _⟩
  | succ m ih =>
    intro p q d h
    rw [valueAt_eq] at h
    have hlt : ∀ c, L[p]? = some c → p < L.length := fun c g => (List.getElem?_eq_some_iff.mp g).1
    split at h
    · rename_i g; cases h; exact ⟨by omega, hlt _ g, .non _⟩
    split at h
    · rename_i g; cases h; exact ⟨by omega, hlt _ g, .bl _ _⟩
    split at h
    · rename_i g; cases h; exact ⟨by omega, hlt _ g, .bl _ _⟩
    split at h
    · rename_i g
      have := hlt _ g
      cases e : textAt (L.drop (p + 1)) (p + 1) [] with
      | error k => rw [e] at h; cases h
      | ok sq =>
        obtain ⟨s, k⟩ := sq
        rw [e] at h
        cases h
        have t := textAt_lt _ _ _ _ _ _ (Nat.le_refl _) e
        rw [List.length_drop] at t
        exact ⟨by omega, by omega, .str _ _⟩
    split at h
    · simp only at h
      unfold tupAt at h
      split at h
      · rename_i g
        cases h
        have := hlt
        have := (List.getElem?_eq_some_iff.mp g).1
        exact ⟨by omega, by omega, .tup _ _ (by simp) (fun d hd => by cases hd)⟩
      · have := members_lim (fun p d q h => ih h) _ _ _ _ _ h (fun x hx => by cases hx) (by simp)
        exact ⟨by omega, this.2⟩
    · obtain ⟨h1, h2, i, rfl⟩ := intAt_lt h
      exact ⟨h1, h2, .int _ _⟩
end Tst
namespace Tst
open PySem PySem.Spec PyProof.Rows L2 TL
def top (i : Nat) : Stmt := PySem.Challenge.pw_termstead_k19_plain_wrong_texts.main.body.getD i (.Pass ⟨0, 0, 0, 0⟩)
def eBP : Expr := .JoinedStr [.FormattedValue (.Name "place" ⟨13, 28, 13, 33⟩) (-1) none ⟨13, 27, 13, 34⟩] ⟨13, 25, 13, 35⟩
abbrev s_read_plain : Stmt := top 8
theorem sc_read_plain : FnScope ["text", "value", "place"] ["text"] (defScope s_read_plain) := ⟨rfl, rfl, rfl, by decide +kernel, rfl, by decide +kernel, by decide +kernel⟩
abbrev s_value_at : Stmt := top 9
theorem sc_value_at : FnScope ["text", "place", "within", "sign"] ["text", "place", "within"] (defScope s_value_at) := ⟨rfl, rfl, rfl, by decide +kernel, rfl, by decide +kernel, by decide +kernel⟩
abbrev s_integer_at : Stmt := top 10
theorem sc_integer_at : FnScope ["text", "place", "begin", "sign", "end"] ["text", "place"] (defScope s_integer_at) := ⟨rfl, rfl, rfl, by decide +kernel, rfl, by decide +kernel, by decide +kernel⟩
abbrev s_text_at : Stmt := top 11
theorem sc_text_at : FnScope ["text", "place", "parts", "quote", "end", "slash", "feed", "behind"] ["text", "place"] (defScope s_text_at) := ⟨rfl, rfl, rfl, by decide +kernel, rfl, by decide +kernel, by decide +kernel⟩
abbrev s_tuple_at : Stmt := top 12
theorem sc_tuple_at : FnScope ["text", "place", "within", "members", "member", "sign"] ["text", "place", "within"] (defScope s_tuple_at) := ⟨rfl, rfl, rfl, by decide +kernel, rfl, by decide +kernel, by decide +kernel⟩
abbrev s__law_cell : Stmt := top 14
theorem sc__law_cell : FnScope ["script", "k"] ["script", "k"] (defScope s__law_cell) := ⟨rfl, rfl, rfl, by decide +kernel, rfl, by decide +kernel, by decide +kernel⟩
abbrev s__law_digits : Stmt := top 15
theorem sc__law_digits : FnScope ["script", "first", "last", "digits", "k", "cell", "turn", "seed"] ["script", "first", "last"] (defScope s__law_digits) := ⟨rfl, rfl, rfl, by decide +kernel, rfl, by decide +kernel, by decide +kernel⟩
abbrev s__law_draw : Stmt := top 16
theorem sc__law_draw : FnScope ["box", "many", "at"] ["box", "many"] (defScope s__law_draw) := ⟨rfl, rfl, rfl, by decide +kernel, rfl, by decide +kernel, by decide +kernel⟩
abbrev s__law_same : Stmt := top 17
theorem sc__law_same : FnScope ["actual", "due", "k"] ["actual", "due"] (defScope s__law_same) := ⟨rfl, rfl, rfl, by decide +kernel, rfl, by decide +kernel, by decide +kernel⟩
abbrev s__law_plain : Stmt := top 18
theorem sc__law_plain : FnScope ["value", "one"] ["value"] (defScope s__law_plain) := ⟨rfl, rfl, rfl, by decide +kernel, rfl, by decide +kernel, by decide +kernel⟩
abbrev s__law_text_at : Stmt := top 19
theorem sc__law_text_at : FnScope ["text", "at", "found", "turn", "sign"] ["text", "at"] (defScope s__law_text_at) := ⟨rfl, rfl, rfl, by decide +kernel, rfl, by decide +kernel, by decide +kernel⟩
abbrev s__law_digits_at : Stmt := top 20
theorem sc__law_digits_at : FnScope ["text", "at", "start", "end", "turn"] ["text", "at"] (defScope s__law_digits_at) := ⟨rfl, rfl, rfl, by decide +kernel, rfl, by decide +kernel, by decide +kernel⟩
abbrev s__law_value_at : Stmt := top 21
theorem sc__law_value_at : FnScope ["text", "at", "deep", "sign", "found", "turn", "value", "end"] ["text", "at", "deep"] (defScope s__law_value_at) := ⟨rfl, rfl, rfl, by decide +kernel, rfl, by decide +kernel, by decide +kernel⟩
abbrev s__law_read : Stmt := top 22
theorem sc__law_read : FnScope ["text", "value", "end"] ["text"] (defScope s__law_read) := ⟨rfl, rfl, rfl, by decide +kernel, rfl, by decide +kernel, by decide +kernel⟩
abbrev s__law_told : Stmt := top 23
theorem sc__law_told : FnScope ["text", "e"] ["text"] (defScope s__law_told) := ⟨rfl, rfl, rfl, by decide +kernel, rfl, by decide +kernel, by decide +kernel⟩
abbrev s__law_value : Stmt := top 24
theorem sc__law_value : FnScope ["box", "deep", "kind", "k"] ["box", "deep"] (defScope s__law_value) := ⟨rfl, rfl, rfl, by decide +kernel, rfl, by decide +kernel, by decide +kernel⟩
abbrev s_law : Stmt := top 25
theorem sc_law : FnScope ["script", "box", "turn", "text", "at", "sign", "changed", "great", "due"] ["script"] (defScope s_law) := ⟨rfl, rfl, rfl, by decide +kernel, rfl, by decide +kernel, by decide +kernel⟩
/-- what the text's top has: the built-ins are the built-ins, the constants -/
structure Txt0 (mg : Str → Option Value) (tF tM tB : Tok) : Prop where
  n_len : mg "len" = none
  n_isinstance : mg "isinstance" = none
  n_int : mg "int" = none
  n_str : mg "str" = none
  n_tuple : mg "tuple" = none
  n_bool : mg "bool" = none
  n_range : mg "range" = none
  n_ord : mg "ord" = none
  g_FIGURES : mg "FIGURES" = some (.str (Str.ofString "0123456789") tF)
  g_MOST_FIGURES : mg "MOST_FIGURES" = some (.int 2000 tM)
  g_MOST_BRACKETS : mg "MOST_BRACKETS" = some (.int 40 tB)
/-- BadPlain, and no bound of the world's own on digits -/
structure Bp (P : Program) (K : PySem.W.Frag) (mg : Str → Option Value) (C fI cc cda : Addr) : Prop where
  bp : SupTxt P K mg "BadPlain" (Str.ofString "place") eBP C fI cc cda
  nodig : PySem.W.nsIn K cStatics "sys.int_max_str_digits" = some none
/-- a place that can be written -/
def okPlace (v : V) : Prop := ∃ n : Int, v = .int n ∧ n.natAbs.log2 < 1920
theorem ev_bp {P : Program} {w : World} : ∀ (v : V) (u : Value), okPlace v → RelV v u → EvTxt P w (Str.ofString "place") eBP u := fun v u ⟨_, e, hn⟩ r => ev_place fld_place hn e r
/-- the error at a place -/
def ErrAt (C : Addr) (H : Hp) (E : XK) (q : Nat) : Prop := ∀ (d : Addr) (H' : Hp), Same H H' → H' d = some (.xd [(Str.ofString "place", .int ((q : Nat) : Int))]) → E (.ref C) (some d) H'
theorem ErrAt.from_ {C : Addr} {H H1 : Hp} {E : XK} {q : Nat} (h : ErrAt C H E q) (s : Same H H1) : ErrAt C H1 E q := fun d H' s' e => h d H' (s.trans s') e
/-- raise BadPlain(place): what is to be shown -/
theorem ErrAt.raise {C : Addr} {H H1 : Hp} {E : XK} {q : Nat} (h : ErrAt C H E q) (s : Same H H1) (hq : q ≤ 2000000) :
    ∃ v, [V.int ((q : Nat) : Int)] = [v] ∧ okPlace v ∧ ∀ d, H1 d = none → E (.ref C) (some d) (upd H1 d (.xd [(Str.ofString "place", v)])) :=
  ⟨_, rfl, ⟨_, rfl, log_place hq⟩, fun d hd => h d _ (s.trans (same_new hd _)) upd_same⟩
section
variable {P : Program} {w : World} {K : PySem.W.Frag} {mg : Str → Option Value} {base : Heap} {f : Addr} {fd : FuncData} {tF tM tB : Tok} {C fI cc cda : Addr}
def spCell (K : PySem.W.Frag) : Sp := fun vs H Q _ => ∃ (a : Addr) (ns : List Int) (k : Int), vs = [.ref a, .int k] ∧ SqL K H a (ns.map V.int) ∧ 0 ≤ k ∧ ∀ i : Int, Q (.int i) H
theorem ok_cell (F : Fun K "_law_cell" "_law_cell" s__law_cell f fd) (T : Txt0 mg tF tM tB) : FnOk P w K mg base CX0 1 f fd ["script", "k"] (spCell K) := by
  refine F.ok sc__law_cell (fun vs H Q E h => ?_) (fun cdv A outer s H vs Q E hr h => ?_)
  · obtain ⟨a, ns, k, rfl, _⟩ := h
    rfl
  obtain ⟨a, ns, k, rfl, hS, h0, q⟩ := h
  refine ⟨_, pss_cons (ps_if (pt_cmpR op_lt (pv 1) (pe_callB call_len_seq rfl (by exact T.n_len) PySem.boot_len (pa_cons (pv 0) pa_nil)) (nomark _)) (pss_one (ps_ret (pe_ix ix_list (pv 0) (pv 1) (fun _ _ => rfl)))) (pss_nil))
    (pss_one (ps_ret (pe_int))), ?_⟩
  refine ⟨_, rfl, _, rfl, a, _, rfl, .inl hS, _, _, rfl, rfl, _, rfl, ?_⟩
  refine ite2 (fun c => ?_) (fun c => ?_)
  · have c' : k < (((ns.map V.int).length : Nat) : Int) := of_decide_eq_true c
    rw [List.length_map] at c'
    have hk : k.toNat < ns.length := by omega
    have e : atI (ns.map V.int) k = some (.int ns[k.toNat]) := by
      have q := atI_nat (xs := ns.map V.int) (j := k.toNat) (v := V.int ns[k.toNat]) (by rw [List.getElem?_map, List.getElem?_eq_getElem hk]; rfl)
      rwa [show ((k.toNat : Nat) : Int) = k by omega] at q
    exact ⟨_, rfl, _, rfl, a, _, _, _, rfl, rfl, hS, e, q _⟩
  · exact q 0

def spDigits (K : PySem.W.Frag) : Sp := fun vs H Q _ => ∃ (a : Addr) (ns : List Int) (lo hi : Int), vs = [.ref a, .int lo, .int hi] ∧ SqL K H a (ns.map V.int) ∧ (0 ≤ lo ∧ lo ≤ 1000 ∧ 0 ≤ hi ∧ hi ≤ 1000) ∧
  ∀ (p : Addr) (H' : Hp) (ds : List Int), Same H H' → H p = none → H' p = some (.lst (ds.map V.int)) → Q (.ref p) H'
/-- behind a turn: the digits so far -/
structure DigAt (p : Addr) (H0 H : Hp) (m : Nat) : Prop where
  at_ : ∃ ds : List Int, H p = some (.lst (ds.map V.int)) ∧ ds.length ≤ m
  keep : Kept p H0 H
theorem DigAt.mono {p : Addr} {H0 H : Hp} {m n : Nat} (x : DigAt p H0 H m) (h : m ≤ n) : DigAt p H0 H n := by
  obtain ⟨⟨ds, h1, h2⟩, k⟩ := x
  exact ⟨⟨ds, h1, by omega⟩, k⟩
theorem DigAt.add {p : Addr} {H0 H : Hp} {m : Nat} {ds : List Int} {v : Int} (k : Kept p H0 H) (hd : H p = some (.lst (ds.map V.int))) (hl : ds.length ≤ m) : DigAt p H0 (upd H p (.lst (ds.map V.int ++ [.int v]))) (m + 1) :=
  ⟨⟨ds ++ [v], by rw [upd_same, List.map_append]; rfl, by rw [List.length_append, List.length_singleton]; omega⟩, k.trans Kept.upd⟩
theorem small_of {n : Nat} (h : n ≤ 1000000) : n < sizeLine := Nat.lt_of_le_of_lt h (by decide)
theorem ok_digits (F : Fun K "_law_digits" "_law_digits" s__law_digits f fd) (T : Txt0 mg tF tM tB) (c__law_cell : Cal P w K mg base CX0 1 "_law_cell" ["script", "k"] (spCell K)) : FnOk P w K mg base CX0 2 f fd ["script", "first", "last"] (spDigits K) := by
  refine F.ok sc__law_digits (fun vs H Q E h => ?_) (fun cdv A outer s H vs Q E hr h => ?_)
  · obtain ⟨a, ns, lo, hi, rfl, _⟩ := h
    rfl
  obtain ⟨a, ns, lo, hi, rfl, hS, ⟨b1, b2, b3, b4⟩, q⟩ := h
  refine ⟨_, pss_cons (ps_set (i := 3) sc__law_digits.nd rfl (Or.inl rfl) (pe_lst (pa_nil)))
    (pss_cons (ps_for PassesOwn.never rfl (pi_range2 rfl (by exact T.n_range) (pa_cons (pv 1) (pa_cons (pv 2) pa_nil))) (pg_name (i := 4) sc__law_digits.nd rfl (Or.inl rfl)) (pss_cons (ps_if (pt_cmpR op_gt (pe_callB call_len_seq rfl (by exact T.n_len) PySem.boot_len (pa_cons (pv 3) pa_nil)) (pe_int) (nomark _)) (pss_one (ps_break)) (pss_nil))
    (pss_cons (ps_set (i := 5) sc__law_digits.nd rfl (Or.inl rfl) (pe_cal c__law_cell (hr.mono (by omega)) rfl pass0 (pa_cons (pv 0) (pa_cons (pv 4) pa_nil))))
    (C8.pss_cut (ps_if (pt_cmpR op_lt (pv 5) (pe_int) (nomark _)) (pss_one (ps_set (i := 5) sc__law_digits.nd rfl (Or.inl rfl) (pe_op op_sub (pe_int) (pe_op op_mul (pe_int) (pv 5))))) (pss_nil))
    (pss_one (ps_if (pt_cmpR op_ge (pv 5) (pe_op op_pow (pe_int) (pe_int)) (nomark _)) (pss_one (ps_for PassesOwn.never rfl (pi_range1 rfl (by exact T.n_range) (pa_cons (pe_int) pa_nil)) (pg_name (i := 6) sc__law_digits.nd rfl (Or.inl rfl)) (pss_one (ps_if (pt_cmpR op_gt (pv 5) (pe_int) (nomark _)) (pss_cons (ps_expr (pe_bm PySem.F.plainAttrs_list PySem.F.slot_list_append PySem.F.type_list_append mt_append (pv 3) (pa_cons (pe_op op_mod (pe_callTy call_int1 rfl (by exact T.n_int) (by decide +kernel) (pa_cons (pv 5) pa_nil)) (pe_int)) pa_nil)))
    (pss_one (ps_set (i := 5) sc__law_digits.nd rfl (Or.inl rfl) (pe_op op_fdiv (pv 5) (pe_int))))) (pss_nil))))) (pss_cons (ps_set (i := 7) sc__law_digits.nd rfl (Or.inl rfl) (pe_op op_mod (pe_callTy call_int1 rfl (by exact T.n_int) (by decide +kernel) (pa_cons (pe_op op_add (pe_op op_add (pe_op op_mul (pv 5) (pe_int)) (pe_op op_mul (pv 4) (pe_int))) (pe_int)) pa_nil)) (pe_int)))
    (pss_one (ps_for PassesOwn.never rfl (pi_range1 rfl (by exact T.n_range) (pa_cons (pe_int) pa_nil)) (pg_name (i := 6) sc__law_digits.nd rfl (Or.inl rfl)) (pss_cons (ps_set (i := 7) sc__law_digits.nd rfl (Or.inl rfl) (pe_op op_mod (pe_callTy call_int1 rfl (by exact T.n_int) (by decide +kernel) (pa_cons (pe_op op_add (pe_op op_add (pe_op op_mul (pv 7) (pe_int)) (pe_op op_mul (pe_int) (pv 6))) (pe_int)) pa_nil)) (pe_int)))
    (pss_one (ps_expr (pe_bm PySem.F.plainAttrs_list PySem.F.slot_list_append PySem.F.type_list_append mt_append (pv 3) (pa_cons (pe_op op_mod (pe_callTy call_int1 rfl (by exact T.n_int) (by decide +kernel) (pa_cons (pe_op op_fdiv (pv 7) (pe_int)) pa_nil)) (pe_int)) pa_nil))))))))))))))
    (pss_one (ps_ret (pv 3)))), ?_⟩
  refine ⟨(by show 0 ≤ sizeLine; decide), fun p hp => ?_⟩
  have fin : ∀ H' : Hp, DigAt p H H' 2000 → Q (.ref p) H' := fun H' x => by
    obtain ⟨⟨ds, h1, _⟩, k⟩ := x
    exact q p H' ds (fun b o e => k b o (ne_of_none e hp) e) hp h1
  refine ⟨_, rfl, _, rfl, lo, hi, rfl, ⟨by omega, by omega, by omega, by omega⟩, for_range (lo := lo) (n := (hi - lo).toNat)
    (fun i σ H' => ∃ x4 x5 x6 x7 : Option V, σ = [some (.ref a), some (.int lo), some (.int hi), some (.ref p), x4, x5, x6, x7] ∧ DigAt p H H' 1560) ?_ ?_ ?_⟩
  · exact ⟨_, _, _, _, rfl, ⟨⟨[], upd_same, by simp⟩, Kept.upd⟩⟩
  · rintro i σ H1 hi1 ⟨x4, x5, x6, x7, rfl, D1⟩
    obtain ⟨⟨ds, hd, hl⟩, k1⟩ := D1
    have hS1 : SqL K H1 a (ns.map V.int) := by
      have : Same H H1 := fun b o e => k1 b o (ne_of_none e hp) e
      exact this.seq hS
    -- if len(digits) > 1500: break
    refine ⟨_, rfl, p, _, rfl, .inl (SqL.of hd), _, _, rfl, rfl, _, rfl, ?_⟩
    refine ite2 (fun c => ?_) (fun c => ?_)
    · exact ⟨_, rfl, fin _ ⟨⟨ds, hd, by omega⟩, k1⟩⟩
    have hl' : ds.length ≤ 1500 := by
      have c' : ¬ (1500 : Int) < (((ds.map V.int).length : Nat) : Int) := of_decide_eq_false (Bool.eq_false_iff.mpr c)
      rw [List.length_map] at c'
      omega
    -- cell = _law_cell(script, k)
    refine ⟨_, rfl, _, rfl, a, ns, _, rfl, hS1, by omega, fun c0 => ?_⟩
    -- if cell < 0: cell = 1 - 2 * cell
    refine ⟨fun σ' H' => H' = H1 ∧ ∃ c : Int, σ' = [some (.ref a), some (.int lo), some (.int hi), some (.ref p), some (.int (lo + i)), some (.int c), x6, x7], ?_, ?_⟩
    · refine ⟨_, rfl, _, _, rfl, rfl, _, rfl, ite2 (fun _ => ?_) (fun _ => ?_)⟩
      · exact ⟨_, rfl, _, _, rfl, rfl, .inl ⟨by decide, by decide⟩, _, _, rfl, rfl, rfl, _, rfl⟩
      · exact ⟨rfl, _, rfl⟩
    rintro σ' H' ⟨rfl, c, rfl⟩
    refine ⟨_, rfl, _, _, rfl, rfl, ⟨by decide, by decide, by decide⟩, _, _, rfl, rfl, _, rfl, ite2 (fun _ => ?_) (fun _ => ?_)⟩
    · -- the digits of a great cell
      refine ⟨60, rfl, by decide, by decide, for_range (lo := 0) (n := (60 : Int).toNat)
        (fun j σ H2 => ∃ (c : Int) (x6 : Option V), σ = [some (.ref a), some (.int lo), some (.int hi), some (.ref p), some (.int (lo + i)), some (.int c), x6, x7] ∧ DigAt p H H2 (1500 + j)) ?_ ?_ ?_⟩
      · exact ⟨_, _, rfl, ⟨ds, hd, by omega⟩, k1⟩
      · rintro j σ H2 hj ⟨c, x6, rfl, D2⟩
        refine ⟨_, rfl, _, _, rfl, rfl, _, rfl, ite2 (fun _ => ?_) (fun _ => ?_)⟩
        · obtain ⟨⟨ds2, hd2, hl2⟩, k2⟩ := D2
          refine ⟨_, rfl, .inl ⟨rfl, _, SqL.of hd2⟩, _, rfl, .inl ⟨_, rfl, _, _, rfl, rfl, (show (0 : Int) < 1000 by decide), p, _, _, rfl, rfl, hd2, (by rw [List.length_map]; exact small_of (by have : (60 : Int).toNat = 60 := rfl; omega)), ?_⟩⟩
          refine ⟨_, rfl, _, _, rfl, rfl, ⟨by decide, by decide⟩, _, _, rfl, DigAt.add k2 hd2 hl2⟩
        · exact ⟨_, _, rfl, D2.mono (by omega)⟩
      · rintro σ H2 ⟨c, x6, rfl, D2⟩
        exact ⟨_, _, _, _, rfl, D2.mono (by have : (60 : Int).toNat = 60 := rfl; omega)⟩
    · -- the digits of a seed
      refine ⟨_, rfl, _, _, rfl, rfl, .inr ⟨by decide, by decide⟩, _, rfl, _, _, rfl, rfl, .inr ⟨by decide, by decide⟩, _, _, rfl, rfl, _, _, rfl, rfl, .inl ⟨_, rfl, _, _, rfl, rfl, (show (0 : Int) < 2147483647 by decide), ?_⟩⟩
      refine ⟨12, rfl, by decide, by decide, for_range (lo := 0) (n := (12 : Int).toNat)
        (fun j σ H2 => ∃ (sd : Int) (x6 : Option V), σ = [some (.ref a), some (.int lo), some (.int hi), some (.ref p), some (.int (lo + i)), some (.int c), x6, some (.int sd)] ∧ DigAt p H H2 (1500 + j)) ?_ ?_ ?_⟩
      · exact ⟨_, _, rfl, ⟨ds, hd, by omega⟩, k1⟩
      · rintro j σ H2 hj ⟨sd, x6, rfl, ⟨ds2, hd2, hl2⟩, k2⟩
        refine ⟨_, rfl, _, _, rfl, rfl, .inr ⟨by decide, by decide⟩, _, rfl, _, _, rfl, rfl, .inl ⟨by decide, by decide⟩, _, _, rfl, rfl, _, _, rfl, rfl, .inl ⟨_, rfl, _, _, rfl, rfl, (show (0 : Int) < 2147483647 by decide), ?_⟩⟩
        refine ⟨_, rfl, .inl ⟨rfl, _, SqL.of hd2⟩, _, rfl, _, _, rfl, rfl, ⟨by decide, by decide⟩, .inl ⟨_, rfl, _, _, rfl, rfl, (show (0 : Int) < 1000 by decide), p, _, _, rfl, rfl, hd2, (by rw [List.length_map]; exact small_of (by have : (12 : Int).toNat = 12 := rfl; omega)), ?_⟩⟩
        exact ⟨_, _, rfl, DigAt.add k2 hd2 hl2⟩
      · rintro σ H2 ⟨c, x6, rfl, D2⟩
        exact ⟨_, _, _, _, rfl, D2.mono (by have : (12 : Int).toNat = 12 := rfl; omega)⟩
  · rintro σ H1 ⟨x4, x5, x6, x7, rfl, D1⟩
    exact ⟨_, rfl, fin _ (D1.mono (by omega))⟩

/-! ### the draws -/
def spDraw : Sp := fun vs H Q _ => ∃ (b d : Addr) (many : Int), vs = [.ref b, .int many] ∧ 0 < many ∧ Box H b d ∧ ∀ (v : Int) (H' : Hp), 0 ≤ v → v < many → Box H' b d → Kept b H H' → Q (.int v) H'
theorem ok_draw (F : Fun K "_law_draw" "_law_draw" s__law_draw f fd) (T : Txt0 mg tF tM tB) : FnOk P w K mg base CX0 1 f fd ["box", "many"] spDraw := by
  refine F.ok sc__law_draw (fun vs H Q E h => ?_) (fun cdv A outer s H vs Q E hr h => ?_)
  · obtain ⟨b, d, many, rfl, _⟩ := h
    rfl
  obtain ⟨b, d, many, rfl, hm, ⟨ds, n, h1, h2, hn⟩, q⟩ := h
  refine ⟨_, pss_cons (ps_set (i := 2) sc__law_draw.nd rfl (Or.inl rfl) (pe_ix ix_list (pv 0) (pe_int) (fun _ _ => rfl)))
    (pss_cons (ps_asg (pe_op op_add (pv 2) (pe_int)) (pg_sub (pv 0) (pe_int) set_list))
    (pss_cons (ps_if (pt_cmpR op_lt (pv 2) (pe_callB call_len_seq rfl (by exact T.n_len) PySem.boot_len (pa_cons (pe_ix ix_list (pv 0) (pe_int) (fun _ _ => rfl)) pa_nil)) (nomark _)) (pss_one (ps_ret (pe_op op_mod (pe_callTy call_int1 rfl (by exact T.n_int) (by decide +kernel) (pa_cons (pe_ix ix_list (pe_ix ix_list (pv 0) (pe_int) (fun _ _ => rfl)) (pv 2) (fun _ _ => rfl)) pa_nil)) (pv 1)))) (pss_nil))
    (pss_one (ps_ret (pe_op op_mod (pe_callTy call_int1 rfl (by exact T.n_int) (by decide +kernel) (pa_cons (pe_op op_mul (pv 2) (pe_int)) pa_nil)) (pv 1)))))), ?_⟩
  refine ⟨_, rfl, b, _, _, _, rfl, rfl, SqL.of h1, (show atI [V.ref d, V.int n] 1 = some (V.int n) from rfl), ?_⟩
  refine ⟨_, rfl, _, _, rfl, rfl, _, rfl, b, _, _, _, rfl, rfl, h1, (show ixN 2 1 = some 1 from rfl), ?_⟩
  have k1 : Kept b H (upd H b (.lst ([V.ref d, V.int n].set 1 (.int ((n : Int) + 1))))) := Kept.upd
  have e1 : (upd H b (.lst ([V.ref d, V.int n].set 1 (.int ((n : Int) + 1))))) b = some (.lst [V.ref d, V.int ((n + 1 : Nat) : Int)]) := upd_same
  have e2 : (upd H b (.lst ([V.ref d, V.int n].set 1 (.int ((n : Int) + 1))))) d = some (.lst (ds.map V.int)) := by rw [upd_ne hn]; exact h2
  have bx : Box (upd H b (.lst ([V.ref d, V.int n].set 1 (.int ((n : Int) + 1))))) b d := ⟨ds, n + 1, e1, e2, hn⟩
  refine ⟨_, rfl, _, rfl, b, _, _, _, rfl, rfl, SqL.of e1, (show atI [V.ref d, V.int ((n + 1 : Nat) : Int)] 0 = some (V.ref d) from rfl), d, _, rfl, .inl (SqL.of e2), _, _, rfl, rfl, _, rfl, ite2 (fun c => ?_) (fun c => ?_)⟩
  · have c' : (n : Int) < (((ds.map V.int).length : Nat) : Int) := of_decide_eq_true c
    rw [List.length_map] at c'
    have hk : n < ds.length := by omega
    refine ⟨_, rfl, b, _, _, _, rfl, rfl, SqL.of e1, (show atI [V.ref d, V.int ((n + 1 : Nat) : Int)] 0 = some (V.ref d) from rfl), _, rfl, d, _, _, _, rfl, rfl, SqL.of e2, (atI_nat (xs := ds.map V.int) (j := n) (v := V.int ds[n]) (by rw [List.getElem?_map, List.getElem?_eq_getElem hk]; rfl)), ?_⟩
    exact .inl ⟨_, rfl, _, rfl, _, _, rfl, rfl, hm, q _ _ (Int.emod_nonneg _ (by omega)) (Int.emod_lt_of_pos _ hm) bx k1⟩
  · exact ⟨_, rfl, _, _, rfl, rfl, .inr ⟨by decide, by decide⟩, .inl ⟨_, rfl, _, rfl, _, _, rfl, rfl, hm, q _ _ (Int.emod_nonneg _ (by omega)) (Int.emod_lt_of_pos _ hm) bx k1⟩⟩
/-! ### tests that are known -/
theorem iteN {c : Bool} {A B : Prop} (h : c = false) (hb : B) : if c = true then A else B := by rw [h, if_neg Bool.false_ne_true]; exact hb
theorem iteY {c : Bool} {A B : Prop} (h : c = true) (ha : A) : if c = true then A else B := by rw [if_pos h]; exact ha
/-! ### the same plain value -/
def spSame (n : Nat) : Sp := fun vs H Q _ => ∃ (d : D) (v u : V), vs = [v, u] ∧ Lim 1000001 n d ∧ Rp H d v ∧ Rp H d u ∧ Q (.bl true) H
theorem ok_same {n : Nat} (F : Fun K "_law_same" "_law_same" s__law_same f fd) (T : Txt0 mg tF tM tB) (c__law_same : Cal P w K mg base CX0 n "_law_same" ["actual", "due"] (fun vs H Q E => ∃ m, n = m + 1 ∧ spSame m vs H Q E)) : FnOk P w K mg base CX0 (n + 1) f fd ["actual", "due"] (spSame n) := by
  refine F.ok sc__law_same (fun vs H Q E h => ?_) (fun cdv A outer s H vs Q E hr h => ?_)
  · obtain ⟨d, v, u, rfl, _⟩ := h
    rfl
  obtain ⟨d, v, u, rfl, hd, r1, r2, q⟩ := h
  refine ⟨_, pss_cons (ps_if (pt_val (pe_callB call_isK rfl (by exact T.n_isinstance) (by decide +kernel) (pa_cons (pv 1) (pa_cons (pe_bltn (v := .ty "tuple") rfl (by exact T.n_tuple) (by decide +kernel) rfl) pa_nil)))) (pss_cons (ps_if (PW.pt (pw_or (pt_not (pt_val (pe_callB call_isK rfl (by exact T.n_isinstance) (by decide +kernel) (pa_cons (pv 0) (pa_cons (pe_bltn (v := .ty "tuple") rfl (by exact T.n_tuple) (by decide +kernel) rfl) pa_nil))))) (pw_or1 (pt_cmpR op_ne (pe_callB call_len_seq rfl (by exact T.n_len) PySem.boot_len (pa_cons (pv 0) pa_nil)) (pe_callB call_len_seq rfl (by exact T.n_len) PySem.boot_len (pa_cons (pv 1) pa_nil)) (nomark _))))) (pss_one (ps_ret (pe_bl))) (pss_nil))
    (pss_cons (ps_for PassesOwn.never rfl (pi_range1 rfl (by exact T.n_range) (pa_cons (pe_callB call_len_seq rfl (by exact T.n_len) PySem.boot_len (pa_cons (pv 1) pa_nil)) pa_nil)) (pg_name (i := 2) sc__law_same.nd rfl (Or.inl rfl)) (pss_one (ps_if (pt_not (pt_val (pe_cal c__law_same (hr.mono (by omega)) rfl pass0 (pa_cons (pe_ix ix_tup (pv 0) (pv 2) (fun _ _ => rfl)) (pa_cons (pe_ix ix_tup (pv 1) (pv 2) (fun _ _ => rfl)) pa_nil))))) (pss_one (ps_ret (pe_bl))) (pss_nil))))
    (pss_one (ps_ret (pe_bl))))) (pss_nil))
    (pss_cons (ps_if (pt_cmpR op_isN (pv 1) (pe_non) (nomark _)) (pss_one (ps_ret (pe_cmpR op_isN (pv 0) (pe_non) (nomark _)))) (pss_nil))
    (pss_cons (ps_if (pt_cmpR op_isB (pv 1) (pe_bl) (nomark _)) (pss_one (ps_ret (pe_cmpR op_isB (pv 0) (pe_bl) (nomark _)))) (pss_nil))
    (pss_cons (ps_if (pt_cmpR op_isB (pv 1) (pe_bl) (nomark _)) (pss_one (ps_ret (pe_cmpR op_isB (pv 0) (pe_bl) (nomark _)))) (pss_nil))
    (pss_cons (ps_if (pt_val (pe_callB call_isK rfl (by exact T.n_isinstance) (by decide +kernel) (pa_cons (pv 1) (pa_cons (pe_bltn (v := .ty "int") rfl (by exact T.n_int) (by decide +kernel) rfl) pa_nil)))) (pss_one (ps_ret (pe_and (pe_callB call_isK rfl (by exact T.n_isinstance) (by decide +kernel) (pa_cons (pv 0) (pa_cons (pe_bltn (v := .ty "int") rfl (by exact T.n_int) (by decide +kernel) rfl) pa_nil))) (pe_and (pe_not (pe_callB call_isK rfl (by exact T.n_isinstance) (by decide +kernel) (pa_cons (pv 0) (pa_cons (pe_bltn (v := .ty "bool") rfl (by exact T.n_bool) (by decide +kernel) rfl) pa_nil)))) (pe_one (pe_cmpR op_eq (pv 0) (pv 1) (nomark _))))))) (pss_nil))
    (pss_one (ps_ret (pe_and (pe_callB call_isK rfl (by exact T.n_isinstance) (by decide +kernel) (pa_cons (pv 0) (pa_cons (pe_bltn (v := .ty "str") rfl (by exact T.n_str) (by decide +kernel) rfl) pa_nil))) (pe_one (pe_cmpR op_eq (pv 0) (pv 1) (nomark _)))))))))), ?_⟩
  cases d with
  | tup xs =>
    rw [Rp] at r1 r2
    obtain ⟨a, vs, rfl, ha, rs⟩ := r1
    obtain ⟨a', vs', rfl, ha', rs'⟩ := r2
    obtain _ | _ | _ | _ | ⟨m, _, hN, hmem⟩ := hd
    have hk : kindV H (.ref a) = some "tuple" := by show kindO (H a) = _; rw [ha]; rfl
    have hk' : kindV H (.ref a') = some "tuple" := by show kindO (H a') = _; rw [ha']; rfl
    have l1 := rs.length
    have l2 := rs'.length
    refine ⟨_, rfl, _, _, _, _, rfl, hk', kb_tt, _, rfl, iteT ?_⟩
    refine ⟨_, rfl, _, _, _, _, rfl, hk, kb_tt, _, rfl, iteF ?_⟩
    refine ⟨_, rfl, a, _, rfl, .inr (SqT.of ha), _, rfl, a', _, rfl, .inr (SqT.of ha'), rfl, _, rfl, iteN (by rw [l1, l2]; simp) ?_⟩
    refine ⟨_, rfl, a', _, rfl, .inr (SqT.of ha'), _, rfl, by omega, by omega, for_range (lo := 0) (n := ((vs'.length : Nat) : Int).toNat) (fun i σ H' => ∃ x2, σ = [some (.ref a), some (.ref a'), x2] ∧ H' = H) ⟨_, rfl, rfl⟩ ?_ ?_⟩
    · rintro i σ H' hi ⟨x2, rfl, rfl⟩
      have hi' : i < vs'.length := by omega
      have hi2 : i < vs.length := by omega
      have e0 : (0 : Int) + (i : Int) = (i : Int) := by omega
      obtain ⟨d1, g1, q1⟩ := rs.get (List.getElem?_eq_getElem hi2)
      obtain ⟨d2, g2, q2⟩ := rs'.get (List.getElem?_eq_getElem hi')
      rw [g1] at g2
      cases g2
      rw [e0]
      refine ⟨_, rfl, _, rfl, a, _, _, _, rfl, rfl, SqT.of ha, atI_nat (List.getElem?_eq_getElem hi2), _, rfl, _, rfl, a', _, _, _, rfl, rfl, SqT.of ha', atI_nat (List.getElem?_eq_getElem hi'), ?_⟩
      exact ⟨m, rfl, d1, _, _, rfl, hmem d1 (List.mem_of_getElem? g1), q1, q2, _, rfl, iteF ⟨_, rfl, rfl⟩⟩
    · rintro σ H' ⟨x2, rfl, rfl⟩
      exact q
  | non =>
    rw [Rp] at r1 r2
    subst r1 r2
    refine ⟨_, rfl, _, _, _, _, rfl, rfl, kb_nt, _, rfl, iteF ?_⟩
    exact ⟨_, rfl, rfl, _, rfl, iteY (by simp) ⟨_, rfl, rfl, by simpa using q⟩⟩
  | bl b =>
    rw [Rp] at r1 r2
    subst r1 r2
    refine ⟨_, rfl, _, _, _, _, rfl, rfl, kb_bt, _, rfl, iteF ?_⟩
    refine ⟨_, rfl, rfl, _, rfl, iteN (by simp) ?_⟩
    have ty : (∀ n, V.bl b ≠ .ty n) ∧ ∀ n, V.bl b ≠ .flt n := ⟨fun _ z => (nomatch z), fun _ z => (nomatch z)⟩
    refine ⟨_, rfl, _, rfl, ty.1, ty.2, _, rfl, ?_⟩
    cases b with
    | true => exact iteY (by simp) ⟨_, rfl, _, rfl, ty.1, ty.2, by simpa using q⟩
    | false =>
      refine iteN (by simp) ⟨_, rfl, _, rfl, ty.1, ty.2, _, rfl, iteY (by simp) ?_⟩
      exact ⟨_, rfl, _, rfl, ty.1, ty.2, by simpa using q⟩
  | int i =>
    rw [Rp] at r1 r2
    subst r1 r2
    have ty : (∀ n, V.int i ≠ .ty n) ∧ ∀ n, V.int i ≠ .flt n := ⟨fun _ z => (nomatch z), fun _ z => (nomatch z)⟩
    refine ⟨_, rfl, _, _, _, _, rfl, rfl, kb_it, _, rfl, iteF ?_⟩
    refine ⟨_, rfl, rfl, _, rfl, iteN (by simp) ?_⟩
    refine ⟨_, rfl, _, rfl, ty.1, ty.2, _, rfl, iteN (by simp) ?_⟩
    refine ⟨_, rfl, _, rfl, ty.1, ty.2, _, rfl, iteN (by simp) ?_⟩
    refine ⟨_, rfl, _, _, _, _, rfl, rfl, kb_ii, _, rfl, iteT ?_⟩
    refine ⟨_, rfl, _, _, _, _, rfl, rfl, kb_ii, _, rfl, iteT ?_⟩
    refine ⟨_, rfl, _, _, _, _, rfl, rfl, kb_ib, _, rfl, _, rfl, iteT ?_⟩
    exact ⟨_, rfl, _, rfl, rfl, by simpa using q⟩
  | str z =>
    rw [Rp] at r1 r2
    subst r1 r2
    have ty : (∀ n, V.str z ≠ .ty n) ∧ ∀ n, V.str z ≠ .flt n := ⟨fun _ z => (nomatch z), fun _ z => (nomatch z)⟩
    refine ⟨_, rfl, _, _, _, _, rfl, rfl, kb_st, _, rfl, iteF ?_⟩
    refine ⟨_, rfl, rfl, _, rfl, iteN (by simp) ?_⟩
    refine ⟨_, rfl, _, rfl, ty.1, ty.2, _, rfl, iteN (by simp) ?_⟩
    refine ⟨_, rfl, _, rfl, ty.1, ty.2, _, rfl, iteN (by simp) ?_⟩
    refine ⟨_, rfl, _, _, _, _, rfl, rfl, kb_si, _, rfl, iteF ?_⟩
    refine ⟨_, rfl, _, _, _, _, rfl, rfl, kb_ss, _, rfl, iteT ?_⟩
    exact ⟨_, rfl, _, rfl, rfl, by simpa using q⟩

/-! ### the law's own text, and the program's -/
def spPl (n : Nat) : Sp := fun vs H Q _ => ∃ (d : D) (v : V), vs = [v] ∧ (d.deep < n ∧ d.show.length ≤ 1000000 ∧ d.Fit) ∧ Rp H d v ∧ ∀ H', Same H H' → Q (.str (showS d)) H'
theorem small16 {n : Nat} (h : n ≤ 10000000) : n ≤ sizeLine := Nat.le_trans h (by decide)
theorem e_open : Str.ofString "(" = strOf [40] := lit _ _
theorem e_close : Str.ofString ")" = strOf [41] := lit _ _
theorem e_blank : Str.ofString " " = strOf [32] := lit _ _
theorem e_quote : Str.ofString "\"" = strOf [34] := lit _ _
/-- the texts of the members, joined -/
theorem rep_bound {z : Str} (h : z.length ≤ 1000000) : z.length + (z.length + 1) * (Str.ofString "\\\\").length ≤ 16777216 := by
  have e : (Str.ofString "\\\\").length = 2 := by decide +kernel
  rw [e]
  omega
theorem rep_len {z y b : Str} {c : Nat} (hy : tl y = [c]) (hb : (tl b).length = 2) : (Txt.replace z y b).length ≤ 2 * z.length := by
  have hy1 : 1 ≤ y.length := by rw [len_tl, hy]; exact Nat.le_refl 1
  have e : tl (Txt.replace z y b) = (tl z).flatMap fun x => if x = c then tl b else [x] := by
    show (Txt.replace z y b).cps.toList = _
    rw [StrLaws.replace_list hy1, show y.cps.toList = [c] from hy, replL_one]
  rw [len_tl, e, len_tl z]
  generalize tl z = l
  induction l with
  | nil => simp
  | cons a l ih =>
    rw [List.flatMap_cons, List.length_append, List.length_cons]
    have : (if a = c then tl b else [a]).length ≤ 2 := by split <;> simp [hb]
    omega
theorem enc_chain {z : Str} (h : z.length ≤ 1000000) : z.length + (z.length + 1) * (Str.ofString "\\\\").length ≤ 16777216 ∧
    (Txt.replace z (Str.ofString "\\") (Str.ofString "\\\\")).length + ((Txt.replace z (Str.ofString "\\") (Str.ofString "\\\\")).length + 1) * (Str.ofString "\\\"").length ≤ 16777216 ∧
    (Txt.replace (Txt.replace z (Str.ofString "\\") (Str.ofString "\\\\")) (Str.ofString "\"") (Str.ofString "\\\"")).length + ((Txt.replace (Txt.replace z (Str.ofString "\\") (Str.ofString "\\\\")) (Str.ofString "\"") (Str.ofString "\\\"")).length + 1) * (Str.ofString "\\n").length ≤ 16777216 := by
  have e1 : (Str.ofString "\\\\").length = 2 := by decide +kernel
  have e2 : (Str.ofString "\\\"").length = 2 := by decide +kernel
  have e3 : (Str.ofString "\\n").length = 2 := by decide +kernel
  have l1 : (Txt.replace z (Str.ofString "\\") (Str.ofString "\\\\")).length ≤ 2 * z.length := rep_len (c := 92) (by decide +kernel) (by decide +kernel)
  have l2 : (Txt.replace (Txt.replace z (Str.ofString "\\") (Str.ofString "\\\\")) (Str.ofString "\"") (Str.ofString "\\\"")).length ≤ 2 * (Txt.replace z (Str.ofString "\\") (Str.ofString "\\\\")).length := rep_len (c := 34) (by decide +kernel) (by decide +kernel)
  rw [e1, e2, e3]
  refine ⟨by omega, by omega, by omega⟩
theorem ok_plain {n : Nat} (F : Fun K "_law_plain" "_law_plain" s__law_plain f fd) (T : Txt0 mg tF tM tB) (c__law_plain : Cal P w K mg base CX0 n "_law_plain" ["value"] (spPl n)) : FnOk P w K mg base CX0 (n + 1) f fd ["value"] (spPl (n + 1)) := by
  refine F.ok sc__law_plain (fun vs H Q E h => ?_) (fun cdv A outer s H vs Q E hr h => ?_)
  · obtain ⟨d, v, rfl, _⟩ := h
    rfl
  obtain ⟨d, v, rfl, ⟨hd, hz, hf⟩, r1, q⟩ := h
  refine ⟨_, pss_cons (ps_if (pt_cmpR op_isN (pv 0) (pe_non) (nomark _)) (pss_one (ps_ret (pe_str))) (pss_nil))
    (pss_cons (ps_if (pt_cmpR op_isB (pv 0) (pe_bl) (nomark _)) (pss_one (ps_ret (pe_str))) (pss_nil))
    (pss_cons (ps_if (pt_cmpR op_isB (pv 0) (pe_bl) (nomark _)) (pss_one (ps_ret (pe_str))) (pss_nil))
    (pss_cons (ps_if (pt_val (pe_callB call_isK rfl (by exact T.n_isinstance) (by decide +kernel) (pa_cons (pv 0) (pa_cons (pe_bltn (v := .ty "int") rfl (by exact T.n_int) (by decide +kernel) rfl) pa_nil)))) (pss_one (ps_ret (pe_callTy call_str_int rfl (by exact T.n_str) (by decide +kernel) (pa_cons (pv 0) pa_nil)))) (pss_nil))
    (pss_cons (ps_if (pt_val (pe_callB call_isK rfl (by exact T.n_isinstance) (by decide +kernel) (pa_cons (pv 0) (pa_cons (pe_bltn (v := .ty "tuple") rfl (by exact T.n_tuple) (by decide +kernel) rfl) pa_nil)))) (pss_one (ps_ret (pe_op op_add_str (pe_op op_add_str (pe_str) (pe_join (pe_str) (pe_lc (own := [("one", 1)]) (g := gName 1) rfl sc__law_plain.nd (pi_tup (pv 0)) (blkOk_by (own := [("one", 1)]) (N := ["value", "one"]) (sc := defScope s__law_plain) (by decide +kernel)) (fun _ _ _ _ _ => pg_name (i := 1) sc__law_plain.nd rfl (Or.inl rfl)) (fun _ _ _ _ _ => pts_nil) (fun _ _ _ _ _ => pe_cal c__law_plain (hr.mono (by omega)) rfl pass0 (pa_cons (pv 1) pa_nil))))) (pe_str)))) (pss_nil))
    (pss_one (ps_ret (pe_op op_add_str (pe_opT op_add_str (CwR.pet_replT (CwR.pet_replT (CwR.pet_replC (pv 0))))) (pe_str)))))))), ?_⟩
  have ty := r1.ty
  cases d with
  | non =>
    rw [Rp] at r1
    subst r1
    exact ⟨_, rfl, rfl, _, rfl, iteY (by simp) (q H (Same.refl H))⟩
  | bl b =>
    rw [Rp] at r1
    subst r1
    refine ⟨_, rfl, rfl, _, rfl, iteN (by simp) ?_⟩
    cases b with
    | true => exact ⟨_, rfl, _, rfl, ty.1, ty.2, _, rfl, iteY (by simp) (q H (Same.refl H))⟩
    | false =>
      refine ⟨_, rfl, _, rfl, ty.1, ty.2, _, rfl, iteN (by simp) ?_⟩
      exact ⟨_, rfl, _, rfl, ty.1, ty.2, _, rfl, iteY (by simp) (q H (Same.refl H))⟩
  | int i =>
    rw [Rp] at r1
    subst r1
    rw [D.Fit] at hf
    refine ⟨_, rfl, rfl, _, rfl, iteN (by simp) ?_⟩
    refine ⟨_, rfl, _, rfl, ty.1, ty.2, _, rfl, iteN (by simp) ?_⟩
    refine ⟨_, rfl, _, rfl, ty.1, ty.2, _, rfl, iteN (by simp) ?_⟩
    refine ⟨_, rfl, _, _, _, _, rfl, rfl, kb_ii, _, rfl, iteT ?_⟩
    refine ⟨_, rfl, i, rfl, log_small hf, ?_⟩
    rw [int_show]
    exact q H (Same.refl H)
  | tup xs =>
    rw [Rp] at r1
    obtain ⟨a, vs, rfl, ha, rs⟩ := r1
    rw [D.deep] at hd
    rw [D.Fit] at hf
    have hk : kindV H (.ref a) = some "tuple" := by show kindO (H a) = _; rw [ha]; rfl
    refine ⟨_, rfl, rfl, _, rfl, iteN (by simp) ?_⟩
    refine ⟨_, rfl, _, rfl, ty.1, ty.2, _, rfl, iteN (by simp) ?_⟩
    refine ⟨_, rfl, _, rfl, ty.1, ty.2, _, rfl, iteN (by simp) ?_⟩
    refine ⟨_, rfl, _, _, _, _, rfl, hk, kb_ti, _, rfl, iteF ?_⟩
    refine ⟨_, rfl, _, _, _, _, rfl, hk, kb_tt, _, rfl, iteT ?_⟩
    have hl := rs.length
    have hj := join_sum xs
    have hm := many_len xs
    have hz2 := hz
    rw [tup_len] at hz2
    refine ⟨⟨_, rfl⟩, _, rfl, a, rfl, ⟨_, SqT.of ha⟩, fun L hL => lc_tup (K := K) (a := a) (xs := vs) (fun i H' => H' L = some (.lst ((xs.take i).map fun d => V.str (showS d))) ∧ Kept L H H') ⟨by rw [upd_same]; rfl, Kept.upd⟩
      (fun i H' _ p => SqT.of (p.2 a _ (ne_of_none ha hL) ha)) ?_ ?_⟩
    · rintro i x H' hx ⟨hL', kp⟩
      have hi : i < vs.length := (List.getElem?_eq_some_iff.mp hx).1
      obtain ⟨d, g1, g2⟩ := rs.get hx
      have hS : Same H H' := fun b o e => kp b o (ne_of_none e hL) e
      have hmem := List.mem_of_getElem? g1
      have h1 := deeps_mem (xs := xs) d hmem
      have h2 := show_mem hmem
      refine ⟨rfl, _, rfl, d, x, rfl, ⟨by omega, by omega, fits_mem hf d hmem⟩, g2.mono (Same.tup hS), fun H2 s2 => ?_⟩
      refine ⟨_, s2 _ _ hL', ?_, ?_⟩
      · rw [List.length_map, List.length_take]
        exact small_of (by omega)
      · refine ⟨?_, fun b o n e => by rw [upd_ne n]; exact s2 _ _ (kp b o n e)⟩
        rw [upd_same]
        have et : xs.take (i + 1) = xs.take i ++ [d] := by rw [List.take_add_one, g1]; rfl
        rw [et, List.map_append]
        rfl
    · rintro H' ⟨hL', kp⟩
      rw [hl, List.take_length] at hL'
      have hS : Same H H' := fun b o e => kp b o (ne_of_none e hL) e
      have ey : xs.map (fun d => V.str (showS d)) = (xs.map showS).map V.str := by rw [List.map_map]; rfl
      rw [ey] at hL'
      refine ⟨_, L, xs.map showS, rfl, rfl, .inl (SqL.of hL'), ?_, ?_⟩
      · rw [e_blank, len_strOf, List.length_map]
        show _ + xs.length * 1 ≤ _
        omega
      · have lj : (Txt.join (strOf [32]) (xs.map showS)).length = (joinL [32] (D.shows xs)).length := by
          rw [len_tl, join_eq, tl_join, map_showS]
          rfl
        have la : (strOf [40] ++ Txt.join (strOf [32]) (xs.map showS)).length = (joinL [32] (D.shows xs)).length + 1 := by
          rw [len_tl, tl_append, List.length_append, ← len_tl, ← len_tl, lj]
          show 1 + _ = _
          omega
        rw [e_blank, e_open, e_close]
        refine ⟨_, _, rfl, rfl, small16 ?_, _, _, rfl, rfl, small16 ?_, ?_⟩
        · rw [lj]
          show 1 + _ ≤ _
          omega
        · rw [la]
          show _ + 1 ≤ _
          omega
        · rw [show_tup]
          exact q H' hS
  | str z =>
    rw [Rp] at r1
    subst r1
    have hzl : z.length ≤ 1000000 := by
      have h1 := enc_len (tl z)
      have h2 : (D.str z).show.length = (encL (tl z)).length + 2 := by
        show (34 :: (encL (tl z) ++ [34])).length = _
        rw [List.length_cons, List.length_append]
        rfl
      rw [len_tl]
      omega
    have h3 := len_enc (tl z)
    rw [← len_tl] at h3
    obtain ⟨b1, b2, b3⟩ := enc_chain hzl
    refine ⟨_, rfl, rfl, _, rfl, iteN (by simp) ?_⟩
    refine ⟨_, rfl, _, rfl, ty.1, ty.2, _, rfl, iteN (by simp) ?_⟩
    refine ⟨_, rfl, _, rfl, ty.1, ty.2, _, rfl, iteN (by simp) ?_⟩
    refine ⟨_, rfl, _, _, _, _, rfl, rfl, kb_si, _, rfl, iteF ?_⟩
    refine ⟨_, rfl, _, _, _, _, rfl, rfl, kb_st, _, rfl, iteF ?_⟩
    refine ⟨_, rfl, _, rfl, b1, _, rfl, b2, _, rfl, b3, ?_⟩
    rw [repl_enc, e_quote]
    have l1 : (strOf (encL (tl z))).length = (encL (tl z)).length := len_strOf _
    refine ⟨_, _, rfl, rfl, small16 ?_, _, _, rfl, rfl, small16 ?_, ?_⟩
    · rw [l1]
      show 1 + _ ≤ _
      omega
    · rw [len_tl, tl_append, List.length_append, ← len_tl, ← len_tl, l1]
      show 1 + _ + 1 ≤ _
      omega
    · rw [show_str]
      exact q H (Same.refl H)
/-! ### reading -/
theorem e34 : Str.ofString "\"" = ⟨#[34]⟩ := by decide +kernel
theorem e92 : Str.ofString "\\" = ⟨#[92]⟩ := by decide +kernel
theorem e10 : Str.ofString "\n" = ⟨#[10]⟩ := by decide +kernel
theorem e110 : Str.ofString "n" = ⟨#[110]⟩ := by decide +kernel
theorem e_ : Str.ofString "" = ⟨#[]⟩ := by decide +kernel
theorem flat_app (ys : List Str) (y : Str) : ((ys ++ [y]).map tl).flatten = (ys.map tl).flatten ++ tl y := by simp
theorem sum_app (ys : List Str) (y : Str) : ((ys ++ [y]).map (·.length)).sum = (ys.map (·.length)).sum + y.length := by simp

def spText (C : Addr) : Sp := fun vs H Q E => ∃ (z : Str) (p : Nat), vs = [.str z, .int ((p : Nat) : Int)] ∧ (p ≤ z.length ∧ z.length ≤ 1000000) ∧
  (∀ s q, textAt ((tl z).drop p) p [] = .ok (s, q) → ∀ (t : Addr) (H' : Hp), Same H H' → H' t = some (.tup [.str (strOf s), .int ((q : Nat) : Int)]) → Q (.ref t) H') ∧
  (∀ q, textAt ((tl z).drop p) p [] = .error q → ErrAt C H E q)
/-- a turn of the loop over a text between quotes -/
structure TxW (z : Str) (a : Addr) (H : Hp) (res : Except Nat (List Nat × Nat)) (p : Nat) (ys : List Str) (H' : Hp) : Prop where
  at_ : H' a = some (.lst (ys.map V.str))
  ok : textAt ((tl z).drop p) p (ys.map tl).flatten = res
  le : p ≤ z.length
  few : ys.length ≤ p
  sum : (ys.map (·.length)).sum ≤ p
  keep : Kept a H H'
theorem split_mem {c : Nat} {u : List Nat} (h : c ∈ u) : ∃ v w, u = v ++ c :: w ∧ c ∉ v := List.eq_append_cons_of_mem h
theorem ok_text (F : Fun K "text_at" "text_at" s_text_at f fd) (T : Txt0 mg tF tM tB) (B : Bp P K mg C fI cc cda) : FnOk P w K mg base (L2.CX P w) 3 f fd ["text", "place"] (spText C) := by
  refine F.okX sc_text_at (fun vs H Q E h => ?_) (fun cdv A outer s H vs Q E hr h => ?_)
  · obtain ⟨z, p, rfl, _⟩ := h
    rfl
  obtain ⟨z, p0, rfl, ⟨hp0, hz⟩, fin0, err0⟩ := h
  refine ⟨_, pss_cons (ps_set (i := 2) sc_text_at.nd rfl (Or.inl rfl) (pe_lst (pa_nil)))
    (pss_one (ps_while (passes_of rfl) (pt_val (pe_bl)) (pss_cons (ps_set (i := 3) sc_text_at.nd rfl (Or.inl rfl) (pe_bm PySem.F.plainAttrs_str PySem.F.slot_str_find PySem.F.type_str_find mt_find3 (pv 0) (pa_cons (pe_str) (pa_cons (pv 1) pa_nil))))
    (C8.pss_cut (ps_set (i := 4) sc_text_at.nd rfl (Or.inl rfl) (pe_ifExp (pt_cmpR op_ge (pv 3) (pe_int) (nomark _)) (pv 3) (pe_callB call_len_str rfl (by exact T.n_len) PySem.boot_len (pa_cons (pv 0) pa_nil))))
    (pss_cons (ps_set (i := 5) sc_text_at.nd rfl (Or.inl rfl) (pe_bm PySem.F.plainAttrs_str PySem.F.slot_str_find PySem.F.type_str_find mt_find4 (pv 0) (pa_cons (pe_str) (pa_cons (pv 1) (pa_cons (pv 4) pa_nil)))))
    (C8.pss_cut (ps_if (pt_cmpR op_ge (pv 5) (pe_int) (nomark _)) (pss_one (ps_set (i := 4) sc_text_at.nd rfl (Or.inl rfl) (pv 5))) (pss_nil))
    (pss_cons (ps_set (i := 6) sc_text_at.nd rfl (Or.inl rfl) (pe_bm PySem.F.plainAttrs_str PySem.F.slot_str_find PySem.F.type_str_find mt_find4 (pv 0) (pa_cons (pe_str) (pa_cons (pv 1) (pa_cons (pv 4) pa_nil)))))
    (pss_cons (ps_if (pt_cmpR op_ge (pv 6) (pe_int) (nomark _)) (pss_one (ps_raiseSup rfl B.bp fld_place hr (takes_of rfl rfl rfl rfl) ev_bp (by exact (pa_cons (pv 6) pa_nil)))) (pss_nil))
    (pss_cons (ps_expr (pe_bm PySem.F.plainAttrs_list PySem.F.slot_list_append PySem.F.type_list_append mt_append (pv 2) (pa_cons (pe_slice sl_str (pv 0) (po_some (pv 1)) (po_some (pv 4))) pa_nil)))
    (pss_cons (ps_if (pt_cmpR op_eq (pv 4) (pv 3) (nomark _)) (pss_one (ps_ret (pe_tup (pa_cons (pe_join (pe_str) (pv 2)) (pa_cons (pe_op op_add (pv 4) (pe_int)) pa_nil))))) (pss_nil))
    (pss_cons (ps_if (pt_cmpR op_ne (pv 4) (pv 5) (nomark _)) (pss_one (ps_raiseSup rfl B.bp fld_place hr (takes_of rfl rfl rfl rfl) ev_bp (by exact (pa_cons (pv 4) pa_nil)))) (pss_nil))
    (pss_cons (ps_set (i := 7) sc_text_at.nd rfl (Or.inl rfl) (pe_slice sl_str (pv 0) (po_some (pe_op op_add (pv 4) (pe_int))) (po_some (pe_op op_add (pv 4) (pe_int)))))
    (C8.pss_cut (ps_if (PW.pt (pw_or (pt_cmpR op_notIn_seq (pv 7) (pe_tup (pa_cons (pe_str) (pa_cons (pe_str) (pa_cons (pe_str) pa_nil)))) rfl) (pw_or1 (pt_cmpR op_eq (pv 7) (pe_str) (nomark _))))) (pss_one (ps_raiseSup rfl B.bp fld_place hr (takes_of rfl rfl rfl rfl) ev_bp (by exact (pa_cons (pe_op op_add (pv 4) (pe_int)) pa_nil)))) (pss_nil))
    (pss_cons (ps_expr (pe_bm PySem.F.plainAttrs_list PySem.F.slot_list_append PySem.F.type_list_append mt_append (pv 2) (pa_cons (pe_ifExp (pt_cmpR op_eq (pv 7) (pe_str) (nomark _)) (pe_str) (pv 7)) pa_nil)))
    (pss_one (ps_set (i := 1) sc_text_at.nd rfl (Or.inl rfl) (pe_op op_add (pv 4) (pe_int)))))))))))))))))), ?_⟩
  refine ⟨(by show 0 ≤ sizeLine; decide), fun a ha => ?_⟩
  have same : ∀ H' : Hp, Kept a H H' → Same H H' := fun H' k b o e => k b o (ne_of_none e ha) e
  generalize hres : textAt ((tl z).drop p0) p0 [] = res at fin0 err0
  have hL := len_tl z
  refine ⟨fun m σ H' => ∃ (p : Nat) (ys : List Str) (x3 x4 x5 x6 x7 : Option V), σ = [some (.str z), some (.int ((p : Nat) : Int)), some (.ref a), x3, x4, x5, x6, x7] ∧ m = z.length - p ∧ TxW z a H res p ys H', ?_, ?_⟩
  · exact ⟨_, p0, [], _, _, _, _, _, rfl, rfl, upd_same, by simpa using hres, hp0, Nat.zero_le _, Nat.zero_le _, Kept.upd⟩
  rintro m σ H1 ⟨p, ys, x3, x4, x5, x6, x7, rfl, rfl, W⟩
  refine ⟨_, rfl, iteT ⟨fun σ' H' => ∃ m', m' < z.length - p ∧ ∃ (p : Nat) (ys : List Str) (x3 x4 x5 x6 x7 : Option V), σ' = [some (.str z), some (.int ((p : Nat) : Int)), some (.ref a), x3, x4, x5, x6, x7] ∧ m' = z.length - p ∧ TxW z a H res p ys H', fun _ _ h => h, ?_⟩⟩
  obtain ⟨w1, w2, w3, w4, w5, w6⟩ := W
  obtain ⟨u, t, eR, hu, ht⟩ := leap ((tl z).drop p)
  have lenR : p + u.length + t.length = z.length := by
    have := congrArg List.length eR
    rw [List.length_drop, List.length_append] at this
    omega
  have u34 : 34 ∉ u := fun h => by have := hu _ h; simp [plainSign] at this
  have u92 : 92 ∉ u := fun h => by have := hu _ h; simp [plainSign] at this
  have gk : ∀ c r, t = c :: r → (tl z)[p + u.length]? = some c := fun c r e => by
    rw [e] at eR
    exact (drop_cons (drop_app eR)).1
  have none_in : ∀ k, k ∉ u → t = [] → ∀ i, p ≤ i → i < z.length → (tl z)[i]? ≠ some k := fun k hk e i h1 h2 => not_in eR hk h1 (by rw [e] at lenR; simp at lenR; omega)
  rw [eR] at w2
  -- quote, end
  refine ⟨_, rfl, rfl, _, rfl, _, _, _, rfl, rfl, ?_⟩
  rw [e34]
  refine ⟨fun σ' H' => H' = H1 ∧ ∃ (qv : Int) (e0 : Nat), σ' = [some (.str z), some (.int ((p : Nat) : Int)), some (.ref a), some (.int qv), some (.int ((e0 : Nat) : Int)), x5, x6, x7] ∧
    ((t = [] ∧ qv = -1 ∧ e0 = p + u.length) ∨ (∃ r, t = 34 :: r ∧ qv = ((p + u.length : Nat) : Int) ∧ e0 = p + u.length) ∨ (∃ r, t = 92 :: r ∧ p + u.length < e0 ∧ e0 ≤ z.length ∧ qv ≠ ((p + u.length : Nat) : Int))), ?_, ?_⟩
  · cases t with
    | nil =>
      rw [find3_never w3 (fun i h1 h2 => none_in 34 u34 rfl i h1 h2)]
      simp at lenR
      refine ⟨_, rfl, _, _, rfl, rfl, _, rfl, iteN (by simp) ⟨_, rfl, _, rfl, small16 (by omega), rfl, _, _, rfl, .inl ⟨rfl, rfl, by omega⟩⟩⟩
    | cons c r =>
      have hc := ht c r rfl
      have gk' := gk c r rfl
      have lt : p + u.length < z.length := by rw [List.length_cons] at lenR; omega
      rcases hc with rfl | rfl
      · rw [find3_first (k := p + u.length) (by omega) lt (fun i h1 h2 => not_in eR u34 h1 h2) gk']
        exact ⟨_, rfl, _, _, rfl, rfl, _, rfl, iteY (by first | (simp; done) | (simp; omega)) ⟨_, rfl, rfl, _, _, rfl, .inr (.inl ⟨r, rfl, rfl, rfl⟩)⟩⟩
      · rcases find3_cases (z := z) (c := 34) w3 with e | ⟨j, e, j1, j2, j3⟩
        · rw [e]
          exact ⟨_, rfl, _, _, rfl, rfl, _, rfl, iteN (by simp) ⟨_, rfl, _, rfl, small16 (by omega), rfl, _, _, rfl, .inr (.inr ⟨r, rfl, lt, Nat.le_refl _, by omega⟩)⟩⟩
        · have hj : p + u.length < j := by
            by_cases h : j < p + u.length
            · exact absurd j3 (not_in eR u34 j1 h)
            · by_cases h2 : j = p + u.length
              · rw [h2, gk'] at j3; cases j3
              · omega
          rw [e]
          exact ⟨_, rfl, _, _, rfl, rfl, _, rfl, iteY (by first | (simp; done) | (simp; omega)) ⟨_, rfl, rfl, _, _, rfl, .inr (.inr ⟨r, rfl, hj, by omega, by omega⟩)⟩⟩
  rintro σ' H' ⟨rfl, qv, e0, rfl, hq⟩
  -- slash
  refine ⟨_, rfl, rfl, _, rfl, _, rfl, _, _, _, _, rfl, rfl, ?_⟩
  rw [e92]
  refine ⟨fun σ' H2 => H2 = H' ∧ ∃ sv : Int, σ' = [some (.str z), some (.int ((p : Nat) : Int)), some (.ref a), some (.int qv), some (.int ((p + u.length : Nat) : Int)), some (.int sv), x6, x7] ∧
    ((t = [] ∧ qv = -1 ∧ sv = -1) ∨ (∃ r, t = 34 :: r ∧ qv = ((p + u.length : Nat) : Int)) ∨ (∃ r, t = 92 :: r ∧ sv = ((p + u.length : Nat) : Int) ∧ qv ≠ ((p + u.length : Nat) : Int))), ?_, ?_⟩
  · rcases hq with ⟨rfl, hq1, rfl⟩ | ⟨r, rfl, hq1, rfl⟩ | ⟨r, rfl, hq1, hq2, hq3⟩
    · rw [find4_never w3 (by omega) (fun i h1 h2 => not_in eR u92 h1 h2)]
      exact ⟨_, rfl, _, _, rfl, rfl, _, rfl, iteN (by simp) ⟨rfl, _, rfl, .inl ⟨rfl, hq1, rfl⟩⟩⟩
    · rw [find4_never w3 (by omega) (fun i h1 h2 => not_in eR u92 h1 h2)]
      exact ⟨_, rfl, _, _, rfl, rfl, _, rfl, iteN (by simp) ⟨rfl, _, rfl, .inr (.inl ⟨r, rfl, hq1⟩)⟩⟩
    · rw [find4_first (k := p + u.length) (by omega) hq1 hq2 (fun i h1 h2 => not_in eR u92 h1 h2) (gk 92 r rfl)]
      exact ⟨_, rfl, _, _, rfl, rfl, _, rfl, iteY (by first | (simp; done) | (simp; omega)) ⟨_, rfl, rfl, _, rfl, .inr (.inr ⟨r, rfl, rfl, hq3⟩)⟩⟩
  rintro σ' H2 ⟨rfl, sv, rfl, hs⟩
  have S2 := same H2 w6
  -- feed
  refine ⟨_, rfl, rfl, _, rfl, _, rfl, _, _, _, _, rfl, rfl, ?_⟩
  rw [e10]
  by_cases u10 : 10 ∈ u
  · obtain ⟨v, w, ev, hv⟩ := split_mem u10
    subst ev
    have hvl : v.length < (v ++ 10 :: w).length := by rw [List.length_append, List.length_cons]; omega
    have eR' : (tl z).drop p = v ++ (10 :: (w ++ t)) := by rw [eR, List.append_assoc]; rfl
    have g10 := (drop_cons (drop_app eR')).1
    rw [find4_first (k := p + v.length) (by omega) (by omega) (by omega) (fun i h1 h2 => not_in eR' hv h1 h2) g10]
    rw [List.append_assoc] at w2
    have er := textAt_feed v (w ++ t) p (ys.map tl).flatten (fun c hc => hu c (List.mem_append_left _ hc)) hv
    rw [← List.cons_append] at er
    rw [er] at w2
    refine ⟨_, rfl, _, _, rfl, rfl, _, rfl, iteY (by first | (simp; done) | (simp; omega)) ?_⟩
    exact ⟨_, rfl, (err0 _ w2.symm).raise S2 (by omega)⟩
  rw [find4_never w3 (by omega) (fun i h1 h2 => not_in eR u10 h1 h2)]
  refine ⟨_, rfl, _, _, rfl, rfl, _, rfl, iteN (by simp) ?_⟩
  rw [textAt_free u t p _ hu u10] at w2
  -- parts.append(text[place:end])
  refine ⟨_, rfl, .inl ⟨rfl, _, SqL.of w1⟩, _, rfl, _, rfl, _, rfl, _, rfl, _, rfl, z, rfl, small16 (by omega), a, _, _, rfl, rfl, w1, by rw [List.length_map]; exact small_of (by omega), ?_⟩
  have ecut : cutS z (some ((p : Nat) : Int)) (some ((p + u.length : Nat) : Int)) = strOf u := by
    refine ext_tl ?_
    rw [tl_cut w3, eR, show p + u.length - p = u.length by omega, List.take_left]
    rfl
  rw [ecut]
  have w1' : (upd H2 a (.lst (ys.map V.str ++ [V.str (strOf u)]))) a = some (.lst ((ys ++ [strOf u]).map V.str)) := by rw [upd_same, List.map_append]; rfl
  have k2 : Kept a H (upd H2 a (.lst (ys.map V.str ++ [V.str (strOf u)]))) := w6.trans Kept.upd
  have fl : ((ys ++ [strOf u]).map tl).flatten = (ys.map tl).flatten ++ u := by rw [flat_app, tl_strOf]
  have lu := len_strOf u
  rcases hs with ⟨rfl, rfl, rfl⟩ | ⟨r, rfl, rfl⟩ | ⟨r, rfl, rfl, hq3⟩
  · -- neither quote nor slash
    rw [textAt_nil] at w2
    refine ⟨_, rfl, _, rfl, rfl, _, rfl, iteN (by first | (simp; done) | (simp; omega)) ?_⟩
    refine ⟨_, rfl, _, rfl, rfl, _, rfl, iteY (by first | (simp; done) | (simp; omega)) ?_⟩
    exact ⟨_, rfl, (err0 _ w2.symm).raise (same _ k2) (by omega)⟩
  · -- the end
    rw [textAt_end] at w2
    refine ⟨_, rfl, _, rfl, rfl, _, rfl, iteY (by simp) ?_⟩
    have e0 : (Str.ofString "").length = 0 := by decide +kernel
    refine ⟨⟨_, rfl⟩, _, rfl, _, a, ys ++ [strOf u], rfl, rfl, .inl (SqL.of w1'), ?_, _, rfl, _, _, rfl, rfl, (by show 2 ≤ sizeLine; decide), fun t ht => ?_⟩
    · rw [sum_app, e0]
      omega
    · refine fin0 _ _ w2.symm t _ ((same _ k2).trans (same_new ht _)) ?_
      rw [upd_same]
      have ej : Txt.join (Str.ofString "") (ys ++ [strOf u]) = strOf ((ys.map tl).flatten ++ u) := by
        refine ext_tl ?_
        rw [join_eq, tl_join, show tl (Str.ofString "") = [] by decide +kernel, join_flat, fl]
        rfl
      rw [ej]
      rfl
  · -- a sign behind a slash
    rw [textAt_slash] at w2
    obtain ⟨_, dk, lk⟩ := drop_cons (drop_app eR)
    refine ⟨_, rfl, _, rfl, rfl, _, rfl, iteN (by simpa using Ne.symm hq3) ?_⟩
    refine ⟨_, rfl, _, rfl, rfl, _, rfl, iteN (by simp) ?_⟩
    refine ⟨_, rfl, _, rfl, _, _, rfl, rfl, _, rfl, _, rfl, _, _, rfl, rfl, _, rfl, z, rfl, small16 (by omega), ?_⟩
    rw [show (((p + u.length : Nat) : Int) + 1) = ((p + u.length + 1 : Nat) : Int) by omega, show (((p + u.length : Nat) : Int) + 2) = ((p + u.length + 1 : Nat) : Int) + 1 by omega, cut_sg (by omega)]
    rw [e_, e110]
    have t3 : (3 : Nat) ≤ sizeLine := by decide
    -- the sign is none of the three
    have bad : ∀ y : Str, sg z (p + u.length + 1) = y → (y = ⟨#[]⟩ ∨ ∃ e, y = strOf [e] ∧ e ≠ 34 ∧ e ≠ 92 ∧ e ≠ 110) → inV (.str y) [.str ⟨#[34]⟩, .str ⟨#[92]⟩, .str ⟨#[110]⟩] = false := fun y _ h => by
      have key : ∀ k : Nat, y ≠ ⟨#[k]⟩ → eqV (.str ⟨#[k]⟩) (.str y) = false := fun k hk => by
        show decide ((⟨#[k]⟩ : Str) = y) = false
        exact decide_eq_false (Ne.symm hk)
      have n : ∀ k : Nat, k = 34 ∨ k = 92 ∨ k = 110 → y ≠ ⟨#[k]⟩ := fun k hk e => by
        rcases h with h | ⟨c, h, h1, h2, h3⟩
        · rw [e] at h
          have := congrArg tl h
          cases this
        · rw [e] at h
          have := congrArg tl h
          have : [k] = [c] := this
          injection this with this
          omega
      unfold inV
      rw [List.any_cons, List.any_cons, List.any_cons, key 34 (n 34 (by omega)), key 92 (n 92 (by omega)), key 110 (n 110 (by omega))]
      rfl
    have kinds : (∃ y : Str, sg z (p + u.length + 1) = y ∧ (y = ⟨#[]⟩ ∨ ∃ e, y = strOf [e] ∧ e ≠ 34 ∧ e ≠ 92 ∧ e ≠ 110) ∧ Except.error (p + u.length + 1) = res) ∨
        ∃ e r', r = e :: r' ∧ (tl z)[p + u.length + 1]? = some e ∧ (tl z).drop (p + u.length + 2) = r' ∧ p + u.length + 1 < (tl z).length ∧ (e = 34 ∨ e = 92 ∨ e = 110) ∧ textAt r' (p + u.length + 2) ((ys.map tl).flatten ++ u ++ [if e = 110 then 10 else e]) = res := by
      cases r with
      | nil =>
        refine .inl ⟨_, rfl, .inl ?_, w2⟩
        have : (tl z)[p + u.length + 1]? = none := by
          have := congrArg List.length dk
          rw [List.length_drop, List.length_nil] at this
          exact List.getElem?_eq_none (by omega)
        rw [sg_none this]
        rfl
      | cons e r' =>
        obtain ⟨ge, de, le⟩ := drop_cons dk
        simp only at w2
        by_cases h1 : e = 34 ∨ e = 92
        · rw [if_pos h1] at w2
          refine .inr ⟨e, r', rfl, ge, de, le, by omega, ?_⟩
          rw [if_neg (by omega)]
          exact w2
        · rw [if_neg h1] at w2
          by_cases h2 : e = 110
          · rw [if_pos h2] at w2
            refine .inr ⟨e, r', rfl, ge, de, le, by omega, ?_⟩
            rw [if_pos h2]
            exact w2
          · rw [if_neg h2] at w2
            exact .inl ⟨_, rfl, .inr ⟨e, sg_some ge, by omega, by omega, h2⟩, w2⟩
    rcases kinds with ⟨y, hy, hyb, hre⟩ | ⟨e, r', rfl, ge, de, le, he1, w2'⟩
    · rw [hy]
      refine ⟨fun _ _ => False, ?_, fun _ _ h => h.elim⟩
      refine ⟨_, rfl, t3, fun t ht => ⟨t, _, rfl, .inr (SqT.of upd_same), rfl, rfl, _, rfl, iteY ?_ ?_⟩⟩
      · show (!inV (.str y) [.str ⟨#[34]⟩, .str ⟨#[92]⟩, .str ⟨#[110]⟩]) = true
        rw [bad y hy hyb]
        rfl
      · refine ⟨_, rfl, _, _, rfl, rfl, ?_⟩
        have ee := (err0 _ hre.symm).raise ((same _ k2).trans (same_new ht (.tup [.str ⟨#[34]⟩, .str ⟨#[92]⟩, .str ⟨#[110]⟩]))) (by omega)
        rw [show (((p + u.length + 1 : Nat)) : Int) = ((p + u.length : Nat) : Int) + 1 by omega] at ee
        exact ee
    rw [sg_some ge]
    refine ⟨fun σ' H4 => σ' = [some (.str z), some (.int ((p : Nat) : Int)), some (.ref a), some (.int qv), some (.int ((p + u.length : Nat) : Int)), some (.int ((p + u.length : Nat) : Int)), some (.int (-1)), some (.str (strOf [e]))] ∧
      H4 a = some (.lst ((ys ++ [strOf u]).map V.str)) ∧ Kept a H H4, ?_, ?_⟩
    · refine ⟨_, rfl, t3, fun t ht => ⟨t, _, rfl, .inr (SqT.of upd_same), rfl, rfl, _, rfl, iteN ?_ ?_⟩⟩
      · rcases he1 with rfl | rfl | rfl <;> decide +kernel
      refine ⟨_, rfl, rfl, _, rfl, iteN ?_ ?_⟩
      · rcases he1 with rfl | rfl | rfl <;> decide +kernel
      have hta : t ≠ a := fun e => by rw [e, w1'] at ht; cases ht
      exact ⟨rfl, by rw [upd_ne (Ne.symm hta)]; exact w1', k2.trans (Same.kept (same_new ht _))⟩
    rintro σ' H4 ⟨rfl, h4, k4⟩
    have next : ∀ (y : Str) (H5 : Hp), y.length = 1 → tl y = [if e = 110 then 10 else e] → H5 = upd H4 a (.lst ((ys ++ [strOf u]).map V.str ++ [V.str y])) →
        ∃ m', m' < z.length - p ∧ ∃ (p' : Nat) (ys' : List Str) (x3 x4 x5 x6 x7 : Option V), [some (V.str z), some (.int (((p + u.length : Nat) : Int) + 2)), some (.ref a), some (.int qv), some (.int ((p + u.length : Nat) : Int)), some (.int ((p + u.length : Nat) : Int)), some (.int (-1)), some (.str (strOf [e]))] =
          [some (V.str z), some (.int ((p' : Nat) : Int)), some (.ref a), x3, x4, x5, x6, x7] ∧ m' = z.length - p' ∧ TxW z a H res p' ys' H5 := fun y H5 hy1 hy eH => by
      subst eH
      refine ⟨z.length - (p + u.length + 2), by omega, p + u.length + 2, ys ++ [strOf u] ++ [y], some (.int qv), some (.int ((p + u.length : Nat) : Int)), some (.int ((p + u.length : Nat) : Int)), some (.int (-1)), some (.str (strOf [e])), ?_, rfl, ?_, ?_, by omega, ?_, ?_, k4.trans Kept.upd⟩
      · rw [show (((p + u.length : Nat) : Int) + 2) = ((p + u.length + 2 : Nat) : Int) by omega]
      · rw [upd_same, List.map_append (l₁ := ys ++ [strOf u])]
        rfl
      · rw [flat_app, fl, hy, de]
        exact w2'
      · rw [List.length_append, List.length_append]
        show ys.length + 1 + 1 ≤ _
        omega
      · rw [sum_app, sum_app, hy1]
        omega
    refine ⟨_, rfl, .inl ⟨rfl, _, SqL.of h4⟩, _, rfl, rfl, _, rfl, ?_⟩
    by_cases h110 : e = 110
    · subst h110
      refine iteY (by decide +kernel) ⟨a, _, _, rfl, rfl, h4, by rw [List.length_map, List.length_append]; exact small_of (by show ys.length + 1 ≤ _; omega), ?_⟩
      exact ⟨_, rfl, _, _, rfl, rfl, next ⟨#[10]⟩ _ rfl rfl rfl⟩
    · refine iteN ?_ ⟨_, rfl, a, _, _, rfl, rfl, h4, by rw [List.length_map, List.length_append]; exact small_of (by show ys.length + 1 ≤ _; omega), ?_⟩
      · rcases he1 with rfl | rfl | rfl
        · decide +kernel
        · decide +kernel
        · exact absurd rfl h110
      exact ⟨_, rfl, _, _, rfl, rfl, next (strOf [e]) _ rfl (by rw [if_neg h110]; rfl) rfl⟩

def spInt (C : Addr) : Sp := fun vs H Q E => ∃ (z : Str) (p : Nat), vs = [.str z, .int ((p : Nat) : Int)] ∧ (p ≤ z.length ∧ z.length ≤ 1000000) ∧
  (∀ i q, intAt (tl z) p = .ok (.int i, q) → ∀ (t : Addr) (H' : Hp), Same H H' → H' t = some (.tup [.int i, .int ((q : Nat) : Int)]) → Q (.ref t) H') ∧
  (∀ q, intAt (tl z) p = .error q → ErrAt C H E q)
theorem ok_int (F : Fun K "integer_at" "integer_at" s_integer_at f fd) (T : Txt0 mg tF tM tB) (B : Bp P K mg C fI cc cda) : FnOk P w K mg base (L2.CX P w) 3 f fd ["text", "place"] (spInt C) := by
  refine F.okX sc_integer_at (fun vs H Q E h => ?_) (fun cdv A outer s H vs Q E hr h => ?_)
  · obtain ⟨z, p, rfl, _⟩ := h
    rfl
  obtain ⟨z, p, rfl, ⟨hp, hz⟩, fin0, err0⟩ := h
  refine ⟨_, C8.pss_cut (ps_set (i := 2) sc_integer_at.nd rfl (Or.inl rfl) (pe_ifExp (pt_cmpR op_eq (pe_slice sl_str (pv 0) (po_some (pv 1)) (po_some (pe_op op_add (pv 1) (pe_int)))) (pe_str) (nomark _)) (pe_op op_add (pv 1) (pe_int)) (pv 1)))
    (pss_cons (ps_set (i := 3) sc_integer_at.nd rfl (Or.inl rfl) (pe_slice sl_str (pv 0) (po_some (pv 2)) (po_some (pe_op op_add (pv 2) (pe_int)))))
    (C8.pss_cut (ps_if (PW.pt (pw_or (pt_cmpR op_eq (pv 3) (pe_str) (nomark _)) (pw_or (pt_cmpR op_notin_str (pv 3) (pe_glob (v := .str (Str.ofString "0123456789")) rfl T.g_FIGURES ⟨_, rfl⟩) rfl) (pw_or1 (PW.pt (pw_and (pt_cmpR op_eq (pv 3) (pe_str) (nomark _)) (pw_and1 (pt_cmpR op_gt (pv 2) (pv 1) (nomark _))))))))) (pss_one (ps_raiseSup rfl B.bp fld_place hr (takes_of rfl rfl rfl rfl) ev_bp (by exact (pa_cons (pv 2) pa_nil)))) (pss_nil))
    (pss_cons (ps_set (i := 4) sc_integer_at.nd rfl (Or.inl rfl) (pe_op op_add (pv 2) (pe_int)))
    (pss_cons (ps_while (passes_of rfl) (PW.pt (pw_and (pt_cmpR op_ne (pe_slice sl_str (pv 0) (po_some (pv 4)) (po_some (pe_op op_add (pv 4) (pe_int)))) (pe_str) (nomark _)) (pw_and1 (pt_cmpR op_in_str (pe_slice sl_str (pv 0) (po_some (pv 4)) (po_some (pe_op op_add (pv 4) (pe_int)))) (pe_glob (v := .str (Str.ofString "0123456789")) rfl T.g_FIGURES ⟨_, rfl⟩) rfl)))) (pss_cons (ps_if (PW.pt (pw_or (pt_cmpR op_eq (pv 3) (pe_str) (nomark _)) (pw_or1 (pt_cmpR op_eq (pe_op op_sub (pv 4) (pv 2)) (pe_glob (v := .int 2000) rfl T.g_MOST_FIGURES ⟨_, rfl⟩) (nomark _))))) (pss_one (ps_raiseSup rfl B.bp fld_place hr (takes_of rfl rfl rfl rfl) ev_bp (by exact (pa_cons (pv 4) pa_nil)))) (pss_nil))
    (pss_one (ps_aug (i := 4) sc_integer_at.nd rfl (Or.inl rfl) (pe_int) ip_add))))
    (pss_one (ps_ret (pe_tup (pa_cons (pe_callTy (call_int_long B.nodig) rfl (by exact T.n_int) (by decide +kernel) (pa_cons (pe_slice sl_str (pv 0) (po_some (pv 1)) (po_some (pv 4))) pa_nil)) (pa_cons (pv 4) pa_nil))))))))), ?_⟩
  obtain ⟨b, ds, post, hb, eR, hs, hd, hI⟩ := intAt_eq (tl z) p
  rw [hI] at fin0 err0
  have hL := len_tl z
  have hbl : b ≤ z.length := by
    rcases hb with ⟨hb1, rfl⟩ | ⟨hb1, rfl⟩
    · have := (List.getElem?_eq_some_iff.mp hb1).1
      omega
    · exact hp
  have hbp : p ≤ b := by rcases hb with ⟨_, rfl⟩ | ⟨_, rfl⟩ <;> omega
  have hbp1 : b ≤ p + 1 := by rcases hb with ⟨_, rfl⟩ | ⟨_, rfl⟩ <;> omega
  -- begin
  refine ⟨fun σ' H' => H' = H ∧ σ' = [some (.str z), some (.int ((p : Nat) : Int)), some (.int ((b : Nat) : Int)), none, none], ?_, ?_⟩
  · refine ⟨_, rfl, _, rfl, _, rfl, _, rfl, _, _, rfl, rfl, _, rfl, z, rfl, small16 (by omega), rfl, _, rfl, ?_⟩
    rw [cut_sg hp, sg_is (c := 45) (by decide +kernel)]
    rcases hb with ⟨hb1, rfl⟩ | ⟨hb1, rfl⟩
    · exact iteY (decide_eq_true hb1) ⟨_, rfl, _, _, rfl, rfl, rfl, rfl⟩
    · exact iteN (decide_eq_false hb1) ⟨_, rfl, rfl, rfl⟩
  rintro σ' H' ⟨rfl, rfl⟩
  -- sign
  refine ⟨_, rfl, _, rfl, _, rfl, _, rfl, _, _, rfl, rfl, _, rfl, z, rfl, small16 (by omega), ?_⟩
  rw [cut_sg (by omega)]
  cases ds with
  | nil =>
    have eb := (err0 b rfl).raise (Same.refl _) (by omega)
    refine ⟨fun _ _ => False, ?_, fun _ _ h => h.elim⟩
    refine ⟨_, rfl, rfl, _, rfl, ?_⟩
    rw [sg_empty (by decide +kernel)]
    cases post with
    | nil =>
      have gn : (tl z)[b]? = none := by
        have := congrArg List.length eR
        rw [List.length_drop, List.length_append, List.length_nil] at this
        exact List.getElem?_eq_none (by omega)
      exact iteY (decide_eq_true gn) ⟨_, rfl, eb⟩
    | cons k post =>
      have gn : (tl z)[b]? = some k := (drop_cons (r := post) eR).1
      refine iteN (decide_eq_false (by rw [gn]; exact fun z => (nomatch z))) ⟨_, rfl, _, _, rfl, rfl, _, rfl, iteY ?_ ⟨_, rfl, eb⟩⟩
      rw [sg_fig gn, hs k post rfl]
      rfl
  | cons c r =>
  obtain ⟨gb, db, lb⟩ := drop_cons (r := r ++ post) eR
  have hdc := hd c List.mem_cons_self
  have hdc' := (dig_iff c).mp hdc
  have lenR : b + 1 + r.length ≤ z.length := by
    have := congrArg List.length eR
    rw [List.length_drop, List.length_append, List.length_cons] at this
    omega
  have d48 : ∀ e, decide (V.str (sg z b) = V.str e) = decide (tl e = [c]) := fun e => by
    rw [sg_some gb, dec_s]
    show decide ([c] = tl e) = _
    congr 1
    exact propext eq_comm
  have t0 : tl (Str.ofString "0") = [48] := by decide +kernel
  refine ⟨fun σ' H1 => (H1 = H' ∧ σ' = [some (.str z), some (.int ((p : Nat) : Int)), some (.int ((b : Nat) : Int)), some (.str (sg z b)), none]) ∧ (c = 48 → b = p), ?_, ?_⟩
  · refine ⟨_, rfl, rfl, _, rfl, iteN ?_ ?_⟩
    · rw [sg_empty (by decide +kernel)]
      exact decide_eq_false (by rw [gb]; exact fun z => (nomatch z))
    refine ⟨_, rfl, _, _, rfl, rfl, _, rfl, iteN ?_ ?_⟩
    · rw [sg_fig gb, hdc]
      rfl
    refine ⟨_, rfl, rfl, _, rfl, ?_⟩
    rw [d48, t0]
    by_cases h0 : c = 48
    · refine iteY (decide_eq_true (by rw [h0])) ⟨_, rfl, _, rfl, _, _, rfl, rfl, _, rfl, ?_⟩
      by_cases hb2 : b > p
      · have eb := (err0 b (by simp only; rw [if_pos h0, if_pos hb2])).raise (Same.refl _) (by omega)
        exact iteY (decide_eq_true (by omega)) ⟨_, rfl, eb⟩
      · exact iteN (decide_eq_false (by omega)) ⟨⟨rfl, rfl⟩, fun _ => by omega⟩
    · exact iteN (decide_eq_false (by intro z; injection z with z; exact h0 z.symm)) ⟨⟨rfl, rfl⟩, fun z => absurd z h0⟩
  rintro σ' H1 ⟨⟨rfl, rfl⟩, h48⟩
  -- end, the loop
  refine ⟨_, rfl, _, _, rfl, rfl, ?_⟩
  refine ⟨fun m σ' H' => H' = H1 ∧ ∃ e : Nat, σ' = [some (.str z), some (.int ((p : Nat) : Int)), some (.int ((b : Nat) : Int)), some (.str (sg z b)), some (.int ((e : Nat) : Int))] ∧ b + 1 ≤ e ∧ e ≤ b + 1 + r.length ∧ (c = 48 → e = b + 1) ∧ e ≤ b + 2000 ∧ m = b + 1 + r.length - e, ?_, ?_⟩
  · refine ⟨_, rfl, b + 1, ?_, Nat.le_refl _, by omega, fun _ => rfl, by omega, rfl⟩
    rw [show (((b + 1 : Nat)) : Int) = ((b : Nat) : Int) + 1 by omega]
    rfl
  rintro m σ' H' ⟨rfl, e, rfl, e1, e2, e3, e4, rfl⟩
  have L : (tl z).drop (b + 1 + r.length) = post := by
    have := drop_app (a := c :: r) eR
    rw [List.length_cons, show b + (r.length + 1) = b + 1 + r.length by omega] at this
    exact this
  -- what follows the loop
  have fin' : e = b + 1 + r.length → tRet (tTup (tCons (tCB (fun xs H Q => ∃ a n, xs = [V.str a] ∧ intText? a = some n ∧ a.length ≤ 4000 ∧ Q (V.int n) H) (tCons (tSl rSlS (tVar 0) (tPart (tVar 1)) (tPart (tVar 4))) tNil)) (tCons (tVar 4) tNil)))
      { nx := fun _ H' => Q .non H', rt := Q } [some (.str z), some (.int ((p : Nat) : Int)), some (.int ((b : Nat) : Int)), some (.str (sg z b)), some (.int ((e : Nat) : Int))] H' := fun he => by
    have ecut : tl (cutS z (some ((p : Nat) : Int)) (some ((e : Nat) : Int))) = (if b > p then [45] else []) ++ c :: r := by
      rw [tl_cut hp]
      rcases hb with ⟨hb1, rfl⟩ | ⟨hb1, rfl⟩
      · rw [if_pos (by omega)]
        have : (tl z).drop p = 45 :: ((c :: r) ++ post) := by
          have hlt : p < (tl z).length := (List.getElem?_eq_some_iff.mp hb1).1
          rw [List.drop_eq_getElem_cons hlt, eR]
          congr 1
          have := (List.getElem?_eq_some_iff.mp hb1).2
          exact this
        rw [this, show e - p = (45 :: (c :: r)).length by simp only [List.length_cons]; omega]
        exact List.take_left (l₁ := 45 :: c :: r) (l₂ := post)
      · rw [if_neg (by omega), eR, show e - b = (c :: r).length by simp only [List.length_cons]; omega, List.take_left]
        rfl
    have rl : r.length < 2000 := by omega
    have hlen : (cutS z (some ((p : Nat) : Int)) (some ((e : Nat) : Int))).length ≤ 4000 := by
      rw [len_tl, ecut, List.length_append, List.length_cons]
      split <;> simp <;> omega
    have hint : intText? (cutS z (some ((p : Nat) : Int)) (some ((e : Nat) : Int))) = some (if b > p then - (NumText.digitsVal (c :: r) : Int) else (NumText.digitsVal (c :: r) : Int)) := by
      have ad : NumText.AllDigits (c :: r) := fun x hx => (dig_iff x).mp (hd x hx)
      by_cases hbp : b > p
      · rw [if_pos hbp] at ecut ⊢
        rw [PySem.intText_neg (cs := c :: r) ecut ad (by simp) (by omega)]
      · rw [if_neg hbp] at ecut ⊢
        have ecut' : (cutS z (some ((p : Nat) : Int)) (some ((e : Nat) : Int))).cps.toList = c :: r := ecut
        rw [PySem.intText_digits (by rw [ecut']; exact ad) (by rw [ecut']; simp) (by omega), ecut']
    have hres : ∃ i : Int, i = (if b > p then - (NumText.digitsVal (c :: r) : Int) else (NumText.digitsVal (c :: r) : Int)) ∧ (match c :: r with
      | [] => Except.error b
      | c :: r => if c = 48 then (if b > p then .error b else if r = [] then .ok (.int 0, b + 1) else .error (b + 1))
        else if r.length ≥ 2000 then .error (b + 2000)
        else .ok (.int (if b > p then - (NumText.digitsVal (c :: r) : Int) else (NumText.digitsVal (c :: r) : Int)), b + (r.length + 1)) : Except Nat (D × Nat)) = .ok (.int i, e) := by
      refine ⟨_, rfl, ?_⟩
      simp only
      by_cases h0 : c = 48
      · have hr0 : r = [] := by
          have := e3 h0
          exact List.length_eq_zero_iff.mp (by omega)
        subst hr0
        rw [if_pos h0, if_neg (by have := h48 h0; omega), if_pos rfl, if_neg (by have := h48 h0; omega)]
        subst h0
        rw [show e = b + 1 by simpa using he]
        rfl
      · rw [if_neg h0, if_neg (by omega), he, show b + 1 + r.length = b + (r.length + 1) by omega]
    obtain ⟨i, hi, hr⟩ := hres
    refine ⟨_, rfl, _, rfl, _, rfl, _, rfl, _, rfl, z, rfl, small16 (by omega), _, i, rfl, by rw [hi]; exact hint, hlen, _, rfl, (by show 2 ≤ sizeLine; decide), fun t ht => ?_⟩
    refine fin0 i e hr t _ (same_new ht _) ?_
    rw [upd_same]
  refine ⟨_, rfl, _, rfl, _, rfl, _, rfl, _, _, rfl, rfl, _, rfl, z, rfl, small16 (by omega), rfl, _, rfl, ?_⟩
  rw [cut_sg (by omega), sg_empty (by decide +kernel)]
  by_cases he : e = b + 1 + r.length
  · cases post with
    | nil =>
      have gn : (tl z)[e]? = none := by
        have := congrArg List.length L
        rw [List.length_drop, List.length_nil] at this
        exact List.getElem?_eq_none (by omega)
      refine iteN (by rw [decide_eq_true gn]; rfl) (iteF (fin' he))
    | cons k post =>
      have gn : (tl z)[e]? = some k := by rw [he]; exact (drop_cons L).1
      refine iteY (by rw [decide_eq_false (by rw [gn]; exact fun z => (nomatch z))]; rfl) ?_
      refine ⟨_, rfl, _, rfl, _, rfl, _, rfl, _, _, rfl, rfl, _, rfl, z, rfl, small16 (by omega), _, _, rfl, rfl, _, rfl, ?_⟩
      rw [cut_sg (by omega), sg_fig gn, hs k post rfl]
      exact iteF (fin' he)
  · have hk : ∃ k, (tl z)[e]? = some k ∧ k ∈ c :: r := get_in eR (by omega) (by rw [List.length_cons]; omega)
    obtain ⟨k, gn, hkm⟩ := hk
    have hdk := hd k hkm
    refine iteY (by rw [decide_eq_false (by rw [gn]; exact fun z => (nomatch z))]; rfl) ?_
    refine ⟨_, rfl, _, rfl, _, rfl, _, rfl, _, _, rfl, rfl, _, rfl, z, rfl, small16 (by omega), _, _, rfl, rfl, _, rfl, ?_⟩
    rw [cut_sg (by omega), sg_fig gn, hdk]
    have hrne : r ≠ [] := fun z => by rw [z] at e2 he; simp at e2 he; omega
    refine iteT ⟨fun σ'' H2 => ∃ m', m' < b + 1 + r.length - e ∧ H2 = H' ∧ ∃ e : Nat, σ'' = [some (.str z), some (.int ((p : Nat) : Int)), some (.int ((b : Nat) : Int)), some (.str (sg z b)), some (.int ((e : Nat) : Int))] ∧ b + 1 ≤ e ∧ e ≤ b + 1 + r.length ∧ (c = 48 → e = b + 1) ∧ e ≤ b + 2000 ∧ m' = b + 1 + r.length - e, fun _ _ h => h, ?_⟩
    refine ⟨_, rfl, rfl, _, rfl, ?_⟩
    rw [d48, t0]
    by_cases hc0 : c = 48
    · have he1 := e3 hc0
      have eb := (err0 e (by simp only; rw [if_pos hc0, if_neg (by have := h48 hc0; omega), if_neg hrne, he1])).raise (Same.refl _) (by omega)
      exact iteY (decide_eq_true (by rw [hc0])) ⟨_, rfl, eb⟩
    refine iteN (decide_eq_false (by intro z; injection z with z; exact hc0 z.symm)) ?_
    refine ⟨_, rfl, _, rfl, _, _, rfl, rfl, rfl, _, rfl, ?_⟩
    by_cases h2 : e = b + 2000
    · have eb := (err0 e (by simp only; rw [if_neg hc0, if_pos (by omega), h2])).raise (Same.refl _) (by omega)
      exact iteY (decide_eq_true (show V.int (((e : Nat) : Int) - ((b : Nat) : Int)) = V.int 2000 by rw [show ((e : Nat) : Int) - ((b : Nat) : Int) = 2000 by omega])) ⟨_, rfl, eb⟩
    refine iteN (decide_eq_false (by intro z; injection z with z; omega)) ?_
    refine ⟨_, rfl, _, _, rfl, rfl, b + 1 + r.length - (e + 1), by omega, rfl, e + 1, ?_, by omega, by omega, fun z => absurd z hc0, by omega, rfl⟩
    rw [show (((e + 1 : Nat)) : Int) = ((e : Nat) : Int) + 1 by omega]
    rfl


def okEr (C : Addr) (H : Hp) (E : XK) (z : Str) (l p : Nat) (Q : VK) (res : PR) : Prop :=
  (∀ d q, res = .ok (d, q) → ∀ (t : Addr) (v : V) (H' : Hp), Same H H' → Rp H' d v → H' t = some (.tup [v, .int ((q : Nat) : Int)]) → Q (.ref t) H') ∧ (∀ q, res = .error q → ErrAt C H E q)
def spVal (C : Addr) (l : Nat) : Sp := fun vs H Q E => ∃ (z : Str) (p wi : Nat), vs = [.str z, .int ((p : Nat) : Int), .int ((wi : Nat) : Int)] ∧ (p ≤ z.length ∧ z.length ≤ 1000000 ∧ wi + l = 40) ∧ okEr C H E z l p Q (valueAt (tl z) l p)
/-- a tuple within wi brackets, its own among them -/
def spTup (C : Addr) (l : Nat) : Sp := fun vs H Q E => ∃ (z : Str) (p wi : Nat), vs = [.str z, .int ((p : Nat) : Int), .int ((wi : Nat) : Int)] ∧ (p ≤ z.length ∧ z.length ≤ 1000000 ∧ wi + l = 40) ∧ okEr C H E z l p Q (tupAt (tl z) l p)
/-- what a value is read as, by its first sign -/
theorem ok_val {l n : Nat} (F : Fun K "value_at" "value_at" s_value_at f fd) (T : Txt0 mg tF tM tB) (B : Bp P K mg C fI cc cda) (c_text_at : Cal P w K mg base (L2.CX P w) 3 "text_at" ["text", "place"] (spText C)) (c_integer_at : Cal P w K mg base (L2.CX P w) 3 "integer_at" ["text", "place"] (spInt C))
    (c_tuple_at : Cal P w K mg base (L2.CX P w) (n + 3) "tuple_at" ["text", "place", "within"] (fun vs H Q E => ∃ m, l = m + 1 ∧ spTup C m vs H Q E)) : FnOk P w K mg base (L2.CX P w) (n + 4) f fd ["text", "place", "within"] (spVal C l) := by
  refine F.okX sc_value_at (fun vs H Q E h => ?_) (fun cdv A outer s H vs Q E hr h => ?_)
  · obtain ⟨z, p, wi, rfl, _⟩ := h
    rfl
  obtain ⟨z, p, wi, rfl, ⟨hp, hz, hw⟩, hv⟩ := h
  refine ⟨_, pss_cons (ps_set (i := 3) sc_value_at.nd rfl (Or.inl rfl) (pe_slice sl_str (pv 0) (po_some (pv 1)) (po_some (pe_op op_add (pv 1) (pe_int)))))
    (pss_cons (ps_if (pt_cmpR op_eq (pv 3) (pe_str) (nomark _)) (pss_one (ps_ret (pe_tup (pa_cons (pe_non) (pa_cons (pe_op op_add (pv 1) (pe_int)) pa_nil))))) (pss_nil))
    (pss_cons (ps_if (pt_cmpR op_eq (pv 3) (pe_str) (nomark _)) (pss_one (ps_ret (pe_tup (pa_cons (pe_bl) (pa_cons (pe_op op_add (pv 1) (pe_int)) pa_nil))))) (pss_nil))
    (pss_cons (ps_if (pt_cmpR op_eq (pv 3) (pe_str) (nomark _)) (pss_one (ps_ret (pe_tup (pa_cons (pe_bl) (pa_cons (pe_op op_add (pv 1) (pe_int)) pa_nil))))) (pss_nil))
    (pss_cons (ps_if (pt_cmpR op_eq (pv 3) (pe_str) (nomark _)) (pss_one (ps_ret (pe_cal c_text_at (hr.mono (by omega)) rfl (passes_call (takes_of rfl rfl rfl rfl) (fun _ _ _ _ h => h)) (pa_cons (pv 0) (pa_cons (pe_op op_add (pv 1) (pe_int)) pa_nil))))) (pss_nil))
    (pss_cons (ps_if (pt_cmpR op_eq (pv 3) (pe_str) (nomark _)) (pss_cons (ps_if (pt_cmpR op_eq (pv 2) (pe_glob (v := .int 40) rfl T.g_MOST_BRACKETS ⟨_, rfl⟩) (nomark _)) (pss_one (ps_raiseSup rfl B.bp fld_place hr (takes_of rfl rfl rfl rfl) ev_bp (by exact (pa_cons (pv 1) pa_nil)))) (pss_nil))
    (pss_one (ps_ret (pe_cal c_tuple_at (hr.mono (by omega)) rfl (passes_call (takes_of rfl rfl rfl rfl) (fun _ _ _ _ h => h)) (pa_cons (pv 0) (pa_cons (pe_op op_add (pv 1) (pe_int)) (pa_cons (pe_op op_add (pv 2) (pe_int)) pa_nil))))))) (pss_nil))
    (pss_one (ps_ret (pe_cal c_integer_at (hr.mono (by omega)) rfl (passes_call (takes_of rfl rfl rfl rfl) (fun _ _ _ _ h => h)) (pa_cons (pv 0) (pa_cons (pv 1) pa_nil)))))))))), ?_⟩
  have hL := len_tl z
  have two : (2 : Nat) ≤ sizeLine := by decide
  rw [valueAt_eq] at hv
  have hpl : ∀ c, (tl z)[p]? = some c → p < z.length := fun c g => by rw [hL]; exact (List.getElem?_eq_some_iff.mp g).1
  have dk : ∀ e k, tl e = [k] → decide (V.str (sg z p) = V.str e) = decide ((tl z)[p]? = some k) := fun e k he => sg_is he
  refine ⟨_, rfl, _, rfl, _, rfl, _, rfl, _, _, rfl, rfl, _, rfl, z, rfl, small16 (by omega), ?_⟩
  rw [cut_sg hp]
  refine ⟨_, rfl, rfl, _, rfl, ?_⟩
  rw [dk _ 78 (by decide +kernel)]
  by_cases h1 : (tl z)[p]? = some 78
  · rw [if_pos h1] at hv
    refine iteY (decide_eq_true h1) ⟨_, rfl, _, _, rfl, rfl, two, fun t ht => hv.1 _ _ rfl t .non _ (same_new ht _) (by rw [Rp]) ?_⟩
    rw [upd_same]
    rfl
  rw [if_neg h1] at hv
  refine iteN (decide_eq_false h1) ⟨_, rfl, rfl, _, rfl, ?_⟩
  rw [dk _ 84 (by decide +kernel)]
  by_cases h2 : (tl z)[p]? = some 84
  · rw [if_pos h2] at hv
    refine iteY (decide_eq_true h2) ⟨_, rfl, _, _, rfl, rfl, two, fun t ht => hv.1 _ _ rfl t (.bl true) _ (same_new ht _) (by rw [Rp]) ?_⟩
    rw [upd_same]
    rfl
  rw [if_neg h2] at hv
  refine iteN (decide_eq_false h2) ⟨_, rfl, rfl, _, rfl, ?_⟩
  rw [dk _ 70 (by decide +kernel)]
  by_cases h3 : (tl z)[p]? = some 70
  · rw [if_pos h3] at hv
    refine iteY (decide_eq_true h3) ⟨_, rfl, _, _, rfl, rfl, two, fun t ht => hv.1 _ _ rfl t (.bl false) _ (same_new ht _) (by rw [Rp]) ?_⟩
    rw [upd_same]
    rfl
  rw [if_neg h3] at hv
  refine iteN (decide_eq_false h3) ⟨_, rfl, rfl, _, rfl, ?_⟩
  rw [dk _ 34 (by decide +kernel)]
  by_cases h4 : (tl z)[p]? = some 34
  · rw [if_pos h4] at hv
    have := hpl _ h4
    refine iteY (decide_eq_true h4) ⟨_, rfl, _, rfl, _, _, rfl, rfl, z, p + 1, rfl, ⟨by omega, hz⟩, fun s q e t H' hs ht => ?_, fun q e => ?_⟩
    · exact hv.1 _ _ (by rw [e]; rfl) t _ H' hs (by rw [Rp]) ht
    · exact hv.2 _ (by rw [e]; rfl)
  rw [if_neg h4] at hv
  refine iteN (decide_eq_false h4) ⟨_, rfl, rfl, _, rfl, ?_⟩
  rw [dk _ 40 (by decide +kernel)]
  by_cases h5 : (tl z)[p]? = some 40
  · rw [if_pos h5] at hv
    have := hpl _ h5
    cases l with
    | zero =>
      have eb := (hv.2 _ rfl).raise (Same.refl _) (by omega)
      exact iteY (decide_eq_true h5) ⟨_, rfl, rfl, _, rfl, iteY (decide_eq_true (show V.int ((wi : Nat) : Int) = V.int 40 by rw [show ((wi : Nat) : Int) = 40 by omega])) ⟨_, rfl, eb⟩⟩
    | succ m =>
      simp only at hv
      refine iteY (decide_eq_true h5) ⟨_, rfl, rfl, _, rfl, iteN (decide_eq_false (by intro z; injection z with z; omega)) ?_⟩
      exact ⟨_, rfl, _, rfl, _, _, rfl, rfl, _, rfl, _, _, rfl, rfl, m, rfl, z, p + 1, wi + 1, rfl, ⟨by omega, hz, by omega⟩, hv⟩
  rw [if_neg h5] at hv
  refine iteN (decide_eq_false h5) ⟨_, rfl, _, rfl, z, p, rfl, ⟨hp, hz⟩, fun i q e t H' hs ht => ?_, fun q e => hv.2 _ e⟩
  exact hv.1 _ _ e t _ H' hs (by rw [Rp]) ht
theorem ok_tup {l n : Nat} (F : Fun K "tuple_at" "tuple_at" s_tuple_at f fd) (T : Txt0 mg tF tM tB) (B : Bp P K mg C fI cc cda) (c_value_at : Cal P w K mg base (L2.CX P w) n "value_at" ["text", "place", "within"] (spVal C l)) (h3 : 2 ≤ n) : FnOk P w K mg base (L2.CX P w) (n + 1) f fd ["text", "place", "within"] (spTup C l) := by
  refine F.okX sc_tuple_at (fun vs H Q E h => ?_) (fun cdv A outer s H vs Q E hr h => ?_)
  · obtain ⟨z, p, wi, rfl, _⟩ := h
    rfl
  obtain ⟨z, p0, wi, rfl, ⟨hp, hz, hw⟩, hv⟩ := h
  refine ⟨_, pss_cons (ps_if (pt_cmpR op_eq (pe_slice sl_str (pv 0) (po_some (pv 1)) (po_some (pe_op op_add (pv 1) (pe_int)))) (pe_str) (nomark _)) (pss_one (ps_ret (pe_tup (pa_cons (pe_tup (pa_nil)) (pa_cons (pe_op op_add (pv 1) (pe_int)) pa_nil))))) (pss_nil))
    (pss_cons (ps_set (i := 3) sc_tuple_at.nd rfl (Or.inl rfl) (pe_lst (pa_nil)))
    (pss_one (ps_while (passes_of rfl) (pt_val (pe_bl)) (pss_cons (ps_asg (pe_cal c_value_at (hr.mono (by omega)) rfl (passes_call (takes_of rfl rfl rfl rfl) (fun _ _ _ _ h => h)) (pa_cons (pv 0) (pa_cons (pv 1) (pa_cons (pv 2) pa_nil)))) (pg_tup rfl (pgs_cons (pg_name (i := 4) sc_tuple_at.nd rfl (Or.inl rfl)) (pgs_cons (pg_name (i := 1) sc_tuple_at.nd rfl (Or.inl rfl)) pgs_nil))))
    (pss_cons (ps_expr (pe_bm PySem.F.plainAttrs_list PySem.F.slot_list_append PySem.F.type_list_append mt_append (pv 3) (pa_cons (pv 4) pa_nil)))
    (pss_cons (ps_set (i := 5) sc_tuple_at.nd rfl (Or.inl rfl) (pe_slice sl_str (pv 0) (po_some (pv 1)) (po_some (pe_op op_add (pv 1) (pe_int)))))
    (pss_cons (ps_if (pt_cmpR op_eq (pv 5) (pe_str) (nomark _)) (pss_one (ps_ret (pe_tup (pa_cons (pe_callTy call_tuple_of rfl (by exact T.n_tuple) (by decide +kernel) (pa_cons (pv 3) pa_nil)) (pa_cons (pe_op op_add (pv 1) (pe_int)) pa_nil))))) (pss_nil))
    (pss_cons (ps_if (pt_cmpR op_ne (pv 5) (pe_str) (nomark _)) (pss_one (ps_raiseSup rfl B.bp fld_place hr (takes_of rfl rfl rfl rfl) ev_bp (by exact (pa_cons (pv 1) pa_nil)))) (pss_nil))
    (pss_one (ps_aug (i := 1) sc_tuple_at.nd rfl (Or.inl rfl) (pe_int) ip_add)))))))))), ?_⟩
  have hL := len_tl z
  have two : (2 : Nat) ≤ sizeLine := by decide
  refine ⟨_, rfl, _, rfl, _, rfl, _, rfl, _, _, rfl, rfl, _, rfl, z, rfl, small16 (by omega), rfl, _, rfl, ?_⟩
  rw [cut_sg hp, sg_is (c := 41) (by decide +kernel)]
  unfold tupAt at hv
  by_cases h41 : (tl z)[p0]? = some 41
  · rw [if_pos h41] at hv
    refine iteY (decide_eq_true h41) ⟨(by show 0 ≤ sizeLine; decide), fun u hu => ⟨_, rfl, _, _, rfl, rfl, two, fun t ht => hv.1 _ _ rfl t (.ref u) _ ((same_new hu _).trans (same_new ht _)) ?_ ?_⟩⟩
    · rw [Rp]
      exact ⟨u, [], rfl, same_new ht _ _ _ upd_same, Rps.nil⟩
    · rw [upd_same]
      rfl
  rw [if_neg h41] at hv
  refine iteN (decide_eq_false h41) ⟨(by show 0 ≤ sizeLine; decide), fun a ha => ?_⟩
  generalize hres : members (tl z) (valueAt (tl z) l) ((tl z).length + 1) p0 [] = res at hv
  obtain ⟨fin0, err0⟩ := hv
  refine ⟨fun m σ H' => ∃ (p : Nat) (acc : List D) (vs : List V) (x4 x5 : Option V), σ = [some (.str z), some (.int ((p : Nat) : Int)), some (.int ((wi : Nat) : Int)), some (.ref a), x4, x5] ∧ H' a = some (.lst vs) ∧ Rps H' acc vs ∧
    members (tl z) (valueAt (tl z) l) m p acc = res ∧ p ≤ z.length ∧ (acc.length + m ≤ z.length + 1 ∧ z.length + 1 ≤ p + m) ∧ Kept a H H', ?_, ?_⟩
  · exact ⟨_, p0, [], [], _, _, rfl, upd_same, Rps.nil, hres, hp, by simp [hL], Kept.upd⟩
  rintro m σ H1 ⟨p, acc, vs, x4, x5, rfl, w1, w2, w3, w4, ⟨w5, w7⟩, w6⟩
  refine ⟨_, rfl, iteT ⟨fun σ' H' => ∃ m', m' < m ∧ ∃ (p : Nat) (acc : List D) (vs : List V) (x4 x5 : Option V), σ' = [some (.str z), some (.int ((p : Nat) : Int)), some (.int ((wi : Nat) : Int)), some (.ref a), x4, x5] ∧ H' a = some (.lst vs) ∧ Rps H' acc vs ∧
    members (tl z) (valueAt (tl z) l) m' p acc = res ∧ p ≤ z.length ∧ (acc.length + m' ≤ z.length + 1 ∧ z.length + 1 ≤ p + m') ∧ Kept a H H', fun _ _ h => h, ?_⟩⟩
  cases m with
  | zero => omega
  | succ m =>
  unfold members at w3
  have same : ∀ H' : Hp, Kept a H H' → Same H H' := fun H' k b o e => k b o (ne_of_none e ha) e
  refine ⟨_, rfl, _, rfl, _, rfl, z, p, wi, rfl, ⟨w4, hz, hw⟩, fun d1 k e t v H2 hs hr1 ht => ?_, fun q e => ?_⟩
  case refine_2 =>
    rw [e] at w3
    exact (err0 q w3.symm).from_ (same _ w6)
  rw [e] at w3
  simp only at w3
  obtain ⟨vl1, vl2, _⟩ := valueAt_lim e
  refine ⟨t, _, rfl, SqT.of ht, rfl, _, _, rfl, _, _, rfl, rfl, ?_⟩
  have w1' := hs _ _ w1
  have lv := w2.length
  -- members.append(member)
  refine ⟨_, rfl, .inl ⟨rfl, _, SqL.of w1'⟩, _, rfl, a, _, _, rfl, rfl, w1', small_of (by omega), ?_⟩
  have nta : ∀ (H : Hp) (o : HO), H a = some (.lst vs) → Tup H (upd H a o) := fun H o h b ys e => by
    rw [upd_ne (fun z => by subst z; rw [h] at e; cases e)]
    exact e
  have R2 : Rps (upd H2 a (.lst (vs ++ [v]))) (acc ++ [d1]) (vs ++ [v]) := Rps.append (hr1.mono (nta _ _ w1')) ((w2.mono (Same.tup hs)).mono (nta _ _ w1'))
  have k2 : Kept a H (upd H2 a (.lst (vs ++ [v]))) := (w6.trans (Same.kept hs)).trans Kept.upd
  have S2 : Same H (upd H2 a (.lst (vs ++ [v]))) := same _ k2
  -- sign
  refine ⟨_, rfl, _, rfl, _, rfl, _, rfl, _, _, rfl, rfl, _, rfl, z, rfl, small16 (by omega), ?_⟩
  rw [cut_sg (by omega)]
  have dk : ∀ e k', tl e = [k'] → decide (V.str (sg z k) = V.str e) = decide ((tl z)[k]? = some k') := fun e k' he => sg_is he
  refine ⟨_, rfl, rfl, _, rfl, ?_⟩
  rw [dk _ 41 (by decide +kernel)]
  by_cases c1 : (tl z)[k]? = some 41
  · rw [c1] at w3
    simp only at w3
    rw [if_pos trivial] at w3
    refine iteY (decide_eq_true c1) ⟨_, rfl, a, _, rfl, .inl ⟨SqL.of upd_same, fun u hu => ⟨_, rfl, _, _, rfl, rfl, two, fun t2 ht2 => fin0 _ _ w3.symm t2 (.ref u) _ (S2.trans ((same_new hu _).trans (same_new ht2 _))) ?_ ?_⟩⟩⟩
    · rw [Rp]
      exact ⟨u, _, rfl, same_new ht2 _ _ _ upd_same, (R2.mono (Same.tup (same_new hu _))).mono (Same.tup (same_new ht2 _))⟩
    · rw [upd_same]
      rfl
  refine iteN (decide_eq_false c1) ⟨_, rfl, rfl, _, rfl, ?_⟩
  have dk2 : decide (V.str (sg z k) = V.str (Str.ofString " ")) = decide ((tl z)[k]? = some 32) := dk _ 32 (by decide +kernel)
  rw [dk2]
  by_cases c2 : (tl z)[k]? = some 32
  · have hkl : k < z.length := by rw [hL]; exact (List.getElem?_eq_some_iff.mp c2).1
    rw [c2] at w3
    simp only at w3
    rw [if_neg (by decide), if_pos trivial] at w3
    refine iteN (by rw [decide_eq_true c2]; rfl) ⟨_, rfl, _, _, rfl, rfl, m, by omega, k + 1, acc ++ [d1], vs ++ [v], _, _, rfl, upd_same, R2, w3, by omega, ⟨?_, by omega⟩, k2⟩
    rw [List.length_append, List.length_singleton]
    omega
  · have er : Except.error k = res := by
      rw [← w3]
      cases g : (tl z)[k]? with
      | none => rfl
      | some c =>
        simp only
        rw [if_neg (fun z => c1 (by rw [g, z])), if_neg (fun z => c2 (by rw [g, z]))]
    have eb := (err0 k er.symm).raise S2 (by omega)
    exact iteY (by rw [decide_eq_false c2]; rfl) ⟨_, rfl, eb⟩

def spRead (C : Addr) : Sp := fun vs H Q E => ∃ z : Str, vs = [.str z] ∧ z.length ≤ 1000000 ∧
  (∀ d, readL (tl z) = .ok d → ∀ (v : V) (H' : Hp), Same H H' → Rp H' d v → Q v H') ∧ (∀ q, readL (tl z) = .error q → ErrAt C H E q)
theorem ok_read {n : Nat} (F : Fun K "read_plain" "read_plain" s_read_plain f fd) (T : Txt0 mg tF tM tB) (B : Bp P K mg C fI cc cda) (c_value_at : Cal P w K mg base (L2.CX P w) n "value_at" ["text", "place", "within"] (spVal C 40)) (h3 : 2 ≤ n) : FnOk P w K mg base (L2.CX P w) (n + 1) f fd ["text"] (spRead C) := by
  refine F.okX sc_read_plain (fun vs H Q E h => ?_) (fun cdv A outer s H vs Q E hr h => ?_)
  · obtain ⟨z, rfl, _⟩ := h
    rfl
  obtain ⟨z, rfl, hz, fin, err⟩ := h
  refine ⟨_, pss_cons (ps_asg (pe_cal c_value_at (hr.mono (by omega)) rfl (passes_call (takes_of rfl rfl rfl rfl) (fun _ _ _ _ h => h)) (pa_cons (pv 0) (pa_cons (pe_int) (pa_cons (pe_int) pa_nil)))) (pg_tup rfl (pgs_cons (pg_name (i := 1) sc_read_plain.nd rfl (Or.inl rfl)) (pgs_cons (pg_name (i := 2) sc_read_plain.nd rfl (Or.inl rfl)) pgs_nil))))
    (pss_cons (ps_if (pt_cmpR op_lt (pv 2) (pe_callB call_len_str rfl (by exact T.n_len) PySem.boot_len (pa_cons (pv 0) pa_nil)) (nomark _)) (pss_one (ps_raiseSup rfl B.bp fld_place hr (takes_of rfl rfl rfl rfl) ev_bp (by exact (pa_cons (pv 2) pa_nil)))) (pss_nil))
    (pss_one (ps_ret (pv 1)))), ?_⟩
  unfold readL at fin err
  have hL := len_tl z
  refine ⟨_, rfl, z, 0, 0, rfl, ⟨Nat.zero_le _, hz, rfl⟩, fun d k e t v H' hs hr1 ht => ?_, fun q e => ?_⟩
  case refine_2 => exact err q (by rw [e])
  obtain ⟨vl1, vl2, _⟩ := valueAt_lim e
  refine ⟨t, _, rfl, SqT.of ht, rfl, _, _, rfl, _, _, rfl, rfl, ?_⟩
  refine ⟨_, rfl, _, rfl, z, rfl, small16 (by omega), _, _, rfl, rfl, _, rfl, ?_⟩
  by_cases hk : k < (tl z).length
  · have eb := (err k (by rw [e]; simp only; rw [if_pos hk])).raise hs (by omega)
    exact iteY (decide_eq_true (by omega)) ⟨_, rfl, eb⟩
  · exact iteN (decide_eq_false (by omega)) ⟨_, rfl, fin d (by rw [e]; simp only; rw [if_neg hk]) v H' hs hr1⟩

end
end Tst
namespace Tst
open PySem PySem.Spec PyProof.Rows L2 TL
section
variable {P : Program} {w : World} {K : PySem.W.Frag} {mg : Str → Option Value} {base : Heap} {f : Addr} {fd : FuncData} {tF tM tB : Tok} {C fI cc cda : Addr}
/-! ### the law's own reading -/
def Fair (z : Str) : Prop := ∀ c ∈ tl z, 32 ≤ c ∧ c ≤ 126 ∧ c ≠ 37
theorem Fair.at_ {z : Str} (h : Fair z) {p c : Nat} (g : (tl z)[p]? = some c) : 32 ≤ c ∧ c ≤ 126 ∧ c ≠ 37 := h c (List.mem_of_getElem? g)
theorem in_s {s : Str} {l : List Nat} (h : tl s = l) (c : Nat) : (!(Builtin.Str.occurrences s ⟨#[c]⟩ 0 s.length 1).isEmpty) = decide (c ∈ l) := by
  rw [StrLaws.found_one, show s.cps.toList = l from h]
def okL (H : Hp) (Q : VK) (res : PR) : Prop := (∀ d q, res = .ok (d, q) → ∀ (t : Addr) (v : V) (H' : Hp), Same H H' → Rp H' d v → H' t = some (.lst [v, .int ((q : Nat) : Int)]) → Q (.ref t) H') ∧
  (∀ q, res = .error q → ∀ (t : Addr) (H' : Hp), Same H H' → H' t = some (.lst [.int ((q : Nat) : Int), .int (-1)]) → Q (.ref t) H')
theorem textAt_step (c : Nat) (r : List Nat) (p : Nat) (acc : List Nat) (h1 : c ≠ 34) (h2 : c ≠ 92) (h3 : c ≠ 10) : textAt (c :: r) p acc = textAt r (p + 1) (acc ++ [c]) := by
  rw [textAt.eq_def]
  simp only
  rw [if_neg h1, if_neg h2, if_neg h3]
theorem drop_at {L : List Nat} {p c : Nat} (h : L[p]? = some c) : L.drop p = c :: L.drop (p + 1) := by
  obtain ⟨h1, h2⟩ := List.getElem?_eq_some_iff.mp h
  rw [List.drop_eq_getElem_cons h1, h2]
theorem at_some {z : Str} {p : Nat} (h : p < z.length) : ∃ c, (tl z)[p]? = some c := by
  rw [len_tl] at h
  exact ⟨_, List.getElem?_eq_getElem h⟩
def spLT : Sp := fun vs H Q _ => ∃ (z : Str) (p : Nat), vs = [.str z, .int ((p : Nat) : Int)] ∧ (p ≤ z.length ∧ z.length ≤ 1000000 ∧ Fair z) ∧ okL H Q (textV (textAt ((tl z).drop p) p []))
theorem same_new2 {H : Hp} {p : Addr} (h : H p = none) (o o' : HO) : Same H (upd (upd H p o) p o') := fun b u q => by rw [upd_ne (ne_of_none q h), upd_ne (ne_of_none q h)]; exact q
theorem strOf_app (a : List Nat) (c : Nat) : strOf a ++ ⟨#[c]⟩ = strOf (a ++ [c]) := ext_tl (by rw [tl_append]; rfl)
theorem two_ : (2 : Nat) ≤ sizeLine := by decide
theorem ok_ltext (F : Fun K "_law_text_at" "_law_text_at" s__law_text_at f fd) (T : Txt0 mg tF tM tB) : FnOk P w K mg base CX0 1 f fd ["text", "at"] spLT := by
  refine F.ok sc__law_text_at (fun vs H Q E h => ?_) (fun cdv A outer s H vs Q E hr h => ?_)
  · obtain ⟨z, p, rfl, _⟩ := h
    rfl
  obtain ⟨z, p0, rfl, ⟨hp0, hz, hfair⟩, hq⟩ := h
  refine ⟨_, pss_cons (ps_set (i := 2) sc__law_text_at.nd rfl (Or.inl rfl) (pe_str))
    (pss_cons (ps_for PassesOwn.never rfl (pi_range1 rfl (by exact T.n_range) (pa_cons (pe_op op_add (pe_callB call_len_str rfl (by exact T.n_len) PySem.boot_len (pa_cons (pv 0) pa_nil)) (pe_int)) pa_nil)) (pg_name (i := 3) sc__law_text_at.nd rfl (Or.inl rfl)) (pss_cons (ps_if (pt_cmpR op_ge (pv 1) (pe_callB call_len_str rfl (by exact T.n_len) PySem.boot_len (pa_cons (pv 0) pa_nil)) (nomark _)) (pss_one (ps_ret (pe_lst (pa_cons (pe_callB call_len_str rfl (by exact T.n_len) PySem.boot_len (pa_cons (pv 0) pa_nil)) (pa_cons (pe_un un_neg (pe_int)) pa_nil))))) (pss_nil))
    (pss_cons (ps_set (i := 4) sc__law_text_at.nd rfl (Or.inl rfl) (pe_ix ix_str (pv 0) (pv 1) (fun _ _ => rfl)))
    (pss_cons (ps_if (pt_cmpR op_eq (pv 4) (pe_str) (nomark _)) (pss_one (ps_ret (pe_lst (pa_cons (pv 2) (pa_cons (pe_op op_add (pv 1) (pe_int)) pa_nil))))) (pss_nil))
    (pss_one (ps_if (pt_cmpR op_eq (pv 4) (pe_str) (nomark _)) (pss_cons (ps_if (pt_cmpR op_ge (pe_op op_add (pv 1) (pe_int)) (pe_callB call_len_str rfl (by exact T.n_len) PySem.boot_len (pa_cons (pv 0) pa_nil)) (nomark _)) (pss_one (ps_ret (pe_lst (pa_cons (pe_callB call_len_str rfl (by exact T.n_len) PySem.boot_len (pa_cons (pv 0) pa_nil)) (pa_cons (pe_un un_neg (pe_int)) pa_nil))))) (pss_nil))
    (pss_cons (ps_if (pt_cmpR op_notin_str (pe_ix ix_str (pv 0) (pe_op op_add (pv 1) (pe_int)) (fun _ _ => rfl)) (pe_str) rfl) (pss_one (ps_ret (pe_lst (pa_cons (pe_op op_add (pv 1) (pe_int)) (pa_cons (pe_un un_neg (pe_int)) pa_nil))))) (pss_nil))
    (pss_cons (ps_set (i := 2) sc__law_text_at.nd rfl (Or.inl rfl) (pe_op op_add_str (pv 2) (pe_dget2 (hu_of hr) (pe_disp (pps_cons (pe_str) (pe_str) (pps_nil)) (by rfl) (by rfl) (fun z => by cases z) (by decide)) (pe_ix ix_str (pv 0) (pe_op op_add (pv 1) (pe_int)) (fun _ _ => rfl)) (pe_ix ix_str (pv 0) (pe_op op_add (pv 1) (pe_int)) (fun _ _ => rfl)) ⟨rfl, rfl, rfl, rfl⟩)))
    (pss_one (ps_set (i := 1) sc__law_text_at.nd rfl (Or.inl rfl) (pe_op op_add (pv 1) (pe_int))))))) (pss_one (ps_if (PW.pt (pw_or (pt_cmpR op_lt_str (pv 4) (pe_str) (nomark _)) (pw_or (pt_cmpR op_gt_str (pv 4) (pe_str) (nomark _)) (pw_or1 (pt_cmpR op_eq (pe_callB call_ord rfl (by exact T.n_ord) (by decide +kernel) (pa_cons (pv 4) pa_nil)) (pe_int) (nomark _)))))) (pss_one (ps_ret (pe_lst (pa_cons (pv 1) (pa_cons (pe_un un_neg (pe_int)) pa_nil))))) (pss_cons (ps_set (i := 2) sc__law_text_at.nd rfl (Or.inl rfl) (pe_op op_add_str (pv 2) (pv 4)))
    (pss_one (ps_set (i := 1) sc__law_text_at.nd rfl (Or.inl rfl) (pe_op op_add (pv 1) (pe_int)))))))))))))
    (pss_one (ps_ret (pe_lst (pa_cons (pe_callB call_len_str rfl (by exact T.n_len) PySem.boot_len (pa_cons (pv 0) pa_nil)) (pa_cons (pe_un un_neg (pe_int)) pa_nil)))))), ?_⟩
  have hL := len_tl z
  generalize hres : textV (textAt ((tl z).drop p0) p0 []) = res at hq
  obtain ⟨fin, err⟩ := hq
  have out : ∀ H' : Hp, Same H H' → res = .error z.length → ∀ (t : Addr), H' t = none → Q (.ref t) (upd H' t (.lst [.int ((z.length : Nat) : Int), .int (-1)])) := fun H' s e t ht => err _ e t _ (s.trans (same_new ht _)) upd_same
  refine ⟨_, rfl, z, rfl, small16 (by omega), _, _, rfl, rfl, _, rfl, by omega, by omega, for_range (lo := 0) (n := (((z.length : Nat) : Int) + 1).toNat)
    (fun i σ H' => ∃ (p : Nat) (acc : List Nat) (x3 x4 : Option V), σ = [some (.str z), some (.int ((p : Nat) : Int)), some (.str (strOf acc)), x3, x4] ∧ Same H H' ∧ textV (textAt ((tl z).drop p) p acc) = res ∧ p ≤ z.length ∧ acc.length ≤ p ∧ p0 + i ≤ p) ?_ ?_ ?_⟩
  · refine ⟨p0, [], none, none, ?_, Same.refl H, hres, hp0, Nat.zero_le _, Nat.le_refl _⟩
    rw [show Str.ofString "" = strOf [] by decide +kernel]
    rfl
  · rintro i σ H1 hi ⟨p, acc, x3, x4, rfl, S1, w2, w3, w4, w5⟩
    refine ⟨_, rfl, _, rfl, z, rfl, small16 (by omega), _, _, rfl, rfl, _, rfl, ?_⟩
    by_cases hpl : p = z.length
    · have hd : (tl z).drop p = [] := List.drop_eq_nil_of_le (by omega)
      rw [hd, textAt_nil] at w2
      refine iteY (decide_eq_true (by omega)) ⟨_, rfl, z, rfl, small16 (by omega), _, rfl, two_, fun t ht => out H1 S1 (by rw [← w2, hpl]; rfl) t ht⟩
    refine iteN (decide_eq_false (by omega)) ?_
    obtain ⟨c, g⟩ := at_some (z := z) (p := p) (by omega)
    have hf := hfair.at_ g
    rw [drop_at g] at w2
    refine ⟨_, rfl, _, rfl, z, _, c, rfl, rfl, small16 (by omega), atI_nat g, ?_⟩
    have dk : ∀ e k, tl e = [k] → decide (V.str ⟨#[c]⟩ = V.str e) = decide (c = k) := fun e k he => by
      rw [dec_s, he]
      show decide ([c] = [k]) = _
      simp
    have aug : ∀ (H2 : Hp) (p' : Nat) (acc' : List Nat) (x4 : Option V), p < p' → p' ≤ z.length → acc'.length ≤ p' → Same H H2 → textV (textAt ((tl z).drop p') p' acc') = res →
        ∃ (p : Nat) (acc : List Nat) (x3 x4' : Option V), [some (V.str z), some (V.int ((p' : Nat) : Int)), some (V.str (strOf acc')), some (V.int (0 + (i : Int))), x4] = [some (.str z), some (.int ((p : Nat) : Int)), some (.str (strOf acc)), x3, x4'] ∧ Same H H2 ∧ textV (textAt ((tl z).drop p) p acc) = res ∧ p ≤ z.length ∧ acc.length ≤ p ∧ p0 + (i + 1) ≤ p :=
      fun H2 p' acc' x4 h1 h2 h3 s e => ⟨p', acc', _, _, rfl, s, e, h2, h3, by omega⟩
    refine ⟨_, rfl, rfl, _, rfl, ?_⟩
    rw [dk _ 34 (by decide +kernel)]
    by_cases h34 : c = 34
    · rw [h34, textAt_end] at w2
      refine iteY (decide_eq_true h34) ⟨_, rfl, _, rfl, _, _, rfl, rfl, two_, fun t ht => fin _ _ w2.symm t _ _ (S1.trans (same_new ht _)) (by rw [Rp]) ?_⟩
      rw [upd_same]
      rfl
    refine iteN (decide_eq_false h34) ⟨_, rfl, rfl, _, rfl, ?_⟩
    rw [dk _ 92 (by decide +kernel)]
    by_cases h92 : c = 92
    · rw [h92, textAt_slash] at w2
      refine iteY (decide_eq_true h92) ⟨_, rfl, _, _, rfl, rfl, _, rfl, z, rfl, small16 (by omega), _, _, rfl, rfl, _, rfl, ?_⟩
      by_cases hp1 : p + 1 = z.length
      · have hd : (tl z).drop (p + 1) = [] := List.drop_eq_nil_of_le (by omega)
        rw [hd] at w2
        refine iteY (decide_eq_true (by omega)) ⟨_, rfl, z, rfl, small16 (by omega), _, rfl, two_, fun t ht => out H1 S1 (by rw [← w2, ← hp1]; rfl) t ht⟩
      refine iteN (decide_eq_false (by omega)) ?_
      obtain ⟨c', g'⟩ := at_some (z := z) (p := p + 1) (by omega)
      rw [drop_at g'] at w2
      simp only at w2
      have g1 : atI z.cps.toList (((p : Nat) : Int) + 1) = some c' := by
        have := atI_nat g'
        rwa [show (((p + 1 : Nat)) : Int) = ((p : Nat) : Int) + 1 by omega] at this
      refine ⟨_, rfl, _, rfl, _, _, rfl, rfl, z, _, c', rfl, rfl, small16 (by omega), g1, _, _, rfl, rfl, _, rfl, ?_⟩
      rw [in_s (l := [92, 34, 110]) (by decide +kernel)]
      by_cases hin : c' ∈ [92, 34, 110]
      · refine iteN (by rw [decide_eq_true hin]; rfl) ?_
        have hc' : c' = 92 ∨ c' = 34 ∨ c' = 110 := by simpa using hin
        have w2' : textV (textAt ((tl z).drop (p + 1 + 1)) (p + 2) (acc ++ [if c' = 110 then 10 else c'])) = res := by
          rcases hc' with rfl | rfl | rfl
          · simpa using w2
          · simpa using w2
          · simpa using w2
        have got : (valV (mergeK [] [(Sum.inr (Str.ofString "n"), V.str (Str.ofString "\n"))]) (Sum.inr (⟨#[c']⟩ : Str))).getD (V.str ⟨#[c']⟩) = V.str ⟨#[if c' = 110 then 10 else c']⟩ := by
          rcases hc' with rfl | rfl | rfl <;> decide +kernel
        refine ⟨_, rfl, fun d hd => ⟨upd_same, [(.inr (Str.ofString "n"), .str (Str.ofString "\n"))], rfl, by decide, d, rfl, .inl ⟨_, .inl upd_same⟩, _, rfl, _, rfl, _, _, rfl, rfl, z, _, c', rfl, rfl, small16 (by omega), g1, _, rfl, _, rfl, _, _, rfl, rfl, z, _, c', rfl, rfl, small16 (by omega), g1, _, DGet.k (k := .inr ⟨#[c']⟩) upd_same, _, (⟨#[if c' = 110 then 10 else c']⟩ : Str), rfl, got, ?_, _, rfl, _, _, rfl, rfl, ?_⟩⟩
        · show (strOf acc).length + 1 ≤ sizeLine
          rw [len_strOf]
          exact small16 (by omega)
        · have := aug (upd (upd H1 d (.dK [])) d (.dK (mergeK [] [(.inr (Str.ofString "n"), .str (Str.ofString "\n"))]))) (p + 2) (acc ++ [if c' = 110 then 10 else c']) (some (.str ⟨#[c]⟩)) (by omega) (by omega)
            (by rw [List.length_append]; show acc.length + 1 ≤ _; omega) (S1.trans (same_new2 hd _ _)) w2'
          rw [show (((p + 2 : Nat)) : Int) = ((p : Nat) : Int) + 2 by omega, ← strOf_app] at this
          exact this
      · have hn : ¬ (c' = 34 ∨ c' = 92) ∧ c' ≠ 110 := by
          simp at hin
          omega
        rw [if_neg hn.1, if_neg hn.2] at w2
        refine iteY (by rw [decide_eq_false hin]; rfl) ⟨_, rfl, _, _, rfl, rfl, _, rfl, two_, fun t ht => err _ w2.symm t _ (S1.trans (same_new ht _)) ?_⟩
        rw [upd_same]
        rfl
    refine iteN (decide_eq_false h92) ?_
    refine ⟨_, rfl, _, _, rfl, rfl, _, rfl, iteN ?_ ?_⟩
    · show decide ([c] < (Str.ofString " ").cps.toList) = false
      rw [show (Str.ofString " ").cps.toList = [32] by decide +kernel]
      refine decide_eq_false ?_
      simp [List.cons_lt_cons_iff]
      omega
    refine ⟨_, rfl, _, _, rfl, rfl, _, rfl, iteN ?_ ?_⟩
    · show decide ((Str.ofString "~").cps.toList < [c]) = false
      rw [show (Str.ofString "~").cps.toList = [126] by decide +kernel]
      refine decide_eq_false ?_
      simp [List.cons_lt_cons_iff]
      omega
    refine ⟨_, rfl, _, rfl, rfl, rfl, _, rfl, iteN ?_ ?_⟩
    · show decide (V.int ((c : Nat) : Int) = V.int 37) = false
      exact decide_eq_false (by intro z; injection z with z; omega)
    rw [textAt_step c _ p acc h34 h92 (by omega)] at w2
    refine ⟨_, rfl, _, rfl, _, _, rfl, rfl, ?_, _, rfl, _, _, rfl, rfl, ?_⟩
    · show (strOf acc).length + 1 ≤ sizeLine
      rw [len_strOf]
      exact small16 (by omega)
    · have := aug H1 (p + 1) (acc ++ [c]) (some (.str ⟨#[c]⟩)) (by omega) (by omega) (by rw [List.length_append]; show acc.length + 1 ≤ _; omega) S1 w2
      rw [show (((p + 1 : Nat)) : Int) = ((p : Nat) : Int) + 1 by omega, ← strOf_app] at this
      exact this
  · rintro σ H1 ⟨p, acc, x3, x4, rfl, S1, w2, w3, w4, w5⟩
    omega

/-- the law's answer for a value: the law may tell 0 and the place of a figure where the program tells that place as wrong -/
def okLd (z : Str) (H : Hp) (Q : VK) (res : PR) : Prop := (∀ d q, res = .ok (d, q) → ∀ (t : Addr) (v : V) (H' : Hp), Same H H' → Rp H' d v → H' t = some (.lst [v, .int ((q : Nat) : Int)]) → Q (.ref t) H') ∧
  (∀ q, res = .error q → (∀ (t : Addr) (H' : Hp), Same H H' → H' t = some (.lst [.int ((q : Nat) : Int), .int (-1)]) → Q (.ref t) H') ∧
    ∀ (t : Addr) (H' : Hp) (c : Nat), (tl z)[q]? = some c → dig c = true → Same H H' → H' t = some (.lst [.int 0, .int ((q : Nat) : Int)]) → Q (.ref t) H')
theorem okLd.of {z : Str} {H H1 : Hp} {Q : VK} {res : PR} (h : okLd z H Q res) (s : Same H H1) : okLd z H1 Q res :=
  ⟨fun d q e t v H' s' => h.1 d q e t v H' (s.trans s'), fun q e => ⟨fun t H' s' => (h.2 q e).1 t H' (s.trans s'), fun t H' c g dg s' => (h.2 q e).2 t H' c g dg (s.trans s')⟩⟩
theorem okLd.l {z : Str} {H : Hp} {Q : VK} {res : PR} (h : okLd z H Q res) : okL H Q res := ⟨h.1, fun q e => (h.2 q e).1⟩
theorem int_cut {z : Str} {p b e c : Nat} {r post : List Nat} (hp : p ≤ z.length) (hb : ((tl z)[p]? = some 45 ∧ b = p + 1) ∨ ((tl z)[p]? ≠ some 45 ∧ b = p)) (eR : (tl z).drop b = (c :: r) ++ post) (hd : ∀ x ∈ c :: r, dig x = true) (he : e = b + 1 + r.length) (rl : r.length < 2000) :
    intText? (cutS z (some ((p : Nat) : Int)) (some ((e : Nat) : Int))) = some (if b > p then - (NumText.digitsVal (c :: r) : Int) else (NumText.digitsVal (c :: r) : Int)) ∧ (cutS z (some ((p : Nat) : Int)) (some ((e : Nat) : Int))).length ≤ 4000 := by
  have ecut : tl (cutS z (some ((p : Nat) : Int)) (some ((e : Nat) : Int))) = (if b > p then [45] else []) ++ c :: r := by
    rw [tl_cut hp]
    rcases hb with ⟨hb1, rfl⟩ | ⟨hb1, rfl⟩
    · rw [if_pos (by omega)]
      have : (tl z).drop p = 45 :: ((c :: r) ++ post) := by rw [drop_at hb1, eR]
      rw [this, show e - p = (45 :: (c :: r)).length by simp only [List.length_cons]; omega]
      exact List.take_left (l₁ := 45 :: c :: r) (l₂ := post)
    · rw [if_neg (by omega), eR, show e - b = (c :: r).length by simp only [List.length_cons]; omega, List.take_left]
      rfl
  have hlen : (cutS z (some ((p : Nat) : Int)) (some ((e : Nat) : Int))).length ≤ 4000 := by
    rw [len_tl, ecut, List.length_append, List.length_cons]
    split <;> simp <;> omega
  refine ⟨?_, hlen⟩
  have ad : NumText.AllDigits (c :: r) := fun x hx => (dig_iff x).mp (hd x hx)
  by_cases hbp : b > p
  · rw [if_pos hbp] at ecut ⊢
    rw [PySem.intText_neg (cs := c :: r) ecut ad (by simp) (by omega)]
  · rw [if_neg hbp] at ecut ⊢
    have ecut' : (cutS z (some ((p : Nat) : Int)) (some ((e : Nat) : Int))).cps.toList = c :: r := ecut
    rw [PySem.intText_digits (by rw [ecut']; exact ad) (by rw [ecut']; simp) (by omega), ecut']
theorem in_fig (c : Nat) : (!(Builtin.Str.occurrences (Str.ofString "0123456789") ⟨#[c]⟩ 0 (Str.ofString "0123456789").length 1).isEmpty) = dig c := by
  rw [in_s rfl c, figs]
def spLI : Sp := fun vs H Q _ => ∃ (z : Str) (p : Nat), vs = [.str z, .int ((p : Nat) : Int)] ∧ (p < z.length ∧ z.length ≤ 1000000) ∧ okLd z H Q (intAt (tl z) p)
theorem ok_lint (F : Fun K "_law_digits_at" "_law_digits_at" s__law_digits_at f fd) (T : Txt0 mg tF tM tB) (B : Bp P K mg C fI cc cda) : FnOk P w K mg base CX0 1 f fd ["text", "at"] spLI := by
  refine F.ok sc__law_digits_at (fun vs H Q E h => ?_) (fun cdv A outer s H vs Q E hr h => ?_)
  · obtain ⟨z, p, rfl, _⟩ := h
    rfl
  obtain ⟨z, p, rfl, ⟨hp, hz⟩, fin, err⟩ := h
  refine ⟨_, C8.pss_cut (ps_set (i := 2) sc__law_digits_at.nd rfl (Or.inl rfl) (pe_op op_add (pv 1) (pe_callTy call_int1 rfl (by exact T.n_int) (by decide +kernel) (pa_cons (pe_cmpR op_eq (pe_ix ix_str (pv 0) (pv 1) (fun _ _ => rfl)) (pe_str) (nomark _)) pa_nil))))
    (pss_cons (ps_if (pt_cmpR op_ge (pv 2) (pe_callB call_len_str rfl (by exact T.n_len) PySem.boot_len (pa_cons (pv 0) pa_nil)) (nomark _)) (pss_one (ps_ret (pe_lst (pa_cons (pe_callB call_len_str rfl (by exact T.n_len) PySem.boot_len (pa_cons (pv 0) pa_nil)) (pa_cons (pe_un un_neg (pe_int)) pa_nil))))) (pss_nil))
    (pss_cons (ps_if (pt_cmpR op_notin_str (pe_ix ix_str (pv 0) (pv 2) (fun _ _ => rfl)) (pe_str) rfl) (pss_one (ps_ret (pe_lst (pa_cons (pv 2) (pa_cons (pe_un un_neg (pe_int)) pa_nil))))) (pss_nil))
    (pss_cons (ps_if (pt_cmpR op_eq (pe_ix ix_str (pv 0) (pv 2) (fun _ _ => rfl)) (pe_str) (nomark _)) (pss_one (ps_ret (pe_ifExp (pt_cmpR op_gt (pv 2) (pv 1) (nomark _)) (pe_lst (pa_cons (pv 2) (pa_cons (pe_un un_neg (pe_int)) pa_nil))) (pe_lst (pa_cons (pe_int) (pa_cons (pe_op op_add (pv 2) (pe_int)) pa_nil)))))) (pss_nil))
    (pss_cons (ps_set (i := 3) sc__law_digits_at.nd rfl (Or.inl rfl) (pv 2))
    (pss_cons (ps_for PassesOwn.never rfl (pi_range1 rfl (by exact T.n_range) (pa_cons (pe_callB call_len_str rfl (by exact T.n_len) PySem.boot_len (pa_cons (pv 0) pa_nil)) pa_nil)) (pg_name (i := 4) sc__law_digits_at.nd rfl (Or.inl rfl)) (pss_one (ps_if (PW.pt (pw_and (pt_cmpR op_lt (pv 3) (pe_callB call_len_str rfl (by exact T.n_len) PySem.boot_len (pa_cons (pv 0) pa_nil)) (nomark _)) (pw_and1 (pt_cmpR op_in_str (pe_ix ix_str (pv 0) (pv 3) (fun _ _ => rfl)) (pe_str) rfl)))) (pss_cons (ps_if (pt_cmpR op_eq (pe_op op_sub (pv 3) (pv 2)) (pe_int) (nomark _)) (pss_one (ps_ret (pe_lst (pa_cons (pv 3) (pa_cons (pe_un un_neg (pe_int)) pa_nil))))) (pss_nil))
    (pss_one (ps_set (i := 3) sc__law_digits_at.nd rfl (Or.inl rfl) (pe_op op_add (pv 3) (pe_int))))) (pss_nil))))
    (pss_one (ps_ret (pe_lst (pa_cons (pe_callTy (call_int_long B.nodig) rfl (by exact T.n_int) (by decide +kernel) (pa_cons (pe_slice sl_str (pv 0) (po_some (pv 1)) (po_some (pv 3))) pa_nil)) (pa_cons (pv 3) pa_nil)))))))))), ?_⟩
  obtain ⟨b, ds, post, hb, eR, hs, hd, hI⟩ := intAt_eq (tl z) p
  rw [hI] at fin err
  have hL := len_tl z
  have hbp : p ≤ b := by rcases hb with ⟨_, rfl⟩ | ⟨_, rfl⟩ <;> omega
  have hbp1 : b ≤ p + 1 := by rcases hb with ⟨_, rfl⟩ | ⟨_, rfl⟩ <;> omega
  obtain ⟨c0, g0⟩ := at_some hp
  have dk : ∀ c e k, tl e = [k] → decide (V.str ⟨#[c]⟩ = V.str e) = decide (c = k) := fun c e k he => by
    rw [dec_s, he]
    show decide ([c] = [k]) = _
    simp
  -- start
  refine ⟨fun σ' H' => H' = H ∧ σ' = [some (.str z), some (.int ((p : Nat) : Int)), some (.int ((b : Nat) : Int)), none, none], ?_, ?_⟩
  · refine ⟨_, rfl, _, rfl, _, rfl, z, _, c0, rfl, rfl, small16 (by omega), atI_nat g0, rfl, .inr ⟨_, rfl, _, _, rfl, rfl, rfl, ?_⟩⟩
    rw [dk c0 _ 45 (by decide +kernel)]
    rcases hb with ⟨hb1, rfl⟩ | ⟨hb1, rfl⟩
    · rw [hb1] at g0
      injection g0 with g0
      rw [← g0]
      rfl
    · rw [decide_eq_false (by intro z; subst z; exact hb1 g0)]
      show [some (V.str z), some (V.int ((b : Nat) : Int)), some (V.int (((b : Nat) : Int) + 0)), none, none] = _
      rw [Int.add_zero]
  rintro σ' H' ⟨rfl, rfl⟩
  refine ⟨_, rfl, _, rfl, z, rfl, small16 (by omega), _, _, rfl, rfl, _, rfl, ?_⟩
  by_cases hbl : b = z.length
  · have hd0 : ds = [] ∧ post = [] := by
      rw [List.drop_eq_nil_of_le (by omega)] at eR
      exact List.append_eq_nil_iff.mp eR.symm
    obtain ⟨rfl, rfl⟩ := hd0
    refine iteY (decide_eq_true (by omega)) ⟨_, rfl, z, rfl, small16 (by omega), _, rfl, two_, fun t ht => (err b rfl).1 t _ (same_new ht _) ?_⟩
    rw [upd_same, hbl]
  refine iteN (decide_eq_false (by omega)) ?_
  obtain ⟨cb, gb⟩ := at_some (z := z) (p := b) (by omega)
  refine ⟨_, rfl, _, rfl, z, _, cb, rfl, rfl, small16 (by omega), atI_nat gb, _, _, rfl, rfl, _, rfl, ?_⟩
  rw [in_fig]
  cases ds with
  | nil =>
    rw [drop_at gb] at eR
    have := hs cb _ eR.symm
    refine iteY (by rw [this]; rfl) ⟨_, rfl, _, rfl, two_, fun t ht => (err b rfl).1 t _ (same_new ht _) ?_⟩
    rw [upd_same]
  | cons c r =>
  have hcb : cb = c := by
    have e := eR
    rw [drop_at gb] at e
    injection e
  subst hcb
  have hdc := hd cb List.mem_cons_self
  have lenR : b + 1 + r.length ≤ z.length := by
    have := congrArg List.length eR
    rw [List.length_drop, List.length_append, List.length_cons] at this
    omega
  refine iteN (by rw [hdc]; rfl) ?_
  refine ⟨_, rfl, _, rfl, z, _, cb, rfl, rfl, small16 (by omega), atI_nat gb, rfl, _, rfl, ?_⟩
  rw [dk cb _ 48 (by decide +kernel)]
  by_cases h0 : cb = 48
  · refine iteY (decide_eq_true h0) ⟨_, rfl, _, rfl, _, _, rfl, rfl, _, rfl, ?_⟩
    by_cases hb2 : b > p
    · refine iteY (decide_eq_true (by omega)) ⟨_, rfl, _, rfl, two_, fun t ht => (err b (by simp only; rw [if_pos h0, if_pos hb2])).1 t _ (same_new ht _) ?_⟩
      rw [upd_same]
    · refine iteN (decide_eq_false (by omega)) ⟨_, rfl, _, _, rfl, rfl, two_, fun t ht => ?_⟩
      cases r with
      | nil =>
        refine fin (.int 0) (b + 1) (by simp only; rw [if_pos h0, if_neg hb2, if_pos trivial]) t _ _ (same_new ht _) (by rw [Rp]) ?_
        rw [upd_same]
        rfl
      | cons k r =>
        have gk : (tl z)[b + 1]? = some k := by
          have := (drop_cons eR).2.1
          exact (drop_cons (r := r ++ post) this).1
        refine (err (b + 1) (by simp only; rw [if_pos h0, if_neg hb2, if_neg (by simp)])).2 t _ k gk (hd k (by simp)) (same_new ht _) ?_
        rw [upd_same]
        rfl
  refine iteN (decide_eq_false h0) ?_
  refine ⟨_, rfl, _, rfl, z, rfl, small16 (by omega), _, rfl, by omega, by omega, for_range (lo := 0) (n := ((z.length : Nat) : Int).toNat)
    (fun i σ H2 => ∃ (e : Nat) (x4 : Option V), σ = [some (.str z), some (.int ((p : Nat) : Int)), some (.int ((b : Nat) : Int)), some (.int ((e : Nat) : Int)), x4] ∧ H2 = H' ∧ b ≤ e ∧ e ≤ b + 1 + r.length ∧ e ≤ b + 2000 ∧ (e = b + 1 + r.length ∨ e = b + i)) ?_ ?_ ?_⟩
  · exact ⟨b, none, rfl, rfl, Nat.le_refl _, by omega, by omega, .inr rfl⟩
  · rintro i σ H2 hi ⟨e, x4, rfl, rfl, e1, e2, e3, e4⟩
    have stay : e = b + 1 + r.length → ∃ (e' : Nat) (x4' : Option V), [some (V.str z), some (V.int ((p : Nat) : Int)), some (V.int ((b : Nat) : Int)), some (V.int ((e : Nat) : Int)), some (V.int (0 + (i : Int)))] = [some (.str z), some (.int ((p : Nat) : Int)), some (.int ((b : Nat) : Int)), some (.int ((e' : Nat) : Int)), x4'] ∧ H2 = H2 ∧ b ≤ e' ∧ e' ≤ b + 1 + r.length ∧ e' ≤ b + 2000 ∧ (e' = b + 1 + r.length ∨ e' = b + (i + 1)) :=
      fun he => ⟨e, _, rfl, rfl, e1, e2, e3, .inl he⟩
    refine ⟨_, rfl, _, rfl, z, rfl, small16 (by omega), _, _, rfl, rfl, _, rfl, ?_⟩
    by_cases hel : e = z.length
    · exact iteN (decide_eq_false (by omega)) (iteF (stay (by omega)))
    refine iteY (decide_eq_true (by omega)) ?_
    obtain ⟨k, gk⟩ := at_some (z := z) (p := e) (by omega)
    refine ⟨_, rfl, _, rfl, z, _, k, rfl, rfl, small16 (by omega), atI_nat gk, _, _, rfl, rfl, _, rfl, ?_⟩
    rw [in_fig]
    by_cases he : e = b + 1 + r.length
    · have L : (tl z).drop (b + 1 + r.length) = post := by
        have := drop_app (a := cb :: r) eR
        rw [List.length_cons, show b + (r.length + 1) = b + 1 + r.length by omega] at this
        exact this
      rw [← he, drop_at gk] at L
      rw [hs k _ L.symm]
      exact iteF (stay he)
    · obtain ⟨k', gn, hkm⟩ := get_in eR (i := e) (by omega) (by rw [List.length_cons]; omega)
      rw [gk] at gn
      injection gn with gn
      subst gn
      rw [hd k hkm]
      refine iteT ⟨_, rfl, _, rfl, _, _, rfl, rfl, rfl, _, rfl, ?_⟩
      by_cases h2 : e = b + 2000
      · refine iteY (decide_eq_true (show V.int (((e : Nat) : Int) - ((b : Nat) : Int)) = V.int 2000 by rw [show ((e : Nat) : Int) - ((b : Nat) : Int) = 2000 by omega])) ⟨_, rfl, _, rfl, two_, fun t ht => (err (b + 2000) (by simp only; rw [if_neg h0, if_pos (by omega)])).1 t _ (same_new ht _) ?_⟩
        rw [upd_same, h2]
      refine iteN (decide_eq_false (by intro z; injection z with z; omega)) ⟨_, rfl, _, _, rfl, rfl, e + 1, some (.int (0 + (i : Int))), ?_, rfl, by omega, by omega, by omega, ?_⟩
      · rw [show (((e + 1 : Nat)) : Int) = ((e : Nat) : Int) + 1 by omega]
        rfl
      · rcases e4 with e4 | e4
        · exact absurd e4 he
        · exact .inr (by omega)
  · rintro σ H2 ⟨e, x4, rfl, rfl, e1, e2, e3, e4⟩
    have he : e = b + 1 + r.length := by
      rcases e4 with e4 | e4
      · exact e4
      · omega
    obtain ⟨i1, i2⟩ := int_cut (by omega) hb eR hd he (by omega)
    refine ⟨_, rfl, _, rfl, _, rfl, _, rfl, _, rfl, z, rfl, small16 (by omega), _, _, rfl, i1, i2, _, rfl, two_, fun t ht => ?_⟩
    refine fin (.int _) e (by simp only; rw [if_neg h0, if_neg (by omega), he, show b + 1 + r.length = b + (r.length + 1) by omega]) t _ _ (same_new ht _) (by rw [Rp]) ?_
    rw [upd_same]

theorem okLd.mk2 {z : Str} {H : Hp} {Q : VK} {res : PR} (h1 : ∀ d q, (res = .ok (d, q) ∨ (res = .error q ∧ d = .int 0 ∧ ∃ c, (tl z)[q]? = some c ∧ dig c = true)) → ∀ (t : Addr) (v : V) (H' : Hp), Same H H' → Rp H' d v → H' t = some (.lst [v, .int ((q : Nat) : Int)]) → Q (.ref t) H')
    (h2 : ∀ q, res = .error q → ∀ (t : Addr) (H' : Hp), Same H H' → H' t = some (.lst [.int ((q : Nat) : Int), .int (-1)]) → Q (.ref t) H') : okLd z H Q res :=
  ⟨fun d q e => h1 d q (.inl e), fun q e => ⟨h2 q e, fun t H' c g dg s ht => h1 (.int 0) q (.inr ⟨e, rfl, c, g, dg⟩) t _ H' s (by rw [Rp]) ht⟩⟩
theorem intAt_bad {L : List Nat} {p c : Nat} (g : L[p]? = some c) (h1 : c ≠ 45) (h2 : dig c = false) : intAt L p = .error p := by
  obtain ⟨b, ds, post, hb, e, _, hd, q⟩ := intAt_eq L p
  have hb' : b = p := by
    rcases hb with ⟨h, _⟩ | ⟨_, h⟩
    · rw [g] at h; injection h with h; exact absurd h h1
    · exact h
  subst hb'
  cases ds with
  | nil => exact q
  | cons x r =>
    rw [drop_at g] at e
    injection e with e _
    have := hd x List.mem_cons_self
    rw [← e, h2] at this
    cases this
def spLV (l : Nat) : Sp := fun vs H Q _ => ∃ (z : Str) (p de : Nat), vs = [.str z, .int ((p : Nat) : Int), .int ((de : Nat) : Int)] ∧ (p ≤ z.length ∧ z.length ≤ 1000000 ∧ de + l = 40 ∧ Fair z) ∧ okLd z H Q (valueAt (tl z) l p)
def kvsT : List (Key × V) := [(.inr (Str.ofString "T"), .bl true), (.inr (Str.ofString "F"), .bl false), (.inr (Str.ofString "N"), .non)]
theorem ok_lval {l n : Nat} (F : Fun K "_law_value_at" "_law_value_at" s__law_value_at f fd) (T : Txt0 mg tF tM tB) (c__law_text_at : Cal P w K mg base CX0 1 "_law_text_at" ["text", "at"] spLT) (c__law_digits_at : Cal P w K mg base CX0 1 "_law_digits_at" ["text", "at"] spLI)
    (c__law_value_at : Cal P w K mg base CX0 (n + 1) "_law_value_at" ["text", "at", "deep"] (fun vs H Q E => ∃ m, l = m + 1 ∧ spLV m vs H Q E)) : FnOk P w K mg base CX0 (n + 2) f fd ["text", "at", "deep"] (spLV l) := by
  refine F.ok sc__law_value_at (fun vs H Q E h => ?_) (fun cdv A outer s H vs Q E hr h => ?_)
  · obtain ⟨z, p, de, rfl, _⟩ := h
    rfl
  obtain ⟨z, p, de, rfl, ⟨hp, hz, hw, hfair⟩, hv⟩ := h
  refine ⟨_, pss_cons (ps_if (pt_cmpR op_ge (pv 1) (pe_callB call_len_str rfl (by exact T.n_len) PySem.boot_len (pa_cons (pv 0) pa_nil)) (nomark _)) (pss_one (ps_ret (pe_lst (pa_cons (pe_callB call_len_str rfl (by exact T.n_len) PySem.boot_len (pa_cons (pv 0) pa_nil)) (pa_cons (pe_un un_neg (pe_int)) pa_nil))))) (pss_nil))
    (pss_cons (ps_set (i := 3) sc__law_value_at.nd rfl (Or.inl rfl) (pe_ix ix_str (pv 0) (pv 1) (fun _ _ => rfl)))
    (pss_cons (ps_if (pt_cmpR op_in_str (pv 3) (pe_str) rfl) (pss_one (ps_ret (pe_lst (pa_cons (pe_dget (hu_of hr) (pe_disp (pps_cons (pe_str) (pe_bl) (pps_cons (pe_str) (pe_bl) (pps_cons (pe_str) (pe_non) (pps_nil)))) (by rfl) (by rfl) (fun z => by cases z) (by decide)) (pv 3) (fun _ _ => rfl)) (pa_cons (pe_op op_add (pv 1) (pe_int)) pa_nil))))) (pss_nil))
    (pss_cons (ps_if (pt_cmpR op_eq (pv 3) (pe_str) (nomark _)) (pss_one (ps_ret (pe_cal c__law_text_at (hr.mono (by omega)) rfl pass0 (pa_cons (pv 0) (pa_cons (pe_op op_add (pv 1) (pe_int)) pa_nil))))) (pss_nil))
    (pss_cons (ps_if (pt_cmpR op_in_str (pv 3) (pe_str) rfl) (pss_one (ps_ret (pe_cal c__law_digits_at (hr.mono (by omega)) rfl pass0 (pa_cons (pv 0) (pa_cons (pv 1) pa_nil))))) (pss_nil))
    (pss_cons (ps_if (PW.pt (pw_or (pt_cmpR op_ne (pv 3) (pe_str) (nomark _)) (pw_or1 (pt_cmpR op_eq (pv 2) (pe_int) (nomark _))))) (pss_one (ps_ret (pe_lst (pa_cons (pv 1) (pa_cons (pe_un un_neg (pe_int)) pa_nil))))) (pss_nil))
    (pss_cons (ps_set (i := 4) sc__law_value_at.nd rfl (Or.inl rfl) (pe_tup (pa_nil)))
    (pss_cons (ps_set (i := 1) sc__law_value_at.nd rfl (Or.inl rfl) (pe_op op_add (pv 1) (pe_int)))
    (C8.pss_cut (ps_if (PW.pt (pw_and (pt_cmpR op_lt (pv 1) (pe_callB call_len_str rfl (by exact T.n_len) PySem.boot_len (pa_cons (pv 0) pa_nil)) (nomark _)) (pw_and1 (pt_cmpR op_eq (pe_ix ix_str (pv 0) (pv 1) (fun _ _ => rfl)) (pe_str) (nomark _))))) (pss_one (ps_ret (pe_lst (pa_cons (pe_tup (pa_nil)) (pa_cons (pe_op op_add (pv 1) (pe_int)) pa_nil))))) (pss_nil))
    (pss_cons (ps_for PassesOwn.never rfl (pi_range1 rfl (by exact T.n_range) (pa_cons (pe_op op_add (pe_callB call_len_str rfl (by exact T.n_len) PySem.boot_len (pa_cons (pv 0) pa_nil)) (pe_int)) pa_nil)) (pg_name (i := 5) sc__law_value_at.nd rfl (Or.inl rfl)) (pss_cons (ps_asg (pe_cal c__law_value_at (hr.mono (by omega)) rfl pass0 (pa_cons (pv 0) (pa_cons (pv 1) (pa_cons (pe_op op_add (pv 2) (pe_int)) pa_nil)))) (pg_lst rfl (pgs_cons (pg_name (i := 6) sc__law_value_at.nd rfl (Or.inl rfl)) (pgs_cons (pg_name (i := 7) sc__law_value_at.nd rfl (Or.inl rfl)) pgs_nil))))
    (pss_cons (ps_if (pt_cmpR op_eq (pv 7) (pe_un un_neg (pe_int)) (nomark _)) (pss_one (ps_ret (pe_lst (pa_cons (pv 6) (pa_cons (pe_un un_neg (pe_int)) pa_nil))))) (pss_nil))
    (C8.pss_cut (ps_set (i := 4) sc__law_value_at.nd rfl (Or.inl rfl) (pe_op op_catA (pv 4) (pe_tup (pa_cons (pv 6) pa_nil))))
    (pss_cons (ps_if (pt_cmpR op_ge (pv 7) (pe_callB call_len_str rfl (by exact T.n_len) PySem.boot_len (pa_cons (pv 0) pa_nil)) (nomark _)) (pss_one (ps_ret (pe_lst (pa_cons (pe_callB call_len_str rfl (by exact T.n_len) PySem.boot_len (pa_cons (pv 0) pa_nil)) (pa_cons (pe_un un_neg (pe_int)) pa_nil))))) (pss_nil))
    (pss_cons (ps_if (pt_cmpR op_eq (pe_ix ix_str (pv 0) (pv 7) (fun _ _ => rfl)) (pe_str) (nomark _)) (pss_one (ps_ret (pe_lst (pa_cons (pv 4) (pa_cons (pe_op op_add (pv 7) (pe_int)) pa_nil))))) (pss_nil))
    (pss_cons (ps_if (pt_cmpR op_ne (pe_ix ix_str (pv 0) (pv 7) (fun _ _ => rfl)) (pe_str) (nomark _)) (pss_one (ps_ret (pe_lst (pa_cons (pv 7) (pa_cons (pe_un un_neg (pe_int)) pa_nil))))) (pss_nil))
    (pss_one (ps_set (i := 1) sc__law_value_at.nd rfl (Or.inl rfl) (pe_op op_add (pv 7) (pe_int)))))))))))
    (pss_one (ps_ret (pe_lst (pa_cons (pe_callB call_len_str rfl (by exact T.n_len) PySem.boot_len (pa_cons (pv 0) pa_nil)) (pa_cons (pe_un un_neg (pe_int)) pa_nil)))))))))))))), ?_⟩
  have hL := len_tl z
  rw [valueAt_eq] at hv
  refine ⟨_, rfl, _, rfl, z, rfl, small16 (by omega), _, _, rfl, rfl, _, rfl, ?_⟩
  by_cases hpl : p = z.length
  · have gn : (tl z)[p]? = none := List.getElem?_eq_none (by omega)
    rw [gn] at hv
    simp only [reduceCtorEq, if_false] at hv
    rw [intAt_none gn] at hv
    refine iteY (decide_eq_true (by omega)) ⟨_, rfl, z, rfl, small16 (by omega), _, rfl, two_, fun t ht => (hv.2 p rfl).1 t _ (same_new ht _) ?_⟩
    rw [upd_same, hpl]
  refine iteN (decide_eq_false (by omega)) ?_
  obtain ⟨c, g⟩ := at_some (z := z) (p := p) (by omega)
  have dk : ∀ c e k, tl e = [k] → decide (V.str ⟨#[c]⟩ = V.str e) = decide (c = k) := fun c e k he => by
    rw [dec_s, he]
    show decide ([c] = [k]) = _
    simp
  rw [g] at hv
  simp only [Option.some.injEq] at hv
  refine ⟨_, rfl, _, rfl, z, _, c, rfl, rfl, small16 (by omega), atI_nat g, ?_⟩
  refine ⟨_, rfl, _, _, rfl, rfl, _, rfl, ?_⟩
  rw [in_s (l := [84, 70, 78]) (by decide +kernel)]
  by_cases h1 : c ∈ [84, 70, 78]
  · refine iteY (decide_eq_true h1) ?_
    have hc : c = 84 ∨ c = 70 ∨ c = 78 := by simpa using h1
    have last : ∀ (v : V) (d : D), valV (mergeK [] kvsT) (.inr (⟨#[c]⟩ : Str)) = some v → (∀ H, Rp H d v) → okLd z H Q (.ok (d, p + 1)) → ∀ (u : Addr) (hu : H u = none), ∃ x, some (some (V.str ⟨#[c]⟩)) = some (some x) ∧ ∃ (a : Addr) (v : V), V.ref u = .ref a ∧ DGet (upd (upd H u (.dK [])) u (.dK (mergeK [] kvsT))) a x (some v) ∧
        (∃ x, some (some (V.int ((p : Nat) : Int))) = some (some x) ∧ ∃ i j, x = V.int i ∧ V.int 1 = .int j ∧ (2 : Nat) ≤ sizeLine ∧ ∀ t, upd (upd H u (.dK [])) u (.dK (mergeK [] kvsT)) t = none → Q (.ref t) (upd (upd (upd H u (.dK [])) u (.dK (mergeK [] kvsT))) t (.lst [v, V.int (i + j)]))) := fun v d e r q u hu => by
      refine ⟨_, rfl, u, v, rfl, by rw [← e]; exact DGet.k (k := .inr ⟨#[c]⟩) upd_same, _, rfl, _, _, rfl, rfl, two_, fun t ht => q.1 d (p + 1) rfl t v _ ((same_new2 hu _ _).trans (same_new ht _)) (r _) ?_⟩
      rw [upd_same]
      rfl
    refine fun u hu => ⟨upd_same, kvsT, rfl, by decide, ?_⟩
    rcases hc with rfl | rfl | rfl
    · exact last (.bl true) (.bl true) (by decide +kernel) (fun H => by rw [Rp]) hv u hu
    · exact last (.bl false) (.bl false) (by decide +kernel) (fun H => by rw [Rp]) hv u hu
    · exact last .non .non (by decide +kernel) (fun H => by rw [Rp]) hv u hu
  have hc3 : c ≠ 84 ∧ c ≠ 70 ∧ c ≠ 78 := by simpa using h1
  rw [if_neg hc3.2.2, if_neg hc3.1, if_neg hc3.2.1] at hv
  refine iteN (decide_eq_false h1) ?_
  refine ⟨_, rfl, rfl, _, rfl, ?_⟩
  rw [dk c _ 34 (by decide +kernel)]
  by_cases h34 : c = 34
  · rw [if_pos h34] at hv
    exact iteY (decide_eq_true h34) ⟨_, rfl, _, rfl, _, _, rfl, rfl, z, p + 1, rfl, ⟨by omega, hz, hfair⟩, hv.l⟩
  rw [if_neg h34] at hv
  refine iteN (decide_eq_false h34) ?_
  refine ⟨_, rfl, _, _, rfl, rfl, _, rfl, ?_⟩
  rw [in_s (l := 45 :: tl (Str.ofString "0123456789")) (by decide +kernel)]
  by_cases h5 : c ∈ 45 :: tl (Str.ofString "0123456789")
  · have hc40 : c ≠ 40 := fun z => by subst z; revert h5; decide +kernel
    rw [if_neg hc40] at hv
    exact iteY (decide_eq_true h5) ⟨_, rfl, _, rfl, z, p, rfl, ⟨by omega, hz⟩, hv⟩
  refine iteN (decide_eq_false h5) ?_
  have hno : c ≠ 45 ∧ dig c = false := by
    rw [List.mem_cons, not_or] at h5
    refine ⟨h5.1, ?_⟩
    rw [← figs, decide_eq_false h5.2]
  refine ⟨_, rfl, rfl, _, rfl, ?_⟩
  have dn : decide (V.str ⟨#[c]⟩ = V.str (Str.ofString "(")) = decide (c = 40) := dk c _ 40 (by decide +kernel)
  rw [dn]
  by_cases h40 : c = 40
  case neg =>
    rw [if_neg h40, intAt_bad g hno.1 hno.2] at hv
    refine iteY (by rw [decide_eq_false h40]; rfl) (iteT ⟨_, rfl, _, rfl, two_, fun t ht => (hv.2 p rfl).1 t _ (same_new ht _) ?_⟩)
    rw [upd_same]
  rw [if_pos h40] at hv
  refine iteN (by rw [decide_eq_true h40]; rfl) ⟨_, rfl, rfl, _, rfl, ?_⟩
  cases l with
  | zero =>
    simp only at hv
    refine iteY (decide_eq_true (by rw [show ((de : Nat) : Int) = 40 by omega])) ⟨_, rfl, _, rfl, two_, fun t ht => (hv.2 p rfl).1 t _ (same_new ht _) ?_⟩
    rw [upd_same]
  | succ l =>
  simp only at hv
  refine iteN (decide_eq_false (by intro z; injection z with z; omega)) ?_
  refine ⟨(by show 0 ≤ sizeLine; decide), fun u hu => ?_⟩
  refine ⟨_, rfl, _, _, rfl, rfl, ?_⟩
  have S1 := same_new hu (.tup [])
  unfold tupAt at hv
  have hp1 : p + 1 ≤ z.length := by omega
  refine ⟨fun σ' H' => (σ' = [some (.str z), some (.int (((p + 1 : Nat)) : Int)), some (.int ((de : Nat) : Int)), some (.str ⟨#[c]⟩), some (.ref u), none, none, none] ∧ H' = upd H u (.tup [])) ∧ ¬ (tl z)[p + 1]? = some 41, ?_, ?_⟩
  · have e1 : ((p : Nat) : Int) + 1 = (((p + 1 : Nat)) : Int) := by omega
    refine ⟨_, rfl, _, rfl, z, rfl, small16 (by omega), _, _, rfl, rfl, _, rfl, ?_⟩
    by_cases hlt : p + 1 < z.length
    · obtain ⟨c1, g1'⟩ := at_some hlt
      have g1 : atI z.cps.toList (((p : Nat) : Int) + 1) = some c1 := by
        have := atI_nat g1'
        rwa [← e1] at this
      refine iteY (decide_eq_true (by omega)) ⟨_, rfl, _, rfl, z, _, c1, rfl, rfl, small16 (by omega), g1, rfl, _, rfl, ?_⟩
      rw [dk c1 _ 41 (by decide +kernel)]
      by_cases hc1 : c1 = 41
      · subst hc1
        rw [if_pos g1'] at hv
        refine iteY (decide_eq_true rfl) ⟨(by show 0 ≤ sizeLine; decide), fun u2 hu2 => ⟨_, rfl, _, _, rfl, rfl, two_, fun t ht => hv.1 (.tup []) (p + 1 + 1) rfl t (.ref u2) _ (S1.trans ((same_new hu2 _).trans (same_new ht _))) ?_ ?_⟩⟩
        · rw [Rp]
          exact ⟨u2, [], rfl, same_new ht _ _ _ upd_same, Rps.nil⟩
        · rw [upd_same, show (((p + 1 + 1 : Nat)) : Int) = ((p : Nat) : Int) + 1 + 1 by omega]
      · refine iteN (decide_eq_false hc1) ⟨⟨?_, rfl⟩, fun e => hc1 (by rw [g1'] at e; injection e)⟩
        rw [← e1]
        rfl
    · refine iteN (decide_eq_false (by omega)) (iteF ⟨⟨?_, rfl⟩, fun e => hlt (by rw [hL]; exact (List.getElem?_eq_some_iff.mp e).1)⟩)
      rw [← e1]
      rfl
  rintro σ' H' ⟨⟨rfl, rfl⟩, h41⟩
  rw [if_neg h41] at hv
  generalize hres : members (tl z) (valueAt (tl z) l) ((tl z).length + 1) (p + 1) [] = res at hv
  refine ⟨_, rfl, z, rfl, small16 (by omega), _, _, rfl, rfl, _, rfl, by omega, by omega, for_range (lo := 0) (n := (((z.length : Nat) : Int) + 1).toNat)
    (fun i σ H' => ∃ (p' : Nat) (acc : List D) (vs : List V) (a : Addr) (m : Nat) (x5 x6 x7 : Option V), σ = [some (.str z), some (.int ((p' : Nat) : Int)), some (.int ((de : Nat) : Int)), some (.str ⟨#[c]⟩), some (.ref a), x5, x6, x7] ∧ Same H H' ∧ H' a = some (.tup vs) ∧ Rps H' acc vs ∧
      members (tl z) (valueAt (tl z) l) m p' acc = res ∧ p' ≤ z.length ∧ (acc.length + m ≤ z.length + 1 ∧ z.length + 1 ≤ p' + m) ∧ p + 1 + i ≤ p') ?_ ?_ ?_⟩
  · exact ⟨p + 1, [], [], u, _, none, none, none, rfl, S1, upd_same, Rps.nil, hres, hp1, ⟨by simp [hL], by omega⟩, Nat.le_refl _⟩
  · rintro i σ H1 hi ⟨p', acc, vs, a, m, x5, x6, x7, rfl, S2, w1, w2, w3, w4, ⟨w5, w7⟩, w6⟩
    cases m with
    | zero => omega
    | succ m =>
    unfold members at w3
    refine ⟨_, rfl, _, rfl, _, rfl, _, _, rfl, rfl, l, rfl, z, p', de + 1, rfl, ⟨w4, hz, by omega, hfair⟩, okLd.mk2 (fun d1 k hor t v H2 hs hr1 ht => ?_) (fun q e t H2 hs ht => ?_)⟩
    case refine_2 =>
      rw [e] at w3
      refine ⟨t, _, rfl, SqL.of ht, rfl, _, _, rfl, _, _, rfl, rfl, ?_⟩
      refine ⟨_, rfl, _, rfl, rfl, _, rfl, iteY (by simp) ⟨_, rfl, _, rfl, two_, fun t2 ht2 => (hv.2 q w3.symm).1 t2 _ (S2.trans (hs.trans (same_new ht2 _))) upd_same⟩⟩
    have kb : k ≤ z.length ∧ ((tl z)[k]? = some 32 → p' < k) ∧ (match (tl z)[k]? with | some c => if c = 41 then Except.ok (D.tup (acc ++ [d1]), k + 1) else if c = 32 then members (tl z) (valueAt (tl z) l) m (k + 1) (acc ++ [d1]) else .error k | none => .error k) = res := by
      rcases hor with e | ⟨e, rfl, c', g', dg⟩
      · rw [e] at w3
        obtain ⟨h1, h2, _⟩ := valueAt_lim e
        exact ⟨by omega, fun _ => h1, w3⟩
      · rw [e] at w3
        have h1 := (List.getElem?_eq_some_iff.mp g').1
        have h2 := (dig_iff c').mp dg
        refine ⟨by omega, fun e2 => ?_, ?_⟩
        · rw [g'] at e2
          injection e2 with e2
          omega
        · rw [g']
          simp only
          rw [if_neg (by omega), if_neg (by omega)]
          exact w3
    obtain ⟨kl, kp, w3'⟩ := kb
    refine ⟨t, _, rfl, SqL.of ht, rfl, _, _, rfl, _, _, rfl, rfl, ?_⟩
    refine ⟨_, rfl, _, rfl, rfl, _, rfl, iteN (decide_eq_false (by intro z; injection z with z; omega)) ?_⟩
    have w1' := hs _ _ w1
    have lv := w2.length
    -- found = found + (value,)
    refine ⟨fun σ' H' => ∃ a' : Addr, σ' = [some (.str z), some (.int ((p' : Nat) : Int)), some (.int ((de : Nat) : Int)), some (.str ⟨#[c]⟩), some (.ref a'), some (.int (0 + (i : Int))), some v, some (.int ((k : Nat) : Int))] ∧ Same H H' ∧ H' a' = some (.tup (vs ++ [v])) ∧ Rps H' (acc ++ [d1]) (vs ++ [v]), ?_, ?_⟩
    · refine ⟨_, rfl, _, rfl, (by show 1 ≤ sizeLine; decide), fun u2 hu2 => ?_⟩
      have s2 := same_new hu2 (.tup [v])
      have R2 : Rps (upd H2 u2 (.tup [v])) (acc ++ [d1]) (vs ++ [v]) := Rps.append (hr1.mono (Same.tup s2)) (w2.mono (Same.tup (hs.trans s2)))
      refine ⟨a, u2, vs, [v], rfl, rfl, SqT.of (s2 _ _ w1'), SqT.of upd_same, small16 (by show vs.length + 1 ≤ _; omega), fun e => ?_, (fun _ e => (List.cons_ne_nil _ _ e).elim), fun _ _ q hq => ?_⟩
      · refine ⟨u2, rfl, S2.trans (hs.trans s2), ?_, R2⟩
        rw [e, upd_same]
        rfl
      · exact ⟨q, rfl, S2.trans (hs.trans (s2.trans (same_new hq _))), upd_same, R2.mono (Same.tup (same_new hq _))⟩
    rintro σ' H3 ⟨a', rfl, S3, w1'', R3⟩
    refine ⟨_, rfl, _, rfl, z, rfl, small16 (by omega), _, _, rfl, rfl, _, rfl, ?_⟩
    by_cases hkl : k = z.length
    · have gn : (tl z)[k]? = none := List.getElem?_eq_none (by omega)
      rw [gn] at w3'
      refine iteY (decide_eq_true (by omega)) ⟨_, rfl, z, rfl, small16 (by omega), _, rfl, two_, fun t ht => (hv.2 k w3'.symm).1 t _ (S3.trans (same_new ht _)) ?_⟩
      rw [upd_same, hkl]
    refine iteN (decide_eq_false (by omega)) ?_
    obtain ⟨ck, gk⟩ := at_some (z := z) (p := k) (by omega)
    rw [gk] at w3' kp
    simp only at w3'
    refine ⟨_, rfl, _, rfl, z, _, ck, rfl, rfl, small16 (by omega), atI_nat gk, rfl, _, rfl, ?_⟩
    rw [dk ck _ 41 (by decide +kernel)]
    by_cases c1 : ck = 41
    · rw [if_pos c1] at w3'
      refine iteY (decide_eq_true c1) ⟨_, rfl, _, rfl, _, _, rfl, rfl, two_, fun t ht => hv.1 _ _ w3'.symm t (.ref a') _ (S3.trans (same_new ht _)) ?_ ?_⟩
      · rw [Rp]
        exact ⟨a', _, rfl, same_new ht _ _ _ w1'', R3.mono (Same.tup (same_new ht _))⟩
      · rw [upd_same, show (((k + 1 : Nat)) : Int) = ((k : Nat) : Int) + 1 by omega]
    rw [if_neg c1] at w3'
    refine iteN (decide_eq_false c1) ⟨_, rfl, _, rfl, z, _, ck, rfl, rfl, small16 (by omega), atI_nat gk, rfl, _, rfl, ?_⟩
    have dn2 : decide (V.str ⟨#[ck]⟩ = V.str (Str.ofString " ")) = decide (ck = 32) := dk ck _ 32 (by decide +kernel)
    rw [dn2]
    by_cases c2 : ck = 32
    · rw [if_pos c2] at w3'
      have kp' := kp (by rw [c2])
      refine iteN (by rw [decide_eq_true c2]; rfl) ⟨_, rfl, _, _, rfl, rfl, k + 1, acc ++ [d1], vs ++ [v], a', m, some (.int (0 + (i : Int))), some v, some (.int ((k : Nat) : Int)), ?_, S3, w1'', R3, w3', by omega, ⟨by rw [List.length_append, List.length_singleton]; omega, by omega⟩, by omega⟩
      rw [show (((k + 1 : Nat)) : Int) = ((k : Nat) : Int) + 1 by omega]
      rfl
    · rw [if_neg c2] at w3'
      exact iteY (by rw [decide_eq_false c2]; rfl) ⟨_, rfl, _, rfl, two_, fun t ht => (hv.2 k w3'.symm).1 t _ (S3.trans (same_new ht _)) upd_same⟩
  · rintro σ H1 ⟨p', acc, vs, a, m, x5, x6, x7, rfl, S2, w1, w2, w3, w4, ⟨w5, w7⟩, w6⟩
    omega
end
end Tst
namespace Tst
open PySem PySem.Spec PyProof.Rows L2 TL
section
variable {X : Cx} {x : Str} {p pos : Pos} {k : Nat} {ps : List Str} {sp : Sp} {CX : CXT} {E : L2.St → XK} {e : Expr} {es : List Expr} {t : TA}
theorem pe_calS (C : Cal X.prog X.w X.K X.mg X.base CX k x ps sp) (hr : Room k X.A) (hg : Gl X x) (hx : ∀ σ, PassesAt CX X σ (E σ))
    (ha : PA X (e :: es) t) (hdb : (x == ("__debug__" : Str)) = false := by decide) (he : starEach (e :: es) X.env = (false, eval e X.env) :: starEach es X.env := by rfl) (hpl : (backTo pos (starEach es X.env)).any (·.1) = false := by rfl) :
    PE X (.Call (.Name x p) (e :: es) [] pos) (tCallS sp E t) := by
  obtain ⟨f, fd, F, b, kp, m⟩ := C.ex
  exact pe_callS F hr hg m kp b hx ha hdb he hpl
end
section
variable {P : Program} {w : World} {K : PySem.W.Frag} {mg : Str → Option Value} {base : Heap} {f : Addr} {fd : FuncData} {tF tM tB : Tok} {C fI cc cda CT CB : Addr}
/-! ### what is told of a text -/
def told (z : Str) : D := match readL (tl z) with
  | .ok d => .tup [.str (Str.ofString "good"), d]
  | .error q => .tup [.str (Str.ofString "bad"), .int ((q : Nat) : Int)]
theorem Rp.pair {H : Hp} {t : Addr} {s : Str} {d : D} {v : V} (h : H t = some (.tup [.str s, v])) (r : Rp H d v) : Rp H (.tup [.str s, d]) (.ref t) := by
  rw [Rp]
  refine ⟨t, [.str s, v], rfl, h, ?_⟩
  rw [Rps]
  refine ⟨_, _, rfl, by rw [Rp], ?_⟩
  rw [Rps]
  exact ⟨_, _, rfl, r, Rps.nil⟩
def spTold : Sp := fun vs H Q _ => ∃ z : Str, vs = [.str z] ∧ (z.length ≤ 1000000 ∧ Fair z) ∧ ∀ (v : V) (H' : Hp), Same H H' → Rp H' (told z) v → Q v H'
theorem ok_lread {n : Nat} (F : Fun K "_law_read" "_law_read" s__law_read f fd) (T : Txt0 mg tF tM tB) (c__law_value_at : Cal P w K mg base CX0 n "_law_value_at" ["text", "at", "deep"] (spLV 40)) : FnOk P w K mg base CX0 (n + 1) f fd ["text"] spTold := by
  refine F.ok sc__law_read (fun vs H Q E h => ?_) (fun cdv A outer s H vs Q E hr h => ?_)
  · obtain ⟨z, rfl, _⟩ := h
    rfl
  obtain ⟨z, rfl, ⟨hz, hfair⟩, fin⟩ := h
  refine ⟨_, pss_cons (ps_asg (pe_cal c__law_value_at (hr.mono (by omega)) rfl pass0 (pa_cons (pv 0) (pa_cons (pe_int) (pa_cons (pe_int) pa_nil)))) (pg_lst rfl (pgs_cons (pg_name (i := 1) sc__law_read.nd rfl (Or.inl rfl)) (pgs_cons (pg_name (i := 2) sc__law_read.nd rfl (Or.inl rfl)) pgs_nil))))
    (pss_cons (ps_if (pt_cmpR op_eq (pv 2) (pe_un un_neg (pe_int)) (nomark _)) (pss_one (ps_ret (pe_tup (pa_cons (pe_str) (pa_cons (pv 1) pa_nil))))) (pss_nil))
    (pss_one (ps_ret (pe_ifExp (pt_cmpR op_eq (pv 2) (pe_callB call_len_str rfl (by exact T.n_len) PySem.boot_len (pa_cons (pv 0) pa_nil)) (nomark _)) (pe_tup (pa_cons (pe_str) (pa_cons (pv 1) pa_nil))) (pe_tup (pa_cons (pe_str) (pa_cons (pv 2) pa_nil))))))), ?_⟩
  have hL := len_tl z
  refine ⟨_, rfl, z, 0, 0, rfl, ⟨Nat.zero_le _, hz, rfl, hfair⟩, okLd.mk2 (fun d k hor t v H2 hs hr1 ht => ?_) (fun q e t H2 hs ht => ?_)⟩
  · refine ⟨t, _, rfl, SqL.of ht, rfl, _, _, rfl, _, _, rfl, rfl, ?_⟩
    refine ⟨_, rfl, _, rfl, rfl, _, rfl, iteN (decide_eq_false (by intro z; injection z with z; omega)) ?_⟩
    refine ⟨_, rfl, _, rfl, z, rfl, small16 (by omega), rfl, _, rfl, ?_⟩
    by_cases hk : k = z.length
    · have hd : told z = .tup [.str (Str.ofString "good"), d] := by
        rcases hor with e | ⟨_, _, c, g, _⟩
        · unfold told readL
          rw [e]
          simp only
          rw [if_neg (by omega)]
        · have := (List.getElem?_eq_some_iff.mp g).1
          omega
      refine iteY (decide_eq_true (by rw [hk])) ⟨_, rfl, two_, fun t2 ht2 => fin _ _ (hs.trans (same_new ht2 _)) ?_⟩
      rw [hd]
      exact Rp.pair upd_same (hr1.mono (Same.tup (same_new ht2 _)))
    · have hd : told z = .tup [.str (Str.ofString "bad"), .int ((k : Nat) : Int)] := by
        rcases hor with e | ⟨e, _⟩
        · have := (valueAt_lim e).2.1
          unfold told readL
          rw [e]
          simp only
          rw [if_pos (by omega)]
        · unfold told readL
          rw [e]
      refine iteN (decide_eq_false (by intro z; injection z with z; omega)) ⟨_, rfl, two_, fun t2 ht2 => fin _ _ (hs.trans (same_new ht2 _)) ?_⟩
      rw [hd]
      exact Rp.pair upd_same (by rw [Rp])
  · refine ⟨t, _, rfl, SqL.of ht, rfl, _, _, rfl, _, _, rfl, rfl, ?_⟩
    refine ⟨_, rfl, _, rfl, rfl, _, rfl, iteY (by simp) ⟨_, rfl, two_, fun t2 ht2 => fin _ _ (hs.trans (same_new ht2 _)) ?_⟩⟩
    have hd : told z = .tup [.str (Str.ofString "bad"), .int ((q : Nat) : Int)] := by
      unfold told readL
      rw [e]
    rw [hd]
    exact Rp.pair upd_same (by rw [Rp])
/-- the classes that the law names of an error -/
structure Oth (K : PySem.W.Frag) (mg : Str → Option Value) (C CT CB : Addr) : Prop where
  gT : mg "TermError" = some (.ref CT)
  gB : mg "BadText" = some (.ref CB)
  n_ve : mg "ValueError" = none
  kind : KindTxt K C
  k1 : PySem.W.kitOne K (.ref C) (.ref CT) = some true
  k2 : PySem.W.kitOne K (.ref C) (.type "ValueError") = some true
  k3 : PySem.W.kitOne K (.ref C) (.ref CB) = some false
theorem ok_told {n : Nat} (F : Fun K "_law_told" "_law_told" s__law_told f fd) (T : Txt0 mg tF tM tB) (B : Bp P K mg C fI cc cda) (O : Oth K mg C CT CB) (c_read_plain : Cal P w K mg base (L2.CX P w) n "read_plain" ["text"] (spRead C)) : FnOk P w K mg base CX0 (n + 1) f fd ["text"] spTold := by
  refine F.ok sc__law_told (fun vs H Q E h => ?_) (fun cdv A outer s H vs Q E hr h => ?_)
  · obtain ⟨z, rfl, _⟩ := h
    rfl
  obtain ⟨z, rfl, ⟨hz, hfair⟩, fin⟩ := h
  have hr1 : Room n _ := hr.mono (by omega)
  refine ⟨_, pss_one (ps_try_as (i := 1) (tb := fun W => tRet (tTup (tCons (tC (V.str (Str.ofString "good"))) (tCons (tCallS (spRead C) (WE W) (tCons (tVar 0) tNil)) tNil)))) (Wout := fun _ _ _ _ => False) rfl rfl sc__law_told.nd rfl rfl ⟨rfl, by decide, Or.inl B.bp.gC⟩ takes0
      (fun W pn xe tk _ => pss_one (ps_ret (pe_tup (pa_cons pe_str (pa_cons (by exact (pe_calS c_read_plain hr1 rfl (fun σ => passAt tk σ) (by exact (pa_cons (pv 0) pa_nil)))) pa_nil)))))
      (fun a oe cls d pn hz hf => pss_cons (ps_if (PW.pt (pw_or (pt_not (pt_val (pe_callB (call_isSup B.bp O.kind hz hf) rfl (by exact T.n_isinstance) (by decide +kernel) (pa_cons (pv 1) (pa_cons (pe_glob (v := .ref CT) rfl O.gT rfl) pa_nil))))) (pw_or (pt_not (pt_val (pe_callB (call_isSup B.bp O.kind hz hf) rfl (by exact T.n_isinstance) (by decide +kernel) (pa_cons (pv 1) (pa_cons (pe_bltn (v := .ty "ValueError") rfl O.n_ve rfl rfl) pa_nil))))) (pw_or1 (pt_val (pe_callB (call_isSup B.bp O.kind hz hf) rfl (by exact T.n_isinstance) (by decide +kernel) (pa_cons (pv 1) (pa_cons (pe_glob (v := .ref CB) rfl O.gB rfl) pa_nil)))))))) (pss_one (ps_ret (pe_tup (pa_cons pe_str (pa_cons (pe_un un_neg pe_int) pa_nil))))) pss_nil)
        (pss_one (ps_ret (pe_tup (pa_cons pe_str (pa_cons (pe_bySup B.bp hz hf (pv 1)) pa_nil))))))), ?_⟩
  refine ⟨_, rfl, z, rfl, hz, fun d e v H' hs hr1 => ⟨two_, fun t ht => fin _ _ (hs.trans (same_new ht _)) ?_⟩, fun q e d H' hs hd => ⟨true, B.bp.te, fun _ a ha => ?_, fun h => nomatch h⟩⟩
  · have hdd : told z = .tup [.str (Str.ofString "good"), d] := by
      unfold told
      rw [e]
    rw [hdd]
    exact Rp.pair upd_same (hr1.mono (Same.tup (same_new ht _)))
  · have hdd : told z = .tup [.str (Str.ofString "bad"), .int ((q : Nat) : Int)] := by
      unfold told
      rw [e]
    refine ⟨_, rfl, _, _, true, d, _, rfl, rfl, rfl, hd, ?_, O.k1, ?_⟩
    · exact fun u r => r
    refine ⟨true, rfl, iteN rfl ⟨_, rfl, _, _, true, d, _, rfl, rfl, rfl, hd, (fun u r => r), O.k2, true, rfl, iteN rfl ⟨_, rfl, _, _, false, d, _, rfl, rfl, rfl, hd, (fun u r => r), O.k3, false, rfl, iteN rfl ?_⟩⟩⟩
    refine ⟨_, rfl, rfl, rfl, d, _, rfl, hd, two_, fun t ht => fin _ _ (hs.trans (same_new ht _)) ?_⟩
    rw [hdd]
    exact Rp.pair upd_same (by rw [Rp])

/-! ### drawn values -/
def bnd : Nat → Nat
  | 0 => 40
  | n + 1 => 3 * bnd n + 5
def FairL (l : List Nat) : Prop := ∀ c ∈ l, 32 ≤ c ∧ c ≤ 126 ∧ c ≠ 37
structure Good (n : Nat) (d : D) : Prop where
  deep : d.deep ≤ n
  fit : d.Fit
  len : d.show.length ≤ bnd n
  fair : FairL d.show
theorem join_fair : ∀ {ds : List D}, (∀ d ∈ ds, FairL d.show) → FairL (joinL [32] (D.shows ds))
  | [], _ => fun c h => by simp [D.shows, joinL] at h
  | [d], h => h d List.mem_cons_self
  | d :: d2 :: ds, h => by
    have z : joinL [32] (D.shows (d :: d2 :: ds)) = d.show ++ 32 :: joinL [32] (D.shows (d2 :: ds)) := rfl
    have ih := join_fair (ds := d2 :: ds) fun x hx => h x (List.mem_cons_of_mem _ hx)
    rw [z]
    intro c hc
    rcases List.mem_append.mp hc with hc | hc
    · exact h d List.mem_cons_self c hc
    · rcases List.mem_cons.mp hc with rfl | hc
      · omega
      · exact ih c hc
theorem join_le {B : Nat} : ∀ {ds : List D}, (∀ d ∈ ds, d.show.length ≤ B) → (joinL [32] (D.shows ds)).length ≤ ds.length * (B + 1)
  | [], _ => by simp [D.shows, joinL]
  | [d], h => by
    have := h d List.mem_cons_self
    show d.show.length ≤ 1 * (B + 1)
    omega
  | d :: d2 :: ds, h => by
    have z : joinL [32] (D.shows (d :: d2 :: ds)) = d.show ++ 32 :: joinL [32] (D.shows (d2 :: ds)) := rfl
    have h1 := h d List.mem_cons_self
    have ih := join_le (ds := d2 :: ds) fun x hx => h x (List.mem_cons_of_mem _ hx)
    rw [z, List.length_append, List.length_cons]
    rw [List.length_cons (a := d), Nat.succ_mul]
    omega
theorem Good.tup {n : Nat} {ds : List D} (h : ∀ d ∈ ds, Good n d) (h3 : ds.length ≤ 3) : Good (n + 1) (.tup ds) := by
  refine ⟨?_, ?_, ?_, ?_⟩
  · rw [D.deep]
    have := deeps_le (n := n) (xs := ds) fun d hd => (h d hd).deep
    omega
  · rw [D.Fit]
    exact fits_of fun d hd => (h d hd).fit
  · rw [tup_len]
    have h1 := join_le (B := bnd n) (ds := ds) fun d hd => (h d hd).len
    have h3 : ds.length * (bnd n + 1) ≤ 3 * (bnd n + 1) := Nat.mul_le_mul_right _ h3
    show _ ≤ 3 * bnd n + 5
    omega
  · show FairL (40 :: (joinL [32] (D.shows ds) ++ [41]))
    intro c hc
    rcases List.mem_cons.mp hc with rfl | hc
    · omega
    · rcases List.mem_append.mp hc with hc | hc
      · exact join_fair (fun d hd => (h d hd).fair) c hc
      · rw [List.mem_singleton] at hc
        omega
theorem bnd_le (n : Nat) : 40 ≤ bnd n := by
  induction n with
  | zero => exact Nat.le_refl _
  | succ n ih => show 40 ≤ 3 * bnd n + 5; omega
def fairB (l : List Nat) : Bool := l.all fun c => decide (32 ≤ c ∧ c ≤ 126 ∧ c ≠ 37)
theorem FairL.of {l : List Nat} (h : fairB l = true) : FairL l := fun c hc => of_decide_eq_true (List.all_eq_true.mp h c hc)
theorem Good.leaf {d : D} (n : Nat) (h1 : d.deep = 0) (h2 : d.Fit) (h3 : decide (d.show.length ≤ 40) = true) (h4 : fairB d.show = true) : Good n d :=
  ⟨by omega, h2, Nat.le_trans (of_decide_eq_true h3) (bnd_le n), .of h4⟩
def menu : List V := [.non, .bl true, .bl false, .int 0, .int (-7), .int 120, .str (Str.ofString ""), .str (Str.ofString "a\"b"), .str (Str.ofString "x\ny"), .str (Str.ofString "\\"), .str (Str.ofString " (")]
theorem menu_at (n : Nat) {j : Int} (h0 : 0 ≤ j) (h1 : j < 11) : ∃ v d, atI menu j = some v ∧ (∀ H, Rp H d v) ∧ Good n d := by
  have hj : j = 0 ∨ j = 1 ∨ j = 2 ∨ j = 3 ∨ j = 4 ∨ j = 5 ∨ j = 6 ∨ j = 7 ∨ j = 8 ∨ j = 9 ∨ j = 10 := by omega
  rcases hj with rfl | rfl | rfl | rfl | rfl | rfl | rfl | rfl | rfl | rfl | rfl
  · exact ⟨_, .non, rfl, fun H => by rw [Rp], .leaf n rfl (by simp [D.Fit]) (by decide +kernel) (by decide +kernel)⟩
  · exact ⟨_, .bl true, rfl, fun H => by rw [Rp], .leaf n rfl (by simp [D.Fit]) (by decide +kernel) (by decide +kernel)⟩
  · exact ⟨_, .bl false, rfl, fun H => by rw [Rp], .leaf n rfl (by simp [D.Fit]) (by decide +kernel) (by decide +kernel)⟩
  · exact ⟨_, .int 0, rfl, fun H => by rw [Rp], .leaf n rfl (by rw [D.Fit]; decide +kernel) (by decide +kernel) (by decide +kernel)⟩
  · exact ⟨_, .int (-7), rfl, fun H => by rw [Rp], .leaf n rfl (by rw [D.Fit]; decide +kernel) (by decide +kernel) (by decide +kernel)⟩
  · exact ⟨_, .int 120, rfl, fun H => by rw [Rp], .leaf n rfl (by rw [D.Fit]; decide +kernel) (by decide +kernel) (by decide +kernel)⟩
  · exact ⟨_, .str _, rfl, fun H => by rw [Rp], .leaf n rfl (by simp [D.Fit]) (by decide +kernel) (by decide +kernel)⟩
  · exact ⟨_, .str _, rfl, fun H => by rw [Rp], .leaf n rfl (by simp [D.Fit]) (by decide +kernel) (by decide +kernel)⟩
  · exact ⟨_, .str _, rfl, fun H => by rw [Rp], .leaf n rfl (by simp [D.Fit]) (by decide +kernel) (by decide +kernel)⟩
  · exact ⟨_, .str _, rfl, fun H => by rw [Rp], .leaf n rfl (by simp [D.Fit]) (by decide +kernel) (by decide +kernel)⟩
  · exact ⟨_, .str _, rfl, fun H => by rw [Rp], .leaf n rfl (by simp [D.Fit]) (by decide +kernel) (by decide +kernel)⟩
def spValue (n : Nat) : Sp := fun vs H Q _ => ∃ b c : Addr, vs = [.ref b, .int ((n : Nat) : Int)] ∧ Box H b c ∧
  ∀ (v : V) (d : D) (H' : Hp), Rp H' d v → Good n d → Box H' b c → Kept b H H' → Q v H'
theorem ok_value {n : Nat} (F : Fun K "_law_value" "_law_value" s__law_value f fd) (T : Txt0 mg tF tM tB) (c__law_draw : Cal P w K mg base CX0 1 "_law_draw" ["box", "many"] spDraw)
    (c__law_value : Cal P w K mg base CX0 (n + 1) "_law_value" ["box", "deep"] (fun vs H Q E => ∃ m, n = m + 1 ∧ spValue m vs H Q E)) : FnOk P w K mg base CX0 (n + 2) f fd ["box", "deep"] (spValue n) := by
  refine F.ok sc__law_value (fun vs H Q E h => ?_) (fun cdv A outer s H vs Q E hr h => ?_)
  · obtain ⟨b, c, rfl, _⟩ := h
    rfl
  obtain ⟨b, c, rfl, hb, q⟩ := h
  refine ⟨_, pss_cons (ps_set (i := 2) sc__law_value.nd rfl (Or.inl rfl) (pe_cal c__law_draw (hr.mono (by omega)) rfl pass0 (pa_cons (pv 0) (pa_cons (pe_int) pa_nil))))
    (C8.pss_cut (ps_if (PW.pt (pw_and (pt_cmpR op_lt (pv 2) (pe_int) (nomark _)) (pw_and1 (pt_cmpR op_gt (pv 1) (pe_int) (nomark _))))) (pss_one (ps_ret (pe_callTy call_tuple_of rfl (by exact T.n_tuple) (by decide +kernel) (pa_cons (pe_lc (own := [("k", 3)]) (g := gName 3) rfl sc__law_value.nd (pi_range1 rfl (by exact T.n_range) (pa_cons (pe_cal c__law_draw (hr.mono (by omega)) rfl pass0 (pa_cons (pv 0) (pa_cons (pe_int) pa_nil))) pa_nil)) (blkOk_by (own := [("k", 3)]) (N := ["box", "deep", "kind", "k"]) (sc := defScope s__law_value) (by decide +kernel)) (fun _ _ _ _ _ => pg_name (i := 3) sc__law_value.nd rfl (Or.inl rfl)) (fun _ _ _ _ _ => pts_nil) (fun _ _ _ _ _ => pe_cal c__law_value (hr.mono (by omega)) rfl pass0 (pa_cons (pv 0) (pa_cons (pe_op op_sub (pv 1) (pe_int)) pa_nil)))) pa_nil)))) (pss_nil))
    (pss_one (ps_ret (pe_ix ix_list (pe_lst (pa_cons (pe_non) (pa_cons (pe_bl) (pa_cons (pe_bl) (pa_cons (pe_int) (pa_cons (pe_un un_neg (pe_int)) (pa_cons (pe_int) (pa_cons (pe_str) (pa_cons (pe_str) (pa_cons (pe_str) (pa_cons (pe_str) (pa_cons (pe_str) pa_nil)))))))))))) (pe_op op_mod (pe_callTy call_int1 rfl (by exact T.n_int) (by decide +kernel) (pa_cons (pe_cal c__law_draw (hr.mono (by omega)) rfl pass0 (pa_cons (pv 0) (pa_cons (pe_int) pa_nil))) pa_nil)) (pe_int)) (fun _ _ => rfl))))), ?_⟩
  refine ⟨_, rfl, b, c, 6, rfl, by decide, hb, fun kd H1 k0 k1 hb1 kp1 => ?_⟩
  refine ⟨fun σ' H' => σ' = [some (.ref b), some (.int ((n : Nat) : Int)), some (.int kd), none] ∧ H' = H1, ?_, ?_⟩
  · refine ⟨_, rfl, _, _, rfl, rfl, _, rfl, ite2 (fun c1 => ?_) (fun c1 => iteF ⟨rfl, rfl⟩)⟩
    refine ⟨_, rfl, _, _, rfl, rfl, _, rfl, ite2 (fun c2 => ?_) (fun c2 => ⟨rfl, rfl⟩)⟩
    have hn : 0 < n := by
      have : (0 : Int) < ((n : Nat) : Int) := of_decide_eq_true c2
      omega
    obtain ⟨m, rfl⟩ : ∃ m, n = m + 1 := ⟨n - 1, by omega⟩
    refine ⟨_, rfl, b, c, 4, rfl, by decide, hb1, fun x H2 x0 x1 hb2 kp2 => ⟨x, rfl, by omega, by omega, fun L hL => ?_⟩⟩
    obtain ⟨hLb, hLc⟩ := hb2.ne hL
    refine lc_range (lo := 0) (n := x.toNat) (fun i H' => ∃ (vs : List V) (ds : List D), H' L = some (.lst vs) ∧ Rps H' ds vs ∧ ds.length = i ∧ (∀ d ∈ ds, Good m d) ∧ Box H' b c ∧ Kept b H2 H') ?_ ?_ ?_
    · exact ⟨[], [], upd_same, Rps.nil, rfl, fun _ z => (nomatch z), hb2.same (same_new hL _), Same.kept (same_new hL _)⟩
    · rintro i H' hi ⟨vs, ds, g1, g2, g3, g4, g5, g6⟩
      refine ⟨rfl, _, rfl, _, rfl, _, _, rfl, rfl, m, rfl, b, c, ?_, g5, fun v d H3 r gd hb3 kp3 => ?_⟩
      · show [V.ref b, V.int (((m + 1 : Nat) : Int) - 1)] = [V.ref b, V.int ((m : Nat) : Int)]
        rw [show (((m + 1 : Nat) : Int) - 1) = ((m : Nat) : Int) by omega]
      have g1' := kp3 _ _ hLb g1
      have lv := g2.length
      refine ⟨vs, g1', small_of (by omega), vs ++ [v], ds ++ [d], upd_same, ?_, ?_, ?_, ?_, ?_⟩
      · have t1 : Tup H' (upd H3 L (.lst (vs ++ [v]))) := fun a xs e => by
          have e3 := Kept.tup g5 kp3 a xs e
          rw [upd_ne (fun z => by subst z; rw [g1'] at e3; cases e3)]
          exact e3
        have t2 : Tup H3 (upd H3 L (.lst (vs ++ [v]))) := fun a xs e => by
          rw [upd_ne (fun z => by subst z; rw [g1'] at e; cases e)]
          exact e
        exact Rps.append (r.mono t2) (g2.mono t1)
      · rw [List.length_append, g3]
        rfl
      · intro d' hd'
        rcases List.mem_append.mp hd' with z | z
        · exact g4 d' z
        · have e : d' = d := by simpa using z
          subst e
          exact gd
      · exact hb3.other hLb hLc
      · intro a o hn e
        rw [upd_ne (ne_of_none e hL)]
        exact kp3 _ _ hn (g6 _ _ hn e)
    · rintro H' ⟨vs, ds, g1, g2, g3, g4, g5, g6⟩
      refine ⟨L, vs, rfl, .inl ⟨SqL.of g1, fun t ht => ?_⟩⟩
      have sn := same_new ht (.tup vs)
      refine q (.ref t) (.tup ds) _ ?_ (.tup g4 (by omega)) (g5.same sn) (kp1.trans (kp2.trans (g6.trans (Same.kept sn))))
      rw [Rp]
      exact ⟨t, vs, rfl, upd_same, g2.mono (Same.tup sn)⟩
  rintro σ' H' ⟨rfl, rfl⟩
  refine ⟨_, rfl, (by show 11 ≤ sizeLine; decide), fun t ht => ?_⟩
  have hb2 := hb1.same (same_new ht (.lst menu))
  refine ⟨_, rfl, b, c, 900, rfl, by decide, hb2, fun m H3 m0 m1 hb3 kp3 => .inl ⟨_, rfl, _, _, rfl, rfl, (show (0 : Int) < 11 by decide), ?_⟩⟩
  have ht3 : H3 t = some (.lst menu) := kp3 t _ (hb1.ne ht).1 upd_same
  obtain ⟨v, d, hat, r, gd⟩ := menu_at n (Int.emod_nonneg m (b := 11) (by decide)) (Int.emod_lt_of_pos m (b := 11) (by decide))
  exact ⟨t, _, _, v, rfl, rfl, SqL.of ht3, hat, q v d H3 (r _) gd hb3 (kp1.trans ((Same.kept (same_new ht _)).trans kp3))⟩

/-! ### the law -/
structure GoodT (y : Str) : Prop where
  len : y.length ≤ 900000
  fair : Fair y
theorem cut_in {z : Str} {lo hi : Option Int} : (cutS z lo hi).length ≤ z.length ∧ ∀ c ∈ tl (cutS z lo hi), c ∈ tl z := by
  have e : tl (cutS z lo hi) = ((tl z).drop (HT.sIx z.length 0 lo)).take (HT.sIx z.length z.length hi - HT.sIx z.length 0 lo) := rfl
  refine ⟨?_, fun c hc => ?_⟩
  · rw [len_tl, e, len_tl z, List.length_take, List.length_drop]
    omega
  · rw [e] at hc
    exact List.mem_of_mem_drop (List.mem_of_mem_take hc)
theorem len_app (x y : Str) : (x ++ y).length = x.length + y.length := by rw [len_tl, tl_append, List.length_append, ← len_tl, ← len_tl]
/-- a text of at most n signs, all fair -/
structure Sh (n : Nat) (y : Str) : Prop where
  len : y.length ≤ n
  fair : Fair y
theorem Sh.app {m n : Nat} {x y : Str} (h1 : Sh m x) (h2 : Sh n y) : Sh (m + n) (x ++ y) := by
  refine ⟨by rw [len_app]; exact Nat.add_le_add h1.len h2.len, fun c hc => ?_⟩
  rw [tl_append] at hc
  rcases List.mem_append.mp hc with hc | hc
  · exact h1.fair c hc
  · exact h2.fair c hc
theorem Sh.cut {n : Nat} {z : Str} (h : Sh n z) (lo hi : Option Int) : Sh n (cutS z lo hi) := ⟨Nat.le_trans cut_in.1 h.len, fun c hc => h.fair c (cut_in.2 c hc)⟩
theorem Sh.t {n : Nat} {z : Str} (h : Sh n z) (hn : n ≤ 900000) : GoodT z := ⟨Nat.le_trans h.len hn, h.fair⟩
theorem Sh.rep {n c : Nat} (h : 32 ≤ c ∧ c ≤ 126 ∧ c ≠ 37) : Sh n (strOf (List.replicate n c)) :=
  ⟨by rw [len_strOf, List.length_replicate]; exact Nat.le_refl n, fun x hx => by rw [tl_strOf] at hx; rw [List.eq_of_mem_replicate hx]; exact h⟩
theorem Sh.lit {n : Nat} {s : Str} (h1 : decide (s.length ≤ n) = true) (h2 : fairB (tl s) = true) : Sh n s := ⟨of_decide_eq_true h1, FairL.of h2⟩
/-- a list of k good texts -/
structure TxtAt (H : Hp) (b d q : Addr) (k : Nat) : Prop where
  nb : q ≠ b
  nd : q ≠ d
  ex : ∃ ys : List Str, H q = some (.lst (ys.map V.str)) ∧ ys.length = k ∧ ∀ y ∈ ys, GoodT y
theorem TxtAt.kept {H H' : Hp} {b d q : Addr} {k : Nat} (x : TxtAt H b d q k) (h : Kept b H H') : TxtAt H' b d q k := by
  obtain ⟨h1, h2, ys, h3, h4⟩ := x
  exact ⟨h1, h2, ys, h _ _ h1 h3, h4⟩
theorem TxtAt.new {H : Hp} {b d q : Addr} {ys : List Str} (hb : Box H b d) (hq : H q = none) (h : ∀ y ∈ ys, GoodT y) : TxtAt (upd H q (.lst (ys.map V.str))) b d q ys.length :=
  ⟨(hb.ne hq).1, (hb.ne hq).2, ys, upd_same, rfl, h⟩
theorem TxtAt.get {H : Hp} {b d q : Addr} {k : Nat} (x : TxtAt H b d q k) {j : Int} (h0 : 0 ≤ j) (h1 : j < k) : ∃ vs y, H q = some (.lst vs) ∧ atI vs j = some (.str y) ∧ GoodT y := by
  obtain ⟨_, _, ys, h3, rfl, h5⟩ := x
  have hj : j.toNat < ys.length := by omega
  have e := atI_nat (xs := ys.map V.str) (j := j.toNat) (v := V.str ys[j.toNat]) (by rw [List.getElem?_map, List.getElem?_eq_getElem hj]; rfl)
  rw [show ((j.toNat : Nat) : Int) = j by omega] at e
  exact ⟨_, _, h3, e, h5 _ (List.getElem_mem hj)⟩
theorem Lim.mono {M N : Nat} (h : M ≤ N) {n : Nat} {d : D} (x : Lim M n d) : Lim N n d := by
  induction x with
  | non => exact .non _
  | bl => exact .bl _ _
  | int => exact .int _ _
  | str => exact .str _ _
  | tup n xs h1 h2 ih => exact .tup _ _ (Nat.le_trans h1 h) ih
theorem told_lim {z : Str} (h : z.length ≤ 1000000) : Lim 1000001 41 (told z) := by
  have two : ([.str (Str.ofString "x"), .non] : List D).length ≤ 1000001 := by decide
  unfold told readL
  have hL := len_tl z
  cases e : valueAt (tl z) 40 0 with
  | error q => exact .tup _ _ (by show 2 ≤ 1000001; decide) (fun d hd => by
      rcases List.mem_cons.mp hd with rfl | hd
      · exact .str _ _
      · rw [List.mem_singleton] at hd; rw [hd]; exact .int _ _)
  | ok dq =>
    obtain ⟨d, q⟩ := dq
    simp only
    obtain ⟨_, _, hl⟩ := valueAt_lim e
    by_cases hq : q < (tl z).length
    · rw [if_pos hq]
      exact .tup _ _ (by show 2 ≤ 1000001; decide) (fun d hd => by
        rcases List.mem_cons.mp hd with rfl | hd
        · exact .str _ _
        · rw [List.mem_singleton] at hd; rw [hd]; exact .int _ _)
    · rw [if_neg hq]
      exact .tup _ _ (by show 2 ≤ 1000001; decide) (fun d hd => by
        rcases List.mem_cons.mp hd with rfl | hd
        · exact .str _ _
        · rw [List.mem_singleton] at hd; rw [hd]; exact hl.mono (Nat.succ_le_succ (by rw [← hL]; exact h)))
theorem szs {m n : Nat} {x y : Str} (h1 : Sh m x) (h2 : Sh n y) (h : decide (m + n ≤ 10000000) = true) : x.length + y.length ≤ sizeLine := small16 (Nat.le_trans (Nat.add_le_add h1.len h2.len) (of_decide_eq_true h))
theorem allc {α : Type} {P : α → Prop} {x : α} {l : List α} (h : P x) (t : ∀ y ∈ l, P y) : ∀ y ∈ x :: l, P y := fun y hy => by
  rcases List.mem_cons.mp hy with rfl | hy
  · exact h
  · exact t y hy
theorem all0 {α : Type} {P : α → Prop} : ∀ y ∈ ([] : List α), P y := fun _ h => nomatch h
theorem o1 : V.str (Str.ofString "1") = V.str ⟨#[49]⟩ := congrArg V.str (by decide +kernel)
theorem o9 : V.str (Str.ofString "9") = V.str ⟨#[57]⟩ := congrArg V.str (by decide +kernel)
theorem oo : V.str (Str.ofString "(") = V.str ⟨#[40]⟩ := congrArg V.str (by decide +kernel)
theorem oc : V.str (Str.ofString ")") = V.str ⟨#[41]⟩ := congrArg V.str (by decide +kernel)
theorem l_ {n : Nat} {s : Str} (h1 : decide (s.length ≤ n) = true) (h2 : fairB (tl s) = true) : Sh n s := .lit h1 h2
def signs17 : Str := Str.ofString "()\" TFN-0195\\n;x~"
theorem sign_at {j : Int} (h0 : 0 ≤ j) (h1 : j < 17) : ∃ c, atI signs17.cps.toList j = some c ∧ (32 ≤ c ∧ c ≤ 126 ∧ c ≠ 37) := by
  have e : signs17.cps.toList = [40, 41, 34, 32, 84, 70, 78, 45, 48, 49, 57, 53, 92, 110, 59, 120, 126] := by decide +kernel
  rw [e]
  have hj : j = ((j.toNat : Nat) : Int) := by omega
  have hk : j.toNat < ([40, 41, 34, 32, 84, 70, 78, 45, 48, 49, 57, 53, 92, 110, 59, 120, 126] : List Nat).length := by show j.toNat < 17; omega
  rw [hj]
  refine ⟨_, atI_nat (List.getElem?_eq_getElem hk), ?_⟩
  have : ∀ c ∈ ([40, 41, 34, 32, 84, 70, 78, 45, 48, 49, 57, 53, 92, 110, 59, 120, 126] : List Nat), 32 ≤ c ∧ c ≤ 126 ∧ c ≠ 37 := by decide
  exact this _ (List.getElem_mem hk)
def spLaw (K : PySem.W.Frag) : Sp := fun vs H Q _ => ∃ (a : Addr) (ns : List Int), vs = [.ref a] ∧ SqL K H a (ns.map V.int) ∧ ∀ H', Q (.bl true) H'
theorem ok_law (F : Fun K "law" "law" s_law f fd) (T : Txt0 mg tF tM tB) (c__law_digits : Cal P w K mg base CX0 2 "_law_digits" ["script", "first", "last"] (spDigits K)) (c__law_draw : Cal P w K mg base CX0 1 "_law_draw" ["box", "many"] spDraw)
    (c__law_value : Cal P w K mg base CX0 5 "_law_value" ["box", "deep"] (spValue 3)) (c__law_plain : Cal P w K mg base CX0 41 "_law_plain" ["value"] (spPl 41)) (c__law_read : Cal P w K mg base CX0 43 "_law_read" ["text"] spTold)
    (c__law_told : Cal P w K mg base CX0 86 "_law_told" ["text"] spTold) (c__law_same : Cal P w K mg base CX0 42 "_law_same" ["actual", "due"] (spSame 41)) : FnOk P w K mg base CX0 87 f fd ["script"] (spLaw K) := by
  refine F.ok sc_law (fun vs H Q E h => ?_) (fun cdv A outer s H vs Q E hr h => ?_)
  · obtain ⟨a, ns, rfl, _⟩ := h
    rfl
  obtain ⟨a, ns, rfl, hS, fin⟩ := h
  refine ⟨_, pss_cons (ps_set (i := 1) sc_law.nd rfl (Or.inl rfl) (pe_lst (pa_cons (pe_cal c__law_digits (hr.mono (by omega)) rfl pass0 (pa_cons (pv 0) (pa_cons (pe_int) (pa_cons (pe_int) pa_nil)))) (pa_cons (pe_int) pa_nil))))
    (pss_cons (ps_for PassesOwn.never rfl (pi_range1 rfl (by exact T.n_range) (pa_cons (pe_int) pa_nil)) (pg_name (i := 2) sc_law.nd rfl (Or.inl rfl)) (C8.pss_cut (ps_set (i := 3) sc_law.nd rfl (Or.inl rfl) (pe_cal c__law_plain (hr.mono (by omega)) rfl pass0 (pa_cons (pe_cal c__law_value (hr.mono (by omega)) rfl pass0 (pa_cons (pv 1) (pa_cons (pe_int) pa_nil))) pa_nil)))
    (C8.pss_cut (ps_set (i := 4) sc_law.nd rfl (Or.inl rfl) (pe_op op_mod (pe_callTy call_int1 rfl (by exact T.n_int) (by decide +kernel) (pa_cons (pe_cal c__law_draw (hr.mono (by omega)) rfl pass0 (pa_cons (pv 1) (pa_cons (pe_int) pa_nil))) pa_nil)) (pe_op op_add (pe_callB call_len_str rfl (by exact T.n_len) PySem.boot_len (pa_cons (pv 3) pa_nil)) (pe_int))))
    (C8.pss_cut (ps_set (i := 5) sc_law.nd rfl (Or.inl rfl) (pe_ix ix_str (pe_str) (pe_op op_mod (pe_callTy call_int1 rfl (by exact T.n_int) (by decide +kernel) (pa_cons (pe_cal c__law_draw (hr.mono (by omega)) rfl pass0 (pa_cons (pv 1) (pa_cons (pe_int) pa_nil))) pa_nil)) (pe_int)) (fun _ _ => rfl)))
    (C8.pss_cut (ps_set (i := 6) sc_law.nd rfl (Or.inl rfl) (pe_lst (pa_cons (pe_slice sl_str (pv 3) (po_none) (po_some (pv 4))) (pa_cons (pe_op op_add_str (pe_slice sl_str (pv 3) (po_none) (po_some (pv 4))) (pe_slice sl_str (pv 3) (po_some (pe_op op_add (pv 4) (pe_int))) (po_none))) (pa_cons (pe_op op_add_str (pe_op op_add_str (pe_slice sl_str (pv 3) (po_none) (po_some (pv 4))) (pv 5)) (pe_slice sl_str (pv 3) (po_some (pv 4)) (po_none))) (pa_cons (pe_op op_add_str (pe_op op_add_str (pe_slice sl_str (pv 3) (po_none) (po_some (pv 4))) (pv 5)) (pe_slice sl_str (pv 3) (po_some (pe_op op_add (pv 4) (pe_int))) (po_none))) (pa_cons (pe_op op_add_str (pv 3) (pv 5)) pa_nil)))))))
    (C8.pss_cut (ps_set (i := 7) sc_law.nd rfl (Or.inl rfl) (pe_lst (pa_cons (pe_op op_mul_one (pe_str) (pe_int)) (pa_cons (pe_op op_add_str (pe_str) (pe_op op_mul_one (pe_str) (pe_int))) (pa_cons (pe_op op_add_str (pe_op op_mul_one (pe_str) (pe_int)) (pe_op op_mul_one (pe_str) (pe_int))) (pa_cons (pe_op op_add_str (pe_op op_mul_one (pe_str) (pe_int)) (pe_op op_mul_one (pe_str) (pe_int))) (pa_cons (pe_str) (pa_cons (pe_str) (pa_cons (pe_str) (pa_cons (pe_str) (pa_cons (pe_str) (pa_cons (pe_str) (pa_cons (pe_str) (pa_cons (pe_str) (pa_cons (pe_op op_mul_one (pe_str) (pe_int)) (pa_cons (pe_op op_add_str (pe_str) (pe_op op_mul_one (pe_str) (pe_int))) pa_nil))))))))))))))))
    (C8.pss_cut (ps_set (i := 6) sc_law.nd rfl (Or.inl rfl) (pe_op op_cat (pv 6) (pe_lst (pa_cons (pe_ix ix_list (pv 7) (pe_op op_add (pe_int) (pe_op op_mod (pe_callTy call_int1 rfl (by exact T.n_int) (by decide +kernel) (pa_cons (pe_cal c__law_draw (hr.mono (by omega)) rfl pass0 (pa_cons (pv 1) (pa_cons (pe_int) pa_nil))) pa_nil)) (pe_int))) (fun _ _ => rfl)) pa_nil))))
    (C8.pss_cut (ps_if (pt_cmpR op_eq (pv 2) (pe_int) (nomark _)) (pss_one (ps_asg (pe_ix ix_list (pv 7) (pe_op op_mod (pe_callTy call_int1 rfl (by exact T.n_int) (by decide +kernel) (pa_cons (pe_cal c__law_draw (hr.mono (by omega)) rfl pass0 (pa_cons (pv 1) (pa_cons (pe_int) pa_nil))) pa_nil)) (pe_int)) (fun _ _ => rfl)) (pg_sub (pv 6) (pe_int) set_list))) (pss_nil))
    (C8.pss_cut (ps_set (i := 3) sc_law.nd rfl (Or.inl rfl) (pe_ix ix_list (pv 6) (pe_cal c__law_draw (hr.mono (by omega)) rfl pass0 (pa_cons (pv 1) (pa_cons (pe_int) pa_nil))) (fun _ _ => rfl)))
    (pss_cons (ps_set (i := 8) sc_law.nd rfl (Or.inl rfl) (pe_cal c__law_read (hr.mono (by omega)) rfl pass0 (pa_cons (pv 3) pa_nil)))
    (pss_one (ps_if (pt_not (pt_val (pe_cal c__law_same (hr.mono (by omega)) rfl pass0 (pa_cons (pe_cal c__law_told (hr.mono (by omega)) rfl pass0 (pa_cons (pv 3) pa_nil)) (pa_cons (pv 8) pa_nil))))) (pss_one (ps_ret (pe_bl))) (pss_nil)))))))))))))
    (pss_one (ps_ret (pe_bl)))), ?_⟩
  refine ⟨_, rfl, a, ns, 0, 63, rfl, hS, ⟨by omega, by omega, by omega, by omega⟩, fun p H1 ds s1 hp hd => ⟨(by show 2 ≤ sizeLine; decide), fun b hb => ?_⟩⟩
  have hpb : p ≠ b := fun e => by rw [e, hb] at hd; cases hd
  have bx : Box (upd H1 b (.lst [.ref p, .int 0])) b p := ⟨ds, 0, upd_same, by rw [upd_ne hpb]; exact hd, hpb⟩
  refine ⟨6, rfl, by decide, by decide, for_range (lo := 0) (n := (6 : Int).toNat) (fun i σ H' => ∃ x2 x3 x4 x5 x6 x7 x8 : Option V, σ = [some (.ref a), some (.ref b), x2, x3, x4, x5, x6, x7, x8] ∧ Box H' b p) ⟨_, _, _, _, _, _, _, rfl, bx⟩ ?_ ?_⟩
  · rintro i σ H2 hi ⟨x2, x3, x4, x5, x6, x7, x8, rfl, hb2⟩
    -- text
    refine ⟨fun σ' H' => ∃ z : Str, σ' = [some (.ref a), some (.ref b), some (.int (0 + (i : Int))), some (.str z), x4, x5, x6, x7, x8] ∧ Sh 2000 z ∧ Box H' b p, ?_, ?_⟩
    · refine ⟨_, rfl, b, p, rfl, hb2, fun v d H3 hr3 gd hb3 kp3 => ⟨d, v, rfl, ⟨?_, ?_, gd.fit⟩, hr3, fun H4 s4 => ⟨showS d, rfl, ⟨?_, gd.fair⟩, hb3.same s4⟩⟩⟩
      · have := gd.deep
        omega
      · have h1 := gd.len
        have h2 : bnd 3 = 1145 := by decide
        omega
      · have h1 := gd.len
        have h2 : bnd 3 = 1145 := by decide
        have h3 : (showS d).length = d.show.length := len_strOf _
        omega
    rintro σ' H3 ⟨z, rfl, shz, hb3⟩
    have hz := shz.len
    -- at
    refine ⟨fun σ' H' => ∃ k : Nat, σ' = [some (.ref a), some (.ref b), some (.int (0 + (i : Int))), some (.str z), some (.int ((k : Nat) : Int)), x5, x6, x7, x8] ∧ Box H' b p, ?_, ?_⟩
    · refine ⟨_, rfl, b, p, 900, rfl, by decide, hb3, fun m H4 m0 m1 hb4 kp4 => .inl ⟨_, rfl, _, rfl, z, rfl, small16 (by omega), _, _, rfl, rfl, _, _, rfl, rfl, (show (0 : Int) < ((z.length : Nat) : Int) + 1 by omega), ?_⟩⟩
      have h0 := Int.emod_nonneg m (b := ((z.length : Nat) : Int) + 1) (by omega)
      refine ⟨(m % (((z.length : Nat) : Int) + 1)).toNat, ?_, hb4⟩
      rw [show (((m % (((z.length : Nat) : Int) + 1)).toNat : Nat) : Int) = m % (((z.length : Nat) : Int) + 1) by omega]
      rfl
    rintro σ' H4 ⟨k, rfl, hb4⟩
    -- sign
    refine ⟨fun σ' H' => ∃ y : Str, σ' = [some (.ref a), some (.ref b), some (.int (0 + (i : Int))), some (.str z), some (.int ((k : Nat) : Int)), some (.str y), x6, x7, x8] ∧ Sh 1 y ∧ Box H' b p, ?_, ?_⟩
    · refine ⟨_, rfl, b, p, 900, rfl, by decide, hb4, fun m H5 m0 m1 hb5 kp5 => .inl ⟨_, rfl, _, _, rfl, rfl, (show (0 : Int) < 17 by decide), ?_⟩⟩
      obtain ⟨c, hc, hf⟩ := sign_at (Int.emod_nonneg m (b := 17) (by decide)) (Int.emod_lt_of_pos m (b := 17) (by decide))
      exact ⟨signs17, _, c, rfl, rfl, (by decide +kernel), hc, ⟨#[c]⟩, rfl, ⟨Nat.le_refl 1, fun x hx => by
        have : x = c := by simpa [tl] using hx
        rw [this]; exact hf⟩, hb5⟩
    rintro σ' H5 ⟨y, rfl, shy, hb5⟩
    have hy := shy.len
    -- changed
    refine ⟨fun σ' H' => ∃ q : Addr, σ' = [some (.ref a), some (.ref b), some (.int (0 + (i : Int))), some (.str z), some (.int ((k : Nat) : Int)), some (.str y), some (.ref q), x7, x8] ∧ TxtAt H' b p q 5 ∧ Box H' b p, ?_, ?_⟩
    · refine ⟨_, rfl, _, rfl, _, rfl, z, rfl, small16 (by omega), _, rfl, _, rfl, _, rfl, z, rfl, small16 (by omega), _, rfl, _, rfl, _, _, rfl, rfl, _, rfl, z, rfl, small16 (by omega), _, _, rfl, rfl, szs (shz.cut _ _) (shz.cut _ _) (by decide), _, rfl, _, rfl, _, rfl, z, rfl, small16 (by omega), _, rfl, _, _, rfl, rfl, szs (shz.cut _ _) (shy) (by decide), _, rfl, _, rfl, _, rfl, z, rfl, small16 (by omega), _, _, rfl, rfl, szs ((shz.cut _ _).app shy) (shz.cut _ _) (by decide), _, rfl, _, rfl, _, rfl, z, rfl, small16 (by omega), _, rfl, _, _, rfl, rfl, szs (shz.cut _ _) (shy) (by decide), _, rfl, _, rfl, _, _, rfl, rfl, _, rfl, z, rfl, small16 (by omega), _, _, rfl, rfl, szs ((shz.cut _ _).app shy) (shz.cut _ _) (by decide), _, rfl, _, rfl, _, _, rfl, rfl, szs (shz) (shy) (by decide), (by show 5 ≤ sizeLine; decide), fun q hq => ⟨q, rfl, ?_, hb5.same (same_new hq _)⟩⟩
      exact TxtAt.new (ys := [_, _, _, _, _]) hb5 hq (allc ((shz.cut _ _).t (by decide)) (allc (((shz.cut _ _).app (shz.cut _ _)).t (by decide)) (allc ((((shz.cut _ _).app shy).app (shz.cut _ _)).t (by decide)) (allc ((((shz.cut _ _).app shy).app (shz.cut _ _)).t (by decide)) (allc ((shz.app shy).t (by decide)) all0)))))
    rintro σ' H6 ⟨q, rfl, tq, hb6⟩
    -- great
    refine ⟨fun σ' H' => ∃ g : Addr, σ' = [some (.ref a), some (.ref b), some (.int (0 + (i : Int))), some (.str z), some (.int ((k : Nat) : Int)), some (.str y), some (.ref q), some (.ref g), x8] ∧ TxtAt H' b p q 5 ∧ TxtAt H' b p g 14 ∧ Box H' b p, ?_, ?_⟩
    · have r1 : ∀ n, Sh n (strOf (List.replicate n 49)) := fun n => .rep (by decide)
      have r9 : ∀ n, Sh n (strOf (List.replicate n 57)) := fun n => .rep (by decide)
      have ro : ∀ n, Sh n (strOf (List.replicate n 40)) := fun n => .rep (by decide)
      have rc : ∀ n, Sh n (strOf (List.replicate n 41)) := fun n => .rep (by decide)
      have mi : Sh 1 (Str.ofString "-") := .lit (by decide +kernel) (by decide +kernel)
      refine ⟨49, 2001, o1, rfl, by decide, 57, 2001, o9, rfl, by decide, _, _, rfl, rfl, szs mi (r9 _) (by decide), 40, 41, oo, rfl, by decide, 41, 41, oc, rfl, by decide, _, _, rfl, rfl, szs (ro _) (rc _) (by decide), 40, 40, oo, rfl, by decide, 41, 40, oc, rfl, by decide, _, _, rfl, rfl, szs (ro _) (rc _) (by decide), 49, 2000, o1, rfl, by decide, 57, 2000, o9, rfl, by decide, _, _, rfl, rfl, szs mi (r9 _) (by decide), (by show 14 ≤ sizeLine; decide), fun g hg => ⟨g, rfl, tq.kept (Same.kept (same_new hg _)), ?_, hb6.same (same_new hg _)⟩⟩
      exact TxtAt.new (ys := [_, _, _, _, _, _, _, _, _, _, _, _, _, _]) hb6 hg (allc ((r1 2001).t (by decide)) (allc ((mi.app (r9 2001)).t (by decide)) (allc (((ro 41).app (rc 41)).t (by decide)) (allc (((ro 40).app (rc 40)).t (by decide))
        (allc ((l_ (n := 10) (by decide +kernel) (by decide +kernel)).t (by decide)) (allc ((l_ (n := 10) (by decide +kernel) (by decide +kernel)).t (by decide)) (allc ((l_ (n := 10) (by decide +kernel) (by decide +kernel)).t (by decide)) (allc ((l_ (n := 10) (by decide +kernel) (by decide +kernel)).t (by decide))
        (allc ((l_ (n := 10) (by decide +kernel) (by decide +kernel)).t (by decide)) (allc ((l_ (n := 10) (by decide +kernel) (by decide +kernel)).t (by decide)) (allc ((l_ (n := 10) (by decide +kernel) (by decide +kernel)).t (by decide)) (allc ((l_ (n := 10) (by decide +kernel) (by decide +kernel)).t (by decide))
        (allc ((r1 2000).t (by decide)) (allc ((mi.app (r9 2000)).t (by decide)) all0))))))))))))))
    rintro σ' H7 ⟨g, rfl, tq, tg, hb7⟩
    -- changed, and one of great
    refine ⟨fun σ' H' => ∃ q : Addr, σ' = [some (.ref a), some (.ref b), some (.int (0 + (i : Int))), some (.str z), some (.int ((k : Nat) : Int)), some (.str y), some (.ref q), some (.ref g), x8] ∧ TxtAt H' b p q 6 ∧ TxtAt H' b p g 14 ∧ Box H' b p, ?_, ?_⟩
    · refine ⟨_, rfl, _, rfl, _, rfl, b, p, 900, rfl, by decide, hb7, fun m H8 m0 m1 hb8 kp8 => .inl ⟨_, rfl, _, _, rfl, rfl, (show (0 : Int) < 8 by decide), _, _, rfl, rfl, ?_⟩⟩
      have j0 := Int.emod_nonneg m (b := 8) (by decide)
      have j1 := Int.emod_lt_of_pos m (b := 8) (by decide)
      obtain ⟨vs, x, hg, hat, gx⟩ := (tg.kept kp8).get (j := 4 + m % 8) (by omega) (by omega)
      obtain ⟨n1, n2, ys, e1, e2, e3⟩ := tq.kept kp8
      refine ⟨g, _, _, _, rfl, rfl, SqL.of hg, hat, (by show 1 ≤ sizeLine; decide), fun u hu => ⟨q, u, _, _, rfl, rfl, same_new hu _ _ _ e1, upd_same, small16 (by rw [List.length_map, e2]; show 5 + 1 ≤ _; decide), fun r hr => ⟨r, rfl, ?_, ?_, ?_⟩⟩⟩
      · have hb9 := hb8.same (same_new hu (.lst [.str x]))
        have t := TxtAt.new (ys := ys ++ [x]) hb9 hr (fun y' hy' => by
          rcases List.mem_append.mp hy' with h | h
          · exact e3 y' h
          · rw [List.mem_singleton] at h; rw [h]; exact gx)
        rw [List.length_append, e2, List.map_append] at t
        exact t
      · exact (tg.kept kp8).kept (Same.kept ((same_new hu _).trans (same_new hr _)))
      · exact hb8.same ((same_new hu _).trans (same_new hr _))
    rintro σ' H8 ⟨q, rfl, tq, tg, hb8⟩
    -- if turn == 0
    refine ⟨fun σ' H' => σ' = [some (.ref a), some (.ref b), some (.int (0 + (i : Int))), some (.str z), some (.int ((k : Nat) : Int)), some (.str y), some (.ref q), some (.ref g), x8] ∧ TxtAt H' b p q 6 ∧ Box H' b p, ?_, ?_⟩
    · refine ⟨_, rfl, rfl, _, rfl, ite2 (fun _ => ?_) (fun _ => ⟨rfl, tq, hb8⟩)⟩
      refine ⟨_, rfl, _, rfl, b, p, 900, rfl, by decide, hb8, fun m H9 m0 m1 hb9 kp9 => .inl ⟨_, rfl, _, _, rfl, rfl, (show (0 : Int) < 14 by decide), ?_⟩⟩
      obtain ⟨vs, x, hg, hat, gx⟩ := (tg.kept kp9).get (j := m % 14) (Int.emod_nonneg m (b := 14) (by decide)) (Int.emod_lt_of_pos m (b := 14) (by decide))
      obtain ⟨n1, n2, ys, e1, e2, e3⟩ := tq.kept kp9
      refine ⟨g, _, _, _, rfl, rfl, SqL.of hg, hat, _, rfl, q, _, 5, 5, rfl, rfl, e1, (by rw [List.length_map, e2]; rfl), rfl, ⟨n1, n2, ys.set 5 x, ?_, ?_, fun y' hy' => ?_⟩, hb9.other n1 n2⟩
      · rw [upd_same, List.map_set]
      · rw [List.length_set, e2]
      · rcases List.mem_or_eq_of_mem_set hy' with h | h
        · exact e3 y' h
        · rw [h]; exact gx
    rintro σ' H9 ⟨rfl, tq, hb9⟩
    -- text
    refine ⟨fun σ' H' => ∃ z : Str, σ' = [some (.ref a), some (.ref b), some (.int (0 + (i : Int))), some (.str z), some (.int ((k : Nat) : Int)), some (.str y), some (.ref q), some (.ref g), x8] ∧ GoodT z ∧ Box H' b p, ?_, ?_⟩
    · refine ⟨_, rfl, _, rfl, b, p, 6, rfl, by decide, hb9, fun m Ha m0 m1 hba kpa => ?_⟩
      obtain ⟨vs, x, hg, hat, gx⟩ := (tq.kept kpa).get (j := m) m0 (by omega)
      exact ⟨q, _, _, _, rfl, rfl, SqL.of hg, hat, x, rfl, gx, hba⟩
    rintro σ' Hb ⟨z2, rfl, gz, hbb⟩
    have hz2 : z2.length ≤ 1000000 := by
      have := gz.len
      omega
    refine ⟨_, rfl, z2, rfl, ⟨hz2, gz.fair⟩, fun v Hc sc rc => ?_⟩
    refine ⟨_, rfl, z2, rfl, ⟨hz2, gz.fair⟩, fun v2 Hd sd rd => ?_⟩
    exact ⟨_, rfl, told z2, _, _, rfl, told_lim hz2, rd, rc.mono (Same.tup sd), true, rfl, iteN rfl ⟨_, _, _, _, _, _, _, rfl, (hbb.same sc).same sd⟩⟩
  · rintro σ H2 ⟨x2, x3, x4, x5, x6, x7, x8, rfl, hb2⟩
    exact fin H2
end
end Tst

namespace Tst
open PySem PySem.Spec PyProof.Rows L2 TL PySem.W PySem.Calls PySem.HandSPX
/-- an error of the class at S is what «except S» names -/
theorem exm_own {K : PySem.W.Frag} {S : Addr} (h1 : PySem.W.subIn K (.ref S) (.type "BaseException") = some true) (h2 : PySem.W.isClsIn K S = true) (h3 : PySem.W.typeIn K (.ref S) = some (.type "type")) (h4 : PySem.W.subIn K (.ref S) (.ref S) = some true) :
    PySem.W.exmOne K (.ref S) (.ref S) = some true := by
  have h2' : (PySem.W.clsIn K S).isSome = true := h2
  have e2 : ((PySem.W.clsIn K S).isSome && PySem.W.typeIn K (.ref S) == some (.type "type")) = true := by rw [h2', h3] <;> rfl
  have e1 : (PySem.W.subIn K (.ref S) (.type "BaseException") == some true) = true := by rw [h1] <;> rfl
  unfold PySem.W.exmOne PySem.W.kitCls
  rw [if_pos e1]
  simp only
  rw [if_pos e2]
  exact h4
/-! ### the text's top -/
theorem all_mk {l : PySem.W.OpenLaw} {w : World} {K : PySem.W.Frag} {h : Heap} {mg : Str → Option Value} {fa : Addr} (X : K.In h) (G : h.Ns mainGlobals mg) (hfa : mg "law" = some (.ref fa)) {f0 : Addr} {od0 an0 : Option Addr} {sl0 : Array (Option Value)} {oc0 kV0 dc0 pm0 cd0 ct0 : Value} {f1 : Addr} {od1 an1 : Option Addr} {sl1 : Array (Option Value)} {oc1 kV1 dc1 pm1 cd1 ct1 : Value} {f2 : Addr} {od2 an2 : Option Addr} {sl2 : Array (Option Value)} {oc2 kV2 dc2 pm2 cd2 ct2 : Value} {f3 : Addr} {od3 an3 : Option Addr} {sl3 : Array (Option Value)} {oc3 kV3 dc3 pm3 cd3 ct3 : Value} {f4 : Addr} {od4 an4 : Option Addr} {sl4 : Array (Option Value)} {oc4 kV4 dc4 pm4 cd4 ct4 : Value} {f5 : Addr} {od5 an5 : Option Addr} {sl5 : Array (Option Value)} {oc5 kV5 dc5 pm5 cd5 ct5 : Value} {f6 : Addr} {od6 an6 : Option Addr} {sl6 : Array (Option Value)} {oc6 kV6 dc6 pm6 cd6 ct6 : Value} {f7 : Addr} {od7 an7 : Option Addr} {sl7 : Array (Option Value)} {oc7 kV7 dc7 pm7 cd7 ct7 : Value} {f8 : Addr} {od8 an8 : Option Addr} {sl8 : Array (Option Value)} {oc8 kV8 dc8 pm8 cd8 ct8 : Value} {f9 : Addr} {od9 an9 : Option Addr} {sl9 : Array (Option Value)} {oc9 kV9 dc9 pm9 cd9 ct9 : Value} {f10 : Addr} {od10 an10 : Option Addr} {sl10 : Array (Option Value)} {oc10 kV10 dc10 pm10 cd10 ct10 : Value} {f11 : Addr} {od11 an11 : Option Addr} {sl11 : Array (Option Value)} {oc11 kV11 dc11 pm11 cd11 ct11 : Value} {f12 : Addr} {od12 an12 : Option Addr} {sl12 : Array (Option Value)} {oc12 kV12 dc12 pm12 cd12 ct12 : Value} {f13 : Addr} {od13 an13 : Option Addr} {sl13 : Array (Option Value)} {oc13 kV13 dc13 pm13 cd13 ct13 : Value} {f14 : Addr} {od14 an14 : Option Addr} {sl14 : Array (Option Value)} {oc14 kV14 dc14 pm14 cd14 ct14 : Value} {f15 : Addr} {od15 an15 : Option Addr} {sl15 : Array (Option Value)} {oc15 kV15 dc15 pm15 cd15 ct15 : Value} {f16 : Addr} {od16 an16 : Option Addr} {sl16 : Array (Option Value)} {oc16 kV16 dc16 pm16 cd16 ct16 : Value} {tF : Tok} {tM : Tok} {tB : Tok}
    {C fI ccI cdaI CT CB : Addr} {nm q : Str} {N : Addr} {bs bm : List Value} {sn : List Str} {sub : List Value} {ab : Bool} {col : Option Bool} {dd : Option Addr} {m0 m1 m2 m3 m5 : Option Value}
    {odI anI : Option Addr} {slI : Array (Option Value)} {ocI dcI pmI ctI : Value} {clC cdC : Value} {dlC ddC : Option Addr} {slC scC : Array (Option Value)} {vsC : Array Value} {fiC : Str} {tfC : Tok}
    (a0 : PySem.W.nsIn K mainGlobals "read_plain" = some (some (.ref f0))) (l0 : K.lookup f0 = some ⟨oc0, od0, .func (PySem.W.fnOf "read_plain" "read_plain" (defArgs s_read_plain) (defBody s_read_plain) (defScope s_read_plain) .none kV0 dc0 pm0 an0 cd0 ct0), sl0⟩) (c0 : PySem.W.codeIn K cd0 "read_plain" = true) (k0 : PySem.W.keepIn K (.ref f0) = true)
    (a1 : PySem.W.nsIn K mainGlobals "value_at" = some (some (.ref f1))) (l1 : K.lookup f1 = some ⟨oc1, od1, .func (PySem.W.fnOf "value_at" "value_at" (defArgs s_value_at) (defBody s_value_at) (defScope s_value_at) .none kV1 dc1 pm1 an1 cd1 ct1), sl1⟩) (c1 : PySem.W.codeIn K cd1 "value_at" = true) (k1 : PySem.W.keepIn K (.ref f1) = true)
    (a2 : PySem.W.nsIn K mainGlobals "integer_at" = some (some (.ref f2))) (l2 : K.lookup f2 = some ⟨oc2, od2, .func (PySem.W.fnOf "integer_at" "integer_at" (defArgs s_integer_at) (defBody s_integer_at) (defScope s_integer_at) .none kV2 dc2 pm2 an2 cd2 ct2), sl2⟩) (c2 : PySem.W.codeIn K cd2 "integer_at" = true) (k2 : PySem.W.keepIn K (.ref f2) = true)
    (a3 : PySem.W.nsIn K mainGlobals "text_at" = some (some (.ref f3))) (l3 : K.lookup f3 = some ⟨oc3, od3, .func (PySem.W.fnOf "text_at" "text_at" (defArgs s_text_at) (defBody s_text_at) (defScope s_text_at) .none kV3 dc3 pm3 an3 cd3 ct3), sl3⟩) (c3 : PySem.W.codeIn K cd3 "text_at" = true) (k3 : PySem.W.keepIn K (.ref f3) = true)
    (a4 : PySem.W.nsIn K mainGlobals "tuple_at" = some (some (.ref f4))) (l4 : K.lookup f4 = some ⟨oc4, od4, .func (PySem.W.fnOf "tuple_at" "tuple_at" (defArgs s_tuple_at) (defBody s_tuple_at) (defScope s_tuple_at) .none kV4 dc4 pm4 an4 cd4 ct4), sl4⟩) (c4 : PySem.W.codeIn K cd4 "tuple_at" = true) (k4 : PySem.W.keepIn K (.ref f4) = true)
    (a5 : PySem.W.nsIn K mainGlobals "_law_cell" = some (some (.ref f5))) (l5 : K.lookup f5 = some ⟨oc5, od5, .func (PySem.W.fnOf "_law_cell" "_law_cell" (defArgs s__law_cell) (defBody s__law_cell) (defScope s__law_cell) .none kV5 dc5 pm5 an5 cd5 ct5), sl5⟩) (c5 : PySem.W.codeIn K cd5 "_law_cell" = true) (k5 : PySem.W.keepIn K (.ref f5) = true)
    (a6 : PySem.W.nsIn K mainGlobals "_law_digits" = some (some (.ref f6))) (l6 : K.lookup f6 = some ⟨oc6, od6, .func (PySem.W.fnOf "_law_digits" "_law_digits" (defArgs s__law_digits) (defBody s__law_digits) (defScope s__law_digits) .none kV6 dc6 pm6 an6 cd6 ct6), sl6⟩) (c6 : PySem.W.codeIn K cd6 "_law_digits" = true) (k6 : PySem.W.keepIn K (.ref f6) = true)
    (a7 : PySem.W.nsIn K mainGlobals "_law_draw" = some (some (.ref f7))) (l7 : K.lookup f7 = some ⟨oc7, od7, .func (PySem.W.fnOf "_law_draw" "_law_draw" (defArgs s__law_draw) (defBody s__law_draw) (defScope s__law_draw) .none kV7 dc7 pm7 an7 cd7 ct7), sl7⟩) (c7 : PySem.W.codeIn K cd7 "_law_draw" = true) (k7 : PySem.W.keepIn K (.ref f7) = true)
    (a8 : PySem.W.nsIn K mainGlobals "_law_same" = some (some (.ref f8))) (l8 : K.lookup f8 = some ⟨oc8, od8, .func (PySem.W.fnOf "_law_same" "_law_same" (defArgs s__law_same) (defBody s__law_same) (defScope s__law_same) .none kV8 dc8 pm8 an8 cd8 ct8), sl8⟩) (c8 : PySem.W.codeIn K cd8 "_law_same" = true) (k8 : PySem.W.keepIn K (.ref f8) = true)
    (a9 : PySem.W.nsIn K mainGlobals "_law_plain" = some (some (.ref f9))) (l9 : K.lookup f9 = some ⟨oc9, od9, .func (PySem.W.fnOf "_law_plain" "_law_plain" (defArgs s__law_plain) (defBody s__law_plain) (defScope s__law_plain) .none kV9 dc9 pm9 an9 cd9 ct9), sl9⟩) (c9 : PySem.W.codeIn K cd9 "_law_plain" = true) (k9 : PySem.W.keepIn K (.ref f9) = true)
    (a10 : PySem.W.nsIn K mainGlobals "_law_text_at" = some (some (.ref f10))) (l10 : K.lookup f10 = some ⟨oc10, od10, .func (PySem.W.fnOf "_law_text_at" "_law_text_at" (defArgs s__law_text_at) (defBody s__law_text_at) (defScope s__law_text_at) .none kV10 dc10 pm10 an10 cd10 ct10), sl10⟩) (c10 : PySem.W.codeIn K cd10 "_law_text_at" = true) (k10 : PySem.W.keepIn K (.ref f10) = true)
    (a11 : PySem.W.nsIn K mainGlobals "_law_digits_at" = some (some (.ref f11))) (l11 : K.lookup f11 = some ⟨oc11, od11, .func (PySem.W.fnOf "_law_digits_at" "_law_digits_at" (defArgs s__law_digits_at) (defBody s__law_digits_at) (defScope s__law_digits_at) .none kV11 dc11 pm11 an11 cd11 ct11), sl11⟩) (c11 : PySem.W.codeIn K cd11 "_law_digits_at" = true) (k11 : PySem.W.keepIn K (.ref f11) = true)
    (a12 : PySem.W.nsIn K mainGlobals "_law_value_at" = some (some (.ref f12))) (l12 : K.lookup f12 = some ⟨oc12, od12, .func (PySem.W.fnOf "_law_value_at" "_law_value_at" (defArgs s__law_value_at) (defBody s__law_value_at) (defScope s__law_value_at) .none kV12 dc12 pm12 an12 cd12 ct12), sl12⟩) (c12 : PySem.W.codeIn K cd12 "_law_value_at" = true) (k12 : PySem.W.keepIn K (.ref f12) = true)
    (a13 : PySem.W.nsIn K mainGlobals "_law_read" = some (some (.ref f13))) (l13 : K.lookup f13 = some ⟨oc13, od13, .func (PySem.W.fnOf "_law_read" "_law_read" (defArgs s__law_read) (defBody s__law_read) (defScope s__law_read) .none kV13 dc13 pm13 an13 cd13 ct13), sl13⟩) (c13 : PySem.W.codeIn K cd13 "_law_read" = true) (k13 : PySem.W.keepIn K (.ref f13) = true)
    (a14 : PySem.W.nsIn K mainGlobals "_law_told" = some (some (.ref f14))) (l14 : K.lookup f14 = some ⟨oc14, od14, .func (PySem.W.fnOf "_law_told" "_law_told" (defArgs s__law_told) (defBody s__law_told) (defScope s__law_told) .none kV14 dc14 pm14 an14 cd14 ct14), sl14⟩) (c14 : PySem.W.codeIn K cd14 "_law_told" = true) (k14 : PySem.W.keepIn K (.ref f14) = true)
    (a15 : PySem.W.nsIn K mainGlobals "_law_value" = some (some (.ref f15))) (l15 : K.lookup f15 = some ⟨oc15, od15, .func (PySem.W.fnOf "_law_value" "_law_value" (defArgs s__law_value) (defBody s__law_value) (defScope s__law_value) .none kV15 dc15 pm15 an15 cd15 ct15), sl15⟩) (c15 : PySem.W.codeIn K cd15 "_law_value" = true) (k15 : PySem.W.keepIn K (.ref f15) = true)
    (a16 : PySem.W.nsIn K mainGlobals "law" = some (some (.ref f16))) (l16 : K.lookup f16 = some ⟨oc16, od16, .func (PySem.W.fnOf "law" "law" (defArgs s_law) (defBody s_law) (defScope s_law) .none kV16 dc16 pm16 an16 cd16 ct16), sl16⟩) (c16 : PySem.W.codeIn K cd16 "law" = true) (k16 : PySem.W.keepIn K (.ref f16) = true)
    (z_len : PySem.W.nsIn K mainGlobals "len" = some none)
    (z_isinstance : PySem.W.nsIn K mainGlobals "isinstance" = some none)
    (z_int : PySem.W.nsIn K mainGlobals "int" = some none)
    (z_str : PySem.W.nsIn K mainGlobals "str" = some none)
    (z_tuple : PySem.W.nsIn K mainGlobals "tuple" = some none)
    (z_bool : PySem.W.nsIn K mainGlobals "bool" = some none)
    (z_range : PySem.W.nsIn K mainGlobals "range" = some none)
    (z_ord : PySem.W.nsIn K mainGlobals "ord" = some none)
    (z_ValueError : PySem.W.nsIn K mainGlobals "ValueError" = some none)
    (z_super : PySem.W.nsIn K mainGlobals "super" = some none)
    (g_FIGURES : PySem.W.nsIn K mainGlobals "FIGURES" = some (some (.str (Str.ofString "0123456789") tF)))
    (g_MOST_FIGURES : PySem.W.nsIn K mainGlobals "MOST_FIGURES" = some (some (.int 2000 tM)))
    (g_MOST_BRACKETS : PySem.W.nsIn K mainGlobals "MOST_BRACKETS" = some (some (.int 40 tB)))
    (aC : PySem.W.nsIn K mainGlobals "BadPlain" = some (some (.ref C))) (aT : PySem.W.nsIn K mainGlobals "TermError" = some (some (.ref CT))) (aB : PySem.W.nsIn K mainGlobals "BadText" = some (some (.ref CB)))
    (xC : K.lookup C = some (excClassObj nm q C N bs bm true sn sub ab col dd m0 m1 m2 m3 m5 "ValueError.__new__")) (xM : refsVE bm = true)
    (sa : findIn K (.ref C) "__setattr__" = some (some (.builtin "object.__setattr__"))) (ga : findIn K (.ref C) "__getattribute__" = some (some (.builtin "BaseException.__getattribute__"))) (gg : findIn K (.ref C) "__getattr__" = some none) (nb : findIn K (.ref C) "place" = some none)
    (iI : findIn K (.ref C) "__init__" = some (some (.ref fI))) (tI : typeIn K (.ref fI) = some (.type "function")) (lI : K.lookup fI = some ⟨ocI, odI, .func (PySem.W.fnX "__init__" "BadPlain.__init__" (supA "place" ⟨12, 17, 12, 21⟩ ⟨12, 23, 12, 28⟩) (supB eBP "place" ⟨13, 8, 13, 13⟩ ⟨13, 8, 13, 15⟩ ⟨13, 8, 13, 24⟩ ⟨13, 8, 13, 36⟩ ⟨13, 8, 13, 36⟩ ⟨14, 8, 14, 12⟩ ⟨14, 8, 14, 18⟩ ⟨14, 21, 14, 26⟩ ⟨14, 8, 14, 26⟩) (supS "place") [("__class__", ccI)] .none .none dcI pmI anI (.ref cdaI) ctI), slI⟩) (cI : codeIn K (.ref cdaI) "BadPlain.__init__" = true)
    (kC : keepIn K (.ref C) = true) (eC : subIn K (.ref C) (.type "BaseException") = some true) (tC : typeIn K (.ref C) = some (.type "type")) (hC : hasDictIn K C = true) (sC : isClsIn K C = true) (uC : subIn K (.ref C) (.ref C) = some true)
    (lcc : K.lookup ccI = some ⟨clC, dlC, .cell (some (.ref C)), slC⟩) (mC : mroIn K C (.ref C) = some true) (lcd : K.lookup cdaI = some ⟨cdC, ddC, .fields vsC, scC⟩) (vC : vsC[2]? = some (.str fiC tfC)) (fC : ((l.prog.main.file : Str) == fiC) = true)
    (topC : (l.prog.main.scope.names.lookup ("super" : Str)).isSome = false) (oC : nsIn K cStatics "thirdparty.any" = some none) (alC : ks_superIn K C C "__init__" = some (some (.builtin "ValueError.__init__"))) (vE : subIn K (.ref C) (.type "ValueError") = some true)
    (nd : nsIn K cStatics "sys.int_max_str_digits" = some none)
    (ki1 : findIn K (.ref C) "__class__" = some (some (.builtin "object.__class__"))) (ki2 : specialIn K (.builtin "object.__class__") "__get__" = some (some (.builtin "getset_descriptor.__get__"))) (ki3 : takesIn K (.builtin "object.__class__") = some true) (ki4 : mroIn K C (.type "object") = some true)
    (kk1 : kitOne K (.ref C) (.ref CT) = some true) (kk2 : kitOne K (.ref C) (.type "ValueError") = some true) (kk3 : kitOne K (.ref C) (.ref CB) = some false) :
    ∃ fd : FuncData, (∀ (s : Shared) (v : Value), BindsTo s fd ⟨[v], []⟩ [("script", v)]) ∧ ∀ base : Heap, K.In base → base.Ns mainGlobals mg → FnOk l.prog w K mg base CX0 87 fa fd ["script"] (spLaw K) := by
  have e := hfa.symm.trans (PySem.W.mg_of X G a16)
  cases e
  have F_read_plain := fun_mk (st := s_read_plain) l0 c0 k0
  have b_read_plain := F_read_plain.binds (ps := ["text"]) fun _ _ _ _ _ _ us hl => match us, hl with | [_], _ => rfl
  have m_read_plain := PySem.W.mg_of X G a0
  have F_value_at := fun_mk (st := s_value_at) l1 c1 k1
  have b_value_at := F_value_at.binds (ps := ["text", "place", "within"]) fun _ _ _ _ _ _ us hl => match us, hl with | [_, _, _], _ => rfl
  have m_value_at := PySem.W.mg_of X G a1
  have F_integer_at := fun_mk (st := s_integer_at) l2 c2 k2
  have b_integer_at := F_integer_at.binds (ps := ["text", "place"]) fun _ _ _ _ _ _ us hl => match us, hl with | [_, _], _ => rfl
  have m_integer_at := PySem.W.mg_of X G a2
  have F_text_at := fun_mk (st := s_text_at) l3 c3 k3
  have b_text_at := F_text_at.binds (ps := ["text", "place"]) fun _ _ _ _ _ _ us hl => match us, hl with | [_, _], _ => rfl
  have m_text_at := PySem.W.mg_of X G a3
  have F_tuple_at := fun_mk (st := s_tuple_at) l4 c4 k4
  have b_tuple_at := F_tuple_at.binds (ps := ["text", "place", "within"]) fun _ _ _ _ _ _ us hl => match us, hl with | [_, _, _], _ => rfl
  have m_tuple_at := PySem.W.mg_of X G a4
  have F__law_cell := fun_mk (st := s__law_cell) l5 c5 k5
  have b__law_cell := F__law_cell.binds (ps := ["script", "k"]) fun _ _ _ _ _ _ us hl => match us, hl with | [_, _], _ => rfl
  have m__law_cell := PySem.W.mg_of X G a5
  have F__law_digits := fun_mk (st := s__law_digits) l6 c6 k6
  have b__law_digits := F__law_digits.binds (ps := ["script", "first", "last"]) fun _ _ _ _ _ _ us hl => match us, hl with | [_, _, _], _ => rfl
  have m__law_digits := PySem.W.mg_of X G a6
  have F__law_draw := fun_mk (st := s__law_draw) l7 c7 k7
  have b__law_draw := F__law_draw.binds (ps := ["box", "many"]) fun _ _ _ _ _ _ us hl => match us, hl with | [_, _], _ => rfl
  have m__law_draw := PySem.W.mg_of X G a7
  have F__law_same := fun_mk (st := s__law_same) l8 c8 k8
  have b__law_same := F__law_same.binds (ps := ["actual", "due"]) fun _ _ _ _ _ _ us hl => match us, hl with | [_, _], _ => rfl
  have m__law_same := PySem.W.mg_of X G a8
  have F__law_plain := fun_mk (st := s__law_plain) l9 c9 k9
  have b__law_plain := F__law_plain.binds (ps := ["value"]) fun _ _ _ _ _ _ us hl => match us, hl with | [_], _ => rfl
  have m__law_plain := PySem.W.mg_of X G a9
  have F__law_text_at := fun_mk (st := s__law_text_at) l10 c10 k10
  have b__law_text_at := F__law_text_at.binds (ps := ["text", "at"]) fun _ _ _ _ _ _ us hl => match us, hl with | [_, _], _ => rfl
  have m__law_text_at := PySem.W.mg_of X G a10
  have F__law_digits_at := fun_mk (st := s__law_digits_at) l11 c11 k11
  have b__law_digits_at := F__law_digits_at.binds (ps := ["text", "at"]) fun _ _ _ _ _ _ us hl => match us, hl with | [_, _], _ => rfl
  have m__law_digits_at := PySem.W.mg_of X G a11
  have F__law_value_at := fun_mk (st := s__law_value_at) l12 c12 k12
  have b__law_value_at := F__law_value_at.binds (ps := ["text", "at", "deep"]) fun _ _ _ _ _ _ us hl => match us, hl with | [_, _, _], _ => rfl
  have m__law_value_at := PySem.W.mg_of X G a12
  have F__law_read := fun_mk (st := s__law_read) l13 c13 k13
  have b__law_read := F__law_read.binds (ps := ["text"]) fun _ _ _ _ _ _ us hl => match us, hl with | [_], _ => rfl
  have m__law_read := PySem.W.mg_of X G a13
  have F__law_told := fun_mk (st := s__law_told) l14 c14 k14
  have b__law_told := F__law_told.binds (ps := ["text"]) fun _ _ _ _ _ _ us hl => match us, hl with | [_], _ => rfl
  have m__law_told := PySem.W.mg_of X G a14
  have F__law_value := fun_mk (st := s__law_value) l15 c15 k15
  have b__law_value := F__law_value.binds (ps := ["box", "deep"]) fun _ _ _ _ _ _ us hl => match us, hl with | [_, _], _ => rfl
  have m__law_value := PySem.W.mg_of X G a15
  have F_law := fun_mk (st := s_law) l16 c16 k16
  have b_law := F_law.binds (ps := ["script"]) fun _ _ _ _ _ _ us hl => match us, hl with | [_], _ => rfl
  have m_law := PySem.W.mg_of X G a16
  have T : Txt0 mg tF tM tB := ⟨PySem.W.mg_none_of X G z_len, PySem.W.mg_none_of X G z_isinstance, PySem.W.mg_none_of X G z_int, PySem.W.mg_none_of X G z_str, PySem.W.mg_none_of X G z_tuple, PySem.W.mg_none_of X G z_bool, PySem.W.mg_none_of X G z_range, PySem.W.mg_none_of X G z_ord,
    PySem.W.mg_of X G g_FIGURES, PySem.W.mg_of X G g_MOST_FIGURES, PySem.W.mg_of X G g_MOST_BRACKETS⟩
  have hte := exm_own (K := K) (S := C) eC sC tC uC
  have B : Bp l.prog K mg C fI ccI cdaI := ⟨{ gC := PySem.W.mg_of X G aC, obj := ⟨nm, q, N, bs, bm, sn, sub, ab, col, dd, m0, m1, m2, m3, m5, xC, xM⟩, sa := sa, ga := ga, gg := gg, noN := nb, iC := iI, tC := tI, kC := kC, exC := eC, tyC := tC, hdC := hC, te := hte, fn := ⟨_, _, _, _, _, _, _, _, _, _, _, _, _, _, _, _, _, _, _, lI, cI, ⟨_, fun env => ⟨rfl, rfl, rfl⟩⟩⟩, sup := PySem.W.mg_none_of X G z_super, cell := ⟨_, _, _, lcc⟩, me := mC, code := ⟨_, _, _, _, _, _, lcd, vC, fC⟩, top := topC, opq := oC, along := alC, isV := vE }, nd⟩
  have O : Oth K mg C CT CB := ⟨PySem.W.mg_of X G aT, PySem.W.mg_of X G aB, PySem.W.mg_none_of X G z_ValueError, ⟨ki1, ki2, ki3, ki4⟩, kk1, kk2, kk3⟩
  refine ⟨PySem.W.fnOf "law" "law" (defArgs s_law) (defBody s_law) (defScope s_law) .none kV16 dc16 pm16 an16 cd16 ct16, fun s v => .of_eq rfl, fun base _ _ => ?_⟩
  have C_cell : Cal l.prog w K mg base CX0 1 "_law_cell" ["script", "k"] (spCell K) := ⟨_, _, ok_cell F__law_cell T, b__law_cell, F__law_cell.kp, m__law_cell⟩
  have C_digits : Cal l.prog w K mg base CX0 2 "_law_digits" ["script", "first", "last"] (spDigits K) := ⟨_, _, ok_digits F__law_digits T C_cell, b__law_digits, F__law_digits.kp, m__law_digits⟩
  have C_draw : Cal l.prog w K mg base CX0 1 "_law_draw" ["box", "many"] spDraw := ⟨_, _, ok_draw F__law_draw T, b__law_draw, F__law_draw.kp, m__law_draw⟩
  have C_text : Cal l.prog w K mg base (L2.CX l.prog w) 3 "text_at" ["text", "place"] (spText C) := ⟨_, _, ok_text F_text_at T B, b_text_at, F_text_at.kp, m_text_at⟩
  have C_int : Cal l.prog w K mg base (L2.CX l.prog w) 3 "integer_at" ["text", "place"] (spInt C) := ⟨_, _, ok_int F_integer_at T B, b_integer_at, F_integer_at.kp, m_integer_at⟩
  have C_ltext : Cal l.prog w K mg base CX0 1 "_law_text_at" ["text", "at"] spLT := ⟨_, _, ok_ltext F__law_text_at T, b__law_text_at, F__law_text_at.kp, m__law_text_at⟩
  have C_lint : Cal l.prog w K mg base CX0 1 "_law_digits_at" ["text", "at"] spLI := ⟨_, _, ok_lint F__law_digits_at T B, b__law_digits_at, F__law_digits_at.kp, m__law_digits_at⟩
  have C_same : ∀ n, Cal l.prog w K mg base CX0 (n + 1) "_law_same" ["actual", "due"] (spSame n) := fun n => by
    induction n with
    | zero => exact ⟨_, _, ok_same F__law_same T (Cal.no b__law_same F__law_same.kp m__law_same fun vs H Q E ⟨m, h, _⟩ => absurd h (by omega)), b__law_same, F__law_same.kp, m__law_same⟩
    | succ n ih =>
      refine ⟨_, _, ok_same F__law_same T ?_, b__law_same, F__law_same.kp, m__law_same⟩
      obtain ⟨f, fd, F, b, kp, m⟩ := ih.ex
      exact ⟨f, fd, F.imp fun vs H Q E ⟨k, e, q⟩ => by cases e; exact q, b, kp, m⟩
  have C_plain : ∀ n, Cal l.prog w K mg base CX0 n "_law_plain" ["value"] (spPl n) := fun n => by
    induction n with
    | zero => exact Cal.no b__law_plain F__law_plain.kp m__law_plain fun vs H Q E ⟨d, v, _, ⟨h, _⟩, _⟩ => absurd h (Nat.not_lt_zero _)
    | succ n ih => exact ⟨_, _, ok_plain F__law_plain T ih, b__law_plain, F__law_plain.kp, m__law_plain⟩
  have C_value : ∀ n, Cal l.prog w K mg base CX0 (n + 2) "_law_value" ["box", "deep"] (spValue n) := fun n => by
    induction n with
    | zero => exact ⟨_, _, ok_value F__law_value T C_draw (Cal.no b__law_value F__law_value.kp m__law_value fun vs H Q E ⟨m, h, _⟩ => absurd h (by omega)), b__law_value, F__law_value.kp, m__law_value⟩
    | succ n ih =>
      refine ⟨_, _, ok_value F__law_value T C_draw ?_, b__law_value, F__law_value.kp, m__law_value⟩
      obtain ⟨f, fd, F, b, kp, m⟩ := ih.ex
      exact ⟨f, fd, F.imp fun vs H Q E ⟨k, e, q⟩ => by cases e; exact q, b, kp, m⟩
  have C_lval : ∀ n, Cal l.prog w K mg base CX0 (n + 2) "_law_value_at" ["text", "at", "deep"] (spLV n) := fun n => by
    induction n with
    | zero => exact ⟨_, _, ok_lval F__law_value_at T C_ltext C_lint (Cal.no b__law_value_at F__law_value_at.kp m__law_value_at fun vs H Q E ⟨m, h, _⟩ => absurd h (by omega)), b__law_value_at, F__law_value_at.kp, m__law_value_at⟩
    | succ n ih =>
      refine ⟨_, _, ok_lval F__law_value_at T C_ltext C_lint ?_, b__law_value_at, F__law_value_at.kp, m__law_value_at⟩
      obtain ⟨f, fd, F, b, kp, m⟩ := ih.ex
      exact ⟨f, fd, F.imp fun vs H Q E ⟨k, e, q⟩ => by cases e; exact q, b, kp, m⟩
  have C_val : ∀ n, Cal l.prog w K mg base (L2.CX l.prog w) (2 * n + 4) "value_at" ["text", "place", "within"] (spVal C n) := fun n => by
    induction n with
    | zero => exact ⟨_, _, ok_val (n := 0) F_value_at T B C_text C_int (Cal.no b_tuple_at F_tuple_at.kp m_tuple_at fun vs H Q E ⟨m, h, _⟩ => absurd h (by omega)), b_value_at, F_value_at.kp, m_value_at⟩
    | succ n ih =>
      have G := ok_tup F_tuple_at T B ih (by omega)
      exact ⟨_, _, ok_val (n := 2 * n + 2) F_value_at T B C_text C_int ⟨_, _, G.imp fun vs H Q E ⟨k, e, q⟩ => by cases e; exact q, b_tuple_at, F_tuple_at.kp, m_tuple_at⟩, b_value_at, F_value_at.kp, m_value_at⟩
  have C_read : Cal l.prog w K mg base (L2.CX l.prog w) 85 "read_plain" ["text"] (spRead C) := ⟨_, _, ok_read F_read_plain T B (C_val 40) (by omega), b_read_plain, F_read_plain.kp, m_read_plain⟩
  have C_lread : Cal l.prog w K mg base CX0 43 "_law_read" ["text"] spTold := ⟨_, _, ok_lread F__law_read T (C_lval 40), b__law_read, F__law_read.kp, m__law_read⟩
  have C_told : Cal l.prog w K mg base CX0 86 "_law_told" ["text"] spTold := ⟨_, _, ok_told F__law_told T B O C_read, b__law_told, F__law_told.kp, m__law_told⟩
  exact ok_law F_law T C_digits C_draw (C_value 3) (C_plain 41) C_lread C_told (C_same 41)
theorem walk {l : PySem.W.OpenLaw} {q : Program} {loose : List Str} {XP : (Str → Option Value) → Heap → Prop} {YP : World → Heap → Prop} {d : DefRec} {K : Params → PySem.W.Frag} (hn : l.most = some 63) (hdf : d.params.defaults = [])
    (hY : ∀ (w : World) (h : Heap), YP w h → (K w.params).In h)
    (F : ∀ (w : World) (mg : Str → Option Value) (fa : Addr) (h : Heap), (K w.params).In h → h.Ns mainGlobals mg → mg d.name = some (.ref fa) →
      ∃ fd : FuncData, (∀ (s : Shared) (u : Value), BindsTo s fd ⟨[u], []⟩ [("script", u)]) ∧ ∀ base : Heap, (K w.params).In base → base.Ns mainGlobals mg → FnOk l.prog w (K w.params) mg base CX0 87 fa fd ["script"] (spLaw (K w.params))) :
    PySem.W.WalkO q loose XP YP l.row.toRowW d [] (fun f vs => PySem.call f vs) :=
  L2.walk_of (n := 63) (k := 87) (x := "script") (CX := fun _ => CX0) (sp := fun w => spLaw (K w.params)) hn (by decide) hdf ⟨rfl, by decide, by decide⟩ hY F (fun _ _ a ns hl _ hS => ⟨a, ns, rfl, hS, fun _ => rfl⟩) fun _ _ _ _ _ z => z
end Tst
open PySem PySem.W PyProof.Rows
set_option maxRecDepth 100000 in
set_option maxHeartbeats 0 in
theorem PySem.Challenge.cw_termstead_k19_plain_wrong_texts_holds : PySem.Challenge.rw_termstead_k19_plain_wrong_texts.Holds := by
  w_on; o_law; k_head; (case hw => w_witness2)
  k_fill
  refine Tst.walk (l := PySem.Challenge.rw_termstead_k19_plain_wrong_texts) rfl rfl (fun w h Y => PySem.W.kIn_of Y) ?F
  case F =>
    intro w mg fa h KX G hmg
    refine' Tst.all_mk (l := PySem.Challenge.rw_termstead_k19_plain_wrong_texts) KX G hmg ?a0 ?l0 ?c0 ?k0 ?a1 ?l1 ?c1 ?k1 ?a2 ?l2 ?c2 ?k2 ?a3 ?l3 ?c3 ?k3 ?a4 ?l4 ?c4 ?k4 ?a5 ?l5 ?c5 ?k5 ?a6 ?l6 ?c6 ?k6 ?a7 ?l7 ?c7 ?k7 ?a8 ?l8 ?c8 ?k8 ?a9 ?l9 ?c9 ?k9 ?a10 ?l10 ?c10 ?k10 ?a11 ?l11 ?c11 ?k11 ?a12 ?l12 ?c12 ?k12 ?a13 ?l13 ?c13 ?k13 ?a14 ?l14 ?c14 ?k14 ?a15 ?l15 ?c15 ?k15 ?a16 ?l16 ?c16 ?k16 ?z_len ?z_isinstance ?z_int ?z_str ?z_tuple ?z_bool ?z_range ?z_ord ?z_ValueError ?z_super ?g_FIGURES ?g_MOST_FIGURES ?g_MOST_BRACKETS ?aC ?aT ?aB ?xC ?xM ?sa ?ga ?gg ?nb ?iI ?tI ?lI ?cI ?kC ?eC ?tC ?hC ?sC ?uC ?lcc ?mC ?lcd ?vC ?fC ?topC ?oC ?alC ?vE ?nd ?ki1 ?ki2 ?ki3 ?ki4 ?kk1 ?kk2 ?kk3
    (case a0 => k_is); (case l0 => k_is); (case c0 => k_is); (case k0 => k_is)
    (case a1 => k_is); (case l1 => k_is); (case c1 => k_is); (case k1 => k_is)
    (case a2 => k_is); (case l2 => k_is); (case c2 => k_is); (case k2 => k_is)
    (case a3 => k_is); (case l3 => k_is); (case c3 => k_is); (case k3 => k_is)
    (case a4 => k_is); (case l4 => k_is); (case c4 => k_is); (case k4 => k_is)
    (case a5 => k_is); (case l5 => k_is); (case c5 => k_is); (case k5 => k_is)
    (case a6 => k_is); (case l6 => k_is); (case c6 => k_is); (case k6 => k_is)
    (case a7 => k_is); (case l7 => k_is); (case c7 => k_is); (case k7 => k_is)
    (case a8 => k_is); (case l8 => k_is); (case c8 => k_is); (case k8 => k_is)
    (case a9 => k_is); (case l9 => k_is); (case c9 => k_is); (case k9 => k_is)
    (case a10 => k_is); (case l10 => k_is); (case c10 => k_is); (case k10 => k_is)
    (case a11 => k_is); (case l11 => k_is); (case c11 => k_is); (case k11 => k_is)
    (case a12 => k_is); (case l12 => k_is); (case c12 => k_is); (case k12 => k_is)
    (case a13 => k_is); (case l13 => k_is); (case c13 => k_is); (case k13 => k_is)
    (case a14 => k_is); (case l14 => k_is); (case c14 => k_is); (case k14 => k_is)
    (case a15 => k_is); (case l15 => k_is); (case c15 => k_is); (case k15 => k_is)
    (case a16 => k_is); (case l16 => k_is); (case c16 => k_is); (case k16 => k_is)
    (case z_len => k_is)
    (case z_isinstance => k_is)
    (case z_int => k_is)
    (case z_str => k_is)
    (case z_tuple => k_is)
    (case z_bool => k_is)
    (case z_range => k_is)
    (case z_ord => k_is)
    (case z_ValueError => k_is)
    (case z_super => k_is)
    (case g_FIGURES => k_is)
    (case g_MOST_FIGURES => k_is)
    (case g_MOST_BRACKETS => k_is)
    (case aC => k_is); (case aT => k_is); (case aB => k_is); (case xC => k_is); (case xM => decide +kernel); (case sa => k_is); (case ga => k_is); (case gg => k_is); (case nb => k_is); (case iI => k_is); (case tI => k_is); (case lI => k_is); (case cI => k_is)
    (case kC => k_is); (case eC => k_is); (case tC => k_is); (case hC => k_is); (case sC => k_is); (case uC => k_is); (case lcc => k_is); (case mC => k_is); (case lcd => k_is); (case vC => rfl); (case fC => first | rfl | decide +kernel); (case topC => first | rfl | decide +kernel); (case oC => k_is); (case alC => first | rfl | kernel_rfl); (case vE => k_is)
    (case nd => k_is); (case ki1 => k_is); (case ki2 => k_is); (case ki3 => k_is); (case ki4 => k_is); (case kk1 => first | rfl | kernel_rfl); (case kk2 => first | rfl | kernel_rfl); (case kk3 => first | rfl | kernel_rfl)
