import PyProof.Rows.All
import Wide.All
import OpenK.AllK
import Wide.FinOn
import HandS.ForMost
import HandS.IsInst
import HandS.ReplaceLit
import HandS.StrMore
import HandS.ReplaceList
import HandS.Style
import HandS.TupLe
import HandS.Codes
import PySem.Challenge.RW_termstead_k18_plain_there_and_back
set_option Elab.async false
set_option linter.all false
set_option maxRecDepth 100000
set_option maxHeartbeats 4000000
/-! Plain values and their texts, in plain Lean: what is shown, what is read. -/
namespace Tst
open PySem L2 TL
/-- a plain value -/
inductive D where
  | non | bl (b : Bool) | int (i : Int) | str (z : Str) | tup (xs : List D)
/-- a sign of a text between quotes -/
def enc1 (c : Nat) : List Nat := if c = 92 then [92, 92] else if c = 34 then [92, 34] else if c = 10 then [92, 110] else [c]
def encL (s : List Nat) : List Nat := s.flatMap enc1
def numI : Int → List Nat
  | .ofNat n => numL n
  | .negSucc n => 45 :: numL (n + 1)
mutual
def D.show : D → List Nat
  | .non => [78]
  | .bl true => [84]
  | .bl false => [70]
  | .int i => numI i
  | .str z => 34 :: (encL (tl z) ++ [34])
  | .tup xs => 40 :: (joinL [32] (D.shows xs) ++ [41])
def D.shows : List D → List (List Nat)
  | [] => []
  | d :: r => d.show :: D.shows r
end
mutual
def D.deep : D → Nat
  | .tup xs => D.deeps xs + 1
  | _ => 0
def D.deeps : List D → Nat
  | [] => 0
  | d :: r => max d.deep (D.deeps r)
end
mutual
/-- the integers in it are not too long -/
def D.Fit : D → Prop
  | .int i => i.natAbs < 10 ^ 200
  | .tup xs => D.Fits xs
  | _ => True
def D.Fits : List D → Prop
  | [] => True
  | d :: r => d.Fit ∧ D.Fits r
end
theorem shows_map : ∀ xs : List D, D.shows xs = xs.map D.show
  | [] => rfl
  | d :: r => by rw [D.shows, shows_map r]; rfl
theorem fits_mem : ∀ {xs : List D}, D.Fits xs → ∀ d ∈ xs, d.Fit
  | [], _, _, h => by cases h
  | a :: r, h, d, hd => by
    rw [D.Fits] at h
    rcases List.mem_cons.mp hd with rfl | q
    · exact h.1
    · exact fits_mem h.2 d q
theorem fits_of : ∀ {xs : List D}, (∀ d ∈ xs, d.Fit) → D.Fits xs
  | [], _ => by rw [D.Fits]; trivial
  | a :: r, h => by rw [D.Fits]; exact ⟨h a List.mem_cons_self, fits_of fun d q => h d (List.mem_cons_of_mem _ q)⟩
theorem deeps_mem : ∀ {xs : List D}, ∀ d ∈ xs, d.deep ≤ D.deeps xs
  | [], _, h => by cases h
  | a :: r, d, hd => by
    rw [D.deeps]
    rcases List.mem_cons.mp hd with rfl | q
    · omega
    · have := deeps_mem d q; omega
theorem deeps_le {n : Nat} : ∀ {xs : List D}, (∀ d ∈ xs, d.deep ≤ n) → D.deeps xs ≤ n
  | [], _ => by rw [D.deeps]; omega
  | a :: r, h => by
    rw [D.deeps]
    have h1 := h a List.mem_cons_self
    have h2 := deeps_le (xs := r) fun d q => h d (List.mem_cons_of_mem _ q)
    omega

/-! ### reading -/
abbrev PR := Except Nat (D × Nat)
def textAt : List Nat → Nat → List Nat → Except Nat (List Nat × Nat)
  | [], p, _ => .error p
  | c :: r, p, acc =>
    if c = 34 then .ok (acc, p + 1)
    else if c = 92 then
      match r with
      | [] => .error (p + 1)
      | e :: r' => if e = 34 ∨ e = 92 then textAt r' (p + 2) (acc ++ [e]) else if e = 110 then textAt r' (p + 2) (acc ++ [10]) else .error (p + 1)
    else if c = 10 then .error p
    else textAt r (p + 1) (acc ++ [c])
def dig (c : Nat) : Bool := decide (48 ≤ c ∧ c ≤ 57)
def intAt (L : List Nat) (p : Nat) : PR :=
  let b := if L[p]? = some 45 then p + 1 else p
  match (L.drop b).takeWhile dig with
  | [] => .error b
  | c :: r =>
    if c = 48 then (if b > p then .error b else if r = [] then .ok (.int 0, b + 1) else .error (b + 1))
    else if r.length ≥ 2000 then .error (b + 2000)
    else .ok (.int (if b > p then - (NumText.digitsVal (c :: r) : Int) else (NumText.digitsVal (c :: r) : Int)), b + (r.length + 1))
def members (L : List Nat) (f : Nat → PR) : Nat → Nat → List D → PR
  | 0, p, _ => .error p
  | n + 1, p, acc =>
    match f p with
    | .error q => .error q
    | .ok (d, q) =>
      match L[q]? with
      | some c => if c = 41 then .ok (.tup (acc ++ [d]), q + 1) else if c = 32 then members L f n (q + 1) (acc ++ [d]) else .error q
      | none => .error q
def strOf (l : List Nat) : Str := ⟨l.toArray⟩
def valueAt (L : List Nat) : Nat → Nat → PR
  | l, p =>
    match L[p]? with
    | none => .error p
    | some c =>
      if c = 78 then .ok (.non, p + 1)
      else if c = 84 then .ok (.bl true, p + 1)
      else if c = 70 then .ok (.bl false, p + 1)
      else if c = 34 then
        match textAt (L.drop (p + 1)) (p + 1) [] with
        | .error q => .error q
        | .ok (s, q) => .ok (.str (strOf s), q)
      else if c = 40 then
        match l with
        | 0 => .error p
        | l' + 1 => if L[p + 1]? = some 41 then .ok (.tup [], p + 2) else members L (valueAt L l') (L.length + 1) (p + 1) []
      else intAt L p
def readL (L : List Nat) : Except Nat D :=
  match valueAt L 40 0 with
  | .error q => .error q
  | .ok (d, q) => if q < L.length then .error q else .ok d

/-! ### what is shown is read back -/
theorem drop_cons {L r : List Nat} {p c : Nat} (h : L.drop p = c :: r) : L[p]? = some c ∧ L.drop (p + 1) = r ∧ p < L.length := by
  have hp : p < L.length := by
    have := congrArg List.length h
    rw [List.length_drop, List.length_cons] at this
    omega
  have e := List.drop_eq_getElem_cons hp
  rw [h] at e
  injection e with e1 e2
  exact ⟨by rw [List.getElem?_eq_getElem hp, e1], e2.symm, hp⟩
theorem drop_app {L a b : List Nat} {p : Nat} (h : L.drop p = a ++ b) : L.drop (p + a.length) = b := by
  rw [← List.drop_drop, h, List.drop_left]
theorem textAt_enc : ∀ (s post : List Nat) (p : Nat) (acc : List Nat), textAt (encL s ++ 34 :: post) p acc = .ok (acc ++ s, p + (encL s).length + 1)
  | [], post, p, acc => by
    show textAt (34 :: post) p acc = _
    unfold textAt
    simp [encL]
  | c :: s, post, p, acc => by
    have e : encL (c :: s) = enc1 c ++ encL s := by simp [encL]
    have ih := fun q ac => textAt_enc s post q ac
    rw [e]
    unfold enc1
    by_cases h1 : c = 92
    · subst h1
      simp [textAt, ih]
      omega
    · by_cases h2 : c = 34
      · subst h2
        simp [textAt, ih]
        omega
      · by_cases h3 : c = 10
        · subst h3
          simp [textAt, ih]
          omega
        · rw [if_neg h1, if_neg h2, if_neg h3]
          show textAt (c :: (encL s ++ 34 :: post)) p acc = _
          unfold textAt
          rw [if_neg h2, if_neg h1, if_neg h3, ih, List.append_assoc]
          simp
          omega
theorem dig_iff (c : Nat) : dig c = true ↔ 48 ≤ c ∧ c ≤ 57 := by simp [dig]
def Stop (post : List Nat) : Prop := ∀ c r, post = c :: r → dig c = false
theorem takeWhile_stop {ds post : List Nat} (hd : ∀ c ∈ ds, dig c = true) (hs : Stop post) : (ds ++ post).takeWhile dig = ds := by
  induction ds with
  | nil =>
    cases post with
    | nil => rfl
    | cons c r => rw [List.nil_append, List.takeWhile_cons, hs c r rfl]; rfl
  | cons a ds ih =>
    rw [List.cons_append, List.takeWhile_cons, hd a List.mem_cons_self, if_pos rfl, ih fun c q => hd c (List.mem_cons_of_mem _ q)]
theorem allDig (n : Nat) : ∀ c ∈ numL n, dig c = true := fun c hc => by
  have h := numL_digits n c hc
  rw [dig_iff]
  exact ⟨h.1, h.2⟩
theorem numL_head : ∀ (n : Nat), 0 < n → ∃ c r, numL n = c :: r ∧ c ≠ 48 := by
  intro n
  induction n using Nat.strongRecOn with
  | _ n ih =>
    intro h0
    by_cases h : n < 10
    · exact ⟨48 + n, [], by rw [numL_lt h], by omega⟩
    · rw [numL_step (by omega)]
      obtain ⟨c, r, e, hc⟩ := ih (n / 10) (by omega) (by omega)
      exact ⟨c, r ++ [48 + n % 10], by rw [e]; rfl, hc⟩
theorem numL_zero : numL 0 = [48] := numL_lt (by omega)
theorem numL_short {n : Nat} (h : n < 10 ^ 200) : (numL n).length ≤ 200 := numL_len (by omega) h
theorem intAt_num {L post : List Nat} {p : Nat} {i : Int} (h : L.drop p = numI i ++ post) (hs : Stop post) (hf : i.natAbs < 10 ^ 200) : intAt L p = .ok (.int i, p + (numI i).length) := by
  cases i with
  | ofNat n =>
    have hn : n < 10 ^ 200 := by simpa using hf
    change L.drop p = numL n ++ post at h
    have hne := numL_ne n
    cases e : numL n with
    | nil => exact absurd e hne
    | cons c r =>
      rw [e] at h
      have hc : dig c = true := allDig n c (by rw [e]; exact List.mem_cons_self)
      have hc' := (dig_iff c).mp hc
      have q := (drop_cons (r := r ++ post) h).1
      have hb : (if L[p]? = some 45 then p + 1 else p) = p := by rw [q, if_neg]; intro z; injection z with z; omega
      have ht : (L.drop p).takeWhile dig = c :: r := by
        rw [h]
        exact takeWhile_stop (ds := c :: r) (fun x hx => allDig n x (by rw [e]; exact hx)) hs
      have hv := numL_val n
      rw [e] at hv
      have hlen := numL_short hn
      rw [e, List.length_cons] at hlen
      unfold intAt
      simp only [hb, ht]
      rw [show (numI (Int.ofNat n)).length = r.length + 1 by show (numL n).length = _; rw [e, List.length_cons]]
      by_cases h0 : n = 0
      · subst h0
        rw [numL_zero] at e
        injection e with e1 e2
        subst e1 e2
        simp
      · obtain ⟨c', r', e', hc0⟩ := numL_head n (by omega)
        rw [e] at e'
        injection e' with e1 e2
        subst e1 e2
        rw [if_neg hc0, if_neg (by omega), if_neg (by omega), hv]
        rfl
  | negSucc n =>
    have hn : n + 1 < 10 ^ 200 := by simpa using hf
    change L.drop p = 45 :: numL (n + 1) ++ post at h
    obtain ⟨q1, q2, _⟩ := drop_cons (c := 45) (r := numL (n + 1) ++ post) h
    obtain ⟨c, r, e, hc0⟩ := numL_head (n + 1) (by omega)
    have hv := numL_val (n + 1)
    have hlen := numL_short hn
    rw [e] at hv hlen
    rw [List.length_cons] at hlen
    have ht : (L.drop (p + 1)).takeWhile dig = c :: r := by
      rw [q2, e]
      exact takeWhile_stop (ds := c :: r) (fun x hx => allDig (n + 1) x (by rw [e]; exact hx)) hs
    unfold intAt
    simp only [q1, if_true, ht]
    rw [if_neg hc0, if_neg (by omega), if_pos (by omega), hv, show (numI (Int.negSucc n)).length = r.length + 2 by show (45 :: numL (n + 1)).length = _; rw [List.length_cons, e, List.length_cons]]
    rw [show p + 1 + (r.length + 1) = p + (r.length + 2) by omega]
    rfl
theorem num_first : ∀ i : Int, ∃ c r, numI i = c :: r ∧ (dig c = true ∨ c = 45)
  | .ofNat n => by
    cases e : numL n with
    | nil => exact absurd e (numL_ne n)
    | cons c r => exact ⟨c, r, e, .inl (allDig n c (by rw [e]; exact List.mem_cons_self))⟩
  | .negSucc n => ⟨45, _, rfl, .inr rfl⟩
theorem stop_cons {c : Nat} {r : List Nat} (h : dig c = false) : Stop (c :: r) := fun c' r' e => by
  injection e with e1 _
  rw [← e1]; exact h
/-- the members, by the reader of one -/
theorem members_show {L : List Nat} {f : Nat → PR} : ∀ (ds : List D) (d : D) (n p : Nat) (acc : List D) (post : List Nat), ds.length < n →
    (∀ x ∈ d :: ds, ∀ p post, L.drop p = x.show ++ post → Stop post → f p = .ok (x, p + x.show.length)) → L.drop p = joinL [32] (D.shows (d :: ds)) ++ 41 :: post →
    members L f n p acc = .ok (.tup (acc ++ d :: ds), p + (joinL [32] (D.shows (d :: ds))).length + 1)
  | [], d, n + 1, p, acc, post, hn, hf, h => by
    have h : L.drop p = d.show ++ 41 :: post := h
    have e := hf d List.mem_cons_self p _ h (stop_cons (by decide))
    have q := (drop_cons (drop_app h)).1
    unfold members
    simp only [e, q]
    rfl
  | d2 :: ds, d, n + 1, p, acc, post, hn, hf, h => by
    have h : L.drop p = (d.show ++ 32 :: joinL [32] (D.shows (d2 :: ds))) ++ 41 :: post := h
    rw [List.append_assoc] at h
    have e := hf d List.mem_cons_self p _ h (stop_cons (by decide))
    obtain ⟨q, q2, _⟩ := drop_cons (drop_app h)
    have ih := members_show ds d2 n (p + d.show.length + 1) (acc ++ [d]) post (by rw [List.length_cons] at hn; omega) (fun x hx => hf x (List.mem_cons_of_mem _ hx)) q2
    unfold members
    simp only [e, q]
    rw [if_neg (by decide), if_pos True.intro, ih, List.append_assoc]
    show Except.ok (D.tup (acc ++ ([d] ++ d2 :: ds)), _) = Except.ok (D.tup (acc ++ d :: d2 :: ds), p + (d.show ++ 32 :: joinL [32] (D.shows (d2 :: ds))).length + 1)
    rw [List.length_append, List.length_cons]
    simp only [List.singleton_append]
    congr 2
    omega
theorem join_first : ∀ (ds : List D) (d : D) (x : Nat) (r : List Nat), d.show = x :: r → ∃ r', joinL [32] (D.shows (d :: ds)) = x :: r'
  | [], d, x, r, e => ⟨r, e⟩
  | d2 :: ds, d, x, r, e => by
    have z : joinL [32] (D.shows (d :: d2 :: ds)) = d.show ++ 32 :: joinL [32] (D.shows (d2 :: ds)) := rfl
    rw [z, e]
    exact ⟨_, rfl⟩
theorem show_first : ∀ d : D, ∃ c r, d.show = c :: r ∧ c ≠ 41
  | .non => ⟨78, [], rfl, by decide⟩
  | .bl true => ⟨84, [], rfl, by decide⟩
  | .bl false => ⟨70, [], rfl, by decide⟩
  | .int i => by
    obtain ⟨c, r, e, h⟩ := num_first i
    refine ⟨c, r, e, ?_⟩
    rcases h with h | h
    · rw [dig_iff] at h; omega
    · omega
  | .str z => ⟨34, _, rfl, by decide⟩
  | .tup xs => ⟨40, _, rfl, by decide⟩
theorem len_join : ∀ (ds : List D), ds.length ≤ (joinL [32] (D.shows ds)).length + 1
  | [] => by simp
  | [d] => by simp
  | d :: d2 :: ds => by
    have z : joinL [32] (D.shows (d :: d2 :: ds)) = d.show ++ 32 :: joinL [32] (D.shows (d2 :: ds)) := rfl
    have ih := len_join (d2 :: ds)
    rw [z, List.length_append, List.length_cons]
    rw [List.length_cons] at ih ⊢
    rw [List.length_cons]
    omega
theorem value_show {L : List Nat} : ∀ (l : Nat) (d : D) (p : Nat) (post : List Nat), d.deep ≤ l → d.Fit → L.drop p = d.show ++ post → Stop post → valueAt L l p = .ok (d, p + d.show.length) := by
  intro l
  induction l with
  | zero =>
    intro d p post hd hf h hs
    cases d with
    | non => obtain ⟨q, _⟩ := drop_cons (c := 78) (r := post) h; unfold valueAt; simp only [q]; rfl
    | bl b =>
      cases b with
      | true => obtain ⟨q, _⟩ := drop_cons (c := 84) (r := post) h; unfold valueAt; simp only [q]; rfl
      | false => obtain ⟨q, _⟩ := drop_cons (c := 70) (r := post) h; unfold valueAt; simp only [q]; rfl
    | int i =>
      obtain ⟨c, r, e, hc⟩ := num_first i
      have q : L[p]? = some c := by
        have h' : L.drop p = numI i ++ post := h
        rw [e] at h'
        exact (drop_cons (r := r ++ post) h').1
      have hi := intAt_num (L := L) (p := p) (i := i) h hs hf
      have hc' : (48 ≤ c ∧ c ≤ 57) ∨ c = 45 := hc.imp (dig_iff c).mp id
      unfold valueAt
      simp only [q]
      rw [if_neg (by omega), if_neg (by omega), if_neg (by omega), if_neg (by omega), if_neg (by omega)]
      exact hi
    | str z =>
      have h' : L.drop p = 34 :: (encL (tl z) ++ 34 :: post) := by
        rw [h]; show 34 :: (encL (tl z) ++ [34]) ++ post = _; simp
      obtain ⟨q, q2, _⟩ := drop_cons h'
      unfold valueAt
      simp only [q, q2, textAt_enc]
      show Except.ok (D.str (strOf ([] ++ tl z)), _) = Except.ok (D.str z, p + (34 :: (encL (tl z) ++ [34])).length)
      rw [List.nil_append, show strOf (tl z) = z from mk_tl z, List.length_cons, List.length_append]
      congr 2
      show _ = p + ((encL (tl z)).length + 1 + 1)
      omega
    | tup xs => rw [D.deep] at hd; omega
  | succ l ih =>
    intro d p post hd hf h hs
    cases d with
    | non => obtain ⟨q, _⟩ := drop_cons (c := 78) (r := post) h; unfold valueAt; simp only [q]; rfl
    | bl b =>
      cases b with
      | true => obtain ⟨q, _⟩ := drop_cons (c := 84) (r := post) h; unfold valueAt; simp only [q]; rfl
      | false => obtain ⟨q, _⟩ := drop_cons (c := 70) (r := post) h; unfold valueAt; simp only [q]; rfl
    | int i =>
      obtain ⟨c, r, e, hc⟩ := num_first i
      have q : L[p]? = some c := by
        have h' : L.drop p = numI i ++ post := h
        rw [e] at h'
        exact (drop_cons (r := r ++ post) h').1
      have hi := intAt_num (L := L) (p := p) (i := i) h hs hf
      have hc' : (48 ≤ c ∧ c ≤ 57) ∨ c = 45 := hc.imp (dig_iff c).mp id
      unfold valueAt
      simp only [q]
      rw [if_neg (by omega), if_neg (by omega), if_neg (by omega), if_neg (by omega), if_neg (by omega)]
      exact hi
    | str z =>
      have h' : L.drop p = 34 :: (encL (tl z) ++ 34 :: post) := by
        rw [h]; show 34 :: (encL (tl z) ++ [34]) ++ post = _; simp
      obtain ⟨q, q2, _⟩ := drop_cons h'
      unfold valueAt
      simp only [q, q2, textAt_enc]
      show Except.ok (D.str (strOf ([] ++ tl z)), _) = Except.ok (D.str z, p + (34 :: (encL (tl z) ++ [34])).length)
      rw [List.nil_append, show strOf (tl z) = z from mk_tl z, List.length_cons, List.length_append]
      congr 2
      show _ = p + ((encL (tl z)).length + 1 + 1)
      omega
    | tup xs =>
      rw [D.deep] at hd
      rw [D.Fit] at hf
      have h' : L.drop p = 40 :: (joinL [32] (D.shows xs) ++ 41 :: post) := by
        rw [h]; show 40 :: (joinL [32] (D.shows xs) ++ [41]) ++ post = _; simp
      obtain ⟨q, q2, hp⟩ := drop_cons h'
      unfold valueAt
      simp only [q]
      rw [if_neg (by decide), if_neg (by decide), if_neg (by decide), if_neg (by decide), if_pos True.intro]
      cases xs with
      | nil =>
        have q3 : L[p + 1]? = some 41 := (drop_cons (c := 41) (r := post) q2).1
        simp only [q3, if_true]
        rfl
      | cons d ds =>
        obtain ⟨c, r, e, hc⟩ := show_first d
        obtain ⟨r', e2⟩ := join_first ds d c r e
        have q3 : L[p + 1]? = some c := by
          rw [e2] at q2
          exact (drop_cons (r := r' ++ 41 :: post) q2).1
        rw [q3, if_neg (by intro z; injection z with z; exact hc z)]
        have lenL : (joinL [32] (D.shows (d :: ds))).length + 1 ≤ L.length := by
          have z := congrArg List.length q2
          rw [List.length_drop, List.length_append, List.length_cons] at z
          omega
        have lenD := len_join (d :: ds)
        rw [List.length_cons] at lenD
        rw [members_show ds d (L.length + 1) (p + 1) [] post (by omega) (fun x hx p' post' hh hs' => ih x p' post' (Nat.le_trans (deeps_mem x hx) (by omega)) (fits_mem hf x hx) hh hs') q2]
        show Except.ok (D.tup ([] ++ d :: ds), _) = Except.ok (D.tup (d :: ds), p + (40 :: (joinL [32] (D.shows (d :: ds)) ++ [41])).length)
        rw [List.nil_append, List.length_cons, List.length_append]
        congr 2
        show _ = p + ((joinL [32] (D.shows (d :: ds))).length + 1 + 1)
        omega
theorem read_show {d : D} (hd : d.deep ≤ 40) (hf : d.Fit) : readL d.show = .ok d := by
  unfold readL
  rw [value_show 40 d 0 [] hd hf (by simp) (fun c r e => by cases e)]
  simp
end Tst
/-! Texts: slices, places, what is put in the place of signs, whole numbers. -/
namespace Tst
open PySem L2 TL PySem.StrLaws PySem.Builtin PySem.Builtin.Str
def showS (d : D) : Str := strOf d.show
theorem tl_strOf (l : List Nat) : tl (strOf l) = l := rfl
theorem strOf_tl (z : Str) : strOf (tl z) = z := mk_tl z
theorem len_strOf (l : List Nat) : (strOf l).length = l.length := by rw [len_tl, tl_strOf]
/-! ### slices -/
theorem tl_cut {z : Str} {i j : Nat} (hi : i ≤ z.length) : tl (cutS z (some (i : Int)) (some (j : Int))) = ((tl z).drop i).take (j - i) := by
  show ((tl z).drop (HT.sIx z.length 0 (some (i : Int)))).take (HT.sIx z.length z.length (some (j : Int)) - HT.sIx z.length 0 (some (i : Int))) = _
  rw [HT.sIx_nat, HT.sIx_nat, Nat.min_eq_left hi]
  have hl := len_tl z
  by_cases h : j ≤ z.length
  · rw [Nat.min_eq_left h]
  · rw [Nat.min_eq_right (by omega), List.take_of_length_le (by rw [List.length_drop]; omega), List.take_of_length_le (by rw [List.length_drop]; omega)]
/-- the sign at a place, or none -/
def sg (z : Str) (p : Nat) : Str := strOf ((tl z)[p]?.toList)
theorem cut_sg {z : Str} {p : Nat} (hp : p ≤ z.length) : cutS z (some (p : Int)) (some ((p : Int) + 1)) = sg z p := by
  refine ext_tl ?_
  rw [show ((p : Int) + 1) = ((p + 1 : Nat) : Int) by omega, tl_cut hp, show p + 1 - p = 1 by omega]
  show _ = (tl z)[p]?.toList
  cases h : (tl z).drop p with
  | nil =>
    have : (tl z).length ≤ p := by
      have := congrArg List.length h
      rw [List.length_drop, List.length_nil] at this
      omega
    rw [List.getElem?_eq_none this]
    rfl
  | cons c r => rw [(drop_cons h).1]; rfl
theorem sg_some {z : Str} {p c : Nat} (h : (tl z)[p]? = some c) : sg z p = strOf [c] := by unfold sg; rw [h]; rfl
theorem sg_none {z : Str} {p : Nat} (h : (tl z)[p]? = none) : sg z p = strOf [] := by unfold sg; rw [h]; rfl
theorem dec_s (a b : Str) : decide (V.str a = V.str b) = decide (tl a = tl b) := by
  by_cases h : a = b
  · subst h; simp
  · have h2 : ¬ tl a = tl b := fun e => h (ext_tl e)
    simp [h, h2]
/-! ### the first place of a sign -/
theorem occ_more (s sub : Str) (hi : Nat) : ∀ (l : List Nat) (st : Array Nat × Nat), 1 ≤ st.fst.size → (forIn l st (occBody s sub hi 1)).run.fst = st.fst
  | [], _, _ => rfl
  | a :: l, st, h => by
    rw [List.forIn_cons]
    unfold occBody
    rw [if_neg (fun z => absurd z.1.1.1 (Nat.not_lt.mpr h))]
    exact occ_more s sub hi l _ h
theorem occ_first (s : Str) (c hi : Nat) : ∀ (n a k : Nat), (∀ i, a ≤ i → i < k → (tl s)[i]? ≠ some c) → a ≤ k → k < a + n → k < hi → hi ≤ s.length → (tl s)[k]? = some c →
    (forIn (List.range' a n) ((#[] : Array Nat), a) (occBody s ⟨#[c]⟩ hi 1)).run.fst = #[k] := by
  have one : (⟨#[c]⟩ : Str).length = 1 := rfl
  have sub : ∀ i, i + 1 ≤ s.length → (subAt s ⟨#[c]⟩ i = true ↔ (tl s)[i]? = some c) := fun i hi => by
    have h := subAt_one s c i
    rw [one] at h
    exact ⟨fun q => h.mp ⟨hi, q⟩, fun q => (h.mpr q).2⟩
  suffices H : ∀ (n a free k : Nat), free ≤ a → (∀ i, a ≤ i → i < k → (tl s)[i]? ≠ some c) → a ≤ k → k < a + n → k < hi → hi ≤ s.length → (tl s)[k]? = some c →
      (forIn (List.range' a n) ((#[] : Array Nat), free) (occBody s ⟨#[c]⟩ hi 1)).run.fst = #[k] from fun n a k h1 h2 h3 h4 h5 h6 => H n a a k (Nat.le_refl _) h1 h2 h3 h4 h5 h6
  intro n
  induction n with
  | zero => intro a free k _ _ h1 h2; omega
  | succ n ih =>
    intro a free k hf h0 h1 h2 h3 h4 h5
    rw [List.range'_succ, List.forIn_cons]
    unfold occBody
    rw [one]
    by_cases e : a = k
    · subst e
      rw [if_pos ⟨⟨⟨by show (0 : Nat) < 1; omega, hf⟩, by omega⟩, (sub a (by omega)).mpr h5⟩]
      exact occ_more s ⟨#[c]⟩ hi _ _ (by show (1 : Nat) ≤ 1; omega)
    · rw [if_neg (fun z => h0 a (Nat.le_refl _) (by omega) ((sub a (by have := z.1.2; omega)).mp z.2))]
      exact ih (a + 1) free k (by omega) (fun i hi hk => h0 i (by omega) hk) (by omega) (by omega) h3 h4 h5
theorem occ_never (s : Str) (c hi a n : Nat) (hs : hi ≤ s.length) (h : ∀ i, a ≤ i → i < hi → (tl s)[i]? ≠ some c) :
    (forIn (List.range' a n) ((#[] : Array Nat), a) (occBody s ⟨#[c]⟩ hi 1)).run.fst = #[] := by
  refine (occ_none s ⟨#[c]⟩ hi (List.range' a n) a (fun i hi => (List.mem_range'_1.mp hi).1)).mpr fun i hi' hc => ?_
  have h1 : i + 1 ≤ hi := hc.1
  have hsub := (subAt_one s c i).mp ⟨by show i + 1 ≤ s.length; omega, hc.2⟩
  exact h i (List.mem_range'_1.mp hi').1 (by omega) hsub
theorem findIn_first {s : Str} {c p e k : Nat} (hp : p ≤ k) (hk : k < e) (he : e ≤ s.length) (h0 : ∀ i, p ≤ i → i < k → (tl s)[i]? ≠ some c) (h1 : (tl s)[k]? = some c) :
    occurrences s ⟨#[c]⟩ p e 1 = [k] := by
  rw [occ_eq, occ_first s c e (e + 1 - p) p k h0 hp (by omega) hk he h1]
theorem findIn_never {s : Str} {c p e : Nat} (he : e ≤ s.length) (h : ∀ i, p ≤ i → i < e → (tl s)[i]? ≠ some c) :
    occurrences s ⟨#[c]⟩ p e 1 = [] := by
  rw [occ_eq, occ_never s c e p _ he h]
theorem from_nat {n p : Nat} : fromIndex n (p : Int) = p := by
  unfold fromIndex
  rw [if_neg (by omega)]
  omega
theorem toIx {n e : Nat} (h : e ≤ n) : toIndexW n (e : Int) = e := by
  unfold toIndexW
  rw [if_neg (by omega)]
  omega
theorem find4_first {s : Str} {c p e k : Nat} (hp : p ≤ k) (hk : k < e) (he : e ≤ s.length) (h0 : ∀ i, p ≤ i → i < k → (tl s)[i]? ≠ some c) (h1 : (tl s)[k]? = some c) :
    Txt.findIn s ⟨#[c]⟩ (p : Int) (e : Int) = (k : Int) := by
  unfold Txt.findIn
  rw [toIx he, show fromIndex s.length (p : Int) = p from from_nat, findIn_first hp hk he h0 h1]
theorem find4_never {s : Str} {c p e : Nat} (hp : p ≤ s.length) (he : e ≤ s.length) (h : ∀ i, p ≤ i → i < e → (tl s)[i]? ≠ some c) :
    Txt.findIn s ⟨#[c]⟩ (p : Int) (e : Int) = -1 := by
  unfold Txt.findIn
  rw [toIx he, show fromIndex s.length (p : Int) = p from from_nat, findIn_never he h]
theorem find3_first {s : Str} {c p k : Nat} (hp : p ≤ k) (hk : k < s.length) (h0 : ∀ i, p ≤ i → i < k → (tl s)[i]? ≠ some c) (h1 : (tl s)[k]? = some c) :
    Txt.find3 s ⟨#[c]⟩ (p : Int) = (k : Int) := by
  unfold Txt.find3
  rw [show fromIndex s.length (p : Int) = p from from_nat, findIn_first hp hk (Nat.le_refl _) h0 h1]
theorem find3_never {s : Str} {c p : Nat} (hp : p ≤ s.length) (h : ∀ i, p ≤ i → i < s.length → (tl s)[i]? ≠ some c) :
    Txt.find3 s ⟨#[c]⟩ (p : Int) = -1 := by
  unfold Txt.find3
  rw [show fromIndex s.length (p : Int) = p from from_nat, findIn_never (Nat.le_refl _) h]
/-! ### what is put in the place of signs -/
theorem replL_one (c : Nat) (z : List Nat) : ∀ l : List Nat, replL [c] z l = l.flatMap fun x => if x = c then z else [x]
  | [] => by rw [replL_nil]; rfl
  | x :: r => by
    by_cases h : x = c
    · subst h
      rw [replL_hit (by simp) (by simp)]
      rw [show ([x] : List Nat).length = 1 from rfl, List.drop_one, List.tail_cons, replL_one x z r, List.flatMap_cons, if_pos rfl]
    · rw [replL_miss (by simp; exact h), replL_one c z r, List.flatMap_cons, if_neg h]
      rfl
theorem flat_enc (s : List Nat) : (((s.flatMap fun x => if x = 92 then [92, 92] else [x]).flatMap fun x => if x = 34 then [92, 34] else [x]).flatMap fun x => if x = 10 then [92, 110] else [x]) = encL s := by
  rw [List.flatMap_assoc, List.flatMap_assoc]
  unfold encL
  congr 1
  funext x
  unfold enc1
  by_cases h1 : x = 92
  · subst h1; rfl
  · rw [if_neg h1, if_neg h1]
    by_cases h2 : x = 34
    · subst h2; rfl
    · rw [if_neg h2]
      by_cases h3 : x = 10
      · subst h3; rfl
      · rw [if_neg h3]
        simp [h1, h2, h3]
theorem repl_enc (z : Str) : Txt.replace (Txt.replace (Txt.replace z (Str.ofString "\\") (Str.ofString "\\\\")) (Str.ofString "\"") (Str.ofString "\\\"")) (Str.ofString "\n") (Str.ofString "\\n") = strOf (encL (tl z)) := by
  refine ext_tl ?_
  show (Txt.replace _ _ _).cps.toList = encL (tl z)
  rw [replace_list (by decide +kernel), replace_list (by decide +kernel), replace_list (by decide +kernel)]
  rw [show (Str.ofString "\\").cps.toList = [92] by decide +kernel, show (Str.ofString "\\\\").cps.toList = [92, 92] by decide +kernel, show (Str.ofString "\"").cps.toList = [34] by decide +kernel,
    show (Str.ofString "\\\"").cps.toList = [92, 34] by decide +kernel, show (Str.ofString "\n").cps.toList = [10] by decide +kernel, show (Str.ofString "\\n").cps.toList = [92, 110] by decide +kernel]
  rw [replL_one, replL_one, replL_one]
  exact flat_enc _
theorem len_enc : ∀ s : List Nat, (encL s).length ≤ 2 * s.length
  | [] => by simp [encL]
  | c :: s => by
    have ih := len_enc s
    have e : encL (c :: s) = enc1 c ++ encL s := by simp [encL]
    have h : (enc1 c).length ≤ 2 := by unfold enc1; repeat (first | (split) | simp)
    rw [e, List.length_append, List.length_cons]
    omega
theorem enc_len : ∀ s : List Nat, s.length ≤ (encL s).length
  | [] => by simp [encL]
  | c :: s => by
    have ih := enc_len s
    have e : encL (c :: s) = enc1 c ++ encL s := by simp [encL]
    have h : 1 ≤ (enc1 c).length := by unfold enc1; repeat (first | (split) | simp)
    rw [e, List.length_append, List.length_cons]
    omega
/-! ### whole numbers -/
theorem int_show (i : Int) : Str.ofString (toString i) = strOf (numI i) := by
  refine ext_tl ?_
  cases i with
  | ofNat n => exact tl_num n
  | negSucc n =>
    have e : (toString (Int.negSucc n) : String) = "-" ++ toString (((n + 1 : Nat)) : Int) := rfl
    rw [e, tl_ofString, String.toList_append, List.map_append, ← tl_ofString, ← tl_ofString, tl_num]
    rfl
theorem log_small {i : Int} (h : i.natAbs < 10 ^ 200) : i.natAbs.log2 < 1920 := by
  by_cases h0 : i.natAbs = 0
  · rw [h0]; decide
  · rw [Nat.log2_lt h0]
    exact Nat.lt_trans h (by decide +kernel)
end Tst
/-! Rules of our own over the hand layer: a call by a def's fact, is True, is False, isinstance of plain things, + of a replaced text; plain values on the heap. -/
namespace Tst
open PySem PySem.Spec PyProof.Rows L2
/-- a def that stands in the text, its promise kept -/
structure Cal (P : Program) (w : World) (K : PySem.W.Frag) (mg : Str → Option Value) (base : Heap) (CX : CXT) (k : Nat) (x : Str) (ps : List Str) (sp : Sp) : Prop where
  ex : ∃ f fd, FnOk P w K mg base CX k f fd ps sp ∧ Binds K fd ps [] ∧ PySem.W.keepIn K (.ref f) = true ∧ mg x = some (.ref f)
theorem Cal.mono {P : Program} {w : World} {K : PySem.W.Frag} {mg : Str → Option Value} {base : Heap} {CX : CXT} {j k : Nat} {x : Str} {ps : List Str} {sp : Sp} (C : Cal P w K mg base CX j x ps sp) (h : j ≤ k) : Cal P w K mg base CX k x ps sp := by
  obtain ⟨f, fd, F, b, kp, m⟩ := C.ex
  exact ⟨f, fd, F.mono h, b, kp, m⟩
/-- a promise that is never asked -/
def spNo : Sp := fun _ _ _ _ => False
theorem Cal.no {P : Program} {w : World} {K : PySem.W.Frag} {mg : Str → Option Value} {base : Heap} {CX : CXT} {k : Nat} {x : Str} {ps : List Str} {sp : Sp} {f : Addr} {fd : FuncData} (b : Binds K fd ps []) (kp : PySem.W.keepIn K (.ref f) = true) (m : mg x = some (.ref f))
    (no : ∀ vs H Q E, ¬ sp vs H Q E) : Cal P w K mg base CX k x ps sp :=
  ⟨f, fd, ⟨fun vs H Q E h => absurd h (no vs H Q E), fun A outer s H args us vs Q E _ _ _ _ h => absurd h (no vs H Q E)⟩, b, kp, m⟩
section
variable {X : Cx} {CX : CXT} {k : Nat} {x : Str} {ps : List Str} {sp : Sp} {E : XK} {e : Expr} {es : List Expr} {t : TA} {p pos : Pos}
theorem pe_cal (C : Cal X.prog X.w X.K X.mg X.base CX k x ps sp) (hr : Room k X.A) (hg : Gl X x) (hx : Passes CX X E)
    (ha : PA X (e :: es) t) (hdb : (x == ("__debug__" : Str)) = false := by decide) (he : starEach (e :: es) X.env = (false, eval e X.env) :: starEach es X.env := by rfl) (hpl : (backTo pos (starEach es X.env)).any (·.1) = false := by rfl) :
    PE X (.Call (.Name x p) (e :: es) [] pos) (tCall sp [] E t) := by
  obtain ⟨f, fd, F, b, kp, m⟩ := C.ex
  exact pe_call F hr hg m kp b .nil hx ha hdb he hpl
theorem pe_cal0 (C : Cal X.prog X.w X.K X.mg X.base CX k x ps sp) (hr : Room k X.A) (hg : Gl X x) (hx : Passes CX X E) (hdb : (x == ("__debug__" : Str)) = false := by decide) :
    PE X (.Call (.Name x p) [] [] pos) (tCall sp [] E tNil) := by
  obtain ⟨f, fd, F, b, kp, m⟩ := C.ex
  exact pe_call0 F hr hg m kp b .nil hx hdb
end
/-! ### is True, is False, of anything plain -/
def rIsBl (neg : Bool) : R2 := fun x y H Q => ∃ b, y = .bl b ∧ (∀ n, x ≠ .ty n) ∧ (∀ n, x ≠ .flt n) ∧ Q (.bl (xor neg (decide (x = .bl b)))) H
section
variable {X : Cx}
theorem op_isB : OpR X (compareOp .Is) (rIsBl false) := by
  intro pins s σ H x y v u Q I rx ry h
  obtain ⟨b, rfl, _, _, q⟩ := h
  cases (show u = Value.bool b from ry)
  cases x with
  | non => cases (show v = Value.none from rx); exact wpAny_is_other rfl (fun z => nomatch z) ⟨.bl false, H, I, rfl, by simpa using q⟩
  | bl a =>
    cases (show v = Value.bool a from rx)
    by_cases e : a = b
    · subst e; exact wpAny_is_self rfl ⟨.bl true, H, I, rfl, by simpa using q⟩
    · exact wpAny_is_other rfl (fun z => e (Value.bool.inj z)) ⟨.bl false, H, I, rfl, by simpa [e] using q⟩
  | int i => obtain ⟨t, rfl⟩ := (show ∃ t, v = Value.int i t from rx); exact wpAny_is_other rfl (fun z => nomatch z) ⟨.bl false, H, I, rfl, by simpa using q⟩
  | str i => obtain ⟨t, rfl⟩ := (show ∃ t, v = Value.str i t from rx); exact wpAny_is_other rfl (fun z => nomatch z) ⟨.bl false, H, I, rfl, by simpa using q⟩
  | byt i => obtain ⟨t, rfl⟩ := (show ∃ t, v = Value.bytes i t from rx); exact wpAny_is_other rfl (fun z => nomatch z) ⟨.bl false, H, I, rfl, by simpa using q⟩
  | flt i => obtain ⟨t, rfl⟩ := (show ∃ t, v = Value.float i t from rx); exact wpAny_is_other rfl (fun z => nomatch z) ⟨.bl false, H, I, rfl, by simpa using q⟩
  | ref a => cases (show v = Value.ref a from rx); exact wpAny_is_other rfl (fun z => nomatch z) ⟨.bl false, H, I, rfl, by simpa using q⟩
  | ty n => cases (show v = Value.type n from rx); exact wpAny_is_other rfl (fun z => nomatch z) ⟨.bl false, H, I, rfl, by simpa using q⟩
theorem op_notB : OpR X (compareOp .IsNot) (rIsBl true) := by
  intro pins s σ H x y v u Q I rx ry h
  obtain ⟨b, rfl, _, _, q⟩ := h
  cases (show u = Value.bool b from ry)
  cases x with
  | non => cases (show v = Value.none from rx); exact wpAny_isNot_other rfl (fun z => nomatch z) ⟨.bl true, H, I, rfl, by simpa using q⟩
  | bl a =>
    cases (show v = Value.bool a from rx)
    by_cases e : a = b
    · subst e; exact wpAny_isNot_self rfl ⟨.bl false, H, I, rfl, by simpa using q⟩
    · exact wpAny_isNot_other rfl (fun z => e (Value.bool.inj z)) ⟨.bl true, H, I, rfl, by simpa [e] using q⟩
  | int i => obtain ⟨t, rfl⟩ := (show ∃ t, v = Value.int i t from rx); exact wpAny_isNot_other rfl (fun z => nomatch z) ⟨.bl true, H, I, rfl, by simpa using q⟩
  | str i => obtain ⟨t, rfl⟩ := (show ∃ t, v = Value.str i t from rx); exact wpAny_isNot_other rfl (fun z => nomatch z) ⟨.bl true, H, I, rfl, by simpa using q⟩
  | byt i => obtain ⟨t, rfl⟩ := (show ∃ t, v = Value.bytes i t from rx); exact wpAny_isNot_other rfl (fun z => nomatch z) ⟨.bl true, H, I, rfl, by simpa using q⟩
  | flt i => obtain ⟨t, rfl⟩ := (show ∃ t, v = Value.float i t from rx); exact wpAny_isNot_other rfl (fun z => nomatch z) ⟨.bl true, H, I, rfl, by simpa using q⟩
  | ref a => cases (show v = Value.ref a from rx); exact wpAny_isNot_other rfl (fun z => nomatch z) ⟨.bl true, H, I, rfl, by simpa using q⟩
  | ty n => cases (show v = Value.type n from rx); exact wpAny_isNot_other rfl (fun z => nomatch z) ⟨.bl true, H, I, rfl, by simpa using q⟩
/-! ### written text + a text that wants a token -/
theorem pe_opT {op : Operator} {r : R2} {c : Str} {f : Expr} {tf : TE} {j : Nat} {p pos : Pos} (ho : OpR X (binaryOp op) r) (hb : PET X f tf) : PE X (.BinOp (.Constant (.str c) j p) op f pos) (tOp r (tC (.str c)) tf) := by
  refine ⟨fun pins s σ H Q I h => ?_⟩
  refine wpAny_BinOp (Calls.Constant_str ?_)
  exact thn (hb pins { s with toks := s.toks + 1 } σ H _ (by show 1 ≤ s.toks + 1; omega) (I.tok _) h) fun u s2 ⟨y, H2, I2, r2, q2⟩ => ho pins s2 σ H2 (.str c) y _ u Q I2 ⟨_, rfl⟩ r2 q2
/-! ### isinstance(x, T), T a built-in class -/
def kindO : Option HO → Option String
  | some (.tup _) => some "tuple"
  | some (.lst _) => some "list"
  | some (.dK _) => some "dict"
  | some (.dT _) => some "dict"
  | _ => none
def kindV (H : Hp) : V → Option String
  | .non => some "NoneType"
  | .bl _ => some "bool"
  | .int _ => some "int"
  | .str _ => some "str"
  | .ref a => kindO (H a)
  | _ => none
theorem kindV_ty {K : PySem.W.Frag} {H : Hp} {x : V} {t : String} (h : kindV H x = some t) : TyX K H x (.type t) := by
  cases x with
  | non => cases h; exact .base .non
  | bl b => cases h; exact .base (.bl b)
  | int i => cases h; exact .base (.int i)
  | str z => cases h; exact .base (.str z)
  | ref a =>
    have h : kindO (H a) = some t := h
    cases e : H a with
    | none => rw [e] at h; cases h
    | some o =>
      rw [e] at h
      cases o <;> first
        | (cases h; exact .base (.tup e))
        | (cases h; exact .base (.lst e))
        | (cases h; exact .base (.dK e))
        | (cases h; exact .base (.dT e))
        | cases h
  | byt b => cases h
  | flt b => cases h
  | ty n => cases h
/-- what isinstance tells of the kinds -/
def isK (t T : String) : Option Bool := kitB t T
def rIsK : List V → Hp → VK → Prop := fun xs H Q => ∃ x T t b, xs = [x, .ty T] ∧ kindV H x = some t ∧ kitB t T = some b ∧ Q (.bl b) H
theorem call_isK : CallR X (.builtin "isinstance") rIsK := by
  intro pins s σ H xs us Q I r h
  obtain ⟨x, T, t, b, rfl, hk, hb, q⟩ := h
  exact call_isi pins s σ H _ us Q I r ⟨x, .ty T, .type t, .type T, b, rfl, .ty T, kindV_ty hk, kit_ty hb, q⟩
end
theorem kb_it : kitB "int" "tuple" = some false := by decide +kernel
theorem kb_ii : kitB "int" "int" = some true := by decide +kernel
theorem kb_ib : kitB "int" "bool" = some false := by decide +kernel
theorem kb_is : kitB "int" "str" = some false := by decide +kernel
theorem kb_tt : kitB "tuple" "tuple" = some true := by decide +kernel
theorem kb_ti : kitB "tuple" "int" = some false := by decide +kernel
theorem kb_ts : kitB "tuple" "str" = some false := by decide +kernel
theorem kb_ss : kitB "str" "str" = some true := by decide +kernel
theorem kb_si : kitB "str" "int" = some false := by decide +kernel
theorem kb_st : kitB "str" "tuple" = some false := by decide +kernel
theorem kb_nt : kitB "NoneType" "tuple" = some false := by decide +kernel
theorem kb_bt : kitB "bool" "tuple" = some false := by decide +kernel
theorem kb_bb : kitB "bool" "bool" = some true := by decide +kernel
/-! ### plain values on the heap -/
mutual
def Rp (H : Hp) : D → V → Prop
  | .non, v => v = .non
  | .bl b, v => v = .bl b
  | .int i, v => v = .int i
  | .str z, v => v = .str z
  | .tup xs, v => ∃ a vs, v = .ref a ∧ H a = some (.tup vs) ∧ Rps H xs vs
def Rps (H : Hp) : List D → List V → Prop
  | [], vs => vs = []
  | d :: ds, vs => ∃ v r, vs = v :: r ∧ Rp H d v ∧ Rps H ds r
end
/-- the tuples stand as they stood -/
def Tup (H H' : Hp) : Prop := ∀ a xs, H a = some (.tup xs) → H' a = some (.tup xs)
theorem Same.tup {H H' : Hp} (h : Same H H') : Tup H H' := fun a xs e => h a _ e
theorem Tup.trans {H H1 H2 : Hp} (a : Tup H H1) (b : Tup H1 H2) : Tup H H2 := fun c xs e => b c xs (a c xs e)
theorem Tup.refl (H : Hp) : Tup H H := fun _ _ e => e
mutual
theorem Rp.mono {H H' : Hp} (h : Tup H H') : ∀ {d : D} {v : V}, Rp H d v → Rp H' d v
  | .non, _, r => by rw [Rp] at *; exact r
  | .bl b, _, r => by rw [Rp] at *; exact r
  | .int i, _, r => by rw [Rp] at *; exact r
  | .str z, _, r => by rw [Rp] at *; exact r
  | .tup xs, v, r => by
    rw [Rp] at *
    obtain ⟨a, vs, e, ha, rs⟩ := r
    exact ⟨a, vs, e, h a vs ha, Rps.mono h rs⟩
theorem Rps.mono {H H' : Hp} (h : Tup H H') : ∀ {ds : List D} {vs : List V}, Rps H ds vs → Rps H' ds vs
  | [], _, r => by rw [Rps] at *; exact r
  | d :: ds, vs, r => by
    rw [Rps] at *
    obtain ⟨v, t, e, r1, r2⟩ := r
    exact ⟨v, t, e, Rp.mono h r1, Rps.mono h r2⟩
end
theorem Rps.length {H : Hp} : ∀ {ds : List D} {vs : List V}, Rps H ds vs → vs.length = ds.length
  | [], _, r => by rw [Rps] at r; subst r; rfl
  | d :: ds, vs, r => by
    rw [Rps] at r
    obtain ⟨v, t, rfl, r1, r2⟩ := r
    rw [List.length_cons, List.length_cons, Rps.length r2]
theorem Rps.get {H : Hp} : ∀ {ds : List D} {vs : List V} {i : Nat} {v : V}, Rps H ds vs → vs[i]? = some v → ∃ d, ds[i]? = some d ∧ Rp H d v
  | [], _, i, v, r, e => by rw [Rps] at r; subst r; simp at e
  | d :: ds, vs, 0, v, r, e => by
    rw [Rps] at r
    obtain ⟨w, t, rfl, r1, r2⟩ := r
    simp at e; subst e
    exact ⟨d, rfl, r1⟩
  | d :: ds, vs, i + 1, v, r, e => by
    rw [Rps] at r
    obtain ⟨w, t, rfl, r1, r2⟩ := r
    simp at e
    obtain ⟨d', h1, h2⟩ := Rps.get (i := i) r2 e
    exact ⟨d', by simpa using h1, h2⟩
theorem Rps.append {H : Hp} {d : D} {v : V} (r1 : Rp H d v) : ∀ {ds : List D} {vs : List V}, Rps H ds vs → Rps H (ds ++ [d]) (vs ++ [v])
  | [], _, r => by rw [Rps] at r; subst r; rw [List.nil_append, Rps]; exact ⟨v, [], rfl, r1, by rw [Rps]⟩
  | e :: ds, vs, r => by
    rw [Rps] at r
    obtain ⟨w, t, rfl, q1, q2⟩ := r
    rw [List.cons_append, Rps]
    exact ⟨w, t ++ [v], rfl, q1, Rps.append r1 q2⟩
theorem Rps.nil {H : Hp} : Rps H [] [] := by rw [Rps]
theorem Rp.ty {H : Hp} {d : D} {v : V} (r : Rp H d v) : (∀ n, v ≠ .ty n) ∧ ∀ n, v ≠ .flt n := by
  cases d <;> rw [Rp] at r
  case tup xs => obtain ⟨a, vs, rfl, _⟩ := r; exact ⟨fun _ z => (nomatch z), fun _ z => (nomatch z)⟩
  all_goals (subst r; exact ⟨fun _ z => (nomatch z), fun _ z => (nomatch z)⟩)
theorem same_new {H : Hp} {p : Addr} (h : H p = none) (o : HO) : Same H (upd H p o) := fun b u q => by rw [upd_ne (ne_of_none q h)]; exact q
/-- all but what stands at b -/
def Kept (b : Addr) (H H' : Hp) : Prop := ∀ a o, a ≠ b → H a = some o → H' a = some o
theorem Kept.refl {b : Addr} (H : Hp) : Kept b H H := fun _ _ _ e => e
theorem Kept.trans {b : Addr} {H H1 H2 : Hp} (x : Kept b H H1) (y : Kept b H1 H2) : Kept b H H2 := fun a o n e => y a o n (x a o n e)
theorem Same.kept {b : Addr} {H H' : Hp} (h : Same H H') : Kept b H H' := fun a o _ e => h a o e
theorem Kept.upd {b : Addr} {H : Hp} {o : HO} : Kept b H (upd H b o) := fun a u n e => by rw [upd_ne n]; exact e
/-- the draws: digits and a place among them -/
def Box (H : Hp) (b d : Addr) : Prop := ∃ ds, ∃ at_ : Nat, H b = some (.lst [.ref d, .int at_]) ∧ H d = some (.lst (List.map V.int ds)) ∧ d ≠ b
theorem Box.same {H H' : Hp} {b d : Addr} (x : Box H b d) (h : Same H H') : Box H' b d := by
  obtain ⟨ds, n, h1, h2, h3⟩ := x
  exact ⟨ds, n, h _ _ h1, h _ _ h2, h3⟩
theorem Kept.tup {b d : Addr} {H H' : Hp} (x : Box H b d) (h : Kept b H H') : Tup H H' := fun a xs e => by
  obtain ⟨ds, n, h1, h2, h3⟩ := x
  exact h a _ (fun z => by subst z; rw [h1] at e; cases e) e
/-- another object is written -/
theorem Box.other {H : Hp} {b d L : Addr} {o : HO} (x : Box H b d) (h1 : L ≠ b) (h2 : L ≠ d) : Box (upd H L o) b d := by
  obtain ⟨ds, n, g1, g2, g3⟩ := x
  exact ⟨ds, n, by rw [upd_ne (Ne.symm h1)]; exact g1, by rw [upd_ne (Ne.symm h2)]; exact g2, g3⟩
theorem Box.ne {H : Hp} {b d L : Addr} (x : Box H b d) (h : H L = none) : L ≠ b ∧ L ≠ d := by
  obtain ⟨ds, n, g1, g2, g3⟩ := x
  exact ⟨fun e => (by rw [e, g1] at h; cases h), fun e => (by rw [e, g2] at h; cases h)⟩
end Tst
/-! Plain lemmas: lengths of what is shown; a text between quotes read by leaps; a run of digits. -/
namespace Tst
open PySem PySem.Spec PyProof.Rows L2 TL
theorem join_mem : ∀ {ds : List D} {d : D}, d ∈ ds → d.show.length ≤ (joinL [32] (D.shows ds)).length
  | [], _, h => by cases h
  | [a], d, h => by
    have e : d = a := by simpa using h
    subst e
    exact Nat.le_refl _
  | a :: b :: ds, d, h => by
    have z : joinL [32] (D.shows (a :: b :: ds)) = a.show ++ 32 :: joinL [32] (D.shows (b :: ds)) := rfl
    rw [z, List.length_append, List.length_cons]
    rcases List.mem_cons.mp h with rfl | h
    · omega
    · have := join_mem h
      omega
theorem tup_len (xs : List D) : (D.tup xs).show.length = (joinL [32] (D.shows xs)).length + 2 := by
  show (40 :: (joinL [32] (D.shows xs) ++ [41])).length = _
  rw [List.length_cons, List.length_append]
  rfl
theorem show_mem {xs : List D} {d : D} (h : d ∈ xs) : d.show.length + 2 ≤ (D.tup xs).show.length := by
  have := join_mem h
  rw [tup_len]
  omega
theorem many_len (xs : List D) : xs.length + 1 ≤ (D.tup xs).show.length := by
  have := len_join xs
  rw [tup_len]
  omega
theorem join_sum : ∀ ds : List D, ((ds.map showS).map (·.length)).sum + ds.length ≤ (joinL [32] (D.shows ds)).length + 1
  | [] => by simp
  | [d] => by
    show ([(showS d).length].sum) + 1 ≤ d.show.length + 1
    simp [showS, len_strOf]
  | d :: d2 :: ds => by
    have z : joinL [32] (D.shows (d :: d2 :: ds)) = d.show ++ 32 :: joinL [32] (D.shows (d2 :: ds)) := rfl
    have ih := join_sum (d2 :: ds)
    rw [z, List.length_append, List.map_cons, List.map_cons, List.sum_cons]
    simp only [List.length_cons] at ih ⊢
    have e : (showS d).length = d.show.length := len_strOf _
    omega
theorem tl_showS (d : D) : tl (showS d) = d.show := rfl
theorem map_showS (ds : List D) : (ds.map showS).map tl = D.shows ds := by
  rw [shows_map, List.map_map]
  rfl
theorem show_tup (xs : List D) : (strOf [40] ++ Txt.join (strOf [32]) (xs.map showS)) ++ strOf [41] = showS (.tup xs) := by
  refine ext_tl ?_
  rw [tl_append, tl_append, join_eq, tl_join, map_showS]
  show [40] ++ joinL [32] (D.shows xs) ++ [41] = 40 :: (joinL [32] (D.shows xs) ++ [41])
  simp
theorem show_str (z : Str) : (strOf [34] ++ strOf (encL (tl z))) ++ strOf [34] = showS (.str z) := by
  refine ext_tl ?_
  rw [tl_append, tl_append]
  show [34] ++ encL (tl z) ++ [34] = 34 :: (encL (tl z) ++ [34])
  simp
theorem lit (s : String) (l : List Nat) (h : (s.toList.map Char.toNat) = l := by rfl) : Str.ofString s = strOf l := by
  refine ext_tl ?_
  rw [tl_ofString, h]
  rfl
/-! ### a text between quotes, by leaps -/
def plainSign (c : Nat) : Bool := !(c == 34 || c == 92)
theorem textAt_leap : ∀ (u t : List Nat) (p : Nat) (acc : List Nat) (r : List Nat × Nat), (∀ c ∈ u, plainSign c = true) → textAt (u ++ t) p acc = .ok r → (∀ c ∈ u, c ≠ 10) ∧ textAt t (p + u.length) (acc ++ u) = .ok r
  | [], t, p, acc, r, _, h => ⟨fun _ z => (nomatch z), by simpa using h⟩
  | c :: u, t, p, acc, r, hu, h => by
    have hc := hu c List.mem_cons_self
    have h1 : c ≠ 34 ∧ c ≠ 92 := by
      unfold plainSign at hc
      simp at hc
      exact hc
    have h : textAt (c :: (u ++ t)) p acc = .ok r := h
    unfold textAt at h
    rw [if_neg h1.1, if_neg h1.2] at h
    by_cases h10 : c = 10
    · rw [if_pos h10] at h; cases h
    · rw [if_neg h10] at h
      obtain ⟨q1, q2⟩ := textAt_leap u t (p + 1) (acc ++ [c]) r (fun x hx => hu x (List.mem_cons_of_mem _ hx)) h
      refine ⟨fun x hx => ?_, ?_⟩
      · rcases List.mem_cons.mp hx with rfl | hx
        · exact h10
        · exact q1 x hx
      · rw [List.length_cons, show p + (u.length + 1) = p + 1 + u.length by omega]
        rw [List.append_assoc] at q2
        exact q2
/-- the next quote or slash -/
theorem leap (R : List Nat) : ∃ u t, R = u ++ t ∧ (∀ c ∈ u, plainSign c = true) ∧ ∀ c r, t = c :: r → c = 34 ∨ c = 92 := by
  induction R with
  | nil => exact ⟨[], [], rfl, fun _ z => (nomatch z), fun _ _ z => (nomatch z)⟩
  | cons a R ih =>
    by_cases h : plainSign a = true
    · obtain ⟨u, t, e, h1, h2⟩ := ih
      exact ⟨a :: u, t, by rw [e]; rfl, fun c hc => (List.mem_cons.mp hc).elim (fun z => z ▸ h) (h1 c), h2⟩
    · refine ⟨[], a :: R, rfl, fun _ z => (nomatch z), fun c r e => ?_⟩
      injection e with e1 _
      subst e1
      unfold plainSign at h
      simp at h
      omega
theorem get_in {L u t : List Nat} {p i : Nat} (h : L.drop p = u ++ t) (h1 : p ≤ i) (h2 : i < p + u.length) : ∃ c, L[i]? = some c ∧ c ∈ u := by
  have e : L[i]? = (L.drop p)[i - p]? := by rw [List.getElem?_drop, show p + (i - p) = i by omega]
  have hi : i - p < u.length := by omega
  rw [e, h, List.getElem?_append_left hi, List.getElem?_eq_getElem hi]
  exact ⟨_, rfl, List.getElem_mem hi⟩
theorem not_in {L u t : List Nat} {p i k : Nat} (h : L.drop p = u ++ t) (hk : k ∉ u) (h1 : p ≤ i) (h2 : i < p + u.length) : L[i]? ≠ some k := by
  obtain ⟨c, e, hc⟩ := get_in h h1 h2
  rw [e]
  intro z
  injection z with z
  subst z
  exact hk hc
theorem find3_cases {z : Str} {c p : Nat} (hp : p ≤ z.length) : (Txt.find3 z ⟨#[c]⟩ (p : Int) = -1) ∨ ∃ j, Txt.find3 z ⟨#[c]⟩ (p : Int) = ((j : Nat) : Int) ∧ p ≤ j ∧ j < z.length ∧ (tl z)[j]? = some c := by
  have hl := len_tl z
  by_cases h : c ∈ (tl z).drop p
  · obtain ⟨u, t, e, hu⟩ := List.eq_append_cons_of_mem h
    obtain ⟨q, _, q3⟩ := drop_cons (drop_app e)
    exact .inr ⟨p + u.length, find3_first (by omega) (by omega) (fun i h1 h2 => not_in e hu h1 h2) q, by omega, by omega, q⟩
  · refine .inl (find3_never hp fun i h1 h2 e => h ?_)
    have e' : (tl z)[i]? = ((tl z).drop p)[i - p]? := by rw [List.getElem?_drop, show p + (i - p) = i by omega]
    rw [e'] at e
    exact List.mem_of_getElem? e
theorem join_flat : ∀ l : List (List Nat), joinL [] l = l.flatten
  | [] => rfl
  | [a] => by simp [joinL]
  | a :: b :: l => by
    have z : joinL [] (a :: b :: l) = a ++ ([] ++ joinL [] (b :: l)) := rfl
    rw [z, join_flat (b :: l)]
    simp
/-! ### a run of digits -/
theorem run_of (l : List Nat) : ∃ post, l = l.takeWhile dig ++ post ∧ Stop post ∧ ∀ c ∈ l.takeWhile dig, dig c = true := by
  induction l with
  | nil => exact ⟨[], rfl, (fun _ _ z => (nomatch z)), fun _ z => (nomatch z)⟩
  | cons a l ih =>
    rw [List.takeWhile_cons]
    by_cases h : dig a = true
    · obtain ⟨post, e, h1, h2⟩ := ih
      rw [if_pos h]
      refine ⟨post, by rw [List.cons_append, ← e], h1, fun c hc => ?_⟩
      rcases List.mem_cons.mp hc with rfl | hc
      · exact h
      · exact h2 c hc
    · rw [if_neg h]
      refine ⟨a :: l, rfl, stop_cons (by simpa using h), fun _ z => (nomatch z)⟩
theorem val_ge : ∀ (l : List Nat) (a : Nat), 1 ≤ a → 10 ^ l.length ≤ l.foldl (fun acc c => acc * 10 + (c - 48)) a
  | [], a, h => by simpa using h
  | c :: l, a, h => by
    rw [List.foldl_cons, List.length_cons]
    have ih : ∀ b, a * 10 ≤ b → 10 ^ l.length * 10 ≤ l.foldl (fun acc c => acc * 10 + (c - 48)) b := by
      intro b hb
      have mono : ∀ (l : List Nat) (x k : Nat), k * 10 ≤ x → 1 ≤ k → 10 ^ l.length * (k * 10) ≤ l.foldl (fun acc c => acc * 10 + (c - 48)) x := by
        intro l
        induction l with
        | nil => intro x k hk _; simpa using hk
        | cons d l ih =>
          intro x k hk hk1
          rw [List.foldl_cons, List.length_cons, Nat.pow_succ]
          have := ih (x * 10 + (d - 48)) (k * 10) (by omega) (by omega)
          calc 10 ^ l.length * 10 * (k * 10) = 10 ^ l.length * (k * 10 * 10) := by rw [Nat.mul_assoc, Nat.mul_comm 10]
            _ ≤ _ := this
      have := mono l b a hb h
      refine Nat.le_trans ?_ this
      exact Nat.mul_le_mul_left _ (by omega)
    rw [Nat.pow_succ]
    exact ih _ (by omega)
theorem val_len {c : Nat} {r : List Nat} (hc : dig c = true) (h0 : c ≠ 48) : 10 ^ r.length ≤ NumText.digitsVal (c :: r) := by
  rw [dig_iff] at hc
  unfold NumText.digitsVal
  rw [List.foldl_cons]
  exact val_ge r _ (by omega)
theorem figs (c : Nat) : decide (c ∈ tl (Str.ofString "0123456789")) = dig c := by
  rw [tl_ofString]
  show decide (c ∈ [48, 49, 50, 51, 52, 53, 54, 55, 56, 57]) = decide (48 ≤ c ∧ c ≤ 57)
  congr 1
  simp
  omega
/-! ### one sign of a text against a written one -/
theorem sg_is {z s : Str} {p c : Nat} (h : tl s = [c]) : decide (V.str (sg z p) = V.str s) = decide ((tl z)[p]? = some c) := by
  rw [dec_s, h]
  show decide ((tl z)[p]?.toList = [c]) = _
  congr 1
  cases (tl z)[p]? with
  | none => simp
  | some d => simp
theorem sg_empty {z s : Str} {p : Nat} (h : tl s = []) : decide (V.str (sg z p) = V.str s) = decide ((tl z)[p]? = none) := by
  rw [dec_s, h]
  show decide ((tl z)[p]?.toList = []) = _
  congr 1
  cases (tl z)[p]? with
  | none => simp
  | some d => simp
theorem sg_fig {z : Str} {p c : Nat} (h : (tl z)[p]? = some c) : (!(Builtin.Str.occurrences (Str.ofString "0123456789") (sg z p) 0 (Str.ofString "0123456789").length 1).isEmpty) = dig c := by
  rw [sg_some h]
  show (!(Builtin.Str.occurrences (Str.ofString "0123456789") ⟨#[c]⟩ 0 (Str.ofString "0123456789").length 1).isEmpty) = dig c
  rw [StrLaws.found_one]
  exact figs c
/-! ### members, turn by turn -/
theorem members_ok {L : List Nat} {f : Nat → PR} {xs : List D} {q : Nat} : ∀ {n p : Nat} {acc : List D}, members L f n p acc = .ok (.tup xs, q) → ∃ ys, xs = acc ++ ys
  | 0, p, acc, h => by cases h
  | n + 1, p, acc, h => by
    unfold members at h
    cases e : f p with
    | error k => rw [e] at h; cases h
    | ok dq =>
      obtain ⟨d, k⟩ := dq
      rw [e] at h
      simp only at h
      split at h
      · split at h
        · cases h
          exact ⟨[d], rfl⟩
        · split at h
          · obtain ⟨ys, e⟩ := members_ok h
            exact ⟨d :: ys, by rw [e, List.append_assoc]; rfl⟩
          · cases h
      · cases h
end Tst
namespace Tst
open PySem PySem.Spec PyProof.Rows L2 TL
def top (i : Nat) : Stmt := PySem.Challenge.pw_termstead_k18_plain_there_and_back.main.body.getD i (.Pass ⟨0, 0, 0, 0⟩)
abbrev s_show_plain : Stmt := top 7
theorem sc_show_plain : FnScope ["value", "member"] ["value"] (defScope s_show_plain) := ⟨rfl, rfl, rfl, by decide +kernel, rfl, by decide +kernel, by decide +kernel⟩
abbrev s_quoted : Stmt := top 8
theorem sc_quoted : FnScope ["text"] ["text"] (defScope s_quoted) := ⟨rfl, rfl, rfl, by decide +kernel, rfl, by decide +kernel, by decide +kernel⟩
abbrev s_read_plain : Stmt := top 9
theorem sc_read_plain : FnScope ["text", "value", "place"] ["text"] (defScope s_read_plain) := ⟨rfl, rfl, rfl, by decide +kernel, rfl, by decide +kernel, by decide +kernel⟩
abbrev s_value_at : Stmt := top 10
theorem sc_value_at : FnScope ["text", "place", "within", "sign"] ["text", "place", "within"] (defScope s_value_at) := ⟨rfl, rfl, rfl, by decide +kernel, rfl, by decide +kernel, by decide +kernel⟩
abbrev s_integer_at : Stmt := top 11
theorem sc_integer_at : FnScope ["text", "place", "begin", "sign", "end"] ["text", "place"] (defScope s_integer_at) := ⟨rfl, rfl, rfl, by decide +kernel, rfl, by decide +kernel, by decide +kernel⟩
abbrev s_text_at : Stmt := top 12
theorem sc_text_at : FnScope ["text", "place", "parts", "quote", "end", "slash", "feed", "behind"] ["text", "place"] (defScope s_text_at) := ⟨rfl, rfl, rfl, by decide +kernel, rfl, by decide +kernel, by decide +kernel⟩
abbrev s_tuple_at : Stmt := top 13
theorem sc_tuple_at : FnScope ["text", "place", "within", "members", "member", "sign"] ["text", "place", "within"] (defScope s_tuple_at) := ⟨rfl, rfl, rfl, by decide +kernel, rfl, by decide +kernel, by decide +kernel⟩
abbrev s__law_cell : Stmt := top 15
theorem sc__law_cell : FnScope ["script", "k"] ["script", "k"] (defScope s__law_cell) := ⟨rfl, rfl, rfl, by decide +kernel, rfl, by decide +kernel, by decide +kernel⟩
abbrev s__law_digits : Stmt := top 16
theorem sc__law_digits : FnScope ["script", "first", "last", "digits", "k", "cell", "turn", "seed"] ["script", "first", "last"] (defScope s__law_digits) := ⟨rfl, rfl, rfl, by decide +kernel, rfl, by decide +kernel, by decide +kernel⟩
abbrev s__law_draw : Stmt := top 17
theorem sc__law_draw : FnScope ["box", "many", "at"] ["box", "many"] (defScope s__law_draw) := ⟨rfl, rfl, rfl, by decide +kernel, rfl, by decide +kernel, by decide +kernel⟩
abbrev s__law_same : Stmt := top 18
theorem sc__law_same : FnScope ["actual", "due", "k"] ["actual", "due"] (defScope s__law_same) := ⟨rfl, rfl, rfl, by decide +kernel, rfl, by decide +kernel, by decide +kernel⟩
abbrev s__law_plain : Stmt := top 19
theorem sc__law_plain : FnScope ["value", "one"] ["value"] (defScope s__law_plain) := ⟨rfl, rfl, rfl, by decide +kernel, rfl, by decide +kernel, by decide +kernel⟩
abbrev s__law_value : Stmt := top 20
theorem sc__law_value : FnScope ["box", "deep", "kind", "number", "signs", "k"] ["box", "deep"] (defScope s__law_value) := ⟨rfl, rfl, rfl, by decide +kernel, rfl, by decide +kernel, by decide +kernel⟩
abbrev s_law : Stmt := top 21
theorem sc_law : FnScope ["script", "box", "turn", "value", "k", "text"] ["script"] (defScope s_law) := ⟨rfl, rfl, rfl, by decide +kernel, rfl, by decide +kernel, by decide +kernel⟩
/-- what the text's top has: the built-ins are the built-ins, the constants -/
structure Txt0 (mg : Str → Option Value) (tF tM tB : Tok) : Prop where
  n_len : mg "len" = none
  n_isinstance : mg "isinstance" = none
  n_int : mg "int" = none
  n_str : mg "str" = none
  n_tuple : mg "tuple" = none
  n_bool : mg "bool" = none
  n_range : mg "range" = none
  g_FIGURES : mg "FIGURES" = some (.str (Str.ofString "0123456789") tF)
  g_MOST_FIGURES : mg "MOST_FIGURES" = some (.int 2000 tM)
  g_MOST_BRACKETS : mg "MOST_BRACKETS" = some (.int 40 tB)
section
variable {P : Program} {w : World} {K : PySem.W.Frag} {mg : Str → Option Value} {base : Heap} {f : Addr} {fd : FuncData} {tF tM tB : Tok}
def spCell (K : PySem.W.Frag) : Sp := fun vs H Q _ => ∃ (a : Addr) (ns : List Int) (k : Int), vs = [.ref a, .int k] ∧ SqL K H a (ns.map V.int) ∧ 0 ≤ k ∧ ∀ i : Int, Q (.int i) H
theorem ok_cell (F : Fun K "_law_cell" "_law_cell" s__law_cell f fd) (T : Txt0 mg tF tM tB) : FnOk P w K mg base CX0 1 f fd ["script", "k"] (spCell K) := by
  refine F.ok sc__law_cell (fun vs H Q E h => ?_) (fun cdv A outer s H vs Q E hr h => ?_)
  · obtain ⟨a, ns, k, rfl, _⟩ := h
    rfl
  obtain ⟨a, ns, k, rfl, hS, h0, q⟩ := h
  refine ⟨_, pss_cons (ps_if (pt_cmpR op_lt (pv 1) (pe_callB call_len_seq rfl (by exact T.n_len) PySem.boot_len (pa_cons (pv 0) pa_nil)) (nomark _)) (pss_one (ps_ret (pe_ix ix_list (pv 0) (pv 1) (fun _ _ => rfl)))) (pss_nil))
    (pss_one (ps_ret (pe_int))), ?_⟩
  refine ⟨_, rfl, _, rfl, a, _, rfl, .inl hS, _, _, rfl, rfl, _, rfl, ?_⟩
  refine ite2 (fun c => ?_) (fun c => ?_)
  · have c' : k < (((ns.map V.int).length : Nat) : Int) := of_decide_eq_true c
    rw [List.length_map] at c'
    have hk : k.toNat < ns.length := by omega
    have e : atI (ns.map V.int) k = some (.int ns[k.toNat]) := by
      have q := atI_nat (xs := ns.map V.int) (j := k.toNat) (v := V.int ns[k.toNat]) (by rw [List.getElem?_map, List.getElem?_eq_getElem hk]; rfl)
      rwa [show ((k.toNat : Nat) : Int) = k by omega] at q
    exact ⟨_, rfl, _, rfl, a, _, _, _, rfl, rfl, hS, e, q _⟩
  · exact q 0

def spDigits (K : PySem.W.Frag) : Sp := fun vs H Q _ => ∃ (a : Addr) (ns : List Int) (lo hi : Int), vs = [.ref a, .int lo, .int hi] ∧ SqL K H a (ns.map V.int) ∧ (0 ≤ lo ∧ lo ≤ 1000 ∧ 0 ≤ hi ∧ hi ≤ 1000) ∧
  ∀ (p : Addr) (H' : Hp) (ds : List Int), Same H H' → H p = none → H' p = some (.lst (ds.map V.int)) → Q (.ref p) H'
/-- behind a turn: the digits so far -/
structure DigAt (p : Addr) (H0 H : Hp) (m : Nat) : Prop where
  at_ : ∃ ds : List Int, H p = some (.lst (ds.map V.int)) ∧ ds.length ≤ m
  keep : Kept p H0 H
theorem DigAt.mono {p : Addr} {H0 H : Hp} {m n : Nat} (x : DigAt p H0 H m) (h : m ≤ n) : DigAt p H0 H n := by
  obtain ⟨⟨ds, h1, h2⟩, k⟩ := x
  exact ⟨⟨ds, h1, by omega⟩, k⟩
theorem DigAt.add {p : Addr} {H0 H : Hp} {m : Nat} {ds : List Int} {v : Int} (k : Kept p H0 H) (hd : H p = some (.lst (ds.map V.int))) (hl : ds.length ≤ m) : DigAt p H0 (upd H p (.lst (ds.map V.int ++ [.int v]))) (m + 1) :=
  ⟨⟨ds ++ [v], by rw [upd_same, List.map_append]; rfl, by rw [List.length_append, List.length_singleton]; omega⟩, k.trans Kept.upd⟩
theorem small_of {n : Nat} (h : n ≤ 1000000) : n < sizeLine := Nat.lt_of_le_of_lt h (by decide)
theorem ok_digits (F : Fun K "_law_digits" "_law_digits" s__law_digits f fd) (T : Txt0 mg tF tM tB) (c__law_cell : Cal P w K mg base CX0 1 "_law_cell" ["script", "k"] (spCell K)) : FnOk P w K mg base CX0 2 f fd ["script", "first", "last"] (spDigits K) := by
  refine F.ok sc__law_digits (fun vs H Q E h => ?_) (fun cdv A outer s H vs Q E hr h => ?_)
  · obtain ⟨a, ns, lo, hi, rfl, _⟩ := h
    rfl
  obtain ⟨a, ns, lo, hi, rfl, hS, ⟨b1, b2, b3, b4⟩, q⟩ := h
  refine ⟨_, pss_cons (ps_set (i := 3) sc__law_digits.nd rfl (Or.inl rfl) (pe_lst (pa_nil)))
    (pss_cons (ps_for PassesOwn.never rfl (pi_range2 rfl (by exact T.n_range) (pa_cons (pv 1) (pa_cons (pv 2) pa_nil))) (pg_name (i := 4) sc__law_digits.nd rfl (Or.inl rfl)) (pss_cons (ps_if (pt_cmpR op_gt (pe_callB call_len_seq rfl (by exact T.n_len) PySem.boot_len (pa_cons (pv 3) pa_nil)) (pe_int) (nomark _)) (pss_one (ps_break)) (pss_nil))
    (pss_cons (ps_set (i := 5) sc__law_digits.nd rfl (Or.inl rfl) (pe_cal c__law_cell (hr.mono (by omega)) rfl pass0 (pa_cons (pv 0) (pa_cons (pv 4) pa_nil))))
    (C8.pss_cut (ps_if (pt_cmpR op_lt (pv 5) (pe_int) (nomark _)) (pss_one (ps_set (i := 5) sc__law_digits.nd rfl (Or.inl rfl) (pe_op op_sub (pe_int) (pe_op op_mul (pe_int) (pv 5))))) (pss_nil))
    (pss_one (ps_if (pt_cmpR op_ge (pv 5) (pe_op op_pow (pe_int) (pe_int)) (nomark _)) (pss_one (ps_for PassesOwn.never rfl (pi_range1 rfl (by exact T.n_range) (pa_cons (pe_int) pa_nil)) (pg_name (i := 6) sc__law_digits.nd rfl (Or.inl rfl)) (pss_one (ps_if (pt_cmpR op_gt (pv 5) (pe_int) (nomark _)) (pss_cons (ps_expr (pe_bm PySem.F.plainAttrs_list PySem.F.slot_list_append PySem.F.type_list_append mt_append (pv 3) (pa_cons (pe_op op_mod (pe_callTy call_int1 rfl (by exact T.n_int) (by decide +kernel) (pa_cons (pv 5) pa_nil)) (pe_int)) pa_nil)))
    (pss_one (ps_set (i := 5) sc__law_digits.nd rfl (Or.inl rfl) (pe_op op_fdiv (pv 5) (pe_int))))) (pss_nil))))) (pss_cons (ps_set (i := 7) sc__law_digits.nd rfl (Or.inl rfl) (pe_op op_mod (pe_callTy call_int1 rfl (by exact T.n_int) (by decide +kernel) (pa_cons (pe_op op_add (pe_op op_add (pe_op op_mul (pv 5) (pe_int)) (pe_op op_mul (pv 4) (pe_int))) (pe_int)) pa_nil)) (pe_int)))
    (pss_one (ps_for PassesOwn.never rfl (pi_range1 rfl (by exact T.n_range) (pa_cons (pe_int) pa_nil)) (pg_name (i := 6) sc__law_digits.nd rfl (Or.inl rfl)) (pss_cons (ps_set (i := 7) sc__law_digits.nd rfl (Or.inl rfl) (pe_op op_mod (pe_callTy call_int1 rfl (by exact T.n_int) (by decide +kernel) (pa_cons (pe_op op_add (pe_op op_add (pe_op op_mul (pv 7) (pe_int)) (pe_op op_mul (pe_int) (pv 6))) (pe_int)) pa_nil)) (pe_int)))
    (pss_one (ps_expr (pe_bm PySem.F.plainAttrs_list PySem.F.slot_list_append PySem.F.type_list_append mt_append (pv 3) (pa_cons (pe_op op_mod (pe_callTy call_int1 rfl (by exact T.n_int) (by decide +kernel) (pa_cons (pe_op op_fdiv (pv 7) (pe_int)) pa_nil)) (pe_int)) pa_nil))))))))))))))
    (pss_one (ps_ret (pv 3)))), ?_⟩
  refine ⟨(by show 0 ≤ sizeLine; decide), fun p hp => ?_⟩
  have fin : ∀ H' : Hp, DigAt p H H' 2000 → Q (.ref p) H' := fun H' x => by
    obtain ⟨⟨ds, h1, _⟩, k⟩ := x
    exact q p H' ds (fun b o e => k b o (ne_of_none e hp) e) hp h1
  refine ⟨_, rfl, _, rfl, lo, hi, rfl, ⟨by omega, by omega, by omega, by omega⟩, for_range (lo := lo) (n := (hi - lo).toNat)
    (fun i σ H' => ∃ x4 x5 x6 x7 : Option V, σ = [some (.ref a), some (.int lo), some (.int hi), some (.ref p), x4, x5, x6, x7] ∧ DigAt p H H' 1560) ?_ ?_ ?_⟩
  · exact ⟨_, _, _, _, rfl, ⟨⟨[], upd_same, by simp⟩, Kept.upd⟩⟩
  · rintro i σ H1 hi1 ⟨x4, x5, x6, x7, rfl, D1⟩
    obtain ⟨⟨ds, hd, hl⟩, k1⟩ := D1
    have hS1 : SqL K H1 a (ns.map V.int) := by
      have : Same H H1 := fun b o e => k1 b o (ne_of_none e hp) e
      exact this.seq hS
    -- if len(digits) > 1500: break
    refine ⟨_, rfl, p, _, rfl, .inl (SqL.of hd), _, _, rfl, rfl, _, rfl, ?_⟩
    refine ite2 (fun c => ?_) (fun c => ?_)
    · exact ⟨_, rfl, fin _ ⟨⟨ds, hd, by omega⟩, k1⟩⟩
    have hl' : ds.length ≤ 1500 := by
      have c' : ¬ (1500 : Int) < (((ds.map V.int).length : Nat) : Int) := of_decide_eq_false (Bool.eq_false_iff.mpr c)
      rw [List.length_map] at c'
      omega
    -- cell = _law_cell(script, k)
    refine ⟨_, rfl, _, rfl, a, ns, _, rfl, hS1, by omega, fun c0 => ?_⟩
    -- if cell < 0: cell = 1 - 2 * cell
    refine ⟨fun σ' H' => H' = H1 ∧ ∃ c : Int, σ' = [some (.ref a), some (.int lo), some (.int hi), some (.ref p), some (.int (lo + i)), some (.int c), x6, x7], ?_, ?_⟩
    · refine ⟨_, rfl, _, _, rfl, rfl, _, rfl, ite2 (fun _ => ?_) (fun _ => ?_)⟩
      · exact ⟨_, rfl, _, _, rfl, rfl, .inl ⟨by decide, by decide⟩, _, _, rfl, rfl, rfl, _, rfl⟩
      · exact ⟨rfl, _, rfl⟩
    rintro σ' H' ⟨rfl, c, rfl⟩
    refine ⟨_, rfl, _, _, rfl, rfl, ⟨by decide, by decide, by decide⟩, _, _, rfl, rfl, _, rfl, ite2 (fun _ => ?_) (fun _ => ?_)⟩
    · -- the digits of a great cell
      refine ⟨60, rfl, by decide, by decide, for_range (lo := 0) (n := (60 : Int).toNat)
        (fun j σ H2 => ∃ (c : Int) (x6 : Option V), σ = [some (.ref a), some (.int lo), some (.int hi), some (.ref p), some (.int (lo + i)), some (.int c), x6, x7] ∧ DigAt p H H2 (1500 + j)) ?_ ?_ ?_⟩
      · exact ⟨_, _, rfl, ⟨ds, hd, by omega⟩, k1⟩
      · rintro j σ H2 hj ⟨c, x6, rfl, D2⟩
        refine ⟨_, rfl, _, _, rfl, rfl, _, rfl, ite2 (fun _ => ?_) (fun _ => ?_)⟩
        · obtain ⟨⟨ds2, hd2, hl2⟩, k2⟩ := D2
          refine ⟨_, rfl, .inl ⟨rfl, _, SqL.of hd2⟩, _, rfl, .inl ⟨_, rfl, _, _, rfl, rfl, (show (0 : Int) < 1000 by decide), p, _, _, rfl, rfl, hd2, (by rw [List.length_map]; exact small_of (by have : (60 : Int).toNat = 60 := rfl; omega)), ?_⟩⟩
          refine ⟨_, rfl, _, _, rfl, rfl, ⟨by decide, by decide⟩, _, _, rfl, DigAt.add k2 hd2 hl2⟩
        · exact ⟨_, _, rfl, D2.mono (by omega)⟩
      · rintro σ H2 ⟨c, x6, rfl, D2⟩
        exact ⟨_, _, _, _, rfl, D2.mono (by have : (60 : Int).toNat = 60 := rfl; omega)⟩
    · -- the digits of a seed
      refine ⟨_, rfl, _, _, rfl, rfl, .inr ⟨by decide, by decide⟩, _, rfl, _, _, rfl, rfl, .inr ⟨by decide, by decide⟩, _, _, rfl, rfl, _, _, rfl, rfl, .inl ⟨_, rfl, _, _, rfl, rfl, (show (0 : Int) < 2147483647 by decide), ?_⟩⟩
      refine ⟨12, rfl, by decide, by decide, for_range (lo := 0) (n := (12 : Int).toNat)
        (fun j σ H2 => ∃ (sd : Int) (x6 : Option V), σ = [some (.ref a), some (.int lo), some (.int hi), some (.ref p), some (.int (lo + i)), some (.int c), x6, some (.int sd)] ∧ DigAt p H H2 (1500 + j)) ?_ ?_ ?_⟩
      · exact ⟨_, _, rfl, ⟨ds, hd, by omega⟩, k1⟩
      · rintro j σ H2 hj ⟨sd, x6, rfl, ⟨ds2, hd2, hl2⟩, k2⟩
        refine ⟨_, rfl, _, _, rfl, rfl, .inr ⟨by decide, by decide⟩, _, rfl, _, _, rfl, rfl, .inl ⟨by decide, by decide⟩, _, _, rfl, rfl, _, _, rfl, rfl, .inl ⟨_, rfl, _, _, rfl, rfl, (show (0 : Int) < 2147483647 by decide), ?_⟩⟩
        refine ⟨_, rfl, .inl ⟨rfl, _, SqL.of hd2⟩, _, rfl, _, _, rfl, rfl, ⟨by decide, by decide⟩, .inl ⟨_, rfl, _, _, rfl, rfl, (show (0 : Int) < 1000 by decide), p, _, _, rfl, rfl, hd2, (by rw [List.length_map]; exact small_of (by have : (12 : Int).toNat = 12 := rfl; omega)), ?_⟩⟩
        exact ⟨_, _, rfl, DigAt.add k2 hd2 hl2⟩
      · rintro σ H2 ⟨c, x6, rfl, D2⟩
        exact ⟨_, _, _, _, rfl, D2.mono (by have : (12 : Int).toNat = 12 := rfl; omega)⟩
  · rintro σ H1 ⟨x4, x5, x6, x7, rfl, D1⟩
    exact ⟨_, rfl, fin _ (D1.mono (by omega))⟩

/-! ### the draws -/
def spDraw : Sp := fun vs H Q _ => ∃ (b d : Addr) (many : Int), vs = [.ref b, .int many] ∧ 0 < many ∧ Box H b d ∧ ∀ (v : Int) (H' : Hp), 0 ≤ v → v < many → Box H' b d → Kept b H H' → Q (.int v) H'
theorem ok_draw (F : Fun K "_law_draw" "_law_draw" s__law_draw f fd) (T : Txt0 mg tF tM tB) : FnOk P w K mg base CX0 1 f fd ["box", "many"] spDraw := by
  refine F.ok sc__law_draw (fun vs H Q E h => ?_) (fun cdv A outer s H vs Q E hr h => ?_)
  · obtain ⟨b, d, many, rfl, _⟩ := h
    rfl
  obtain ⟨b, d, many, rfl, hm, ⟨ds, n, h1, h2, hn⟩, q⟩ := h
  refine ⟨_, pss_cons (ps_set (i := 2) sc__law_draw.nd rfl (Or.inl rfl) (pe_ix ix_list (pv 0) (pe_int) (fun _ _ => rfl)))
    (pss_cons (ps_asg (pe_op op_add (pv 2) (pe_int)) (pg_sub (pv 0) (pe_int) set_list))
    (pss_cons (ps_if (pt_cmpR op_lt (pv 2) (pe_callB call_len_seq rfl (by exact T.n_len) PySem.boot_len (pa_cons (pe_ix ix_list (pv 0) (pe_int) (fun _ _ => rfl)) pa_nil)) (nomark _)) (pss_one (ps_ret (pe_op op_mod (pe_callTy call_int1 rfl (by exact T.n_int) (by decide +kernel) (pa_cons (pe_ix ix_list (pe_ix ix_list (pv 0) (pe_int) (fun _ _ => rfl)) (pv 2) (fun _ _ => rfl)) pa_nil)) (pv 1)))) (pss_nil))
    (pss_one (ps_ret (pe_op op_mod (pe_callTy call_int1 rfl (by exact T.n_int) (by decide +kernel) (pa_cons (pe_op op_mul (pv 2) (pe_int)) pa_nil)) (pv 1)))))), ?_⟩
  refine ⟨_, rfl, b, _, _, _, rfl, rfl, SqL.of h1, (show atI [V.ref d, V.int n] 1 = some (V.int n) from rfl), ?_⟩
  refine ⟨_, rfl, _, _, rfl, rfl, _, rfl, b, _, _, _, rfl, rfl, h1, (show ixN 2 1 = some 1 from rfl), ?_⟩
  have k1 : Kept b H (upd H b (.lst ([V.ref d, V.int n].set 1 (.int ((n : Int) + 1))))) := Kept.upd
  have e1 : (upd H b (.lst ([V.ref d, V.int n].set 1 (.int ((n : Int) + 1))))) b = some (.lst [V.ref d, V.int ((n + 1 : Nat) : Int)]) := upd_same
  have e2 : (upd H b (.lst ([V.ref d, V.int n].set 1 (.int ((n : Int) + 1))))) d = some (.lst (ds.map V.int)) := by rw [upd_ne hn]; exact h2
  have bx : Box (upd H b (.lst ([V.ref d, V.int n].set 1 (.int ((n : Int) + 1))))) b d := ⟨ds, n + 1, e1, e2, hn⟩
  refine ⟨_, rfl, _, rfl, b, _, _, _, rfl, rfl, SqL.of e1, (show atI [V.ref d, V.int ((n + 1 : Nat) : Int)] 0 = some (V.ref d) from rfl), d, _, rfl, .inl (SqL.of e2), _, _, rfl, rfl, _, rfl, ite2 (fun c => ?_) (fun c => ?_)⟩
  · have c' : (n : Int) < (((ds.map V.int).length : Nat) : Int) := of_decide_eq_true c
    rw [List.length_map] at c'
    have hk : n < ds.length := by omega
    refine ⟨_, rfl, b, _, _, _, rfl, rfl, SqL.of e1, (show atI [V.ref d, V.int ((n + 1 : Nat) : Int)] 0 = some (V.ref d) from rfl), _, rfl, d, _, _, _, rfl, rfl, SqL.of e2, (atI_nat (xs := ds.map V.int) (j := n) (v := V.int ds[n]) (by rw [List.getElem?_map, List.getElem?_eq_getElem hk]; rfl)), ?_⟩
    exact .inl ⟨_, rfl, _, rfl, _, _, rfl, rfl, hm, q _ _ (Int.emod_nonneg _ (by omega)) (Int.emod_lt_of_pos _ hm) bx k1⟩
  · exact ⟨_, rfl, _, _, rfl, rfl, .inr ⟨by decide, by decide⟩, .inl ⟨_, rfl, _, rfl, _, _, rfl, rfl, hm, q _ _ (Int.emod_nonneg _ (by omega)) (Int.emod_lt_of_pos _ hm) bx k1⟩⟩
/-! ### tests that are known -/
theorem iteN {c : Bool} {A B : Prop} (h : c = false) (hb : B) : if c = true then A else B := by rw [h, if_neg Bool.false_ne_true]; exact hb
theorem iteY {c : Bool} {A B : Prop} (h : c = true) (ha : A) : if c = true then A else B := by rw [if_pos h]; exact ha
/-! ### the same plain value -/
def spSame (n : Nat) : Sp := fun vs H Q _ => ∃ (d : D) (v u : V), vs = [v, u] ∧ (d.deep < n ∧ d.show.length ≤ 1000000) ∧ Rp H d v ∧ Rp H d u ∧ Q (.bl true) H
theorem ok_same {n : Nat} (F : Fun K "_law_same" "_law_same" s__law_same f fd) (T : Txt0 mg tF tM tB) (c__law_same : Cal P w K mg base CX0 n "_law_same" ["actual", "due"] (spSame n)) : FnOk P w K mg base CX0 (n + 1) f fd ["actual", "due"] (spSame (n + 1)) := by
  refine F.ok sc__law_same (fun vs H Q E h => ?_) (fun cdv A outer s H vs Q E hr h => ?_)
  · obtain ⟨d, v, u, rfl, _⟩ := h
    rfl
  obtain ⟨d, v, u, rfl, ⟨hd, hz⟩, r1, r2, q⟩ := h
  refine ⟨_, pss_cons (ps_if (pt_val (pe_callB call_isK rfl (by exact T.n_isinstance) (by decide +kernel) (pa_cons (pv 1) (pa_cons (pe_bltn (v := .ty "tuple") rfl (by exact T.n_tuple) (by decide +kernel) rfl) pa_nil)))) (pss_cons (ps_if (PW.pt (pw_or (pt_not (pt_val (pe_callB call_isK rfl (by exact T.n_isinstance) (by decide +kernel) (pa_cons (pv 0) (pa_cons (pe_bltn (v := .ty "tuple") rfl (by exact T.n_tuple) (by decide +kernel) rfl) pa_nil))))) (pw_or1 (pt_cmpR op_ne (pe_callB call_len_seq rfl (by exact T.n_len) PySem.boot_len (pa_cons (pv 0) pa_nil)) (pe_callB call_len_seq rfl (by exact T.n_len) PySem.boot_len (pa_cons (pv 1) pa_nil)) (nomark _))))) (pss_one (ps_ret (pe_bl))) (pss_nil))
    (pss_cons (ps_for PassesOwn.never rfl (pi_range1 rfl (by exact T.n_range) (pa_cons (pe_callB call_len_seq rfl (by exact T.n_len) PySem.boot_len (pa_cons (pv 1) pa_nil)) pa_nil)) (pg_name (i := 2) sc__law_same.nd rfl (Or.inl rfl)) (pss_one (ps_if (pt_not (pt_val (pe_cal c__law_same (hr.mono (by omega)) rfl pass0 (pa_cons (pe_ix ix_tup (pv 0) (pv 2) (fun _ _ => rfl)) (pa_cons (pe_ix ix_tup (pv 1) (pv 2) (fun _ _ => rfl)) pa_nil))))) (pss_one (ps_ret (pe_bl))) (pss_nil))))
    (pss_one (ps_ret (pe_bl))))) (pss_nil))
    (pss_cons (ps_if (pt_cmpR op_isN (pv 1) (pe_non) (nomark _)) (pss_one (ps_ret (pe_cmpR op_isN (pv 0) (pe_non) (nomark _)))) (pss_nil))
    (pss_cons (ps_if (pt_cmpR op_isB (pv 1) (pe_bl) (nomark _)) (pss_one (ps_ret (pe_cmpR op_isB (pv 0) (pe_bl) (nomark _)))) (pss_nil))
    (pss_cons (ps_if (pt_cmpR op_isB (pv 1) (pe_bl) (nomark _)) (pss_one (ps_ret (pe_cmpR op_isB (pv 0) (pe_bl) (nomark _)))) (pss_nil))
    (pss_cons (ps_if (pt_val (pe_callB call_isK rfl (by exact T.n_isinstance) (by decide +kernel) (pa_cons (pv 1) (pa_cons (pe_bltn (v := .ty "int") rfl (by exact T.n_int) (by decide +kernel) rfl) pa_nil)))) (pss_one (ps_ret (pe_and (pe_callB call_isK rfl (by exact T.n_isinstance) (by decide +kernel) (pa_cons (pv 0) (pa_cons (pe_bltn (v := .ty "int") rfl (by exact T.n_int) (by decide +kernel) rfl) pa_nil))) (pe_and (pe_not (pe_callB call_isK rfl (by exact T.n_isinstance) (by decide +kernel) (pa_cons (pv 0) (pa_cons (pe_bltn (v := .ty "bool") rfl (by exact T.n_bool) (by decide +kernel) rfl) pa_nil)))) (pe_one (pe_cmpR op_eq (pv 0) (pv 1) (nomark _))))))) (pss_nil))
    (pss_one (ps_ret (pe_and (pe_callB call_isK rfl (by exact T.n_isinstance) (by decide +kernel) (pa_cons (pv 0) (pa_cons (pe_bltn (v := .ty "str") rfl (by exact T.n_str) (by decide +kernel) rfl) pa_nil))) (pe_one (pe_cmpR op_eq (pv 0) (pv 1) (nomark _)))))))))), ?_⟩
  cases d with
  | tup xs =>
    rw [Rp] at r1 r2
    obtain ⟨a, vs, rfl, ha, rs⟩ := r1
    obtain ⟨a', vs', rfl, ha', rs'⟩ := r2
    rw [D.deep] at hd
    have hk : kindV H (.ref a) = some "tuple" := by show kindO (H a) = _; rw [ha]; rfl
    have hk' : kindV H (.ref a') = some "tuple" := by show kindO (H a') = _; rw [ha']; rfl
    have l1 := rs.length
    have l2 := rs'.length
    refine ⟨_, rfl, _, _, _, _, rfl, hk', kb_tt, _, rfl, iteT ?_⟩
    refine ⟨_, rfl, _, _, _, _, rfl, hk, kb_tt, _, rfl, iteF ?_⟩
    refine ⟨_, rfl, a, _, rfl, .inr (SqT.of ha), _, rfl, a', _, rfl, .inr (SqT.of ha'), rfl, _, rfl, iteN (by rw [l1, l2]; simp) ?_⟩
    have hm := many_len xs
    refine ⟨_, rfl, a', _, rfl, .inr (SqT.of ha'), _, rfl, by omega, by omega, for_range (lo := 0) (n := ((vs'.length : Nat) : Int).toNat) (fun i σ H' => ∃ x2, σ = [some (.ref a), some (.ref a'), x2] ∧ H' = H) ⟨_, rfl, rfl⟩ ?_ ?_⟩
    · rintro i σ H' hi ⟨x2, rfl, rfl⟩
      have hi' : i < vs'.length := by omega
      have hi2 : i < vs.length := by omega
      have e0 : (0 : Int) + (i : Int) = (i : Int) := by omega
      obtain ⟨d1, g1, q1⟩ := rs.get (List.getElem?_eq_getElem hi2)
      obtain ⟨d2, g2, q2⟩ := rs'.get (List.getElem?_eq_getElem hi')
      rw [g1] at g2
      cases g2
      rw [e0]
      refine ⟨_, rfl, _, rfl, a, _, _, _, rfl, rfl, SqT.of ha, atI_nat (List.getElem?_eq_getElem hi2), _, rfl, _, rfl, a', _, _, _, rfl, rfl, SqT.of ha', atI_nat (List.getElem?_eq_getElem hi'), ?_⟩
      refine ⟨d1, _, _, rfl, ?_, q1, q2, _, rfl, iteF ⟨_, rfl, rfl⟩⟩
      have h1 := deeps_mem (xs := xs) d1 (List.mem_of_getElem? g1)
      have h2 := show_mem (List.mem_of_getElem? g1)
      exact ⟨by omega, by omega⟩
    · rintro σ H' ⟨x2, rfl, rfl⟩
      exact q
  | non =>
    rw [Rp] at r1 r2
    subst r1 r2
    refine ⟨_, rfl, _, _, _, _, rfl, rfl, kb_nt, _, rfl, iteF ?_⟩
    exact ⟨_, rfl, rfl, _, rfl, iteY (by simp) ⟨_, rfl, rfl, by simpa using q⟩⟩
  | bl b =>
    rw [Rp] at r1 r2
    subst r1 r2
    refine ⟨_, rfl, _, _, _, _, rfl, rfl, kb_bt, _, rfl, iteF ?_⟩
    refine ⟨_, rfl, rfl, _, rfl, iteN (by simp) ?_⟩
    have ty : (∀ n, V.bl b ≠ .ty n) ∧ ∀ n, V.bl b ≠ .flt n := ⟨fun _ z => (nomatch z), fun _ z => (nomatch z)⟩
    refine ⟨_, rfl, _, rfl, ty.1, ty.2, _, rfl, ?_⟩
    cases b with
    | true => exact iteY (by simp) ⟨_, rfl, _, rfl, ty.1, ty.2, by simpa using q⟩
    | false =>
      refine iteN (by simp) ⟨_, rfl, _, rfl, ty.1, ty.2, _, rfl, iteY (by simp) ?_⟩
      exact ⟨_, rfl, _, rfl, ty.1, ty.2, by simpa using q⟩
  | int i =>
    rw [Rp] at r1 r2
    subst r1 r2
    have ty : (∀ n, V.int i ≠ .ty n) ∧ ∀ n, V.int i ≠ .flt n := ⟨fun _ z => (nomatch z), fun _ z => (nomatch z)⟩
    refine ⟨_, rfl, _, _, _, _, rfl, rfl, kb_it, _, rfl, iteF ?_⟩
    refine ⟨_, rfl, rfl, _, rfl, iteN (by simp) ?_⟩
    refine ⟨_, rfl, _, rfl, ty.1, ty.2, _, rfl, iteN (by simp) ?_⟩
    refine ⟨_, rfl, _, rfl, ty.1, ty.2, _, rfl, iteN (by simp) ?_⟩
    refine ⟨_, rfl, _, _, _, _, rfl, rfl, kb_ii, _, rfl, iteT ?_⟩
    refine ⟨_, rfl, _, _, _, _, rfl, rfl, kb_ii, _, rfl, iteT ?_⟩
    refine ⟨_, rfl, _, _, _, _, rfl, rfl, kb_ib, _, rfl, _, rfl, iteT ?_⟩
    exact ⟨_, rfl, _, rfl, rfl, by simpa using q⟩
  | str z =>
    rw [Rp] at r1 r2
    subst r1 r2
    have ty : (∀ n, V.str z ≠ .ty n) ∧ ∀ n, V.str z ≠ .flt n := ⟨fun _ z => (nomatch z), fun _ z => (nomatch z)⟩
    refine ⟨_, rfl, _, _, _, _, rfl, rfl, kb_st, _, rfl, iteF ?_⟩
    refine ⟨_, rfl, rfl, _, rfl, iteN (by simp) ?_⟩
    refine ⟨_, rfl, _, rfl, ty.1, ty.2, _, rfl, iteN (by simp) ?_⟩
    refine ⟨_, rfl, _, rfl, ty.1, ty.2, _, rfl, iteN (by simp) ?_⟩
    refine ⟨_, rfl, _, _, _, _, rfl, rfl, kb_si, _, rfl, iteF ?_⟩
    refine ⟨_, rfl, _, _, _, _, rfl, rfl, kb_ss, _, rfl, iteT ?_⟩
    exact ⟨_, rfl, _, rfl, rfl, by simpa using q⟩

/-! ### the law's own text, and the program's -/
def spPl (n : Nat) : Sp := fun vs H Q _ => ∃ (d : D) (v : V), vs = [v] ∧ (d.deep < n ∧ d.show.length ≤ 1000000 ∧ d.Fit) ∧ Rp H d v ∧ ∀ H', Same H H' → Q (.str (showS d)) H'
theorem small16 {n : Nat} (h : n ≤ 10000000) : n ≤ sizeLine := Nat.le_trans h (by decide)
theorem e_open : Str.ofString "(" = strOf [40] := lit _ _
theorem e_close : Str.ofString ")" = strOf [41] := lit _ _
theorem e_blank : Str.ofString " " = strOf [32] := lit _ _
theorem e_quote : Str.ofString "\"" = strOf [34] := lit _ _
/-- the texts of the members, joined -/
theorem rep_bound {z : Str} (h : z.length ≤ 1000000) : z.length + (z.length + 1) * (Str.ofString "\\\\").length ≤ 16777216 := by
  have e : (Str.ofString "\\\\").length = 2 := by decide +kernel
  rw [e]
  omega
theorem rep_len {z y b : Str} {c : Nat} (hy : tl y = [c]) (hb : (tl b).length = 2) : (Txt.replace z y b).length ≤ 2 * z.length := by
  have hy1 : 1 ≤ y.length := by rw [len_tl, hy]; exact Nat.le_refl 1
  have e : tl (Txt.replace z y b) = (tl z).flatMap fun x => if x = c then tl b else [x] := by
    show (Txt.replace z y b).cps.toList = _
    rw [StrLaws.replace_list hy1, show y.cps.toList = [c] from hy, replL_one]
  rw [len_tl, e, len_tl z]
  generalize tl z = l
  induction l with
  | nil => simp
  | cons a l ih =>
    rw [List.flatMap_cons, List.length_append, List.length_cons]
    have : (if a = c then tl b else [a]).length ≤ 2 := by split <;> simp [hb]
    omega
theorem enc_chain {z : Str} (h : z.length ≤ 1000000) : z.length + (z.length + 1) * (Str.ofString "\\\\").length ≤ 16777216 ∧
    (Txt.replace z (Str.ofString "\\") (Str.ofString "\\\\")).length + ((Txt.replace z (Str.ofString "\\") (Str.ofString "\\\\")).length + 1) * (Str.ofString "\\\"").length ≤ 16777216 ∧
    (Txt.replace (Txt.replace z (Str.ofString "\\") (Str.ofString "\\\\")) (Str.ofString "\"") (Str.ofString "\\\"")).length + ((Txt.replace (Txt.replace z (Str.ofString "\\") (Str.ofString "\\\\")) (Str.ofString "\"") (Str.ofString "\\\"")).length + 1) * (Str.ofString "\\n").length ≤ 16777216 := by
  have e1 : (Str.ofString "\\\\").length = 2 := by decide +kernel
  have e2 : (Str.ofString "\\\"").length = 2 := by decide +kernel
  have e3 : (Str.ofString "\\n").length = 2 := by decide +kernel
  have l1 : (Txt.replace z (Str.ofString "\\") (Str.ofString "\\\\")).length ≤ 2 * z.length := rep_len (c := 92) (by decide +kernel) (by decide +kernel)
  have l2 : (Txt.replace (Txt.replace z (Str.ofString "\\") (Str.ofString "\\\\")) (Str.ofString "\"") (Str.ofString "\\\"")).length ≤ 2 * (Txt.replace z (Str.ofString "\\") (Str.ofString "\\\\")).length := rep_len (c := 34) (by decide +kernel) (by decide +kernel)
  rw [e1, e2, e3]
  refine ⟨by omega, by omega, by omega⟩
theorem ok_plain {n : Nat} (F : Fun K "_law_plain" "_law_plain" s__law_plain f fd) (T : Txt0 mg tF tM tB) (c__law_plain : Cal P w K mg base CX0 n "_law_plain" ["value"] (spPl n)) : FnOk P w K mg base CX0 (n + 1) f fd ["value"] (spPl (n + 1)) := by
  refine F.ok sc__law_plain (fun vs H Q E h => ?_) (fun cdv A outer s H vs Q E hr h => ?_)
  · obtain ⟨d, v, rfl, _⟩ := h
    rfl
  obtain ⟨d, v, rfl, ⟨hd, hz, hf⟩, r1, q⟩ := h
  refine ⟨_, pss_cons (ps_if (pt_cmpR op_isN (pv 0) (pe_non) (nomark _)) (pss_one (ps_ret (pe_str))) (pss_nil))
    (pss_cons (ps_if (pt_cmpR op_isB (pv 0) (pe_bl) (nomark _)) (pss_one (ps_ret (pe_str))) (pss_nil))
    (pss_cons (ps_if (pt_cmpR op_isB (pv 0) (pe_bl) (nomark _)) (pss_one (ps_ret (pe_str))) (pss_nil))
    (pss_cons (ps_if (pt_val (pe_callB call_isK rfl (by exact T.n_isinstance) (by decide +kernel) (pa_cons (pv 0) (pa_cons (pe_bltn (v := .ty "int") rfl (by exact T.n_int) (by decide +kernel) rfl) pa_nil)))) (pss_one (ps_ret (pe_callTy call_str_int rfl (by exact T.n_str) (by decide +kernel) (pa_cons (pv 0) pa_nil)))) (pss_nil))
    (pss_cons (ps_if (pt_val (pe_callB call_isK rfl (by exact T.n_isinstance) (by decide +kernel) (pa_cons (pv 0) (pa_cons (pe_bltn (v := .ty "tuple") rfl (by exact T.n_tuple) (by decide +kernel) rfl) pa_nil)))) (pss_one (ps_ret (pe_op op_add_str (pe_op op_add_str (pe_str) (pe_join (pe_str) (pe_lc (own := [("one", 1)]) (g := gName 1) rfl sc__law_plain.nd (pi_tup (pv 0)) (blkOk_by (own := [("one", 1)]) (N := ["value", "one"]) (sc := defScope s__law_plain) (by decide +kernel)) (fun _ _ _ _ _ => pg_name (i := 1) sc__law_plain.nd rfl (Or.inl rfl)) (fun _ _ _ _ _ => pts_nil) (fun _ _ _ _ _ => pe_cal c__law_plain (hr.mono (by omega)) rfl pass0 (pa_cons (pv 1) pa_nil))))) (pe_str)))) (pss_nil))
    (pss_one (ps_ret (pe_op op_add_str (pe_opT op_add_str (CwR.pet_replT (CwR.pet_replT (CwR.pet_replC (pv 0))))) (pe_str)))))))), ?_⟩
  have ty := r1.ty
  cases d with
  | non =>
    rw [Rp] at r1
    subst r1
    exact ⟨_, rfl, rfl, _, rfl, iteY (by simp) (q H (Same.refl H))⟩
  | bl b =>
    rw [Rp] at r1
    subst r1
    refine ⟨_, rfl, rfl, _, rfl, iteN (by simp) ?_⟩
    cases b with
    | true => exact ⟨_, rfl, _, rfl, ty.1, ty.2, _, rfl, iteY (by simp) (q H (Same.refl H))⟩
    | false =>
      refine ⟨_, rfl, _, rfl, ty.1, ty.2, _, rfl, iteN (by simp) ?_⟩
      exact ⟨_, rfl, _, rfl, ty.1, ty.2, _, rfl, iteY (by simp) (q H (Same.refl H))⟩
  | int i =>
    rw [Rp] at r1
    subst r1
    rw [D.Fit] at hf
    refine ⟨_, rfl, rfl, _, rfl, iteN (by simp) ?_⟩
    refine ⟨_, rfl, _, rfl, ty.1, ty.2, _, rfl, iteN (by simp) ?_⟩
    refine ⟨_, rfl, _, rfl, ty.1, ty.2, _, rfl, iteN (by simp) ?_⟩
    refine ⟨_, rfl, _, _, _, _, rfl, rfl, kb_ii, _, rfl, iteT ?_⟩
    refine ⟨_, rfl, i, rfl, log_small hf, ?_⟩
    rw [int_show]
    exact q H (Same.refl H)
  | tup xs =>
    rw [Rp] at r1
    obtain ⟨a, vs, rfl, ha, rs⟩ := r1
    rw [D.deep] at hd
    rw [D.Fit] at hf
    have hk : kindV H (.ref a) = some "tuple" := by show kindO (H a) = _; rw [ha]; rfl
    refine ⟨_, rfl, rfl, _, rfl, iteN (by simp) ?_⟩
    refine ⟨_, rfl, _, rfl, ty.1, ty.2, _, rfl, iteN (by simp) ?_⟩
    refine ⟨_, rfl, _, rfl, ty.1, ty.2, _, rfl, iteN (by simp) ?_⟩
    refine ⟨_, rfl, _, _, _, _, rfl, hk, kb_ti, _, rfl, iteF ?_⟩
    refine ⟨_, rfl, _, _, _, _, rfl, hk, kb_tt, _, rfl, iteT ?_⟩
    have hl := rs.length
    have hj := join_sum xs
    have hm := many_len xs
    have hz2 := hz
    rw [tup_len] at hz2
    refine ⟨⟨_, rfl⟩, _, rfl, a, rfl, ⟨_, SqT.of ha⟩, fun L hL => lc_tup (K := K) (a := a) (xs := vs) (fun i H' => H' L = some (.lst ((xs.take i).map fun d => V.str (showS d))) ∧ Kept L H H') ⟨by rw [upd_same]; rfl, Kept.upd⟩
      (fun i H' _ p => SqT.of (p.2 a _ (ne_of_none ha hL) ha)) ?_ ?_⟩
    · rintro i x H' hx ⟨hL', kp⟩
      have hi : i < vs.length := (List.getElem?_eq_some_iff.mp hx).1
      obtain ⟨d, g1, g2⟩ := rs.get hx
      have hS : Same H H' := fun b o e => kp b o (ne_of_none e hL) e
      have hmem := List.mem_of_getElem? g1
      have h1 := deeps_mem (xs := xs) d hmem
      have h2 := show_mem hmem
      refine ⟨rfl, _, rfl, d, x, rfl, ⟨by omega, by omega, fits_mem hf d hmem⟩, g2.mono (Same.tup hS), fun H2 s2 => ?_⟩
      refine ⟨_, s2 _ _ hL', ?_, ?_⟩
      · rw [List.length_map, List.length_take]
        exact small_of (by omega)
      · refine ⟨?_, fun b o n e => by rw [upd_ne n]; exact s2 _ _ (kp b o n e)⟩
        rw [upd_same]
        have et : xs.take (i + 1) = xs.take i ++ [d] := by rw [List.take_add_one, g1]; rfl
        rw [et, List.map_append]
        rfl
    · rintro H' ⟨hL', kp⟩
      rw [hl, List.take_length] at hL'
      have hS : Same H H' := fun b o e => kp b o (ne_of_none e hL) e
      have ey : xs.map (fun d => V.str (showS d)) = (xs.map showS).map V.str := by rw [List.map_map]; rfl
      rw [ey] at hL'
      refine ⟨_, L, xs.map showS, rfl, rfl, .inl (SqL.of hL'), ?_, ?_⟩
      · rw [e_blank, len_strOf, List.length_map]
        show _ + xs.length * 1 ≤ _
        omega
      · have lj : (Txt.join (strOf [32]) (xs.map showS)).length = (joinL [32] (D.shows xs)).length := by
          rw [len_tl, join_eq, tl_join, map_showS]
          rfl
        have la : (strOf [40] ++ Txt.join (strOf [32]) (xs.map showS)).length = (joinL [32] (D.shows xs)).length + 1 := by
          rw [len_tl, tl_append, List.length_append, ← len_tl, ← len_tl, lj]
          show 1 + _ = _
          omega
        rw [e_blank, e_open, e_close]
        refine ⟨_, _, rfl, rfl, small16 ?_, _, _, rfl, rfl, small16 ?_, ?_⟩
        · rw [lj]
          show 1 + _ ≤ _
          omega
        · rw [la]
          show _ + 1 ≤ _
          omega
        · rw [show_tup]
          exact q H' hS
  | str z =>
    rw [Rp] at r1
    subst r1
    have hzl : z.length ≤ 1000000 := by
      have h1 := enc_len (tl z)
      have h2 : (D.str z).show.length = (encL (tl z)).length + 2 := by
        show (34 :: (encL (tl z) ++ [34])).length = _
        rw [List.length_cons, List.length_append]
        rfl
      rw [len_tl]
      omega
    have h3 := len_enc (tl z)
    rw [← len_tl] at h3
    obtain ⟨b1, b2, b3⟩ := enc_chain hzl
    refine ⟨_, rfl, rfl, _, rfl, iteN (by simp) ?_⟩
    refine ⟨_, rfl, _, rfl, ty.1, ty.2, _, rfl, iteN (by simp) ?_⟩
    refine ⟨_, rfl, _, rfl, ty.1, ty.2, _, rfl, iteN (by simp) ?_⟩
    refine ⟨_, rfl, _, _, _, _, rfl, rfl, kb_si, _, rfl, iteF ?_⟩
    refine ⟨_, rfl, _, _, _, _, rfl, rfl, kb_st, _, rfl, iteF ?_⟩
    refine ⟨_, rfl, _, rfl, b1, _, rfl, b2, _, rfl, b3, ?_⟩
    rw [repl_enc, e_quote]
    have l1 : (strOf (encL (tl z))).length = (encL (tl z)).length := len_strOf _
    refine ⟨_, _, rfl, rfl, small16 ?_, _, _, rfl, rfl, small16 ?_, ?_⟩
    · rw [l1]
      show 1 + _ ≤ _
      omega
    · rw [len_tl, tl_append, List.length_append, ← len_tl, ← len_tl, l1]
      show 1 + _ + 1 ≤ _
      omega
    · rw [show_str]
      exact q H (Same.refl H)
/-- a text between quotes -/
def spQuoted : Sp := fun vs H Q _ => ∃ z : Str, vs = [.str z] ∧ z.length ≤ 1000000 ∧ Q (.str (showS (.str z))) H
theorem ok_quoted (F : Fun K "quoted" "quoted" s_quoted f fd) (T : Txt0 mg tF tM tB) : FnOk P w K mg base CX0 1 f fd ["text"] spQuoted := by
  refine F.ok sc_quoted (fun vs H Q E h => ?_) (fun cdv A outer s H vs Q E hr h => ?_)
  · obtain ⟨z, rfl, _⟩ := h
    rfl
  obtain ⟨z, rfl, hzl, q⟩ := h
  refine ⟨_, pss_one (ps_ret (pe_op op_add_str (pe_opT op_add_str (CwR.pet_replT (CwR.pet_replT (CwR.pet_replC (pv 0))))) (pe_str))), ?_⟩
  have h3 := len_enc (tl z)
  rw [← len_tl] at h3
  obtain ⟨b1, b2, b3⟩ := enc_chain hzl
  refine ⟨_, rfl, _, rfl, b1, _, rfl, b2, _, rfl, b3, ?_⟩
  rw [repl_enc, e_quote]
  have l1 : (strOf (encL (tl z))).length = (encL (tl z)).length := len_strOf _
  refine ⟨_, _, rfl, rfl, small16 ?_, _, _, rfl, rfl, small16 ?_, ?_⟩
  · rw [l1]
    show 1 + _ ≤ _
    omega
  · rw [len_tl, tl_append, List.length_append, ← len_tl, ← len_tl, l1]
    show 1 + _ + 1 ≤ _
    omega
  · rw [show_str]
    exact q
theorem ok_show {n : Nat} (F : Fun K "show_plain" "show_plain" s_show_plain f fd) (T : Txt0 mg tF tM tB) (c_quoted : Cal P w K mg base CX0 1 "quoted" ["text"] spQuoted) (c_show_plain : Cal P w K mg base CX0 (n + 1) "show_plain" ["value"] (spPl n)) : FnOk P w K mg base CX0 (n + 2) f fd ["value"] (spPl (n + 1)) := by
  refine F.ok sc_show_plain (fun vs H Q E h => ?_) (fun cdv A outer s H vs Q E hr h => ?_)
  · obtain ⟨d, v, rfl, _⟩ := h
    rfl
  obtain ⟨d, v, rfl, ⟨hd, hz, hf⟩, r1, q⟩ := h
  refine ⟨_, pss_cons (ps_if (pt_cmpR op_isN (pv 0) (pe_non) (nomark _)) (pss_one (ps_ret (pe_str))) (pss_nil))
    (pss_cons (ps_if (pt_cmpR op_isB (pv 0) (pe_bl) (nomark _)) (pss_one (ps_ret (pe_str))) (pss_nil))
    (pss_cons (ps_if (pt_cmpR op_isB (pv 0) (pe_bl) (nomark _)) (pss_one (ps_ret (pe_str))) (pss_nil))
    (pss_cons (ps_if (pt_val (pe_callB call_isK rfl (by exact T.n_isinstance) (by decide +kernel) (pa_cons (pv 0) (pa_cons (pe_bltn (v := .ty "int") rfl (by exact T.n_int) (by decide +kernel) rfl) pa_nil)))) (pss_one (ps_ret (pe_callTy call_str_int rfl (by exact T.n_str) (by decide +kernel) (pa_cons (pv 0) pa_nil)))) (pss_nil))
    (pss_cons (ps_if (pt_val (pe_callB call_isK rfl (by exact T.n_isinstance) (by decide +kernel) (pa_cons (pv 0) (pa_cons (pe_bltn (v := .ty "str") rfl (by exact T.n_str) (by decide +kernel) rfl) pa_nil)))) (pss_one (ps_ret (pe_cal c_quoted (hr.mono (by omega)) rfl pass0 (pa_cons (pv 0) pa_nil)))) (pss_nil))
    (pss_one (ps_ret (pe_op op_add_str (pe_op op_add_str (pe_str) (pe_join (pe_str) (pe_lc (own := [("member", 1)]) (g := gName 1) rfl sc_show_plain.nd (pi_tup (pv 0)) (blkOk_by (own := [("member", 1)]) (N := ["value", "member"]) (sc := defScope s_show_plain) (by decide +kernel)) (fun _ _ _ _ _ => pg_name (i := 1) sc_show_plain.nd rfl (Or.inl rfl)) (fun _ _ _ _ _ => pts_nil) (fun _ _ _ _ _ => pe_cal c_show_plain (hr.mono (by omega)) rfl pass0 (pa_cons (pv 1) pa_nil))))) (pe_str)))))))), ?_⟩
  have ty := r1.ty
  cases d with
  | non =>
    rw [Rp] at r1
    subst r1
    exact ⟨_, rfl, rfl, _, rfl, iteY (by simp) (q H (Same.refl H))⟩
  | bl b =>
    rw [Rp] at r1
    subst r1
    refine ⟨_, rfl, rfl, _, rfl, iteN (by simp) ?_⟩
    cases b with
    | true => exact ⟨_, rfl, _, rfl, ty.1, ty.2, _, rfl, iteY (by simp) (q H (Same.refl H))⟩
    | false =>
      refine ⟨_, rfl, _, rfl, ty.1, ty.2, _, rfl, iteN (by simp) ?_⟩
      exact ⟨_, rfl, _, rfl, ty.1, ty.2, _, rfl, iteY (by simp) (q H (Same.refl H))⟩
  | int i =>
    rw [Rp] at r1
    subst r1
    rw [D.Fit] at hf
    refine ⟨_, rfl, rfl, _, rfl, iteN (by simp) ?_⟩
    refine ⟨_, rfl, _, rfl, ty.1, ty.2, _, rfl, iteN (by simp) ?_⟩
    refine ⟨_, rfl, _, rfl, ty.1, ty.2, _, rfl, iteN (by simp) ?_⟩
    refine ⟨_, rfl, _, _, _, _, rfl, rfl, kb_ii, _, rfl, iteT ?_⟩
    refine ⟨_, rfl, i, rfl, log_small hf, ?_⟩
    rw [int_show]
    exact q H (Same.refl H)
  | tup xs =>
    rw [Rp] at r1
    obtain ⟨a, vs, rfl, ha, rs⟩ := r1
    rw [D.deep] at hd
    rw [D.Fit] at hf
    have hk : kindV H (.ref a) = some "tuple" := by show kindO (H a) = _; rw [ha]; rfl
    refine ⟨_, rfl, rfl, _, rfl, iteN (by simp) ?_⟩
    refine ⟨_, rfl, _, rfl, ty.1, ty.2, _, rfl, iteN (by simp) ?_⟩
    refine ⟨_, rfl, _, rfl, ty.1, ty.2, _, rfl, iteN (by simp) ?_⟩
    refine ⟨_, rfl, _, _, _, _, rfl, hk, kb_ti, _, rfl, iteF ?_⟩
    refine ⟨_, rfl, _, _, _, _, rfl, hk, kb_ts, _, rfl, iteF ?_⟩
    have hl := rs.length
    have hj := join_sum xs
    have hm := many_len xs
    have hz2 := hz
    rw [tup_len] at hz2
    refine ⟨⟨_, rfl⟩, _, rfl, a, rfl, ⟨_, SqT.of ha⟩, fun L hL => lc_tup (K := K) (a := a) (xs := vs) (fun i H' => H' L = some (.lst ((xs.take i).map fun d => V.str (showS d))) ∧ Kept L H H') ⟨by rw [upd_same]; rfl, Kept.upd⟩
      (fun i H' _ p => SqT.of (p.2 a _ (ne_of_none ha hL) ha)) ?_ ?_⟩
    · rintro i x H' hx ⟨hL', kp⟩
      have hi : i < vs.length := (List.getElem?_eq_some_iff.mp hx).1
      obtain ⟨d, g1, g2⟩ := rs.get hx
      have hS : Same H H' := fun b o e => kp b o (ne_of_none e hL) e
      have hmem := List.mem_of_getElem? g1
      have h1 := deeps_mem (xs := xs) d hmem
      have h2 := show_mem hmem
      refine ⟨rfl, _, rfl, d, x, rfl, ⟨by omega, by omega, fits_mem hf d hmem⟩, g2.mono (Same.tup hS), fun H2 s2 => ?_⟩
      refine ⟨_, s2 _ _ hL', ?_, ?_⟩
      · rw [List.length_map, List.length_take]
        exact small_of (by omega)
      · refine ⟨?_, fun b o n e => by rw [upd_ne n]; exact s2 _ _ (kp b o n e)⟩
        rw [upd_same]
        have et : xs.take (i + 1) = xs.take i ++ [d] := by rw [List.take_add_one, g1]; rfl
        rw [et, List.map_append]
        rfl
    · rintro H' ⟨hL', kp⟩
      rw [hl, List.take_length] at hL'
      have hS : Same H H' := fun b o e => kp b o (ne_of_none e hL) e
      have ey : xs.map (fun d => V.str (showS d)) = (xs.map showS).map V.str := by rw [List.map_map]; rfl
      rw [ey] at hL'
      refine ⟨_, L, xs.map showS, rfl, rfl, .inl (SqL.of hL'), ?_, ?_⟩
      · rw [e_blank, len_strOf, List.length_map]
        show _ + xs.length * 1 ≤ _
        omega
      · have lj : (Txt.join (strOf [32]) (xs.map showS)).length = (joinL [32] (D.shows xs)).length := by
          rw [len_tl, join_eq, tl_join, map_showS]
          rfl
        have la : (strOf [40] ++ Txt.join (strOf [32]) (xs.map showS)).length = (joinL [32] (D.shows xs)).length + 1 := by
          rw [len_tl, tl_append, List.length_append, ← len_tl, ← len_tl, lj]
          show 1 + _ = _
          omega
        rw [e_blank, e_open, e_close]
        refine ⟨_, _, rfl, rfl, small16 ?_, _, _, rfl, rfl, small16 ?_, ?_⟩
        · rw [lj]
          show 1 + _ ≤ _
          omega
        · rw [la]
          show _ + 1 ≤ _
          omega
        · rw [show_tup]
          exact q H' hS
  | str z =>
    rw [Rp] at r1
    subst r1
    have hzl : z.length ≤ 1000000 := by
      have h1 := enc_len (tl z)
      have h2 : (D.str z).show.length = (encL (tl z)).length + 2 := by
        show (34 :: (encL (tl z) ++ [34])).length = _
        rw [List.length_cons, List.length_append]
        rfl
      rw [len_tl]
      omega
    have h3 := len_enc (tl z)
    rw [← len_tl] at h3
    refine ⟨_, rfl, rfl, _, rfl, iteN (by simp) ?_⟩
    refine ⟨_, rfl, _, rfl, ty.1, ty.2, _, rfl, iteN (by simp) ?_⟩
    refine ⟨_, rfl, _, rfl, ty.1, ty.2, _, rfl, iteN (by simp) ?_⟩
    refine ⟨_, rfl, _, _, _, _, rfl, rfl, kb_si, _, rfl, iteF ?_⟩
    refine ⟨_, rfl, _, _, _, _, rfl, rfl, kb_ss, _, rfl, iteT ?_⟩
    exact ⟨_, rfl, z, rfl, hzl, q H (Same.refl H)⟩

/-! ### drawn values -/
def bnd : Nat → Nat
  | 0 => 40
  | n + 1 => 3 * bnd n + 5
def spValue (n : Nat) : Sp := fun vs H Q _ => ∃ b c : Addr, vs = [.ref b, .int ((n : Nat) : Int)] ∧ Box H b c ∧
  ∀ (v : V) (d : D) (H' : Hp), Rp H' d v → d.deep ≤ n → d.Fit → d.show.length ≤ bnd n → Box H' b c → Kept b H H' → Q v H'
theorem bnd_le (n : Nat) : 40 ≤ bnd n := by
  induction n with
  | zero => exact Nat.le_refl _
  | succ n ih => show 40 ≤ 3 * bnd n + 5; omega
theorem bnd_up (n : Nat) : bnd n ≤ bnd (n + 1) := by show bnd n ≤ 3 * bnd n + 5; omega
theorem join_le {B : Nat} : ∀ {ds : List D}, (∀ d ∈ ds, d.show.length ≤ B) → (joinL [32] (D.shows ds)).length ≤ ds.length * (B + 1)
  | [], _ => by simp [D.shows, joinL]
  | [d], h => by
    have := h d List.mem_cons_self
    show d.show.length ≤ 1 * (B + 1)
    omega
  | d :: d2 :: ds, h => by
    have z : joinL [32] (D.shows (d :: d2 :: ds)) = d.show ++ 32 :: joinL [32] (D.shows (d2 :: ds)) := rfl
    have h1 := h d List.mem_cons_self
    have ih := join_le (ds := d2 :: ds) fun x hx => h x (List.mem_cons_of_mem _ hx)
    rw [z, List.length_append, List.length_cons]
    rw [List.length_cons (a := d), Nat.succ_mul]
    omega
theorem numI_len {i : Int} {k : Nat} (hk : 0 < k) (h : i.natAbs < 10 ^ k) : (numI i).length ≤ k + 1 := by
  cases i with
  | ofNat n => exact Nat.le_succ_of_le (numL_len hk (by simpa using h))
  | negSucc n => exact Nat.succ_le_succ (numL_len hk (by simpa using h))
theorem int_good {i : Int} (h : i.natAbs < 10 ^ 21) (n : Nat) : (D.int i).deep ≤ n ∧ (D.int i).Fit ∧ (D.int i).show.length ≤ bnd n := by
  refine ⟨Nat.zero_le _, by rw [D.Fit]; exact Nat.lt_trans h (by decide +kernel), ?_⟩
  have h1 := numI_len (by decide) h
  have h2 := bnd_le n
  show (numI i).length ≤ _
  omega
def signsS : Str := Str.ofString " !\"#$&'()*+,-./0189:;<=>?@AZ[\\]^_`az{|}~\nnTFN"
theorem at_rest (z : Str) (k : Int) (h : 0 < z.length) : ∃ c, atI z.cps.toList (k % ((z.length : Nat) : Int)) = some c := by
  have h0 := Int.emod_nonneg k (b := ((z.length : Nat) : Int)) (by omega)
  have h1 := Int.emod_lt_of_pos k (b := ((z.length : Nat) : Int)) (by omega)
  have hl := len_tl z
  have hk : (k % ((z.length : Nat) : Int)).toNat < (tl z).length := by omega
  refine ⟨(tl z)[(k % ((z.length : Nat) : Int)).toNat], ?_⟩
  have q := atI_nat (List.getElem?_eq_getElem hk)
  rwa [show ((((k % ((z.length : Nat) : Int)).toNat : Nat) : Int)) = k % ((z.length : Nat) : Int) by omega] at q
theorem sum_ones : ∀ {ys : List Str}, (∀ y ∈ ys, y.length = 1) → (ys.map (·.length)).sum = ys.length
  | [], _ => rfl
  | y :: ys, h => by
    rw [List.map_cons, List.sum_cons, h y List.mem_cons_self, sum_ones fun x hx => h x (List.mem_cons_of_mem _ hx), List.length_cons]
    omega
/-- what a drawn value is, taken from the heap behind it -/
theorem ok_value {n : Nat} (F : Fun K "_law_value" "_law_value" s__law_value f fd) (T : Txt0 mg tF tM tB) (c__law_draw : Cal P w K mg base CX0 1 "_law_draw" ["box", "many"] spDraw)
    (c__law_value : Cal P w K mg base CX0 (n + 1) "_law_value" ["box", "deep"] (fun vs H Q E => ∃ m, n = m + 1 ∧ spValue m vs H Q E)) : FnOk P w K mg base CX0 (n + 2) f fd ["box", "deep"] (spValue n) := by
  refine F.ok sc__law_value (fun vs H Q E h => ?_) (fun cdv A outer s H vs Q E hr h => ?_)
  · obtain ⟨b, c, rfl, _⟩ := h
    rfl
  obtain ⟨b, c, rfl, hb, q⟩ := h
  refine ⟨_, pss_cons (ps_set (i := 2) sc__law_value.nd rfl (Or.inl rfl) (pe_cal c__law_draw (hr.mono (by omega)) rfl pass0 (pa_cons (pv 0) (pa_cons (pe_int) pa_nil))))
    (C8.pss_cut (ps_if (PW.pt (pw_and (pt_cmpR op_lt (pv 2) (pe_int) (nomark _)) (pw_and1 (pt_cmpR op_gt (pv 1) (pe_int) (nomark _))))) (pss_one (ps_ret (pe_callTy call_tuple_of rfl (by exact T.n_tuple) (by decide +kernel) (pa_cons (pe_lc (own := [("k", 5)]) (g := gName 5) rfl sc__law_value.nd (pi_range1 rfl (by exact T.n_range) (pa_cons (pe_cal c__law_draw (hr.mono (by omega)) rfl pass0 (pa_cons (pv 0) (pa_cons (pe_int) pa_nil))) pa_nil)) (blkOk_by (own := [("k", 5)]) (N := ["box", "deep", "kind", "number", "signs", "k"]) (sc := defScope s__law_value) (by decide +kernel)) (fun _ _ _ _ _ => pg_name (i := 5) sc__law_value.nd rfl (Or.inl rfl)) (fun _ _ _ _ _ => pts_nil) (fun _ _ _ _ _ => pe_cal c__law_value (hr.mono (by omega)) rfl pass0 (pa_cons (pv 0) (pa_cons (pe_op op_sub (pv 1) (pe_int)) pa_nil)))) pa_nil)))) (pss_nil))
    (pss_cons (ps_if (pt_cmpR op_eq (pv 2) (pe_int) (nomark _)) (pss_one (ps_ret (pe_ix ix_list (pe_lst (pa_cons (pe_non) (pa_cons (pe_bl) (pa_cons (pe_bl) pa_nil)))) (pe_cal c__law_draw (hr.mono (by omega)) rfl pass0 (pa_cons (pv 0) (pa_cons (pe_int) pa_nil))) (fun _ _ => rfl)))) (pss_nil))
    (pss_cons (ps_if (pt_cmpR op_eq (pv 2) (pe_int) (nomark _)) (pss_cons (ps_set (i := 3) sc__law_value.nd rfl (Or.inl rfl) (pe_op op_sub (pe_op op_add (pe_op op_mul (pe_cal c__law_draw (hr.mono (by omega)) rfl pass0 (pa_cons (pv 0) (pa_cons (pe_int) pa_nil))) (pe_op op_pow (pe_int) (pe_int))) (pe_cal c__law_draw (hr.mono (by omega)) rfl pass0 (pa_cons (pv 0) (pa_cons (pe_int) pa_nil)))) (pe_int)))
    (pss_one (ps_ret (pe_ix ix_list (pe_lst (pa_cons (pv 3) (pa_cons (pe_op op_sub (pe_int) (pv 3)) (pa_cons (pe_op op_add (pe_op op_pow (pe_int) (pe_int)) (pv 3)) (pa_cons (pe_int) pa_nil))))) (pe_cal c__law_draw (hr.mono (by omega)) rfl pass0 (pa_cons (pv 0) (pa_cons (pe_int) pa_nil))) (fun _ _ => rfl))))) (pss_nil))
    (pss_cons (ps_if (pt_cmpR op_eq (pv 2) (pe_int) (nomark _)) (pss_one (ps_ret (pe_op op_sub (pe_cal c__law_draw (hr.mono (by omega)) rfl pass0 (pa_cons (pv 0) (pa_cons (pe_int) pa_nil))) (pe_int)))) (pss_nil))
    (pss_cons (ps_set (i := 4) sc__law_value.nd rfl (Or.inr rfl) (pe_str))
    (pss_one (ps_ret (pe_join (pe_str) (pe_lc (own := [("k", 5)]) (g := gName 5) rfl sc__law_value.nd (pi_range1 rfl (by exact T.n_range) (pa_cons (pe_cal c__law_draw (hr.mono (by omega)) rfl pass0 (pa_cons (pv 0) (pa_cons (pe_int) pa_nil))) pa_nil)) (blkOk_by (own := [("k", 5)]) (N := ["box", "deep", "kind", "number", "signs", "k"]) (sc := defScope s__law_value) (by decide +kernel)) (fun _ _ _ _ _ => pg_name (i := 5) sc__law_value.nd rfl (Or.inl rfl)) (fun _ _ _ _ _ => pts_nil) (fun _ _ _ _ _ => pe_ix ix_str (pv 4) (pe_op op_mod (pe_callTy call_int1 rfl (by exact T.n_int) (by decide +kernel) (pa_cons (pe_cal c__law_draw (hr.mono (by omega)) rfl pass0 (pa_cons (pv 0) (pa_cons (pe_int) pa_nil))) pa_nil)) (pe_callB call_len_str rfl (by exact T.n_len) PySem.boot_len (pa_cons (pv 4) pa_nil))) (fun _ _ => rfl))))))))))), ?_⟩
  refine ⟨_, rfl, b, c, 9, rfl, by decide, hb, fun kd H1 k0 k1 hb1 kp1 => ?_⟩
  refine ⟨fun σ' H' => σ' = [some (.ref b), some (.int ((n : Nat) : Int)), some (.int kd), none, none, none] ∧ H' = H1, ?_, ?_⟩
  · refine ⟨_, rfl, _, _, rfl, rfl, _, rfl, ite2 (fun c1 => ?_) (fun c1 => iteF ⟨rfl, rfl⟩)⟩
    refine ⟨_, rfl, _, _, rfl, rfl, _, rfl, ite2 (fun c2 => ?_) (fun c2 => ⟨rfl, rfl⟩)⟩
    have hn : 0 < n := by
      have : (0 : Int) < ((n : Nat) : Int) := of_decide_eq_true c2
      omega
    obtain ⟨m, rfl⟩ : ∃ m, n = m + 1 := ⟨n - 1, by omega⟩
    refine ⟨_, rfl, b, c, 4, rfl, by decide, hb1, fun x H2 x0 x1 hb2 kp2 => ⟨x, rfl, by omega, by omega, fun L hL => ?_⟩⟩
    obtain ⟨hLb, hLc⟩ := hb2.ne hL
    refine lc_range (lo := 0) (n := x.toNat) (fun i H' => ∃ (vs : List V) (ds : List D), H' L = some (.lst vs) ∧ Rps H' ds vs ∧ ds.length = i ∧ (∀ d ∈ ds, d.deep ≤ m ∧ d.Fit ∧ d.show.length ≤ bnd m) ∧ Box H' b c ∧ Kept b H2 H') ?_ ?_ ?_
    · exact ⟨[], [], upd_same, Rps.nil, rfl, fun _ z => (nomatch z), hb2.same (same_new hL _), Same.kept (same_new hL _)⟩
    · rintro i H' hi ⟨vs, ds, g1, g2, g3, g4, g5, g6⟩
      refine ⟨rfl, _, rfl, _, rfl, _, _, rfl, rfl, m, rfl, b, c, ?_, g5, fun v d H3 r dd ff ss hb3 kp3 => ?_⟩
      · show [V.ref b, V.int (((m + 1 : Nat) : Int) - 1)] = [V.ref b, V.int ((m : Nat) : Int)]
        rw [show (((m + 1 : Nat) : Int) - 1) = ((m : Nat) : Int) by omega]
      have g1' := kp3 _ _ hLb g1
      have lv := g2.length
      refine ⟨vs, g1', small_of (by omega), vs ++ [v], ds ++ [d], upd_same, ?_, ?_, ?_, ?_, ?_⟩
      · have t1 : Tup H' (upd H3 L (.lst (vs ++ [v]))) := fun a xs e => by
          have e3 := Kept.tup g5 kp3 a xs e
          rw [upd_ne (fun z => by subst z; rw [g1'] at e3; cases e3)]
          exact e3
        have t2 : Tup H3 (upd H3 L (.lst (vs ++ [v]))) := fun a xs e => by
          rw [upd_ne (fun z => by subst z; rw [g1'] at e; cases e)]
          exact e
        exact Rps.append (r.mono t2) (g2.mono t1)
      · rw [List.length_append, g3]
        rfl
      · intro d' hd'
        rcases List.mem_append.mp hd' with z | z
        · exact g4 d' z
        · have e : d' = d := by simpa using z
          subst e
          exact ⟨dd, ff, ss⟩
      · exact hb3.other hLb hLc
      · intro a o hn e
        rw [upd_ne (ne_of_none e hL)]
        exact kp3 _ _ hn (g6 _ _ hn e)
    · rintro H' ⟨vs, ds, g1, g2, g3, g4, g5, g6⟩
      refine ⟨L, vs, rfl, .inl ⟨SqL.of g1, fun t ht => ?_⟩⟩
      have sn := same_new ht (.tup vs)
      refine q (.ref t) (.tup ds) _ ?_ ?_ ?_ ?_ (g5.same sn) (kp1.trans (kp2.trans (g6.trans (Same.kept sn))))
      · rw [Rp]
        exact ⟨t, vs, rfl, upd_same, g2.mono (Same.tup sn)⟩
      · rw [D.deep]
        have := deeps_le (n := m) (xs := ds) fun d hd => (g4 d hd).1
        omega
      · rw [D.Fit]
        exact fits_of fun d hd => (g4 d hd).2.1
      · rw [tup_len]
        have h1 := join_le (B := bnd m) (ds := ds) fun d hd => (g4 d hd).2.2
        have h2 : ds.length ≤ 3 := by omega
        have h3 : ds.length * (bnd m + 1) ≤ 3 * (bnd m + 1) := Nat.mul_le_mul_right _ h2
        show _ ≤ 3 * bnd m + 5
        omega
  rintro σ' H' ⟨rfl, rfl⟩
  -- kind == 3
  refine ⟨_, rfl, rfl, _, rfl, ite2 (fun _ => ?_) (fun _ => ?_)⟩
  · refine ⟨(by show 3 ≤ sizeLine; decide), fun t ht => ?_⟩
    have hb2 := hb1.same (same_new ht (.lst [V.non, V.bl true, V.bl false]))
    refine ⟨_, rfl, b, c, 3, rfl, by decide, hb2, fun m H3 m0 m1 hb3 kp3 => ?_⟩
    have ht3 : H3 t = some (.lst [V.non, V.bl true, V.bl false]) := kp3 t _ (hb1.ne ht).1 upd_same
    have kk : Kept b H H3 := kp1.trans ((Same.kept (same_new ht _)).trans kp3)
    have hm : m = 0 ∨ m = 1 ∨ m = 2 := by omega
    have h2 := bnd_le n
    rcases hm with rfl | rfl | rfl
    · refine ⟨t, _, _, V.non, rfl, rfl, SqL.of ht3, rfl, q _ .non H3 (by rw [Rp]) (Nat.zero_le _) (by simp [D.Fit]) ?_ hb3 kk⟩
      show 1 ≤ _; omega
    · refine ⟨t, _, _, V.bl true, rfl, rfl, SqL.of ht3, rfl, q _ (.bl true) H3 (by rw [Rp]) (Nat.zero_le _) (by simp [D.Fit]) ?_ hb3 kk⟩
      show 1 ≤ _; omega
    · refine ⟨t, _, _, V.bl false, rfl, rfl, SqL.of ht3, rfl, q _ (.bl false) H3 (by rw [Rp]) (Nat.zero_le _) (by simp [D.Fit]) ?_ hb3 kk⟩
      show 1 ≤ _; omega
  -- kind == 4
  refine ⟨_, rfl, rfl, _, rfl, ite2 (fun _ => ?_) (fun _ => ?_)⟩
  · refine ⟨_, rfl, b, c, 900, rfl, by decide, hb1, fun x H2 x0 x1 hb2 kp2 => ?_⟩
    refine ⟨_, _, rfl, rfl, ⟨by decide, by decide, by decide⟩, _, _, rfl, rfl, .inl ⟨by omega, by omega⟩, _, rfl, b, c, 900, rfl, by decide, hb2, fun y H3 y0 y1 hb3 kp3 => ?_⟩
    refine ⟨_, _, rfl, rfl, _, _, rfl, rfl, ?_⟩
    have e16 : (10 : Int) ^ (16 : Int).toNat = 10000000000000000 := by decide
    rw [e16]
    refine ⟨_, rfl, _, rfl, _, _, rfl, rfl, _, _, rfl, rfl, ⟨by decide, by decide, by decide⟩, _, rfl, _, _, rfl, rfl, (by show 4 ≤ sizeLine; decide), fun t ht => ?_⟩
    have e19 : (10 : Int) ^ (19 : Int).toNat = 10000000000000000000 := by decide
    rw [e19]
    have hb4 := hb3.same (same_new ht (.lst [V.int (x * 10000000000000000 + y - 450), V.int (0 - (x * 10000000000000000 + y - 450)), V.int (10000000000000000000 + (x * 10000000000000000 + y - 450)), V.int 0]))
    refine ⟨_, rfl, b, c, 4, rfl, by decide, hb4, fun m H4 m0 m1 hb5 kp4 => ?_⟩
    have ht4 := kp4 t _ (hb3.ne ht).1 upd_same
    have kk : Kept b H H4 := kp1.trans (kp2.trans (kp3.trans ((Same.kept (same_new ht _)).trans kp4)))
    have hm : m = 0 ∨ m = 1 ∨ m = 2 ∨ m = 3 := by omega
    have fin : ∀ i : Int, i.natAbs < 10 ^ 21 → Q (.int i) H4 := fun i hi => q _ (.int i) H4 (by rw [Rp]) (int_good hi n).1 (int_good hi n).2.1 (int_good hi n).2.2 hb5 kk
    rcases hm with rfl | rfl | rfl | rfl
    · exact ⟨t, _, _, _, rfl, rfl, SqL.of ht4, rfl, fin _ (by omega)⟩
    · exact ⟨t, _, _, _, rfl, rfl, SqL.of ht4, rfl, fin _ (by omega)⟩
    · exact ⟨t, _, _, _, rfl, rfl, SqL.of ht4, rfl, fin _ (by omega)⟩
    · exact ⟨t, _, _, _, rfl, rfl, SqL.of ht4, rfl, fin _ (by omega)⟩
  -- kind == 5
  refine ⟨_, rfl, rfl, _, rfl, ite2 (fun _ => ?_) (fun _ => ?_)⟩
  · refine ⟨_, rfl, b, c, 30, rfl, by decide, hb1, fun x H2 x0 x1 hb2 kp2 => ⟨_, _, rfl, rfl, ?_⟩⟩
    have hi : (x - 15).natAbs < 10 ^ 21 := by omega
    exact q _ (.int (x - 15)) H2 (by rw [Rp]) (int_good hi n).1 (int_good hi n).2.1 (int_good hi n).2.2 hb2 (kp1.trans kp2)
  -- a text
  refine ⟨⟨_, rfl⟩, _, rfl, b, c, 9, rfl, by decide, hb1, fun x H2 x0 x1 hb2 kp2 => ⟨x, rfl, by omega, by omega, fun L hL => ?_⟩⟩
  obtain ⟨hLb, hLc⟩ := hb2.ne hL
  refine lc_range (lo := 0) (n := x.toNat) (fun i H' => ∃ ys : List Str, H' L = some (.lst (ys.map V.str)) ∧ ys.length = i ∧ (∀ y ∈ ys, y.length = 1) ∧ Box H' b c ∧ Kept b H2 H') ?_ ?_ ?_
  · exact ⟨[], upd_same, rfl, fun _ z => (nomatch z), hb2.same (same_new hL _), Same.kept (same_new hL _)⟩
  · rintro i H' hi ⟨ys, g1, g2, g3, g4, g5⟩
    refine ⟨rfl, _, rfl, _, rfl, b, c, 900, rfl, by decide, g4, fun k H3 k0 k1 hb3 kp3 => .inl ⟨_, rfl, _, rfl, _, rfl, (by decide +kernel), ?_⟩⟩
    refine ⟨_, _, rfl, rfl, (show (0 : Int) < ((signsS.length : Nat) : Int) by decide +kernel), ?_⟩
    obtain ⟨cc, hcc⟩ := at_rest signsS k (by decide +kernel)
    refine ⟨signsS, _, cc, rfl, rfl, (by decide +kernel), hcc, ?_⟩
    have g1' := kp3 _ _ hLb g1
    refine ⟨_, g1', small_of (by rw [List.length_map]; omega), ys ++ [⟨#[cc]⟩], ?_, ?_, ?_, hb3.other hLb hLc, ?_⟩
    · rw [upd_same, List.map_append]
      rfl
    · rw [List.length_append, g2]
      rfl
    · intro y hy
      rcases List.mem_append.mp hy with z | z
      · exact g3 y z
      · have e : y = ⟨#[cc]⟩ := by simpa using z
        rw [e]
        rfl
    · intro a o hn e
      rw [upd_ne (ne_of_none e hL)]
      exact kp3 _ _ hn (g5 _ _ hn e)
  · rintro H' ⟨ys, g1, g2, g3, g4, g5⟩
    have hs : (ys.map (·.length)).sum = ys.length := sum_ones g3
    have e0 : (Str.ofString "").length = 0 := by decide +kernel
    refine ⟨_, L, ys, rfl, rfl, .inl (SqL.of g1), (by rw [e0]; omega), ?_⟩
    have hl : (Txt.join (Str.ofString "") ys).length = ys.length := by
      rw [len_tl, join_eq, tl_join, show tl (Str.ofString "") = [] by decide +kernel, join_flat, List.length_flatten, List.map_map, ← hs]
      congr 1
    have h2 := bnd_le n
    refine q _ (.str (Txt.join (Str.ofString "") ys)) H' (by rw [Rp]) (Nat.zero_le _) (by simp [D.Fit]) ?_ g4 (kp1.trans (kp2.trans g5))
    show (34 :: (encL (tl _) ++ [34])).length ≤ _
    have h3 := len_enc (tl (Txt.join (Str.ofString "") ys))
    rw [← len_tl, hl] at h3
    rw [List.length_cons, List.length_append, List.length_singleton]
    omega

/-! ### reading -/
def spText : Sp := fun vs H Q _ => ∃ (z : Str) (p : Nat) (s : List Nat) (q : Nat), vs = [.str z, .int ((p : Nat) : Int)] ∧ (p ≤ z.length ∧ z.length ≤ 1000000) ∧ textAt ((tl z).drop p) p [] = .ok (s, q) ∧
  ∀ (t : Addr) (H' : Hp), Same H H' → H' t = some (.tup [.str (strOf s), .int ((q : Nat) : Int)]) → Q (.ref t) H'
theorem e34 : Str.ofString "\"" = ⟨#[34]⟩ := by decide +kernel
theorem e92 : Str.ofString "\\" = ⟨#[92]⟩ := by decide +kernel
theorem e10 : Str.ofString "\n" = ⟨#[10]⟩ := by decide +kernel
theorem e110 : Str.ofString "n" = ⟨#[110]⟩ := by decide +kernel
theorem e_ : Str.ofString "" = ⟨#[]⟩ := by decide +kernel
theorem flat_app (ys : List Str) (y : Str) : ((ys ++ [y]).map tl).flatten = (ys.map tl).flatten ++ tl y := by simp
theorem sum_app (ys : List Str) (y : Str) : ((ys ++ [y]).map (·.length)).sum = (ys.map (·.length)).sum + y.length := by simp
/-- a turn of the loop over a text between quotes -/
structure TxW (z : Str) (a : Addr) (H : Hp) (s : List Nat) (q : Nat) (p : Nat) (ys : List Str) (H' : Hp) : Prop where
  at_ : H' a = some (.lst (ys.map V.str))
  ok : textAt ((tl z).drop p) p (ys.map tl).flatten = .ok (s, q)
  le : p ≤ z.length
  few : ys.length ≤ p
  sum : (ys.map (·.length)).sum ≤ p
  keep : Kept a H H'
theorem ok_text (F : Fun K "text_at" "text_at" s_text_at f fd) (T : Txt0 mg tF tM tB) : FnOk P w K mg base CX0 1 f fd ["text", "place"] spText := by
  refine F.ok sc_text_at (fun vs H Q E h => ?_) (fun cdv A outer s H vs Q E hr h => ?_)
  · obtain ⟨z, p, s, q, rfl, _⟩ := h
    rfl
  obtain ⟨z, p0, s, q, rfl, ⟨hp0, hz⟩, htx, fin⟩ := h
  refine ⟨_, pss_cons (ps_set (i := 2) sc_text_at.nd rfl (Or.inl rfl) (pe_lst (pa_nil)))
    (pss_one (ps_while PassesOwn.never (pt_val (pe_bl)) (pss_cons (ps_set (i := 3) sc_text_at.nd rfl (Or.inl rfl) (pe_bm PySem.F.plainAttrs_str PySem.F.slot_str_find PySem.F.type_str_find mt_find3 (pv 0) (pa_cons (pe_str) (pa_cons (pv 1) pa_nil))))
    (C8.pss_cut (ps_set (i := 4) sc_text_at.nd rfl (Or.inl rfl) (pe_ifExp (pt_cmpR op_ge (pv 3) (pe_int) (nomark _)) (pv 3) (pe_callB call_len_str rfl (by exact T.n_len) PySem.boot_len (pa_cons (pv 0) pa_nil))))
    (pss_cons (ps_set (i := 5) sc_text_at.nd rfl (Or.inl rfl) (pe_bm PySem.F.plainAttrs_str PySem.F.slot_str_find PySem.F.type_str_find mt_find4 (pv 0) (pa_cons (pe_str) (pa_cons (pv 1) (pa_cons (pv 4) pa_nil)))))
    (C8.pss_cut (ps_if (pt_cmpR op_ge (pv 5) (pe_int) (nomark _)) (pss_one (ps_set (i := 4) sc_text_at.nd rfl (Or.inl rfl) (pv 5))) (pss_nil))
    (pss_cons (ps_set (i := 6) sc_text_at.nd rfl (Or.inl rfl) (pe_bm PySem.F.plainAttrs_str PySem.F.slot_str_find PySem.F.type_str_find mt_find4 (pv 0) (pa_cons (pe_str) (pa_cons (pv 1) (pa_cons (pv 4) pa_nil)))))
    (pss_cons (ps_if (pt_cmpR op_ge (pv 6) (pe_int) (nomark _)) (pss_one (ps_never)) (pss_nil))
    (pss_cons (ps_expr (pe_bm PySem.F.plainAttrs_list PySem.F.slot_list_append PySem.F.type_list_append mt_append (pv 2) (pa_cons (pe_slice sl_str (pv 0) (po_some (pv 1)) (po_some (pv 4))) pa_nil)))
    (pss_cons (ps_if (pt_cmpR op_eq (pv 4) (pv 3) (nomark _)) (pss_one (ps_ret (pe_tup (pa_cons (pe_join (pe_str) (pv 2)) (pa_cons (pe_op op_add (pv 4) (pe_int)) pa_nil))))) (pss_nil))
    (pss_cons (ps_if (pt_cmpR op_ne (pv 4) (pv 5) (nomark _)) (pss_one (ps_never)) (pss_nil))
    (pss_cons (ps_set (i := 7) sc_text_at.nd rfl (Or.inl rfl) (pe_slice sl_str (pv 0) (po_some (pe_op op_add (pv 4) (pe_int))) (po_some (pe_op op_add (pv 4) (pe_int)))))
    (pss_cons (ps_if (PW.pt (pw_or (pt_cmpR op_notIn_seq (pv 7) (pe_tup (pa_cons (pe_str) (pa_cons (pe_str) (pa_cons (pe_str) pa_nil)))) rfl) (pw_or1 (pt_cmpR op_eq (pv 7) (pe_str) (nomark _))))) (pss_one (ps_never)) (pss_nil))
    (pss_cons (ps_expr (pe_bm PySem.F.plainAttrs_list PySem.F.slot_list_append PySem.F.type_list_append mt_append (pv 2) (pa_cons (pe_ifExp (pt_cmpR op_eq (pv 7) (pe_str) (nomark _)) (pe_str) (pv 7)) pa_nil)))
    (pss_one (ps_set (i := 1) sc_text_at.nd rfl (Or.inl rfl) (pe_op op_add (pv 4) (pe_int)))))))))))))))))), ?_⟩
  refine ⟨(by show 0 ≤ sizeLine; decide), fun a ha => ?_⟩
  have fin' : ∀ (t : Addr) (H' : Hp), Kept a H H' → H' t = some (.tup [.str (strOf s), .int ((q : Nat) : Int)]) → Q (.ref t) H' := fun t H' k => fin t H' fun b o e => k b o (ne_of_none e ha) e
  have hL := len_tl z
  refine ⟨fun m σ H' => ∃ (p : Nat) (ys : List Str) (x3 x4 x5 x6 x7 : Option V), σ = [some (.str z), some (.int ((p : Nat) : Int)), some (.ref a), x3, x4, x5, x6, x7] ∧ m = z.length - p ∧ TxW z a H s q p ys H', ?_, ?_⟩
  · exact ⟨_, p0, [], _, _, _, _, _, rfl, rfl, upd_same, by simpa using htx, hp0, Nat.zero_le _, Nat.zero_le _, Kept.upd⟩
  rintro m σ H1 ⟨p, ys, x3, x4, x5, x6, x7, rfl, rfl, W⟩
  refine ⟨_, rfl, iteT ⟨fun σ' H' => ∃ m', m' < z.length - p ∧ ∃ (p : Nat) (ys : List Str) (x3 x4 x5 x6 x7 : Option V), σ' = [some (.str z), some (.int ((p : Nat) : Int)), some (.ref a), x3, x4, x5, x6, x7] ∧ m' = z.length - p ∧ TxW z a H s q p ys H', fun _ _ h => h, ?_⟩⟩
  obtain ⟨w1, w2, w3, w4, w5, w6⟩ := W
  obtain ⟨u, t, eR, hu, ht⟩ := leap ((tl z).drop p)
  rw [eR] at w2
  obtain ⟨hu10, w2⟩ := textAt_leap u t p _ _ hu w2
  cases t with
  | nil => unfold textAt at w2; cases w2
  | cons c r =>
  have hc := ht c r rfl
  obtain ⟨gk, dk, lk⟩ := drop_cons (drop_app eR)
  have u34 : 34 ∉ u := fun h => by have := hu _ h; simp [plainSign] at this
  have u92 : 92 ∉ u := fun h => by have := hu _ h; simp [plainSign] at this
  have u10 : 10 ∉ u := fun h => hu10 _ h rfl
  -- quote, end
  refine ⟨_, rfl, rfl, _, rfl, _, _, _, rfl, rfl, ?_⟩
  rw [e34]
  refine ⟨fun σ' H' => H' = H1 ∧ ∃ (qv : Int) (e0 : Nat), σ' = [some (.str z), some (.int ((p : Nat) : Int)), some (.ref a), some (.int qv), some (.int ((e0 : Nat) : Int)), x5, x6, x7] ∧
    ((c = 34 ∧ qv = ((p + u.length : Nat) : Int) ∧ e0 = p + u.length) ∨ (c = 92 ∧ p + u.length < e0 ∧ e0 ≤ z.length ∧ qv ≠ ((p + u.length : Nat) : Int))), ?_, ?_⟩
  · rcases hc with rfl | rfl
    · rw [find3_first (k := p + u.length) (by omega) (by omega) (fun i h1 h2 => not_in eR u34 h1 h2) gk]
      exact ⟨_, rfl, _, _, rfl, rfl, _, rfl, iteY (by first | (simp; done) | (simp; omega)) ⟨_, rfl, rfl, _, _, rfl, .inl ⟨rfl, rfl, rfl⟩⟩⟩
    · rcases find3_cases (z := z) (c := 34) w3 with e | ⟨j, e, j1, j2, j3⟩
      · rw [e]
        exact ⟨_, rfl, _, _, rfl, rfl, _, rfl, iteN (by first | (simp; done) | (simp; omega)) ⟨_, rfl, _, rfl, small16 (by omega), rfl, _, _, rfl, .inr ⟨rfl, by omega, Nat.le_refl _, by omega⟩⟩⟩
      · have hj : p + u.length < j := by
          by_cases h : j < p + u.length
          · exact absurd j3 (not_in eR u34 j1 h)
          · by_cases h2 : j = p + u.length
            · rw [h2, gk] at j3; cases j3
            · omega
        rw [e]
        exact ⟨_, rfl, _, _, rfl, rfl, _, rfl, iteY (by first | (simp; done) | (simp; omega)) ⟨_, rfl, rfl, _, _, rfl, .inr ⟨rfl, hj, by omega, by omega⟩⟩⟩
  rintro σ' H' ⟨rfl, qv, e0, rfl, hq⟩
  -- slash
  refine ⟨_, rfl, rfl, _, rfl, _, rfl, _, _, _, _, rfl, rfl, ?_⟩
  rw [e92]
  refine ⟨fun σ' H2 => H2 = H' ∧ ∃ sv : Int, σ' = [some (.str z), some (.int ((p : Nat) : Int)), some (.ref a), some (.int qv), some (.int ((p + u.length : Nat) : Int)), some (.int sv), x6, x7] ∧
    ((c = 34 ∧ qv = ((p + u.length : Nat) : Int)) ∨ (c = 92 ∧ sv = ((p + u.length : Nat) : Int) ∧ qv ≠ ((p + u.length : Nat) : Int))), ?_, ?_⟩
  · rcases hq with ⟨hc1, hq1, rfl⟩ | ⟨hc1, hq1, hq2, hq3⟩
    · rw [find4_never w3 (by omega) (fun i h1 h2 => not_in eR u92 h1 h2)]
      exact ⟨_, rfl, _, _, rfl, rfl, _, rfl, iteN (by first | (simp; done) | (simp; omega)) ⟨rfl, _, rfl, .inl ⟨hc1, hq1⟩⟩⟩
    · subst hc1
      rw [find4_first (k := p + u.length) (by omega) hq1 hq2 (fun i h1 h2 => not_in eR u92 h1 h2) gk]
      exact ⟨_, rfl, _, _, rfl, rfl, _, rfl, iteY (by first | (simp; done) | (simp; omega)) ⟨_, rfl, rfl, _, rfl, .inr ⟨rfl, rfl, hq3⟩⟩⟩
  rintro σ' H2 ⟨rfl, sv, rfl, hs⟩
  -- feed
  refine ⟨_, rfl, rfl, _, rfl, _, rfl, _, _, _, _, rfl, rfl, ?_⟩
  rw [e10, find4_never w3 (by omega) (fun i h1 h2 => not_in eR u10 h1 h2)]
  refine ⟨_, rfl, _, _, rfl, rfl, _, rfl, iteN (by first | (simp; done) | (simp; omega)) ?_⟩
  -- parts.append(text[place:end])
  refine ⟨_, rfl, .inl ⟨rfl, _, SqL.of w1⟩, _, rfl, _, rfl, _, rfl, _, rfl, _, rfl, z, rfl, small16 (by omega), a, _, _, rfl, rfl, w1, by rw [List.length_map]; exact small_of (by omega), ?_⟩
  have ecut : cutS z (some ((p : Nat) : Int)) (some ((p + u.length : Nat) : Int)) = strOf u := by
    refine ext_tl ?_
    rw [tl_cut w3, eR, show p + u.length - p = u.length by omega, List.take_left]
    rfl
  rw [ecut]
  have w1' : (upd H2 a (.lst (ys.map V.str ++ [V.str (strOf u)]))) a = some (.lst ((ys ++ [strOf u]).map V.str)) := by rw [upd_same, List.map_append]; rfl
  have k2 : Kept a H (upd H2 a (.lst (ys.map V.str ++ [V.str (strOf u)]))) := w6.trans Kept.upd
  have fl : ((ys ++ [strOf u]).map tl).flatten = (ys.map tl).flatten ++ u := by rw [flat_app, tl_strOf]
  have lu := len_strOf u
  rcases hs with ⟨rfl, rfl⟩ | ⟨rfl, rfl, hq3⟩
  · -- the end
    unfold textAt at w2
    rw [if_pos rfl] at w2
    cases w2
    refine ⟨_, rfl, _, rfl, rfl, _, rfl, iteY (by first | (simp; done) | (simp; omega)) ?_⟩
    have e0 : (Str.ofString "").length = 0 := by decide +kernel
    refine ⟨⟨_, rfl⟩, _, rfl, _, a, ys ++ [strOf u], rfl, rfl, .inl (SqL.of w1'), ?_, _, rfl, _, _, rfl, rfl, (by show 2 ≤ sizeLine; decide), fun t ht => ?_⟩
    · rw [sum_app, e0]
      omega
    · refine fin' t _ (k2.trans (Same.kept (same_new ht _))) ?_
      rw [upd_same]
      have ej : Txt.join (Str.ofString "") (ys ++ [strOf u]) = strOf ((ys.map tl).flatten ++ u) := by
        refine ext_tl ?_
        rw [join_eq, tl_join, show tl (Str.ofString "") = [] by decide +kernel, join_flat, fl]
        rfl
      rw [ej]
      rfl
  · -- a sign behind a slash
    refine ⟨_, rfl, _, rfl, rfl, _, rfl, iteN (by simpa using Ne.symm hq3) ?_⟩
    refine ⟨_, rfl, _, rfl, rfl, _, rfl, iteN (by first | (simp; done) | (simp; omega)) ?_⟩
    refine ⟨_, rfl, _, rfl, _, _, rfl, rfl, _, rfl, _, rfl, _, _, rfl, rfl, _, rfl, z, rfl, small16 (by omega), ?_⟩
    rw [show (((p + u.length : Nat) : Int) + 1) = ((p + u.length + 1 : Nat) : Int) by omega, show (((p + u.length : Nat) : Int) + 2) = ((p + u.length + 1 : Nat) : Int) + 1 by omega, cut_sg (by omega)]
    unfold textAt at w2
    rw [if_neg (by decide), if_pos rfl] at w2
    cases r with
    | nil => cases w2
    | cons e r' =>
      obtain ⟨ge, de, le⟩ := drop_cons dk
      rw [sg_some ge]
      have he : (e = 34 ∨ e = 92 ∨ e = 110) ∧ textAt r' (p + u.length + 2) ((ys.map tl).flatten ++ u ++ [if e = 110 then 10 else e]) = .ok (s, q) := by
        simp only at w2
        by_cases h1 : e = 34 ∨ e = 92
        · rw [if_pos h1] at w2
          have : e ≠ 110 := by omega
          rw [if_neg this]
          exact ⟨by omega, w2⟩
        · rw [if_neg h1] at w2
          by_cases h2 : e = 110
          · rw [if_pos h2] at w2
            rw [if_pos h2]
            exact ⟨by omega, w2⟩
          · rw [if_neg h2] at w2; cases w2
      obtain ⟨he1, w2'⟩ := he
      rw [e_, e110]
      refine ⟨_, rfl, (by show 3 ≤ sizeLine; decide), fun t ht => ⟨t, _, rfl, .inr (SqT.of upd_same), rfl, rfl, _, rfl, iteN ?_ ?_⟩⟩
      · rcases he1 with rfl | rfl | rfl <;> decide +kernel
      refine ⟨_, rfl, rfl, _, rfl, iteN ?_ ?_⟩
      · rcases he1 with rfl | rfl | rfl <;> decide +kernel
      have hta : t ≠ a := fun e => by rw [e, w1'] at ht; cases ht
      have w1t : ∀ o, (upd (upd H2 a (.lst (ys.map V.str ++ [V.str (strOf u)]))) t o) a = some (.lst ((ys ++ [strOf u]).map V.str)) := fun o => by rw [upd_ne (Ne.symm hta)]; exact w1'
      have k3 : ∀ o, Kept a H (upd (upd H2 a (.lst (ys.map V.str ++ [V.str (strOf u)]))) t o) := fun o => k2.trans (Same.kept (same_new ht _))
      have hz1 : (1 : Nat) ≤ 1 := Nat.le_refl 1
      have next : ∀ (y : Str) (H4 : Hp), y.length = 1 → tl y = [if e = 110 then 10 else e] → H4 a = some (.lst ((ys ++ [strOf u] ++ [y]).map V.str)) → Kept a H H4 →
          ∃ m', m' < z.length - p ∧ ∃ (p' : Nat) (ys' : List Str) (x3 x4 x5 x6 x7 : Option V), [some (V.str z), some (.int (((p + u.length : Nat) : Int) + 2)), some (.ref a), some (.int qv), some (.int ((p + u.length : Nat) : Int)), some (.int ((p + u.length : Nat) : Int)), some (.int (-1)), some (.str (strOf [e]))] =
            [some (V.str z), some (.int ((p' : Nat) : Int)), some (.ref a), x3, x4, x5, x6, x7] ∧ m' = z.length - p' ∧ TxW z a H s q p' ys' H4 := fun y H4 hy1 hy hH4 kH4 => by
        refine ⟨z.length - (p + u.length + 2), by omega, p + u.length + 2, ys ++ [strOf u] ++ [y], some (.int qv), some (.int ((p + u.length : Nat) : Int)), some (.int ((p + u.length : Nat) : Int)), some (.int (-1)), some (.str (strOf [e])), ?_, rfl, hH4, ?_, by omega, ?_, ?_, kH4⟩
        · rw [show (((p + u.length : Nat) : Int) + 2) = ((p + u.length + 2 : Nat) : Int) by omega]
        · rw [flat_app, fl, hy]
          have dd : (tl z).drop (p + u.length + 2) = r' := by rw [show p + u.length + 2 = p + u.length + 1 + 1 by omega, de]
          rw [dd]
          exact w2'
        · rw [List.length_append, List.length_append]
          show ys.length + 1 + 1 ≤ _
          omega
        · rw [sum_app, sum_app, hy1]
          omega
      refine ⟨_, rfl, .inl ⟨rfl, _, SqL.of (w1t _)⟩, _, rfl, rfl, _, rfl, ?_⟩
      have more : ∀ (y : Str) (H4 : Hp), H4 = upd (upd (upd H2 a (.lst (ys.map V.str ++ [V.str (strOf u)]))) t (.tup [V.str ⟨#[34]⟩, V.str ⟨#[92]⟩, V.str ⟨#[110]⟩])) a (.lst ((ys ++ [strOf u]).map V.str ++ [V.str y])) →
          H4 a = some (.lst ((ys ++ [strOf u] ++ [y]).map V.str)) ∧ Kept a H H4 := fun y H4 e => by
        subst e
        refine ⟨by rw [upd_same, List.map_append (l₁ := ys ++ [strOf u])]; rfl, (k3 _).trans Kept.upd⟩
      by_cases h110 : e = 110
      · subst h110
        refine iteY (by decide +kernel) ⟨a, _, _, rfl, rfl, w1t _, by rw [List.length_map, List.length_append]; exact small_of (by show ys.length + 1 ≤ _; omega), ?_⟩
        refine ⟨_, rfl, _, _, rfl, rfl, ?_⟩
        obtain ⟨m1, m2⟩ := more ⟨#[10]⟩ _ rfl
        exact next ⟨#[10]⟩ _ rfl rfl m1 m2
      · refine iteN ?_ ⟨_, rfl, a, _, _, rfl, rfl, w1t _, by rw [List.length_map, List.length_append]; exact small_of (by show ys.length + 1 ≤ _; omega), ?_⟩
        · rcases he1 with rfl | rfl | rfl
          · decide +kernel
          · decide +kernel
          · exact absurd rfl h110
        refine ⟨_, rfl, _, _, rfl, rfl, ?_⟩
        obtain ⟨m1, m2⟩ := more (strOf [e]) _ rfl
        exact next (strOf [e]) _ rfl (by rw [if_neg h110]; rfl) m1 m2

theorem intAt_ok {L : List Nat} {p q : Nat} {d : D} (h : intAt L p = .ok (d, q)) : ∃ (b c : Nat) (r post : List Nat), ((L[p]? = some 45 ∧ b = p + 1) ∨ (L[p]? ≠ some 45 ∧ b = p)) ∧ L.drop b = (c :: r) ++ post ∧ Stop post ∧
    (∀ x ∈ c :: r, dig x = true) ∧ (c = 48 → r = [] ∧ b = p) ∧ r.length < 2000 ∧ q = b + (r.length + 1) ∧ d = .int (if b > p then - (NumText.digitsVal (c :: r) : Int) else (NumText.digitsVal (c :: r) : Int)) := by
  unfold intAt at h
  generalize hb : (if L[p]? = some 45 then p + 1 else p) = b at h
  have hb' : (L[p]? = some 45 ∧ b = p + 1) ∨ (L[p]? ≠ some 45 ∧ b = p) := by
    by_cases c : L[p]? = some 45
    · rw [if_pos c] at hb; exact .inl ⟨c, hb.symm⟩
    · rw [if_neg c] at hb; exact .inr ⟨c, hb.symm⟩
  obtain ⟨post, e, hs, hd⟩ := run_of (L.drop b)
  simp only at h
  generalize hw : (L.drop b).takeWhile dig = ds at h e hd
  cases ds with
  | nil => cases h
  | cons c r =>
    simp only at h
    by_cases h48 : c = 48
    · rw [if_pos h48] at h
      by_cases hbp : b > p
      · rw [if_pos hbp] at h; cases h
      · rw [if_neg hbp] at h
        by_cases hr : r = []
        · rw [if_pos hr] at h
          cases h
          subst hr h48
          exact ⟨b, 48, [], post, hb', e, hs, hd, fun _ => ⟨rfl, by omega⟩, by simp, rfl, by rw [if_neg hbp]; rfl⟩
        · rw [if_neg hr] at h; cases h
    · rw [if_neg h48] at h
      by_cases hl : r.length ≥ 2000
      · rw [if_pos hl] at h; cases h
      · rw [if_neg hl] at h
        cases h
        exact ⟨b, c, r, post, hb', e, hs, hd, fun z => absurd z h48, by omega, rfl, rfl⟩
def spInt : Sp := fun vs H Q _ => ∃ (z : Str) (p : Nat) (i : Int) (q : Nat), vs = [.str z, .int ((p : Nat) : Int)] ∧ (p ≤ z.length ∧ z.length ≤ 1000000) ∧ (intAt (tl z) p = .ok (.int i, q) ∧ i.natAbs < 10 ^ 200) ∧
  ∀ (t : Addr) (H' : Hp), Same H H' → H' t = some (.tup [.int i, .int ((q : Nat) : Int)]) → Q (.ref t) H'
theorem ok_int (F : Fun K "integer_at" "integer_at" s_integer_at f fd) (T : Txt0 mg tF tM tB) : FnOk P w K mg base CX0 1 f fd ["text", "place"] spInt := by
  refine F.ok sc_integer_at (fun vs H Q E h => ?_) (fun cdv A outer s H vs Q E hr h => ?_)
  · obtain ⟨z, p, i, q, rfl, _⟩ := h
    rfl
  obtain ⟨z, p, i, q, rfl, ⟨hp, hz⟩, ⟨hi, hsm⟩, fin⟩ := h
  refine ⟨_, C8.pss_cut (ps_set (i := 2) sc_integer_at.nd rfl (Or.inl rfl) (pe_ifExp (pt_cmpR op_eq (pe_slice sl_str (pv 0) (po_some (pv 1)) (po_some (pe_op op_add (pv 1) (pe_int)))) (pe_str) (nomark _)) (pe_op op_add (pv 1) (pe_int)) (pv 1)))
    (pss_cons (ps_set (i := 3) sc_integer_at.nd rfl (Or.inl rfl) (pe_slice sl_str (pv 0) (po_some (pv 2)) (po_some (pe_op op_add (pv 2) (pe_int)))))
    (C8.pss_cut (ps_if (PW.pt (pw_or (pt_cmpR op_eq (pv 3) (pe_str) (nomark _)) (pw_or (pt_cmpR op_notin_str (pv 3) (pe_glob (v := .str (Str.ofString "0123456789")) rfl T.g_FIGURES ⟨_, rfl⟩) rfl) (pw_or1 (PW.pt (pw_and (pt_cmpR op_eq (pv 3) (pe_str) (nomark _)) (pw_and1 (pt_cmpR op_gt (pv 2) (pv 1) (nomark _))))))))) (pss_one (ps_never)) (pss_nil))
    (pss_cons (ps_set (i := 4) sc_integer_at.nd rfl (Or.inl rfl) (pe_op op_add (pv 2) (pe_int)))
    (pss_cons (ps_while PassesOwn.never (PW.pt (pw_and (pt_cmpR op_ne (pe_slice sl_str (pv 0) (po_some (pv 4)) (po_some (pe_op op_add (pv 4) (pe_int)))) (pe_str) (nomark _)) (pw_and1 (pt_cmpR op_in_str (pe_slice sl_str (pv 0) (po_some (pv 4)) (po_some (pe_op op_add (pv 4) (pe_int)))) (pe_glob (v := .str (Str.ofString "0123456789")) rfl T.g_FIGURES ⟨_, rfl⟩) rfl)))) (pss_cons (ps_if (PW.pt (pw_or (pt_cmpR op_eq (pv 3) (pe_str) (nomark _)) (pw_or1 (pt_cmpR op_eq (pe_op op_sub (pv 4) (pv 2)) (pe_glob (v := .int 2000) rfl T.g_MOST_FIGURES ⟨_, rfl⟩) (nomark _))))) (pss_one (ps_never)) (pss_nil))
    (pss_one (ps_aug (i := 4) sc_integer_at.nd rfl (Or.inl rfl) (pe_int) ip_add))))
    (pss_one (ps_ret (pe_tup (pa_cons (pe_callTy call_int_str rfl (by exact T.n_int) (by decide +kernel) (pa_cons (pe_slice sl_str (pv 0) (po_some (pv 1)) (po_some (pv 4))) pa_nil)) (pa_cons (pv 4) pa_nil))))))))), ?_⟩
  obtain ⟨b, c, r, post, hb, eR, hs, hd, h48, hr2, rfl, hv⟩ := intAt_ok hi
  have hL := len_tl z
  obtain ⟨gb, db, lb⟩ := drop_cons (r := r ++ post) eR
  have hdc := hd c List.mem_cons_self
  have hdc' := (dig_iff c).mp hdc
  -- begin
  refine ⟨fun σ' H' => H' = H ∧ σ' = [some (.str z), some (.int ((p : Nat) : Int)), some (.int ((b : Nat) : Int)), none, none], ?_, ?_⟩
  · refine ⟨_, rfl, _, rfl, _, rfl, _, rfl, _, _, rfl, rfl, _, rfl, z, rfl, small16 (by omega), rfl, _, rfl, ?_⟩
    rw [cut_sg hp, sg_is (c := 45) (by decide +kernel)]
    rcases hb with ⟨hb1, rfl⟩ | ⟨hb1, rfl⟩
    · exact iteY (decide_eq_true hb1) ⟨_, rfl, _, _, rfl, rfl, rfl, rfl⟩
    · exact iteN (decide_eq_false hb1) ⟨_, rfl, rfl, rfl⟩
  rintro σ' H' ⟨rfl, rfl⟩
  -- sign
  refine ⟨_, rfl, _, rfl, _, rfl, _, rfl, _, _, rfl, rfl, _, rfl, z, rfl, small16 (by omega), ?_⟩
  rw [cut_sg (by omega)]
  have d48 : ∀ e, decide (V.str (sg z b) = V.str e) = decide (tl e = [c]) := fun e => by
    rw [sg_some gb, dec_s]
    show decide ([c] = tl e) = _
    congr 1
    exact propext eq_comm
  refine ⟨fun σ' H1 => H1 = H' ∧ σ' = [some (.str z), some (.int ((p : Nat) : Int)), some (.int ((b : Nat) : Int)), some (.str (sg z b)), none], ?_, ?_⟩
  · refine ⟨_, rfl, rfl, _, rfl, iteN ?_ ?_⟩
    · rw [sg_empty (by decide +kernel)]
      exact decide_eq_false (by rw [gb]; exact fun z => (nomatch z))
    refine ⟨_, rfl, _, _, rfl, rfl, _, rfl, iteN ?_ ?_⟩
    · rw [sg_fig gb, hdc]
      rfl
    refine ⟨_, rfl, rfl, _, rfl, ?_⟩
    rw [d48, show tl (Str.ofString "0") = [48] by decide +kernel]
    by_cases h0 : c = 48
    · obtain ⟨rfl, hbp⟩ := h48 h0
      refine iteY (decide_eq_true (by rw [h0])) ⟨_, rfl, _, rfl, _, _, rfl, rfl, _, rfl, iteN (decide_eq_false (by omega)) ⟨rfl, rfl⟩⟩
    · exact iteN (decide_eq_false (by intro z; injection z with z; exact h0 z.symm)) ⟨rfl, rfl⟩
  rintro σ' H1 ⟨rfl, rfl⟩
  -- end, the loop
  refine ⟨_, rfl, _, _, rfl, rfl, ?_⟩
  refine ⟨fun m σ' H' => H' = H1 ∧ ∃ e : Nat, σ' = [some (.str z), some (.int ((p : Nat) : Int)), some (.int ((b : Nat) : Int)), some (.str (sg z b)), some (.int ((e : Nat) : Int))] ∧ b + 1 ≤ e ∧ e ≤ b + 1 + r.length ∧ m = b + 1 + r.length - e, ?_, ?_⟩
  · refine ⟨_, rfl, b + 1, ?_, Nat.le_refl _, by omega, rfl⟩
    rw [show (((b + 1 : Nat)) : Int) = ((b : Nat) : Int) + 1 by omega]
    rfl
  rintro m σ' H' ⟨rfl, e, rfl, e1, e2, rfl⟩
  have lenR : b + 1 + r.length ≤ z.length := by
    have := congrArg List.length eR
    rw [List.length_drop, List.length_append, List.length_cons] at this
    omega
  have L : (tl z).drop (b + 1 + r.length) = post := by
    have := drop_app (a := c :: r) eR
    rw [List.length_cons, show b + (r.length + 1) = b + 1 + r.length by omega] at this
    exact this
  -- what follows the loop
  have fin' : e = b + 1 + r.length → tRet (tTup (tCons (tCB (fun xs H Q => ∃ a n, xs = [V.str a] ∧ intText? a = some n ∧ a.length ≤ 640 ∧ Q (V.int n) H) (tCons (tSl rSlS (tVar 0) (tPart (tVar 1)) (tPart (tVar 4))) tNil)) (tCons (tVar 4) tNil)))
      { nx := fun _ H' => Q .non H', rt := Q } [some (.str z), some (.int ((p : Nat) : Int)), some (.int ((b : Nat) : Int)), some (.str (sg z b)), some (.int ((e : Nat) : Int))] H' := fun he => by
    have ecut : tl (cutS z (some ((p : Nat) : Int)) (some ((e : Nat) : Int))) = (if b > p then [45] else []) ++ c :: r := by
      rw [tl_cut hp]
      rcases hb with ⟨hb1, rfl⟩ | ⟨hb1, rfl⟩
      · rw [if_pos (by omega)]
        have : (tl z).drop p = 45 :: ((c :: r) ++ post) := by
          have hlt : p < (tl z).length := (List.getElem?_eq_some_iff.mp hb1).1
          rw [List.drop_eq_getElem_cons hlt, eR]
          congr 1
          have := (List.getElem?_eq_some_iff.mp hb1).2
          exact this
        rw [this, show e - p = (45 :: (c :: r)).length by simp only [List.length_cons]; omega]
        exact List.take_left (l₁ := 45 :: c :: r) (l₂ := post)
      · rw [if_neg (by omega), eR, show e - b = (c :: r).length by simp only [List.length_cons]; omega, List.take_left]
        rfl
    have hval : 10 ^ r.length ≤ NumText.digitsVal (c :: r) ∨ r = [] := by
      by_cases h0 : c = 48
      · exact .inr (h48 h0).1
      · exact .inl (val_len hdc h0)
    have hnat : i.natAbs = NumText.digitsVal (c :: r) := by
      have hv' : i = if b > p then - (NumText.digitsVal (c :: r) : Int) else (NumText.digitsVal (c :: r) : Int) := by injection hv
      rw [hv']
      split <;> omega
    have rl : r.length < 200 := by
      rcases hval with h | h
      · rw [← hnat] at h
        exact (Nat.pow_lt_pow_iff_right (by decide : 1 < 10)).mp (Nat.lt_of_le_of_lt h hsm)
      · rw [h]; decide
    have hlen : (cutS z (some ((p : Nat) : Int)) (some ((e : Nat) : Int))).length ≤ 640 := by
      rw [len_tl, ecut, List.length_append, List.length_cons]
      split <;> simp <;> omega
    have hint : intText? (cutS z (some ((p : Nat) : Int)) (some ((e : Nat) : Int))) = some i := by
      have hv' : i = if b > p then - (NumText.digitsVal (c :: r) : Int) else (NumText.digitsVal (c :: r) : Int) := by injection hv
      have ad : NumText.AllDigits (c :: r) := fun x hx => (dig_iff x).mp (hd x hx)
      by_cases hbp : b > p
      · rw [if_pos hbp] at ecut hv'
        rw [PySem.intText_neg (cs := c :: r) ecut ad (by simp) (by omega), hv']
      · rw [if_neg hbp] at ecut hv'
        have ecut' : (cutS z (some ((p : Nat) : Int)) (some ((e : Nat) : Int))).cps.toList = c :: r := ecut
        rw [PySem.intText_digits (by rw [ecut']; exact ad) (by rw [ecut']; simp) (by omega), ecut', hv']
    refine ⟨_, rfl, _, rfl, _, rfl, _, rfl, _, rfl, z, rfl, small16 (by omega), _, i, rfl, hint, hlen, _, rfl, (by show 2 ≤ sizeLine; decide), fun t ht => ?_⟩
    refine fin t _ (same_new ht _) ?_
    rw [upd_same, he, show b + 1 + r.length = b + (r.length + 1) by omega]
  refine ⟨_, rfl, _, rfl, _, rfl, _, rfl, _, _, rfl, rfl, _, rfl, z, rfl, small16 (by omega), rfl, _, rfl, ?_⟩
  rw [cut_sg (by omega), sg_empty (by decide +kernel)]
  by_cases he : e = b + 1 + r.length
  · cases post with
    | nil =>
      have gn : (tl z)[e]? = none := by
        have := congrArg List.length L
        rw [List.length_drop, List.length_nil] at this
        exact List.getElem?_eq_none (by omega)
      refine iteN (by rw [decide_eq_true gn]; rfl) (iteF (fin' he))
    | cons k post =>
      have gn : (tl z)[e]? = some k := by rw [he]; exact (drop_cons L).1
      refine iteY (by rw [decide_eq_false (by rw [gn]; exact fun z => (nomatch z))]; rfl) ?_
      refine ⟨_, rfl, _, rfl, _, rfl, _, rfl, _, _, rfl, rfl, _, rfl, z, rfl, small16 (by omega), _, _, rfl, rfl, _, rfl, ?_⟩
      rw [cut_sg (by omega), sg_fig gn, hs k post rfl]
      exact iteF (fin' he)
  · have hk : ∃ k, (tl z)[e]? = some k ∧ k ∈ c :: r := get_in eR (by omega) (by rw [List.length_cons]; omega)
    obtain ⟨k, gn, hkm⟩ := hk
    have hdk := hd k hkm
    refine iteY (by rw [decide_eq_false (by rw [gn]; exact fun z => (nomatch z))]; rfl) ?_
    refine ⟨_, rfl, _, rfl, _, rfl, _, rfl, _, _, rfl, rfl, _, rfl, z, rfl, small16 (by omega), _, _, rfl, rfl, _, rfl, ?_⟩
    rw [cut_sg (by omega), sg_fig gn, hdk]
    have hrne : r ≠ [] := fun z => by rw [z] at e2 he; simp at e2 he; omega
    have hc0 : c ≠ 48 := fun z => hrne (h48 z).1
    refine iteT ⟨fun σ'' H2 => ∃ m', m' < b + 1 + r.length - e ∧ H2 = H' ∧ ∃ e : Nat, σ'' = [some (.str z), some (.int ((p : Nat) : Int)), some (.int ((b : Nat) : Int)), some (.str (sg z b)), some (.int ((e : Nat) : Int))] ∧ b + 1 ≤ e ∧ e ≤ b + 1 + r.length ∧ m' = b + 1 + r.length - e, fun _ _ h => h, ?_⟩
    refine ⟨_, rfl, rfl, _, rfl, ?_⟩
    rw [d48, show tl (Str.ofString "0") = [48] by decide +kernel]
    refine iteN (decide_eq_false (by intro z; injection z with z; exact hc0 z.symm)) ?_
    refine ⟨_, rfl, _, rfl, _, _, rfl, rfl, rfl, _, rfl, iteN (decide_eq_false (by intro z; injection z with z; omega)) ?_⟩
    refine ⟨_, rfl, _, _, rfl, rfl, b + 1 + r.length - (e + 1), by omega, rfl, e + 1, ?_, by omega, by omega, rfl⟩
    rw [show (((e + 1 : Nat)) : Int) = ((e : Nat) : Int) + 1 by omega]
    rfl

def tupAt (L : List Nat) (l p : Nat) : PR := if L[p]? = some 41 then .ok (.tup [], p + 1) else members L (valueAt L l) (L.length + 1) p []
def spVal (l : Nat) : Sp := fun vs H Q _ => ∃ (z : Str) (p wi : Nat) (d : D) (q : Nat), vs = [.str z, .int ((p : Nat) : Int), .int ((wi : Nat) : Int)] ∧ (p ≤ z.length ∧ z.length ≤ 1000000 ∧ wi + l = 40) ∧ (valueAt (tl z) l p = .ok (d, q) ∧ d.Fit) ∧
  ∀ (t : Addr) (v : V) (H' : Hp), Same H H' → Rp H' d v → H' t = some (.tup [v, .int ((q : Nat) : Int)]) → Q (.ref t) H'
/-- a tuple within wi brackets, its own among them -/
def spTup (l : Nat) : Sp := fun vs H Q _ => ∃ (z : Str) (p wi : Nat) (d : D) (q : Nat), vs = [.str z, .int ((p : Nat) : Int), .int ((wi : Nat) : Int)] ∧ (p ≤ z.length ∧ z.length ≤ 1000000 ∧ wi + l = 40) ∧ (tupAt (tl z) l p = .ok (d, q) ∧ d.Fit) ∧
  ∀ (t : Addr) (v : V) (H' : Hp), Same H H' → Rp H' d v → H' t = some (.tup [v, .int ((q : Nat) : Int)]) → Q (.ref t) H'
theorem intAt_int {L : List Nat} {p q : Nat} {d : D} (h : intAt L p = .ok (d, q)) : ∃ i, d = .int i := by
  obtain ⟨b, c, r, post, _, _, _, _, _, _, _, e⟩ := intAt_ok h
  exact ⟨_, e⟩
/-- what a value is read as, by its first sign -/
theorem ok_val {l n : Nat} (F : Fun K "value_at" "value_at" s_value_at f fd) (T : Txt0 mg tF tM tB) (c_text_at : Cal P w K mg base CX0 1 "text_at" ["text", "place"] spText) (c_integer_at : Cal P w K mg base CX0 1 "integer_at" ["text", "place"] spInt)
    (c_tuple_at : Cal P w K mg base CX0 (n + 1) "tuple_at" ["text", "place", "within"] (fun vs H Q E => ∃ m, l = m + 1 ∧ spTup m vs H Q E)) : FnOk P w K mg base CX0 (n + 2) f fd ["text", "place", "within"] (spVal l) := by
  refine F.ok sc_value_at (fun vs H Q E h => ?_) (fun cdv A outer s H vs Q E hr h => ?_)
  · obtain ⟨z, p, wi, d, q, rfl, _⟩ := h
    rfl
  obtain ⟨z, p, wi, d, q, rfl, ⟨hp, hz, hw⟩, ⟨hv, hf⟩, fin⟩ := h
  refine ⟨_, pss_cons (ps_set (i := 3) sc_value_at.nd rfl (Or.inl rfl) (pe_slice sl_str (pv 0) (po_some (pv 1)) (po_some (pe_op op_add (pv 1) (pe_int)))))
    (pss_cons (ps_if (pt_cmpR op_eq (pv 3) (pe_str) (nomark _)) (pss_one (ps_ret (pe_tup (pa_cons (pe_non) (pa_cons (pe_op op_add (pv 1) (pe_int)) pa_nil))))) (pss_nil))
    (pss_cons (ps_if (pt_cmpR op_eq (pv 3) (pe_str) (nomark _)) (pss_one (ps_ret (pe_tup (pa_cons (pe_bl) (pa_cons (pe_op op_add (pv 1) (pe_int)) pa_nil))))) (pss_nil))
    (pss_cons (ps_if (pt_cmpR op_eq (pv 3) (pe_str) (nomark _)) (pss_one (ps_ret (pe_tup (pa_cons (pe_bl) (pa_cons (pe_op op_add (pv 1) (pe_int)) pa_nil))))) (pss_nil))
    (pss_cons (ps_if (pt_cmpR op_eq (pv 3) (pe_str) (nomark _)) (pss_one (ps_ret (pe_cal c_text_at (hr.mono (by omega)) rfl pass0 (pa_cons (pv 0) (pa_cons (pe_op op_add (pv 1) (pe_int)) pa_nil))))) (pss_nil))
    (pss_cons (ps_if (pt_cmpR op_eq (pv 3) (pe_str) (nomark _)) (pss_cons (ps_if (pt_cmpR op_eq (pv 2) (pe_glob (v := .int 40) rfl T.g_MOST_BRACKETS ⟨_, rfl⟩) (nomark _)) (pss_one (ps_never)) (pss_nil))
    (pss_one (ps_ret (pe_cal c_tuple_at (hr.mono (by omega)) rfl pass0 (pa_cons (pv 0) (pa_cons (pe_op op_add (pv 1) (pe_int)) (pa_cons (pe_op op_add (pv 2) (pe_int)) pa_nil))))))) (pss_nil))
    (pss_one (ps_ret (pe_cal c_integer_at (hr.mono (by omega)) rfl pass0 (pa_cons (pv 0) (pa_cons (pv 1) pa_nil)))))))))), ?_⟩
  have hL := len_tl z
  have two : (2 : Nat) ≤ sizeLine := by decide
  unfold valueAt at hv
  cases g : (tl z)[p]? with
  | none => simp only [g] at hv; cases hv
  | some c =>
  simp only [g] at hv
  have hpl : p < z.length := by rw [hL]; exact (List.getElem?_eq_some_iff.mp g).1
  have dk : ∀ e k, tl e = [k] → decide (V.str (sg z p) = V.str e) = decide (c = k) := fun e k he => by
    rw [sg_is he, g]
    congr 1
    simp
  refine ⟨_, rfl, _, rfl, _, rfl, _, rfl, _, _, rfl, rfl, _, rfl, z, rfl, small16 (by omega), ?_⟩
  rw [cut_sg hp]
  refine ⟨_, rfl, rfl, _, rfl, ?_⟩
  rw [dk _ 78 (by decide +kernel)]
  by_cases h1 : c = 78
  · rw [if_pos h1] at hv
    cases hv
    refine iteY (decide_eq_true h1) ⟨_, rfl, _, _, rfl, rfl, two, fun t ht => fin t .non _ (same_new ht _) (by rw [Rp]) ?_⟩
    rw [upd_same]
    rfl
  rw [if_neg h1] at hv
  refine iteN (decide_eq_false h1) ⟨_, rfl, rfl, _, rfl, ?_⟩
  rw [dk _ 84 (by decide +kernel)]
  by_cases h2 : c = 84
  · rw [if_pos h2] at hv
    cases hv
    refine iteY (decide_eq_true h2) ⟨_, rfl, _, _, rfl, rfl, two, fun t ht => fin t (.bl true) _ (same_new ht _) (by rw [Rp]) ?_⟩
    rw [upd_same]
    rfl
  rw [if_neg h2] at hv
  refine iteN (decide_eq_false h2) ⟨_, rfl, rfl, _, rfl, ?_⟩
  rw [dk _ 70 (by decide +kernel)]
  by_cases h3 : c = 70
  · rw [if_pos h3] at hv
    cases hv
    refine iteY (decide_eq_true h3) ⟨_, rfl, _, _, rfl, rfl, two, fun t ht => fin t (.bl false) _ (same_new ht _) (by rw [Rp]) ?_⟩
    rw [upd_same]
    rfl
  rw [if_neg h3] at hv
  refine iteN (decide_eq_false h3) ⟨_, rfl, rfl, _, rfl, ?_⟩
  rw [dk _ 34 (by decide +kernel)]
  by_cases h4 : c = 34
  · rw [if_pos h4] at hv
    cases hx : textAt ((tl z).drop (p + 1)) (p + 1) [] with
    | error k => rw [hx] at hv; cases hv
    | ok sq =>
      obtain ⟨s', q'⟩ := sq
      rw [hx] at hv
      cases hv
      refine iteY (decide_eq_true h4) ⟨_, rfl, _, rfl, _, _, rfl, rfl, z, p + 1, s', q, rfl, ⟨by omega, hz⟩, hx, fun t H' hs ht => fin t _ H' hs (by rw [Rp]) ht⟩
  rw [if_neg h4] at hv
  refine iteN (decide_eq_false h4) ⟨_, rfl, rfl, _, rfl, ?_⟩
  rw [dk _ 40 (by decide +kernel)]
  by_cases h5 : c = 40
  · rw [if_pos h5] at hv
    cases l with
    | zero => cases hv
    | succ m =>
      simp only at hv
      refine iteY (decide_eq_true h5) ⟨_, rfl, rfl, _, rfl, iteN (decide_eq_false (by intro z; injection z with z; omega)) ?_⟩
      refine ⟨_, rfl, _, rfl, _, _, rfl, rfl, _, rfl, _, _, rfl, rfl, m, rfl, z, p + 1, wi + 1, d, q, rfl, ⟨by omega, hz, by omega⟩, ⟨?_, hf⟩, fin⟩
      unfold tupAt
      rw [← hv]
  rw [if_neg h5] at hv
  obtain ⟨i, rfl⟩ := intAt_int hv
  rw [D.Fit] at hf
  exact iteN (decide_eq_false h5) ⟨_, rfl, _, rfl, z, p, i, q, rfl, ⟨hp, hz⟩, ⟨hv, hf⟩, fun t H' hs ht => fin t _ H' hs (by rw [Rp]) ht⟩
theorem valueAt_le {L : List Nat} {l p q : Nat} {d : D} (h : valueAt L l p = .ok (d, q)) : p < L.length := by
  unfold valueAt at h
  cases g : L[p]? with
  | none => simp only [g] at h; cases h
  | some c => exact (List.getElem?_eq_some_iff.mp g).1
theorem tupAt_tup {L : List Nat} {l p q : Nat} {d : D} (h : tupAt L l p = .ok (d, q)) : ∃ xs, d = .tup xs := by
  have key : ∀ (n p : Nat) (acc : List D), members L (valueAt L l) n p acc = .ok (d, q) → ∃ xs, d = .tup xs := by
    intro n
    induction n with
    | zero => intro p acc h; cases h
    | succ n ih =>
      intro p acc h
      unfold members at h
      cases e : valueAt L l p with
      | error k => rw [e] at h; cases h
      | ok dq =>
        obtain ⟨d1, k⟩ := dq
        rw [e] at h
        simp only at h
        split at h
        · split at h
          · cases h; exact ⟨_, rfl⟩
          · split at h
            · exact ih _ _ h
            · cases h
        · cases h
  unfold tupAt at h
  split at h
  · cases h; exact ⟨_, rfl⟩
  · exact key _ _ _ h
theorem ok_tup {l n : Nat} (F : Fun K "tuple_at" "tuple_at" s_tuple_at f fd) (T : Txt0 mg tF tM tB) (c_value_at : Cal P w K mg base CX0 n "value_at" ["text", "place", "within"] (spVal l)) : FnOk P w K mg base CX0 (n + 1) f fd ["text", "place", "within"] (spTup l) := by
  refine F.ok sc_tuple_at (fun vs H Q E h => ?_) (fun cdv A outer s H vs Q E hr h => ?_)
  · obtain ⟨z, p, wi, d, q, rfl, _⟩ := h
    rfl
  obtain ⟨z, p0, wi, d, q, rfl, ⟨hp, hz, hw⟩, ⟨hv, hf⟩, fin⟩ := h
  refine ⟨_, pss_cons (ps_if (pt_cmpR op_eq (pe_slice sl_str (pv 0) (po_some (pv 1)) (po_some (pe_op op_add (pv 1) (pe_int)))) (pe_str) (nomark _)) (pss_one (ps_ret (pe_tup (pa_cons (pe_tup (pa_nil)) (pa_cons (pe_op op_add (pv 1) (pe_int)) pa_nil))))) (pss_nil))
    (pss_cons (ps_set (i := 3) sc_tuple_at.nd rfl (Or.inl rfl) (pe_lst (pa_nil)))
    (pss_one (ps_while PassesOwn.never (pt_val (pe_bl)) (pss_cons (ps_asg (pe_cal c_value_at (hr.mono (by omega)) rfl pass0 (pa_cons (pv 0) (pa_cons (pv 1) (pa_cons (pv 2) pa_nil)))) (pg_tup rfl (pgs_cons (pg_name (i := 4) sc_tuple_at.nd rfl (Or.inl rfl)) (pgs_cons (pg_name (i := 1) sc_tuple_at.nd rfl (Or.inl rfl)) pgs_nil))))
    (pss_cons (ps_expr (pe_bm PySem.F.plainAttrs_list PySem.F.slot_list_append PySem.F.type_list_append mt_append (pv 3) (pa_cons (pv 4) pa_nil)))
    (pss_cons (ps_set (i := 5) sc_tuple_at.nd rfl (Or.inl rfl) (pe_slice sl_str (pv 0) (po_some (pv 1)) (po_some (pe_op op_add (pv 1) (pe_int)))))
    (pss_cons (ps_if (pt_cmpR op_eq (pv 5) (pe_str) (nomark _)) (pss_one (ps_ret (pe_tup (pa_cons (pe_callTy call_tuple_of rfl (by exact T.n_tuple) (by decide +kernel) (pa_cons (pv 3) pa_nil)) (pa_cons (pe_op op_add (pv 1) (pe_int)) pa_nil))))) (pss_nil))
    (pss_cons (ps_if (pt_cmpR op_ne (pv 5) (pe_str) (nomark _)) (pss_one (ps_never)) (pss_nil))
    (pss_one (ps_aug (i := 1) sc_tuple_at.nd rfl (Or.inl rfl) (pe_int) ip_add)))))))))), ?_⟩
  have hL := len_tl z
  have two : (2 : Nat) ≤ sizeLine := by decide
  refine ⟨_, rfl, _, rfl, _, rfl, _, rfl, _, _, rfl, rfl, _, rfl, z, rfl, small16 (by omega), rfl, _, rfl, ?_⟩
  rw [cut_sg hp, sg_is (c := 41) (by decide +kernel)]
  unfold tupAt at hv
  by_cases h41 : (tl z)[p0]? = some 41
  · rw [if_pos h41] at hv
    cases hv
    refine iteY (decide_eq_true h41) ⟨(by show 0 ≤ sizeLine; decide), fun u hu => ⟨_, rfl, _, _, rfl, rfl, two, fun t ht => fin t (.ref u) _ ((same_new hu _).trans (same_new ht _)) ?_ ?_⟩⟩
    · rw [Rp]
      exact ⟨u, [], rfl, same_new ht _ _ _ upd_same, Rps.nil⟩
    · rw [upd_same]
      rfl
  rw [if_neg h41] at hv
  refine iteN (decide_eq_false h41) ⟨(by show 0 ≤ sizeLine; decide), fun a ha => ?_⟩
  obtain ⟨xs, rfl⟩ : ∃ xs, d = .tup xs := tupAt_tup (L := tl z) (l := l) (p := p0) (q := q) (by unfold tupAt; rw [if_neg h41]; exact hv)
  rw [D.Fit] at hf
  refine ⟨fun m σ H' => ∃ (p : Nat) (acc : List D) (vs : List V) (x4 x5 : Option V), σ = [some (.str z), some (.int ((p : Nat) : Int)), some (.int ((wi : Nat) : Int)), some (.ref a), x4, x5] ∧ H' a = some (.lst vs) ∧ Rps H' acc vs ∧
    members (tl z) (valueAt (tl z) l) m p acc = .ok (.tup xs, q) ∧ p ≤ z.length ∧ acc.length + m ≤ z.length + 1 ∧ Kept a H H', ?_, ?_⟩
  · exact ⟨_, p0, [], [], _, _, rfl, upd_same, Rps.nil, hv, hp, by simp [hL], Kept.upd⟩
  rintro m σ H1 ⟨p, acc, vs, x4, x5, rfl, w1, w2, w3, w4, w5, w6⟩
  refine ⟨_, rfl, iteT ⟨fun σ' H' => ∃ m', m' < m ∧ ∃ (p : Nat) (acc : List D) (vs : List V) (x4 x5 : Option V), σ' = [some (.str z), some (.int ((p : Nat) : Int)), some (.int ((wi : Nat) : Int)), some (.ref a), x4, x5] ∧ H' a = some (.lst vs) ∧ Rps H' acc vs ∧
    members (tl z) (valueAt (tl z) l) m' p acc = .ok (.tup xs, q) ∧ p ≤ z.length ∧ acc.length + m' ≤ z.length + 1 ∧ Kept a H H', fun _ _ h => h, ?_⟩⟩
  cases m with
  | zero => cases w3
  | succ m =>
  have w3' := w3
  unfold members at w3
  cases e : valueAt (tl z) l p with
  | error k => rw [e] at w3; cases w3
  | ok dq =>
  obtain ⟨d1, k⟩ := dq
  rw [e] at w3
  simp only at w3
  cases gk : (tl z)[k]? with
  | none => rw [gk] at w3; cases w3
  | some c =>
  rw [gk] at w3
  simp only at w3
  have hkl : k < z.length := by rw [hL]; exact (List.getElem?_eq_some_iff.mp gk).1
  -- the member is among those of the whole
  have hmem : d1 ∈ xs := by
    by_cases c1 : c = 41
    · rw [if_pos c1] at w3
      injection w3 with w3
      injection w3 with w3 _
      injection w3 with w3
      rw [← w3]
      simp
    · rw [if_neg c1] at w3
      by_cases c2 : c = 32
      · rw [if_pos c2] at w3
        obtain ⟨ys, ey⟩ := members_ok w3
        rw [ey]
        simp
      · rw [if_neg c2] at w3; cases w3
  refine ⟨_, rfl, _, rfl, _, rfl, z, p, wi, d1, k, rfl, ⟨w4, hz, hw⟩, ⟨e, fits_mem hf d1 hmem⟩, fun t v H2 hs hr1 ht => ?_⟩
  refine ⟨t, _, rfl, SqT.of ht, rfl, _, _, rfl, _, _, rfl, rfl, ?_⟩
  have w1' := hs _ _ w1
  have lv := w2.length
  -- members.append(member)
  refine ⟨_, rfl, .inl ⟨rfl, _, SqL.of w1'⟩, _, rfl, a, _, _, rfl, rfl, w1', small_of (by omega), ?_⟩
  have nta : ∀ (H : Hp) (o : HO), H a = some (.lst vs) → Tup H (upd H a o) := fun H o h b ys e => by
    rw [upd_ne (fun z => by subst z; rw [h] at e; cases e)]
    exact e
  have R2 : Rps (upd H2 a (.lst (vs ++ [v]))) (acc ++ [d1]) (vs ++ [v]) := Rps.append (hr1.mono (nta _ _ w1')) ((w2.mono (Same.tup hs)).mono (nta _ _ w1'))
  have k2 : Kept a H (upd H2 a (.lst (vs ++ [v]))) := (w6.trans (Same.kept hs)).trans Kept.upd
  have S2 : Same H (upd H2 a (.lst (vs ++ [v]))) := fun b o e => k2 b o (ne_of_none e ha) e
  -- sign
  have hp' : p < z.length := by rw [hL]; exact valueAt_le e
  refine ⟨_, rfl, _, rfl, _, rfl, _, rfl, _, _, rfl, rfl, _, rfl, z, rfl, small16 (by omega), ?_⟩
  rw [cut_sg (by omega)]
  have dk : ∀ e k', tl e = [k'] → decide (V.str (sg z k) = V.str e) = decide (c = k') := fun e k' he => by
    rw [sg_is he, gk]
    congr 1
    simp
  refine ⟨_, rfl, rfl, _, rfl, ?_⟩
  rw [dk _ 41 (by decide +kernel)]
  by_cases c1 : c = 41
  · rw [if_pos c1] at w3
    injection w3 with w3
    injection w3 with w3 wq
    injection w3 with w3
    subst w3 wq
    refine iteY (decide_eq_true c1) ⟨_, rfl, a, _, rfl, .inl ⟨SqL.of upd_same, fun u hu => ⟨_, rfl, _, _, rfl, rfl, two, fun t2 ht2 => fin t2 (.ref u) _ (S2.trans ((same_new hu _).trans (same_new ht2 _))) ?_ ?_⟩⟩⟩
    · rw [Rp]
      exact ⟨u, _, rfl, same_new ht2 _ _ _ upd_same, (R2.mono (Same.tup (same_new hu _))).mono (Same.tup (same_new ht2 _))⟩
    · rw [upd_same]
      rfl
  rw [if_neg c1] at w3
  refine iteN (decide_eq_false c1) ⟨_, rfl, rfl, _, rfl, ?_⟩
  have dk2 : decide (V.str (sg z k) = V.str (Str.ofString " ")) = decide (c = 32) := dk _ 32 (by decide +kernel)
  rw [dk2]
  by_cases c2 : c = 32
  · rw [if_pos c2] at w3
    refine iteN (by rw [decide_eq_true c2]; rfl) ⟨_, rfl, _, _, rfl, rfl, m, by omega, k + 1, acc ++ [d1], vs ++ [v], _, _, rfl, upd_same, R2, w3, by omega, ?_, k2⟩
    rw [List.length_append, List.length_singleton]
    omega
  · rw [if_neg c2] at w3; cases w3

def spRead : Sp := fun vs H Q _ => ∃ (z : Str) (d : D), vs = [.str z] ∧ (readL (tl z) = .ok d ∧ d.Fit ∧ z.length ≤ 1000000) ∧ ∀ (v : V) (H' : Hp), Same H H' → Rp H' d v → Q v H'
theorem ok_read {n : Nat} (F : Fun K "read_plain" "read_plain" s_read_plain f fd) (T : Txt0 mg tF tM tB) (c_value_at : Cal P w K mg base CX0 n "value_at" ["text", "place", "within"] (spVal 40)) : FnOk P w K mg base CX0 (n + 1) f fd ["text"] spRead := by
  refine F.ok sc_read_plain (fun vs H Q E h => ?_) (fun cdv A outer s H vs Q E hr h => ?_)
  · obtain ⟨z, d, rfl, _⟩ := h
    rfl
  obtain ⟨z, d, rfl, ⟨hv, hf, hz⟩, fin⟩ := h
  refine ⟨_, pss_cons (ps_asg (pe_cal c_value_at (hr.mono (by omega)) rfl pass0 (pa_cons (pv 0) (pa_cons (pe_int) (pa_cons (pe_int) pa_nil)))) (pg_tup rfl (pgs_cons (pg_name (i := 1) sc_read_plain.nd rfl (Or.inl rfl)) (pgs_cons (pg_name (i := 2) sc_read_plain.nd rfl (Or.inl rfl)) pgs_nil))))
    (pss_cons (ps_if (pt_cmpR op_lt (pv 2) (pe_callB call_len_str rfl (by exact T.n_len) PySem.boot_len (pa_cons (pv 0) pa_nil)) (nomark _)) (pss_one (ps_never)) (pss_nil))
    (pss_one (ps_ret (pv 1)))), ?_⟩
  unfold readL at hv
  cases e : valueAt (tl z) 40 0 with
  | error k => rw [e] at hv; cases hv
  | ok dq =>
  obtain ⟨d1, k⟩ := dq
  rw [e] at hv
  simp only at hv
  by_cases hk : k < (tl z).length
  · rw [if_pos hk] at hv; cases hv
  rw [if_neg hk] at hv
  cases hv
  have hL := len_tl z
  refine ⟨_, rfl, z, 0, 0, d, k, rfl, ⟨Nat.zero_le _, hz, rfl⟩, ⟨e, hf⟩, fun t v H' hs hr1 ht => ?_⟩
  refine ⟨t, _, rfl, SqT.of ht, rfl, _, _, rfl, _, _, rfl, rfl, ?_⟩
  refine ⟨_, rfl, _, rfl, z, rfl, small16 (by omega), _, _, rfl, rfl, _, rfl, iteN (decide_eq_false (by omega)) ?_⟩
  exact ⟨_, rfl, fin v H' hs hr1⟩
/-- what law(script) promises: the answer is True -/
def spLaw (K : PySem.W.Frag) : Sp := fun vs H Q _ => ∃ (a : Addr) (ns : List Int), vs = [.ref a] ∧ SqL K H a (ns.map V.int) ∧ ∀ H', Q (.bl true) H'
theorem ok_law (F : Fun K "law" "law" s_law f fd) (T : Txt0 mg tF tM tB) (c__law_digits : Cal P w K mg base CX0 2 "_law_digits" ["script", "first", "last"] (spDigits K)) (c__law_draw : Cal P w K mg base CX0 1 "_law_draw" ["box", "many"] spDraw)
    (c__law_value : Cal P w K mg base CX0 6 "_law_value" ["box", "deep"] (spValue 4)) (c__law_plain : Cal P w K mg base CX0 41 "_law_plain" ["value"] (spPl 41)) (c_show_plain : Cal P w K mg base CX0 42 "show_plain" ["value"] (spPl 41))
    (c__law_same : Cal P w K mg base CX0 41 "_law_same" ["actual", "due"] (spSame 41)) (c_read_plain : Cal P w K mg base CX0 83 "read_plain" ["text"] spRead) : FnOk P w K mg base CX0 84 f fd ["script"] (spLaw K) := by
  refine F.ok sc_law (fun vs H Q E h => ?_) (fun cdv A outer s H vs Q E hr h => ?_)
  · obtain ⟨a, ns, rfl, _⟩ := h
    rfl
  obtain ⟨a, ns, rfl, hS, fin⟩ := h
  refine ⟨_, pss_cons (ps_set (i := 1) sc_law.nd rfl (Or.inl rfl) (pe_lst (pa_cons (pe_cal c__law_digits (hr.mono (by omega)) rfl pass0 (pa_cons (pv 0) (pa_cons (pe_int) (pa_cons (pe_int) pa_nil)))) (pa_cons (pe_int) pa_nil))))
    (pss_cons (ps_for PassesOwn.never rfl (pi_range1 rfl (by exact T.n_range) (pa_cons (pe_int) pa_nil)) (pg_name (i := 2) sc_law.nd rfl (Or.inl rfl)) (pss_cons (ps_set (i := 3) sc_law.nd rfl (Or.inl rfl) (pe_cal c__law_value (hr.mono (by omega)) rfl pass0 (pa_cons (pv 1) (pa_cons (pe_int) pa_nil))))
    (pss_cons (ps_for PassesOwn.never rfl (pi_range1 rfl (by exact T.n_range) (pa_cons (pe_ix ix_list (pe_lst (pa_cons (pe_int) (pa_cons (pe_int) (pa_cons (pe_int) (pa_cons (pe_int) pa_nil))))) (pe_cal c__law_draw (hr.mono (by omega)) rfl pass0 (pa_cons (pv 1) (pa_cons (pe_int) pa_nil))) (fun _ _ => rfl)) pa_nil)) (pg_name (i := 4) sc_law.nd rfl (Or.inl rfl)) (pss_one (ps_set (i := 3) sc_law.nd rfl (Or.inl rfl) (pe_tup (pa_cons (pv 3) pa_nil)))))
    (pss_cons (ps_set (i := 5) sc_law.nd rfl (Or.inl rfl) (pe_cal c__law_plain (hr.mono (by omega)) rfl pass0 (pa_cons (pv 3) pa_nil)))
    (pss_one (ps_if (PW.pt (pw_or (pt_not (pt_val (pe_cal c__law_same (hr.mono (by omega)) rfl pass0 (pa_cons (pe_cal c_show_plain (hr.mono (by omega)) rfl pass0 (pa_cons (pv 3) pa_nil)) (pa_cons (pv 5) pa_nil))))) (pw_or1 (pt_not (pt_val (pe_cal c__law_same (hr.mono (by omega)) rfl pass0 (pa_cons (pe_cal c_read_plain (hr.mono (by omega)) rfl pass0 (pa_cons (pv 5) pa_nil)) (pa_cons (pv 3) pa_nil)))))))) (pss_one (ps_ret (pe_bl))) (pss_nil)))))))
    (pss_one (ps_ret (pe_bl)))), ?_⟩
  refine ⟨_, rfl, a, ns, 0, 63, rfl, hS, ⟨by omega, by omega, by omega, by omega⟩, fun p H1 ds s1 hp hd => ⟨(by show 2 ≤ sizeLine; decide), fun b hb => ?_⟩⟩
  have hpb : p ≠ b := fun e => by rw [e, hb] at hd; cases hd
  have bx : Box (upd H1 b (.lst [.ref p, .int 0])) b p := ⟨ds, 0, upd_same, by rw [upd_ne hpb]; exact hd, hpb⟩
  refine ⟨6, rfl, by decide, by decide, for_range (lo := 0) (n := (6 : Int).toNat) (fun i σ H' => ∃ x2 x3 x4 x5 : Option V, σ = [some (.ref a), some (.ref b), x2, x3, x4, x5] ∧ Box H' b p) ⟨_, _, _, _, rfl, bx⟩ ?_ ?_⟩
  · rintro i σ H2 hi ⟨x2, x3, x4, x5, rfl, hb2⟩
    refine ⟨_, rfl, b, p, rfl, hb2, fun v d H3 hr3 dd ff ss hb3 kp3 => ?_⟩
    refine ⟨(by show 4 ≤ sizeLine; decide), fun t ht => ?_⟩
    have sn := same_new ht (.lst [V.int 0, V.int 0, V.int 0, V.int 36])
    refine ⟨_, rfl, b, p, 4, rfl, by decide, hb3.same sn, fun m H4 m0 m1 hb4 kp4 => ?_⟩
    have ht4 := kp4 t _ (hb3.ne ht).1 upd_same
    have hr4 : Rp H4 d v := (hr3.mono (Same.tup sn)).mono (Kept.tup (hb3.same sn) kp4)
    obtain ⟨n, hn, n0, n1⟩ : ∃ n : Int, atI [V.int 0, V.int 0, V.int 0, V.int 36] m = some (.int n) ∧ 0 ≤ n ∧ n ≤ 36 := by
      have hm : m = 0 ∨ m = 1 ∨ m = 2 ∨ m = 3 := by omega
      rcases hm with rfl | rfl | rfl | rfl
      · exact ⟨0, rfl, by omega, by omega⟩
      · exact ⟨0, rfl, by omega, by omega⟩
      · exact ⟨0, rfl, by omega, by omega⟩
      · exact ⟨36, rfl, by omega, by omega⟩
    refine ⟨t, _, _, _, rfl, rfl, SqL.of ht4, hn, n, rfl, by omega, by omega, for_range (lo := 0) (n := n.toNat) (fun j σ H' => ∃ (v : V) (d : D) (x4 : Option V), σ = [some (.ref a), some (.ref b), some (.int (0 + (i : Int))), some v, x4, x5] ∧ Rp H' d v ∧ d.deep ≤ 4 + j ∧ d.Fit ∧ d.show.length ≤ bnd 4 + 2 * j ∧ Box H' b p) ⟨v, d, _, rfl, hr4, dd, ff, ss, hb4⟩ ?_ ?_⟩
    · rintro j σ H5 hj ⟨v, d, x4, rfl, r5, dd, ff, ss, hb5⟩
      refine ⟨_, rfl, (by show 1 ≤ sizeLine; decide), fun u hu => ⟨.ref u, .tup [d], _, rfl, ?_, ?_, ?_, ?_, hb5.same (same_new hu _)⟩⟩
      · rw [Rp]
        refine ⟨u, [v], rfl, upd_same, ?_⟩
        rw [Rps]
        exact ⟨v, [], rfl, r5.mono (Same.tup (same_new hu _)), Rps.nil⟩
      · have e : (D.tup [d]).deep = d.deep + 1 := by simp [D.deep, D.deeps]
        omega
      · rw [D.Fit, D.Fits, D.Fits]
        exact ⟨ff, trivial⟩
      · rw [tup_len]
        show d.show.length + 2 ≤ _
        omega
    · rintro σ H5 ⟨v, d, x4, rfl, r5, dd, ff, ss, hb5⟩
      have b4 : bnd 4 = 3440 := by decide
      have dd' : d.deep < 41 := by omega
      have ss' : d.show.length ≤ 4000 := by omega
      refine ⟨_, rfl, d, v, rfl, ⟨dd', by omega, ff⟩, r5, fun H6 s6 => ?_⟩
      have l1 : (showS d).length = d.show.length := len_strOf _
      have l2 : (D.str (showS d)).show.length ≤ 1000000 := by
        show (34 :: (encL (tl _) ++ [34])).length ≤ _
        have h3 := len_enc (tl (showS d))
        rw [← len_tl] at h3
        rw [List.length_cons, List.length_append, List.length_singleton]
        omega
      refine ⟨_, rfl, d, v, rfl, ⟨dd', by omega, ff⟩, r5.mono (Same.tup s6), fun H7 s7 => ?_⟩
      refine ⟨_, rfl, .str (showS d), _, _, rfl, ⟨Nat.zero_lt_succ _, l2⟩, by rw [Rp], by rw [Rp], true, rfl, iteN rfl ?_⟩
      refine ⟨_, rfl, showS d, d, rfl, ⟨read_show (by omega) ff, ff, by omega⟩, fun v2 H8 s8 r8 => ?_⟩
      have t8 : Tup H5 H8 := Same.tup (s6.trans (s7.trans s8))
      refine ⟨_, rfl, d, _, _, rfl, ⟨dd', by omega⟩, r8, r5.mono t8, true, rfl, iteN rfl ?_⟩
      exact ⟨_, _, _, _, rfl, hb5.same (s6.trans (s7.trans s8))⟩
  · rintro σ H2 ⟨x2, x3, x4, x5, rfl, hb2⟩
    exact fin H2
end
/-! ### the text's top -/
theorem all_mk {l : PySem.W.OpenLaw} {w : World} {K : PySem.W.Frag} {h : Heap} {mg : Str → Option Value} {fa : Addr} (X : K.In h) (G : h.Ns mainGlobals mg) (hfa : mg "law" = some (.ref fa)) {f0 : Addr} {od0 an0 : Option Addr} {sl0 : Array (Option Value)} {oc0 kV0 dc0 pm0 cd0 ct0 : Value} {f1 : Addr} {od1 an1 : Option Addr} {sl1 : Array (Option Value)} {oc1 kV1 dc1 pm1 cd1 ct1 : Value} {f2 : Addr} {od2 an2 : Option Addr} {sl2 : Array (Option Value)} {oc2 kV2 dc2 pm2 cd2 ct2 : Value} {f3 : Addr} {od3 an3 : Option Addr} {sl3 : Array (Option Value)} {oc3 kV3 dc3 pm3 cd3 ct3 : Value} {f4 : Addr} {od4 an4 : Option Addr} {sl4 : Array (Option Value)} {oc4 kV4 dc4 pm4 cd4 ct4 : Value} {f5 : Addr} {od5 an5 : Option Addr} {sl5 : Array (Option Value)} {oc5 kV5 dc5 pm5 cd5 ct5 : Value} {f6 : Addr} {od6 an6 : Option Addr} {sl6 : Array (Option Value)} {oc6 kV6 dc6 pm6 cd6 ct6 : Value} {f7 : Addr} {od7 an7 : Option Addr} {sl7 : Array (Option Value)} {oc7 kV7 dc7 pm7 cd7 ct7 : Value} {f8 : Addr} {od8 an8 : Option Addr} {sl8 : Array (Option Value)} {oc8 kV8 dc8 pm8 cd8 ct8 : Value} {f9 : Addr} {od9 an9 : Option Addr} {sl9 : Array (Option Value)} {oc9 kV9 dc9 pm9 cd9 ct9 : Value} {f10 : Addr} {od10 an10 : Option Addr} {sl10 : Array (Option Value)} {oc10 kV10 dc10 pm10 cd10 ct10 : Value} {f11 : Addr} {od11 an11 : Option Addr} {sl11 : Array (Option Value)} {oc11 kV11 dc11 pm11 cd11 ct11 : Value} {f12 : Addr} {od12 an12 : Option Addr} {sl12 : Array (Option Value)} {oc12 kV12 dc12 pm12 cd12 ct12 : Value} {f13 : Addr} {od13 an13 : Option Addr} {sl13 : Array (Option Value)} {oc13 kV13 dc13 pm13 cd13 ct13 : Value} {tF : Tok} {tM : Tok} {tB : Tok}
    (a0 : PySem.W.nsIn K mainGlobals "show_plain" = some (some (.ref f0))) (l0 : K.lookup f0 = some ⟨oc0, od0, .func (PySem.W.fnOf "show_plain" "show_plain" (defArgs s_show_plain) (defBody s_show_plain) (defScope s_show_plain) .none kV0 dc0 pm0 an0 cd0 ct0), sl0⟩) (c0 : PySem.W.codeIn K cd0 "show_plain" = true) (k0 : PySem.W.keepIn K (.ref f0) = true)
    (a1 : PySem.W.nsIn K mainGlobals "quoted" = some (some (.ref f1))) (l1 : K.lookup f1 = some ⟨oc1, od1, .func (PySem.W.fnOf "quoted" "quoted" (defArgs s_quoted) (defBody s_quoted) (defScope s_quoted) .none kV1 dc1 pm1 an1 cd1 ct1), sl1⟩) (c1 : PySem.W.codeIn K cd1 "quoted" = true) (k1 : PySem.W.keepIn K (.ref f1) = true)
    (a2 : PySem.W.nsIn K mainGlobals "read_plain" = some (some (.ref f2))) (l2 : K.lookup f2 = some ⟨oc2, od2, .func (PySem.W.fnOf "read_plain" "read_plain" (defArgs s_read_plain) (defBody s_read_plain) (defScope s_read_plain) .none kV2 dc2 pm2 an2 cd2 ct2), sl2⟩) (c2 : PySem.W.codeIn K cd2 "read_plain" = true) (k2 : PySem.W.keepIn K (.ref f2) = true)
    (a3 : PySem.W.nsIn K mainGlobals "value_at" = some (some (.ref f3))) (l3 : K.lookup f3 = some ⟨oc3, od3, .func (PySem.W.fnOf "value_at" "value_at" (defArgs s_value_at) (defBody s_value_at) (defScope s_value_at) .none kV3 dc3 pm3 an3 cd3 ct3), sl3⟩) (c3 : PySem.W.codeIn K cd3 "value_at" = true) (k3 : PySem.W.keepIn K (.ref f3) = true)
    (a4 : PySem.W.nsIn K mainGlobals "integer_at" = some (some (.ref f4))) (l4 : K.lookup f4 = some ⟨oc4, od4, .func (PySem.W.fnOf "integer_at" "integer_at" (defArgs s_integer_at) (defBody s_integer_at) (defScope s_integer_at) .none kV4 dc4 pm4 an4 cd4 ct4), sl4⟩) (c4 : PySem.W.codeIn K cd4 "integer_at" = true) (k4 : PySem.W.keepIn K (.ref f4) = true)
    (a5 : PySem.W.nsIn K mainGlobals "text_at" = some (some (.ref f5))) (l5 : K.lookup f5 = some ⟨oc5, od5, .func (PySem.W.fnOf "text_at" "text_at" (defArgs s_text_at) (defBody s_text_at) (defScope s_text_at) .none kV5 dc5 pm5 an5 cd5 ct5), sl5⟩) (c5 : PySem.W.codeIn K cd5 "text_at" = true) (k5 : PySem.W.keepIn K (.ref f5) = true)
    (a6 : PySem.W.nsIn K mainGlobals "tuple_at" = some (some (.ref f6))) (l6 : K.lookup f6 = some ⟨oc6, od6, .func (PySem.W.fnOf "tuple_at" "tuple_at" (defArgs s_tuple_at) (defBody s_tuple_at) (defScope s_tuple_at) .none kV6 dc6 pm6 an6 cd6 ct6), sl6⟩) (c6 : PySem.W.codeIn K cd6 "tuple_at" = true) (k6 : PySem.W.keepIn K (.ref f6) = true)
    (a7 : PySem.W.nsIn K mainGlobals "_law_cell" = some (some (.ref f7))) (l7 : K.lookup f7 = some ⟨oc7, od7, .func (PySem.W.fnOf "_law_cell" "_law_cell" (defArgs s__law_cell) (defBody s__law_cell) (defScope s__law_cell) .none kV7 dc7 pm7 an7 cd7 ct7), sl7⟩) (c7 : PySem.W.codeIn K cd7 "_law_cell" = true) (k7 : PySem.W.keepIn K (.ref f7) = true)
    (a8 : PySem.W.nsIn K mainGlobals "_law_digits" = some (some (.ref f8))) (l8 : K.lookup f8 = some ⟨oc8, od8, .func (PySem.W.fnOf "_law_digits" "_law_digits" (defArgs s__law_digits) (defBody s__law_digits) (defScope s__law_digits) .none kV8 dc8 pm8 an8 cd8 ct8), sl8⟩) (c8 : PySem.W.codeIn K cd8 "_law_digits" = true) (k8 : PySem.W.keepIn K (.ref f8) = true)
    (a9 : PySem.W.nsIn K mainGlobals "_law_draw" = some (some (.ref f9))) (l9 : K.lookup f9 = some ⟨oc9, od9, .func (PySem.W.fnOf "_law_draw" "_law_draw" (defArgs s__law_draw) (defBody s__law_draw) (defScope s__law_draw) .none kV9 dc9 pm9 an9 cd9 ct9), sl9⟩) (c9 : PySem.W.codeIn K cd9 "_law_draw" = true) (k9 : PySem.W.keepIn K (.ref f9) = true)
    (a10 : PySem.W.nsIn K mainGlobals "_law_same" = some (some (.ref f10))) (l10 : K.lookup f10 = some ⟨oc10, od10, .func (PySem.W.fnOf "_law_same" "_law_same" (defArgs s__law_same) (defBody s__law_same) (defScope s__law_same) .none kV10 dc10 pm10 an10 cd10 ct10), sl10⟩) (c10 : PySem.W.codeIn K cd10 "_law_same" = true) (k10 : PySem.W.keepIn K (.ref f10) = true)
    (a11 : PySem.W.nsIn K mainGlobals "_law_plain" = some (some (.ref f11))) (l11 : K.lookup f11 = some ⟨oc11, od11, .func (PySem.W.fnOf "_law_plain" "_law_plain" (defArgs s__law_plain) (defBody s__law_plain) (defScope s__law_plain) .none kV11 dc11 pm11 an11 cd11 ct11), sl11⟩) (c11 : PySem.W.codeIn K cd11 "_law_plain" = true) (k11 : PySem.W.keepIn K (.ref f11) = true)
    (a12 : PySem.W.nsIn K mainGlobals "_law_value" = some (some (.ref f12))) (l12 : K.lookup f12 = some ⟨oc12, od12, .func (PySem.W.fnOf "_law_value" "_law_value" (defArgs s__law_value) (defBody s__law_value) (defScope s__law_value) .none kV12 dc12 pm12 an12 cd12 ct12), sl12⟩) (c12 : PySem.W.codeIn K cd12 "_law_value" = true) (k12 : PySem.W.keepIn K (.ref f12) = true)
    (a13 : PySem.W.nsIn K mainGlobals "law" = some (some (.ref f13))) (l13 : K.lookup f13 = some ⟨oc13, od13, .func (PySem.W.fnOf "law" "law" (defArgs s_law) (defBody s_law) (defScope s_law) .none kV13 dc13 pm13 an13 cd13 ct13), sl13⟩) (c13 : PySem.W.codeIn K cd13 "law" = true) (k13 : PySem.W.keepIn K (.ref f13) = true)
    (z_len : PySem.W.nsIn K mainGlobals "len" = some none)
    (z_isinstance : PySem.W.nsIn K mainGlobals "isinstance" = some none)
    (z_int : PySem.W.nsIn K mainGlobals "int" = some none)
    (z_str : PySem.W.nsIn K mainGlobals "str" = some none)
    (z_tuple : PySem.W.nsIn K mainGlobals "tuple" = some none)
    (z_bool : PySem.W.nsIn K mainGlobals "bool" = some none)
    (z_range : PySem.W.nsIn K mainGlobals "range" = some none)
    (g_FIGURES : PySem.W.nsIn K mainGlobals "FIGURES" = some (some (.str (Str.ofString "0123456789") tF)))
    (g_MOST_FIGURES : PySem.W.nsIn K mainGlobals "MOST_FIGURES" = some (some (.int 2000 tM)))
    (g_MOST_BRACKETS : PySem.W.nsIn K mainGlobals "MOST_BRACKETS" = some (some (.int 40 tB))) :
    ∃ fd : FuncData, (∀ (s : Shared) (v : Value), BindsTo s fd ⟨[v], []⟩ [("script", v)]) ∧ ∀ base : Heap, K.In base → base.Ns mainGlobals mg → FnOk l.prog w K mg base CX0 84 fa fd ["script"] (spLaw K) := by
  have e := hfa.symm.trans (PySem.W.mg_of X G a13)
  cases e
  have F_show_plain := fun_mk (st := s_show_plain) l0 c0 k0
  have b_show_plain := F_show_plain.binds (ps := ["value"]) fun _ _ _ _ _ _ us hl => match us, hl with | [_], _ => rfl
  have m_show_plain := PySem.W.mg_of X G a0
  have F_quoted := fun_mk (st := s_quoted) l1 c1 k1
  have b_quoted := F_quoted.binds (ps := ["text"]) fun _ _ _ _ _ _ us hl => match us, hl with | [_], _ => rfl
  have m_quoted := PySem.W.mg_of X G a1
  have F_read_plain := fun_mk (st := s_read_plain) l2 c2 k2
  have b_read_plain := F_read_plain.binds (ps := ["text"]) fun _ _ _ _ _ _ us hl => match us, hl with | [_], _ => rfl
  have m_read_plain := PySem.W.mg_of X G a2
  have F_value_at := fun_mk (st := s_value_at) l3 c3 k3
  have b_value_at := F_value_at.binds (ps := ["text", "place", "within"]) fun _ _ _ _ _ _ us hl => match us, hl with | [_, _, _], _ => rfl
  have m_value_at := PySem.W.mg_of X G a3
  have F_integer_at := fun_mk (st := s_integer_at) l4 c4 k4
  have b_integer_at := F_integer_at.binds (ps := ["text", "place"]) fun _ _ _ _ _ _ us hl => match us, hl with | [_, _], _ => rfl
  have m_integer_at := PySem.W.mg_of X G a4
  have F_text_at := fun_mk (st := s_text_at) l5 c5 k5
  have b_text_at := F_text_at.binds (ps := ["text", "place"]) fun _ _ _ _ _ _ us hl => match us, hl with | [_, _], _ => rfl
  have m_text_at := PySem.W.mg_of X G a5
  have F_tuple_at := fun_mk (st := s_tuple_at) l6 c6 k6
  have b_tuple_at := F_tuple_at.binds (ps := ["text", "place", "within"]) fun _ _ _ _ _ _ us hl => match us, hl with | [_, _, _], _ => rfl
  have m_tuple_at := PySem.W.mg_of X G a6
  have F__law_cell := fun_mk (st := s__law_cell) l7 c7 k7
  have b__law_cell := F__law_cell.binds (ps := ["script", "k"]) fun _ _ _ _ _ _ us hl => match us, hl with | [_, _], _ => rfl
  have m__law_cell := PySem.W.mg_of X G a7
  have F__law_digits := fun_mk (st := s__law_digits) l8 c8 k8
  have b__law_digits := F__law_digits.binds (ps := ["script", "first", "last"]) fun _ _ _ _ _ _ us hl => match us, hl with | [_, _, _], _ => rfl
  have m__law_digits := PySem.W.mg_of X G a8
  have F__law_draw := fun_mk (st := s__law_draw) l9 c9 k9
  have b__law_draw := F__law_draw.binds (ps := ["box", "many"]) fun _ _ _ _ _ _ us hl => match us, hl with | [_, _], _ => rfl
  have m__law_draw := PySem.W.mg_of X G a9
  have F__law_same := fun_mk (st := s__law_same) l10 c10 k10
  have b__law_same := F__law_same.binds (ps := ["actual", "due"]) fun _ _ _ _ _ _ us hl => match us, hl with | [_, _], _ => rfl
  have m__law_same := PySem.W.mg_of X G a10
  have F__law_plain := fun_mk (st := s__law_plain) l11 c11 k11
  have b__law_plain := F__law_plain.binds (ps := ["value"]) fun _ _ _ _ _ _ us hl => match us, hl with | [_], _ => rfl
  have m__law_plain := PySem.W.mg_of X G a11
  have F__law_value := fun_mk (st := s__law_value) l12 c12 k12
  have b__law_value := F__law_value.binds (ps := ["box", "deep"]) fun _ _ _ _ _ _ us hl => match us, hl with | [_, _], _ => rfl
  have m__law_value := PySem.W.mg_of X G a12
  have F_law := fun_mk (st := s_law) l13 c13 k13
  have b_law := F_law.binds (ps := ["script"]) fun _ _ _ _ _ _ us hl => match us, hl with | [_], _ => rfl
  have m_law := PySem.W.mg_of X G a13
  have T : Txt0 mg tF tM tB := ⟨PySem.W.mg_none_of X G z_len, PySem.W.mg_none_of X G z_isinstance, PySem.W.mg_none_of X G z_int, PySem.W.mg_none_of X G z_str, PySem.W.mg_none_of X G z_tuple, PySem.W.mg_none_of X G z_bool, PySem.W.mg_none_of X G z_range,
    PySem.W.mg_of X G g_FIGURES, PySem.W.mg_of X G g_MOST_FIGURES, PySem.W.mg_of X G g_MOST_BRACKETS⟩
  refine ⟨PySem.W.fnOf "law" "law" (defArgs s_law) (defBody s_law) (defScope s_law) .none kV13 dc13 pm13 an13 cd13 ct13, fun s v => .of_eq rfl, fun base _ _ => ?_⟩
  have C_cell : Cal l.prog w K mg base CX0 1 "_law_cell" ["script", "k"] (spCell K) := ⟨_, _, ok_cell F__law_cell T, b__law_cell, F__law_cell.kp, m__law_cell⟩
  have C_digits : Cal l.prog w K mg base CX0 2 "_law_digits" ["script", "first", "last"] (spDigits K) := ⟨_, _, ok_digits F__law_digits T C_cell, b__law_digits, F__law_digits.kp, m__law_digits⟩
  have C_draw : Cal l.prog w K mg base CX0 1 "_law_draw" ["box", "many"] spDraw := ⟨_, _, ok_draw F__law_draw T, b__law_draw, F__law_draw.kp, m__law_draw⟩
  have C_quoted : Cal l.prog w K mg base CX0 1 "quoted" ["text"] spQuoted := ⟨_, _, ok_quoted F_quoted T, b_quoted, F_quoted.kp, m_quoted⟩
  have C_text : Cal l.prog w K mg base CX0 1 "text_at" ["text", "place"] spText := ⟨_, _, ok_text F_text_at T, b_text_at, F_text_at.kp, m_text_at⟩
  have C_int : Cal l.prog w K mg base CX0 1 "integer_at" ["text", "place"] spInt := ⟨_, _, ok_int F_integer_at T, b_integer_at, F_integer_at.kp, m_integer_at⟩
  have C_same : ∀ n, Cal l.prog w K mg base CX0 n "_law_same" ["actual", "due"] (spSame n) := fun n => by
    induction n with
    | zero => exact Cal.no b__law_same F__law_same.kp m__law_same fun vs H Q E ⟨d, v, u, _, ⟨h, _⟩, _⟩ => absurd h (Nat.not_lt_zero _)
    | succ n ih => exact ⟨_, _, ok_same F__law_same T ih, b__law_same, F__law_same.kp, m__law_same⟩
  have C_plain : ∀ n, Cal l.prog w K mg base CX0 n "_law_plain" ["value"] (spPl n) := fun n => by
    induction n with
    | zero => exact Cal.no b__law_plain F__law_plain.kp m__law_plain fun vs H Q E ⟨d, v, _, ⟨h, _⟩, _⟩ => absurd h (Nat.not_lt_zero _)
    | succ n ih => exact ⟨_, _, ok_plain F__law_plain T ih, b__law_plain, F__law_plain.kp, m__law_plain⟩
  have C_show : ∀ n, Cal l.prog w K mg base CX0 (n + 1) "show_plain" ["value"] (spPl n) := fun n => by
    induction n with
    | zero => exact Cal.no b_show_plain F_show_plain.kp m_show_plain fun vs H Q E ⟨d, v, _, ⟨h, _⟩, _⟩ => absurd h (Nat.not_lt_zero _)
    | succ n ih => exact ⟨_, _, ok_show F_show_plain T C_quoted ih, b_show_plain, F_show_plain.kp, m_show_plain⟩
  have C_value : ∀ n, Cal l.prog w K mg base CX0 (n + 2) "_law_value" ["box", "deep"] (spValue n) := fun n => by
    induction n with
    | zero => exact ⟨_, _, ok_value F__law_value T C_draw (Cal.no b__law_value F__law_value.kp m__law_value fun vs H Q E ⟨m, h, _⟩ => absurd h (by omega)), b__law_value, F__law_value.kp, m__law_value⟩
    | succ n ih =>
      refine ⟨_, _, ok_value F__law_value T C_draw ?_, b__law_value, F__law_value.kp, m__law_value⟩
      obtain ⟨f, fd, F, b, kp, m⟩ := ih.ex
      exact ⟨f, fd, F.imp fun vs H Q E ⟨k, e, q⟩ => by cases e; exact q, b, kp, m⟩
  have C_val : ∀ n, Cal l.prog w K mg base CX0 (2 * n + 2) "value_at" ["text", "place", "within"] (spVal n) := fun n => by
    induction n with
    | zero => exact ⟨_, _, ok_val F_value_at T C_text C_int (Cal.no b_tuple_at F_tuple_at.kp m_tuple_at fun vs H Q E ⟨m, h, _⟩ => absurd h (by omega)), b_value_at, F_value_at.kp, m_value_at⟩
    | succ n ih =>
      have G := ok_tup F_tuple_at T ih
      exact ⟨_, _, ok_val F_value_at T C_text C_int ⟨_, _, G.imp fun vs H Q E ⟨k, e, q⟩ => by cases e; exact q, b_tuple_at, F_tuple_at.kp, m_tuple_at⟩, b_value_at, F_value_at.kp, m_value_at⟩
  have C_read : Cal l.prog w K mg base CX0 83 "read_plain" ["text"] spRead := ⟨_, _, ok_read F_read_plain T (C_val 40), b_read_plain, F_read_plain.kp, m_read_plain⟩
  exact ok_law F_law T C_digits C_draw (C_value 4) (C_plain 41) (C_show 41) (C_same 41) C_read
theorem walk {l : PySem.W.OpenLaw} {q : Program} {loose : List Str} {XP : (Str → Option Value) → Heap → Prop} {YP : World → Heap → Prop} {d : DefRec} {K : Params → PySem.W.Frag} (hn : l.most = some 63) (hdf : d.params.defaults = [])
    (hY : ∀ (w : World) (h : Heap), YP w h → (K w.params).In h)
    (F : ∀ (w : World) (mg : Str → Option Value) (fa : Addr) (h : Heap), (K w.params).In h → h.Ns mainGlobals mg → mg d.name = some (.ref fa) →
      ∃ fd : FuncData, (∀ (s : Shared) (u : Value), BindsTo s fd ⟨[u], []⟩ [("script", u)]) ∧ ∀ base : Heap, (K w.params).In base → base.Ns mainGlobals mg → FnOk l.prog w (K w.params) mg base CX0 84 fa fd ["script"] (spLaw (K w.params))) :
    PySem.W.WalkO q loose XP YP l.row.toRowW d [] (fun f vs => PySem.call f vs) :=
  L2.walk_of (n := 63) (k := 84) (x := "script") (CX := fun _ => CX0) (sp := fun w => spLaw (K w.params)) hn (by decide) hdf ⟨rfl, by decide, by decide⟩ hY F (fun _ _ a ns hl _ hS => ⟨a, ns, rfl, hS, fun _ => rfl⟩) fun _ _ _ _ _ z => z
end Tst
open PySem PySem.W PyProof.Rows
set_option maxRecDepth 100000 in
set_option maxHeartbeats 0 in
theorem PySem.Challenge.cw_termstead_k18_plain_there_and_back_holds : PySem.Challenge.rw_termstead_k18_plain_there_and_back.Holds := by
  w_on; o_law; k_head; (case hw => w_witness2)
  k_fill
  refine Tst.walk (l := PySem.Challenge.rw_termstead_k18_plain_there_and_back) rfl rfl (fun w h Y => PySem.W.kIn_of Y) ?F
  case F =>
    intro w mg fa h KX G hmg
    refine' Tst.all_mk KX G hmg ?a0 ?l0 ?c0 ?k0 ?a1 ?l1 ?c1 ?k1 ?a2 ?l2 ?c2 ?k2 ?a3 ?l3 ?c3 ?k3 ?a4 ?l4 ?c4 ?k4 ?a5 ?l5 ?c5 ?k5 ?a6 ?l6 ?c6 ?k6 ?a7 ?l7 ?c7 ?k7 ?a8 ?l8 ?c8 ?k8 ?a9 ?l9 ?c9 ?k9 ?a10 ?l10 ?c10 ?k10 ?a11 ?l11 ?c11 ?k11 ?a12 ?l12 ?c12 ?k12 ?a13 ?l13 ?c13 ?k13 ?z_len ?z_isinstance ?z_int ?z_str ?z_tuple ?z_bool ?z_range ?g_FIGURES ?g_MOST_FIGURES ?g_MOST_BRACKETS
    (case a0 => k_is); (case l0 => k_is); (case c0 => k_is); (case k0 => k_is)
    (case a1 => k_is); (case l1 => k_is); (case c1 => k_is); (case k1 => k_is)
    (case a2 => k_is); (case l2 => k_is); (case c2 => k_is); (case k2 => k_is)
    (case a3 => k_is); (case l3 => k_is); (case c3 => k_is); (case k3 => k_is)
    (case a4 => k_is); (case l4 => k_is); (case c4 => k_is); (case k4 => k_is)
    (case a5 => k_is); (case l5 => k_is); (case c5 => k_is); (case k5 => k_is)
    (case a6 => k_is); (case l6 => k_is); (case c6 => k_is); (case k6 => k_is)
    (case a7 => k_is); (case l7 => k_is); (case c7 => k_is); (case k7 => k_is)
    (case a8 => k_is); (case l8 => k_is); (case c8 => k_is); (case k8 => k_is)
    (case a9 => k_is); (case l9 => k_is); (case c9 => k_is); (case k9 => k_is)
    (case a10 => k_is); (case l10 => k_is); (case c10 => k_is); (case k10 => k_is)
    (case a11 => k_is); (case l11 => k_is); (case c11 => k_is); (case k11 => k_is)
    (case a12 => k_is); (case l12 => k_is); (case c12 => k_is); (case k12 => k_is)
    (case a13 => k_is); (case l13 => k_is); (case c13 => k_is); (case k13 => k_is)
    (case z_len => k_is)
    (case z_isinstance => k_is)
    (case z_int => k_is)
    (case z_str => k_is)
    (case z_tuple => k_is)
    (case z_bool => k_is)
    (case z_range => k_is)
    (case g_FIGURES => k_is)
    (case g_MOST_FIGURES => k_is)
    (case g_MOST_BRACKETS => k_is)
