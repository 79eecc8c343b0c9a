import PyProof.Rows.All
import Wide.All
import OpenK.AllK
import Wide.FinOn
import HandS.ForMost
import HandS.IsInst
import HandS.ReplaceLit
import HandS.StrMore
import HandS.ReplaceList
import HandS.Style
import HandS.TupLe
import PyProof.Rows.Digits
import KE.KExcSuper
import HandS.Exc
import HandS.ForExc
import HandS.FStr
import HandS.ExcIs
import KE.KExcIs
import HandS.MapSum
import KE.KRevSl
import PyProof.SliceStr2
import PyProof.StrLaws
import HandS.Iter
import HandS.Comp
import PyProof.AutoSeq1
import HandS.DictComp
import HandS.Walk
import PyProof.StrLawsTight
import PyProof.Rows.StrSplitMax
import HandS.StrSplit
import HandS.Codes
import HandS.TupAny
import HandS.Gcd
import HandS.TryOnly
import HandS.EndBits
import PySem.Challenge.RW_termstead_k20_journal_chained
set_option Elab.async false
set_option linter.all false
set_option maxRecDepth 100000
set_option maxHeartbeats 4000000
/-! Plain values and their texts, in plain Lean: what is shown, what is read. -/
namespace Tst
open PySem L2 TL
/-- a plain value -/
inductive D where
  | non | bl (b : Bool) | int (i : Int) | str (z : Str) | tup (xs : List D)
/-- a sign of a text between quotes -/
def enc1 (c : Nat) : List Nat := if c = 92 then [92, 92] else if c = 34 then [92, 34] else if c = 10 then [92, 110] else [c]
def encL (s : List Nat) : List Nat := s.flatMap enc1
def numI : Int → List Nat
  | .ofNat n => numL n
  | .negSucc n => 45 :: numL (n + 1)
mutual
def D.show : D → List Nat
  | .non => [78]
  | .bl true => [84]
  | .bl false => [70]
  | .int i => numI i
  | .str z => 34 :: (encL (tl z) ++ [34])
  | .tup xs => 40 :: (joinL [32] (D.shows xs) ++ [41])
def D.shows : List D → List (List Nat)
  | [] => []
  | d :: r => d.show :: D.shows r
end
mutual
def D.deep : D → Nat
  | .tup xs => D.deeps xs + 1
  | _ => 0
def D.deeps : List D → Nat
  | [] => 0
  | d :: r => max d.deep (D.deeps r)
end
mutual
/-- the integers in it are not too long -/
def D.Fit : D → Prop
  | .int i => i.natAbs < 10 ^ 200
  | .tup xs => D.Fits xs
  | _ => True
def D.Fits : List D → Prop
  | [] => True
  | d :: r => d.Fit ∧ D.Fits r
end
theorem shows_map : ∀ xs : List D, D.shows xs = xs.map D.show
  | [] => rfl
  | d :: r => by rw [D.shows, shows_map r]; rfl
theorem fits_mem : ∀ {xs : List D}, D.Fits xs → ∀ d ∈ xs, d.Fit
  | [], _, _, h => by cases h
  | a :: r, h, d, hd => by
    rw [D.Fits] at h
    rcases List.mem_cons.mp hd with rfl | q
    · exact h.1
    · exact fits_mem h.2 d q
theorem fits_of : ∀ {xs : List D}, (∀ d ∈ xs, d.Fit) → D.Fits xs
  | [], _ => by rw [D.Fits]; trivial
  | a :: r, h => by rw [D.Fits]; exact ⟨h a List.mem_cons_self, fits_of fun d q => h d (List.mem_cons_of_mem _ q)⟩
theorem deeps_mem : ∀ {xs : List D}, ∀ d ∈ xs, d.deep ≤ D.deeps xs
  | [], _, h => by cases h
  | a :: r, d, hd => by
    rw [D.deeps]
    rcases List.mem_cons.mp hd with rfl | q
    · omega
    · have := deeps_mem d q; omega
theorem deeps_le {n : Nat} : ∀ {xs : List D}, (∀ d ∈ xs, d.deep ≤ n) → D.deeps xs ≤ n
  | [], _ => by rw [D.deeps]; omega
  | a :: r, h => by
    rw [D.deeps]
    have h1 := h a List.mem_cons_self
    have h2 := deeps_le (xs := r) fun d q => h d (List.mem_cons_of_mem _ q)
    omega

/-! ### reading -/
abbrev PR := Except Nat (D × Nat)
def textAt : List Nat → Nat → List Nat → Except Nat (List Nat × Nat)
  | [], p, _ => .error p
  | c :: r, p, acc =>
    if c = 34 then .ok (acc, p + 1)
    else if c = 92 then
      match r with
      | [] => .error (p + 1)
      | e :: r' => if e = 34 ∨ e = 92 then textAt r' (p + 2) (acc ++ [e]) else if e = 110 then textAt r' (p + 2) (acc ++ [10]) else .error (p + 1)
    else if c = 10 then .error p
    else textAt r (p + 1) (acc ++ [c])
def dig (c : Nat) : Bool := decide (48 ≤ c ∧ c ≤ 57)
def intAt (L : List Nat) (p : Nat) : PR :=
  let b := if L[p]? = some 45 then p + 1 else p
  match (L.drop b).takeWhile dig with
  | [] => .error b
  | c :: r =>
    if c = 48 then (if b > p then .error b else if r = [] then .ok (.int 0, b + 1) else .error (b + 1))
    else if r.length ≥ 2000 then .error (b + 2000)
    else .ok (.int (if b > p then - (NumText.digitsVal (c :: r) : Int) else (NumText.digitsVal (c :: r) : Int)), b + (r.length + 1))
def members (L : List Nat) (f : Nat → PR) : Nat → Nat → List D → PR
  | 0, p, _ => .error p
  | n + 1, p, acc =>
    match f p with
    | .error q => .error q
    | .ok (d, q) =>
      match L[q]? with
      | some c => if c = 41 then .ok (.tup (acc ++ [d]), q + 1) else if c = 32 then members L f n (q + 1) (acc ++ [d]) else .error q
      | none => .error q
def strOf (l : List Nat) : Str := ⟨l.toArray⟩
def valueAt (L : List Nat) : Nat → Nat → PR
  | l, p =>
    match L[p]? with
    | none => .error p
    | some c =>
      if c = 78 then .ok (.non, p + 1)
      else if c = 84 then .ok (.bl true, p + 1)
      else if c = 70 then .ok (.bl false, p + 1)
      else if c = 34 then
        match textAt (L.drop (p + 1)) (p + 1) [] with
        | .error q => .error q
        | .ok (s, q) => .ok (.str (strOf s), q)
      else if c = 40 then
        match l with
        | 0 => .error p
        | l' + 1 => if L[p + 1]? = some 41 then .ok (.tup [], p + 2) else members L (valueAt L l') (L.length + 1) (p + 1) []
      else intAt L p
def readL (L : List Nat) : Except Nat D :=
  match valueAt L 40 0 with
  | .error q => .error q
  | .ok (d, q) => if q < L.length then .error q else .ok d

/-! ### what is shown is read back -/
theorem drop_cons {L r : List Nat} {p c : Nat} (h : L.drop p = c :: r) : L[p]? = some c ∧ L.drop (p + 1) = r ∧ p < L.length := by
  have hp : p < L.length := by
    have := congrArg List.length h
    rw [List.length_drop, List.length_cons] at this
    omega
  have e := List.drop_eq_getElem_cons hp
  rw [h] at e
  injection e with e1 e2
  exact ⟨by rw [List.getElem?_eq_getElem hp, e1], e2.symm, hp⟩
theorem drop_app {L a b : List Nat} {p : Nat} (h : L.drop p = a ++ b) : L.drop (p + a.length) = b := by
  rw [← List.drop_drop, h, List.drop_left]
theorem textAt_enc : ∀ (s post : List Nat) (p : Nat) (acc : List Nat), textAt (encL s ++ 34 :: post) p acc = .ok (acc ++ s, p + (encL s).length + 1)
  | [], post, p, acc => by
    show textAt (34 :: post) p acc = _
    unfold textAt
    simp [encL]
  | c :: s, post, p, acc => by
    have e : encL (c :: s) = enc1 c ++ encL s := by simp [encL]
    have ih := fun q ac => textAt_enc s post q ac
    rw [e]
    unfold enc1
    by_cases h1 : c = 92
    · subst h1
      simp [textAt, ih]
      omega
    · by_cases h2 : c = 34
      · subst h2
        simp [textAt, ih]
        omega
      · by_cases h3 : c = 10
        · subst h3
          simp [textAt, ih]
          omega
        · rw [if_neg h1, if_neg h2, if_neg h3]
          show textAt (c :: (encL s ++ 34 :: post)) p acc = _
          unfold textAt
          rw [if_neg h2, if_neg h1, if_neg h3, ih, List.append_assoc]
          simp
          omega
theorem dig_iff (c : Nat) : dig c = true ↔ 48 ≤ c ∧ c ≤ 57 := by simp [dig]
def Stop (post : List Nat) : Prop := ∀ c r, post = c :: r → dig c = false
theorem takeWhile_stop {ds post : List Nat} (hd : ∀ c ∈ ds, dig c = true) (hs : Stop post) : (ds ++ post).takeWhile dig = ds := by
  induction ds with
  | nil =>
    cases post with
    | nil => rfl
    | cons c r => rw [List.nil_append, List.takeWhile_cons, hs c r rfl]; rfl
  | cons a ds ih =>
    rw [List.cons_append, List.takeWhile_cons, hd a List.mem_cons_self, if_pos rfl, ih fun c q => hd c (List.mem_cons_of_mem _ q)]
theorem allDig (n : Nat) : ∀ c ∈ numL n, dig c = true := fun c hc => by
  have h := numL_digits n c hc
  rw [dig_iff]
  exact ⟨h.1, h.2⟩
theorem numL_head : ∀ (n : Nat), 0 < n → ∃ c r, numL n = c :: r ∧ c ≠ 48 := by
  intro n
  induction n using Nat.strongRecOn with
  | _ n ih =>
    intro h0
    by_cases h : n < 10
    · exact ⟨48 + n, [], by rw [numL_lt h], by omega⟩
    · rw [numL_step (by omega)]
      obtain ⟨c, r, e, hc⟩ := ih (n / 10) (by omega) (by omega)
      exact ⟨c, r ++ [48 + n % 10], by rw [e]; rfl, hc⟩
theorem numL_zero : numL 0 = [48] := numL_lt (by omega)
theorem numL_short {n : Nat} (h : n < 10 ^ 200) : (numL n).length ≤ 200 := numL_len (by omega) h
theorem intAt_num {L post : List Nat} {p : Nat} {i : Int} (h : L.drop p = numI i ++ post) (hs : Stop post) (hf : i.natAbs < 10 ^ 200) : intAt L p = .ok (.int i, p + (numI i).length) := by
  cases i with
  | ofNat n =>
    have hn : n < 10 ^ 200 := by simpa using hf
    change L.drop p = numL n ++ post at h
    have hne := numL_ne n
    cases e : numL n with
    | nil => exact absurd e hne
    | cons c r =>
      rw [e] at h
      have hc : dig c = true := allDig n c (by rw [e]; exact List.mem_cons_self)
      have hc' := (dig_iff c).mp hc
      have q := (drop_cons (r := r ++ post) h).1
      have hb : (if L[p]? = some 45 then p + 1 else p) = p := by rw [q, if_neg]; intro z; injection z with z; omega
      have ht : (L.drop p).takeWhile dig = c :: r := by
        rw [h]
        exact takeWhile_stop (ds := c :: r) (fun x hx => allDig n x (by rw [e]; exact hx)) hs
      have hv := numL_val n
      rw [e] at hv
      have hlen := numL_short hn
      rw [e, List.length_cons] at hlen
      unfold intAt
      simp only [hb, ht]
      rw [show (numI (Int.ofNat n)).length = r.length + 1 by show (numL n).length = _; rw [e, List.length_cons]]
      by_cases h0 : n = 0
      · subst h0
        rw [numL_zero] at e
        injection e with e1 e2
        subst e1 e2
        simp
      · obtain ⟨c', r', e', hc0⟩ := numL_head n (by omega)
        rw [e] at e'
        injection e' with e1 e2
        subst e1 e2
        rw [if_neg hc0, if_neg (by omega), if_neg (by omega), hv]
        rfl
  | negSucc n =>
    have hn : n + 1 < 10 ^ 200 := by simpa using hf
    change L.drop p = 45 :: numL (n + 1) ++ post at h
    obtain ⟨q1, q2, _⟩ := drop_cons (c := 45) (r := numL (n + 1) ++ post) h
    obtain ⟨c, r, e, hc0⟩ := numL_head (n + 1) (by omega)
    have hv := numL_val (n + 1)
    have hlen := numL_short hn
    rw [e] at hv hlen
    rw [List.length_cons] at hlen
    have ht : (L.drop (p + 1)).takeWhile dig = c :: r := by
      rw [q2, e]
      exact takeWhile_stop (ds := c :: r) (fun x hx => allDig (n + 1) x (by rw [e]; exact hx)) hs
    unfold intAt
    simp only [q1, if_true, ht]
    rw [if_neg hc0, if_neg (by omega), if_pos (by omega), hv, show (numI (Int.negSucc n)).length = r.length + 2 by show (45 :: numL (n + 1)).length = _; rw [List.length_cons, e, List.length_cons]]
    rw [show p + 1 + (r.length + 1) = p + (r.length + 2) by omega]
    rfl
theorem num_first : ∀ i : Int, ∃ c r, numI i = c :: r ∧ (dig c = true ∨ c = 45)
  | .ofNat n => by
    cases e : numL n with
    | nil => exact absurd e (numL_ne n)
    | cons c r => exact ⟨c, r, e, .inl (allDig n c (by rw [e]; exact List.mem_cons_self))⟩
  | .negSucc n => ⟨45, _, rfl, .inr rfl⟩
theorem stop_cons {c : Nat} {r : List Nat} (h : dig c = false) : Stop (c :: r) := fun c' r' e => by
  injection e with e1 _
  rw [← e1]; exact h
/-- the members, by the reader of one -/
theorem members_show {L : List Nat} {f : Nat → PR} : ∀ (ds : List D) (d : D) (n p : Nat) (acc : List D) (post : List Nat), ds.length < n →
    (∀ x ∈ d :: ds, ∀ p post, L.drop p = x.show ++ post → Stop post → f p = .ok (x, p + x.show.length)) → L.drop p = joinL [32] (D.shows (d :: ds)) ++ 41 :: post →
    members L f n p acc = .ok (.tup (acc ++ d :: ds), p + (joinL [32] (D.shows (d :: ds))).length + 1)
  | [], d, n + 1, p, acc, post, hn, hf, h => by
    have h : L.drop p = d.show ++ 41 :: post := h
    have e := hf d List.mem_cons_self p _ h (stop_cons (by decide))
    have q := (drop_cons (drop_app h)).1
    unfold members
    simp only [e, q]
    rfl
  | d2 :: ds, d, n + 1, p, acc, post, hn, hf, h => by
    have h : L.drop p = (d.show ++ 32 :: joinL [32] (D.shows (d2 :: ds))) ++ 41 :: post := h
    rw [List.append_assoc] at h
    have e := hf d List.mem_cons_self p _ h (stop_cons (by decide))
    obtain ⟨q, q2, _⟩ := drop_cons (drop_app h)
    have ih := members_show ds d2 n (p + d.show.length + 1) (acc ++ [d]) post (by rw [List.length_cons] at hn; omega) (fun x hx => hf x (List.mem_cons_of_mem _ hx)) q2
    unfold members
    simp only [e, q]
    rw [if_neg (by decide), if_pos True.intro, ih, List.append_assoc]
    show Except.ok (D.tup (acc ++ ([d] ++ d2 :: ds)), _) = Except.ok (D.tup (acc ++ d :: d2 :: ds), p + (d.show ++ 32 :: joinL [32] (D.shows (d2 :: ds))).length + 1)
    rw [List.length_append, List.length_cons]
    simp only [List.singleton_append]
    congr 2
    omega
theorem join_first : ∀ (ds : List D) (d : D) (x : Nat) (r : List Nat), d.show = x :: r → ∃ r', joinL [32] (D.shows (d :: ds)) = x :: r'
  | [], d, x, r, e => ⟨r, e⟩
  | d2 :: ds, d, x, r, e => by
    have z : joinL [32] (D.shows (d :: d2 :: ds)) = d.show ++ 32 :: joinL [32] (D.shows (d2 :: ds)) := rfl
    rw [z, e]
    exact ⟨_, rfl⟩
theorem show_first : ∀ d : D, ∃ c r, d.show = c :: r ∧ c ≠ 41
  | .non => ⟨78, [], rfl, by decide⟩
  | .bl true => ⟨84, [], rfl, by decide⟩
  | .bl false => ⟨70, [], rfl, by decide⟩
  | .int i => by
    obtain ⟨c, r, e, h⟩ := num_first i
    refine ⟨c, r, e, ?_⟩
    rcases h with h | h
    · rw [dig_iff] at h; omega
    · omega
  | .str z => ⟨34, _, rfl, by decide⟩
  | .tup xs => ⟨40, _, rfl, by decide⟩
theorem len_join : ∀ (ds : List D), ds.length ≤ (joinL [32] (D.shows ds)).length + 1
  | [] => by simp
  | [d] => by simp
  | d :: d2 :: ds => by
    have z : joinL [32] (D.shows (d :: d2 :: ds)) = d.show ++ 32 :: joinL [32] (D.shows (d2 :: ds)) := rfl
    have ih := len_join (d2 :: ds)
    rw [z, List.length_append, List.length_cons]
    rw [List.length_cons] at ih ⊢
    rw [List.length_cons]
    omega
theorem value_show {L : List Nat} : ∀ (l : Nat) (d : D) (p : Nat) (post : List Nat), d.deep ≤ l → d.Fit → L.drop p = d.show ++ post → Stop post → valueAt L l p = .ok (d, p + d.show.length) := by
  intro l
  induction l with
  | zero =>
    intro d p post hd hf h hs
    cases d with
    | non => obtain ⟨q, _⟩ := drop_cons (c := 78) (r := post) h; unfold valueAt; simp only [q]; rfl
    | bl b =>
      cases b with
      | true => obtain ⟨q, _⟩ := drop_cons (c := 84) (r := post) h; unfold valueAt; simp only [q]; rfl
      | false => obtain ⟨q, _⟩ := drop_cons (c := 70) (r := post) h; unfold valueAt; simp only [q]; rfl
    | int i =>
      obtain ⟨c, r, e, hc⟩ := num_first i
      have q : L[p]? = some c := by
        have h' : L.drop p = numI i ++ post := h
        rw [e] at h'
        exact (drop_cons (r := r ++ post) h').1
      have hi := intAt_num (L := L) (p := p) (i := i) h hs hf
      have hc' : (48 ≤ c ∧ c ≤ 57) ∨ c = 45 := hc.imp (dig_iff c).mp id
      unfold valueAt
      simp only [q]
      rw [if_neg (by omega), if_neg (by omega), if_neg (by omega), if_neg (by omega), if_neg (by omega)]
      exact hi
    | str z =>
      have h' : L.drop p = 34 :: (encL (tl z) ++ 34 :: post) := by
        rw [h]; show 34 :: (encL (tl z) ++ [34]) ++ post = _; simp
      obtain ⟨q, q2, _⟩ := drop_cons h'
      unfold valueAt
      simp only [q, q2, textAt_enc]
      show Except.ok (D.str (strOf ([] ++ tl z)), _) = Except.ok (D.str z, p + (34 :: (encL (tl z) ++ [34])).length)
      rw [List.nil_append, show strOf (tl z) = z from mk_tl z, List.length_cons, List.length_append]
      congr 2
      show _ = p + ((encL (tl z)).length + 1 + 1)
      omega
    | tup xs => rw [D.deep] at hd; omega
  | succ l ih =>
    intro d p post hd hf h hs
    cases d with
    | non => obtain ⟨q, _⟩ := drop_cons (c := 78) (r := post) h; unfold valueAt; simp only [q]; rfl
    | bl b =>
      cases b with
      | true => obtain ⟨q, _⟩ := drop_cons (c := 84) (r := post) h; unfold valueAt; simp only [q]; rfl
      | false => obtain ⟨q, _⟩ := drop_cons (c := 70) (r := post) h; unfold valueAt; simp only [q]; rfl
    | int i =>
      obtain ⟨c, r, e, hc⟩ := num_first i
      have q : L[p]? = some c := by
        have h' : L.drop p = numI i ++ post := h
        rw [e] at h'
        exact (drop_cons (r := r ++ post) h').1
      have hi := intAt_num (L := L) (p := p) (i := i) h hs hf
      have hc' : (48 ≤ c ∧ c ≤ 57) ∨ c = 45 := hc.imp (dig_iff c).mp id
      unfold valueAt
      simp only [q]
      rw [if_neg (by omega), if_neg (by omega), if_neg (by omega), if_neg (by omega), if_neg (by omega)]
      exact hi
    | str z =>
      have h' : L.drop p = 34 :: (encL (tl z) ++ 34 :: post) := by
        rw [h]; show 34 :: (encL (tl z) ++ [34]) ++ post = _; simp
      obtain ⟨q, q2, _⟩ := drop_cons h'
      unfold valueAt
      simp only [q, q2, textAt_enc]
      show Except.ok (D.str (strOf ([] ++ tl z)), _) = Except.ok (D.str z, p + (34 :: (encL (tl z) ++ [34])).length)
      rw [List.nil_append, show strOf (tl z) = z from mk_tl z, List.length_cons, List.length_append]
      congr 2
      show _ = p + ((encL (tl z)).length + 1 + 1)
      omega
    | tup xs =>
      rw [D.deep] at hd
      rw [D.Fit] at hf
      have h' : L.drop p = 40 :: (joinL [32] (D.shows xs) ++ 41 :: post) := by
        rw [h]; show 40 :: (joinL [32] (D.shows xs) ++ [41]) ++ post = _; simp
      obtain ⟨q, q2, hp⟩ := drop_cons h'
      unfold valueAt
      simp only [q]
      rw [if_neg (by decide), if_neg (by decide), if_neg (by decide), if_neg (by decide), if_pos True.intro]
      cases xs with
      | nil =>
        have q3 : L[p + 1]? = some 41 := (drop_cons (c := 41) (r := post) q2).1
        simp only [q3, if_true]
        rfl
      | cons d ds =>
        obtain ⟨c, r, e, hc⟩ := show_first d
        obtain ⟨r', e2⟩ := join_first ds d c r e
        have q3 : L[p + 1]? = some c := by
          rw [e2] at q2
          exact (drop_cons (r := r' ++ 41 :: post) q2).1
        rw [q3, if_neg (by intro z; injection z with z; exact hc z)]
        have lenL : (joinL [32] (D.shows (d :: ds))).length + 1 ≤ L.length := by
          have z := congrArg List.length q2
          rw [List.length_drop, List.length_append, List.length_cons] at z
          omega
        have lenD := len_join (d :: ds)
        rw [List.length_cons] at lenD
        rw [members_show ds d (L.length + 1) (p + 1) [] post (by omega) (fun x hx p' post' hh hs' => ih x p' post' (Nat.le_trans (deeps_mem x hx) (by omega)) (fits_mem hf x hx) hh hs') q2]
        show Except.ok (D.tup ([] ++ d :: ds), _) = Except.ok (D.tup (d :: ds), p + (40 :: (joinL [32] (D.shows (d :: ds)) ++ [41])).length)
        rw [List.nil_append, List.length_cons, List.length_append]
        congr 2
        show _ = p + ((joinL [32] (D.shows (d :: ds))).length + 1 + 1)
        omega
theorem read_show {d : D} (hd : d.deep ≤ 40) (hf : d.Fit) : readL d.show = .ok d := by
  unfold readL
  rw [value_show 40 d 0 [] hd hf (by simp) (fun c r e => by cases e)]
  simp
end Tst
/-! Texts: slices, places, what is put in the place of signs, whole numbers. -/
namespace Tst
open PySem L2 TL PySem.StrLaws PySem.Builtin PySem.Builtin.Str
def showS (d : D) : Str := strOf d.show
theorem tl_strOf (l : List Nat) : tl (strOf l) = l := rfl
theorem strOf_tl (z : Str) : strOf (tl z) = z := mk_tl z
theorem len_strOf (l : List Nat) : (strOf l).length = l.length := by rw [len_tl, tl_strOf]
/-! ### slices -/
theorem tl_cut {z : Str} {i j : Nat} (hi : i ≤ z.length) : tl (cutS z (some (i : Int)) (some (j : Int))) = ((tl z).drop i).take (j - i) := by
  show ((tl z).drop (HT.sIx z.length 0 (some (i : Int)))).take (HT.sIx z.length z.length (some (j : Int)) - HT.sIx z.length 0 (some (i : Int))) = _
  rw [HT.sIx_nat, HT.sIx_nat, Nat.min_eq_left hi]
  have hl := len_tl z
  by_cases h : j ≤ z.length
  · rw [Nat.min_eq_left h]
  · rw [Nat.min_eq_right (by omega), List.take_of_length_le (by rw [List.length_drop]; omega), List.take_of_length_le (by rw [List.length_drop]; omega)]
/-- the sign at a place, or none -/
def sg (z : Str) (p : Nat) : Str := strOf ((tl z)[p]?.toList)
theorem cut_sg {z : Str} {p : Nat} (hp : p ≤ z.length) : cutS z (some (p : Int)) (some ((p : Int) + 1)) = sg z p := by
  refine ext_tl ?_
  rw [show ((p : Int) + 1) = ((p + 1 : Nat) : Int) by omega, tl_cut hp, show p + 1 - p = 1 by omega]
  show _ = (tl z)[p]?.toList
  cases h : (tl z).drop p with
  | nil =>
    have : (tl z).length ≤ p := by
      have := congrArg List.length h
      rw [List.length_drop, List.length_nil] at this
      omega
    rw [List.getElem?_eq_none this]
    rfl
  | cons c r => rw [(drop_cons h).1]; rfl
theorem sg_some {z : Str} {p c : Nat} (h : (tl z)[p]? = some c) : sg z p = strOf [c] := by unfold sg; rw [h]; rfl
theorem sg_none {z : Str} {p : Nat} (h : (tl z)[p]? = none) : sg z p = strOf [] := by unfold sg; rw [h]; rfl
theorem dec_s (a b : Str) : decide (V.str a = V.str b) = decide (tl a = tl b) := by
  by_cases h : a = b
  · subst h; simp
  · have h2 : ¬ tl a = tl b := fun e => h (ext_tl e)
    simp [h, h2]
/-! ### the first place of a sign -/
theorem occ_more (s sub : Str) (hi : Nat) : ∀ (l : List Nat) (st : Array Nat × Nat), 1 ≤ st.fst.size → (forIn l st (occBody s sub hi 1)).run.fst = st.fst
  | [], _, _ => rfl
  | a :: l, st, h => by
    rw [List.forIn_cons]
    unfold occBody
    rw [if_neg (fun z => absurd z.1.1.1 (Nat.not_lt.mpr h))]
    exact occ_more s sub hi l _ h
theorem occ_first (s : Str) (c hi : Nat) : ∀ (n a k : Nat), (∀ i, a ≤ i → i < k → (tl s)[i]? ≠ some c) → a ≤ k → k < a + n → k < hi → hi ≤ s.length → (tl s)[k]? = some c →
    (forIn (List.range' a n) ((#[] : Array Nat), a) (occBody s ⟨#[c]⟩ hi 1)).run.fst = #[k] := by
  have one : (⟨#[c]⟩ : Str).length = 1 := rfl
  have sub : ∀ i, i + 1 ≤ s.length → (subAt s ⟨#[c]⟩ i = true ↔ (tl s)[i]? = some c) := fun i hi => by
    have h := subAt_one s c i
    rw [one] at h
    exact ⟨fun q => h.mp ⟨hi, q⟩, fun q => (h.mpr q).2⟩
  suffices H : ∀ (n a free k : Nat), free ≤ a → (∀ i, a ≤ i → i < k → (tl s)[i]? ≠ some c) → a ≤ k → k < a + n → k < hi → hi ≤ s.length → (tl s)[k]? = some c →
      (forIn (List.range' a n) ((#[] : Array Nat), free) (occBody s ⟨#[c]⟩ hi 1)).run.fst = #[k] from fun n a k h1 h2 h3 h4 h5 h6 => H n a a k (Nat.le_refl _) h1 h2 h3 h4 h5 h6
  intro n
  induction n with
  | zero => intro a free k _ _ h1 h2; omega
  | succ n ih =>
    intro a free k hf h0 h1 h2 h3 h4 h5
    rw [List.range'_succ, List.forIn_cons]
    unfold occBody
    rw [one]
    by_cases e : a = k
    · subst e
      rw [if_pos ⟨⟨⟨by show (0 : Nat) < 1; omega, hf⟩, by omega⟩, (sub a (by omega)).mpr h5⟩]
      exact occ_more s ⟨#[c]⟩ hi _ _ (by show (1 : Nat) ≤ 1; omega)
    · rw [if_neg (fun z => h0 a (Nat.le_refl _) (by omega) ((sub a (by have := z.1.2; omega)).mp z.2))]
      exact ih (a + 1) free k (by omega) (fun i hi hk => h0 i (by omega) hk) (by omega) (by omega) h3 h4 h5
theorem occ_never (s : Str) (c hi a n : Nat) (hs : hi ≤ s.length) (h : ∀ i, a ≤ i → i < hi → (tl s)[i]? ≠ some c) :
    (forIn (List.range' a n) ((#[] : Array Nat), a) (occBody s ⟨#[c]⟩ hi 1)).run.fst = #[] := by
  refine (occ_none s ⟨#[c]⟩ hi (List.range' a n) a (fun i hi => (List.mem_range'_1.mp hi).1)).mpr fun i hi' hc => ?_
  have h1 : i + 1 ≤ hi := hc.1
  have hsub := (subAt_one s c i).mp ⟨by show i + 1 ≤ s.length; omega, hc.2⟩
  exact h i (List.mem_range'_1.mp hi').1 (by omega) hsub
theorem findIn_first {s : Str} {c p e k : Nat} (hp : p ≤ k) (hk : k < e) (he : e ≤ s.length) (h0 : ∀ i, p ≤ i → i < k → (tl s)[i]? ≠ some c) (h1 : (tl s)[k]? = some c) :
    occurrences s ⟨#[c]⟩ p e 1 = [k] := by
  rw [occ_eq, occ_first s c e (e + 1 - p) p k h0 hp (by omega) hk he h1]
theorem findIn_never {s : Str} {c p e : Nat} (he : e ≤ s.length) (h : ∀ i, p ≤ i → i < e → (tl s)[i]? ≠ some c) :
    occurrences s ⟨#[c]⟩ p e 1 = [] := by
  rw [occ_eq, occ_never s c e p _ he h]
theorem from_nat {n p : Nat} : fromIndex n (p : Int) = p := by
  unfold fromIndex
  rw [if_neg (by omega)]
  omega
theorem toIx {n e : Nat} (h : e ≤ n) : toIndexW n (e : Int) = e := by
  unfold toIndexW
  rw [if_neg (by omega)]
  omega
theorem find4_first {s : Str} {c p e k : Nat} (hp : p ≤ k) (hk : k < e) (he : e ≤ s.length) (h0 : ∀ i, p ≤ i → i < k → (tl s)[i]? ≠ some c) (h1 : (tl s)[k]? = some c) :
    Txt.findIn s ⟨#[c]⟩ (p : Int) (e : Int) = (k : Int) := by
  unfold Txt.findIn
  rw [toIx he, show fromIndex s.length (p : Int) = p from from_nat, findIn_first hp hk he h0 h1]
theorem find4_never {s : Str} {c p e : Nat} (hp : p ≤ s.length) (he : e ≤ s.length) (h : ∀ i, p ≤ i → i < e → (tl s)[i]? ≠ some c) :
    Txt.findIn s ⟨#[c]⟩ (p : Int) (e : Int) = -1 := by
  unfold Txt.findIn
  rw [toIx he, show fromIndex s.length (p : Int) = p from from_nat, findIn_never he h]
theorem find3_first {s : Str} {c p k : Nat} (hp : p ≤ k) (hk : k < s.length) (h0 : ∀ i, p ≤ i → i < k → (tl s)[i]? ≠ some c) (h1 : (tl s)[k]? = some c) :
    Txt.find3 s ⟨#[c]⟩ (p : Int) = (k : Int) := by
  unfold Txt.find3
  rw [show fromIndex s.length (p : Int) = p from from_nat, findIn_first hp hk (Nat.le_refl _) h0 h1]
theorem find3_never {s : Str} {c p : Nat} (hp : p ≤ s.length) (h : ∀ i, p ≤ i → i < s.length → (tl s)[i]? ≠ some c) :
    Txt.find3 s ⟨#[c]⟩ (p : Int) = -1 := by
  unfold Txt.find3
  rw [show fromIndex s.length (p : Int) = p from from_nat, findIn_never (Nat.le_refl _) h]
/-! ### what is put in the place of signs -/
theorem replL_one (c : Nat) (z : List Nat) : ∀ l : List Nat, replL [c] z l = l.flatMap fun x => if x = c then z else [x]
  | [] => by rw [replL_nil]; rfl
  | x :: r => by
    by_cases h : x = c
    · subst h
      rw [replL_hit (by simp) (by simp)]
      rw [show ([x] : List Nat).length = 1 from rfl, List.drop_one, List.tail_cons, replL_one x z r, List.flatMap_cons, if_pos rfl]
    · rw [replL_miss (by simp; exact h), replL_one c z r, List.flatMap_cons, if_neg h]
      rfl
theorem flat_enc (s : List Nat) : (((s.flatMap fun x => if x = 92 then [92, 92] else [x]).flatMap fun x => if x = 34 then [92, 34] else [x]).flatMap fun x => if x = 10 then [92, 110] else [x]) = encL s := by
  rw [List.flatMap_assoc, List.flatMap_assoc]
  unfold encL
  congr 1
  funext x
  unfold enc1
  by_cases h1 : x = 92
  · subst h1; rfl
  · rw [if_neg h1, if_neg h1]
    by_cases h2 : x = 34
    · subst h2; rfl
    · rw [if_neg h2]
      by_cases h3 : x = 10
      · subst h3; rfl
      · rw [if_neg h3]
        simp [h1, h2, h3]
theorem repl_enc (z : Str) : Txt.replace (Txt.replace (Txt.replace z (Str.ofString "\\") (Str.ofString "\\\\")) (Str.ofString "\"") (Str.ofString "\\\"")) (Str.ofString "\n") (Str.ofString "\\n") = strOf (encL (tl z)) := by
  refine ext_tl ?_
  show (Txt.replace _ _ _).cps.toList = encL (tl z)
  rw [replace_list (by decide +kernel), replace_list (by decide +kernel), replace_list (by decide +kernel)]
  rw [show (Str.ofString "\\").cps.toList = [92] by decide +kernel, show (Str.ofString "\\\\").cps.toList = [92, 92] by decide +kernel, show (Str.ofString "\"").cps.toList = [34] by decide +kernel,
    show (Str.ofString "\\\"").cps.toList = [92, 34] by decide +kernel, show (Str.ofString "\n").cps.toList = [10] by decide +kernel, show (Str.ofString "\\n").cps.toList = [92, 110] by decide +kernel]
  rw [replL_one, replL_one, replL_one]
  exact flat_enc _
theorem len_enc : ∀ s : List Nat, (encL s).length ≤ 2 * s.length
  | [] => by simp [encL]
  | c :: s => by
    have ih := len_enc s
    have e : encL (c :: s) = enc1 c ++ encL s := by simp [encL]
    have h : (enc1 c).length ≤ 2 := by unfold enc1; repeat (first | (split) | simp)
    rw [e, List.length_append, List.length_cons]
    omega
theorem enc_len : ∀ s : List Nat, s.length ≤ (encL s).length
  | [] => by simp [encL]
  | c :: s => by
    have ih := enc_len s
    have e : encL (c :: s) = enc1 c ++ encL s := by simp [encL]
    have h : 1 ≤ (enc1 c).length := by unfold enc1; repeat (first | (split) | simp)
    rw [e, List.length_append, List.length_cons]
    omega
/-! ### whole numbers -/
theorem int_show (i : Int) : Str.ofString (toString i) = strOf (numI i) := by
  refine ext_tl ?_
  cases i with
  | ofNat n => exact tl_num n
  | negSucc n =>
    have e : (toString (Int.negSucc n) : String) = "-" ++ toString (((n + 1 : Nat)) : Int) := rfl
    rw [e, tl_ofString, String.toList_append, List.map_append, ← tl_ofString, ← tl_ofString, tl_num]
    rfl
theorem log_small {i : Int} (h : i.natAbs < 10 ^ 200) : i.natAbs.log2 < 1920 := by
  by_cases h0 : i.natAbs = 0
  · rw [h0]; decide
  · rw [Nat.log2_lt h0]
    exact Nat.lt_trans h (by decide +kernel)
end Tst
/-! Rules of our own over the hand layer: a call by a def's fact, is True, is False, isinstance of plain things, + of a replaced text; plain values on the heap. -/
namespace Tst
open PySem PySem.Spec PyProof.Rows L2
/-- a def that stands in the text, its promise kept -/
structure Cal (P : Program) (w : World) (K : PySem.W.Frag) (mg : Str → Option Value) (base : Heap) (CX : CXT) (k : Nat) (x : Str) (ps : List Str) (sp : Sp) : Prop where
  ex : ∃ f fd, FnOk P w K mg base CX k f fd ps sp ∧ Binds K fd ps [] ∧ PySem.W.keepIn K (.ref f) = true ∧ mg x = some (.ref f)
theorem Cal.mono {P : Program} {w : World} {K : PySem.W.Frag} {mg : Str → Option Value} {base : Heap} {CX : CXT} {j k : Nat} {x : Str} {ps : List Str} {sp : Sp} (C : Cal P w K mg base CX j x ps sp) (h : j ≤ k) : Cal P w K mg base CX k x ps sp := by
  obtain ⟨f, fd, F, b, kp, m⟩ := C.ex
  exact ⟨f, fd, F.mono h, b, kp, m⟩
/-- a promise that is never asked -/
def spNo : Sp := fun _ _ _ _ => False
theorem Cal.no {P : Program} {w : World} {K : PySem.W.Frag} {mg : Str → Option Value} {base : Heap} {CX : CXT} {k : Nat} {x : Str} {ps : List Str} {sp : Sp} {f : Addr} {fd : FuncData} (b : Binds K fd ps []) (kp : PySem.W.keepIn K (.ref f) = true) (m : mg x = some (.ref f))
    (no : ∀ vs H Q E, ¬ sp vs H Q E) : Cal P w K mg base CX k x ps sp :=
  ⟨f, fd, ⟨fun vs H Q E h => absurd h (no vs H Q E), fun A outer s H args us vs Q E _ _ _ _ h => absurd h (no vs H Q E)⟩, b, kp, m⟩
section
variable {X : Cx} {CX : CXT} {k : Nat} {x : Str} {ps : List Str} {sp : Sp} {E : XK} {e : Expr} {es : List Expr} {t : TA} {p pos : Pos}
theorem pe_cal (C : Cal X.prog X.w X.K X.mg X.base CX k x ps sp) (hr : Room k X.A) (hg : Gl X x) (hx : Passes CX X E)
    (ha : PA X (e :: es) t) (hdb : (x == ("__debug__" : Str)) = false := by decide) (he : starEach (e :: es) X.env = (false, eval e X.env) :: starEach es X.env := by rfl) (hpl : (backTo pos (starEach es X.env)).any (·.1) = false := by rfl) :
    PE X (.Call (.Name x p) (e :: es) [] pos) (tCall sp [] E t) := by
  obtain ⟨f, fd, F, b, kp, m⟩ := C.ex
  exact pe_call F hr hg m kp b .nil hx ha hdb he hpl
theorem pe_cal0 (C : Cal X.prog X.w X.K X.mg X.base CX k x ps sp) (hr : Room k X.A) (hg : Gl X x) (hx : Passes CX X E) (hdb : (x == ("__debug__" : Str)) = false := by decide) :
    PE X (.Call (.Name x p) [] [] pos) (tCall sp [] E tNil) := by
  obtain ⟨f, fd, F, b, kp, m⟩ := C.ex
  exact pe_call0 F hr hg m kp b .nil hx hdb
end
/-! ### is True, is False, of anything plain -/
def rIsBl (neg : Bool) : R2 := fun x y H Q => ∃ b, y = .bl b ∧ (∀ n, x ≠ .ty n) ∧ (∀ n, x ≠ .flt n) ∧ Q (.bl (xor neg (decide (x = .bl b)))) H
section
variable {X : Cx}
theorem op_isB : OpR X (compareOp .Is) (rIsBl false) := by
  intro pins s σ H x y v u Q I rx ry h
  obtain ⟨b, rfl, _, _, q⟩ := h
  cases (show u = Value.bool b from ry)
  cases x with
  | non => cases (show v = Value.none from rx); exact wpAny_is_other rfl (fun z => nomatch z) ⟨.bl false, H, I, rfl, by simpa using q⟩
  | bl a =>
    cases (show v = Value.bool a from rx)
    by_cases e : a = b
    · subst e; exact wpAny_is_self rfl ⟨.bl true, H, I, rfl, by simpa using q⟩
    · exact wpAny_is_other rfl (fun z => e (Value.bool.inj z)) ⟨.bl false, H, I, rfl, by simpa [e] using q⟩
  | int i => obtain ⟨t, rfl⟩ := (show ∃ t, v = Value.int i t from rx); exact wpAny_is_other rfl (fun z => nomatch z) ⟨.bl false, H, I, rfl, by simpa using q⟩
  | str i => obtain ⟨t, rfl⟩ := (show ∃ t, v = Value.str i t from rx); exact wpAny_is_other rfl (fun z => nomatch z) ⟨.bl false, H, I, rfl, by simpa using q⟩
  | byt i => obtain ⟨t, rfl⟩ := (show ∃ t, v = Value.bytes i t from rx); exact wpAny_is_other rfl (fun z => nomatch z) ⟨.bl false, H, I, rfl, by simpa using q⟩
  | flt i => obtain ⟨t, rfl⟩ := (show ∃ t, v = Value.float i t from rx); exact wpAny_is_other rfl (fun z => nomatch z) ⟨.bl false, H, I, rfl, by simpa using q⟩
  | ref a => cases (show v = Value.ref a from rx); exact wpAny_is_other rfl (fun z => nomatch z) ⟨.bl false, H, I, rfl, by simpa using q⟩
  | ty n => cases (show v = Value.type n from rx); exact wpAny_is_other rfl (fun z => nomatch z) ⟨.bl false, H, I, rfl, by simpa using q⟩
theorem op_notB : OpR X (compareOp .IsNot) (rIsBl true) := by
  intro pins s σ H x y v u Q I rx ry h
  obtain ⟨b, rfl, _, _, q⟩ := h
  cases (show u = Value.bool b from ry)
  cases x with
  | non => cases (show v = Value.none from rx); exact wpAny_isNot_other rfl (fun z => nomatch z) ⟨.bl true, H, I, rfl, by simpa using q⟩
  | bl a =>
    cases (show v = Value.bool a from rx)
    by_cases e : a = b
    · subst e; exact wpAny_isNot_self rfl ⟨.bl false, H, I, rfl, by simpa using q⟩
    · exact wpAny_isNot_other rfl (fun z => e (Value.bool.inj z)) ⟨.bl true, H, I, rfl, by simpa [e] using q⟩
  | int i => obtain ⟨t, rfl⟩ := (show ∃ t, v = Value.int i t from rx); exact wpAny_isNot_other rfl (fun z => nomatch z) ⟨.bl true, H, I, rfl, by simpa using q⟩
  | str i => obtain ⟨t, rfl⟩ := (show ∃ t, v = Value.str i t from rx); exact wpAny_isNot_other rfl (fun z => nomatch z) ⟨.bl true, H, I, rfl, by simpa using q⟩
  | byt i => obtain ⟨t, rfl⟩ := (show ∃ t, v = Value.bytes i t from rx); exact wpAny_isNot_other rfl (fun z => nomatch z) ⟨.bl true, H, I, rfl, by simpa using q⟩
  | flt i => obtain ⟨t, rfl⟩ := (show ∃ t, v = Value.float i t from rx); exact wpAny_isNot_other rfl (fun z => nomatch z) ⟨.bl true, H, I, rfl, by simpa using q⟩
  | ref a => cases (show v = Value.ref a from rx); exact wpAny_isNot_other rfl (fun z => nomatch z) ⟨.bl true, H, I, rfl, by simpa using q⟩
  | ty n => cases (show v = Value.type n from rx); exact wpAny_isNot_other rfl (fun z => nomatch z) ⟨.bl true, H, I, rfl, by simpa using q⟩
/-! ### written text + a text that wants a token -/
theorem pe_opT {op : Operator} {r : R2} {c : Str} {f : Expr} {tf : TE} {j : Nat} {p pos : Pos} (ho : OpR X (binaryOp op) r) (hb : PET X f tf) : PE X (.BinOp (.Constant (.str c) j p) op f pos) (tOp r (tC (.str c)) tf) := by
  refine ⟨fun pins s σ H Q I h => ?_⟩
  refine wpAny_BinOp (Calls.Constant_str ?_)
  exact thn (hb pins { s with toks := s.toks + 1 } σ H _ (by show 1 ≤ s.toks + 1; omega) (I.tok _) h) fun u s2 ⟨y, H2, I2, r2, q2⟩ => ho pins s2 σ H2 (.str c) y _ u Q I2 ⟨_, rfl⟩ r2 q2
/-! ### isinstance(x, T), T a built-in class -/
def kindO : Option HO → Option String
  | some (.tup _) => some "tuple"
  | some (.lst _) => some "list"
  | some (.dK _) => some "dict"
  | some (.dT _) => some "dict"
  | _ => none
def kindV (H : Hp) : V → Option String
  | .non => some "NoneType"
  | .bl _ => some "bool"
  | .int _ => some "int"
  | .str _ => some "str"
  | .ref a => kindO (H a)
  | _ => none
theorem kindV_ty {K : PySem.W.Frag} {H : Hp} {x : V} {t : String} (h : kindV H x = some t) : TyX K H x (.type t) := by
  cases x with
  | non => cases h; exact .base .non
  | bl b => cases h; exact .base (.bl b)
  | int i => cases h; exact .base (.int i)
  | str z => cases h; exact .base (.str z)
  | ref a =>
    have h : kindO (H a) = some t := h
    cases e : H a with
    | none => rw [e] at h; cases h
    | some o =>
      rw [e] at h
      cases o <;> first
        | (cases h; exact .base (.tup e))
        | (cases h; exact .base (.lst e))
        | (cases h; exact .base (.dK e))
        | (cases h; exact .base (.dT e))
        | cases h
  | byt b => cases h
  | flt b => cases h
  | ty n => cases h
/-- what isinstance tells of the kinds -/
def isK (t T : String) : Option Bool := kitB t T
def rIsK : List V → Hp → VK → Prop := fun xs H Q => ∃ x T t b, xs = [x, .ty T] ∧ kindV H x = some t ∧ kitB t T = some b ∧ Q (.bl b) H
theorem call_isK : CallR X (.builtin "isinstance") rIsK := by
  intro pins s σ H xs us Q I r h
  obtain ⟨x, T, t, b, rfl, hk, hb, q⟩ := h
  exact call_isi pins s σ H _ us Q I r ⟨x, .ty T, .type t, .type T, b, rfl, .ty T, kindV_ty hk, kit_ty hb, q⟩
end
theorem kb_it : kitB "int" "tuple" = some false := by decide +kernel
theorem kb_ii : kitB "int" "int" = some true := by decide +kernel
theorem kb_ib : kitB "int" "bool" = some false := by decide +kernel
theorem kb_is : kitB "int" "str" = some false := by decide +kernel
theorem kb_tt : kitB "tuple" "tuple" = some true := by decide +kernel
theorem kb_ti : kitB "tuple" "int" = some false := by decide +kernel
theorem kb_ts : kitB "tuple" "str" = some false := by decide +kernel
theorem kb_ss : kitB "str" "str" = some true := by decide +kernel
theorem kb_si : kitB "str" "int" = some false := by decide +kernel
theorem kb_st : kitB "str" "tuple" = some false := by decide +kernel
theorem kb_nt : kitB "NoneType" "tuple" = some false := by decide +kernel
theorem kb_bt : kitB "bool" "tuple" = some false := by decide +kernel
theorem kb_bb : kitB "bool" "bool" = some true := by decide +kernel
/-! ### plain values on the heap -/
mutual
def Rp (H : Hp) : D → V → Prop
  | .non, v => v = .non
  | .bl b, v => v = .bl b
  | .int i, v => v = .int i
  | .str z, v => v = .str z
  | .tup xs, v => ∃ a vs, v = .ref a ∧ H a = some (.tup vs) ∧ Rps H xs vs
def Rps (H : Hp) : List D → List V → Prop
  | [], vs => vs = []
  | d :: ds, vs => ∃ v r, vs = v :: r ∧ Rp H d v ∧ Rps H ds r
end
/-- the tuples stand as they stood -/
def Tup (H H' : Hp) : Prop := ∀ a xs, H a = some (.tup xs) → H' a = some (.tup xs)
theorem Same.tup {H H' : Hp} (h : Same H H') : Tup H H' := fun a xs e => h a _ e
theorem Tup.trans {H H1 H2 : Hp} (a : Tup H H1) (b : Tup H1 H2) : Tup H H2 := fun c xs e => b c xs (a c xs e)
theorem Tup.refl (H : Hp) : Tup H H := fun _ _ e => e
mutual
theorem Rp.mono {H H' : Hp} (h : Tup H H') : ∀ {d : D} {v : V}, Rp H d v → Rp H' d v
  | .non, _, r => by rw [Rp] at *; exact r
  | .bl b, _, r => by rw [Rp] at *; exact r
  | .int i, _, r => by rw [Rp] at *; exact r
  | .str z, _, r => by rw [Rp] at *; exact r
  | .tup xs, v, r => by
    rw [Rp] at *
    obtain ⟨a, vs, e, ha, rs⟩ := r
    exact ⟨a, vs, e, h a vs ha, Rps.mono h rs⟩
theorem Rps.mono {H H' : Hp} (h : Tup H H') : ∀ {ds : List D} {vs : List V}, Rps H ds vs → Rps H' ds vs
  | [], _, r => by rw [Rps] at *; exact r
  | d :: ds, vs, r => by
    rw [Rps] at *
    obtain ⟨v, t, e, r1, r2⟩ := r
    exact ⟨v, t, e, Rp.mono h r1, Rps.mono h r2⟩
end
theorem Rps.length {H : Hp} : ∀ {ds : List D} {vs : List V}, Rps H ds vs → vs.length = ds.length
  | [], _, r => by rw [Rps] at r; subst r; rfl
  | d :: ds, vs, r => by
    rw [Rps] at r
    obtain ⟨v, t, rfl, r1, r2⟩ := r
    rw [List.length_cons, List.length_cons, Rps.length r2]
theorem Rps.get {H : Hp} : ∀ {ds : List D} {vs : List V} {i : Nat} {v : V}, Rps H ds vs → vs[i]? = some v → ∃ d, ds[i]? = some d ∧ Rp H d v
  | [], _, i, v, r, e => by rw [Rps] at r; subst r; simp at e
  | d :: ds, vs, 0, v, r, e => by
    rw [Rps] at r
    obtain ⟨w, t, rfl, r1, r2⟩ := r
    simp at e; subst e
    exact ⟨d, rfl, r1⟩
  | d :: ds, vs, i + 1, v, r, e => by
    rw [Rps] at r
    obtain ⟨w, t, rfl, r1, r2⟩ := r
    simp at e
    obtain ⟨d', h1, h2⟩ := Rps.get (i := i) r2 e
    exact ⟨d', by simpa using h1, h2⟩
theorem Rps.append {H : Hp} {d : D} {v : V} (r1 : Rp H d v) : ∀ {ds : List D} {vs : List V}, Rps H ds vs → Rps H (ds ++ [d]) (vs ++ [v])
  | [], _, r => by rw [Rps] at r; subst r; rw [List.nil_append, Rps]; exact ⟨v, [], rfl, r1, by rw [Rps]⟩
  | e :: ds, vs, r => by
    rw [Rps] at r
    obtain ⟨w, t, rfl, q1, q2⟩ := r
    rw [List.cons_append, Rps]
    exact ⟨w, t ++ [v], rfl, q1, Rps.append r1 q2⟩
theorem Rps.nil {H : Hp} : Rps H [] [] := by rw [Rps]
theorem Rp.ty {H : Hp} {d : D} {v : V} (r : Rp H d v) : (∀ n, v ≠ .ty n) ∧ ∀ n, v ≠ .flt n := by
  cases d <;> rw [Rp] at r
  case tup xs => obtain ⟨a, vs, rfl, _⟩ := r; exact ⟨fun _ z => (nomatch z), fun _ z => (nomatch z)⟩
  all_goals (subst r; exact ⟨fun _ z => (nomatch z), fun _ z => (nomatch z)⟩)
theorem same_new {H : Hp} {p : Addr} (h : H p = none) (o : HO) : Same H (upd H p o) := fun b u q => by rw [upd_ne (ne_of_none q h)]; exact q
/-- all but what stands at b -/
def Kept (b : Addr) (H H' : Hp) : Prop := ∀ a o, a ≠ b → H a = some o → H' a = some o
theorem Kept.refl {b : Addr} (H : Hp) : Kept b H H := fun _ _ _ e => e
theorem Kept.trans {b : Addr} {H H1 H2 : Hp} (x : Kept b H H1) (y : Kept b H1 H2) : Kept b H H2 := fun a o n e => y a o n (x a o n e)
theorem Same.kept {b : Addr} {H H' : Hp} (h : Same H H') : Kept b H H' := fun a o _ e => h a o e
theorem Kept.upd {b : Addr} {H : Hp} {o : HO} : Kept b H (upd H b o) := fun a u n e => by rw [upd_ne n]; exact e
/-- the draws: digits and a place among them -/
def Box (H : Hp) (b d : Addr) : Prop := ∃ ds, ∃ at_ : Nat, H b = some (.lst [.ref d, .int at_]) ∧ H d = some (.lst (List.map V.int ds)) ∧ d ≠ b
theorem Box.same {H H' : Hp} {b d : Addr} (x : Box H b d) (h : Same H H') : Box H' b d := by
  obtain ⟨ds, n, h1, h2, h3⟩ := x
  exact ⟨ds, n, h _ _ h1, h _ _ h2, h3⟩
theorem Kept.tup {b d : Addr} {H H' : Hp} (x : Box H b d) (h : Kept b H H') : Tup H H' := fun a xs e => by
  obtain ⟨ds, n, h1, h2, h3⟩ := x
  exact h a _ (fun z => by subst z; rw [h1] at e; cases e) e
/-- another object is written -/
theorem Box.other {H : Hp} {b d L : Addr} {o : HO} (x : Box H b d) (h1 : L ≠ b) (h2 : L ≠ d) : Box (upd H L o) b d := by
  obtain ⟨ds, n, g1, g2, g3⟩ := x
  exact ⟨ds, n, by rw [upd_ne (Ne.symm h1)]; exact g1, by rw [upd_ne (Ne.symm h2)]; exact g2, g3⟩
theorem Box.ne {H : Hp} {b d L : Addr} (x : Box H b d) (h : H L = none) : L ≠ b ∧ L ≠ d := by
  obtain ⟨ds, n, g1, g2, g3⟩ := x
  exact ⟨fun e => (by rw [e, g1] at h; cases h), fun e => (by rw [e, g2] at h; cases h)⟩
end Tst
/-! Plain lemmas: lengths of what is shown; a text between quotes read by leaps; a run of digits. -/
namespace Tst
open PySem PySem.Spec PyProof.Rows L2 TL
theorem join_mem : ∀ {ds : List D} {d : D}, d ∈ ds → d.show.length ≤ (joinL [32] (D.shows ds)).length
  | [], _, h => by cases h
  | [a], d, h => by
    have e : d = a := by simpa using h
    subst e
    exact Nat.le_refl _
  | a :: b :: ds, d, h => by
    have z : joinL [32] (D.shows (a :: b :: ds)) = a.show ++ 32 :: joinL [32] (D.shows (b :: ds)) := rfl
    rw [z, List.length_append, List.length_cons]
    rcases List.mem_cons.mp h with rfl | h
    · omega
    · have := join_mem h
      omega
theorem tup_len (xs : List D) : (D.tup xs).show.length = (joinL [32] (D.shows xs)).length + 2 := by
  show (40 :: (joinL [32] (D.shows xs) ++ [41])).length = _
  rw [List.length_cons, List.length_append]
  rfl
theorem show_mem {xs : List D} {d : D} (h : d ∈ xs) : d.show.length + 2 ≤ (D.tup xs).show.length := by
  have := join_mem h
  rw [tup_len]
  omega
theorem many_len (xs : List D) : xs.length + 1 ≤ (D.tup xs).show.length := by
  have := len_join xs
  rw [tup_len]
  omega
theorem join_sum : ∀ ds : List D, ((ds.map showS).map (·.length)).sum + ds.length ≤ (joinL [32] (D.shows ds)).length + 1
  | [] => by simp
  | [d] => by
    show ([(showS d).length].sum) + 1 ≤ d.show.length + 1
    simp [showS, len_strOf]
  | d :: d2 :: ds => by
    have z : joinL [32] (D.shows (d :: d2 :: ds)) = d.show ++ 32 :: joinL [32] (D.shows (d2 :: ds)) := rfl
    have ih := join_sum (d2 :: ds)
    rw [z, List.length_append, List.map_cons, List.map_cons, List.sum_cons]
    simp only [List.length_cons] at ih ⊢
    have e : (showS d).length = d.show.length := len_strOf _
    omega
theorem tl_showS (d : D) : tl (showS d) = d.show := rfl
theorem map_showS (ds : List D) : (ds.map showS).map tl = D.shows ds := by
  rw [shows_map, List.map_map]
  rfl
theorem show_tup (xs : List D) : (strOf [40] ++ Txt.join (strOf [32]) (xs.map showS)) ++ strOf [41] = showS (.tup xs) := by
  refine ext_tl ?_
  rw [tl_append, tl_append, join_eq, tl_join, map_showS]
  show [40] ++ joinL [32] (D.shows xs) ++ [41] = 40 :: (joinL [32] (D.shows xs) ++ [41])
  simp
theorem show_str (z : Str) : (strOf [34] ++ strOf (encL (tl z))) ++ strOf [34] = showS (.str z) := by
  refine ext_tl ?_
  rw [tl_append, tl_append]
  show [34] ++ encL (tl z) ++ [34] = 34 :: (encL (tl z) ++ [34])
  simp
theorem lit (s : String) (l : List Nat) (h : (s.toList.map Char.toNat) = l := by rfl) : Str.ofString s = strOf l := by
  refine ext_tl ?_
  rw [tl_ofString, h]
  rfl
/-! ### a text between quotes, by leaps -/
def plainSign (c : Nat) : Bool := !(c == 34 || c == 92)
theorem textAt_leap : ∀ (u t : List Nat) (p : Nat) (acc : List Nat) (r : List Nat × Nat), (∀ c ∈ u, plainSign c = true) → textAt (u ++ t) p acc = .ok r → (∀ c ∈ u, c ≠ 10) ∧ textAt t (p + u.length) (acc ++ u) = .ok r
  | [], t, p, acc, r, _, h => ⟨fun _ z => (nomatch z), by simpa using h⟩
  | c :: u, t, p, acc, r, hu, h => by
    have hc := hu c List.mem_cons_self
    have h1 : c ≠ 34 ∧ c ≠ 92 := by
      unfold plainSign at hc
      simp at hc
      exact hc
    have h : textAt (c :: (u ++ t)) p acc = .ok r := h
    unfold textAt at h
    rw [if_neg h1.1, if_neg h1.2] at h
    by_cases h10 : c = 10
    · rw [if_pos h10] at h; cases h
    · rw [if_neg h10] at h
      obtain ⟨q1, q2⟩ := textAt_leap u t (p + 1) (acc ++ [c]) r (fun x hx => hu x (List.mem_cons_of_mem _ hx)) h
      refine ⟨fun x hx => ?_, ?_⟩
      · rcases List.mem_cons.mp hx with rfl | hx
        · exact h10
        · exact q1 x hx
      · rw [List.length_cons, show p + (u.length + 1) = p + 1 + u.length by omega]
        rw [List.append_assoc] at q2
        exact q2
/-- the next quote or slash -/
theorem leap (R : List Nat) : ∃ u t, R = u ++ t ∧ (∀ c ∈ u, plainSign c = true) ∧ ∀ c r, t = c :: r → c = 34 ∨ c = 92 := by
  induction R with
  | nil => exact ⟨[], [], rfl, fun _ z => (nomatch z), fun _ _ z => (nomatch z)⟩
  | cons a R ih =>
    by_cases h : plainSign a = true
    · obtain ⟨u, t, e, h1, h2⟩ := ih
      exact ⟨a :: u, t, by rw [e]; rfl, fun c hc => (List.mem_cons.mp hc).elim (fun z => z ▸ h) (h1 c), h2⟩
    · refine ⟨[], a :: R, rfl, fun _ z => (nomatch z), fun c r e => ?_⟩
      injection e with e1 _
      subst e1
      unfold plainSign at h
      simp at h
      omega
theorem get_in {L u t : List Nat} {p i : Nat} (h : L.drop p = u ++ t) (h1 : p ≤ i) (h2 : i < p + u.length) : ∃ c, L[i]? = some c ∧ c ∈ u := by
  have e : L[i]? = (L.drop p)[i - p]? := by rw [List.getElem?_drop, show p + (i - p) = i by omega]
  have hi : i - p < u.length := by omega
  rw [e, h, List.getElem?_append_left hi, List.getElem?_eq_getElem hi]
  exact ⟨_, rfl, List.getElem_mem hi⟩
theorem not_in {L u t : List Nat} {p i k : Nat} (h : L.drop p = u ++ t) (hk : k ∉ u) (h1 : p ≤ i) (h2 : i < p + u.length) : L[i]? ≠ some k := by
  obtain ⟨c, e, hc⟩ := get_in h h1 h2
  rw [e]
  intro z
  injection z with z
  subst z
  exact hk hc
theorem find3_cases {z : Str} {c p : Nat} (hp : p ≤ z.length) : (Txt.find3 z ⟨#[c]⟩ (p : Int) = -1) ∨ ∃ j, Txt.find3 z ⟨#[c]⟩ (p : Int) = ((j : Nat) : Int) ∧ p ≤ j ∧ j < z.length ∧ (tl z)[j]? = some c := by
  have hl := len_tl z
  by_cases h : c ∈ (tl z).drop p
  · obtain ⟨u, t, e, hu⟩ := List.eq_append_cons_of_mem h
    obtain ⟨q, _, q3⟩ := drop_cons (drop_app e)
    exact .inr ⟨p + u.length, find3_first (by omega) (by omega) (fun i h1 h2 => not_in e hu h1 h2) q, by omega, by omega, q⟩
  · refine .inl (find3_never hp fun i h1 h2 e => h ?_)
    have e' : (tl z)[i]? = ((tl z).drop p)[i - p]? := by rw [List.getElem?_drop, show p + (i - p) = i by omega]
    rw [e'] at e
    exact List.mem_of_getElem? e
theorem join_flat : ∀ l : List (List Nat), joinL [] l = l.flatten
  | [] => rfl
  | [a] => by simp [joinL]
  | a :: b :: l => by
    have z : joinL [] (a :: b :: l) = a ++ ([] ++ joinL [] (b :: l)) := rfl
    rw [z, join_flat (b :: l)]
    simp
/-! ### a run of digits -/
theorem run_of (l : List Nat) : ∃ post, l = l.takeWhile dig ++ post ∧ Stop post ∧ ∀ c ∈ l.takeWhile dig, dig c = true := by
  induction l with
  | nil => exact ⟨[], rfl, (fun _ _ z => (nomatch z)), fun _ z => (nomatch z)⟩
  | cons a l ih =>
    rw [List.takeWhile_cons]
    by_cases h : dig a = true
    · obtain ⟨post, e, h1, h2⟩ := ih
      rw [if_pos h]
      refine ⟨post, by rw [List.cons_append, ← e], h1, fun c hc => ?_⟩
      rcases List.mem_cons.mp hc with rfl | hc
      · exact h
      · exact h2 c hc
    · rw [if_neg h]
      refine ⟨a :: l, rfl, stop_cons (by simpa using h), fun _ z => (nomatch z)⟩
theorem val_ge : ∀ (l : List Nat) (a : Nat), 1 ≤ a → 10 ^ l.length ≤ l.foldl (fun acc c => acc * 10 + (c - 48)) a
  | [], a, h => by simpa using h
  | c :: l, a, h => by
    rw [List.foldl_cons, List.length_cons]
    have ih : ∀ b, a * 10 ≤ b → 10 ^ l.length * 10 ≤ l.foldl (fun acc c => acc * 10 + (c - 48)) b := by
      intro b hb
      have mono : ∀ (l : List Nat) (x k : Nat), k * 10 ≤ x → 1 ≤ k → 10 ^ l.length * (k * 10) ≤ l.foldl (fun acc c => acc * 10 + (c - 48)) x := by
        intro l
        induction l with
        | nil => intro x k hk _; simpa using hk
        | cons d l ih =>
          intro x k hk hk1
          rw [List.foldl_cons, List.length_cons, Nat.pow_succ]
          have := ih (x * 10 + (d - 48)) (k * 10) (by omega) (by omega)
          calc 10 ^ l.length * 10 * (k * 10) = 10 ^ l.length * (k * 10 * 10) := by rw [Nat.mul_assoc, Nat.mul_comm 10]
            _ ≤ _ := this
      have := mono l b a hb h
      refine Nat.le_trans ?_ this
      exact Nat.mul_le_mul_left _ (by omega)
    rw [Nat.pow_succ]
    exact ih _ (by omega)
theorem val_len {c : Nat} {r : List Nat} (hc : dig c = true) (h0 : c ≠ 48) : 10 ^ r.length ≤ NumText.digitsVal (c :: r) := by
  rw [dig_iff] at hc
  unfold NumText.digitsVal
  rw [List.foldl_cons]
  exact val_ge r _ (by omega)
theorem figs (c : Nat) : decide (c ∈ tl (Str.ofString "0123456789")) = dig c := by
  rw [tl_ofString]
  show decide (c ∈ [48, 49, 50, 51, 52, 53, 54, 55, 56, 57]) = decide (48 ≤ c ∧ c ≤ 57)
  congr 1
  simp
  omega
/-! ### one sign of a text against a written one -/
theorem sg_is {z s : Str} {p c : Nat} (h : tl s = [c]) : decide (V.str (sg z p) = V.str s) = decide ((tl z)[p]? = some c) := by
  rw [dec_s, h]
  show decide ((tl z)[p]?.toList = [c]) = _
  congr 1
  cases (tl z)[p]? with
  | none => simp
  | some d => simp
theorem sg_empty {z s : Str} {p : Nat} (h : tl s = []) : decide (V.str (sg z p) = V.str s) = decide ((tl z)[p]? = none) := by
  rw [dec_s, h]
  show decide ((tl z)[p]?.toList = []) = _
  congr 1
  cases (tl z)[p]? with
  | none => simp
  | some d => simp
theorem sg_fig {z : Str} {p c : Nat} (h : (tl z)[p]? = some c) : (!(Builtin.Str.occurrences (Str.ofString "0123456789") (sg z p) 0 (Str.ofString "0123456789").length 1).isEmpty) = dig c := by
  rw [sg_some h]
  show (!(Builtin.Str.occurrences (Str.ofString "0123456789") ⟨#[c]⟩ 0 (Str.ofString "0123456789").length 1).isEmpty) = dig c
  rw [StrLaws.found_one]
  exact figs c
/-! ### members, turn by turn -/
theorem members_ok {L : List Nat} {f : Nat → PR} {xs : List D} {q : Nat} : ∀ {n p : Nat} {acc : List D}, members L f n p acc = .ok (.tup xs, q) → ∃ ys, xs = acc ++ ys
  | 0, p, acc, h => by cases h
  | n + 1, p, acc, h => by
    unfold members at h
    cases e : f p with
    | error k => rw [e] at h; cases h
    | ok dq =>
      obtain ⟨d, k⟩ := dq
      rw [e] at h
      simp only at h
      split at h
      · split at h
        · cases h
          exact ⟨[d], rfl⟩
        · split at h
          · obtain ⟨ys, e⟩ := members_ok h
            exact ⟨d :: ys, by rw [e, List.append_assoc]; rfl⟩
          · cases h
      · cases h
end Tst
/-! int(text) of up to 4,300 signs: the world's own bound is asked for. -/
namespace Tst
open PySem PySem.Spec PyProof.Rows L2 TL PySem.NumText PySem.W
theorem most_digits {M : Model} {A : Around} {E : Value → Shared → Prop} {s : Shared} {Q : Nat → Shared → Prop} (hn : s.heap.NoDigits) (h : Q 4300 s) : wpAny M A Builtin.intMaxStrDigits Q E s := by
  obtain ⟨mc, h1, h2⟩ := hn
  unfold Builtin.intMaxStrDigits
  refine wpAny_bind (wpAny_nsGet h1 ?_)
  rw [h2]
  exact wpAny_pure h
theorem long_text {M : Model} {A : Around} {E : Value → Shared → Prop} {s : Shared} {Q : Value → Shared → Prop} {v : Value} {text : List Nat} {n : Int} (hn : s.heap.NoDigits)
    (hs : ¬ (text.takeWhile (· != 0)).length ≤ 640) (hr : (int_private% "readNumeral") 4300 10 (text.takeWhile (· != 0)) = (int_private% "Numeral.value") n)
    (ha : ((text.takeWhile (· != 0)).length == text.length) = true) (h : Q (.int n s.toks) { s with toks := s.toks + 1 }) :
    wpAny M A ((int_private% "intFromText") v text 10) Q E s := by
  obtain ⟨hp, g, d, tk, os⟩ := s
  repeat (any_goals (first
    | assumption
    | (with_reducible refine wpAny_ite_false (decide_eq_false hs) ?_)
    | (with_reducible refine most_digits hn ?_)
    | wp_step))
  all_goals (try rw [hr])
  all_goals (try dsimp only)
  repeat (any_goals (first
    | assumption
    | (with_reducible refine wpAny_ite_true (decide_eq_true ha) ?_)
    | wp_step))
structure Kept1 (p : Prop) : Prop where
  out : p
theorem meets_text {x : Str} {u : Tok} {n : Int} (hl : x.length ≤ 4000) (hv : PySem.intText? x = some n) :
    Meets (Builtin.«int.__new__» ⟨[.type "int", .str x u], []⟩) (fun _ R s => s.heap.NoDigits ∧ R (.ok (.ret (.int n s.toks))) { s with toks := s.toks + 1 }) := by
  intro prog w A R s hS
  obtain ⟨hn, hq⟩ := hS
  by_cases hsm : x.length ≤ 640
  · exact ((PySem.W.KIN.gives_text (u := u) hsm hv).meets) prog w A R s hq
  obtain ⟨hp, g, d, tk, os⟩ := s
  have f1 := PySem.F.conv_sub_int
  have f2 := PySem.F.madeHere_int
  have f3 := PySem.W.KIN.str_int
  have f4 := PySem.W.KIN.str_idx
  have f5 := PySem.W.KIN.str_trunc
  have f6 : typeOf (.str x u) = pure (.type "str") := rfl
  have sl := seen_length x
  by_cases hs : (numSeenOf x).length ≤ 640
  · have hr : (int_private% "readNumeral") 0 10 (numSeenOf x) = (int_private% "Numeral.value") n ∧ ((numSeenOf x).length == (numTextOf x).length) = true := by
      rcases read0 x hs with ⟨m, h1, h2, h3⟩ | ⟨h1, _⟩
      · rw [hv] at h1
        injection h1 with h1
        subst h1
        exact ⟨h3, h2⟩
      · rw [hv] at h1
        cases h1
    have hk := Kept1.mk (And.intro hs hr)
    clear hs hr hl hv sl
    repeat (any_goals (first
      | assumption
      | ((with_reducible show wpAny _ _ ((int_private% "intFromText") _ _ _) _ _ _); refine PySem.W.KIN.wp_text hk.out.1 hk.out.2.1 hk.out.2.2 ?_)
      | wp_step))
  · have hr : (int_private% "readNumeral") 4300 10 (numSeenOf x) = (int_private% "Numeral.value") n ∧ ((numSeenOf x).length == (numTextOf x).length) = true := by
      rcases read4300 x (by rw [sizeLine_eq]; omega) with ⟨m, h1, h2, h3⟩ | ⟨h1, _⟩
      · rw [hv] at h1
        injection h1 with h1
        subst h1
        exact ⟨h3, h2⟩
      · rw [hv] at h1
        cases h1
    have hk := Kept1.mk (And.intro hs hr)
    clear hs hr hl hv sl
    repeat (any_goals (first
      | assumption
      | ((with_reducible show wpAny _ _ ((int_private% "intFromText") _ _ _) _ _ _); refine long_text hn hk.out.1 hk.out.2.1 hk.out.2.2 ?_)
      | wp_step))
/-- int(text), of up to 4,000 signs -/
theorem call_int_long {X : Cx} (hd : PySem.W.nsIn X.K cStatics "sys.int_max_str_digits" = some none) :
    CallR X (.type "int") (fun xs H Q => ∃ a n, xs = [.str a] ∧ PySem.intText? a = some n ∧ a.length ≤ 4000 ∧ Q (.int n) H) := by
  intro pins s σ H xs us Q I rs h
  obtain ⟨a, n, rfl, hv, hl, q⟩ := h
  cases rs with
  | cons r1 rs =>
    cases rs
    obtain ⟨t, rfl⟩ := r1
    have hn : s.heap.NoDigits := by
      obtain ⟨mc, hns, _⟩ := I.nolimit
      refine ⟨mc, hns, ?_⟩
      obtain ⟨o, es, ep, ho, hdt, _, hf⟩ := hns
      unfold PySem.W.nsIn at hd
      split at hd
      · rename_i c d es' n' sl q
        have e := I.kIn _ _ q
        rw [ho] at e
        cases e
        cases hdt
        split at hd
        · cases hd
        · rename_i none_
          refine (hf _).symm.trans ?_
          unfold nsFind findBy
          rw [← Array.find?_toList]
          rw [none_]
          rfl
      · cases hd
    refine call_int_1 (meets_text hl hv) ⟨hn, ?_⟩
    exact ⟨rfl, .int n, H, I.tok _, ⟨_, rfl⟩, q⟩
end Tst
/-! An own exception over ValueError whose __init__ says super().__init__(f'{place}') and self.place = place. -/
namespace Tst
open PySem PySem.Spec PyProof.Rows L2 TL PySem.W PySem.Calls PySem.HandSPX
/-! ### the text of such an __init__ -/
def supA (fld : Str) (p1 p2 : Pos) : Arguments := { posonlyargs := [], args := [{ arg := "self", annotation := none, pos := p1 }, { arg := fld, annotation := none, pos := p2 }], vararg := none, kwonlyargs := [], kw_defaults := [], kwarg := none, defaults := [] }
def supB (e : Expr) (fld : Str) (p1 p2 p3 p4 p5 q1 q2 q3 q4 : Pos) : List Stmt :=
  [.Expr (.Call (.Attribute (.Call (.Name "super" p1) [] [] p2) "__init__" p3) [e] [] p4) p5, .Assign [.Attribute (.Name "self" q1) fld q2] (.Name fld q3) q4]
def supS (fld : Str) : Scope := { kind := .function, names := [(Str.ofString "self", .local), (fld, .local), (Str.ofString "__class__", .free), (Str.ofString "super", .globalImplicit)], isGenerator := false, isCoroutine := false, more := [] }
/-- super().__init__(e) is a call of a method, by the places of its signs -/
def SupCall (e : Expr) (r1 r2 r3 r4 r5 : Pos) : Prop := ∃ pl : Sem Bool, ∀ env : Env,
  eval (.Call (.Attribute (.Call (.Name "super" r1) [] [] r2) "__init__" r3) [e] [] r4) env = (do
      let ov ← attributeBase (.Call (.Name "super" r1) [] [] r2) "__init__" env (eval (.Call (.Name "super" r1) [] [] r2) env)
      standAt r3.atName
      let (f, first) ← holding [ov] (getMethod ov "__init__" pl)
      callWith r4 f first (backTo r4 (starEach [e] env)) []) ∧
  swapsWith (.Call (.Attribute (.Call (.Name "super" r1) [] [] r2) "__init__" r3) [e] [] r4) none r5.line env = pure false ∧
  starEach [e] env = [(false, eval e env)]
/-- what the written part says of the class (at C), of its __init__ (at fI), of the cell of __class__ (at cc) and of the code's record (at cda) -/
structure SupTxt (P : Program) (K : Frag) (mg : Str → Option Value) (cls fld : Str) (e : Expr) (C fI cc cda : Addr) : Prop where
  gC : mg cls = some (.ref C)
  obj : ∃ nm q N bs bm sn sub ab col dd k0 k1 k2 k3 k5, K.lookup C = some (excClassObj nm q C N bs bm true sn sub ab col dd k0 k1 k2 k3 k5 "ValueError.__new__") ∧ refsVE bm = true
  sa : findIn K (.ref C) "__setattr__" = some (some (.builtin "object.__setattr__"))
  ga : findIn K (.ref C) "__getattribute__" = some (some (.builtin "BaseException.__getattribute__"))
  gg : findIn K (.ref C) "__getattr__" = some none
  noN : findIn K (.ref C) fld = some none
  iC : findIn K (.ref C) "__init__" = some (some (.ref fI))
  tC : typeIn K (.ref fI) = some (.type "function")
  kC : keepIn K (.ref C) = true
  exC : subIn K (.ref C) (.type "BaseException") = some true
  tyC : typeIn K (.ref C) = some (.type "type")
  hdC : hasDictIn K C = true
  te : exmOne K (.ref C) (.ref C) = some true
  fn : ∃ (oc : Value) (od : Option Addr) (doc pm : Value) (an : Option Addr) (ct : Value) (osl : Array (Option Value)) (qual : Str) (p1 p2 r1 r2 r3 r4 r5 q1 q2 q3 q4 : Pos),
    K.lookup fI = some ⟨oc, od, .func (fnX "__init__" qual (supA fld p1 p2) (supB e fld r1 r2 r3 r4 r5 q1 q2 q3 q4) (supS fld) [("__class__", cc)] .none .none doc pm an (.ref cda) ct), osl⟩ ∧ codeIn K (.ref cda) qual = true ∧ SupCall e r1 r2 r3 r4 r5
  sup : mg "super" = none
  cell : ∃ cl cld csl, K.lookup cc = some ⟨cl, cld, .cell (some (.ref C)), csl⟩
  me : mroIn K C (.ref C) = some true
  code : ∃ ccl cdd vs ccs file tf, K.lookup cda = some ⟨ccl, cdd, .fields vs, ccs⟩ ∧ vs[2]? = some (.str file tf) ∧ ((P.main.file : Str) == file) = true
  top : (P.main.scope.names.lookup ("super" : Str)).isSome = false
  opq : nsIn K cStatics "thirdparty.any" = some none
  along : ks_superIn K C C "__init__" = some (some (.builtin "ValueError.__init__"))
  isV : subIn K (.ref C) (.type "ValueError") = some true
section
variable {prog : Program} {w : World} {A : Around} {E : Value → Shared → Prop} {h : Heap} {g : Array GenState} {d : Drawn} {t : Nat} {os : OsState}
variable {nm q : Str} {C N : Addr} {bs bm : List Value} {hdct : Bool} {sn : List Str} {sub : List Value} {ab : Bool} {col : Option Bool} {dd : Option Addr} {k0 k1 k2 k3 k5 : Option Value}
/-- ValueError.__init__, bound to the exception, called -/
theorem call_mw {u e t0 : Addr} {vs : List Value} {Q : Value → Shared → Prop}
    (hC : h.get? C = some (excClassObj nm q C N bs bm hdct sn sub ab col dd k0 k1 k2 k3 k5 "ValueError.__new__")) (he : h.get? e = some (excO C t0)) (hu : h.get? u = some (kxs_mw "ValueError.__init__" e)) (hz : vs.length ≤ sizeLine)
    (fin : ∀ h' t1, (∀ b o, b ≠ e → h.get? b = some o → h'.get? b = some o) → h'.get? e = some (excO C t1) → Q .none ⟨h', g, d, t, os⟩) :
    wpAny (model prog w) A (call (.ref u) vs) Q E ⟨h, g, d, t, os⟩ := by
  have FB := F.excBase_ValueError
  refine wpAny_call (codeAny_of_tree ?_)
  show wpAny _ A.in1 (callAny (.ref u) ⟨vs, []⟩) _ _ _
  simp only [callAny]
  refine wpAny_bind (wpAny_load hu ?_)
  have b1 : (Value.type "method-wrapper" == Value.type "method" || Value.type "method-wrapper" == Value.type "builtin_function_or_method" || Value.type "method-wrapper" == Value.type "method-wrapper") = true := by decide
  simp only [kxs_mw, b1, if_true]
  refine KFB.if_so (by decide) (wpAny_bind (check_bound_init FB.toExcCallFacts hC he rfl (wpAny_bind (wpAny_pure (wpAny_pure ?_)))))
  refine ⟨plainId_quiet FB.init.plain _, codeAny_builtin FB.initEntry ?_⟩
  exact exc_init_tree (cls := .ref C) (t0 := t0) (dv := none) (c2 := .none) (c3 := .none) (b4 := .bool false) he hz fun h' k e' _ => fin h' _ k e'
end
/-- what __init__ leaves of a fresh exception at x -/
structure SupEnd (h h' : Heap) (x C dx : Addr) (fld : Str) (v : Value) : Prop where
  keep : ∀ b o, b ≠ x → h.get? b = some o → h'.get? b = some o
  obj : ∃ t1 : Addr, h'.get? x = some { cls := .ref C, dict := some dx, data := .fields #[.ref t1, .none, .none, .none, .bool false, .none] }
  dbig : h.objs.size ≤ dx
  dne : dx ≠ x
  ns : h'.Ns1 dx (fun y => if y = fld then some v else none)
/-- what is reckoned of the field's name alone -/
structure FldOk (fld : Str) : Prop where
  bind : ∀ (qual : Str) (p1 p2 : Pos) (body : List Stmt) (cc : Addr) (doc pm : Value) (an : Option Addr) (cdv ct : Value) (x : Addr) (v : Value),
    bindArgs (fnX "__init__" qual (supA fld p1 p2) body (supS fld) [("__class__", cc)] .none .none doc pm an cdv ct) ⟨[.ref x, v], []⟩ = pure [((Str.ofString "self" : Str), Value.ref x), (fld, v)]
  look : (supS fld).names.lookup fld = some .local
  kcl : (supS fld).names.lookup (Str.ofString "__class__") = some .free
  ksu : (supS fld).names.lookup (Str.ofString "super") = some .globalImplicit
  nself : (Str.ofString "self" == fld) = false
  ndb : (fld == ("__debug__" : Str)) = false
theorem fld_place : FldOk (Str.ofString "place") := ⟨fun _ _ _ _ _ _ _ _ _ _ _ _ => rfl, rfl, rfl, rfl, by decide +kernel, by decide +kernel⟩
theorem fld_reason : FldOk (Str.ofString "reason") := ⟨fun _ _ _ _ _ _ _ _ _ _ _ _ => rfl, rfl, rfl, rfl, by decide +kernel, by decide +kernel⟩
section
variable {P : Program} {w : World} {A : Around} {E : Value → Shared → Prop} {R : Result → Shared → Prop} {s : Shared} {K : Frag} {mg : Str → Option Value} {cls fld : Str} {e : Expr} {C fI cc cda : Addr}
theorem sup_init (T : SupTxt P K mg cls fld e C fI cc cda) {x t0 : Addr} {v : Value} (X : K.In s.heap) (hlim : s.heap.NoLimit) (G : s.heap.Ns mainGlobals mg) (B : ∃ mb, s.heap.Ns builtinsNs mb ∧ mb "super" = bootBuiltins "super")
    (hx : s.heap.get? x = some (excO C t0)) (hnx : K.lookup x = none) (hroom : A.depth < recursionLimit) (FO : FldOk fld)
    (hev : ∀ (A : Around) (env : Env) (E : Value → Shared → Prop) (Q : Value → Shared → Prop) (s : Shared) (m : Str → Option Value), env.scope = supS fld → s.heap.Ns env.locals m → m fld = some v → (∀ z tk k, Q (.str z tk) { s with toks := k }) → wpAny (model P w) A (eval e env) Q E s)
    (hq : ∀ h' tk dx, SupEnd s.heap h' x C dx fld v → R (.ok (.ret .none)) { s with heap := h', toks := tk }) :
    codeAny (model P w) A (.call (.ref fI) ⟨[.ref x, v], []⟩) R s := by
  obtain ⟨oc, od, doc, pm, an, ct, osl, qual, p1, p2, r1, r2, r3, r4, r5, q1, q2, q3, q4, ho, hcd, pl, hcall⟩ := T.fn
  obtain ⟨nm, q, N, bs, bm, sn, sub, ab, col, dd, k0, k1, k2, k3, k5, hC, hbm⟩ := T.obj
  have hcls : clsIn K C = some { name := nm, bases := bs, mro := .ref C :: bm, ns := N, qualname := q, hasDict := true, slotNames := sn, subclasses := sub, abstract := ab, collection := col, hasDel := false } := by unfold clsIn; rw [hC] <;> rfl
  obtain ⟨cl, cld, csl, hcell⟩ := T.cell
  obtain ⟨ccl, cdd, vs, ccs, file, tf, hcode, hvs, hfile⟩ := T.code
  obtain ⟨mb, hmb, hsup⟩ := B
  have hlk := FO.look
  have hls : (supS fld).names.lookup (Str.ofString "self") = some .local := rfl
  refine ks_codeAny_call_defAt (binds := [("self", .ref x), (fld, v)]) hroom (X _ _ ho) rfl hlim (codeRec_of X hcd) rfl ?_ ?_ ?_ (fun h₁ hns k => ?_)
  · exact BindsTo.of_eq (FO.bind _ _ _ _ _ _ _ _ _ _ _ _)
  · intro y hy
    have hy' : y ∈ [(Str.ofString "self", NameKind.local), (fld, .local), (Str.ofString "__class__", .free), (Str.ofString "super", .globalImplicit)] := hy
    simp only [List.mem_cons, List.not_mem_nil, or_false] at hy'
    rcases hy' with rfl | rfl | rfl | rfl <;> exact fun z => (nomatch z)
  · intro y hy
    simp only [List.mem_cons, List.not_mem_nil, or_false] at hy
    rcases hy with rfl | rfl
    · exact hls
    · exact hlk
  have lks : ([((Str.ofString "self" : Str), Value.ref x), (fld, v)] : List (Str × Value)).reverse.lookup (Str.ofString "self") = some (.ref x) := by
    show List.lookup (Str.ofString "self") [(fld, v), (Str.ofString "self", Value.ref x)] = _
    rw [List.lookup_cons, FO.nself, List.lookup_cons, beq_self_eq_true]
  have lkf : ([((Str.ofString "self" : Str), Value.ref x), (fld, v)] : List (Str × Value)).reverse.lookup fld = some v := by
    show List.lookup fld [(fld, v), (Str.ofString "self", Value.ref x)] = _
    rw [List.lookup_cons, beq_self_eq_true]
  have X₁ : K.In h₁ := X.keeps k
  have hx₁ := k _ _ hx
  have hC₁ := X₁ _ _ hC
  have I₁ : InstAt h₁ x (excO C t0) C none := ⟨hx₁, rfl, rfl, trivial⟩
  -- super().__init__(e)
  refine ks_wpAt_execs_cons (ks_wpAt_Expr_any (ks_wpAt_MethodCall (pl := pl) ?_ (hcall _).1) rfl (hcall _).2.1)
  refine ks_wpAt_super_base FO.ksu FO.kcl (by decide) rfl (X₁ _ _ ho) rfl rfl rfl (X₁ _ _ hcode) rfl hvs hfile T.top ?_
  refine ks_loadName_global rfl FO.ksu (loadGlobal_builtin (G.keeps k) T.sup (hmb.keeps k) (hsup.trans (by first | boot_by_name | rfl | kernel_rfl)) ⟨rfl, ?_⟩)
  refine wpAny_loadName_free rfl FO.kcl rfl ⟨_, X₁ _ _ hcell, rfl⟩ ?_
  refine wpAny_loadName_local rfl hls hns lks ?_
  refine ks_wpAny_isType_cls hC₁ rfl ⟨rfl, ?_⟩
  refine ks_wpAny_call_super hC₁ rfl hx₁ rfl (fun c z => nomatch z) (looks_mroIn X₁ T.me) (fun h₂ eso k₂ => ?_)
  have X₂ : K.In h₂ := X₁.keeps k₂
  have hx₂ := k₂ _ _ hx₁
  have I₂ : InstAt h₂ x (excO C t0) C none := ⟨hx₂, rfl, rfl, trivial⟩
  have hmro : Looks (model P w) h₂ (mroOf (.ref C)) (.ref C :: bm) := fun A Q E s k q => wpAny_bind ((looks_clsIn X₂ hcls) A _ E s k (wpAny_pure q))
  have hal : alongIn K (Str.ofString "__init__") ((((Value.ref C) :: bm).dropWhile (· != .ref C)).drop 1) = some (some (.builtin "ValueError.__init__")) := by
    have h := T.along
    unfold ks_superIn at h
    rw [hcls] at h
    exact h
  refine kxs_getMethod kxs_ValueError eso (looks_opaque X₂ T.opq) hmro rfl X₂ hal (I₂.type.andThen (looks_subIn X₂ T.isV)) (ks_ne X₂ I₂ hcls) (by decide) ?_
  -- the call of what was bound
  have hbw : (h₂.push (kxs_mw "ValueError.__init__" x)).get? h₂.objs.size = some (kxs_mw "ValueError.__init__" x) := Heap.get?_push_at rfl rfl
  have k₃ : ∀ b o, h₂.get? b = some o → (h₂.push (kxs_mw "ValueError.__init__" x)).get? b = some o := fun b o q => Heap.get?_push_of_some _ q
  rw [(hcall _).2.2]
  refine kxs_callWith (i := "ValueError.__init__") (x := x) rfl (evalArgs_plain (spliced_cons ?_))
  have hns₃ := (hns.keeps k₂).keeps k₃
  refine hev _ _ _ _ _ _ rfl hns₃ lkf fun z tk kt => spliced_nil ⟨hbw, ?_⟩
  refine call_mw (k₃ _ _ (X₂ _ _ hC)) (k₃ _ _ hx₂) hbw (by rw [sizeLine_eq]; exact (by decide : 1 ≤ 16777216)) fun h₄ t1 k₄ hx₄ => ?_
  -- self.f = f
  have nL : s.heap.objs.size ≠ x := Nat.ne_of_gt (Heap.lt_size hx)
  have old₄ : ∀ b o, b ≠ x → h₁.get? b = some o → h₄.get? b = some o := fun b o hb q => k₄ b o hb (k₃ _ _ (k₂ _ _ q))
  have X₄ : K.In h₄ := fun a o q => old₄ a o (fun z => by rw [z, hnx] at q; cases q) (X₁ a o q)
  have hns₄ : h₄.Ns s.heap.objs.size (fun y => ([((Str.ofString "self" : Str), Value.ref x), (fld, v)] : List (Str × Value)).reverse.lookup y) := by
    obtain ⟨o, es, ep, ho, r⟩ := hns
    exact ⟨o, es, ep, old₄ _ _ nL ho, r⟩
  show _root_.PySem.wpAt _ _ _ (execs [_] _) _ _ _
  refine wpAt_of_wpAny (wpAny_execs_cons (plainObj_wpAny_Assign_Attribute ?_))
  refine wpAny_Name (wpAny_loadName_local rfl hlk hns₄ lkf ?_) FO.ndb
  refine wpAny_Name (wpAny_loadName_local rfl hls hns₄ lks ?_) (by decide)
  refine set_plain X₄ (ox := excO C t1) (od := none) ⟨hx₄, rfl, rfl, trivial⟩ T.sa ?_
  refine exc_osa X₄ hx₄ hcls (show refsVE (.ref C :: bm) = true from hbm) rfl T.noN (fun h₅ tk₅ dx k₅ dn dne hx₅ hn₅ => ?_)
  show wpAny _ _ (execs [] _) _ _ _
  have sz : s.heap.objs.size < h₄.objs.size := hns₄.lt
  exact wpAny_execs_nil (hq h₅ _ dx ⟨fun b o hb q => k₅ b o hb (old₄ b o hb (k b o q)), ⟨t1, hx₅⟩, Nat.le_of_lt (Nat.lt_of_lt_of_le sz dn), dne, hn₅⟩)
/-- a made one -/
structure SupMade (h h' : Heap) (e C d : Addr) (fld : Str) (v : Value) : Prop where
  keep : ∀ b o, h.get? b = some o → h'.get? b = some o
  new : h.objs.size ≤ e
  obj : ∃ oe vs, h'.get? e = some oe ∧ oe.cls = .ref C ∧ oe.dict = some d ∧ oe.data = .fields vs ∧ vs[1]? = some .none
  dbig : h.objs.size ≤ d
  dne : d ≠ e
  ns : h'.Ns1 d (fun y => if y = fld then some v else none)
/-- e, evaluated where the field's name stands for v, is some text -/
def EvTxt (P : Program) (w : World) (fld : Str) (e : Expr) (v : Value) : Prop :=
  ∀ (A : Around) (env : Env) (E : Value → Shared → Prop) (Q : Value → Shared → Prop) (s : Shared) (m : Str → Option Value), env.scope = supS fld → s.heap.Ns env.locals m → m fld = some v → (∀ z tk k, Q (.str z tk) { s with toks := k }) → wpAny (model P w) A (eval e env) Q E s
theorem sup_made (T : SupTxt P K mg cls fld e C fI cc cda) (FO : FldOk fld) {v : Value} (X : K.In s.heap) (hlim : s.heap.NoLimit) (G : s.heap.Ns mainGlobals mg) (B : ∃ mb, s.heap.Ns builtinsNs mb ∧ mb "super" = bootBuiltins "super") (hroom : A.depth + 1 < recursionLimit)
    (hev : EvTxt P w fld e v) (hq : ∀ h' tk x d, SupMade s.heap h' x C d fld v → R (.ok (.ret (.ref x))) { s with heap := h', toks := tk }) :
    codeAny (model P w) A (.call (.ref C) ⟨[v], []⟩) R s := by
  obtain ⟨nm, q, N, bs, bm, sn, sub, ab, col, dd, k0, k1, k2, k3, k5, hC, hbm⟩ := T.obj
  obtain ⟨mb, hmb, hsup⟩ := B
  obtain ⟨hp, g, dr, tk, os⟩ := s
  have k : ∀ b o, hp.get? b = some o → ((hp.push (kdv_tup [v])).push (excO C hp.objs.size)).get? b = some o := fun b o q => Heap.get?_push_of_some _ (Heap.get?_push_of_some _ q)
  have hget : ((hp.push (kdv_tup [v])).push (excO C hp.objs.size)).get? (hp.objs.size + 1) = some (excO C hp.objs.size) := by heap_get
  have hnx : K.lookup (hp.objs.size + 1) = none := by
    cases z : K.lookup (hp.objs.size + 1) with
    | none => rfl
    | some o => exact absurd (Nat.lt_of_succ_lt (Heap.lt_size (X _ _ z))) (Nat.lt_irrefl _)
  refine call_own F.excBase_ValueError (fun Y => refsVE_contains Y bm hbm) (X _ _ hC) (looks_findIn X T.iC) (fun self => bind_fn X self T.tC) (by rw [sizeLine_eq]; exact (by decide : 1 ≤ 16777216)) ?_
  refine sup_init (s := ⟨(hp.push (kdv_tup [v])).push (excO C hp.objs.size), g, dr, tk, os⟩) T (X.keeps k) (hlim.keeps k) (G.keeps k) ⟨mb, hmb.keeps k, hsup⟩ hget hnx ?_ FO hev fun h' tk' dx M => ?_
  · show A.depth + 1 < recursionLimit
    exact hroom
  · have old : ∀ b o, hp.get? b = some o → h'.get? b = some o := fun b o z => M.keep b o (Nat.ne_of_lt (Nat.lt_succ_of_lt (Heap.lt_size z))) (k b o z)
    have big : hp.objs.size ≤ dx := by
      have z := M.dbig
      have zz : hp.objs.size ≤ ((hp.push (kdv_tup [v])).push (excO C hp.objs.size)).objs.size := by
        rw [Heap.size_push, Heap.size_push]
        omega
      exact Nat.le_trans zz z
    obtain ⟨t1, hx⟩ := M.obj
    exact ⟨rfl, hq h' tk' (hp.objs.size + 1) dx ⟨old, Nat.le_succ _, ⟨_, _, hx, rfl, rfl, rfl, rfl⟩, big, M.dne, M.ns⟩⟩
end
section
variable {X : Cx} {cls fld : Str} {e : Expr} {C fI cc cda : Addr}
theorem relO_one {v : V} {u : Value} (r : RelV v u) (fld f : Str) : RelO (List.lookup f [(fld, v)]) (if f = fld then some u else none) := by
  by_cases hw : f = fld
  · subst hw
    rw [if_pos rfl, List.lookup_cons, beq_self_eq_true]
    exact r
  · rw [if_neg hw, List.lookup_cons, show (f == fld) = false by simpa using hw]
    trivial
/-- C(e): of e's value an exception with that field in its own dict -/
def tMkSup (C : Addr) (fld : Str) (ok : V → Prop) (ta : TA) : L2.St → Hp → XK → Prop := fun σ H Q => ta σ H fun vs H1 => ∃ v, vs = [v] ∧ ok v ∧ ∀ d, H1 d = none → Q (.ref C) (some d) (upd H1 d (.xd [(fld, v)]))
theorem pmk_sup {a : Expr} {ta : TA} {p pos : Pos} {k : Nat} {ok : V → Prop} (T : SupTxt X.prog X.K X.mg cls fld e C fI cc cda) (FO : FldOk fld) (hr : Room k X.A) (hev : ∀ v u, ok v → RelV v u → EvTxt X.prog X.w fld e u) (ha : PA X [a] ta)
    (hg : Gl X cls := by rfl) (hdb : (cls == ("__debug__" : Str)) = false := by decide) (he : starEach (a :: []) X.env = (false, eval a X.env) :: starEach [] X.env := by rfl) (hpl : (backTo pos (starEach [] X.env)).any (·.1) = false := by rfl) :
    PMk X (.Call (.Name cls p) [a] [] pos) (tMkSup C fld ok ta) := by
  intro pins s σ H Q I h
  refine wpAny_Call_Name_kw (ld_glob I hg T.gC ?_ hdb)
  refine callWith_K (h₀ := X.base) I.ok.mod.kin T.kC (thn (ha.run pos pins s σ H _ I h) fun us s1 hh => ?_) he hpl
  obtain ⟨vs, H1, I1, r1, v, ev, okv, q1⟩ := hh
  subst ev
  refine ⟨I1.kIn, ?_⟩
  cases r1 with
  | cons rv rn =>
    rename_i v' us'
    cases rn
    show wpAny _ _ (call (.ref C) [v']) _ _ _
    have hlim := I1.nolimit
    have gl : s1.heap.Ns mainGlobals X.mg := I1.mod.glob.keeps I1.bk
    obtain ⟨mb, hb1, hb2⟩ := I1.mod.blt
    have bl : ∃ mb, s1.heap.Ns builtinsNs mb ∧ mb "super" = bootBuiltins "super" := ⟨mb, hb1.keeps I1.bk, hb2 _ (by decide)⟩
    obtain ⟨hp, g, dr, tk, os⟩ := s1
    refine wpAny_call (sup_made T FO I1.kIn hlim gl bl (by have := hr.dp; omega) (hev _ _ okv rv) fun h' tk' x d M => ?_)
    obtain ⟨oe, fv, hoe, hc, hd, hdat, h1⟩ := M.obj
    obtain ⟨G', g1, g2⟩ := restrict h' fun b => decide (b ≠ x)
    have gk : ∀ b, b ≠ x → G'.get? b = h'.get? b := fun b hb => g1 b (decide_eq_true hb)
    have ge : G'.get? x = none := g2 x (by simp)
    have old : ∀ b o, hp.get? b = some o → G'.get? b = some o := fun b o q => (gk b (Nat.ne_of_lt (Nat.lt_of_lt_of_le (Heap.lt_size q) M.new))).trans (M.keep b o q)
    have ob : ObjOk X.prog X.w (upd H1 d (.xd [(fld, v)])) G' d (.xd [(fld, v)]) := ⟨_, M.ns.at (fun o q => (gk d M.dne).trans q), fun f => relO_one rv fld f⟩
    have J : L2.Inv X pins σ (upd H1 d (.xd [(fld, v)])) ⟨G', g, dr, tk', os⟩ := I1.laid (t' := tk') old M.dbig ob
    refine ⟨x, oe, fv, ⟨G', g, dr, tk', os⟩, _, .ref C, some d, rfl, J, fun b o q => ?_, ge, hoe, ⟨hc, hd⟩, hdat, h1, ?_, rfl, I1.bare, raises_own T.exC T.tyC, q1 d (I1.hok.fresh M.dbig)⟩
    · by_cases hb : b = x
      · have q' : G'.get? b = some o := q
        rw [hb, ge] at q'; cases q'
      · exact (gk b hb).symm.trans q
    · rw [upd_ne (Ne.symm M.dne)]
      exact I1.hok.fresh M.new
/-- raise C(e) -/
theorem ps_raiseSup {a : Expr} {ta : TA} {W : WX} {p pos pos2 : Pos} {k : Nat} {ok : V → Prop} (hc : X.calm = true) (T : SupTxt X.prog X.K X.mg cls fld e C fI cc cda) (FO : FldOk fld) (hr : Room k X.A) (tk : Takes X W) (hev : ∀ v u, ok v → RelV v u → EvTxt X.prog X.w fld e u) (ha : PA X [a] ta)
    (hg : Gl X cls := by rfl) (hdb : (cls == ("__debug__" : Str)) = false := by decide) (he : starEach (a :: []) X.env = (false, eval a X.env) :: starEach [] X.env := by rfl) (hpl : (backTo pos (starEach [] X.env)).any (·.1) = false := by rfl) :
    PS X (.Raise (some (.Call (.Name cls p) [a] [] pos)) none pos2) (fun _ σ H => tMkSup C fld ok ta σ H fun c d H' => W c d σ H') := ps_raise hc tk (pmk_sup T FO hr hev ha hg hdb he hpl)
/-- n.f, n the exception that the suite holds -/
def tBySup (C : Addr) (fld : Str) (a : Addr) (cv : Value) (d : Option Addr) (te : TE) : TE := fun σ H Q => te σ H fun x H1 => x = .ref a ∧ cv = .ref C ∧ ∃ (dd : Addr) (v : V), d = some dd ∧ H1 dd = some (.xd [(fld, v)]) ∧ Q v H1
theorem pe_bySup {a : Addr} {oe : Obj} {cv : Value} {d : Option Addr} {pn : List (Addr × Obj)} {en : Expr} {te : TE} {pos : Pos} (T : SupTxt X.prog X.K X.mg cls fld e C fI cc cda) (hz : Zc cv d oe) (hf : ∃ vs, oe.data = .fields vs) (he : PE (X.suite a ((a, oe) :: pn)) en te)
    (hb : attributeBase en fld X.env (eval en X.env) = eval en X.env := by rfl) :
    PE (X.suite a ((a, oe) :: pn)) (.Attribute en fld pos) (tBySup C fld a cv d te) := by
  refine ⟨fun pins s σ H Q I h => ?_⟩
  refine attr_of hb (thn (he.run pins s σ H _ I h) fun u s1 hh => ?_)
  obtain ⟨x, H1, I1, rx, ex, ec, dd, v, ed, ea, q⟩ := hh
  subst ex
  obtain rfl : u = Value.ref a := rx
  subst ec
  subst ed
  obtain ⟨ha, _⟩ := I1.pin (a, oe) (List.mem_append_left _ List.mem_cons_self)
  obtain ⟨vs, hd⟩ := hf
  have hx : ObjOk X.prog X.w H1 s1.heap dd (.xd [(fld, v)]) := I1.hok dd _ ea
  obtain ⟨mA, hns, hr⟩ := hx
  obtain ⟨od, ho, hl⟩ := lookIn_ns hns
  have l : List.lookup fld [(fld, v)] = some v := by rw [List.lookup_cons, beq_self_eq_true]
  obtain ⟨u, hu, ru⟩ := RelO.some_of (v := v) (o := mA fld) (by rw [← l]; exact hr fld)
  have J : InstAt s1.heap a oe C (some od) := ⟨ha, hz.1, by unfold notCls; rw [hd] <;> rfl, by rw [hz.2]; exact ho⟩
  exact exc_get I1.kIn J T.ga T.gg T.exC (findObj_own T.hdC T.noN rfl (by rw [hl, hu])) (handed_of ru) ⟨v, H1, I1.tok _, ru, q⟩
end
/-! ### isinstance(e, T), e the exception that the suite holds, with a dict of its own -/
structure KindTxt (K : Frag) (C : Addr) : Prop where
  ha : findIn K (.ref C) "__class__" = some (some (.builtin "object.__class__"))
  hn : specialIn K (.builtin "object.__class__") "__get__" = some (some (.builtin "getset_descriptor.__get__"))
  ht : takesIn K (.builtin "object.__class__") = some true
  hm : mroIn K C (.type "object") = some true
def rIsSup (K : Frag) (C a : Addr) (cv : Value) (d : Option Addr) : List V → Hp → VK → Prop := fun xs H Q => ∃ (c : V) (T : Value) (b : Bool) (dd : Addr) (fs : List (Str × V)), xs = [.ref a, c] ∧ cv = .ref C ∧ d = some dd ∧ H dd = some (.xd fs) ∧ (∀ u, RelV c u → u = T) ∧ kitOne K (.ref C) T = some b ∧ Q (.bl b) H
theorem call_isSup {X : Cx} {cls fld : Str} {e : Expr} {C fI cc cda a : Addr} {oe : Obj} {cv : Value} {d : Option Addr} {pn : List (Addr × Obj)} (T : SupTxt X.prog X.K X.mg cls fld e C fI cc cda) (KT : KindTxt X.K C) (hz : Zc cv d oe) (hf : ∃ vs, oe.data = .fields vs) :
    CallR (X.suite a ((a, oe) :: pn)) (.builtin "isinstance") (rIsSup X.K C a cv d) := by
  intro pins s σ H xs us Q I r h
  obtain ⟨c, cT, b, dd, fs, rfl, ec, ed, ea, hcv, hk, q⟩ := h
  obtain ⟨u1, u2, rfl, r1, r2⟩ := vals2 r
  cases r1
  have e2 := hcv _ r2
  subst e2 ec ed
  obtain ⟨hget, _⟩ := I.pin (a, oe) (List.mem_append.mpr (.inl List.mem_cons_self))
  obtain ⟨vs, hv⟩ := hf
  have hx : ObjOk X.prog X.w H s.heap dd (.xd fs) := I.hok dd _ ea
  obtain ⟨mA, hns, hr⟩ := hx
  obtain ⟨od, ho, hl⟩ := lookIn_ns hns
  have J : InstAt s.heap a oe C (some od) := ⟨hget, hz.1, by unfold notCls; rw [hv] <;> rfl, by rw [hz.2]; exact ho⟩
  have hcl : (clsIn X.K C).isSome = true := by
    obtain ⟨cd, hc, _⟩ := any_some T.hdC
    rw [hc]; rfl
  exact kia_one (kitx_exc hcl T.ga T.gg T.exC KT.ha KT.hn KT.ht KT.hm) I.kIn J hk (fun z => (nomatch z)) fun tk => ⟨.bl b, H, I.kept (t' := tk) fun _ _ z => z, rfl, q⟩
/-! ### one sign * number -/
theorem op_mul_one {X : Cx} : OpR X (binaryOp .Mult) (fun x y H Q => ∃ (c n : Nat), x = .str ⟨#[c]⟩ ∧ y = .int ((n : Nat) : Int) ∧ n ≤ 100000 ∧ Q (.str (strOf (List.replicate n c))) H) := by
  intro pins s σ H x y v u Q I rx ry h
  obtain ⟨c, n, rfl, rfl, hn, q⟩ := h
  obtain ⟨t, rfl⟩ := rx
  obtain ⟨t', rfl⟩ := ry
  have em : Txt.mul ⟨#[c]⟩ ((n : Nat) : Int) = strOf (List.replicate n c) := by
    refine ext_tl ?_
    show (Txt.mul ⟨#[c]⟩ ((n : Nat) : Int)).cps.toList = List.replicate n c
    rw [mul_one_list, Int.toNat_natCast]
  refine PySem.SB.mul ⟨?_, fun h1 h2 => ?_, fun h1 h2 => ?_⟩ fun tk k => ⟨.str (strOf (List.replicate n c)), H, I.tok k, ⟨tk, by rw [em]⟩, q⟩
  · rw [decide_eq_false (by omega), decide_eq_false (by omega)]
    rfl
  · show ¬ (((1 : Nat) : Int) > (2 ^ 63 - 1) / ((n : Nat) : Int))
    have : (1 : Int) ≤ (2 ^ 63 - 1) / ((n : Nat) : Int) := by
      rw [Int.le_ediv_iff_mul_le (by omega)]
      omega
    omega
  · show Builtin.Str.tooLong (1 * ((n : Nat) : Int).toNat) = false
    unfold Builtin.Str.tooLong
    rw [sizeLine_eq]
    simp
    omega
/-- f'{place}' of a whole number -/
theorem ev_place {P : Program} {w : World} {fld : Str} {p6 p7 p8 : Pos} (FO : FldOk fld) {n : Int} (hn : n.natAbs.log2 < 1920) {v : V} {u : Value} (hv : v = .int n) (r : RelV v u) : EvTxt P w fld (.JoinedStr [.FormattedValue (.Name fld p6) (-1) none p7] p8) u := by
  intro A env E Q s m hs hns hm hq
  subst hv
  obtain ⟨t, rfl⟩ := r
  refine wpAny_JoinedStr_one (wpAny_FormattedValue_plain ?_)
  refine wpAny_Name (wpAny_loadName_local (by rw [hs]; rfl) (by show env.scope.names.lookup fld = _; rw [hs]; exact FO.look) hns hm ?_) FO.ndb
  exact wpAny_formatField_int hn (hq _ _ _)
end Tst
/-! Reading that may fail, in plain Lean. -/
namespace Tst
open PySem PySem.Spec PyProof.Rows L2 TL
theorem textAt_free : ∀ (u t : List Nat) (p : Nat) (acc : List Nat), (∀ c ∈ u, plainSign c = true) → 10 ∉ u → textAt (u ++ t) p acc = textAt t (p + u.length) (acc ++ u)
  | [], t, p, acc, _, _ => by simp
  | c :: u, t, p, acc, hu, h10 => by
    have hc := hu c List.mem_cons_self
    have h1 : c ≠ 34 ∧ c ≠ 92 := by
      unfold plainSign at hc
      simp at hc
      exact hc
    have h2 : c ≠ 10 := fun e => h10 (by rw [e]; exact List.mem_cons_self)
    have ih := textAt_free u t (p + 1) (acc ++ [c]) (fun x hx => hu x (List.mem_cons_of_mem _ hx)) fun h => h10 (List.mem_cons_of_mem _ h)
    show textAt (c :: (u ++ t)) p acc = _
    rw [textAt.eq_def]
    simp only
    rw [if_neg h1.1, if_neg h1.2, if_neg h2, ih, List.length_cons, List.append_assoc]
    rw [show p + 1 + u.length = p + (u.length + 1) by omega]
    rfl
theorem textAt_feed (u t : List Nat) (p : Nat) (acc : List Nat) (hu : ∀ c ∈ u, plainSign c = true) (h10 : 10 ∉ u) : textAt (u ++ 10 :: t) p acc = .error (p + u.length) := by
  rw [textAt_free u (10 :: t) p acc hu h10, textAt.eq_def]
  rfl
theorem textAt_nil (p : Nat) (acc : List Nat) : textAt [] p acc = .error p := by rw [textAt.eq_def]
theorem textAt_end (r : List Nat) (p : Nat) (acc : List Nat) : textAt (34 :: r) p acc = .ok (acc, p + 1) := by rw [textAt.eq_def]; rfl
theorem textAt_slash (r : List Nat) (p : Nat) (acc : List Nat) : textAt (92 :: r) p acc = match r with
    | [] => .error (p + 1)
    | e :: r' => if e = 34 ∨ e = 92 then textAt r' (p + 2) (acc ++ [e]) else if e = 110 then textAt r' (p + 2) (acc ++ [10]) else .error (p + 1) := by
  rw [textAt.eq_def]
  cases r <;> rfl
/-- the digits behind the sign, and what the reader makes of them -/
theorem intAt_eq (L : List Nat) (p : Nat) : ∃ (b : Nat) (ds post : List Nat), ((L[p]? = some 45 ∧ b = p + 1) ∨ (L[p]? ≠ some 45 ∧ b = p)) ∧ L.drop b = ds ++ post ∧ Stop post ∧ (∀ x ∈ ds, dig x = true) ∧
    intAt L p = match ds with
      | [] => .error b
      | c :: r => if c = 48 then (if b > p then .error b else if r = [] then .ok (.int 0, b + 1) else .error (b + 1))
        else if r.length ≥ 2000 then .error (b + 2000)
        else .ok (.int (if b > p then - (NumText.digitsVal (c :: r) : Int) else (NumText.digitsVal (c :: r) : Int)), b + (r.length + 1)) := by
  obtain ⟨post, e, hs, hd⟩ := run_of (L.drop (if L[p]? = some 45 then p + 1 else p))
  refine ⟨if L[p]? = some 45 then p + 1 else p, _, post, ?_, e, hs, hd, ?_⟩
  · by_cases c : L[p]? = some 45
    · rw [if_pos c]; exact .inl ⟨c, rfl⟩
    · rw [if_neg c]; exact .inr ⟨c, rfl⟩
  · unfold intAt
    rfl
theorem intAt_none {L : List Nat} {p : Nat} (h : L[p]? = none) : intAt L p = .error p := by
  obtain ⟨b, ds, post, hb, e, _, _, q⟩ := intAt_eq L p
  have hb' : b = p := by
    rcases hb with ⟨h1, _⟩ | ⟨_, h2⟩
    · rw [h] at h1; cases h1
    · exact h2
  subst hb'
  have hd : L.drop b = [] := List.drop_eq_nil_of_le (by simpa using h)
  rw [hd] at e
  have : ds = [] := (List.append_eq_nil_iff.mp e.symm).1
  subst this
  exact q
/-- a place small enough to be written -/
theorem log_place {n : Nat} (h : n ≤ 2000000) : ((n : Nat) : Int).natAbs.log2 < 1920 := by
  rw [Int.natAbs_natCast]
  by_cases h0 : n = 0
  · rw [h0]; decide
  · rw [Nat.log2_lt h0]
    exact Nat.lt_of_le_of_lt h (by decide +kernel)
end Tst
/-! What is read: where it ends, how wide and how deep it is; the value's reading by its first sign. -/
namespace Tst
open PySem PySem.Spec PyProof.Rows L2 TL
theorem textAt_lt : ∀ (n : Nat) (R : List Nat) (p : Nat) (acc s : List Nat) (q : Nat), R.length ≤ n → textAt R p acc = .ok (s, q) → p < q ∧ q ≤ p + R.length
  | n, [], p, acc, s, q, _, h => by rw [textAt.eq_def] at h; cases h
  | 0, c :: r, p, acc, s, q, hn, h => absurd hn (by simp)
  | n + 1, c :: r, p, acc, s, q, hn, h => by
    rw [textAt.eq_def] at h
    simp only at h
    rw [List.length_cons] at hn ⊢
    split at h
    · cases h; omega
    · split at h
      · cases r with
        | nil => cases h
        | cons e r' =>
          rw [List.length_cons] at hn ⊢
          simp only at h
          split at h
          · have := textAt_lt n r' _ _ _ _ (by omega) h
            omega
          · split at h
            · have := textAt_lt n r' _ _ _ _ (by omega) h
              omega
            · cases h
      · split at h
        · cases h
        · have := textAt_lt n r _ _ _ _ (by omega) h
          omega
theorem intAt_lt {L : List Nat} {p q : Nat} {d : D} (h : intAt L p = .ok (d, q)) : p < q ∧ q ≤ L.length ∧ ∃ i, d = .int i := by
  obtain ⟨b, ds, post, hb, e, _, _, hI⟩ := intAt_eq L p
  have hbp : p ≤ b := by rcases hb with ⟨_, rfl⟩ | ⟨_, rfl⟩ <;> omega
  rw [hI] at h
  cases ds with
  | nil => cases h
  | cons c r =>
    have hl := congrArg List.length e
    rw [List.length_drop, List.length_append, List.length_cons] at hl
    simp only at h
    split at h
    · split at h
      · cases h
      · split at h
        · cases h
          exact ⟨by omega, by omega, _, rfl⟩
        · cases h
    · split at h
      · cases h
      · cases h
        exact ⟨by omega, by omega, _, rfl⟩
def tupAt (L : List Nat) (l p : Nat) : PR := if L[p]? = some 41 then .ok (.tup [], p + 1) else members L (valueAt L l) (L.length + 1) p []
def textV : Except Nat (List Nat × Nat) → PR
  | .error q => .error q
  | .ok (s, q) => .ok (.str (strOf s), q)
theorem valueAt_eq (L : List Nat) (l p : Nat) : valueAt L l p = if L[p]? = some 78 then .ok (.non, p + 1) else if L[p]? = some 84 then .ok (.bl true, p + 1) else if L[p]? = some 70 then .ok (.bl false, p + 1)
    else if L[p]? = some 34 then textV (textAt (L.drop (p + 1)) (p + 1) []) else if L[p]? = some 40 then (match l with | 0 => .error p | m + 1 => tupAt L m (p + 1)) else intAt L p := by
  unfold valueAt
  cases g : L[p]? with
  | none =>
    simp only [g]
    simpa using (intAt_none g).symm
  | some c =>
    simp only [g, Option.some.injEq]
    cases l with
    | zero => rfl
    | succ m => rfl
/-- how wide and how deep -/
inductive Lim (N : Nat) : Nat → D → Prop
  | non (n : Nat) : Lim N n .non
  | bl (n : Nat) (b : Bool) : Lim N n (.bl b)
  | int (n : Nat) (i : Int) : Lim N n (.int i)
  | str (n : Nat) (z : Str) : Lim N n (.str z)
  | tup (n : Nat) (xs : List D) : xs.length ≤ N → (∀ d ∈ xs, Lim N n d) → Lim N (n + 1) (.tup xs)
theorem members_lim {L : List Nat} {f : Nat → PR} {N l : Nat} (hf : ∀ p d q, f p = .ok (d, q) → p < q ∧ q ≤ L.length ∧ Lim N l d) : ∀ (n p : Nat) (acc : List D) (d : D) (q : Nat), members L f n p acc = .ok (d, q) → (∀ x ∈ acc, Lim N l x) → acc.length + n ≤ N → p < q ∧ q ≤ L.length ∧ Lim N (l + 1) d
  | 0, p, acc, d, q, h, _, _ => by cases h
  | n + 1, p, acc, d, q, h, ha, hn => by
    unfold members at h
    cases e : f p with
    | error k => rw [e] at h; cases h
    | ok dq =>
      obtain ⟨d1, k⟩ := dq
      obtain ⟨h1, h2, h3⟩ := hf p d1 k e
      rw [e] at h
      simp only at h
      have hall : ∀ x ∈ acc ++ [d1], Lim N l x := fun x hx => by
        rcases List.mem_append.mp hx with hx | hx
        · exact ha x hx
        · rw [List.mem_singleton] at hx; rw [hx]; exact h3
      have hlen : (acc ++ [d1]).length = acc.length + 1 := by rw [List.length_append]; rfl
      cases g : L[k]? with
      | none => rw [g] at h; cases h
      | some c =>
        have hk := (List.getElem?_eq_some_iff.mp g).1
        rw [g] at h
        simp only at h
        split at h
        · cases h
          exact ⟨by omega, by omega, .tup _ _ (by omega) hall⟩
        · split at h
          · have := members_lim hf n _ _ _ _ h hall (by omega)
            exact ⟨by omega, this.2⟩
          · cases h
theorem valueAt_lim {L : List Nat} : ∀ {l p q : Nat} {d : D}, valueAt L l p = .ok (d, q) → p < q ∧ q ≤ L.length ∧ Lim (L.length + 1) l d := by
  intro l
  induction l with
  | zero =>
    intro p q d h
    rw [valueAt_eq] at h
    have hlt : ∀ c, L[p]? = some c → p < L.length := fun c g => (List.getElem?_eq_some_iff.mp g).1
    split at h
    · rename_i g; cases h; exact ⟨by omega, hlt _ g, .non _⟩
    split at h
    · rename_i g; cases h; exact ⟨by omega, hlt _ g, .bl _ _⟩
    split at h
    · rename_i g; cases h; exact ⟨by omega, hlt _ g, .bl _ _⟩
    split at h
    · rename_i g
      have := hlt _ g
      cases e : textAt (L.drop (p + 1)) (p + 1) [] with
      | error k => rw [e] at h; cases h
      | ok sq =>
        obtain ⟨s, k⟩ := sq
        rw [e] at h
        cases h
        have t := textAt_lt _ _ _ _ _ _ (Nat.le_refl _) e
        rw [List.length_drop] at t
        exact ⟨by omega, by omega, .str _ _⟩
    split at h
    · cases h
    · obtain ⟨h1, h2, i, rfl⟩ := intAt_lt h
      exact ⟨h1, h2, .int _ _⟩
  | succ m ih =>
    intro p q d h
    rw [valueAt_eq] at h
    have hlt : ∀ c, L[p]? = some c → p < L.length := fun c g => (List.getElem?_eq_some_iff.mp g).1
    split at h
    · rename_i g; cases h; exact ⟨by omega, hlt _ g, .non _⟩
    split at h
    · rename_i g; cases h; exact ⟨by omega, hlt _ g, .bl _ _⟩
    split at h
    · rename_i g; cases h; exact ⟨by omega, hlt _ g, .bl _ _⟩
    split at h
    · rename_i g
      have := hlt _ g
      cases e : textAt (L.drop (p + 1)) (p + 1) [] with
      | error k => rw [e] at h; cases h
      | ok sq =>
        obtain ⟨s, k⟩ := sq
        rw [e] at h
        cases h
        have t := textAt_lt _ _ _ _ _ _ (Nat.le_refl _) e
        rw [List.length_drop] at t
        exact ⟨by omega, by omega, .str _ _⟩
    split at h
    · simp only at h
      unfold tupAt at h
      split at h
      · rename_i g
        cases h
        have := hlt
        have := (List.getElem?_eq_some_iff.mp g).1
        exact ⟨by omega, by omega, .tup _ _ (by simp) (fun d hd => by cases hd)⟩
      · have := members_lim (fun p d q h => ih h) _ _ _ _ _ h (fun x hx => by cases hx) (by simp)
        exact ⟨by omega, this.2⟩
    · obtain ⟨h1, h2, i, rfl⟩ := intAt_lt h
      exact ⟨h1, h2, .int _ _⟩
end Tst
/-! Rules that the hand layer does not have: z[::-1], list(map(ord, z)), sum(accumulate(xs)). -/
namespace Tst
open PySem PySem.Spec PyProof.Rows L2 TL
theorem rev_indices (n : Nat) : Builtin.Str.strSliceIndices none none (-1) n = (List.range n).reverse := by
  unfold Builtin.Str.strSliceIndices
  show sliceRange ((n : Int) - 1) (-1) (-1) = _
  rw [PySem.W.krv_sliceRange, PySem.W.krv_range]
theorem pick_rev (z : Str) : (⟨(((List.range z.length).reverse).filterMap (z.cps[·]?)).toArray⟩ : Str) = ⟨((tl z).reverse).toArray⟩ := by
  have e : (List.range z.length).filterMap (z.cps[·]?) = tl z := PySem.W.krv_all z.cps
  rw [List.filterMap_reverse, e]
def tRevS (te : TE) : TE := fun σ H Q => te σ H fun x H1 => ∃ z, x = .str z ∧ z.length ≤ sizeLine ∧ Q (.str ⟨((tl z).reverse).toArray⟩) H1
theorem pe_revS {X : Cx} {e : Expr} {te : TE} {k : Nat} {p1 p2 p3 pos : Pos} (he : PE X e te) : PE X (.Subscript e (.Slice none none (some (.UnaryOp .USub (.Constant (.int 1) k p1) p2)) p3) pos) (tRevS te) := by
  refine ⟨fun pins s σ H Q I h => ?_⟩
  refine Subscript_ (thn (he.run pins s σ H _ I h) fun v s1 ⟨x, H1, I1, r1, z, ex, hz, q⟩ => ?_)
  subst ex
  obtain ⟨t, rfl⟩ := r1
  have stepE : PO X (some (.UnaryOp .USub (.Constant (.int 1) k p1) p2)) (tPart (tUn (rU fun i => .int (-i)) (tC (.int 1)))) := po_some (pe_un un_neg pe_int)
  refine wpAny_Slice (thn (po_none.run pins s1 σ H1 (fun o G => o = none ∧ G = H1) I1 ⟨rfl, rfl⟩) fun vl s2 ⟨l, H2, I2, pl, el, g2⟩ => ?_)
  subst el g2
  refine thn (po_none.run pins s2 σ H2 (fun o G => o = none ∧ G = H2) I2 ⟨rfl, rfl⟩) fun vu s3 ⟨u, H3, I3, pu, eu, g3⟩ => ?_
  subst eu g3
  refine thn (stepE.run pins s3 σ H3 (fun o G => o = some (-1) ∧ G = H3) I3 ⟨1, rfl, -1, rfl, rfl, rfl⟩) fun vs s4 ⟨o, H4, I4, ps, eo, g4⟩ => ?_
  subst eo g4
  have I5 : Inv X pins σ H4 { s4 with heap := s4.heap.push { cls := .type "slice", data := .fields #[vl, vu, vs] } } := I4.kept (t' := s4.toks) fun b ob q => Heap.get?_push_of_some _ q
  obtain ⟨l', rfl, el'⟩ := IsPart.raw pl
  obtain ⟨u', rfl, eu'⟩ := IsPart.raw pu
  obtain ⟨w', rfl, ew'⟩ := IsPart.raw ps
  cases l' with
  | some l' => cases el'
  | none =>
  cases u' with
  | some u' => cases eu'
  | none =>
  cases w' with
  | none => cases ew'
  | some w' =>
  obtain ⟨i, tk⟩ := w'
  cases ew'
  show wpAny (model X.prog X.w) X.A (subscriptTail e (.Slice none none (some (.UnaryOp .USub (.Constant (.int 1) k p1) p2)) p3) (.str z t) (.ref s4.heap.objs.size)) (EP X pins σ Q) X.xe _
  refine tail_any (ops := [.str z t, .ref s4.heap.objs.size]) (typeIs_str _ _ _) F.slot_str_getitem.lookup ?_ (by with_unfolding_all rfl)
  refine wpAny_getItem_str_slice (l := none) (u := none) (st := some (-1, tk)) ⟨_, Heap.get?_push_size _ rfl, rfl, rfl⟩ rfl ?_
  show Made.post (Made.str ⟨((Builtin.Str.strSliceIndices none none (-1) z.length).filterMap (z.cps[·]?)).toArray⟩) (EP X pins σ Q) _
  rw [rev_indices, pick_rev]
  refine ⟨?_, .str _, H4, I5.tok _, ⟨_, rfl⟩, q⟩
  show ((tl z).reverse).toArray.size ≤ _
  rw [List.size_toArray, List.length_reverse, ← len_tl]
  exact hz

/-! ### list(map(ord, z)) -/
section
variable {prog : Program} {w : World} {A : Around} {E : Value → Shared → Prop} {s : Shared}
/-- an iterator of a text can be drawn from -/
theorem draws_str (hh : A.handled = none) (it : Addr) (x : Str) (t : Tok) :
    Draws prog w A it [it] x.cps.size (fun i v => ∃ c u, x.cps[i]? = some c ∧ v = .str ⟨#[c]⟩ u) (fun i h => h.IsStrIter it (strIterType x) x t i) := by
  cases ha : x.cps.all (· < 128) with
  | true =>
    have e : strIterType x = "str_ascii_iterator" := by simp [strIterType, ha]
    rw [e]
    exact Draws.strAscii hh it x t
  | false =>
    have e : strIterType x = "str_iterator" := by simp [strIterType, ha]
    rw [e]
    exact Draws.strWide hh it x t
theorem init_walked {R : Result → Shared → Prop} {I S : Addr} {fp wr : List Addr} {n : Nat} {P : Nat → Value → Prop} {St : Nat → Shared → Prop} {T : String}
    (nl : typeLookup (.type T) "__len__" = pure none) (nh : typeLookup (.type T) "__length_hint__" = pure none) (t1 : (Value.type T == Value.type "list") = false) (t2 : (Value.type T == Value.type "tuple") = false)
    (W : WalksS prog w A.in1 I fp wr (fun a b => b = a) n P St) (hT : ∀ i q, St i q → q.TypeIs (.ref I) T) (st : St 0 s) (sf : S ∉ fp) (hI : I ∈ fp) (hn : n ≤ sizeLine)
    (o : s.heap.get? S = some { cls := .type "list", data := .seq #[] })
    (hR : ∀ q acc c, Moved (S :: wr) (fun a b => b = a) s q → q.heap.get? S = some { cls := .type "list", dict := none, data := .seq acc c, slots := #[] } → ItemsOf P acc n → R (.ok (.ret .none)) q) :
    wpAny (model prog w) A.in1 (Builtin.«list.__init__» ⟨[.ref S, .ref I], []⟩)
      (fun fin q => match fin with | .done f => R (.ok f) q | .again c => c.quiet = true ∧ codeAny (model prog w) A c R q) (fun e q => R (.error e) q) s := by
  have hne : S ≠ I := fun e => sf (by rw [e]; exact hI)
  have keep : ∀ {h h' : Heap}, (∀ b ob, b ≠ S → h.get? b = some ob → h'.get? b = some ob) → ∀ b ∈ fp, ∀ ob, h.get? b = some ob → h'.get? b = some ob := fun k b hb ob e => k b ob (fun z => sf (by rw [← z]; exact hb)) e
  show wpAny _ _ (Builtin.List.listItems (.ref S) >>= fun old => Builtin.List.listUpdate (.ref S) (fun _ => #[]) >>= fun _ => letGo old.toList.reverse >>= fun _ => Builtin.List.listExtendWith (.ref S) (.ref I) .none) _ _ s
  refine wpAny_bind ?_
  unfold Builtin.List.listItems
  refine wpAny_bind (wpAny_seqItems o rfl (wpAny_pure ?_))
  show wpAny _ _ (updateSeq S (fun _ => #[]) >>= fun _ => letGo ((#[] : Array Value).toList.reverse) >>= fun _ => Builtin.List.listExtendWith (.ref S) (.ref I) .none) _ _ s
  refine wpAny_bind (wpAny_updateSeq o rfl ?_)
  have o2 := Heap.get?_update_self (Obj.mapSeq fun _ => (#[] : Array Value)) o rfl
  have k2 : ∀ b ob, b ≠ S → s.heap.get? b = some ob → (s.heap.update S (Obj.mapSeq fun _ => (#[] : Array Value))).get? b = some ob := fun b ob hb e => (Heap.get?_update_other _ _ (Ne.symm hb)).trans e
  refine wpAny_bind (wpAny_letGo ?_)
  have st2 := W.frame 0 s (s.heap.update S (Obj.mapSeq fun _ => (#[] : Array Value))) s.toks st (Nat.le_refl _) (keep k2)
  unfold Builtin.List.listExtendWith
  refine wpAny_bind (wpAny_typeOf (hT 0 _ st2) ?_)
  have q1 : Builtin.List.listSameRef (.ref S) (.ref I) = false := by simp [Builtin.List.listSameRef, hne]
  simp only [q1, t1, t2, Bool.or_false, Bool.false_eq_true, if_false]
  refine wpAny_bind (W.self 0 _ _ _ st2 (wpAny_bind (wpAny_holding ?_)))
  unfold Builtin.List.listLengthHint
  refine wpAny_bind (wpAny_specialOf (hT 0 _ st2) nl ?_)
  show wpAny _ _ (specialOf (Value.ref I) (Str.ofString "__length_hint__") >>= _) _ _ _
  refine wpAny_bind (wpAny_specialOf (hT 0 _ st2) nh (wpAny_pure ?_))
  show wpAny _ _ (rule "list.extend.makes-room" >>= fun _ => Builtin.List.listTouch (.ref S) >>= fun _ => again (.builtin "list.extend.loop" ⟨[.ref S, .ref I, .none], []⟩)) _ _ _
  refine wpAny_bind (wpAny_rule (wpAny_bind ?_))
  show wpAny _ _ (updateSeq S (·.push .none) >>= fun _ => updateSeq S (·.pop)) _ _ _
  refine wpAny_bind (wpAny_updateSeq o2 rfl ?_)
  have o3 := Heap.get?_update_self (Obj.mapSeq (·.push Value.none)) o2 rfl
  refine wpAny_updateSeq o3 rfl ?_
  have o4 := Heap.get?_update_self (Obj.mapSeq (·.pop)) o3 rfl
  have k4 : ∀ b ob, b ≠ S → s.heap.get? b = some ob → (((s.heap.update S (Obj.mapSeq fun _ => (#[] : Array Value))).update S (Obj.mapSeq (·.push Value.none))).update S (Obj.mapSeq (·.pop))).get? b = some ob :=
    fun b ob hb e => (Heap.get?_update_other _ _ (Ne.symm hb)).trans ((Heap.get?_update_other _ _ (Ne.symm hb)).trans (k2 b ob hb e))
  refine wpAny_pure ⟨plainId_quiet F.plain_extend_loop _, codeAny_extend_loopS W hn S sf _ n 0 _ _ _ rfl (Nat.zero_le _) (W.frame 0 s _ s.toks st (Nat.le_refl _) (keep k4)) o4 (ItemsOf.nil P) fun q acc c hm hS hacc => ?_⟩
  exact hR q acc c ⟨fun b ob hb e => hm.heap b ob hb (k4 b ob (fun z => hb (by rw [z]; exact List.mem_cons_self)) e), hm.gens, hm.drawn, hm.os, hm.toks⟩ hS hacc
/-- list(it), it an object that is walked and gives no hint of its length -/
theorem call_list_walked {I : Addr} {fp wr : List Addr} {n : Nat} {P : Nat → Value → Prop} {St : Nat → Shared → Prop} {T : String} {Q : Value → Shared → Prop}
    (nl : typeLookup (.type T) "__len__" = pure none) (nh : typeLookup (.type T) "__length_hint__" = pure none) (t1 : (Value.type T == Value.type "list") = false) (t2 : (Value.type T == Value.type "tuple") = false)
    (W : WalksS prog w A.in1.in1 I fp wr (fun a b => b = a) n P St) (hT : ∀ i q, St i q → q.TypeIs (.ref I) T) (st : St 0 s) (hfp : ∀ b ∈ fp, b < s.heap.objs.size) (hI : I ∈ fp) (hn : n ≤ sizeLine)
    (hQ : ∀ q acc c, Moved (s.heap.objs.size :: wr) (fun a b => b = a) { s with heap := s.heap.push { cls := .type "list", data := .seq #[] } } q →
      q.heap.get? s.heap.objs.size = some { cls := .type "list", dict := none, data := .seq acc c, slots := #[] } → ItemsOf P acc n → Q (.ref s.heap.objs.size) q) :
    wpAny (model prog w) A (call (.type "list") [.ref I]) Q E s := by
  have sf : s.heap.objs.size ∉ fp := fun hm => Nat.lt_irrefl _ (hfp _ hm)
  refine callType_codes (Q₁ := fun u q => u = .ref s.heap.objs.size ∧ q = { s with heap := s.heap.push { cls := .type "list", data := .seq #[] } }) F.called_list (F.typeCall_list_1 _) F.entry_list_init (code_list_new _ ⟨rfl, rfl⟩) fun u q z => ?_
  obtain ⟨rfl, rfl⟩ := z
  have o : (s.heap.push { cls := .type "list", data := .seq #[] }).get? s.heap.objs.size = some { cls := .type "list", data := .seq #[] } := Heap.get?_push_size _ rfl
  exact ⟨⟨_, o, rfl⟩, F.args_list_init_2 _ _, init_walked nl nh t1 t2 W hT (W.frame 0 s _ s.toks st (Nat.le_refl _) fun b _ ob e => Heap.get?_push_of_some _ e) sf hI hn o fun q acc c hm hS hacc => ⟨rfl, hQ q acc c hm hS hacc⟩⟩
theorem list_map_str {f : Value} {x : Str} {t : Tok} {C : Value → Prop} {R : Value → Value → Prop} {Q : Value → Shared → Prop} (hh : A.handled = none) (hF : MpR.MapF prog w f C R) (hC : ∀ c u, C (.str ⟨#[c]⟩ u)) (hn : x.length ≤ sizeLine)
    (hQ : ∀ L h' k acc c, s.heap.objs.size ≤ L → (∀ b o, s.heap.get? b = some o → h'.get? b = some o) → h'.get? L = some { cls := .type "list", dict := none, data := .seq acc c, slots := #[] } → acc.size = x.cps.size →
      (∀ (j : Nat) v, acc[j]? = some v → ∃ c u, x.cps[j]? = some c ∧ R (.str ⟨#[c]⟩ u) v) → Q (.ref L) { s with heap := h', toks := k }) :
    wpAny (model prog w) A (call (.type "map") [f, .str x t]) (fun v s1 => wpAny (model prog w) A (call (.type "list") [v]) Q E s1) E s := by
  refine MpR.call_map (wpAny_pyIter_strU ?_)
  intro h' hO hM hsz hk
  have z1 : (s.heap.push { cls := .type (strIterType x), data := .fields #[.str x t, .int 0 0] }).objs.size = s.heap.objs.size + 1 := Heap.size_push ..
  have hit : h'.IsStrIter s.heap.objs.size (strIterType x) x t 0 := ⟨_, hk _ _ (Heap.get?_push_size _ rfl), rfl, rfl⟩
  have hmi : (s.heap.push { cls := .type (strIterType x), data := .fields #[.str x t, .int 0 0] }).objs.size + 1 ≠ s.heap.objs.size := by rw [z1]; omega
  have hTi : (s.heap.push { cls := .type (strIterType x), data := .fields #[.str x t, .int 0 0] }).objs.size ≠ s.heap.objs.size := by rw [z1]; omega
  have W := MpR.walks_map (A := A.in1.in1) (show A.in1.in1.handled = none from hh) (draws_str (show A.in1.in1.in1.handled = none from hh) s.heap.objs.size x t) hF hmi hTi (by simp) (fun i u ⟨c, v, _, e⟩ => by rw [e]; exact hC c v)
  have big : h'.objs.size = s.heap.objs.size + 3 := by
    have : h'.objs.size = (s.heap.push { cls := .type (strIterType x), data := .fields #[.str x t, .int 0 0] }).objs.size + 2 := hsz
    omega
  refine call_list_walked (s := { s with heap := h' }) MpR.nolen_mp MpR.nohint_mp (by decide) (by decide) W (fun i q st => ⟨_, st.1, rfl⟩) ⟨hM, hO, hit⟩ (fun b hb => ?_) (by simp) hn fun q acc c hm hS hacc => ?_
  · show b < h'.objs.size
    rcases List.mem_cons.mp hb with rfl | hb
    · exact Heap.lt_size hM
    · rcases List.mem_cons.mp hb with rfl | hb
      · exact Heap.lt_size hO
      · rw [List.mem_singleton.mp hb, big]
        exact Nat.lt_add_of_pos_right (by decide)
  · rw [Moved.eq_with hm]
    refine hQ _ q.heap q.toks acc c ?_ (fun b o e => ?_) hS hacc.1 fun j v hv => ?_
    · show _ ≤ h'.objs.size
      omega
    · have e1 : h'.get? b = some o := hk b o (Heap.get?_push_of_some _ e)
      refine hm.heap b o (fun hb => ?_) (Heap.get?_push_of_some _ e1)
      rcases List.mem_cons.mp hb with z | hb
      · have : b < s.heap.objs.size := Heap.lt_size e
        have z' : b = h'.objs.size := z
        rw [z', big] at this
        exact absurd this (Nat.not_lt.mpr (Nat.le_add_right _ _))
      · have : b < s.heap.objs.size := Heap.lt_size e
        rw [List.mem_singleton.mp hb] at this
        exact absurd this (Nat.lt_irrefl _)
    · obtain ⟨u, ⟨c', u', hc', rfl⟩, hr⟩ := hacc.2 j v hv
      exact ⟨c', u', hc', hr⟩
end
def ordV : V → Int
  | .str a => ((a.cps.getD 0 0 : Nat) : Int)
  | _ => 0
theorem mapV_ord {prog : Program} {w : World} : MapV prog w (.builtin "ord") (fun x => ∃ c : Nat, x = .str ⟨#[c]⟩) (fun x => .int (ordV x)) := by
  refine mapV_of fun A E Q s x u _ hc rx h => ?_
  obtain ⟨c, rfl⟩ := hc
  obtain ⟨t, rfl⟩ := rx
  exact ord_of_one rfl (h _ _ ⟨_, rfl⟩)
theorem vals_by : ∀ {xs : List V} {us : List Value}, xs.length = us.length → (∀ (i : Nat) x u, xs[i]? = some x → us[i]? = some u → RelV x u) → Vals xs us
  | [], [], _, _ => .nil
  | [], _ :: _, h, _ => by simp at h
  | _ :: _, [], h, _ => by simp at h
  | x :: xs, u :: us, h, hr => .cons (hr 0 x u rfl rfl) (vals_by (by simpa using h) fun i y v hy hv => hr (i + 1) y v (by simpa using hy) (by simpa using hv))
/-- list(map(f, z)), z a text -/
def tListMapS (C : V → Prop) (g : V → V) (ta : TA) : TE := fun σ H Q => ta σ H fun vs H2 => ∃ z : Str, vs = [.str z] ∧ z.length ≤ sizeLine ∧ (∀ c : Nat, C (.str ⟨#[c]⟩)) ∧ ∀ L, H2 L = none → Q (.ref L) (upd H2 L (.lst ((tl z).map fun c => g (.str ⟨#[c]⟩))))
theorem pe_listMapS {X : Cx} {fe e : Expr} {ta : TA} {f : Value} {C : V → Prop} {g : V → V} {p0 pos p pos2 : Pos} (hc : X.calm = true) (hgs : Gl X "list") (hms : X.mg "list" = none) (hg : Gl X "map") (hm : X.mg "map" = none) (hf : PF X fe f) (ha : PA X [e] ta)
    (hF : MapV X.prog X.w f C g) (hs1 : starEach [.Call (.Name "map" p) [fe, e] [] pos2] X.env = (false, eval (.Call (.Name "map" p) [fe, e] [] pos2) X.env) :: starEach [] X.env := by rfl)
    (hp1 : (backTo pos (starEach [] X.env)).any (·.1) = false := by rfl) (hs : starEach [fe, e] X.env = (false, eval fe X.env) :: starEach [e] X.env := by rfl) (hpl : (backTo pos2 (starEach [e] X.env)).any (·.1) = false := by rfl) :
    PE X (.Call (.Name "list" p0) [.Call (.Name "map" p) [fe, e] [] pos2] [] pos) (tListMapS C g ta) := by
  refine ⟨fun pins s σ H Q I h => ?_⟩
  refine wpAny_Call_Name_kw (ld_blt I hgs hms PySem.Pv.boot_list (PyProof.Rows.callWith_type1 ?_ hs1 hp1))
  rw [hs1]
  show wpAny _ _ (spliced ((false, eval (.Call (.Name "map" p) [fe, e] [] pos2) X.env) :: backTo pos (starEach [] X.env))) _ _ s
  refine Calls.spliced_cons (wpAny_Call_Name_kw (ld_blt I hg hm boot_map (PyProof.Rows.callWith_type1 ?_ hs hpl)))
  rw [hs]
  show wpAny _ _ (spliced ((false, eval fe X.env) :: backTo pos2 (starEach [e] X.env))) _ _ s
  refine Calls.spliced_cons (hf.run pins s σ H _ I fun s2 I2 => ?_)
  refine thn (ha.run pos2 pins s2 σ H _ I2 h) fun us s3 ⟨vs, H2, I3, r3, z, ev, hz, hC, q3⟩ => ?_
  subst ev
  cases r3 with
  | cons r rr =>
    cases rr
    obtain ⟨t, rfl⟩ := r
    refine wpAny_mono (list_map_str (Q := EP X pins σ Q) (E := X.xe) (I3.ok.hd hc) hF (fun c u => ⟨_, hC c, u, rfl⟩) hz fun L h' k acc n hL hk hO ha hv => ?_) (fun v s4 h4 => Calls.spliced_nil h4) fun _ _ z => z
    have hlen : acc.size = (tl z).length := by rw [ha]; exact (len_tl z)
    refine ⟨.ref L, _, I3.laid (t' := k) (o := .lst ((tl z).map fun c => g (.str ⟨#[c]⟩))) hk hL ⟨?_, acc.toList, n, ?_, ?_⟩, rfl, q3 L (I3.hok.fresh hL)⟩
    · rw [List.length_map, ← len_tl]; exact hz
    · refine vals_by (by rw [List.length_map]; exact hlen.symm.trans Array.length_toList.symm) fun j x v hx hv' => ?_
      obtain ⟨c, u, hcj, hr⟩ := hv j v (by rw [← Array.getElem?_toList]; exact hv')
      obtain ⟨x', _, rx', rg⟩ := hr
      have ex : x' = .str ⟨#[c]⟩ := RelV.inj rx' (show RelV (.str ⟨#[c]⟩) (.str ⟨#[c]⟩ u) from ⟨u, rfl⟩)
      subst ex
      rw [List.getElem?_map, show (tl z)[j]? = some c by rw [← hcj]; exact Array.getElem?_toList] at hx
      cases hx
      exact rg
    · exact hO
end Tst
/-! sum(accumulate(xs)), xs a list of numbers above 0. -/
namespace Tst
open PySem PySem.Spec PyProof.Rows L2 TL
/-! ### facts of the type -/
theorem ac_owner : Manifest.owners.lookup (String.ofList ['e', 't', 'a', 'l', 'u', 'm', 'u', 'c', 'c', 'a', '.', 's', 'l', 'o', 'o', 't', 'r', 'e', 't', 'i'].reverse) = some Manifest.sig_itertools_accumulate := by kernel_rfl
theorem ac_slot_next : Slot "itertools.accumulate" "__next__" "itertools.accumulate.__next__" :=
  .of (owner := "itertools.accumulate") (n := "__next__") (by rw [typeLookup_type, builtinLookup_eq_fast]; kernel_rfl) (by decide +kernel) (by decide +kernel) (by decide +kernel) (by first | exact .inl (by decide +kernel) | exact .inr (by decide +kernel)) (by rw [isSubtype_type]; kernel_rfl)
theorem ac_slot_iter : Slot "itertools.accumulate" "__iter__" "itertools.accumulate.__iter__" :=
  .of (owner := "itertools.accumulate") (n := "__iter__") (by rw [typeLookup_type, builtinLookup_eq_fast]; kernel_rfl) (by decide +kernel) (by decide +kernel) (by decide +kernel) (by first | exact .inl (by decide +kernel) | exact .inr (by decide +kernel)) (by rw [isSubtype_type]; kernel_rfl)
theorem ac_slot_init : Slot "itertools.accumulate" "__init__" "object.__init__" :=
  .of (owner := "object") (n := "__init__") (by rw [typeLookup_type, builtinLookup_eq_fast]; kernel_rfl) (by decide +kernel) (by decide +kernel) (by decide +kernel) (by first | exact .inl (by decide +kernel) | exact .inr (by decide +kernel)) (by rw [isSubtype_type]; kernel_rfl)
theorem ac_entry_next : entryFor table "itertools.accumulate.__next__" = some Builtin.«itertools.accumulate.__next__» := entryFor_of_tree (by kernel_rfl)
theorem ac_entry_new : entryFor table "itertools.accumulate.__new__" = some Builtin.«itertools.accumulate.__new__» := entryFor_of_tree (by kernel_rfl)
theorem ac_entry_iter : entryFor table "itertools.accumulate.__iter__" = some Builtin.«dict_keyiterator.__iter__» :=
  entryFor_alias (id' := "dict_keyiterator.__iter__") (by kernel_rfl) (by first | rfl | decide +kernel | (unfold String.splitOn; simp +decide [String.splitOnAux])) (by decide +kernel) (by kernel_rfl)
theorem ac_args_next (a : Value) : argsOk "itertools.accumulate.__next__" ⟨[a], []⟩ := by
  unfold argsOk; rw [signature?_of (id := "itertools.accumulate.__next__") (n := ['_', '_', 't', 'x', 'e', 'n', '_', '_']) (o := ['e', 't', 'a', 'l', 'u', 'm', 'u', 'c', 'c', 'a', '.', 's', 'l', 'o', 'o', 't', 'r', 'e', 't', 'i']) (by kernel_rfl) ac_owner]; kernel_rfl
theorem ac_args_iter (a : Value) : argsOk "itertools.accumulate.__iter__" ⟨[a], []⟩ := by
  unfold argsOk; rw [signature?_of (id := "itertools.accumulate.__iter__") (n := ['_', '_', 'r', 'e', 't', 'i', '_', '_']) (o := ['e', 't', 'a', 'l', 'u', 'm', 'u', 'c', 'c', 'a', '.', 's', 'l', 'o', 'o', 't', 'r', 'e', 't', 'i']) (by kernel_rfl) ac_owner]; kernel_rfl
theorem ac_mro : mroOf (.type "itertools.accumulate") = pure [.type "itertools.accumulate", .type "object"] := by rw [mroOf_type]; kernel_rfl
theorem ac_look_new : typeLookup (.type "itertools.accumulate") "__new__" = pure (some (.builtin "itertools.accumulate.__new__")) := by rw [typeLookup_type, builtinLookup_eq_fast]; kernel_rfl
theorem ac_sub : isSubtype (.type "itertools.accumulate") (.type "itertools.accumulate") = pure true := by rw [isSubtype_type]; kernel_rfl
theorem ac_called : TypeCalled "itertools.accumulate" "itertools.accumulate.__new__" "object.__init__" :=
  ⟨by decide +kernel, by decide +kernel, ⟨_, _, ac_mro⟩, madeBy_type ac_mro ac_look_new (by decide +kernel), by decide +kernel, ac_sub, ac_slot_init⟩
theorem ac_typeCall (a : Value) : checkTypeCall "itertools.accumulate" ⟨[a], []⟩ = pure () := by kernel_rfl
theorem ac_newCall (a : Value) : checkBuiltinCall "itertools.accumulate.__new__" ⟨[.type "itertools.accumulate", a], []⟩ = pure () := by kernel_rfl
theorem ac_args_init (obj a : Value) : argsOk "object.__init__" ⟨[obj, a], []⟩ := by first | exact F.args_object_init_2 obj a | (unfold argsOk; kernel_rfl)
/-! ### the object -/
abbrev IsAcc (h : Heap) (a it : Addr) (tot : Value) : Prop := h.get? a = some { cls := .type "itertools.accumulate", dict := none, data := .fields #[.ref it, .none, tot, .none], slots := #[] }
section
variable {prog : Program} {w : World} {A : Around} {E : Value → Shared → Prop} {s : Shared}
theorem ac_class (x : Value) : Builtin.Itertools.itClassAndRest "accumulate" ⟨[.type "itertools.accumulate", x], []⟩ = pure (.type "itertools.accumulate", [x]) := by
  unfold Builtin.Itertools.itClassAndRest
  simp only [isType, pure_bind]
  show (isSubtype (.type "itertools.accumulate") (.type "itertools.accumulate") >>= _) = _
  rw [ac_sub]
  rfl
theorem ac_bind (x : Value) : Builtin.Itertools.itBindNamed "accumulate" ["iterable", "func", "initial"] 1 2 [x] [] = pure [some x, none, none] := by
  first
  | rfl
  | kernel_rfl
theorem ac_new (x : Value) : MeetsIn prog w (Builtin.«itertools.accumulate.__new__» ⟨[.type "itertools.accumulate", x], []⟩)
    (fun A R s => wpAny (model prog w) A.in1 (pyIter x) (fun itv s1 => R (.ok (.ret (.ref s1.heap.objs.size))) { s1 with heap := s1.heap.push { cls := .type "itertools.accumulate", data := .fields #[itv, .none, rawInt 0, .none] } }) (fun e s1 => R (.error e) s1) s) :=
  .of_wp fun A R s h => by
    unfold Builtin.«itertools.accumulate.__new__»
    refine wpAny_bind (wpAny_of_eq (ac_class x) ?_)
    try dsimp only
    refine wpAny_bind (wpAny_of_eq (ac_bind x) ?_)
    try dsimp only
    refine wpAny_bind (wpAny_mono h (fun itv s1 hR => ?_) fun _ _ z => z)
    unfold Builtin.Itertools.itNewRecord
    rw [if_pos (by decide +kernel)]
    refine wpAny_bind ?_
    refine wpAny_newObj_type ?_
    exact wpAny_pure ⟨_, rfl, hR⟩
theorem ac_call {x : Value} {Q : Value → Shared → Prop}
    (hx : wpAny (model prog w) A.in1.in1 (pyIter x) (fun itv s1 => ∀ h', h'.get? s1.heap.objs.size = some { cls := .type "itertools.accumulate", dict := none, data := .fields #[itv, .none, rawInt 0, .none], slots := #[] } → h'.objs.size = s1.heap.objs.size + 1 →
      (∀ c o, s1.heap.get? c = some o → h'.get? c = some o) → Q (.ref s1.heap.objs.size) { s1 with heap := h' }) E s) :
    wpAny (model prog w) A (call (.type "itertools.accumulate") [x]) Q E s := by
  refine callType_newIn ac_called (by decide) (ac_typeCall _) (ac_newCall _) (fun obj => ac_args_init obj _) ac_entry_new (ac_new x) ?_
  show wpAny (model prog w) A.in1.in1 (pyIter x) _ _ _
  refine wpAny_mono hx (fun itv s1 h => ?_) fun _ _ z => z
  have g : (s1.heap.push { cls := .type "itertools.accumulate", data := .fields #[itv, .none, rawInt 0, .none] }).get? s1.heap.objs.size = some { cls := .type "itertools.accumulate", dict := none, data := .fields #[itv, .none, rawInt 0, .none], slots := #[] } := Heap.get?_push_size _ rfl
  exact ⟨⟨_, g, rfl⟩, h _ g (Heap.size_push ..) fun c o e => Heap.get?_push_of_some _ e⟩
theorem ac_pyIter {a it : Addr} {tot : Value} {Q : Value → Shared → Prop} (hm : IsAcc s.heap a it tot) (h : Q (.ref a) s) : wpAny (model prog w) A (pyIter (.ref a)) Q E s := by
  have hT : s.TypeIs (.ref a) "itertools.accumulate" := ⟨_, hm, rfl⟩
  refine wpAny_pyIter_slot hT ac_slot_iter (wpAny_call_entry ac_slot_iter hT ac_entry_iter ?_ (ac_args_iter _))
  show wpAny _ _ (ret (.ref a)) _ _ s
  exact wpAny_pure ⟨_, rfl, "itertools.accumulate", _, hT, ac_slot_next.lookup, h⟩
/-- the list's iterator, drawn from by accumulate -/
theorem ac_raw_item {it l : Addr} {i : Nat} {its : Array Value} {x : Value} {Q : Value → Shared → Prop} (hit : s.heap.IsListIter it l i) (hl : s.heap.IsList l its) (hx : its[i]? = some x)
    (hQ : ∀ h', h'.IsListIter it l (i + 1) → Heap.SameBut it s.heap h' → Q x { s with heap := h' }) : wpAny (model prog w) A (Builtin.Itertools.itRawNext (.ref it)) Q E s := by
  obtain ⟨o, e1, e2, e3⟩ := id hit
  obtain ⟨ol, f1, _, n, f3⟩ := hl
  unfold Builtin.Itertools.itRawNext
  refine wpAny_bind (wpAny_callSpecial?_slot (name := Str.ofString "__next__") hit.typeIs slot_listiter_next (wpAny_call_entry slot_listiter_next hit.typeIs entry_listiter_next ?_ (args_listiter_next _)))
  (show wpAny _ _ (field (.ref it) 0 >>= _) _ _ s; refine wpAny_bind (wpAny_field (i := 0) e1 e3 (x := .ref l) rfl ?_))
  (show wpAny _ _ (if (Value.ref l == Value.none) = true then _ else _) _ _ s; rw [if_neg (show ¬ ((Value.ref l == Value.none) = true) from fun z => nomatch z)])
  (show wpAny _ _ (field (.ref it) 1 >>= _) _ _ s; refine wpAny_bind (wpAny_field (i := 1) e1 e3 (x := .int i 0) rfl ?_))
  (show wpAny _ _ (seqItems? (.ref l) >>= _) _ _ s; refine wpAny_bind (wpAny_seqItems f1 f3 ?_))
  simp only [Int.toNat_natCast, hx]
  refine wpAny_bind (wpAny_setField e1 e3 (by simp) (wpAny_pure ⟨x, rfl, wpAny_pure (hQ _ ?_ (Heap.SameBut.update ..))⟩))
  exact ⟨_, Heap.get?_update_self _ e1 (Obj.isFreed_of_fields (Obj.data_mapFields e3 _)), (Obj.cls_mapFields ..).trans e2, by rw [Obj.data_mapFields e3]; simp [rawInt]⟩
theorem ac_raw_end {it l : Addr} {i : Nat} {its : Array Value} {Q : Value → Shared → Prop} (hh : A.handled = none) (hit : s.heap.IsListIter it l i) (hl : s.heap.IsList l its) (hx : its[i]? = none)
    (hE : ∀ h' e, Heap.ExtBut it s.heap h' → (∃ o, h'.get? e = some o ∧ o.cls = .type "StopIteration") → E (.ref e) { s with heap := h' }) : wpAny (model prog w) A (Builtin.Itertools.itRawNext (.ref it)) Q E s := by
  obtain ⟨o, e1, e2, e3⟩ := id hit
  obtain ⟨ol, f1, _, n, f3⟩ := hl
  unfold Builtin.Itertools.itRawNext
  refine wpAny_bind (wpAny_callSpecial?_slot (name := Str.ofString "__next__") hit.typeIs slot_listiter_next (wpAny_call_entry slot_listiter_next hit.typeIs entry_listiter_next ?_ (args_listiter_next _)))
  (show wpAny _ _ (field (.ref it) 0 >>= _) _ _ s; refine wpAny_bind (wpAny_field (i := 0) e1 e3 (x := .ref l) rfl ?_))
  (show wpAny _ _ (if (Value.ref l == Value.none) = true then _ else _) _ _ s; rw [if_neg (show ¬ ((Value.ref l == Value.none) = true) from fun z => nomatch z)])
  (show wpAny _ _ (field (.ref it) 1 >>= _) _ _ s; refine wpAny_bind (wpAny_field (i := 1) e1 e3 (x := .int i 0) rfl ?_))
  (show wpAny _ _ (seqItems? (.ref l) >>= _) _ _ s; refine wpAny_bind (wpAny_seqItems f1 f3 ?_))
  simp only [Int.toNat_natCast, hx]
  refine wpAny_bind (wpAny_rule (wpAny_bind (wpAny_setField e1 e3 (by simp) ?_)))
  (show wpAny _ _ (newExc (.type "StopIteration") [] >>= _) _ _ _; refine wpAny_bind ?_)
  simp only [newExc, newTuple]
  refine wpAny_bind (wpAny_newObj_type ?_ (by size_fits))
  refine wpAny_bind (m := firstArgMember _ _) (wpAny_of_eq (a := Value.none) (by first | rfl | (simp only [firstArgMember]; rfl)) (wpAny_newObj_type ?_ (by size_fits)))
  simp only [raiseNew]
  refine wpAny_bind (wpAny_handled ?_)
  first | rw [show A.in1.handled = none from hh] | rw [hh]
  exact wpAny_bind (wpAny_pure (wpAny_throw (hE _ _ (((Heap.SameBut.update ..).extBut.push _).push _) ⟨_, Heap.get?_push_size _ rfl, rfl⟩)))

/-- the sum of the first n of the prefix sums' numbers: what stands at the place n -/
def acVal (ns : List Int) (i : Nat) : Int := (ns.take (i + 1)).sum
/-- what the object holds ahead of the draw i -/
def acTot (ns : List Int) (i : Nat) (tot : Value) : Prop := (i = 0 ∧ tot = rawInt 0) ∨ (0 < i ∧ ∃ t, tot = .int (ns.take i).sum t)
theorem ac_next_item {a it l : Addr} {its : Array Value} {ns : List Int} {tot : Value} {i : Nat} {Q : Value → Shared → Prop} (hne : a ≠ it) (hla : l ≠ a) (hm : IsAcc s.heap a it tot) (hit : s.heap.IsListIter it l i) (hl : s.heap.IsList l its)
    (hli : l ≠ it) (hns : ∀ j : Nat, ∀ v, its[j]? = some v → ∃ n t, ns[j]? = some n ∧ v = .int n t) (hpos : ∀ j : Nat, 0 < j → j ≤ ns.length → 0 < (ns.take j).sum) (hi : i < its.size) (hil : i < ns.length) (ht : acTot ns i tot)
    (hQ : ∀ v s', (∃ t, v = .int (acVal ns i) t) → IsAcc s'.heap a it v → acTot ns (i + 1) v → s'.heap.IsListIter it l (i + 1) → s'.heap.IsList l its → (∀ b o, b ≠ a → b ≠ it → s.heap.get? b = some o → s'.heap.get? b = some o) →
      s'.gens = s.gens → s'.drawn = s.drawn → s'.os = s.os → Q v s') :
    wpAny (model prog w) A (Builtin.«itertools.accumulate.__next__» ⟨[.ref a], []⟩) (fun fin s' => ∃ v, fin = .done (.ret v) ∧ Q v s') E s := by
  obtain ⟨n, t, hn, hv⟩ := hns i its[i] (by simp [hi])
  have e1 : (ns.take (i + 1)).sum = (ns.take i).sum + n := by
    rw [List.take_succ, hn]
    simp
  (show wpAny _ _ (field (.ref a) 3 >>= _) _ _ _; refine wpAny_bind (wpAny_field hm rfl (x := .none) rfl ?_))
  (show wpAny _ _ (if (Value.none != Value.none) = true then _ else _) _ _ s; rw [if_neg (by decide)])
  (show wpAny _ _ (field (.ref a) 0 >>= _) _ _ _; refine wpAny_bind (wpAny_field hm rfl (x := .ref it) rfl (wpAny_bind (ac_raw_item hit hl (x := its[i]) (by simp [hi]) fun h' hit' hs => ?_))))
  have hm' : IsAcc h' a it tot := hs.extBut _ _ hne hm
  have hl' : h'.IsList l its := hl.extBut hs.extBut hli
  (show wpAny _ _ (field (.ref a) 2 >>= _) _ _ _; refine wpAny_bind (wpAny_field hm' rfl (x := tot) rfl ?_))
  rcases ht with ⟨rfl, rfl⟩ | ⟨h0, t0, rfl⟩
  · (show wpAny _ _ (if (rawInt 0 == rawInt 0) = true then _ else _) _ _ _; rw [if_pos (by decide)])
    refine wpAny_bind (wpAny_rule (wpAny_bind (wpAny_setField_rec hm' (show 2 < 4 by decide) fun h2 g2 s2 => wpAny_pure ⟨_, rfl, ?_⟩)))
    have e0 : acVal ns 0 = n := by
      show (ns.take (0 + 1)).sum = n
      rw [e1]
      simp
    refine hQ _ _ ⟨t, by rw [hv, e0]⟩ g2 (.inr ⟨Nat.one_pos, t, by rw [hv, ← e0]; rfl⟩) ?_ ?_ (fun b o hb hb2 e => s2.extBut b o hb (hs.extBut b o hb2 e)) rfl rfl rfl
    · exact hit'.extBut s2.extBut (Ne.symm hne)
    · exact hl'.extBut s2.extBut hla
  · have hp := hpos i h0 (Nat.le_of_lt hil)
    have nz : ¬ ((Value.int (ns.take i).sum t0 == Builtin.Itertools.itNothing) = true) := fun z => by
      have z' : Value.int (ns.take i).sum t0 = .int 0 0 := beq_iff_eq.mp z
      injection z' with z1 _
      omega
    rw [if_neg nz]
    (show wpAny _ _ (field (.ref a) 1 >>= _) _ _ _; refine wpAny_bind (wpAny_field hm' rfl (x := .none) rfl (wpAny_bind (wpAny_holding ?_))))
    (show wpAny _ _ (if (Value.none == Value.none) = true then _ else _) _ _ _; rw [if_pos (by decide)])
    rw [hv]
    refine add_int (s := { s with heap := h' }) ?_
    refine wpAny_bind (wpAny_setField_rec (s := { s with heap := h', toks := _ }) hm' (show 2 < 4 by decide) fun h2 g2 s2 => wpAny_bind (wpAny_letGo (wpAny_pure ⟨_, rfl, ?_⟩)))
    have e2 : (ns.take i).sum + n = acVal ns i := e1.symm
    refine hQ _ _ ⟨_, by rw [e2]⟩ g2 (.inr ⟨Nat.succ_pos _, _, by rw [e2]; rfl⟩) ?_ ?_ (fun b o hb hb2 e => s2.extBut b o hb (hs.extBut b o hb2 e)) rfl rfl rfl
    · exact hit'.extBut s2.extBut (Ne.symm hne)
    · exact hl'.extBut s2.extBut hla

theorem ac_pyNext_item {a it l : Addr} {its : Array Value} {ns : List Int} {tot : Value} {i : Nat} {Q : Option Value → Shared → Prop} (hne : a ≠ it) (hla : l ≠ a) (hm : IsAcc s.heap a it tot) (hit : s.heap.IsListIter it l i) (hl : s.heap.IsList l its)
    (hli : l ≠ it) (hns : ∀ j : Nat, ∀ v, its[j]? = some v → ∃ n t, ns[j]? = some n ∧ v = .int n t) (hpos : ∀ j : Nat, 0 < j → j ≤ ns.length → 0 < (ns.take j).sum) (hi : i < its.size) (hil : i < ns.length) (ht : acTot ns i tot)
    (hQ : ∀ v s', (∃ t, v = .int (acVal ns i) t) → IsAcc s'.heap a it v → acTot ns (i + 1) v → s'.heap.IsListIter it l (i + 1) → s'.heap.IsList l its → (∀ b o, b ≠ a → b ≠ it → s.heap.get? b = some o → s'.heap.get? b = some o) →
      s'.gens = s.gens → s'.drawn = s.drawn → s'.os = s.os → Q (some v) s') : wpAny (model prog w) A (pyNext (.ref a)) Q E s := by
  have hT : s.TypeIs (.ref a) "itertools.accumulate" := ⟨_, hm, rfl⟩
  unfold pyNext
  exact wpAny_bind (wpAny_attempt (wpAny_callSpecial?_slot (name := Str.ofString "__next__") hT ac_slot_next (wpAny_call_entry ac_slot_next hT ac_entry_next (ac_next_item hne hla hm hit hl hli hns hpos hi hil ht fun v s' y0 y1 y2 y3 y4 k g1 g2 g3 => wpAny_pure (hQ v s' y0 y1 y2 y3 y4 k g1 g2 g3)) (ac_args_next _))))
/-- the object, its iterator and the list, ahead of the draw i -/
def AcSt (a it l : Addr) (its : Array Value) (ns : List Int) (i : Nat) (h : Heap) : Prop := ∃ tot, IsAcc h a it tot ∧ acTot ns i tot ∧ h.IsListIter it l i ∧ h.IsList l its
theorem ac_walks {a it l : Addr} {its : Array Value} {ns : List Int} (hh : A.handled = none) (hne : a ≠ it) (hla : l ≠ a) (hli : l ≠ it) (hlen : its.size = ns.length) (hns : ∀ j : Nat, ∀ v, its[j]? = some v → ∃ n t, ns[j]? = some n ∧ v = .int n t)
    (hpos : ∀ j : Nat, 0 < j → j ≤ ns.length → 0 < (ns.take j).sum) :
    WalksS prog w A a [a, it, l] [a, it] (fun g g' => g' = g) ns.length (fun i v => ∃ t, v = .int (acVal ns i) t) (fun i s => AcSt a it l its ns i s.heap) where
  sub := fun b hb => by
    rcases List.mem_cons.mp hb with rfl | hb
    · simp
    · rw [List.mem_singleton.mp hb]; simp
  grefl := fun _ => rfl
  gtrans := fun _ _ _ h1 h2 => h2.trans h1
  frame := fun i s h' tk ⟨tot, x1, x2, x3, x4⟩ _ hk => ⟨tot, hk a (by simp) _ x1, x2, x3.at fun o e => hk it (by simp) o e, x4.at fun o e => hk l (by simp) o e⟩
  item := fun i s Q E hi ⟨tot, x1, x2, x3, x4⟩ hQ => wpAny_with_toks (Nat.le_refl s.toks) (ac_pyNext_item hne hla x1 x3 x4 hli hns hpos (by omega) hi x2 fun v s' hv y1 y2 y3 y4 k g1 g2 g3 htk =>
    hQ v s' hv ⟨v, y1, y2, y3, y4⟩ ⟨fun b ob hb e => k b ob (fun z => hb (by simp [z])) (fun z => hb (by simp [z])) e, g1, g2, g3, htk⟩)
  done := fun s Q E ⟨tot, x1, x2, x3, x4⟩ hQ => by
    have hT : s.TypeIs (.ref a) "itertools.accumulate" := ⟨_, x1, rfl⟩
    unfold pyNext
    refine wpAny_bind (wpAny_attempt (wpAny_callSpecial?_slot (name := Str.ofString "__next__") hT ac_slot_next (wpAny_call_entry ac_slot_next hT ac_entry_next ?_ (ac_args_next _))))
    (show wpAny _ _ (field (.ref a) 3 >>= _) _ _ _; refine wpAny_bind (wpAny_field x1 rfl (x := .none) rfl ?_))
    (show wpAny _ _ (if (Value.none != Value.none) = true then _ else _) _ _ s; rw [if_neg (by decide)])
    (show wpAny _ _ (field (.ref a) 0 >>= _) _ _ _; refine wpAny_bind (wpAny_field x1 rfl (x := .ref it) rfl (wpAny_bind (ac_raw_end (show A.in1.handled = none from hh) x3 x4 (by simp [hlen]) fun h' e he hx => ?_))))
    obtain ⟨o, ho, hc⟩ := hx
    refine wpAny_bind (wpAny_isInstance (T := "StopIteration") (b := true) ⟨o, ho, hc⟩ isSubtype_stop (wpAny_pure (hQ _ ⟨fun b ob hb e => he b ob (fun z => hb (by simp [z])) e, rfl, rfl, rfl, Nat.le_refl _⟩)))
  self := fun i s Q E ⟨tot, x1, _⟩ hQ => ac_pyIter x1 hQ
theorem sum_acc_list {l : Addr} {its : Array Value} {ns : List Int} {Q : Value → Shared → Prop} (hh : A.handled = none) (hl : s.heap.IsList l its) (hlen : its.size = ns.length) (hns : ∀ j : Nat, ∀ v, its[j]? = some v → ∃ n t, ns[j]? = some n ∧ v = .int n t)
    (hpos : ∀ j : Nat, 0 < j → j ≤ ns.length → 0 < (ns.take j).sum) (hq : ∀ h' t' k, (∀ b o, s.heap.get? b = some o → h'.get? b = some o) → Q (.int (preSum (acVal ns) ns.length) t') { s with heap := h', toks := k }) :
    wpAny (model prog w) A (call (.type "itertools.accumulate") [.ref l]) (fun v s1 => wpAny (model prog w) A (call (.builtin "sum") [v]) Q E s1) E s := by
  have ll : l < s.heap.objs.size := by obtain ⟨o, ho, _⟩ := hl; exact Heap.lt_size ho
  refine ac_call (wpAny_pyIter_list hl ?_)
  intro h' hO hsz hk
  have z1 : (s.heap.push { cls := .type "list_iterator", data := .fields #[.ref l, .int 0 0] }).objs.size = s.heap.objs.size + 1 := Heap.size_push ..
  have hit : h'.IsListIter s.heap.objs.size l 0 := ⟨_, hk _ _ (Heap.get?_push_size _ rfl), rfl, rfl⟩
  have hL : h'.IsList l its := (hl.push _).at fun o e => hk _ o e
  have hlt : ∀ b, b < s.heap.objs.size → b ≠ (s.heap.push { cls := .type "list_iterator", data := .fields #[.ref l, .int 0 0] }).objs.size := fun b hb z => by
    rw [z1] at z
    rw [z] at hb
    exact absurd hb (Nat.not_lt.mpr (Nat.le_succ _))
  have W := ac_walks (prog := prog) (w := w) (A := A.in1) (show A.in1.handled = none from hh) (a := (s.heap.push { cls := .type "list_iterator", data := .fields #[.ref l, .int 0 0] }).objs.size) (it := s.heap.objs.size) (l := l) (its := its) (ns := ns)
    (by rw [z1]; exact Nat.succ_ne_self _) (hlt l ll) (Nat.ne_of_lt ll) hlen hns hpos
  refine call_sum_walkAnyS (ac_pyIter hO ?_)
  refine ⟨_, _, _, _, _, _, _, acVal ns, rfl, W, ⟨_, hO, .inl ⟨rfl, rfl⟩, hit, hL⟩, fun b hb => ?_, fun i v hv => hv, fun s' t' hm => ?_⟩
  · rcases List.mem_cons.mp hb with rfl | hb
    · exact Heap.lt_size hO
    · rcases List.mem_cons.mp hb with rfl | hb
      · obtain ⟨o, ho, _⟩ := hit
        exact Heap.lt_size ho
      · rw [List.mem_singleton.mp hb]
        obtain ⟨o, ho, _⟩ := hL
        exact Heap.lt_size ho
  · rw [Moved.eq_with hm]
    refine hq s'.heap t' s'.toks fun b o e => hm.heap b o (fun hb => ?_) (hk b o (Heap.get?_push_of_some _ e))
    have hb0 : b < s.heap.objs.size := Heap.lt_size e
    rcases List.mem_cons.mp hb with z | hb
    · exact hlt b hb0 z
    · exact Nat.ne_of_lt hb0 (List.mem_singleton.mp hb)
end
/-- sum(accumulate(xs)) -/
def tSumAcc (K : PySem.W.Frag) (ta : TA) : TE := fun σ H Q => ta σ H fun vs H2 => ∃ (q : Addr) (ns : List Int), vs = [.ref q] ∧ SqL K H2 q (ns.map V.int) ∧ (∀ n ∈ ns, 0 < n) ∧ Q (.int (preSum (acVal ns) ns.length)) H2
theorem take_pos : ∀ {ns : List Int}, (∀ n ∈ ns, 0 < n) → ∀ j : Nat, 0 < j → j ≤ ns.length → 0 < (ns.take j).sum
  | [], _, j, h0, h1 => by simp at h1; omega
  | n :: ns, h, 1, _, _ => by have := h n List.mem_cons_self; simpa using this
  | n :: ns, h, j + 2, _, h1 => by
    have h2 := h n List.mem_cons_self
    have h3 := take_pos (fun x hx => h x (List.mem_cons_of_mem _ hx)) (j + 1) (Nat.succ_pos _) (by simpa using h1)
    rw [List.take_succ_cons, List.sum_cons]
    omega
theorem pe_sumAcc {X : Cx} {e : Expr} {ta : TA} {x : Str} {p0 pos p pos2 : Pos} (hc : X.calm = true) (hgs : Gl X "sum") (hms : X.mg "sum" = none) (hg : Gl X x) (hm : X.mg x = some (.type "itertools.accumulate")) (ha : PA X [e] ta)
    (hd : (x == ("__debug__" : Str)) = false := by decide)
    (hs1 : starEach [.Call (.Name x p) [e] [] pos2] X.env = (false, eval (.Call (.Name x p) [e] [] pos2) X.env) :: starEach [] X.env := by rfl)
    (hp1 : (backTo pos (starEach [] X.env)).any (·.1) = false := by rfl) (hs : starEach [e] X.env = (false, eval e X.env) :: starEach [] X.env := by rfl) (hpl : (backTo pos2 (starEach [] X.env)).any (·.1) = false := by rfl) :
    PE X (.Call (.Name "sum" p0) [.Call (.Name x p) [e] [] pos2] [] pos) (tSumAcc X.K ta) := by
  refine ⟨fun pins s σ H Q I h => ?_⟩
  refine wpAny_Call_Name_kw (ld_blt I hgs hms boot_sum (PyProof.Rows.callWith_builtin1 ?_ hs1 hp1))
  rw [hs1]
  show wpAny _ _ (spliced ((false, eval (.Call (.Name x p) [e] [] pos2) X.env) :: backTo pos (starEach [] X.env))) _ _ s
  refine Calls.spliced_cons (wpAny_Call_Name_kw (ld_glob I hg hm (PyProof.Rows.callWith_type1 ?_ hs hpl) hd))
  refine thn (ha.run pos2 pins s σ H _ I h) fun us s3 ⟨vs, H2, I3, r3, q, ns, ev, hq, hp, q3⟩ => ?_
  subst ev
  cases r3 with
  | cons r rr =>
    cases rr
    cases r
    obtain ⟨its, rv, pl, hsz⟩ := I3.list hq
    have hlen : its.toArray.size = ns.length := by
      have := rv.length
      rw [List.length_map] at this
      rw [List.size_toArray]
      exact this.symm
    refine wpAny_mono (sum_acc_list (Q := EP X pins σ Q) (E := X.xe) (I3.ok.hd hc) pl.isList hlen (fun j v hv => ?_) (take_pos hp) fun h' t' k hk => ?_) (fun v s4 h4 => Calls.spliced_nil h4) fun _ _ z => z
    · have hv' : its[j]? = some v := by simpa using hv
      have hj : j < ns.length := by rw [← hlen]; exact (Array.getElem?_eq_some_iff.mp hv).1
      obtain ⟨u, hu, ru⟩ := rv.get (i := j) (x := V.int ns[j]) (by rw [List.getElem?_map, List.getElem?_eq_getElem hj]; rfl)
      obtain ⟨t, rfl⟩ := ru
      exact ⟨ns[j], t, List.getElem?_eq_getElem hj, by rw [hv'] at hu; injection hu⟩
    · exact ⟨.int _, H2, I3.kept (t' := k) hk, ⟨t', rfl⟩, q3⟩
end Tst
/-! The keys of a dict of the module's own top, walked: texts. -/
namespace Tst
open PySem PySem.Spec PyProof.Rows L2 TL
/-- the keys' places -/
def Ikt (zs : List Str) : It := ⟨fun i _ => i < zs.length, fun i H x H' => H' = H ∧ ∃ z, zs[i]? = some z ∧ x = .str z, fun i _ => zs.length ≤ i⟩
structure KeysAt (K : PySem.W.Frag) (d : Addr) (zs : List Str) : Prop where
  low : (d == sysModules) = false
  ex : ∃ (o : Obj) (es : Array DictEntry) (ep : Nat), K.lookup d = some o ∧ o.ExactDict ∧ o.data = .dict es ep ∧ es.toList.map (fun e => match e.key with | .str z _ => some z | _ => none) = zs.map some
theorem KeysAt.get {es : Array DictEntry} {zs : List Str} (h : es.toList.map (fun e => match e.key with | .str z _ => some z | _ => none) = zs.map some) {i : Nat} (hi : i < zs.length) : es.size = zs.length ∧ ∃ en t, es[i]? = some en ∧ en.key = .str zs[i] t := by
  have hl : es.toList.length = zs.length := by
    have := congrArg List.length h
    simpa using this
  have hs : es.size = zs.length := by simpa using hl
  refine ⟨hs, ?_⟩
  have hi' : i < es.size := by omega
  have e1 := congrArg (fun l => l[i]?) h
  simp only [List.getElem?_map] at e1
  have e2 : es.toList[i]? = some es[i] := by simp [hi']
  rw [e2, List.getElem?_eq_getElem hi] at e1
  simp only [Option.map_some, Option.some.injEq] at e1
  generalize hen : es[i] = en at e1 e2
  refine ⟨en, ?_⟩
  cases hk : en.key with
  | str z t =>
    rw [hk] at e1
    simp only [Option.some.injEq] at e1
    exact ⟨t, by rw [← hen]; simp [hi'], by rw [e1]⟩
  | _ => rw [hk] at e1; simp at e1
section
variable {P : Program} {w : World} {K : PySem.W.Frag} {tg : Expr} {d : Addr} {o : Obj} {es : Array DictEntry} {ep : Nat}
theorem turn_ktop {zs : List Str} (it : Addr) (hl : K.lookup d = some o) (hod : o.data = .dict es ep) (hk : es.toList.map (fun e => match e.key with | .str z _ => some z | _ => none) = zs.map some) :
    Turn P w K tg (Ikt zs) [it] it (fun i h => h.IsKeyIter it d i zs.length ep) where
  mem := by simp
  obj := fun i h t0 b hb => by
    obtain rfl : b = it := by simpa using hb
    obtain ⟨oi, e, c, dd⟩ := t0
    exact ⟨oi, e, fun v z => by rw [dd] at z; cases z⟩
  keep := fun _ _ _ t0 kk => t0.at fun ob e => kk it (by simp) ob e
  item := by
    intro X eP eW eK calm i pins s σ H E I yy t0 hi
    subst eP eW eK
    obtain ⟨y0, y1, y2, y3, y4, y5⟩ := yy it (by simp)
    have hgd : s.heap.get? d = some o := I.kIn _ _ hl
    obtain ⟨hsz, en, t, hen, hkey⟩ := KeysAt.get hk (i := i) hi
    refine next_key_item t0 hgd hod hsz hen fun h' t1 sb => ?_
    have I1 := I.turned (h' := h') (t' := s.toks) (fun b ob hb e => (sb.2 b hb).trans e) y0 y1 y3 y4 y5
    obtain ⟨oi, e, c, dd⟩ := id t1
    exact ⟨en.key, rfl, go_of (s := { s with heap := h' }) e c dd (by decide) ⟨.str zs[i], H, I1, ⟨t, hkey⟩, ⟨rfl, zs[i], List.getElem?_eq_getElem hi, rfl⟩, t1, fun b hb => (yy b hb).1⟩⟩
  done := by
    intro X eP eW eK calm i pins s σ H E I yy t0 hi
    subst eP eW eK
    obtain ⟨y0, y1, y2, y3, y4, y5⟩ := yy it (by simp)
    have hgd : s.heap.get? d = some o := I.kIn _ _ hl
    have hsz : es.size = zs.length := by
      have := congrArg List.length hk
      simpa using this
    exact next_key_end (I.ok.hd calm) t0 hgd hod hsz hi fun h' eb => ⟨rfl, I.turned (t' := s.toks) (fun b ob hb e => eb b ob hb e) y0 y1 y3 y4 y5⟩
  self := fun _ _ _ _ _ t0 q0 => wpAny_pyIter_keyiter t0 q0
end
def iKtop (d : Addr) (zs : List Str) (td : TE) : TI := fun σ H R => td σ H fun x H1 => x = .ref d ∧ R (Ikt zs) H1
theorem pi_ktop {X : Cx} {tg e : Expr} {td : TE} {d : Addr} {zs : List Str} (kt : KeysAt X.K d zs) (he : PE X e td) : PI X tg e (iKtop d zs td) := by
  refine ⟨fun pins s σ H R I h => ?_⟩
  refine thn (he.run pins s σ H _ I h) fun u s1 ⟨x, H1, I1, rx, ex, q⟩ => ?_
  subst ex
  obtain rfl : u = Value.ref d := rx
  obtain ⟨o, es, ep, hl, hx, hdt, hk⟩ := kt.ex
  have hgd : s1.heap.get? d = some o := I1.kIn _ _ hl
  have hsz : es.size = zs.length := by
    have := congrArg List.length hk
    simpa using this
  refine iter_keys kt.low hgd hx hdt (pi_one (tk := s1.toks) I1 _ (turn_ktop _ hl hdt hk) ⟨_, Heap.get?_push_size _ rfl, rfl, ?_⟩ q)
  rw [hsz] <;> rfl
/-- a list made of them -/
theorem lc_ktop {zs : List Str} {g : TG} {tt : TT} {te : TE} {vs : List Nat} {σ : L2.St} {H1 : Hp} {D : Addr} {Qd : Hp → Prop} (Pv : Nat → Hp → Prop) (h0 : Pv 0 (upd H1 D (.lst [])))
    (hs : ∀ i z H, zs[i]? = some z → Pv i H → g (.str z) (wipe σ vs) H fun σ2 H2 => wipe σ2 vs = wipe σ vs ∧ tt σ2 H2 fun b H3 =>
      if b = true then te σ2 H3 fun y H4 => ∃ acc, H4 D = some (.lst acc) ∧ acc.length < sizeLine ∧ Pv (i + 1) (upd H4 D (.lst (acc ++ [y]))) else Pv (i + 1) H3) (hd : ∀ H, Pv zs.length H → Qd H) :
    ∃ W : Nat → Nat → Hp → Prop, (∃ m, W 0 m (upd H1 D (.lst []))) ∧ ∀ i m H, W i m H →
      ((Ikt zs).stop i H ∧ Qd H) ∨ ((Ikt zs).go i H ∧ ∃ Nx : Hp → Prop, (∀ H', Nx H' → ∃ m', m' < m ∧ W (i + 1) m' H') ∧ ∀ x H', (Ikt zs).yld i H x H' → g x (wipe σ vs) H' fun σ2 H2 => wipe σ2 vs = wipe σ vs ∧ tt σ2 H2 fun b H3 =>
        if b = true then te σ2 H3 fun y H4 => ∃ acc, H4 D = some (.lst acc) ∧ acc.length < sizeLine ∧ Nx (upd H4 D (.lst (acc ++ [y]))) else Nx H3) := by
  refine ⟨fun i m H => m = zs.length - i ∧ i ≤ zs.length ∧ Pv i H, ⟨zs.length, by simp, Nat.zero_le _, h0⟩, ?_⟩
  rintro i m H ⟨rfl, hi, p⟩
  by_cases hlt : i < zs.length
  · refine .inr ⟨hlt, Pv (i + 1), fun H' p' => ⟨zs.length - (i + 1), by omega, rfl, hlt, p'⟩, fun x H' y => ?_⟩
    obtain ⟨e, z, ez, ex⟩ := y
    subst e ex
    exact hs i z _ ez p
  · obtain rfl : i = zs.length := by omega
    exact .inl ⟨Nat.le_refl _, hd H p⟩
/-- a list made of a text's signs -/
theorem lc_str {x0 : Str} {g : TG} {tt : TT} {te : TE} {vs : List Nat} {σ : L2.St} {H1 : Hp} {D : Addr} {Qd : Hp → Prop} (Pv : Nat → Hp → Prop) (h0 : Pv 0 (upd H1 D (.lst [])))
    (hs : ∀ i (z : Nat) H, (tl x0)[i]? = some z → Pv i H → g (.str ⟨#[z]⟩) (wipe σ vs) H fun σ2 H2 => wipe σ2 vs = wipe σ vs ∧ tt σ2 H2 fun b H3 =>
      if b = true then te σ2 H3 fun y H4 => ∃ acc, H4 D = some (.lst acc) ∧ acc.length < sizeLine ∧ Pv (i + 1) (upd H4 D (.lst (acc ++ [y]))) else Pv (i + 1) H3) (hd : ∀ H, Pv x0.cps.size H → Qd H) :
    ∃ W : Nat → Nat → Hp → Prop, (∃ m, W 0 m (upd H1 D (.lst []))) ∧ ∀ i m H, W i m H →
      ((Its x0).stop i H ∧ Qd H) ∨ ((Its x0).go i H ∧ ∃ Nx : Hp → Prop, (∀ H', Nx H' → ∃ m', m' < m ∧ W (i + 1) m' H') ∧ ∀ x H', (Its x0).yld i H x H' → g x (wipe σ vs) H' fun σ2 H2 => wipe σ2 vs = wipe σ vs ∧ tt σ2 H2 fun b H3 =>
        if b = true then te σ2 H3 fun y H4 => ∃ acc, H4 D = some (.lst acc) ∧ acc.length < sizeLine ∧ Nx (upd H4 D (.lst (acc ++ [y]))) else Nx H3) := by
  refine ⟨fun i m H => m = x0.cps.size - i ∧ i ≤ x0.cps.size ∧ Pv i H, ⟨x0.cps.size, by simp, Nat.zero_le _, h0⟩, ?_⟩
  rintro i m H ⟨rfl, hi, p⟩
  by_cases hlt : i < x0.cps.size
  · refine .inr ⟨hlt, Pv (i + 1), fun H' p' => ⟨x0.cps.size - (i + 1), by omega, rfl, hlt, p'⟩, fun x H' y => ?_⟩
    obtain ⟨e, z, ez, ex⟩ := y
    subst e ex
    exact hs i z _ ((Array.getElem?_toList).trans ez) p
  · obtain rfl : i = x0.cps.size := by omega
    exact .inl ⟨Nat.le_refl _, hd H p⟩
end Tst
/-! xs.extend(t), t a tuple. -/
namespace Tst
open PySem PySem.AutoSeq1
theorem list_extend_any (l : Addr) (items : Array Value) (n : Nat) (b : Addr) (items2 : Array Value) (n2 : Nat) (ob : Obj) (hc : ob.cls = .type "tuple") (hd : ob.data = .seq items2 n2) (h0 : ¬(!items.isEmpty && Builtin.List.listTooLong (items.size + items2.size)) = true) (h1 : items.size ≤ sizeLine) (h2 : items.size + items2.size ≤ sizeLine + 1) :
    Meets (Builtin.«list.extend» ⟨[.ref l, .ref b], []⟩) (fun _ R s => s.heap.get? l = some { cls := .type "list", dict := none, data := .seq items n, slots := #[] } ∧ s.heap.get? b = some ob ∧ R (.ok (.ret Value.none)) { s with heap := s.heap.update l (Obj.mapSeq fun x => x ++ items2), toks := s.toks }) := by
  obtain ⟨c, dd, da, sl⟩ := ob
  dsimp only at hc hd
  subst hc hd
  refine .of_wp fun prog w A R s h => ?_
  obtain ⟨hp, g, d, tk, os⟩ := s
  obtain ⟨hl, hb, h⟩ := h
  have f1 := idx_int
  have f2 := sub_tuple_tuple
  have f3 := sub_list_list
  have f4 := sub_tuple_list
  have f5 := sub_list_tuple
  have hz' : (items ++ items2).size ≤ sizeLine + 1 := by rw [Array.size_append]; exact h2
  wp_walk using (wpAny_updateSeq hl rfl (hz := h1) (_hz' := hz')), wpAny_loadPart' hl, wpAny_loadPart' hb
  exact ⟨_, rfl, h⟩
open PySem.Spec PyProof.Rows L2 TL
def rExtT : V → List V → Hp → VK → Prop := fun x vs H Q => ∃ l b xs zs, x = .ref l ∧ vs = [.ref b] ∧ H l = some (.lst xs) ∧ H b = some (.tup zs) ∧ xs.length + zs.length ≤ sizeLine ∧ Q .non (upd H l (.lst (xs ++ zs)))
theorem mt_extT {X : Cx} : MtM X "list.extend" rExtT := by
  intro pins s σ H x vs v us Q I rx rv h
  obtain ⟨l, b, xs, zs, rfl, rfl, kl, kb, room, q⟩ := h
  cases rx
  obtain ⟨u, rfl, ru⟩ := rv.one
  cases ru
  obtain ⟨z, its, n, r, hl, e⟩ := I.lstM kl
  obtain ⟨its2, r2, ⟨o, ho, hc, n2, hd⟩, hl2⟩ := I.tuple (SqT.of (K := X.K) kb)
  have l2 := r2.length
  have l1 := r.length
  have room' : its.toArray.size + its2.toArray.size ≤ sizeLine := by rw [List.size_toArray, List.size_toArray]; omega
  have hlong : ¬ (!its.toArray.isEmpty && Builtin.List.listTooLong (its.toArray.size + its2.toArray.size)) = true := by
    rw [notLongL room', Bool.and_false]
    exact Bool.false_ne_true
  refine call_meets F.slot_list_extend ⟨_, e, rfl⟩ F.entry_list_extend (F.args_list_extend_2 _ _)
    (list_extend_any l its.toArray n b its2.toArray n2 o hc hd hlong (by rw [List.size_toArray]; omega) (by omega)) ⟨e, ho, ?_⟩
  exact ⟨.non, _, I.lset (its' := its ++ its2) kl e (by simp) (r.append r2) (by rw [List.length_append]; omega), rfl, q⟩
end Tst
/-! name = {k: v for ..}; a while of few passes. -/
namespace Tst
open PySem PySem.Spec PyProof.Rows L2 TL
section
variable {X : Cx}
theorem ps_setDc {i : Nat} {y : Str} {py : Pos} {ka va tg iter : Expr} {ifs : List Expr} {scope : Scope} {own : List (Str × Nat)} {pos spos : Pos} {wi : TI} {g : TG} {tt : TT} {tk tv : TE} (hc : X.calm = true) (hN : X.N.Nodup) (hy : X.N[i]? = some y) (hyl : X.env.scope.names.lookup y = some .local)
    (hsw : swapsWith (.DictComp ka va [⟨tg, iter, ifs, 0⟩] scope pos) (some (.Name y py)) spos.line X.env = pure true) (hi : PI X tg iter wi) (ok : BlkOk X.N X.env.scope scope own)
    (hg : ∀ (s0 : Shared) (H0 : Hp) (C0 : Addr) (cl : List (Str × Addr)) (fp : List Addr), PG (X.blk s0 H0 scope (compEnvC scope cl C0 X.env) fp) tg g) (ht : ∀ (s0 : Shared) (H0 : Hp) (C0 : Addr) (cl : List (Str × Addr)) (fp : List Addr), PTs (X.blk s0 H0 scope (compEnvC scope cl C0 X.env) fp) ifs tt)
    (hk : ∀ (s0 : Shared) (H0 : Hp) (C0 : Addr) (cl : List (Str × Addr)) (fp : List Addr), PE (X.blk s0 H0 scope (compEnvC scope cl C0 X.env) fp) ka tk)
    (he : ∀ (s0 : Shared) (H0 : Hp) (C0 : Addr) (cl : List (Str × Addr)) (fp : List Addr), PE (X.blk s0 H0 scope (compEnvC scope cl C0 X.env) fp) va tv) (hs : ∀ x, foldedSetIterable iter X.env x = pure x := by intro _; rfl) :
    PS X (.Assign [.Name y py] (.DictComp ka va [⟨tg, iter, ifs, 0⟩] scope pos) spos) (tAsg (tDc wi g tt tk tv (own.map (·.2))) (gName i)) := by
  refine ⟨fun pins s σ H D I h0 => ?_⟩
  rw [exec_Assign_Name_used _ _ _ _ hsw]
  refine wpAny_bind (wpAny_standAt (wpAny_bind ?_))
  show wpAny _ X.A (do let _ ← comprehension (.DictComp ka va [⟨tg, iter, ifs, 0⟩] scope pos) scope X.env (firstIterPos [⟨tg, iter, ifs, 0⟩] pos) newDict false (eval iter X.env) (some (assign (.Name y py) X.env))) _ _ s
  have h : tDc wi g tt tk tv (own.map (·.2)) σ H (fun x H1 => gName i x σ H1 D.nx) := h0
  refine wpAny_bind (thn (dc_core (Qf := fun _ s' => SP X pins D .next s') hc hN I hi ok hg ht hk he hs h fun L C s' m H' I' q hn f => ?_) fun _ s' hq => wpAny_pure (wpAny_pure hq))
  show wpAny _ _ (assign (.Name y py) X.env (.ref L)) _ _ _
  refine wpAny_assign_Name (store_ok2 (v := V.ref L) I' hN hy (.inl hyl) rfl (fun s2 I2 ⟨a, sb, ha⟩ => ?_) (.inr hyl))
  obtain ⟨p0, p1, p2, p3, p4, p5⟩ := f
  have hCa : C ≠ a := by rcases ha with z | z; · rw [z]; exact p1
                         · exact fun e => p4 y a z e.symm
  exact ⟨m, hn.sameBut sb hCa, fun h3 sb3 => ⟨_, H', I2.turned (t' := s2.toks) (fun b o hb e => (sb3.2 b hb).trans e) p0 p1 p3 p4 p5, q⟩⟩
theorem sw_trueD {ka va : Expr} {gs : List Comprehension} {scope : Scope} {pos py : Pos} {y : Str} {l : Nat} {env : Env} (hk : env.scope.kind = .function) (hy : env.scope.names.lookup y = some .local) (hl : (py.line == pos.line) = true)
    (ha : (scope.names.any fun (n, k) => n == y && (k == .local || k == .cell)) = false) : swapsWith (.DictComp ka va gs scope pos) (some (.Name y py)) l env = pure true := by
  have kk : env.kindOf y = some .local := hy
  have bb : env.blockKind = .function := by unfold Env.blockKind; rw [hk]; rfl
  unfold swapsWith
  simp only [bb, kk, ha, Expr.pos, hl]
  rfl
end
end Tst
/-! x.split(" ", 2) of a text with two blanks or more. -/
namespace Tst
open PySem PySem.Builtin PySem.Builtin.Str PySem.StrLaws
theorem tight_lim (s sub : Str) (hi limit lo : Nat) (hw : 1 ≤ sub.length) : ∀ (m cur : Nat) (st : Array Nat × Nat), ChainG s sub hi lo st.fst.toList st.snd → (st.fst.size < limit → ∀ k, st.snd ≤ k → k < cur → ¬ At s sub hi k) → st.fst.size ≤ limit →
    ChainG s sub hi lo (forIn (List.range' cur m) st (occBody s sub hi limit)).run.fst.toList (forIn (List.range' cur m) st (occBody s sub hi limit)).run.snd ∧ (forIn (List.range' cur m) st (occBody s sub hi limit)).run.fst.size ≤ limit ∧
    ((forIn (List.range' cur m) st (occBody s sub hi limit)).run.fst.size < limit → ∀ k, (forIn (List.range' cur m) st (occBody s sub hi limit)).run.snd ≤ k → k < cur + m → ¬ At s sub hi k)
  | 0, cur, st, h, hn, hz => ⟨h, hz, hn⟩
  | m + 1, cur, st, h, hn, hz => by
    rw [List.range'_succ, List.forIn_cons]
    unfold occBody
    have e : cur + (m + 1) = (cur + 1) + m := by omega
    rw [e]
    split
    · rename_i hc
      refine tight_lim s sub hi limit lo hw m (cur + 1) _ ?_ ?_ ?_
      · show ChainG s sub hi lo (st.fst.push cur).toList (cur + sub.length)
        rw [Array.toList_push]
        exact chainG_snoc h hc.1.1.2 ⟨hc.1.2, hc.2⟩ (hn hc.1.1.1)
      · intro _ k h1 h2
        have h3 : cur + sub.length ≤ k := h1
        omega
      · show (st.fst.push cur).size ≤ limit
        rw [Array.size_push]
        have := hc.1.1.1
        omega
    · rename_i hc
      refine tight_lim s sub hi limit lo hw m (cur + 1) _ h ?_ hz
      intro hs k h1 h2 hA
      by_cases hk : k < cur
      · exact hn hs k h1 hk hA
      · have ek : k = cur := by omega
        subst ek
        exact hc ⟨⟨⟨hs, h1⟩, hA.1⟩, hA.2⟩
theorem occ_lim (x y : Str) (limit : Nat) (hw : 1 ≤ y.length) : ∃ f, ChainG x y x.length 0 (occurrences x y 0 x.length limit) f ∧ (occurrences x y 0 x.length limit).length ≤ limit ∧ ((occurrences x y 0 x.length limit).length < limit → ∀ k, f ≤ k → ¬ At x y x.length k) := by
  rw [occ_eq]
  have key := tight_lim x y x.length limit 0 hw (x.length + 1 - 0) 0 ((#[] : Array Nat), 0) rfl (fun _ k _ h => by omega) (Nat.zero_le _)
  refine ⟨_, key.1, key.2.1, fun hl k hk hA => ?_⟩
  exact key.2.2 hl k hk (by have := hA.1; omega) hA
theorem at_one (x : Str) (c k : Nat) : At x ⟨#[c]⟩ x.length k ↔ x.cps.toList[k]? = some c := by
  constructor
  · intro h
    exact (subAt_one x c k).mp h
  · intro h
    exact (subAt_one x c k).mpr h
theorem occ_two {x : Str} {c : Nat} {A B C : List Nat} (hx : x.cps.toList = A ++ c :: (B ++ c :: C)) (hA : c ∉ A) (hB : c ∉ B) : occurrences x ⟨#[c]⟩ 0 x.length 2 = [A.length, A.length + 1 + B.length] := by
  obtain ⟨f, hG, hl, hn⟩ := occ_lim x ⟨#[c]⟩ 2 (Nat.le_refl 1)
  have g1 : x.cps.toList[A.length]? = some c := by rw [hx]; simp
  have g2 : x.cps.toList[A.length + 1 + B.length]? = some c := by
    rw [hx, List.getElem?_append_right (by omega), show A.length + 1 + B.length - A.length = B.length + 1 by omega, List.getElem?_cons_succ]
    simp
  have n1 : ∀ k, k < A.length → x.cps.toList[k]? ≠ some c := fun k hk e => by
    rw [hx, List.getElem?_append_left hk] at e
    exact hA (List.mem_of_getElem? e)
  have n2 : ∀ k, A.length + 1 ≤ k → k < A.length + 1 + B.length → x.cps.toList[k]? ≠ some c := fun k h1 h2 e => by
    rw [hx, List.getElem?_append_right (by omega), show k - A.length = (k - A.length - 1) + 1 by omega, List.getElem?_cons_succ, List.getElem?_append_left (by omega)] at e
    exact hB (List.mem_of_getElem? e)
  have first : ∀ c1, At x ⟨#[c]⟩ x.length c1 → (∀ k, 0 ≤ k → k < c1 → ¬ At x ⟨#[c]⟩ x.length k) → c1 = A.length := fun c1 h1 h2 => by
    rcases Nat.lt_trichotomy c1 A.length with h | h | h
    · exact absurd ((at_one x c c1).mp h1) (n1 _ h)
    · exact h
    · exact absurd ((at_one x c _).mpr g1) (h2 _ (Nat.zero_le _) h)
  have second : ∀ c2, A.length + 1 ≤ c2 → At x ⟨#[c]⟩ x.length c2 → (∀ k, A.length + 1 ≤ k → k < c2 → ¬ At x ⟨#[c]⟩ x.length k) → c2 = A.length + 1 + B.length := fun c2 h0 h1 h2 => by
    rcases Nat.lt_trichotomy c2 (A.length + 1 + B.length) with h | h | h
    · exact absurd ((at_one x c c2).mp h1) (n2 _ h0 h)
    · exact h
    · exact absurd ((at_one x c _).mpr g2) (h2 _ (by omega) h)
  revert hG hl hn
  cases occurrences x ⟨#[c]⟩ 0 x.length 2 with
  | nil =>
    intro hG hl hn
    have ef : f = 0 := hG
    exact absurd ((at_one x c _).mpr g1) (hn (by show 0 < 2; decide) _ (by omega))
  | cons c1 r =>
    intro hG hl hn
    obtain ⟨_, a1, b1, hG⟩ := hG
    obtain rfl := first c1 a1 b1
    cases r with
    | nil =>
      have ef : f = A.length + 1 := hG
      exact absurd ((at_one x c _).mpr g2) (hn (by show 1 < 2; decide) _ (by omega))
    | cons c2 r =>
      obtain ⟨a0, a2, b2, _⟩ := hG
      obtain rfl := second c2 a0 a2 b2
      cases r with
      | nil => rfl
      | cons c3 r => simp at hl
open PySem.Spec PyProof.Rows L2 TL
theorem split_two {A B C : List Nat} (hA : 32 ∉ A) (hB : 32 ∉ B) : Txt.splitMax ⟨(A ++ 32 :: (B ++ 32 :: C)).toArray⟩ (Str.ofString " ") 2 = [⟨A.toArray⟩, ⟨B.toArray⟩, ⟨C.toArray⟩] := by
  have eb : Str.ofString " " = ⟨#[32]⟩ := by decide +kernel
  rw [eb]
  generalize hx : (⟨(A ++ 32 :: (B ++ 32 :: C)).toArray⟩ : Str) = x
  have hx' : x.cps.toList = A ++ 32 :: (B ++ 32 :: C) := by rw [← hx]
  have ho := occ_two hx' hA hB
  have hlen : x.length = A.length + 1 + (B.length + 1 + C.length) := by
    show x.cps.size = _
    rw [← Array.length_toList, hx']
    simp
    omega
  have el : limitOf x 2 = 2 := rfl
  have hk : ¬ strKind x < strKind ⟨#[32]⟩ := TL.kind_ok (by decide +kernel)
  unfold Txt.splitMax
  rw [el, ho, if_neg (by
    rw [Bool.or_eq_true, decide_eq_true_eq, decide_eq_true_eq]
    intro h
    rcases h with h | h
    · have : (⟨#[32]⟩ : Str).length = 1 := rfl
      omega
    · exact hk h), if_neg (by simp), partsBetween_eq]
  refine TL.map_tl_inj ?_
  show [TL.tl (strSub x 0 A.length), TL.tl (strSub x (A.length + 1) (A.length + 1 + B.length)), TL.tl (strSub x (A.length + 1 + B.length + 1) x.length)] = [A, B, C]
  rw [TL.tl_strSub, TL.tl_strSub, TL.tl_strSub_end, show TL.tl x = A ++ 32 :: (B ++ 32 :: C) from hx']
  refine congr (congrArg _ ?_) (congr (congrArg _ ?_) (congr (congrArg _ ?_) rfl))
  · rw [List.drop_zero, Nat.sub_zero, List.take_left]
  · rw [List.drop_append, List.drop_eq_nil_of_le (by omega), List.nil_append, show A.length + 1 - A.length = 1 by omega, List.drop_succ_cons, List.drop_zero, show A.length + 1 + B.length - (A.length + 1) = B.length by omega, List.take_left]
  · rw [List.drop_append, List.drop_eq_nil_of_le (by omega), List.nil_append, show A.length + 1 + B.length + 1 - A.length = (B.length + 1) + 1 by omega, List.drop_succ_cons, List.drop_append, List.drop_eq_nil_of_le (by omega), List.nil_append, show B.length + 1 - B.length = 1 by omega, List.drop_succ_cons, List.drop_zero]
end Tst
namespace Tst
open PySem PySem.Spec PyProof.Rows L2 TL
def top (i : Nat) : Stmt := PySem.Challenge.pw_termstead_k20_journal_chained.main.body.getD i (.Pass ⟨0, 0, 0, 0⟩)
def eBP : Expr := .JoinedStr [.FormattedValue (.Name "place" ⟨9, 28, 9, 33⟩) (-1) none ⟨9, 27, 9, 34⟩] ⟨9, 25, 9, 35⟩
abbrev s_read_plain : Stmt := top 72
theorem sc_read_plain : FnScope ["text", "value", "place"] ["text"] (defScope s_read_plain) := ⟨rfl, rfl, rfl, by decide +kernel, rfl, by decide +kernel, by decide +kernel⟩
abbrev s_value_at : Stmt := top 73
theorem sc_value_at : FnScope ["text", "place", "within", "sign"] ["text", "place", "within"] (defScope s_value_at) := ⟨rfl, rfl, rfl, by decide +kernel, rfl, by decide +kernel, by decide +kernel⟩
abbrev s_integer_at : Stmt := top 74
theorem sc_integer_at : FnScope ["text", "place", "begin", "sign", "end"] ["text", "place"] (defScope s_integer_at) := ⟨rfl, rfl, rfl, by decide +kernel, rfl, by decide +kernel, by decide +kernel⟩
abbrev s_text_at : Stmt := top 75
theorem sc_text_at : FnScope ["text", "place", "parts", "quote", "end", "slash", "feed", "behind"] ["text", "place"] (defScope s_text_at) := ⟨rfl, rfl, rfl, by decide +kernel, rfl, by decide +kernel, by decide +kernel⟩
abbrev s_tuple_at : Stmt := top 76
theorem sc_tuple_at : FnScope ["text", "place", "within", "members", "member", "sign"] ["text", "place", "within"] (defScope s_tuple_at) := ⟨rfl, rfl, rfl, by decide +kernel, rfl, by decide +kernel, by decide +kernel⟩
abbrev s_show_plain : Stmt := top 70
theorem sc_show_plain : FnScope ["value", "member"] ["value"] (defScope s_show_plain) := ⟨rfl, rfl, rfl, by decide +kernel, rfl, by decide +kernel, by decide +kernel⟩
abbrev s_quoted : Stmt := top 71
theorem sc_quoted : FnScope ["text"] ["text"] (defScope s_quoted) := ⟨rfl, rfl, rfl, by decide +kernel, rfl, by decide +kernel, by decide +kernel⟩
abbrev s_is_integer : Stmt := top 6
theorem sc_is_integer : FnScope ["thing"] ["thing"] (defScope s_is_integer) := ⟨rfl, rfl, rfl, by decide +kernel, rfl, by decide +kernel, by decide +kernel⟩
abbrev s_is_name_vforms : Stmt := top 7
theorem sc_is_name_vforms : FnScope ["thing"] ["thing"] (defScope s_is_name_vforms) := ⟨rfl, rfl, rfl, by decide +kernel, rfl, by decide +kernel, by decide +kernel⟩
abbrev s_is_rising : Stmt := top 9
theorem sc_is_rising : FnScope ["thing", "one", "other"] ["thing"] (defScope s_is_rising) := ⟨rfl, rfl, rfl, by decide +kernel, rfl, by decide +kernel, by decide +kernel⟩
abbrev s_is_paper : Stmt := top 10
theorem sc_is_paper : FnScope ["thing", "word", "width"] ["thing", "word", "width"] (defScope s_is_paper) := ⟨rfl, rfl, rfl, by decide +kernel, rfl, by decide +kernel, by decide +kernel⟩
abbrev s_is_of : Stmt := top 11
theorem sc_is_of : FnScope ["thing", "width"] ["thing", "width"] (defScope s_is_of) := ⟨rfl, rfl, rfl, by decide +kernel, rfl, by decide +kernel, by decide +kernel⟩
abbrev s_is_ratio : Stmt := top 15
theorem sc_is_ratio : FnScope ["thing", "one"] ["thing"] (defScope s_is_ratio) := ⟨rfl, rfl, rfl, by decide +kernel, rfl, by decide +kernel, by decide +kernel⟩
abbrev s_is_typed : Stmt := top 16
theorem sc_is_typed : FnScope ["thing"] ["thing"] (defScope s_is_typed) := ⟨rfl, rfl, rfl, by decide +kernel, rfl, by decide +kernel, by decide +kernel⟩
abbrev s_is_leaf : Stmt := top 59
theorem sc_is_leaf : FnScope ["thing"] ["thing"] (defScope s_is_leaf) := ⟨rfl, rfl, rfl, by decide +kernel, rfl, by decide +kernel, by decide +kernel⟩
abbrev s_members_of : Stmt := top 60
theorem sc_members_of : FnScope ["thing", "word"] ["thing"] (defScope s_members_of) := ⟨rfl, rfl, rfl, by decide +kernel, rfl, by decide +kernel, by decide +kernel⟩
abbrev s_is_expression : Stmt := top 61
theorem sc_is_expression : FnScope ["thing", "words", "row", "deep", "after", "one", "own"] ["thing"] (defScope s_is_expression) := ⟨rfl, rfl, rfl, by decide +kernel, rfl, by decide +kernel, by decide +kernel⟩
abbrev s_names_in : Stmt := top 62
theorem sc_names_in : FnScope ["expression", "told", "left", "one"] ["expression"] (defScope s_names_in) := ⟨rfl, rfl, rfl, by decide +kernel, rfl, by decide +kernel, by decide +kernel⟩
abbrev s_is_whole_language : Stmt := top 63
theorem sc_is_whole_language : FnScope ["rows", "near", "start", "found", "left", "name", "expression"] ["rows"] (defScope s_is_whole_language) := ⟨rfl, rfl, rfl, by decide +kernel, rfl, by decide +kernel, by decide +kernel⟩
abbrev s_is_book : Stmt := top 65
theorem sc_is_book : FnScope ["thing", "row"] ["thing"] (defScope s_is_book) := ⟨rfl, rfl, rfl, by decide +kernel, rfl, by decide +kernel, by decide +kernel⟩
abbrev s_is_whole_wnames : Stmt := top 80
theorem sc_is_whole_wnames : FnScope ["thing", "least", "most"] ["thing", "least", "most"] (defScope s_is_whole_wnames) := ⟨rfl, rfl, rfl, by decide +kernel, rfl, by decide +kernel, by decide +kernel⟩
abbrev s_is_name_wnames : Stmt := top 82
theorem sc_is_name_wnames : FnScope ["thing", "sign"] ["thing"] (defScope s_is_name_wnames) := ⟨rfl, rfl, rfl, by decide +kernel, rfl, by decide +kernel, by decide +kernel⟩
abbrev s_is_form : Stmt := top 84
theorem sc_is_form : FnScope ["thing", "word", "many"] ["thing", "word", "many"] (defScope s_is_form) := ⟨rfl, rfl, rfl, by decide +kernel, rfl, by decide +kernel, by decide +kernel⟩
abbrev s_is_act : Stmt := top 86
theorem sc_is_act : FnScope ["thing", "number"] ["thing", "number"] (defScope s_is_act) := ⟨rfl, rfl, rfl, by decide +kernel, rfl, by decide +kernel, by decide +kernel⟩
abbrev s_is_notice : Stmt := top 87
theorem sc_is_notice : FnScope ["thing"] ["thing"] (defScope s_is_notice) := ⟨rfl, rfl, rfl, by decide +kernel, rfl, by decide +kernel, by decide +kernel⟩
abbrev s_is_promise : Stmt := top 89
theorem sc_is_promise : FnScope ["thing", "word", "rest"] ["thing"] (defScope s_is_promise) := ⟨rfl, rfl, rfl, by decide +kernel, rfl, by decide +kernel, by decide +kernel⟩
abbrev s_is_question : Stmt := top 93
theorem sc_is_question : FnScope ["thing", "word"] ["thing"] (defScope s_is_question) := ⟨rfl, rfl, rfl, by decide +kernel, rfl, by decide +kernel, by decide +kernel⟩
abbrev s_sum_behind : Stmt := top 96
theorem sc_sum_behind : FnScope ["n", "before", "text", "codes"] ["n", "before", "text"] (defScope s_sum_behind) := ⟨rfl, rfl, rfl, by decide +kernel, rfl, by decide +kernel, by decide +kernel⟩
abbrev s_journal_line : Stmt := top 97
theorem sc_journal_line : FnScope ["n", "before", "entry", "text"] ["n", "before", "entry"] (defScope s_journal_line) := ⟨rfl, rfl, rfl, by decide +kernel, rfl, by decide +kernel, by decide +kernel⟩
abbrev s_entry_of : Stmt := top 98
theorem sc_entry_of : FnScope ["text", "n", "entry", "is_right"] ["text", "n"] (defScope s_entry_of) := ⟨rfl, rfl, rfl, by decide +kernel, rfl, by decide +kernel, by decide +kernel⟩
abbrev s_is_first : Stmt := top 99
theorem sc_is_first : FnScope ["entry"] ["entry"] (defScope s_is_first) := ⟨rfl, rfl, rfl, by decide +kernel, rfl, by decide +kernel, by decide +kernel⟩
abbrev s_is_later : Stmt := top 100
theorem sc_is_later : FnScope ["entry", "word", "many"] ["entry"] (defScope s_is_later) := ⟨rfl, rfl, rfl, by decide +kernel, rfl, by decide +kernel, by decide +kernel⟩
abbrev s_read_journal : Stmt := top 101
theorem sc_read_journal : FnScope ["text", "entries", "signs", "before", "n", "row", "number", "_", "rest", "worth", "blank", "words", "found"] ["text"] (defScope s_read_journal) := ⟨rfl, rfl, rfl, by decide +kernel, rfl, by decide +kernel, by decide +kernel⟩
abbrev s__law_cell : Stmt := top 103
theorem sc__law_cell : FnScope ["script", "k"] ["script", "k"] (defScope s__law_cell) := ⟨rfl, rfl, rfl, by decide +kernel, rfl, by decide +kernel, by decide +kernel⟩
abbrev s__law_digits : Stmt := top 104
theorem sc__law_digits : FnScope ["script", "first", "last", "digits", "k", "cell", "turn", "seed"] ["script", "first", "last"] (defScope s__law_digits) := ⟨rfl, rfl, rfl, by decide +kernel, rfl, by decide +kernel, by decide +kernel⟩
abbrev s__law_draw : Stmt := top 105
theorem sc__law_draw : FnScope ["box", "many", "at"] ["box", "many"] (defScope s__law_draw) := ⟨rfl, rfl, rfl, by decide +kernel, rfl, by decide +kernel, by decide +kernel⟩
abbrev s__law_pick : Stmt := top 106
theorem sc__law_pick : FnScope ["box", "things"] ["box", "things"] (defScope s__law_pick) := ⟨rfl, rfl, rfl, by decide +kernel, rfl, by decide +kernel, by decide +kernel⟩
abbrev s__law_like : Stmt := top 107
theorem sc__law_like : FnScope ["told", "due", "k"] ["told", "due"] (defScope s__law_like) := ⟨rfl, rfl, rfl, by decide +kernel, rfl, by decide +kernel, by decide +kernel⟩
abbrev s__law_start : Stmt := top 108
theorem sc__law_start : FnScope [] [] (defScope s__law_start) := ⟨rfl, rfl, rfl, by decide +kernel, rfl, by decide +kernel, by decide +kernel⟩
abbrev s__law_entry : Stmt := top 109
theorem sc__law_entry : FnScope ["box", "at", "notice", "rows"] ["box", "at"] (defScope s__law_entry) := ⟨rfl, rfl, rfl, by decide +kernel, rfl, by decide +kernel, by decide +kernel⟩
abbrev s__law_wrong : Stmt := top 110
theorem sc__law_wrong : FnScope ["box", "rows"] ["box"] (defScope s__law_wrong) := ⟨rfl, rfl, rfl, by decide +kernel, rfl, by decide +kernel, by decide +kernel⟩
abbrev s__law_sum : Stmt := top 111
theorem sc__law_sum : FnScope ["n", "before", "text", "total", "k"] ["n", "before", "text"] (defScope s__law_sum) := ⟨rfl, rfl, rfl, by decide +kernel, rfl, by decide +kernel, by decide +kernel⟩
abbrev s__law_lines : Stmt := top 112
theorem sc__law_lines : FnScope ["entries", "lines", "before", "n", "text"] ["entries"] (defScope s__law_lines) := ⟨rfl, rfl, rfl, by decide +kernel, rfl, by decide +kernel, by decide +kernel⟩
abbrev s__law_shifted : Stmt := top 113
theorem sc__law_shifted : FnScope ["box", "lines", "at", "kind", "words", "place", "sign", "text", "line"] ["box", "lines"] (defScope s__law_shifted) := ⟨rfl, rfl, rfl, by decide +kernel, rfl, by decide +kernel, by decide +kernel⟩
abbrev s__law_due : Stmt := top 114
theorem sc__law_due : FnScope ["entries", "lines", "text", "kept", "signs", "line"] ["entries", "lines", "text"] (defScope s__law_due) := ⟨rfl, rfl, rfl, by decide +kernel, rfl, by decide +kernel, by decide +kernel⟩
abbrev s_law : Stmt := top 115
theorem sc_law : FnScope ["script", "box", "turn", "entries", "lines", "before", "n", "text", "wrong", "headless", "at", "line"] ["script"] (defScope s_law) := ⟨rfl, rfl, rfl, by decide +kernel, rfl, by decide +kernel, by decide +kernel⟩
/-- what the text's top has: the built-ins are the built-ins, the constants -/
structure Txt0 (mg : Str → Option Value) : Prop where
  n_len : mg "len" = none
  n_isinstance : mg "isinstance" = none
  n_int : mg "int" = none
  n_str : mg "str" = none
  n_tuple : mg "tuple" = none
  n_bool : mg "bool" = none
  n_range : mg "range" = none
  n_ord : mg "ord" = none
  n_list : mg "list" = none
  n_map : mg "map" = none
  n_sum : mg "sum" = none
  n_all : mg "all" = none
  n_any : mg "any" = none
  n_enumerate : mg "enumerate" = none
  n_zip : mg "zip" = none
  n_sorted : mg "sorted" = none
  n_abs : mg "abs" = none
  g_MOST_FIGURES : ∃ t, mg "MOST_FIGURES" = some (.int 2000 t)
  g_MOST_BRACKETS : ∃ t, mg "MOST_BRACKETS" = some (.int 40 t)
  g_MOST_ABOVE : ∃ t, mg "MOST_ABOVE" = some (.int 1000000 t)
  g_MOST_BELOW : ∃ t, mg "MOST_BELOW" = some (.int 1000 t)
  g_MOST_WORDS : ∃ t, mg "MOST_WORDS" = some (.int 20 t)
  g_MOST_DEEP : ∃ t, mg "MOST_DEEP" = some (.int 8 t)
  g_MOST_ROWS : ∃ t, mg "MOST_ROWS" = some (.int 12 t)
  g_MOST_SHIFT : ∃ t, mg "MOST_SHIFT" = some (.int 20 t)
  g_MOST_EVERY : ∃ t, mg "MOST_EVERY" = some (.int 4 t)
  g_MOST_FROM : ∃ t, mg "MOST_FROM" = some (.int 10 t)
  g_MOST_MIXED : ∃ t, mg "MOST_MIXED" = some (.int 3 t)
  g_BY : ∃ t, mg "BY" = some (.int 99991 t)
  g_FIGURES : ∃ t, mg "FIGURES" = some (.str (Str.ofString "0123456789") t)
  g_LETTERS : ∃ t, mg "LETTERS" = some (.str (Str.ofString "abcdefghijklmnopqrstuvwxyz") t)
  g_SIGNS_wnames : ∃ t, mg "SIGNS_wnames" = some (.str (Str.ofString "abcdefghijklmnopqrstuvwxyz0123456789") t)
  g_accumulate : mg "accumulate" = some (.type "itertools.accumulate")
  g_gcd : mg "gcd" = some (.builtin "math.gcd")
/-- BadPlain, and no bound of the world's own on digits -/
structure Bp (P : Program) (K : PySem.W.Frag) (mg : Str → Option Value) (C fI cc cda : Addr) : Prop where
  bp : SupTxt P K mg "BadPlain" (Str.ofString "place") eBP C fI cc cda
  nodig : PySem.W.nsIn K cStatics "sys.int_max_str_digits" = some none
/-- a place that can be written -/
def okPlace (v : V) : Prop := ∃ n : Int, v = .int n ∧ n.natAbs.log2 < 1920
theorem ev_bp {P : Program} {w : World} : ∀ (v : V) (u : Value), okPlace v → RelV v u → EvTxt P w (Str.ofString "place") eBP u := fun v u ⟨_, e, hn⟩ r => ev_place fld_place hn e r
/-- the error at a place -/
def ErrAt (C : Addr) (H : Hp) (E : XK) (q : Nat) : Prop := ∀ (d : Addr) (H' : Hp), Same H H' → H' d = some (.xd [(Str.ofString "place", .int ((q : Nat) : Int))]) → E (.ref C) (some d) H'
theorem ErrAt.from_ {C : Addr} {H H1 : Hp} {E : XK} {q : Nat} (h : ErrAt C H E q) (s : Same H H1) : ErrAt C H1 E q := fun d H' s' e => h d H' (s.trans s') e
/-- raise BadPlain(place): what is to be shown -/
theorem ErrAt.raise {C : Addr} {H H1 : Hp} {E : XK} {q : Nat} (h : ErrAt C H E q) (s : Same H H1) (hq : q ≤ 2000000) :
    ∃ v, [V.int ((q : Nat) : Int)] = [v] ∧ okPlace v ∧ ∀ d, H1 d = none → E (.ref C) (some d) (upd H1 d (.xd [(Str.ofString "place", v)])) :=
  ⟨_, rfl, ⟨_, rfl, log_place hq⟩, fun d hd => h d _ (s.trans (same_new hd _)) upd_same⟩
section
variable {P : Program} {w : World} {K : PySem.W.Frag} {mg : Str → Option Value} {base : Heap} {f : Addr} {fd : FuncData} {C fI cc cda : Addr}
def spCell (K : PySem.W.Frag) : Sp := fun vs H Q _ => ∃ (a : Addr) (ns : List Int) (k : Int), vs = [.ref a, .int k] ∧ SqL K H a (ns.map V.int) ∧ 0 ≤ k ∧ ∀ i : Int, Q (.int i) H
theorem ok_cell (F : Fun K "_law_cell" "_law_cell" s__law_cell f fd) (T : Txt0 mg) : FnOk P w K mg base CX0 1 f fd ["script", "k"] (spCell K) := by
  refine F.ok sc__law_cell (fun vs H Q E h => ?_) (fun cdv A outer s H vs Q E hr h => ?_)
  · obtain ⟨a, ns, k, rfl, _⟩ := h
    rfl
  obtain ⟨a, ns, k, rfl, hS, h0, q⟩ := h
  refine ⟨_, pss_cons (ps_if (pt_cmpR op_lt (pv 1) (pe_callB call_len_seq rfl (by exact T.n_len) PySem.boot_len (pa_cons (pv 0) pa_nil)) (nomark _)) (pss_one (ps_ret (pe_ix ix_list (pv 0) (pv 1) (fun _ _ => rfl)))) (pss_nil))
    (pss_one (ps_ret (pe_int))), ?_⟩
  refine ⟨_, rfl, _, rfl, a, _, rfl, .inl hS, _, _, rfl, rfl, _, rfl, ?_⟩
  refine ite2 (fun c => ?_) (fun c => ?_)
  · have c' : k < (((ns.map V.int).length : Nat) : Int) := of_decide_eq_true c
    rw [List.length_map] at c'
    have hk : k.toNat < ns.length := by omega
    have e : atI (ns.map V.int) k = some (.int ns[k.toNat]) := by
      have q := atI_nat (xs := ns.map V.int) (j := k.toNat) (v := V.int ns[k.toNat]) (by rw [List.getElem?_map, List.getElem?_eq_getElem hk]; rfl)
      rwa [show ((k.toNat : Nat) : Int) = k by omega] at q
    exact ⟨_, rfl, _, rfl, a, _, _, _, rfl, rfl, hS, e, q _⟩
  · exact q 0

def spDigits (K : PySem.W.Frag) : Sp := fun vs H Q _ => ∃ (a : Addr) (ns : List Int) (lo hi : Int), vs = [.ref a, .int lo, .int hi] ∧ SqL K H a (ns.map V.int) ∧ (0 ≤ lo ∧ lo ≤ 1000 ∧ 0 ≤ hi ∧ hi ≤ 1000) ∧
  ∀ (p : Addr) (H' : Hp) (ds : List Int), Same H H' → H p = none → H' p = some (.lst (ds.map V.int)) → Q (.ref p) H'
/-- behind a turn: the digits so far -/
structure DigAt (p : Addr) (H0 H : Hp) (m : Nat) : Prop where
  at_ : ∃ ds : List Int, H p = some (.lst (ds.map V.int)) ∧ ds.length ≤ m
  keep : Kept p H0 H
theorem DigAt.mono {p : Addr} {H0 H : Hp} {m n : Nat} (x : DigAt p H0 H m) (h : m ≤ n) : DigAt p H0 H n := by
  obtain ⟨⟨ds, h1, h2⟩, k⟩ := x
  exact ⟨⟨ds, h1, by omega⟩, k⟩
theorem DigAt.add {p : Addr} {H0 H : Hp} {m : Nat} {ds : List Int} {v : Int} (k : Kept p H0 H) (hd : H p = some (.lst (ds.map V.int))) (hl : ds.length ≤ m) : DigAt p H0 (upd H p (.lst (ds.map V.int ++ [.int v]))) (m + 1) :=
  ⟨⟨ds ++ [v], by rw [upd_same, List.map_append]; rfl, by rw [List.length_append, List.length_singleton]; omega⟩, k.trans Kept.upd⟩
theorem small_of {n : Nat} (h : n ≤ 1000000) : n < sizeLine := Nat.lt_of_le_of_lt h (by decide)
theorem ok_digits (F : Fun K "_law_digits" "_law_digits" s__law_digits f fd) (T : Txt0 mg) (c__law_cell : Cal P w K mg base CX0 1 "_law_cell" ["script", "k"] (spCell K)) : FnOk P w K mg base CX0 2 f fd ["script", "first", "last"] (spDigits K) := by
  refine F.ok sc__law_digits (fun vs H Q E h => ?_) (fun cdv A outer s H vs Q E hr h => ?_)
  · obtain ⟨a, ns, lo, hi, rfl, _⟩ := h
    rfl
  obtain ⟨a, ns, lo, hi, rfl, hS, ⟨b1, b2, b3, b4⟩, q⟩ := h
  refine ⟨_, pss_cons (ps_set (i := 3) sc__law_digits.nd rfl (Or.inl rfl) (pe_lst (pa_nil)))
    (pss_cons (ps_for PassesOwn.never rfl (pi_range2 rfl (by exact T.n_range) (pa_cons (pv 1) (pa_cons (pv 2) pa_nil))) (pg_name (i := 4) sc__law_digits.nd rfl (Or.inl rfl)) (pss_cons (ps_set (i := 5) sc__law_digits.nd rfl (Or.inl rfl) (pe_cal c__law_cell (hr.mono (by omega)) rfl pass0 (pa_cons (pv 0) (pa_cons (pv 4) pa_nil))))
    (C8.pss_cut (ps_if (pt_cmpR op_lt (pv 5) (pe_int) (nomark _)) (pss_one (ps_set (i := 5) sc__law_digits.nd rfl (Or.inl rfl) (pe_op op_sub (pe_int) (pe_op op_mul (pe_int) (pv 5))))) (pss_nil))
    (pss_cons (ps_if (pt_cmpR op_gt (pe_callB call_len_seq rfl (by exact T.n_len) PySem.boot_len (pa_cons (pv 3) pa_nil)) (pe_int) (nomark _)) (pss_one (ps_break)) (pss_nil))
    (pss_one (ps_if (pt_cmpR op_ge (pv 5) (pe_op op_pow (pe_int) (pe_int)) (nomark _)) (pss_one (ps_for PassesOwn.never rfl (pi_range1 rfl (by exact T.n_range) (pa_cons (pe_int) pa_nil)) (pg_name (i := 6) sc__law_digits.nd rfl (Or.inl rfl)) (pss_one (ps_if (pt_cmpR op_gt (pv 5) (pe_int) (nomark _)) (pss_cons (ps_expr (pe_bm PySem.F.plainAttrs_list PySem.F.slot_list_append PySem.F.type_list_append mt_append (pv 3) (pa_cons (pe_op op_mod (pe_callTy call_int1 rfl (by exact T.n_int) (by decide +kernel) (pa_cons (pv 5) pa_nil)) (pe_int)) pa_nil)))
    (pss_one (ps_set (i := 5) sc__law_digits.nd rfl (Or.inl rfl) (pe_op op_fdiv (pv 5) (pe_int))))) (pss_nil))))) (pss_cons (ps_set (i := 7) sc__law_digits.nd rfl (Or.inl rfl) (pe_op op_mod (pe_callTy call_int1 rfl (by exact T.n_int) (by decide +kernel) (pa_cons (pe_op op_add (pe_op op_add (pe_op op_mul (pv 5) (pe_int)) (pe_op op_mul (pv 4) (pe_int))) (pe_int)) pa_nil)) (pe_int)))
    (pss_one (ps_for PassesOwn.never rfl (pi_range1 rfl (by exact T.n_range) (pa_cons (pe_int) pa_nil)) (pg_name (i := 6) sc__law_digits.nd rfl (Or.inl rfl)) (pss_cons (ps_set (i := 7) sc__law_digits.nd rfl (Or.inl rfl) (pe_op op_mod (pe_callTy call_int1 rfl (by exact T.n_int) (by decide +kernel) (pa_cons (pe_op op_add (pe_op op_add (pe_op op_mul (pv 7) (pe_int)) (pe_op op_mul (pe_int) (pv 6))) (pe_int)) pa_nil)) (pe_int)))
    (pss_one (ps_expr (pe_bm PySem.F.plainAttrs_list PySem.F.slot_list_append PySem.F.type_list_append mt_append (pv 3) (pa_cons (pe_op op_mod (pe_callTy call_int1 rfl (by exact T.n_int) (by decide +kernel) (pa_cons (pe_op op_fdiv (pv 7) (pe_int)) pa_nil)) (pe_int)) pa_nil))))))))))))))
    (pss_one (ps_ret (pv 3)))), ?_⟩
  refine ⟨(by show 0 ≤ sizeLine; decide), fun p hp => ?_⟩
  have fin : ∀ H' : Hp, DigAt p H H' 2000 → Q (.ref p) H' := fun H' x => by
    obtain ⟨⟨ds, h1, _⟩, k⟩ := x
    exact q p H' ds (fun b o e => k b o (ne_of_none e hp) e) hp h1
  refine ⟨_, rfl, _, rfl, lo, hi, rfl, ⟨by omega, by omega, by omega, by omega⟩, for_range (lo := lo) (n := (hi - lo).toNat)
    (fun i σ H' => ∃ x4 x5 x6 x7 : Option V, σ = [some (.ref a), some (.int lo), some (.int hi), some (.ref p), x4, x5, x6, x7] ∧ DigAt p H H' 1560) ?_ ?_ ?_⟩
  · exact ⟨_, _, _, _, rfl, ⟨⟨[], upd_same, by simp⟩, Kept.upd⟩⟩
  · rintro i σ H1 hi1 ⟨x4, x5, x6, x7, rfl, D1⟩
    obtain ⟨⟨ds, hd, hl⟩, k1⟩ := D1
    have hS1 : SqL K H1 a (ns.map V.int) := by
      have : Same H H1 := fun b o e => k1 b o (ne_of_none e hp) e
      exact this.seq hS
    -- cell = _law_cell(script, k)
    refine ⟨_, rfl, _, rfl, a, ns, _, rfl, hS1, by omega, fun c0 => ?_⟩
    -- if cell < 0: cell = 1 - 2 * cell
    refine ⟨fun σ' H' => H' = H1 ∧ ∃ c : Int, σ' = [some (.ref a), some (.int lo), some (.int hi), some (.ref p), some (.int (lo + i)), some (.int c), x6, x7], ?_, ?_⟩
    · refine ⟨_, rfl, _, _, rfl, rfl, _, rfl, ite2 (fun _ => ?_) (fun _ => ?_)⟩
      · exact ⟨_, rfl, _, _, rfl, rfl, .inl ⟨by decide, by decide⟩, _, _, rfl, rfl, rfl, _, rfl⟩
      · exact ⟨rfl, _, rfl⟩
    rintro σ' H' ⟨rfl, c, rfl⟩
    -- if len(digits) > 1500: break
    refine ⟨_, rfl, p, _, rfl, .inl (SqL.of hd), _, _, rfl, rfl, _, rfl, ?_⟩
    refine ite2 (fun c9 => ?_) (fun c9 => ?_)
    · exact ⟨_, rfl, fin _ ⟨⟨ds, hd, by omega⟩, k1⟩⟩
    have hl' : ds.length ≤ 1500 := by
      have c' : ¬ (1500 : Int) < (((ds.map V.int).length : Nat) : Int) := of_decide_eq_false (Bool.eq_false_iff.mpr c9)
      rw [List.length_map] at c'
      omega
    refine ⟨_, rfl, _, _, rfl, rfl, ⟨by decide, by decide, by decide⟩, _, _, rfl, rfl, _, rfl, ite2 (fun _ => ?_) (fun _ => ?_)⟩
    · -- the digits of a great cell
      refine ⟨60, rfl, by decide, by decide, for_range (lo := 0) (n := (60 : Int).toNat)
        (fun j σ H2 => ∃ (c : Int) (x6 : Option V), σ = [some (.ref a), some (.int lo), some (.int hi), some (.ref p), some (.int (lo + i)), some (.int c), x6, x7] ∧ DigAt p H H2 (1500 + j)) ?_ ?_ ?_⟩
      · exact ⟨_, _, rfl, ⟨ds, hd, by omega⟩, k1⟩
      · rintro j σ H2 hj ⟨c, x6, rfl, D2⟩
        refine ⟨_, rfl, _, _, rfl, rfl, _, rfl, ite2 (fun _ => ?_) (fun _ => ?_)⟩
        · obtain ⟨⟨ds2, hd2, hl2⟩, k2⟩ := D2
          refine ⟨_, rfl, .inl ⟨rfl, _, SqL.of hd2⟩, _, rfl, .inl ⟨_, rfl, _, _, rfl, rfl, (show (0 : Int) < 1000 by decide), p, _, _, rfl, rfl, hd2, (by rw [List.length_map]; exact small_of (by have : (60 : Int).toNat = 60 := rfl; omega)), ?_⟩⟩
          refine ⟨_, rfl, _, _, rfl, rfl, ⟨by decide, by decide⟩, _, _, rfl, DigAt.add k2 hd2 hl2⟩
        · exact ⟨_, _, rfl, D2.mono (by omega)⟩
      · rintro σ H2 ⟨c, x6, rfl, D2⟩
        exact ⟨_, _, _, _, rfl, D2.mono (by have : (60 : Int).toNat = 60 := rfl; omega)⟩
    · -- the digits of a seed
      refine ⟨_, rfl, _, _, rfl, rfl, .inr ⟨by decide, by decide⟩, _, rfl, _, _, rfl, rfl, .inr ⟨by decide, by decide⟩, _, _, rfl, rfl, _, _, rfl, rfl, .inl ⟨_, rfl, _, _, rfl, rfl, (show (0 : Int) < 2147483647 by decide), ?_⟩⟩
      refine ⟨12, rfl, by decide, by decide, for_range (lo := 0) (n := (12 : Int).toNat)
        (fun j σ H2 => ∃ (sd : Int) (x6 : Option V), σ = [some (.ref a), some (.int lo), some (.int hi), some (.ref p), some (.int (lo + i)), some (.int c), x6, some (.int sd)] ∧ DigAt p H H2 (1500 + j)) ?_ ?_ ?_⟩
      · exact ⟨_, _, rfl, ⟨ds, hd, by omega⟩, k1⟩
      · rintro j σ H2 hj ⟨sd, x6, rfl, ⟨ds2, hd2, hl2⟩, k2⟩
        refine ⟨_, rfl, _, _, rfl, rfl, .inr ⟨by decide, by decide⟩, _, rfl, _, _, rfl, rfl, .inl ⟨by decide, by decide⟩, _, _, rfl, rfl, _, _, rfl, rfl, .inl ⟨_, rfl, _, _, rfl, rfl, (show (0 : Int) < 2147483647 by decide), ?_⟩⟩
        refine ⟨_, rfl, .inl ⟨rfl, _, SqL.of hd2⟩, _, rfl, _, _, rfl, rfl, ⟨by decide, by decide⟩, .inl ⟨_, rfl, _, _, rfl, rfl, (show (0 : Int) < 1000 by decide), p, _, _, rfl, rfl, hd2, (by rw [List.length_map]; exact small_of (by have : (12 : Int).toNat = 12 := rfl; omega)), ?_⟩⟩
        exact ⟨_, _, rfl, DigAt.add k2 hd2 hl2⟩
      · rintro σ H2 ⟨c, x6, rfl, D2⟩
        exact ⟨_, _, _, _, rfl, D2.mono (by have : (12 : Int).toNat = 12 := rfl; omega)⟩
  · rintro σ H1 ⟨x4, x5, x6, x7, rfl, D1⟩
    exact ⟨_, rfl, fin _ (D1.mono (by omega))⟩

/-! ### the draws -/
def spDraw : Sp := fun vs H Q _ => ∃ (b d : Addr) (many : Int), vs = [.ref b, .int many] ∧ 0 < many ∧ Box H b d ∧ ∀ (v : Int) (H' : Hp), 0 ≤ v → v < many → Box H' b d → Kept b H H' → Q (.int v) H'
theorem ok_draw (F : Fun K "_law_draw" "_law_draw" s__law_draw f fd) (T : Txt0 mg) : FnOk P w K mg base CX0 1 f fd ["box", "many"] spDraw := by
  refine F.ok sc__law_draw (fun vs H Q E h => ?_) (fun cdv A outer s H vs Q E hr h => ?_)
  · obtain ⟨b, d, many, rfl, _⟩ := h
    rfl
  obtain ⟨b, d, many, rfl, hm, ⟨ds, n, h1, h2, hn⟩, q⟩ := h
  refine ⟨_, pss_cons (ps_set (i := 2) sc__law_draw.nd rfl (Or.inl rfl) (pe_ix ix_list (pv 0) (pe_int) (fun _ _ => rfl)))
    (pss_cons (ps_asg (pe_op op_add (pv 2) (pe_int)) (pg_sub (pv 0) (pe_int) set_list))
    (pss_cons (ps_if (pt_cmpR op_lt (pv 2) (pe_callB call_len_seq rfl (by exact T.n_len) PySem.boot_len (pa_cons (pe_ix ix_list (pv 0) (pe_int) (fun _ _ => rfl)) pa_nil)) (nomark _)) (pss_one (ps_ret (pe_op op_mod (pe_callTy call_int1 rfl (by exact T.n_int) (by decide +kernel) (pa_cons (pe_ix ix_list (pe_ix ix_list (pv 0) (pe_int) (fun _ _ => rfl)) (pv 2) (fun _ _ => rfl)) pa_nil)) (pv 1)))) (pss_nil))
    (pss_one (ps_ret (pe_op op_mod (pe_callTy call_int1 rfl (by exact T.n_int) (by decide +kernel) (pa_cons (pe_op op_mul (pv 2) (pe_int)) pa_nil)) (pv 1)))))), ?_⟩
  refine ⟨_, rfl, b, _, _, _, rfl, rfl, SqL.of h1, (show atI [V.ref d, V.int n] 1 = some (V.int n) from rfl), ?_⟩
  refine ⟨_, rfl, _, _, rfl, rfl, _, rfl, b, _, _, _, rfl, rfl, h1, (show ixN 2 1 = some 1 from rfl), ?_⟩
  have k1 : Kept b H (upd H b (.lst ([V.ref d, V.int n].set 1 (.int ((n : Int) + 1))))) := Kept.upd
  have e1 : (upd H b (.lst ([V.ref d, V.int n].set 1 (.int ((n : Int) + 1))))) b = some (.lst [V.ref d, V.int ((n + 1 : Nat) : Int)]) := upd_same
  have e2 : (upd H b (.lst ([V.ref d, V.int n].set 1 (.int ((n : Int) + 1))))) d = some (.lst (ds.map V.int)) := by rw [upd_ne hn]; exact h2
  have bx : Box (upd H b (.lst ([V.ref d, V.int n].set 1 (.int ((n : Int) + 1))))) b d := ⟨ds, n + 1, e1, e2, hn⟩
  refine ⟨_, rfl, _, rfl, b, _, _, _, rfl, rfl, SqL.of e1, (show atI [V.ref d, V.int ((n + 1 : Nat) : Int)] 0 = some (V.ref d) from rfl), d, _, rfl, .inl (SqL.of e2), _, _, rfl, rfl, _, rfl, ite2 (fun c => ?_) (fun c => ?_)⟩
  · have c' : (n : Int) < (((ds.map V.int).length : Nat) : Int) := of_decide_eq_true c
    rw [List.length_map] at c'
    have hk : n < ds.length := by omega
    refine ⟨_, rfl, b, _, _, _, rfl, rfl, SqL.of e1, (show atI [V.ref d, V.int ((n + 1 : Nat) : Int)] 0 = some (V.ref d) from rfl), _, rfl, d, _, _, _, rfl, rfl, SqL.of e2, (atI_nat (xs := ds.map V.int) (j := n) (v := V.int ds[n]) (by rw [List.getElem?_map, List.getElem?_eq_getElem hk]; rfl)), ?_⟩
    exact .inl ⟨_, rfl, _, rfl, _, _, rfl, rfl, hm, q _ _ (Int.emod_nonneg _ (by omega)) (Int.emod_lt_of_pos _ hm) bx k1⟩
  · exact ⟨_, rfl, _, _, rfl, rfl, .inr ⟨by decide, by decide⟩, .inl ⟨_, rfl, _, rfl, _, _, rfl, rfl, hm, q _ _ (Int.emod_nonneg _ (by omega)) (Int.emod_lt_of_pos _ hm) bx k1⟩⟩
/-! ### tests that are known -/
theorem iteN {c : Bool} {A B : Prop} (h : c = false) (hb : B) : if c = true then A else B := by rw [h, if_neg Bool.false_ne_true]; exact hb
theorem iteY {c : Bool} {A B : Prop} (h : c = true) (ha : A) : if c = true then A else B := by rw [if_pos h]; exact ha
/-! ### the law's own text, and the program's -/
def spPl (n : Nat) : Sp := fun vs H Q _ => ∃ (d : D) (v : V), vs = [v] ∧ (d.deep < n ∧ d.show.length ≤ 1000000 ∧ d.Fit) ∧ Rp H d v ∧ ∀ H', Same H H' → Q (.str (showS d)) H'
theorem small16 {n : Nat} (h : n ≤ 10000000) : n ≤ sizeLine := Nat.le_trans h (by decide)
theorem e_open : Str.ofString "(" = strOf [40] := lit _ _
theorem e_close : Str.ofString ")" = strOf [41] := lit _ _
theorem e_blank : Str.ofString " " = strOf [32] := lit _ _
theorem e_quote : Str.ofString "\"" = strOf [34] := lit _ _
/-- the texts of the members, joined -/
theorem rep_bound {z : Str} (h : z.length ≤ 1000000) : z.length + (z.length + 1) * (Str.ofString "\\\\").length ≤ 16777216 := by
  have e : (Str.ofString "\\\\").length = 2 := by decide +kernel
  rw [e]
  omega
theorem rep_len {z y b : Str} {c : Nat} (hy : tl y = [c]) (hb : (tl b).length = 2) : (Txt.replace z y b).length ≤ 2 * z.length := by
  have hy1 : 1 ≤ y.length := by rw [len_tl, hy]; exact Nat.le_refl 1
  have e : tl (Txt.replace z y b) = (tl z).flatMap fun x => if x = c then tl b else [x] := by
    show (Txt.replace z y b).cps.toList = _
    rw [StrLaws.replace_list hy1, show y.cps.toList = [c] from hy, replL_one]
  rw [len_tl, e, len_tl z]
  generalize tl z = l
  induction l with
  | nil => simp
  | cons a l ih =>
    rw [List.flatMap_cons, List.length_append, List.length_cons]
    have : (if a = c then tl b else [a]).length ≤ 2 := by split <;> simp [hb]
    omega
theorem enc_chain {z : Str} (h : z.length ≤ 1000000) : z.length + (z.length + 1) * (Str.ofString "\\\\").length ≤ 16777216 ∧
    (Txt.replace z (Str.ofString "\\") (Str.ofString "\\\\")).length + ((Txt.replace z (Str.ofString "\\") (Str.ofString "\\\\")).length + 1) * (Str.ofString "\\\"").length ≤ 16777216 ∧
    (Txt.replace (Txt.replace z (Str.ofString "\\") (Str.ofString "\\\\")) (Str.ofString "\"") (Str.ofString "\\\"")).length + ((Txt.replace (Txt.replace z (Str.ofString "\\") (Str.ofString "\\\\")) (Str.ofString "\"") (Str.ofString "\\\"")).length + 1) * (Str.ofString "\\n").length ≤ 16777216 := by
  have e1 : (Str.ofString "\\\\").length = 2 := by decide +kernel
  have e2 : (Str.ofString "\\\"").length = 2 := by decide +kernel
  have e3 : (Str.ofString "\\n").length = 2 := by decide +kernel
  have l1 : (Txt.replace z (Str.ofString "\\") (Str.ofString "\\\\")).length ≤ 2 * z.length := rep_len (c := 92) (by decide +kernel) (by decide +kernel)
  have l2 : (Txt.replace (Txt.replace z (Str.ofString "\\") (Str.ofString "\\\\")) (Str.ofString "\"") (Str.ofString "\\\"")).length ≤ 2 * (Txt.replace z (Str.ofString "\\") (Str.ofString "\\\\")).length := rep_len (c := 34) (by decide +kernel) (by decide +kernel)
  rw [e1, e2, e3]
  refine ⟨by omega, by omega, by omega⟩
def spQuoted : Sp := fun vs H Q _ => ∃ z : Str, vs = [.str z] ∧ z.length ≤ 1000000 ∧ Q (.str (showS (.str z))) H
theorem ok_quoted (F : Fun K "quoted" "quoted" s_quoted f fd) (T : Txt0 mg) : FnOk P w K mg base CX0 1 f fd ["text"] spQuoted := by
  refine F.ok sc_quoted (fun vs H Q E h => ?_) (fun cdv A outer s H vs Q E hr h => ?_)
  · obtain ⟨z, rfl, _⟩ := h
    rfl
  obtain ⟨z, rfl, hzl, q⟩ := h
  refine ⟨_, pss_one (ps_ret (pe_op op_add_str (pe_opT op_add_str (CwR.pet_replT (CwR.pet_replT (CwR.pet_replC (pv 0))))) (pe_str))), ?_⟩
  have h3 := len_enc (tl z)
  rw [← len_tl] at h3
  obtain ⟨b1, b2, b3⟩ := enc_chain hzl
  refine ⟨_, rfl, _, rfl, b1, _, rfl, b2, _, rfl, b3, ?_⟩
  rw [repl_enc, e_quote]
  have l1 : (strOf (encL (tl z))).length = (encL (tl z)).length := len_strOf _
  refine ⟨_, _, rfl, rfl, small16 ?_, _, _, rfl, rfl, small16 ?_, ?_⟩
  · rw [l1]
    show 1 + _ ≤ _
    omega
  · rw [len_tl, tl_append, List.length_append, ← len_tl, ← len_tl, l1]
    show 1 + _ + 1 ≤ _
    omega
  · rw [show_str]
    exact q
theorem ok_show {n : Nat} (F : Fun K "show_plain" "show_plain" s_show_plain f fd) (T : Txt0 mg) (c_quoted : Cal P w K mg base CX0 1 "quoted" ["text"] spQuoted) (c_show_plain : Cal P w K mg base CX0 (n + 1) "show_plain" ["value"] (spPl n)) : FnOk P w K mg base CX0 (n + 2) f fd ["value"] (spPl (n + 1)) := by
  refine F.ok sc_show_plain (fun vs H Q E h => ?_) (fun cdv A outer s H vs Q E hr h => ?_)
  · obtain ⟨d, v, rfl, _⟩ := h
    rfl
  obtain ⟨d, v, rfl, ⟨hd, hz, hf⟩, r1, q⟩ := h
  refine ⟨_, pss_cons (ps_if (pt_cmpR op_isN (pv 0) (pe_non) (nomark _)) (pss_one (ps_ret (pe_str))) (pss_nil))
    (pss_cons (ps_if (pt_cmpR op_isB (pv 0) (pe_bl) (nomark _)) (pss_one (ps_ret (pe_str))) (pss_nil))
    (pss_cons (ps_if (pt_cmpR op_isB (pv 0) (pe_bl) (nomark _)) (pss_one (ps_ret (pe_str))) (pss_nil))
    (pss_cons (ps_if (pt_val (pe_callB call_isK rfl (by exact T.n_isinstance) (by decide +kernel) (pa_cons (pv 0) (pa_cons (pe_bltn (v := .ty "int") rfl (by exact T.n_int) (by decide +kernel) rfl) pa_nil)))) (pss_one (ps_ret (pe_callTy call_str_int rfl (by exact T.n_str) (by decide +kernel) (pa_cons (pv 0) pa_nil)))) (pss_nil))
    (pss_cons (ps_if (pt_val (pe_callB call_isK rfl (by exact T.n_isinstance) (by decide +kernel) (pa_cons (pv 0) (pa_cons (pe_bltn (v := .ty "str") rfl (by exact T.n_str) (by decide +kernel) rfl) pa_nil)))) (pss_one (ps_ret (pe_cal c_quoted (hr.mono (by omega)) rfl pass0 (pa_cons (pv 0) pa_nil)))) (pss_nil))
    (pss_one (ps_ret (pe_op op_add_str (pe_op op_add_str (pe_str) (pe_join (pe_str) (pe_lc (own := [("member", 1)]) (g := gName 1) rfl sc_show_plain.nd (pi_tup (pv 0)) (blkOk_by (own := [("member", 1)]) (N := ["value", "member"]) (sc := defScope s_show_plain) (by decide +kernel)) (fun _ _ _ _ _ => pg_name (i := 1) sc_show_plain.nd rfl (Or.inl rfl)) (fun _ _ _ _ _ => pts_nil) (fun _ _ _ _ _ => pe_cal c_show_plain (hr.mono (by omega)) rfl pass0 (pa_cons (pv 1) pa_nil))))) (pe_str)))))))), ?_⟩
  have ty := r1.ty
  cases d with
  | non =>
    rw [Rp] at r1
    subst r1
    exact ⟨_, rfl, rfl, _, rfl, iteY (by simp) (q H (Same.refl H))⟩
  | bl b =>
    rw [Rp] at r1
    subst r1
    refine ⟨_, rfl, rfl, _, rfl, iteN (by simp) ?_⟩
    cases b with
    | true => exact ⟨_, rfl, _, rfl, ty.1, ty.2, _, rfl, iteY (by simp) (q H (Same.refl H))⟩
    | false =>
      refine ⟨_, rfl, _, rfl, ty.1, ty.2, _, rfl, iteN (by simp) ?_⟩
      exact ⟨_, rfl, _, rfl, ty.1, ty.2, _, rfl, iteY (by simp) (q H (Same.refl H))⟩
  | int i =>
    rw [Rp] at r1
    subst r1
    rw [D.Fit] at hf
    refine ⟨_, rfl, rfl, _, rfl, iteN (by simp) ?_⟩
    refine ⟨_, rfl, _, rfl, ty.1, ty.2, _, rfl, iteN (by simp) ?_⟩
    refine ⟨_, rfl, _, rfl, ty.1, ty.2, _, rfl, iteN (by simp) ?_⟩
    refine ⟨_, rfl, _, _, _, _, rfl, rfl, kb_ii, _, rfl, iteT ?_⟩
    refine ⟨_, rfl, i, rfl, log_small hf, ?_⟩
    rw [int_show]
    exact q H (Same.refl H)
  | tup xs =>
    rw [Rp] at r1
    obtain ⟨a, vs, rfl, ha, rs⟩ := r1
    rw [D.deep] at hd
    rw [D.Fit] at hf
    have hk : kindV H (.ref a) = some "tuple" := by show kindO (H a) = _; rw [ha]; rfl
    refine ⟨_, rfl, rfl, _, rfl, iteN (by simp) ?_⟩
    refine ⟨_, rfl, _, rfl, ty.1, ty.2, _, rfl, iteN (by simp) ?_⟩
    refine ⟨_, rfl, _, rfl, ty.1, ty.2, _, rfl, iteN (by simp) ?_⟩
    refine ⟨_, rfl, _, _, _, _, rfl, hk, kb_ti, _, rfl, iteF ?_⟩
    refine ⟨_, rfl, _, _, _, _, rfl, hk, kb_ts, _, rfl, iteF ?_⟩
    have hl := rs.length
    have hj := join_sum xs
    have hm := many_len xs
    have hz2 := hz
    rw [tup_len] at hz2
    refine ⟨⟨_, rfl⟩, _, rfl, a, rfl, ⟨_, SqT.of ha⟩, fun L hL => lc_tup (K := K) (a := a) (xs := vs) (fun i H' => H' L = some (.lst ((xs.take i).map fun d => V.str (showS d))) ∧ Kept L H H') ⟨by rw [upd_same]; rfl, Kept.upd⟩
      (fun i H' _ p => SqT.of (p.2 a _ (ne_of_none ha hL) ha)) ?_ ?_⟩
    · rintro i x H' hx ⟨hL', kp⟩
      have hi : i < vs.length := (List.getElem?_eq_some_iff.mp hx).1
      obtain ⟨d, g1, g2⟩ := rs.get hx
      have hS : Same H H' := fun b o e => kp b o (ne_of_none e hL) e
      have hmem := List.mem_of_getElem? g1
      have h1 := deeps_mem (xs := xs) d hmem
      have h2 := show_mem hmem
      refine ⟨rfl, _, rfl, d, x, rfl, ⟨by omega, by omega, fits_mem hf d hmem⟩, g2.mono (Same.tup hS), fun H2 s2 => ?_⟩
      refine ⟨_, s2 _ _ hL', ?_, ?_⟩
      · rw [List.length_map, List.length_take]
        exact small_of (by omega)
      · refine ⟨?_, fun b o n e => by rw [upd_ne n]; exact s2 _ _ (kp b o n e)⟩
        rw [upd_same]
        have et : xs.take (i + 1) = xs.take i ++ [d] := by rw [List.take_add_one, g1]; rfl
        rw [et, List.map_append]
        rfl
    · rintro H' ⟨hL', kp⟩
      rw [hl, List.take_length] at hL'
      have hS : Same H H' := fun b o e => kp b o (ne_of_none e hL) e
      have ey : xs.map (fun d => V.str (showS d)) = (xs.map showS).map V.str := by rw [List.map_map]; rfl
      rw [ey] at hL'
      refine ⟨_, L, xs.map showS, rfl, rfl, .inl (SqL.of hL'), ?_, ?_⟩
      · rw [e_blank, len_strOf, List.length_map]
        show _ + xs.length * 1 ≤ _
        omega
      · have lj : (Txt.join (strOf [32]) (xs.map showS)).length = (joinL [32] (D.shows xs)).length := by
          rw [len_tl, join_eq, tl_join, map_showS]
          rfl
        have la : (strOf [40] ++ Txt.join (strOf [32]) (xs.map showS)).length = (joinL [32] (D.shows xs)).length + 1 := by
          rw [len_tl, tl_append, List.length_append, ← len_tl, ← len_tl, lj]
          show 1 + _ = _
          omega
        rw [e_blank, e_open, e_close]
        refine ⟨_, _, rfl, rfl, small16 ?_, _, _, rfl, rfl, small16 ?_, ?_⟩
        · rw [lj]
          show 1 + _ ≤ _
          omega
        · rw [la]
          show _ + 1 ≤ _
          omega
        · rw [show_tup]
          exact q H' hS
  | str z =>
    rw [Rp] at r1
    subst r1
    have hzl : z.length ≤ 1000000 := by
      have h1 := enc_len (tl z)
      have h2 : (D.str z).show.length = (encL (tl z)).length + 2 := by
        show (34 :: (encL (tl z) ++ [34])).length = _
        rw [List.length_cons, List.length_append]
        rfl
      rw [len_tl]
      omega
    have h3 := len_enc (tl z)
    rw [← len_tl] at h3
    refine ⟨_, rfl, rfl, _, rfl, iteN (by simp) ?_⟩
    refine ⟨_, rfl, _, rfl, ty.1, ty.2, _, rfl, iteN (by simp) ?_⟩
    refine ⟨_, rfl, _, rfl, ty.1, ty.2, _, rfl, iteN (by simp) ?_⟩
    refine ⟨_, rfl, _, _, _, _, rfl, rfl, kb_si, _, rfl, iteF ?_⟩
    refine ⟨_, rfl, _, _, _, _, rfl, rfl, kb_ss, _, rfl, iteT ?_⟩
    exact ⟨_, rfl, z, rfl, hzl, q H (Same.refl H)⟩

/-! ### reading -/
theorem e34 : Str.ofString "\"" = ⟨#[34]⟩ := by decide +kernel
theorem e92 : Str.ofString "\\" = ⟨#[92]⟩ := by decide +kernel
theorem e10 : Str.ofString "\n" = ⟨#[10]⟩ := by decide +kernel
theorem e110 : Str.ofString "n" = ⟨#[110]⟩ := by decide +kernel
theorem e_ : Str.ofString "" = ⟨#[]⟩ := by decide +kernel
theorem flat_app (ys : List Str) (y : Str) : ((ys ++ [y]).map tl).flatten = (ys.map tl).flatten ++ tl y := by simp
theorem sum_app (ys : List Str) (y : Str) : ((ys ++ [y]).map (·.length)).sum = (ys.map (·.length)).sum + y.length := by simp

def spText (C : Addr) : Sp := fun vs H Q E => ∃ (z : Str) (p : Nat), vs = [.str z, .int ((p : Nat) : Int)] ∧ (p ≤ z.length ∧ z.length ≤ 1000000) ∧
  (∀ s q, textAt ((tl z).drop p) p [] = .ok (s, q) → ∀ (t : Addr) (H' : Hp), Same H H' → H' t = some (.tup [.str (strOf s), .int ((q : Nat) : Int)]) → Q (.ref t) H') ∧
  (∀ q, textAt ((tl z).drop p) p [] = .error q → ErrAt C H E q)
/-- a turn of the loop over a text between quotes -/
structure TxW (z : Str) (a : Addr) (H : Hp) (res : Except Nat (List Nat × Nat)) (p : Nat) (ys : List Str) (H' : Hp) : Prop where
  at_ : H' a = some (.lst (ys.map V.str))
  ok : textAt ((tl z).drop p) p (ys.map tl).flatten = res
  le : p ≤ z.length
  few : ys.length ≤ p
  sum : (ys.map (·.length)).sum ≤ p
  keep : Kept a H H'
theorem split_mem {c : Nat} {u : List Nat} (h : c ∈ u) : ∃ v w, u = v ++ c :: w ∧ c ∉ v := List.eq_append_cons_of_mem h
theorem ok_text (F : Fun K "text_at" "text_at" s_text_at f fd) (T : Txt0 mg) (B : Bp P K mg C fI cc cda) : FnOk P w K mg base (L2.CX P w) 3 f fd ["text", "place"] (spText C) := by
  refine F.okX sc_text_at (fun vs H Q E h => ?_) (fun cdv A outer s H vs Q E hr h => ?_)
  · obtain ⟨z, p, rfl, _⟩ := h
    rfl
  obtain ⟨z, p0, rfl, ⟨hp0, hz⟩, fin0, err0⟩ := h
  refine ⟨_, pss_cons (ps_set (i := 2) sc_text_at.nd rfl (Or.inl rfl) (pe_lst (pa_nil)))
    (pss_one (ps_while (passes_of rfl) (pt_val (pe_bl)) (pss_cons (ps_set (i := 3) sc_text_at.nd rfl (Or.inl rfl) (pe_bm PySem.F.plainAttrs_str PySem.F.slot_str_find PySem.F.type_str_find mt_find3 (pv 0) (pa_cons (pe_str) (pa_cons (pv 1) pa_nil))))
    (C8.pss_cut (ps_set (i := 4) sc_text_at.nd rfl (Or.inl rfl) (pe_ifExp (pt_cmpR op_ge (pv 3) (pe_int) (nomark _)) (pv 3) (pe_callB call_len_str rfl (by exact T.n_len) PySem.boot_len (pa_cons (pv 0) pa_nil))))
    (pss_cons (ps_set (i := 5) sc_text_at.nd rfl (Or.inl rfl) (pe_bm PySem.F.plainAttrs_str PySem.F.slot_str_find PySem.F.type_str_find mt_find4 (pv 0) (pa_cons (pe_str) (pa_cons (pv 1) (pa_cons (pv 4) pa_nil)))))
    (C8.pss_cut (ps_if (pt_cmpR op_ge (pv 5) (pe_int) (nomark _)) (pss_one (ps_set (i := 4) sc_text_at.nd rfl (Or.inl rfl) (pv 5))) (pss_nil))
    (pss_cons (ps_set (i := 6) sc_text_at.nd rfl (Or.inl rfl) (pe_bm PySem.F.plainAttrs_str PySem.F.slot_str_find PySem.F.type_str_find mt_find4 (pv 0) (pa_cons (pe_str) (pa_cons (pv 1) (pa_cons (pv 4) pa_nil)))))
    (pss_cons (ps_if (pt_cmpR op_ge (pv 6) (pe_int) (nomark _)) (pss_one (ps_raiseSup rfl B.bp fld_place hr (takes_of rfl rfl rfl rfl) ev_bp (by exact (pa_cons (pv 6) pa_nil)))) (pss_nil))
    (pss_cons (ps_expr (pe_bm PySem.F.plainAttrs_list PySem.F.slot_list_append PySem.F.type_list_append mt_append (pv 2) (pa_cons (pe_slice sl_str (pv 0) (po_some (pv 1)) (po_some (pv 4))) pa_nil)))
    (pss_cons (ps_if (pt_cmpR op_eq (pv 4) (pv 3) (nomark _)) (pss_one (ps_ret (pe_tup (pa_cons (pe_join (pe_str) (pv 2)) (pa_cons (pe_op op_add (pv 4) (pe_int)) pa_nil))))) (pss_nil))
    (pss_cons (ps_if (pt_cmpR op_ne (pv 4) (pv 5) (nomark _)) (pss_one (ps_raiseSup rfl B.bp fld_place hr (takes_of rfl rfl rfl rfl) ev_bp (by exact (pa_cons (pv 4) pa_nil)))) (pss_nil))
    (pss_cons (ps_set (i := 7) sc_text_at.nd rfl (Or.inl rfl) (pe_slice sl_str (pv 0) (po_some (pe_op op_add (pv 4) (pe_int))) (po_some (pe_op op_add (pv 4) (pe_int)))))
    (C8.pss_cut (ps_if (PW.pt (pw_or (pt_cmpR op_notIn_seq (pv 7) (pe_tup (pa_cons (pe_str) (pa_cons (pe_str) (pa_cons (pe_str) pa_nil)))) rfl) (pw_or1 (pt_cmpR op_eq (pv 7) (pe_str) (nomark _))))) (pss_one (ps_raiseSup rfl B.bp fld_place hr (takes_of rfl rfl rfl rfl) ev_bp (by exact (pa_cons (pe_op op_add (pv 4) (pe_int)) pa_nil)))) (pss_nil))
    (pss_cons (ps_expr (pe_bm PySem.F.plainAttrs_list PySem.F.slot_list_append PySem.F.type_list_append mt_append (pv 2) (pa_cons (pe_ifExp (pt_cmpR op_eq (pv 7) (pe_str) (nomark _)) (pe_str) (pv 7)) pa_nil)))
    (pss_one (ps_set (i := 1) sc_text_at.nd rfl (Or.inl rfl) (pe_op op_add (pv 4) (pe_int)))))))))))))))))), ?_⟩
  refine ⟨(by show 0 ≤ sizeLine; decide), fun a ha => ?_⟩
  have same : ∀ H' : Hp, Kept a H H' → Same H H' := fun H' k b o e => k b o (ne_of_none e ha) e
  generalize hres : textAt ((tl z).drop p0) p0 [] = res at fin0 err0
  have hL := len_tl z
  refine ⟨fun m σ H' => ∃ (p : Nat) (ys : List Str) (x3 x4 x5 x6 x7 : Option V), σ = [some (.str z), some (.int ((p : Nat) : Int)), some (.ref a), x3, x4, x5, x6, x7] ∧ m = z.length - p ∧ TxW z a H res p ys H', ?_, ?_⟩
  · exact ⟨_, p0, [], _, _, _, _, _, rfl, rfl, upd_same, by simpa using hres, hp0, Nat.zero_le _, Nat.zero_le _, Kept.upd⟩
  rintro m σ H1 ⟨p, ys, x3, x4, x5, x6, x7, rfl, rfl, W⟩
  refine ⟨_, rfl, iteT ⟨fun σ' H' => ∃ m', m' < z.length - p ∧ ∃ (p : Nat) (ys : List Str) (x3 x4 x5 x6 x7 : Option V), σ' = [some (.str z), some (.int ((p : Nat) : Int)), some (.ref a), x3, x4, x5, x6, x7] ∧ m' = z.length - p ∧ TxW z a H res p ys H', fun _ _ h => h, ?_⟩⟩
  obtain ⟨w1, w2, w3, w4, w5, w6⟩ := W
  obtain ⟨u, t, eR, hu, ht⟩ := leap ((tl z).drop p)
  have lenR : p + u.length + t.length = z.length := by
    have := congrArg List.length eR
    rw [List.length_drop, List.length_append] at this
    omega
  have u34 : 34 ∉ u := fun h => by have := hu _ h; simp [plainSign] at this
  have u92 : 92 ∉ u := fun h => by have := hu _ h; simp [plainSign] at this
  have gk : ∀ c r, t = c :: r → (tl z)[p + u.length]? = some c := fun c r e => by
    rw [e] at eR
    exact (drop_cons (drop_app eR)).1
  have none_in : ∀ k, k ∉ u → t = [] → ∀ i, p ≤ i → i < z.length → (tl z)[i]? ≠ some k := fun k hk e i h1 h2 => not_in eR hk h1 (by rw [e] at lenR; simp at lenR; omega)
  rw [eR] at w2
  -- quote, end
  refine ⟨_, rfl, rfl, _, rfl, _, _, _, rfl, rfl, ?_⟩
  rw [e34]
  refine ⟨fun σ' H' => H' = H1 ∧ ∃ (qv : Int) (e0 : Nat), σ' = [some (.str z), some (.int ((p : Nat) : Int)), some (.ref a), some (.int qv), some (.int ((e0 : Nat) : Int)), x5, x6, x7] ∧
    ((t = [] ∧ qv = -1 ∧ e0 = p + u.length) ∨ (∃ r, t = 34 :: r ∧ qv = ((p + u.length : Nat) : Int) ∧ e0 = p + u.length) ∨ (∃ r, t = 92 :: r ∧ p + u.length < e0 ∧ e0 ≤ z.length ∧ qv ≠ ((p + u.length : Nat) : Int))), ?_, ?_⟩
  · cases t with
    | nil =>
      rw [find3_never w3 (fun i h1 h2 => none_in 34 u34 rfl i h1 h2)]
      simp at lenR
      refine ⟨_, rfl, _, _, rfl, rfl, _, rfl, iteN (by simp) ⟨_, rfl, _, rfl, small16 (by omega), rfl, _, _, rfl, .inl ⟨rfl, rfl, by omega⟩⟩⟩
    | cons c r =>
      have hc := ht c r rfl
      have gk' := gk c r rfl
      have lt : p + u.length < z.length := by rw [List.length_cons] at lenR; omega
      rcases hc with rfl | rfl
      · rw [find3_first (k := p + u.length) (by omega) lt (fun i h1 h2 => not_in eR u34 h1 h2) gk']
        exact ⟨_, rfl, _, _, rfl, rfl, _, rfl, iteY (by first | (simp; done) | (simp; omega)) ⟨_, rfl, rfl, _, _, rfl, .inr (.inl ⟨r, rfl, rfl, rfl⟩)⟩⟩
      · rcases find3_cases (z := z) (c := 34) w3 with e | ⟨j, e, j1, j2, j3⟩
        · rw [e]
          exact ⟨_, rfl, _, _, rfl, rfl, _, rfl, iteN (by simp) ⟨_, rfl, _, rfl, small16 (by omega), rfl, _, _, rfl, .inr (.inr ⟨r, rfl, lt, Nat.le_refl _, by omega⟩)⟩⟩
        · have hj : p + u.length < j := by
            by_cases h : j < p + u.length
            · exact absurd j3 (not_in eR u34 j1 h)
            · by_cases h2 : j = p + u.length
              · rw [h2, gk'] at j3; cases j3
              · omega
          rw [e]
          exact ⟨_, rfl, _, _, rfl, rfl, _, rfl, iteY (by first | (simp; done) | (simp; omega)) ⟨_, rfl, rfl, _, _, rfl, .inr (.inr ⟨r, rfl, hj, by omega, by omega⟩)⟩⟩
  rintro σ' H' ⟨rfl, qv, e0, rfl, hq⟩
  -- slash
  refine ⟨_, rfl, rfl, _, rfl, _, rfl, _, _, _, _, rfl, rfl, ?_⟩
  rw [e92]
  refine ⟨fun σ' H2 => H2 = H' ∧ ∃ sv : Int, σ' = [some (.str z), some (.int ((p : Nat) : Int)), some (.ref a), some (.int qv), some (.int ((p + u.length : Nat) : Int)), some (.int sv), x6, x7] ∧
    ((t = [] ∧ qv = -1 ∧ sv = -1) ∨ (∃ r, t = 34 :: r ∧ qv = ((p + u.length : Nat) : Int)) ∨ (∃ r, t = 92 :: r ∧ sv = ((p + u.length : Nat) : Int) ∧ qv ≠ ((p + u.length : Nat) : Int))), ?_, ?_⟩
  · rcases hq with ⟨rfl, hq1, rfl⟩ | ⟨r, rfl, hq1, rfl⟩ | ⟨r, rfl, hq1, hq2, hq3⟩
    · rw [find4_never w3 (by omega) (fun i h1 h2 => not_in eR u92 h1 h2)]
      exact ⟨_, rfl, _, _, rfl, rfl, _, rfl, iteN (by simp) ⟨rfl, _, rfl, .inl ⟨rfl, hq1, rfl⟩⟩⟩
    · rw [find4_never w3 (by omega) (fun i h1 h2 => not_in eR u92 h1 h2)]
      exact ⟨_, rfl, _, _, rfl, rfl, _, rfl, iteN (by simp) ⟨rfl, _, rfl, .inr (.inl ⟨r, rfl, hq1⟩)⟩⟩
    · rw [find4_first (k := p + u.length) (by omega) hq1 hq2 (fun i h1 h2 => not_in eR u92 h1 h2) (gk 92 r rfl)]
      exact ⟨_, rfl, _, _, rfl, rfl, _, rfl, iteY (by first | (simp; done) | (simp; omega)) ⟨_, rfl, rfl, _, rfl, .inr (.inr ⟨r, rfl, rfl, hq3⟩)⟩⟩
  rintro σ' H2 ⟨rfl, sv, rfl, hs⟩
  have S2 := same H2 w6
  -- feed
  refine ⟨_, rfl, rfl, _, rfl, _, rfl, _, _, _, _, rfl, rfl, ?_⟩
  rw [e10]
  by_cases u10 : 10 ∈ u
  · obtain ⟨v, w, ev, hv⟩ := split_mem u10
    subst ev
    have hvl : v.length < (v ++ 10 :: w).length := by rw [List.length_append, List.length_cons]; omega
    have eR' : (tl z).drop p = v ++ (10 :: (w ++ t)) := by rw [eR, List.append_assoc]; rfl
    have g10 := (drop_cons (drop_app eR')).1
    rw [find4_first (k := p + v.length) (by omega) (by omega) (by omega) (fun i h1 h2 => not_in eR' hv h1 h2) g10]
    rw [List.append_assoc] at w2
    have er := textAt_feed v (w ++ t) p (ys.map tl).flatten (fun c hc => hu c (List.mem_append_left _ hc)) hv
    rw [← List.cons_append] at er
    rw [er] at w2
    refine ⟨_, rfl, _, _, rfl, rfl, _, rfl, iteY (by first | (simp; done) | (simp; omega)) ?_⟩
    exact ⟨_, rfl, (err0 _ w2.symm).raise S2 (by omega)⟩
  rw [find4_never w3 (by omega) (fun i h1 h2 => not_in eR u10 h1 h2)]
  refine ⟨_, rfl, _, _, rfl, rfl, _, rfl, iteN (by simp) ?_⟩
  rw [textAt_free u t p _ hu u10] at w2
  -- parts.append(text[place:end])
  refine ⟨_, rfl, .inl ⟨rfl, _, SqL.of w1⟩, _, rfl, _, rfl, _, rfl, _, rfl, _, rfl, z, rfl, small16 (by omega), a, _, _, rfl, rfl, w1, by rw [List.length_map]; exact small_of (by omega), ?_⟩
  have ecut : cutS z (some ((p : Nat) : Int)) (some ((p + u.length : Nat) : Int)) = strOf u := by
    refine ext_tl ?_
    rw [tl_cut w3, eR, show p + u.length - p = u.length by omega, List.take_left]
    rfl
  rw [ecut]
  have w1' : (upd H2 a (.lst (ys.map V.str ++ [V.str (strOf u)]))) a = some (.lst ((ys ++ [strOf u]).map V.str)) := by rw [upd_same, List.map_append]; rfl
  have k2 : Kept a H (upd H2 a (.lst (ys.map V.str ++ [V.str (strOf u)]))) := w6.trans Kept.upd
  have fl : ((ys ++ [strOf u]).map tl).flatten = (ys.map tl).flatten ++ u := by rw [flat_app, tl_strOf]
  have lu := len_strOf u
  rcases hs with ⟨rfl, rfl, rfl⟩ | ⟨r, rfl, rfl⟩ | ⟨r, rfl, rfl, hq3⟩
  · -- neither quote nor slash
    rw [textAt_nil] at w2
    refine ⟨_, rfl, _, rfl, rfl, _, rfl, iteN (by first | (simp; done) | (simp; omega)) ?_⟩
    refine ⟨_, rfl, _, rfl, rfl, _, rfl, iteY (by first | (simp; done) | (simp; omega)) ?_⟩
    exact ⟨_, rfl, (err0 _ w2.symm).raise (same _ k2) (by omega)⟩
  · -- the end
    rw [textAt_end] at w2
    refine ⟨_, rfl, _, rfl, rfl, _, rfl, iteY (by simp) ?_⟩
    have e0 : (Str.ofString "").length = 0 := by decide +kernel
    refine ⟨⟨_, rfl⟩, _, rfl, _, a, ys ++ [strOf u], rfl, rfl, .inl (SqL.of w1'), ?_, _, rfl, _, _, rfl, rfl, (by show 2 ≤ sizeLine; decide), fun t ht => ?_⟩
    · rw [sum_app, e0]
      omega
    · refine fin0 _ _ w2.symm t _ ((same _ k2).trans (same_new ht _)) ?_
      rw [upd_same]
      have ej : Txt.join (Str.ofString "") (ys ++ [strOf u]) = strOf ((ys.map tl).flatten ++ u) := by
        refine ext_tl ?_
        rw [join_eq, tl_join, show tl (Str.ofString "") = [] by decide +kernel, join_flat, fl]
        rfl
      rw [ej]
      rfl
  · -- a sign behind a slash
    rw [textAt_slash] at w2
    obtain ⟨_, dk, lk⟩ := drop_cons (drop_app eR)
    refine ⟨_, rfl, _, rfl, rfl, _, rfl, iteN (by simpa using Ne.symm hq3) ?_⟩
    refine ⟨_, rfl, _, rfl, rfl, _, rfl, iteN (by simp) ?_⟩
    refine ⟨_, rfl, _, rfl, _, _, rfl, rfl, _, rfl, _, rfl, _, _, rfl, rfl, _, rfl, z, rfl, small16 (by omega), ?_⟩
    rw [show (((p + u.length : Nat) : Int) + 1) = ((p + u.length + 1 : Nat) : Int) by omega, show (((p + u.length : Nat) : Int) + 2) = ((p + u.length + 1 : Nat) : Int) + 1 by omega, cut_sg (by omega)]
    rw [e_, e110]
    have t3 : (3 : Nat) ≤ sizeLine := by decide
    -- the sign is none of the three
    have bad : ∀ y : Str, sg z (p + u.length + 1) = y → (y = ⟨#[]⟩ ∨ ∃ e, y = strOf [e] ∧ e ≠ 34 ∧ e ≠ 92 ∧ e ≠ 110) → inV (.str y) [.str ⟨#[34]⟩, .str ⟨#[92]⟩, .str ⟨#[110]⟩] = false := fun y _ h => by
      have key : ∀ k : Nat, y ≠ ⟨#[k]⟩ → eqV (.str ⟨#[k]⟩) (.str y) = false := fun k hk => by
        show decide ((⟨#[k]⟩ : Str) = y) = false
        exact decide_eq_false (Ne.symm hk)
      have n : ∀ k : Nat, k = 34 ∨ k = 92 ∨ k = 110 → y ≠ ⟨#[k]⟩ := fun k hk e => by
        rcases h with h | ⟨c, h, h1, h2, h3⟩
        · rw [e] at h
          have := congrArg tl h
          cases this
        · rw [e] at h
          have := congrArg tl h
          have : [k] = [c] := this
          injection this with this
          omega
      unfold inV
      rw [List.any_cons, List.any_cons, List.any_cons, key 34 (n 34 (by omega)), key 92 (n 92 (by omega)), key 110 (n 110 (by omega))]
      rfl
    have kinds : (∃ y : Str, sg z (p + u.length + 1) = y ∧ (y = ⟨#[]⟩ ∨ ∃ e, y = strOf [e] ∧ e ≠ 34 ∧ e ≠ 92 ∧ e ≠ 110) ∧ Except.error (p + u.length + 1) = res) ∨
        ∃ e r', r = e :: r' ∧ (tl z)[p + u.length + 1]? = some e ∧ (tl z).drop (p + u.length + 2) = r' ∧ p + u.length + 1 < (tl z).length ∧ (e = 34 ∨ e = 92 ∨ e = 110) ∧ textAt r' (p + u.length + 2) ((ys.map tl).flatten ++ u ++ [if e = 110 then 10 else e]) = res := by
      cases r with
      | nil =>
        refine .inl ⟨_, rfl, .inl ?_, w2⟩
        have : (tl z)[p + u.length + 1]? = none := by
          have := congrArg List.length dk
          rw [List.length_drop, List.length_nil] at this
          exact List.getElem?_eq_none (by omega)
        rw [sg_none this]
        rfl
      | cons e r' =>
        obtain ⟨ge, de, le⟩ := drop_cons dk
        simp only at w2
        by_cases h1 : e = 34 ∨ e = 92
        · rw [if_pos h1] at w2
          refine .inr ⟨e, r', rfl, ge, de, le, by omega, ?_⟩
          rw [if_neg (by omega)]
          exact w2
        · rw [if_neg h1] at w2
          by_cases h2 : e = 110
          · rw [if_pos h2] at w2
            refine .inr ⟨e, r', rfl, ge, de, le, by omega, ?_⟩
            rw [if_pos h2]
            exact w2
          · rw [if_neg h2] at w2
            exact .inl ⟨_, rfl, .inr ⟨e, sg_some ge, by omega, by omega, h2⟩, w2⟩
    rcases kinds with ⟨y, hy, hyb, hre⟩ | ⟨e, r', rfl, ge, de, le, he1, w2'⟩
    · rw [hy]
      refine ⟨fun _ _ => False, ?_, fun _ _ h => h.elim⟩
      refine ⟨_, rfl, t3, fun t ht => ⟨t, _, rfl, .inr (SqT.of upd_same), rfl, rfl, _, rfl, iteY ?_ ?_⟩⟩
      · show (!inV (.str y) [.str ⟨#[34]⟩, .str ⟨#[92]⟩, .str ⟨#[110]⟩]) = true
        rw [bad y hy hyb]
        rfl
      · refine ⟨_, rfl, _, _, rfl, rfl, ?_⟩
        have ee := (err0 _ hre.symm).raise ((same _ k2).trans (same_new ht (.tup [.str ⟨#[34]⟩, .str ⟨#[92]⟩, .str ⟨#[110]⟩]))) (by omega)
        rw [show (((p + u.length + 1 : Nat)) : Int) = ((p + u.length : Nat) : Int) + 1 by omega] at ee
        exact ee
    rw [sg_some ge]
    refine ⟨fun σ' H4 => σ' = [some (.str z), some (.int ((p : Nat) : Int)), some (.ref a), some (.int qv), some (.int ((p + u.length : Nat) : Int)), some (.int ((p + u.length : Nat) : Int)), some (.int (-1)), some (.str (strOf [e]))] ∧
      H4 a = some (.lst ((ys ++ [strOf u]).map V.str)) ∧ Kept a H H4, ?_, ?_⟩
    · refine ⟨_, rfl, t3, fun t ht => ⟨t, _, rfl, .inr (SqT.of upd_same), rfl, rfl, _, rfl, iteN ?_ ?_⟩⟩
      · rcases he1 with rfl | rfl | rfl <;> decide +kernel
      refine ⟨_, rfl, rfl, _, rfl, iteN ?_ ?_⟩
      · rcases he1 with rfl | rfl | rfl <;> decide +kernel
      have hta : t ≠ a := fun e => by rw [e, w1'] at ht; cases ht
      exact ⟨rfl, by rw [upd_ne (Ne.symm hta)]; exact w1', k2.trans (Same.kept (same_new ht _))⟩
    rintro σ' H4 ⟨rfl, h4, k4⟩
    have next : ∀ (y : Str) (H5 : Hp), y.length = 1 → tl y = [if e = 110 then 10 else e] → H5 = upd H4 a (.lst ((ys ++ [strOf u]).map V.str ++ [V.str y])) →
        ∃ m', m' < z.length - p ∧ ∃ (p' : Nat) (ys' : List Str) (x3 x4 x5 x6 x7 : Option V), [some (V.str z), some (.int (((p + u.length : Nat) : Int) + 2)), some (.ref a), some (.int qv), some (.int ((p + u.length : Nat) : Int)), some (.int ((p + u.length : Nat) : Int)), some (.int (-1)), some (.str (strOf [e]))] =
          [some (V.str z), some (.int ((p' : Nat) : Int)), some (.ref a), x3, x4, x5, x6, x7] ∧ m' = z.length - p' ∧ TxW z a H res p' ys' H5 := fun y H5 hy1 hy eH => by
      subst eH
      refine ⟨z.length - (p + u.length + 2), by omega, p + u.length + 2, ys ++ [strOf u] ++ [y], some (.int qv), some (.int ((p + u.length : Nat) : Int)), some (.int ((p + u.length : Nat) : Int)), some (.int (-1)), some (.str (strOf [e])), ?_, rfl, ?_, ?_, by omega, ?_, ?_, k4.trans Kept.upd⟩
      · rw [show (((p + u.length : Nat) : Int) + 2) = ((p + u.length + 2 : Nat) : Int) by omega]
      · rw [upd_same, List.map_append (l₁ := ys ++ [strOf u])]
        rfl
      · rw [flat_app, fl, hy, de]
        exact w2'
      · rw [List.length_append, List.length_append]
        show ys.length + 1 + 1 ≤ _
        omega
      · rw [sum_app, sum_app, hy1]
        omega
    refine ⟨_, rfl, .inl ⟨rfl, _, SqL.of h4⟩, _, rfl, rfl, _, rfl, ?_⟩
    by_cases h110 : e = 110
    · subst h110
      refine iteY (by decide +kernel) ⟨a, _, _, rfl, rfl, h4, by rw [List.length_map, List.length_append]; exact small_of (by show ys.length + 1 ≤ _; omega), ?_⟩
      exact ⟨_, rfl, _, _, rfl, rfl, next ⟨#[10]⟩ _ rfl rfl rfl⟩
    · refine iteN ?_ ⟨_, rfl, a, _, _, rfl, rfl, h4, by rw [List.length_map, List.length_append]; exact small_of (by show ys.length + 1 ≤ _; omega), ?_⟩
      · rcases he1 with rfl | rfl | rfl
        · decide +kernel
        · decide +kernel
        · exact absurd rfl h110
      exact ⟨_, rfl, _, _, rfl, rfl, next (strOf [e]) _ rfl (by rw [if_neg h110]; rfl) rfl⟩

def spInt (C : Addr) : Sp := fun vs H Q E => ∃ (z : Str) (p : Nat), vs = [.str z, .int ((p : Nat) : Int)] ∧ (p ≤ z.length ∧ z.length ≤ 1000000) ∧
  (∀ i q, intAt (tl z) p = .ok (.int i, q) → ∀ (t : Addr) (H' : Hp), Same H H' → H' t = some (.tup [.int i, .int ((q : Nat) : Int)]) → Q (.ref t) H') ∧
  (∀ q, intAt (tl z) p = .error q → ErrAt C H E q)
theorem ok_int (F : Fun K "integer_at" "integer_at" s_integer_at f fd) (T : Txt0 mg) (B : Bp P K mg C fI cc cda) : FnOk P w K mg base (L2.CX P w) 3 f fd ["text", "place"] (spInt C) := by
  refine F.okX sc_integer_at (fun vs H Q E h => ?_) (fun cdv A outer s H vs Q E hr h => ?_)
  · obtain ⟨z, p, rfl, _⟩ := h
    rfl
  obtain ⟨z, p, rfl, ⟨hp, hz⟩, fin0, err0⟩ := h
  refine ⟨_, C8.pss_cut (ps_set (i := 2) sc_integer_at.nd rfl (Or.inl rfl) (pe_ifExp (pt_cmpR op_eq (pe_slice sl_str (pv 0) (po_some (pv 1)) (po_some (pe_op op_add (pv 1) (pe_int)))) (pe_str) (nomark _)) (pe_op op_add (pv 1) (pe_int)) (pv 1)))
    (pss_cons (ps_set (i := 3) sc_integer_at.nd rfl (Or.inl rfl) (pe_slice sl_str (pv 0) (po_some (pv 2)) (po_some (pe_op op_add (pv 2) (pe_int)))))
    (C8.pss_cut (ps_if (PW.pt (pw_or (pt_cmpR op_eq (pv 3) (pe_str) (nomark _)) (pw_or (pt_cmpR op_notin_str (pv 3) (pe_glob (v := .str (Str.ofString "0123456789")) rfl T.g_FIGURES.choose_spec ⟨_, rfl⟩) rfl) (pw_or1 (PW.pt (pw_and (pt_cmpR op_eq (pv 3) (pe_str) (nomark _)) (pw_and1 (pt_cmpR op_gt (pv 2) (pv 1) (nomark _))))))))) (pss_one (ps_raiseSup rfl B.bp fld_place hr (takes_of rfl rfl rfl rfl) ev_bp (by exact (pa_cons (pv 2) pa_nil)))) (pss_nil))
    (pss_cons (ps_set (i := 4) sc_integer_at.nd rfl (Or.inl rfl) (pe_op op_add (pv 2) (pe_int)))
    (pss_cons (ps_while (passes_of rfl) (PW.pt (pw_and (pt_cmpR op_ne (pe_slice sl_str (pv 0) (po_some (pv 4)) (po_some (pe_op op_add (pv 4) (pe_int)))) (pe_str) (nomark _)) (pw_and1 (pt_cmpR op_in_str (pe_slice sl_str (pv 0) (po_some (pv 4)) (po_some (pe_op op_add (pv 4) (pe_int)))) (pe_glob (v := .str (Str.ofString "0123456789")) rfl T.g_FIGURES.choose_spec ⟨_, rfl⟩) rfl)))) (pss_cons (ps_if (PW.pt (pw_or (pt_cmpR op_eq (pv 3) (pe_str) (nomark _)) (pw_or1 (pt_cmpR op_eq (pe_op op_sub (pv 4) (pv 2)) (pe_glob (v := .int 2000) rfl T.g_MOST_FIGURES.choose_spec ⟨_, rfl⟩) (nomark _))))) (pss_one (ps_raiseSup rfl B.bp fld_place hr (takes_of rfl rfl rfl rfl) ev_bp (by exact (pa_cons (pv 4) pa_nil)))) (pss_nil))
    (pss_one (ps_aug (i := 4) sc_integer_at.nd rfl (Or.inl rfl) (pe_int) ip_add))))
    (pss_one (ps_ret (pe_tup (pa_cons (pe_callTy (call_int_long B.nodig) rfl (by exact T.n_int) (by decide +kernel) (pa_cons (pe_slice sl_str (pv 0) (po_some (pv 1)) (po_some (pv 4))) pa_nil)) (pa_cons (pv 4) pa_nil))))))))), ?_⟩
  obtain ⟨b, ds, post, hb, eR, hs, hd, hI⟩ := intAt_eq (tl z) p
  rw [hI] at fin0 err0
  have hL := len_tl z
  have hbl : b ≤ z.length := by
    rcases hb with ⟨hb1, rfl⟩ | ⟨hb1, rfl⟩
    · have := (List.getElem?_eq_some_iff.mp hb1).1
      omega
    · exact hp
  have hbp : p ≤ b := by rcases hb with ⟨_, rfl⟩ | ⟨_, rfl⟩ <;> omega
  have hbp1 : b ≤ p + 1 := by rcases hb with ⟨_, rfl⟩ | ⟨_, rfl⟩ <;> omega
  -- begin
  refine ⟨fun σ' H' => H' = H ∧ σ' = [some (.str z), some (.int ((p : Nat) : Int)), some (.int ((b : Nat) : Int)), none, none], ?_, ?_⟩
  · refine ⟨_, rfl, _, rfl, _, rfl, _, rfl, _, _, rfl, rfl, _, rfl, z, rfl, small16 (by omega), rfl, _, rfl, ?_⟩
    rw [cut_sg hp, sg_is (c := 45) (by decide +kernel)]
    rcases hb with ⟨hb1, rfl⟩ | ⟨hb1, rfl⟩
    · exact iteY (decide_eq_true hb1) ⟨_, rfl, _, _, rfl, rfl, rfl, rfl⟩
    · exact iteN (decide_eq_false hb1) ⟨_, rfl, rfl, rfl⟩
  rintro σ' H' ⟨rfl, rfl⟩
  -- sign
  refine ⟨_, rfl, _, rfl, _, rfl, _, rfl, _, _, rfl, rfl, _, rfl, z, rfl, small16 (by omega), ?_⟩
  rw [cut_sg (by omega)]
  cases ds with
  | nil =>
    have eb := (err0 b rfl).raise (Same.refl _) (by omega)
    refine ⟨fun _ _ => False, ?_, fun _ _ h => h.elim⟩
    refine ⟨_, rfl, rfl, _, rfl, ?_⟩
    rw [sg_empty (by decide +kernel)]
    cases post with
    | nil =>
      have gn : (tl z)[b]? = none := by
        have := congrArg List.length eR
        rw [List.length_drop, List.length_append, List.length_nil] at this
        exact List.getElem?_eq_none (by omega)
      exact iteY (decide_eq_true gn) ⟨_, rfl, eb⟩
    | cons k post =>
      have gn : (tl z)[b]? = some k := (drop_cons (r := post) eR).1
      refine iteN (decide_eq_false (by rw [gn]; exact fun z => (nomatch z))) ⟨_, rfl, _, _, rfl, rfl, _, rfl, iteY ?_ ⟨_, rfl, eb⟩⟩
      rw [sg_fig gn, hs k post rfl]
      rfl
  | cons c r =>
  obtain ⟨gb, db, lb⟩ := drop_cons (r := r ++ post) eR
  have hdc := hd c List.mem_cons_self
  have hdc' := (dig_iff c).mp hdc
  have lenR : b + 1 + r.length ≤ z.length := by
    have := congrArg List.length eR
    rw [List.length_drop, List.length_append, List.length_cons] at this
    omega
  have d48 : ∀ e, decide (V.str (sg z b) = V.str e) = decide (tl e = [c]) := fun e => by
    rw [sg_some gb, dec_s]
    show decide ([c] = tl e) = _
    congr 1
    exact propext eq_comm
  have t0 : tl (Str.ofString "0") = [48] := by decide +kernel
  refine ⟨fun σ' H1 => (H1 = H' ∧ σ' = [some (.str z), some (.int ((p : Nat) : Int)), some (.int ((b : Nat) : Int)), some (.str (sg z b)), none]) ∧ (c = 48 → b = p), ?_, ?_⟩
  · refine ⟨_, rfl, rfl, _, rfl, iteN ?_ ?_⟩
    · rw [sg_empty (by decide +kernel)]
      exact decide_eq_false (by rw [gb]; exact fun z => (nomatch z))
    refine ⟨_, rfl, _, _, rfl, rfl, _, rfl, iteN ?_ ?_⟩
    · rw [sg_fig gb, hdc]
      rfl
    refine ⟨_, rfl, rfl, _, rfl, ?_⟩
    rw [d48, t0]
    by_cases h0 : c = 48
    · refine iteY (decide_eq_true (by rw [h0])) ⟨_, rfl, _, rfl, _, _, rfl, rfl, _, rfl, ?_⟩
      by_cases hb2 : b > p
      · have eb := (err0 b (by simp only; rw [if_pos h0, if_pos hb2])).raise (Same.refl _) (by omega)
        exact iteY (decide_eq_true (by omega)) ⟨_, rfl, eb⟩
      · exact iteN (decide_eq_false (by omega)) ⟨⟨rfl, rfl⟩, fun _ => by omega⟩
    · exact iteN (decide_eq_false (by intro z; injection z with z; exact h0 z.symm)) ⟨⟨rfl, rfl⟩, fun z => absurd z h0⟩
  rintro σ' H1 ⟨⟨rfl, rfl⟩, h48⟩
  -- end, the loop
  refine ⟨_, rfl, _, _, rfl, rfl, ?_⟩
  refine ⟨fun m σ' H' => H' = H1 ∧ ∃ e : Nat, σ' = [some (.str z), some (.int ((p : Nat) : Int)), some (.int ((b : Nat) : Int)), some (.str (sg z b)), some (.int ((e : Nat) : Int))] ∧ b + 1 ≤ e ∧ e ≤ b + 1 + r.length ∧ (c = 48 → e = b + 1) ∧ e ≤ b + 2000 ∧ m = b + 1 + r.length - e, ?_, ?_⟩
  · refine ⟨_, rfl, b + 1, ?_, Nat.le_refl _, by omega, fun _ => rfl, by omega, rfl⟩
    rw [show (((b + 1 : Nat)) : Int) = ((b : Nat) : Int) + 1 by omega]
    rfl
  rintro m σ' H' ⟨rfl, e, rfl, e1, e2, e3, e4, rfl⟩
  have L : (tl z).drop (b + 1 + r.length) = post := by
    have := drop_app (a := c :: r) eR
    rw [List.length_cons, show b + (r.length + 1) = b + 1 + r.length by omega] at this
    exact this
  -- what follows the loop
  have fin' : e = b + 1 + r.length → tRet (tTup (tCons (tCB (fun xs H Q => ∃ a n, xs = [V.str a] ∧ intText? a = some n ∧ a.length ≤ 4000 ∧ Q (V.int n) H) (tCons (tSl rSlS (tVar 0) (tPart (tVar 1)) (tPart (tVar 4))) tNil)) (tCons (tVar 4) tNil)))
      { nx := fun _ H' => Q .non H', rt := Q } [some (.str z), some (.int ((p : Nat) : Int)), some (.int ((b : Nat) : Int)), some (.str (sg z b)), some (.int ((e : Nat) : Int))] H' := fun he => by
    have ecut : tl (cutS z (some ((p : Nat) : Int)) (some ((e : Nat) : Int))) = (if b > p then [45] else []) ++ c :: r := by
      rw [tl_cut hp]
      rcases hb with ⟨hb1, rfl⟩ | ⟨hb1, rfl⟩
      · rw [if_pos (by omega)]
        have : (tl z).drop p = 45 :: ((c :: r) ++ post) := by
          have hlt : p < (tl z).length := (List.getElem?_eq_some_iff.mp hb1).1
          rw [List.drop_eq_getElem_cons hlt, eR]
          congr 1
          have := (List.getElem?_eq_some_iff.mp hb1).2
          exact this
        rw [this, show e - p = (45 :: (c :: r)).length by simp only [List.length_cons]; omega]
        exact List.take_left (l₁ := 45 :: c :: r) (l₂ := post)
      · rw [if_neg (by omega), eR, show e - b = (c :: r).length by simp only [List.length_cons]; omega, List.take_left]
        rfl
    have rl : r.length < 2000 := by omega
    have hlen : (cutS z (some ((p : Nat) : Int)) (some ((e : Nat) : Int))).length ≤ 4000 := by
      rw [len_tl, ecut, List.length_append, List.length_cons]
      split <;> simp <;> omega
    have hint : intText? (cutS z (some ((p : Nat) : Int)) (some ((e : Nat) : Int))) = some (if b > p then - (NumText.digitsVal (c :: r) : Int) else (NumText.digitsVal (c :: r) : Int)) := by
      have ad : NumText.AllDigits (c :: r) := fun x hx => (dig_iff x).mp (hd x hx)
      by_cases hbp : b > p
      · rw [if_pos hbp] at ecut ⊢
        rw [PySem.intText_neg (cs := c :: r) ecut ad (by simp) (by omega)]
      · rw [if_neg hbp] at ecut ⊢
        have ecut' : (cutS z (some ((p : Nat) : Int)) (some ((e : Nat) : Int))).cps.toList = c :: r := ecut
        rw [PySem.intText_digits (by rw [ecut']; exact ad) (by rw [ecut']; simp) (by omega), ecut']
    have hres : ∃ i : Int, i = (if b > p then - (NumText.digitsVal (c :: r) : Int) else (NumText.digitsVal (c :: r) : Int)) ∧ (match c :: r with
      | [] => Except.error b
      | c :: r => if c = 48 then (if b > p then .error b else if r = [] then .ok (.int 0, b + 1) else .error (b + 1))
        else if r.length ≥ 2000 then .error (b + 2000)
        else .ok (.int (if b > p then - (NumText.digitsVal (c :: r) : Int) else (NumText.digitsVal (c :: r) : Int)), b + (r.length + 1)) : Except Nat (D × Nat)) = .ok (.int i, e) := by
      refine ⟨_, rfl, ?_⟩
      simp only
      by_cases h0 : c = 48
      · have hr0 : r = [] := by
          have := e3 h0
          exact List.length_eq_zero_iff.mp (by omega)
        subst hr0
        rw [if_pos h0, if_neg (by have := h48 h0; omega), if_pos rfl, if_neg (by have := h48 h0; omega)]
        subst h0
        rw [show e = b + 1 by simpa using he]
        rfl
      · rw [if_neg h0, if_neg (by omega), he, show b + 1 + r.length = b + (r.length + 1) by omega]
    obtain ⟨i, hi, hr⟩ := hres
    refine ⟨_, rfl, _, rfl, _, rfl, _, rfl, _, rfl, z, rfl, small16 (by omega), _, i, rfl, by rw [hi]; exact hint, hlen, _, rfl, (by show 2 ≤ sizeLine; decide), fun t ht => ?_⟩
    refine fin0 i e hr t _ (same_new ht _) ?_
    rw [upd_same]
  refine ⟨_, rfl, _, rfl, _, rfl, _, rfl, _, _, rfl, rfl, _, rfl, z, rfl, small16 (by omega), rfl, _, rfl, ?_⟩
  rw [cut_sg (by omega), sg_empty (by decide +kernel)]
  by_cases he : e = b + 1 + r.length
  · cases post with
    | nil =>
      have gn : (tl z)[e]? = none := by
        have := congrArg List.length L
        rw [List.length_drop, List.length_nil] at this
        exact List.getElem?_eq_none (by omega)
      refine iteN (by rw [decide_eq_true gn]; rfl) (iteF (fin' he))
    | cons k post =>
      have gn : (tl z)[e]? = some k := by rw [he]; exact (drop_cons L).1
      refine iteY (by rw [decide_eq_false (by rw [gn]; exact fun z => (nomatch z))]; rfl) ?_
      refine ⟨_, rfl, _, rfl, _, rfl, _, rfl, _, _, rfl, rfl, _, rfl, z, rfl, small16 (by omega), _, _, rfl, rfl, _, rfl, ?_⟩
      rw [cut_sg (by omega), sg_fig gn, hs k post rfl]
      exact iteF (fin' he)
  · have hk : ∃ k, (tl z)[e]? = some k ∧ k ∈ c :: r := get_in eR (by omega) (by rw [List.length_cons]; omega)
    obtain ⟨k, gn, hkm⟩ := hk
    have hdk := hd k hkm
    refine iteY (by rw [decide_eq_false (by rw [gn]; exact fun z => (nomatch z))]; rfl) ?_
    refine ⟨_, rfl, _, rfl, _, rfl, _, rfl, _, _, rfl, rfl, _, rfl, z, rfl, small16 (by omega), _, _, rfl, rfl, _, rfl, ?_⟩
    rw [cut_sg (by omega), sg_fig gn, hdk]
    have hrne : r ≠ [] := fun z => by rw [z] at e2 he; simp at e2 he; omega
    refine iteT ⟨fun σ'' H2 => ∃ m', m' < b + 1 + r.length - e ∧ H2 = H' ∧ ∃ e : Nat, σ'' = [some (.str z), some (.int ((p : Nat) : Int)), some (.int ((b : Nat) : Int)), some (.str (sg z b)), some (.int ((e : Nat) : Int))] ∧ b + 1 ≤ e ∧ e ≤ b + 1 + r.length ∧ (c = 48 → e = b + 1) ∧ e ≤ b + 2000 ∧ m' = b + 1 + r.length - e, fun _ _ h => h, ?_⟩
    refine ⟨_, rfl, rfl, _, rfl, ?_⟩
    rw [d48, t0]
    by_cases hc0 : c = 48
    · have he1 := e3 hc0
      have eb := (err0 e (by simp only; rw [if_pos hc0, if_neg (by have := h48 hc0; omega), if_neg hrne, he1])).raise (Same.refl _) (by omega)
      exact iteY (decide_eq_true (by rw [hc0])) ⟨_, rfl, eb⟩
    refine iteN (decide_eq_false (by intro z; injection z with z; exact hc0 z.symm)) ?_
    refine ⟨_, rfl, _, rfl, _, _, rfl, rfl, rfl, _, rfl, ?_⟩
    by_cases h2 : e = b + 2000
    · have eb := (err0 e (by simp only; rw [if_neg hc0, if_pos (by omega), h2])).raise (Same.refl _) (by omega)
      exact iteY (decide_eq_true (show V.int (((e : Nat) : Int) - ((b : Nat) : Int)) = V.int 2000 by rw [show ((e : Nat) : Int) - ((b : Nat) : Int) = 2000 by omega])) ⟨_, rfl, eb⟩
    refine iteN (decide_eq_false (by intro z; injection z with z; omega)) ?_
    refine ⟨_, rfl, _, _, rfl, rfl, b + 1 + r.length - (e + 1), by omega, rfl, e + 1, ?_, by omega, by omega, fun z => absurd z hc0, by omega, rfl⟩
    rw [show (((e + 1 : Nat)) : Int) = ((e : Nat) : Int) + 1 by omega]
    rfl


def okEr (C : Addr) (H : Hp) (E : XK) (z : Str) (l p : Nat) (Q : VK) (res : PR) : Prop :=
  (∀ d q, res = .ok (d, q) → ∀ (t : Addr) (v : V) (H' : Hp), Same H H' → Rp H' d v → H' t = some (.tup [v, .int ((q : Nat) : Int)]) → Q (.ref t) H') ∧ (∀ q, res = .error q → ErrAt C H E q)
def spVal (C : Addr) (l : Nat) : Sp := fun vs H Q E => ∃ (z : Str) (p wi : Nat), vs = [.str z, .int ((p : Nat) : Int), .int ((wi : Nat) : Int)] ∧ (p ≤ z.length ∧ z.length ≤ 1000000 ∧ wi + l = 40) ∧ okEr C H E z l p Q (valueAt (tl z) l p)
/-- a tuple within wi brackets, its own among them -/
def spTup (C : Addr) (l : Nat) : Sp := fun vs H Q E => ∃ (z : Str) (p wi : Nat), vs = [.str z, .int ((p : Nat) : Int), .int ((wi : Nat) : Int)] ∧ (p ≤ z.length ∧ z.length ≤ 1000000 ∧ wi + l = 40) ∧ okEr C H E z l p Q (tupAt (tl z) l p)
/-- what a value is read as, by its first sign -/
theorem ok_val {l n : Nat} (F : Fun K "value_at" "value_at" s_value_at f fd) (T : Txt0 mg) (B : Bp P K mg C fI cc cda) (c_text_at : Cal P w K mg base (L2.CX P w) 3 "text_at" ["text", "place"] (spText C)) (c_integer_at : Cal P w K mg base (L2.CX P w) 3 "integer_at" ["text", "place"] (spInt C))
    (c_tuple_at : Cal P w K mg base (L2.CX P w) (n + 3) "tuple_at" ["text", "place", "within"] (fun vs H Q E => ∃ m, l = m + 1 ∧ spTup C m vs H Q E)) : FnOk P w K mg base (L2.CX P w) (n + 4) f fd ["text", "place", "within"] (spVal C l) := by
  refine F.okX sc_value_at (fun vs H Q E h => ?_) (fun cdv A outer s H vs Q E hr h => ?_)
  · obtain ⟨z, p, wi, rfl, _⟩ := h
    rfl
  obtain ⟨z, p, wi, rfl, ⟨hp, hz, hw⟩, hv⟩ := h
  refine ⟨_, pss_cons (ps_set (i := 3) sc_value_at.nd rfl (Or.inl rfl) (pe_slice sl_str (pv 0) (po_some (pv 1)) (po_some (pe_op op_add (pv 1) (pe_int)))))
    (pss_cons (ps_if (pt_cmpR op_eq (pv 3) (pe_str) (nomark _)) (pss_one (ps_ret (pe_tup (pa_cons (pe_non) (pa_cons (pe_op op_add (pv 1) (pe_int)) pa_nil))))) (pss_nil))
    (pss_cons (ps_if (pt_cmpR op_eq (pv 3) (pe_str) (nomark _)) (pss_one (ps_ret (pe_tup (pa_cons (pe_bl) (pa_cons (pe_op op_add (pv 1) (pe_int)) pa_nil))))) (pss_nil))
    (pss_cons (ps_if (pt_cmpR op_eq (pv 3) (pe_str) (nomark _)) (pss_one (ps_ret (pe_tup (pa_cons (pe_bl) (pa_cons (pe_op op_add (pv 1) (pe_int)) pa_nil))))) (pss_nil))
    (pss_cons (ps_if (pt_cmpR op_eq (pv 3) (pe_str) (nomark _)) (pss_one (ps_ret (pe_cal c_text_at (hr.mono (by omega)) rfl (passes_call (takes_of rfl rfl rfl rfl) (fun _ _ _ _ h => h)) (pa_cons (pv 0) (pa_cons (pe_op op_add (pv 1) (pe_int)) pa_nil))))) (pss_nil))
    (pss_cons (ps_if (pt_cmpR op_eq (pv 3) (pe_str) (nomark _)) (pss_cons (ps_if (pt_cmpR op_eq (pv 2) (pe_glob (v := .int 40) rfl T.g_MOST_BRACKETS.choose_spec ⟨_, rfl⟩) (nomark _)) (pss_one (ps_raiseSup rfl B.bp fld_place hr (takes_of rfl rfl rfl rfl) ev_bp (by exact (pa_cons (pv 1) pa_nil)))) (pss_nil))
    (pss_one (ps_ret (pe_cal c_tuple_at (hr.mono (by omega)) rfl (passes_call (takes_of rfl rfl rfl rfl) (fun _ _ _ _ h => h)) (pa_cons (pv 0) (pa_cons (pe_op op_add (pv 1) (pe_int)) (pa_cons (pe_op op_add (pv 2) (pe_int)) pa_nil))))))) (pss_nil))
    (pss_one (ps_ret (pe_cal c_integer_at (hr.mono (by omega)) rfl (passes_call (takes_of rfl rfl rfl rfl) (fun _ _ _ _ h => h)) (pa_cons (pv 0) (pa_cons (pv 1) pa_nil)))))))))), ?_⟩
  have hL := len_tl z
  have two : (2 : Nat) ≤ sizeLine := by decide
  rw [valueAt_eq] at hv
  have hpl : ∀ c, (tl z)[p]? = some c → p < z.length := fun c g => by rw [hL]; exact (List.getElem?_eq_some_iff.mp g).1
  have dk : ∀ e k, tl e = [k] → decide (V.str (sg z p) = V.str e) = decide ((tl z)[p]? = some k) := fun e k he => sg_is he
  refine ⟨_, rfl, _, rfl, _, rfl, _, rfl, _, _, rfl, rfl, _, rfl, z, rfl, small16 (by omega), ?_⟩
  rw [cut_sg hp]
  refine ⟨_, rfl, rfl, _, rfl, ?_⟩
  rw [dk _ 78 (by decide +kernel)]
  by_cases h1 : (tl z)[p]? = some 78
  · rw [if_pos h1] at hv
    refine iteY (decide_eq_true h1) ⟨_, rfl, _, _, rfl, rfl, two, fun t ht => hv.1 _ _ rfl t .non _ (same_new ht _) (by rw [Rp]) ?_⟩
    rw [upd_same]
    rfl
  rw [if_neg h1] at hv
  refine iteN (decide_eq_false h1) ⟨_, rfl, rfl, _, rfl, ?_⟩
  rw [dk _ 84 (by decide +kernel)]
  by_cases h2 : (tl z)[p]? = some 84
  · rw [if_pos h2] at hv
    refine iteY (decide_eq_true h2) ⟨_, rfl, _, _, rfl, rfl, two, fun t ht => hv.1 _ _ rfl t (.bl true) _ (same_new ht _) (by rw [Rp]) ?_⟩
    rw [upd_same]
    rfl
  rw [if_neg h2] at hv
  refine iteN (decide_eq_false h2) ⟨_, rfl, rfl, _, rfl, ?_⟩
  rw [dk _ 70 (by decide +kernel)]
  by_cases h3 : (tl z)[p]? = some 70
  · rw [if_pos h3] at hv
    refine iteY (decide_eq_true h3) ⟨_, rfl, _, _, rfl, rfl, two, fun t ht => hv.1 _ _ rfl t (.bl false) _ (same_new ht _) (by rw [Rp]) ?_⟩
    rw [upd_same]
    rfl
  rw [if_neg h3] at hv
  refine iteN (decide_eq_false h3) ⟨_, rfl, rfl, _, rfl, ?_⟩
  rw [dk _ 34 (by decide +kernel)]
  by_cases h4 : (tl z)[p]? = some 34
  · rw [if_pos h4] at hv
    have := hpl _ h4
    refine iteY (decide_eq_true h4) ⟨_, rfl, _, rfl, _, _, rfl, rfl, z, p + 1, rfl, ⟨by omega, hz⟩, fun s q e t H' hs ht => ?_, fun q e => ?_⟩
    · exact hv.1 _ _ (by rw [e]; rfl) t _ H' hs (by rw [Rp]) ht
    · exact hv.2 _ (by rw [e]; rfl)
  rw [if_neg h4] at hv
  refine iteN (decide_eq_false h4) ⟨_, rfl, rfl, _, rfl, ?_⟩
  rw [dk _ 40 (by decide +kernel)]
  by_cases h5 : (tl z)[p]? = some 40
  · rw [if_pos h5] at hv
    have := hpl _ h5
    cases l with
    | zero =>
      have eb := (hv.2 _ rfl).raise (Same.refl _) (by omega)
      exact iteY (decide_eq_true h5) ⟨_, rfl, rfl, _, rfl, iteY (decide_eq_true (show V.int ((wi : Nat) : Int) = V.int 40 by rw [show ((wi : Nat) : Int) = 40 by omega])) ⟨_, rfl, eb⟩⟩
    | succ m =>
      simp only at hv
      refine iteY (decide_eq_true h5) ⟨_, rfl, rfl, _, rfl, iteN (decide_eq_false (by intro z; injection z with z; omega)) ?_⟩
      exact ⟨_, rfl, _, rfl, _, _, rfl, rfl, _, rfl, _, _, rfl, rfl, m, rfl, z, p + 1, wi + 1, rfl, ⟨by omega, hz, by omega⟩, hv⟩
  rw [if_neg h5] at hv
  refine iteN (decide_eq_false h5) ⟨_, rfl, _, rfl, z, p, rfl, ⟨hp, hz⟩, fun i q e t H' hs ht => ?_, fun q e => hv.2 _ e⟩
  exact hv.1 _ _ e t _ H' hs (by rw [Rp]) ht
theorem ok_tup {l n : Nat} (F : Fun K "tuple_at" "tuple_at" s_tuple_at f fd) (T : Txt0 mg) (B : Bp P K mg C fI cc cda) (c_value_at : Cal P w K mg base (L2.CX P w) n "value_at" ["text", "place", "within"] (spVal C l)) (h3 : 2 ≤ n) : FnOk P w K mg base (L2.CX P w) (n + 1) f fd ["text", "place", "within"] (spTup C l) := by
  refine F.okX sc_tuple_at (fun vs H Q E h => ?_) (fun cdv A outer s H vs Q E hr h => ?_)
  · obtain ⟨z, p, wi, rfl, _⟩ := h
    rfl
  obtain ⟨z, p0, wi, rfl, ⟨hp, hz, hw⟩, hv⟩ := h
  refine ⟨_, pss_cons (ps_if (pt_cmpR op_eq (pe_slice sl_str (pv 0) (po_some (pv 1)) (po_some (pe_op op_add (pv 1) (pe_int)))) (pe_str) (nomark _)) (pss_one (ps_ret (pe_tup (pa_cons (pe_tup (pa_nil)) (pa_cons (pe_op op_add (pv 1) (pe_int)) pa_nil))))) (pss_nil))
    (pss_cons (ps_set (i := 3) sc_tuple_at.nd rfl (Or.inl rfl) (pe_lst (pa_nil)))
    (pss_one (ps_while (passes_of rfl) (pt_val (pe_bl)) (pss_cons (ps_asg (pe_cal c_value_at (hr.mono (by omega)) rfl (passes_call (takes_of rfl rfl rfl rfl) (fun _ _ _ _ h => h)) (pa_cons (pv 0) (pa_cons (pv 1) (pa_cons (pv 2) pa_nil)))) (pg_tup rfl (pgs_cons (pg_name (i := 4) sc_tuple_at.nd rfl (Or.inl rfl)) (pgs_cons (pg_name (i := 1) sc_tuple_at.nd rfl (Or.inl rfl)) pgs_nil))))
    (pss_cons (ps_expr (pe_bm PySem.F.plainAttrs_list PySem.F.slot_list_append PySem.F.type_list_append mt_append (pv 3) (pa_cons (pv 4) pa_nil)))
    (pss_cons (ps_set (i := 5) sc_tuple_at.nd rfl (Or.inl rfl) (pe_slice sl_str (pv 0) (po_some (pv 1)) (po_some (pe_op op_add (pv 1) (pe_int)))))
    (pss_cons (ps_if (pt_cmpR op_eq (pv 5) (pe_str) (nomark _)) (pss_one (ps_ret (pe_tup (pa_cons (pe_callTy call_tuple_of rfl (by exact T.n_tuple) (by decide +kernel) (pa_cons (pv 3) pa_nil)) (pa_cons (pe_op op_add (pv 1) (pe_int)) pa_nil))))) (pss_nil))
    (pss_cons (ps_if (pt_cmpR op_ne (pv 5) (pe_str) (nomark _)) (pss_one (ps_raiseSup rfl B.bp fld_place hr (takes_of rfl rfl rfl rfl) ev_bp (by exact (pa_cons (pv 1) pa_nil)))) (pss_nil))
    (pss_one (ps_aug (i := 1) sc_tuple_at.nd rfl (Or.inl rfl) (pe_int) ip_add)))))))))), ?_⟩
  have hL := len_tl z
  have two : (2 : Nat) ≤ sizeLine := by decide
  refine ⟨_, rfl, _, rfl, _, rfl, _, rfl, _, _, rfl, rfl, _, rfl, z, rfl, small16 (by omega), rfl, _, rfl, ?_⟩
  rw [cut_sg hp, sg_is (c := 41) (by decide +kernel)]
  unfold tupAt at hv
  by_cases h41 : (tl z)[p0]? = some 41
  · rw [if_pos h41] at hv
    refine iteY (decide_eq_true h41) ⟨(by show 0 ≤ sizeLine; decide), fun u hu => ⟨_, rfl, _, _, rfl, rfl, two, fun t ht => hv.1 _ _ rfl t (.ref u) _ ((same_new hu _).trans (same_new ht _)) ?_ ?_⟩⟩
    · rw [Rp]
      exact ⟨u, [], rfl, same_new ht _ _ _ upd_same, Rps.nil⟩
    · rw [upd_same]
      rfl
  rw [if_neg h41] at hv
  refine iteN (decide_eq_false h41) ⟨(by show 0 ≤ sizeLine; decide), fun a ha => ?_⟩
  generalize hres : members (tl z) (valueAt (tl z) l) ((tl z).length + 1) p0 [] = res at hv
  obtain ⟨fin0, err0⟩ := hv
  refine ⟨fun m σ H' => ∃ (p : Nat) (acc : List D) (vs : List V) (x4 x5 : Option V), σ = [some (.str z), some (.int ((p : Nat) : Int)), some (.int ((wi : Nat) : Int)), some (.ref a), x4, x5] ∧ H' a = some (.lst vs) ∧ Rps H' acc vs ∧
    members (tl z) (valueAt (tl z) l) m p acc = res ∧ p ≤ z.length ∧ (acc.length + m ≤ z.length + 1 ∧ z.length + 1 ≤ p + m) ∧ Kept a H H', ?_, ?_⟩
  · exact ⟨_, p0, [], [], _, _, rfl, upd_same, Rps.nil, hres, hp, by simp [hL], Kept.upd⟩
  rintro m σ H1 ⟨p, acc, vs, x4, x5, rfl, w1, w2, w3, w4, ⟨w5, w7⟩, w6⟩
  refine ⟨_, rfl, iteT ⟨fun σ' H' => ∃ m', m' < m ∧ ∃ (p : Nat) (acc : List D) (vs : List V) (x4 x5 : Option V), σ' = [some (.str z), some (.int ((p : Nat) : Int)), some (.int ((wi : Nat) : Int)), some (.ref a), x4, x5] ∧ H' a = some (.lst vs) ∧ Rps H' acc vs ∧
    members (tl z) (valueAt (tl z) l) m' p acc = res ∧ p ≤ z.length ∧ (acc.length + m' ≤ z.length + 1 ∧ z.length + 1 ≤ p + m') ∧ Kept a H H', fun _ _ h => h, ?_⟩⟩
  cases m with
  | zero => omega
  | succ m =>
  unfold members at w3
  have same : ∀ H' : Hp, Kept a H H' → Same H H' := fun H' k b o e => k b o (ne_of_none e ha) e
  refine ⟨_, rfl, _, rfl, _, rfl, z, p, wi, rfl, ⟨w4, hz, hw⟩, fun d1 k e t v H2 hs hr1 ht => ?_, fun q e => ?_⟩
  case refine_2 =>
    rw [e] at w3
    exact (err0 q w3.symm).from_ (same _ w6)
  rw [e] at w3
  simp only at w3
  obtain ⟨vl1, vl2, _⟩ := valueAt_lim e
  refine ⟨t, _, rfl, SqT.of ht, rfl, _, _, rfl, _, _, rfl, rfl, ?_⟩
  have w1' := hs _ _ w1
  have lv := w2.length
  -- members.append(member)
  refine ⟨_, rfl, .inl ⟨rfl, _, SqL.of w1'⟩, _, rfl, a, _, _, rfl, rfl, w1', small_of (by omega), ?_⟩
  have nta : ∀ (H : Hp) (o : HO), H a = some (.lst vs) → Tup H (upd H a o) := fun H o h b ys e => by
    rw [upd_ne (fun z => by subst z; rw [h] at e; cases e)]
    exact e
  have R2 : Rps (upd H2 a (.lst (vs ++ [v]))) (acc ++ [d1]) (vs ++ [v]) := Rps.append (hr1.mono (nta _ _ w1')) ((w2.mono (Same.tup hs)).mono (nta _ _ w1'))
  have k2 : Kept a H (upd H2 a (.lst (vs ++ [v]))) := (w6.trans (Same.kept hs)).trans Kept.upd
  have S2 : Same H (upd H2 a (.lst (vs ++ [v]))) := same _ k2
  -- sign
  refine ⟨_, rfl, _, rfl, _, rfl, _, rfl, _, _, rfl, rfl, _, rfl, z, rfl, small16 (by omega), ?_⟩
  rw [cut_sg (by omega)]
  have dk : ∀ e k', tl e = [k'] → decide (V.str (sg z k) = V.str e) = decide ((tl z)[k]? = some k') := fun e k' he => sg_is he
  refine ⟨_, rfl, rfl, _, rfl, ?_⟩
  rw [dk _ 41 (by decide +kernel)]
  by_cases c1 : (tl z)[k]? = some 41
  · rw [c1] at w3
    simp only at w3
    rw [if_pos trivial] at w3
    refine iteY (decide_eq_true c1) ⟨_, rfl, a, _, rfl, .inl ⟨SqL.of upd_same, fun u hu => ⟨_, rfl, _, _, rfl, rfl, two, fun t2 ht2 => fin0 _ _ w3.symm t2 (.ref u) _ (S2.trans ((same_new hu _).trans (same_new ht2 _))) ?_ ?_⟩⟩⟩
    · rw [Rp]
      exact ⟨u, _, rfl, same_new ht2 _ _ _ upd_same, (R2.mono (Same.tup (same_new hu _))).mono (Same.tup (same_new ht2 _))⟩
    · rw [upd_same]
      rfl
  refine iteN (decide_eq_false c1) ⟨_, rfl, rfl, _, rfl, ?_⟩
  have dk2 : decide (V.str (sg z k) = V.str (Str.ofString " ")) = decide ((tl z)[k]? = some 32) := dk _ 32 (by decide +kernel)
  rw [dk2]
  by_cases c2 : (tl z)[k]? = some 32
  · have hkl : k < z.length := by rw [hL]; exact (List.getElem?_eq_some_iff.mp c2).1
    rw [c2] at w3
    simp only at w3
    rw [if_neg (by decide), if_pos trivial] at w3
    refine iteN (by rw [decide_eq_true c2]; rfl) ⟨_, rfl, _, _, rfl, rfl, m, by omega, k + 1, acc ++ [d1], vs ++ [v], _, _, rfl, upd_same, R2, w3, by omega, ⟨?_, by omega⟩, k2⟩
    rw [List.length_append, List.length_singleton]
    omega
  · have er : Except.error k = res := by
      rw [← w3]
      cases g : (tl z)[k]? with
      | none => rfl
      | some c =>
        simp only
        rw [if_neg (fun z => c1 (by rw [g, z])), if_neg (fun z => c2 (by rw [g, z]))]
    have eb := (err0 k er.symm).raise S2 (by omega)
    exact iteY (by rw [decide_eq_false c2]; rfl) ⟨_, rfl, eb⟩

def spRead (C : Addr) : Sp := fun vs H Q E => ∃ z : Str, vs = [.str z] ∧ z.length ≤ 1000000 ∧
  (∀ d, readL (tl z) = .ok d → ∀ (v : V) (H' : Hp), Same H H' → Rp H' d v → Q v H') ∧ (∀ q, readL (tl z) = .error q → ErrAt C H E q)
theorem ok_read {n : Nat} (F : Fun K "read_plain" "read_plain" s_read_plain f fd) (T : Txt0 mg) (B : Bp P K mg C fI cc cda) (c_value_at : Cal P w K mg base (L2.CX P w) n "value_at" ["text", "place", "within"] (spVal C 40)) (h3 : 2 ≤ n) : FnOk P w K mg base (L2.CX P w) (n + 1) f fd ["text"] (spRead C) := by
  refine F.okX sc_read_plain (fun vs H Q E h => ?_) (fun cdv A outer s H vs Q E hr h => ?_)
  · obtain ⟨z, rfl, _⟩ := h
    rfl
  obtain ⟨z, rfl, hz, fin, err⟩ := h
  refine ⟨_, pss_cons (ps_asg (pe_cal c_value_at (hr.mono (by omega)) rfl (passes_call (takes_of rfl rfl rfl rfl) (fun _ _ _ _ h => h)) (pa_cons (pv 0) (pa_cons (pe_int) (pa_cons (pe_int) pa_nil)))) (pg_tup rfl (pgs_cons (pg_name (i := 1) sc_read_plain.nd rfl (Or.inl rfl)) (pgs_cons (pg_name (i := 2) sc_read_plain.nd rfl (Or.inl rfl)) pgs_nil))))
    (pss_cons (ps_if (pt_cmpR op_lt (pv 2) (pe_callB call_len_str rfl (by exact T.n_len) PySem.boot_len (pa_cons (pv 0) pa_nil)) (nomark _)) (pss_one (ps_raiseSup rfl B.bp fld_place hr (takes_of rfl rfl rfl rfl) ev_bp (by exact (pa_cons (pv 2) pa_nil)))) (pss_nil))
    (pss_one (ps_ret (pv 1)))), ?_⟩
  unfold readL at fin err
  have hL := len_tl z
  refine ⟨_, rfl, z, 0, 0, rfl, ⟨Nat.zero_le _, hz, rfl⟩, fun d k e t v H' hs hr1 ht => ?_, fun q e => ?_⟩
  case refine_2 => exact err q (by rw [e])
  obtain ⟨vl1, vl2, _⟩ := valueAt_lim e
  refine ⟨t, _, rfl, SqT.of ht, rfl, _, _, rfl, _, _, rfl, rfl, ?_⟩
  refine ⟨_, rfl, _, rfl, z, rfl, small16 (by omega), _, _, rfl, rfl, _, rfl, ?_⟩
  by_cases hk : k < (tl z).length
  · have eb := (err k (by rw [e]; simp only; rw [if_pos hk])).raise hs (by omega)
    exact iteY (decide_eq_true (by omega)) ⟨_, rfl, eb⟩
  · exact iteN (decide_eq_false (by omega)) ⟨_, rfl, fin d (by rw [e]; simp only; rw [if_neg hk]) v H' hs hr1⟩

end
end Tst
namespace Tst
open PySem PySem.Spec PyProof.Rows L2 TL
/-! ### kinds -/
def kindD : D → String
  | .non => "NoneType"
  | .bl _ => "bool"
  | .int _ => "int"
  | .str _ => "str"
  | .tup _ => "tuple"
def tupD : D → Bool | .tup _ => true | _ => false
def strD : D → Bool | .str _ => true | _ => false
def blD : D → Bool | .bl _ => true | _ => false
def numD : D → Bool | .int _ => true | .bl _ => true | _ => false
theorem Rp.kind {H : Hp} {d : D} {v : V} (r : Rp H d v) : kindV H v = some (kindD d) := by
  cases d with
  | tup xs =>
    rw [Rp] at r
    obtain ⟨a, vs, rfl, ha, _⟩ := r
    show kindO (H a) = _
    rw [ha]
    rfl
  | _ => rw [Rp] at r; subst r; rfl
theorem kd_tup (d : D) : kitB (kindD d) "tuple" = some (tupD d) := match d with
  | .non => (by decide +kernel : kitB "NoneType" "tuple" = some false)
  | .bl _ => (by decide +kernel : kitB "bool" "tuple" = some false)
  | .int _ => (by decide +kernel : kitB "int" "tuple" = some false)
  | .str _ => (by decide +kernel : kitB "str" "tuple" = some false)
  | .tup _ => (by decide +kernel : kitB "tuple" "tuple" = some true)
theorem kd_str (d : D) : kitB (kindD d) "str" = some (strD d) := match d with
  | .non => (by decide +kernel : kitB "NoneType" "str" = some false)
  | .bl _ => (by decide +kernel : kitB "bool" "str" = some false)
  | .int _ => (by decide +kernel : kitB "int" "str" = some false)
  | .str _ => (by decide +kernel : kitB "str" "str" = some true)
  | .tup _ => (by decide +kernel : kitB "tuple" "str" = some false)
theorem kd_bool (d : D) : kitB (kindD d) "bool" = some (blD d) := match d with
  | .non => (by decide +kernel : kitB "NoneType" "bool" = some false)
  | .bl _ => (by decide +kernel : kitB "bool" "bool" = some true)
  | .int _ => (by decide +kernel : kitB "int" "bool" = some false)
  | .str _ => (by decide +kernel : kitB "str" "bool" = some false)
  | .tup _ => (by decide +kernel : kitB "tuple" "bool" = some false)
theorem kd_int (d : D) : kitB (kindD d) "int" = some (numD d) := match d with
  | .non => (by decide +kernel : kitB "NoneType" "int" = some false)
  | .bl _ => (by decide +kernel : kitB "bool" "int" = some true)
  | .int _ => (by decide +kernel : kitB "int" "int" = some true)
  | .str _ => (by decide +kernel : kitB "str" "int" = some false)
  | .tup _ => (by decide +kernel : kitB "tuple" "int" = some false)
section
variable {P : Program} {w : World} {K : PySem.W.Frag} {mg : Str → Option Value} {base : Heap} {f : Addr} {fd : FuncData}
/-! ### whole numbers, names, forms -/
def intB : D → Bool | .int _ => true | _ => false
def spIsInt : Sp := fun vs H Q _ => ∃ (d : D) (v : V), vs = [v] ∧ Rp H d v ∧ Q (.bl (intB d)) H
theorem ok_is_integer (F : Fun K "is_integer" "is_integer" s_is_integer f fd) (T : Txt0 mg) : FnOk P w K mg base CX0 1 f fd ["thing"] spIsInt := by
  refine F.ok sc_is_integer (fun vs H Q E h => ?_) (fun cdv A outer s H vs Q E hr h => ?_)
  · obtain ⟨d, v, rfl, _⟩ := h
    rfl
  obtain ⟨d, v, rfl, r, q⟩ := h
  refine ⟨_, pss_one (ps_ret (pe_and (pe_callB call_isK rfl (by exact T.n_isinstance) (by decide +kernel) (pa_cons (pv 0) (pa_cons (pe_bltn (v := .ty "int") rfl (by exact T.n_int) (by decide +kernel) rfl) pa_nil))) (pe_one (pe_not (pe_callB call_isK rfl (by exact T.n_isinstance) (by decide +kernel) (pa_cons (pv 0) (pa_cons (pe_bltn (v := .ty "bool") rfl (by exact T.n_bool) (by decide +kernel) rfl) pa_nil))))))), ?_⟩
  refine ⟨_, rfl, _, _, _, _, rfl, r.kind, kd_int d, _, rfl, ?_⟩
  cases d with
  | int i => exact iteT ⟨_, rfl, _, _, _, _, rfl, r.kind, kd_bool _, _, rfl, q⟩
  | bl b => exact iteT ⟨_, rfl, _, _, _, _, rfl, r.kind, kd_bool _, _, rfl, q⟩
  | _ => exact iteF q
def wholeB (d : D) (lo hi : Int) : Bool := match d with | .int i => decide (lo ≤ i) && decide (i ≤ hi) | _ => false
def spWhole : Sp := fun vs H Q _ => ∃ (d : D) (v : V) (lo hi : Int), vs = [v, .int lo, .int hi] ∧ Rp H d v ∧ Q (.bl (wholeB d lo hi)) H
theorem ok_is_whole (F : Fun K "is_whole" "is_whole" s_is_whole_wnames f fd) (T : Txt0 mg) : FnOk P w K mg base CX0 1 f fd ["thing", "least", "most"] spWhole := by
  refine F.ok sc_is_whole_wnames (fun vs H Q E h => ?_) (fun cdv A outer s H vs Q E hr h => ?_)
  · obtain ⟨d, v, lo, hi, rfl, _⟩ := h
    rfl
  obtain ⟨d, v, lo, hi, rfl, r, q⟩ := h
  refine ⟨_, pss_one (ps_ret (pe_and (pe_callB call_isK rfl (by exact T.n_isinstance) (by decide +kernel) (pa_cons (pv 0) (pa_cons (pe_bltn (v := .ty "int") rfl (by exact T.n_int) (by decide +kernel) rfl) pa_nil))) (pe_and (pe_not (pe_callB call_isK rfl (by exact T.n_isinstance) (by decide +kernel) (pa_cons (pv 0) (pa_cons (pe_bltn (v := .ty "bool") rfl (by exact T.n_bool) (by decide +kernel) rfl) pa_nil)))) (pe_one (pe_chain op_le op_le (pv 1) (pv 0) (pv 2)))))), ?_⟩
  refine ⟨_, rfl, _, _, _, _, rfl, r.kind, kd_int d, _, rfl, ?_⟩
  cases d with
  | int i =>
    have r' := r
    rw [Rp] at r'
    subst r'
    refine iteT ⟨_, rfl, _, _, _, _, rfl, r.kind, kd_bool _, _, rfl, _, rfl, iteT ?_⟩
    refine ⟨_, rfl, _, rfl, _, _, rfl, rfl, _, rfl, ?_⟩
    by_cases h : lo ≤ i
    · refine iteY (decide_eq_true h) ⟨_, rfl, _, _, rfl, rfl, ?_⟩
      rw [show wholeB (.int i) lo hi = decide (i ≤ hi) by simp [wholeB, h]] at q
      exact q
    · refine iteN (decide_eq_false h) ?_
      rw [show wholeB (.int i) lo hi = false by simp [wholeB, h]] at q
      exact q
  | bl b => exact iteT ⟨_, rfl, _, _, _, _, rfl, r.kind, kd_bool _, _, rfl, _, rfl, iteF q⟩
  | _ => exact iteF q
/-- a tuple of so many that begins with the word -/
def formB (d : D) (z : Str) (n : Int) : Bool := match d with
  | .tup (.str y :: r) => decide (((r.length + 1 : Nat) : Int) = n) && decide (y = z)
  | _ => false
def spForm : Sp := fun vs H Q _ => ∃ (d : D) (v : V) (z : Str) (n : Int), vs = [v, .str z, .int n] ∧ 0 < n ∧ Rp H d v ∧ Q (.bl (formB d z n)) H
theorem dec_strV (y z : Str) : decide (V.str y = V.str z) = decide (y = z) := by
  by_cases h : y = z
  · rw [h]; simp
  · rw [decide_eq_false h, decide_eq_false (fun e => h (by injection e))]
theorem dec_intV (i j : Int) : decide (V.int i = V.int j) = decide (i = j) := by
  by_cases h : i = j
  · rw [h]; simp
  · rw [decide_eq_false h, decide_eq_false (fun e => h (by injection e))]
theorem Rp.tupv {H : Hp} {xs : List D} {v : V} (r : Rp H (.tup xs) v) : ∃ a vs, v = .ref a ∧ H a = some (.tup vs) ∧ Rps H xs vs := by
  rw [Rp] at r
  exact r
theorem Rps.consv {H : Hp} {d : D} {ds : List D} {vs : List V} (r : Rps H (d :: ds) vs) : ∃ v us, vs = v :: us ∧ Rp H d v ∧ Rps H ds us := by
  rw [Rps] at r
  exact r
theorem Rps.nilv {H : Hp} {vs : List V} (r : Rps H [] vs) : vs = [] := by
  have := r.length
  simpa using this
theorem Rp.strv {H : Hp} {z : Str} {v : V} (r : Rp H (.str z) v) : v = .str z := by rw [Rp] at r; exact r
theorem Rp.intv {H : Hp} {i : Int} {v : V} (r : Rp H (.int i) v) : v = .int i := by rw [Rp] at r; exact r
theorem at0 {v : V} {us : List V} : atI (v :: us) 0 = some v := atI_nat (xs := v :: us) (j := 0) rfl
theorem at1 {v v1 : V} {us : List V} : atI (v :: v1 :: us) 1 = some v1 := atI_nat (xs := v :: v1 :: us) (j := 1) rfl
theorem at2 {v v1 v2 : V} {us : List V} : atI (v :: v1 :: v2 :: us) 2 = some v2 := atI_nat (xs := v :: v1 :: v2 :: us) (j := 2) rfl
theorem at3 {v v1 v2 v3 : V} {us : List V} : atI (v :: v1 :: v2 :: v3 :: us) 3 = some v3 := atI_nat (xs := v :: v1 :: v2 :: v3 :: us) (j := 3) rfl
theorem ok_is_form (F : Fun K "is_form" "is_form" s_is_form f fd) (T : Txt0 mg) : FnOk P w K mg base CX0 1 f fd ["thing", "word", "many"] spForm := by
  refine F.ok sc_is_form (fun vs H Q E h => ?_) (fun cdv A outer s H vs Q E hr h => ?_)
  · obtain ⟨d, v, z, n, rfl, _⟩ := h
    rfl
  obtain ⟨d, v, z, n, rfl, h0, r, q⟩ := h
  refine ⟨_, pss_one (ps_ret (pe_and (pe_callB call_isK rfl (by exact T.n_isinstance) (by decide +kernel) (pa_cons (pv 0) (pa_cons (pe_bltn (v := .ty "tuple") rfl (by exact T.n_tuple) (by decide +kernel) rfl) pa_nil))) (pe_and (pe_cmpR op_eq (pe_callB call_len_seq rfl (by exact T.n_len) PySem.boot_len (pa_cons (pv 0) pa_nil)) (pv 2) (nomark _)) (pe_and (pe_callB call_isK rfl (by exact T.n_isinstance) (by decide +kernel) (pa_cons (pe_ix ix_tup (pv 0) (pe_int) (fun _ _ => rfl)) (pa_cons (pe_bltn (v := .ty "str") rfl (by exact T.n_str) (by decide +kernel) rfl) pa_nil))) (pe_one (pe_cmpR op_eq (pe_ix ix_tup (pv 0) (pe_int) (fun _ _ => rfl)) (pv 1) (nomark _))))))), ?_⟩
  refine ⟨_, rfl, _, _, _, _, rfl, r.kind, kd_tup d, _, rfl, ?_⟩
  cases d with
  | tup xs =>
    obtain ⟨a, vs, rfl, ha, rs⟩ := r.tupv
    have lv := rs.length
    refine iteT ⟨_, rfl, a, _, rfl, .inr (SqT.of ha), _, rfl, rfl, _, rfl, ?_⟩
    rw [dec_intV, lv]
    cases xs with
    | nil => exact iteN (decide_eq_false (by simp; omega)) q
    | cons d1 ds =>
      obtain ⟨v1, us, rfl, r1, _⟩ := rs.consv
      by_cases hn : ((d1 :: ds).length : Int) = n
      · refine iteY (decide_eq_true hn) ⟨_, rfl, a, _, _, _, rfl, rfl, SqT.of ha, at0, _, _, _, _, rfl, r1.kind, kd_str d1, _, rfl, ?_⟩
        cases d1 with
        | str y =>
          obtain rfl := r1.strv
          refine iteT ⟨_, rfl, a, _, _, _, rfl, rfl, SqT.of ha, at0, _, rfl, rfl, ?_⟩
          rw [dec_strV]
          rw [show formB (.tup (.str y :: ds)) z n = decide (y = z) by
            show (decide (((ds.length + 1 : Nat) : Int) = n) && _) = _
            rw [decide_eq_true (show ((ds.length + 1 : Nat) : Int) = n by simpa using hn)]
            rfl] at q
          exact q
        | _ => exact iteF q
      · refine iteN (decide_eq_false hn) ?_
        rw [show formB (.tup (d1 :: ds)) z n = false by
          cases d1 <;> first | rfl | (show (decide (((ds.length + 1 : Nat) : Int) = n) && _) = _; rw [decide_eq_false (show ¬ ((ds.length + 1 : Nat) : Int) = n by simpa using hn)]; rfl)] at q
        exact q
  | _ => exact iteF q
theorem ok_is_paper (F : Fun K "is_paper" "is_paper" s_is_paper f fd) (T : Txt0 mg) : FnOk P w K mg base CX0 1 f fd ["thing", "word", "width"] spForm := by
  refine F.ok sc_is_paper (fun vs H Q E h => ?_) (fun cdv A outer s H vs Q E hr h => ?_)
  · obtain ⟨d, v, z, n, rfl, _⟩ := h
    rfl
  obtain ⟨d, v, z, n, rfl, h0, r, q⟩ := h
  refine ⟨_, pss_one (ps_ret (pe_and (pe_callB call_isK rfl (by exact T.n_isinstance) (by decide +kernel) (pa_cons (pv 0) (pa_cons (pe_bltn (v := .ty "tuple") rfl (by exact T.n_tuple) (by decide +kernel) rfl) pa_nil))) (pe_and (pe_cmpR op_eq (pe_callB call_len_seq rfl (by exact T.n_len) PySem.boot_len (pa_cons (pv 0) pa_nil)) (pv 2) (nomark _)) (pe_and (pe_callB call_isK rfl (by exact T.n_isinstance) (by decide +kernel) (pa_cons (pe_ix ix_tup (pv 0) (pe_int) (fun _ _ => rfl)) (pa_cons (pe_bltn (v := .ty "str") rfl (by exact T.n_str) (by decide +kernel) rfl) pa_nil))) (pe_one (pe_cmpR op_eq (pe_ix ix_tup (pv 0) (pe_int) (fun _ _ => rfl)) (pv 1) (nomark _))))))), ?_⟩
  refine ⟨_, rfl, _, _, _, _, rfl, r.kind, kd_tup d, _, rfl, ?_⟩
  cases d with
  | tup xs =>
    obtain ⟨a, vs, rfl, ha, rs⟩ := r.tupv
    have lv := rs.length
    refine iteT ⟨_, rfl, a, _, rfl, .inr (SqT.of ha), _, rfl, rfl, _, rfl, ?_⟩
    rw [dec_intV, lv]
    cases xs with
    | nil => exact iteN (decide_eq_false (by simp; omega)) q
    | cons d1 ds =>
      obtain ⟨v1, us, rfl, r1, _⟩ := rs.consv
      by_cases hn : ((d1 :: ds).length : Int) = n
      · refine iteY (decide_eq_true hn) ⟨_, rfl, a, _, _, _, rfl, rfl, SqT.of ha, at0, _, _, _, _, rfl, r1.kind, kd_str d1, _, rfl, ?_⟩
        cases d1 with
        | str y =>
          obtain rfl := r1.strv
          refine iteT ⟨_, rfl, a, _, _, _, rfl, rfl, SqT.of ha, at0, _, rfl, rfl, ?_⟩
          rw [dec_strV]
          rw [show formB (.tup (.str y :: ds)) z n = decide (y = z) by
            show (decide (((ds.length + 1 : Nat) : Int) = n) && _) = _
            rw [decide_eq_true (show ((ds.length + 1 : Nat) : Int) = n by simpa using hn)]
            rfl] at q
          exact q
        | _ => exact iteF q
      · refine iteN (decide_eq_false hn) ?_
        rw [show formB (.tup (d1 :: ds)) z n = false by
          cases d1 <;> first | rfl | (show (decide (((ds.length + 1 : Nat) : Int) = n) && _) = _; rw [decide_eq_false (show ¬ ((ds.length + 1 : Nat) : Int) = n by simpa using hn)]; rfl)] at q
        exact q
  | _ => exact iteF q
def ofB (d : D) (n : Int) : Bool := match d with | .tup xs => decide (((xs.length : Nat) : Int) = n) | _ => false
def spOf : Sp := fun vs H Q _ => ∃ (d : D) (v : V) (n : Int), vs = [v, .int n] ∧ Rp H d v ∧ Q (.bl (ofB d n)) H
theorem ok_is_of (F : Fun K "is_of" "is_of" s_is_of f fd) (T : Txt0 mg) : FnOk P w K mg base CX0 1 f fd ["thing", "width"] spOf := by
  refine F.ok sc_is_of (fun vs H Q E h => ?_) (fun cdv A outer s H vs Q E hr h => ?_)
  · obtain ⟨d, v, n, rfl, _⟩ := h
    rfl
  obtain ⟨d, v, n, rfl, r, q⟩ := h
  refine ⟨_, pss_one (ps_ret (pe_and (pe_callB call_isK rfl (by exact T.n_isinstance) (by decide +kernel) (pa_cons (pv 0) (pa_cons (pe_bltn (v := .ty "tuple") rfl (by exact T.n_tuple) (by decide +kernel) rfl) pa_nil))) (pe_one (pe_cmpR op_eq (pe_callB call_len_seq rfl (by exact T.n_len) PySem.boot_len (pa_cons (pv 0) pa_nil)) (pv 1) (nomark _))))), ?_⟩
  refine ⟨_, rfl, _, _, _, _, rfl, r.kind, kd_tup d, _, rfl, ?_⟩
  cases d with
  | tup xs =>
    obtain ⟨a, vs, rfl, ha, rs⟩ := r.tupv
    refine iteT ⟨_, rfl, a, _, rfl, .inr (SqT.of ha), _, rfl, rfl, ?_⟩
    rw [dec_intV, rs.length]
    exact q
  | _ => exact iteF q

theorem in_s {s : Str} {l : List Nat} (h : tl s = l) (c : Nat) : (!(Builtin.Str.occurrences s ⟨#[c]⟩ 0 s.length 1).isEmpty) = decide (c ∈ l) := by
  rw [StrLaws.found_one, show s.cps.toList = l from h]
def lettersL : List Nat := tl (Str.ofString "abcdefghijklmnopqrstuvwxyz")
def signsL : List Nat := tl (Str.ofString "abcdefghijklmnopqrstuvwxyz0123456789")
def nameL (l : List Nat) : Bool := decide (1 ≤ l.length) && (decide (l.length ≤ 12) && ((match l with | [] => false | c :: _ => decide (c ∈ lettersL)) && l.all fun c => decide (c ∈ signsL)))
def nameB : D → Bool | .str z => nameL (tl z) | _ => false
/-- the texts in it are not too long -/
def small (d : D) : Prop := ∀ z, d = .str z → z.length ≤ 1000000
def spName : Sp := fun vs H Q _ => ∃ (d : D) (v : V), vs = [v] ∧ small d ∧ Rp H d v ∧ ∀ H', Same H H' → Q (.bl (nameB d)) H'
theorem ok_is_name (F : Fun K "is_name" "is_name" s_is_name_wnames f fd) (T : Txt0 mg) : FnOk P w K mg base CX0 1 f fd ["thing"] spName := by
  refine F.ok sc_is_name_wnames (fun vs H Q E h => ?_) (fun cdv A outer s H vs Q E hr h => ?_)
  · obtain ⟨d, v, rfl, _⟩ := h
    rfl
  obtain ⟨d, v, rfl, hz, r, q⟩ := h
  refine ⟨_, pss_cons (ps_if (PW.pt (pw_or (pt_not (pt_val (pe_callB call_isK rfl (by exact T.n_isinstance) (by decide +kernel) (pa_cons (pv 0) (pa_cons (pe_bltn (v := .ty "str") rfl (by exact T.n_str) (by decide +kernel) rfl) pa_nil))))) (pw_or (pt_not (pt_chain op_le op_le (pe_int) (pe_callB call_len_str rfl (by exact T.n_len) PySem.boot_len (pa_cons (pv 0) pa_nil)) (pe_int))) (pw_or1 (pt_cmpR op_notin_str (pe_ix ix_str (pv 0) (pe_int) (fun _ _ => rfl)) (pe_glob (v := .str (Str.ofString "abcdefghijklmnopqrstuvwxyz")) rfl T.g_LETTERS.choose_spec ⟨_, rfl⟩) rfl))))) (pss_one (ps_ret (pe_bl))) (pss_nil))
    (pss_one (ps_ret (pe_callB (cr_all rfl) rfl (by exact T.n_all) (by decide +kernel) (pa_cons (pe_lc (own := [("sign", 1)]) (g := gName 1) rfl sc_is_name_wnames.nd (pi_str (pv 0)) (blkOk_by (own := [("sign", 1)]) (N := ["thing", "sign"]) (sc := defScope s_is_name_wnames) (by decide +kernel)) (fun _ _ _ _ _ => pg_name (i := 1) sc_is_name_wnames.nd rfl (Or.inl rfl)) (fun _ _ _ _ _ => pts_nil) (fun _ _ _ _ _ => pe_cmpR op_in_str (pv 1) (pe_glob (v := .str (Str.ofString "abcdefghijklmnopqrstuvwxyz0123456789")) rfl T.g_SIGNS_wnames.choose_spec ⟨_, rfl⟩) rfl)) pa_nil)))), ?_⟩
  refine ⟨_, rfl, _, _, _, _, rfl, r.kind, kd_str d, _, rfl, ?_⟩
  cases d with
  | str z =>
    obtain rfl := r.strv
    have hz := hz z rfl
    have hL := len_tl z
    refine iteN rfl ⟨_, rfl, z, rfl, small16 (by omega), _, _, rfl, rfl, _, rfl, ?_⟩
    by_cases h1 : 1 ≤ (tl z).length
    · refine iteY (decide_eq_true (by omega)) ⟨_, _, rfl, rfl, _, rfl, ?_⟩
      by_cases h2 : (tl z).length ≤ 12
      · refine iteN (by rw [decide_eq_true (show ((z.length : Nat) : Int) ≤ 12 by omega)]; rfl) ?_
        obtain ⟨c, l, el⟩ : ∃ c l, tl z = c :: l := by
          cases e : tl z with
          | nil => rw [e] at h1; simp at h1
          | cons c l => exact ⟨c, l, rfl⟩
        have g0 : atI z.cps.toList 0 = some c := by
          have := atI_nat (xs := z.cps.toList) (j := 0) (v := c) (by show (tl z)[0]? = _; rw [el]; rfl)
          exact this
        refine ⟨_, rfl, z, _, c, rfl, rfl, small16 (by omega), g0, _, _, rfl, rfl, _, rfl, ?_⟩
        rw [in_s (l := lettersL) rfl]
        by_cases h3 : c ∈ lettersL
        · refine iteN (by rw [decide_eq_true h3]; rfl) ?_
          refine ⟨_, rfl, z, rfl, fun L hL0 => lc_str (fun i H' => H' L = some (.lst (((tl z).take i).map fun c => V.bl (decide (c ∈ signsL)))) ∧ Kept L H H') ⟨by rw [upd_same]; rfl, Kept.upd⟩ ?_ ?_⟩
          · rintro i c' H' hc ⟨w1, w2⟩
            refine ⟨rfl, _, rfl, _, _, rfl, rfl, _, w1, ?_, ?_, ?_⟩
            · rw [List.length_map, List.length_take]
              exact small_of (by omega)
            · rw [upd_same, in_s (l := signsL) rfl, List.take_add_one, hc, List.map_append]
              rfl
            · exact w2.trans Kept.upd
          · rintro H' ⟨w1, w2⟩
            have e : (tl z).take z.cps.size = tl z := List.take_of_length_le (by rw [← hL]; exact Nat.le_refl _)
            rw [e] at w1
            refine ⟨L, (tl z).map fun c => decide (c ∈ signsL), rfl, SqL.of (by rw [List.map_map]; exact w1), ?_⟩
            have : nameB (.str z) = ((tl z).map fun c => decide (c ∈ signsL)).all id := by
              show nameL (tl z) = _
              unfold nameL
              rw [decide_eq_true h1, decide_eq_true h2, el]
              simp only [decide_eq_true h3, Bool.true_and, List.all_map]
              rfl
            rw [← this]
            exact q H' fun b o e => w2 b o (ne_of_none e hL0) e
        · refine iteY (by rw [decide_eq_false h3]; rfl) ?_
          have : nameB (.str z) = false := by
            show nameL (tl z) = _
            unfold nameL
            rw [el]
            simp [h3]
          rw [this] at q
          exact q H (Same.refl H)
      · refine iteY (by rw [decide_eq_false (show ¬ ((z.length : Nat) : Int) ≤ 12 by omega)]; rfl) ?_
        have : nameB (.str z) = false := by
          show nameL (tl z) = _
          unfold nameL
          rw [decide_eq_false h2]
          simp
        rw [this] at q
        exact q H (Same.refl H)
    · refine iteN (decide_eq_false (by omega)) ⟨_, rfl, iteY rfl ?_⟩
      have : nameB (.str z) = false := by
        show nameL (tl z) = _
        unfold nameL
        rw [decide_eq_false h1]
        simp
      rw [this] at q
      exact q H (Same.refl H)
  | _ => exact iteY rfl (q H (Same.refl H))

/-! ### what is said of all texts in a value -/
inductive AllS (P : Str → Prop) : D → Prop
  | non : AllS P .non
  | bl (b : Bool) : AllS P (.bl b)
  | int (i : Int) : AllS P (.int i)
  | str (z : Str) : P z → AllS P (.str z)
  | tup (xs : List D) : (∀ d ∈ xs, AllS P d) → AllS P (.tup xs)
/-- words whose things are not looked into here -/
def farWords : List Str := [Str.ofString "tell", Str.ofString "kills", Str.ofString "same", Str.ofString "value", Str.ofString "values", Str.ofString "shaken"]
def nearS (z : Str) : Prop := z.length ≤ 1000000 ∧ z ∉ farWords
theorem AllS.mem {P : Str → Prop} {xs : List D} (h : AllS P (.tup xs)) {d : D} (hd : d ∈ xs) : AllS P d := by
  cases h with
  | tup _ h => exact h d hd
theorem AllS.small {d : D} (h : AllS nearS d) : small d := fun z e => by
  subst e
  cases h with
  | str _ h => exact h.1
theorem AllS.s {P : Str → Prop} {z : Str} (h : AllS P (.str z)) : P z := by
  cases h with
  | str _ h => exact h
def nth : D → Nat → D
  | .tup xs, i => xs.getD i .non
  | _, _ => .non
theorem formB_true {d : D} {z : Str} {n : Int} (h : formB d z n = true) : ∃ r, d = .tup (.str z :: r) ∧ ((r.length + 1 : Nat) : Int) = n := by
  unfold formB at h
  split at h
  · rename_i y r
    simp only [Bool.and_eq_true, decide_eq_true_eq] at h
    obtain ⟨h1, rfl⟩ := h
    exact ⟨r, rfl, h1⟩
  · cases h
theorem near_no {d : D} {z : Str} {n : Int} (h : AllS nearS d) (hz : z ∈ farWords) : formB d z n = false := by
  cases e : formB d z n with
  | false => rfl
  | true =>
    obtain ⟨r, rfl, _⟩ := formB_true e
    exact absurd hz (h.mem List.mem_cons_self).s.2
def actB (d : D) (n : Int) : Bool := if formB d (Str.ofString "strike") 2 = true then nameB (nth d 1) else formB d (Str.ofString "withdraw") 2 && wholeB (nth d 1) 1 (n - 1)
def spNever : Sp := fun _ _ _ _ => False
def spAct : Sp := fun vs H Q _ => ∃ (d : D) (v : V) (n : Int), vs = [v, .int n] ∧ AllS nearS d ∧ Rp H d v ∧ ∀ H', Same H H' → Q (.bl (actB d n)) H'
theorem two_of {d : D} {z : Str} {H : Hp} {v : V} (r : Rp H d v) (h : formB d z 2 = true) : ∃ d1 a v1, d = .tup [.str z, d1] ∧ nth d 1 = d1 ∧ v = .ref a ∧ H a = some (.tup [.str z, v1]) ∧ Rp H d1 v1 := by
  obtain ⟨xs, rfl, hl⟩ := formB_true h
  obtain ⟨d1, rfl⟩ : ∃ d1, xs = [d1] := List.length_eq_one_iff.mp (by omega)
  obtain ⟨a, vs, rfl, ha, rs⟩ := r.tupv
  obtain ⟨v0, us, rfl, r0, rs⟩ := rs.consv
  obtain ⟨v1, us, rfl, r1, rs⟩ := rs.consv
  obtain rfl := rs.nilv
  obtain rfl := r0.strv
  exact ⟨d1, a, v1, rfl, rfl, rfl, ha, r1⟩
theorem ok_is_act (F : Fun K "is_act" "is_act" s_is_act f fd) (T : Txt0 mg) (c_is_form : Cal P w K mg base CX0 1 "is_form" ["thing", "word", "many"] spForm) (c_is_whole_wnames : Cal P w K mg base CX0 1 "is_whole_wnames" ["thing", "least", "most"] spWhole)
    (c_is_name_wnames : Cal P w K mg base CX0 1 "is_name_wnames" ["thing"] spName) (c_is_expression : Cal P w K mg base CX0 1 "is_expression" ["thing"] spNever) : FnOk P w K mg base CX0 2 f fd ["thing", "number"] spAct := by
  refine F.ok sc_is_act (fun vs H Q E h => ?_) (fun cdv A outer s H vs Q E hr h => ?_)
  · obtain ⟨d, v, n, rfl, _⟩ := h
    rfl
  obtain ⟨d, v, n, rfl, hd, r, q⟩ := h
  refine ⟨_, pss_cons (ps_if (pt_val (pe_cal c_is_form (hr.mono (by omega)) rfl pass0 (pa_cons (pv 0) (pa_cons (pe_str) (pa_cons (pe_int) pa_nil))))) (pss_one (ps_ret (pe_and (pe_cal c_is_name_wnames (hr.mono (by omega)) rfl pass0 (pa_cons (pe_ix ix_tup (pv 0) (pe_int) (fun _ _ => rfl)) pa_nil)) (pe_one (pe_cal c_is_expression (hr.mono (by omega)) rfl pass0 (pa_cons (pe_ix ix_tup (pv 0) (pe_int) (fun _ _ => rfl)) pa_nil)))))) (pss_nil))
    (pss_cons (ps_if (pt_val (pe_cal c_is_form (hr.mono (by omega)) rfl pass0 (pa_cons (pv 0) (pa_cons (pe_str) (pa_cons (pe_int) pa_nil))))) (pss_one (ps_ret (pe_cal c_is_name_wnames (hr.mono (by omega)) rfl pass0 (pa_cons (pe_ix ix_tup (pv 0) (pe_int) (fun _ _ => rfl)) pa_nil)))) (pss_nil))
    (pss_one (ps_ret (pe_and (pe_cal c_is_form (hr.mono (by omega)) rfl pass0 (pa_cons (pv 0) (pa_cons (pe_str) (pa_cons (pe_int) pa_nil)))) (pe_one (pe_cal c_is_whole_wnames (hr.mono (by omega)) rfl pass0 (pa_cons (pe_ix ix_tup (pv 0) (pe_int) (fun _ _ => rfl)) (pa_cons (pe_int) (pa_cons (pe_op op_sub (pv 1) (pe_int)) pa_nil))))))))), ?_⟩
  refine ⟨_, rfl, d, v, _, 3, rfl, by decide, r, _, rfl, iteN (near_no hd (by decide +kernel)) ?_⟩
  refine ⟨_, rfl, d, v, _, 2, rfl, by decide, r, _, rfl, ?_⟩
  cases hs : formB d (Str.ofString "strike") 2 with
  | true =>
    obtain ⟨d1, a, v1, ed, en, rfl, ha, r1⟩ := two_of r hs
    have hd1 : AllS nearS d1 := by rw [ed] at hd; exact hd.mem (by simp)
    have e : actB d n = nameB d1 := by unfold actB; rw [if_pos hs, en]
    rw [e] at q
    exact iteT ⟨_, rfl, a, _, _, _, rfl, rfl, SqT.of ha, at1, d1, v1, rfl, hd1.small, r1, q⟩
  | false =>
    refine iteF ⟨_, rfl, d, v, _, 2, rfl, by decide, r, _, rfl, ?_⟩
    cases hw : formB d (Str.ofString "withdraw") 2 with
    | true =>
      obtain ⟨d1, a, v1, ed, en, rfl, ha, r1⟩ := two_of r hw
      have e : actB d n = wholeB d1 1 (n - 1) := by unfold actB; rw [if_neg (by rw [hs]; decide), hw, en]; rfl
      rw [e] at q
      exact iteT ⟨_, rfl, a, _, _, _, rfl, rfl, SqT.of ha, at1, _, rfl, _, _, rfl, rfl, d1, v1, 1, n - 1, rfl, r1, q _ (Same.refl _)⟩
    | false =>
      have e : actB d n = false := by unfold actB; rw [if_neg (by rw [hs]; decide), hw]; rfl
      rw [e] at q
      exact iteF (q _ (Same.refl _))
def actOf : D → D → Bool | .int n, d => actB d n | _, _ => false
def noticeB (d : D) : Bool := formB d (Str.ofString "notice") 3 && (wholeB (nth d 1) 1 999 && actOf (nth d 1) (nth d 2))
def spNotice : Sp := fun vs H Q _ => ∃ (d : D) (v : V), vs = [v] ∧ AllS nearS d ∧ Rp H d v ∧ ∀ H', Same H H' → Q (.bl (noticeB d)) H'
theorem three_of {d : D} {z : Str} {H : Hp} {v : V} (r : Rp H d v) (h : formB d z 3 = true) : ∃ d1 d2 a v1 v2, d = .tup [.str z, d1, d2] ∧ v = .ref a ∧ H a = some (.tup [.str z, v1, v2]) ∧ Rp H d1 v1 ∧ Rp H d2 v2 := by
  obtain ⟨xs, rfl, hl⟩ := formB_true h
  obtain ⟨d1, d2, rfl⟩ : ∃ d1 d2, xs = [d1, d2] := match xs, (show xs.length = 2 by omega) with | [d1, d2], _ => ⟨d1, d2, rfl⟩
  obtain ⟨a, vs, rfl, ha, rs⟩ := r.tupv
  obtain ⟨v0, us, rfl, r0, rs⟩ := rs.consv
  obtain ⟨v1, us, rfl, r1, rs⟩ := rs.consv
  obtain ⟨v2, us, rfl, r2, rs⟩ := rs.consv
  obtain rfl := rs.nilv
  obtain rfl := r0.strv
  exact ⟨d1, d2, a, v1, v2, rfl, rfl, ha, r1, r2⟩
theorem ok_is_notice (F : Fun K "is_notice" "is_notice" s_is_notice f fd) (T : Txt0 mg) (c_is_form : Cal P w K mg base CX0 1 "is_form" ["thing", "word", "many"] spForm) (c_is_whole_wnames : Cal P w K mg base CX0 1 "is_whole_wnames" ["thing", "least", "most"] spWhole)
    (c_is_act : Cal P w K mg base CX0 2 "is_act" ["thing", "number"] spAct) : FnOk P w K mg base CX0 3 f fd ["thing"] spNotice := by
  refine F.ok sc_is_notice (fun vs H Q E h => ?_) (fun cdv A outer s H vs Q E hr h => ?_)
  · obtain ⟨d, v, rfl, _⟩ := h
    rfl
  obtain ⟨d, v, rfl, hd, r, q⟩ := h
  refine ⟨_, pss_one (ps_ret (pe_and (pe_cal c_is_form (hr.mono (by omega)) rfl pass0 (pa_cons (pv 0) (pa_cons (pe_str) (pa_cons (pe_int) pa_nil)))) (pe_and (pe_cal c_is_whole_wnames (hr.mono (by omega)) rfl pass0 (pa_cons (pe_ix ix_tup (pv 0) (pe_int) (fun _ _ => rfl)) (pa_cons (pe_int) (pa_cons (pe_int) pa_nil)))) (pe_one (pe_cal c_is_act (hr.mono (by omega)) rfl pass0 (pa_cons (pe_ix ix_tup (pv 0) (pe_int) (fun _ _ => rfl)) (pa_cons (pe_ix ix_tup (pv 0) (pe_int) (fun _ _ => rfl)) pa_nil))))))), ?_⟩
  refine ⟨_, rfl, d, v, _, 3, rfl, by decide, r, _, rfl, ?_⟩
  cases hs : formB d (Str.ofString "notice") 3 with
  | false =>
    have e : noticeB d = false := by unfold noticeB; rw [hs]; rfl
    rw [e] at q
    exact iteF (q _ (Same.refl _))
  | true =>
    obtain ⟨d1, d2, a, v1, v2, rfl, rfl, ha, r1, r2⟩ := three_of r hs
    refine iteT ⟨_, rfl, a, _, _, _, rfl, rfl, SqT.of ha, at1, d1, v1, 1, 999, rfl, r1, _, rfl, ?_⟩
    have e : noticeB (.tup [.str (Str.ofString "notice"), d1, d2]) = (wholeB d1 1 999 && actOf d1 d2) := by
      unfold noticeB
      rw [hs]
      rfl
    rw [e] at q
    cases hw : wholeB d1 1 999 with
    | false => rw [hw] at q; exact iteF (q _ (Same.refl _))
    | true =>
      rw [hw] at q
      cases d1 with
      | int n =>
        obtain rfl := r1.intv
        exact iteT ⟨_, rfl, a, _, _, _, rfl, rfl, SqT.of ha, at2, _, rfl, a, _, _, _, rfl, rfl, SqT.of ha, at1, d2, v2, n, rfl, hd.mem (by simp), r2, q⟩
      | _ => cases hw

end
end Tst
namespace Tst
open PySem PySem.Spec PyProof.Rows L2 TL
section
variable {P : Program} {w : World} {K : PySem.W.Frag} {mg : Str → Option Value} {base : Heap} {f : Addr} {fd : FuncData}
/-! ### promises, questions -/
def promW (w : Str) : D → List D → Bool := fun d2 r => nameB d2 && (decide (w = Str.ofString "ends" ∨ w = Str.ofString "closed") && r.isEmpty)
def promiseB : D → Bool
  | .tup (.str w :: d1 :: d2 :: r) => nameB d1 && promW w d2 r
  | _ => false
def spPromise : Sp := fun vs H Q _ => ∃ (d : D) (v : V), vs = [v] ∧ AllS nearS d ∧ Rp H d v ∧ ∀ H', Same H H' → Q (.bl (promiseB d)) H'
theorem promiseB_few : ∀ {xs : List D}, xs.length < 3 → promiseB (.tup xs) = false
  | [], _ => rfl
  | [d], _ => by cases d <;> rfl
  | [d, d1], _ => by cases d <;> rfl
  | _ :: _ :: _ :: xs, h => by simp at h; omega
theorem three_list : ∀ {xs : List D}, ¬ xs.length < 3 → ∃ d0 d1 d2 ds, xs = d0 :: d1 :: d2 :: ds
  | [], h => absurd (Nat.succ_pos _) h
  | [_], h => absurd (by show 1 < 3; decide) h
  | [_, _], h => absurd (by show 2 < 3; decide) h
  | d0 :: d1 :: d2 :: ds, _ => ⟨d0, d1, d2, ds, rfl⟩
theorem cut2 (v v1 : V) (us : List V) : cutV (v :: v1 :: us) (some 2) none = us := by
  unfold cutV
  have e1 : HT.sIx (v :: v1 :: us).length 0 (some 2) = 2 := by
    rw [show (some (2 : Int)) = some ((2 : Nat) : Int) from rfl, HT.sIx_nat]
    simp
  have e2 : HT.sIx (v :: v1 :: us).length (v :: v1 :: us).length none = us.length + 2 := rfl
  rw [e1, e2]
  simp
theorem in2 (w a b : Str) : inV (.str w) [.str a, .str b] = decide (w = a ∨ w = b) := by
  have e : ∀ k : Str, eqV (.str k) (.str w) = decide (k = w) := fun k => rfl
  unfold inV
  rw [List.any_cons, List.any_cons, e, e]
  by_cases h1 : w = a
  · subst h1; simp
  · by_cases h2 : w = b
    · subst h2; simp
    · simp [h1, h2, Ne.symm h1, Ne.symm h2]
theorem ok_is_promise (F : Fun K "is_promise" "is_promise" s_is_promise f fd) (T : Txt0 mg) (c_is_name_wnames : Cal P w K mg base CX0 1 "is_name_wnames" ["thing"] spName) (c_is_whole_wnames : Cal P w K mg base CX0 1 "is_whole_wnames" ["thing", "least", "most"] spWhole)
    (c_is_typed : Cal P w K mg base CX0 1 "is_typed" ["thing"] spNever) (c_is_typed_operator : Cal P w K mg base CX0 1 "is_typed_operator" ["thing"] spNever) : FnOk P w K mg base CX0 2 f fd ["thing"] spPromise := by
  refine F.ok sc_is_promise (fun vs H Q E h => ?_) (fun cdv A outer s H vs Q E hr h => ?_)
  · obtain ⟨d, v, rfl, _⟩ := h
    rfl
  obtain ⟨d, v, rfl, hd, r, q⟩ := h
  refine ⟨_, pss_cons (ps_if (PW.pt (pw_or (pt_not (pt_val (pe_callB call_isK rfl (by exact T.n_isinstance) (by decide +kernel) (pa_cons (pv 0) (pa_cons (pe_bltn (v := .ty "tuple") rfl (by exact T.n_tuple) (by decide +kernel) rfl) pa_nil))))) (pw_or (pt_cmpR op_lt (pe_callB call_len_seq rfl (by exact T.n_len) PySem.boot_len (pa_cons (pv 0) pa_nil)) (pe_int) (nomark _)) (pw_or (pt_not (pt_val (pe_callB call_isK rfl (by exact T.n_isinstance) (by decide +kernel) (pa_cons (pe_ix ix_tup (pv 0) (pe_int) (fun _ _ => rfl)) (pa_cons (pe_bltn (v := .ty "str") rfl (by exact T.n_str) (by decide +kernel) rfl) pa_nil))))) (pw_or1 (pt_not (pt_val (pe_cal c_is_name_wnames (hr.mono (by omega)) rfl pass0 (pa_cons (pe_ix ix_tup (pv 0) (pe_int) (fun _ _ => rfl)) pa_nil))))))))) (pss_one (ps_ret (pe_bl))) (pss_nil))
    (pss_cons (ps_par (i := 1) (j := 2) (by rfl) sc_is_promise.nd rfl rfl (by decide) rfl rfl (pa_cons (pe_ix ix_tup (pv 0) (pe_int) (fun _ _ => rfl)) (pa_cons (pe_slice sl_tup (pv 0) (po_some (pe_int)) (po_none)) pa_nil)) (by rfl))
    (pss_cons (ps_if (pt_cmpR op_eq (pv 1) (pe_str) (nomark _)) (pss_one (ps_ret (pe_and (pe_cmpR op_eq (pe_callB call_len_seq rfl (by exact T.n_len) PySem.boot_len (pa_cons (pv 2) pa_nil)) (pe_int) (nomark _)) (pe_and (pe_cal c_is_typed_operator (hr.mono (by omega)) rfl pass0 (pa_cons (pe_ix ix_tup (pv 2) (pe_int) (fun _ _ => rfl)) pa_nil)) (pe_and (pe_cmpR op_ne (pe_ix ix_tup (pv 2) (pe_int) (fun _ _ => rfl)) (pe_tup (pa_nil)) (nomark _)) (pe_one (pe_cal c_is_name_wnames (hr.mono (by omega)) rfl pass0 (pa_cons (pe_ix ix_tup (pv 2) (pe_int) (fun _ _ => rfl)) pa_nil)))))))) (pss_nil))
    (pss_cons (ps_if (pt_not (pt_val (pe_cal c_is_name_wnames (hr.mono (by omega)) rfl pass0 (pa_cons (pe_ix ix_tup (pv 2) (pe_int) (fun _ _ => rfl)) pa_nil)))) (pss_one (ps_ret (pe_bl))) (pss_nil))
    (pss_cons (ps_if (pt_cmpR op_eq (pv 1) (pe_str) (nomark _)) (pss_one (ps_ret (pe_and (pe_cmpR op_eq (pe_callB call_len_seq rfl (by exact T.n_len) PySem.boot_len (pa_cons (pv 2) pa_nil)) (pe_int) (nomark _)) (pe_and (pe_cal c_is_name_wnames (hr.mono (by omega)) rfl pass0 (pa_cons (pe_ix ix_tup (pv 2) (pe_int) (fun _ _ => rfl)) pa_nil)) (pe_one (pe_cmpR (op_neD hr.units) (pe_ix ix_tup (pv 2) (pe_int) (fun _ _ => rfl)) (pe_ix ix_tup (pv 2) (pe_int) (fun _ _ => rfl)) (nomark _))))))) (pss_nil))
    (pss_cons (ps_if (pt_cmpR op_eq (pv 1) (pe_str) (nomark _)) (pss_one (ps_ret (pe_and (pe_cmpR op_eq (pe_callB call_len_seq rfl (by exact T.n_len) PySem.boot_len (pa_cons (pv 2) pa_nil)) (pe_int) (nomark _)) (pe_and (pe_cal c_is_whole_wnames (hr.mono (by omega)) rfl pass0 (pa_cons (pe_ix ix_tup (pv 2) (pe_int) (fun _ _ => rfl)) (pa_cons (pe_int) (pa_cons (pe_int) pa_nil)))) (pe_one (pe_cal c_is_typed (hr.mono (by omega)) rfl pass0 (pa_cons (pe_ix ix_tup (pv 2) (pe_int) (fun _ _ => rfl)) pa_nil))))))) (pss_nil))
    (pss_one (ps_ret (pe_and (pe_cmpR op_in_seq (pv 1) (pe_tup (pa_cons (pe_str) (pa_cons (pe_str) pa_nil))) rfl) (pe_one (pe_cmpR op_eq (pe_callB call_len_seq rfl (by exact T.n_len) PySem.boot_len (pa_cons (pv 2) pa_nil)) (pe_int) (nomark _))))))))))), ?_⟩
  refine ⟨_, rfl, _, _, _, _, rfl, r.kind, kd_tup d, _, rfl, ?_⟩
  cases d with
  | tup xs =>
    obtain ⟨a, vs, rfl, ha, rs⟩ := r.tupv
    have lv := rs.length
    refine iteN rfl ⟨_, rfl, a, _, rfl, .inr (SqT.of ha), _, _, rfl, rfl, _, rfl, ?_⟩
    by_cases h3 : xs.length < 3
    · have e := promiseB_few h3
      rw [e] at q
      exact iteY (decide_eq_true (by omega)) (q _ (Same.refl _))
    refine iteN (decide_eq_false (by omega)) ?_
    obtain ⟨d0, d1, d2, ds, rfl⟩ := three_list h3
    obtain ⟨v0, us0, rfl, r0, rs0⟩ := rs.consv
    obtain ⟨v1, us1, rfl, r1, rs1⟩ := rs0.consv
    obtain ⟨v2, us, rfl, r2, rs2⟩ := rs1.consv
    refine ⟨_, rfl, a, _, _, _, rfl, rfl, SqT.of ha, at0, _, _, _, _, rfl, r0.kind, kd_str d0, _, rfl, ?_⟩
    cases d0 with
    | str w0 =>
      obtain rfl := r0.strv
      have hw0 := (hd.mem (List.mem_cons_self)).s.2
      refine iteN rfl ⟨_, rfl, a, _, _, _, rfl, rfl, SqT.of ha, at1, d1, v1, rfl, (hd.mem (by simp)).small, r1, fun H1 s1 => ⟨_, rfl, ?_⟩⟩
      have q' : ∀ H', Same H H' → Q (.bl (nameB d1 && promW w0 d2 ds)) H' := q
      cases n1 : nameB d1 with
      | false => rw [n1] at q'; exact iteY rfl (q' _ s1)
      | true =>
        rw [n1] at q'
        refine iteN rfl ?_
        have ha1 := s1 _ _ ha
        refine ⟨_, rfl, a, _, _, _, rfl, rfl, SqT.of ha1, at0, _, rfl, _, rfl, a, _, rfl, SqT.of ha1, ?_, fun p hp => ?_⟩
        · rw [show (some (2 : Int)) = some ((2 : Nat) : Int) from rfl, HT.sIx_nat]
          simp
        rw [cut2]
        have s2 := s1.trans (same_new hp (.tup (v2 :: us)))
        have hp2 : (upd H1 p (.tup (v2 :: us))) p = some (.tup (v2 :: us)) := upd_same
        have t2 := Same.tup (s1.trans (same_new hp (.tup (v2 :: us))))
        refine ⟨_, _, rfl, ?_⟩
        have far : ∀ k, k ∈ farWords → decide (V.str w0 = V.str k) = false := fun k hk => by
          rw [dec_strV]
          exact decide_eq_false fun e => hw0 (by rw [e]; exact hk)
        refine ⟨_, rfl, rfl, _, rfl, iteN (far _ (by decide +kernel)) ?_⟩
        refine ⟨_, rfl, p, _, _, _, rfl, rfl, SqT.of hp2, at0, d2, v2, rfl, (hd.mem (by simp)).small, r2.mono t2, fun H3 s3 => ⟨_, rfl, ?_⟩⟩
        have s13 := s2.trans s3
        have hp3 := s3 _ _ hp2
        cases n2 : nameB d2 with
        | false =>
          have e : (true && promW w0 d2 ds) = false := by unfold promW; rw [n2]; rfl
          rw [e] at q'
          exact iteY rfl (q' _ s13)
        | true =>
          refine iteN rfl ⟨_, rfl, rfl, _, rfl, iteN (far _ (by decide +kernel)) ⟨_, rfl, rfl, _, rfl, iteN (far _ (by decide +kernel)) ?_⟩⟩
          have e : (true && promW w0 d2 ds) = (decide (w0 = Str.ofString "ends" ∨ w0 = Str.ofString "closed") && ds.isEmpty) := by unfold promW; rw [n2]; rfl
          rw [e] at q'
          refine ⟨_, rfl, (by show 2 ≤ sizeLine; decide), fun t ht => ?_⟩
          have s4 := s13.trans (same_new ht (.tup [.str (Str.ofString "ends"), .str (Str.ofString "closed")]))
          have hp4 := same_new ht (.tup [.str (Str.ofString "ends"), .str (Str.ofString "closed")]) _ _ hp3
          refine ⟨t, _, rfl, .inr (SqT.of upd_same), rfl, rfl, _, rfl, ?_⟩
          rw [in2]
          by_cases hw : w0 = Str.ofString "ends" ∨ w0 = Str.ofString "closed"
          · rw [decide_eq_true hw] at q' ⊢
            refine iteT ⟨_, rfl, p, _, rfl, .inr (SqT.of hp4), rfl, ?_⟩
            have lu := rs2.length
            rw [dec_intV]
            have el : decide ((((v2 :: us).length : Nat) : Int) = 1) = ds.isEmpty := by
              cases ds with
              | nil => have : us = [] := by simpa using lu
                       subst this; rfl
              | cons x ds =>
                rw [List.length_cons, lu, List.length_cons]
                exact decide_eq_false (by omega)
            rw [el]
            exact q' _ s4
          · rw [decide_eq_false hw] at q' ⊢
            exact iteF (q' _ s4)
    | _ => exact iteY rfl (q _ (Same.refl _))
  | _ => exact iteY rfl (q _ (Same.refl _))

/-- the tuples and the dict of the top -/
structure Txt1 (K : PySem.W.Frag) (mg : Str → Option Value) (aP aO aS : Addr) : Prop where
  g_PLAIN : mg "PLAIN" = some (.ref aP)
  t_PLAIN : ∀ H, SqT K H aP [.str (Str.ofString "known"), .str (Str.ofString "names")]
  g_OF_NAMES : mg "OF_NAMES" = some (.ref aO)
  t_OF_NAMES : ∀ H, SqT K H aO [.str (Str.ofString "stands"), .str (Str.ofString "causes"), .str (Str.ofString "cures"), .str (Str.ofString "ends")]
  g_SIGNS_language : mg "SIGNS_language" = some (.ref aS)
  k_SIGNS_language : KeysAt K aS [Str.ofString "plus", Str.ofString "minus", Str.ofString "times"]
def plainW (w : Str) : Bool := inV (.str w) [.str (Str.ofString "known"), .str (Str.ofString "names")]
def ofNamesW (w : Str) : Bool := inV (.str w) [.str (Str.ofString "stands"), .str (Str.ofString "causes"), .str (Str.ofString "cures"), .str (Str.ofString "ends")]
def questionB : D → Bool
  | .tup [.str w] => plainW w
  | .tup [.str w, d1] => ofNamesW w && nameB d1
  | _ => false
def spQuestion : Sp := fun vs H Q _ => ∃ (d : D) (v : V), vs = [v] ∧ AllS nearS d ∧ Rp H d v ∧ ∀ H', Same H H' → Q (.bl (questionB d)) H'
theorem questionB_many : ∀ {xs : List D}, ¬ (1 ≤ xs.length ∧ xs.length ≤ 3) → questionB (.tup xs) = false
  | [], _ => rfl
  | [_], h => absurd ⟨Nat.le_refl _, by show 1 ≤ 3; decide⟩ h
  | [_, _], h => absurd ⟨by show 1 ≤ 2; decide, by show 2 ≤ 3; decide⟩ h
  | [_, _, _], h => absurd ⟨by show 1 ≤ 3; decide, by show 3 ≤ 3; decide⟩ h
  | d :: _ :: _ :: _ :: _, _ => by cases d <;> rfl
theorem one_two_three : ∀ {xs : List D}, 1 ≤ xs.length → xs.length ≤ 3 → ∃ d ds, xs = d :: ds ∧ (ds = [] ∨ (∃ d1, ds = [d1]) ∨ ∃ d1 d2, ds = [d1, d2])
  | [], h, _ => by simp at h
  | [d], _, _ => ⟨d, [], rfl, .inl rfl⟩
  | [d, d1], _, _ => ⟨d, [d1], rfl, .inr (.inl ⟨d1, rfl⟩)⟩
  | [d, d1, d2], _, _ => ⟨d, [d1, d2], rfl, .inr (.inr ⟨d1, d2, rfl⟩)⟩
  | _ :: _ :: _ :: _ :: _, _, h => by simp at h
theorem ok_is_question {aP aO aS : Addr} (F : Fun K "is_question" "is_question" s_is_question f fd) (T : Txt0 mg) (U : Txt1 K mg aP aO aS) (c_is_name_wnames : Cal P w K mg base CX0 1 "is_name_wnames" ["thing"] spName) (c_is_whole_wnames : Cal P w K mg base CX0 1 "is_whole_wnames" ["thing", "least", "most"] spWhole) : FnOk P w K mg base CX0 2 f fd ["thing"] spQuestion := by
  refine F.ok sc_is_question (fun vs H Q E h => ?_) (fun cdv A outer s H vs Q E hr h => ?_)
  · obtain ⟨d, v, rfl, _⟩ := h
    rfl
  obtain ⟨d, v, rfl, hd, r, q⟩ := h
  refine ⟨_, pss_cons (ps_if (PW.pt (pw_or (pt_not (pt_val (pe_callB call_isK rfl (by exact T.n_isinstance) (by decide +kernel) (pa_cons (pv 0) (pa_cons (pe_bltn (v := .ty "tuple") rfl (by exact T.n_tuple) (by decide +kernel) rfl) pa_nil))))) (pw_or (pt_not (pt_chain op_le op_le (pe_int) (pe_callB call_len_seq rfl (by exact T.n_len) PySem.boot_len (pa_cons (pv 0) pa_nil)) (pe_int))) (pw_or1 (pt_not (pt_val (pe_callB call_isK rfl (by exact T.n_isinstance) (by decide +kernel) (pa_cons (pe_ix ix_tup (pv 0) (pe_int) (fun _ _ => rfl)) (pa_cons (pe_bltn (v := .ty "str") rfl (by exact T.n_str) (by decide +kernel) rfl) pa_nil))))))))) (pss_one (ps_ret (pe_bl))) (pss_nil))
    (pss_cons (ps_set (i := 1) sc_is_question.nd rfl (Or.inl rfl) (pe_ix ix_tup (pv 0) (pe_int) (fun _ _ => rfl)))
    (pss_cons (ps_if (pt_cmpR op_eq (pe_callB call_len_seq rfl (by exact T.n_len) PySem.boot_len (pa_cons (pv 0) pa_nil)) (pe_int) (nomark _)) (pss_one (ps_ret (pe_cmpR op_in_seq (pv 1) (pe_glob (v := .ref aP) rfl U.g_PLAIN rfl) rfl))) (pss_nil))
    (pss_cons (ps_if (pt_cmpR op_eq (pe_callB call_len_seq rfl (by exact T.n_len) PySem.boot_len (pa_cons (pv 0) pa_nil)) (pe_int) (nomark _)) (pss_cons (ps_if (pt_cmpR op_eq (pv 1) (pe_str) (nomark _)) (pss_one (ps_ret (pe_and (pe_cal c_is_name_wnames (hr.mono (by omega)) rfl pass0 (pa_cons (pe_ix ix_tup (pv 0) (pe_int) (fun _ _ => rfl)) pa_nil)) (pe_one (pe_cal c_is_whole_wnames (hr.mono (by omega)) rfl pass0 (pa_cons (pe_ix ix_tup (pv 0) (pe_int) (fun _ _ => rfl)) (pa_cons (pe_int) (pa_cons (pe_int) pa_nil)))))))) (pss_nil))
    (pss_one (ps_ret (pe_and (pe_cmpR op_eq (pv 1) (pe_str) (nomark _)) (pe_and (pe_cal c_is_name_wnames (hr.mono (by omega)) rfl pass0 (pa_cons (pe_ix ix_tup (pv 0) (pe_int) (fun _ _ => rfl)) pa_nil)) (pe_one (pe_cal c_is_name_wnames (hr.mono (by omega)) rfl pass0 (pa_cons (pe_ix ix_tup (pv 0) (pe_int) (fun _ _ => rfl)) pa_nil)))))))) (pss_nil))
    (pss_cons (ps_if (pt_cmpR op_eq (pv 1) (pe_str) (nomark _)) (pss_one (ps_ret (pe_cal c_is_whole_wnames (hr.mono (by omega)) rfl pass0 (pa_cons (pe_ix ix_tup (pv 0) (pe_int) (fun _ _ => rfl)) (pa_cons (pe_int) (pa_cons (pe_int) pa_nil)))))) (pss_nil))
    (pss_one (ps_ret (pe_and (pe_cmpR op_in_seq (pv 1) (pe_glob (v := .ref aO) rfl U.g_OF_NAMES rfl) rfl) (pe_one (pe_cal c_is_name_wnames (hr.mono (by omega)) rfl pass0 (pa_cons (pe_ix ix_tup (pv 0) (pe_int) (fun _ _ => rfl)) pa_nil)))))))))), ?_⟩
  refine ⟨_, rfl, _, _, _, _, rfl, r.kind, kd_tup d, _, rfl, ?_⟩
  cases d with
  | tup xs =>
    obtain ⟨a, vs, rfl, ha, rs⟩ := r.tupv
    have lv := rs.length
    refine iteN rfl ⟨_, rfl, a, _, rfl, .inr (SqT.of ha), _, _, rfl, rfl, _, rfl, ?_⟩
    by_cases h1 : 1 ≤ xs.length
    case neg =>
      have e := questionB_many (xs := xs) (fun z => h1 z.1)
      rw [e] at q
      exact iteN (decide_eq_false (by omega)) ⟨_, rfl, iteY rfl (q _ (Same.refl _))⟩
    refine iteY (decide_eq_true (by omega)) ⟨_, _, rfl, rfl, _, rfl, ?_⟩
    by_cases h3 : xs.length ≤ 3
    case neg =>
      have e := questionB_many (xs := xs) (fun z => h3 z.2)
      rw [e] at q
      exact iteY (by rw [decide_eq_false (show ¬ ((vs.length : Nat) : Int) ≤ 3 by omega)]; rfl) (q _ (Same.refl _))
    refine iteN (by rw [decide_eq_true (show ((vs.length : Nat) : Int) ≤ 3 by omega)]; rfl) ?_
    obtain ⟨d0, ds, rfl, hds⟩ := one_two_three h1 h3
    obtain ⟨v0, us, rfl, r0, rs0⟩ := rs.consv
    refine ⟨_, rfl, a, _, _, _, rfl, rfl, SqT.of ha, at0, _, _, _, _, rfl, r0.kind, kd_str d0, _, rfl, ?_⟩
    cases d0 with
    | str w0 =>
      obtain rfl := r0.strv
      have hw0 := (hd.mem (List.mem_cons_self)).s.2
      have far : ∀ k, k ∈ farWords → decide (V.str w0 = V.str k) = false := fun k hk => by
        rw [dec_strV]
        exact decide_eq_false fun e => hw0 (by rw [e]; exact hk)
      refine iteN rfl ⟨_, rfl, a, _, _, _, rfl, rfl, SqT.of ha, at0, ?_⟩
      refine ⟨_, rfl, a, _, rfl, .inr (SqT.of ha), rfl, _, rfl, ?_⟩
      rw [dec_intV]
      have lu := rs0.length
      rcases hds with rfl | ⟨d1, rfl⟩ | ⟨d1, d2, rfl⟩
      · refine iteY (decide_eq_true (by rw [List.length_cons, lu]; rfl)) ⟨_, rfl, aP, _, rfl, .inr (U.t_PLAIN _), rfl, rfl, q _ (Same.refl _)⟩
      · refine iteN (decide_eq_false (by rw [List.length_cons, lu]; show ¬ ((2 : Nat) : Int) = 1; decide)) ⟨_, rfl, a, _, rfl, .inr (SqT.of ha), rfl, _, rfl, ?_⟩
        rw [dec_intV]
        refine iteN (decide_eq_false (by rw [List.length_cons, lu]; show ¬ ((2 : Nat) : Int) = 3; decide)) ⟨_, rfl, rfl, _, rfl, iteN (far _ (by decide +kernel)) ?_⟩
        obtain ⟨v1, us1, rfl, r1, rs1⟩ := rs0.consv
        refine ⟨_, rfl, aO, _, rfl, .inr (U.t_OF_NAMES _), rfl, rfl, _, rfl, ?_⟩
        show if ofNamesW w0 = true then _ else _
        have q' : ∀ H', Same H H' → Q (.bl (ofNamesW w0 && nameB d1)) H' := q
        cases ho : ofNamesW w0 with
        | false => rw [ho] at q'; exact iteF (q' _ (Same.refl _))
        | true =>
          rw [ho] at q'
          exact iteT ⟨_, rfl, a, _, _, _, rfl, rfl, SqT.of ha, at1, d1, v1, rfl, (hd.mem (by simp)).small, r1, q'⟩
      · refine iteN (decide_eq_false (by rw [List.length_cons, lu]; show ¬ ((3 : Nat) : Int) = 1; decide)) ⟨_, rfl, a, _, rfl, .inr (SqT.of ha), rfl, _, rfl, ?_⟩
        rw [dec_intV]
        refine iteY (decide_eq_true (by rw [List.length_cons, lu]; rfl)) ⟨_, rfl, rfl, _, rfl, iteN (far _ (by decide +kernel)) ?_⟩
        refine ⟨_, rfl, rfl, _, rfl, ?_⟩
        rw [far _ (by decide +kernel)]
        exact iteF (q _ (Same.refl _))
    | _ =>
      have e : ∀ {x : D}, strD x = false → questionB (.tup (x :: ds)) = false := fun {x} hx => by
        rcases hds with rfl | ⟨d1, rfl⟩ | ⟨d1, d2, rfl⟩ <;> cases x <;> first | rfl | cases hx
      rw [e rfl] at q
      exact iteY rfl (q _ (Same.refl _))
  | _ => exact iteY rfl (q _ (Same.refl _))
end
end Tst
namespace Tst
open PySem PySem.Spec PyProof.Rows L2 TL
section
variable {P : Program} {w : World} {K : PySem.W.Frag} {mg : Str → Option Value} {base : Heap} {f : Addr} {fd : FuncData}
/-! ### a later line's entry -/
def isW (w : Str) (s : String) : Bool := decide (w = Str.ofString s)
def laterW (w : Str) (d1 : D) : List D → Bool
  | [] => (isW w "published" || isW w "heard") && noticeB d1
  | [d2] => !(isW w "published" || isW w "heard") && (isW w "given" && (promiseB d1 && wholeB d2 0 999))
  | [d2, d3] => !(isW w "published" || isW w "heard") && (!isW w "given" && (isW w "told" && (questionB d1 && (strD d2 && wholeB d3 0 999))))
  | _ => false
theorem laterW_pub {w : Str} {d1 : D} : ∀ {ds : List D}, (isW w "published" || isW w "heard") = true → laterW w d1 ds = (ds.isEmpty && noticeB d1)
  | [], h => by unfold laterW; rw [h]; rfl
  | [_], h => by unfold laterW; rw [h]; rfl
  | [_, _], h => by unfold laterW; rw [h]; rfl
  | _ :: _ :: _ :: _, h => rfl
def givenW (d1 : D) : List D → Bool | [d2] => promiseB d1 && wholeB d2 0 999 | _ => false
def toldW (d1 : D) : List D → Bool | [d2, d3] => questionB d1 && (strD d2 && wholeB d3 0 999) | _ => false
theorem laterW_given {w : Str} {d1 : D} : ∀ {ds : List D}, (isW w "published" || isW w "heard") = false → isW w "given" = true → laterW w d1 ds = givenW d1 ds
  | [], h, g => by unfold laterW; rw [h]; rfl
  | [_], h, g => by unfold laterW; rw [h, g]; rfl
  | [_, _], h, g => by unfold laterW; rw [h, g]; rfl
  | _ :: _ :: _ :: _, h, g => rfl
theorem laterW_told {w : Str} {d1 : D} : ∀ {ds : List D}, (isW w "published" || isW w "heard") = false → isW w "given" = false → laterW w d1 ds = (isW w "told" && toldW d1 ds)
  | [], h, g => by unfold laterW; rw [h]; simp [toldW]
  | [_], h, g => by unfold laterW; rw [h, g]; simp [toldW]
  | [_, _], h, g => by unfold laterW; rw [h, g]; rfl
  | _ :: _ :: _ :: _, h, g => by simp [laterW, toldW]
theorem empty_of {v v1 : V} {us : List V} {ds : List D} (h : us.length = ds.length) : decide ((((v :: v1 :: us).length : Nat) : Int) = 2) = ds.isEmpty := by
  cases ds with
  | nil =>
    rw [List.length_cons, List.length_cons, h]
    rfl
  | cons d ds =>
    rw [List.length_cons, List.length_cons, h, List.length_cons]
    exact decide_eq_false (by omega)
theorem givenW_no {d1 : D} : ∀ {ds : List D}, ds.length ≠ 1 → givenW d1 ds = false
  | [], _ => rfl
  | [_], h => absurd rfl h
  | _ :: _ :: _, _ => rfl
theorem toldW_no {d1 : D} : ∀ {ds : List D}, ds.length ≠ 2 → toldW d1 ds = false
  | [], _ => rfl
  | [_], _ => rfl
  | [_, _], h => absurd rfl h
  | _ :: _ :: _ :: _, _ => rfl
theorem list_one {ds : List D} (h : ds.length = 1) : ∃ d, ds = [d] := List.length_eq_one_iff.mp h
theorem list_two : ∀ {ds : List D}, ds.length = 2 → ∃ d e, ds = [d, e]
  | [d, e], _ => ⟨d, e, rfl⟩
def spLater : Sp := fun vs H Q _ => ∃ (w : Str) (d1 : D) (r : List D) (v : V), vs = [v] ∧ AllS nearS (.tup (.str w :: d1 :: r)) ∧ Rp H (.tup (.str w :: d1 :: r)) v ∧ ∀ H', Same H H' → Q (.bl (laterW w d1 r)) H'
theorem ok_is_later (F : Fun K "is_later" "is_later" s_is_later f fd) (T : Txt0 mg) (c_is_notice : Cal P w K mg base CX0 3 "is_notice" ["thing"] spNotice) (c_is_promise : Cal P w K mg base CX0 2 "is_promise" ["thing"] spPromise)
    (c_is_question : Cal P w K mg base CX0 2 "is_question" ["thing"] spQuestion) (c_is_whole_wnames : Cal P w K mg base CX0 1 "is_whole_wnames" ["thing", "least", "most"] spWhole) : FnOk P w K mg base CX0 4 f fd ["entry"] spLater := by
  refine F.ok sc_is_later (fun vs H Q E h => ?_) (fun cdv A outer s H vs Q E hr h => ?_)
  · obtain ⟨w0, d1, r, v, rfl, _⟩ := h
    rfl
  obtain ⟨w0, d1, ds, v, rfl, hd, r, q⟩ := h
  refine ⟨_, pss_cons (ps_par (i := 1) (j := 2) (by rfl) sc_is_later.nd rfl rfl (by decide) rfl rfl (pa_cons (pe_ix ix_tup (pv 0) (pe_int) (fun _ _ => rfl)) (pa_cons (pe_callB call_len_seq rfl (by exact T.n_len) PySem.boot_len (pa_cons (pv 0) pa_nil)) pa_nil)) (by rfl))
    (pss_cons (ps_if (PW.pt (pw_or (pt_cmpR op_eq (pv 1) (pe_str) (nomark _)) (pw_or1 (pt_cmpR op_eq (pv 1) (pe_str) (nomark _))))) (pss_one (ps_ret (pe_and (pe_cmpR op_eq (pv 2) (pe_int) (nomark _)) (pe_one (pe_cal c_is_notice (hr.mono (by omega)) rfl pass0 (pa_cons (pe_ix ix_tup (pv 0) (pe_int) (fun _ _ => rfl)) pa_nil)))))) (pss_nil))
    (pss_cons (ps_if (pt_cmpR op_eq (pv 1) (pe_str) (nomark _)) (pss_one (ps_ret (pe_and (pe_cmpR op_eq (pv 2) (pe_int) (nomark _)) (pe_and (pe_cal c_is_promise (hr.mono (by omega)) rfl pass0 (pa_cons (pe_ix ix_tup (pv 0) (pe_int) (fun _ _ => rfl)) pa_nil)) (pe_one (pe_cal c_is_whole_wnames (hr.mono (by omega)) rfl pass0 (pa_cons (pe_ix ix_tup (pv 0) (pe_int) (fun _ _ => rfl)) (pa_cons (pe_int) (pa_cons (pe_int) pa_nil))))))))) (pss_nil))
    (pss_cons (ps_if (PW.pt (pw_or (pt_cmpR op_ne (pv 1) (pe_str) (nomark _)) (pw_or1 (pt_cmpR op_ne (pv 2) (pe_int) (nomark _))))) (pss_one (ps_ret (pe_bl))) (pss_nil))
    (pss_one (ps_ret (pe_and (pe_cal c_is_question (hr.mono (by omega)) rfl pass0 (pa_cons (pe_ix ix_tup (pv 0) (pe_int) (fun _ _ => rfl)) pa_nil)) (pe_and (pe_callB call_isK rfl (by exact T.n_isinstance) (by decide +kernel) (pa_cons (pe_ix ix_tup (pv 0) (pe_int) (fun _ _ => rfl)) (pa_cons (pe_bltn (v := .ty "str") rfl (by exact T.n_str) (by decide +kernel) rfl) pa_nil))) (pe_one (pe_cal c_is_whole_wnames (hr.mono (by omega)) rfl pass0 (pa_cons (pe_ix ix_tup (pv 0) (pe_int) (fun _ _ => rfl)) (pa_cons (pe_int) (pa_cons (pe_int) pa_nil)))))))))))), ?_⟩
  obtain ⟨a, vs, rfl, ha, rs⟩ := r.tupv
  obtain ⟨v0, us0, rfl, r0, rs0⟩ := rs.consv
  obtain ⟨v1, us, rfl, r1, rs1⟩ := rs0.consv
  obtain rfl := r0.strv
  have lu := rs1.length
  have hd1 : AllS nearS d1 := hd.mem (by simp)
  refine ⟨_, rfl, a, _, _, _, rfl, rfl, SqT.of ha, at0, _, rfl, a, _, rfl, .inr (SqT.of ha), _, _, rfl, ?_⟩
  refine ⟨_, rfl, rfl, _, rfl, ?_⟩
  rw [dec_strV]
  cases hp : decide (w0 = Str.ofString "published") with
  | true =>
    have hp' : (isW w0 "published" || isW w0 "heard") = true := by unfold isW; rw [hp]; rfl
    refine iteT ?_
    refine ⟨_, rfl, rfl, _, rfl, ?_⟩
    rw [dec_intV, empty_of lu]
    rw [laterW_pub hp'] at q
    cases hE : ds.isEmpty with
    | true => rw [hE] at q; exact iteT ⟨_, rfl, a, _, _, _, rfl, rfl, SqT.of ha, at1, d1, v1, rfl, hd1, r1, q⟩
    | false => rw [hE] at q; exact iteF (q _ (Same.refl _))
  | false =>
    refine iteF ⟨_, rfl, rfl, _, rfl, ?_⟩
    rw [dec_strV]
    cases hh : decide (w0 = Str.ofString "heard") with
    | true =>
      have hp' : (isW w0 "published" || isW w0 "heard") = true := by unfold isW; rw [hp, hh]; rfl
      refine iteT ?_
      refine ⟨_, rfl, rfl, _, rfl, ?_⟩
      rw [dec_intV, empty_of lu]
      rw [laterW_pub hp'] at q
      cases hE : ds.isEmpty with
      | true => rw [hE] at q; exact iteT ⟨_, rfl, a, _, _, _, rfl, rfl, SqT.of ha, at1, d1, v1, rfl, hd1, r1, q⟩
      | false => rw [hE] at q; exact iteF (q _ (Same.refl _))
    | false =>
      have hp' : (isW w0 "published" || isW w0 "heard") = false := by unfold isW; rw [hp, hh]; rfl
      refine iteF ⟨_, rfl, rfl, _, rfl, ?_⟩
      rw [dec_strV]
      cases hg : decide (w0 = Str.ofString "given") with
      | true =>
        rw [laterW_given hp' hg] at q
        refine iteT ⟨_, rfl, rfl, _, rfl, ?_⟩
        rw [dec_intV]
        by_cases h1 : ds.length = 1
        · obtain ⟨d2, rfl⟩ := list_one h1
          obtain ⟨v2, us2, rfl, r2, rs2⟩ := rs1.consv
          have q' : ∀ H', Same H H' → Q (.bl (promiseB d1 && wholeB d2 0 999)) H' := q
          refine iteY (decide_eq_true (by rw [List.length_cons, List.length_cons, lu]; rfl)) ⟨_, rfl, a, _, _, _, rfl, rfl, SqT.of ha, at1, d1, v1, rfl, hd1, r1, fun H1 s1 => ⟨_, rfl, ?_⟩⟩
          cases hpr : promiseB d1 with
          | false => rw [hpr] at q'; exact iteF (q' _ s1)
          | true =>
            rw [hpr] at q'
            exact iteT ⟨_, rfl, a, _, _, _, rfl, rfl, SqT.of (s1 _ _ ha), at2, d2, v2, 0, 999, rfl, r2.mono (Same.tup s1), q' _ s1⟩
        · rw [givenW_no h1] at q
          exact iteN (decide_eq_false (by rw [List.length_cons, List.length_cons, lu]; omega)) (q _ (Same.refl _))
      | false =>
        rw [laterW_told hp' hg] at q
        refine iteF ⟨_, rfl, rfl, _, rfl, ?_⟩
        rw [dec_strV]
        cases ht : decide (w0 = Str.ofString "told") with
        | false =>
          rw [show isW w0 "told" = false from ht] at q
          exact iteY rfl (q _ (Same.refl _))
        | true =>
          rw [show isW w0 "told" = true from ht] at q
          refine iteN rfl ⟨_, rfl, rfl, _, rfl, ?_⟩
          rw [dec_intV]
          by_cases h2 : ds.length = 2
          · obtain ⟨d2, d3, rfl⟩ := list_two h2
            obtain ⟨v2, us2, rfl, r2, rs2⟩ := rs1.consv
            obtain ⟨v3, us3, rfl, r3, rs3⟩ := rs2.consv
            have q' : ∀ H', Same H H' → Q (.bl (questionB d1 && (strD d2 && wholeB d3 0 999))) H' := q
            refine iteN (by rw [decide_eq_true (by rw [List.length_cons, List.length_cons, lu]; rfl)]; rfl) ⟨_, rfl, a, _, _, _, rfl, rfl, SqT.of ha, at1, d1, v1, rfl, hd1, r1, fun H1 s1 => ⟨_, rfl, ?_⟩⟩
            cases hpr : questionB d1 with
            | false => rw [hpr] at q'; exact iteF (q' _ s1)
            | true =>
              rw [hpr] at q'
              have ha1 := s1 _ _ ha
              refine iteT ⟨_, rfl, a, _, _, _, rfl, rfl, SqT.of ha1, at2, _, _, _, _, rfl, (r2.mono (Same.tup s1)).kind, kd_str d2, _, rfl, ?_⟩
              cases hs : strD d2 with
              | false => rw [hs] at q'; exact iteF (q' _ s1)
              | true =>
                rw [hs] at q'
                exact iteT ⟨_, rfl, a, _, _, _, rfl, rfl, SqT.of ha1, at3, d3, v3, 0, 999, rfl, r3.mono (Same.tup s1), q' _ s1⟩
          · rw [toldW_no h2] at q
            exact iteY (by rw [decide_eq_false (by rw [List.length_cons, List.length_cons, lu]; omega)]; rfl) (q _ (Same.refl _))
/-! ### the chained sum -/
def wsum : Nat → List Nat → Nat
  | _, [] => 0
  | k, c :: r => (k + 1) * c + wsum (k + 1) r
theorem wsum_app : ∀ (l : List Nat) (k c : Nat), wsum k (l ++ [c]) = wsum k l + (k + l.length + 1) * c
  | [], k, c => by simp [wsum]
  | x :: l, k, c => by
    show (k + 1) * x + wsum (k + 1) (l ++ [c]) = (k + 1) * x + wsum (k + 1) l + _
    rw [wsum_app l (k + 1) c, List.length_cons, show k + 1 + l.length + 1 = k + (l.length + 1) + 1 by omega, ← Nat.add_assoc]
theorem acVal_cons (c : Int) (m : List Int) (i : Nat) : acVal (c :: m) (i + 1) = c + acVal m i := by
  unfold acVal
  rw [List.take_succ_cons, List.sum_cons]
theorem preSum_cons (c : Int) (m : List Int) : ∀ k : Nat, preSum (acVal (c :: m)) (k + 1) = c * ((k : Int) + 1) + preSum (acVal m) k
  | 0 => by
    show preSum _ 0 + acVal (c :: m) 0 = _
    simp [preSum, acVal]
  | k + 1 => by
    show preSum _ (k + 1) + acVal (c :: m) (k + 1) = c * ((k + 1 : Nat) + 1) + (preSum (acVal m) k + acVal m k)
    rw [preSum_cons c m k, acVal_cons]
    have : c * (((k + 1 : Nat) : Int) + 1) = c * ((k : Int) + 1) + c := by
      rw [show (((k + 1 : Nat) : Int) + 1) = ((k : Int) + 1) + 1 by omega, Int.mul_add, Int.mul_one]
    omega
theorem sum_back : ∀ l : List Nat, preSum (acVal (l.reverse.map fun c : Nat => (c : Int))) l.length = ((wsum 0 l : Nat) : Int) := fun l => by
  generalize hn : l.length = n
  induction n generalizing l with
  | zero =>
    obtain rfl := List.length_eq_zero_iff.mp hn
    rfl
  | succ n ih =>
    obtain ⟨l', c, rfl⟩ : ∃ l' c, l = l' ++ [c] := ⟨l.dropLast, l.getLast (by intro e; rw [e] at hn; simp at hn), (List.dropLast_concat_getLast _).symm⟩
    have hl : l'.length = n := by simpa using hn
    rw [List.reverse_append, List.reverse_singleton, List.singleton_append, List.map_cons, preSum_cons, ih l' hl, wsum_app, hl]
    have : ((0 + n + 1) * c : Nat) = (n + 1) * c := by rw [Nat.zero_add]
    rw [this]
    push_cast
    rw [Int.mul_comm (c : Int)]
    omega
def sumB (n b : Nat) (l : List Nat) : Nat := (b + n + wsum 0 l) % 99991
def spSum : Sp := fun vs H Q _ => ∃ (n b : Nat) (z : Str), vs = [.int ((n : Nat) : Int), .int ((b : Nat) : Int), .str z] ∧ (z.length ≤ 1000000 ∧ ∀ c ∈ tl z, 0 < c) ∧ ∀ H', Same H H' → Q (.int ((sumB n b (tl z) : Nat) : Int)) H'
theorem ok_sum (F : Fun K "sum_behind" "sum_behind" s_sum_behind f fd) (T : Txt0 mg) : FnOk P w K mg base CX0 1 f fd ["n", "before", "text"] spSum := by
  refine F.ok sc_sum_behind (fun vs H Q E h => ?_) (fun cdv A outer s H vs Q E hr h => ?_)
  · obtain ⟨n, b, z, rfl, _⟩ := h
    rfl
  obtain ⟨n, b, z, rfl, ⟨hz, hpos⟩, q⟩ := h
  refine ⟨_, pss_cons (ps_set (i := 3) sc_sum_behind.nd rfl (Or.inl rfl) (pe_listMapS rfl rfl T.n_list rfl T.n_map (pf_bltn rfl T.n_ord (by decide +kernel)) (pa_cons (pe_revS (pv 2)) pa_nil) mapV_ord))
    (pss_one (ps_ret (pe_op op_mod (pe_op op_add (pe_op op_add (pv 1) (pv 0)) (pe_sumAcc rfl rfl T.n_sum rfl T.g_accumulate (pa_cons (pv 3) pa_nil))) (pe_glob (v := .int 99991) rfl T.g_BY.choose_spec ⟨_, rfl⟩)))), ?_⟩
  have hL := len_tl z
  have er : tl (⟨((tl z).reverse).toArray⟩ : Str) = (tl z).reverse := rfl
  have lr : (⟨((tl z).reverse).toArray⟩ : Str).length ≤ sizeLine := by
    rw [len_tl, er, List.length_reverse]
    exact small16 (by omega)
  refine ⟨_, rfl, z, rfl, small16 (by omega), _, rfl, lr, fun c => ⟨c, rfl⟩, fun L hL0 => ?_⟩
  rw [er]
  have em : ((tl z).reverse.map fun c : Nat => V.int (ordV (.str ⟨#[c]⟩))) = ((tl z).reverse.map fun c : Nat => (c : Int)).map V.int := by
    rw [List.map_map]
    rfl
  have hS : (upd H L (.lst ((tl z).reverse.map fun c : Nat => V.int (ordV (.str ⟨#[c]⟩))))) L = some (.lst (((tl z).reverse.map fun c : Nat => (c : Int)).map V.int)) := by rw [upd_same, em]
  refine ⟨_, rfl, _, rfl, _, _, rfl, rfl, _, rfl, L, _, rfl, SqL.of hS, ?_, _, _, rfl, rfl, _, _, rfl, rfl, (show (0 : Int) < 99991 by decide), ?_⟩
  · intro x hx
    obtain ⟨c, hc, rfl⟩ := List.mem_map.mp hx
    have := hpos c (List.mem_reverse.mp hc)
    omega
  · have e : ((b : Int) + (n : Int) + preSum (acVal ((tl z).reverse.map fun c : Nat => (c : Int))) ((tl z).reverse.map fun c : Nat => (c : Int)).length) % 99991 = ((sumB n b (tl z) : Nat) : Int) := by
      rw [List.length_map, List.length_reverse, sum_back]
      unfold sumB
      omega
    have qq := q _ (same_new hL0 (.lst ((tl z).reverse.map fun c : Nat => V.int (ordV (.str ⟨#[c]⟩)))))
    rw [← e] at qq
    exact qq
/-! ### a line -/
def lineL (n b : Nat) (t : List Nat) : List Nat := numL n ++ 32 :: (numL b ++ 32 :: t)

def spLine (N : Nat) : Sp := fun vs H Q _ => ∃ (n b : Nat) (d : D) (v : V), vs = [.int ((n : Nat) : Int), .int ((b : Nat) : Int), v] ∧ (n ≤ 1000 ∧ d.deep < N ∧ d.show.length ≤ 1000000 ∧ d.Fit ∧ ∀ c ∈ d.show, 0 < c) ∧ Rp H d v ∧
  ∀ H', Same H H' → Q (.str (strOf (lineL n (sumB n b d.show) d.show ++ [10]))) H'
theorem sumB_lt (n b : Nat) (l : List Nat) : sumB n b l < 99991 := Nat.mod_lt _ (by decide)
theorem num_nat (n : Nat) : Str.ofString (toString ((n : Nat) : Int)) = strOf (numL n) := int_show n
theorem strOf_cat (a b : List Nat) : strOf a ++ strOf b = strOf (a ++ b) := ext_tl (by rw [tl_append]; rfl)
theorem ok_line {N : Nat} (F : Fun K "journal_line" "journal_line" s_journal_line f fd) (T : Txt0 mg) (c_show_plain : Cal P w K mg base CX0 (N + 1) "show_plain" ["value"] (spPl N)) (c_sum_behind : Cal P w K mg base CX0 1 "sum_behind" ["n", "before", "text"] spSum) : FnOk P w K mg base CX0 (N + 2) f fd ["n", "before", "entry"] (spLine N) := by
  refine F.ok sc_journal_line (fun vs H Q E h => ?_) (fun cdv A outer s H vs Q E hr h => ?_)
  · obtain ⟨n, b, d, v, rfl, _⟩ := h
    rfl
  obtain ⟨n, b, d, v, rfl, ⟨hn, hd, hz, hf, hpos⟩, r, q⟩ := h
  refine ⟨_, pss_cons (ps_set (i := 3) sc_journal_line.nd rfl (Or.inl rfl) (pe_cal c_show_plain (hr.mono (by omega)) rfl pass0 (pa_cons (pv 2) pa_nil)))
    (pss_one (ps_ret (pe_joined (PJ.cons (pe_fmt (pv 0)) (PJ.cons (pe_str) (PJ.cons (pe_fmt (pe_cal c_sum_behind (hr.mono (by omega)) rfl pass0 (pa_cons (pv 0) (pa_cons (pv 1) (pa_cons (pv 3) pa_nil))))) (PJ.cons (pe_str) (PJ.cons (pe_fmt (pv 3)) (PJ.cons (pe_str) (PJ.nil)))))))))), ?_⟩
  refine ⟨_, rfl, d, v, rfl, ⟨hd, hz, hf⟩, r, fun H1 s1 => ?_⟩
  have ls : (showS d).length = d.show.length := len_strOf _
  have lb := sumB_lt n b d.show
  have l1 : (numL n).length ≤ 4 := numL_len (by decide) (by omega)
  have l2 : (numL (sumB n b d.show)).length ≤ 5 := numL_len (by decide) (by omega)
  have e0 : Str.empty = strOf [] := rfl
  have e1 : Str.empty ++ Str.ofString (toString ((n : Nat) : Int)) = strOf (numL n) := by rw [e0, num_nat, strOf_cat]; rfl
  have e2 : Str.empty ++ Str.ofString (toString ((n : Nat) : Int)) ++ Str.ofString " " = strOf (numL n ++ [32]) := by rw [e1, e_blank, strOf_cat]
  have e3 : Str.empty ++ Str.ofString (toString ((n : Nat) : Int)) ++ Str.ofString " " ++ Str.ofString (toString ((sumB n b (tl (showS d)) : Nat) : Int)) = strOf (numL n ++ [32] ++ numL (sumB n b d.show)) := by rw [e2, num_nat, tl_showS, strOf_cat]
  have e4 : Str.empty ++ Str.ofString (toString ((n : Nat) : Int)) ++ Str.ofString " " ++ Str.ofString (toString ((sumB n b (tl (showS d)) : Nat) : Int)) ++ Str.ofString " " = strOf (numL n ++ [32] ++ numL (sumB n b d.show) ++ [32]) := by rw [e3, e_blank, strOf_cat]
  have eS : showS d = strOf d.show := rfl
  have e10' : Str.ofString "\n" = strOf [10] := lit _ _
  refine ⟨_, rfl, .inr ⟨_, rfl, log_place (by omega), _, rfl, ?_, _, rfl, ?_, _, rfl, _, rfl, _, rfl, n, b, showS d, rfl, ⟨by omega, hpos⟩, fun H2 s2 => .inr ⟨_, rfl, log_place (by rw [tl_showS]; omega), _, rfl, ?_, _, rfl, ?_, ?_⟩⟩⟩
  · rw [e1, len_strOf]
    exact small16 (by omega)
  · rw [e2, len_strOf, List.length_append]
    exact small16 (by simp; omega)
  · rw [e3, len_strOf]
    simp only [List.length_append, List.length_cons, List.length_nil]
    exact small16 (by omega)
  · rw [e4, len_strOf]
    simp only [List.length_append, List.length_cons, List.length_nil]
    exact small16 (by omega)
  · rw [e4]
    refine ⟨_, rfl, .inl ⟨_, rfl, small16 (by omega), _, rfl, ?_, _, rfl, ?_, ?_⟩⟩
    · rw [eS, strOf_cat, len_strOf]
      simp only [List.length_append, List.length_cons, List.length_nil]
      exact small16 (by omega)
    · rw [eS, e10', strOf_cat, strOf_cat, len_strOf]
      simp only [List.length_append, List.length_cons, List.length_nil]
      exact small16 (by omega)
    · rw [eS, e10', strOf_cat, strOf_cat]
      have el : numL n ++ [32] ++ numL (sumB n b d.show) ++ [32] ++ d.show ++ [10] = lineL n (sumB n b d.show) d.show ++ [10] := by
        unfold lineL
        simp
      rw [el]
      exact q _ (s1.trans s2)
end
end Tst
namespace Tst
open PySem PySem.Spec PyProof.Rows L2 TL
section
variable {P : Program} {w : World} {K : PySem.W.Frag} {mg : Str → Option Value} {base : Heap} {f : Addr} {fd : FuncData}
/-! ### names of the language -/
def nameZ (z : Str) : Bool := Txt.isascii z && (Txt.isalnum z && (decide (z = Txt.lower z) && match tl z with | [] => false | c :: _ => !Txt.isdigit ⟨#[c]⟩))
def nameVB : D → Bool | .str z => decide (1 ≤ z.length) && (decide (z.length ≤ 12) && nameZ z) | _ => false
def spNameV : Sp := fun vs H Q _ => ∃ (d : D) (v : V), vs = [v] ∧ small d ∧ Rp H d v ∧ Q (.bl (nameVB d)) H
theorem ok_name_v (F : Fun K "is_name" "is_name" s_is_name_vforms f fd) (T : Txt0 mg) : FnOk P w K mg base CX0 1 f fd ["thing"] spNameV := by
  refine F.ok sc_is_name_vforms (fun vs H Q E h => ?_) (fun cdv A outer s H vs Q E hr h => ?_)
  · obtain ⟨d, v, rfl, _⟩ := h
    rfl
  obtain ⟨d, v, rfl, hz, r, q⟩ := h
  refine ⟨_, pss_cons (ps_if (PW.pt (pw_or (pt_not (pt_val (pe_callB call_isK rfl (by exact T.n_isinstance) (by decide +kernel) (pa_cons (pv 0) (pa_cons (pe_bltn (v := .ty "str") rfl (by exact T.n_str) (by decide +kernel) rfl) pa_nil))))) (pw_or (pt_not (pt_chain op_le op_le (pe_int) (pe_callB call_len_str rfl (by exact T.n_len) PySem.boot_len (pa_cons (pv 0) pa_nil)) (pe_int))) (pw_or1 (pt_not (pt_val (pe_bm0 PySem.F.plainAttrs_str PySem.F.slot_str_isascii PySem.F.type_str_isascii mt_isascii (pv 0)))))))) (pss_one (ps_ret (pe_bl))) (pss_nil))
    (pss_cons (ps_if (PW.pt (pw_or (pt_not (pt_val (pe_bm0 PySem.F.plainAttrs_str PySem.F.slot_str_isalnum PySem.F.type_str_isalnum mt_isalnum (pv 0)))) (pw_or1 (pt_cmpR op_ne (pv 0) (pe_lower (pv 0)) (nomark _))))) (pss_one (ps_ret (pe_bl))) (pss_nil))
    (pss_one (ps_ret (pe_not (pe_bm0 PySem.F.plainAttrs_str PySem.F.slot_str_isdigit PySem.F.type_str_isdigit mt_isdigit (pe_ix ix_str (pv 0) (pe_int) (fun _ _ => rfl))))))), ?_⟩
  refine ⟨_, rfl, _, _, _, _, rfl, r.kind, kd_str d, _, rfl, ?_⟩
  cases d with
  | str z =>
    obtain rfl := r.strv
    have hz := hz z rfl
    have hL := len_tl z
    have q' : Q (.bl (decide (1 ≤ z.length) && (decide (z.length ≤ 12) && nameZ z))) H := q
    refine iteN rfl ⟨_, rfl, z, rfl, small16 (by omega), _, _, rfl, rfl, _, rfl, ?_⟩
    by_cases h1 : 1 ≤ z.length
    case neg =>
      rw [decide_eq_false h1] at q'
      exact iteN (decide_eq_false (by omega)) ⟨_, rfl, iteY rfl q'⟩
    refine iteY (decide_eq_true (by omega)) ⟨_, _, rfl, rfl, _, rfl, ?_⟩
    by_cases h2 : z.length ≤ 12
    case neg =>
      have e : (decide (1 ≤ z.length) && (decide (z.length ≤ 12) && nameZ z)) = false := by rw [decide_eq_false h2]; simp
      rw [e] at q'
      exact iteY (by rw [decide_eq_false (show ¬ ((z.length : Nat) : Int) ≤ 12 by omega)]; rfl) q'
    rw [decide_eq_true h1, decide_eq_true h2] at q'
    refine iteN (by rw [decide_eq_true (show ((z.length : Nat) : Int) ≤ 12 by omega)]; rfl) ⟨_, rfl, rfl, z, rfl, rfl, trivial, _, rfl, ?_⟩
    have q2 : Q (.bl (Txt.isascii z && (Txt.isalnum z && (decide (z = Txt.lower z) && match tl z with | [] => false | c :: _ => !Txt.isdigit ⟨#[c]⟩)))) H := q'
    cases ha : Txt.isascii z with
    | false => rw [ha] at q2; exact iteY rfl q2
    | true =>
    rw [ha] at q2
    refine iteN rfl ⟨_, rfl, rfl, z, rfl, rfl, trivial, _, rfl, ?_⟩
    cases hb : Txt.isalnum z with
    | false => rw [hb] at q2; exact iteY rfl q2
    | true =>
    rw [hb] at q2
    refine iteN rfl ⟨_, rfl, _, rfl, ⟨z, rfl⟩, z, rfl, rfl, by omega, rfl, _, rfl, ?_⟩
    rw [dec_strV]
    by_cases hl : z = Txt.lower z
    case neg =>
      rw [decide_eq_false hl] at q2 ⊢
      exact iteY rfl q2
    rw [decide_eq_true hl] at q2 ⊢
    obtain ⟨c, l, el⟩ : ∃ c l, tl z = c :: l := by
      cases e : tl z with
      | nil => rw [hL, e] at h1; simp at h1
      | cons c l => exact ⟨c, l, rfl⟩
    have g0 : atI z.cps.toList 0 = some c := by
      have := atI_nat (xs := z.cps.toList) (j := 0) (v := c) (by show (tl z)[0]? = _; rw [el]; rfl)
      exact this
    rw [el] at q2
    exact iteN rfl ⟨_, rfl, z, _, c, rfl, rfl, small16 (by omega), g0, rfl, _, rfl, rfl, trivial, _, rfl, q2⟩
  | _ => exact iteY rfl q

/-! ### fractions -/
def ratioB : D → Bool | .tup [.int a, .int b] => decide (1 ≤ b) && decide (Nat.gcd a.natAbs b.natAbs = 1) | _ => false
def spRatio : Sp := fun vs H Q _ => ∃ (d : D) (v : V), vs = [v] ∧ Rp H d v ∧ ∀ H', Same H H' → Q (.bl (ratioB d)) H'
theorem ratioB_len : ∀ {xs : List D}, xs.length ≠ 2 → ratioB (.tup xs) = false
  | [], _ => rfl
  | [d], _ => by cases d <;> rfl
  | [_, _], h => absurd rfl h
  | d :: e :: _ :: _, _ => by cases d <;> first | rfl | (cases e <;> rfl)
theorem ratioB_int {d e : D} (h : (intB d && intB e) = false) : ratioB (.tup [d, e]) = false := by
  cases d <;> first | rfl | (cases e <;> first | rfl | cases h)
theorem int_of {d : D} (h : intB d = true) : ∃ i, d = .int i := by
  cases d with
  | int i => exact ⟨i, rfl⟩
  | _ => cases h
theorem ok_ratio (F : Fun K "is_ratio" "is_ratio" s_is_ratio f fd) (T : Txt0 mg) (c_is_integer : Cal P w K mg base CX0 1 "is_integer" ["thing"] spIsInt) : FnOk P w K mg base CX0 2 f fd ["thing"] spRatio := by
  refine F.ok sc_is_ratio (fun vs H Q E h => ?_) (fun cdv A outer s H vs Q E hr h => ?_)
  · obtain ⟨d, v, rfl, _⟩ := h
    rfl
  obtain ⟨d, v, rfl, r, q⟩ := h
  refine ⟨_, pss_cons (ps_if (PW.pt (pw_or (pt_not (pt_val (pe_callB call_isK rfl (by exact T.n_isinstance) (by decide +kernel) (pa_cons (pv 0) (pa_cons (pe_bltn (v := .ty "tuple") rfl (by exact T.n_tuple) (by decide +kernel) rfl) pa_nil))))) (pw_or (pt_cmpR op_ne (pe_callB call_len_seq rfl (by exact T.n_len) PySem.boot_len (pa_cons (pv 0) pa_nil)) (pe_int) (nomark _)) (pw_or1 (pt_not (pt_val (pe_callB (cr_all rfl) rfl (by exact T.n_all) (by decide +kernel) (pa_cons (pe_lc (own := [("one", 1)]) (g := gName 1) rfl sc_is_ratio.nd (pi_tup (pv 0)) (blkOk_by (own := [("one", 1)]) (N := ["thing", "one"]) (sc := defScope s_is_ratio) (by decide +kernel)) (fun _ _ _ _ _ => pg_name (i := 1) sc_is_ratio.nd rfl (Or.inl rfl)) (fun _ _ _ _ _ => pts_nil) (fun _ _ _ _ _ => pe_cal c_is_integer (hr.mono (by omega)) rfl pass0 (pa_cons (pv 1) pa_nil))) pa_nil)))))))) (pss_one (ps_ret (pe_bl))) (pss_nil))
    (pss_one (ps_ret (pe_and (pe_cmpR op_ge (pe_ix ix_tup (pv 0) (pe_int) (fun _ _ => rfl)) (pe_int) (nomark _)) (pe_one (pe_cmpR op_eq (pe_callBfun cr_gcd rfl T.g_gcd (pa_cons (pe_ix ix_tup (pv 0) (pe_int) (fun _ _ => rfl)) (pa_cons (pe_ix ix_tup (pv 0) (pe_int) (fun _ _ => rfl)) pa_nil))) (pe_int) (nomark _)))))), ?_⟩
  refine ⟨_, rfl, _, _, _, _, rfl, r.kind, kd_tup d, _, rfl, ?_⟩
  cases d with
  | tup xs =>
    obtain ⟨a, vs, rfl, ha, rs⟩ := r.tupv
    have lv := rs.length
    refine iteN rfl ⟨_, rfl, a, _, rfl, .inr (SqT.of ha), rfl, _, rfl, ?_⟩
    rw [dec_intV]
    by_cases h2 : xs.length = 2
    case neg =>
      rw [ratioB_len h2] at q
      exact iteY (by rw [decide_eq_false (by omega)]; rfl) (q _ (Same.refl _))
    refine iteN (by rw [decide_eq_true (by omega)]; rfl) ?_
    obtain ⟨d0, d1, rfl⟩ := list_two h2
    obtain ⟨v0, us0, rfl, r0, rs0⟩ := rs.consv
    obtain ⟨v1, us1, rfl, r1, rs1⟩ := rs0.consv
    obtain rfl := rs1.nilv
    refine ⟨_, rfl, a, rfl, ⟨_, SqT.of ha⟩, fun L hL => lc_tup (K := K) (a := a) (xs := [v0, v1]) (fun i H' => H' L = some (.lst ((([d0, d1] : List D).take i).map fun d => V.bl (intB d))) ∧ Kept L H H') ⟨by rw [upd_same]; rfl, Kept.upd⟩
      (fun i H' _ p => SqT.of (p.2 a _ (ne_of_none ha hL) ha)) ?_ ?_⟩
    · rintro i x H' hx ⟨w1, w2⟩
      have hi : i < 2 := (List.getElem?_eq_some_iff.mp hx).1
      obtain ⟨d, g1, g2⟩ := rs.get hx
      have hS : Same H H' := fun b o e => w2 b o (ne_of_none e hL) e
      refine ⟨rfl, _, rfl, d, x, rfl, g2.mono (Same.tup hS), _, w1, ?_, ?_, w2.trans Kept.upd⟩
      · rw [List.length_map, List.length_take]
        exact small_of (by simp; omega)
      · rw [upd_same, List.take_add_one, g1, List.map_append]
        rfl
    · rintro H' ⟨w1, w2⟩
      have hS : Same H H' := fun b o e => w2 b o (ne_of_none e hL) e
      have ha' := hS _ _ ha
      refine ⟨L, [intB d0, intB d1], rfl, SqL.of w1, _, rfl, ?_⟩
      cases hi : (intB d0 && intB d1) with
      | false =>
        rw [ratioB_int hi] at q
        exact iteY (by simp [List.all_cons]; revert hi; cases intB d0 <;> cases intB d1 <;> simp) (q _ hS)
      | true =>
        simp only [Bool.and_eq_true] at hi
        obtain ⟨i0, rfl⟩ := int_of hi.1
        obtain ⟨i1, rfl⟩ := int_of hi.2
        obtain rfl := r0.intv
        obtain rfl := r1.intv
        refine iteN rfl ⟨_, rfl, a, _, _, _, rfl, rfl, SqT.of ha', at1, _, _, rfl, rfl, _, rfl, ?_⟩
        have q' : Q (.bl (decide (1 ≤ i1) && decide (Nat.gcd i0.natAbs i1.natAbs = 1))) H' := q _ hS
        by_cases h1 : 1 ≤ i1
        · rw [decide_eq_true h1] at q'
          refine iteY (decide_eq_true h1) ⟨_, rfl, a, _, _, _, rfl, rfl, SqT.of ha', at0, _, rfl, a, _, _, _, rfl, rfl, SqT.of ha', at1, i0, i1, rfl, rfl, ?_⟩
          rw [dec_intV]
          have e : decide (((Nat.gcd i0.natAbs i1.natAbs : Nat) : Int) = 1) = decide (Nat.gcd i0.natAbs i1.natAbs = 1) := by
            congr 1
            exact propext ⟨fun h => by omega, fun h => by omega⟩
          rw [e]
          exact q'
        · rw [decide_eq_false h1] at q'
          exact iteN (decide_eq_false h1) q'
  | _ => exact iteY rfl (q _ (Same.refl _))
def typedB : D → Bool | .tup [.int a, .int b] => ratioB (.tup [.int a, .int b]) && (decide ((if a < 0 then -a else a) ≤ 1000000) && decide (b ≤ 1000)) | _ => false
def spTyped : Sp := fun vs H Q _ => ∃ (d : D) (v : V), vs = [v] ∧ Rp H d v ∧ ∀ H', Same H H' → Q (.bl (typedB d)) H'
theorem ratio_of {d : D} (h : ratioB d = true) : ∃ a b, d = .tup [.int a, .int b] := by
  unfold ratioB at h
  split at h
  · exact ⟨_, _, rfl⟩
  · cases h
theorem typed_no {d : D} (h : ratioB d = false) : typedB d = false := by
  unfold typedB
  split
  · rw [h]; rfl
  · rfl
theorem ok_typed (F : Fun K "is_typed" "is_typed" s_is_typed f fd) (T : Txt0 mg) (c_is_ratio : Cal P w K mg base CX0 2 "is_ratio" ["thing"] spRatio) : FnOk P w K mg base CX0 3 f fd ["thing"] spTyped := by
  refine F.ok sc_is_typed (fun vs H Q E h => ?_) (fun cdv A outer s H vs Q E hr h => ?_)
  · obtain ⟨d, v, rfl, _⟩ := h
    rfl
  obtain ⟨d, v, rfl, r, q⟩ := h
  refine ⟨_, pss_one (ps_ret (pe_and (pe_cal c_is_ratio (hr.mono (by omega)) rfl pass0 (pa_cons (pv 0) pa_nil)) (pe_and (pe_cmpR op_le (pe_callB call_abs rfl (by exact T.n_abs) (by decide +kernel) (pa_cons (pe_ix ix_tup (pv 0) (pe_int) (fun _ _ => rfl)) pa_nil)) (pe_glob (v := .int 1000000) rfl T.g_MOST_ABOVE.choose_spec ⟨_, rfl⟩) (nomark _)) (pe_one (pe_cmpR op_le (pe_ix ix_tup (pv 0) (pe_int) (fun _ _ => rfl)) (pe_glob (v := .int 1000) rfl T.g_MOST_BELOW.choose_spec ⟨_, rfl⟩) (nomark _)))))), ?_⟩
  refine ⟨_, rfl, d, v, rfl, r, fun H1 s1 => ⟨_, rfl, ?_⟩⟩
  cases hb : ratioB d with
  | false => rw [typed_no hb] at q; exact iteF (q _ s1)
  | true =>
    obtain ⟨i, j, rfl⟩ := ratio_of hb
    obtain ⟨a, vs, rfl, ha, rs⟩ := r.tupv
    obtain ⟨v0, us0, rfl, r0, rs0⟩ := rs.consv
    obtain ⟨v1, us1, rfl, r1, rs1⟩ := rs0.consv
    obtain rfl := rs1.nilv
    obtain rfl := r0.intv
    obtain rfl := r1.intv
    have ha' := s1 _ _ ha
    have q' : Q (.bl (ratioB (.tup [.int i, .int j]) && (decide ((if i < 0 then -i else i) ≤ 1000000) && decide (j ≤ 1000)))) H1 := q _ s1
    rw [hb] at q'
    refine iteT ⟨_, rfl, a, _, _, _, rfl, rfl, SqT.of ha', at0, i, rfl, _, _, rfl, rfl, _, rfl, ?_⟩
    cases hc : decide ((if i < 0 then -i else i) ≤ 1000000) with
    | false => rw [hc] at q'; exact iteF q'
    | true => rw [hc] at q'; exact iteT ⟨_, rfl, a, _, _, _, rfl, rfl, SqT.of ha', at1, _, _, rfl, rfl, q'⟩

/-! ### leaves -/
theorem form2 (g z : Str) (x : D) : formB (.tup [.str g, x]) z 2 = decide (g = z) := by
  show (decide (((1 + 1 : Nat) : Int) = 2) && decide (g = z)) = _
  rw [decide_eq_true (by decide)]
  rfl
theorem form3 (g z : Str) (x : D) : formB (.tup [.str g, x]) z 3 = false := by
  show (decide (((1 + 1 : Nat) : Int) = 3) && decide (g = z)) = _
  rw [decide_eq_false (by decide)]
  rfl
def leafB (g : Str) (x : D) : Bool := if decide (g = Str.ofString "name") = true then nameVB x else (decide (g = Str.ofString "geometric") && typedB x)
def spLeaf : Sp := fun vs H Q _ => ∃ (g : Str) (x : D) (v : V), vs = [v] ∧ (g ≠ Str.ofString "poly" ∧ small x) ∧ Rp H (.tup [.str g, x]) v ∧ ∀ H', Same H H' → Q (.bl (leafB g x)) H'
theorem ok_leaf (F : Fun K "is_leaf" "is_leaf" s_is_leaf f fd) (T : Txt0 mg) (c_is_paper : Cal P w K mg base CX0 1 "is_paper" ["thing", "word", "width"] spForm) (c_is_name_vforms : Cal P w K mg base CX0 1 "is_name_vforms" ["thing"] spNameV)
    (c_is_typed : Cal P w K mg base CX0 3 "is_typed" ["thing"] spTyped) (c_is_typed_poly : Cal P w K mg base CX0 1 "is_typed_poly" ["thing"] spNever) (c_is_typed_sequence : Cal P w K mg base CX0 1 "is_typed_sequence" ["thing"] spNever) : FnOk P w K mg base CX0 4 f fd ["thing"] spLeaf := by
  refine F.ok sc_is_leaf (fun vs H Q E h => ?_) (fun cdv A outer s H vs Q E hr h => ?_)
  · obtain ⟨g, x, v, rfl, _⟩ := h
    rfl
  obtain ⟨g, x, v, rfl, ⟨hg, hx⟩, r, q⟩ := h
  refine ⟨_, pss_cons (ps_if (pt_val (pe_cal c_is_paper (hr.mono (by omega)) rfl pass0 (pa_cons (pv 0) (pa_cons (pe_str) (pa_cons (pe_int) pa_nil))))) (pss_one (ps_ret (pe_cal c_is_name_vforms (hr.mono (by omega)) rfl pass0 (pa_cons (pe_ix ix_tup (pv 0) (pe_int) (fun _ _ => rfl)) pa_nil)))) (pss_nil))
    (pss_cons (ps_if (pt_val (pe_cal c_is_paper (hr.mono (by omega)) rfl pass0 (pa_cons (pv 0) (pa_cons (pe_str) (pa_cons (pe_int) pa_nil))))) (pss_one (ps_ret (pe_cal c_is_typed_poly (hr.mono (by omega)) rfl pass0 (pa_cons (pe_ix ix_tup (pv 0) (pe_int) (fun _ _ => rfl)) pa_nil)))) (pss_nil))
    (pss_cons (ps_if (pt_val (pe_cal c_is_paper (hr.mono (by omega)) rfl pass0 (pa_cons (pv 0) (pa_cons (pe_str) (pa_cons (pe_int) pa_nil))))) (pss_one (ps_ret (pe_cal c_is_typed (hr.mono (by omega)) rfl pass0 (pa_cons (pe_ix ix_tup (pv 0) (pe_int) (fun _ _ => rfl)) pa_nil)))) (pss_nil))
    (pss_one (ps_ret (pe_and (pe_cal c_is_paper (hr.mono (by omega)) rfl pass0 (pa_cons (pv 0) (pa_cons (pe_str) (pa_cons (pe_int) pa_nil)))) (pe_one (pe_cal c_is_typed_sequence (hr.mono (by omega)) rfl pass0 (pa_cons (pv 0) pa_nil)))))))), ?_⟩
  obtain ⟨a, vs, rfl, ha, rs⟩ := r.tupv
  obtain ⟨v0, us0, rfl, r0, rs0⟩ := rs.consv
  obtain ⟨v1, us1, rfl, r1, rs1⟩ := rs0.consv
  obtain rfl := rs1.nilv
  obtain rfl := r0.strv
  refine ⟨_, rfl, _, .ref a, _, 2, rfl, by decide, r, _, rfl, ?_⟩
  rw [form2]
  have q' : Q (.bl (if decide (g = Str.ofString "name") = true then nameVB x else (decide (g = Str.ofString "geometric") && typedB x))) H := q _ (Same.refl _)
  cases h1 : decide (g = Str.ofString "name") with
  | true =>
    rw [h1, if_pos rfl] at q'
    exact iteT ⟨_, rfl, a, _, _, _, rfl, rfl, SqT.of ha, at1, x, v1, rfl, hx, r1, q'⟩
  | false =>
    refine iteF ⟨_, rfl, _, .ref a, _, 2, rfl, by decide, r, _, rfl, ?_⟩
    rw [form2]
    refine iteN (decide_eq_false hg) ⟨_, rfl, _, .ref a, _, 2, rfl, by decide, r, _, rfl, ?_⟩
    rw [form2]
    have e : leafB g x = (decide (g = Str.ofString "geometric") && typedB x) := by unfold leafB; rw [h1]; rfl
    rw [e] at q
    cases h2 : decide (g = Str.ofString "geometric") with
    | true =>
      rw [h2] at q
      exact iteT ⟨_, rfl, a, _, _, _, rfl, rfl, SqT.of ha, at1, x, v1, rfl, r1, q⟩
    | false =>
      rw [h2] at q
      refine iteF ⟨_, rfl, _, .ref a, _, 3, rfl, by decide, r, _, rfl, ?_⟩
      rw [form3]
      exact iteF (q _ (Same.refl _))
end
end Tst
namespace Tst
open PySem PySem.Spec PyProof.Rows L2 TL
section
variable {P : Program} {w : World} {K : PySem.W.Frag} {mg : Str → Option Value} {base : Heap} {f : Addr} {fd : FuncData}
/-! ### the first line's entry -/
def BookOk (sp : Sp) (d : D) : Prop := True
/-! ### members: of a leaf none, of anything else here nothing is told -/
def pairWords : List Str := [Str.ofString "poly", Str.ofString "sum", Str.ofString "steps", Str.ofString "mix"]
def spMembers : Sp := fun vs H Q _ => ∃ (g : Str) (x : D) (v : V), vs = [v] ∧ (g ∉ pairWords ∧ small x) ∧ Rp H (.tup [.str g, x]) v ∧
  (leafB g x = true → ∀ (t : Addr) (H' : Hp), Same H H' → H' t = some (.tup []) → Q (.ref t) H') ∧ (leafB g x = false → ∀ H', Same H H' → Q .non H')
theorem ok_members {aP aO aS : Addr} (F : Fun K "members_of" "members_of" s_members_of f fd) (T : Txt0 mg) (U : Txt1 K mg aP aO aS) (c_is_leaf : Cal P w K mg base CX0 4 "is_leaf" ["thing"] spLeaf) (c_is_paper : Cal P w K mg base CX0 1 "is_paper" ["thing", "word", "width"] spForm)
    (c_is_integer : Cal P w K mg base CX0 1 "is_integer" ["thing"] spIsInt) : FnOk P w K mg base CX0 5 f fd ["thing"] spMembers := by
  refine F.ok sc_members_of (fun vs H Q E h => ?_) (fun cdv A outer s H vs Q E hr h => ?_)
  · obtain ⟨g, x, v, rfl, _⟩ := h
    rfl
  obtain ⟨g, x, v, rfl, ⟨hg, hx⟩, r, q1, q2⟩ := h
  refine ⟨_, pss_cons (ps_if (pt_val (pe_cal c_is_leaf (hr.mono (by omega)) rfl pass0 (pa_cons (pv 0) pa_nil))) (pss_one (ps_ret (pe_tup (pa_nil)))) (pss_nil))
    (pss_cons (ps_if (pt_val (pe_callB (cr_any rfl) rfl (by exact T.n_any) (by decide +kernel) (pa_cons (pe_lc (own := [("word", 1)]) (g := gName 1) rfl sc_members_of.nd (pi_ktop U.k_SIGNS_language (pe_glob (v := .ref aS) rfl U.g_SIGNS_language rfl)) (blkOk_by (own := [("word", 1)]) (N := ["thing", "word"]) (sc := defScope s_members_of) (by decide +kernel)) (fun _ _ _ _ _ => pg_name (i := 1) sc_members_of.nd rfl (Or.inl rfl)) (fun _ _ _ _ _ => pts_nil) (fun _ _ _ _ _ => pe_cal c_is_paper (hr.mono (by omega)) rfl pass0 (pa_cons (pv 0) (pa_cons (pv 1) (pa_cons (pe_int) pa_nil))))) pa_nil))) (pss_one (ps_ret (pe_slice sl_tup (pv 0) (po_some (pe_int)) (po_none)))) (pss_nil))
    (pss_cons (ps_if (PW.pt (pw_or (pt_val (pe_cal c_is_paper (hr.mono (by omega)) rfl pass0 (pa_cons (pv 0) (pa_cons (pe_str) (pa_cons (pe_int) pa_nil))))) (pw_or1 (pt_val (pe_cal c_is_paper (hr.mono (by omega)) rfl pass0 (pa_cons (pv 0) (pa_cons (pe_str) (pa_cons (pe_int) pa_nil)))))))) (pss_one (ps_ret (pe_slice sl_tup (pv 0) (po_some (pe_int)) (po_none)))) (pss_nil))
    (pss_cons (ps_if (pt_val (pe_cal c_is_paper (hr.mono (by omega)) rfl pass0 (pa_cons (pv 0) (pa_cons (pe_str) (pa_cons (pe_int) pa_nil))))) (pss_one (ps_ret (pe_ifExp (PW.pt (pw_and (pt_val (pe_cal c_is_integer (hr.mono (by omega)) rfl pass0 (pa_cons (pe_ix ix_tup (pv 0) (pe_int) (fun _ _ => rfl)) pa_nil))) (pw_and1 (pt_chain op_le op_le (pe_int) (pe_ix ix_tup (pv 0) (pe_int) (fun _ _ => rfl)) (pe_glob (v := .int 20) rfl T.g_MOST_SHIFT.choose_spec ⟨_, rfl⟩))))) (pe_slice sl_tup (pv 0) (po_some (pe_int)) (po_some (pe_int))) (pe_non)))) (pss_nil))
    (pss_cons (ps_if (pt_val (pe_cal c_is_paper (hr.mono (by omega)) rfl pass0 (pa_cons (pv 0) (pa_cons (pe_str) (pa_cons (pe_int) pa_nil))))) (pss_cons (ps_if (PW.pt (pw_or (pt_not (pt_val (pe_cal c_is_integer (hr.mono (by omega)) rfl pass0 (pa_cons (pe_ix ix_tup (pv 0) (pe_int) (fun _ _ => rfl)) pa_nil)))) (pw_or1 (pt_not (pt_val (pe_cal c_is_integer (hr.mono (by omega)) rfl pass0 (pa_cons (pe_ix ix_tup (pv 0) (pe_int) (fun _ _ => rfl)) pa_nil))))))) (pss_one (ps_ret (pe_non))) (pss_nil))
    (pss_one (ps_ret (pe_ifExp (PW.pt (pw_and (pt_chain op_le op_le (pe_int) (pe_ix ix_tup (pv 0) (pe_int) (fun _ _ => rfl)) (pe_glob (v := .int 4) rfl T.g_MOST_EVERY.choose_spec ⟨_, rfl⟩)) (pw_and1 (pt_chain op_le op_le (pe_int) (pe_ix ix_tup (pv 0) (pe_int) (fun _ _ => rfl)) (pe_glob (v := .int 10) rfl T.g_MOST_FROM.choose_spec ⟨_, rfl⟩))))) (pe_slice sl_tup (pv 0) (po_some (pe_int)) (po_some (pe_int))) (pe_non))))) (pss_nil))
    (pss_cons (ps_if (PW.pt (pw_and (pt_val (pe_cal c_is_paper (hr.mono (by omega)) rfl pass0 (pa_cons (pv 0) (pa_cons (pe_str) (pa_cons (pe_int) pa_nil))))) (pw_and (pt_val (pe_callB call_isK rfl (by exact T.n_isinstance) (by decide +kernel) (pa_cons (pe_ix ix_tup (pv 0) (pe_int) (fun _ _ => rfl)) (pa_cons (pe_bltn (v := .ty "tuple") rfl (by exact T.n_tuple) (by decide +kernel) rfl) pa_nil)))) (pw_and1 (pt_chain op_le op_le (pe_int) (pe_callB call_len_seq rfl (by exact T.n_len) PySem.boot_len (pa_cons (pe_ix ix_tup (pv 0) (pe_int) (fun _ _ => rfl)) pa_nil)) (pe_glob (v := .int 3) rfl T.g_MOST_MIXED.choose_spec ⟨_, rfl⟩)))))) (pss_one (ps_ret (pe_ix ix_tup (pv 0) (pe_int) (fun _ _ => rfl)))) (pss_nil))
    (pss_one (ps_ret (pe_non)))))))), ?_⟩
  have hp : ∀ z, z ∈ pairWords → decide (g = z) = false := fun z hz => decide_eq_false fun e => hg (by rw [e]; exact hz)
  have f4 : ∀ z, formB (.tup [.str g, x]) z 4 = false := fun z => by
    show (decide (((1 + 1 : Nat) : Int) = 4) && decide (g = z)) = _
    rw [decide_eq_false (by decide)]
    rfl
  refine ⟨_, rfl, g, x, v, rfl, ⟨fun e => hg (by rw [e]; decide +kernel), hx⟩, r, fun H1 s1 => ⟨_, rfl, ?_⟩⟩
  cases hb : leafB g x with
  | true => exact iteT ⟨(by show 0 ≤ sizeLine; decide), fun u hu => q1 hb u _ (s1.trans (same_new hu _)) upd_same⟩
  | false =>
    refine iteF ⟨rfl, fun L hL => lc_ktop (fun i H' => H' L = some (.lst ((List.replicate i false).map V.bl)) ∧ Kept L H1 H') ⟨by rw [upd_same]; rfl, Kept.upd⟩ ?_ ?_⟩
    · rintro i z H' hz ⟨w1, w2⟩
      have hi : i < 3 := (List.getElem?_eq_some_iff.mp hz).1
      have hS : Same H1 H' := fun b o e => w2 b o (ne_of_none e hL) e
      refine ⟨rfl, _, rfl, _, rfl, .tup [.str g, x], v, z, 3, rfl, by decide, r.mono (Same.tup (s1.trans hS)), _, w1, ?_, ?_, w2.trans Kept.upd⟩
      · rw [List.length_map, List.length_replicate]
        exact small_of (by omega)
      · rw [upd_same, form3, List.replicate_succ', List.map_append]
        rfl
    · rintro H' ⟨w1, w2⟩
      have hS : Same H H' := s1.trans fun b o e => w2 b o (ne_of_none e hL) e
      have r' := r.mono (Same.tup hS)
      refine ⟨L, List.replicate 3 false, rfl, SqL.of w1, _, rfl, iteN rfl ?_⟩
      refine ⟨_, rfl, .tup [.str g, x], v, _, 2, rfl, by decide, r', _, rfl, iteN (by rw [form2]; exact hp _ (by decide +kernel)) ?_⟩
      refine ⟨_, rfl, .tup [.str g, x], v, _, 2, rfl, by decide, r', _, rfl, iteN (by rw [form2]; exact hp _ (by decide +kernel)) ?_⟩
      refine ⟨_, rfl, .tup [.str g, x], v, _, 3, rfl, by decide, r', _, rfl, iteN (form3 _ _ _) ?_⟩
      refine ⟨_, rfl, .tup [.str g, x], v, _, 4, rfl, by decide, r', _, rfl, iteN (f4 _) ?_⟩
      refine ⟨_, rfl, .tup [.str g, x], v, _, 2, rfl, by decide, r', _, rfl, iteN (by rw [form2]; exact hp _ (by decide +kernel)) ?_⟩
      exact q2 hb _ hS
end
end Tst
namespace Tst
open PySem PySem.Spec PyProof.Rows L2 TL
section
variable {P : Program} {w : World} {K : PySem.W.Frag} {mg : Str → Option Value} {base : Heap} {f : Addr} {fd : FuncData}
/-! ### expressions: leaves and what is none -/
def leafOk (g : Str) (x : D) : Prop := g ∉ pairWords ∧ small x
def spExpr : Sp := fun vs H Q _ => ∃ (g : Str) (x : D) (v : V), vs = [v] ∧ leafOk g x ∧ Rp H (.tup [.str g, x]) v ∧ ∀ H', Same H H' → Q (.bl (leafB g x)) H'
theorem ok_expr (F : Fun K "is_expression" "is_expression" s_is_expression f fd) (T : Txt0 mg) (c_members_of : Cal P w K mg base CX0 5 "members_of" ["thing"] spMembers) : FnOk P w K mg base CX0 6 f fd ["thing"] spExpr := by
  refine F.ok sc_is_expression (fun vs H Q E h => ?_) (fun cdv A outer s H vs Q E hr h => ?_)
  · obtain ⟨g, x, v, rfl, _⟩ := h
    rfl
  obtain ⟨g, x, v, rfl, hl, r, q⟩ := h
  refine ⟨_, pss_cons (ps_set (i := 1) sc_is_expression.nd rfl (Or.inl rfl) (pe_int))
    (pss_cons (ps_set (i := 2) sc_is_expression.nd rfl (Or.inl rfl) (pe_lst (pa_cons (pv 0) pa_nil)))
    (pss_cons (ps_set (i := 3) sc_is_expression.nd rfl (Or.inl rfl) (pe_int))
    (pss_cons (ps_while PassesOwn.never (pt_truth (pv 2) (by intro _; rfl)) (pss_cons (ps_aug (i := 3) sc_is_expression.nd rfl (Or.inl rfl) (pe_int) ip_add)
    (pss_cons (ps_aug (i := 1) sc_is_expression.nd rfl (Or.inl rfl) (pe_callB call_len_seq rfl (by exact T.n_len) PySem.boot_len (pa_cons (pv 2) pa_nil)) ip_add)
    (pss_cons (ps_if (PW.pt (pw_or (pt_cmpR op_gt (pv 3) (pe_glob (v := .int 8) rfl T.g_MOST_DEEP.choose_spec ⟨_, rfl⟩) (nomark _)) (pw_or1 (pt_cmpR op_gt (pv 1) (pe_glob (v := .int 20) rfl T.g_MOST_WORDS.choose_spec ⟨_, rfl⟩) (nomark _))))) (pss_one (ps_ret (pe_bl))) (pss_nil))
    (pss_cons (ps_set (i := 4) sc_is_expression.nd rfl (Or.inl rfl) (pe_lst (pa_nil)))
    (pss_cons (ps_for PassesOwn.never rfl (pi_list (pv 2)) (pg_name (i := 5) sc_is_expression.nd rfl (Or.inl rfl)) (pss_cons (ps_set (i := 6) sc_is_expression.nd rfl (Or.inl rfl) (pe_cal c_members_of (hr.mono (by omega)) rfl pass0 (pa_cons (pv 5) pa_nil)))
    (pss_cons (ps_if (pt_cmpR op_isN (pv 6) (pe_non) (nomark _)) (pss_one (ps_ret (pe_bl))) (pss_nil))
    (pss_one (ps_expr (pe_bm PySem.F.plainAttrs_list PySem.F.slot_list_extend PySem.F.type_list_extend mt_extT (pv 4) (pa_cons (pv 6) pa_nil)))))))
    (pss_one (ps_set (i := 2) sc_is_expression.nd rfl (Or.inl rfl) (pv 4)))))))))
    (pss_one (ps_ret (pe_bl)))))), ?_⟩
  refine ⟨_, rfl, (by show 1 ≤ sizeLine; decide), fun L hL => ?_⟩
  refine ⟨fun m σ' H' => (m = 1 ∧ σ' = [some v, some (.int 0), some (.ref L), some (.int 0), none, none, none] ∧ H' = upd H L (.lst [v])) ∨ (m = 0 ∧ leafB g x = true ∧ ∃ L2 x1 x3 x4 x5 x6, σ' = [some v, x1, some (.ref L2), x3, x4, x5, x6] ∧ H' L2 = some (.lst []) ∧ Same H H'), ⟨1, .inl ⟨rfl, rfl, rfl⟩⟩, ?_⟩
  rintro m σ' H' (⟨rfl, rfl, rfl⟩ | ⟨rfl, hb, L2, x1, x3, x4, x5, x6, rfl, h2, hS⟩)
  case inr => exact ⟨_, rfl, false, .inl ⟨[], SqL.of h2, rfl⟩, iteF (by rw [hb] at q; exact q _ hS)⟩
  have sL : Same H (upd H L (.lst [v])) := same_new hL _
  refine ⟨_, rfl, true, .inl ⟨[v], SqL.of upd_same, rfl⟩, iteT ⟨fun σ' H' => leafB g x = true ∧ ∃ L2 x1 x3 x4 x5 x6, σ' = [some v, x1, some (.ref L2), x3, x4, x5, x6] ∧ H' L2 = some (.lst []) ∧ Same H H', fun σ' H' p => ⟨0, by decide, .inr ⟨rfl, p⟩⟩, ?_⟩⟩
  refine ⟨_, rfl, _, _, rfl, rfl, _, rfl, _, rfl, L, _, rfl, .inl (SqL.of upd_same), _, _, rfl, rfl, ?_⟩
  refine ⟨_, rfl, _, _, rfl, rfl, _, rfl, iteN rfl ⟨_, rfl, _, _, rfl, rfl, _, rfl, iteN rfl ?_⟩⟩
  refine ⟨Nat.zero_le _, fun L2 hL2 => ?_⟩
  have ne2 : L2 ≠ L := fun e => by rw [e, upd_same] at hL2; cases hL2
  have n2 : H L2 = none := by rw [upd_ne ne2] at hL2; exact hL2
  refine ⟨_, rfl, L, rfl, ⟨[v], SqL.of (by rw [upd_ne (Ne.symm ne2), upd_same])⟩, for_list (xs := [v]) (fun i σ' H' => (H' L = some (.lst [v]) ∧ H' L2 = some (.lst []) ∧ Same H H' ∧ ∃ x5 x6, σ' = [some v, some (.int 1), some (.ref L), some (.int 1), some (.ref L2), x5, x6]) ∧ (i = 1 → leafB g x = true)) ?_ ?_ ?_ ?_⟩
  · exact ⟨⟨by rw [upd_ne (Ne.symm ne2), upd_same], upd_same, sL.trans (same_new hL2 _), _, _, rfl⟩, fun z => nomatch z⟩
  · rintro i σ' H' _ ⟨⟨h1, _⟩, _⟩
    exact SqL.of h1
  · rintro i y σ' H' hy ⟨⟨h1, h2, hS, x5, x6, rfl⟩, _⟩
    obtain ⟨rfl, rfl⟩ : i = 0 ∧ y = v := by
      cases i with
      | zero => exact ⟨rfl, (Option.some.inj hy).symm⟩
      | succ i => simp at hy
    refine ⟨_, rfl, g, x, y, rfl, hl, r.mono (Same.tup hS), fun hb t H2 s2 ht => ?_, fun hb H2 s2 => ?_⟩
    · refine ⟨_, rfl, rfl, _, rfl, iteN (by simp) ?_⟩
      refine ⟨_, rfl, .inl ⟨rfl, [], SqL.of (s2 _ _ h2)⟩, _, rfl, L2, t, [], [], rfl, rfl, s2 _ _ h2, ht, Nat.zero_le _, ?_⟩
      refine ⟨⟨?_, upd_same, ?_, _, _, rfl⟩, fun _ => hb⟩
      · rw [upd_ne (Ne.symm ne2)]
        exact s2 _ _ h1
      · intro b o e
        rw [upd_ne (ne_of_none e n2)]
        exact (hS.trans s2) _ _ e
    · rw [hb] at q
      exact ⟨_, rfl, rfl, _, rfl, iteY (by simp) (q _ (hS.trans s2))⟩
  · rintro σ' H' ⟨⟨h1, h2, hS, x5, x6, rfl⟩, hb⟩
    exact ⟨_, rfl, hb rfl, L2, _, _, _, _, _, rfl, h2, hS⟩
/-! ### the names in an expression -/
def namesV (g : Str) (x : D) : List Str := if g = Str.ofString "name" then (match x with | .str z => [z] | _ => []) else []
theorem namesV_le (g : Str) (x : D) : (namesV g x).length ≤ 1 := by
  unfold namesV
  split
  · cases x <;> simp
  · simp
theorem perm_one {α : Type} {xs ys : List α} (h : ys.Perm xs) (hx : xs.length ≤ 1) : ys = xs := by
  cases xs with
  | nil => exact h.eq_nil
  | cons a l =>
    obtain rfl : l = [] := List.length_eq_zero_iff.mp (by rw [List.length_cons] at hx; omega)
    exact List.perm_singleton.mp h
def spNames : Sp := fun vs H Q _ => ∃ (g : Str) (x : D) (v : V), vs = [v] ∧ (leafOk g x ∧ leafB g x = true) ∧ Rp H (.tup [.str g, x]) v ∧ ∀ t H', Same H H' → H' t = some (.tup ((namesV g x).map V.str)) → Q (.ref t) H'
theorem ok_names (F : Fun K "names_in" "names_in" s_names_in f fd) (T : Txt0 mg) (c_members_of : Cal P w K mg base CX0 5 "members_of" ["thing"] spMembers) : FnOk P w K mg base CX0 6 f fd ["expression"] spNames := by
  refine F.ok sc_names_in (fun vs H Q E h => ?_) (fun cdv A outer s H vs Q E hr h => ?_)
  · obtain ⟨g, x, v, rfl, _⟩ := h
    rfl
  obtain ⟨g, x, v, rfl, ⟨hl, hb⟩, r, q⟩ := h
  refine ⟨_, pss_cons (ps_set (i := 1) sc_names_in.nd rfl (Or.inl rfl) (pe_dnewK))
    (pss_cons (ps_set (i := 2) sc_names_in.nd rfl (Or.inl rfl) (pe_lst (pa_cons (pv 0) pa_nil)))
    (pss_cons (ps_while PassesOwn.never (pt_truth (pv 2) (by intro _; rfl)) (pss_cons (ps_set (i := 3) sc_names_in.nd rfl (Or.inl rfl) (pe_bm0 PySem.F.plainAttrs_list PySem.F.slot_list_pop PySem.F.type_list_pop mt_pop (pv 2)))
    (C8.pss_cut (ps_if (pt_cmpR op_eq (pe_ix ix_tup (pv 3) (pe_int) (fun _ _ => rfl)) (pe_str) (nomark _)) (pss_one (ps_dput (hu_of hr) (pv 1) (pe_ix ix_tup (pv 3) (pe_int) (fun _ _ => rfl)) (pe_bl) rfl)) (pss_nil))
    (pss_one (ps_expr (pe_bm PySem.F.plainAttrs_list PySem.F.slot_list_extend PySem.F.type_list_extend mt_extT (pv 2) (pa_cons (pe_cal c_members_of (hr.mono (by omega)) rfl pass0 (pa_cons (pv 3) pa_nil)) pa_nil)))))))
    (pss_one (ps_ret (pe_callTy call_tuple_of rfl (by exact T.n_tuple) (by decide +kernel) (pa_cons (pe_callB (call_sortedD rfl) rfl (by exact T.n_sorted) (by decide +kernel) (pa_cons (pv 1) pa_nil)) pa_nil)))))), ?_⟩
  obtain ⟨a, vs, rfl, ha, rs⟩ := r.tupv
  obtain ⟨v0, us0, rfl, r0, rs0⟩ := rs.consv
  obtain ⟨v1, us1, rfl, r1, rs1⟩ := rs0.consv
  obtain rfl := r0.strv
  obtain rfl := rs1.nilv
  refine fun D0 hD0 => ⟨_, rfl, (by show 1 ≤ sizeLine; decide), fun L hL => ?_⟩
  have nDL : L ≠ D0 := fun e => by rw [e, upd_same] at hL; cases hL
  have nL : H L = none := by rw [upd_ne nDL] at hL; exact hL
  refine ⟨fun m σ' H' => (m = 1 ∧ σ' = [some (.ref a), some (.ref D0), some (.ref L), none] ∧ H' = upd (upd H D0 (.dK [])) L (.lst [.ref a])) ∨ (m = 0 ∧ ∃ x3, σ' = [some (.ref a), some (.ref D0), some (.ref L), x3] ∧ H' L = some (.lst []) ∧ H' D0 = some (.dK ((namesV g x).map fun z => (Sum.inr z, V.bl true))) ∧ Same H H'), ⟨1, .inl ⟨rfl, rfl, rfl⟩⟩, ?_⟩
  rintro m σ' H' (⟨rfl, rfl, rfl⟩ | ⟨rfl, x3, rfl, h2, h3, hS⟩)
  case inr =>
    refine ⟨_, rfl, false, .inl ⟨[], SqL.of h2, rfl⟩, iteF ?_⟩
    refine ⟨_, rfl, D0, _, namesV g x, rfl, .inl h3, by rw [List.map_map]; rfl, by have := namesV_le g x; omega, fun ys p perm _ hp => ?_⟩
    obtain rfl := perm_one perm (namesV_le g x)
    exact ⟨p, _, rfl, .inl ⟨SqL.of upd_same, fun t ht => q t _ ((hS.trans (same_new hp _)).trans (same_new ht _)) upd_same⟩⟩
  refine ⟨_, rfl, true, .inl ⟨[.ref a], SqL.of upd_same, rfl⟩, iteT ⟨fun σ' H' => ∃ x3, σ' = [some (.ref a), some (.ref D0), some (.ref L), x3] ∧ H' L = some (.lst []) ∧ H' D0 = some (.dK ((namesV g x).map fun z => (Sum.inr z, V.bl true))) ∧ Same H H', fun σ' H' p => ⟨0, by decide, .inr ⟨rfl, p⟩⟩, ?_⟩⟩
  refine ⟨_, rfl, .inl ⟨rfl, _, SqL.of upd_same⟩, L, [.ref a], .ref a, rfl, rfl, upd_same, rfl, ?_⟩
  rw [upd_upd]
  have hS2 : Same H (upd (upd H D0 (.dK [])) L (.lst ([V.ref a].dropLast))) := fun b o e => by rw [upd_ne (ne_of_none e nL), upd_ne (ne_of_none e hD0)]; exact e
  have hD : upd (upd H D0 (.dK [])) L (.lst ([V.ref a].dropLast)) D0 = some (.dK []) := by rw [upd_ne (Ne.symm nDL), upd_same]
  refine ⟨fun σ' H' => σ' = [some (.ref a), some (.ref D0), some (.ref L), some (.ref a)] ∧ H' L = some (.lst []) ∧ H' D0 = some (.dK ((namesV g x).map fun z => (Sum.inr z, V.bl true))) ∧ Same H H', ?_, ?_⟩
  · refine ⟨_, rfl, a, _, _, _, rfl, rfl, SqT.of (hS2 _ _ ha), at0, rfl, _, rfl, ?_⟩
    rw [dec_strV]
    cases hn : decide (g = Str.ofString "name") with
    | true =>
      have hg : g = Str.ofString "name" := of_decide_eq_true hn
      have hx : nameVB x = true := by unfold leafB at hb; rwa [if_pos hn] at hb
      cases x with
      | str z =>
        obtain rfl := r1.strv
        have ek : (namesV g (.str z)).map (fun z => ((Sum.inr z : Key), V.bl true)) = [(Sum.inr z, V.bl true)] := by unfold namesV; rw [if_pos hg]; rfl
        refine iteT ⟨_, rfl, _, rfl, a, _, _, _, rfl, rfl, SqT.of (hS2 _ _ ha), at1, D0, _, rfl, DPut.k (k := Sum.inr z) hD (by decide), rfl, ?_, ?_, ?_⟩
        · rw [upd_ne nDL, upd_same]; rfl
        · rw [upd_same, ek]; rfl
        · exact fun b o e => by rw [upd_ne (ne_of_none e hD0)]; exact hS2 _ _ e
      | _ => cases hx
    | false =>
      have ek : namesV g x = [] := by unfold namesV; rw [if_neg (of_decide_eq_false hn)]
      refine iteF ⟨rfl, upd_same, ?_, hS2⟩
      rw [hD, ek]
      rfl
  · rintro σ' H' ⟨rfl, h2, h3, hS⟩
    refine ⟨_, rfl, .inl ⟨rfl, _, SqL.of h2⟩, _, rfl, g, x, _, rfl, hl, r.mono (Same.tup hS), fun _ t H2 s2 ht => ?_, fun z => by rw [hb] at z; cases z⟩
    refine ⟨L, t, [], [], rfl, rfl, s2 _ _ h2, ht, Nat.zero_le _, _, rfl, upd_same, ?_, ?_⟩
    · rw [upd_ne (Ne.symm nDL)]
      exact s2 _ _ h3
    · intro b o e
      rw [upd_ne (ne_of_none e nL)]
      exact (hS.trans s2) _ _ e
/-! ### whether names are there -/
def rowD (n g : Str) (x : D) : D := .tup [.str n, .tup [.str g, x]]
def allIn (n1 : Str) (ms : List Str) : Bool := ms.all fun m => decide (m = n1)
def spWholeL : Sp := fun vs H Q _ => ∃ (n1 g1 n2 g2 : Str) (x1 x2 : D) (v : V), vs = [v] ∧ (leafOk g1 x1 ∧ leafB g1 x1 = true ∧ leafOk g2 x2 ∧ leafB g2 x2 = true ∧ n1 ≠ n2 ∧ namesV g1 x1 = []) ∧ Rp H (.tup [rowD n1 g1 x1, rowD n2 g2 x2]) v ∧
  ∀ H', Same H H' → Q (.bl (allIn n1 (namesV g2 x2))) H'
theorem row_at {H : Hp} {n g : Str} {x : D} {v : V} (r : Rp H (rowD n g x) v) : ∃ a e, v = .ref a ∧ H a = some (.tup [.str n, e]) ∧ Rp H (.tup [.str g, x]) e := by
  obtain ⟨a, vs, rfl, ha, rs⟩ := r.tupv
  obtain ⟨v0, us0, rfl, r0, rs0⟩ := rs.consv
  obtain ⟨v1, us1, rfl, r1, rs1⟩ := rs0.consv
  obtain rfl := r0.strv
  obtain rfl := rs1.nilv
  exact ⟨a, v1, rfl, ha, r1⟩
theorem ok_wholeL (F : Fun K "is_whole" "is_whole" s_is_whole_language f fd) (T : Txt0 mg) (c_names_in : Cal P w K mg base CX0 6 "names_in" ["expression"] spNames) : FnOk P w K mg base CX0 7 f fd ["rows"] spWholeL := by
  refine F.ok sc_is_whole_language (fun vs H Q E h => ?_) (fun cdv A outer s H vs Q E hr h => ?_)
  · obtain ⟨n1, g1, n2, g2, x1, x2, v, rfl, _⟩ := h
    rfl
  obtain ⟨n1, g1, n2, g2, x1, x2, v, rfl, ⟨hl1, hb1, hl2, hb2, hn, hnv⟩, r, q⟩ := h
  refine ⟨_, pss_cons (ps_setDc (i := 1) (g := gTup K 2 (gCons (gName 5) (gCons (gName 6) (gNil)))) (own := [("name", 5), ("expression", 6)]) rfl sc_is_whole_language.nd rfl rfl (sw_trueD rfl rfl rfl (by decide +kernel)) (pi_tup (pv 0)) (blkOk_by (own := [("name", 5), ("expression", 6)]) (N := ["rows", "near", "start", "found", "left", "name", "expression"]) (sc := defScope s_is_whole_language) (by decide +kernel)) (fun _ _ _ _ _ => pg_tup rfl (pgs_cons (pg_name (i := 5) sc_is_whole_language.nd rfl (Or.inl rfl)) (pgs_cons (pg_name (i := 6) sc_is_whole_language.nd rfl (Or.inl rfl)) pgs_nil))) (fun _ _ _ _ _ => pts_nil) (fun _ _ _ _ _ => pv 5) (fun _ _ _ _ _ => pe_cal c_names_in (hr.mono (by omega)) rfl pass0 (pa_cons (pv 6) pa_nil)))
    (pss_cons (ps_lock (ps_for PassesOwn.never rfl (pi_keys (pv 1)) (pg_name (i := 2) sc_is_whole_language.nd rfl (Or.inl rfl)) (pss_cons (ps_set (i := 3) sc_is_whole_language.nd rfl (Or.inl rfl) (pe_dnewK))
    (pss_cons (ps_set (i := 4) sc_is_whole_language.nd rfl (Or.inl rfl) (pe_lst (pa_cons (pv 2) pa_nil)))
    (pss_one (ps_while PassesOwn.never (pt_truth (pv 4) (by intro _; rfl)) (pss_one (ps_for PassesOwn.never rfl (pi_tup (pe_dget (hu_of hr) (pv 1) (pe_bm0 PySem.F.plainAttrs_list PySem.F.slot_list_pop PySem.F.type_list_pop mt_pop (pv 4)) (fun _ _ => rfl))) (pg_name (i := 5) sc_is_whole_language.nd rfl (Or.inl rfl)) (pss_cons (ps_if (PW.pt (pw_or (pt_cmp (pc_dnotin (hu_of hr) (pv 5) (pv 1))) (pw_or1 (pt_cmpR op_eq (pv 5) (pv 2) (nomark _))))) (pss_one (ps_ret (pe_bl))) (pss_nil))
    (pss_one (ps_if (pt_cmp (pc_dnotin (hu_of hr) (pv 5) (pv 3))) (pss_cons (ps_dput (hu_of hr) (pv 3) (pv 5) (pe_bl) rfl)
    (pss_one (ps_expr (pe_bm PySem.F.plainAttrs_list PySem.F.slot_list_append PySem.F.type_list_append mt_append (pv 4) (pa_cons (pv 5) pa_nil))))) (pss_nil))))))))))))
    (pss_one (ps_ret (pe_bl)))), ?_⟩
  obtain ⟨a, vs, rfl, ha, rs⟩ := r.tupv
  obtain ⟨v1, us0, rfl, r1, rs0⟩ := rs.consv
  obtain ⟨v2, us1, rfl, r2, rs1⟩ := rs0.consv
  obtain rfl := rs1.nilv
  obtain ⟨a1, e1, rfl, h1, q1⟩ := row_at r1
  obtain ⟨a2, e2, rfl, h2, q2⟩ := row_at r2
  refine ⟨_, rfl, a, rfl, ⟨_, SqT.of ha⟩, fun D0 hD0 => dc_tup (K := K) (a := a) (xs := [.ref a1, .ref a2]) (fun i H' => Kept D0 H H' ∧ ((i = 0 ∧ H' D0 = some (.dK [])) ∨ (i = 1 ∧ ∃ t1, H' D0 = some (.dK [(Sum.inr n1, .ref t1)]) ∧ H' t1 = some (.tup [])) ∨
    (i = 2 ∧ ∃ t1 t2, H' D0 = some (.dK [(Sum.inr n1, .ref t1), (Sum.inr n2, .ref t2)]) ∧ H' t1 = some (.tup []) ∧ H' t2 = some (.tup ((namesV g2 x2).map V.str))))) ⟨Kept.upd, .inl ⟨rfl, upd_same⟩⟩ (fun i H' _ p => SqT.of (p.1 a _ (ne_of_none ha hD0) ha)) ?_ ?_⟩
  · rintro i x H' hx ⟨hk, p⟩
    have hS : Same H H' := fun b o e => hk b o (ne_of_none e hD0) e
    rcases p with ⟨rfl, hD⟩ | ⟨rfl, t1, hD, ht1⟩ | ⟨rfl, _⟩
    · obtain rfl : V.ref a1 = x := Option.some.inj hx
      refine ⟨a1, _, rfl, SqT.of (hS _ _ h1), rfl, _, _, rfl, _, _, rfl, rfl, rfl, _, rfl, _, rfl, g1, x1, _, rfl, ⟨hl1, hb1⟩, q1.mono (Same.tup hS), fun t H2 s2 ht => ?_⟩
      have nt : t ≠ D0 := fun e => by rw [e, s2 _ _ hD] at ht; cases ht
      refine ⟨[], Sum.inr n1, rfl, s2 _ _ hD, by decide, (hk.trans (Same.kept s2)).trans Kept.upd, .inr (.inl ⟨rfl, t, upd_same, ?_⟩)⟩
      rw [upd_ne nt, ht, hnv]
      rfl
    · obtain rfl : V.ref a2 = x := Option.some.inj hx
      refine ⟨a2, _, rfl, SqT.of (hS _ _ h2), rfl, _, _, rfl, _, _, rfl, rfl, rfl, _, rfl, _, rfl, g2, x2, _, rfl, ⟨hl2, hb2⟩, q2.mono (Same.tup hS), fun t H2 s2 ht => ?_⟩
      have nt : t ≠ D0 := fun e => by rw [e, s2 _ _ hD] at ht; cases ht
      have nt1 : t1 ≠ D0 := fun e => by rw [e, hD] at ht1; cases ht1
      refine ⟨_, Sum.inr n2, rfl, s2 _ _ hD, (by show 1 < sizeLine; decide), (hk.trans (Same.kept s2)).trans Kept.upd, .inr (.inr ⟨rfl, t1, t, ?_, ?_, ?_⟩)⟩
      · rw [upd_same, putK_new _ (by rw [valV_neg (show ¬ (Sum.inr n1 : Key) = Sum.inr n2 from fun e => hn (Sum.inr.inj e))]; rfl)]
        rfl
      · rw [upd_ne nt1]
        exact s2 _ _ ht1
      · rw [upd_ne nt]
        exact ht
    · simp at hx
  · rintro H1 ⟨hk, p⟩
    rcases p with ⟨z, _⟩ | ⟨z, _⟩ | ⟨_, t1, t2, hD, ht1, ht2⟩
    · exact absurd z (by show ¬ (2 : Nat) = 0; decide)
    · exact absurd z (by show ¬ (2 : Nat) = 1; decide)
    have nt1 : t1 ≠ D0 := fun e => by rw [e, hD] at ht1; cases ht1
    have nt2 : t2 ≠ D0 := fun e => by rw [e, hD] at ht2; cases ht2
    refine ⟨D0, _, hD, trivial, fun od => ?_⟩
    have out : ∀ H2, Kept D0 H1 H2 → Same H (upd H2 D0 (.dK [(Sum.inr n1, V.ref t1), (Sum.inr n2, V.ref t2)])) := fun H2 k2 b o e => by
      rw [upd_ne (ne_of_none e hD0)]
      exact k2 b o (ne_of_none e hD0) (hk b o (ne_of_none e hD0) e)
    refine ⟨_, rfl, D0, od, rfl, .inl ⟨_, upd_same, for_it walk_keys (fun i σ' H2 => H2 D0 = some (.frz od (.dK [(Sum.inr n1, V.ref t1), (Sum.inr n2, V.ref t2)])) ∧ Kept D0 H1 H2 ∧ (∃ y2 y3 y4 y5 y6, σ' = [some (.ref a), some (.ref D0), y2, y3, y4, y5, y6]) ∧ (i = 2 → allIn n1 (namesV g2 x2) = true)) ?_ ?_ ?_ ?_⟩⟩
    · exact ⟨upd_same, Kept.upd, ⟨_, _, _, _, _, rfl⟩, fun z => nomatch z⟩
    · exact fun i σ' H2 _ p => p.1
    · rintro i x σ' H2 H3 hi ⟨hf, k2, ⟨y2, y3, y4, y5, y6, rfl⟩, _⟩ ⟨rfl, k, v, hkv, rfl⟩
      have ev1 : valV [((Sum.inr n1 : Key), V.ref t1), (Sum.inr n2, V.ref t2)] (Sum.inr n1) = some (V.ref t1) := valV_pos rfl
      have ev2 : valV [((Sum.inr n1 : Key), V.ref t1), (Sum.inr n2, V.ref t2)] (Sum.inr n2) = some (V.ref t2) := by
        rw [valV_neg (show ¬ (Sum.inr n1 : Key) = Sum.inr n2 from fun e => hn (Sum.inr.inj e))]
        exact valV_pos rfl
      have ev3 : ∀ m, m ≠ n1 → m ≠ n2 → valV [((Sum.inr n1 : Key), V.ref t1), (Sum.inr n2, V.ref t2)] (Sum.inr m) = none := fun m e1 e2 => by
        rw [valV_neg (show ¬ (Sum.inr n1 : Key) = Sum.inr m from fun e => e1 (Sum.inr.inj e).symm), valV_neg (show ¬ (Sum.inr n2 : Key) = Sum.inr m from fun e => e2 (Sum.inr.inj e).symm)]
        rfl
      obtain ⟨nk, hkn, hph⟩ : ∃ nk, k = Sum.inr nk ∧ ((i = 0 ∧ nk = n1) ∨ (i = 1 ∧ nk = n2)) := by
        rcases i with _ | _ | i
        · exact ⟨n1, (congrArg Prod.fst (Option.some.inj hkv)).symm, .inl ⟨rfl, rfl⟩⟩
        · exact ⟨n2, (congrArg Prod.fst (Option.some.inj hkv)).symm, .inr ⟨rfl, rfl⟩⟩
        · exact absurd hi (by show ¬ i + 1 + 1 < 2; omega)
      subst hkn
      refine fun F0 hF0 => ⟨_, rfl, (by show 1 ≤ sizeLine; decide), fun L hL => ?_⟩
      have nFD : F0 ≠ D0 := fun e => by rw [e, hf] at hF0; cases hF0
      have nLF : L ≠ F0 := fun e => by rw [e, upd_same] at hL; cases hL
      have hL0 : H3 L = none := by rw [upd_ne nLF] at hL; exact hL
      have nLD : L ≠ D0 := fun e => by rw [e, hf] at hL0; cases hL0
      have fF : H1 F0 = none := by
        cases e : H1 F0 with
        | none => rfl
        | some o => rw [k2 _ _ nFD e] at hF0; cases hF0
      have fL : H1 L = none := by
        cases e : H1 L with
        | none => rfl
        | some o => rw [k2 _ _ nLD e] at hL0; cases hL0
      refine ⟨fun m σ' H' => H' D0 = some (.frz od (.dK [(Sum.inr n1, V.ref t1), (Sum.inr n2, V.ref t2)])) ∧ Kept D0 H1 H' ∧ (∃ y5 y6, σ' = [some (.ref a), some (.ref D0), some (.str nk), some (.ref F0), some (.ref L), y5, y6]) ∧
        ((m = 2 ∧ i = 1 ∧ nk = n2 ∧ H' L = some (.lst [.str n2]) ∧ H' F0 = some (.dK [])) ∨ ((i = 1 → allIn n1 (namesV g2 x2) = true) ∧ ((m = 1 ∧ H' L = some (.lst [.str n1])) ∨ (m = 0 ∧ H' L = some (.lst []))))), ?_, ?_⟩
      · have kk : Kept D0 H1 (upd (upd H3 F0 (.dK [])) L (.lst [V.str nk])) := fun b o e1 e2 => by
          rw [upd_ne (ne_of_none e2 fL), upd_ne (ne_of_none e2 fF)]
          exact k2 b o e1 e2
        have kd : upd (upd H3 F0 (.dK [])) L (.lst [V.str nk]) D0 = some (.frz od (.dK [(Sum.inr n1, V.ref t1), (Sum.inr n2, V.ref t2)])) := by rw [upd_ne (Ne.symm nLD), upd_ne (Ne.symm nFD), hf]
        rcases hph with ⟨rfl, rfl⟩ | ⟨rfl, rfl⟩
        · exact ⟨1, kd, kk, ⟨_, _, rfl⟩, .inr ⟨fun z => absurd z (by decide), .inl ⟨rfl, upd_same⟩⟩⟩
        · exact ⟨2, kd, kk, ⟨_, _, rfl⟩, .inl ⟨rfl, rfl, rfl, upd_same, by rw [upd_ne (Ne.symm nLF), upd_same]⟩⟩
      · rintro m σ' H4 ⟨wD, wk, ⟨y5, y6, rfl⟩, ⟨rfl, rfl, rfl, wL, wF⟩ | ⟨wb, ⟨rfl, wL⟩ | ⟨rfl, wL⟩⟩⟩
        · refine ⟨_, rfl, true, .inl ⟨_, SqL.of wL, rfl⟩, iteT ⟨fun σ' H' => H' D0 = some (.frz od (.dK [(Sum.inr n1, V.ref t1), (Sum.inr nk, V.ref t2)])) ∧ Kept D0 H1 H' ∧ (∃ y5 y6, σ' = [some (.ref a), some (.ref D0), some (.str nk), some (.ref F0), some (.ref L), y5, y6]) ∧ allIn n1 (namesV g2 x2) = true ∧ (H' L = some (.lst [.str n1]) ∨ H' L = some (.lst [])), fun σ' H' ⟨p1, p2, p3, p4, p5⟩ => ?_, ?_⟩⟩
          · rcases p5 with p5 | p5
            · exact ⟨1, by decide, p1, p2, p3, .inr ⟨fun _ => p4, .inl ⟨rfl, p5⟩⟩⟩
            · exact ⟨0, by decide, p1, p2, p3, .inr ⟨fun _ => p4, .inr ⟨rfl, p5⟩⟩⟩
          have sw : ∀ b o, b ≠ L → H4 b = some o → upd H4 L (.lst [V.str nk].dropLast) b = some o := fun b o e1 e2 => by rw [upd_ne e1]; exact e2
          have ht2' : upd H4 L (.lst [V.str nk].dropLast) t2 = some (.tup ((namesV g2 x2).map V.str)) := sw _ _ (fun e => by have := wk _ _ nt2 ht2; rw [e, wL] at this; cases this) (wk _ _ nt2 ht2)
          have wD' := sw _ _ (Ne.symm nLD) wD
          have wF' := sw _ _ (Ne.symm nLF) wF
          have wk' : Kept D0 H1 (upd H4 L (.lst [V.str nk].dropLast)) := fun b o e1 e2 => sw _ _ (ne_of_none e2 fL) (wk _ _ e1 e2)
          refine ⟨_, rfl, _, rfl, .inl ⟨rfl, _, SqL.of wL⟩, L, _, _, rfl, rfl, wL, rfl, D0, V.ref t2, rfl, .inl ⟨_, Sum.inr nk, .inr ⟨od, wD'⟩, rfl, ev2.symm⟩, t2, rfl, ⟨_, SqT.of ht2'⟩, for_tup (xs := (namesV g2 x2).map V.str) (fun j σ' H' => H' D0 = some (.frz od (.dK [(Sum.inr n1, V.ref t1), (Sum.inr nk, V.ref t2)])) ∧ Kept D0 H1 H' ∧ (∃ y5 y6, σ' = [some (.ref a), some (.ref D0), some (.str nk), some (.ref F0), some (.ref L), y5, y6]) ∧
            ((j = 0 ∧ H' F0 = some (.dK []) ∧ H' L = some (.lst [])) ∨ (j = 1 ∧ allIn n1 (namesV g2 x2) = true ∧ H' L = some (.lst [.str n1])))) ⟨wD', wk', ⟨_, _, rfl⟩, .inl ⟨rfl, wF', upd_same⟩⟩ ?_ ?_ ?_⟩
          · rintro j σ' H' _ ⟨_, p2, _⟩
            exact SqT.of (p2 _ _ nt2 ht2)
          · rintro j x σ' H' hx ⟨p1, p2, ⟨y7, y8, rfl⟩, p4⟩
            have hj : j < 1 := by
              have l1 := namesV_le g2 x2
              have l2 := (List.getElem?_eq_some_iff.mp hx).1
              rw [List.length_map] at l2
              omega
            obtain rfl : j = 0 := by omega
            obtain ⟨m, hm, rfl⟩ : ∃ m, namesV g2 x2 = [m] ∧ x = .str m := by
              have l1 := namesV_le g2 x2
              revert hx l1
              cases namesV g2 x2 with
              | nil => intro hx; simp at hx
              | cons m l =>
                cases l with
                | nil => exact fun hx _ => ⟨m, rfl, (Option.some.inj hx).symm⟩
                | cons _ _ => exact fun _ z => absurd z (by simp)
            rcases p4 with ⟨_, p4, p5⟩ | ⟨z, _⟩
            case inr => exact absurd z (by decide)
            have ea : allIn n1 (namesV g2 x2) = decide (m = n1) := by rw [hm]; simp [allIn]
            have qF : allIn n1 (namesV g2 x2) = false → Q (.bl false) (upd H' D0 (.dK [(Sum.inr n1, V.ref t1), (Sum.inr nk, V.ref t2)])) := fun e => by
              have q' := q _ (out _ p2)
              rwa [e] at q'
            by_cases c1 : m = n1
            · subst c1
              refine ⟨_, rfl, _, rfl, D0, _, rfl, .inl ⟨_, Sum.inr m, .inr ⟨od, p1⟩, rfl, ev1.symm⟩, _, rfl, iteN rfl ⟨_, rfl, _, rfl, rfl, _, rfl, iteN (decide_eq_false fun e => hn (V.str.inj e)) ?_⟩⟩
              refine ⟨_, rfl, _, rfl, F0, _, rfl, DGet.k (k := Sum.inr m) p4, _, rfl, iteY rfl ?_⟩
              refine ⟨_, rfl, _, rfl, F0, _, rfl, DPut.k (k := Sum.inr m) p4 (by decide), ?_⟩
              have pL : upd H' F0 (.dK (putK [] (Sum.inr m) (V.bl true))) L = some (.lst []) := by rw [upd_ne nLF]; exact p5
              refine ⟨_, rfl, .inl ⟨rfl, _, SqL.of pL⟩, _, rfl, L, [], _, rfl, rfl, pL, (by decide), ?_, ?_, ⟨_, _, rfl⟩, .inr ⟨rfl, by rw [ea]; exact decide_eq_true rfl, upd_same⟩⟩
              · rw [upd_ne (Ne.symm nLD), upd_ne (Ne.symm nFD)]
                exact p1
              · exact fun b o e1 e2 => by rw [upd_ne (ne_of_none e2 fL), upd_ne (ne_of_none e2 fF)]; exact p2 b o e1 e2
            · have eF := qF (by rw [ea]; exact decide_eq_false c1)
              by_cases c2 : m = nk
              · subst c2
                exact ⟨_, rfl, _, rfl, D0, _, rfl, .inl ⟨_, Sum.inr m, .inr ⟨od, p1⟩, rfl, ev2.symm⟩, _, rfl, iteN rfl ⟨_, rfl, _, rfl, rfl, _, rfl, iteY (decide_eq_true rfl) ⟨p1, eF⟩⟩⟩
              · exact ⟨_, rfl, _, rfl, D0, _, rfl, .inl ⟨_, Sum.inr m, .inr ⟨od, p1⟩, rfl, (ev3 m c1 c2).symm⟩, _, rfl, iteY rfl ⟨p1, eF⟩⟩
          · rintro σ' H' ⟨p1, p2, p3, p4⟩
            rw [List.length_map] at p4
            rcases p4 with ⟨z, _, p5⟩ | ⟨_, p4, p5⟩
            · refine ⟨p1, p2, p3, ?_, .inr p5⟩
              rw [List.length_eq_zero_iff.mp z]
              rfl
            · exact ⟨p1, p2, p3, p4, .inl p5⟩
        · refine ⟨_, rfl, true, .inl ⟨_, SqL.of wL, rfl⟩, iteT ⟨fun σ' H' => H' D0 = some (.frz od (.dK [(Sum.inr n1, V.ref t1), (Sum.inr n2, V.ref t2)])) ∧ Kept D0 H1 H' ∧ (∃ y5 y6, σ' = [some (.ref a), some (.ref D0), some (.str nk), some (.ref F0), some (.ref L), y5, y6]) ∧ H' L = some (.lst []), fun σ' H' ⟨p1, p2, p3, p4⟩ => ⟨0, by decide, p1, p2, p3, .inr ⟨wb, .inr ⟨rfl, p4⟩⟩⟩, ?_⟩⟩
          have sw : ∀ b o, b ≠ L → H4 b = some o → upd H4 L (.lst [V.str n1].dropLast) b = some o := fun b o e1 e2 => by rw [upd_ne e1]; exact e2
          have ht1' : upd H4 L (.lst [V.str n1].dropLast) t1 = some (.tup []) := sw _ _ (fun e => by have := wk _ _ nt1 ht1; rw [e, wL] at this; cases this) (wk _ _ nt1 ht1)
          refine ⟨_, rfl, _, rfl, .inl ⟨rfl, _, SqL.of wL⟩, L, _, _, rfl, rfl, wL, rfl, D0, V.ref t1, rfl, .inl ⟨_, Sum.inr n1, .inr ⟨od, sw _ _ (Ne.symm nLD) wD⟩, rfl, ev1.symm⟩, t1, rfl, ⟨_, SqT.of ht1'⟩, for_tup (xs := []) (fun _ σ' H' => σ' = [some (.ref a), some (.ref D0), some (.str nk), some (.ref F0), some (.ref L), y5, y6] ∧ H' = upd H4 L (.lst [V.str n1].dropLast)) ⟨rfl, rfl⟩ ?_ ?_ ?_⟩
          · rintro i σ' H' _ ⟨_, rfl⟩
            exact SqT.of ht1'
          · intro i x σ' H' hx
            simp at hx
          · rintro σ' H' ⟨rfl, rfl⟩
            refine ⟨sw _ _ (Ne.symm nLD) wD, fun b o e1 e2 => sw _ _ (ne_of_none e2 fL) (wk _ _ e1 e2), ⟨_, _, rfl⟩, upd_same⟩
        · refine ⟨_, rfl, false, .inl ⟨_, SqL.of wL, rfl⟩, iteF ⟨wD, wk, ⟨_, _, _, _, _, rfl⟩, fun z => wb (by omega)⟩⟩
    · rintro σ' H2 ⟨hf, k2, ⟨y2, y3, y4, y5, y6, rfl⟩, hb⟩
      have q' := q _ (out _ k2)
      rw [hb rfl] at q'
      exact ⟨hf, q'⟩
end
end Tst
namespace Tst
open PySem PySem.Spec PyProof.Rows L2 TL
section
variable {P : Program} {w : World} {K : PySem.W.Frag} {mg : Str → Option Value} {base : Heap} {f : Addr} {fd : FuncData}
theorem ix_tupK {X : Cx} {K : PySem.W.Frag} (h : X.K = K) : IxR X (rIxT K) := by subst h; exact ix_tup
theorem ix_listK {X : Cx} {K : PySem.W.Frag} (h : X.K = K) : IxR X (rIxL K) := by subst h; exact ix_list
/-! ### texts that rise: two of them -/
theorem cut1 (v : V) (us : List V) : cutV (v :: us) (some 1) none = us := by
  unfold cutV
  have e1 : HT.sIx (v :: us).length 0 (some 1) = 1 := by
    rw [show (some (1 : Int)) = some ((1 : Nat) : Int) from rfl, HT.sIx_nat]
    simp
  have e2 : HT.sIx (v :: us).length (v :: us).length none = us.length + 1 := rfl
  rw [e1, e2]
  simp
def spRise (K : PySem.W.Frag) : Sp := fun vs H Q _ => ∃ (L : Addr) (n1 n2 : Str), vs = [.ref L] ∧ SqL K H L [.str n1, .str n2] ∧ ∀ H', Same H H' → Q (.bl (decide (tl n1 < tl n2))) H'
theorem ok_rise (F : Fun K "is_rising" "is_rising" s_is_rising f fd) (T : Txt0 mg) : FnOk P w K mg base CX0 1 f fd ["thing"] (spRise K) := by
  refine F.ok sc_is_rising (fun vs H Q E h => ?_) (fun cdv A outer s H vs Q E hr h => ?_)
  · obtain ⟨L, n1, n2, rfl, _⟩ := h
    rfl
  obtain ⟨L, n1, n2, rfl, hL, q⟩ := h
  refine ⟨_, pss_one (ps_ret (pe_callB (cr_all rfl) rfl (by exact T.n_all) (by decide +kernel) (pa_cons (pe_lc (g := gTup K 2 (gCons (gName 1) (gCons (gName 2) (gNil)))) (own := [("one", 1), ("other", 2)]) rfl sc_is_rising.nd (pi_zip rfl (by exact T.n_zip) (pa_cons (pv 0) (pa_cons (pe_slice sl_list (pv 0) (po_some (pe_int)) (po_none)) pa_nil))) (blkOk_by (own := [("one", 1), ("other", 2)]) (N := ["thing", "one", "other"]) (sc := defScope s_is_rising) (by decide +kernel)) (fun _ _ _ _ _ => pg_tup rfl (pgs_cons (pg_name (i := 1) sc_is_rising.nd rfl (Or.inl rfl)) (pgs_cons (pg_name (i := 2) sc_is_rising.nd rfl (Or.inl rfl)) pgs_nil))) (fun _ _ _ _ _ => pts_nil) (fun _ _ _ _ _ => pe_cmpR op_lt_str (pv 1) (pv 2) (nomark _))) pa_nil))), ?_⟩
  refine ⟨_, rfl, _, rfl, _, rfl, L, _, rfl, hL, fun M hM => ⟨L, M, _, _, rfl, Same.seq (same_new hM _) hL, SqL.of upd_same, fun D hD => ?_⟩⟩
  rw [cut1] at hD ⊢
  have s1 := same_new hM (.lst [V.str n2])
  refine lc_it (walk_zip (xs := [.str n1, .str n2]) (ys := [.str n2]) (n := 1) rfl) (fun i H' => Kept D (upd H M (.lst [V.str n2])) H' ∧ ((i = 0 ∧ H' D = some (.lst [])) ∨ (i = 1 ∧ H' D = some (.lst ([decide (tl n1 < tl n2)].map V.bl))))) ⟨Kept.upd, .inl ⟨rfl, upd_same⟩⟩ ?_ ?_ ?_
  · rintro i H' _ ⟨hk, _⟩
    have hS : Same (upd H M (.lst [V.str n2])) H' := fun b o e => hk b o (ne_of_none e hD) e
    exact ⟨Same.seq (s1.trans hS) hL, SqL.of (hS _ _ upd_same)⟩
  · rintro i x H' H2 hi ⟨hk, hp⟩ ⟨t, x0, y0, rfl, ht, rfl, e1, e2⟩
    obtain rfl : i = 0 := by omega
    obtain rfl := Option.some.inj e1
    obtain rfl := Option.some.inj e2
    rcases hp with ⟨_, hp⟩ | ⟨z, _⟩
    case inr => exact absurd z (by decide)
    have nt : t ≠ D := fun e => by rw [e, hp] at ht; cases ht
    refine ⟨t, _, rfl, SqT.of upd_same, rfl, _, _, rfl, _, _, rfl, rfl, rfl, _, rfl, _, rfl, n1, n2, rfl, rfl, [], by rw [upd_ne (Ne.symm nt)]; exact hp, by decide, (hk.trans ?_).trans Kept.upd, .inr ⟨rfl, upd_same⟩⟩
    exact Same.kept (same_new ht _)
  · rintro H' ⟨hk, hp⟩
    rcases hp with ⟨z, _⟩ | ⟨_, hp⟩
    · exact absurd z (by decide)
    have hS : Same (upd H M (.lst [V.str n2])) H' := fun b o e => hk b o (ne_of_none e hD) e
    refine ⟨D, [decide (tl n1 < tl n2)], rfl, SqL.of hp, ?_⟩
    have q' := q _ (s1.trans hS)
    simpa using q'
/-! ### books: two rows -/
def bookD (bw n1 g1 : Str) (x1 : D) (n2 g2 : Str) (x2 : D) : D := .tup [.str bw, .tup [rowD n1 g1 x1, rowD n2 g2 x2]]
def bookB (bw n1 g1 : Str) (x1 : D) (n2 g2 : Str) (x2 : D) : Bool :=
  isW bw "book" && ((nameVB (.str n1) && nameVB (.str n2)) && (decide (tl n1 < tl n2) && ((leafB g1 x1 && leafB g2 x2) && allIn n1 (namesV g2 x2))))
def BookIs (bw n1 g1 : Str) (x1 : D) (n2 g2 : Str) (x2 : D) : Prop := leafOk g1 x1 ∧ leafOk g2 x2 ∧ g1 ≠ Str.ofString "name" ∧ small (.str n1) ∧ small (.str n2)
def spBook : Sp := fun vs H Q _ => ∃ (bw n1 g1 n2 g2 : Str) (x1 x2 : D) (v : V), vs = [v] ∧ BookIs bw n1 g1 x1 n2 g2 x2 ∧ Rp H (bookD bw n1 g1 x1 n2 g2 x2) v ∧ ∀ H', Same H H' → Q (.bl (bookB bw n1 g1 x1 n2 g2 x2)) H'
theorem ok_book (F : Fun K "is_book" "is_book" s_is_book f fd) (T : Txt0 mg) (c_is_paper : Cal P w K mg base CX0 1 "is_paper" ["thing", "word", "width"] spForm) (c_is_of : Cal P w K mg base CX0 1 "is_of" ["thing", "width"] spOf)
    (c_is_name_vforms : Cal P w K mg base CX0 1 "is_name_vforms" ["thing"] spNameV) (c_is_rising : Cal P w K mg base CX0 1 "is_rising" ["thing"] (spRise K))
    (c_is_expression : Cal P w K mg base CX0 6 "is_expression" ["thing"] spExpr) (c_is_whole_language : Cal P w K mg base CX0 7 "is_whole_language" ["rows"] spWholeL) : FnOk P w K mg base CX0 8 f fd ["thing"] spBook := by
  refine F.ok sc_is_book (fun vs H Q E h => ?_) (fun cdv A outer s H vs Q E hr h => ?_)
  · obtain ⟨bw, n1, g1, n2, g2, x1, x2, v, rfl, _⟩ := h
    rfl
  obtain ⟨bw, n1, g1, n2, g2, x1, x2, v, rfl, ⟨hl1, hl2, hg, hz1, hz2⟩, r, q⟩ := h
  refine ⟨_, pss_cons (ps_if (PW.pt (pw_or (pt_not (pt_val (pe_cal c_is_paper (hr.mono (by omega)) rfl pass0 (pa_cons (pv 0) (pa_cons (pe_str) (pa_cons (pe_int) pa_nil)))))) (pw_or (pt_not (pt_val (pe_callB call_isK rfl (by exact T.n_isinstance) (by decide +kernel) (pa_cons (pe_ix ix_tup (pv 0) (pe_int) (fun _ _ => rfl)) (pa_cons (pe_bltn (v := .ty "tuple") rfl (by exact T.n_tuple) (by decide +kernel) rfl) pa_nil))))) (pw_or1 (pt_cmpR op_gt (pe_callB call_len_seq rfl (by exact T.n_len) PySem.boot_len (pa_cons (pe_ix ix_tup (pv 0) (pe_int) (fun _ _ => rfl)) pa_nil)) (pe_glob (v := .int 12) rfl T.g_MOST_ROWS.choose_spec ⟨_, rfl⟩) (nomark _)))))) (pss_one (ps_ret (pe_bl))) (pss_nil))
    (pss_cons (ps_if (PW.pt (pw_or (pt_not (pt_val (pe_callB (cr_all rfl) rfl (by exact T.n_all) (by decide +kernel) (pa_cons (pe_lc (own := [("row", 1)]) (g := gName 1) rfl sc_is_book.nd (pi_tup (pe_ix (ix_tupK (K := K) rfl) (pv 0) (pe_int) (fun _ _ => rfl))) (blkOk_by (own := [("row", 1)]) (N := ["thing", "row"]) (sc := defScope s_is_book) (by decide +kernel)) (fun _ _ _ _ _ => pg_name (i := 1) sc_is_book.nd rfl (Or.inl rfl)) (fun _ _ _ _ _ => pts_nil) (fun _ _ _ _ _ => pe_and (pe_cal c_is_of (hr.mono (by omega)) rfl pass0 (pa_cons (pv 1) (pa_cons (pe_int) pa_nil))) (pe_one (pe_cal c_is_name_vforms (hr.mono (by omega)) rfl pass0 (pa_cons (pe_ix (ix_tupK (K := K) rfl) (pv 1) (pe_int) (fun _ _ => rfl)) pa_nil))))) pa_nil)))) (pw_or1 (pt_not (pt_val (pe_cal c_is_rising (hr.mono (by omega)) rfl pass0 (pa_cons (pe_lc (own := [("row", 1)]) (g := gName 1) rfl sc_is_book.nd (pi_tup (pe_ix (ix_tupK (K := K) rfl) (pv 0) (pe_int) (fun _ _ => rfl))) (blkOk_by (own := [("row", 1)]) (N := ["thing", "row"]) (sc := defScope s_is_book) (by decide +kernel)) (fun _ _ _ _ _ => pg_name (i := 1) sc_is_book.nd rfl (Or.inl rfl)) (fun _ _ _ _ _ => pts_nil) (fun _ _ _ _ _ => pe_ix (ix_tupK (K := K) rfl) (pv 1) (pe_int) (fun _ _ => rfl))) pa_nil))))))) (pss_one (ps_ret (pe_bl))) (pss_nil))
    (pss_one (ps_ret (pe_and (pe_callB (cr_all rfl) rfl (by exact T.n_all) (by decide +kernel) (pa_cons (pe_lc (own := [("row", 1)]) (g := gName 1) rfl sc_is_book.nd (pi_tup (pe_ix (ix_tupK (K := K) rfl) (pv 0) (pe_int) (fun _ _ => rfl))) (blkOk_by (own := [("row", 1)]) (N := ["thing", "row"]) (sc := defScope s_is_book) (by decide +kernel)) (fun _ _ _ _ _ => pg_name (i := 1) sc_is_book.nd rfl (Or.inl rfl)) (fun _ _ _ _ _ => pts_nil) (fun _ _ _ _ _ => pe_cal c_is_expression (hr.mono (by omega)) rfl pass0 (pa_cons (pe_ix (ix_tupK (K := K) rfl) (pv 1) (pe_int) (fun _ _ => rfl)) pa_nil))) pa_nil)) (pe_one (pe_cal c_is_whole_language (hr.mono (by omega)) rfl pass0 (pa_cons (pe_ix ix_tup (pv 0) (pe_int) (fun _ _ => rfl)) pa_nil))))))), ?_⟩
  obtain ⟨a, vs, rfl, ha, rs⟩ := r.tupv
  obtain ⟨vb, us0, rfl, rb, rs0⟩ := rs.consv
  obtain ⟨vr, us1, rfl, rr, rs1⟩ := rs0.consv
  obtain rfl := rb.strv
  obtain rfl := rs1.nilv
  have hnv : namesV g1 x1 = [] := by unfold namesV; rw [if_neg hg]
  refine ⟨_, rfl, bookD bw n1 g1 x1 n2 g2 x2, _, _, 2, rfl, by decide, r, _, rfl, ?_⟩
  have ef : formB (bookD bw n1 g1 x1 n2 g2 x2) (Str.ofString "book") 2 = isW bw "book" := form2 _ _ _
  rw [ef]
  cases h0 : isW bw "book" with
  | false =>
    have eb : bookB bw n1 g1 x1 n2 g2 x2 = false := by unfold bookB; rw [h0]; rfl
    rw [eb] at q
    exact iteY rfl (q _ (Same.refl _))
  | true =>
  have rrk := rr.kind
  have rr' := rr
  obtain ⟨b, ws, rfl, hb, qs⟩ := rr.tupv
  obtain ⟨v1, us0, rfl, r1, rs0⟩ := qs.consv
  obtain ⟨v2, us1, rfl, r2, rs1⟩ := rs0.consv
  obtain rfl := rs1.nilv
  refine iteN rfl ⟨_, rfl, a, _, _, _, rfl, rfl, SqT.of ha, at1, _, _, _, _, rfl, rrk, kd_tup _, _, rfl, iteN rfl ?_⟩
  refine ⟨_, rfl, a, _, _, _, rfl, rfl, SqT.of ha, at1, b, _, rfl, .inr (SqT.of hb), _, _, rfl, rfl, _, rfl, iteN rfl ?_⟩
  obtain ⟨a1, e1, rfl, h1, q1⟩ := row_at r1
  obtain ⟨a2, e2, rfl, h2, q2⟩ := row_at r2
  refine ⟨_, rfl, a, _, _, _, rfl, rfl, SqT.of ha, at1, b, rfl, ⟨_, SqT.of hb⟩, fun L hL => lc_tup (K := K) (a := b) (xs := [.ref a1, .ref a2]) (fun i H' => H' L = some (.lst ((([nameVB (.str n1), nameVB (.str n2)] : List Bool).take i).map V.bl)) ∧ Kept L H H') ⟨by rw [upd_same]; rfl, Kept.upd⟩
    (fun i H' _ p => SqT.of (p.2 b _ (ne_of_none hb hL) hb)) ?_ ?_⟩
  · rintro i x H' hx ⟨w1, w2⟩
    have hS : Same H H' := fun c o e => w2 c o (ne_of_none e hL) e
    rcases i with _ | _ | i
    · obtain rfl : V.ref a1 = x := Option.some.inj hx
      refine ⟨rfl, _, rfl, rowD n1 g1 x1, _, _, rfl, r1.mono (Same.tup hS), _, rfl, iteT ⟨_, rfl, a1, _, _, _, rfl, rfl, SqT.of (hS _ _ h1), at0, .str n1, _, rfl, hz1, by rw [Rp], _, w1, (by show 0 < sizeLine; decide), by rw [upd_same]; rfl, w2.trans Kept.upd⟩⟩
    · obtain rfl : V.ref a2 = x := Option.some.inj hx
      refine ⟨rfl, _, rfl, rowD n2 g2 x2, _, _, rfl, r2.mono (Same.tup hS), _, rfl, iteT ⟨_, rfl, a2, _, _, _, rfl, rfl, SqT.of (hS _ _ h2), at0, .str n2, _, rfl, hz2, by rw [Rp], _, w1, (by show 1 < sizeLine; decide), by rw [upd_same]; rfl, w2.trans Kept.upd⟩⟩
    · simp at hx
  rintro H1 ⟨w1, w2⟩
  have hS1 : Same H H1 := fun c o e => w2 c o (ne_of_none e hL) e
  have w1' : H1 L = some (.lst (([nameVB (.str n1), nameVB (.str n2)] : List Bool).map V.bl)) := w1
  refine ⟨L, _, rfl, SqL.of w1', _, rfl, ?_⟩
  have ea : ([nameVB (.str n1), nameVB (.str n2)] : List Bool).all id = (nameVB (.str n1) && nameVB (.str n2)) := by simp
  have ea' : (!(([nameVB (.str n1), nameVB (.str n2)] : List Bool).all id)) = !(nameVB (.str n1) && nameVB (.str n2)) := by rw [ea]
  cases hnn : nameVB (.str n1) && nameVB (.str n2) with
  | false =>
    have eb : bookB bw n1 g1 x1 n2 g2 x2 = false := by unfold bookB; rw [h0, hnn]; rfl
    rw [eb] at q
    exact iteY (by rw [hnn] at ea'; exact ea') (q _ hS1)
  | true =>
  refine iteN (by rw [hnn] at ea'; exact ea') ?_
  have ha1 := hS1 _ _ ha
  have hb1 := hS1 _ _ hb
  refine ⟨_, rfl, a, _, _, _, rfl, rfl, SqT.of ha1, at1, b, rfl, ⟨_, SqT.of hb1⟩, fun M hM => lc_tup (K := K) (a := b) (xs := [.ref a1, .ref a2]) (fun i H' => H' M = some (.lst (([.str n1, .str n2] : List V).take i)) ∧ Kept M H1 H') ⟨by rw [upd_same]; rfl, Kept.upd⟩
    (fun i H' _ p => SqT.of (p.2 b _ (ne_of_none hb1 hM) hb1)) ?_ ?_⟩
  · rintro i x H' hx ⟨v1, v2⟩
    have hS : Same H H' := hS1.trans fun c o e => v2 c o (ne_of_none e hM) e
    rcases i with _ | _ | i
    · obtain rfl : V.ref a1 = x := Option.some.inj hx
      exact ⟨rfl, _, rfl, a1, _, _, _, rfl, rfl, SqT.of (hS _ _ h1), at0, _, v1, (by show 0 < sizeLine; decide), by rw [upd_same]; rfl, v2.trans Kept.upd⟩
    · obtain rfl : V.ref a2 = x := Option.some.inj hx
      exact ⟨rfl, _, rfl, a2, _, _, _, rfl, rfl, SqT.of (hS _ _ h2), at0, _, v1, (by show 1 < sizeLine; decide), by rw [upd_same]; rfl, v2.trans Kept.upd⟩
    · simp at hx
  rintro H2 ⟨v1, v2⟩
  have hS2 : Same H H2 := hS1.trans fun c o e => v2 c o (ne_of_none e hM) e
  refine ⟨M, n1, n2, rfl, SqL.of v1, fun H3 s3 => ⟨_, rfl, ?_⟩⟩
  have hS3 := hS2.trans s3
  cases hlt : decide (tl n1 < tl n2) with
  | false =>
    have eb : bookB bw n1 g1 x1 n2 g2 x2 = false := by unfold bookB; rw [h0, hnn, hlt]; rfl
    rw [eb] at q
    exact iteY rfl (q _ hS3)
  | true =>
  refine iteN rfl ?_
  have ha3 := hS3 _ _ ha
  have hb3 := hS3 _ _ hb
  refine ⟨_, rfl, a, _, _, _, rfl, rfl, SqT.of ha3, at1, b, rfl, ⟨_, SqT.of hb3⟩, fun N hN => lc_tup (K := K) (a := b) (xs := [.ref a1, .ref a2]) (fun i H' => H' N = some (.lst ((([leafB g1 x1, leafB g2 x2] : List Bool).take i).map V.bl)) ∧ Kept N H3 H') ⟨by rw [upd_same]; rfl, Kept.upd⟩
    (fun i H' _ p => SqT.of (p.2 b _ (ne_of_none hb3 hN) hb3)) ?_ ?_⟩
  · rintro i x H' hx ⟨u1, u2⟩
    have hS : Same H H' := hS3.trans fun c o e => u2 c o (ne_of_none e hN) e
    rcases i with _ | _ | i
    · obtain rfl : V.ref a1 = x := Option.some.inj hx
      exact ⟨rfl, _, rfl, a1, _, _, _, rfl, rfl, SqT.of (hS _ _ h1), at1, g1, x1, _, rfl, hl1, q1.mono (Same.tup hS), fun H5 s5 => ⟨_, s5 _ _ u1, (by show 0 < sizeLine; decide), by rw [upd_same]; rfl, (u2.trans (Same.kept s5)).trans Kept.upd⟩⟩
    · obtain rfl : V.ref a2 = x := Option.some.inj hx
      exact ⟨rfl, _, rfl, a2, _, _, _, rfl, rfl, SqT.of (hS _ _ h2), at1, g2, x2, _, rfl, hl2, q2.mono (Same.tup hS), fun H5 s5 => ⟨_, s5 _ _ u1, (by show 1 < sizeLine; decide), by rw [upd_same]; rfl, (u2.trans (Same.kept s5)).trans Kept.upd⟩⟩
    · simp at hx
  rintro H4 ⟨u1, u2⟩
  have hS4 : Same H H4 := hS3.trans fun c o e => u2 c o (ne_of_none e hN) e
  have u1' : H4 N = some (.lst (([leafB g1 x1, leafB g2 x2] : List Bool).map V.bl)) := u1
  have ec : ([leafB g1 x1, leafB g2 x2] : List Bool).all id = (leafB g1 x1 && leafB g2 x2) := by simp
  refine ⟨N, _, rfl, SqL.of u1', _, rfl, ?_⟩
  cases hll : leafB g1 x1 && leafB g2 x2 with
  | false =>
    have eb : bookB bw n1 g1 x1 n2 g2 x2 = false := by unfold bookB; rw [h0, hnn, hlt, hll]; rfl
    rw [eb] at q
    have e' := ec.trans hll
    exact iteN e' (q _ hS4)
  | true =>
    have eb : bookB bw n1 g1 x1 n2 g2 x2 = allIn n1 (namesV g2 x2) := by unfold bookB; rw [h0, hnn, hlt, hll]; rfl
    rw [eb] at q
    simp only [Bool.and_eq_true] at hll
    have hne : n1 ≠ n2 := fun e => by
      have := of_decide_eq_true hlt
      rw [e] at this
      exact List.lt_irrefl _ this
    exact iteY (ec.trans (by rw [hll.1, hll.2]; rfl)) ⟨_, rfl, a, _, _, _, rfl, rfl, SqT.of (hS4 _ _ ha), at1, n1, g1, n2, g2, x1, x2, _, rfl, ⟨hl1, hll.1, hl2, hll.2, hne, hnv⟩, rr'.mono (Same.tup hS4), fun H5 s5 => q _ (hS4.trans s5)⟩
/-! ### a first line's entry -/
def bookV : D → Bool
  | .tup [.str bw, .tup [.tup [.str n1, .tup [.str g1, x1]], .tup [.str n2, .tup [.str g2, x2]]]] => bookB bw n1 g1 x1 n2 g2 x2
  | _ => false
theorem bookV_D (bw n1 g1 : Str) (x1 : D) (n2 g2 : Str) (x2 : D) : bookV (bookD bw n1 g1 x1 n2 g2 x2) = bookB bw n1 g1 x1 n2 g2 x2 := rfl
def shopB (d1 : D) : List D → Bool | [_, b] => nameB d1 && bookV b | _ => false
def firstB (w : Str) (d1 : D) (r : List D) : Bool := if isW w "shop" = true then shopB d1 r else (isW w "short" && r.isEmpty)
def FirstOk (w : Str) (d1 : D) (r : List D) : Prop := isW w "shop" = true → ∀ d2 b, r = [d2, b] → small d1 ∧ ∃ bw n1 g1 x1 n2 g2 x2, b = bookD bw n1 g1 x1 n2 g2 x2 ∧ BookIs bw n1 g1 x1 n2 g2 x2
theorem shopB_no {d1 : D} : ∀ {r : List D}, r.length ≠ 2 → shopB d1 r = false
  | [], _ => rfl
  | [_], _ => rfl
  | [_, _], h => absurd rfl h
  | _ :: _ :: _ :: _, _ => rfl
def spFirst : Sp := fun vs H Q _ => ∃ (w0 : Str) (d1 : D) (r : List D) (v : V), vs = [v] ∧ FirstOk w0 d1 r ∧ Rp H (.tup (.str w0 :: d1 :: r)) v ∧ ∀ H', Same H H' → Q (.bl (firstB w0 d1 r)) H'
theorem ok_first (F : Fun K "is_first" "is_first" s_is_first f fd) (T : Txt0 mg) (c_is_name_wnames : Cal P w K mg base CX0 1 "is_name_wnames" ["thing"] spName) (c_is_book : Cal P w K mg base CX0 8 "is_book" ["thing"] spBook) : FnOk P w K mg base CX0 9 f fd ["entry"] spFirst := by
  refine F.ok sc_is_first (fun vs H Q E h => ?_) (fun cdv A outer s H vs Q E hr h => ?_)
  · obtain ⟨w0, d1, r, v, rfl, _⟩ := h
    rfl
  obtain ⟨w0, d1, ds, v, rfl, hok, r, q⟩ := h
  refine ⟨_, pss_cons (ps_if (pt_cmpR op_eq (pe_ix ix_tup (pv 0) (pe_int) (fun _ _ => rfl)) (pe_str) (nomark _)) (pss_one (ps_ret (pe_and (pe_cmpR op_eq (pe_callB call_len_seq rfl (by exact T.n_len) PySem.boot_len (pa_cons (pv 0) pa_nil)) (pe_int) (nomark _)) (pe_and (pe_cal c_is_name_wnames (hr.mono (by omega)) rfl pass0 (pa_cons (pe_ix ix_tup (pv 0) (pe_int) (fun _ _ => rfl)) pa_nil)) (pe_one (pe_cal c_is_book (hr.mono (by omega)) rfl pass0 (pa_cons (pe_ix ix_tup (pv 0) (pe_int) (fun _ _ => rfl)) pa_nil))))))) (pss_nil))
    (pss_one (ps_ret (pe_and (pe_cmpR op_eq (pe_ix ix_tup (pv 0) (pe_int) (fun _ _ => rfl)) (pe_str) (nomark _)) (pe_one (pe_cmpR op_eq (pe_callB call_len_seq rfl (by exact T.n_len) PySem.boot_len (pa_cons (pv 0) pa_nil)) (pe_int) (nomark _)))))), ?_⟩
  obtain ⟨a, vs, rfl, ha, rs⟩ := r.tupv
  obtain ⟨v0, us0, rfl, r0, rs0⟩ := rs.consv
  obtain ⟨v1, us, rfl, r1, rs1⟩ := rs0.consv
  obtain rfl := r0.strv
  have lu := rs1.length
  refine ⟨_, rfl, a, _, _, _, rfl, rfl, SqT.of ha, at0, rfl, _, rfl, ?_⟩
  rw [dec_strV]
  cases hs : decide (w0 = Str.ofString "shop") with
  | true =>
    have ef : firstB w0 d1 ds = shopB d1 ds := by unfold firstB; rw [if_pos (show isW w0 "shop" = true from hs)]
    rw [ef] at q
    refine iteT ⟨_, rfl, a, _, rfl, .inr (SqT.of ha), rfl, _, rfl, ?_⟩
    rw [dec_intV]
    by_cases h2 : ds.length = 2
    · obtain ⟨d2, b, rfl⟩ := list_two h2
      obtain ⟨hz, bw, n1, g1, x1, n2, g2, x2, rfl, hb⟩ := hok hs d2 b rfl
      obtain ⟨v2, us2, rfl, r2, rs2⟩ := rs1.consv
      obtain ⟨v3, us3, rfl, r3, rs3⟩ := rs2.consv
      obtain rfl := rs3.nilv
      have q' : ∀ H', Same H H' → Q (.bl (nameB d1 && bookB bw n1 g1 x1 n2 g2 x2)) H' := q
      refine iteY (decide_eq_true rfl) ⟨_, rfl, a, _, _, _, rfl, rfl, SqT.of ha, at1, d1, v1, rfl, hz, r1, fun H1 s1 => ⟨_, rfl, ?_⟩⟩
      cases hn : nameB d1 with
      | false => rw [hn] at q'; exact iteF (q' _ s1)
      | true =>
        rw [hn] at q'
        exact iteT ⟨_, rfl, a, _, _, _, rfl, rfl, SqT.of (s1 _ _ ha), at3, bw, n1, g1, n2, g2, x1, x2, v3, rfl, hb, r3.mono (Same.tup s1), fun H2 s2 => q' _ (s1.trans s2)⟩
    · rw [shopB_no h2] at q
      exact iteN (decide_eq_false (by rw [List.length_cons, List.length_cons, lu]; omega)) (q _ (Same.refl _))
  | false =>
    have ef : firstB w0 d1 ds = (isW w0 "short" && ds.isEmpty) := by unfold firstB; rw [if_neg (by show ¬ decide (w0 = Str.ofString "shop") = true; rw [hs]; exact Bool.false_ne_true)]
    rw [ef] at q
    refine iteF ⟨_, rfl, a, _, _, _, rfl, rfl, SqT.of ha, at0, rfl, _, rfl, ?_⟩
    rw [dec_strV]
    cases ht : decide (w0 = Str.ofString "short") with
    | false =>
      rw [show isW w0 "short" = false from ht] at q
      exact iteF (q _ (Same.refl _))
    | true =>
      rw [show isW w0 "short" = true from ht] at q
      refine iteT ⟨_, rfl, a, _, rfl, .inr (SqT.of ha), rfl, ?_⟩
      rw [dec_intV, empty_of lu]
      exact q _ (Same.refl _)
end
end Tst
namespace Tst
open PySem PySem.Spec PyProof.Rows L2 TL
section
variable {X : Cx} {x : Str} {p pos : Pos} {k : Nat} {ps : List Str} {sp : Sp} {CX : CXT} {E : L2.St → XK} {e : Expr} {es : List Expr} {t : TA}
theorem pe_calS (C : Cal X.prog X.w X.K X.mg X.base CX k x ps sp) (hr : Room k X.A) (hg : Gl X x) (hx : ∀ σ, PassesAt CX X σ (E σ))
    (ha : PA X (e :: es) t) (hdb : (x == ("__debug__" : Str)) = false := by decide) (he : starEach (e :: es) X.env = (false, eval e X.env) :: starEach es X.env := by rfl) (hpl : (backTo pos (starEach es X.env)).any (·.1) = false := by rfl) :
    PE X (.Call (.Name x p) (e :: es) [] pos) (tCallS sp E t) := by
  obtain ⟨f, fd, F, b, kp, m⟩ := C.ex
  exact pe_callS F hr hg m kp b hx ha hdb he hpl
end
section
variable {P : Program} {w : World} {K : PySem.W.Frag} {mg : Str → Option Value} {base : Heap} {f : Addr} {fd : FuncData} {C fI cc cda : Addr}
/-! ### the entry of a line's words -/
def entryB (n : Nat) (l : List Nat) : Option D := match readL l with
  | .ok (.tup (.str w :: d1 :: r)) => if (if n = 0 then firstB w d1 r else laterW w d1 r) = true then some (.tup (.str w :: d1 :: r)) else none
  | _ => none
def SafeE (n : Nat) (l : List Nat) : Prop := ∀ w d1 r, readL l = .ok (.tup (.str w :: d1 :: r)) → if n = 0 then FirstOk w d1 r else AllS nearS (.tup (.str w :: d1 :: r))
theorem entryB_none {n : Nat} {l : List Nat} {d : D} (e : readL l = .ok d) (h : ∀ w d1 r, d ≠ .tup (.str w :: d1 :: r)) : entryB n l = none := by
  unfold entryB
  rw [e]
  split
  · rename_i z
    injection z with z
    exact absurd z (h _ _ _)
  · rfl
theorem entryB_tup {n : Nat} {l : List Nat} {w : Str} {d1 : D} {r : List D} (e : readL l = .ok (.tup (.str w :: d1 :: r))) : entryB n l = if (if n = 0 then firstB w d1 r else laterW w d1 r) = true then some (.tup (.str w :: d1 :: r)) else none := by
  unfold entryB
  rw [e]
theorem two_more : ∀ {xs : List D}, ¬ xs.length < 2 → ∃ d0 d1 ds, xs = d0 :: d1 :: ds
  | [], h => absurd (by show 0 < 2; decide) h
  | [_], h => absurd (by show 1 < 2; decide) h
  | d0 :: d1 :: ds, _ => ⟨d0, d1, ds, rfl⟩
def spEntry : Sp := fun vs H Q _ => ∃ (z : Str) (n : Nat), vs = [.str z, .int ((n : Nat) : Int)] ∧ (z.length ≤ 1000000 ∧ SafeE n (tl z)) ∧
  (entryB n (tl z) = none → ∀ H', Same H H' → Q .non H') ∧ (∀ d, entryB n (tl z) = some d → ∀ (t : Addr) (v : V) (H' : Hp), Same H H' → H' t = some (.tup [v]) → Rp H' d v → Q (.ref t) H')
theorem ok_entry {n : Nat} (F : Fun K "entry_of" "entry_of" s_entry_of f fd) (T : Txt0 mg) (B : Bp P K mg C fI cc cda) (h9 : 9 ≤ n) (c_read_plain : Cal P w K mg base (L2.CX P w) n "read_plain" ["text"] (spRead C))
    (c_is_first : Cal P w K mg base CX0 9 "is_first" ["entry"] spFirst) (c_is_later : Cal P w K mg base CX0 4 "is_later" ["entry"] spLater) : FnOk P w K mg base CX0 (n + 1) f fd ["text", "n"] spEntry := by
  refine F.ok sc_entry_of (fun vs H Q E h => ?_) (fun cdv A outer s H vs Q E hr h => ?_)
  · obtain ⟨z, m, rfl, _⟩ := h
    rfl
  obtain ⟨z, m, rfl, ⟨hz, hsafe⟩, qn, qs⟩ := h
  have hr1 : Room n _ := hr.mono (by omega)
  refine ⟨_, pss_cons ((ps_try_only (tb := fun W => tAsg (tCallS (spRead C) (WE W) (tCons (tVar 0) tNil)) (gName 2)) (Wout := fun _ _ _ _ => False) rfl rfl ⟨rfl, by decide, Or.inl B.bp.gC⟩ takes0 (fun W pn xe tk _ => pss_one (ps_set (i := 2) sc_entry_of.nd rfl (Or.inl rfl) (by exact (pe_calS c_read_plain hr1 rfl (fun σ => passAt tk σ) (by exact (pa_cons (pv 0) pa_nil)))))) (fun a oe cls d pn hz hf => pss_one (ps_ret pe_non))))
    (pss_cons (ps_if (PW.pt (pw_or (pt_not (pt_val (pe_callB call_isK rfl (by exact T.n_isinstance) (by decide +kernel) (pa_cons (pv 2) (pa_cons (pe_bltn (v := .ty "tuple") rfl (by exact T.n_tuple) (by decide +kernel) rfl) pa_nil))))) (pw_or (pt_cmpR op_lt (pe_callB call_len_seq rfl (by exact T.n_len) PySem.boot_len (pa_cons (pv 2) pa_nil)) (pe_int) (nomark _)) (pw_or1 (pt_not (pt_val (pe_callB call_isK rfl (by exact T.n_isinstance) (by decide +kernel) (pa_cons (pe_ix ix_tup (pv 2) (pe_int) (fun _ _ => rfl)) (pa_cons (pe_bltn (v := .ty "str") rfl (by exact T.n_str) (by decide +kernel) rfl) pa_nil))))))))) (pss_one (ps_ret (pe_non))) (pss_nil))
    (pss_cons (ps_set (i := 3) sc_entry_of.nd rfl (Or.inl rfl) (pe_ifExp (pt_cmpR op_eq (pv 1) (pe_int) (nomark _)) (pe_cal c_is_first (hr.mono (by omega)) rfl pass0 (pa_cons (pv 2) pa_nil)) (pe_cal c_is_later (hr.mono (by omega)) rfl pass0 (pa_cons (pv 2) pa_nil))))
    (pss_one (ps_ret (pe_ifExp (pt_val (pv 3)) (pe_tup (pa_cons (pv 2) pa_nil)) (pe_non)))))), ?_⟩
  refine ⟨_, rfl, z, rfl, hz, fun d e v H1 s1 r => ?_, fun q e d H1 s1 hd => ⟨true, B.bp.te, fun _ a ha => ?_, fun h => nomatch h⟩⟩
  · have hk := r.kind
    refine ⟨_, rfl, _, _, _, _, rfl, hk, kd_tup d, _, rfl, ?_⟩
    cases d with
    | tup xs =>
      obtain ⟨a, vs, rfl, ha, rs⟩ := r.tupv
      have lv := rs.length
      refine iteN rfl ⟨_, rfl, a, _, rfl, .inr (SqT.of ha), _, _, rfl, rfl, _, rfl, ?_⟩
      by_cases h2 : xs.length < 2
      · exact iteY (decide_eq_true (by omega)) (qn (entryB_none e fun w d1 r z => by injection z with z; subst z; rw [List.length_cons, List.length_cons] at h2; omega) _ s1)
      refine iteN (decide_eq_false (by omega)) ?_
      obtain ⟨d0, d1, ds, rfl⟩ := two_more h2
      obtain ⟨v0, us0, rfl, r0, rs0⟩ := rs.consv
      obtain ⟨v1, us, rfl, r1, rs1⟩ := rs0.consv
      refine ⟨_, rfl, a, _, _, _, rfl, rfl, SqT.of ha, at0, _, _, _, _, rfl, r0.kind, kd_str d0, _, rfl, ?_⟩
      cases d0 with
      | str w0 =>
        have hsf := hsafe w0 d1 ds e
        have eB := entryB_tup (n := m) e
        refine iteN rfl ?_
        have rt := r.mono (Same.tup (Same.refl H1))
        have done : ∀ (b : Bool) (H2 : Hp), Same H1 H2 → b = (if m = 0 then firstB w0 d1 ds else laterW w0 d1 ds) → if b = true then ∀ t, H2 t = none → Q (.ref t) (upd H2 t (.tup [.ref a])) else Q .non H2 := fun b H2 s2 hb => by
          rw [← hb] at eB
          cases b with
          | true => exact iteT fun t ht => qs _ eB t _ _ ((s1.trans s2).trans (same_new ht _)) upd_same (r.mono (Same.tup (s2.trans (same_new ht _))))
          | false => exact iteF (qn eB _ (s1.trans s2))
        refine ⟨_, rfl, rfl, _, rfl, ?_⟩
        rw [dec_intV]
        by_cases hm : m = 0
        · rw [if_pos hm] at hsf
          refine iteY (decide_eq_true (by omega)) ⟨_, rfl, w0, d1, ds, _, rfl, hsf, r, fun H2 s2 => ⟨_, rfl, _, rfl, ?_⟩⟩
          have z := done _ H2 s2 (by rw [if_pos hm])
          cases hb : firstB w0 d1 ds with
          | true => rw [hb] at z; exact iteT ⟨_, rfl, (by show 1 ≤ sizeLine; decide), z⟩
          | false => rw [hb] at z; exact iteF z
        · rw [if_neg hm] at hsf
          refine iteN (decide_eq_false (by omega)) ⟨_, rfl, w0, d1, ds, _, rfl, hsf, r, fun H2 s2 => ⟨_, rfl, _, rfl, ?_⟩⟩
          have z := done _ H2 s2 (by rw [if_neg hm])
          cases hb : laterW w0 d1 ds with
          | true => rw [hb] at z; exact iteT ⟨_, rfl, (by show 1 ≤ sizeLine; decide), z⟩
          | false => rw [hb] at z; exact iteF z
      | _ => exact iteY rfl (qn (entryB_none e fun w d1 r z => by injection z with z; injection z with z; cases z) _ s1)
    | _ => exact iteY rfl (qn (entryB_none e fun w d1 r z => by cases z) _ s1)
  · have e0 : entryB m (tl z) = none := by unfold entryB; rw [e]
    exact qn e0 _ s1
end
end Tst
namespace Tst
open PySem PySem.Spec PyProof.Rows L2 TL
/-! ### a row cut at its first blank -/
def cutAt : List Nat → List Nat × Option (List Nat)
  | [] => ([], none)
  | c :: r => if c = 32 then ([], some r) else (c :: (cutAt r).1, (cutAt r).2)
theorem cutAt_none : ∀ {a : List Nat}, 32 ∉ a → cutAt a = (a, none)
  | [], _ => rfl
  | c :: r, h => by
    have hc : ¬ c = 32 := fun e => h (by rw [e]; exact List.mem_cons_self)
    unfold cutAt
    rw [if_neg hc, cutAt_none fun z => h (List.mem_cons_of_mem _ z)]
theorem cutAt_app : ∀ {a : List Nat} (b : List Nat), 32 ∉ a → cutAt (a ++ 32 :: b) = (a, some b)
  | [], b, _ => rfl
  | c :: r, b, h => by
    have hc : ¬ c = 32 := fun e => h (by rw [e]; exact List.mem_cons_self)
    rw [List.cons_append, cutAt, if_neg hc, cutAt_app b fun z => h (List.mem_cons_of_mem _ z)]
theorem cutAt_cases (l : List Nat) : (32 ∉ l ∧ cutAt l = (l, none)) ∨ ∃ a b, 32 ∉ a ∧ l = a ++ 32 :: b ∧ cutAt l = (a, some b) := by
  by_cases h : 32 ∈ l
  · obtain ⟨a, b, rfl, ha⟩ := List.eq_append_cons_of_mem h
    exact .inr ⟨a, b, ha, rfl, cutAt_app b ha⟩
  · exact .inl ⟨h, cutAt_none h⟩
/-- the parts of a text cut at its first blank -/
theorem part_blank (z : Str) : Txt.partition z (Str.ofString " ") = (strOf (cutAt (tl z)).1, (if (cutAt (tl z)).2.isSome = true then Str.ofString " " else Str.empty), strOf ((cutAt (tl z)).2.getD [])) := by
  have eb : tl (Str.ofString " ") = 32 :: [] := by decide +kernel
  have ez : z = strOf (tl z) := (mk_tl z).symm
  rcases cutAt_cases (tl z) with ⟨h, e⟩ | ⟨a, b, h, e0, e⟩
  · rw [e, TL.partition_none eb h]
    show (z, Str.empty, Str.empty) = (strOf (tl z), Str.empty, strOf [])
    rw [← ez]
    rfl
  · rw [e]
    have e1 : z = strOf a ++ Str.ofString " " ++ strOf b := ext_tl (by rw [e0, tl_append, tl_append, eb]; show a ++ 32 :: b = (a ++ [32]) ++ b; simp)
    conv => lhs; rw [e1]
    rw [TL.partition_app eb (a := strOf a) (b := strOf b) h]
    rfl
theorem cutLast (xs : List V) : cutV xs none (some (-1)) = xs.dropLast := by
  unfold cutV
  have e1 : HT.sIx xs.length 0 none = 0 := rfl
  have e2 : HT.sIx xs.length xs.length (some (-1)) = xs.length - 1 := by
    show (if (-1 : Int) < 0 then ((-1 : Int) + (xs.length : Int)).toNat else min (-1 : Int).toNat xs.length) = _
    rw [if_pos (by decide)]
    omega
  rw [e1, e2, List.drop_zero, Nat.sub_zero, List.dropLast_eq_take]
theorem split10 (z : Str) : (Txt.split z (Str.ofString "\n")) = (TL.spl [10] 0 [] (tl z)).map strOf := by
  have e := SX.split_S (a := tl z) (b := [10]) (by simp) (by decide)
  have e0 : SX.S (tl z) = z := mk_tl z
  rw [e0] at e
  rw [e10]
  exact e
theorem spl_mem : ∀ (l acc : List Nat), ∀ r ∈ TL.spl [10] 0 acc l, r.length ≤ acc.length + l.length ∧ ∀ c ∈ r, c ∈ acc ∨ c ∈ l
  | [], acc, r, h => by
    rw [TL.spl_nil, List.mem_singleton] at h
    subst h
    exact ⟨by simp, fun c hc => .inl hc⟩
  | x :: l, acc, r, h => by
    by_cases hx : x = 10
    · have hp : TL.pre [10] (x :: l) = true := by rw [hx]; rfl
      rw [TL.spl_hit hp] at h
      rcases List.mem_cons.mp h with rfl | h
      · exact ⟨by simp, fun c hc => .inl hc⟩
      · obtain ⟨h1, h2⟩ := spl_mem l [] r h
        exact ⟨by rw [List.length_nil] at h1; rw [List.length_cons]; omega, fun c hc => by
          rcases h2 c hc with z | z
          · cases z
          · exact .inr (List.mem_cons_of_mem _ z)⟩
    · rw [TL.spl_miss (TL.pre_of_head [] l hx)] at h
      obtain ⟨h1, h2⟩ := spl_mem l (acc ++ [x]) r h
      refine ⟨by rw [List.length_append] at h1; rw [List.length_cons]; simp at h1; omega, fun c hc => ?_⟩
      rcases h2 c hc with z | z
      · rcases List.mem_append.mp z with z | z
        · exact .inl z
        · exact .inr (by rw [List.mem_singleton.mp z]; exact List.mem_cons_self)
      · exact .inr (List.mem_cons_of_mem _ z)
theorem spl_few : ∀ (l acc : List Nat), (TL.spl [10] 0 acc l).length ≤ l.length + 1
  | [], acc => by rw [TL.spl_nil]; simp
  | x :: l, acc => by
    by_cases hx : x = 10
    · have hp : TL.pre [10] (x :: l) = true := by rw [hx]; rfl
      rw [TL.spl_hit hp, List.length_cons, List.length_cons]
      have := spl_few l []
      simp only [List.length_cons, List.length_nil, Nat.sub_self] at this ⊢
      omega
    · rw [TL.spl_miss (TL.pre_of_head [] l hx), List.length_cons]
      have := spl_few l (acc ++ [x])
      omega
theorem cut_mem : ∀ (l : List Nat), (cutAt l).1.length ≤ l.length ∧ ((cutAt l).2.getD []).length ≤ l.length ∧ ∀ c ∈ (cutAt l).2.getD [], c ∈ l
  | [] => ⟨Nat.le_refl _, Nat.le_refl _, fun c h => h⟩
  | x :: l => by
    obtain ⟨h1, h2, h3⟩ := cut_mem l
    by_cases hx : x = 32
    · have e : cutAt (x :: l) = ([], some l) := by rw [cutAt, if_pos hx]
      rw [e]
      exact ⟨Nat.zero_le _, by simp, fun c hc => List.mem_cons_of_mem _ hc⟩
    · have e : cutAt (x :: l) = (x :: (cutAt l).1, (cutAt l).2) := by rw [cutAt, if_neg hx]
      rw [e]
      exact ⟨by simp only [List.length_cons]; omega, by simp only [List.length_cons]; omega, fun c hc => List.mem_cons_of_mem _ (h3 c hc)⟩
theorem decS (a b : List Nat) : decide (V.str (strOf a) = V.str (strOf b)) = decide (a = b) := by
  by_cases h : a = b
  · rw [h, decide_eq_true rfl, decide_eq_true rfl]
  · rw [decide_eq_false h, decide_eq_false fun e => h (by injection e with e; exact congrArg tl e)]
theorem blank_none {o : Option (List Nat)} : decide (V.str (if o.isSome = true then Str.ofString " " else Str.empty) = V.str (Str.ofString "")) = !o.isSome := by
  cases o with
  | none => decide +kernel
  | some x => show decide (V.str (Str.ofString " ") = V.str (Str.ofString "")) = false; decide +kernel
def stepJ (n b : Nat) (row : List Nat) : Option (D × Nat) :=
  if (cutAt row).1 = numL n then
    match (cutAt ((cutAt row).2.getD [])).2 with
    | none => none
    | some words => match entryB n words with
      | none => none
      | some d => if (cutAt ((cutAt row).2.getD [])).1 = numL (sumB n b words) then some (d, sumB n b words) else none
  else none
def SafeR (n : Nat) (row : List Nat) : Prop := ∀ words, (cutAt row).1 = numL n → (cutAt ((cutAt row).2.getD [])).2 = some words → SafeE n words
def readJ : Nat → Nat → List (List Nat) → List D × Nat
  | _, _, [] => ([], 0)
  | n, b, row :: rows => match stepJ n b row with
    | none => ([], 0)
    | some (d, s) => (d :: (readJ (n + 1) s rows).1, row.length + 1 + (readJ (n + 1) s rows).2)
def SafeJ : Nat → Nat → List (List Nat) → Prop
  | _, _, [] => True
  | n, b, row :: rows => SafeR n row ∧ ∀ d s, stepJ n b row = some (d, s) → SafeJ (n + 1) s rows
def rowsL (l : List Nat) : List (List Nat) := (TL.spl [10] 0 [] l).dropLast
theorem rp_two {H : Hp} {ds : List D} {us : List V} {t u : Addr} {g : Nat} (hr : Rps H ds us) (ht : H t = none) (hu : (upd H t (.tup us)) u = none) :
    Rp (upd (upd H t (.tup us)) u (.tup [.ref t, .int ((g : Nat) : Int)])) (.tup [.tup ds, .int ((g : Nat) : Int)]) (.ref u) := by
  rw [Rp]
  refine ⟨u, _, rfl, upd_same, ?_⟩
  rw [Rps]
  refine ⟨_, _, rfl, ?_, ?_⟩
  · rw [Rp]
    exact ⟨t, us, rfl, (same_new hu _) _ _ upd_same, hr.mono (Same.tup ((same_new ht _).trans (same_new hu _)))⟩
  · rw [Rps]
    exact ⟨_, _, rfl, by rw [Rp], by rw [Rps]⟩
section
variable {P : Program} {w : World} {K : PySem.W.Frag} {mg : Str → Option Value} {base : Heap} {f : Addr} {fd : FuncData}
def spJournal : Sp := fun vs H Q _ => ∃ z : Str, vs = [.str z] ∧ (z.length ≤ 100000 ∧ (∀ c ∈ tl z, 0 < c) ∧ SafeJ 0 0 (rowsL (tl z))) ∧
  ∀ (v : V) (H' : Hp), Same H H' → Rp H' (.tup [.tup (readJ 0 0 (rowsL (tl z))).1, .int (((readJ 0 0 (rowsL (tl z))).2 : Nat) : Int)]) v → Q v H'
theorem ok_journal {n : Nat} (F : Fun K "read_journal" "read_journal" s_read_journal f fd) (T : Txt0 mg) (c_sum_behind : Cal P w K mg base CX0 1 "sum_behind" ["n", "before", "text"] spSum) (h1 : 1 ≤ n)
    (c_entry_of : Cal P w K mg base CX0 n "entry_of" ["text", "n"] spEntry) : FnOk P w K mg base CX0 (n + 1) f fd ["text"] spJournal := by
  refine F.ok sc_read_journal (fun vs H Q E h => ?_) (fun cdv A outer s H vs Q E hr h => ?_)
  · obtain ⟨z, rfl, _⟩ := h
    rfl
  obtain ⟨z, rfl, ⟨hz, hpos, hsafe⟩, q⟩ := h
  refine ⟨_, pss_cons (ps_set (i := 1) sc_read_journal.nd rfl (Or.inl rfl) (pe_lst (pa_nil)))
    (pss_cons (ps_set (i := 2) sc_read_journal.nd rfl (Or.inl rfl) (pe_int))
    (pss_cons (ps_set (i := 3) sc_read_journal.nd rfl (Or.inl rfl) (pe_int))
    (C8.pss_cut (ps_for PassesOwn.never rfl (pi_enum rfl (by exact T.n_enumerate) (pa_cons (pe_slice sl_list (pe_split (pv 0) (pe_str)) (po_none) (po_some (pe_un un_neg (pe_int)))) pa_nil)) (pg_tup rfl (pgs_cons (pg_name (i := 4) sc_read_journal.nd rfl (Or.inl rfl)) (pgs_cons (pg_name (i := 5) sc_read_journal.nd rfl (Or.inl rfl)) pgs_nil))) (pss_cons (ps_asg (pe_partition (pv 5) (pe_str)) (pg_tup rfl (pgs_cons (pg_name (i := 6) sc_read_journal.nd rfl (Or.inl rfl)) (pgs_cons (pg_name (i := 7) sc_read_journal.nd rfl (Or.inl rfl)) (pgs_cons (pg_name (i := 8) sc_read_journal.nd rfl (Or.inl rfl)) pgs_nil)))))
    (pss_cons (ps_asg (pe_partition (pv 8) (pe_str)) (pg_tup rfl (pgs_cons (pg_name (i := 9) sc_read_journal.nd rfl (Or.inl rfl)) (pgs_cons (pg_name (i := 10) sc_read_journal.nd rfl (Or.inl rfl)) (pgs_cons (pg_name (i := 11) sc_read_journal.nd rfl (Or.inl rfl)) pgs_nil)))))
    (pss_cons (ps_if (PW.pt (pw_or (pt_cmpR op_ne (pv 6) (pe_callTy call_str_int rfl (by exact T.n_str) (by decide +kernel) (pa_cons (pv 4) pa_nil)) (nomark _)) (pw_or1 (pt_cmpR op_eq (pv 10) (pe_str) (nomark _))))) (pss_one (ps_break)) (pss_nil))
    (pss_cons (ps_set (i := 3) sc_read_journal.nd rfl (Or.inl rfl) (pe_cal c_sum_behind (hr.mono (by omega)) rfl pass0 (pa_cons (pv 4) (pa_cons (pv 3) (pa_cons (pv 11) pa_nil)))))
    (pss_cons (ps_set (i := 12) sc_read_journal.nd rfl (Or.inl rfl) (pe_cal c_entry_of (hr.mono (by omega)) rfl pass0 (pa_cons (pv 11) (pa_cons (pv 4) pa_nil))))
    (pss_cons (ps_if (PW.pt (pw_or (pt_cmpR op_ne (pv 9) (pe_callTy call_str_int rfl (by exact T.n_str) (by decide +kernel) (pa_cons (pv 3) pa_nil)) (nomark _)) (pw_or1 (pt_cmpR op_isN (pv 12) (pe_non) (nomark _))))) (pss_one (ps_break)) (pss_nil))
    (pss_cons (ps_expr (pe_bm PySem.F.plainAttrs_list PySem.F.slot_list_append PySem.F.type_list_append mt_append (pv 1) (pa_cons (pe_ix ix_tup (pv 12) (pe_int) (fun _ _ => rfl)) pa_nil)))
    (pss_one (ps_aug (i := 2) sc_read_journal.nd rfl (Or.inl rfl) (pe_op op_add (pe_callB call_len_str rfl (by exact T.n_len) PySem.boot_len (pa_cons (pv 5) pa_nil)) (pe_int)) ip_add))))))))))
    (pss_one (ps_ret (pe_tup (pa_cons (pe_callTy call_tuple_of rfl (by exact T.n_tuple) (by decide +kernel) (pa_cons (pv 1) pa_nil)) (pa_cons (pv 2) pa_nil)))))))), ?_⟩
  refine ⟨by show 0 ≤ sizeLine; decide, fun E0 hE0 => ?_⟩
  have hL := len_tl z
  refine ⟨fun σ' H' => ∃ ds g us x3 x4 x5 x6 x7 x8 x9 x10 x11 x12, H' E0 = some (.lst us) ∧ Rps H' ds us ∧ readJ 0 0 (rowsL (tl z)) = (ds, g) ∧ Same H H' ∧ σ' = [some (.str z), some (.ref E0), some (.int ((g : Nat) : Int)), x3, x4, x5, x6, x7, x8, x9, x10, x11, x12], ?_, ?_⟩
  case refine_2 =>
    rintro σ' H' ⟨ds, g, us, x3, x4, x5, x6, x7, x8, x9, x10, x11, x12, hE, hr1, hj, hS, rfl⟩
    refine ⟨_, rfl, E0, us, rfl,   .inl ⟨SqL.of hE, fun t ht => ⟨_, rfl, (by show 2 ≤ sizeLine; decide), fun u hu => q _ _ ((hS.trans (same_new ht _)).trans (same_new hu _)) ?_⟩⟩⟩
    rw [hj]
    exact rp_two hr1 ht hu
  refine ⟨_, rfl, ⟨z, rfl⟩, z, _, rfl, rfl, (by decide +kernel), small16 (by omega), fun L1 hL1 => ⟨_, rfl, _, rfl, L1, _, rfl, SqL.of upd_same, fun L2 hL2 => ?_⟩⟩
  rw [split10] at hL2 ⊢
  rw [cutLast, ← List.map_dropLast, ← List.map_dropLast]
  have nLE : L1 ≠ E0 := fun e => by rw [e, upd_same] at hL1; cases hL1
  have n2E : L2 ≠ E0 := fun e => by rw [e, upd_ne (Ne.symm nLE), upd_same] at hL2; cases hL2
  have n21 : L2 ≠ L1 := fun e => by rw [e, upd_same] at hL2; cases hL2
  have f1 : H L1 = none := by rw [upd_ne nLE] at hL1; exact hL1
  have f2 : H L2 = none := by rw [upd_ne n21, upd_ne n2E] at hL2; exact hL2
  have hrs : (TL.spl [10] 0 [] (tl z)).dropLast = rowsL (tl z) := rfl
  rw [hrs]
  generalize hrows : rowsL (tl z) = rs at hsafe q ⊢
  refine ⟨L2, _, rfl, SqL.of upd_same, for_it (walk_enum (xs := (rs.map strOf).map V.str)) (fun i σ' H' => ∃ ds g b us x4 x5 x6 x7 x8 x9 x10 x11 x12, H' E0 = some (.lst us) ∧ H' L2 = some (.lst ((rs.map strOf).map V.str)) ∧ Rps H' ds us ∧ ds.length = i ∧ readJ 0 0 rs = (ds ++ (readJ i b (rs.drop i)).1, g + (readJ i b (rs.drop i)).2) ∧ SafeJ i b (rs.drop i) ∧ Same H H' ∧
    σ' = [some (.str z), some (.ref E0), some (.int ((g : Nat) : Int)), some (.int ((b : Nat) : Int)), x4, x5, x6, x7, x8, x9, x10, x11, x12]) ?_ ?_ ?_ ?_⟩
  · refine ⟨[], 0, 0, [], _, _, _, _, _, _, _, _, _, ?_, upd_same, Rps.nil, rfl, ?_, hsafe, ?_, rfl⟩
    · rw [upd_ne (Ne.symm n2E), upd_ne (Ne.symm nLE), upd_same]
    · rw [List.drop_zero, List.nil_append, Nat.zero_add]
    · intro c o e
      rw [upd_ne (ne_of_none e f2), upd_ne (ne_of_none e f1), upd_ne (ne_of_none e hE0)]
      exact e
  · rintro i σ' H' _ ⟨ds, g, b, us, x4, x5, x6, x7, x8, x9, x10, x11, x12, hE, h2, _⟩
    exact SqL.of h2
  · rintro i x σ' H' H1 hi ⟨ds, g, b, us, x4, x5, x6, x7, x8, x9, x10, x11, x12, hE, h2, hr1, hlen, hj, hsf, hS, rfl⟩ ⟨t, x0, y0, rfl, ht, rfl, e1, e2⟩
    rw [List.length_map, List.length_map] at hi
    obtain rfl : V.int ((i : Nat) : Int) = x0 := Option.some.inj e1
    obtain ⟨row, hrow⟩ : ∃ row, rs[i]? = some row := ⟨rs[i], List.getElem?_eq_getElem hi⟩
    obtain rfl : V.str (strOf row) = y0 := by
      simp only [List.getElem?_map, hrow, Option.map_some, Option.some.injEq] at e2
      exact e2
    have hdrop : rs.drop i = row :: rs.drop (i + 1) := by
      rw [List.drop_eq_getElem_cons hi]
      rw [List.getElem?_eq_getElem hi] at hrow
      rw [Option.some.inj hrow]
    have hmem : row ∈ TL.spl [10] 0 [] (tl z) := List.dropLast_subset _ (by
      show row ∈ rowsL (tl z)
      rw [hrows]
      exact List.mem_of_getElem? hrow)
    obtain ⟨hrl, hrm⟩ := spl_mem _ _ _ hmem
    have hri : i ≤ 200000 := by
      have hq := spl_few (tl z) []
      have hq2 : rs.length ≤ (TL.spl [10] 0 [] (tl z)).length := by rw [← hrows]; show (List.dropLast _).length ≤ _; rw [List.length_dropLast]; omega
      omega
    rw [hdrop] at hj hsf
    have hE1 : upd H' t (.tup [V.int ((i : Nat) : Int), V.str (strOf row)]) E0 = some (.lst us) := by rw [upd_ne (ne_of_none hE ht)]; exact hE
    have s1 := same_new ht (.tup [V.int ((i : Nat) : Int), V.str (strOf row)])
    have h0 : stepJ i b row = none → readJ 0 0 rs = (ds, g) := fun e => by
      rw [hj]
      have e3 : readJ i b (row :: rs.drop (i + 1)) = ([], 0) := by rw [readJ, e]
      rw [e3]
      simp
    rw [List.length_nil, Nat.zero_add] at hrl
    obtain ⟨c1, c2, c3⟩ := cut_mem row
    have pb1 := part_blank (strOf row)
    rw [show tl (strOf row) = row from rfl] at pb1
    refine ⟨t, _, rfl, SqT.of upd_same, rfl, _, _, rfl, _, _, rfl, rfl, _, rfl, ⟨_, rfl⟩, strOf row, _, rfl, rfl, (by decide +kernel), small16 (by rw [len_strOf]; omega), fun p1 hp1 => ?_⟩
    rw [pb1]
    refine ⟨p1, _, rfl, SqT.of upd_same, rfl, _, _, rfl, _, _, rfl, _, _, rfl, rfl, ?_⟩
    have pb2 := part_blank (strOf ((cutAt row).2.getD []))
    rw [show tl (strOf ((cutAt row).2.getD [])) = (cutAt row).2.getD [] from rfl] at pb2
    obtain ⟨k1, k2, k3⟩ := cut_mem ((cutAt row).2.getD [])
    refine ⟨_, rfl, ⟨_, rfl⟩, strOf ((cutAt row).2.getD []), _, rfl, rfl, (by decide +kernel), small16 (by rw [len_strOf]; omega), fun p2 hp2 => ?_⟩
    rw [pb2]
    refine ⟨p2, _, rfl, SqT.of upd_same, rfl, _, _, rfl, _, _, rfl, _, _, rfl, rfl, ?_⟩
    have s3 := (s1.trans (same_new hp1 (.tup [V.str (strOf (cutAt row).1), V.str (if (cutAt row).2.isSome = true then Str.ofString " " else Str.empty), V.str (strOf ((cutAt row).2.getD []))]))).trans (same_new hp2 (.tup [V.str (strOf (cutAt ((cutAt row).2.getD [])).1), V.str (if (cutAt ((cutAt row).2.getD [])).2.isSome = true then Str.ofString " " else Str.empty), V.str (strOf ((cutAt ((cutAt row).2.getD [])).2.getD []))]))
    revert s3
    generalize upd (upd (upd H' t _) p1 _) p2 _ = H2
    intro s3
    have sS := hS.trans s3
    have hE2 := s3 _ _ hE
    have h22 := s3 _ _ h2
    have hr2 := hr1.mono (Same.tup s3)
    have ei : Str.ofString (toString ((i : Nat) : Int)) = strOf (numL i) := num_nat i
    refine ⟨_, rfl, _, rfl, _, rfl, log_place (by omega), rfl, _, rfl, ?_⟩
    rw [ei, decS]
    by_cases hA : (cutAt row).1 = numL i
    case neg =>
      have hst : stepJ i b row = none := by unfold stepJ; rw [if_neg hA]
      exact iteY (by rw [decide_eq_false hA]; rfl) ⟨ds, g, us, _, _, _, _, _, _, _, _, _, _, hE2, hr2, h0 hst, sS, rfl⟩
    refine iteN (by rw [decide_eq_true hA]; rfl) ⟨_, rfl, rfl, _, rfl, ?_⟩
    rw [blank_none]
    cases hW : (cutAt ((cutAt row).2.getD [])).2 with
    | none =>
      have hst : stepJ i b row = none := by unfold stepJ; rw [if_pos hA, hW]
      exact iteY rfl ⟨ds, g, us, _, _, _, _, _, _, _, _, _, _, hE2, hr2, h0 hst, sS, rfl⟩
    | some words =>
    have es : Str.ofString (toString ((sumB i b (tl (strOf words)) : Nat) : Int)) = strOf (numL (sumB i b words)) := num_nat _
    have hwl : words.length ≤ z.length := by rw [hW] at k2; simp only [Option.getD_some] at k2; omega
    have hwp : ∀ c ∈ words, 0 < c := fun c hc => by
      rw [hW] at k3
      rcases hrm c (c3 c (k3 c hc)) with x | x
      · cases x
      · exact hpos c x
    have hsE : SafeE i words := hsf.1 words hA hW
    refine iteN rfl ⟨_, rfl, _, rfl, _, rfl, i, b, strOf words, rfl, ⟨by rw [len_strOf]; omega, hwp⟩, fun H3 s4 => ?_⟩
    refine ⟨_, rfl, _, rfl, strOf words, i, rfl, ⟨by rw [len_strOf]; omega, hsE⟩, fun hn H4 s5 => ?_, fun d hd t3 v3 H4 s5 ht3 r3 => ?_⟩
    · have hn' : entryB i words = none := hn
      have hst : stepJ i b row = none := by unfold stepJ; rw [if_pos hA, hW]; simp only; rw [hn']
      have s45 := s4.trans s5
      have brk := h0 hst
      refine ⟨_, rfl, _, rfl, _, rfl, log_place (by have := sumB_lt i b words; show sumB i b words ≤ 2000000; omega), rfl, _, rfl, ?_⟩
      rw [es, decS]
      by_cases hw : (cutAt ((cutAt row).2.getD [])).1 = numL (sumB i b words)
      · exact iteN (by rw [decide_eq_true hw]; rfl) ⟨_, rfl, rfl, _, rfl, iteY (decide_eq_true rfl) ⟨ds, g, us, _, _, _, _, _, _, _, _, _, _, s45 _ _ hE2, hr2.mono (Same.tup s45), brk, sS.trans s45, rfl⟩⟩
      · exact iteY (by rw [decide_eq_false hw]; rfl) ⟨ds, g, us, _, _, _, _, _, _, _, _, _, _, s45 _ _ hE2, hr2.mono (Same.tup s45), brk, sS.trans s45, rfl⟩
    · have hd' : entryB i words = some d := hd
      have s45 := s4.trans s5
      refine ⟨_, rfl, _, rfl, _, rfl, log_place (by have := sumB_lt i b words; show sumB i b words ≤ 2000000; omega), rfl, _, rfl, ?_⟩
      rw [es, decS]
      by_cases hw : (cutAt ((cutAt row).2.getD [])).1 = numL (sumB i b words)
      case neg =>
        have hst : stepJ i b row = none := by unfold stepJ; rw [if_pos hA, hW]; simp only; rw [hd']; simp only; rw [if_neg hw]
        exact iteY (by rw [decide_eq_false hw]; rfl) ⟨ds, g, us, _, _, _, _, _, _, _, _, _, _, s45 _ _ hE2, hr2.mono (Same.tup s45), h0 hst, sS.trans s45, rfl⟩
      have hst : stepJ i b row = some (d, sumB i b words) := by unfold stepJ; rw [if_pos hA, hW]; simp only; rw [hd']; simp only; rw [if_pos hw]
      have hE5 := s45 _ _ hE2
      have ku : us.length ≤ 200000 := by rw [hr1.length, hlen]; exact hri
      refine iteN (by rw [decide_eq_true hw]; rfl) ⟨_, rfl, rfl, _, rfl, iteN (decide_eq_false (by intro e; cases e)) ?_⟩
      refine ⟨_, rfl, .inl ⟨rfl, us, SqL.of hE5⟩, _, rfl, t3, _, _, _, rfl, rfl, SqT.of ht3, at0, E0, us, v3, rfl, rfl, hE5, Nat.lt_of_le_of_lt ku (by decide), ?_⟩
      have hk : Tup H4 (upd H4 E0 (.lst (us ++ [v3]))) := fun c xs e => by
        rw [upd_ne (fun x => by rw [x, hE5] at e; cases e)]
        exact e
      have eg : (((g + (row.length + 1) : Nat)) : Int) = (g : Int) + ((((strOf row).length : Nat) : Int) + 1) := by rw [len_strOf]; omega
      refine ⟨_, rfl, _, rfl, strOf row, rfl, small16 (by rw [len_strOf]; omega), _, _, rfl, rfl, _, _, rfl, rfl, ?_⟩
      refine ⟨ds ++ [d], g + (row.length + 1), sumB i b words, us ++ [v3], _, _, _, _, _, _, _, _, _, upd_same, ?_, Rps.append (r3.mono hk) ((hr2.mono (Same.tup s45)).mono hk), by rw [List.length_append, hlen]; rfl, ?_, hsf.2 d _ hst, ?_, by rw [eg]; rfl⟩
      · rw [upd_ne n2E]
        exact s45 _ _ h22
      · rw [hj]
        have e3 : readJ i b (row :: rs.drop (i + 1)) = (d :: (readJ (i + 1) (sumB i b words) (rs.drop (i + 1))).1, row.length + 1 + (readJ (i + 1) (sumB i b words) (rs.drop (i + 1))).2) := by rw [readJ, hst]
        rw [e3, List.append_assoc, Nat.add_assoc g]
        rfl
      · intro c o e
        rw [upd_ne (ne_of_none e hE0)]
        exact (sS.trans s45) _ _ e
  · rintro σ' H' ⟨ds, g, b, us, x4, x5, x6, x7, x8, x9, x10, x11, x12, hE, h2, hr1, hlen, hj, hsf, hS, rfl⟩
    have ed : rs.drop ((rs.map strOf).map V.str).length = [] := by rw [List.length_map, List.length_map, List.drop_length]
    rw [ed] at hj
    refine ⟨ds, g, us, _, _, _, _, _, _, _, _, _, _, hE, hr1, ?_, hS, rfl⟩
    rw [hj]
    simp [readJ]
end
end Tst
namespace Tst
open PySem PySem.Spec PyProof.Rows L2 TL
section
variable {P : Program} {w : World} {K : PySem.W.Frag} {mg : Str → Option Value} {base : Heap} {f : Addr} {fd : FuncData}
/-! ### one of some things -/
def spPick : Sp := fun vs H Q _ => ∃ (b d L : Addr) (xs : List V), vs = [.ref b, .ref L] ∧ (H L = some (.lst xs) ∧ L ≠ b ∧ xs ≠ [] ∧ xs.length ≤ 1000) ∧ Box H b d ∧ ∀ (j : Nat) (x : V) (H' : Hp), xs[j]? = some x → Box H' b d → Kept b H H' → Q x H'
theorem ok_pick (F : Fun K "_law_pick" "_law_pick" s__law_pick f fd) (T : Txt0 mg) (c__law_draw : Cal P w K mg base CX0 1 "_law_draw" ["box", "many"] spDraw) : FnOk P w K mg base CX0 2 f fd ["box", "things"] spPick := by
  refine F.ok sc__law_pick (fun vs H Q E h => ?_) (fun cdv A outer s H vs Q E hr h => ?_)
  · obtain ⟨b, d, L, xs, rfl, _⟩ := h
    rfl
  obtain ⟨b, d, L, xs, rfl, ⟨hL, hLb, hne, hlen⟩, hb, q⟩ := h
  refine ⟨_, pss_one (ps_ret (pe_ix ix_list (pv 1) (pe_op op_mod (pe_callTy call_int1 rfl (by exact T.n_int) (by decide +kernel) (pa_cons (pe_cal c__law_draw (hr.mono (by omega)) rfl pass0 (pa_cons (pv 0) (pa_cons (pe_int) pa_nil))) pa_nil)) (pe_callB call_len_seq rfl (by exact T.n_len) PySem.boot_len (pa_cons (pv 1) pa_nil))) (fun _ _ => rfl))), ?_⟩
  have hpos : 0 < xs.length := List.length_pos_iff.mpr hne
  refine ⟨_, rfl, _, rfl, b, d, 900, rfl, by decide, hb, fun m H1 m0 m1 hb1 k1 => .inl ⟨_, rfl, ?_⟩⟩
  have hL1 := k1 _ _ hLb hL
  refine ⟨_, rfl, L, _, rfl, .inl (SqL.of hL1), _, _, rfl, rfl, (by omega), ?_⟩
  have j0 := Int.emod_nonneg m (b := ((xs.length : Nat) : Int)) (by omega)
  have j1 := Int.emod_lt_of_pos m (b := ((xs.length : Nat) : Int)) (by omega)
  have hj : (m % ((xs.length : Nat) : Int)).toNat < xs.length := by omega
  have ej : (((m % ((xs.length : Nat) : Int)).toNat : Nat) : Int) = m % ((xs.length : Nat) : Int) := by omega
  have ha := atI_nat (xs := xs) (j := (m % ((xs.length : Nat) : Int)).toNat) (List.getElem?_eq_getElem hj)
  rw [ej] at ha
  exact ⟨L, _, _, _, rfl, rfl, SqL.of hL1, ha, q _ _ _ (List.getElem?_eq_getElem hj) hb1 k1⟩
/-! ### alike -/
def shortS (z : Str) : Prop := z.length ≤ 1000000
theorem join_one (z : Str) : Txt.join (Str.ofString "") [z] = z := by
  rw [TL.join_eq]
  refine ext_tl ?_
  rw [TL.tl_join]
  rfl
def spLike (n : Nat) : Sp := fun vs H Q _ => ∃ (d : D) (v u : V), vs = [v, u] ∧ (Lim 100001 n d ∧ AllS shortS d) ∧ Rp H d v ∧ Rp H d u ∧ ∀ H', Same H H' → Q (.bl true) H'
theorem ok_like {n : Nat} (F : Fun K "_law_like" "_law_like" s__law_like f fd) (T : Txt0 mg) (c__law_like : Cal P w K mg base CX0 n "_law_like" ["told", "due"] (fun vs H Q E => ∃ m, n = m + 1 ∧ spLike m vs H Q E)) : FnOk P w K mg base CX0 (n + 1) f fd ["told", "due"] (spLike n) := by
  refine F.ok sc__law_like (fun vs H Q E h => ?_) (fun cdv A outer s H vs Q E hr h => ?_)
  · obtain ⟨d, v, u, rfl, _⟩ := h
    rfl
  obtain ⟨d, v, u, rfl, ⟨hd, hsh⟩, r1, r2, q⟩ := h
  refine ⟨_, pss_cons (ps_if (pt_val (pe_callB call_isK rfl (by exact T.n_isinstance) (by decide +kernel) (pa_cons (pv 1) (pa_cons (pe_bltn (v := .ty "tuple") rfl (by exact T.n_tuple) (by decide +kernel) rfl) pa_nil)))) (pss_cons (ps_if (PW.pt (pw_or (pt_not (pt_val (pe_callB call_isK rfl (by exact T.n_isinstance) (by decide +kernel) (pa_cons (pv 0) (pa_cons (pe_bltn (v := .ty "tuple") rfl (by exact T.n_tuple) (by decide +kernel) rfl) pa_nil))))) (pw_or1 (pt_cmpR op_ne (pe_callB call_len_seq rfl (by exact T.n_len) PySem.boot_len (pa_cons (pv 0) pa_nil)) (pe_callB call_len_seq rfl (by exact T.n_len) PySem.boot_len (pa_cons (pv 1) pa_nil)) (nomark _))))) (pss_one (ps_ret (pe_bl))) (pss_nil))
    (pss_one (ps_ret (pe_cmpR (op_eqD hr.units) (pe_lc (own := [("k", 2)]) (g := gName 2) rfl sc__law_like.nd (pi_range1 rfl (by exact T.n_range) (pa_cons (pe_callB call_len_seq rfl (by exact T.n_len) PySem.boot_len (pa_cons (pv 1) pa_nil)) pa_nil)) (blkOk_by (own := [("k", 2)]) (N := ["told", "due", "k"]) (sc := defScope s__law_like) (by decide +kernel)) (fun _ _ _ _ _ => pg_name (i := 2) sc__law_like.nd rfl (Or.inl rfl)) (fun _ _ _ _ _ => pts_one (pt_not (pt_val (pe_cal c__law_like (hr.mono (by omega)) rfl pass0 (pa_cons (pe_ix (ix_tupK (K := K) rfl) (pv 0) (pv 2) (fun _ _ => rfl)) (pa_cons (pe_ix (ix_tupK (K := K) rfl) (pv 1) (pv 2) (fun _ _ => rfl)) pa_nil)))))) (fun _ _ _ _ _ => pe_int)) (pe_lst (pa_nil)) (nomark _))))) (pss_nil))
    (pss_cons (ps_if (pt_cmpR op_isN (pv 1) (pe_non) (nomark _)) (pss_one (ps_ret (pe_cmpR op_isN (pv 0) (pe_non) (nomark _)))) (pss_nil))
    (pss_cons (ps_if (pt_cmpR op_isB (pv 1) (pe_bl) (nomark _)) (pss_one (ps_ret (pe_cmpR op_isB (pv 0) (pe_bl) (nomark _)))) (pss_nil))
    (pss_cons (ps_if (pt_cmpR op_isB (pv 1) (pe_bl) (nomark _)) (pss_one (ps_ret (pe_cmpR op_isB (pv 0) (pe_bl) (nomark _)))) (pss_nil))
    (pss_cons (ps_if (pt_val (pe_callB call_isK rfl (by exact T.n_isinstance) (by decide +kernel) (pa_cons (pv 1) (pa_cons (pe_bltn (v := .ty "str") rfl (by exact T.n_str) (by decide +kernel) rfl) pa_nil)))) (pss_one (ps_ret (pe_and (pe_callB call_isK rfl (by exact T.n_isinstance) (by decide +kernel) (pa_cons (pv 0) (pa_cons (pe_bltn (v := .ty "str") rfl (by exact T.n_str) (by decide +kernel) rfl) pa_nil))) (pe_one (pe_cmpR op_eq (pe_join (pe_str) (pe_lst (pa_cons (pv 0) pa_nil))) (pv 1) (nomark _)))))) (pss_nil))
    (pss_one (ps_ret (pe_and (pe_callB call_isK rfl (by exact T.n_isinstance) (by decide +kernel) (pa_cons (pv 0) (pa_cons (pe_bltn (v := .ty "int") rfl (by exact T.n_int) (by decide +kernel) rfl) pa_nil))) (pe_and (pe_not (pe_callB call_isK rfl (by exact T.n_isinstance) (by decide +kernel) (pa_cons (pv 0) (pa_cons (pe_bltn (v := .ty "bool") rfl (by exact T.n_bool) (by decide +kernel) rfl) pa_nil)))) (pe_one (pe_cmpR op_eq (pv 0) (pv 1) (nomark _))))))))))), ?_⟩
  cases d with
  | tup xs =>
    rw [Rp] at r1 r2
    obtain ⟨a, vs, rfl, ha, rs⟩ := r1
    obtain ⟨a', vs', rfl, ha', rs'⟩ := r2
    obtain _ | _ | _ | _ | ⟨m, _, hN, hmem⟩ := hd
    have hk : kindV H (.ref a) = some "tuple" := by show kindO (H a) = _; rw [ha]; rfl
    have hk' : kindV H (.ref a') = some "tuple" := by show kindO (H a') = _; rw [ha']; rfl
    have l1 := rs.length
    have l2 := rs'.length
    refine ⟨_, rfl, _, _, _, _, rfl, hk', kb_tt, _, rfl, iteT ?_⟩
    refine ⟨_, rfl, _, _, _, _, rfl, hk, kb_tt, _, rfl, iteF ?_⟩
    refine ⟨_, rfl, a, _, rfl, .inr (SqT.of ha), _, rfl, a', _, rfl, .inr (SqT.of ha'), rfl, _, rfl, iteN (by rw [l1, l2]; simp) ?_⟩
    refine ⟨_, rfl, a', _, rfl, .inr (SqT.of ha'), _, rfl, by omega, by omega, fun D hD => lc_range (lo := 0) (n := ((vs'.length : Nat) : Int).toNat) (fun i H' => H' D = some (.lst []) ∧ Kept D H H') ⟨upd_same, Kept.upd⟩ ?_ ?_⟩
    · rintro i H' hi ⟨w1, w2⟩
      have hS : Same H H' := fun c o e => w2 c o (ne_of_none e hD) e
      have hi' : i < vs'.length := by omega
      have hi2 : i < vs.length := by omega
      have e0 : (0 : Int) + (i : Int) = (i : Int) := by omega
      obtain ⟨d1, g1, q1⟩ := rs.get (List.getElem?_eq_getElem hi2)
      obtain ⟨d2, g2, q2⟩ := rs'.get (List.getElem?_eq_getElem hi')
      rw [g1] at g2
      cases g2
      rw [e0]
      refine ⟨rfl, _, rfl, _, rfl, a, _, _, _, rfl, rfl, SqT.of (hS _ _ ha), atI_nat (List.getElem?_eq_getElem hi2), _, rfl, _, rfl, a', _, _, _, rfl, rfl, SqT.of (hS _ _ ha'), atI_nat (List.getElem?_eq_getElem hi'), ?_⟩
      exact ⟨m, rfl, d1, _, _, rfl, ⟨hmem d1 (List.mem_of_getElem? g1), hsh.mem (List.mem_of_getElem? g1)⟩, q1.mono (Same.tup hS), q2.mono (Same.tup hS), fun H5 s5 => ⟨_, rfl, iteF ⟨s5 _ _ w1, w2.trans (Same.kept s5)⟩⟩⟩
    · rintro H' ⟨w1, w2⟩
      have hS : Same H H' := fun c o e => w2 c o (ne_of_none e hD) e
      exact ⟨Nat.zero_le _, fun p hp => ⟨_, _, .lst (SqL.of (same_new hp _ _ _ w1)) .nil, .lst (SqL.of upd_same) .nil, by decide, by decide, q _ (hS.trans (same_new hp _))⟩⟩
  | non =>
    rw [Rp] at r1 r2
    subst r1 r2
    refine ⟨_, rfl, _, _, _, _, rfl, rfl, kb_nt, _, rfl, iteF ?_⟩
    exact ⟨_, rfl, rfl, _, rfl, iteY (by simp) ⟨_, rfl, rfl, by simpa using q _ (Same.refl _)⟩⟩
  | bl b =>
    rw [Rp] at r1 r2
    subst r1 r2
    refine ⟨_, rfl, _, _, _, _, rfl, rfl, kb_bt, _, rfl, iteF ?_⟩
    refine ⟨_, rfl, rfl, _, rfl, iteN (by simp) ?_⟩
    have ty : (∀ n, V.bl b ≠ .ty n) ∧ ∀ n, V.bl b ≠ .flt n := ⟨fun _ z => (nomatch z), fun _ z => (nomatch z)⟩
    refine ⟨_, rfl, _, rfl, ty.1, ty.2, _, rfl, ?_⟩
    have q' := q _ (Same.refl _)
    cases b with
    | true => exact iteY (by simp) ⟨_, rfl, _, rfl, ty.1, ty.2, by simpa using q'⟩
    | false =>
      refine iteN (by simp) ⟨_, rfl, _, rfl, ty.1, ty.2, _, rfl, iteY (by simp) ?_⟩
      exact ⟨_, rfl, _, rfl, ty.1, ty.2, by simpa using q'⟩
  | int i =>
    rw [Rp] at r1 r2
    subst r1 r2
    have ty : (∀ n, V.int i ≠ .ty n) ∧ ∀ n, V.int i ≠ .flt n := ⟨fun _ z => (nomatch z), fun _ z => (nomatch z)⟩
    refine ⟨_, rfl, _, _, _, _, rfl, rfl, kb_it, _, rfl, iteF ?_⟩
    refine ⟨_, rfl, rfl, _, rfl, iteN (by simp) ?_⟩
    refine ⟨_, rfl, _, rfl, ty.1, ty.2, _, rfl, iteN (by simp) ?_⟩
    refine ⟨_, rfl, _, rfl, ty.1, ty.2, _, rfl, iteN (by simp) ?_⟩
    refine ⟨_, rfl, _, _, _, _, rfl, rfl, kb_is, _, rfl, iteF ?_⟩
    refine ⟨_, rfl, _, _, _, _, rfl, rfl, kb_ii, _, rfl, iteT ?_⟩
    refine ⟨_, rfl, _, _, _, _, rfl, rfl, kb_ib, _, rfl, _, rfl, iteT ?_⟩
    exact ⟨_, rfl, _, rfl, rfl, by simpa using q _ (Same.refl _)⟩
  | str z =>
    rw [Rp] at r1 r2
    subst r1 r2
    have hz : z.length ≤ 1000000 := hsh.s
    have e0 : (Str.ofString "").length = 0 := by decide +kernel
    have ty : (∀ n, V.str z ≠ .ty n) ∧ ∀ n, V.str z ≠ .flt n := ⟨fun _ z => (nomatch z), fun _ z => (nomatch z)⟩
    refine ⟨_, rfl, _, _, _, _, rfl, rfl, kb_st, _, rfl, iteF ?_⟩
    refine ⟨_, rfl, rfl, _, rfl, iteN (by simp) ?_⟩
    refine ⟨_, rfl, _, rfl, ty.1, ty.2, _, rfl, iteN (by simp) ?_⟩
    refine ⟨_, rfl, _, rfl, ty.1, ty.2, _, rfl, iteN (by simp) ?_⟩
    refine ⟨_, rfl, _, _, _, _, rfl, rfl, kb_ss, _, rfl, iteT ?_⟩
    refine ⟨_, rfl, _, _, _, _, rfl, rfl, kb_ss, _, rfl, iteT ?_⟩
    refine ⟨⟨_, rfl⟩, _, rfl, (by show 1 ≤ sizeLine; decide), fun p hp => ⟨_, p, [z], rfl, rfl, .inl (SqL.of upd_same), by rw [e0]; simp; omega, _, rfl, ?_⟩⟩
    rw [join_one]
    exact ⟨rfl, by simpa using q _ (same_new hp _)⟩
theorem Rps.c {H : Hp} {d : D} {v : V} {ds : List D} {vs : List V} (r : Rp H d v) (rs : Rps H ds vs) : Rps H (d :: ds) (v :: vs) := by
  rw [Rps]
  exact ⟨v, vs, rfl, r, rs⟩
theorem Rp.new {H : Hp} {p : Addr} {ds : List D} {vs : List V} (hp : H p = none) (r : Rps H ds vs) : Rp (upd H p (.tup vs)) (.tup ds) (.ref p) := by
  rw [Rp]
  exact ⟨p, vs, rfl, upd_same, r.mono (Same.tup (same_new hp _))⟩
theorem Rp.on {H : Hp} {p : Addr} {o : HO} {d : D} {v : V} (hp : H p = none) (r : Rp H d v) : Rp (upd H p o) d v := r.mono (Same.tup (same_new hp _))
theorem Rp.s {H : Hp} {z : Str} : Rp H (.str z) (.str z) := by rw [Rp]
theorem Rp.i {H : Hp} {i : Int} : Rp H (.int i) (.int i) := by rw [Rp]
theorem Rp.n {H : Hp} : Rp H .non .non := by rw [Rp]
theorem one_ : 1 ≤ sizeLine := by decide
theorem two_ : 2 ≤ sizeLine := by decide
theorem three_ : 3 ≤ sizeLine := by decide
theorem four_ : 4 ≤ sizeLine := by decide
/-! ### the book that is there first -/
def startD : D := bookD (Str.ofString "book") (Str.ofString "a") (Str.ofString "geometric") (.tup [.int 2, .int 1]) (Str.ofString "b") (Str.ofString "name") (.str (Str.ofString "a"))
def spStart : Sp := fun vs H Q _ => vs = [] ∧ ∀ (v : V) (H' : Hp), Same H H' → Rp H' startD v → Q v H'
theorem ok_start (F : Fun K "_law_start" "_law_start" s__law_start f fd) (T : Txt0 mg) : FnOk P w K mg base CX0 1 f fd [] spStart := by
  refine F.ok sc__law_start (fun vs H Q E h => ?_) (fun cdv A outer s H vs Q E hr h => ?_)
  · obtain ⟨rfl, _⟩ := h
    rfl
  obtain ⟨rfl, q⟩ := h
  refine ⟨_, pss_one (ps_ret (pe_tup (pa_cons (pe_str) (pa_cons (pe_tup (pa_cons (pe_tup (pa_cons (pe_str) (pa_cons (pe_tup (pa_cons (pe_str) (pa_cons (pe_tup (pa_cons (pe_int) (pa_cons (pe_int) pa_nil))) pa_nil))) pa_nil))) (pa_cons (pe_tup (pa_cons (pe_str) (pa_cons (pe_tup (pa_cons (pe_str) (pa_cons (pe_str) pa_nil))) pa_nil))) pa_nil))) pa_nil)))), ?_⟩
  refine ⟨two_, fun p1 h1 => ⟨two_, fun p2 h2 => ⟨two_, fun p3 h3 => ⟨two_, fun p4 h4 => ⟨two_, fun p5 h5 => ⟨two_, fun p6 h6 => ⟨two_, fun p7 h7 => ?_⟩⟩⟩⟩⟩⟩⟩
  have r1 : Rp _ (.tup [.int 2, .int 1]) (.ref p1) := Rp.new h1 (.c .i (.c .i .nil))
  have r2 : Rp _ (.tup [.str (Str.ofString "geometric"), .tup [.int 2, .int 1]]) (.ref p2) := Rp.new h2 (.c .s (.c r1 .nil))
  have r3 : Rp _ (rowD (Str.ofString "a") (Str.ofString "geometric") (.tup [.int 2, .int 1])) (.ref p3) := Rp.new h3 (.c .s (.c r2 .nil))
  have r4 : Rp _ (.tup [.str (Str.ofString "name"), .str (Str.ofString "a")]) (.ref p4) := Rp.new h4 (.c .s (.c .s .nil))
  have r5 : Rp _ (rowD (Str.ofString "b") (Str.ofString "name") (.str (Str.ofString "a"))) (.ref p5) := Rp.new h5 (.c .s (.c r4 .nil))
  have r6 := Rp.new h6 (.c (Rp.on h5 (Rp.on h4 r3)) (.c r5 .nil))
  have r7 : Rp _ startD (.ref p7) := Rp.new h7 (.c .s (.c r6 .nil))
  exact q _ _ (((((((same_new h1 _).trans (same_new h2 _)).trans (same_new h3 _)).trans (same_new h4 _)).trans (same_new h5 _)).trans (same_new h6 _)).trans (same_new h7 _)) r7
/-! ### the entries -/
def wS (m : Nat) : Str := strOf (119 :: numL m)
def noticeD (at_ m : Nat) : D := .tup [.str (Str.ofString "notice"), .int (1 + (at_ : Int)), .tup [.str (Str.ofString "strike"), .str (wS m)]]
def shopD : D := .tup [.str (Str.ofString "shop"), .str (Str.ofString "ha"), .tup [.str (Str.ofString "hb")], startD]
def shortD : D := .tup [.str (Str.ofString "short"), .tup [.int 1, .tup [.str (Str.ofString "a"), .non]]]
def givenD (k : Int) : D := .tup [.str (Str.ofString "given"), .tup [.str (Str.ofString "ends"), .str (Str.ofString "qa"), .str (Str.ofString "b")], .int k]
def knownD : D := .tup [.str (Str.ofString "told"), .tup [.str (Str.ofString "known")], .str (Str.ofString "3"), .int 3]
def standsD : D := .tup [.str (Str.ofString "told"), .tup [.str (Str.ofString "stands"), .str (Str.ofString "pa")], .str (Str.ofString "missing"), .int 0]
def laterDs (at_ m : Nat) (k : Int) : List D := [.tup [.str (Str.ofString "published"), noticeD at_ m], .tup [.str (Str.ofString "heard"), noticeD at_ m], givenD k, knownD, standsD]
def EntryIs (at_ : Nat) (d : D) : Prop := (at_ = 0 ∧ (d = shopD ∨ d = shortD)) ∨ (1 ≤ at_ ∧ ∃ (m : Nat) (k : Int), 1 ≤ m ∧ m ≤ 9 ∧ 0 ≤ k ∧ k < 4 ∧ d ∈ laterDs at_ m k)
def spEnt : Sp := fun vs H Q _ => ∃ (b c : Addr) (at_ : Nat), vs = [.ref b, .int ((at_ : Nat) : Int)] ∧ at_ ≤ 6 ∧ Box H b c ∧ ∀ (v : V) (d : D) (H' : Hp), Rp H' d v → EntryIs at_ d → Box H' b c → Kept b H H' → Q v H'
theorem ok_ent (F : Fun K "_law_entry" "_law_entry" s__law_entry f fd) (T : Txt0 mg) (c__law_draw : Cal P w K mg base CX0 1 "_law_draw" ["box", "many"] spDraw) (c__law_start : Cal P w K mg base CX0 1 "_law_start" [] spStart)
    (c__law_pick : Cal P w K mg base CX0 2 "_law_pick" ["box", "things"] spPick) : FnOk P w K mg base CX0 3 f fd ["box", "at"] spEnt := by
  refine F.ok sc__law_entry (fun vs H Q E h => ?_) (fun cdv A outer s H vs Q E hr h => ?_)
  · obtain ⟨b, c, at_, rfl, _⟩ := h
    rfl
  obtain ⟨b, c, at_, rfl, hat, hb, q⟩ := h
  refine ⟨_, pss_cons (ps_set (i := 2) sc__law_entry.nd rfl (Or.inl rfl) (pe_tup (pa_cons (pe_str) (pa_cons (pe_op op_add (pe_int) (pv 1)) (pa_cons (pe_tup (pa_cons (pe_str) (pa_cons (pe_op op_add_str (pe_str) (pe_callTy call_str_int rfl (by exact T.n_str) (by decide +kernel) (pa_cons (pe_op op_add (pe_int) (pe_cal c__law_draw (hr.mono (by omega)) rfl pass0 (pa_cons (pv 0) (pa_cons (pe_int) pa_nil)))) pa_nil))) pa_nil))) pa_nil)))))
    (pss_cons (ps_if (pt_cmpR op_eq (pv 1) (pe_int) (nomark _)) (pss_one (ps_ret (pe_ix ix_list (pe_lst (pa_cons (pe_tup (pa_cons (pe_str) (pa_cons (pe_str) (pa_cons (pe_tup (pa_cons (pe_str) pa_nil)) (pa_cons (pe_cal0 c__law_start (hr.mono (by omega)) rfl pass0) pa_nil))))) (pa_cons (pe_tup (pa_cons (pe_str) (pa_cons (pe_tup (pa_cons (pe_int) (pa_cons (pe_tup (pa_cons (pe_str) (pa_cons (pe_non) pa_nil))) pa_nil))) pa_nil))) pa_nil))) (pe_cal c__law_draw (hr.mono (by omega)) rfl pass0 (pa_cons (pv 0) (pa_cons (pe_int) pa_nil))) (fun _ _ => rfl)))) (pss_nil))
    (pss_cons (ps_set (i := 3) sc__law_entry.nd rfl (Or.inl rfl) (pe_lst (pa_cons (pe_tup (pa_cons (pe_str) (pa_cons (pv 2) pa_nil))) (pa_cons (pe_tup (pa_cons (pe_str) (pa_cons (pv 2) pa_nil))) (pa_cons (pe_tup (pa_cons (pe_str) (pa_cons (pe_tup (pa_cons (pe_str) (pa_cons (pe_str) (pa_cons (pe_str) pa_nil)))) (pa_cons (pe_cal c__law_draw (hr.mono (by omega)) rfl pass0 (pa_cons (pv 0) (pa_cons (pe_int) pa_nil))) pa_nil)))) (pa_cons (pe_tup (pa_cons (pe_str) (pa_cons (pe_tup (pa_cons (pe_str) pa_nil)) (pa_cons (pe_str) (pa_cons (pe_int) pa_nil))))) (pa_cons (pe_tup (pa_cons (pe_str) (pa_cons (pe_tup (pa_cons (pe_str) (pa_cons (pe_str) pa_nil))) (pa_cons (pe_str) (pa_cons (pe_int) pa_nil))))) pa_nil)))))))
    (pss_one (ps_ret (pe_cal c__law_pick (hr.mono (by omega)) rfl pass0 (pa_cons (pv 0) (pa_cons (pv 3) pa_nil))))))), ?_⟩
  refine ⟨_, rfl, _, _, rfl, rfl, ?_⟩
  refine ⟨_, rfl, b, c, 9, rfl, by decide, hb, fun v0 H1 m0 m1 hb1 k1 => ?_⟩
  obtain ⟨m, hm, hm1, hm9⟩ : ∃ m : Nat, 1 + v0 = ((m : Nat) : Int) ∧ 1 ≤ m ∧ m ≤ 9 := ⟨(1 + v0).toNat, by omega, by omega, by omega⟩
  refine ⟨_, _, rfl, rfl, ?_⟩
  rw [show (fun i j : Int => V.int (i + j)) 1 v0 = V.int ((m : Nat) : Int) from congrArg V.int hm]
  have ew : Str.ofString "w" ++ Str.ofString (toString ((m : Nat) : Int)) = wS m := by rw [num_nat, show Str.ofString "w" = strOf [119] from lit _ _, strOf_cat]; rfl
  have lw : (numL m).length ≤ 1 := numL_len (by decide) (by omega)
  refine ⟨_, rfl, log_place (by omega), _, _, rfl, rfl, small16 (by rw [num_nat, len_strOf, show (Str.ofString "w").length = 1 by decide +kernel]; omega), ?_⟩
  rw [ew]
  refine ⟨two_, fun p1 h1 => ⟨three_, fun p2 h2 => ?_⟩⟩
  have r1 : Rp _ (.tup [.str (Str.ofString "strike"), .str (wS m)]) (.ref p1) := Rp.new h1 (.c .s (.c .s .nil))
  have r2 : Rp _ (noticeD at_ m) (.ref p2) := Rp.new h2 (.c .s (.c .i (.c r1 .nil)))
  have s2 := (same_new h1 (.tup [.str (Str.ofString "strike"), .str (wS m)])).trans (same_new h2 (.tup [V.str (Str.ofString "notice"), V.int (1 + (at_ : Int)), .ref p1]))
  have hb2 := hb1.same s2
  have k2 := k1.trans (Same.kept s2)
  revert r2 hb2 k2
  clear s2 r1
  generalize upd (upd H1 p1 _) p2 _ = H2
  intro r2 hb2 k2
  refine ⟨_, rfl, rfl, _, rfl, ?_⟩
  rw [dec_intV]
  by_cases h0 : at_ = 0
  · refine iteY (decide_eq_true (by omega)) ?_
    subst h0
    refine ⟨one_, fun p3 h3 => ⟨rfl, fun v4 H3 s3 r4 => ⟨four_, fun p5 h5 => ⟨two_, fun p6 h6 => ⟨two_, fun p7 h7 => ⟨two_, fun p8 h8 => ⟨two_, fun L hL => ?_⟩⟩⟩⟩⟩⟩⟩
    have q3 : Rp _ (.tup [.str (Str.ofString "hb")]) (.ref p3) := Rp.new h3 (.c .s .nil)
    have q5 : Rp _ shopD (.ref p5) := Rp.new h5 (.c .s (.c .s (.c (q3.mono (Same.tup s3)) (.c r4 .nil))))
    have q6 : Rp _ (.tup [.str (Str.ofString "a"), .non]) (.ref p6) := Rp.new h6 (.c .s (.c .n .nil))
    have q7 : Rp _ (.tup [.int 1, .tup [.str (Str.ofString "a"), .non]]) (.ref p7) := Rp.new h7 (.c .i (.c q6 .nil))
    have q8 : Rp _ shortD (.ref p8) := Rp.new h8 (.c .s (.c q7 .nil))
    have qa := Rp.on (o := .lst [.ref p5, .ref p8]) hL (Rp.on h8 (Rp.on h7 (Rp.on h6 q5)))
    have qb := Rp.on (o := .lst [.ref p5, .ref p8]) hL q8
    have sa := ((((((same_new h3 (.tup [.str (Str.ofString "hb")])).trans s3).trans (same_new h5 _)).trans (same_new h6 _)).trans (same_new h7 _)).trans (same_new h8 _)).trans (same_new hL (.lst [.ref p5, .ref p8]))
    have hbL := hb2.same sa
    have kL := k2.trans (Same.kept sa)
    have nLb : L ≠ b := fun e => by
      obtain ⟨ds, n, e1, _⟩ := hb2.same ((((((same_new h3 (.tup [.str (Str.ofString "hb")])).trans s3).trans (same_new h5 _)).trans (same_new h6 _)).trans (same_new h7 _)).trans (same_new h8 _))
      rw [← e, hL] at e1
      cases e1
    refine ⟨_, rfl, b, c, 2, rfl, by decide, hbL, fun v H4 w0 w1 hb4 k4 => ?_⟩
    have hL4 := k4 _ _ nLb upd_same
    have tp := Kept.tup hbL k4
    have hv : v = 0 ∨ v = 1 := by omega
    rcases hv with rfl | rfl
    · exact ⟨L, _, _, _, rfl, rfl, SqL.of hL4, at0, q _ _ _ (qa.mono tp) (.inl ⟨rfl, .inl rfl⟩) hb4 (kL.trans k4)⟩
    · exact ⟨L, _, _, _, rfl, rfl, SqL.of hL4, at1, q _ _ _ (qb.mono tp) (.inl ⟨rfl, .inr rfl⟩) hb4 (kL.trans k4)⟩
  · refine iteN (decide_eq_false (by omega)) ?_
    refine ⟨_, rfl, two_, fun p3 h3 => ⟨_, rfl, two_, fun p4 h4 => ⟨three_, fun p5 h5 => ⟨_, rfl, b, c, 4, rfl, by decide, ?_, fun k H3 w0 w1 hb3 k3 => ?_⟩⟩⟩⟩
    · exact hb2.same (((same_new h3 _).trans (same_new h4 _)).trans (same_new h5 _))
    have q3 : Rp _ (.tup [.str (Str.ofString "published"), noticeD at_ m]) (.ref p3) := Rp.new h3 (.c .s (.c r2 .nil))
    have q4 : Rp _ (.tup [.str (Str.ofString "heard"), noticeD at_ m]) (.ref p4) := Rp.new h4 (.c .s (.c (Rp.on h3 r2) .nil))
    have q5 : Rp _ (.tup [.str (Str.ofString "ends"), .str (Str.ofString "qa"), .str (Str.ofString "b")]) (.ref p5) := Rp.new h5 (.c .s (.c .s (.c .s .nil)))
    have sa := ((same_new h3 (.tup [.str (Str.ofString "published"), .ref p2])).trans (same_new h4 (.tup [.str (Str.ofString "heard"), .ref p2]))).trans (same_new h5 (.tup [.str (Str.ofString "ends"), .str (Str.ofString "qa"), .str (Str.ofString "b")]))
    have tp := Kept.tup (hb2.same sa) k3
    have q3' := (Rp.on h5 (Rp.on h4 q3)).mono tp
    have q4' := (Rp.on h5 q4).mono tp
    have q5' := q5.mono tp
    have kk := (k2.trans (Same.kept sa)).trans k3
    refine ⟨three_, fun p6 h6 => ⟨one_, fun p7 h7 => ⟨four_, fun p8 h8 => ⟨two_, fun p9 h9 => ⟨four_, fun p10 h10 => ⟨by show 5 ≤ sizeLine; decide, fun L hL => ?_⟩⟩⟩⟩⟩⟩
    have q6 : Rp _ (givenD k) (.ref p6) := Rp.new h6 (.c .s (.c q5' (.c .i .nil)))
    have q7 : Rp _ (.tup [.str (Str.ofString "known")]) (.ref p7) := Rp.new h7 (.c .s .nil)
    have q8 : Rp _ knownD (.ref p8) := Rp.new h8 (.c .s (.c q7 (.c .s (.c .i .nil))))
    have q9 : Rp _ (.tup [.str (Str.ofString "stands"), .str (Str.ofString "pa")]) (.ref p9) := Rp.new h9 (.c .s (.c .s .nil))
    have q10 : Rp _ standsD (.ref p10) := Rp.new h10 (.c .s (.c q9 (.c .s (.c .i .nil))))
    have sb := ((((same_new h6 (.tup [.str (Str.ofString "given"), .ref p5, .int k])).trans (same_new h7 (.tup [.str (Str.ofString "known")]))).trans (same_new h8 (.tup [.str (Str.ofString "told"), .ref p7, .str (Str.ofString "3"), .int 3]))).trans (same_new h9 (.tup [.str (Str.ofString "stands"), .str (Str.ofString "pa")]))).trans (same_new h10 (.tup [.str (Str.ofString "told"), .ref p9, .str (Str.ofString "missing"), .int 0]))
    have hbb := hb3.same sb
    have nLb : L ≠ b := fun e => by
      obtain ⟨ds, n, e1, _⟩ := hbb
      rw [← e, hL] at e1
      cases e1
    have sc := sb.trans (same_new hL (.lst [.ref p3, .ref p4, .ref p6, .ref p8, .ref p10]))
    have ka := kk.trans (Same.kept sc)
    have hbc := hb3.same sc
    refine ⟨_, rfl, _, rfl, b, c, L, _, rfl, ⟨upd_same, nLb, by simp, by show 5 ≤ 1000; decide⟩, hbc, fun j x H4 hx hb4 k4 => ?_⟩
    have tp4 := Kept.tup hbc k4
    have fin : ∀ d v, d ∈ laterDs at_ m k → Rp _ d v → Q v H4 := fun d v hd r => q v d H4 (r.mono tp4) (.inr ⟨by omega, m, k, hm1, hm9, w0, w1, hd⟩) hb4 (ka.trans k4)
    rcases j with _ | _ | _ | _ | _ | j
    · obtain rfl := Option.some.inj hx
      exact fin _ _ (by simp [laterDs]) (Rp.on hL (Rp.on h10 (Rp.on h9 (Rp.on h8 (Rp.on h7 (Rp.on h6 q3'))))))
    · obtain rfl := Option.some.inj hx
      exact fin _ _ (by simp [laterDs]) (Rp.on hL (Rp.on h10 (Rp.on h9 (Rp.on h8 (Rp.on h7 (Rp.on h6 q4'))))))
    · obtain rfl := Option.some.inj hx
      exact fin _ _ (by simp [laterDs]) (Rp.on hL (Rp.on h10 (Rp.on h9 (Rp.on h8 (Rp.on h7 q6)))))
    · obtain rfl := Option.some.inj hx
      exact fin _ _ (by simp [laterDs]) (Rp.on hL (Rp.on h10 (Rp.on h9 q8)))
    · obtain rfl := Option.some.inj hx
      exact fin _ _ (by simp [laterDs]) (Rp.on hL q10)
    · simp at hx
/-! ### entries that are none -/
def wrongDs : List D := [.tup [.str (Str.ofString "published"), .tup []],
  .tup [.str (Str.ofString "published")],
  .tup [.str (Str.ofString "heard"), .tup [.str (Str.ofString "notice"), .int 1, .tup [.str (Str.ofString "withdraw"), .int 1]]],
  .tup [.str (Str.ofString "given"), .int 5, .int 1],
  .tup [.str (Str.ofString "given"), .tup [.str (Str.ofString "ends"), .str (Str.ofString "P"), .str (Str.ofString "b")], .int 1],
  .tup [.str (Str.ofString "given"), .tup [.str (Str.ofString "ends"), .str (Str.ofString "qa"), .str (Str.ofString "b")]],
  .tup [.str (Str.ofString "told"), .int 5, .str (Str.ofString ""), .int 1],
  .tup [.str (Str.ofString "told"), .tup [.str (Str.ofString "known")], .int 5, .int 1],
  .tup [.str (Str.ofString "told"), .tup [.str (Str.ofString "known")], .str (Str.ofString "3"), .str (Str.ofString "1")],
  .tup [.str (Str.ofString "told"), .tup [.str (Str.ofString "known")], .str (Str.ofString "3")],
  .tup [.str (Str.ofString "jump"), .int 1],
  .tup [],
  .int 7,
  .tup [.str (Str.ofString "shop"), .str (Str.ofString "ha"), .tup [], startD],
  .tup [.str (Str.ofString "short"), .int 3]]
def spWrong : Sp := fun vs H Q _ => ∃ (b c : Addr), vs = [.ref b] ∧ Box H b c ∧ ∀ (v : V) (d : D) (H' : Hp), Rp H' d v → d ∈ wrongDs → Box H' b c → Kept b H H' → Q v H'
theorem ok_wrong (F : Fun K "_law_wrong" "_law_wrong" s__law_wrong f fd) (T : Txt0 mg) (c__law_start : Cal P w K mg base CX0 1 "_law_start" [] spStart)
    (c__law_pick : Cal P w K mg base CX0 2 "_law_pick" ["box", "things"] spPick) : FnOk P w K mg base CX0 3 f fd ["box"] spWrong := by
  refine F.ok sc__law_wrong (fun vs H Q E h => ?_) (fun cdv A outer s H vs Q E hr h => ?_)
  · obtain ⟨b, c, rfl, _⟩ := h
    rfl
  obtain ⟨b, c, rfl, hb, q⟩ := h
  refine ⟨_, pss_cons (ps_set (i := 1) sc__law_wrong.nd rfl (Or.inl rfl) (pe_lst (pa_cons (pe_tup (pa_cons (pe_str) (pa_cons (pe_tup (pa_nil)) pa_nil))) (pa_cons (pe_tup (pa_cons (pe_str) pa_nil)) (pa_cons (pe_tup (pa_cons (pe_str) (pa_cons (pe_tup (pa_cons (pe_str) (pa_cons (pe_int) (pa_cons (pe_tup (pa_cons (pe_str) (pa_cons (pe_int) pa_nil))) pa_nil)))) pa_nil))) (pa_cons (pe_tup (pa_cons (pe_str) (pa_cons (pe_int) (pa_cons (pe_int) pa_nil)))) (pa_cons (pe_tup (pa_cons (pe_str) (pa_cons (pe_tup (pa_cons (pe_str) (pa_cons (pe_str) (pa_cons (pe_str) pa_nil)))) (pa_cons (pe_int) pa_nil)))) pa_nil)))))))
    (pss_cons (ps_set (i := 1) sc__law_wrong.nd rfl (Or.inl rfl) (pe_op op_cat (pv 1) (pe_lst (pa_cons (pe_tup (pa_cons (pe_str) (pa_cons (pe_tup (pa_cons (pe_str) (pa_cons (pe_str) (pa_cons (pe_str) pa_nil)))) pa_nil))) (pa_cons (pe_tup (pa_cons (pe_str) (pa_cons (pe_int) (pa_cons (pe_str) (pa_cons (pe_int) pa_nil))))) pa_nil)))))
    (pss_cons (ps_set (i := 1) sc__law_wrong.nd rfl (Or.inl rfl) (pe_op op_cat (pv 1) (pe_lst (pa_cons (pe_tup (pa_cons (pe_str) (pa_cons (pe_tup (pa_cons (pe_str) pa_nil)) (pa_cons (pe_int) (pa_cons (pe_int) pa_nil))))) (pa_cons (pe_tup (pa_cons (pe_str) (pa_cons (pe_tup (pa_cons (pe_str) pa_nil)) (pa_cons (pe_str) (pa_cons (pe_str) pa_nil))))) (pa_cons (pe_tup (pa_cons (pe_str) (pa_cons (pe_tup (pa_cons (pe_str) pa_nil)) (pa_cons (pe_str) pa_nil)))) (pa_cons (pe_tup (pa_cons (pe_str) (pa_cons (pe_int) pa_nil))) (pa_cons (pe_tup (pa_nil)) (pa_cons (pe_int) (pa_cons (pe_tup (pa_cons (pe_str) (pa_cons (pe_str) (pa_cons (pe_tup (pa_nil)) (pa_cons (pe_cal0 c__law_start (hr.mono (by omega)) rfl pass0) pa_nil))))) (pa_cons (pe_tup (pa_cons (pe_str) (pa_cons (pe_int) pa_nil))) pa_nil)))))))))))
    (pss_one (ps_ret (pe_cal c__law_pick (hr.mono (by omega)) rfl pass0 (pa_cons (pv 0) (pa_cons (pv 1) pa_nil))))))), ?_⟩
  refine ⟨(by show 0 ≤ sizeLine; decide), fun p1 h1 => ⟨(by show 2 ≤ sizeLine; decide), fun p2 h2 => ⟨(by show 1 ≤ sizeLine; decide), fun p3 h3 => ⟨(by show 2 ≤ sizeLine; decide), fun p4 h4 => ⟨(by show 3 ≤ sizeLine; decide), fun p5 h5 => ⟨(by show 2 ≤ sizeLine; decide), fun p6 h6 => ⟨(by show 3 ≤ sizeLine; decide), fun p7 h7 => ⟨(by show 3 ≤ sizeLine; decide), fun p8 h8 => ⟨(by show 3 ≤ sizeLine; decide), fun p9 h9 => ⟨(by show 5 ≤ sizeLine; decide), fun L1 hL1 => ?_⟩⟩⟩⟩⟩⟩⟩⟩⟩⟩
  have q1 : Rp _ (.tup []) (.ref p1) := Rp.new h1 .nil
  have q2 : Rp _ (.tup [.str (Str.ofString "published"), .tup []]) (.ref p2) := Rp.new h2 (.c .s (.c q1 .nil))
  have R1 := Rps.append q2 (Rps.nil)
  have q3 : Rp _ (.tup [.str (Str.ofString "published")]) (.ref p3) := Rp.new h3 (.c .s .nil)
  have R2 := Rps.append q3 (R1.mono (Same.tup (same_new h3 (.tup [.str (Str.ofString "published")]))))
  have q4 : Rp _ (.tup [.str (Str.ofString "withdraw"), .int 1]) (.ref p4) := Rp.new h4 (.c .s (.c .i .nil))
  have q5 : Rp _ (.tup [.str (Str.ofString "notice"), .int 1, .tup [.str (Str.ofString "withdraw"), .int 1]]) (.ref p5) := Rp.new h5 (.c .s (.c .i (.c q4 .nil)))
  have q6 : Rp _ (.tup [.str (Str.ofString "heard"), .tup [.str (Str.ofString "notice"), .int 1, .tup [.str (Str.ofString "withdraw"), .int 1]]]) (.ref p6) := Rp.new h6 (.c .s (.c q5 .nil))
  have R3 := Rps.append q6 (R2.mono (Same.tup (((same_new h4 (.tup [.str (Str.ofString "withdraw"), .int 1])).trans (same_new h5 (.tup [.str (Str.ofString "notice"), .int 1, .ref p4]))).trans (same_new h6 (.tup [.str (Str.ofString "heard"), .ref p5])))))
  have q7 : Rp _ (.tup [.str (Str.ofString "given"), .int 5, .int 1]) (.ref p7) := Rp.new h7 (.c .s (.c .i (.c .i .nil)))
  have R4 := Rps.append q7 (R3.mono (Same.tup (same_new h7 (.tup [.str (Str.ofString "given"), .int 5, .int 1]))))
  have q8 : Rp _ (.tup [.str (Str.ofString "ends"), .str (Str.ofString "P"), .str (Str.ofString "b")]) (.ref p8) := Rp.new h8 (.c .s (.c .s (.c .s .nil)))
  have q9 : Rp _ (.tup [.str (Str.ofString "given"), .tup [.str (Str.ofString "ends"), .str (Str.ofString "P"), .str (Str.ofString "b")], .int 1]) (.ref p9) := Rp.new h9 (.c .s (.c q8 (.c .i .nil)))
  have R5 := Rps.append q9 (R4.mono (Same.tup ((same_new h8 (.tup [.str (Str.ofString "ends"), .str (Str.ofString "P"), .str (Str.ofString "b")])).trans (same_new h9 (.tup [.str (Str.ofString "given"), .ref p8, .int 1])))))
  have R6 := (R5.mono (Same.tup (same_new hL1 (.lst [.ref p2, .ref p3, .ref p6, .ref p7, .ref p9]))))
  refine ⟨_, rfl, ⟨(by show 3 ≤ sizeLine; decide), fun p10 h10 => ⟨(by show 2 ≤ sizeLine; decide), fun p11 h11 => ⟨(by show 4 ≤ sizeLine; decide), fun p12 h12 => ⟨(by show 2 ≤ sizeLine; decide), fun M1 hM1 => ?_⟩⟩⟩⟩⟩
  have q10 : Rp _ (.tup [.str (Str.ofString "ends"), .str (Str.ofString "qa"), .str (Str.ofString "b")]) (.ref p10) := Rp.new h10 (.c .s (.c .s (.c .s .nil)))
  have q11 : Rp _ (.tup [.str (Str.ofString "given"), .tup [.str (Str.ofString "ends"), .str (Str.ofString "qa"), .str (Str.ofString "b")]]) (.ref p11) := Rp.new h11 (.c .s (.c q10 .nil))
  have R7 := Rps.append q11 (R6.mono (Same.tup ((same_new h10 (.tup [.str (Str.ofString "ends"), .str (Str.ofString "qa"), .str (Str.ofString "b")])).trans (same_new h11 (.tup [.str (Str.ofString "given"), .ref p10])))))
  have q12 : Rp _ (.tup [.str (Str.ofString "told"), .int 5, .str (Str.ofString ""), .int 1]) (.ref p12) := Rp.new h12 (.c .s (.c .i (.c .s (.c .i .nil))))
  have R8 := Rps.append q12 (R7.mono (Same.tup (same_new h12 (.tup [.str (Str.ofString "told"), .int 5, .str (Str.ofString ""), .int 1]))))
  have R9 := (R8.mono (Same.tup (same_new hM1 (.lst [.ref p11, .ref p12]))))
  have eL1 := ((((same_new h10 (.tup [.str (Str.ofString "ends"), .str (Str.ofString "qa"), .str (Str.ofString "b")])).trans (same_new h11 (.tup [.str (Str.ofString "given"), .ref p10]))).trans (same_new h12 (.tup [.str (Str.ofString "told"), .int 5, .str (Str.ofString ""), .int 1]))).trans (same_new hM1 (.lst [.ref p11, .ref p12]))) _ _ (upd_same (H := _) (a := L1) (o := .lst [.ref p2, .ref p3, .ref p6, .ref p7, .ref p9]))
  refine ⟨L1, M1, _, _, rfl, rfl, eL1, upd_same, (by show 5 + 2 ≤ sizeLine; decide), fun L2 hL2 => ?_⟩
  have R10 := (R9.mono (Same.tup (same_new hL2 (.lst [.ref p2, .ref p3, .ref p6, .ref p7, .ref p9, .ref p11, .ref p12]))))
  refine ⟨_, rfl, ⟨(by show 1 ≤ sizeLine; decide), fun p13 h13 => ⟨(by show 4 ≤ sizeLine; decide), fun p14 h14 => ⟨(by show 1 ≤ sizeLine; decide), fun p15 h15 => ⟨(by show 4 ≤ sizeLine; decide), fun p16 h16 => ⟨(by show 1 ≤ sizeLine; decide), fun p17 h17 => ⟨(by show 3 ≤ sizeLine; decide), fun p18 h18 => ⟨(by show 2 ≤ sizeLine; decide), fun p19 h19 => ⟨(by show 0 ≤ sizeLine; decide), fun p20 h20 => ⟨(by show 0 ≤ sizeLine; decide), fun p21 h21 => ⟨rfl, fun v22 H22 s22 r22 => ⟨(by show 4 ≤ sizeLine; decide), fun p23 h23 => ⟨(by show 2 ≤ sizeLine; decide), fun p24 h24 => ⟨(by show 8 ≤ sizeLine; decide), fun M2 hM2 => ?_⟩⟩⟩⟩⟩⟩⟩⟩⟩⟩⟩⟩⟩⟩
  have q13 : Rp _ (.tup [.str (Str.ofString "known")]) (.ref p13) := Rp.new h13 (.c .s .nil)
  have q14 : Rp _ (.tup [.str (Str.ofString "told"), .tup [.str (Str.ofString "known")], .int 5, .int 1]) (.ref p14) := Rp.new h14 (.c .s (.c q13 (.c .i (.c .i .nil))))
  have R11 := Rps.append q14 (R10.mono (Same.tup ((same_new h13 (.tup [.str (Str.ofString "known")])).trans (same_new h14 (.tup [.str (Str.ofString "told"), .ref p13, .int 5, .int 1])))))
  have q15 : Rp _ (.tup [.str (Str.ofString "known")]) (.ref p15) := Rp.new h15 (.c .s .nil)
  have q16 : Rp _ (.tup [.str (Str.ofString "told"), .tup [.str (Str.ofString "known")], .str (Str.ofString "3"), .str (Str.ofString "1")]) (.ref p16) := Rp.new h16 (.c .s (.c q15 (.c .s (.c .s .nil))))
  have R12 := Rps.append q16 (R11.mono (Same.tup ((same_new h15 (.tup [.str (Str.ofString "known")])).trans (same_new h16 (.tup [.str (Str.ofString "told"), .ref p15, .str (Str.ofString "3"), .str (Str.ofString "1")])))))
  have q17 : Rp _ (.tup [.str (Str.ofString "known")]) (.ref p17) := Rp.new h17 (.c .s .nil)
  have q18 : Rp _ (.tup [.str (Str.ofString "told"), .tup [.str (Str.ofString "known")], .str (Str.ofString "3")]) (.ref p18) := Rp.new h18 (.c .s (.c q17 (.c .s .nil)))
  have R13 := Rps.append q18 (R12.mono (Same.tup ((same_new h17 (.tup [.str (Str.ofString "known")])).trans (same_new h18 (.tup [.str (Str.ofString "told"), .ref p17, .str (Str.ofString "3")])))))
  have q19 : Rp _ (.tup [.str (Str.ofString "jump"), .int 1]) (.ref p19) := Rp.new h19 (.c .s (.c .i .nil))
  have R14 := Rps.append q19 (R13.mono (Same.tup (same_new h19 (.tup [.str (Str.ofString "jump"), .int 1]))))
  have q20 : Rp _ (.tup []) (.ref p20) := Rp.new h20 .nil
  have R15 := Rps.append q20 (R14.mono (Same.tup (same_new h20 (.tup []))))
  have R16 := Rps.append (Rp.i (i := 7)) R15
  have q21 : Rp _ (.tup []) (.ref p21) := Rp.new h21 .nil
  have q23 : Rp _ (.tup [.str (Str.ofString "shop"), .str (Str.ofString "ha"), .tup [], startD]) (.ref p23) := Rp.new h23 (.c .s (.c .s (.c (q21.mono (Same.tup s22)) (.c r22 .nil))))
  have R17 := Rps.append q23 (R16.mono (Same.tup (((same_new h21 (.tup [])).trans s22).trans (same_new h23 (.tup [.str (Str.ofString "shop"), .str (Str.ofString "ha"), .ref p21, v22])))))
  have q24 : Rp _ (.tup [.str (Str.ofString "short"), .int 3]) (.ref p24) := Rp.new h24 (.c .s (.c .i .nil))
  have R18 := Rps.append q24 (R17.mono (Same.tup (same_new h24 (.tup [.str (Str.ofString "short"), .int 3]))))
  have R19 := (R18.mono (Same.tup (same_new hM2 (.lst [.ref p14, .ref p16, .ref p18, .ref p19, .ref p20, .int 7, .ref p23, .ref p24]))))
  have eL2 := (((((((((((((same_new h13 (.tup [.str (Str.ofString "known")])).trans (same_new h14 (.tup [.str (Str.ofString "told"), .ref p13, .int 5, .int 1]))).trans (same_new h15 (.tup [.str (Str.ofString "known")]))).trans (same_new h16 (.tup [.str (Str.ofString "told"), .ref p15, .str (Str.ofString "3"), .str (Str.ofString "1")]))).trans (same_new h17 (.tup [.str (Str.ofString "known")]))).trans (same_new h18 (.tup [.str (Str.ofString "told"), .ref p17, .str (Str.ofString "3")]))).trans (same_new h19 (.tup [.str (Str.ofString "jump"), .int 1]))).trans (same_new h20 (.tup []))).trans (same_new h21 (.tup []))).trans s22).trans (same_new h23 (.tup [.str (Str.ofString "shop"), .str (Str.ofString "ha"), .ref p21, v22]))).trans (same_new h24 (.tup [.str (Str.ofString "short"), .int 3]))).trans (same_new hM2 (.lst [.ref p14, .ref p16, .ref p18, .ref p19, .ref p20, .int 7, .ref p23, .ref p24]))) _ _ (upd_same (H := _) (a := L2) (o := .lst [.ref p2, .ref p3, .ref p6, .ref p7, .ref p9, .ref p11, .ref p12]))
  refine ⟨L2, M2, _, _, rfl, rfl, eL2, upd_same, (by show 7 + 8 ≤ sizeLine; decide), fun L3 hL3 => ?_⟩
  have R20 := (R19.mono (Same.tup (same_new hL3 (.lst [.ref p2, .ref p3, .ref p6, .ref p7, .ref p9, .ref p11, .ref p12, .ref p14, .ref p16, .ref p18, .ref p19, .ref p20, .int 7, .ref p23, .ref p24]))))
  have sT := ((((((((((((((((((((((((((((same_new h1 (.tup [])).trans (same_new h2 (.tup [.str (Str.ofString "published"), .ref p1]))).trans (same_new h3 (.tup [.str (Str.ofString "published")]))).trans (same_new h4 (.tup [.str (Str.ofString "withdraw"), .int 1]))).trans (same_new h5 (.tup [.str (Str.ofString "notice"), .int 1, .ref p4]))).trans (same_new h6 (.tup [.str (Str.ofString "heard"), .ref p5]))).trans (same_new h7 (.tup [.str (Str.ofString "given"), .int 5, .int 1]))).trans (same_new h8 (.tup [.str (Str.ofString "ends"), .str (Str.ofString "P"), .str (Str.ofString "b")]))).trans (same_new h9 (.tup [.str (Str.ofString "given"), .ref p8, .int 1]))).trans (same_new hL1 (.lst [.ref p2, .ref p3, .ref p6, .ref p7, .ref p9]))).trans (same_new h10 (.tup [.str (Str.ofString "ends"), .str (Str.ofString "qa"), .str (Str.ofString "b")]))).trans (same_new h11 (.tup [.str (Str.ofString "given"), .ref p10]))).trans (same_new h12 (.tup [.str (Str.ofString "told"), .int 5, .str (Str.ofString ""), .int 1]))).trans (same_new hM1 (.lst [.ref p11, .ref p12]))).trans (same_new hL2 (.lst [.ref p2, .ref p3, .ref p6, .ref p7, .ref p9, .ref p11, .ref p12]))).trans (same_new h13 (.tup [.str (Str.ofString "known")]))).trans (same_new h14 (.tup [.str (Str.ofString "told"), .ref p13, .int 5, .int 1]))).trans (same_new h15 (.tup [.str (Str.ofString "known")]))).trans (same_new h16 (.tup [.str (Str.ofString "told"), .ref p15, .str (Str.ofString "3"), .str (Str.ofString "1")]))).trans (same_new h17 (.tup [.str (Str.ofString "known")]))).trans (same_new h18 (.tup [.str (Str.ofString "told"), .ref p17, .str (Str.ofString "3")]))).trans (same_new h19 (.tup [.str (Str.ofString "jump"), .int 1]))).trans (same_new h20 (.tup []))).trans (same_new h21 (.tup []))).trans s22).trans (same_new h23 (.tup [.str (Str.ofString "shop"), .str (Str.ofString "ha"), .ref p21, v22]))).trans (same_new h24 (.tup [.str (Str.ofString "short"), .int 3]))).trans (same_new hM2 (.lst [.ref p14, .ref p16, .ref p18, .ref p19, .ref p20, .int 7, .ref p23, .ref p24])))
  have sU := sT.trans (same_new hL3 (.lst [.ref p2, .ref p3, .ref p6, .ref p7, .ref p9, .ref p11, .ref p12, .ref p14, .ref p16, .ref p18, .ref p19, .ref p20, .int 7, .ref p23, .ref p24]))
  have RR := R20
  have hbU := hb.same sU
  have nLb : L3 ≠ b := fun e => by
    obtain ⟨ds, n, e1, _⟩ := hb.same sT
    rw [← e, hL3] at e1
    cases e1
  refine ⟨_, rfl, _, rfl, b, c, L3, _, rfl, ⟨upd_same, nLb, by simp, by show 15 ≤ 1000; decide⟩, hbU, fun j x H4 hx hb4 k4 => ?_⟩
  obtain ⟨d, hd, r⟩ := Rps.get RR hx
  exact q x d H4 (r.mono (Kept.tup hbU k4)) (List.mem_of_getElem? hd) hb4 ((Same.kept sU).trans k4)
/-! ### the law's own sum, its lines -/
def spLSum : Sp := fun vs H Q _ => ∃ (n b : Nat) (z : Str), vs = [.int ((n : Nat) : Int), .int ((b : Nat) : Int), .str z] ∧ z.length ≤ 1000000 ∧ Q (.int ((sumB n b (tl z) : Nat) : Int)) H
theorem ok_lsum (F : Fun K "_law_sum" "_law_sum" s__law_sum f fd) (T : Txt0 mg) : FnOk P w K mg base CX0 1 f fd ["n", "before", "text"] spLSum := by
  refine F.ok sc__law_sum (fun vs H Q E h => ?_) (fun cdv A outer s H vs Q E hr h => ?_)
  · obtain ⟨n, b, z, rfl, _⟩ := h
    rfl
  obtain ⟨n, b, z, rfl, hz, q⟩ := h
  refine ⟨_, pss_cons (ps_set (i := 3) sc__law_sum.nd rfl (Or.inl rfl) (pe_op op_add (pv 1) (pv 0)))
    (pss_cons (ps_for PassesOwn.never rfl (pi_range1 rfl (by exact T.n_range) (pa_cons (pe_callB call_len_str rfl (by exact T.n_len) PySem.boot_len (pa_cons (pv 2) pa_nil)) pa_nil)) (pg_name (i := 4) sc__law_sum.nd rfl (Or.inl rfl)) (pss_one (ps_set (i := 3) sc__law_sum.nd rfl (Or.inl rfl) (pe_op op_add (pv 3) (pe_op op_mul (pe_op op_add (pv 4) (pe_int)) (pe_callB call_ord rfl (by exact T.n_ord) (by decide +kernel) (pa_cons (pe_ix ix_str (pv 2) (pv 4) (fun _ _ => rfl)) pa_nil)))))))
    (pss_one (ps_ret (pe_op op_mod (pe_callTy call_int1 rfl (by exact T.n_int) (by decide +kernel) (pa_cons (pv 3) pa_nil)) (pe_int))))), ?_⟩
  have hL := len_tl z
  refine ⟨_, rfl, _, rfl, _, _, rfl, rfl, _, rfl, _, rfl, small16 (by omega), _, rfl, by omega, by omega, for_range (lo := 0) (n := ((z.length : Nat) : Int).toNat) (fun i σ' H' => H' = H ∧ ∃ x4, σ' = [some (.int ((n : Nat) : Int)), some (.int ((b : Nat) : Int)), some (.str z), some (.int (((b + n + wsum 0 ((tl z).take i)) : Nat) : Int)), x4]) ?_ ?_ ?_⟩
  · refine ⟨rfl, none, ?_⟩
    rw [List.take_zero, show ((b + n + wsum 0 [] : Nat) : Int) = (b : Int) + (n : Int) by show ((b + n + 0 : Nat) : Int) = _; omega]
    rfl
  · rintro i σ' H' hi ⟨rfl, x4, rfl⟩
    have hi' : i < (tl z).length := by omega
    have hg : (tl z)[i]? = some (tl z)[i] := List.getElem?_eq_getElem hi'
    have e0 : (0 : Int) + (i : Int) = (i : Int) := by omega
    have ga : atI z.cps.toList ((i : Nat) : Int) = some (tl z)[i] := atI_nat (xs := z.cps.toList) hg
    have et : (tl z).take (i + 1) = (tl z).take i ++ [(tl z)[i]] := by rw [List.take_add_one, hg]; rfl
    have ee : ((b + n + wsum 0 ((tl z).take (i + 1)) : Nat) : Int) = ((b + n + wsum 0 ((tl z).take i) : Nat) : Int) + ((i : Int) + 1) * (((tl z)[i] : Nat) : Int) := by
      rw [et, wsum_app, List.length_take, Nat.min_eq_left (by omega), Nat.zero_add]
      push_cast
      omega
    rw [e0]
    refine ⟨_, rfl, _, rfl, _, _, rfl, rfl, _, rfl, _, rfl, z, _, _, rfl, rfl, small16 (by omega), ga, _, rfl, rfl, _, _, rfl, rfl, .inl ⟨by omega, by omega⟩, _, _, rfl, rfl, rfl, some (.int ((i : Nat) : Int)), ?_⟩
    rw [ee]
    rfl
  · rintro σ' H' ⟨rfl, x4, rfl⟩
    have et : (tl z).take ((z.length : Nat) : Int).toNat = tl z := List.take_of_length_le (by omega)
    rw [et]
    refine ⟨_, rfl, .inl ⟨_, rfl, _, _, rfl, rfl, (show (0 : Int) < 99991 by decide), ?_⟩⟩
    have eq : (((b + n + wsum 0 (tl z) : Nat)) : Int) % 99991 = ((sumB n b (tl z) : Nat) : Int) := by unfold sumB; omega
    show Q (V.int ((((b + n + wsum 0 (tl z) : Nat)) : Int) % 99991)) _
    rw [eq]
    exact q
structure FineD (N : Nat) (d : D) : Prop where
  deep : d.deep < N
  len : d.show.length ≤ 1000
  fit : d.Fit
  pos : ∀ c ∈ d.show, 0 < c
def linesF : Nat → Nat → List D → List (List Nat)
  | _, _, [] => []
  | n, b, d :: ds => lineL n (sumB n b d.show) d.show :: linesF (n + 1) (sumB n b d.show) ds
theorem linesF_len : ∀ (ds : List D) (n b : Nat), (linesF n b ds).length = ds.length
  | [], _, _ => rfl
  | d :: ds, n, b => congrArg (· + 1) (linesF_len ds _ _)
def spLines (N : Nat) : Sp := fun vs H Q _ => ∃ (L : Addr) (us : List V) (ds : List D), vs = [.ref L] ∧ (H L = some (.lst us) ∧ Rps H ds us ∧ ds.length ≤ 100 ∧ ∀ d ∈ ds, FineD N d) ∧
  ∀ (M : Addr) (H' : Hp), Same H H' → H M = none → H' M = some (.lst ((linesF 0 0 ds).map fun l => V.str (strOf l))) → Q (.ref M) H'
theorem ok_lines {N : Nat} (F : Fun K "_law_lines" "_law_lines" s__law_lines f fd) (T : Txt0 mg) (c_show_plain : Cal P w K mg base CX0 (N + 1) "show_plain" ["value"] (spPl N)) (c__law_sum : Cal P w K mg base CX0 1 "_law_sum" ["n", "before", "text"] spLSum) : FnOk P w K mg base CX0 (N + 2) f fd ["entries"] (spLines N) := by
  refine F.ok sc__law_lines (fun vs H Q E h => ?_) (fun cdv A outer s H vs Q E hr h => ?_)
  · obtain ⟨L, us, ds, rfl, _⟩ := h
    rfl
  obtain ⟨L, us, ds, rfl, ⟨hL, hr0, hlen, hfine⟩, q⟩ := h
  refine ⟨_, pss_cons (ps_set (i := 1) sc__law_lines.nd rfl (Or.inl rfl) (pe_lst (pa_nil)))
    (pss_cons (ps_set (i := 2) sc__law_lines.nd rfl (Or.inl rfl) (pe_int))
    (pss_cons (ps_for PassesOwn.never rfl (pi_range1 rfl (by exact T.n_range) (pa_cons (pe_callB call_len_seq rfl (by exact T.n_len) PySem.boot_len (pa_cons (pv 0) pa_nil)) pa_nil)) (pg_name (i := 3) sc__law_lines.nd rfl (Or.inl rfl)) (pss_cons (ps_set (i := 4) sc__law_lines.nd rfl (Or.inl rfl) (pe_cal c_show_plain (hr.mono (by omega)) rfl pass0 (pa_cons (pe_ix ix_list (pv 0) (pv 3) (fun _ _ => rfl)) pa_nil)))
    (pss_cons (ps_set (i := 2) sc__law_lines.nd rfl (Or.inl rfl) (pe_cal c__law_sum (hr.mono (by omega)) rfl pass0 (pa_cons (pv 3) (pa_cons (pv 2) (pa_cons (pv 4) pa_nil)))))
    (pss_one (ps_expr (pe_bm PySem.F.plainAttrs_list PySem.F.slot_list_append PySem.F.type_list_append mt_append (pv 1) (pa_cons (pe_op op_add_str (pe_op op_add_str (pe_op op_add_str (pe_op op_add_str (pe_callTy call_str_int rfl (by exact T.n_str) (by decide +kernel) (pa_cons (pv 3) pa_nil)) (pe_str)) (pe_callTy call_str_int rfl (by exact T.n_str) (by decide +kernel) (pa_cons (pv 2) pa_nil))) (pe_str)) (pv 4)) pa_nil)))))))
    (pss_one (ps_ret (pv 1))))), ?_⟩
  have lus := hr0.length
  refine ⟨Nat.zero_le _, fun M hM => ⟨_, rfl, L, _, rfl, .inl (SqL.of (same_new hM _ _ _ hL)), _, rfl, by omega, by omega, for_range (lo := 0) (n := ((us.length : Nat) : Int).toNat) (fun i σ' H' => ∃ (b : Nat) (ls : List (List Nat)) (x3 x4 : Option V), Same H H' ∧ H' M = some (.lst (ls.map fun l => V.str (strOf l))) ∧ ls.length = i ∧ linesF 0 0 ds = ls ++ linesF i b (ds.drop i) ∧ b < 100000 ∧
    σ' = [some (.ref L), some (.ref M), some (.int ((b : Nat) : Int)), x3, x4]) ?_ ?_ ?_⟩⟩
  · exact ⟨0, [], none, none, same_new hM _, upd_same, rfl, by simp, by decide, rfl⟩
  · rintro i σ' H' hi ⟨b, ls, x3, x4, hS, hM', hls, hl, hb, rfl⟩
    have hi' : i < us.length := by omega
    have e0 : (0 : Int) + (i : Int) = (i : Int) := by omega
    obtain ⟨d, g1, q1⟩ := hr0.get (List.getElem?_eq_getElem hi')
    have hd : d ∈ ds := List.mem_of_getElem? g1
    have hf := hfine d hd
    have hdrop : ds.drop i = d :: ds.drop (i + 1) := by
      have hi2 : i < ds.length := by omega
      rw [List.drop_eq_getElem_cons hi2]
      rw [List.getElem?_eq_getElem hi2] at g1
      rw [Option.some.inj g1]
    rw [hdrop] at hl
    rw [e0]
    have hflen := hf.len
    refine ⟨_, rfl, _, rfl, L, _, _, _, rfl, rfl, SqL.of (hS _ _ hL), atI_nat (List.getElem?_eq_getElem hi'), d, _, rfl, ⟨hf.deep, by omega, hf.fit⟩, q1.mono (Same.tup hS), fun H2 s2 => ?_⟩
    have ls1 : (showS d).length = d.show.length := len_strOf _
    refine ⟨_, rfl, _, rfl, _, rfl, i, b, showS d, rfl, by omega, ?_⟩
    have lb := sumB_lt i b d.show
    have lb' : sumB i b (tl (showS d)) < 99991 := sumB_lt _ _ _
    have l1 : (numL i).length ≤ 3 := numL_len (by decide) (by omega)
    have l2 : (numL (sumB i b d.show)).length ≤ 5 := numL_len (by decide) (by omega)
    have e1 : Str.ofString (toString ((i : Nat) : Int)) ++ Str.ofString " " = strOf (numL i ++ [32]) := by rw [num_nat, e_blank, strOf_cat]
    have e2 : Str.ofString (toString ((i : Nat) : Int)) ++ Str.ofString " " ++ Str.ofString (toString ((sumB i b (tl (showS d)) : Nat) : Int)) = strOf (numL i ++ [32] ++ numL (sumB i b d.show)) := by rw [e1, num_nat, tl_showS, strOf_cat]
    have e3 : Str.ofString (toString ((i : Nat) : Int)) ++ Str.ofString " " ++ Str.ofString (toString ((sumB i b (tl (showS d)) : Nat) : Int)) ++ Str.ofString " " = strOf (numL i ++ [32] ++ numL (sumB i b d.show) ++ [32]) := by rw [e2, e_blank, strOf_cat]
    have e4 : Str.ofString (toString ((i : Nat) : Int)) ++ Str.ofString " " ++ Str.ofString (toString ((sumB i b (tl (showS d)) : Nat) : Int)) ++ Str.ofString " " ++ showS d = strOf (lineL i (sumB i b d.show) d.show) := by
      rw [e3, show showS d = strOf d.show from rfl, strOf_cat]
      unfold lineL
      congr 1
      simp
    have hM2 := s2 _ _ hM'
    have lblank : (Str.ofString " ").length = 1 := by decide +kernel
    refine ⟨_, rfl, .inl ⟨rfl, _, SqL.of hM2⟩, _, rfl, _, rfl, log_place (by omega), _, _, rfl, rfl, small16 (by rw [num_nat, len_strOf, lblank]; omega), _, rfl, _, rfl, log_place (by omega), _, _, rfl, rfl, small16 ?_, _, _, rfl, rfl, small16 ?_, _, rfl, _, _, rfl, rfl, small16 ?_, M, _, _, rfl, rfl, hM2, ?_, ?_⟩
    · rw [e1, len_strOf, num_nat, len_strOf, tl_showS]
      simp only [List.length_append, List.length_cons, List.length_nil]
      omega
    · rw [e2, len_strOf, lblank]
      simp only [List.length_append, List.length_cons, List.length_nil]
      omega
    · rw [e3, len_strOf]
      simp only [List.length_append, List.length_cons, List.length_nil]
      omega
    · rw [List.length_map, hls]
      exact small_of (by omega)
    · rw [e4]
      refine ⟨sumB i b d.show, ls ++ [lineL i (sumB i b d.show) d.show], some (.int ((i : Nat) : Int)), some (.str (showS d)), ?_, ?_, ?_, ?_, by omega, ?_⟩
      · intro c o e
        rw [upd_ne (ne_of_none e hM)]
        exact (hS.trans s2) _ _ e
      · rw [upd_same, List.map_append]
        rfl
      · rw [List.length_append, hls]
        rfl
      · rw [hl, linesF, List.append_assoc]
        rfl
      · rw [tl_showS]
        rfl
  · rintro σ' H' ⟨b, ls, x3, x4, hS, hM', hls, hl, hb, rfl⟩
    have ed : ds.drop ((us.length : Nat) : Int).toNat = [] := List.drop_eq_nil_of_le (by omega)
    rw [ed] at hl
    have hl' : linesF 0 0 ds = ls := by rw [hl]; simp [linesF]
    exact ⟨_, rfl, q M H' hS hM (by rw [hl']; exact hM')⟩
end
end Tst
namespace Tst
open PySem PySem.Spec PyProof.Rows L2 TL
/-! ### cut lists and texts -/
abbrev sv (l : List Nat) : V := V.str (strOf l)
theorem cut_to (xs : List V) (k : Nat) : cutV xs none (some ((k : Nat) : Int)) = xs.take k := by
  unfold cutV
  have e1 : HT.sIx xs.length 0 none = 0 := rfl
  rw [e1, HT.sIx_nat, List.drop_zero, Nat.sub_zero]
  by_cases h : k ≤ xs.length
  · rw [Nat.min_eq_left h]
  · rw [Nat.min_eq_right (by omega), List.take_length, List.take_of_length_le (by omega)]
theorem cut_from (xs : List V) (k : Nat) : cutV xs (some ((k : Nat) : Int)) none = xs.drop k := by
  unfold cutV
  have e1 : HT.sIx xs.length xs.length none = xs.length := rfl
  rw [e1, HT.sIx_nat]
  by_cases h : k ≤ xs.length
  · rw [Nat.min_eq_left h]
    exact List.take_of_length_le (by rw [List.length_drop]; exact Nat.le_refl _)
  · rw [Nat.min_eq_right (by omega), List.drop_length, List.drop_eq_nil_of_le (by omega), List.take_nil]
theorem cutM_to (ls : List (List Nat)) (k : Nat) : cutV (ls.map sv) none (some ((k : Nat) : Int)) = (ls.take k).map sv := by rw [cut_to, List.map_take]
theorem cutM_from (ls : List (List Nat)) (k : Nat) : cutV (ls.map sv) (some ((k : Nat) : Int)) none = (ls.drop k).map sv := by rw [cut_from, List.map_drop]
theorem cutS_to (l : List Nat) (k : Nat) : cutS (strOf l) none (some ((k : Nat) : Int)) = strOf (l.take k) := by
  refine ext_tl ?_
  show ((l.drop (HT.sIx (strOf l).length 0 none)).take (HT.sIx (strOf l).length (strOf l).length (some ((k : Nat) : Int)) - HT.sIx (strOf l).length 0 none)) = l.take k
  have e1 : HT.sIx (strOf l).length 0 none = 0 := rfl
  rw [e1, HT.sIx_nat, len_strOf, List.drop_zero, Nat.sub_zero]
  by_cases h : k ≤ l.length
  · rw [Nat.min_eq_left h]
  · rw [Nat.min_eq_right (by omega), List.take_length, List.take_of_length_le (by omega)]
theorem cutS_from (l : List Nat) (k : Nat) : cutS (strOf l) (some ((k : Nat) : Int)) none = strOf (l.drop k) := by
  refine ext_tl ?_
  show ((l.drop (HT.sIx (strOf l).length 0 (some ((k : Nat) : Int)))).take (HT.sIx (strOf l).length (strOf l).length none - HT.sIx (strOf l).length 0 (some ((k : Nat) : Int)))) = l.drop k
  have e1 : HT.sIx (strOf l).length (strOf l).length none = (strOf l).length := rfl
  rw [e1, HT.sIx_nat, len_strOf]
  by_cases h : k ≤ l.length
  · rw [Nat.min_eq_left h]
    exact List.take_of_length_le (by rw [List.length_drop]; exact Nat.le_refl _)
  · rw [Nat.min_eq_right (by omega), List.drop_length, List.drop_eq_nil_of_le (by omega), List.take_nil]
theorem cutS_last (l : List Nat) : cutS (strOf l) none (some (-1)) = strOf (l.take (l.length - 1)) := by
  refine ext_tl ?_
  show ((l.drop (HT.sIx (strOf l).length 0 none)).take (HT.sIx (strOf l).length (strOf l).length (some (-1)) - HT.sIx (strOf l).length 0 none)) = _
  have e1 : HT.sIx (strOf l).length 0 none = 0 := rfl
  have e2 : HT.sIx (strOf l).length (strOf l).length (some (-1)) = l.length - 1 := by
    show (if (-1 : Int) < 0 then ((-1 : Int) + ((strOf l).length : Int)).toNat else min (-1 : Int).toNat (strOf l).length) = _
    rw [if_pos (by decide), len_strOf]
    omega
  rw [e1, e2, List.drop_zero, Nat.sub_zero]
  rfl
theorem len_app (a c : Str) : (a ++ c).length = a.length + c.length := by rw [len_tl, len_tl a, len_tl c, tl_append, List.length_append]
theorem l_0 : (Str.ofString "0").length = 1 := by decide +kernel
theorem l_1 : (Str.ofString " ").length = 1 := by decide +kernel
theorem l_2 : (Str.ofString "  ").length = 2 := by decide +kernel
theorem l_3 : (Str.ofString " 0").length = 2 := by decide +kernel
theorem s_0 (l : List Nat) : Str.ofString "0" ++ strOf l = strOf (48 :: l) := by rw [show Str.ofString "0" = strOf [48] from lit _ _, strOf_cat]; rfl
theorem s_2 (A B C : List Nat) : strOf A ++ Str.ofString "  " ++ strOf B ++ Str.ofString " " ++ strOf C = strOf (A ++ 32 :: 32 :: (B ++ 32 :: C)) := by
  rw [show Str.ofString "  " = strOf [32, 32] from lit _ _, e_blank, strOf_cat, strOf_cat, strOf_cat, strOf_cat]
  congr 1
  simp
theorem s_3 (A B C : List Nat) : strOf A ++ Str.ofString " 0" ++ strOf B ++ Str.ofString " " ++ strOf C = strOf (A ++ 32 :: 48 :: (B ++ 32 :: C)) := by
  rw [show Str.ofString " 0" = strOf [32, 48] from lit _ _, e_blank, strOf_cat, strOf_cat, strOf_cat, strOf_cat]
  congr 1
  simp
theorem s_4 (l : List Nat) : strOf l ++ Str.ofString " " = strOf (l ++ [32]) := by rw [e_blank, strOf_cat]
/-! ### lines changed -/
def flat (ls : List (List Nat)) : List Nat := (ls.map fun l => l ++ [10]).flatten
/-- what a line is changed to as it stands: with parts of it -/
def others (A B C : List Nat) : List (List Nat) := [48 :: (A ++ 32 :: (B ++ 32 :: C)), A ++ 32 :: 32 :: (B ++ 32 :: C), A ++ 32 :: 48 :: (B ++ 32 :: C), (A ++ 32 :: (B ++ 32 :: C)) ++ [32], []]
def signs5 : List Nat := [48, 49, 55, 32, 112]
inductive Mod (ls : List (List Nat)) : List (List Nat) → Prop
  | same : Mod ls ls
  | gone (k : Nat) : k < ls.length → Mod ls (ls.take k ++ ls.drop (k + 1))
  | twice (k : Nat) : k < ls.length → Mod ls (ls.take (k + 1) ++ ls.drop k)
  | swap (k : Nat) (a b : List Nat) : ls[k]? = some a → ls[k + 1]? = some b → Mod ls (ls.take k ++ [b, a] ++ ls.drop (k + 2))
  | other (k : Nat) (A B C r : List Nat) : 32 ∉ A → 32 ∉ B → ls[k]? = some (A ++ 32 :: (B ++ 32 :: C)) → r ∈ others A B C → Mod ls (ls.take k ++ [r] ++ ls.drop (k + 1))
  | sign (k : Nat) (l : List Nat) (p c : Nat) : ls[k]? = some l → p < l.length → c ∈ signs5 → Mod ls (ls.take k ++ [l.take p ++ [c] ++ l.drop (p + 1)] ++ ls.drop (k + 1))
def Shift (ls : List (List Nat)) (T : List Nat) : Prop := (∃ ls', Mod ls ls' ∧ T = flat ls') ∨ ∃ k, T = (flat ls).take k
theorem flat_join (ls : List (List Nat)) : Txt.join (Str.ofString "") (ls.map fun l => strOf (l ++ [10])) = strOf (flat ls) := by
  refine ext_tl ?_
  rw [TL.join_eq, TL.tl_join, show tl (Str.ofString "") = [] by decide +kernel, join_flat]
  show _ = flat ls
  unfold flat
  rw [List.map_map]
  rfl
theorem flat_len {B : Nat} : ∀ {ls : List (List Nat)}, (∀ l ∈ ls, l.length ≤ B) → (flat ls).length ≤ ls.length * (B + 1)
  | [], _ => by simp [flat]
  | l :: ls, h => by
    have h1 := h l List.mem_cons_self
    have h2 := flat_len (ls := ls) fun x hx => h x (List.mem_cons_of_mem _ hx)
    show ((l ++ [10]) ++ flat ls).length ≤ _
    rw [List.length_append, List.length_append]
    show l.length + 1 + (flat ls).length ≤ (ls.length + 1) * (B + 1)
    rw [Nat.succ_mul]
    omega
theorem flat_sum (ls : List (List Nat)) : ((ls.map fun l => strOf (l ++ [10])).map (·.length)).sum = (flat ls).length := by
  induction ls with
  | nil => rfl
  | cons l ls ih =>
    rw [List.map_cons, List.map_cons, List.sum_cons, ih, len_strOf]
    show _ = ((l ++ [10]) ++ flat ls).length
    simp only [List.length_append]
theorem Mod.few {ls ls' : List (List Nat)} (h : Mod ls ls') (hl : ls.length ≤ 10) (hb : ∀ l ∈ ls, l.length ≤ 2000) : ls'.length ≤ 11 ∧ ∀ l ∈ ls', l.length ≤ 2001 := by
  have hb' : ∀ l ∈ ls, l.length ≤ 2001 := fun l h => Nat.le_succ_of_le (hb l h)
  have tk : ∀ k, ∀ l ∈ ls.take k, l.length ≤ 2001 := fun k l h => hb' l (List.mem_of_mem_take h)
  have dk : ∀ k, ∀ l ∈ ls.drop k, l.length ≤ 2001 := fun k l h => hb' l (List.mem_of_mem_drop h)
  cases h with
  | same => exact ⟨by omega, hb'⟩
  | gone k hk => exact ⟨by rw [List.length_append, List.length_take, List.length_drop]; omega, fun l h => (List.mem_append.mp h).elim (tk _ l) (dk _ l)⟩
  | twice k hk => exact ⟨by rw [List.length_append, List.length_take, List.length_drop]; omega, fun l h => (List.mem_append.mp h).elim (tk _ l) (dk _ l)⟩
  | swap k a b ha hb2 =>
    have h1 := (List.getElem?_eq_some_iff.mp ha).1
    have h2 := (List.getElem?_eq_some_iff.mp hb2).1
    refine ⟨by rw [List.length_append, List.length_append, List.length_take, List.length_drop]; show _ + 2 + _ ≤ _; omega, fun l h => ?_⟩
    rcases List.mem_append.mp h with h | h
    · rcases List.mem_append.mp h with h | h
      · exact tk _ l h
      · rcases List.mem_cons.mp h with rfl | h
        · exact hb' _ (List.mem_of_getElem? hb2)
        · rw [List.mem_singleton.mp h]
          exact hb' _ (List.mem_of_getElem? ha)
    · exact dk _ l h
  | other k A B C r hA hB hg hr =>
    have h1 := (List.getElem?_eq_some_iff.mp hg).1
    have h2 := hb _ (List.mem_of_getElem? hg)
    refine ⟨by rw [List.length_append, List.length_append, List.length_take, List.length_drop]; show _ + 1 + _ ≤ _; omega, fun l h => ?_⟩
    rcases List.mem_append.mp h with h | h
    · rcases List.mem_append.mp h with h | h
      · exact tk _ l h
      · rw [List.mem_singleton.mp h]
        simp only [List.length_append, List.length_cons] at h2
        simp only [others, List.mem_cons, List.not_mem_nil, or_false] at hr
        rcases hr with rfl | rfl | rfl | rfl | rfl <;> simp only [List.length_append, List.length_cons, List.length_nil] <;> omega
    · exact dk _ l h
  | sign k l0 p c hg hp hc =>
    have h1 := (List.getElem?_eq_some_iff.mp hg).1
    have h2 := hb _ (List.mem_of_getElem? hg)
    refine ⟨by rw [List.length_append, List.length_append, List.length_take, List.length_drop]; show _ + 1 + _ ≤ _; omega, fun l h => ?_⟩
    rcases List.mem_append.mp h with h | h
    · rcases List.mem_append.mp h with h | h
      · exact tk _ l h
      · rw [List.mem_singleton.mp h]
        simp only [List.length_append, List.length_cons, List.length_nil, List.length_take, List.length_drop]
        omega
    · exact dk _ l h
section
variable {P : Program} {w : World} {K : PySem.W.Frag} {mg : Str → Option Value} {base : Heap} {f : Addr} {fd : FuncData}
structure LineOk (l : List Nat) : Prop where
  form : ∃ A B C, 32 ∉ A ∧ 32 ∉ B ∧ l = A ++ 32 :: (B ++ 32 :: C)
  len : l.length ≤ 2000
def spShift : Sp := fun vs H Q _ => ∃ (b c L : Addr) (ls : List (List Nat)), vs = [.ref b, .ref L] ∧ (H L = some (.lst (ls.map sv)) ∧ L ≠ b ∧ ls ≠ [] ∧ ls.length ≤ 10 ∧ ∀ l ∈ ls, LineOk l) ∧ Box H b c ∧
  ∀ (T : List Nat) (H' : Hp), Shift ls T → T.length ≤ 30000 → Box H' b c → Kept b H H' → Q (sv T) H'
theorem ok_shift (F : Fun K "_law_shifted" "_law_shifted" s__law_shifted f fd) (T : Txt0 mg) (c__law_draw : Cal P w K mg base CX0 1 "_law_draw" ["box", "many"] spDraw) (c__law_pick : Cal P w K mg base CX0 2 "_law_pick" ["box", "things"] spPick) : FnOk P w K mg base CX0 3 f fd ["box", "lines"] spShift := by
  refine F.ok sc__law_shifted (fun vs H Q E h => ?_) (fun cdv A outer s H vs Q E hr h => ?_)
  · obtain ⟨b, c, L, ls, rfl, _⟩ := h
    rfl
  obtain ⟨b, c, L, ls, rfl, ⟨hL, hLb, hne, hlen, hok⟩, hb, q⟩ := h
  refine ⟨_, pss_cons (ps_set (i := 2) sc__law_shifted.nd rfl (Or.inl rfl) (pe_op op_mod (pe_callTy call_int1 rfl (by exact T.n_int) (by decide +kernel) (pa_cons (pe_cal c__law_draw (hr.mono (by omega)) rfl pass0 (pa_cons (pv 0) (pa_cons (pe_int) pa_nil))) pa_nil)) (pe_callB call_len_seq rfl (by exact T.n_len) PySem.boot_len (pa_cons (pv 1) pa_nil))))
    (pss_cons (ps_set (i := 3) sc__law_shifted.nd rfl (Or.inl rfl) (pe_cal c__law_draw (hr.mono (by omega)) rfl pass0 (pa_cons (pv 0) (pa_cons (pe_int) pa_nil))))
    (pss_cons (ps_set (i := 4) sc__law_shifted.nd rfl (Or.inl rfl) (pe_bm PySem.F.plainAttrs_str PySem.F.slot_str_split PySem.F.type_str_split mt_splitMax (pe_ix ix_list (pv 1) (pv 2) (fun _ _ => rfl)) (pa_cons (pe_str) (pa_cons (pe_int) pa_nil))))
    (C8.pss_cut (ps_if (pt_cmpR op_eq (pv 3) (pe_int) (nomark _)) (pss_one (ps_set (i := 1) sc__law_shifted.nd rfl (Or.inl rfl) (pe_op op_cat (pe_slice sl_list (pv 1) (po_none) (po_some (pv 2))) (pe_slice sl_list (pv 1) (po_some (pe_op op_add (pv 2) (pe_int))) (po_none))))) (pss_one (ps_if (pt_cmpR op_eq (pv 3) (pe_int) (nomark _)) (pss_one (ps_set (i := 1) sc__law_shifted.nd rfl (Or.inl rfl) (pe_op op_cat (pe_slice sl_list (pv 1) (po_none) (po_some (pe_op op_add (pv 2) (pe_int)))) (pe_slice sl_list (pv 1) (po_some (pv 2)) (po_none))))) (pss_one (ps_if (PW.pt (pw_and (pt_cmpR op_eq (pv 3) (pe_int) (nomark _)) (pw_and1 (pt_cmpR op_lt (pe_op op_add (pv 2) (pe_int)) (pe_callB call_len_seq rfl (by exact T.n_len) PySem.boot_len (pa_cons (pv 1) pa_nil)) (nomark _))))) (pss_one (ps_set (i := 1) sc__law_shifted.nd rfl (Or.inl rfl) (pe_op op_cat (pe_op op_cat (pe_slice sl_list (pv 1) (po_none) (po_some (pv 2))) (pe_lst (pa_cons (pe_ix ix_list (pv 1) (pe_op op_add (pv 2) (pe_int)) (fun _ _ => rfl)) (pa_cons (pe_ix ix_list (pv 1) (pv 2) (fun _ _ => rfl)) pa_nil)))) (pe_slice sl_list (pv 1) (po_some (pe_op op_add (pv 2) (pe_int))) (po_none))))) (pss_one (ps_if (pt_cmpR op_eq (pv 3) (pe_int) (nomark _)) (pss_one (ps_set (i := 1) sc__law_shifted.nd rfl (Or.inl rfl) (pe_op op_cat (pe_op op_cat (pe_slice sl_list (pv 1) (po_none) (po_some (pv 2))) (pe_lst (pa_cons (pe_cal c__law_pick (hr.mono (by omega)) rfl pass0 (pa_cons (pv 0) (pa_cons (pe_lst (pa_cons (pe_op op_add_str (pe_str) (pe_ix ix_list (pv 1) (pv 2) (fun _ _ => rfl))) (pa_cons (pe_op op_add_str (pe_op op_add_str (pe_op op_add_str (pe_op op_add_str (pe_ix ix_list (pv 4) (pe_int) (fun _ _ => rfl)) (pe_str)) (pe_ix ix_list (pv 4) (pe_int) (fun _ _ => rfl))) (pe_str)) (pe_ix ix_list (pv 4) (pe_int) (fun _ _ => rfl))) (pa_cons (pe_op op_add_str (pe_op op_add_str (pe_op op_add_str (pe_op op_add_str (pe_ix ix_list (pv 4) (pe_int) (fun _ _ => rfl)) (pe_str)) (pe_ix ix_list (pv 4) (pe_int) (fun _ _ => rfl))) (pe_str)) (pe_ix ix_list (pv 4) (pe_int) (fun _ _ => rfl))) (pa_cons (pe_op op_add_str (pe_ix ix_list (pv 1) (pv 2) (fun _ _ => rfl)) (pe_str)) (pa_cons (pe_str) pa_nil)))))) pa_nil))) pa_nil))) (pe_slice sl_list (pv 1) (po_some (pe_op op_add (pv 2) (pe_int))) (po_none))))) (pss_one (ps_if (pt_cmpR op_eq (pv 3) (pe_int) (nomark _)) (pss_cons (ps_set (i := 5) sc__law_shifted.nd rfl (Or.inl rfl) (pe_op op_mod (pe_callTy call_int1 rfl (by exact T.n_int) (by decide +kernel) (pa_cons (pe_cal c__law_draw (hr.mono (by omega)) rfl pass0 (pa_cons (pv 0) (pa_cons (pe_int) pa_nil))) pa_nil)) (pe_callB call_len_str rfl (by exact T.n_len) PySem.boot_len (pa_cons (pe_ix ix_list (pv 1) (pv 2) (fun _ _ => rfl)) pa_nil))))
    (pss_cons (ps_set (i := 6) sc__law_shifted.nd rfl (Or.inl rfl) (pe_cal c__law_pick (hr.mono (by omega)) rfl pass0 (pa_cons (pv 0) (pa_cons (pe_lst (pa_cons (pe_str) (pa_cons (pe_str) (pa_cons (pe_str) (pa_cons (pe_str) (pa_cons (pe_str) pa_nil)))))) pa_nil))))
    (pss_one (ps_set (i := 1) sc__law_shifted.nd rfl (Or.inl rfl) (pe_op op_cat (pe_op op_cat (pe_slice sl_list (pv 1) (po_none) (po_some (pv 2))) (pe_lst (pa_cons (pe_op op_add_str (pe_op op_add_str (pe_slice sl_str (pe_ix ix_list (pv 1) (pv 2) (fun _ _ => rfl)) (po_none) (po_some (pv 5))) (pv 6)) (pe_slice sl_str (pe_ix ix_list (pv 1) (pv 2) (fun _ _ => rfl)) (po_some (pe_op op_add (pv 5) (pe_int))) (po_none))) pa_nil))) (pe_slice sl_list (pv 1) (po_some (pe_op op_add (pv 2) (pe_int))) (po_none))))))) (pss_nil))))))))))
    (pss_cons (ps_set (i := 7) sc__law_shifted.nd rfl (Or.inl rfl) (pe_join (pe_str) (pe_lc (own := [("line", 8)]) (g := gName 8) rfl sc__law_shifted.nd (pi_list (pv 1)) (blkOk_by (own := [("line", 8)]) (N := ["box", "lines", "at", "kind", "words", "place", "sign", "text", "line"]) (sc := defScope s__law_shifted) (by decide +kernel)) (fun _ _ _ _ _ => pg_name (i := 8) sc__law_shifted.nd rfl (Or.inl rfl)) (fun _ _ _ _ _ => pts_nil) (fun _ _ _ _ _ => pe_op op_add_str (pv 8) (pe_str)))))
    (pss_cons (ps_if (pt_cmpR op_eq (pv 3) (pe_int) (nomark _)) (pss_one (ps_ret (pe_slice sl_str (pv 7) (po_none) (po_some (pe_op op_mod (pe_callTy call_int1 rfl (by exact T.n_int) (by decide +kernel) (pa_cons (pe_cal c__law_draw (hr.mono (by omega)) rfl pass0 (pa_cons (pv 0) (pa_cons (pe_int) pa_nil))) pa_nil)) (pe_op op_add (pe_callB call_len_str rfl (by exact T.n_len) PySem.boot_len (pa_cons (pv 7) pa_nil)) (pe_int))))))) (pss_nil))
    (pss_cons (ps_if (pt_cmpR op_eq (pv 3) (pe_int) (nomark _)) (pss_one (ps_ret (pe_slice sl_str (pv 7) (po_none) (po_some (pe_un un_neg (pe_int)))))) (pss_nil))
    (pss_one (ps_ret (pv 7))))))))), ?_⟩
  have hpos : 0 < ls.length := List.length_pos_iff.mpr hne
  refine ⟨_, rfl, b, c, 900, rfl, by decide, hb, fun m H1 m0 m1 hb1 k1 => .inl ⟨_, rfl, ?_⟩⟩
  have hL1 := k1 _ _ hLb hL
  refine ⟨_, rfl, L, _, rfl, .inl (SqL.of hL1), _, _, rfl, rfl, (by rw [List.length_map]; omega), ?_⟩
  rw [List.length_map]
  obtain ⟨k, hk, ek⟩ : ∃ k : Nat, k < ls.length ∧ (fun i j : Int => V.int (i % j)) m ((ls.length : Nat) : Int) = V.int ((k : Nat) : Int) := by
    have j0 := Int.emod_nonneg m (b := ((ls.length : Nat) : Int)) (by omega)
    have j1 := Int.emod_lt_of_pos m (b := ((ls.length : Nat) : Int)) (by omega)
    exact ⟨(m % ((ls.length : Nat) : Int)).toNat, by omega, congrArg V.int (by omega)⟩
  rw [ek]
  refine ⟨_, rfl, b, c, 9, rfl, by decide, hb1, fun kd H2 d0 d1 hb2 k2 => ?_⟩
  have hL2 := k2 _ _ hLb hL1
  have hg : ls[k]? = some ls[k] := List.getElem?_eq_getElem hk
  generalize hl : ls[k] = l at hg
  have hlo := hok l (List.mem_of_getElem? hg)
  obtain ⟨A0, B0, C0, hA, hB, hform⟩ := hlo.form
  have hll := hlo.len
  have hgm : (ls.map sv)[k]? = some (sv l) := by rw [List.getElem?_map, hg]; rfl
  refine ⟨_, rfl, _, rfl, L, _, _, _, rfl, rfl, SqL.of hL2, atI_nat hgm, rfl, ?_⟩
  refine ⟨strOf l, _, _, rfl, rfl, (by decide +kernel), by decide, by decide, small16 (by rw [len_strOf]; omega), fun W hW => ?_⟩
  have ew : Txt.splitMax (strOf l) (Str.ofString " ") 2 = [strOf A0, strOf B0, strOf C0] := by rw [hform]; exact split_two hA hB
  rw [ew]
  have nWb : W ≠ b := (Box.ne hb2 hW).1
  have hWL : W ≠ L := fun e => by rw [e, hL2] at hW; cases hW
  have sW := same_new hW (.lst ([strOf A0, strOf B0, strOf C0].map V.str))
  have hb3 := hb2.same sW
  have k3 := (k1.trans k2).trans (Same.kept sW)
  have hL3 := sW _ _ hL2
  have hW3 : upd H2 W (.lst ([strOf A0, strOf B0, strOf C0].map V.str)) W = some (.lst [sv A0, sv B0, sv C0]) := upd_same
  revert hb3 k3 hL3 hW3
  clear sW
  generalize upd H2 W _ = H3
  intro hb3 k3 hL3 hW3
  refine ⟨fun σ' H' => ∃ (ls' : List (List Nat)) (L' : Addr) (y5 y6 y7 y8 : Option V), σ' = [some (.ref b), some (.ref L'), some (.int ((k : Nat) : Int)), some (.int kd), some (.ref W), y5, y6, y7, y8] ∧ H' L' = some (.lst (ls'.map sv)) ∧ L' ≠ b ∧ Mod ls ls' ∧ (kd = 5 ∨ kd = 6 → ls' = ls) ∧ Box H' b c ∧ Kept b H H', ?_, ?_⟩
  · have ek1 : (fun i j : Int => V.int (i + j)) ((k : Nat) : Int) 1 = V.int (((k + 1 : Nat)) : Int) := rfl
    refine ⟨_, rfl, rfl, _, rfl, ?_⟩
    rw [dec_intV]
    by_cases c0 : kd = 0
    · refine iteY (decide_eq_true c0) ?_
      refine ⟨_, rfl, _, rfl, _, rfl, L, _, rfl, SqL.of hL3, fun p1 h1 => ⟨_, rfl, _, rfl, _, _, rfl, rfl, ((k + 1 : Nat) : Int), rfl, L, _, rfl, SqL.of (same_new h1 _ _ _ hL3), fun p2 h2 => ?_⟩⟩
      rw [cutM_to] at h2 ⊢
      rw [cutM_from]
      refine ⟨p1, p2, _, _, rfl, rfl, (same_new h2 _) _ _ upd_same, upd_same, small16 (by rw [List.length_map, List.length_map, List.length_take, List.length_drop]; omega), fun p3 h3 => ?_⟩
      have sA := ((same_new h1 (.lst ((ls.take k).map sv))).trans (same_new h2 (.lst ((ls.drop (k + 1)).map sv)))).trans (same_new h3 (.lst ((ls.take k).map sv ++ (ls.drop (k + 1)).map sv)))
      have hb9 := hb3.same ((same_new h1 (.lst ((ls.take k).map sv))).trans (same_new h2 (.lst ((ls.drop (k + 1)).map sv))))
      exact ⟨_, p3, _, _, _, _, rfl, by rw [upd_same, ← List.map_append], (Box.ne hb9 h3).1, .gone k hk, fun z => by omega, hb3.same sA, k3.trans (Same.kept sA)⟩
    refine iteN (decide_eq_false c0) ⟨_, rfl, rfl, _, rfl, ?_⟩
    rw [dec_intV]
    by_cases c1 : kd = 1
    · refine iteY (decide_eq_true c1) ?_
      refine ⟨_, rfl, _, rfl, _, _, rfl, rfl, ((k + 1 : Nat) : Int), rfl, L, _, rfl, SqL.of hL3, fun p1 h1 => ⟨_, rfl, _, rfl, _, rfl, L, _, rfl, SqL.of (same_new h1 _ _ _ hL3), fun p2 h2 => ?_⟩⟩
      rw [cutM_to] at h2 ⊢
      rw [cutM_from]
      refine ⟨p1, p2, _, _, rfl, rfl, (same_new h2 _) _ _ upd_same, upd_same, small16 (by rw [List.length_map, List.length_map, List.length_take, List.length_drop]; omega), fun p3 h3 => ?_⟩
      have sA := ((same_new h1 (.lst ((ls.take (k + 1)).map sv))).trans (same_new h2 (.lst ((ls.drop k).map sv)))).trans (same_new h3 (.lst ((ls.take (k + 1)).map sv ++ (ls.drop k).map sv)))
      have hb9 := hb3.same ((same_new h1 (.lst ((ls.take (k + 1)).map sv))).trans (same_new h2 (.lst ((ls.drop k).map sv))))
      exact ⟨_, p3, _, _, _, _, rfl, by rw [upd_same, ← List.map_append], (Box.ne hb9 h3).1, .twice k hk, fun z => by omega, hb3.same sA, k3.trans (Same.kept sA)⟩
    refine iteN (decide_eq_false c1) ⟨_, rfl, rfl, _, rfl, ?_⟩
    have keep : ∀ (y5 y6 y7 y8 : Option V), kd ≠ 5 ∨ True → (∃ (ls' : List (List Nat)) (L' : Addr) (z5 z6 z7 z8 : Option V), [some (.ref b), some (.ref L), some (.int ((k : Nat) : Int)), some (.int kd), some (.ref W), y5, y6, y7, y8] = [some (.ref b), some (.ref L'), some (.int ((k : Nat) : Int)), some (.int kd), some (.ref W), z5, z6, z7, z8] ∧ H3 L' = some (.lst (ls'.map sv)) ∧ L' ≠ b ∧ Mod ls ls' ∧ (kd = 5 ∨ kd = 6 → ls' = ls) ∧ Box H3 b c ∧ Kept b H H3) :=
      fun y5 y6 y7 y8 _ => ⟨ls, L, y5, y6, y7, y8, rfl, hL3, hLb, .same, fun _ => rfl, hb3, k3⟩
    by_cases c2 : kd = 2
    · refine iteY (by rw [dec_intV]; exact decide_eq_true c2) ⟨_, rfl, _, _, rfl, rfl, _, rfl, L, _, rfl, .inl (SqL.of hL3), _, _, rfl, rfl, _, rfl, ?_⟩
      rw [List.length_map]
      by_cases hk1 : k + 1 < ls.length
      case neg =>
        refine iteN (decide_eq_false (by omega)) ⟨_, rfl, rfl, _, rfl, iteN (by rw [dec_intV]; exact decide_eq_false (by omega)) ⟨_, rfl, rfl, _, rfl, iteN (by rw [dec_intV]; exact decide_eq_false (by omega)) (keep _ _ _ _ (.inr trivial))⟩⟩
      refine iteY (decide_eq_true (by omega)) ?_
      have hg1 : ls[k + 1]? = some ls[k + 1] := List.getElem?_eq_getElem hk1
      have hgm1 : (ls.map sv)[k + 1]? = some (sv ls[k + 1]) := by rw [List.getElem?_map, hg1]; rfl
      refine ⟨_, rfl, _, rfl, _, rfl, L, _, rfl, SqL.of hL3, fun p1 h1 => ?_⟩
      rw [cutM_to]
      have s1 := same_new h1 (.lst ((ls.take k).map sv))
      refine ⟨_, rfl, _, rfl, _, _, rfl, rfl, L, _, ((k + 1 : Nat) : Int), _, rfl, rfl, SqL.of (s1 _ _ hL3), atI_nat hgm1, _, rfl, _, rfl, L, _, _, _, rfl, rfl, SqL.of (s1 _ _ hL3), atI_nat hgm, two_, fun p2 h2 => ?_⟩
      have s2 := s1.trans (same_new h2 (.lst [sv ls[k + 1], sv l]))
      refine ⟨p1, p2, _, _, rfl, rfl, (same_new h2 _) _ _ upd_same, upd_same, small16 (by rw [List.length_map, List.length_take]; show _ + 2 ≤ _; omega), fun p3 h3 => ?_⟩
      have s3 := s2.trans (same_new h3 (.lst ((ls.take k).map sv ++ [sv ls[k + 1], sv l])))
      refine ⟨_, rfl, _, rfl, _, _, rfl, rfl, ((k + 2 : Nat) : Int), rfl, L, _, rfl, SqL.of (s3 _ _ hL3), fun p4 h4 => ?_⟩
      rw [cutM_from]
      refine ⟨p3, p4, _, _, rfl, rfl, (same_new h4 _) _ _ upd_same, upd_same, small16 (by rw [List.length_append, List.length_map, List.length_map, List.length_take, List.length_drop]; show _ + 2 + _ ≤ _; omega), fun p5 h5 => ?_⟩
      have s4 := s3.trans (same_new h4 (.lst ((ls.drop (k + 2)).map sv)))
      have s5 := s4.trans (same_new h5 (.lst (((ls.take k).map sv ++ [sv ls[k + 1], sv l]) ++ (ls.drop (k + 2)).map sv)))
      refine ⟨_, p5, _, _, _, _, rfl, ?_, (Box.ne (hb3.same s4) h5).1, .swap k l ls[k + 1] hg hg1, fun z => by omega, hb3.same s5, k3.trans (Same.kept s5)⟩
      rw [upd_same, List.map_append, List.map_append]
      rfl
    refine iteN (by rw [dec_intV]; exact decide_eq_false c2) ⟨_, rfl, rfl, _, rfl, ?_⟩
    rw [dec_intV]
    by_cases c3 : kd = 3
    · refine iteY (decide_eq_true c3) ?_
      refine ⟨_, rfl, _, rfl, _, rfl, L, _, rfl, SqL.of hL3, fun p1 h1 => ?_⟩
      rw [cutM_to]
      have s1 := same_new h1 (.lst ((ls.take k).map sv))
      have hL5 := s1 _ _ hL3
      have hW5 := s1 _ _ hW3
      have hlA : A0.length + (B0.length + C0.length) + 2 = l.length := by rw [hform]; simp; omega
      have sz : ∀ {a d : Str}, a.length ≤ 10000 → d.length ≤ 10000 → a.length + d.length ≤ sizeLine := fun h1 h2 => small16 (by omega)
      refine ⟨_, rfl, _, rfl, _, rfl, L, _, _, _, rfl, rfl, SqL.of hL5, atI_nat hgm, _, _, rfl, rfl, sz (by rw [l_0]; omega) (by rw [len_strOf]; omega), ?_⟩
      refine ⟨_, rfl, W, _, _, _, rfl, rfl, SqL.of hW5, at0, _, _, rfl, rfl, sz (by rw [len_strOf]; omega) (by rw [l_2]; omega), _, rfl, W, _, _, _, rfl, rfl, SqL.of hW5, at1, _, _, rfl, rfl, sz (by rw [len_app, len_strOf, l_2]; omega) (by rw [len_strOf]; omega), _, _, rfl, rfl, sz (by rw [len_app, len_app, len_strOf, len_strOf, l_2]; omega) (by rw [l_1]; omega), _, rfl, W, _, _, _, rfl, rfl, SqL.of hW5, at2, _, _, rfl, rfl, sz (by rw [len_app, len_app, len_app, len_strOf, len_strOf, l_2, l_1]; omega) (by rw [len_strOf]; omega), ?_⟩
      refine ⟨_, rfl, W, _, _, _, rfl, rfl, SqL.of hW5, at0, _, _, rfl, rfl, sz (by rw [len_strOf]; omega) (by rw [l_3]; omega), _, rfl, W, _, _, _, rfl, rfl, SqL.of hW5, at1, _, _, rfl, rfl, sz (by rw [len_app, len_strOf, l_3]; omega) (by rw [len_strOf]; omega), _, _, rfl, rfl, sz (by rw [len_app, len_app, len_strOf, len_strOf, l_3]; omega) (by rw [l_1]; omega), _, rfl, W, _, _, _, rfl, rfl, SqL.of hW5, at2, _, _, rfl, rfl, sz (by rw [len_app, len_app, len_app, len_strOf, len_strOf, l_3, l_1]; omega) (by rw [len_strOf]; omega), ?_⟩
      refine ⟨_, rfl, _, rfl, L, _, _, _, rfl, rfl, SqL.of hL5, atI_nat hgm, _, _, rfl, rfl, sz (by rw [len_strOf]; omega) (by rw [l_1]; omega), by show 5 ≤ sizeLine; decide, fun p2 h2 => ?_⟩
      rw [s_0, s_2, s_3, s_4]
      have s2 := s1.trans (same_new h2 (.lst [sv (48 :: l), sv (A0 ++ 32 :: 32 :: (B0 ++ 32 :: C0)), sv (A0 ++ 32 :: 48 :: (B0 ++ 32 :: C0)), sv (l ++ [32]), V.str (Str.ofString "")]))
      have hbp := hb3.same s2
      refine ⟨b, c, p2, _, rfl, ⟨upd_same, (Box.ne (hb3.same s1) h2).1, by simp, by show 5 ≤ 1000; decide⟩, hbp, fun j x H4 hx hb4 k4 => ?_⟩
      obtain ⟨r, rfl, hr⟩ : ∃ r, x = sv r ∧ r ∈ others A0 B0 C0 := by
        rcases j with _ | _ | _ | _ | _ | j
        · exact ⟨48 :: l, (Option.some.inj hx).symm, by rw [hform]; simp [others]⟩
        · exact ⟨_, (Option.some.inj hx).symm, by simp [others]⟩
        · exact ⟨_, (Option.some.inj hx).symm, by simp [others]⟩
        · exact ⟨l ++ [32], (Option.some.inj hx).symm, by rw [hform]; simp [others]⟩
        · exact ⟨[], (Option.some.inj hx).symm, by simp [others]⟩
        · simp at hx
      have h1b := (Box.ne hb3 h1).1
      have e1 := k4 _ _ h1b ((same_new h2 _) _ _ (upd_same (H := H3) (a := p1) (o := .lst ((ls.take k).map sv))))
      have eL := k4 _ _ hLb (s2 _ _ hL3)
      refine ⟨one_, fun p3 h3 => ⟨p1, p3, _, _, rfl, rfl, (same_new h3 _) _ _ e1, upd_same, small16 (by rw [List.length_map, List.length_take]; show _ + 1 ≤ _; omega), fun p4 h4 => ?_⟩⟩
      have t4 := (same_new h3 (.lst [sv r])).trans (same_new h4 (.lst ((ls.take k).map sv ++ [sv r])))
      refine ⟨_, rfl, _, rfl, _, _, rfl, rfl, ((k + 1 : Nat) : Int), rfl, L, _, rfl, SqL.of (t4 _ _ eL), fun p5 h5 => ?_⟩
      rw [cutM_from]
      refine ⟨p4, p5, _, _, rfl, rfl, (same_new h5 _) _ _ upd_same, upd_same, small16 (by rw [List.length_append, List.length_map, List.length_map, List.length_take, List.length_drop]; show _ + 1 + _ ≤ _; omega), fun p6 h6 => ?_⟩
      have t5 := t4.trans (same_new h5 (.lst ((ls.drop (k + 1)).map sv)))
      have t6 := t5.trans (same_new h6 (.lst (((ls.take k).map sv ++ [sv r]) ++ (ls.drop (k + 1)).map sv)))
      refine ⟨_, p6, _, _, _, _, rfl, ?_, (Box.ne (hb4.same t5) h6).1, .other k A0 B0 C0 r hA hB (by rw [← hform]; exact hg) hr, fun z => by omega, hb4.same t6, ((k3.trans (Same.kept s2)).trans k4).trans (Same.kept t6)⟩
      rw [upd_same, List.map_append, List.map_append]
      rfl
    refine iteN (decide_eq_false c3) ⟨_, rfl, rfl, _, rfl, ?_⟩
    rw [dec_intV]
    by_cases c4 : kd = 4
    · refine iteY (decide_eq_true c4) ?_
      have hlpos : 0 < l.length := by rw [hform]; simp; omega
      refine ⟨_, rfl, b, c, 900, rfl, by decide, hb3, fun m2 H4 m20 m21 hb4 k4 => .inl ⟨_, rfl, _, rfl, _, rfl, L, _, _, _, rfl, rfl, SqL.of (k4 _ _ hLb hL3), atI_nat hgm, strOf l, rfl, small16 (by rw [len_strOf]; omega), _, _, rfl, rfl, by rw [len_strOf]; omega, ?_⟩⟩
      rw [len_strOf]
      obtain ⟨p, hp, ep⟩ : ∃ p : Nat, p < l.length ∧ (fun i j : Int => V.int (i % j)) m2 ((l.length : Nat) : Int) = V.int ((p : Nat) : Int) := by
        have j0 := Int.emod_nonneg m2 (b := ((l.length : Nat) : Int)) (by omega)
        have j1 := Int.emod_lt_of_pos m2 (b := ((l.length : Nat) : Int)) (by omega)
        exact ⟨(m2 % ((l.length : Nat) : Int)).toNat, by omega, congrArg V.int (by omega)⟩
      rw [ep]
      refine ⟨_, rfl, by show 5 ≤ sizeLine; decide, fun p1 h1 => ?_⟩
      have s1 := same_new h1 (.lst [V.str (Str.ofString "0"), V.str (Str.ofString "1"), V.str (Str.ofString "7"), V.str (Str.ofString " "), V.str (Str.ofString "p")])
      refine ⟨b, c, p1, _, rfl, ⟨upd_same, (Box.ne hb4 h1).1, by simp, by show 5 ≤ 1000; decide⟩, hb4.same s1, fun j x H5 hx hb5 k5 => ?_⟩
      obtain ⟨cc, rfl, hcc⟩ : ∃ cc, x = sv [cc] ∧ cc ∈ signs5 := by
        rcases j with _ | _ | _ | _ | _ | j
        · exact ⟨48, (Option.some.inj hx).symm.trans (congrArg V.str (lit _ _)), by decide⟩
        · exact ⟨49, (Option.some.inj hx).symm.trans (congrArg V.str (lit _ _)), by decide⟩
        · exact ⟨55, (Option.some.inj hx).symm.trans (congrArg V.str (lit _ _)), by decide⟩
        · exact ⟨32, (Option.some.inj hx).symm.trans (congrArg V.str (lit _ _)), by decide⟩
        · exact ⟨112, (Option.some.inj hx).symm.trans (congrArg V.str (lit _ _)), by decide⟩
        · simp at hx
      have hL5 := k5 _ _ hLb (s1 _ _ (k4 _ _ hLb hL3))
      refine ⟨_, rfl, _, rfl, _, rfl, L, _, rfl, SqL.of hL5, fun p2 h2 => ?_⟩
      rw [cutM_to]
      have t2 := same_new h2 (.lst ((ls.take k).map sv))
      have sz : ∀ {a d : Str}, a.length ≤ 10000 → d.length ≤ 10000 → a.length + d.length ≤ sizeLine := fun h1 h2 => small16 (by omega)
      have lz : (strOf l).length ≤ sizeLine := small16 (by rw [len_strOf]; omega)
      have l1 : (strOf [cc]).length = 1 := len_strOf _
      refine ⟨_, rfl, _, rfl, L, _, _, _, rfl, rfl, SqL.of (t2 _ _ hL5), atI_nat hgm, _, rfl, ((p : Nat) : Int), rfl, strOf l, rfl, lz, ?_⟩
      rw [cutS_to]
      refine ⟨_, rfl, _, _, rfl, rfl, sz (by rw [len_strOf, List.length_take]; omega) (by rw [l1]; omega), _, rfl, _, rfl, L, _, _, _, rfl, rfl, SqL.of (t2 _ _ hL5), atI_nat hgm, _, rfl, _, _, rfl, rfl, ((p + 1 : Nat) : Int), rfl, strOf l, rfl, lz, ?_⟩
      rw [cutS_from]
      refine ⟨_, _, rfl, rfl, sz (by rw [len_app, len_strOf, l1, List.length_take]; omega) (by rw [len_strOf, List.length_drop]; omega), one_, fun p3 h3 => ?_⟩
      rw [strOf_cat, strOf_cat]
      refine ⟨p2, p3, _, _, rfl, rfl, (same_new h3 _) _ _ upd_same, upd_same, small16 (by rw [List.length_map, List.length_take]; show _ + 1 ≤ _; omega), fun p4 h4 => ?_⟩
      have t4 := (t2.trans (same_new h3 (.lst [sv (l.take p ++ [cc] ++ l.drop (p + 1))]))).trans (same_new h4 (.lst ((ls.take k).map sv ++ [sv (l.take p ++ [cc] ++ l.drop (p + 1))])))
      refine ⟨_, rfl, _, rfl, _, _, rfl, rfl, ((k + 1 : Nat) : Int), rfl, L, _, rfl, SqL.of (t4 _ _ hL5), fun p5 h5 => ?_⟩
      rw [cutM_from]
      refine ⟨p4, p5, _, _, rfl, rfl, (same_new h5 _) _ _ upd_same, upd_same, small16 (by rw [List.length_append, List.length_map, List.length_map, List.length_take, List.length_drop]; show _ + 1 + _ ≤ _; omega), fun p6 h6 => ?_⟩
      have t5 := t4.trans (same_new h5 (.lst ((ls.drop (k + 1)).map sv)))
      have t6 := t5.trans (same_new h6 (.lst (((ls.take k).map sv ++ [sv (l.take p ++ [cc] ++ l.drop (p + 1))]) ++ (ls.drop (k + 1)).map sv)))
      refine ⟨_, p6, _, _, _, _, rfl, ?_, (Box.ne (hb5.same t5) h6).1, .sign k l p cc hg hp hcc, fun z => by omega, hb5.same t6, (((k3.trans k4).trans (Same.kept s1)).trans k5).trans (Same.kept t6)⟩
      rw [upd_same, List.map_append, List.map_append]
      rfl
    exact iteN (decide_eq_false c4) (keep _ _ _ _ (.inr trivial))
  · rintro σ' H4 ⟨ls', L', y5, y6, y7, y8, rfl, hL4, nL4, hM, hkeep, hb4, k4⟩
    obtain ⟨f1, f2⟩ := hM.few hlen fun x hx => (hok x hx).len
    have hfl := flat_len (B := 2001) f2
    have hfl2 : (flat ls').length ≤ 30000 := by
      have := Nat.mul_le_mul_right 2002 f1
      omega
    refine ⟨⟨_, rfl⟩, _, rfl, L', rfl, ⟨_, SqL.of hL4⟩, fun D hD => lc_list (K := K) (a := L') (xs := ls'.map sv) (fun i H' => H' D = some (.lst ((ls'.take i).map fun l => sv (l ++ [10]))) ∧ Kept D H4 H') ⟨by rw [upd_same]; rfl, Kept.upd⟩ (fun i H' _ p => SqL.of (p.2 _ _ (ne_of_none hL4 hD) hL4)) ?_ ?_⟩
    · rintro i x H' hx ⟨u1, u2⟩
      rw [List.getElem?_map] at hx
      obtain ⟨y, hy, rfl⟩ := Option.map_eq_some_iff.mp hx
      have hyl := f2 y (List.mem_of_getElem? hy)
      refine ⟨rfl, _, rfl, strOf y, _, rfl, rfl, small16 (by rw [len_strOf, show (Str.ofString "\n").length = 1 by decide +kernel]; omega), _, u1, small_of (by rw [List.length_map, List.length_take]; omega), ?_, u2.trans Kept.upd⟩
      rw [upd_same, List.take_add_one, hy, List.map_append, e10, show (⟨#[10]⟩ : Str) = strOf [10] from rfl, strOf_cat]
      rfl
    rintro H5 ⟨u1, u2⟩
    rw [List.length_map, List.take_length] at u1
    have hS5 : Same H4 H5 := fun a o e => u2 a o (ne_of_none e hD) e
    have hb5 := hb4.same hS5
    have k5 := k4.trans (Same.kept hS5)
    refine ⟨_, D, ls'.map fun l => strOf (l ++ [10]), rfl, rfl, .inl (SqL.of (by rw [u1, List.map_map]; rfl)), by rw [flat_sum, show (Str.ofString "").length = 0 by decide +kernel]; omega, ?_⟩
    rw [flat_join]
    have hz : (strOf (flat ls')).length ≤ sizeLine := small16 (by rw [len_strOf]; omega)
    refine ⟨_, rfl, rfl, _, rfl, ?_⟩
    rw [dec_intV]
    by_cases c5 : kd = 5
    · have els := hkeep (.inl c5)
      subst els
      refine iteY (decide_eq_true c5) ⟨_, rfl, _, rfl, b, c, 900, rfl, by decide, hb5, fun m3 H6 m30 m31 hb6 k6 => .inl ⟨_, rfl, _, rfl, strOf (flat ls'), rfl, hz, _, _, rfl, rfl, _, _, rfl, rfl, by omega, ?_⟩⟩
      obtain ⟨j, ej⟩ : ∃ j : Nat, (fun i j : Int => V.int (i % j)) m3 ((((strOf (flat ls')).length : Nat) : Int) + 1) = V.int ((j : Nat) : Int) := by
        have j0 := Int.emod_nonneg m3 (b := (((strOf (flat ls')).length : Nat) : Int) + 1) (by omega)
        exact ⟨(m3 % ((((strOf (flat ls')).length : Nat) : Int) + 1)).toNat, congrArg V.int (by omega)⟩
      rw [ej]
      refine ⟨_, rfl, strOf (flat ls'), rfl, hz, ?_⟩
      rw [cutS_to]
      exact q _ H6 (.inr ⟨j, rfl⟩) (by rw [List.length_take]; omega) hb6 (k5.trans k6)
    refine iteN (decide_eq_false c5) ⟨_, rfl, rfl, _, rfl, ?_⟩
    rw [dec_intV]
    by_cases c6 : kd = 6
    · have els := hkeep (.inr c6)
      subst els
      refine iteY (decide_eq_true c6) ⟨_, rfl, _, rfl, _, rfl, strOf (flat ls'), rfl, hz, ?_⟩
      have qq := q _ H5 (.inr ⟨(flat ls').length - 1, rfl⟩) (by rw [List.length_take]; omega) hb5 k5
      rw [show (-(1 : Int)) = -1 from rfl, cutS_last]
      exact qq
    exact iteN (decide_eq_false c6) ⟨_, rfl, q _ H5 (.inl ⟨ls', hM, rfl⟩) hfl2 hb5 k5⟩
/-! ### what is due -/
def dueK : List (List Nat) → List Nat → Nat × Nat
  | [], _ => (0, 0)
  | l :: ls, T => if T.take (l.length + 1) = l ++ [10] then ((dueK ls (T.drop (l.length + 1))).1 + 1, (dueK ls (T.drop (l.length + 1))).2 + (l.length + 1)) else (0, 0)
def dueD (ds : List D) (ls : List (List Nat)) (T : List Nat) : D := .tup [.tup (ds.take (dueK ls T).1), .int (((dueK ls T).2 : Nat) : Int)]
def spDue : Sp := fun vs H Q _ => ∃ (Le Ll : Addr) (us : List V) (ds : List D) (ls : List (List Nat)) (T : List Nat), vs = [.ref Le, .ref Ll, sv T] ∧ (H Le = some (.lst us) ∧ Rps H ds us ∧ H Ll = some (.lst (ls.map sv)) ∧ T.length ≤ 30000 ∧ ls.length ≤ 100 ∧ ∀ l ∈ ls, l.length ≤ 2000) ∧
  ∀ (v : V) (H' : Hp), Same H H' → Rp H' (dueD ds ls T) v → Q v H'
theorem Rps.take {H : Hp} : ∀ {ds : List D} {vs : List V} (k : Nat), Rps H ds vs → Rps H (ds.take k) (vs.take k)
  | _, _, 0, _ => by rw [List.take_zero, List.take_zero]; exact Rps.nil
  | [], vs, k + 1, r => by
    obtain rfl := r.nilv
    exact Rps.nil
  | d :: ds, vs, k + 1, r => by
    obtain ⟨v, us, rfl, r1, r2⟩ := r.consv
    exact Rps.c r1 (Rps.take k r2)
theorem ok_due (F : Fun K "_law_due" "_law_due" s__law_due f fd) (T0 : Txt0 mg) : FnOk P w K mg base CX0 1 f fd ["entries", "lines", "text"] spDue := by
  have T := T0
  refine F.ok sc__law_due (fun vs H Q E h => ?_) (fun cdv A outer s H vs Q E hr h => ?_)
  · obtain ⟨Le, Ll, us, ds, ls, T1, rfl, _⟩ := h
    rfl
  obtain ⟨Le, Ll, us, ds, ls, T1, rfl, ⟨hE, hr0, hl, hT, hlen, hll⟩, q⟩ := h
  refine ⟨_, pss_cons (ps_set (i := 3) sc__law_due.nd rfl (Or.inl rfl) (pe_int))
    (pss_cons (ps_set (i := 4) sc__law_due.nd rfl (Or.inl rfl) (pe_int))
    (C8.pss_cut (ps_for PassesOwn.never rfl (pi_list (pv 1)) (pg_name (i := 5) sc__law_due.nd rfl (Or.inl rfl)) (pss_cons (ps_if (pt_cmpR op_ne (pe_slice sl_str (pv 2) (po_some (pv 4)) (po_some (pe_op op_add (pe_op op_add (pv 4) (pe_callB call_len_str rfl (by exact T.n_len) PySem.boot_len (pa_cons (pv 5) pa_nil))) (pe_int)))) (pe_op op_add_str (pv 5) (pe_str)) (nomark _)) (pss_one (ps_break)) (pss_nil))
    (pss_cons (ps_set (i := 3) sc__law_due.nd rfl (Or.inl rfl) (pe_op op_add (pv 3) (pe_int)))
    (pss_one (ps_set (i := 4) sc__law_due.nd rfl (Or.inl rfl) (pe_op op_add (pe_op op_add (pv 4) (pe_callB call_len_str rfl (by exact T.n_len) PySem.boot_len (pa_cons (pv 5) pa_nil))) (pe_int)))))))
    (pss_one (ps_ret (pe_tup (pa_cons (pe_callTy call_tuple_of rfl (by exact T.n_tuple) (by decide +kernel) (pa_cons (pe_slice sl_list (pv 0) (po_none) (po_some (pv 3))) pa_nil)) (pa_cons (pv 4) pa_nil))))))), ?_⟩
  refine ⟨fun σ' H' => H' = H ∧ ∃ x5, σ' = [some (.ref Le), some (.ref Ll), some (sv T1), some (.int (((dueK ls T1).1 : Nat) : Int)), some (.int (((dueK ls T1).2 : Nat) : Int)), x5], ?_, ?_⟩
  case refine_2 =>
    rintro σ' H' ⟨rfl, x5, rfl⟩
    refine ⟨_, rfl, _, rfl, _, rfl, Le, _, rfl, SqL.of hE, fun p1 h1 => ?_⟩
    rw [cut_to]
    refine ⟨p1, _, rfl, .inl ⟨SqL.of upd_same, fun p2 h2 => ⟨_, rfl, two_, fun p3 h3 => ?_⟩⟩⟩
    have s1 := same_new h1 (.lst (us.take (dueK ls T1).1))
    refine q _ _ ((s1.trans (same_new h2 _)).trans (same_new h3 _)) ?_
    exact rp_two ((Rps.take _ hr0).mono (Same.tup s1)) h2 h3
  refine ⟨_, rfl, Ll, rfl, ⟨_, SqL.of hl⟩, for_list (K := K) (a := Ll) (xs := ls.map sv) (fun i σ' H' => H' = H ∧ ∃ (g : Nat) (x5 : Option V), g ≤ T1.length ∧ dueK ls T1 = (i + (dueK (ls.drop i) (T1.drop g)).1, g + (dueK (ls.drop i) (T1.drop g)).2) ∧ σ' = [some (.ref Le), some (.ref Ll), some (sv T1), some (.int ((i : Nat) : Int)), some (.int ((g : Nat) : Int)), x5]) ?_ ?_ ?_ ?_⟩
  · exact ⟨rfl, 0, none, Nat.zero_le _, by simp, rfl⟩
  · rintro i σ' H' _ ⟨rfl, _⟩
    exact SqL.of hl
  · rintro i x σ' H' hx ⟨rfl, g, x5, hg, hd, rfl⟩
    rw [List.getElem?_map] at hx
    obtain ⟨y, hy, rfl⟩ := Option.map_eq_some_iff.mp hx
    have hyl := hll y (List.mem_of_getElem? hy)
    have hi : i < ls.length := (List.getElem?_eq_some_iff.mp hy).1
    have hdrop : ls.drop i = y :: ls.drop (i + 1) := by
      rw [List.drop_eq_getElem_cons hi]
      rw [List.getElem?_eq_getElem hi] at hy
      rw [Option.some.inj hy]
    rw [hdrop, dueK] at hd
    have ly : (strOf y).length = y.length := len_strOf _
    have eg : ((g : Nat) : Int) + (((strOf y).length : Nat) : Int) + 1 = ((g + (y.length + 1) : Nat) : Int) := by rw [ly]; omega
    refine ⟨_, rfl, _, rfl, _, rfl, _, rfl, _, rfl, strOf y, rfl, small16 (by omega), _, _, rfl, rfl, _, _, rfl, rfl, ((g + (y.length + 1) : Nat) : Int), congrArg V.int eg, strOf T1, rfl, small16 (by rw [len_strOf]; omega), ?_⟩
    have ec : cutS (strOf T1) (some ((g : Nat) : Int)) (some ((g + (y.length + 1) : Nat) : Int)) = strOf ((T1.drop g).take (y.length + 1)) := ext_tl (by rw [tl_cut (by rw [len_strOf]; exact hg)]; show (T1.drop g).take (g + (y.length + 1) - g) = _; rw [show g + (y.length + 1) - g = y.length + 1 by omega]; rfl)
    rw [ec]
    refine ⟨_, rfl, strOf y, _, rfl, rfl, small16 (by rw [ly, show (Str.ofString "\n").length = 1 by decide +kernel]; omega), rfl, _, rfl, ?_⟩
    rw [e10, show (⟨#[10]⟩ : Str) = strOf [10] from rfl, strOf_cat, decS]
    by_cases hp : (T1.drop g).take (y.length + 1) = y ++ [10]
    · rw [if_pos hp] at hd
      have hgl : g + (y.length + 1) ≤ T1.length := by
        have := congrArg List.length hp
        rw [List.length_take, List.length_drop, List.length_append] at this
        simp at this
        omega
      refine iteN (by rw [decide_eq_true hp]; rfl) ⟨_, rfl, _, _, rfl, rfl, _, rfl, _, rfl, strOf y, rfl, small16 (by omega), _, _, rfl, rfl, _, _, rfl, rfl, rfl, g + (y.length + 1), some (sv y), hgl, ?_, ?_⟩
      · rw [hd, List.drop_drop]
        rw [show i + 1 + (dueK (ls.drop (i + 1)) (T1.drop (g + (y.length + 1)))).1 = i + ((dueK (ls.drop (i + 1)) (T1.drop (g + (y.length + 1)))).1 + 1) by omega,
          show g + (y.length + 1) + (dueK (ls.drop (i + 1)) (T1.drop (g + (y.length + 1)))).2 = g + ((dueK (ls.drop (i + 1)) (T1.drop (g + (y.length + 1)))).2 + (y.length + 1)) by omega]
      · rw [← eg]
        rfl
    · rw [if_neg hp] at hd
      refine iteY (by rw [decide_eq_false hp]; rfl) ⟨rfl, some (sv y), ?_⟩
      rw [hd]
      simp
  · rintro σ' H' ⟨rfl, g, x5, hg, hd, rfl⟩
    have ed : ls.drop (ls.map sv).length = [] := by rw [List.length_map, List.drop_length]
    rw [ed, dueK] at hd
    refine ⟨rfl, x5, ?_⟩
    rw [hd]
    simp
end
end Tst
/-! The plain law of journals: what changed texts are read as. -/
namespace Tst
open PySem PySem.Spec PyProof.Rows L2 TL
/-! ### checks -/
mutual
def fitB : D → Bool
  | .int i => decide (i.natAbs < 1000000)
  | .tup xs => fitsB xs
  | _ => true
def fitsB : List D → Bool
  | [] => true
  | d :: r => fitB d && fitsB r
end
mutual
theorem fit_of : ∀ {d : D}, fitB d = true → d.Fit
  | .non, _ => by simp [D.Fit]
  | .bl _, _ => by simp [D.Fit]
  | .str _, _ => by simp [D.Fit]
  | .int i, h => by
    rw [D.Fit]
    rw [fitB] at h
    exact Nat.lt_of_lt_of_le (of_decide_eq_true h) (by decide +kernel)
  | .tup xs, h => by
    rw [D.Fit]
    rw [fitB] at h
    exact fits_ofB h
theorem fits_ofB : ∀ {xs : List D}, fitsB xs = true → D.Fits xs
  | [], _ => by rw [D.Fits]; trivial
  | d :: r, h => by
    rw [fitsB, Bool.and_eq_true] at h
    rw [D.Fits]
    exact ⟨fit_of h.1, fits_ofB h.2⟩
end
mutual
def allB (p : Str → Bool) : D → Bool
  | .str z => p z
  | .tup xs => allsB p xs
  | _ => true
def allsB (p : Str → Bool) : List D → Bool
  | [] => true
  | d :: r => allB p d && allsB p r
end
mutual
theorem all_of {p : Str → Bool} {P : Str → Prop} (hp : ∀ z, p z = true → P z) : ∀ {d : D}, allB p d = true → AllS P d
  | .non, _ => .non
  | .bl b, _ => .bl b
  | .int i, _ => .int i
  | .str z, h => .str z (hp z (by rw [allB] at h; exact h))
  | .tup xs, h => .tup xs (alls_of hp (by rw [allB] at h; exact h))
theorem alls_of {p : Str → Bool} {P : Str → Prop} (hp : ∀ z, p z = true → P z) : ∀ {xs : List D}, allsB p xs = true → ∀ d ∈ xs, AllS P d
  | [], _ => fun _ h => by cases h
  | d :: r, h => by
    rw [allsB, Bool.and_eq_true] at h
    have h1 := all_of hp h.1
    have h2 := alls_of hp h.2
    intro x hx
    rcases List.mem_cons.mp hx with e | hx
    · rw [e]
      exact h1
    · exact h2 x hx
end
/-! ### pairs of signs that far words have -/
def pairB (x y : Nat) : Bool := (x == 116 && y == 101) || (x == 107 && y == 105) || (x == 115 && y == 97) || (x == 118 && y == 97) || (x == 104 && y == 97)
def noPair : List Nat → Bool
  | a :: b :: r => !pairB a b && noPair (b :: r)
  | _ => true
theorem noPair_tl : ∀ {a : Nat} {r : List Nat}, noPair (a :: r) = true → noPair r = true
  | _, [], _ => rfl
  | a, b :: r, h => by
    rw [noPair, Bool.and_eq_true] at h
    exact h.2
theorem noPair_drop : ∀ {l : List Nat} (k : Nat), noPair l = true → noPair (l.drop k) = true
  | l, 0, h => h
  | [], k + 1, h => rfl
  | a :: r, k + 1, h => by
    rw [List.drop_succ_cons]
    exact noPair_drop k (noPair_tl h)
theorem noPair_pre : ∀ {u v : List Nat}, noPair (u ++ v) = true → noPair u = true
  | [], _, _ => rfl
  | [_], _, _ => rfl
  | a :: b :: r, v, h => by
    rw [List.cons_append, List.cons_append, noPair, Bool.and_eq_true] at h
    rw [noPair, Bool.and_eq_true]
    exact ⟨h.1, noPair_pre h.2⟩
theorem noPair_in {l u : List Nat} (h : noPair l = true) (hu : u <:+: l) : noPair u = true := by
  obtain ⟨a, b, rfl⟩ := hu
  have h1 : noPair ((a ++ (u ++ b)).drop a.length) = true := noPair_drop _ (by rw [← List.append_assoc]; exact h)
  rw [List.drop_left] at h1
  exact noPair_pre h1
def free1 (c : Nat) : Bool := !(c == 116 || c == 101 || c == 107 || c == 105 || c == 115 || c == 97 || c == 118 || c == 104)
theorem pairB_l {c y : Nat} (h : free1 c = true) : pairB c y = false := by
  unfold free1 at h
  simp at h
  unfold pairB
  simp [h]
theorem pairB_r {c x : Nat} (h : free1 c = true) : pairB x c = false := by
  unfold free1 at h
  simp at h
  unfold pairB
  simp [h]
theorem noPair_set {c : Nat} (hc : free1 c = true) {v : List Nat} (hv : noPair v = true) : ∀ {u : List Nat}, noPair u = true → noPair (u ++ c :: v) = true
  | [], _ => by
    cases v with
    | nil => rfl
    | cons y v =>
      show noPair (c :: y :: v) = true
      rw [noPair, pairB_l hc]
      exact hv
  | [x], _ => by
    show noPair (x :: c :: v) = true
    rw [noPair, pairB_r hc]
    exact noPair_set hc hv (u := []) rfl
  | x :: y :: u, h => by
    rw [noPair, Bool.and_eq_true] at h
    show noPair (x :: y :: (u ++ c :: v)) = true
    rw [noPair, Bool.and_eq_true]
    exact ⟨h.1, noPair_set hc hv (u := y :: u) h.2⟩
theorem far_pair : ∀ z ∈ farWords, noPair (tl z) = false := by decide +kernel
/-! ### what is read stands in the text -/
theorem textAt_in : ∀ (l : List Nat) (p : Nat) (acc s : List Nat) (q : Nat), textAt l p acc = .ok (s, q) → 92 ∉ l → ∃ u post, l = u ++ 34 :: post ∧ s = acc ++ u
  | [], p, acc, s, q, h, _ => by unfold textAt at h; cases h
  | c :: r, p, acc, s, q, h, h92 => by
    unfold textAt at h
    have hc : ¬ c = 92 := fun e => h92 (by rw [e]; exact List.mem_cons_self)
    by_cases h34 : c = 34
    · rw [if_pos h34] at h
      cases h
      exact ⟨[], r, by rw [h34]; rfl, by simp⟩
    · rw [if_neg h34, if_neg hc] at h
      by_cases h10 : c = 10
      · rw [if_pos h10] at h
        cases h
      · rw [if_neg h10] at h
        obtain ⟨u, post, e1, e2⟩ := textAt_in r _ _ _ _ h fun z => h92 (List.mem_cons_of_mem _ z)
        exact ⟨c :: u, post, by rw [e1]; rfl, by rw [e2]; simp⟩
def InL (L : List Nat) (z : Str) : Prop := tl z <:+: L
theorem members_in {L : List Nat} {f : Nat → PR} {P : Str → Prop} (hf : ∀ p d q, f p = .ok (d, q) → AllS P d) : ∀ (n p : Nat) (acc : List D) (d : D) (q : Nat), members L f n p acc = .ok (d, q) → (∀ x ∈ acc, AllS P x) → AllS P d
  | 0, p, acc, d, q, h, _ => by cases h
  | n + 1, p, acc, d, q, h, ha => by
    unfold members at h
    cases e : f p with
    | error k => rw [e] at h; cases h
    | ok dq =>
      obtain ⟨d1, k⟩ := dq
      have h3 := hf p d1 k e
      rw [e] at h
      simp only at h
      have hall : ∀ x ∈ acc ++ [d1], AllS P x := fun x hx => by
        rcases List.mem_append.mp hx with hx | hx
        · exact ha x hx
        · rw [List.mem_singleton] at hx; rw [hx]; exact h3
      cases g : L[k]? with
      | none => rw [g] at h; cases h
      | some c =>
        rw [g] at h
        simp only at h
        split at h
        · cases h
          exact .tup _ hall
        · split at h
          · exact members_in hf n _ _ _ _ h hall
          · cases h
theorem valueAt_in {L : List Nat} (h92 : 92 ∉ L) : ∀ {l p q : Nat} {d : D}, valueAt L l p = .ok (d, q) → AllS (InL L) d := by
  have text : ∀ {p q : Nat} {d : D}, textV (textAt (L.drop (p + 1)) (p + 1) []) = .ok (d, q) → AllS (InL L) d := fun {p q d} h => by
    cases e : textAt (L.drop (p + 1)) (p + 1) [] with
    | error k => rw [e] at h; cases h
    | ok sq =>
      obtain ⟨s, k⟩ := sq
      rw [e] at h
      cases h
      obtain ⟨u, post, e1, e2⟩ := textAt_in _ _ _ _ _ e fun z => h92 (List.mem_of_mem_drop z)
      refine .str _ ⟨L.take (p + 1), 34 :: post, ?_⟩
      rw [tl_strOf, e2, List.nil_append, List.append_assoc, ← e1, List.take_append_drop]
  intro l
  induction l with
  | zero =>
    intro p q d h
    rw [valueAt_eq] at h
    split at h
    · cases h; exact .non
    split at h
    · cases h; exact .bl _
    split at h
    · cases h; exact .bl _
    split at h
    · exact text h
    split at h
    · cases h
    · obtain ⟨h1, h2, i, rfl⟩ := intAt_lt h
      exact .int _
  | succ m ih =>
    intro p q d h
    rw [valueAt_eq] at h
    split at h
    · cases h; exact .non
    split at h
    · cases h; exact .bl _
    split at h
    · cases h; exact .bl _
    split at h
    · exact text h
    split at h
    · simp only at h
      unfold tupAt at h
      split at h
      · cases h
        exact .tup _ fun _ z => by cases z
      · exact members_in (fun p d q => ih) _ _ _ _ _ h fun _ z => by cases z
    · obtain ⟨h1, h2, i, rfl⟩ := intAt_lt h
      exact .int _
theorem read_in {L : List Nat} {d : D} (h92 : 92 ∉ L) (h : readL L = .ok d) : AllS (InL L) d := by
  unfold readL at h
  cases e : valueAt L 40 0 with
  | error k => rw [e] at h; cases h
  | ok dq =>
    obtain ⟨d1, k⟩ := dq
    rw [e] at h
    simp only at h
    split at h
    · cases h
    · cases h
      exact valueAt_in h92 e
theorem AllS.imp {P Q : Str → Prop} (hpq : ∀ z, P z → Q z) {d : D} (h : AllS P d) : AllS Q d := by
  induction h with
  | non => exact .non
  | bl b => exact .bl b
  | int i => exact .int i
  | str z hz => exact .str z (hpq z hz)
  | tup xs _ ih => exact .tup xs ih
/-- a text without pairs of far words has no far words in what is read of it -/
theorem read_near {L : List Nat} {d : D} (h92 : 92 ∉ L) (hp : noPair L = true) (hl : L.length ≤ 1000000) (h : readL L = .ok d) : AllS nearS d := by
  refine (read_in h92 h).imp fun z hz => ⟨?_, fun hf => ?_⟩
  · obtain ⟨a, b, e⟩ := hz
    rw [← e] at hl
    rw [len_tl]
    simp only [List.length_append] at hl
    omega
  · have := noPair_in hp hz
    rw [far_pair z hf] at this
    cases this
end Tst
/-! The entries looked through. -/
namespace Tst
open PySem PySem.Spec PyProof.Rows L2 TL
def isErr : Except Nat D → Bool | .error _ => true | .ok _ => false
theorem err_entry {n : Nat} {l : List Nat} (h : isErr (readL l) = true) : entryB n l = none ∧ SafeE n l := by
  cases e : readL l with
  | error q =>
    refine ⟨by unfold entryB; rw [e], fun w d1 r z => ?_⟩
    rw [e] at z
    cases z
  | ok d => rw [e] at h; cases h
/-- what is read ends ahead of the end -/
theorem short_read {l : List Nat} {d : D} {q : Nat} (h : valueAt l 40 0 = .ok (d, q)) (hq : q < l.length) : isErr (readL l) = true := by
  unfold readL
  rw [h]
  simp only
  rw [if_pos hq]
  rfl
theorem lead_err {B t : List Nat} (hB : ∀ c ∈ B, dig c = true) : isErr (readL (B ++ 32 :: t)) = true := by
  have h32 : dig 32 = false := by decide
  have htw : (B ++ 32 :: t).takeWhile dig = B := takeWhile_stop hB (stop_cons h32)
  have g0 : ∀ c, (B ++ 32 :: t)[0]? = some c → dig c = true ∨ c = 32 := fun c e => by
    cases B with
    | nil => exact .inr (Option.some.inj e).symm
    | cons x B => exact .inl ((Option.some.inj e) ▸ hB x List.mem_cons_self)
  have no : ∀ c, dig c = false → c ≠ 32 → (B ++ 32 :: t)[0]? ≠ some c := fun c h1 h2 e => by
    rcases g0 c e with h | h
    · rw [h1] at h; cases h
    · exact h2 h
  have hv : valueAt (B ++ 32 :: t) 40 0 = intAt (B ++ 32 :: t) 0 := by
    rw [valueAt_eq, if_neg (no 78 (by decide) (by decide)), if_neg (no 84 (by decide) (by decide)), if_neg (no 70 (by decide) (by decide)), if_neg (no 34 (by decide) (by decide)), if_neg (no 40 (by decide) (by decide))]
  have hi : ∀ d q, intAt (B ++ 32 :: t) 0 = .ok (d, q) → q < (B ++ 32 :: t).length := fun d q e => by
    unfold intAt at e
    rw [if_neg (no 45 (by decide) (by decide))] at e
    simp only [List.drop_zero] at e
    rw [htw] at e
    rw [List.length_append, List.length_cons]
    cases B with
    | nil => cases e
    | cons x B =>
      simp only at e
      by_cases h48 : x = 48
      · rw [if_pos h48] at e
        rw [if_neg (by omega)] at e
        by_cases hr : B = []
        · rw [if_pos hr] at e
          cases e
          simp only [List.length_cons]
          omega
        · rw [if_neg hr] at e
          cases e
      · rw [if_neg h48] at e
        by_cases hl : B.length ≥ 2000
        · rw [if_pos hl] at e
          cases e
        · rw [if_neg hl] at e
          cases e
          rw [List.length_cons]
          omega
  cases e : intAt (B ++ 32 :: t) 0 with
  | error q =>
    unfold readL
    rw [hv, e]
    rfl
  | ok dq =>
    obtain ⟨d, q⟩ := dq
    exact short_read (hv.trans e) (hi d q e)
theorem trail_err {d : D} (hd : d.deep ≤ 40) (hf : d.Fit) : isErr (readL (d.show ++ [32])) = true := by
  have h := value_show (L := d.show ++ [32]) 40 d 0 [32] hd hf (by rw [List.drop_zero]) (stop_cons (by decide))
  exact short_read h (by rw [List.length_append]; simp)
structure Gd (n : Nat) (d : D) : Prop where
  ent : entryB n d.show = some d
  safe : SafeE n d.show
  len : d.show.length ≤ 200
  chars : ∀ c ∈ d.show, 0 < c ∧ c < 128 ∧ c ≠ 10
  trail : isErr (readL (d.show ++ [32])) = true
  head : ∃ r, d.show = 40 :: r
  tail : ∃ a bb, 32 ∉ a ∧ d.show = a ++ 32 :: bb ∧ SafeE n bb
  chg : ∀ p c, p < d.show.length → c ∈ signs5 → SafeE n (d.show.take p ++ [c] ++ d.show.drop (p + 1))
  fine : FineD 20 d
/-! ### all later entries -/
def laterAll : List D := ((List.range 7).flatMap fun a => (List.range 10).flatMap fun m => [.tup [.str (Str.ofString "published"), noticeD a m], .tup [.str (Str.ofString "heard"), noticeD a m]]) ++ ([givenD 0, givenD 1, givenD 2, givenD 3] ++ [knownD, standsD])
def nearB (z : Str) : Bool := decide (z.length ≤ 1000000) && decide (z ∉ farWords)
def charsB (l : List Nat) : Bool := l.all fun c => decide (0 < c ∧ c < 128 ∧ c ≠ 10 ∧ c ≠ 92)
def tailB (l : List Nat) : Bool := match cutAt l with | (_, some bb) => isErr (readL bb) | _ => false
def headB (l : List Nat) : Bool := match l with | c :: _ => decide (c = 40) | [] => false
def frameB (d : D) : Bool := decide (d.deep < 20) && (fitB d && (decide (d.show.length ≤ 200) && (charsB d.show && (headB d.show && tailB d.show))))
def laterB (d : D) : Bool := match d with | .tup (.str w :: d1 :: r) => laterW w d1 r && (!isW w "shop" && !isW w "short") | _ => false
theorem later_frame : laterAll.all frameB = true := by decide +kernel
theorem later_later : laterAll.all laterB = true := by decide +kernel
theorem later_pairs : (laterAll.all fun d => noPair d.show) = true := by decide +kernel
theorem later_near : (laterAll.all fun d => allB nearB d) = true := by decide +kernel
structure Fr (d : D) : Prop where
  deep : d.deep < 20
  fit : d.Fit
  len : d.show.length ≤ 200
  chars : ∀ c ∈ d.show, 0 < c ∧ c < 128 ∧ c ≠ 10 ∧ c ≠ 92
  head : ∃ r, d.show = 40 :: r
  tail : ∃ a bb, 32 ∉ a ∧ d.show = a ++ 32 :: bb ∧ isErr (readL bb) = true
theorem charsB_of {l : List Nat} (h : charsB l = true) : ∀ c ∈ l, 0 < c ∧ c < 128 ∧ c ≠ 10 ∧ c ≠ 92 := fun c hc => of_decide_eq_true (List.all_eq_true.mp h c hc)
theorem frame_of {d : D} (h : frameB d = true) : Fr d := by
  unfold frameB at h
  simp only [Bool.and_eq_true] at h
  obtain ⟨h1, h2, h3, h4, h5, h6⟩ := h
  refine ⟨of_decide_eq_true h1, fit_of h2, of_decide_eq_true h3, charsB_of h4, ?_, ?_⟩
  · cases e : d.show with
    | nil => rw [e] at h5; cases h5
    | cons c r =>
      rw [e] at h5
      have := of_decide_eq_true (show decide (c = 40) = true from h5)
      exact ⟨r, by rw [this]⟩
  · rcases cutAt_cases d.show with ⟨_, e⟩ | ⟨a, bb, ha, e0, e⟩
    · unfold tailB at h6
      rw [e] at h6
      cases h6
    · unfold tailB at h6
      rw [e] at h6
      exact ⟨a, bb, ha, e0, h6⟩
theorem Fr.read {d : D} (h : Fr d) : readL d.show = .ok d := read_show (by have := h.deep; omega) h.fit
theorem Fr.gd {d : D} (h : Fr d) {n : Nat} (ent : entryB n d.show = some d) (safe : SafeE n d.show) (chg : ∀ p c, p < d.show.length → c ∈ signs5 → SafeE n (d.show.take p ++ [c] ++ d.show.drop (p + 1))) : Gd n d := by
  obtain ⟨a, bb, ha, e0, he⟩ := h.tail
  exact ⟨ent, safe, h.len, fun c hc => let z := h.chars c hc; ⟨z.1, z.2.1, z.2.2.1⟩, trail_err (by have := h.deep; omega) h.fit, h.head, ⟨a, bb, ha, e0, (err_entry (n := n) he).2⟩, chg, ⟨h.deep, Nat.le_trans h.len (by decide), h.fit, fun c hc => (h.chars c hc).1⟩⟩
theorem signs_free : ∀ c ∈ signs5, free1 c = true ∧ c ≠ 92 ∧ c ≠ 10 ∧ 0 < c ∧ c < 128 := by decide
theorem later_gd {d : D} (hd : d ∈ laterAll) {n : Nat} (hn : n ≠ 0) : Gd n d := by
  have hf := frame_of (List.all_eq_true.mp later_frame d hd)
  have hl := List.all_eq_true.mp later_later d hd
  have hp : noPair d.show = true := List.all_eq_true.mp later_pairs d hd
  have hN : AllS nearS d := all_of (fun z h => by
    unfold nearB at h
    rw [Bool.and_eq_true, decide_eq_true_eq, decide_eq_true_eq] at h
    exact h) (List.all_eq_true.mp later_near d hd)
  have h92 : 92 ∉ d.show := fun z => (hf.chars 92 z).2.2.2 rfl
  obtain ⟨w, d1, r, rfl, hw⟩ : ∃ w d1 r, d = .tup (.str w :: d1 :: r) ∧ laterW w d1 r = true := by
    unfold laterB at hl
    split at hl
    · rename_i w d1 r
      rw [Bool.and_eq_true] at hl
      exact ⟨w, d1, r, rfl, hl.1⟩
    · cases hl
  refine hf.gd ?_ ?_ ?_
  · rw [entryB_tup hf.read, if_neg hn, if_pos hw]
  · intro w' d1' r' e
    rw [hf.read] at e
    cases e
    rw [if_neg hn]
    exact hN
  · intro p c hpl hc w' d1' r' e
    obtain ⟨c1, c2, _⟩ := signs_free c hc
    rw [if_neg hn]
    have hin : ∀ x ∈ Tst.D.show (.tup (.str w :: d1 :: r)), x ≠ 92 := fun x hx => (hf.chars x hx).2.2.2
    refine read_near ?_ ?_ ?_ e
    · intro z
      rcases List.mem_append.mp z with z | z
      · rcases List.mem_append.mp z with z | z
        · exact h92 (List.mem_of_mem_take z)
        · exact c2 (List.mem_singleton.mp z).symm
      · exact h92 (List.mem_of_mem_drop z)
    · rw [List.append_assoc]
      exact noPair_set c1 (noPair_drop _ hp) (noPair_pre (v := (Tst.D.show (.tup (.str w :: d1 :: r))).drop p) (by rw [List.take_append_drop]; exact hp))
    · have := hf.len
      rw [List.length_append, List.length_append, List.length_take, List.length_drop]
      show _ + 1 + _ ≤ _
      omega
/-- a later line's entry can't stand first -/
theorem later_not_first {d : D} (hd : d ∈ laterAll) : entryB 0 d.show = none ∧ SafeE 0 d.show := by
  have hf := frame_of (List.all_eq_true.mp later_frame d hd)
  have hl := List.all_eq_true.mp later_later d hd
  obtain ⟨w, d1, r, rfl, h1, h2⟩ : ∃ w d1 r, d = .tup (.str w :: d1 :: r) ∧ isW w "shop" = false ∧ isW w "short" = false := by
    unfold laterB at hl
    split at hl
    · rename_i w d1 r
      rw [Bool.and_eq_true, Bool.and_eq_true, Bool.not_eq_true', Bool.not_eq_true'] at hl
      exact ⟨w, d1, r, rfl, hl.2.1, hl.2.2⟩
    · cases hl
  have hfb : firstB w d1 r = false := by unfold firstB; rw [h1, h2]; rfl
  refine ⟨by rw [entryB_tup hf.read, if_pos rfl, hfb]; rfl, fun w' d1' r' e => ?_⟩
  rw [hf.read] at e
  cases e
  rw [if_pos rfl]
  intro z
  rw [h1] at z
  cases z
/-! ### first entries -/
def smallB (d : D) : Bool := match d with | .str z => decide (z.length ≤ 1000000) | _ => true
theorem small_of_ {d : D} (h : smallB d = true) : small d := fun z e => by
  subst e
  exact of_decide_eq_true h
def leafOkB (g : Str) (x : D) : Bool := decide (g ∉ pairWords) && smallB x
theorem leafOk_of {g : Str} {x : D} (h : leafOkB g x = true) : leafOk g x := by
  unfold leafOkB at h
  rw [Bool.and_eq_true, decide_eq_true_eq] at h
  exact ⟨h.1, small_of_ h.2⟩
def bookIsB (b : D) : Bool := match b with
  | .tup [.str bw, .tup [.tup [.str n1, .tup [.str g1, x1]], .tup [.str n2, .tup [.str g2, x2]]]] => leafOkB g1 x1 && (leafOkB g2 x2 && (decide (g1 ≠ Str.ofString "name") && (smallB (.str n1) && smallB (.str n2))))
  | _ => false
theorem bookIs_of {b : D} (h : bookIsB b = true) : ∃ bw n1 g1 x1 n2 g2 x2, b = bookD bw n1 g1 x1 n2 g2 x2 ∧ BookIs bw n1 g1 x1 n2 g2 x2 := by
  unfold bookIsB at h
  split at h
  · rename_i bw n1 g1 x1 n2 g2 x2
    simp only [Bool.and_eq_true] at h
    obtain ⟨h1, h2, h3, h4, h5⟩ := h
    exact ⟨bw, n1, g1, x1, n2, g2, x2, rfl, leafOk_of h1, leafOk_of h2, of_decide_eq_true h3, small_of_ h4, small_of_ h5⟩
  · cases h
def firstOkB (w : Str) (d1 : D) (r : List D) : Bool := !isW w "shop" || (match r with | [_, b] => smallB d1 && bookIsB b | _ => true)
theorem firstOk_of {w : Str} {d1 : D} {r : List D} (h : firstOkB w d1 r = true) : FirstOk w d1 r := by
  intro hw d2 b e
  subst e
  unfold firstOkB at h
  rw [hw] at h
  have h' : (smallB d1 && bookIsB b) = true := h
  rw [Bool.and_eq_true] at h'
  exact ⟨small_of_ h'.1, bookIs_of h'.2⟩
def safe0B (l : List Nat) : Bool := match readL l with | .ok (.tup (.str w :: d1 :: r)) => firstOkB w d1 r | _ => true
theorem safe0_of {l : List Nat} (h : safe0B l = true) : SafeE 0 l := fun w d1 r e => by
  unfold safe0B at h
  rw [e] at h
  rw [if_pos rfl]
  exact firstOk_of h
def first0B (d : D) : Bool := match d with | .tup (.str w :: d1 :: r) => firstB w d1 r | _ => false
def chg0B (d : D) : Bool := (List.range d.show.length).all fun p => signs5.all fun c => safe0B (d.show.take p ++ [c] ++ d.show.drop (p + 1))
theorem first_frame : [shopD, shortD].all frameB = true := by decide +kernel
theorem first_first : [shopD, shortD].all first0B = true := by decide +kernel
theorem first_safe : ([shopD, shortD].all fun d => safe0B d.show) = true := by decide +kernel
theorem first_chg : [shopD, shortD].all chg0B = true := by decide +kernel
end Tst
/-! The plain law: a changed journal is read up to its first wrong line. -/
namespace Tst
open PySem PySem.Spec PyProof.Rows L2 TL
theorem first_gd {d : D} (hd : d ∈ [shopD, shortD]) : Gd 0 d := by
  have hf := frame_of (List.all_eq_true.mp first_frame d hd)
  have h1 := List.all_eq_true.mp first_first d hd
  have h2 : safe0B d.show = true := List.all_eq_true.mp first_safe d hd
  have h3 := List.all_eq_true.mp first_chg d hd
  obtain ⟨w, d1, r, rfl, hw⟩ : ∃ w d1 r, d = .tup (.str w :: d1 :: r) ∧ firstB w d1 r = true := by
    unfold first0B at h1
    split at h1
    · rename_i w d1 r
      exact ⟨w, d1, r, rfl, h1⟩
    · cases h1
  refine hf.gd (by rw [entryB_tup hf.read, if_pos rfl, if_pos hw]) (safe0_of h2) fun p c hp hc => safe0_of ?_
  exact List.all_eq_true.mp (List.all_eq_true.mp h3 p (List.mem_range.mpr hp)) c hc
theorem later_mem {a m : Nat} {k : Int} (ha : a ≤ 6) (hm : m ≤ 9) (h0 : 0 ≤ k) (h4 : k < 4) {d : D} (hd : d ∈ laterDs a m k) : d ∈ laterAll := by
  unfold laterDs at hd
  simp only [List.mem_cons, List.not_mem_nil, or_false] at hd
  have pm : ∀ x ∈ [D.tup [.str (Str.ofString "published"), noticeD a m], .tup [.str (Str.ofString "heard"), noticeD a m]], x ∈ laterAll := fun x hx =>
    List.mem_append.mpr (.inl (List.mem_flatMap.mpr ⟨a, List.mem_range.mpr (by omega), List.mem_flatMap.mpr ⟨m, List.mem_range.mpr (by omega), hx⟩⟩))
  rcases hd with rfl | rfl | rfl | rfl | rfl
  · exact pm _ List.mem_cons_self
  · exact pm _ (List.mem_cons_of_mem _ List.mem_cons_self)
  · have hk : k = 0 ∨ k = 1 ∨ k = 2 ∨ k = 3 := by omega
    refine List.mem_append.mpr (.inr (List.mem_append.mpr (.inl ?_)))
    rcases hk with rfl | rfl | rfl | rfl <;> simp
  · exact List.mem_append.mpr (.inr (List.mem_append.mpr (.inr List.mem_cons_self)))
  · exact List.mem_append.mpr (.inr (List.mem_append.mpr (.inr (List.mem_cons_of_mem _ List.mem_cons_self))))
theorem entry_later {k : Nat} {d : D} (h : EntryIs k d) (hk : k ≤ 6) (h1 : 1 ≤ k) : d ∈ laterAll := by
  rcases h with ⟨e, _⟩ | ⟨_, m, kk, m1, m9, k0, k4, hd⟩
  · omega
  · exact later_mem hk m9 k0 k4 hd
theorem entry_gd {k : Nat} {d : D} (h : EntryIs k d) (hk : k ≤ 6) : Gd k d := by
  by_cases h0 : k = 0
  · subst h0
    rcases h with ⟨_, rfl | rfl⟩ | ⟨z, _⟩
    · exact first_gd List.mem_cons_self
    · exact first_gd (List.mem_cons_of_mem _ List.mem_cons_self)
    · omega
  · exact later_gd (entry_later h hk (by omega)) h0
/-! ### rows -/
def Bad (n b : Nat) (R : List Nat) : Prop := stepJ n b R = none ∧ SafeR n R
theorem no32 (n : Nat) : 32 ∉ numL n := numL_free (.inl (by decide))
theorem no10 (n : Nat) : 10 ∉ numL n := numL_free (.inl (by decide))
theorem num_dig (n : Nat) : ∀ c ∈ numL n, dig c = true := allDig n
theorem bad_number {n b : Nat} {R : List Nat} (h : (cutAt R).1 ≠ numL n) : Bad n b R := ⟨by unfold stepJ; rw [if_neg h], fun _ e => absurd e h⟩
theorem stepJ_eq {n b : Nat} {R X words worth : List Nat} (h1 : cutAt R = (numL n, some X)) (h2 : cutAt X = (worth, some words)) : stepJ n b R = match entryB n words with | none => none | some d => if worth = numL (sumB n b words) then some (d, sumB n b words) else none := by
  simp only [stepJ, h1, h2, Option.getD_some, if_true]
  all_goals (cases entryB n words <;> rfl)
theorem bad_words {n b : Nat} {R X words worth : List Nat} (h1 : cutAt R = (numL n, some X)) (h2 : cutAt X = (worth, some words)) (hs : SafeE n words) (hb : entryB n words = none ∨ worth ≠ numL (sumB n b words)) : Bad n b R := by
  refine ⟨?_, fun w' _ e => ?_⟩
  · rw [stepJ_eq h1 h2]
    rcases hb with hb | hb
    · rw [hb]
    · cases e : entryB n words with
      | none => rfl
      | some d =>
        simp only
        rw [if_neg hb]
  · rw [h1] at e
    simp only [Option.getD_some] at e
    rw [h2] at e
    cases e
    exact hs
theorem good_row {n b : Nat} {d : D} (g : Gd n d) : stepJ n b (lineL n (sumB n b d.show) d.show) = some (d, sumB n b d.show) ∧ SafeR n (lineL n (sumB n b d.show) d.show) := by
  have h1 : cutAt (lineL n (sumB n b d.show) d.show) = (numL n, some (numL (sumB n b d.show) ++ 32 :: d.show)) := cutAt_app _ (no32 n)
  have h2 : cutAt (numL (sumB n b d.show) ++ 32 :: d.show) = (numL (sumB n b d.show), some d.show) := cutAt_app _ (no32 _)
  refine ⟨?_, fun w' _ e => ?_⟩
  · rw [stepJ_eq h1 h2, g.ent]
    simp only [if_true]
  · rw [h1] at e
    simp only [Option.getD_some] at e
    rw [h2] at e
    cases e
    exact g.safe
theorem bad_other {n b : Nat} {d : D} (g : Gd n d) {R : List Nat} (h : R ∈ others (numL n) (numL (sumB n b d.show)) d.show) : Bad n b R := by
  simp only [others, List.mem_cons, List.not_mem_nil, or_false] at h
  rcases h with rfl | rfl | rfl | rfl | rfl
  · refine bad_number ?_
    have e : cutAt (48 :: (numL n ++ 32 :: (numL (sumB n b d.show) ++ 32 :: d.show))) = (48 :: numL n, some (numL (sumB n b d.show) ++ 32 :: d.show)) := cutAt_app (a := 48 :: numL n) _ (by
      intro z
      rcases List.mem_cons.mp z with z | z
      · exact absurd z (by decide)
      · exact no32 n z)
    rw [e]
    intro z
    have := congrArg List.length z
    simp at this
  · have le := err_entry (n := n) (lead_err (B := numL (sumB n b d.show)) (t := d.show) (num_dig _))
    exact bad_words (cutAt_app _ (no32 n)) (X := 32 :: (numL (sumB n b d.show) ++ 32 :: d.show)) (worth := []) rfl le.2 (.inl le.1)
  · refine bad_words (cutAt_app _ (no32 n)) (X := 48 :: (numL (sumB n b d.show) ++ 32 :: d.show)) (cutAt_app (a := 48 :: numL (sumB n b d.show)) _ ?_) g.safe (.inr ?_)
    · intro z
      rcases List.mem_cons.mp z with z | z
      · exact absurd z (by decide)
      · exact no32 _ z
    · intro z
      have := congrArg List.length z
      simp at this
  · have te := err_entry (n := n) g.trail
    have e : (numL n ++ 32 :: (numL (sumB n b d.show) ++ 32 :: d.show)) ++ [32] = numL n ++ 32 :: (numL (sumB n b d.show) ++ 32 :: (d.show ++ [32])) := by simp
    rw [e]
    exact bad_words (cutAt_app _ (no32 n)) (cutAt_app _ (no32 _)) te.2 (.inl te.1)
  · exact bad_number fun z => numL_ne n z.symm
theorem wsum_app2 : ∀ (u v : List Nat) (k : Nat), wsum k (u ++ v) = wsum k u + wsum (k + u.length) v
  | [], v, k => by simp [wsum]
  | x :: u, v, k => by
    show (k + 1) * x + wsum (k + 1) (u ++ v) = (k + 1) * x + wsum (k + 1) u + _
    rw [wsum_app2 u v (k + 1), List.length_cons, show k + 1 + u.length = k + (u.length + 1) by omega, Nat.add_assoc]
theorem sum_other {n b : Nat} {u v : List Nat} {x c : Nat} (hu : u.length ≤ 200) (hx : x < 128) (hc : c < 128) (hne : c ≠ x) : sumB n b (u ++ c :: v) ≠ sumB n b (u ++ x :: v) := by
  unfold sumB
  rw [wsum_app2, wsum_app2, Nat.zero_add]
  show (b + n + (wsum 0 u + ((u.length + 1) * c + wsum (u.length + 1) v))) % 99991 ≠ (b + n + (wsum 0 u + ((u.length + 1) * x + wsum (u.length + 1) v))) % 99991
  have h1 : (u.length + 1) * c ≤ 201 * 127 := Nat.mul_le_mul (by omega) (by omega)
  have h2 : (u.length + 1) * x ≤ 201 * 127 := Nat.mul_le_mul (by omega) (by omega)
  have h3 : (u.length + 1) * c ≠ (u.length + 1) * x := fun e => hne (Nat.eq_of_mul_eq_mul_left (Nat.succ_pos _) e)
  generalize (u.length + 1) * c = A at *
  generalize (u.length + 1) * x = B at *
  omega
theorem bad_sign {n b : Nat} {d : D} (g : Gd n d) {u v : List Nat} {x c : Nat} (h : lineL n (sumB n b d.show) d.show = u ++ x :: v) (hc : c ∈ signs5) (hne : c ≠ x) : Bad n b (u ++ c :: v) := by
  obtain ⟨_, _, c10, c0, c128⟩ := signs_free c hc
  unfold lineL at h
  -- a place within the number, or the blank behind it, or behind that
  have inN : ∀ e, numL n = u ++ x :: e → v = e ++ 32 :: (numL (sumB n b d.show) ++ 32 :: d.show) → Bad n b (u ++ c :: v) := fun e h1 h2 => by
    refine bad_number ?_
    rw [h2, show u ++ c :: (e ++ 32 :: (numL (sumB n b d.show) ++ 32 :: d.show)) = (u ++ c :: e) ++ 32 :: (numL (sumB n b d.show) ++ 32 :: d.show) by simp]
    by_cases h32 : 32 ∈ u ++ c :: e
    · obtain ⟨a1, b1, e1, e2⟩ := List.eq_append_cons_of_mem h32
      rw [e1, show (a1 ++ 32 :: b1) ++ 32 :: (numL (sumB n b d.show) ++ 32 :: d.show) = a1 ++ 32 :: (b1 ++ 32 :: (numL (sumB n b d.show) ++ 32 :: d.show)) by simp, cutAt_app _ e2]
      intro z
      have h3 : a1 = numL n := z
      have l1 := congrArg List.length e1
      rw [h3, h1] at l1
      simp at l1
    · rw [cutAt_app _ h32]
      intro z
      have h3 : u ++ c :: e = numL n := z
      rw [h1] at h3
      have := List.append_cancel_left h3
      injection this with this
      exact hne this
  have atN : u = numL n → x = 32 → v = numL (sumB n b d.show) ++ 32 :: d.show → Bad n b (u ++ c :: v) := fun h1 h2 h3 => by
    refine bad_number ?_
    rw [h1, h3, show numL n ++ c :: (numL (sumB n b d.show) ++ 32 :: d.show) = (numL n ++ c :: numL (sumB n b d.show)) ++ 32 :: d.show by simp, cutAt_app _ (by
      intro z
      rcases List.mem_append.mp z with z | z
      · exact no32 n z
      · rcases List.mem_cons.mp z with z | z
        · exact hne (by rw [h2, z])
        · exact no32 _ z)]
    intro z
    have := congrArg List.length z
    simp at this
  rcases List.append_eq_append_iff.mp h with ⟨a', h1, h2⟩ | ⟨e, h1, h2⟩
  case inr =>
    cases e with
    | nil =>
      injection h2 with h2 h3
      exact atN (by rw [h1, List.append_nil]) h2 h3
    | cons y e =>
      injection h2 with h2 h3
      subst h2
      exact inN e h1 h3
  cases a' with
  | nil =>
    injection h2 with h2 h3
    exact atN (by rw [h1, List.append_nil]) h2.symm h3.symm
  | cons y a' =>
    injection h2 with h2 h3
    subst h2
    subst h1
    rw [show (numL n ++ 32 :: a') ++ c :: v = numL n ++ 32 :: (a' ++ c :: v) by simp]
    have k1 := cutAt_app (a := numL n) (a' ++ c :: v) (no32 n)
    have inW : ∀ e, numL (sumB n b d.show) = a' ++ x :: e → v = e ++ 32 :: d.show → Bad n b (numL n ++ 32 :: (a' ++ c :: v)) := fun e g1 g2 => by
      subst g2
      have a32 : 32 ∉ a' := fun z => no32 (sumB n b d.show) (by rw [g1]; exact List.mem_append_left _ z)
      have eD : ∀ y ∈ e, dig y = true := fun y hy => num_dig (sumB n b d.show) y (by rw [g1]; exact List.mem_append_right _ (List.mem_cons_of_mem _ hy))
      have e32 : 32 ∉ e := fun z => no32 (sumB n b d.show) (by rw [g1]; exact List.mem_append_right _ (List.mem_cons_of_mem _ z))
      by_cases hcb : c = 32
      · subst hcb
        have le := err_entry (n := n) (lead_err (B := e) (t := d.show) eD)
        exact bad_words k1 (cutAt_app _ a32) le.2 (.inl le.1)
      · refine bad_words k1 (words := d.show) (worth := a' ++ c :: e) ?_ g.safe (.inr fun z => ?_)
        · rw [show a' ++ c :: (e ++ 32 :: d.show) = (a' ++ c :: e) ++ 32 :: d.show by simp]
          refine cutAt_app _ ?_
          intro z
          rcases List.mem_append.mp z with z | z
          · exact a32 z
          · rcases List.mem_cons.mp z with z | z
            · exact hcb z.symm
            · exact e32 z
        · rw [g1] at z
          have := List.append_cancel_left z
          injection this with this
          exact hne this
    have atW : a' = numL (sumB n b d.show) → x = 32 → v = d.show → Bad n b (numL n ++ 32 :: (a' ++ c :: v)) := fun g1 g2 g3 => by
      obtain ⟨ta, tb, t1, t2, t3⟩ := g.tail
      obtain ⟨tr, t4⟩ := g.head
      refine bad_words k1 (words := tb) (worth := a' ++ c :: ta) ?_ t3 (.inr fun z => ?_)
      · rw [g3, t2, show a' ++ c :: (ta ++ 32 :: tb) = (a' ++ c :: ta) ++ 32 :: tb by simp]
        refine cutAt_app _ ?_
        intro z
        rcases List.mem_append.mp z with z | z
        · rw [g1] at z; exact no32 _ z
        · rcases List.mem_cons.mp z with z | z
          · exact hne (by rw [g2, z])
          · exact t1 z
      · have h40 : 40 ∈ ta := by
          rw [t4] at t2
          cases ta with
          | nil => injection t2 with t2; cases t2
          | cons y ta => injection t2 with t2; rw [t2]; exact List.mem_cons_self
        have : 40 ∈ numL (sumB n b tb) := by rw [← z]; exact List.mem_append_right _ (List.mem_cons_of_mem _ h40)
        exact numL_free (.inl (by decide)) this
    rcases List.append_eq_append_iff.mp h3 with ⟨a2, g1, g2⟩ | ⟨e, g1, g2⟩
    case inr =>
      cases e with
      | nil =>
        injection g2 with g2 g3
        exact atW (by rw [g1, List.append_nil]) g2 g3
      | cons y e =>
        injection g2 with g2 g3
        subst g2
        exact inW e g1 g3
    cases a2 with
    | nil =>
      injection g2 with g2 g3
      exact atW (by rw [g1, List.append_nil]) g2.symm g3.symm
    | cons y a2 =>
      injection g2 with g2 g3
      subst g2
      subst g1
      -- within the words
      have g3 : d.show = a2 ++ x :: v := g3
      have hl := g.len
      have hch := g.chars
      have hchg := g.chg a2.length c (by rw [g3]; simp) hc
      have tk : d.show.take a2.length = a2 := by rw [g3, List.take_left]
      have dr : d.show.drop (a2.length + 1) = v := by rw [g3, ← List.drop_drop, List.drop_left]; rfl
      rw [tk, dr, List.append_assoc] at hchg
      have k2 : cutAt ((numL (sumB n b d.show) ++ 32 :: a2) ++ c :: v) = (numL (sumB n b d.show), some (a2 ++ c :: v)) := by
        rw [show (numL (sumB n b d.show) ++ 32 :: a2) ++ c :: v = numL (sumB n b d.show) ++ 32 :: (a2 ++ c :: v) by simp]
        exact cutAt_app _ (no32 _)
      refine bad_words k1 k2 hchg (.inr fun z => ?_)
      have hxm : x ∈ d.show := by rw [g3]; exact List.mem_append_right _ List.mem_cons_self
      rw [g3] at hl
      rw [List.length_append] at hl
      refine sum_other (n := n) (b := b) (u := a2) (v := v) (by omega) (hch x hxm).2.1 c128 hne ?_
      rw [← g3]
      exact (numL_inj z).symm
end Tst
/-! The plain law of journals: texts, row by row. -/
namespace Tst
open PySem PySem.Spec PyProof.Rows L2 TL
theorem spl_ne : ∀ (l acc : List Nat), TL.spl [10] 0 acc l ≠ []
  | [], acc => by rw [TL.spl_nil]; simp
  | x :: l, acc => by
    by_cases hx : x = 10
    · have hp : TL.pre [10] (x :: l) = true := by rw [hx]; rfl
      rw [TL.spl_hit hp]
      simp
    · rw [TL.spl_miss (TL.pre_of_head [] l hx)]
      exact spl_ne l _
theorem rows_line {l : List Nat} (T : List Nat) (h : 10 ∉ l) : rowsL (l ++ 10 :: T) = l :: rowsL T := by
  unfold rowsL
  have e := TL.spl_part1 (s := 10) (S := []) (p := l) (rest := T) (acc := []) h
  rw [List.nil_append] at e
  have e2 : TL.spl [10] 0 [] (l ++ 10 :: T) = l :: TL.spl [10] 0 [] T := e
  rw [e2, List.dropLast_cons_of_ne_nil (spl_ne _ _)]
theorem rows_none {T : List Nat} (h : 10 ∉ T) : rowsL T = [] := by
  unfold rowsL
  rw [TL.spl_last1 h]
  rfl
def TailOk (n b : Nat) (tail : List Nat) : Prop := 10 ∉ tail ∨ ∃ R rest, tail = R ++ 10 :: rest ∧ 10 ∉ R ∧ Bad n b R
def endB : Nat → Nat → List D → Nat
  | _, b, [] => b
  | n, b, d :: ds => endB (n + 1) (sumB n b d.show) ds
theorem flat_cons (l : List Nat) (ls : List (List Nat)) : flat (l :: ls) = l ++ 10 :: flat ls := by
  show (l ++ [10]) ++ flat ls = _
  simp
theorem flat_app2 (a b : List (List Nat)) : flat (a ++ b) = flat a ++ flat b := by
  unfold flat
  rw [List.map_append, List.flatten_append]
theorem line10 {n : Nat} {d : D} (g : Gd n d) (b : Nat) : 10 ∉ lineL n b d.show := by
  intro z
  unfold lineL at z
  rcases List.mem_append.mp z with z | z
  · exact no10 n z
  · rcases List.mem_cons.mp z with z | z
    · exact absurd z (by decide)
    · rcases List.mem_append.mp z with z | z
      · exact no10 b z
      · rcases List.mem_cons.mp z with z | z
        · exact absurd z (by decide)
        · exact (g.chars 10 z).2.2 rfl
/-- entries that can stand there, from line n on -/
def Gds (n : Nat) : List D → Prop
  | [] => True
  | d :: ds => Gd n d ∧ Gds (n + 1) ds
theorem read_main : ∀ (ds : List D) (n b : Nat) (tail : List Nat), Gds n ds → TailOk (n + ds.length) (endB n b ds) tail →
    readJ n b (rowsL (flat (linesF n b ds) ++ tail)) = (ds, (flat (linesF n b ds)).length) ∧ SafeJ n b (rowsL (flat (linesF n b ds) ++ tail))
  | [], n, b, tail, _, ht => by
    rw [show flat (linesF n b []) = [] from rfl, List.nil_append]
    rcases ht with h | ⟨R, rest, rfl, h10, hst, hsf⟩
    · rw [rows_none h]
      exact ⟨rfl, trivial⟩
    · have hst' : stepJ n b R = none := hst
      have hsf' : SafeR n R := hsf
      rw [rows_line rest h10]
      refine ⟨by rw [readJ, hst']; rfl, hsf', fun d s e => ?_⟩
      rw [hst'] at e
      cases e
  | d :: ds, n, b, tail, hg, ht => by
    obtain ⟨g, hgs⟩ := hg
    have e0 : linesF n b (d :: ds) = lineL n (sumB n b d.show) d.show :: linesF (n + 1) (sumB n b d.show) ds := rfl
    have ht' : TailOk (n + 1 + ds.length) (endB (n + 1) (sumB n b d.show) ds) tail := by
      rw [show n + 1 + ds.length = n + (d :: ds).length by rw [List.length_cons]; omega]
      exact ht
    obtain ⟨i1, i2⟩ := read_main ds (n + 1) (sumB n b d.show) tail hgs ht'
    obtain ⟨s1, s2⟩ := good_row (b := b) g
    rw [e0, flat_cons, List.append_assoc, List.cons_append, rows_line _ (line10 g _)]
    refine ⟨?_, s2, fun d' s' e => ?_⟩
    · rw [readJ, s1]
      simp only
      rw [i1]
      refine Prod.ext rfl ?_
      show _ + 1 + (flat (linesF (n + 1) (sumB n b d.show) ds)).length = _
      rw [List.length_append, List.length_cons]
      omega
    · rw [s1] at e
      cases e
      exact i2
theorem due_app : ∀ (ls ms : List (List Nat)) (T : List Nat), dueK (ls ++ ms) (flat ls ++ T) = (ls.length + (dueK ms T).1, (flat ls).length + (dueK ms T).2)
  | [], ms, T => by simp [flat]
  | l :: ls, ms, T => by
    rw [List.cons_append, flat_cons, dueK]
    have e1 : (l ++ 10 :: flat ls ++ T).take (l.length + 1) = l ++ [10] := by
      rw [show l ++ 10 :: flat ls ++ T = (l ++ [10]) ++ (flat ls ++ T) by simp, List.take_left' (by simp)]
    have e2 : (l ++ 10 :: flat ls ++ T).drop (l.length + 1) = flat ls ++ T := by
      rw [show l ++ 10 :: flat ls ++ T = (l ++ [10]) ++ (flat ls ++ T) by simp, List.drop_left' (by simp)]
    rw [if_pos e1, e2, due_app ls ms T]
    simp only [List.length_cons, List.length_append]
    refine Prod.ext ?_ ?_
    · show _ + 1 = _
      omega
    · show _ + (l.length + 1) = _
      omega
theorem due_tail {n b : Nat} {ds : List D} {tail : List Nat} (hg : Gds n ds) (ht : TailOk n b tail) : dueK (linesF n b ds) tail = (0, 0) := by
  cases ds with
  | nil => rfl
  | cons d ds =>
    have e0 : linesF n b (d :: ds) = lineL n (sumB n b d.show) d.show :: linesF (n + 1) (sumB n b d.show) ds := rfl
    rw [e0, dueK, if_neg]
    intro h
    have hm : 10 ∈ tail := List.mem_of_mem_take (by rw [h]; exact List.mem_append_right _ (List.mem_singleton.mpr rfl))
    rcases ht with h10 | ⟨R, rest, rfl, hR, hst, _⟩
    · exact h10 hm
    · have hl := line10 hg.1 (sumB n b d.show)
      have e1 : R ++ 10 :: rest = lineL n (sumB n b d.show) d.show ++ 10 :: (R ++ 10 :: rest).drop ((lineL n (sumB n b d.show) d.show).length + 1) := by
        have := List.take_append_drop ((lineL n (sumB n b d.show) d.show).length + 1) (R ++ 10 :: rest)
        rw [h] at this
        simpa using this.symm
      have e2 : R = lineL n (sumB n b d.show) d.show := by
        have a1 := rows_line rest hR
        rw [e1, rows_line _ hl] at a1
        injection a1 with a1
        exact a1.symm
      have hst' : stepJ n b R = none := hst
      rw [e2, (good_row (b := b) hg.1).1] at hst'
      cases hst'
theorem linesF_app : ∀ (xs ys : List D) (n b : Nat), linesF n b (xs ++ ys) = linesF n b xs ++ linesF (n + xs.length) (endB n b xs) ys
  | [], ys, n, b => rfl
  | d :: xs, ys, n, b => by
    show lineL n (sumB n b d.show) d.show :: linesF (n + 1) (sumB n b d.show) (xs ++ ys) = _
    rw [linesF_app xs ys (n + 1) (sumB n b d.show), List.length_cons, show n + 1 + xs.length = n + (xs.length + 1) by omega]
    rfl
theorem Gds.app : ∀ {xs ys : List D} {n : Nat}, Gds n (xs ++ ys) → Gds n xs ∧ Gds (n + xs.length) ys
  | [], ys, n, h => ⟨trivial, h⟩
  | d :: xs, ys, n, h => by
    obtain ⟨h1, h2⟩ := Gds.app (xs := xs) (ys := ys) (n := n + 1) h.2
    rw [show n + 1 + xs.length = n + (d :: xs).length by rw [List.length_cons]; omega] at h2
    exact ⟨⟨h.1, h1⟩, h2⟩
def Due (ds : List D) (T : List Nat) : Prop := SafeJ 0 0 (rowsL T) ∧ D.tup [.tup (readJ 0 0 (rowsL T)).1, .int (((readJ 0 0 (rowsL T)).2 : Nat) : Int)] = dueD ds (linesF 0 0 ds) T
/-- a text that begins with the first entries' lines and goes on wrongly -/
theorem due_of {xs ys : List D} (hg : Gds 0 (xs ++ ys)) {tail : List Nat} (ht : TailOk xs.length (endB 0 0 xs) tail) : Due (xs ++ ys) (flat (linesF 0 0 xs) ++ tail) := by
  obtain ⟨h1, h2⟩ := hg.app
  obtain ⟨r1, r2⟩ := read_main xs 0 0 tail h1 (by rw [Nat.zero_add]; exact ht)
  refine ⟨r2, ?_⟩
  unfold dueD
  rw [r1, linesF_app, due_app, due_tail h2 (by rw [Nat.zero_add]; exact ht), linesF_len]
  simp
theorem tail_lines {n m b b' : Nat} {ys : List D} (hg : Gds m ys) (hne : m ≠ n) : TailOk n b (flat (linesF m b' ys)) := by
  cases ys with
  | nil => exact .inl (by simp [linesF, flat])
  | cons d ys =>
    have e0 : linesF m b' (d :: ys) = lineL m (sumB m b' d.show) d.show :: linesF (m + 1) (sumB m b' d.show) ys := rfl
    rw [e0, flat_cons]
    refine .inr ⟨_, _, rfl, line10 hg.1 _, bad_number ?_⟩
    have e1 : cutAt (lineL m (sumB m b' d.show) d.show) = (numL m, some (numL (sumB m b' d.show) ++ 32 :: d.show)) := cutAt_app _ (no32 m)
    rw [e1]
    exact fun z => hne (numL_inj z)
/-- the lines at a place -/
theorem at_line {ds : List D} {k : Nat} (hk : k < ds.length) : ∃ xs d ys, ds = xs ++ d :: ys ∧ xs.length = k ∧ (linesF 0 0 ds).take k = linesF 0 0 xs ∧
    (linesF 0 0 ds)[k]? = some (lineL k (sumB k (endB 0 0 xs) d.show) d.show) ∧ (linesF 0 0 ds).drop k = linesF k (endB 0 0 xs) (d :: ys) ∧ (linesF 0 0 ds).drop (k + 1) = linesF (k + 1) (sumB k (endB 0 0 xs) d.show) ys := by
  have e := List.take_append_drop k ds
  rw [List.drop_eq_getElem_cons hk] at e
  refine ⟨ds.take k, ds[k], ds.drop (k + 1), e.symm, by rw [List.length_take]; omega, ?_⟩
  have hl : (ds.take k).length = k := by rw [List.length_take]; omega
  generalize ds.take k = xs at *
  generalize ds[k] = d at *
  generalize ds.drop (k + 1) = ys at *
  subst e
  have e1 : linesF 0 0 (xs ++ d :: ys) = linesF 0 0 xs ++ (lineL k (sumB k (endB 0 0 xs) d.show) d.show :: linesF (k + 1) (sumB k (endB 0 0 xs) d.show) ys) := by
    rw [linesF_app, Nat.zero_add, hl]
    rfl
  have hl2 : (linesF 0 0 xs).length = k := by rw [linesF_len, hl]
  rw [e1]
  refine ⟨List.take_left' hl2, ?_, List.drop_left' hl2, ?_⟩
  · rw [List.getElem?_append_right (by omega), hl2, Nat.sub_self]
    rfl
  · rw [← List.drop_drop, List.drop_left' hl2]
    rfl
theorem lines_three {A B C A' B' C' : List Nat} (h : A ++ 32 :: (B ++ 32 :: C) = A' ++ 32 :: (B' ++ 32 :: C')) (a : 32 ∉ A) (b : 32 ∉ B) (a' : 32 ∉ A') (b' : 32 ∉ B') : A = A' ∧ B = B' ∧ C = C' := by
  have h1 := cutAt_app (B ++ 32 :: C) a
  rw [h, cutAt_app _ a'] at h1
  injection h1 with h1 h2
  injection h2 with h2
  have h3 := cutAt_app C b
  rw [← h2, cutAt_app _ b'] at h3
  injection h3 with h3 h4
  injection h4 with h4
  exact ⟨h1.symm, h3.symm, h4.symm⟩
theorem cut_flat : ∀ (ds : List D) (n b m : Nat), Gds n ds → ∃ xs ys tail, ds = xs ++ ys ∧ (flat (linesF n b ds)).take m = flat (linesF n b xs) ++ tail ∧ 10 ∉ tail
  | [], n, b, m, _ => ⟨[], [], [], rfl, by simp [linesF, flat], by simp⟩
  | d :: ds, n, b, m, hg => by
    have e0 : linesF n b (d :: ds) = lineL n (sumB n b d.show) d.show :: linesF (n + 1) (sumB n b d.show) ds := rfl
    have hl := line10 hg.1 (sumB n b d.show)
    by_cases hm : m ≤ (lineL n (sumB n b d.show) d.show).length
    · refine ⟨[], d :: ds, (lineL n (sumB n b d.show) d.show).take m, rfl, ?_, fun z => hl (List.mem_of_mem_take z)⟩
      rw [e0, flat_cons, List.take_append_of_le_length hm]
      rfl
    · obtain ⟨xs, ys, tail, e1, e2, e3⟩ := cut_flat ds (n + 1) (sumB n b d.show) (m - ((lineL n (sumB n b d.show) d.show).length + 1)) hg.2
      refine ⟨d :: xs, ys, tail, by rw [e1]; rfl, ?_, e3⟩
      have e4 : linesF n b (d :: xs) = lineL n (sumB n b d.show) d.show :: linesF (n + 1) (sumB n b d.show) xs := rfl
      rw [e0, e4, flat_cons, flat_cons, List.append_assoc, List.cons_append, ← e2]
      have e5 : m = (lineL n (sumB n b d.show) d.show).length + ((m - ((lineL n (sumB n b d.show) d.show).length + 1)) + 1) := by omega
      conv => lhs; rw [e5]
      rw [List.take_append, List.take_of_length_le (by omega), show (lineL n (sumB n b d.show) d.show).length + (m - ((lineL n (sumB n b d.show) d.show).length + 1) + 1) - (lineL n (sumB n b d.show) d.show).length = (m - ((lineL n (sumB n b d.show) d.show).length + 1)) + 1 by omega, List.take_succ_cons]
theorem due_same {ds : List D} (hg : Gds 0 ds) : Due ds (flat (linesF 0 0 ds)) := by
  have := due_of (xs := ds) (ys := []) (by rw [List.append_nil]; exact hg) (tail := []) (.inl (by simp))
  rw [List.append_nil, List.append_nil] at this
  exact this
theorem shift_due {ds : List D} (hg : Gds 0 ds) {T : List Nat} (h : Shift (linesF 0 0 ds) T) : Due ds T := by
  have hlen := linesF_len ds 0 0
  rcases h with ⟨ls', hM, rfl⟩ | ⟨m, rfl⟩
  case inr =>
    obtain ⟨xs, ys, tail, e1, e2, e3⟩ := cut_flat ds 0 0 m hg
    rw [e2, e1]
    exact due_of (by rw [← e1]; exact hg) (.inl e3)
  cases hM with
  | same => exact due_same hg
  | gone k hk =>
    rw [hlen] at hk
    obtain ⟨xs, d, ys, e1, e2, e3, e4, e5, e6⟩ := at_line hk
    rw [e3, e6, flat_app2, e1]
    rw [e1] at hg
    refine due_of hg (tail_lines ?_ (by omega))
    have := hg.app.2
    rw [Nat.zero_add, e2] at this
    exact this.2
  | twice k hk =>
    rw [hlen] at hk
    obtain ⟨xs, d, ys, e1, e2, e3, e4, e5, e6⟩ := at_line hk
    have ht : (linesF 0 0 ds).take (k + 1) = linesF 0 0 (xs ++ [d]) := by
      rw [List.take_add_one, e3, e4, linesF_app, Nat.zero_add, e2]
      rfl
    have e7 : ds = (xs ++ [d]) ++ ys := by rw [e1]; simp
    rw [ht, e5, flat_app2, e7]
    have hg2 := hg
    rw [e1] at hg2
    rw [e7] at hg
    refine due_of hg (tail_lines ?_ (by rw [List.length_append]; simp; omega))
    have := hg2.app.2
    rw [Nat.zero_add, e2] at this
    exact this
  | swap k a b' ha hb =>
    have hk : k < ds.length := by rw [← hlen]; exact (List.getElem?_eq_some_iff.mp ha).1
    have hk1 : k + 1 < ds.length := by rw [← hlen]; exact (List.getElem?_eq_some_iff.mp hb).1
    obtain ⟨xs, d, ys, e1, e2, e3, e4, e5, e6⟩ := at_line hk
    obtain ⟨xs', d', ys', f1, f2, f3, f4, f5, f6⟩ := at_line hk1
    rw [f4] at hb
    injection hb with hb
    have g' : Gd (k + 1) d' := by
      have := hg
      rw [f1] at this
      have := this.app.2
      rw [Nat.zero_add, f2] at this
      exact this.1
    rw [e3, List.append_assoc, flat_app2, e1]
    rw [e1] at hg
    refine due_of hg (.inr ⟨b', _, flat_cons _ _, ?_, ?_⟩)
    · rw [← hb]
      exact line10 g' _
    · rw [← hb]
      refine bad_number ?_
      have e9 : cutAt (lineL (k + 1) (sumB (k + 1) (endB 0 0 xs') d'.show) d'.show) = (numL (k + 1), some (numL (sumB (k + 1) (endB 0 0 xs') d'.show) ++ 32 :: d'.show)) := cutAt_app _ (no32 _)
      rw [e9, e2]
      intro z
      have := numL_inj z
      omega
  | other k A B C r hA hB hl hr =>
    have hk : k < ds.length := by rw [← hlen]; exact (List.getElem?_eq_some_iff.mp hl).1
    obtain ⟨xs, d, ys, e1, e2, e3, e4, e5, e6⟩ := at_line hk
    rw [e4] at hl
    injection hl with hl
    have g' : Gd k d := by
      have := hg
      rw [e1] at this
      have := this.app.2
      rw [Nat.zero_add, e2] at this
      exact this.1
    obtain ⟨rfl, rfl, rfl⟩ := lines_three hl (no32 _) (no32 _) hA hB
    rw [e3, e6, List.append_assoc, flat_app2, e1]
    rw [e1] at hg
    refine due_of hg (.inr ⟨r, _, flat_cons _ _, ?_, ?_⟩)
    · have n0 : 10 ∉ d.show := fun z => (g'.chars 10 z).2.2 rfl
      have n1 := no10 k
      have n2 := no10 (sumB k (endB 0 0 xs) d.show)
      simp only [others, List.mem_cons, List.not_mem_nil, or_false] at hr
      rcases hr with rfl | rfl | rfl | rfl | rfl <;> simp [n0, n1, n2]
    · rw [e2]
      exact bad_other g' hr
  | sign k l p c hl hp hc =>
    have hk : k < ds.length := by rw [← hlen]; exact (List.getElem?_eq_some_iff.mp hl).1
    obtain ⟨xs, d, ys, e1, e2, e3, e4, e5, e6⟩ := at_line hk
    rw [e4] at hl
    injection hl with hl
    have g' : Gd k d := by
      have := hg
      rw [e1] at this
      have := this.app.2
      rw [Nat.zero_add, e2] at this
      exact this.1
    have hsplit : l = l.take p ++ l[p] :: l.drop (p + 1) := by
      have := List.take_append_drop p l
      rw [List.drop_eq_getElem_cons hp] at this
      exact this.symm
    by_cases hcx : c = l[p]
    · rw [hcx, show l.take p ++ [l[p]] ++ l.drop (p + 1) = l by rw [List.append_assoc]; exact hsplit.symm, ← hl, List.append_assoc]
      have e7 : (linesF 0 0 ds).take k ++ ([lineL k (sumB k (endB 0 0 xs) d.show) d.show] ++ (linesF 0 0 ds).drop (k + 1)) = linesF 0 0 ds := by
        have h8 : [lineL k (sumB k (endB 0 0 xs) d.show) d.show] ++ (linesF 0 0 ds).drop (k + 1) = (linesF 0 0 ds).drop k := by rw [e5, e6]; rfl
        rw [h8, List.take_append_drop]
      rw [e7]
      exact due_same hg
    · rw [e3, e6, List.append_assoc, flat_app2, e1]
      rw [e1] at hg
      refine due_of hg (.inr ⟨l.take p ++ [c] ++ l.drop (p + 1), _, flat_cons _ _, ?_, ?_⟩)
      · have hl10 : 10 ∉ l := by rw [← hl]; exact line10 g' _
        obtain ⟨_, _, c10, _⟩ := signs_free c hc
        intro z
        rcases List.mem_append.mp z with z | z
        · rcases List.mem_append.mp z with z | z
          · exact hl10 (List.mem_of_mem_take z)
          · exact c10 (List.mem_singleton.mp z).symm
        · exact hl10 (List.mem_of_mem_drop z)
      · rw [e2, List.append_assoc]
        exact bad_sign g' (hl.trans hsplit) hc hcx
end Tst
/-! The plain law of journals: what the law's own turns want. -/
namespace Tst
open PySem PySem.Spec PyProof.Rows L2 TL
/-! ### how deep, how wide -/
mutual
def limB : Nat → D → Bool
  | n, .tup xs => match n with | 0 => false | m + 1 => decide (xs.length ≤ 1000) && limsB m xs
  | _, _ => true
def limsB : Nat → List D → Bool
  | _, [] => true
  | n, d :: r => limB n d && limsB n r
end
mutual
theorem lim_of : ∀ {d : D} {n : Nat}, limB n d = true → Lim 100001 n d
  | .non, n, _ => .non n
  | .bl b, n, _ => .bl n b
  | .int i, n, _ => .int n i
  | .str z, n, _ => .str n z
  | .tup xs, n, h => by
    cases n with
    | zero => rw [limB] at h; cases h
    | succ m =>
      rw [limB] at h
      have h' : (decide (xs.length ≤ 1000) && limsB m xs) = true := h
      rw [Bool.and_eq_true, decide_eq_true_eq] at h'
      have h2 := lims_of h'.2
      exact .tup m xs (by omega) h2
theorem lims_of : ∀ {xs : List D} {n : Nat}, limsB n xs = true → ∀ d ∈ xs, Lim 100001 n d
  | [], n, _ => fun _ z => by cases z
  | d :: r, n, h => by
    rw [limsB, Bool.and_eq_true] at h
    have h1 := lim_of h.1
    have h2 := lims_of h.2
    intro x hx
    rcases List.mem_cons.mp hx with e | hx
    · rw [e]
      exact h1
    · exact h2 x hx
end
def shortB (z : Str) : Bool := decide (z.length ≤ 1000000)
theorem short_of {z : Str} (h : shortB z = true) : shortS z := (of_decide_eq_true h : z.length ≤ 1000000)
def shapeB (d : D) : Bool := limB 20 d && allB shortB d
structure Shape (d : D) : Prop where
  lim : Lim 100001 20 d
  short : AllS shortS d
theorem shape_of {d : D} (h : shapeB d = true) : Shape d := by
  unfold shapeB at h
  rw [Bool.and_eq_true] at h
  exact ⟨lim_of h.1, all_of (fun z => short_of) h.2⟩
theorem later_shape : laterAll.all shapeB = true := by decide +kernel
theorem first_shape : [shopD, shortD].all shapeB = true := by decide +kernel
theorem entry_shape {k : Nat} {d : D} (h : EntryIs k d) (hk : k ≤ 6) : Shape d := by
  by_cases h0 : k = 0
  · subst h0
    rcases h with ⟨_, rfl | rfl⟩ | ⟨z, _⟩
    · exact shape_of (List.all_eq_true.mp first_shape _ List.mem_cons_self)
    · exact shape_of (List.all_eq_true.mp first_shape _ (List.mem_cons_of_mem _ List.mem_cons_self))
    · omega
  · exact shape_of (List.all_eq_true.mp later_shape _ (entry_later h hk (by omega)))
/-! ### entries from line n on -/
def Ents : Nat → List D → Prop
  | _, [] => True
  | n, d :: ds => EntryIs n d ∧ Ents (n + 1) ds
theorem ents_gds : ∀ {ds : List D} {n : Nat}, Ents n ds → n + ds.length ≤ 7 → Gds n ds
  | [], n, _, _ => trivial
  | d :: ds, n, h, hl => by
    rw [List.length_cons] at hl
    exact ⟨entry_gd h.1 (by omega), ents_gds h.2 (by omega)⟩
theorem ents_all : ∀ {ds : List D} {n : Nat}, Ents n ds → n + ds.length ≤ 7 → ∀ d ∈ ds, ∃ k, k ≤ 6 ∧ EntryIs k d
  | [], n, _, _, _, h => by cases h
  | d :: ds, n, h, hl, x, hx => by
    rw [List.length_cons] at hl
    rcases List.mem_cons.mp hx with rfl | hx
    · exact ⟨n, by omega, h.1⟩
    · exact ents_all h.2 (by omega) x hx
theorem ents_app : ∀ {ds : List D} {n : Nat} {d : D}, Ents n ds → EntryIs (n + ds.length) d → Ents n (ds ++ [d])
  | [], n, d, _, h => ⟨h, trivial⟩
  | x :: ds, n, d, h1, h2 => ⟨h1.1, ents_app h1.2 (by rw [show n + 1 + ds.length = n + (x :: ds).length by rw [List.length_cons]; omega]; exact h2)⟩
theorem ent_fine {k : Nat} {d : D} (h : EntryIs k d) (hk : k ≤ 6) : FineD 20 d := (entry_gd h hk).fine
/-! ### signs above 0; the lines' form -/
theorem num_pos (n : Nat) : ∀ c ∈ numL n, 0 < c := fun c hc => by
  have := (dig_iff c).mp (num_dig n c hc)
  omega
theorem line_pos {n b : Nat} {t : List Nat} (ht : ∀ c ∈ t, 0 < c) : ∀ c ∈ lineL n b t, 0 < c := fun c hc => by
  unfold lineL at hc
  rcases List.mem_append.mp hc with h | h
  · exact num_pos n c h
  · rcases List.mem_cons.mp h with h | h
    · omega
    · rcases List.mem_append.mp h with h | h
      · exact num_pos b c h
      · rcases List.mem_cons.mp h with h | h
        · omega
        · exact ht c h
theorem lines_pos : ∀ (ds : List D) (n b : Nat), (∀ d ∈ ds, FineD 20 d) → ∀ l ∈ linesF n b ds, ∀ c ∈ l, 0 < c
  | [], n, b, _, l, hl, _, _ => by cases hl
  | d :: ds, n, b, h, l, hl, c, hc => by
    have e0 : linesF n b (d :: ds) = lineL n (sumB n b d.show) d.show :: linesF (n + 1) (sumB n b d.show) ds := rfl
    rw [e0] at hl
    rcases List.mem_cons.mp hl with rfl | hl
    · exact line_pos (h d List.mem_cons_self).pos c hc
    · exact lines_pos ds _ _ (fun x hx => h x (List.mem_cons_of_mem _ hx)) l hl c hc
theorem lines_ok : ∀ (ds : List D) (n b : Nat), n + ds.length ≤ 100 → (∀ d ∈ ds, FineD 20 d) → ∀ l ∈ linesF n b ds, LineOk l
  | [], n, b, _, _, l, hl => by cases hl
  | d :: ds, n, b, hn, h, l, hl => by
    have e0 : linesF n b (d :: ds) = lineL n (sumB n b d.show) d.show :: linesF (n + 1) (sumB n b d.show) ds := rfl
    rw [e0] at hl
    rw [List.length_cons] at hn
    rcases List.mem_cons.mp hl with rfl | hl
    · refine ⟨⟨numL n, numL (sumB n b d.show), d.show, no32 _, no32 _, rfl⟩, ?_⟩
      have l1 : (numL n).length ≤ 3 := numL_len (by decide) (by omega)
      have l2 : (numL (sumB n b d.show)).length ≤ 5 := numL_len (by decide) (by have := sumB_lt n b d.show; omega)
      have l3 := (h d List.mem_cons_self).len
      unfold lineL
      rw [List.length_append, List.length_cons, List.length_append, List.length_cons]
      omega
    · exact lines_ok ds _ _ (by omega) (fun x hx => h x (List.mem_cons_of_mem _ hx)) l hl
theorem flat_pos {ls : List (List Nat)} (h : ∀ l ∈ ls, ∀ c ∈ l, 0 < c) : ∀ c ∈ flat ls, 0 < c := fun c hc => by
  unfold flat at hc
  obtain ⟨x, hx, hcx⟩ := List.mem_flatten.mp hc
  obtain ⟨l, hl, rfl⟩ := List.mem_map.mp hx
  rcases List.mem_append.mp hcx with z | z
  · exact h l hl c z
  · rw [List.mem_singleton.mp z]
    decide
theorem mod_pos {ls ls' : List (List Nat)} (h : Mod ls ls') (hp : ∀ l ∈ ls, ∀ c ∈ l, 0 < c) : ∀ l ∈ ls', ∀ c ∈ l, 0 < c := by
  have tk : ∀ k, ∀ l ∈ ls.take k, ∀ c ∈ l, 0 < c := fun k l h => hp l (List.mem_of_mem_take h)
  have dk : ∀ k, ∀ l ∈ ls.drop k, ∀ c ∈ l, 0 < c := fun k l h => hp l (List.mem_of_mem_drop h)
  cases h with
  | same => exact hp
  | gone k hk => exact fun l h => (List.mem_append.mp h).elim (tk _ l) (dk _ l)
  | twice k hk => exact fun l h => (List.mem_append.mp h).elim (tk _ l) (dk _ l)
  | swap k a b ha hb =>
    intro l h
    rcases List.mem_append.mp h with h | h
    · rcases List.mem_append.mp h with h | h
      · exact tk _ l h
      · rcases List.mem_cons.mp h with rfl | h
        · exact hp _ (List.mem_of_getElem? hb)
        · rw [List.mem_singleton.mp h]
          exact hp _ (List.mem_of_getElem? ha)
    · exact dk _ l h
  | other k A B C r hA hB hg hr =>
    have h0 := hp _ (List.mem_of_getElem? hg)
    intro l h
    rcases List.mem_append.mp h with h | h
    · rcases List.mem_append.mp h with h | h
      · exact tk _ l h
      · rw [List.mem_singleton.mp h]
        have pA : ∀ c ∈ A, 0 < c := fun c hc => h0 c (List.mem_append_left _ hc)
        have pB : ∀ c ∈ B, 0 < c := fun c hc => h0 c (List.mem_append_right _ (List.mem_cons_of_mem _ (List.mem_append_left _ hc)))
        have pC : ∀ c ∈ C, 0 < c := fun c hc => h0 c (List.mem_append_right _ (List.mem_cons_of_mem _ (List.mem_append_right _ (List.mem_cons_of_mem _ hc))))
        intro c hc
        simp only [others, List.mem_cons, List.not_mem_nil, or_false] at hr
        rcases hr with rfl | rfl | rfl | rfl | rfl <;> simp only [List.mem_append, List.mem_cons, List.not_mem_nil, or_false] at hc
        · rcases hc with h | h | h | h | h | h
          · omega
          · exact pA c h
          · omega
          · exact pB c h
          · omega
          · exact pC c h
        · rcases hc with h | h | h | h | h | h
          · exact pA c h
          · omega
          · omega
          · exact pB c h
          · omega
          · exact pC c h
        · rcases hc with h | h | h | h | h | h
          · exact pA c h
          · omega
          · omega
          · exact pB c h
          · omega
          · exact pC c h
        · rcases hc with (h | h | h | h | h) | h
          · exact pA c h
          · omega
          · exact pB c h
          · omega
          · exact pC c h
          · omega
    · exact dk _ l h
  | sign k l0 p c hg hp2 hc =>
    have h0 := hp _ (List.mem_of_getElem? hg)
    obtain ⟨_, _, _, c0, _⟩ := signs_free c hc
    intro l h
    rcases List.mem_append.mp h with h | h
    · rcases List.mem_append.mp h with h | h
      · exact tk _ l h
      · rw [List.mem_singleton.mp h]
        intro y hy
        rcases List.mem_append.mp hy with z | z
        · rcases List.mem_append.mp z with z | z
          · exact h0 y (List.mem_of_mem_take z)
          · rw [List.mem_singleton.mp z]
            exact c0
        · exact h0 y (List.mem_of_mem_drop z)
    · exact dk _ l h
theorem shift_pos {ls : List (List Nat)} {T : List Nat} (h : Shift ls T) (hp : ∀ l ∈ ls, ∀ c ∈ l, 0 < c) : ∀ c ∈ T, 0 < c := by
  rcases h with ⟨ls', hM, rfl⟩ | ⟨k, rfl⟩
  · exact flat_pos (mod_pos hM hp)
  · exact fun c hc => flat_pos hp c (List.mem_of_mem_take hc)
/-! ### entries that are none, behind the others -/
def wrongB (d : D) : Bool := decide (d.deep < 20) && (fitB d && (decide (d.show.length ≤ 200) && (charsB d.show && (allB nearB d && (match d with | .tup (.str w :: d1 :: r) => !laterW w d1 r | _ => true)))))
theorem wrong_all : wrongDs.all wrongB = true := by decide +kernel
theorem wrong_fine {d : D} (h : d ∈ wrongDs) : FineD 20 d ∧ (∀ n, n ≠ 0 → entryB n d.show = none ∧ SafeE n d.show) ∧ 10 ∉ d.show := by
  have h0 := List.all_eq_true.mp wrong_all d h
  unfold wrongB at h0
  simp only [Bool.and_eq_true] at h0
  obtain ⟨h1, h2, h3, h4, h5, h6⟩ := h0
  have ch := charsB_of h4
  have hd : d.deep < 20 := of_decide_eq_true h1
  have hN : AllS nearS d := all_of (fun z h => by
    unfold nearB at h
    rw [Bool.and_eq_true, decide_eq_true_eq, decide_eq_true_eq] at h
    exact h) h5
  have hrd : readL d.show = .ok d := read_show (by omega) (fit_of h2)
  refine ⟨⟨hd, Nat.le_trans (of_decide_eq_true h3) (by decide), fit_of h2, fun c hc => (ch c hc).1⟩, fun n hn => ⟨?_, fun w d1 r e => ?_⟩, fun z => (ch 10 z).2.2.1 rfl⟩
  · by_cases hx : ∃ w d1 r, d = .tup (.str w :: d1 :: r)
    · obtain ⟨w, d1, r, rfl⟩ := hx
      have h6' : (!laterW w d1 r) = true := h6
      rw [entryB_tup hrd, if_neg hn, if_neg]
      intro z
      rw [z] at h6'
      cases h6'
    · exact entryB_none hrd fun w d1 r e => hx ⟨w, d1, r, e⟩
  · rw [hrd] at e
    cases e
    rw [if_neg hn]
    exact hN
theorem wrong_due {ds : List D} {w : D} (hg : Gds 0 ds) (hne : ds ≠ []) (hw : w ∈ wrongDs) :
    SafeJ 0 0 (rowsL (flat (linesF 0 0 (ds ++ [w])))) ∧ D.tup [.tup (readJ 0 0 (rowsL (flat (linesF 0 0 (ds ++ [w]))))).1, .int (((readJ 0 0 (rowsL (flat (linesF 0 0 (ds ++ [w]))))).2 : Nat) : Int)] = dueD ds (linesF 0 0 ds) (flat (linesF 0 0 ds)) := by
  obtain ⟨_, h2, h3⟩ := wrong_fine hw
  have hn : ds.length ≠ 0 := fun e => hne (List.length_eq_zero_iff.mp e)
  obtain ⟨e1, e2⟩ := h2 _ hn
  have hl10 : 10 ∉ lineL ds.length (sumB ds.length (endB 0 0 ds) w.show) w.show := by
    intro z
    unfold lineL at z
    rcases List.mem_append.mp z with z | z
    · exact no10 _ z
    · rcases List.mem_cons.mp z with z | z
      · exact absurd z (by decide)
      · rcases List.mem_append.mp z with z | z
        · exact no10 _ z
        · rcases List.mem_cons.mp z with z | z
          · exact absurd z (by decide)
          · exact h3 z
  have eT : flat (linesF 0 0 (ds ++ [w])) = flat (linesF 0 0 ds) ++ (lineL ds.length (sumB ds.length (endB 0 0 ds) w.show) w.show ++ 10 :: []) := by
    rw [linesF_app, flat_app2, Nat.zero_add]
    show _ ++ flat [_] = _
    rw [flat_cons]
    rfl
  have hb : Bad ds.length (endB 0 0 ds) (lineL ds.length (sumB ds.length (endB 0 0 ds) w.show) w.show) := bad_words (cutAt_app _ (no32 _)) (cutAt_app _ (no32 _)) e2 (.inl e1)
  obtain ⟨r1, r2⟩ := read_main ds 0 0 _ hg (.inr ⟨_, [], rfl, hl10, by rw [Nat.zero_add]; exact hb⟩)
  rw [eT]
  refine ⟨r2, ?_⟩
  have d1 := due_app (linesF 0 0 ds) [] []
  rw [List.append_nil, List.append_nil] at d1
  unfold dueD
  rw [r1, d1, linesF_len]
  simp [dueK]
theorem headless_due {d e : D} (hd : EntryIs 1 d) : SafeJ 0 0 (rowsL (flat (linesF 0 0 [d, e]))) ∧ readJ 0 0 (rowsL (flat (linesF 0 0 [d, e]))) = ([], 0) := by
  have hl := entry_later hd (by omega) (by omega)
  have g := later_gd hl (n := 1) (by decide)
  obtain ⟨e1, e2⟩ := later_not_first hl
  have h10 : 10 ∉ lineL 0 (sumB 0 0 d.show) d.show := by
    intro z
    unfold lineL at z
    rcases List.mem_append.mp z with z | z
    · exact no10 _ z
    · rcases List.mem_cons.mp z with z | z
      · exact absurd z (by decide)
      · rcases List.mem_append.mp z with z | z
        · exact no10 _ z
        · rcases List.mem_cons.mp z with z | z
          · exact absurd z (by decide)
          · exact (g.chars 10 z).2.2 rfl
  have hb : Bad 0 0 (lineL 0 (sumB 0 0 d.show) d.show) := bad_words (cutAt_app _ (no32 _)) (cutAt_app _ (no32 _)) e2 (.inl e1)
  have eT : flat (linesF 0 0 [d, e]) = flat (linesF 0 0 []) ++ (lineL 0 (sumB 0 0 d.show) d.show ++ 10 :: flat (linesF 1 (sumB 0 0 d.show) [e])) := by
    show flat (_ :: _) = _
    rw [flat_cons]
    rfl
  obtain ⟨r1, r2⟩ := read_main [] 0 0 _ trivial (.inr ⟨_, _, rfl, h10, hb⟩)
  rw [eT]
  exact ⟨r2, r1⟩
end Tst
namespace Tst
open PySem PySem.Spec PyProof.Rows L2 TL
section
variable {P : Program} {w : World} {K : PySem.W.Frag} {mg : Str → Option Value} {base : Heap} {f : Addr} {fd : FuncData}
/-! ### the law -/
/-- the entries of a turn -/
structure Ent3 (H : Hp) (b p e : Addr) (us : List V) (ds : List D) : Prop where
  at_ : H e = some (.lst us)
  rep : Rps H ds us
  ents : Ents 0 ds
  pos : 1 ≤ ds.length
  few : ds.length ≤ 7
  box : Box H b p
  ne : e ≠ b
theorem Ent3.same {H H' : Hp} {b p e : Addr} {us : List V} {ds : List D} (x : Ent3 H b p e us ds) (s : Same H H') : Ent3 H' b p e us ds :=
  ⟨s _ _ x.at_, x.rep.mono (Same.tup s), x.ents, x.pos, x.few, x.box.same s, x.ne⟩
theorem Ent3.kept {H H' : Hp} {b p e : Addr} {us : List V} {ds : List D} (x : Ent3 H b p e us ds) (k : Kept b H H') (hb : Box H' b p) : Ent3 H' b p e us ds :=
  ⟨k _ _ x.ne x.at_, x.rep.mono (Kept.tup x.box k), x.ents, x.pos, x.few, hb, x.ne⟩
theorem Ent3.gds {H : Hp} {b p e : Addr} {us : List V} {ds : List D} (x : Ent3 H b p e us ds) : Gds 0 ds := ents_gds x.ents (by have := x.few; omega)
theorem Ent3.fine {H : Hp} {b p e : Addr} {us : List V} {ds : List D} (x : Ent3 H b p e us ds) : ∀ d ∈ ds, FineD 20 d := fun d hd => by
  obtain ⟨k, hk, h⟩ := ents_all x.ents (by have := x.few; omega) d hd
  exact ent_fine h hk
theorem endB_snoc : ∀ (xs : List D) (n b : Nat) (d : D), endB n b (xs ++ [d]) = sumB (n + xs.length) (endB n b xs) d.show
  | [], n, b, d => rfl
  | x :: xs, n, b, d => by
    show endB (n + 1) (sumB n b x.show) (xs ++ [d]) = _
    rw [endB_snoc xs (n + 1) (sumB n b x.show) d, List.length_cons, show n + 1 + xs.length = n + (xs.length + 1) by omega]
    rfl
/-- the comprehension [line + "\n" for line in ..] -/
theorem lc_feed {M D0 : Addr} {ls : List (List Nat)} {σ0 : L2.St} {k : Nat} {H0 : Hp} {Qe : Hp → Prop} (hM : H0 M = some (.lst (ls.map sv))) (hl : ls.length ≤ 100) (hll : ∀ l ∈ ls, l.length ≤ 3000) (hD : H0 D0 = none)
    (hi : ∀ v, ((wipe σ0 [k]).set k (some v))[k]? = some (some v)) (hw : ∀ v, wipe ((wipe σ0 [k]).set k (some v)) [k] = wipe σ0 [k]) (q : ∀ H', H' D0 = some (.lst (ls.map fun l => sv (l ++ [10]))) → Same H0 H' → Qe H') :
    ∃ W : Nat → Nat → Hp → Prop, (∃ m0, W 0 m0 (upd H0 D0 (.lst []))) ∧ ∀ i m0 H1, W i m0 H1 →
      ((Itl K M).stop i H1 ∧ Qe H1) ∨ ((Itl K M).go i H1 ∧ ∃ Nx : Hp → Prop, (∀ H2, Nx H2 → ∃ m', m' < m0 ∧ W (i + 1) m' H2) ∧ ∀ x0 H2, (Itl K M).yld i H1 x0 H2 → gName k x0 (wipe σ0 [k]) H2 fun σ2 H3 => wipe σ2 [k] = wipe σ0 [k] ∧ tYes σ2 H3 fun b0 H4 =>
        if b0 = true then tOp (fun x y H Q => ∃ i j, x = V.str i ∧ y = V.str j ∧ i.length + j.length ≤ sizeLine ∧ Q (V.str (i ++ j)) H) (tVar k) (tC (V.str (Str.ofString "\n"))) σ2 H4 fun y0 H5 => ∃ acc, H5 D0 = some (.lst acc) ∧ acc.length < sizeLine ∧ Nx (upd H5 D0 (.lst (acc ++ [y0]))) else Nx H4) := by
  refine lc_list (K := K) (a := M) (xs := ls.map sv) (fun i H' => H' D0 = some (.lst ((ls.take i).map fun l => sv (l ++ [10]))) ∧ Kept D0 H0 H') ⟨by rw [upd_same]; rfl, Kept.upd⟩ (fun i H' _ p => SqL.of (p.2 _ _ (ne_of_none hM hD) hM)) ?_ ?_
  · rintro i x H' hx ⟨u1, u2⟩
    rw [List.getElem?_map] at hx
    obtain ⟨y, hy, rfl⟩ := Option.map_eq_some_iff.mp hx
    have hyl := hll y (List.mem_of_getElem? hy)
    refine ⟨hw _, _, hi _, strOf y, _, rfl, rfl, small16 (by rw [len_strOf, show (Str.ofString "\n").length = 1 by decide +kernel]; omega), _, u1, small_of (by rw [List.length_map, List.length_take]; omega), ?_, u2.trans Kept.upd⟩
    rw [upd_same, List.take_add_one, hy, List.map_append, e10, show (⟨#[10]⟩ : Str) = strOf [10] from rfl, strOf_cat]
    rfl
  · rintro H' ⟨u1, u2⟩
    rw [List.length_map, List.take_length] at u1
    exact q H' u1 fun c o e => u2 c o (ne_of_none e hD) e
theorem flat_fit {ls : List (List Nat)} (hl : ls.length ≤ 10) (hll : ∀ l ∈ ls, l.length ≤ 2000) : (flat ls).length ≤ 30000 := by
  have h1 := flat_len (B := 2000) hll
  have h2 := Nat.mul_le_mul_right 2001 hl
  omega
theorem join_fit {ls : List (List Nat)} (hl : ls.length ≤ 10) (hll : ∀ l ∈ ls, l.length ≤ 2000) : ((ls.map fun l => strOf (l ++ [10])).map (·.length)).sum + (ls.map fun l => strOf (l ++ [10])).length * (Str.ofString "").length ≤ 16777216 := by
  have h1 := flat_fit hl hll
  rw [flat_sum, show (Str.ofString "").length = 0 by decide +kernel]
  omega
theorem due_lim {ds : List D} (h : ∀ d ∈ ds, Shape d) (hl : ds.length ≤ 10) (ls : List (List Nat)) (T : List Nat) : Lim 100001 22 (dueD ds ls T) ∧ AllS shortS (dueD ds ls T) := by
  have hm : ∀ k, ∀ d ∈ ds.take k, Shape d := fun k d hd => h d (List.mem_of_mem_take hd)
  refine ⟨.tup _ _ (by show 2 ≤ 100001; decide) fun x hx => ?_, .tup _ fun x hx => ?_⟩
  · rcases List.mem_cons.mp hx with rfl | hx
    · exact .tup _ _ (by rw [List.length_take]; omega) fun d hd => (hm _ d hd).lim
    · rw [List.mem_singleton.mp hx]
      exact .int _ _
  · rcases List.mem_cons.mp hx with rfl | hx
    · exact .tup _ fun d hd => (hm _ d hd).short
    · rw [List.mem_singleton.mp hx]
      exact .int _
theorem Ent3.shape {H : Hp} {b p e : Addr} {us : List V} {ds : List D} (x : Ent3 H b p e us ds) : ∀ d ∈ ds, Shape d := fun d hd => by
  obtain ⟨k, hk, h⟩ := ents_all x.ents (by have := x.few; omega) d hd
  exact entry_shape h hk
/-- the lines of a turn -/
structure Lin3 (H : Hp) (b L : Addr) (ds : List D) : Prop where
  at_ : H L = some (.lst ((linesF 0 0 ds).map sv))
  ne : L ≠ b
theorem Lin3.same {H H' : Hp} {b L : Addr} {ds : List D} (x : Lin3 H b L ds) (s : Same H H') : Lin3 H' b L ds := ⟨s _ _ x.at_, x.ne⟩
theorem Lin3.kept {H H' : Hp} {b L : Addr} {ds : List D} (x : Lin3 H b L ds) (k : Kept b H H') : Lin3 H' b L ds := ⟨k _ _ x.ne x.at_, x.ne⟩
theorem second_part {A B C : List Nat} (hA : 32 ∉ A) (hB : 32 ∉ B) : ∃ r, Txt.split (strOf (A ++ 32 :: (B ++ 32 :: C))) (Str.ofString " ") = strOf A :: strOf B :: r := by
  have e := SX.split_S (a := A ++ 32 :: (B ++ 32 :: C)) (b := [32]) (by simp) (by decide)
  have e1 := TL.spl_part1 (s := 32) (S := []) (p := A) (rest := B ++ 32 :: C) (acc := []) hA
  have e2 := TL.spl_part1 (s := 32) (S := []) (p := B) (rest := C) (acc := []) hB
  rw [List.nil_append] at e1 e2
  have e3 : TL.spl [32] 0 [] (A ++ 32 :: (B ++ 32 :: C)) = A :: B :: TL.spl [32] 0 [] C := by
    have h1 : TL.spl [32] 0 [] (A ++ 32 :: (B ++ 32 :: C)) = A :: TL.spl [32] 0 [] (B ++ 32 :: C) := e1
    have h2 : TL.spl [32] 0 [] (B ++ 32 :: C) = B :: TL.spl [32] 0 [] C := e2
    rw [h1, h2]
  rw [e3] at e
  refine ⟨(TL.spl [32] 0 [] C).map SX.S, ?_⟩
  rw [e_blank]
  exact e
theorem num_text {n : Nat} (h : n < 100000) : intText? (strOf (numL n)) = some (n : Int) := by
  have l1 : (numL n).length ≤ 5 := numL_len (by decide) (by omega)
  rw [← num_nat]
  exact int_num (by omega)
def spLaw (K : PySem.W.Frag) : Sp := fun vs H Q _ => ∃ (a : Addr) (ns : List Int), vs = [.ref a] ∧ SqL K H a (ns.map V.int) ∧ ∀ H', Q (.bl true) H'
theorem ok_law (F : Fun K "law" "law" s_law f fd) (T : Txt0 mg) (c__law_digits : Cal P w K mg base CX0 2 "_law_digits" ["script", "first", "last"] (spDigits K)) (c__law_draw : Cal P w K mg base CX0 1 "_law_draw" ["box", "many"] spDraw)
    (c__law_entry : Cal P w K mg base CX0 3 "_law_entry" ["box", "at"] spEnt) (c__law_wrong : Cal P w K mg base CX0 3 "_law_wrong" ["box"] spWrong) (c__law_lines : Cal P w K mg base CX0 22 "_law_lines" ["entries"] (spLines 20))
    (c_journal_line : Cal P w K mg base CX0 22 "journal_line" ["n", "before", "entry"] (spLine 20)) (c__law_like : Cal P w K mg base CX0 23 "_law_like" ["told", "due"] (spLike 22)) (c__law_shifted : Cal P w K mg base CX0 3 "_law_shifted" ["box", "lines"] spShift)
    (c_read_journal : Cal P w K mg base CX0 87 "read_journal" ["text"] spJournal) (c__law_due : Cal P w K mg base CX0 1 "_law_due" ["entries", "lines", "text"] spDue) : FnOk P w K mg base CX0 88 f fd ["script"] (spLaw K) := by
  refine F.ok sc_law (fun vs H Q E h => ?_) (fun cdv A outer s H vs Q E hr h => ?_)
  · obtain ⟨a, ns, rfl, _⟩ := h
    rfl
  obtain ⟨a, ns, rfl, hS, fin⟩ := h
  refine ⟨_, pss_cons (ps_set (i := 1) sc_law.nd rfl (Or.inr rfl) (pe_lst (pa_cons (pe_cal c__law_digits (hr.mono (by omega)) rfl pass0 (pa_cons (pv 0) (pa_cons (pe_int) (pa_cons (pe_int) pa_nil)))) (pa_cons (pe_int) pa_nil))))
    (pss_cons (ps_for PassesOwn.never rfl (pi_range1 rfl (by exact T.n_range) (pa_cons (pe_int) pa_nil)) (pg_name (i := 2) sc_law.nd rfl (Or.inl rfl)) (C8.pss_cut (ps_setLc (i := 3) (own := [("at", 10)]) (g := gName 10) rfl sc_law.nd rfl rfl (sw_true rfl rfl rfl (by decide +kernel)) (pi_range1 rfl (by exact T.n_range) (pa_cons (pe_op op_add (pe_int) (pe_cal c__law_draw (hr.mono (by omega)) rfl pass0 (pa_cons (pv 1) (pa_cons (pe_int) pa_nil)))) pa_nil)) (blkOk_by (own := [("at", 10)]) (N := ["script", "box", "turn", "entries", "lines", "before", "n", "text", "wrong", "headless", "at", "line"]) (sc := defScope s_law) (by decide +kernel)) (fun _ _ _ _ _ => pg_name (i := 10) sc_law.nd rfl (Or.inl rfl)) (fun _ _ _ _ _ => pts_nil) (fun _ _ _ _ _ => pe_cal c__law_entry (hr.mono (by omega)) rfl pass0 (pa_cons (pv 1) (pa_cons (pv 10) pa_nil))))
    (C8.pss_cut (ps_set (i := 4) sc_law.nd rfl (Or.inl rfl) (pe_cal c__law_lines (hr.mono (by omega)) rfl pass0 (pa_cons (pv 3) pa_nil)))
    (pss_cons (ps_set (i := 5) sc_law.nd rfl (Or.inl rfl) (pe_int))
    (C8.pss_cut (ps_for PassesOwn.never rfl (pi_range1 rfl (by exact T.n_range) (pa_cons (pe_callB call_len_seq rfl (by exact T.n_len) PySem.boot_len (pa_cons (pv 3) pa_nil)) pa_nil)) (pg_name (i := 6) sc_law.nd rfl (Or.inl rfl)) (pss_cons (ps_if (pt_not (pt_val (pe_cal c__law_like (hr.mono (by omega)) rfl pass0 (pa_cons (pe_cal c_journal_line (hr.mono (by omega)) rfl pass0 (pa_cons (pv 6) (pa_cons (pv 5) (pa_cons (pe_ix ix_list (pv 3) (pv 6) (fun _ _ => rfl)) pa_nil)))) (pa_cons (pe_op op_add_str (pe_ix ix_list (pv 4) (pv 6) (fun _ _ => rfl)) (pe_str)) pa_nil))))) (pss_one (ps_ret (pe_bl))) (pss_nil))
    (pss_one (ps_set (i := 5) sc_law.nd rfl (Or.inl rfl) (pe_callTy call_int_str rfl (by exact T.n_int) (by decide +kernel) (pa_cons (pe_ix ix_list (pe_split (pe_ix ix_list (pv 4) (pv 6) (fun _ _ => rfl)) (pe_str)) (pe_int) (fun _ _ => rfl)) pa_nil))))))
    (C8.pss_cut (ps_set (i := 7) sc_law.nd rfl (Or.inl rfl) (pe_cal c__law_shifted (hr.mono (by omega)) rfl pass0 (pa_cons (pv 1) (pa_cons (pv 4) pa_nil))))
    (pss_cons (ps_if (pt_not (pt_val (pe_cal c__law_like (hr.mono (by omega)) rfl pass0 (pa_cons (pe_cal c_read_journal (hr.mono (by omega)) rfl pass0 (pa_cons (pv 7) pa_nil)) (pa_cons (pe_cal c__law_due (hr.mono (by omega)) rfl pass0 (pa_cons (pv 3) (pa_cons (pv 4) (pa_cons (pv 7) pa_nil)))) pa_nil))))) (pss_one (ps_ret (pe_bl))) (pss_nil))
    (C8.pss_cut (ps_set (i := 8) sc_law.nd rfl (Or.inl rfl) (pe_op op_cat (pv 3) (pe_lst (pa_cons (pe_cal c__law_wrong (hr.mono (by omega)) rfl pass0 (pa_cons (pv 1) pa_nil)) pa_nil))))
    (pss_cons (ps_set (i := 7) sc_law.nd rfl (Or.inl rfl) (pe_join (pe_str) (pe_lc (own := [("line", 11)]) (g := gName 11) rfl sc_law.nd (pi_list (pe_cal c__law_lines (hr.mono (by omega)) rfl pass0 (pa_cons (pv 8) pa_nil))) (blkOk_by (own := [("line", 11)]) (N := ["script", "box", "turn", "entries", "lines", "before", "n", "text", "wrong", "headless", "at", "line"]) (sc := defScope s_law) (by decide +kernel)) (fun _ _ _ _ _ => pg_name (i := 11) sc_law.nd rfl (Or.inl rfl)) (fun _ _ _ _ _ => pts_nil) (fun _ _ _ _ _ => pe_op op_add_str (pv 11) (pe_str)))))
    (pss_one (ps_if (pt_not (pt_val (pe_cal c__law_like (hr.mono (by omega)) rfl pass0 (pa_cons (pe_cal c_read_journal (hr.mono (by omega)) rfl pass0 (pa_cons (pv 7) pa_nil)) (pa_cons (pe_cal c__law_due (hr.mono (by omega)) rfl pass0 (pa_cons (pv 3) (pa_cons (pv 4) (pa_cons (pe_join (pe_str) (pe_lc (own := [("line", 11)]) (g := gName 11) rfl sc_law.nd (pi_list (pv 4)) (blkOk_by (own := [("line", 11)]) (N := ["script", "box", "turn", "entries", "lines", "before", "n", "text", "wrong", "headless", "at", "line"]) (sc := defScope s_law) (by decide +kernel)) (fun _ _ _ _ _ => pg_name (i := 11) sc_law.nd rfl (Or.inl rfl)) (fun _ _ _ _ _ => pts_nil) (fun _ _ _ _ _ => pe_op op_add_str (pv 11) (pe_str)))) pa_nil)))) pa_nil))))) (pss_one (ps_ret (pe_bl))) (pss_nil))))))))))))
    (pss_cons (ps_set (i := 9) sc_law.nd rfl (Or.inl rfl) (pe_op op_cat (pe_lst (pa_cons (pe_cal c__law_entry (hr.mono (by omega)) rfl pass0 (pa_cons (pv 1) (pa_cons (pe_int) pa_nil))) pa_nil)) (pe_lst (pa_cons (pe_cal c__law_entry (hr.mono (by omega)) rfl pass0 (pa_cons (pv 1) (pa_cons (pe_int) pa_nil))) pa_nil))))
    (pss_one (ps_ret (pe_cal c__law_like (hr.mono (by omega)) rfl pass0 (pa_cons (pe_cal c_read_journal (hr.mono (by omega)) rfl pass0 (pa_cons (pe_join (pe_str) (pe_lc (own := [("line", 11)]) (g := gName 11) rfl sc_law.nd (pi_list (pe_cal c__law_lines (hr.mono (by omega)) rfl pass0 (pa_cons (pv 9) pa_nil))) (blkOk_by (own := [("line", 11)]) (N := ["script", "box", "turn", "entries", "lines", "before", "n", "text", "wrong", "headless", "at", "line"]) (sc := defScope s_law) (by decide +kernel)) (fun _ _ _ _ _ => pg_name (i := 11) sc_law.nd rfl (Or.inl rfl)) (fun _ _ _ _ _ => pts_nil) (fun _ _ _ _ _ => pe_op op_add_str (pv 11) (pe_str)))) pa_nil)) (pa_cons (pe_tup (pa_cons (pe_tup (pa_nil)) (pa_cons (pe_int) pa_nil))) pa_nil))))))), ?_⟩
  refine ⟨_, rfl, a, ns, 0, 63, rfl, hS, ⟨by omega, by omega, by omega, by omega⟩, fun p H1 ds s1 hp hd => ⟨(by show 2 ≤ sizeLine; decide), fun b hb => ?_⟩⟩
  have hpb : p ≠ b := fun e => by rw [e, hb] at hd; cases hd
  have bx : Box (upd H1 b (.lst [.ref p, .int 0])) b p := ⟨ds, 0, upd_same, by rw [upd_ne hpb]; exact hd, hpb⟩
  refine ⟨3, rfl, by decide, by decide, for_range (lo := 0) (n := (3 : Int).toNat) (fun i σ H' => ∃ x2 x3 x4 x5 x6 x7 x8 x9 x10 x11 : Option V, σ = [some (.ref a), some (.ref b), x2, x3, x4, x5, x6, x7, x8, x9, x10, x11] ∧ Box H' b p) ⟨_, _, _, _, _, _, _, _, _, _, rfl, bx⟩ ?_ ?_⟩
  · rintro i σ H2 hi ⟨x2, x3, x4, x5, x6, x7, x8, x9, x10, x11, rfl, hb2⟩
    -- entries
    refine ⟨fun σ' H' => ∃ (e : Addr) (us : List V) (ds : List D), σ' = [some (.ref a), some (.ref b), some (.int (0 + (i : Int))), some (.ref e), x4, x5, x6, x7, x8, x9, x10, x11] ∧ Ent3 H' b p e us ds, ?_, ?_⟩
    · refine ⟨_, rfl, b, p, 7, rfl, by decide, hb2, fun m H3 m0 m1 hb3 k3 => ⟨_, _, rfl, rfl, _, rfl, (by omega), (by omega), fun D hD => lc_range (lo := 0) (n := (1 + m).toNat) (fun j H' => ∃ us ds, H' D = some (.lst us) ∧ Rps H' ds us ∧ Ents 0 ds ∧ ds.length = j ∧ Box H' b p) ?_ ?_ ?_⟩⟩
      · exact ⟨[], [], upd_same, Rps.nil, trivial, rfl, hb3.same (same_new hD _)⟩
      · rintro j H' hj ⟨us, ds, u1, u2, u3, u4, u5⟩
        have e0 : (0 : Int) + (j : Int) = (j : Int) := by omega
        rw [e0]
        obtain ⟨n1, n2⟩ := Box.ne hb3 hD
        refine ⟨rfl, _, rfl, _, rfl, b, p, j, rfl, by omega, u5, fun v d H4 r4 en hb4 k4 => ?_⟩
        have hk : Tup H4 (upd H4 D (.lst (us ++ [v]))) := fun c xs e => by
          rw [upd_ne (fun x => by rw [x, k4 _ _ n1 u1] at e; cases e)]
          exact e
        refine ⟨us, k4 _ _ n1 u1, small_of (by rw [u2.length, u4]; omega), us ++ [v], ds ++ [d], upd_same, Rps.append (r4.mono hk) ((u2.mono (Kept.tup u5 k4)).mono hk), ents_app u3 (by rw [Nat.zero_add, u4]; exact en), by rw [List.length_append, u4]; rfl, hb4.other n1 n2⟩
      · rintro H' ⟨us, ds, u1, u2, u3, u4, u5⟩
        exact ⟨D, us, ds, rfl, u1, u2, u3, by omega, by omega, u5, (Box.ne hb3 hD).1⟩
    rintro σ' H3 ⟨e, us, ds, rfl, E3⟩
    -- lines
    refine ⟨fun σ' H' => ∃ (L : Addr), σ' = [some (.ref a), some (.ref b), some (.int (0 + (i : Int))), some (.ref e), some (.ref L), x5, x6, x7, x8, x9, x10, x11] ∧ Ent3 H' b p e us ds ∧ Lin3 H' b L ds, ?_, ?_⟩
    · refine ⟨_, rfl, e, us, ds, rfl, ⟨E3.at_, E3.rep, by have := E3.few; omega, E3.fine⟩, fun M H4 s4 hM hM4 => ?_⟩
      exact ⟨M, rfl, E3.same s4, hM4, (Box.ne E3.box hM).1⟩
    rintro σ' H4 ⟨L, rfl, E4, L4⟩
    -- each line
    refine ⟨fun σ' H' => ∃ y5 y6, σ' = [some (.ref a), some (.ref b), some (.int (0 + (i : Int))), some (.ref e), some (.ref L), y5, y6, x7, x8, x9, x10, x11] ∧ Ent3 H' b p e us ds ∧ Lin3 H' b L ds, ?_, ?_⟩
    · have hus := E4.rep.length
      have hfew := E4.few
      refine ⟨_, rfl, e, us, rfl, .inl (SqL.of E4.at_), _, rfl, by omega, by omega, for_range (lo := 0) (n := ((us.length : Nat) : Int).toNat) (fun j σ' H' => ∃ y6, σ' = [some (.ref a), some (.ref b), some (.int (0 + (i : Int))), some (.ref e), some (.ref L), some (.int ((endB 0 0 (ds.take j) : Nat) : Int)), y6, x7, x8, x9, x10, x11] ∧ Ent3 H' b p e us ds ∧ Lin3 H' b L ds) ⟨_, rfl, E4, L4⟩ ?_ ?_⟩
      · rintro j σ' H5 hj ⟨y6, rfl, E5, L5⟩
        have e0 : (0 : Int) + (j : Int) = (j : Int) := by omega
        rw [e0]
        have hj1 : j < us.length := by omega
        have hj2 : j < ds.length := by omega
        obtain ⟨d, g1, r1⟩ := E5.rep.get (List.getElem?_eq_getElem hj1)
        obtain ⟨xs, d', ys, f1, f2, f3, f4, f5, f6⟩ := at_line hj2
        have ed : d' = d := by
          rw [f1, List.getElem?_append_right (by omega), f2, Nat.sub_self] at g1
          exact Option.some.inj g1
        subst ed
        have hd : d' ∈ ds := List.mem_of_getElem? g1
        have hf := E5.fine d' hd
        have hfl := hf.len
        have tk : ds.take j = xs := by rw [f1]; exact List.take_left' f2
        have tk1 : ds.take (j + 1) = xs ++ [d'] := by rw [List.take_add_one, tk, g1]; rfl
        have hgm : ((linesF 0 0 ds).map sv)[j]? = some (sv (lineL j (sumB j (endB 0 0 xs) d'.show) d'.show)) := by rw [List.getElem?_map, f4]; rfl
        have hlo := lines_ok ds 0 0 (by omega) E5.fine _ (List.mem_of_getElem? f4)
        have hll := hlo.len
        have lz : (strOf (lineL j (sumB j (endB 0 0 xs) d'.show) d'.show)).length ≤ 2000 := by rw [len_strOf]; exact hll
        rw [tk]
        refine ⟨_, rfl, _, rfl, _, rfl, _, rfl, e, _, _, _, rfl, rfl, SqL.of E5.at_, atI_nat (List.getElem?_eq_getElem hj1), j, endB 0 0 xs, d', _, rfl, ⟨by omega, hf.deep, by omega, hf.fit, hf.pos⟩, r1, fun H6 s6 => ?_⟩
        have L6 := L5.same s6
        refine ⟨_, rfl, _, rfl, L, _, _, _, rfl, rfl, SqL.of L6.at_, atI_nat hgm, _, _, rfl, rfl, small16 (by rw [show (Str.ofString "\n").length = 1 by decide +kernel]; omega), ?_⟩
        rw [e10, show (⟨#[10]⟩ : Str) = strOf [10] from rfl, strOf_cat]
        refine ⟨.str (strOf (lineL j (sumB j (endB 0 0 xs) d'.show) d'.show ++ [10])), _, _, rfl, ⟨.str _ _, .str _ ?_⟩, .s, .s, fun H7 s7 => ⟨_, rfl, iteN rfl ?_⟩⟩
        · show (strOf _).length ≤ 1000000
          rw [len_strOf, List.length_append]
          show _ + 1 ≤ _
          omega
        have L7 := L6.same s7
        obtain ⟨rest, hsp⟩ := second_part (A := numL j) (B := numL (sumB j (endB 0 0 xs) d'.show)) (C := d'.show) (no32 _) (no32 _)
        have hsp' : Txt.split (strOf (lineL j (sumB j (endB 0 0 xs) d'.show) d'.show)) (Str.ofString " ") = strOf (numL j) :: strOf (numL (sumB j (endB 0 0 xs) d'.show)) :: rest := hsp
        refine ⟨_, rfl, _, rfl, L, _, _, _, rfl, rfl, SqL.of L7.at_, atI_nat hgm, ⟨_, rfl⟩, _, _, rfl, rfl, (by decide +kernel), small16 (by omega), fun W hW => ?_⟩
        rw [hsp']
        have hlt := sumB_lt j (endB 0 0 xs) d'.show
        have l5 : (numL (sumB j (endB 0 0 xs) d'.show)).length ≤ 5 := numL_len (by decide) (by omega)
        refine ⟨W, _, _, _, rfl, rfl, SqL.of upd_same, at1, strOf (numL (sumB j (endB 0 0 xs) d'.show)), _, rfl, num_text (by omega), by rw [len_strOf]; omega, ?_⟩
        refine ⟨some (.int ((j : Nat) : Int)), ?_, ((E5.same s6).same s7).same (same_new hW _), L7.same (same_new hW _)⟩
        rw [tk1, endB_snoc, Nat.zero_add, f2]
        rfl
      · rintro σ' H5 ⟨y6, rfl, E5, L5⟩
        exact ⟨_, _, rfl, E5, L5⟩
    rintro σ' H5 ⟨y5, y6, rfl, E5, L5⟩
    have hfew := E5.few
    have hfine := E5.fine
    have hgds := E5.gds
    have hlok := lines_ok ds 0 0 (by omega) hfine
    have hlpos := lines_pos ds 0 0 hfine
    have hllen : (linesF 0 0 ds).length = ds.length := linesF_len _ _ _
    have hnel : linesF 0 0 ds ≠ [] := fun z => by
      have := E5.pos
      rw [z] at hllen
      simp at hllen
      omega
    have hned : ds ≠ [] := fun z => hnel (by rw [z]; rfl)
    -- the text
    refine ⟨fun σ' H' => ∃ T1, σ' = [some (.ref a), some (.ref b), some (.int (0 + (i : Int))), some (.ref e), some (.ref L), y5, y6, some (sv T1), x8, x9, x10, x11] ∧ Shift (linesF 0 0 ds) T1 ∧ T1.length ≤ 30000 ∧ Ent3 H' b p e us ds ∧ Lin3 H' b L ds, ?_, ?_⟩
    · refine ⟨_, rfl, _, rfl, b, p, L, linesF 0 0 ds, rfl, ⟨L5.at_, L5.ne, hnel, by omega, hlok⟩, E5.box, fun T1 H6 hsh hT hb6 k6 => ?_⟩
      exact ⟨T1, rfl, hsh, hT, E5.kept k6 hb6, L5.kept k6⟩
    rintro σ' H6 ⟨T1, rfl, hsh, hT, E6, L6⟩
    obtain ⟨hs1, hs2⟩ := shift_due hgds hsh
    refine ⟨_, rfl, strOf T1, rfl, ⟨by rw [len_strOf]; omega, shift_pos hsh hlpos, hs1⟩, fun v1 H7 s7 r7 => ?_⟩
    rw [show tl (strOf T1) = T1 from rfl, hs2] at r7
    have E7 := E6.same s7
    have L7 := L6.same s7
    refine ⟨_, rfl, _, rfl, _, rfl, e, L, us, ds, linesF 0 0 ds, T1, rfl, ⟨E7.at_, E7.rep, L7.at_, hT, by omega, fun l hl => (hlok l hl).len⟩, fun v2 H8 s8 r8 => ?_⟩
    have E8 := E7.same s8
    have L8 := L7.same s8
    have hlim := due_lim E8.shape (by omega) (linesF 0 0 ds) T1
    refine ⟨_, _, _, rfl, hlim, r7.mono (Same.tup s8), r8, fun H9 s9 => ⟨_, rfl, iteN rfl ?_⟩⟩
    have E9 := E8.same s9
    have L9 := L8.same s9
    -- one more entry, a wrong one
    refine ⟨fun σ' H' => ∃ (W : Addr) (us' : List V) (dw : D), σ' = [some (.ref a), some (.ref b), some (.int (0 + (i : Int))), some (.ref e), some (.ref L), y5, y6, some (sv T1), some (.ref W), x9, x10, x11] ∧ H' W = some (.lst us') ∧ Rps H' (ds ++ [dw]) us' ∧ dw ∈ wrongDs ∧ Ent3 H' b p e us ds ∧ Lin3 H' b L ds, ?_, ?_⟩
    · refine ⟨_, rfl, _, rfl, b, p, rfl, E9.box, fun vw dw H10 rw_ hw hb10 k10 => ⟨one_, fun p1 h1 => ?_⟩⟩
      have E10 := E9.kept k10 hb10
      have L10 := L9.kept k10
      have s11 := same_new h1 (.lst [vw])
      have hlu := E10.rep.length
      refine ⟨e, p1, us, _, rfl, rfl, s11 _ _ E10.at_, upd_same, small16 (by rw [hlu]; show _ + 1 ≤ _; omega), fun p2 h2 => ?_⟩
      have s12 := s11.trans (same_new h2 (.lst (us ++ [vw])))
      exact ⟨p2, us ++ [vw], dw, rfl, upd_same, Rps.append (rw_.mono (Same.tup s12)) (E10.rep.mono (Same.tup s12)), hw, E10.same s12, L10.same s12⟩
    rintro σ' H10 ⟨W, us', dw, rfl, hW, hrw, hdw, E10, L10⟩
    have hfw : ∀ d ∈ ds ++ [dw], FineD 20 d := fun d hd => by
      rcases List.mem_append.mp hd with h | h
      · exact hfine d h
      · rw [List.mem_singleton.mp h]
        exact (wrong_fine hdw).1
    have hlw : (ds ++ [dw]).length ≤ 8 := by rw [List.length_append]; show _ + 1 ≤ _; omega
    have hokw := lines_ok (ds ++ [dw]) 0 0 (by omega) hfw
    have hlw2 : (linesF 0 0 (ds ++ [dw])).length ≤ 8 := by rw [linesF_len]; exact hlw
    obtain ⟨hw1, hw2⟩ := wrong_due hgds hned hdw
    refine ⟨⟨_, rfl⟩, _, rfl, W, us', ds ++ [dw], rfl, ⟨hW, hrw, by omega, hfw⟩, fun M H11 s11 hM hM11 => ⟨M, rfl, ⟨_, SqL.of hM11⟩, fun D1 hD1 => lc_feed (K := K) (k := 11) hM11 (by omega) (fun l hl => Nat.le_trans (hokw l hl).len (by decide)) hD1 (fun _ => rfl) (fun _ => rfl) fun H12 hD12 s12 => ?_⟩⟩
    have lw := fun l hl => (hokw l hl).len
    refine ⟨_, D1, (linesF 0 0 (ds ++ [dw])).map fun l => strOf (l ++ [10]), rfl, rfl, .inl (SqL.of (by rw [hD12, List.map_map]; rfl)), join_fit (by omega) lw, ?_⟩
    rw [flat_join]
    have s1012 := s11.trans s12
    have E12 := E10.same s1012
    have L12 := L10.same s1012
    have hfw2 := flat_fit (ls := linesF 0 0 (ds ++ [dw])) (by omega) lw
    refine ⟨_, rfl, strOf (flat (linesF 0 0 (ds ++ [dw]))), rfl, ⟨by rw [len_strOf]; omega, flat_pos (lines_pos _ 0 0 hfw), hw1⟩, fun v3 H13 s13 r13 => ?_⟩
    rw [show tl (strOf (flat (linesF 0 0 (ds ++ [dw])))) = flat (linesF 0 0 (ds ++ [dw])) from rfl, hw2] at r13
    have E13 := E12.same s13
    have L13 := L12.same s13
    have ll := fun l hl => (hlok l hl).len
    refine ⟨_, rfl, _, rfl, ⟨_, rfl⟩, _, rfl, L, rfl, ⟨_, SqL.of L13.at_⟩, fun D2 hD2 => lc_feed (K := K) (k := 11) L13.at_ (by omega) (fun l hl => Nat.le_trans (ll l hl) (by decide)) hD2 (fun _ => rfl) (fun _ => rfl) fun H14 hD14 s14 => ?_⟩
    refine ⟨_, D2, (linesF 0 0 ds).map fun l => strOf (l ++ [10]), rfl, rfl, .inl (SqL.of (by rw [hD14, List.map_map]; rfl)), join_fit (by omega) ll, ?_⟩
    rw [flat_join]
    have E14 := E13.same s14
    have L14 := L13.same s14
    refine ⟨e, L, us, ds, linesF 0 0 ds, flat (linesF 0 0 ds), rfl, ⟨E14.at_, E14.rep, L14.at_, flat_fit (by omega) ll, by omega, ll⟩, fun v4 H15 s15 r15 => ?_⟩
    have hlim2 := due_lim E14.shape (by omega) (linesF 0 0 ds) (flat (linesF 0 0 ds))
    refine ⟨_, _, _, rfl, hlim2, r13.mono (Same.tup (s14.trans s15)), r15, fun H16 s16 => ⟨_, rfl, iteN rfl ?_⟩⟩
    exact ⟨_, _, _, _, _, _, _, _, _, _, rfl, ((E14.same s15).same s16).box⟩
  · rintro σ' H2 ⟨x2, x3, x4, x5, x6, x7, x8, x9, x10, x11, rfl, hb2⟩
    refine ⟨_, rfl, b, p, 1, rfl, by decide, hb2, fun v1 d1 H3 r1 n1 hb3 k3 => ⟨one_, fun p1 h1 => ?_⟩⟩
    have hb4 := hb3.same (same_new h1 (.lst [v1]))
    refine ⟨_, rfl, b, p, 1, rfl, by decide, hb4, fun v2 d2 H4 r2 n2 hb5 k5 => ⟨one_, fun p2 h2 => ?_⟩⟩
    have np1 := (Box.ne hb3 h1).1
    have e1 := (same_new h2 (.lst [v2])) _ _ (k5 _ _ np1 (upd_same (H := H3) (a := p1) (o := .lst [v1])))
    have q1 := ((Rp.on (o := .lst [v1]) h1 r1).mono (Kept.tup hb4 k5)).mono (Same.tup (same_new h2 (.lst [v2])))
    have q2 := Rp.on (o := .lst [v2]) h2 r2
    refine ⟨p1, p2, _, _, rfl, rfl, e1, upd_same, two_, fun p3 h3 => ?_⟩
    have q3 : Rps (upd (upd H4 p2 (.lst [v2])) p3 (.lst [v1, v2])) [d1, d2] [v1, v2] := Rps.c (Rp.on h3 q1) (Rps.c (Rp.on h3 q2) Rps.nil)
    have hf2 : ∀ d ∈ [d1, d2], FineD 20 d := fun d hd => by
      rcases List.mem_cons.mp hd with rfl | hd
      · exact ent_fine n1 (by decide)
      · rw [List.mem_singleton.mp hd]
        exact ent_fine n2 (by decide)
    have hok2 := lines_ok [d1, d2] 0 0 (by show 0 + 2 ≤ 100; decide) hf2
    have hlen2 : (linesF 0 0 [d1, d2]).length = 2 := linesF_len _ _ _
    obtain ⟨hs1, hs2⟩ := headless_due (e := d2) n1
    refine ⟨⟨_, rfl⟩, _, rfl, p3, [v1, v2], [d1, d2], rfl, ⟨upd_same, q3, by show 2 ≤ 100; decide, hf2⟩, fun M H11 s11 hM hM11 => ⟨M, rfl, ⟨_, SqL.of hM11⟩, fun D1 hD1 => lc_feed (K := K) (k := 11) hM11 (by omega) (fun l hl => Nat.le_trans (hok2 l hl).len (by decide)) hD1 (fun _ => rfl) (fun _ => rfl) fun H12 hD12 s12 => ?_⟩⟩
    have lw := fun l hl => (hok2 l hl).len
    refine ⟨_, D1, (linesF 0 0 [d1, d2]).map fun l => strOf (l ++ [10]), rfl, rfl, .inl (SqL.of (by rw [hD12, List.map_map]; rfl)), join_fit (by omega) lw, ?_⟩
    rw [flat_join]
    have hfl := flat_fit (ls := linesF 0 0 [d1, d2]) (by omega) lw
    refine ⟨strOf (flat (linesF 0 0 [d1, d2])), rfl, ⟨by rw [len_strOf]; omega, flat_pos (lines_pos _ 0 0 hf2), hs1⟩, fun v3 H13 s13 r13 => ?_⟩
    rw [show tl (strOf (flat (linesF 0 0 [d1, d2]))) = flat (linesF 0 0 [d1, d2]) from rfl, hs2] at r13
    refine ⟨Nat.zero_le _, fun t1 ht1 => ⟨two_, fun t2 ht2 => ?_⟩⟩
    have q4 : Rp _ (.tup [.tup [], .int 0]) (.ref t2) := Rp.new ht2 (.c (Rp.new ht1 .nil) (.c .i .nil))
    refine ⟨.tup [.tup [], .int 0], _, _, rfl, ⟨.tup _ _ (by show 2 ≤ 100001; decide) fun x hx => ?_, .tup _ fun x hx => ?_⟩, r13.mono (Same.tup ((same_new ht1 _).trans (same_new ht2 _))), q4, fun H14 _ => fin _⟩
    · rcases List.mem_cons.mp hx with rfl | hx
      · exact .tup _ _ (by show 0 ≤ 100001; decide) fun d hd => by cases hd
      · rw [List.mem_singleton.mp hx]
        exact .int _ _
    · rcases List.mem_cons.mp hx with rfl | hx
      · exact .tup _ fun d hd => by cases hd
      · rw [List.mem_singleton.mp hx]
        exact .int _
end
end Tst

namespace Tst
open PySem PySem.Spec PyProof.Rows L2 TL PySem.W PySem.Calls PySem.HandSPX
abbrev s_is_typed_operator : Stmt := top 42
theorem sc_is_typed_operator : FnScope ["thing", "poly"] ["thing"] (defScope s_is_typed_operator) := ⟨rfl, rfl, rfl, by decide +kernel, rfl, by decide +kernel, by decide +kernel⟩
abbrev s_is_typed_poly : Stmt := top 27
theorem sc_is_typed_poly : FnScope ["thing", "one"] ["thing"] (defScope s_is_typed_poly) := ⟨rfl, rfl, rfl, by decide +kernel, rfl, by decide +kernel, by decide +kernel⟩
abbrev s_is_typed_sequence : Stmt := top 49
theorem sc_is_typed_sequence : FnScope ["thing", "one"] ["thing"] (defScope s_is_typed_sequence) := ⟨rfl, rfl, rfl, by decide +kernel, rfl, by decide +kernel, by decide +kernel⟩
/-- an error of the class at S is what «except S» names -/
theorem exm_own {K : PySem.W.Frag} {S : Addr} (h1 : PySem.W.subIn K (.ref S) (.type "BaseException") = some true) (h2 : PySem.W.isClsIn K S = true) (h3 : PySem.W.typeIn K (.ref S) = some (.type "type")) (h4 : PySem.W.subIn K (.ref S) (.ref S) = some true) :
    PySem.W.exmOne K (.ref S) (.ref S) = some true := by
  have h2' : (PySem.W.clsIn K S).isSome = true := h2
  have e2 : ((PySem.W.clsIn K S).isSome && PySem.W.typeIn K (.ref S) == some (.type "type")) = true := by rw [h2', h3] <;> rfl
  have e1 : (PySem.W.subIn K (.ref S) (.type "BaseException") == some true) = true := by rw [h1] <;> rfl
  unfold PySem.W.exmOne PySem.W.kitCls
  rw [if_pos e1]
  simp only
  rw [if_pos e2]
  exact h4
/-! ### the text's top -/
theorem all_mk {l : PySem.W.OpenLaw} {w : World} {K : PySem.W.Frag} {h : Heap} {mg : Str → Option Value} {fa : Addr} (X : K.In h) (G : h.Ns mainGlobals mg) (hfa : mg "law" = some (.ref fa)) {f0 : Addr} {od0 an0 : Option Addr} {sl0 : Array (Option Value)} {oc0 kV0 dc0 pm0 cd0 ct0 : Value} {f1 : Addr} {od1 an1 : Option Addr} {sl1 : Array (Option Value)} {oc1 kV1 dc1 pm1 cd1 ct1 : Value} {f2 : Addr} {od2 an2 : Option Addr} {sl2 : Array (Option Value)} {oc2 kV2 dc2 pm2 cd2 ct2 : Value} {f3 : Addr} {od3 an3 : Option Addr} {sl3 : Array (Option Value)} {oc3 kV3 dc3 pm3 cd3 ct3 : Value} {f4 : Addr} {od4 an4 : Option Addr} {sl4 : Array (Option Value)} {oc4 kV4 dc4 pm4 cd4 ct4 : Value} {f5 : Addr} {od5 an5 : Option Addr} {sl5 : Array (Option Value)} {oc5 kV5 dc5 pm5 cd5 ct5 : Value} {f6 : Addr} {od6 an6 : Option Addr} {sl6 : Array (Option Value)} {oc6 kV6 dc6 pm6 cd6 ct6 : Value} {f7 : Addr} {od7 an7 : Option Addr} {sl7 : Array (Option Value)} {oc7 kV7 dc7 pm7 cd7 ct7 : Value} {f8 : Addr} {od8 an8 : Option Addr} {sl8 : Array (Option Value)} {oc8 kV8 dc8 pm8 cd8 ct8 : Value} {f9 : Addr} {od9 an9 : Option Addr} {sl9 : Array (Option Value)} {oc9 kV9 dc9 pm9 cd9 ct9 : Value} {f10 : Addr} {od10 an10 : Option Addr} {sl10 : Array (Option Value)} {oc10 kV10 dc10 pm10 cd10 ct10 : Value} {f11 : Addr} {od11 an11 : Option Addr} {sl11 : Array (Option Value)} {oc11 kV11 dc11 pm11 cd11 ct11 : Value} {f12 : Addr} {od12 an12 : Option Addr} {sl12 : Array (Option Value)} {oc12 kV12 dc12 pm12 cd12 ct12 : Value} {f13 : Addr} {od13 an13 : Option Addr} {sl13 : Array (Option Value)} {oc13 kV13 dc13 pm13 cd13 ct13 : Value} {f14 : Addr} {od14 an14 : Option Addr} {sl14 : Array (Option Value)} {oc14 kV14 dc14 pm14 cd14 ct14 : Value} {f15 : Addr} {od15 an15 : Option Addr} {sl15 : Array (Option Value)} {oc15 kV15 dc15 pm15 cd15 ct15 : Value} {f16 : Addr} {od16 an16 : Option Addr} {sl16 : Array (Option Value)} {oc16 kV16 dc16 pm16 cd16 ct16 : Value} {f17 : Addr} {od17 an17 : Option Addr} {sl17 : Array (Option Value)} {oc17 kV17 dc17 pm17 cd17 ct17 : Value} {f18 : Addr} {od18 an18 : Option Addr} {sl18 : Array (Option Value)} {oc18 kV18 dc18 pm18 cd18 ct18 : Value} {f19 : Addr} {od19 an19 : Option Addr} {sl19 : Array (Option Value)} {oc19 kV19 dc19 pm19 cd19 ct19 : Value} {f20 : Addr} {od20 an20 : Option Addr} {sl20 : Array (Option Value)} {oc20 kV20 dc20 pm20 cd20 ct20 : Value} {f21 : Addr} {od21 an21 : Option Addr} {sl21 : Array (Option Value)} {oc21 kV21 dc21 pm21 cd21 ct21 : Value} {f22 : Addr} {od22 an22 : Option Addr} {sl22 : Array (Option Value)} {oc22 kV22 dc22 pm22 cd22 ct22 : Value} {f23 : Addr} {od23 an23 : Option Addr} {sl23 : Array (Option Value)} {oc23 kV23 dc23 pm23 cd23 ct23 : Value} {f24 : Addr} {od24 an24 : Option Addr} {sl24 : Array (Option Value)} {oc24 kV24 dc24 pm24 cd24 ct24 : Value} {f25 : Addr} {od25 an25 : Option Addr} {sl25 : Array (Option Value)} {oc25 kV25 dc25 pm25 cd25 ct25 : Value} {f26 : Addr} {od26 an26 : Option Addr} {sl26 : Array (Option Value)} {oc26 kV26 dc26 pm26 cd26 ct26 : Value} {f27 : Addr} {od27 an27 : Option Addr} {sl27 : Array (Option Value)} {oc27 kV27 dc27 pm27 cd27 ct27 : Value} {f28 : Addr} {od28 an28 : Option Addr} {sl28 : Array (Option Value)} {oc28 kV28 dc28 pm28 cd28 ct28 : Value} {f29 : Addr} {od29 an29 : Option Addr} {sl29 : Array (Option Value)} {oc29 kV29 dc29 pm29 cd29 ct29 : Value} {f30 : Addr} {od30 an30 : Option Addr} {sl30 : Array (Option Value)} {oc30 kV30 dc30 pm30 cd30 ct30 : Value} {f31 : Addr} {od31 an31 : Option Addr} {sl31 : Array (Option Value)} {oc31 kV31 dc31 pm31 cd31 ct31 : Value} {f32 : Addr} {od32 an32 : Option Addr} {sl32 : Array (Option Value)} {oc32 kV32 dc32 pm32 cd32 ct32 : Value} {f33 : Addr} {od33 an33 : Option Addr} {sl33 : Array (Option Value)} {oc33 kV33 dc33 pm33 cd33 ct33 : Value} {f34 : Addr} {od34 an34 : Option Addr} {sl34 : Array (Option Value)} {oc34 kV34 dc34 pm34 cd34 ct34 : Value} {f35 : Addr} {od35 an35 : Option Addr} {sl35 : Array (Option Value)} {oc35 kV35 dc35 pm35 cd35 ct35 : Value} {f36 : Addr} {od36 an36 : Option Addr} {sl36 : Array (Option Value)} {oc36 kV36 dc36 pm36 cd36 ct36 : Value} {f37 : Addr} {od37 an37 : Option Addr} {sl37 : Array (Option Value)} {oc37 kV37 dc37 pm37 cd37 ct37 : Value} {f38 : Addr} {od38 an38 : Option Addr} {sl38 : Array (Option Value)} {oc38 kV38 dc38 pm38 cd38 ct38 : Value} {f39 : Addr} {od39 an39 : Option Addr} {sl39 : Array (Option Value)} {oc39 kV39 dc39 pm39 cd39 ct39 : Value} {f40 : Addr} {od40 an40 : Option Addr} {sl40 : Array (Option Value)} {oc40 kV40 dc40 pm40 cd40 ct40 : Value} {f41 : Addr} {od41 an41 : Option Addr} {sl41 : Array (Option Value)} {oc41 kV41 dc41 pm41 cd41 ct41 : Value} {f42 : Addr} {od42 an42 : Option Addr} {sl42 : Array (Option Value)} {oc42 kV42 dc42 pm42 cd42 ct42 : Value} {f43 : Addr} {od43 an43 : Option Addr} {sl43 : Array (Option Value)} {oc43 kV43 dc43 pm43 cd43 ct43 : Value} {f44 : Addr} {od44 an44 : Option Addr} {sl44 : Array (Option Value)} {oc44 kV44 dc44 pm44 cd44 ct44 : Value} {f45 : Addr} {od45 an45 : Option Addr} {sl45 : Array (Option Value)} {oc45 kV45 dc45 pm45 cd45 ct45 : Value} {f46 : Addr} {od46 an46 : Option Addr} {sl46 : Array (Option Value)} {oc46 kV46 dc46 pm46 cd46 ct46 : Value} {f47 : Addr} {od47 an47 : Option Addr} {sl47 : Array (Option Value)} {oc47 kV47 dc47 pm47 cd47 ct47 : Value} {f48 : Addr} {od48 an48 : Option Addr} {sl48 : Array (Option Value)} {oc48 kV48 dc48 pm48 cd48 ct48 : Value} {tk0 : Tok} {tk1 : Tok} {tk2 : Tok} {tk3 : Tok} {tk4 : Tok} {tk5 : Tok} {tk6 : Tok} {tk7 : Tok} {tk8 : Tok} {tk9 : Tok} {tk10 : Tok} {tk11 : Tok} {ts0 : Tok} {ts1 : Tok} {ts2 : Tok}
    {C fI ccI cdaI aP aO aS : Addr} {nm q : Str} {N : Addr} {bs bm : List Value} {sn : List Str} {sub : List Value} {ab : Bool} {col : Option Bool} {dd : Option Addr} {m0 m1 m2 m3 m5 : Option Value}
    {odI anI : Option Addr} {slI : Array (Option Value)} {ocI dcI pmI ctI : Value} {clC cdC : Value} {dlC ddC : Option Addr} {slC scC : Array (Option Value)} {vsC : Array Value} {fiC : Str} {tfC : Tok}
    {dP dO : Option Addr} {nP nO epS : Nat} {slP slO : Array (Option Value)} {uP0 uP1 uO0 uO1 uO2 uO3 uS0 uS1 uS2 : Tok} {hS0 hS1 hS2 : Int} {vS0 vS1 vS2 : Value}
    (a0 : PySem.W.nsIn K mainGlobals "read_plain" = some (some (.ref f0))) (l0 : K.lookup f0 = some ⟨oc0, od0, .func (PySem.W.fnOf "read_plain" "read_plain" (defArgs s_read_plain) (defBody s_read_plain) (defScope s_read_plain) .none kV0 dc0 pm0 an0 cd0 ct0), sl0⟩) (c0 : PySem.W.codeIn K cd0 "read_plain" = true) (k0 : PySem.W.keepIn K (.ref f0) = true)
    (a1 : PySem.W.nsIn K mainGlobals "value_at" = some (some (.ref f1))) (l1 : K.lookup f1 = some ⟨oc1, od1, .func (PySem.W.fnOf "value_at" "value_at" (defArgs s_value_at) (defBody s_value_at) (defScope s_value_at) .none kV1 dc1 pm1 an1 cd1 ct1), sl1⟩) (c1 : PySem.W.codeIn K cd1 "value_at" = true) (k1 : PySem.W.keepIn K (.ref f1) = true)
    (a2 : PySem.W.nsIn K mainGlobals "integer_at" = some (some (.ref f2))) (l2 : K.lookup f2 = some ⟨oc2, od2, .func (PySem.W.fnOf "integer_at" "integer_at" (defArgs s_integer_at) (defBody s_integer_at) (defScope s_integer_at) .none kV2 dc2 pm2 an2 cd2 ct2), sl2⟩) (c2 : PySem.W.codeIn K cd2 "integer_at" = true) (k2 : PySem.W.keepIn K (.ref f2) = true)
    (a3 : PySem.W.nsIn K mainGlobals "text_at" = some (some (.ref f3))) (l3 : K.lookup f3 = some ⟨oc3, od3, .func (PySem.W.fnOf "text_at" "text_at" (defArgs s_text_at) (defBody s_text_at) (defScope s_text_at) .none kV3 dc3 pm3 an3 cd3 ct3), sl3⟩) (c3 : PySem.W.codeIn K cd3 "text_at" = true) (k3 : PySem.W.keepIn K (.ref f3) = true)
    (a4 : PySem.W.nsIn K mainGlobals "tuple_at" = some (some (.ref f4))) (l4 : K.lookup f4 = some ⟨oc4, od4, .func (PySem.W.fnOf "tuple_at" "tuple_at" (defArgs s_tuple_at) (defBody s_tuple_at) (defScope s_tuple_at) .none kV4 dc4 pm4 an4 cd4 ct4), sl4⟩) (c4 : PySem.W.codeIn K cd4 "tuple_at" = true) (k4 : PySem.W.keepIn K (.ref f4) = true)
    (a5 : PySem.W.nsIn K mainGlobals "show_plain" = some (some (.ref f5))) (l5 : K.lookup f5 = some ⟨oc5, od5, .func (PySem.W.fnOf "show_plain" "show_plain" (defArgs s_show_plain) (defBody s_show_plain) (defScope s_show_plain) .none kV5 dc5 pm5 an5 cd5 ct5), sl5⟩) (c5 : PySem.W.codeIn K cd5 "show_plain" = true) (k5 : PySem.W.keepIn K (.ref f5) = true)
    (a6 : PySem.W.nsIn K mainGlobals "quoted" = some (some (.ref f6))) (l6 : K.lookup f6 = some ⟨oc6, od6, .func (PySem.W.fnOf "quoted" "quoted" (defArgs s_quoted) (defBody s_quoted) (defScope s_quoted) .none kV6 dc6 pm6 an6 cd6 ct6), sl6⟩) (c6 : PySem.W.codeIn K cd6 "quoted" = true) (k6 : PySem.W.keepIn K (.ref f6) = true)
    (a7 : PySem.W.nsIn K mainGlobals "is_integer" = some (some (.ref f7))) (l7 : K.lookup f7 = some ⟨oc7, od7, .func (PySem.W.fnOf "is_integer" "is_integer" (defArgs s_is_integer) (defBody s_is_integer) (defScope s_is_integer) .none kV7 dc7 pm7 an7 cd7 ct7), sl7⟩) (c7 : PySem.W.codeIn K cd7 "is_integer" = true) (k7 : PySem.W.keepIn K (.ref f7) = true)
    (a8 : PySem.W.nsIn K mainGlobals "is_name_vforms" = some (some (.ref f8))) (l8 : K.lookup f8 = some ⟨oc8, od8, .func (PySem.W.fnOf "is_name" "is_name" (defArgs s_is_name_vforms) (defBody s_is_name_vforms) (defScope s_is_name_vforms) .none kV8 dc8 pm8 an8 cd8 ct8), sl8⟩) (c8 : PySem.W.codeIn K cd8 "is_name" = true) (k8 : PySem.W.keepIn K (.ref f8) = true)
    (a9 : PySem.W.nsIn K mainGlobals "is_rising" = some (some (.ref f9))) (l9 : K.lookup f9 = some ⟨oc9, od9, .func (PySem.W.fnOf "is_rising" "is_rising" (defArgs s_is_rising) (defBody s_is_rising) (defScope s_is_rising) .none kV9 dc9 pm9 an9 cd9 ct9), sl9⟩) (c9 : PySem.W.codeIn K cd9 "is_rising" = true) (k9 : PySem.W.keepIn K (.ref f9) = true)
    (a10 : PySem.W.nsIn K mainGlobals "is_paper" = some (some (.ref f10))) (l10 : K.lookup f10 = some ⟨oc10, od10, .func (PySem.W.fnOf "is_paper" "is_paper" (defArgs s_is_paper) (defBody s_is_paper) (defScope s_is_paper) .none kV10 dc10 pm10 an10 cd10 ct10), sl10⟩) (c10 : PySem.W.codeIn K cd10 "is_paper" = true) (k10 : PySem.W.keepIn K (.ref f10) = true)
    (a11 : PySem.W.nsIn K mainGlobals "is_of" = some (some (.ref f11))) (l11 : K.lookup f11 = some ⟨oc11, od11, .func (PySem.W.fnOf "is_of" "is_of" (defArgs s_is_of) (defBody s_is_of) (defScope s_is_of) .none kV11 dc11 pm11 an11 cd11 ct11), sl11⟩) (c11 : PySem.W.codeIn K cd11 "is_of" = true) (k11 : PySem.W.keepIn K (.ref f11) = true)
    (a12 : PySem.W.nsIn K mainGlobals "is_ratio" = some (some (.ref f12))) (l12 : K.lookup f12 = some ⟨oc12, od12, .func (PySem.W.fnOf "is_ratio" "is_ratio" (defArgs s_is_ratio) (defBody s_is_ratio) (defScope s_is_ratio) .none kV12 dc12 pm12 an12 cd12 ct12), sl12⟩) (c12 : PySem.W.codeIn K cd12 "is_ratio" = true) (k12 : PySem.W.keepIn K (.ref f12) = true)
    (a13 : PySem.W.nsIn K mainGlobals "is_typed" = some (some (.ref f13))) (l13 : K.lookup f13 = some ⟨oc13, od13, .func (PySem.W.fnOf "is_typed" "is_typed" (defArgs s_is_typed) (defBody s_is_typed) (defScope s_is_typed) .none kV13 dc13 pm13 an13 cd13 ct13), sl13⟩) (c13 : PySem.W.codeIn K cd13 "is_typed" = true) (k13 : PySem.W.keepIn K (.ref f13) = true)
    (a14 : PySem.W.nsIn K mainGlobals "is_leaf" = some (some (.ref f14))) (l14 : K.lookup f14 = some ⟨oc14, od14, .func (PySem.W.fnOf "is_leaf" "is_leaf" (defArgs s_is_leaf) (defBody s_is_leaf) (defScope s_is_leaf) .none kV14 dc14 pm14 an14 cd14 ct14), sl14⟩) (c14 : PySem.W.codeIn K cd14 "is_leaf" = true) (k14 : PySem.W.keepIn K (.ref f14) = true)
    (a15 : PySem.W.nsIn K mainGlobals "members_of" = some (some (.ref f15))) (l15 : K.lookup f15 = some ⟨oc15, od15, .func (PySem.W.fnOf "members_of" "members_of" (defArgs s_members_of) (defBody s_members_of) (defScope s_members_of) .none kV15 dc15 pm15 an15 cd15 ct15), sl15⟩) (c15 : PySem.W.codeIn K cd15 "members_of" = true) (k15 : PySem.W.keepIn K (.ref f15) = true)
    (a16 : PySem.W.nsIn K mainGlobals "is_expression" = some (some (.ref f16))) (l16 : K.lookup f16 = some ⟨oc16, od16, .func (PySem.W.fnOf "is_expression" "is_expression" (defArgs s_is_expression) (defBody s_is_expression) (defScope s_is_expression) .none kV16 dc16 pm16 an16 cd16 ct16), sl16⟩) (c16 : PySem.W.codeIn K cd16 "is_expression" = true) (k16 : PySem.W.keepIn K (.ref f16) = true)
    (a17 : PySem.W.nsIn K mainGlobals "names_in" = some (some (.ref f17))) (l17 : K.lookup f17 = some ⟨oc17, od17, .func (PySem.W.fnOf "names_in" "names_in" (defArgs s_names_in) (defBody s_names_in) (defScope s_names_in) .none kV17 dc17 pm17 an17 cd17 ct17), sl17⟩) (c17 : PySem.W.codeIn K cd17 "names_in" = true) (k17 : PySem.W.keepIn K (.ref f17) = true)
    (a18 : PySem.W.nsIn K mainGlobals "is_whole_language" = some (some (.ref f18))) (l18 : K.lookup f18 = some ⟨oc18, od18, .func (PySem.W.fnOf "is_whole" "is_whole" (defArgs s_is_whole_language) (defBody s_is_whole_language) (defScope s_is_whole_language) .none kV18 dc18 pm18 an18 cd18 ct18), sl18⟩) (c18 : PySem.W.codeIn K cd18 "is_whole" = true) (k18 : PySem.W.keepIn K (.ref f18) = true)
    (a19 : PySem.W.nsIn K mainGlobals "is_book" = some (some (.ref f19))) (l19 : K.lookup f19 = some ⟨oc19, od19, .func (PySem.W.fnOf "is_book" "is_book" (defArgs s_is_book) (defBody s_is_book) (defScope s_is_book) .none kV19 dc19 pm19 an19 cd19 ct19), sl19⟩) (c19 : PySem.W.codeIn K cd19 "is_book" = true) (k19 : PySem.W.keepIn K (.ref f19) = true)
    (a20 : PySem.W.nsIn K mainGlobals "is_whole_wnames" = some (some (.ref f20))) (l20 : K.lookup f20 = some ⟨oc20, od20, .func (PySem.W.fnOf "is_whole" "is_whole" (defArgs s_is_whole_wnames) (defBody s_is_whole_wnames) (defScope s_is_whole_wnames) .none kV20 dc20 pm20 an20 cd20 ct20), sl20⟩) (c20 : PySem.W.codeIn K cd20 "is_whole" = true) (k20 : PySem.W.keepIn K (.ref f20) = true)
    (a21 : PySem.W.nsIn K mainGlobals "is_name_wnames" = some (some (.ref f21))) (l21 : K.lookup f21 = some ⟨oc21, od21, .func (PySem.W.fnOf "is_name" "is_name" (defArgs s_is_name_wnames) (defBody s_is_name_wnames) (defScope s_is_name_wnames) .none kV21 dc21 pm21 an21 cd21 ct21), sl21⟩) (c21 : PySem.W.codeIn K cd21 "is_name" = true) (k21 : PySem.W.keepIn K (.ref f21) = true)
    (a22 : PySem.W.nsIn K mainGlobals "is_form" = some (some (.ref f22))) (l22 : K.lookup f22 = some ⟨oc22, od22, .func (PySem.W.fnOf "is_form" "is_form" (defArgs s_is_form) (defBody s_is_form) (defScope s_is_form) .none kV22 dc22 pm22 an22 cd22 ct22), sl22⟩) (c22 : PySem.W.codeIn K cd22 "is_form" = true) (k22 : PySem.W.keepIn K (.ref f22) = true)
    (a23 : PySem.W.nsIn K mainGlobals "is_act" = some (some (.ref f23))) (l23 : K.lookup f23 = some ⟨oc23, od23, .func (PySem.W.fnOf "is_act" "is_act" (defArgs s_is_act) (defBody s_is_act) (defScope s_is_act) .none kV23 dc23 pm23 an23 cd23 ct23), sl23⟩) (c23 : PySem.W.codeIn K cd23 "is_act" = true) (k23 : PySem.W.keepIn K (.ref f23) = true)
    (a24 : PySem.W.nsIn K mainGlobals "is_notice" = some (some (.ref f24))) (l24 : K.lookup f24 = some ⟨oc24, od24, .func (PySem.W.fnOf "is_notice" "is_notice" (defArgs s_is_notice) (defBody s_is_notice) (defScope s_is_notice) .none kV24 dc24 pm24 an24 cd24 ct24), sl24⟩) (c24 : PySem.W.codeIn K cd24 "is_notice" = true) (k24 : PySem.W.keepIn K (.ref f24) = true)
    (a25 : PySem.W.nsIn K mainGlobals "is_promise" = some (some (.ref f25))) (l25 : K.lookup f25 = some ⟨oc25, od25, .func (PySem.W.fnOf "is_promise" "is_promise" (defArgs s_is_promise) (defBody s_is_promise) (defScope s_is_promise) .none kV25 dc25 pm25 an25 cd25 ct25), sl25⟩) (c25 : PySem.W.codeIn K cd25 "is_promise" = true) (k25 : PySem.W.keepIn K (.ref f25) = true)
    (a26 : PySem.W.nsIn K mainGlobals "is_question" = some (some (.ref f26))) (l26 : K.lookup f26 = some ⟨oc26, od26, .func (PySem.W.fnOf "is_question" "is_question" (defArgs s_is_question) (defBody s_is_question) (defScope s_is_question) .none kV26 dc26 pm26 an26 cd26 ct26), sl26⟩) (c26 : PySem.W.codeIn K cd26 "is_question" = true) (k26 : PySem.W.keepIn K (.ref f26) = true)
    (a27 : PySem.W.nsIn K mainGlobals "sum_behind" = some (some (.ref f27))) (l27 : K.lookup f27 = some ⟨oc27, od27, .func (PySem.W.fnOf "sum_behind" "sum_behind" (defArgs s_sum_behind) (defBody s_sum_behind) (defScope s_sum_behind) .none kV27 dc27 pm27 an27 cd27 ct27), sl27⟩) (c27 : PySem.W.codeIn K cd27 "sum_behind" = true) (k27 : PySem.W.keepIn K (.ref f27) = true)
    (a28 : PySem.W.nsIn K mainGlobals "journal_line" = some (some (.ref f28))) (l28 : K.lookup f28 = some ⟨oc28, od28, .func (PySem.W.fnOf "journal_line" "journal_line" (defArgs s_journal_line) (defBody s_journal_line) (defScope s_journal_line) .none kV28 dc28 pm28 an28 cd28 ct28), sl28⟩) (c28 : PySem.W.codeIn K cd28 "journal_line" = true) (k28 : PySem.W.keepIn K (.ref f28) = true)
    (a29 : PySem.W.nsIn K mainGlobals "entry_of" = some (some (.ref f29))) (l29 : K.lookup f29 = some ⟨oc29, od29, .func (PySem.W.fnOf "entry_of" "entry_of" (defArgs s_entry_of) (defBody s_entry_of) (defScope s_entry_of) .none kV29 dc29 pm29 an29 cd29 ct29), sl29⟩) (c29 : PySem.W.codeIn K cd29 "entry_of" = true) (k29 : PySem.W.keepIn K (.ref f29) = true)
    (a30 : PySem.W.nsIn K mainGlobals "is_first" = some (some (.ref f30))) (l30 : K.lookup f30 = some ⟨oc30, od30, .func (PySem.W.fnOf "is_first" "is_first" (defArgs s_is_first) (defBody s_is_first) (defScope s_is_first) .none kV30 dc30 pm30 an30 cd30 ct30), sl30⟩) (c30 : PySem.W.codeIn K cd30 "is_first" = true) (k30 : PySem.W.keepIn K (.ref f30) = true)
    (a31 : PySem.W.nsIn K mainGlobals "is_later" = some (some (.ref f31))) (l31 : K.lookup f31 = some ⟨oc31, od31, .func (PySem.W.fnOf "is_later" "is_later" (defArgs s_is_later) (defBody s_is_later) (defScope s_is_later) .none kV31 dc31 pm31 an31 cd31 ct31), sl31⟩) (c31 : PySem.W.codeIn K cd31 "is_later" = true) (k31 : PySem.W.keepIn K (.ref f31) = true)
    (a32 : PySem.W.nsIn K mainGlobals "read_journal" = some (some (.ref f32))) (l32 : K.lookup f32 = some ⟨oc32, od32, .func (PySem.W.fnOf "read_journal" "read_journal" (defArgs s_read_journal) (defBody s_read_journal) (defScope s_read_journal) .none kV32 dc32 pm32 an32 cd32 ct32), sl32⟩) (c32 : PySem.W.codeIn K cd32 "read_journal" = true) (k32 : PySem.W.keepIn K (.ref f32) = true)
    (a33 : PySem.W.nsIn K mainGlobals "is_typed_operator" = some (some (.ref f33))) (l33 : K.lookup f33 = some ⟨oc33, od33, .func (PySem.W.fnOf "is_typed_operator" "is_typed_operator" (defArgs s_is_typed_operator) (defBody s_is_typed_operator) (defScope s_is_typed_operator) .none kV33 dc33 pm33 an33 cd33 ct33), sl33⟩) (c33 : PySem.W.codeIn K cd33 "is_typed_operator" = true) (k33 : PySem.W.keepIn K (.ref f33) = true)
    (a34 : PySem.W.nsIn K mainGlobals "is_typed_poly" = some (some (.ref f34))) (l34 : K.lookup f34 = some ⟨oc34, od34, .func (PySem.W.fnOf "is_typed_poly" "is_typed_poly" (defArgs s_is_typed_poly) (defBody s_is_typed_poly) (defScope s_is_typed_poly) .none kV34 dc34 pm34 an34 cd34 ct34), sl34⟩) (c34 : PySem.W.codeIn K cd34 "is_typed_poly" = true) (k34 : PySem.W.keepIn K (.ref f34) = true)
    (a35 : PySem.W.nsIn K mainGlobals "is_typed_sequence" = some (some (.ref f35))) (l35 : K.lookup f35 = some ⟨oc35, od35, .func (PySem.W.fnOf "is_typed_sequence" "is_typed_sequence" (defArgs s_is_typed_sequence) (defBody s_is_typed_sequence) (defScope s_is_typed_sequence) .none kV35 dc35 pm35 an35 cd35 ct35), sl35⟩) (c35 : PySem.W.codeIn K cd35 "is_typed_sequence" = true) (k35 : PySem.W.keepIn K (.ref f35) = true)
    (a36 : PySem.W.nsIn K mainGlobals "_law_cell" = some (some (.ref f36))) (l36 : K.lookup f36 = some ⟨oc36, od36, .func (PySem.W.fnOf "_law_cell" "_law_cell" (defArgs s__law_cell) (defBody s__law_cell) (defScope s__law_cell) .none kV36 dc36 pm36 an36 cd36 ct36), sl36⟩) (c36 : PySem.W.codeIn K cd36 "_law_cell" = true) (k36 : PySem.W.keepIn K (.ref f36) = true)
    (a37 : PySem.W.nsIn K mainGlobals "_law_digits" = some (some (.ref f37))) (l37 : K.lookup f37 = some ⟨oc37, od37, .func (PySem.W.fnOf "_law_digits" "_law_digits" (defArgs s__law_digits) (defBody s__law_digits) (defScope s__law_digits) .none kV37 dc37 pm37 an37 cd37 ct37), sl37⟩) (c37 : PySem.W.codeIn K cd37 "_law_digits" = true) (k37 : PySem.W.keepIn K (.ref f37) = true)
    (a38 : PySem.W.nsIn K mainGlobals "_law_draw" = some (some (.ref f38))) (l38 : K.lookup f38 = some ⟨oc38, od38, .func (PySem.W.fnOf "_law_draw" "_law_draw" (defArgs s__law_draw) (defBody s__law_draw) (defScope s__law_draw) .none kV38 dc38 pm38 an38 cd38 ct38), sl38⟩) (c38 : PySem.W.codeIn K cd38 "_law_draw" = true) (k38 : PySem.W.keepIn K (.ref f38) = true)
    (a39 : PySem.W.nsIn K mainGlobals "_law_pick" = some (some (.ref f39))) (l39 : K.lookup f39 = some ⟨oc39, od39, .func (PySem.W.fnOf "_law_pick" "_law_pick" (defArgs s__law_pick) (defBody s__law_pick) (defScope s__law_pick) .none kV39 dc39 pm39 an39 cd39 ct39), sl39⟩) (c39 : PySem.W.codeIn K cd39 "_law_pick" = true) (k39 : PySem.W.keepIn K (.ref f39) = true)
    (a40 : PySem.W.nsIn K mainGlobals "_law_like" = some (some (.ref f40))) (l40 : K.lookup f40 = some ⟨oc40, od40, .func (PySem.W.fnOf "_law_like" "_law_like" (defArgs s__law_like) (defBody s__law_like) (defScope s__law_like) .none kV40 dc40 pm40 an40 cd40 ct40), sl40⟩) (c40 : PySem.W.codeIn K cd40 "_law_like" = true) (k40 : PySem.W.keepIn K (.ref f40) = true)
    (a41 : PySem.W.nsIn K mainGlobals "_law_start" = some (some (.ref f41))) (l41 : K.lookup f41 = some ⟨oc41, od41, .func (PySem.W.fnOf "_law_start" "_law_start" (defArgs s__law_start) (defBody s__law_start) (defScope s__law_start) .none kV41 dc41 pm41 an41 cd41 ct41), sl41⟩) (c41 : PySem.W.codeIn K cd41 "_law_start" = true) (k41 : PySem.W.keepIn K (.ref f41) = true)
    (a42 : PySem.W.nsIn K mainGlobals "_law_entry" = some (some (.ref f42))) (l42 : K.lookup f42 = some ⟨oc42, od42, .func (PySem.W.fnOf "_law_entry" "_law_entry" (defArgs s__law_entry) (defBody s__law_entry) (defScope s__law_entry) .none kV42 dc42 pm42 an42 cd42 ct42), sl42⟩) (c42 : PySem.W.codeIn K cd42 "_law_entry" = true) (k42 : PySem.W.keepIn K (.ref f42) = true)
    (a43 : PySem.W.nsIn K mainGlobals "_law_wrong" = some (some (.ref f43))) (l43 : K.lookup f43 = some ⟨oc43, od43, .func (PySem.W.fnOf "_law_wrong" "_law_wrong" (defArgs s__law_wrong) (defBody s__law_wrong) (defScope s__law_wrong) .none kV43 dc43 pm43 an43 cd43 ct43), sl43⟩) (c43 : PySem.W.codeIn K cd43 "_law_wrong" = true) (k43 : PySem.W.keepIn K (.ref f43) = true)
    (a44 : PySem.W.nsIn K mainGlobals "_law_sum" = some (some (.ref f44))) (l44 : K.lookup f44 = some ⟨oc44, od44, .func (PySem.W.fnOf "_law_sum" "_law_sum" (defArgs s__law_sum) (defBody s__law_sum) (defScope s__law_sum) .none kV44 dc44 pm44 an44 cd44 ct44), sl44⟩) (c44 : PySem.W.codeIn K cd44 "_law_sum" = true) (k44 : PySem.W.keepIn K (.ref f44) = true)
    (a45 : PySem.W.nsIn K mainGlobals "_law_lines" = some (some (.ref f45))) (l45 : K.lookup f45 = some ⟨oc45, od45, .func (PySem.W.fnOf "_law_lines" "_law_lines" (defArgs s__law_lines) (defBody s__law_lines) (defScope s__law_lines) .none kV45 dc45 pm45 an45 cd45 ct45), sl45⟩) (c45 : PySem.W.codeIn K cd45 "_law_lines" = true) (k45 : PySem.W.keepIn K (.ref f45) = true)
    (a46 : PySem.W.nsIn K mainGlobals "_law_shifted" = some (some (.ref f46))) (l46 : K.lookup f46 = some ⟨oc46, od46, .func (PySem.W.fnOf "_law_shifted" "_law_shifted" (defArgs s__law_shifted) (defBody s__law_shifted) (defScope s__law_shifted) .none kV46 dc46 pm46 an46 cd46 ct46), sl46⟩) (c46 : PySem.W.codeIn K cd46 "_law_shifted" = true) (k46 : PySem.W.keepIn K (.ref f46) = true)
    (a47 : PySem.W.nsIn K mainGlobals "_law_due" = some (some (.ref f47))) (l47 : K.lookup f47 = some ⟨oc47, od47, .func (PySem.W.fnOf "_law_due" "_law_due" (defArgs s__law_due) (defBody s__law_due) (defScope s__law_due) .none kV47 dc47 pm47 an47 cd47 ct47), sl47⟩) (c47 : PySem.W.codeIn K cd47 "_law_due" = true) (k47 : PySem.W.keepIn K (.ref f47) = true)
    (a48 : PySem.W.nsIn K mainGlobals "law" = some (some (.ref f48))) (l48 : K.lookup f48 = some ⟨oc48, od48, .func (PySem.W.fnOf "law" "law" (defArgs s_law) (defBody s_law) (defScope s_law) .none kV48 dc48 pm48 an48 cd48 ct48), sl48⟩) (c48 : PySem.W.codeIn K cd48 "law" = true) (k48 : PySem.W.keepIn K (.ref f48) = true)
    (z_len : PySem.W.nsIn K mainGlobals "len" = some none)
    (z_isinstance : PySem.W.nsIn K mainGlobals "isinstance" = some none)
    (z_int : PySem.W.nsIn K mainGlobals "int" = some none)
    (z_str : PySem.W.nsIn K mainGlobals "str" = some none)
    (z_tuple : PySem.W.nsIn K mainGlobals "tuple" = some none)
    (z_bool : PySem.W.nsIn K mainGlobals "bool" = some none)
    (z_range : PySem.W.nsIn K mainGlobals "range" = some none)
    (z_ord : PySem.W.nsIn K mainGlobals "ord" = some none)
    (z_list : PySem.W.nsIn K mainGlobals "list" = some none)
    (z_map : PySem.W.nsIn K mainGlobals "map" = some none)
    (z_sum : PySem.W.nsIn K mainGlobals "sum" = some none)
    (z_all : PySem.W.nsIn K mainGlobals "all" = some none)
    (z_any : PySem.W.nsIn K mainGlobals "any" = some none)
    (z_enumerate : PySem.W.nsIn K mainGlobals "enumerate" = some none)
    (z_zip : PySem.W.nsIn K mainGlobals "zip" = some none)
    (z_sorted : PySem.W.nsIn K mainGlobals "sorted" = some none)
    (z_abs : PySem.W.nsIn K mainGlobals "abs" = some none)
    (z_super : PySem.W.nsIn K mainGlobals "super" = some none)
    (g_MOST_FIGURES : PySem.W.nsIn K mainGlobals "MOST_FIGURES" = some (some (.int 2000 tk0)))
    (g_MOST_BRACKETS : PySem.W.nsIn K mainGlobals "MOST_BRACKETS" = some (some (.int 40 tk1)))
    (g_MOST_ABOVE : PySem.W.nsIn K mainGlobals "MOST_ABOVE" = some (some (.int 1000000 tk2)))
    (g_MOST_BELOW : PySem.W.nsIn K mainGlobals "MOST_BELOW" = some (some (.int 1000 tk3)))
    (g_MOST_WORDS : PySem.W.nsIn K mainGlobals "MOST_WORDS" = some (some (.int 20 tk4)))
    (g_MOST_DEEP : PySem.W.nsIn K mainGlobals "MOST_DEEP" = some (some (.int 8 tk5)))
    (g_MOST_ROWS : PySem.W.nsIn K mainGlobals "MOST_ROWS" = some (some (.int 12 tk6)))
    (g_MOST_SHIFT : PySem.W.nsIn K mainGlobals "MOST_SHIFT" = some (some (.int 20 tk7)))
    (g_MOST_EVERY : PySem.W.nsIn K mainGlobals "MOST_EVERY" = some (some (.int 4 tk8)))
    (g_MOST_FROM : PySem.W.nsIn K mainGlobals "MOST_FROM" = some (some (.int 10 tk9)))
    (g_MOST_MIXED : PySem.W.nsIn K mainGlobals "MOST_MIXED" = some (some (.int 3 tk10)))
    (g_BY : PySem.W.nsIn K mainGlobals "BY" = some (some (.int 99991 tk11)))
    (g_FIGURES : PySem.W.nsIn K mainGlobals "FIGURES" = some (some (.str (Str.ofString "0123456789") ts0)))
    (g_LETTERS : PySem.W.nsIn K mainGlobals "LETTERS" = some (some (.str (Str.ofString "abcdefghijklmnopqrstuvwxyz") ts1)))
    (g_SIGNS_wnames : PySem.W.nsIn K mainGlobals "SIGNS_wnames" = some (some (.str (Str.ofString "abcdefghijklmnopqrstuvwxyz0123456789") ts2)))
    (aC : PySem.W.nsIn K mainGlobals "BadPlain" = some (some (.ref C)))
    (xC : K.lookup C = some (excClassObj nm q C N bs bm true sn sub ab col dd m0 m1 m2 m3 m5 "ValueError.__new__")) (xM : refsVE bm = true)
    (sa : findIn K (.ref C) "__setattr__" = some (some (.builtin "object.__setattr__"))) (ga : findIn K (.ref C) "__getattribute__" = some (some (.builtin "BaseException.__getattribute__"))) (gg : findIn K (.ref C) "__getattr__" = some none) (nb : findIn K (.ref C) "place" = some none)
    (iI : findIn K (.ref C) "__init__" = some (some (.ref fI))) (tI : typeIn K (.ref fI) = some (.type "function")) (lI : K.lookup fI = some ⟨ocI, odI, .func (PySem.W.fnX "__init__" "BadPlain.__init__" (supA "place" ⟨8, 17, 8, 21⟩ ⟨8, 23, 8, 28⟩) (supB eBP "place" ⟨9, 8, 9, 13⟩ ⟨9, 8, 9, 15⟩ ⟨9, 8, 9, 24⟩ ⟨9, 8, 9, 36⟩ ⟨9, 8, 9, 36⟩ ⟨10, 8, 10, 12⟩ ⟨10, 8, 10, 18⟩ ⟨10, 21, 10, 26⟩ ⟨10, 8, 10, 26⟩) (supS "place") [("__class__", ccI)] .none .none dcI pmI anI (.ref cdaI) ctI), slI⟩) (cI : codeIn K (.ref cdaI) "BadPlain.__init__" = true)
    (kC : keepIn K (.ref C) = true) (eC : subIn K (.ref C) (.type "BaseException") = some true) (tC : typeIn K (.ref C) = some (.type "type")) (hC : hasDictIn K C = true) (sC : isClsIn K C = true) (uC : subIn K (.ref C) (.ref C) = some true)
    (lcc : K.lookup ccI = some ⟨clC, dlC, .cell (some (.ref C)), slC⟩) (mC : mroIn K C (.ref C) = some true) (lcd : K.lookup cdaI = some ⟨cdC, ddC, .fields vsC, scC⟩) (vC : vsC[2]? = some (.str fiC tfC)) (fC : ((l.prog.main.file : Str) == fiC) = true)
    (topC : (l.prog.main.scope.names.lookup ("super" : Str)).isSome = false) (oC : nsIn K cStatics "thirdparty.any" = some none) (alC : ks_superIn K C C "__init__" = some (some (.builtin "ValueError.__init__"))) (vE : subIn K (.ref C) (.type "ValueError") = some true)
    (nd : nsIn K cStatics "sys.int_max_str_digits" = some none)
    (xacc : PySem.W.nsIn K mainGlobals "accumulate" = some (some (.type "itertools.accumulate"))) (xgcd : PySem.W.nsIn K mainGlobals "gcd" = some (some (.builtin "math.gcd")))
    (xP : PySem.W.nsIn K mainGlobals "PLAIN" = some (some (.ref aP))) (lP : K.lookup aP = some ⟨.type "tuple", dP, .seq #[.str (Str.ofString "known") uP0, .str (Str.ofString "names") uP1] nP, slP⟩)
    (xO : PySem.W.nsIn K mainGlobals "OF_NAMES" = some (some (.ref aO))) (lO : K.lookup aO = some ⟨.type "tuple", dO, .seq #[.str (Str.ofString "stands") uO0, .str (Str.ofString "causes") uO1, .str (Str.ofString "cures") uO2, .str (Str.ofString "ends") uO3] nO, slO⟩)
    (xS : PySem.W.nsIn K mainGlobals "SIGNS_language" = some (some (.ref aS))) (lS : K.lookup aS = some ⟨.type "dict", none, .dict #[⟨hS0, .str (Str.ofString "plus") uS0, vS0⟩, ⟨hS1, .str (Str.ofString "minus") uS1, vS1⟩, ⟨hS2, .str (Str.ofString "times") uS2, vS2⟩] epS, #[]⟩) (lowS : (aS == sysModules) = false) :
    ∃ fd : FuncData, (∀ (s : Shared) (v : Value), BindsTo s fd ⟨[v], []⟩ [("script", v)]) ∧ ∀ base : Heap, K.In base → base.Ns mainGlobals mg → FnOk l.prog w K mg base CX0 88 fa fd ["script"] (spLaw K) := by
  have e := hfa.symm.trans (PySem.W.mg_of X G a48)
  cases e
  have F_read_plain := fun_mk (st := s_read_plain) l0 c0 k0
  have b_read_plain := F_read_plain.binds (ps := ["text"]) fun _ _ _ _ _ _ us hl => match us, hl with | [_], _ => rfl
  have m_read_plain := PySem.W.mg_of X G a0
  have F_value_at := fun_mk (st := s_value_at) l1 c1 k1
  have b_value_at := F_value_at.binds (ps := ["text", "place", "within"]) fun _ _ _ _ _ _ us hl => match us, hl with | [_, _, _], _ => rfl
  have m_value_at := PySem.W.mg_of X G a1
  have F_integer_at := fun_mk (st := s_integer_at) l2 c2 k2
  have b_integer_at := F_integer_at.binds (ps := ["text", "place"]) fun _ _ _ _ _ _ us hl => match us, hl with | [_, _], _ => rfl
  have m_integer_at := PySem.W.mg_of X G a2
  have F_text_at := fun_mk (st := s_text_at) l3 c3 k3
  have b_text_at := F_text_at.binds (ps := ["text", "place"]) fun _ _ _ _ _ _ us hl => match us, hl with | [_, _], _ => rfl
  have m_text_at := PySem.W.mg_of X G a3
  have F_tuple_at := fun_mk (st := s_tuple_at) l4 c4 k4
  have b_tuple_at := F_tuple_at.binds (ps := ["text", "place", "within"]) fun _ _ _ _ _ _ us hl => match us, hl with | [_, _, _], _ => rfl
  have m_tuple_at := PySem.W.mg_of X G a4
  have F_show_plain := fun_mk (st := s_show_plain) l5 c5 k5
  have b_show_plain := F_show_plain.binds (ps := ["value"]) fun _ _ _ _ _ _ us hl => match us, hl with | [_], _ => rfl
  have m_show_plain := PySem.W.mg_of X G a5
  have F_quoted := fun_mk (st := s_quoted) l6 c6 k6
  have b_quoted := F_quoted.binds (ps := ["text"]) fun _ _ _ _ _ _ us hl => match us, hl with | [_], _ => rfl
  have m_quoted := PySem.W.mg_of X G a6
  have F_is_integer := fun_mk (st := s_is_integer) l7 c7 k7
  have b_is_integer := F_is_integer.binds (ps := ["thing"]) fun _ _ _ _ _ _ us hl => match us, hl with | [_], _ => rfl
  have m_is_integer := PySem.W.mg_of X G a7
  have F_is_name_vforms := fun_mk (st := s_is_name_vforms) l8 c8 k8
  have b_is_name_vforms := F_is_name_vforms.binds (ps := ["thing"]) fun _ _ _ _ _ _ us hl => match us, hl with | [_], _ => rfl
  have m_is_name_vforms := PySem.W.mg_of X G a8
  have F_is_rising := fun_mk (st := s_is_rising) l9 c9 k9
  have b_is_rising := F_is_rising.binds (ps := ["thing"]) fun _ _ _ _ _ _ us hl => match us, hl with | [_], _ => rfl
  have m_is_rising := PySem.W.mg_of X G a9
  have F_is_paper := fun_mk (st := s_is_paper) l10 c10 k10
  have b_is_paper := F_is_paper.binds (ps := ["thing", "word", "width"]) fun _ _ _ _ _ _ us hl => match us, hl with | [_, _, _], _ => rfl
  have m_is_paper := PySem.W.mg_of X G a10
  have F_is_of := fun_mk (st := s_is_of) l11 c11 k11
  have b_is_of := F_is_of.binds (ps := ["thing", "width"]) fun _ _ _ _ _ _ us hl => match us, hl with | [_, _], _ => rfl
  have m_is_of := PySem.W.mg_of X G a11
  have F_is_ratio := fun_mk (st := s_is_ratio) l12 c12 k12
  have b_is_ratio := F_is_ratio.binds (ps := ["thing"]) fun _ _ _ _ _ _ us hl => match us, hl with | [_], _ => rfl
  have m_is_ratio := PySem.W.mg_of X G a12
  have F_is_typed := fun_mk (st := s_is_typed) l13 c13 k13
  have b_is_typed := F_is_typed.binds (ps := ["thing"]) fun _ _ _ _ _ _ us hl => match us, hl with | [_], _ => rfl
  have m_is_typed := PySem.W.mg_of X G a13
  have F_is_leaf := fun_mk (st := s_is_leaf) l14 c14 k14
  have b_is_leaf := F_is_leaf.binds (ps := ["thing"]) fun _ _ _ _ _ _ us hl => match us, hl with | [_], _ => rfl
  have m_is_leaf := PySem.W.mg_of X G a14
  have F_members_of := fun_mk (st := s_members_of) l15 c15 k15
  have b_members_of := F_members_of.binds (ps := ["thing"]) fun _ _ _ _ _ _ us hl => match us, hl with | [_], _ => rfl
  have m_members_of := PySem.W.mg_of X G a15
  have F_is_expression := fun_mk (st := s_is_expression) l16 c16 k16
  have b_is_expression := F_is_expression.binds (ps := ["thing"]) fun _ _ _ _ _ _ us hl => match us, hl with | [_], _ => rfl
  have m_is_expression := PySem.W.mg_of X G a16
  have F_names_in := fun_mk (st := s_names_in) l17 c17 k17
  have b_names_in := F_names_in.binds (ps := ["expression"]) fun _ _ _ _ _ _ us hl => match us, hl with | [_], _ => rfl
  have m_names_in := PySem.W.mg_of X G a17
  have F_is_whole_language := fun_mk (st := s_is_whole_language) l18 c18 k18
  have b_is_whole_language := F_is_whole_language.binds (ps := ["rows"]) fun _ _ _ _ _ _ us hl => match us, hl with | [_], _ => rfl
  have m_is_whole_language := PySem.W.mg_of X G a18
  have F_is_book := fun_mk (st := s_is_book) l19 c19 k19
  have b_is_book := F_is_book.binds (ps := ["thing"]) fun _ _ _ _ _ _ us hl => match us, hl with | [_], _ => rfl
  have m_is_book := PySem.W.mg_of X G a19
  have F_is_whole_wnames := fun_mk (st := s_is_whole_wnames) l20 c20 k20
  have b_is_whole_wnames := F_is_whole_wnames.binds (ps := ["thing", "least", "most"]) fun _ _ _ _ _ _ us hl => match us, hl with | [_, _, _], _ => rfl
  have m_is_whole_wnames := PySem.W.mg_of X G a20
  have F_is_name_wnames := fun_mk (st := s_is_name_wnames) l21 c21 k21
  have b_is_name_wnames := F_is_name_wnames.binds (ps := ["thing"]) fun _ _ _ _ _ _ us hl => match us, hl with | [_], _ => rfl
  have m_is_name_wnames := PySem.W.mg_of X G a21
  have F_is_form := fun_mk (st := s_is_form) l22 c22 k22
  have b_is_form := F_is_form.binds (ps := ["thing", "word", "many"]) fun _ _ _ _ _ _ us hl => match us, hl with | [_, _, _], _ => rfl
  have m_is_form := PySem.W.mg_of X G a22
  have F_is_act := fun_mk (st := s_is_act) l23 c23 k23
  have b_is_act := F_is_act.binds (ps := ["thing", "number"]) fun _ _ _ _ _ _ us hl => match us, hl with | [_, _], _ => rfl
  have m_is_act := PySem.W.mg_of X G a23
  have F_is_notice := fun_mk (st := s_is_notice) l24 c24 k24
  have b_is_notice := F_is_notice.binds (ps := ["thing"]) fun _ _ _ _ _ _ us hl => match us, hl with | [_], _ => rfl
  have m_is_notice := PySem.W.mg_of X G a24
  have F_is_promise := fun_mk (st := s_is_promise) l25 c25 k25
  have b_is_promise := F_is_promise.binds (ps := ["thing"]) fun _ _ _ _ _ _ us hl => match us, hl with | [_], _ => rfl
  have m_is_promise := PySem.W.mg_of X G a25
  have F_is_question := fun_mk (st := s_is_question) l26 c26 k26
  have b_is_question := F_is_question.binds (ps := ["thing"]) fun _ _ _ _ _ _ us hl => match us, hl with | [_], _ => rfl
  have m_is_question := PySem.W.mg_of X G a26
  have F_sum_behind := fun_mk (st := s_sum_behind) l27 c27 k27
  have b_sum_behind := F_sum_behind.binds (ps := ["n", "before", "text"]) fun _ _ _ _ _ _ us hl => match us, hl with | [_, _, _], _ => rfl
  have m_sum_behind := PySem.W.mg_of X G a27
  have F_journal_line := fun_mk (st := s_journal_line) l28 c28 k28
  have b_journal_line := F_journal_line.binds (ps := ["n", "before", "entry"]) fun _ _ _ _ _ _ us hl => match us, hl with | [_, _, _], _ => rfl
  have m_journal_line := PySem.W.mg_of X G a28
  have F_entry_of := fun_mk (st := s_entry_of) l29 c29 k29
  have b_entry_of := F_entry_of.binds (ps := ["text", "n"]) fun _ _ _ _ _ _ us hl => match us, hl with | [_, _], _ => rfl
  have m_entry_of := PySem.W.mg_of X G a29
  have F_is_first := fun_mk (st := s_is_first) l30 c30 k30
  have b_is_first := F_is_first.binds (ps := ["entry"]) fun _ _ _ _ _ _ us hl => match us, hl with | [_], _ => rfl
  have m_is_first := PySem.W.mg_of X G a30
  have F_is_later := fun_mk (st := s_is_later) l31 c31 k31
  have b_is_later := F_is_later.binds (ps := ["entry"]) fun _ _ _ _ _ _ us hl => match us, hl with | [_], _ => rfl
  have m_is_later := PySem.W.mg_of X G a31
  have F_read_journal := fun_mk (st := s_read_journal) l32 c32 k32
  have b_read_journal := F_read_journal.binds (ps := ["text"]) fun _ _ _ _ _ _ us hl => match us, hl with | [_], _ => rfl
  have m_read_journal := PySem.W.mg_of X G a32
  have F_is_typed_operator := fun_mk (st := s_is_typed_operator) l33 c33 k33
  have b_is_typed_operator := F_is_typed_operator.binds (ps := ["thing"]) fun _ _ _ _ _ _ us hl => match us, hl with | [_], _ => rfl
  have m_is_typed_operator := PySem.W.mg_of X G a33
  have F_is_typed_poly := fun_mk (st := s_is_typed_poly) l34 c34 k34
  have b_is_typed_poly := F_is_typed_poly.binds (ps := ["thing"]) fun _ _ _ _ _ _ us hl => match us, hl with | [_], _ => rfl
  have m_is_typed_poly := PySem.W.mg_of X G a34
  have F_is_typed_sequence := fun_mk (st := s_is_typed_sequence) l35 c35 k35
  have b_is_typed_sequence := F_is_typed_sequence.binds (ps := ["thing"]) fun _ _ _ _ _ _ us hl => match us, hl with | [_], _ => rfl
  have m_is_typed_sequence := PySem.W.mg_of X G a35
  have F__law_cell := fun_mk (st := s__law_cell) l36 c36 k36
  have b__law_cell := F__law_cell.binds (ps := ["script", "k"]) fun _ _ _ _ _ _ us hl => match us, hl with | [_, _], _ => rfl
  have m__law_cell := PySem.W.mg_of X G a36
  have F__law_digits := fun_mk (st := s__law_digits) l37 c37 k37
  have b__law_digits := F__law_digits.binds (ps := ["script", "first", "last"]) fun _ _ _ _ _ _ us hl => match us, hl with | [_, _, _], _ => rfl
  have m__law_digits := PySem.W.mg_of X G a37
  have F__law_draw := fun_mk (st := s__law_draw) l38 c38 k38
  have b__law_draw := F__law_draw.binds (ps := ["box", "many"]) fun _ _ _ _ _ _ us hl => match us, hl with | [_, _], _ => rfl
  have m__law_draw := PySem.W.mg_of X G a38
  have F__law_pick := fun_mk (st := s__law_pick) l39 c39 k39
  have b__law_pick := F__law_pick.binds (ps := ["box", "things"]) fun _ _ _ _ _ _ us hl => match us, hl with | [_, _], _ => rfl
  have m__law_pick := PySem.W.mg_of X G a39
  have F__law_like := fun_mk (st := s__law_like) l40 c40 k40
  have b__law_like := F__law_like.binds (ps := ["told", "due"]) fun _ _ _ _ _ _ us hl => match us, hl with | [_, _], _ => rfl
  have m__law_like := PySem.W.mg_of X G a40
  have F__law_start := fun_mk (st := s__law_start) l41 c41 k41
  have b__law_start := F__law_start.binds (ps := []) fun _ _ _ _ _ _ us hl => match us, hl with | [], _ => rfl
  have m__law_start := PySem.W.mg_of X G a41
  have F__law_entry := fun_mk (st := s__law_entry) l42 c42 k42
  have b__law_entry := F__law_entry.binds (ps := ["box", "at"]) fun _ _ _ _ _ _ us hl => match us, hl with | [_, _], _ => rfl
  have m__law_entry := PySem.W.mg_of X G a42
  have F__law_wrong := fun_mk (st := s__law_wrong) l43 c43 k43
  have b__law_wrong := F__law_wrong.binds (ps := ["box"]) fun _ _ _ _ _ _ us hl => match us, hl with | [_], _ => rfl
  have m__law_wrong := PySem.W.mg_of X G a43
  have F__law_sum := fun_mk (st := s__law_sum) l44 c44 k44
  have b__law_sum := F__law_sum.binds (ps := ["n", "before", "text"]) fun _ _ _ _ _ _ us hl => match us, hl with | [_, _, _], _ => rfl
  have m__law_sum := PySem.W.mg_of X G a44
  have F__law_lines := fun_mk (st := s__law_lines) l45 c45 k45
  have b__law_lines := F__law_lines.binds (ps := ["entries"]) fun _ _ _ _ _ _ us hl => match us, hl with | [_], _ => rfl
  have m__law_lines := PySem.W.mg_of X G a45
  have F__law_shifted := fun_mk (st := s__law_shifted) l46 c46 k46
  have b__law_shifted := F__law_shifted.binds (ps := ["box", "lines"]) fun _ _ _ _ _ _ us hl => match us, hl with | [_, _], _ => rfl
  have m__law_shifted := PySem.W.mg_of X G a46
  have F__law_due := fun_mk (st := s__law_due) l47 c47 k47
  have b__law_due := F__law_due.binds (ps := ["entries", "lines", "text"]) fun _ _ _ _ _ _ us hl => match us, hl with | [_, _, _], _ => rfl
  have m__law_due := PySem.W.mg_of X G a47
  have F_law := fun_mk (st := s_law) l48 c48 k48
  have b_law := F_law.binds (ps := ["script"]) fun _ _ _ _ _ _ us hl => match us, hl with | [_], _ => rfl
  have m_law := PySem.W.mg_of X G a48
  have T : Txt0 mg := ⟨PySem.W.mg_none_of X G z_len, PySem.W.mg_none_of X G z_isinstance, PySem.W.mg_none_of X G z_int, PySem.W.mg_none_of X G z_str, PySem.W.mg_none_of X G z_tuple, PySem.W.mg_none_of X G z_bool, PySem.W.mg_none_of X G z_range, PySem.W.mg_none_of X G z_ord, PySem.W.mg_none_of X G z_list, PySem.W.mg_none_of X G z_map, PySem.W.mg_none_of X G z_sum, PySem.W.mg_none_of X G z_all, PySem.W.mg_none_of X G z_any, PySem.W.mg_none_of X G z_enumerate, PySem.W.mg_none_of X G z_zip, PySem.W.mg_none_of X G z_sorted, PySem.W.mg_none_of X G z_abs, ⟨_, PySem.W.mg_of X G g_MOST_FIGURES⟩, ⟨_, PySem.W.mg_of X G g_MOST_BRACKETS⟩, ⟨_, PySem.W.mg_of X G g_MOST_ABOVE⟩, ⟨_, PySem.W.mg_of X G g_MOST_BELOW⟩, ⟨_, PySem.W.mg_of X G g_MOST_WORDS⟩, ⟨_, PySem.W.mg_of X G g_MOST_DEEP⟩, ⟨_, PySem.W.mg_of X G g_MOST_ROWS⟩, ⟨_, PySem.W.mg_of X G g_MOST_SHIFT⟩, ⟨_, PySem.W.mg_of X G g_MOST_EVERY⟩, ⟨_, PySem.W.mg_of X G g_MOST_FROM⟩, ⟨_, PySem.W.mg_of X G g_MOST_MIXED⟩, ⟨_, PySem.W.mg_of X G g_BY⟩, ⟨_, PySem.W.mg_of X G g_FIGURES⟩, ⟨_, PySem.W.mg_of X G g_LETTERS⟩, ⟨_, PySem.W.mg_of X G g_SIGNS_wnames⟩, PySem.W.mg_of X G xacc, PySem.W.mg_of X G xgcd⟩
  have hte := exm_own (K := K) (S := C) eC sC tC uC
  have B : Bp l.prog K mg C fI ccI cdaI := ⟨{ gC := PySem.W.mg_of X G aC, obj := ⟨nm, q, N, bs, bm, sn, sub, ab, col, dd, m0, m1, m2, m3, m5, xC, xM⟩, sa := sa, ga := ga, gg := gg, noN := nb, iC := iI, tC := tI, kC := kC, exC := eC, tyC := tC, hdC := hC, te := hte, fn := ⟨_, _, _, _, _, _, _, _, _, _, _, _, _, _, _, _, _, _, _, lI, cI, ⟨_, fun env => ⟨rfl, rfl, rfl⟩⟩⟩, sup := PySem.W.mg_none_of X G z_super, cell := ⟨_, _, _, lcc⟩, me := mC, code := ⟨_, _, _, _, _, _, lcd, vC, fC⟩, top := topC, opq := oC, along := alC, isV := vE }, nd⟩
  have U : Txt1 K mg aP aO aS := ⟨PySem.W.mg_of X G xP, fun H => .inr ⟨_, _, _, lP, rfl, rfl, (by show 2 ≤ sizeLine; decide), .cons ⟨_, rfl⟩ (.cons ⟨_, rfl⟩ .nil)⟩, PySem.W.mg_of X G xO, fun H => .inr ⟨_, _, _, lO, rfl, rfl, (by show 4 ≤ sizeLine; decide), .cons ⟨_, rfl⟩ (.cons ⟨_, rfl⟩ (.cons ⟨_, rfl⟩ (.cons ⟨_, rfl⟩ .nil)))⟩,
    PySem.W.mg_of X G xS, ⟨lowS, _, _, _, lS, ⟨rfl, rfl, rfl⟩, rfl, rfl⟩⟩
  refine ⟨PySem.W.fnOf "law" "law" (defArgs s_law) (defBody s_law) (defScope s_law) .none kV48 dc48 pm48 an48 cd48 ct48, fun s v => .of_eq rfl, fun base _ _ => ?_⟩
  have C_cell : Cal l.prog w K mg base CX0 1 "_law_cell" ["script", "k"] (spCell K) := ⟨_, _, ok_cell F__law_cell T, b__law_cell, F__law_cell.kp, m__law_cell⟩
  have C_digits : Cal l.prog w K mg base CX0 2 "_law_digits" ["script", "first", "last"] (spDigits K) := ⟨_, _, ok_digits F__law_digits T C_cell, b__law_digits, F__law_digits.kp, m__law_digits⟩
  have C_draw : Cal l.prog w K mg base CX0 1 "_law_draw" ["box", "many"] spDraw := ⟨_, _, ok_draw F__law_draw T, b__law_draw, F__law_draw.kp, m__law_draw⟩
  have C_quoted : Cal l.prog w K mg base CX0 1 "quoted" ["text"] spQuoted := ⟨_, _, ok_quoted F_quoted T, b_quoted, F_quoted.kp, m_quoted⟩
  have C_show : ∀ n, Cal l.prog w K mg base CX0 (n + 1) "show_plain" ["value"] (spPl n) := fun n => by
    induction n with
    | zero => exact Cal.no b_show_plain F_show_plain.kp m_show_plain fun vs H Q E ⟨d, v, _, ⟨h, _⟩, _⟩ => absurd h (Nat.not_lt_zero _)
    | succ n ih => exact ⟨_, _, ok_show F_show_plain T C_quoted ih, b_show_plain, F_show_plain.kp, m_show_plain⟩
  have C_text : Cal l.prog w K mg base (L2.CX l.prog w) 3 "text_at" ["text", "place"] (spText C) := ⟨_, _, ok_text F_text_at T B, b_text_at, F_text_at.kp, m_text_at⟩
  have C_int : Cal l.prog w K mg base (L2.CX l.prog w) 3 "integer_at" ["text", "place"] (spInt C) := ⟨_, _, ok_int F_integer_at T B, b_integer_at, F_integer_at.kp, m_integer_at⟩
  have C_val : ∀ n, Cal l.prog w K mg base (L2.CX l.prog w) (2 * n + 4) "value_at" ["text", "place", "within"] (spVal C n) := fun n => by
    induction n with
    | zero => exact ⟨_, _, ok_val (n := 0) F_value_at T B C_text C_int (Cal.no b_tuple_at F_tuple_at.kp m_tuple_at fun vs H Q E ⟨m, h, _⟩ => absurd h (by omega)), b_value_at, F_value_at.kp, m_value_at⟩
    | succ n ih =>
      have G := ok_tup F_tuple_at T B ih (by omega)
      exact ⟨_, _, ok_val (n := 2 * n + 2) F_value_at T B C_text C_int ⟨_, _, G.imp fun vs H Q E ⟨k, e, q⟩ => by cases e; exact q, b_tuple_at, F_tuple_at.kp, m_tuple_at⟩, b_value_at, F_value_at.kp, m_value_at⟩
  have C_read : Cal l.prog w K mg base (L2.CX l.prog w) 85 "read_plain" ["text"] (spRead C) := ⟨_, _, ok_read F_read_plain T B (C_val 40) (by omega), b_read_plain, F_read_plain.kp, m_read_plain⟩
  have C_isint : Cal l.prog w K mg base CX0 1 "is_integer" ["thing"] spIsInt := ⟨_, _, ok_is_integer F_is_integer T, b_is_integer, F_is_integer.kp, m_is_integer⟩
  have C_whole : Cal l.prog w K mg base CX0 1 "is_whole_wnames" ["thing", "least", "most"] spWhole := ⟨_, _, ok_is_whole F_is_whole_wnames T, b_is_whole_wnames, F_is_whole_wnames.kp, m_is_whole_wnames⟩
  have C_form : Cal l.prog w K mg base CX0 1 "is_form" ["thing", "word", "many"] spForm := ⟨_, _, ok_is_form F_is_form T, b_is_form, F_is_form.kp, m_is_form⟩
  have C_paper : Cal l.prog w K mg base CX0 1 "is_paper" ["thing", "word", "width"] spForm := ⟨_, _, ok_is_paper F_is_paper T, b_is_paper, F_is_paper.kp, m_is_paper⟩
  have C_of : Cal l.prog w K mg base CX0 1 "is_of" ["thing", "width"] spOf := ⟨_, _, ok_is_of F_is_of T, b_is_of, F_is_of.kp, m_is_of⟩
  have C_name : Cal l.prog w K mg base CX0 1 "is_name_wnames" ["thing"] spName := ⟨_, _, ok_is_name F_is_name_wnames T, b_is_name_wnames, F_is_name_wnames.kp, m_is_name_wnames⟩
  have N_expr : Cal l.prog w K mg base CX0 1 "is_expression" ["thing"] spNever := Cal.no b_is_expression F_is_expression.kp m_is_expression fun _ _ _ _ h => h
  have N_typed : Cal l.prog w K mg base CX0 1 "is_typed" ["thing"] spNever := Cal.no b_is_typed F_is_typed.kp m_is_typed fun _ _ _ _ h => h
  have N_op : Cal l.prog w K mg base CX0 1 "is_typed_operator" ["thing"] spNever := Cal.no b_is_typed_operator F_is_typed_operator.kp m_is_typed_operator fun _ _ _ _ h => h
  have N_poly : Cal l.prog w K mg base CX0 1 "is_typed_poly" ["thing"] spNever := Cal.no b_is_typed_poly F_is_typed_poly.kp m_is_typed_poly fun _ _ _ _ h => h
  have N_seq : Cal l.prog w K mg base CX0 1 "is_typed_sequence" ["thing"] spNever := Cal.no b_is_typed_sequence F_is_typed_sequence.kp m_is_typed_sequence fun _ _ _ _ h => h
  have C_act : Cal l.prog w K mg base CX0 2 "is_act" ["thing", "number"] spAct := ⟨_, _, ok_is_act F_is_act T C_form C_whole C_name N_expr, b_is_act, F_is_act.kp, m_is_act⟩
  have C_notice : Cal l.prog w K mg base CX0 3 "is_notice" ["thing"] spNotice := ⟨_, _, ok_is_notice F_is_notice T C_form C_whole C_act, b_is_notice, F_is_notice.kp, m_is_notice⟩
  have C_promise : Cal l.prog w K mg base CX0 2 "is_promise" ["thing"] spPromise := ⟨_, _, ok_is_promise F_is_promise T C_name C_whole N_typed N_op, b_is_promise, F_is_promise.kp, m_is_promise⟩
  have C_question : Cal l.prog w K mg base CX0 2 "is_question" ["thing"] spQuestion := ⟨_, _, ok_is_question F_is_question T U C_name C_whole, b_is_question, F_is_question.kp, m_is_question⟩
  have C_later : Cal l.prog w K mg base CX0 4 "is_later" ["entry"] spLater := ⟨_, _, ok_is_later F_is_later T C_notice C_promise C_question C_whole, b_is_later, F_is_later.kp, m_is_later⟩
  have C_sum : Cal l.prog w K mg base CX0 1 "sum_behind" ["n", "before", "text"] spSum := ⟨_, _, ok_sum F_sum_behind T, b_sum_behind, F_sum_behind.kp, m_sum_behind⟩
  have C_line : Cal l.prog w K mg base CX0 22 "journal_line" ["n", "before", "entry"] (spLine 20) := ⟨_, _, ok_line F_journal_line T (C_show 20) C_sum, b_journal_line, F_journal_line.kp, m_journal_line⟩
  have C_namev : Cal l.prog w K mg base CX0 1 "is_name_vforms" ["thing"] spNameV := ⟨_, _, ok_name_v F_is_name_vforms T, b_is_name_vforms, F_is_name_vforms.kp, m_is_name_vforms⟩
  have C_ratio : Cal l.prog w K mg base CX0 2 "is_ratio" ["thing"] spRatio := ⟨_, _, ok_ratio F_is_ratio T C_isint, b_is_ratio, F_is_ratio.kp, m_is_ratio⟩
  have C_typed : Cal l.prog w K mg base CX0 3 "is_typed" ["thing"] spTyped := ⟨_, _, ok_typed F_is_typed T C_ratio, b_is_typed, F_is_typed.kp, m_is_typed⟩
  have C_leaf : Cal l.prog w K mg base CX0 4 "is_leaf" ["thing"] spLeaf := ⟨_, _, ok_leaf F_is_leaf T C_paper C_namev C_typed N_poly N_seq, b_is_leaf, F_is_leaf.kp, m_is_leaf⟩
  have C_members : Cal l.prog w K mg base CX0 5 "members_of" ["thing"] spMembers := ⟨_, _, ok_members F_members_of T U C_leaf C_paper C_isint, b_members_of, F_members_of.kp, m_members_of⟩
  have C_expr : Cal l.prog w K mg base CX0 6 "is_expression" ["thing"] spExpr := ⟨_, _, ok_expr F_is_expression T C_members, b_is_expression, F_is_expression.kp, m_is_expression⟩
  have C_names : Cal l.prog w K mg base CX0 6 "names_in" ["expression"] spNames := ⟨_, _, ok_names F_names_in T C_members, b_names_in, F_names_in.kp, m_names_in⟩
  have C_wholeL : Cal l.prog w K mg base CX0 7 "is_whole_language" ["rows"] spWholeL := ⟨_, _, ok_wholeL F_is_whole_language T C_names, b_is_whole_language, F_is_whole_language.kp, m_is_whole_language⟩
  have C_rise : Cal l.prog w K mg base CX0 1 "is_rising" ["thing"] (spRise K) := ⟨_, _, ok_rise F_is_rising T, b_is_rising, F_is_rising.kp, m_is_rising⟩
  have C_book : Cal l.prog w K mg base CX0 8 "is_book" ["thing"] spBook := ⟨_, _, ok_book F_is_book T C_paper C_of C_namev C_rise C_expr C_wholeL, b_is_book, F_is_book.kp, m_is_book⟩
  have C_first : Cal l.prog w K mg base CX0 9 "is_first" ["entry"] spFirst := ⟨_, _, ok_first F_is_first T C_name C_book, b_is_first, F_is_first.kp, m_is_first⟩
  have C_entry : Cal l.prog w K mg base CX0 86 "entry_of" ["text", "n"] spEntry := ⟨_, _, ok_entry F_entry_of T B (by omega) C_read C_first C_later, b_entry_of, F_entry_of.kp, m_entry_of⟩
  have C_journal : Cal l.prog w K mg base CX0 87 "read_journal" ["text"] spJournal := ⟨_, _, ok_journal F_read_journal T C_sum (by omega) C_entry, b_read_journal, F_read_journal.kp, m_read_journal⟩
  have C_pick : Cal l.prog w K mg base CX0 2 "_law_pick" ["box", "things"] spPick := ⟨_, _, ok_pick F__law_pick T C_draw, b__law_pick, F__law_pick.kp, m__law_pick⟩
  have C_like : ∀ n, Cal l.prog w K mg base CX0 (n + 1) "_law_like" ["told", "due"] (spLike n) := fun n => by
    induction n with
    | zero => exact ⟨_, _, ok_like F__law_like T (Cal.no b__law_like F__law_like.kp m__law_like fun vs H Q E ⟨m, h, _⟩ => absurd h (by omega)), b__law_like, F__law_like.kp, m__law_like⟩
    | succ n ih =>
      refine ⟨_, _, ok_like F__law_like T ?_, b__law_like, F__law_like.kp, m__law_like⟩
      obtain ⟨f, fd, F, b, kp, m⟩ := ih.ex
      exact ⟨f, fd, F.imp fun vs H Q E ⟨k, e, q⟩ => by cases e; exact q, b, kp, m⟩
  have C_start : Cal l.prog w K mg base CX0 1 "_law_start" [] spStart := ⟨_, _, ok_start F__law_start T, b__law_start, F__law_start.kp, m__law_start⟩
  have C_ent : Cal l.prog w K mg base CX0 3 "_law_entry" ["box", "at"] spEnt := ⟨_, _, ok_ent F__law_entry T C_draw C_start C_pick, b__law_entry, F__law_entry.kp, m__law_entry⟩
  have C_wrong : Cal l.prog w K mg base CX0 3 "_law_wrong" ["box"] spWrong := ⟨_, _, ok_wrong F__law_wrong T C_start C_pick, b__law_wrong, F__law_wrong.kp, m__law_wrong⟩
  have C_lsum : Cal l.prog w K mg base CX0 1 "_law_sum" ["n", "before", "text"] spLSum := ⟨_, _, ok_lsum F__law_sum T, b__law_sum, F__law_sum.kp, m__law_sum⟩
  have C_lines : Cal l.prog w K mg base CX0 22 "_law_lines" ["entries"] (spLines 20) := ⟨_, _, ok_lines F__law_lines T (C_show 20) C_lsum, b__law_lines, F__law_lines.kp, m__law_lines⟩
  have C_shift : Cal l.prog w K mg base CX0 3 "_law_shifted" ["box", "lines"] spShift := ⟨_, _, ok_shift F__law_shifted T C_draw C_pick, b__law_shifted, F__law_shifted.kp, m__law_shifted⟩
  have C_due : Cal l.prog w K mg base CX0 1 "_law_due" ["entries", "lines", "text"] spDue := ⟨_, _, ok_due F__law_due T, b__law_due, F__law_due.kp, m__law_due⟩
  exact ok_law F_law T C_digits C_draw C_ent C_wrong C_lines C_line (C_like 22) C_shift C_journal C_due
theorem walk {l : PySem.W.OpenLaw} {q : Program} {loose : List Str} {XP : (Str → Option Value) → Heap → Prop} {YP : World → Heap → Prop} {d : DefRec} {K : Params → PySem.W.Frag} (hn : l.most = some 63) (hdf : d.params.defaults = [])
    (hY : ∀ (w : World) (h : Heap), YP w h → (K w.params).In h)
    (F : ∀ (w : World) (mg : Str → Option Value) (fa : Addr) (h : Heap), (K w.params).In h → h.Ns mainGlobals mg → mg d.name = some (.ref fa) →
      ∃ fd : FuncData, (∀ (s : Shared) (u : Value), BindsTo s fd ⟨[u], []⟩ [("script", u)]) ∧ ∀ base : Heap, (K w.params).In base → base.Ns mainGlobals mg → FnOk l.prog w (K w.params) mg base CX0 88 fa fd ["script"] (spLaw (K w.params))) :
    PySem.W.WalkO q loose XP YP l.row.toRowW d [] (fun f vs => PySem.call f vs) :=
  L2.walk_of (n := 63) (k := 88) (x := "script") (CX := fun _ => CX0) (sp := fun w => spLaw (K w.params)) hn (by decide) hdf ⟨rfl, by decide, by decide⟩ hY F (fun _ _ a ns hl _ hS => ⟨a, ns, rfl, hS, fun _ => rfl⟩) fun _ _ _ _ _ z => z
end Tst
open PySem PySem.W PyProof.Rows
set_option maxRecDepth 100000 in
set_option maxHeartbeats 0 in
theorem PySem.Challenge.cw_termstead_k20_journal_chained_holds : PySem.Challenge.rw_termstead_k20_journal_chained.Holds := by
  w_on; o_law; k_head; (case hw => w_witness2)
  k_fill
  refine Tst.walk (l := PySem.Challenge.rw_termstead_k20_journal_chained) rfl rfl (fun w h Y => PySem.W.kIn_of Y) ?F
  case F =>
    intro w mg fa h KX G hmg
    refine' Tst.all_mk (l := PySem.Challenge.rw_termstead_k20_journal_chained) KX G hmg ?a0 ?l0 ?c0 ?k0 ?a1 ?l1 ?c1 ?k1 ?a2 ?l2 ?c2 ?k2 ?a3 ?l3 ?c3 ?k3 ?a4 ?l4 ?c4 ?k4 ?a5 ?l5 ?c5 ?k5 ?a6 ?l6 ?c6 ?k6 ?a7 ?l7 ?c7 ?k7 ?a8 ?l8 ?c8 ?k8 ?a9 ?l9 ?c9 ?k9 ?a10 ?l10 ?c10 ?k10 ?a11 ?l11 ?c11 ?k11 ?a12 ?l12 ?c12 ?k12 ?a13 ?l13 ?c13 ?k13 ?a14 ?l14 ?c14 ?k14 ?a15 ?l15 ?c15 ?k15 ?a16 ?l16 ?c16 ?k16 ?a17 ?l17 ?c17 ?k17 ?a18 ?l18 ?c18 ?k18 ?a19 ?l19 ?c19 ?k19 ?a20 ?l20 ?c20 ?k20 ?a21 ?l21 ?c21 ?k21 ?a22 ?l22 ?c22 ?k22 ?a23 ?l23 ?c23 ?k23 ?a24 ?l24 ?c24 ?k24 ?a25 ?l25 ?c25 ?k25 ?a26 ?l26 ?c26 ?k26 ?a27 ?l27 ?c27 ?k27 ?a28 ?l28 ?c28 ?k28 ?a29 ?l29 ?c29 ?k29 ?a30 ?l30 ?c30 ?k30 ?a31 ?l31 ?c31 ?k31 ?a32 ?l32 ?c32 ?k32 ?a33 ?l33 ?c33 ?k33 ?a34 ?l34 ?c34 ?k34 ?a35 ?l35 ?c35 ?k35 ?a36 ?l36 ?c36 ?k36 ?a37 ?l37 ?c37 ?k37 ?a38 ?l38 ?c38 ?k38 ?a39 ?l39 ?c39 ?k39 ?a40 ?l40 ?c40 ?k40 ?a41 ?l41 ?c41 ?k41 ?a42 ?l42 ?c42 ?k42 ?a43 ?l43 ?c43 ?k43 ?a44 ?l44 ?c44 ?k44 ?a45 ?l45 ?c45 ?k45 ?a46 ?l46 ?c46 ?k46 ?a47 ?l47 ?c47 ?k47 ?a48 ?l48 ?c48 ?k48 ?z_len ?z_isinstance ?z_int ?z_str ?z_tuple ?z_bool ?z_range ?z_ord ?z_list ?z_map ?z_sum ?z_all ?z_any ?z_enumerate ?z_zip ?z_sorted ?z_abs ?z_super ?g_MOST_FIGURES ?g_MOST_BRACKETS ?g_MOST_ABOVE ?g_MOST_BELOW ?g_MOST_WORDS ?g_MOST_DEEP ?g_MOST_ROWS ?g_MOST_SHIFT ?g_MOST_EVERY ?g_MOST_FROM ?g_MOST_MIXED ?g_BY ?g_FIGURES ?g_LETTERS ?g_SIGNS_wnames ?aC ?xC ?xM ?sa ?ga ?gg ?nb ?iI ?tI ?lI ?cI ?kC ?eC ?tC ?hC ?sC ?uC ?lcc ?mC ?lcd ?vC ?fC ?topC ?oC ?alC ?vE ?nd ?xacc ?xgcd ?xP ?lP ?xO ?lO ?xS ?lS ?lowS
    (case a0 => k_is); (case l0 => k_is); (case c0 => k_is); (case k0 => k_is)
    (case a1 => k_is); (case l1 => k_is); (case c1 => k_is); (case k1 => k_is)
    (case a2 => k_is); (case l2 => k_is); (case c2 => k_is); (case k2 => k_is)
    (case a3 => k_is); (case l3 => k_is); (case c3 => k_is); (case k3 => k_is)
    (case a4 => k_is); (case l4 => k_is); (case c4 => k_is); (case k4 => k_is)
    (case a5 => k_is); (case l5 => k_is); (case c5 => k_is); (case k5 => k_is)
    (case a6 => k_is); (case l6 => k_is); (case c6 => k_is); (case k6 => k_is)
    (case a7 => k_is); (case l7 => k_is); (case c7 => k_is); (case k7 => k_is)
    (case a8 => k_is); (case l8 => k_is); (case c8 => k_is); (case k8 => k_is)
    (case a9 => k_is); (case l9 => k_is); (case c9 => k_is); (case k9 => k_is)
    (case a10 => k_is); (case l10 => k_is); (case c10 => k_is); (case k10 => k_is)
    (case a11 => k_is); (case l11 => k_is); (case c11 => k_is); (case k11 => k_is)
    (case a12 => k_is); (case l12 => k_is); (case c12 => k_is); (case k12 => k_is)
    (case a13 => k_is); (case l13 => k_is); (case c13 => k_is); (case k13 => k_is)
    (case a14 => k_is); (case l14 => k_is); (case c14 => k_is); (case k14 => k_is)
    (case a15 => k_is); (case l15 => k_is); (case c15 => k_is); (case k15 => k_is)
    (case a16 => k_is); (case l16 => k_is); (case c16 => k_is); (case k16 => k_is)
    (case a17 => k_is); (case l17 => k_is); (case c17 => k_is); (case k17 => k_is)
    (case a18 => k_is); (case l18 => k_is); (case c18 => k_is); (case k18 => k_is)
    (case a19 => k_is); (case l19 => k_is); (case c19 => k_is); (case k19 => k_is)
    (case a20 => k_is); (case l20 => k_is); (case c20 => k_is); (case k20 => k_is)
    (case a21 => k_is); (case l21 => k_is); (case c21 => k_is); (case k21 => k_is)
    (case a22 => k_is); (case l22 => k_is); (case c22 => k_is); (case k22 => k_is)
    (case a23 => k_is); (case l23 => k_is); (case c23 => k_is); (case k23 => k_is)
    (case a24 => k_is); (case l24 => k_is); (case c24 => k_is); (case k24 => k_is)
    (case a25 => k_is); (case l25 => k_is); (case c25 => k_is); (case k25 => k_is)
    (case a26 => k_is); (case l26 => k_is); (case c26 => k_is); (case k26 => k_is)
    (case a27 => k_is); (case l27 => k_is); (case c27 => k_is); (case k27 => k_is)
    (case a28 => k_is); (case l28 => k_is); (case c28 => k_is); (case k28 => k_is)
    (case a29 => k_is); (case l29 => k_is); (case c29 => k_is); (case k29 => k_is)
    (case a30 => k_is); (case l30 => k_is); (case c30 => k_is); (case k30 => k_is)
    (case a31 => k_is); (case l31 => k_is); (case c31 => k_is); (case k31 => k_is)
    (case a32 => k_is); (case l32 => k_is); (case c32 => k_is); (case k32 => k_is)
    (case a33 => k_is); (case l33 => k_is); (case c33 => k_is); (case k33 => k_is)
    (case a34 => k_is); (case l34 => k_is); (case c34 => k_is); (case k34 => k_is)
    (case a35 => k_is); (case l35 => k_is); (case c35 => k_is); (case k35 => k_is)
    (case a36 => k_is); (case l36 => k_is); (case c36 => k_is); (case k36 => k_is)
    (case a37 => k_is); (case l37 => k_is); (case c37 => k_is); (case k37 => k_is)
    (case a38 => k_is); (case l38 => k_is); (case c38 => k_is); (case k38 => k_is)
    (case a39 => k_is); (case l39 => k_is); (case c39 => k_is); (case k39 => k_is)
    (case a40 => k_is); (case l40 => k_is); (case c40 => k_is); (case k40 => k_is)
    (case a41 => k_is); (case l41 => k_is); (case c41 => k_is); (case k41 => k_is)
    (case a42 => k_is); (case l42 => k_is); (case c42 => k_is); (case k42 => k_is)
    (case a43 => k_is); (case l43 => k_is); (case c43 => k_is); (case k43 => k_is)
    (case a44 => k_is); (case l44 => k_is); (case c44 => k_is); (case k44 => k_is)
    (case a45 => k_is); (case l45 => k_is); (case c45 => k_is); (case k45 => k_is)
    (case a46 => k_is); (case l46 => k_is); (case c46 => k_is); (case k46 => k_is)
    (case a47 => k_is); (case l47 => k_is); (case c47 => k_is); (case k47 => k_is)
    (case a48 => k_is); (case l48 => k_is); (case c48 => k_is); (case k48 => k_is)
    (case z_len => k_is)
    (case z_isinstance => k_is)
    (case z_int => k_is)
    (case z_str => k_is)
    (case z_tuple => k_is)
    (case z_bool => k_is)
    (case z_range => k_is)
    (case z_ord => k_is)
    (case z_list => k_is)
    (case z_map => k_is)
    (case z_sum => k_is)
    (case z_all => k_is)
    (case z_any => k_is)
    (case z_enumerate => k_is)
    (case z_zip => k_is)
    (case z_sorted => k_is)
    (case z_abs => k_is)
    (case z_super => k_is)
    (case g_MOST_FIGURES => k_is)
    (case g_MOST_BRACKETS => k_is)
    (case g_MOST_ABOVE => k_is)
    (case g_MOST_BELOW => k_is)
    (case g_MOST_WORDS => k_is)
    (case g_MOST_DEEP => k_is)
    (case g_MOST_ROWS => k_is)
    (case g_MOST_SHIFT => k_is)
    (case g_MOST_EVERY => k_is)
    (case g_MOST_FROM => k_is)
    (case g_MOST_MIXED => k_is)
    (case g_BY => k_is)
    (case g_FIGURES => k_is)
    (case g_LETTERS => k_is)
    (case g_SIGNS_wnames => k_is)
    (case aC => k_is); (case xC => k_is); (case xM => decide +kernel); (case sa => k_is); (case ga => k_is); (case gg => k_is); (case nb => k_is); (case iI => k_is); (case tI => k_is); (case lI => k_is); (case cI => k_is)
    (case kC => k_is); (case eC => k_is); (case tC => k_is); (case hC => k_is); (case sC => k_is); (case uC => k_is); (case lcc => k_is); (case mC => k_is); (case lcd => k_is); (case vC => rfl); (case fC => first | rfl | decide +kernel); (case topC => first | rfl | decide +kernel); (case oC => k_is); (case alC => first | rfl | kernel_rfl); (case vE => k_is)
    (case nd => k_is); (case xacc => k_is); (case xgcd => k_is); (case xP => k_is); (case lP => k_is); (case xO => k_is); (case lO => k_is); (case xS => k_is); (case lS => k_is); (case lowS => first | rfl | decide +kernel)
