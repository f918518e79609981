import PyProof.Rows.All
import Wide.All
import OpenK.AllK
import Wide.FinOn
import PyProof.Draws
import PyProof.EnumMake
import PyProof.Rows.StrStep
import PyProof.StrLawsLast
import PyProof.StrLawsIn
import KE.KRevSl
import HandS.ForMost
import HandS.StrMore
import HandS.Walk
import HandS.Style
import PySem.Challenge.RW_gapstone_k13_whole_words_do_and_undo
set_option Elab.async false
set_option linter.all false
set_option maxRecDepth 100000
set_option maxHeartbeats 5000000
/-! Words of letters as lists of codes: reduced by a stack, the part up to the last s, and what the law asks of them. Plain Lean. -/
namespace K13
/-- a letter on a stack: it takes a like one off -/
def psh (st : List Nat) (c : Nat) : List Nat := match st with
  | [] => [c]
  | d :: r => if d = c then r else c :: d :: r
def act (st w : List Nat) : List Nat := w.foldl psh st
def shrt (w : List Nat) : List Nat := (act [] w).reverse
/-- no two neighbours alike -/
def Rd : List Nat → Prop
  | [] => True
  | a :: r => r.head? ≠ some a ∧ Rd r
theorem Rd_nil : Rd [] := trivial
theorem act_nil (st : List Nat) : act st [] = st := rfl
theorem act_cons (st : List Nat) (c : Nat) (w : List Nat) : act st (c :: w) = act (psh st c) w := rfl
theorem act_append (st u v : List Nat) : act st (u ++ v) = act (act st u) v := List.foldl_append
theorem psh_same (c : Nat) (r : List Nat) : psh (c :: r) c = r := by
  show (if c = c then r else c :: c :: r) = r
  rw [if_pos rfl]
theorem psh_other {c d : Nat} (h : d ≠ c) (r : List Nat) : psh (d :: r) c = c :: d :: r := by
  show (if d = c then r else c :: d :: r) = c :: d :: r
  rw [if_neg h]
theorem psh_head {st : List Nat} {c : Nat} (h : st.head? ≠ some c) : psh st c = c :: st := by
  cases st with
  | nil => rfl
  | cons d r => exact psh_other (fun e => h (by rw [List.head?_cons, e])) r
theorem Rd_psh {st : List Nat} (h : Rd st) (c : Nat) : Rd (psh st c) := by
  cases st with
  | nil => exact ⟨(fun e => nomatch e), trivial⟩
  | cons d r =>
    by_cases e : d = c
    · subst e
      rw [psh_same]
      exact h.2
    · rw [psh_other e]
      exact ⟨fun z => e (Option.some.inj z), h⟩
theorem psh_psh {st : List Nat} (h : Rd st) (c : Nat) : psh (psh st c) c = st := by
  cases st with
  | nil => exact psh_same c []
  | cons d r =>
    by_cases e : d = c
    · subst e
      rw [psh_same, psh_head h.1]
    · rw [psh_other e, psh_same]
theorem Rd_act : ∀ (w : List Nat) {st : List Nat}, Rd st → Rd (act st w)
  | [], _, h => h
  | c :: w, _, h => Rd_act w (Rd_psh h c)
/-- undone from behind -/
theorem act_undo : ∀ (a : List Nat) {st : List Nat}, Rd st → act (act st a) a.reverse = st
  | [], _, _ => rfl
  | c :: a, st, h => by
    have e : act st (c :: a) = act (psh st c) a := rfl
    rw [List.reverse_cons, act_append, e, act_undo a (Rd_psh h c)]
    show psh (psh st c) c = st
    exact psh_psh h c
theorem act_rev_psh {st : List Nat} (h : Rd st) (s : List Nat) (c : Nat) : act st (psh s c).reverse = psh (act st s.reverse) c := by
  cases s with
  | nil => rfl
  | cons d r =>
    by_cases e : d = c
    · subst e
      rw [psh_same, List.reverse_cons, act_append]
      exact (psh_psh (Rd_act _ h) d).symm
    · rw [psh_other e, List.reverse_cons, act_append]
      rfl
theorem act_rev {st : List Nat} (h : Rd st) : ∀ (w s : List Nat), act st (act s w).reverse = act (act st s.reverse) w
  | [], _ => rfl
  | c :: w, s => by
    rw [act_cons, act_rev h w (psh s c), act_rev_psh h, act_cons]
/-- a text does what it does reduced -/
theorem act_shrt {st : List Nat} (h : Rd st) (w : List Nat) : act st (shrt w) = act st w := act_rev h w []
/-- a word adds itself -/
theorem act_word : ∀ (w : List Nat) {s : List Nat}, Rd w → (∀ c, w.head? = some c → s.head? ≠ some c) → act s w = w.reverse ++ s
  | [], _, _, _ => rfl
  | c :: w, s, h, k => by
    have hs : s.head? ≠ some c := k c rfl
    rw [act_cons, psh_head hs, act_word w h.2 (fun d hd z => h.1 (by rw [hd, ← z, List.head?_cons])), List.reverse_cons, List.append_assoc]
    rfl
theorem shrt_word {w : List Nat} (h : Rd w) : shrt w = w := by
  unfold shrt
  rw [act_word w h (s := []) (fun _ _ z => nomatch z), List.append_nil, List.reverse_reverse]
theorem Rd_reverse {w : List Nat} (h : Rd w) : Rd w.reverse := by
  have e := act_word w h (s := []) (fun _ _ z => nomatch z)
  rw [List.append_nil] at e
  rw [← e]
  exact Rd_act w Rd_nil
theorem Rd_shrt (w : List Nat) : Rd (shrt w) := Rd_reverse (Rd_act w Rd_nil)
theorem act_swap {t : List Nat} (h : Rd t) (s : List Nat) (c : Nat) : act t (psh s c) = act (psh t c) s := by
  cases s with
  | nil => rfl
  | cons d r =>
    by_cases e : d = c
    · subst e
      rw [psh_same, act_cons, psh_psh h]
    · rw [psh_other e]
      rfl
theorem act_act {st : List Nat} (h : Rd st) : ∀ (w s : List Nat), act st (act s w) = act (act st w.reverse) s
  | [], _ => rfl
  | c :: w, s => by
    rw [act_cons, act_act h w (psh s c), act_swap (Rd_act _ h), List.reverse_cons, act_append]
    rfl
theorem shrt_reverse (w : List Nat) : shrt w.reverse = (shrt w).reverse := by
  have e : act [] w.reverse = act [] (act [] w) := (act_act (st := []) Rd_nil w []).symm
  have e2 : shrt (act [] w) = act [] w := shrt_word (Rd_act w Rd_nil)
  unfold shrt at e2 ⊢
  rw [e, e2, List.reverse_reverse]
/-! ### sizes and letters -/
theorem psh_len (st : List Nat) (c : Nat) : (psh st c).length ≤ st.length + 1 := by
  cases st with
  | nil => exact Nat.le_refl _
  | cons d r =>
    by_cases e : d = c
    · subst e
      rw [psh_same, List.length_cons]
      omega
    · rw [psh_other e]
      exact Nat.le_refl _
theorem act_len : ∀ (w st : List Nat), (act st w).length ≤ st.length + w.length
  | [], _ => Nat.le_refl _
  | c :: w, st => by
    have h1 := act_len w (psh st c)
    have h2 := psh_len st c
    rw [act_cons, List.length_cons]
    omega
theorem shrt_len (w : List Nat) : (shrt w).length ≤ w.length := by
  have h := act_len w []
  unfold shrt
  rw [List.length_reverse]
  simpa using h
/-- letters a to d -/
def Lt (w : List Nat) : Prop := ∀ c ∈ w, 97 ≤ c ∧ c ≤ 100
theorem Lt.app {a b : List Nat} (ha : Lt a) (hb : Lt b) : Lt (a ++ b) := fun c hc => by
  rcases List.mem_append.mp hc with m | m
  · exact ha c m
  · exact hb c m
theorem Lt.rev {a : List Nat} (ha : Lt a) : Lt a.reverse := fun c hc => ha c (List.mem_reverse.mp hc)
theorem Lt.psh {st : List Nat} (h : Lt st) {c : Nat} (hc : 97 ≤ c ∧ c ≤ 100) : Lt (psh st c) := fun x hx => by
  cases st with
  | nil =>
    have e : x = c := by simpa [K13.psh] using hx
    rw [e]
    exact hc
  | cons d r =>
    by_cases e : d = c
    · subst e
      rw [psh_same] at hx
      exact h x (List.mem_cons_of_mem _ hx)
    · rw [psh_other e] at hx
      rcases List.mem_cons.mp hx with q | q
      · rw [q]
        exact hc
      · exact h x q
theorem Lt.act : ∀ {w st : List Nat}, Lt st → Lt w → Lt (act st w)
  | [], _, h, _ => h
  | c :: w, st, h, k => Lt.act (w := w) (st := K13.psh st c) (h.psh (k c List.mem_cons_self)) fun x hx => k x (List.mem_cons_of_mem _ hx)
theorem Lt.shrt {w : List Nat} (h : Lt w) : Lt (shrt w) := (Lt.act (st := []) (fun _ z => nomatch z) h).rev
theorem Lt.nil : Lt [] := fun _ z => nomatch z
/-! ### the part up to the last s -/
/-- on a stack: from the first s on -/
def dr (s : Nat) (st : List Nat) : List Nat := st.dropWhile fun c => c != s
def cut (s : Nat) (w : List Nat) : List Nat := (dr s w.reverse).reverse
theorem dr_cons_ne {s c : Nat} (h : c ≠ s) (r : List Nat) : dr s (c :: r) = dr s r := by
  unfold dr
  rw [List.dropWhile_cons, if_pos (by simpa using h)]
theorem dr_cons_eq (s : Nat) (r : List Nat) : dr s (s :: r) = s :: r := by
  unfold dr
  rw [List.dropWhile_cons, if_neg (by simp)]
theorem dr_psh {s c : Nat} (h : c ≠ s) (st : List Nat) : dr s (psh st c) = dr s st := by
  cases st with
  | nil => exact dr_cons_ne h []
  | cons d r =>
    by_cases e : d = c
    · subst e
      rw [psh_same, dr_cons_ne h]
    · rw [psh_other e, dr_cons_ne h]
theorem dr_act {s : Nat} : ∀ (t st : List Nat), (∀ c ∈ t, c ≠ s) → dr s (act st t) = dr s st
  | [], _, _ => rfl
  | c :: t, st, h => by
    rw [act_cons, dr_act t _ fun x hx => h x (List.mem_cons_of_mem _ hx), dr_psh (h c List.mem_cons_self)]
theorem dr_split (s : Nat) : ∀ st : List Nat, ∃ t, st = t ++ dr s st ∧ ∀ c ∈ t, c ≠ s
  | [] => ⟨[], rfl, fun _ z => nomatch z⟩
  | c :: r => by
    by_cases e : c = s
    · subst e
      exact ⟨[], (dr_cons_eq c r).symm, fun _ z => nomatch z⟩
    · obtain ⟨t, h1, h2⟩ := dr_split s r
      refine ⟨c :: t, ?_, fun x hx => ?_⟩
      · rw [dr_cons_ne e, List.cons_append, ← h1]
      · rcases List.mem_cons.mp hx with q | q
        · rw [q]
          exact e
        · exact h2 x q
theorem cut_split (s : Nat) (w : List Nat) : ∃ t, w = cut s w ++ t ∧ ∀ c ∈ t, c ≠ s := by
  obtain ⟨t, h1, h2⟩ := dr_split s w.reverse
  refine ⟨t.reverse, ?_, fun c hc => h2 c (List.mem_reverse.mp hc)⟩
  have e := congrArg List.reverse h1
  rw [List.reverse_reverse, List.reverse_append] at e
  exact e
theorem dr_dr (s : Nat) : ∀ st : List Nat, dr s (dr s st) = dr s st
  | [] => rfl
  | c :: r => by
    by_cases e : c = s
    · subst e
      rw [dr_cons_eq, dr_cons_eq]
    · rw [dr_cons_ne e]
      exact dr_dr s r
theorem cut_cut (s : Nat) (w : List Nat) : cut s (cut s w) = cut s w := by
  unfold cut
  rw [List.reverse_reverse, dr_dr]
/-- only the part up to the last s counts -/
theorem cut_inner (s : Nat) (v g : List Nat) : cut s (shrt (v ++ cut s g)) = cut s (shrt (v ++ g)) := by
  obtain ⟨t, e, h⟩ := cut_split s g
  have e1 : act [] (v ++ g) = act (act [] (v ++ cut s g)) t := by
    rw [← act_append, List.append_assoc, ← e]
  unfold cut at e1 ⊢
  unfold shrt
  rw [List.reverse_reverse, List.reverse_reverse, e1, dr_act t _ h]
theorem cut_len (s : Nat) (w : List Nat) : (cut s w).length ≤ w.length := by
  obtain ⟨t, e, _⟩ := cut_split s w
  have sizes := congrArg List.length e
  rw [List.length_append] at sizes
  omega
theorem Lt.cut {w : List Nat} (h : Lt w) (s : Nat) : Lt (cut s w) := fun c hc => by
  obtain ⟨t, e, _⟩ := cut_split s w
  exact h c (by rw [e]; exact List.mem_append_left _ hc)
theorem Rd_app_left : ∀ {a b : List Nat}, Rd (a ++ b) → Rd a
  | [], _, _ => trivial
  | c :: a, b, h => ⟨fun z => h.1 (by cases a with
      | nil => cases z
      | cons d r => exact z), Rd_app_left (a := a) h.2⟩
theorem Rd_cut {w : List Nat} (h : Rd w) (s : Nat) : Rd (cut s w) := by
  obtain ⟨t, e, _⟩ := cut_split s w
  rw [e] at h
  exact Rd_app_left h
theorem dr_head (s : Nat) : ∀ (st : List Nat) (c : Nat) (r : List Nat), dr s st = c :: r → c = s
  | [], _, _, h => nomatch h
  | d :: l, c, r, h => by
    by_cases e : d = s
    · subst e
      rw [dr_cons_eq] at h
      exact (List.cons.inj h).1.symm
    · rw [dr_cons_ne e] at h
      exact dr_head s l c r h
/-- it is empty or ends with s -/
theorem cut_last (s : Nat) (w : List Nat) : cut s w = [] ∨ ∃ p, cut s w = p ++ [s] := by
  unfold cut
  cases q : dr s w.reverse with
  | nil => exact .inl rfl
  | cons c r =>
    have e := dr_head s _ c r q
    subst e
    exact .inr ⟨r.reverse, List.reverse_cons⟩
theorem cut_snoc (s : Nat) (p : List Nat) : cut s (p ++ [s]) = p ++ [s] := by
  unfold cut
  rw [List.reverse_append, List.reverse_singleton, List.singleton_append, dr_cons_eq, List.reverse_cons, List.reverse_reverse]
theorem dr_none {s : Nat} : ∀ {st : List Nat}, (∀ c ∈ st, c ≠ s) → dr s st = []
  | [], _ => rfl
  | c :: r, h => by
    rw [dr_cons_ne (h c List.mem_cons_self)]
    exact dr_none fun x hx => h x (List.mem_cons_of_mem _ hx)
theorem cut_none {s : Nat} {w : List Nat} (h : ∀ c ∈ w, c ≠ s) : cut s w = [] := by
  unfold cut
  rw [dr_none fun c hc => h c (List.mem_reverse.mp hc)]
  rfl
theorem dr_app {s : Nat} : ∀ {t : List Nat} (u : List Nat), (∀ c ∈ t, c ≠ s) → dr s (t ++ u) = dr s u
  | [], _, _ => rfl
  | c :: t, u, h => by
    rw [List.cons_append, dr_cons_ne (h c List.mem_cons_self)]
    exact dr_app u fun x hx => h x (List.mem_cons_of_mem _ hx)
theorem cut_app {s : Nat} {p t : List Nat} (h : ∀ c ∈ t, c ≠ s) : cut s (p ++ t) = cut s p := by
  unfold cut
  rw [List.reverse_append, dr_app _ fun c hc => h c (List.mem_reverse.mp hc)]
/-- the last s stands at k -/
theorem cut_take {s k : Nat} {w : List Nat} (h : w[k]? = some s) (n : ∀ j, k < j → w[j]? ≠ some s) : cut s w = w.take (k + 1) := by
  have e : w.take (k + 1) = w.take k ++ [s] := by
    rw [List.take_add_one, h]
    rfl
  have hd : ∀ c ∈ w.drop (k + 1), c ≠ s := fun c hc z => by
    obtain ⟨i, hi⟩ := List.getElem?_of_mem hc
    rw [List.getElem?_drop] at hi
    rw [z] at hi
    exact n (k + 1 + i) (by omega) hi
  have w' : w = w.take (k + 1) ++ w.drop (k + 1) := (List.take_append_drop _ _).symm
  rw [e] at w' ⊢
  have q : cut s (w.take k ++ [s] ++ w.drop (k + 1)) = w.take k ++ [s] := by
    rw [cut_app hd, cut_snoc]
  rw [← w'] at q
  exact q
/-! ### a call: what stands before its letter's last swap, and the letter; its text -/
/-- the letter's great one, or the word -/
def cal (i : List Nat) (s : Nat) : List Nat := if i = [] then [s - 32] else i
/-- the inner of the turned call -/
def trn (v i : List Nat) (s : Nat) : List Nat := cut s (shrt (v.reverse ++ i))
theorem cut_trn (v i : List Nat) (s : Nat) : cut s (trn v i s) = trn v i s := cut_cut _ _
theorem trn_back {v i : List Nat} {s : Nat} (hi : Rd i) (hc : cut s i = i) : trn v.reverse (trn v i s) s = i := by
  unfold trn
  rw [List.reverse_reverse, cut_inner]
  have e : shrt (v ++ shrt (v.reverse ++ i)) = i := by
    have e1 : act [] (v ++ shrt (v.reverse ++ i)) = act [] i := by
      rw [act_append, act_shrt (Rd_act _ Rd_nil), act_append, act_undo v Rd_nil]
    have e2 := shrt_word hi
    unfold shrt at e1 e2 ⊢
    rw [e1, e2]
  rw [e, hc]
theorem trn_join (u v i : List Nat) (s : Nat) : trn v (trn u i s) s = trn (shrt (u ++ v)) i s := by
  unfold trn
  rw [cut_inner, ← shrt_reverse, List.reverse_append]
  have e : shrt (v.reverse ++ shrt (u.reverse ++ i)) = shrt (shrt (v.reverse ++ u.reverse) ++ i) := by
    have e1 : act [] (v.reverse ++ shrt (u.reverse ++ i)) = act [] (shrt (v.reverse ++ u.reverse) ++ i) := by
      rw [act_append, act_shrt (Rd_act _ Rd_nil), act_append _ (shrt _), act_shrt Rd_nil, act_append, act_append]
    unfold shrt at e1 ⊢
    rw [e1]
  rw [e]
theorem join_assoc (a b c : List Nat) : shrt (shrt (a ++ b) ++ c) = shrt (a ++ shrt (b ++ c)) := by
  have e1 : act [] (shrt (a ++ b) ++ c) = act [] (a ++ shrt (b ++ c)) := by
    rw [act_append, act_shrt Rd_nil, act_append _ a (shrt _), act_shrt (Rd_act _ Rd_nil), act_append, act_append]
  unfold shrt at e1 ⊢
  rw [e1]
theorem join_undone (a : List Nat) : shrt (a ++ a.reverse) = [] := by
  unfold shrt
  rw [act_append, act_undo a Rd_nil]
  rfl
theorem undone_join (a b : List Nat) : (shrt (a ++ b)).reverse = shrt (b.reverse ++ a.reverse) := by
  rw [← shrt_reverse, List.reverse_append]
theorem join_nil {a : List Nat} (h : Rd a) : shrt (a ++ []) = a := by
  rw [List.append_nil, shrt_word h]
/-- a word: its letters, no two neighbours alike -/
structure Wd (w : List Nat) (n : Nat) : Prop where
  lt : Lt w
  rd : Rd w
  len : w.length ≤ n
theorem Wd.shrt {w : List Nat} {n : Nat} (h : Lt w) (l : w.length ≤ n) : Wd (K13.shrt w) n := ⟨h.shrt, Rd_shrt w, Nat.le_trans (shrt_len w) l⟩
theorem Wd.rev {w : List Nat} {n : Nat} (h : Wd w n) : Wd w.reverse n := ⟨h.lt.rev, Rd_reverse h.rd, by rw [List.length_reverse]; exact h.len⟩
theorem Wd.mono {w : List Nat} {n m : Nat} (h : Wd w n) (l : n ≤ m) : Wd w m := ⟨h.lt, h.rd, Nat.le_trans h.len l⟩
theorem Wd.join {a b : List Nat} {n m : Nat} (h : Wd a n) (k : Wd b m) : Wd (K13.shrt (a ++ b)) (n + m) :=
  Wd.shrt (h.lt.app k.lt) (by rw [List.length_append]; have := h.len; have := k.len; omega)
/-- a call, of at most n letters -/
structure Cl (i : List Nat) (s n : Nat) : Prop where
  wd : Wd i n
  le : 97 ≤ s ∧ s ≤ 100
  ct : cut s i = i
theorem Cl.trn {v i : List Nat} {s n m : Nat} (c : Cl i s n) (h : Wd v m) : Cl (trn v i s) s (m + n) := by
  have w : Wd (K13.shrt (v.reverse ++ i)) (m + n) := h.rev.join c.wd
  exact ⟨⟨w.lt.cut s, Rd_cut w.rd s, Nat.le_trans (cut_len _ _) w.len⟩, c.le, cut_trn _ _ _⟩
/-- neighbours by places -/
theorem Rd_at : ∀ {w : List Nat} {k c : Nat}, Rd w → w[k]? = some c → w[k + 1]? ≠ some c
  | [], _, _, _, at_ => by simp at at_
  | a :: r, 0, c, h, e => fun z => by
    have ea : a = c := Option.some.inj e
    rw [ea] at h
    have z' : r[0]? = some c := z
    rw [← List.head?_eq_getElem?] at z'
    exact h.1 z'
  | a :: r, k + 1, c, h, e => fun z => Rd_at (w := r) (k := k) (c := c) h.2 e z
theorem Rd_snoc : ∀ {w : List Nat} {c : Nat}, Rd w → w.getLast? ≠ some c → Rd (w ++ [c])
  | [], c, _, _ => show Rd [c] from ⟨(fun z => nomatch z), trivial⟩
  | [a], c, _, n => show Rd [a, c] from ⟨fun z => n (by rw [List.getLast?_singleton]; exact z.symm), (fun z => nomatch z), trivial⟩
  | a :: b :: r, c, h, n => show Rd (a :: (b :: r ++ [c])) from ⟨h.1, Rd_snoc (w := b :: r) h.2 (by rw [List.getLast?_cons_cons] at n; exact n)⟩
end K13

/-! Rules that the bundles have no row for: for i, c in enumerate(text); text[lo:hi:k]; text.index(sign) that is there. -/
namespace K13R
open PySem PySem.Spec PyProof.Rows L2

/-! ### whatever makes a tuple at each turn (WalksT), as what a for of the layer walks -/
/-- the tuples that are made: turn i hands out a new tuple of the values val i -/
structure Made (P : Program) (w : World) (e : Addr) (ch : List Addr) (n : Nat) (val : Nat → List V) (tn : Nat → Heap → Prop) (md : Nat → Addr → Heap → Prop) : Prop where
  walk : ∀ A : Around, A.handled = none → WalksT P w A e ch ch n (fun i us => i < n ∧ Vals (val i) us.toList) tn md
  few : ∀ i, (val i).length ≤ sizeLine
  mine : e ∈ ch
  live : ∀ i h, tn i h → ∀ c ∈ ch, ∃ o, h.get? c = some o ∧ ∀ v, o.data ≠ .cell v
  stay : ∀ i h h', tn i h → (∀ c ∈ ch, ∀ o, h.get? c = some o → h'.get? c = some o) → tn i h'
  itself : ∀ (A : Around) (i : Nat) (s : Shared) (Q : Value → Shared → Prop) (E : Value → Shared → Prop), tn i s.heap → Q (.ref e) s → wpAny (model P w) A (pyIter (.ref e)) Q E s
def ItM (n : Nat) (val : Nat → List V) : It :=
  ⟨fun i _ => i < n, fun i H v H' => i < n ∧ ∃ t, v = .ref t ∧ H t = none ∧ H' = upd H t (.tup (val i)), fun i _ => i = n⟩
theorem walk_made {n : Nat} {val : Nat → List V} : Walk (ItM n val) n (fun _ => True) (fun i H v H' => i < n ∧ ∃ t, v = .ref t ∧ H t = none ∧ H' = upd H t (.tup (val i))) where
  goes := fun _ _ lt _ => lt
  stops := fun _ _ => rfl
  yields := fun _ _ _ _ _ _ made => made
section
variable {P : Program} {w : World} {K : PySem.W.Frag} {e : Addr} {ch : List Addr} {n : Nat} {val : Nat → List V} {tn : Nat → Heap → Prop} {md : Nat → Addr → Heap → Prop}
theorem Made.turn (D : Made P w e ch n val tn md) {parts : List Expr} {kd : Nat} {at_ : Pos} : Turn P w K (.Tuple parts kd at_) (ItM n val) ch e tn where
  mem := D.mine
  obj := D.live
  keep := D.stay
  self := D.itself
  item := by
    rintro X rfl rfl rfl calm i pins s σ H E inv own st lt
    refine (D.walk X.A (inv.ok.hd calm)).item i s _ E lt st ?_
    rintro t us h1 k1 ⟨_, rel⟩ young tup mid kept
    refine ⟨_, rfl, (D.walk X.A (inv.ok.hd calm)).go parts kd at_ i t _ _ E mid ?_⟩
    intro h2 st2 kept2
    have apart : t ∉ ch := (D.walk X.A (inv.ok.hd calm)).apart i t h1 mid
    have free : H t = none := inv.hok.fresh young
    obtain ⟨o, ho, isT, m, dat⟩ := tup
    have laid : ObjOk X.prog X.w (upd H t (.tup (val i))) h2 t (.tup (val i)) := ⟨D.few i, us.toList, rel, o, kept2 t o apart ho, isT, m, dat⟩
    have both : ∀ c o, c ∉ ch → s.heap.get? c = some o → h2.get? c = some o := fun c o out he => kept2 c o out (kept c o out he)
    refine ⟨.ref t, upd H t (.tup (val i)), inv.turnedNew both own young laid, rfl, ⟨lt, t, rfl, free, rfl⟩, st2, ?_⟩
    intro c hc
    have other : c ≠ t := fun z => apart (z ▸ hc)
    exact (upd_ne other).trans (own c hc).1
  done := by
    rintro X rfl rfl rfl calm i pins s σ H E inv own st rfl
    refine (D.walk X.A (inv.ok.hd calm)).done s _ E st ?_
    intro h1 k1 kept
    exact ⟨rfl, inv.turnedL kept own⟩
end
/-! ### enumerate(text) -/
/-- a place and the sign there -/
def signAt (z : Str) (i : Nat) : List V := [.int (i : Nat), .str ⟨#[z.cps.getD i 0]⟩]
/-- between two turns: the counter at e stands at i, the text's iterator at it too -/
def EnumS (z : Str) (t : Tok) (e it : Addr) (i : Nat) (h : Heap) : Prop := (∃ old, IsEnum h e it (i : Nat) old) ∧ h.IsStrIter it (strIterType z) z t i
theorem signs {P : Program} {w : World} {A : Around} (calm : A.handled = none) (it : Addr) (z : Str) (t : Tok) :
    Draws P w A it [it] z.cps.size (fun i v => ∃ c u, z.cps[i]? = some c ∧ v = .str ⟨#[c]⟩ u) (fun i h => h.IsStrIter it (strIterType z) z t i) := by
  by_cases ascii : z.cps.all (· < 128) = true
  · have k : strIterType z = "str_ascii_iterator" := if_pos ascii
    rw [k]
    exact .strAscii calm it z t
  · have k : strIterType z = "str_iterator" := if_neg ascii
    rw [k]
    exact .strWide calm it z t
theorem enum_made {P : Program} {w : World} (z : Str) (t : Tok) {e it : Addr} (apart : e ≠ it) :
    Made P w e [e, it] z.cps.size (signAt z) (EnumS z t e it) (fun i T h => (∃ x, IsEnumOut h e it ((i : Int) + 1) x T) ∧ h.IsStrIter it (strIterType z) z t (i + 1) ∧ T ≠ e ∧ T ≠ it) where
  walk := fun A calm => by
    have W := WalksT.enumerateD (signs (P := P) (w := w) (A := A.in1) calm it z t) e apart (fun m => apart (List.mem_singleton.mp m)) List.mem_cons_self
    refine ⟨W.sub, W.frame, fun i s Q E lt st q => W.item i s Q E lt st ?_, W.go, W.apart, W.done, W.self⟩
    rintro T us h tk ⟨k, x, ⟨c, u, hc, rfl⟩, rfl⟩ young tup mid kept
    have c0 : z.cps.getD i 0 = c := by rw [Array.getD_eq_getD_getElem?, hc, Option.getD_some]
    refine q T _ h tk ⟨lt, ?_⟩ young tup mid kept
    unfold signAt
    rw [c0]
    exact .cons ⟨k, rfl⟩ (.cons ⟨u, rfl⟩ .nil)
  few := fun _ => by show 2 ≤ sizeLine; decide
  mine := List.mem_cons_self
  live := by
    rintro i h ⟨⟨old, at_e⟩, o, at_it, _, dat⟩ c hc
    rcases List.mem_cons.mp hc with rfl | last
    · exact ⟨_, at_e, fun v z => by cases z⟩
    · cases List.mem_singleton.mp last
      exact ⟨o, at_it, fun v z => by rw [dat] at z; cases z⟩
  stay := by
    rintro i h h' ⟨⟨old, at_e⟩, o, at_it, r⟩ k
    exact ⟨⟨old, k e List.mem_cons_self _ at_e⟩, o, k it (List.mem_cons_of_mem _ List.mem_cons_self) o at_it, r⟩
  itself := by
    rintro A i s Q E ⟨⟨old, at_e⟩, _⟩ q
    exact wpAny_pyIter_enum at_e q
def iEnumS (ta : TA) : TI := fun σ H R => ta σ H fun vs H' => ∃ z : Str, vs = [.str z] ∧ R (ItM z.cps.size (signAt z)) H'
theorem pi_enumS {X : Cx} {a : Expr} {ta : TA} {pn pc at_ : Pos} {parts : List Expr} {kd : Nat} (glob : Gl X "enumerate") (unbound : X.mg "enumerate" = none) (arg : PA X [a] ta) (one : starEach [a] X.env = [(false, eval a X.env)] := by rfl) :
    PI X (.Tuple parts kd at_) (.Call (.Name "enumerate" pn) [a] [] pc) (iEnumS ta) := by
  constructor
  intro pins s σ H R inv hyp
  refine Call_ ?_
  refine ld_blt inv glob unbound boot_enumerate (PyProof.Rows.callWith_type1 (thn (arg.run pc pins s σ H _ inv hyp) ?_) one rfl)
  rintro us s' ⟨vs, H', inv', rel, z, rfl, hyp'⟩
  obtain ⟨u, rfl, t, rfl⟩ := Vals.one rel
  apply call_enumerate_str
  intro h at_e at_it _ kept
  apply wpAny_pyIter_enum at_e
  have young : ∀ c ∈ [s'.heap.objs.size + 1, s'.heap.objs.size], s'.heap.objs.size ≤ c := by
    intro c hc
    simp only [List.mem_cons, List.not_mem_nil, or_false] at hc
    rcases hc with rfl | rfl
    · exact Nat.le_succ _
    · exact Nat.le_refl _
  exact ⟨_, _, _, _, H', rfl, inv'.kept (t' := s'.toks) kept, (enum_made z t (Nat.succ_ne_self _)).turn, ⟨⟨_, at_e⟩, at_it⟩, fun c hc => inv'.fpOk (young c hc) (inv'.hok.fresh (young c hc)), hyp'⟩
/-! ### text[lo:hi:k], k neither 0 nor 1 -/
def stepped (z : Str) (lo hi : Option Int) (k : Int) : Str := ⟨((Builtin.Str.strSliceIndices lo hi k z.length).filterMap (z.cps[·]?)).toArray⟩
def tStepS (tz : TE) (ta tb tk : TO) : TE := fun σ H Q => tz σ H fun x Ha => ta σ Ha fun lo Hb => tb σ Hb fun hi Hc => tk σ Hc fun k Hd =>
  ∃ (z : Str) (i : Int), x = .str z ∧ k = some i ∧ i ≠ 0 ∧ i ≠ 1 ∧ (stepped z lo hi i).length ≤ sizeLine ∧ Q (.str (stepped z lo hi i)) Hd
theorem pe_stepS {X : Cx} {ez ek : Expr} {ea eb : Option Expr} {tz : TE} {ta tb tk : TO} {ps pp : Pos} (rz : PE X ez tz) (ra : PO X ea ta) (rb : PO X eb tb) (rk : PO X (some ek) tk) :
    PE X (.Subscript ez (.Slice ea eb (some ek) ps) pp) (tStepS tz ta tb tk) := by
  constructor
  intro pins s σ H Q inv hyp
  apply Subscript_
  refine thn (rz.run pins s σ H _ inv hyp) ?_
  rintro uz sz ⟨x, Hz, invz, relz, hypz⟩
  apply wpAny_Slice
  refine thn (ra.run pins sz σ Hz _ invz hypz) ?_
  rintro ua sa ⟨lo, Ha, inva, pa, hypa⟩
  refine thn (rb.run pins sa σ Ha _ inva hypa) ?_
  rintro ub sb ⟨hi, Hb, invb, pb, hypb⟩
  refine thn (rk.run pins sb σ Hb _ invb hypb) ?_
  rintro uk sk ⟨k, Hk, invk, pk, z, i, rfl, rfl, i0, i1, fit, goal⟩
  obtain ⟨t, rfl⟩ := relz
  obtain ⟨la, rfl, rfl⟩ := IsPart.raw pa
  obtain ⟨lb, rfl, rfl⟩ := IsPart.raw pb
  obtain ⟨lk, rfl, ek'⟩ := IsPart.raw pk
  cases lk with
  | none => cases ek'
  | some pair =>
    obtain ⟨j, u⟩ := pair
    have same : i = j := (Option.some.inj ek').symm
    subst same
    have n0 : (i == 0) = false := beq_eq_false_iff_ne.mpr i0
    have n1 : (i == 1) = false := beq_eq_false_iff_ne.mpr i1
    refine tail_any (ops := [.ref sk.heap.objs.size, .str z t]) (typeIs_str _ _ _) PySem.F.slot_str_getitem.lookup ?_ (by with_unfolding_all rfl)
    refine wpAny_getItem_str_slice (l := la) (u := lb) (st := some (i, u)) ⟨_, Heap.get?_push_size _ rfl, rfl, rfl⟩ n0 ?_
    have made : sliceMade z t la lb (some (i, u)) = .str (stepped z (la.map (·.1)) (lb.map (·.1)) i) := by
      unfold sliceMade
      rw [if_neg]
      · rfl
      · show ¬ ((i == 1) && _) = true
        rw [n1, Bool.false_and]
        exact Bool.false_ne_true
    rw [made]
    exact ⟨fit, .str (stepped z (la.map (·.1)) (lb.map (·.1)) i), Hk, (invk.kept (t' := _) fun c o he => Heap.get?_push_of_some _ he), ⟨_, rfl⟩, goal⟩
/-- z[::-1] -/
theorem stepped_back (z : Str) : stepped z none none (-1) = ⟨z.cps.toList.reverse.toArray⟩ := by
  have places : Builtin.Str.strSliceIndices none none (-1) z.length = (List.range z.cps.size).reverse := by
    show sliceRange ((z.cps.size : Int) - 1) (-1) (-1) = _
    rw [PySem.W.krv_sliceRange, PySem.W.krv_range]
  unfold stepped
  rw [places, List.filterMap_reverse, PySem.W.krv_all]
/-! ### text.index(sign), the sign is there -/
def rIndex0 : V → List V → Hp → VK → Prop := fun x xs H Q => ∃ (a b : Str) (k : Nat), x = .str a ∧ xs = [.str b] ∧ Txt.index0 a b = some k ∧ Q (.int (k : Nat)) H
theorem mt_index0 {X : Cx} : MtR X "str.index" rIndex0 := by
  rintro pins s σ H x xs v us Q inv rx rel ⟨a, b, k, rfl, rfl, found, goal⟩
  obtain ⟨t, rfl⟩ := rx
  obtain ⟨u, rfl, tb, rfl⟩ := Vals.one rel
  obtain ⟨more, occ⟩ : ∃ more, Builtin.Str.occurrences a b 0 a.length 1 = k :: more := by
    unfold Txt.index0 at found
    exact List.head?_eq_some_iff.mp found
  exact PySem.SC.index occ ⟨.int (k : Nat), H, inv.tok _, ⟨_, rfl⟩, goal⟩
end K13R

/-! Texts by their lists of codes. -/
namespace K13
open PySem PySem.Spec PyProof.Rows L2 K13R
/-- the text of these codes -/
abbrev S (codes : List Nat) : Str := ⟨codes.toArray⟩
theorem S_len (l : List Nat) : (S l).length = l.length := List.size_toArray
theorem S_list (l : List Nat) : (S l).cps.toList = l := rfl
theorem S_app (a b : List Nat) : S a ++ S b = S (a ++ b) := by
  show (⟨a.toArray ++ b.toArray⟩ : Str) = ⟨(a ++ b).toArray⟩
  rw [List.append_toArray]
theorem S_inj {a b : List Nat} (h : S a = S b) : a = b := congrArg (fun z : Str => z.cps.toList) h
theorem dec_S (a b : List Nat) : decide (V.str (S a) = V.str (S b)) = decide (a = b) := by
  by_cases h : a = b
  · subst h
    simp
  · rw [decide_eq_false h, decide_eq_false]
    exact fun z => h (S_inj (V.str.inj z))
theorem S_back (l : List Nat) : stepped (S l) none none (-1) = S l.reverse := stepped_back (S l)
theorem signAt_eq {l : List Nat} {i : Nat} (lt : i < (S l).cps.size) : ∃ c, l[i]? = some c ∧ signAt (S l) i = [V.int (i : Nat), V.str (S [c])] := by
  have h : i < l.length := by simpa using lt
  refine ⟨l[i], List.getElem?_eq_getElem h, ?_⟩
  have e : (S l).cps.getD i 0 = l[i] := by simp [h]
  unfold signAt
  rw [e]
theorem fits {l : List Nat} (h : l.length ≤ 1000) : (S l).length ≤ sizeLine := by
  rw [S_len]
  exact Nat.le_of_lt (small1000 h)
theorem fits2 {a b : List Nat} (h : a.length + b.length ≤ 1000) : (S a).length + (S b).length ≤ sizeLine := by
  rw [S_len, S_len]
  exact Nat.le_of_lt (small1000 h)
/-- z[:-1] -/
theorem cut_init (l : List Nat) : cutS (S l) none (some (-1)) = S l.dropLast := by
  unfold cutS
  rw [S_len, S_list]
  have e1 : HT.sIx l.length 0 none = 0 := rfl
  have e2 : HT.sIx l.length l.length (some (-1)) = l.length - 1 := by
    show (if (-1 : Int) < 0 then ((-1 : Int) + (l.length : Int)).toNat else min (-1 : Int).toNat l.length) = l.length - 1
    rw [if_pos (by decide)]
    omega
  rw [e1, e2, List.drop_zero, Nat.sub_zero, ← List.dropLast_eq_take]
/-- z[-1:] -/
theorem cut_end (l : List Nat) : cutS (S l) (some (-1)) none = S (l.drop (l.length - 1)) := by
  unfold cutS
  rw [S_len, S_list]
  have e1 : HT.sIx l.length l.length none = l.length := rfl
  have e2 : HT.sIx l.length 0 (some (-1)) = l.length - 1 := by
    show (if (-1 : Int) < 0 then ((-1 : Int) + (l.length : Int)).toNat else min (-1 : Int).toNat l.length) = l.length - 1
    rw [if_pos (by decide)]
    omega
  rw [e1, e2, List.take_of_length_le (by rw [List.length_drop]; omega)]
/-- z[:k] -/
theorem cut_to (l : List Nat) (k : Nat) : cutS (S l) none (some (k : Int)) = S (l.take k) := by
  unfold cutS
  rw [S_len, S_list]
  have e1 : HT.sIx l.length 0 none = 0 := rfl
  rw [e1, HT.sIx_nat, List.drop_zero, Nat.sub_zero]
  congr 2
  by_cases h : k ≤ l.length
  · rw [Nat.min_eq_left h]
  · have above : l.length ≤ k := by omega
    rw [Nat.min_eq_right above, List.take_of_length_le (Nat.le_refl _), List.take_of_length_le above]
/-- the last sign of a stack's text -/
theorem end_rev (st : List Nat) : st.reverse.drop (st.reverse.length - 1) = st.head?.toList := by
  cases st with
  | nil => rfl
  | cons a r =>
    rw [List.reverse_cons, List.length_append, List.drop_append_of_le_length (by simp)]
    simp
theorem init_rev (st : List Nat) : st.reverse.dropLast = st.tail.reverse := by
  cases st with
  | nil => rfl
  | cons a r =>
    rw [List.reverse_cons, List.dropLast_concat]
    rfl
/-- what a turn of short makes of it -/
theorem psh_yes {st : List Nat} {c : Nat} (h : st.head?.toList = [c]) : psh st c = st.tail := by
  cases st with
  | nil => cases h
  | cons a r =>
    have e : a = c := (List.cons.inj h).1
    subst e
    exact psh_same a r
theorem psh_no {st : List Nat} {c : Nat} (h : ¬ st.head?.toList = [c]) : psh st c = c :: st := by
  refine psh_head fun e => h ?_
  rw [e]
  rfl
/-- rfind of a sign -/
theorem rfind_sign (w : List Nat) (s : Nat) : (Txt.rfind (S w) (S [s]) = -1 ∧ ∀ c ∈ w, c ≠ s) ∨ ∃ k : Nat, Txt.rfind (S w) (S [s]) = (k : Int) ∧ w[k]? = some s ∧ ∀ j, k < j → w[j]? ≠ some s := by
  have at_ : ∀ i, PySem.StrLaws.At (S w) (S [s]) (S w).length i ↔ w[i]? = some s := fun i => PySem.StrLaws.subAt_one (S w) s i
  rcases PySem.StrLaws.last_spec (S w) (S [s]) with ⟨h, n⟩ | ⟨k, h, a, n⟩
  · refine .inl ⟨?_, fun c hc z => ?_⟩
    · unfold Txt.rfind
      rw [h]
    · subst z
      obtain ⟨i, hi⟩ := List.getElem?_of_mem hc
      exact n i ((at_ i).mpr hi)
  · refine .inr ⟨k, ?_, (at_ k).mp a, fun j hj z => n j hj ((at_ j).mpr z)⟩
    unfold Txt.rfind
    rw [h]
/-- a text in ABCD -/
def inGreat (l : List Nat) : Bool := !(Builtin.Str.occurrences (Str.ofString "ABCD") (S l) 0 (Str.ofString "ABCD").length 1).isEmpty
theorem great_eq : (Str.ofString "ABCD") = S [65, 66, 67, 68] := by decide +kernel
theorem letters_eq : (Str.ofString "abcd") = S [97, 98, 99, 100] := by decide +kernel
theorem empty_eq : (Str.ofString "") = S [] := by decide +kernel
theorem subAt_head {x : Str} {c : Nat} {r : List Nat} {i : Nat} (h : Builtin.Str.subAt x (S (c :: r)) i = true) : c ∈ x.cps.toList := by
  rw [PySem.StrLaws.subAt_eq] at h
  have e := eq_of_beq h
  have m : c ∈ (x.cps.toList.drop i).take (S (c :: r)).length := by
    rw [e]
    exact List.mem_cons_self
  exact List.mem_of_mem_drop (List.mem_of_mem_take m)
/-- a word of small letters is not in it -/
theorem small_notin {l : List Nat} (h : Lt l) (n : l ≠ []) : inGreat l = false := by
  cases l with
  | nil => exact absurd rfl n
  | cons c r =>
    cases e : inGreat (c :: r) with
    | false => rfl
    | true =>
      obtain ⟨i, _, h2⟩ := (PySem.StrLaws.found_iff (Str.ofString "ABCD") (S (c :: r))).mp e
      have m := subAt_head h2
      rw [great_eq] at m
      have b := h c List.mem_cons_self
      have m' : c ∈ [65, 66, 67, 68] := m
      simp only [List.mem_cons, List.not_mem_nil, or_false] at m'
      omega
theorem great_in {s : Nat} (h : 97 ≤ s ∧ s ≤ 100) : inGreat [s - 32] = true := by
  have c : s = 97 ∨ s = 98 ∨ s = 99 ∨ s = 100 := by omega
  rcases c with rfl | rfl | rfl | rfl <;> decide +kernel
theorem small_index {s : Nat} (h : 97 ≤ s ∧ s ≤ 100) : Txt.index0 (Str.ofString "abcd") (S [s]) = some (s - 97) := by
  have c : s = 97 ∨ s = 98 ∨ s = 99 ∨ s = 100 := by omega
  rcases c with rfl | rfl | rfl | rfl <;> decide +kernel
theorem great_index {s : Nat} (h : 97 ≤ s ∧ s ≤ 100) : Txt.index0 (Str.ofString "ABCD") (S [s - 32]) = some (s - 97) := by
  have c : s = 97 ∨ s = 98 ∨ s = 99 ∨ s = 100 := by omega
  rcases c with rfl | rfl | rfl | rfl <;> decide +kernel
theorem small_at {s : Nat} (h : 97 ≤ s ∧ s ≤ 100) : atI (Str.ofString "abcd").cps.toList ((s - 97 : Nat) : Int) = some s := by
  have c : s = 97 ∨ s = 98 ∨ s = 99 ∨ s = 100 := by omega
  rcases c with rfl | rfl | rfl | rfl <;> decide +kernel
theorem great_at {s : Nat} (h : 97 ≤ s ∧ s ≤ 100) : atI (Str.ofString "ABCD").cps.toList ((s - 97 : Nat) : Int) = some (s - 32) := by
  have c : s = 97 ∨ s = 98 ∨ s = 99 ∨ s = 100 := by omega
  rcases c with rfl | rfl | rfl | rfl <;> decide +kernel
theorem letter_in {s : Nat} (h : 97 ≤ s ∧ s ≤ 100) : s ∈ (Str.ofString "abcd").cps.toList := by
  have c : s = 97 ∨ s = 98 ∨ s = 99 ∨ s = 100 := by omega
  rcases c with rfl | rfl | rfl | rfl <;> decide +kernel
/-- a new object leaves all others -/
theorem same_upd {H : Hp} {p : Addr} {o : HO} (new : H p = none) : Same H (upd H p o) := fun _ _ there =>
  (upd_ne (ne_of_none there new)).trans there
end K13

/-! The program's defs: each one's promise, body and reading. -/
namespace K13
open PySem PySem.Spec PyProof.Rows L2 K13R
def top (i : Nat) : Stmt := PySem.Challenge.pw_gapstone_k13_whole_words_do_and_undo.main.body.getD i (.Pass ⟨0, 0, 0, 0⟩)
abbrev sFlaw : Stmt := top 8
abbrev sIsWord : Stmt := top 9
abbrev sLookWord : Stmt := top 10
abbrev sIsCall : Stmt := top 11
abbrev sLookCall : Stmt := top 12
abbrev sShort : Stmt := top 13
abbrev sReduced : Stmt := top 14
abbrev sJoined : Stmt := top 15
abbrev sUndone : Stmt := top 16
abbrev sNameAt : Stmt := top 17
abbrev sSplit : Stmt := top 18
abbrev sNameTurned : Stmt := top 19
abbrev sTurned : Stmt := top 20
/-- the module's constants, and the built-ins that nobody has bound -/
structure Cst (mg : Str → Option Value) : Prop where
  letters : ∃ t, mg "LETTERS" = some (.str (Str.ofString "abcd") t)
  great : ∃ t, mg "GREAT" = some (.str (Str.ofString "ABCD") t)
  most : ∃ t, mg "MOST_WORD" = some (.int 40 t)
  enum : mg "enumerate" = none
  len : mg "len" = none
  range : mg "range" = none
  list : mg "list" = none
/-- the text is a word -/
def spWordTo (r : V) : Sp := fun vs H Q _ => ∃ l, vs = [.str (S l)] ∧ Wd l 40 ∧ ∀ H', Same H H' → Q r H'
/-- the text is a call -/
def spCallTo (r : V) : Sp := fun vs H Q _ => ∃ i s, vs = [.str (S (cal i s))] ∧ Cl i s 40 ∧ ∀ H', Same H H' → Q r H'
def spShort : Sp := fun vs H Q _ => ∃ l, vs = [.str (S l)] ∧ l.length ≤ 500 ∧ Q (.str (S (shrt l))) H
def spReduced : Sp := fun vs H Q _ => ∃ l, vs = [.str (S l)] ∧ Lt l ∧ l.length ≤ 500 ∧ ∀ H', Same H H' → Q (.str (S (shrt l))) H'
def spJoined : Sp := fun vs H Q _ => ∃ a b, vs = [.str (S a), .str (S b)] ∧ Wd a 40 ∧ Wd b 40 ∧ ∀ H', Same H H' → Q (.str (S (shrt (a ++ b)))) H'
def spUndone : Sp := fun vs H Q _ => ∃ a, vs = [.str (S a)] ∧ Wd a 40 ∧ ∀ H', Same H H' → Q (.str (S a.reverse)) H'
def spNameAt : Sp := fun vs H Q _ => ∃ w s, vs = [.str (S w), .str (S [s])] ∧ (97 ≤ s ∧ s ≤ 100) ∧ w.length ≤ 500 ∧ Q (.str (S (cal (cut s w) s))) H
def spSplit : Sp := fun vs H Q _ => ∃ i s, vs = [.str (S (cal i s))] ∧ Cl i s 40 ∧ ∀ p, H p = none → Q (.ref p) (upd H p (.tup [.str (S i), .str (S [s])]))
def spTurned : Sp := fun vs H Q _ => ∃ i s v, vs = [.str (S (cal i s)), .str (S v)] ∧ Cl i s 40 ∧ Wd v 40 ∧ ∀ H', Same H H' → Q (.str (S (cal (trn v i s) s))) H'
section
variable {P : Program} {w : World} {K : PySem.W.Frag} {mg : Str → Option Value} {base : Heap}
/-! ### flaw_in -/
theorem scFlaw : FnScope ["text", "at", "sign"] ["text"] (defScope sFlaw) := ⟨rfl, rfl, rfl, by decide +kernel, rfl, by decide +kernel, by decide +kernel⟩
theorem ok_flaw {f : Addr} {fd : FuncData} {k : Nat} (F : Fun K "flaw_in" "flaw_in" sFlaw f fd) (M : Cst mg) : FnOk P w K mg base CX0 (k + 1) f fd ["text"] (spWordTo .non) := by
  refine F.ok scFlaw (fun vs H Q E h => ?_) (fun cdv A outer s H vs Q E hr h => ?_)
  · obtain ⟨l, rfl, _⟩ := h
    rfl
  · obtain ⟨l, rfl, wd, q⟩ := h
    obtain ⟨t1, hl⟩ := M.letters
    obtain ⟨t2, hm⟩ := M.most
    refine ⟨_, pss_cons (ps_for PassesOwn.never rfl (pi_enumS (by rfl) M.enum (pa_cons (pv 0) pa_nil))
        (pg_tup rfl (pgs_cons (pg_name (i := 1) scFlaw.nd rfl (.inl rfl)) (pgs_cons (pg_name (i := 2) scFlaw.nd rfl (.inl rfl)) pgs_nil)))
        (pss_one (ps_if (PW.pt (pw_or (pt_cmpR op_notIn_sign (pv 2) (pe_glob (v := .str (Str.ofString "abcd")) rfl hl ⟨_, rfl⟩) rfl)
            (pw_or1 (PW.pt (pw_and (pt_cmpR op_gt (pv 1) pe_int (nomark _)) (pw_and1 (pt_cmpR op_eq (pe_ix ix_str (pv 0) (pe_op op_sub (pv 1) pe_int) (fun _ _ => rfl)) (pv 2) (nomark _))))))))
          (pss_one (ps_ret (pv 1))) pss_nil)))
      (pss_one (ps_ret (pe_ifExp (pt_cmpR op_gt (pe_callB call_len_str (by rfl) M.len PySem.boot_len (pa_cons (pv 0) pa_nil)) (pe_glob (v := .int 40) rfl hm ⟨_, rfl⟩) (nomark _)) (pe_glob (v := .int 40) rfl hm ⟨_, rfl⟩) pe_non))), ?_⟩
    refine ⟨_, rfl, S l, rfl, for_it walk_made (fun i σ H' => ∃ v1 v2, σ = [some (.str (S l)), v1, v2] ∧ Same H H') ⟨none, none, rfl, Same.refl H⟩ (fun _ _ _ _ _ => trivial) ?_ ?_⟩
    · rintro i x σ H1 H2 hi ⟨v1, v2, rfl, sm⟩ ⟨lt_, T, rfl, nT, rfl⟩
      obtain ⟨c, hc', pe⟩ := signAt_eq lt_
      rw [pe]
      have sm2 : Same H (upd H1 T (.tup [.int (i : Nat), .str (S [c])])) := sm.trans (same_upd nT)
      refine ⟨T, [.int (i : Nat), .str (S [c])], rfl, SqT.of upd_same, rfl, _, _, rfl, _, _, rfl, rfl, ?_⟩
      -- sign not in LETTERS
      refine ⟨_, rfl, c, _, rfl, rfl, _, rfl, ?_⟩
      refine iteNS (letter_in (wd.lt c (List.mem_of_getElem? hc'))) ?_
      -- at > 0
      refine ⟨_, rfl, _, _, rfl, rfl, _, rfl, ite2 (fun h0 => ?_) (fun _ => ?_)⟩
      · have h1 : 0 < i := by
          have := of_decide_eq_true h0
          omega
        obtain ⟨j, rfl⟩ : ∃ j, i = j + 1 := ⟨i - 1, by omega⟩
        have hj : j < l.length := by
          have := (List.getElem?_eq_some_iff.mp hc').1
          omega
        have hd : l[j]? = some l[j] := List.getElem?_eq_getElem hj
        have ne : l[j] ≠ c := fun z => Rd_at wd.rd hd (by rw [hc', z])
        have ea : ((j + 1 : Nat) : Int) - 1 = (j : Nat) := by omega
        refine ⟨_, rfl, _, rfl, _, _, rfl, rfl, S l, _, l[j], rfl, rfl, fits (by have := wd.len; omega), ?_, _, rfl, rfl, _, rfl, ?_⟩
        · rw [ea]
          exact atI_nat hd
        · have e : decide (V.str (S [l[j]]) = V.str (S [c])) = false := by
            rw [dec_S]
            exact decide_eq_false fun z => ne (List.cons.inj z).1
          show (if decide (V.str (S [l[j]]) = V.str (S [c])) = true then _ else _)
          rw [e]
          exact iteF ⟨_, _, rfl, sm2⟩
      · exact iteF ⟨_, _, rfl, sm2⟩
    · rintro σ H1 ⟨v1, v2, rfl, sm⟩
      refine ⟨_, rfl, S l, rfl, fits (by have := wd.len; omega), _, _, rfl, rfl, _, rfl, ?_⟩
      have e : decide ((40 : Int) < ((S l).length : Int)) = false := by
        rw [S_len]
        exact decide_eq_false (by have := wd.len; omega)
      rw [e]
      exact iteF (q H1 sm)
/-! ### is_word, look_word -/
theorem scIsWord : FnScope ["text"] ["text"] (defScope sIsWord) := ⟨rfl, rfl, rfl, by decide +kernel, rfl, by decide +kernel, by decide +kernel⟩
theorem ok_isword {f f1 : Addr} {fd fd1 : FuncData} (F : Fun K "is_word" "is_word" sIsWord f fd) (M : Cst mg) (F1 : Fun K "flaw_in" "flaw_in" sFlaw f1 fd1) (b1 : Binds K fd1 ["text"] []) (g1 : mg "flaw_in" = some (.ref f1)) :
    FnOk P w K mg base CX0 2 f fd ["text"] (spWordTo (.bl true)) := by
  have G1 : FnOk P w K mg base CX0 1 f1 fd1 ["text"] (spWordTo .non) := ok_flaw F1 M
  refine F.ok scIsWord (fun vs H Q E h => ?_) (fun cdv A outer s H vs Q E hr h => ?_)
  · obtain ⟨l, rfl, _⟩ := h
    rfl
  · obtain ⟨l, rfl, wd, q⟩ := h
    refine ⟨_, pss_one (ps_ret (pe_cmp (pc_isN (pe_call G1 hr rfl g1 F1.kp b1 .nil pass0 (pa_cons (pv 0) pa_nil))) rfl)), ?_⟩
    exact ⟨_, rfl, l, rfl, wd, fun H' sm => q H' sm⟩
theorem scLookWord : FnScope ["text", "at"] ["text"] (defScope sLookWord) := ⟨rfl, rfl, rfl, by decide +kernel, rfl, by decide +kernel, by decide +kernel⟩
theorem ok_lookword {f f1 : Addr} {fd fd1 : FuncData} (F : Fun K "look_word" "look_word" sLookWord f fd) (M : Cst mg) (F1 : Fun K "flaw_in" "flaw_in" sFlaw f1 fd1) (b1 : Binds K fd1 ["text"] []) (g1 : mg "flaw_in" = some (.ref f1)) :
    FnOk P w K mg base CX0 2 f fd ["text"] (spWordTo .non) := by
  have G1 : FnOk P w K mg base CX0 1 f1 fd1 ["text"] (spWordTo .non) := ok_flaw F1 M
  refine F.ok scLookWord (fun vs H Q E h => ?_) (fun cdv A outer s H vs Q E hr h => ?_)
  · obtain ⟨l, rfl, _⟩ := h
    rfl
  · obtain ⟨l, rfl, wd, q⟩ := h
    refine ⟨_, pss_cons (ps_set (i := 1) scLookWord.nd rfl (.inl rfl) (pe_call G1 hr rfl g1 F1.kp b1 .nil pass0 (pa_cons (pv 0) pa_nil)))
      (pss_one (ps_if (pt_cmp (pc_notN (pv 1)) rfl) (pss_one ps_never) pss_nil)), ?_⟩
    exact ⟨_, rfl, l, rfl, wd, fun H' sm => ⟨_, rfl, _, rfl, iteF (q H' sm)⟩⟩
/-! ### is_call, look_call -/
theorem scIsCall : FnScope ["text"] ["text"] (defScope sIsCall) := ⟨rfl, rfl, rfl, by decide +kernel, rfl, by decide +kernel, by decide +kernel⟩
theorem cal_nil (s : Nat) : cal [] s = [s - 32] := rfl
theorem cal_word {i : List Nat} (h : i ≠ []) (s : Nat) : cal i s = i := if_neg h
theorem ok_iscall {f f1 f2 : Addr} {fd fd1 fd2 : FuncData} (F : Fun K "is_call" "is_call" sIsCall f fd) (M : Cst mg) (F1 : Fun K "flaw_in" "flaw_in" sFlaw f1 fd1) (b1 : Binds K fd1 ["text"] []) (g1 : mg "flaw_in" = some (.ref f1))
    (F2 : Fun K "is_word" "is_word" sIsWord f2 fd2) (b2 : Binds K fd2 ["text"] []) (g2 : mg "is_word" = some (.ref f2)) : FnOk P w K mg base CX0 3 f fd ["text"] (spCallTo (.bl true)) := by
  have G2 : FnOk P w K mg base CX0 2 f2 fd2 ["text"] (spWordTo (.bl true)) := ok_isword F2 M F1 b1 g1
  refine F.ok scIsCall (fun vs H Q E h => ?_) (fun cdv A outer s H vs Q E hr h => ?_)
  · obtain ⟨i, s, rfl, _⟩ := h
    rfl
  · obtain ⟨i, s, rfl, cl, q⟩ := h
    obtain ⟨t1, hg⟩ := M.great
    refine ⟨_, pss_one (ps_ret (pe_or (pe_and (pe_cmpR op_eq (pe_callB call_len_str (by rfl) M.len PySem.boot_len (pa_cons (pv 0) pa_nil)) pe_int (nomark _))
        (pe_one (pe_cmpR op_in_str (pv 0) (pe_glob (v := .str (Str.ofString "ABCD")) rfl hg ⟨_, rfl⟩) rfl)))
      (pe_one (pe_and (pe_cmpR op_ne (pv 0) pe_str (nomark _)) (pe_one (pe_call G2 hr rfl g2 F2.kp b2 .nil pass0 (pa_cons (pv 0) pa_nil))))))), ?_⟩
    by_cases hi : i = []
    · subst hi
      rw [cal_nil]
      refine ⟨_, rfl, S [s - 32], rfl, fits (by show 1 ≤ 1000; decide), rfl, _, rfl, ?_⟩
      refine iteT ⟨_, rfl, S [s - 32], _, rfl, rfl, _, rfl, ?_⟩
      show (if inGreat [s - 32] = true then _ else _)
      rw [great_in cl.le]
      exact iteT (q H (Same.refl H))
    · rw [cal_word hi]
      have ne : decide (V.str (S i) = V.str (Str.ofString "")) = false := by
        rw [empty_eq, dec_S]
        exact decide_eq_false hi
      have rest : ∀ H1, H1 = H → ∃ v, ([some (V.str (S i))] : L2.St)[0]? = some (some v) ∧ scal v (V.str (Str.ofString "")) = true ∧ ∃ c, V.bl (!decide (v = V.str (Str.ofString ""))) = V.bl c ∧
          if c = true then tCall (spWordTo (.bl true)) [] E0 (tCons (tVar 0) tNil) [some (V.str (S i))] H1 Q else Q (.bl false) H1 := by
        rintro H1 rfl
        refine ⟨_, rfl, rfl, _, rfl, ?_⟩
        rw [ne]
        exact iteT ⟨_, rfl, i, rfl, cl.wd, fun H' sm => q H' sm⟩
      refine ⟨_, rfl, S i, rfl, fits (by have := cl.wd.len; omega), rfl, _, rfl, ite2 (fun _ => ?_) (fun _ => ?_)⟩
      · refine ⟨_, rfl, S i, _, rfl, rfl, _, rfl, ?_⟩
        show (if inGreat i = true then _ else _)
        rw [small_notin cl.wd.lt hi]
        exact iteF (rest _ rfl)
      · exact ⟨_, rfl, iteF (rest _ rfl)⟩
theorem scLookCall : FnScope ["text"] ["text"] (defScope sLookCall) := ⟨rfl, rfl, rfl, by decide +kernel, rfl, by decide +kernel, by decide +kernel⟩
theorem ok_lookcall {f f3 : Addr} {fd fd3 : FuncData} (F : Fun K "look_call" "look_call" sLookCall f fd) (F3 : Fun K "is_call" "is_call" sIsCall f3 fd3) (G3 : FnOk P w K mg base CX0 3 f3 fd3 ["text"] (spCallTo (.bl true))) (b3 : Binds K fd3 ["text"] []) (g3 : mg "is_call" = some (.ref f3)) :
    FnOk P w K mg base CX0 4 f fd ["text"] (spCallTo .non) := by
  refine F.ok scLookCall (fun vs H Q E h => ?_) (fun cdv A outer s H vs Q E hr h => ?_)
  · obtain ⟨i, s, rfl, _⟩ := h
    rfl
  · obtain ⟨i, s, rfl, cl, q⟩ := h
    refine ⟨_, pss_one (ps_if (pt_not (pt_val (pe_call G3 hr rfl g3 F3.kp b3 .nil pass0 (pa_cons (pv 0) pa_nil)))) (pss_one ps_never) pss_nil), ?_⟩
    exact ⟨_, rfl, i, s, rfl, cl, fun H' sm => ⟨_, rfl, iteF (q H' sm)⟩⟩
/-! ### short, reduced -/
theorem scShort : FnScope ["text", "found", "sign"] ["text"] (defScope sShort) := ⟨rfl, rfl, rfl, by decide +kernel, rfl, by decide +kernel, by decide +kernel⟩
theorem act_take {l : List Nat} {i c : Nat} (h : l[i]? = some c) : act [] (l.take (i + 1)) = psh (act [] (l.take i)) c := by
  rw [List.take_add_one, h, act_append]
  rfl
theorem ok_short {f : Addr} {fd : FuncData} {k : Nat} (F : Fun K "short" "short" sShort f fd) : FnOk P w K mg base CX0 (k + 1) f fd ["text"] spShort := by
  refine F.ok scShort (fun vs H Q E h => ?_) (fun cdv A outer s H vs Q E hr h => ?_)
  · obtain ⟨l, rfl, _⟩ := h
    rfl
  · obtain ⟨l, rfl, len, q⟩ := h
    refine ⟨_, pss_cons (ps_set (i := 1) scShort.nd rfl (.inl rfl) pe_str)
      (pss_cons (ps_for PassesOwn.never rfl (pi_str (pv 0)) (pg_name (i := 2) scShort.nd rfl (.inl rfl))
        (pss_one (ps_set (i := 1) scShort.nd rfl (.inl rfl) (pe_ifExp (pt_cmpR op_eq (pe_slice sl_str (pv 1) (po_some (pe_un un_neg pe_int)) po_none) (pv 2) (nomark _))
          (pe_slice sl_str (pv 1) po_none (po_some (pe_un un_neg pe_int))) (pe_op op_add_str (pv 1) (pv 2))))))
      (pss_one (ps_ret (pv 1)))), ?_⟩
    refine ⟨_, rfl, S l, rfl, for_it walk_str (fun i σ H' => ∃ v, σ = [some (.str (S l)), some (.str (S (act [] (l.take i)).reverse)), v] ∧ H' = H) ⟨none, ?_, rfl⟩ (fun _ _ _ _ _ => trivial) ?_ ?_⟩
    · show [some (V.str (S l)), some (V.str (Str.ofString "")), none] = [some (V.str (S l)), some (V.str (S [])), none]
      rw [empty_eq]
    · rintro i x σ H1 H2 hi ⟨v, rfl, rfl⟩ ⟨rfl, c, hc, rfl⟩
      have hc' : l[i]? = some c := by simpa using hc
      have step := act_take hc'
      have big : (act [] (l.take i)).reverse.length ≤ 500 := by
        have most := act_len (l.take i) []
        rw [List.length_take, List.length_nil] at most
        rw [List.length_reverse]
        omega
      refine ⟨_, rfl, 1, rfl, _, rfl, _, rfl, fits (by omega), _, rfl, rfl, _, rfl, ?_⟩
      have e : decide (V.str (cutS (S (act [] (l.take i)).reverse) (some (-1)) none) = V.str (S [c])) = decide ((act [] (l.take i)).head?.toList = [c]) := by
        rw [cut_end, end_rev, dec_S]
      show (if decide (V.str (cutS (S (act [] (l.take i)).reverse) (some (-1)) none) = V.str (S [c])) = true then _ else _)
      rw [e]
      by_cases z : (act [] (l.take i)).head?.toList = [c]
      · rw [decide_eq_true z]
        refine iteT ⟨_, rfl, 1, rfl, _, rfl, _, rfl, fits (by omega), ⟨some (.str (S [c])), ?_, rfl⟩⟩
        rw [step, psh_yes z]
        show [some (V.str (S l)), some (V.str (cutS (S (act [] (l.take i)).reverse) none (some (-1)))), some (V.str (S [c]))] = _
        rw [cut_init, init_rev]
      · rw [decide_eq_false z]
        refine iteF ⟨_, rfl, _, rfl, _, _, rfl, rfl, fits2 (by show _ + 1 ≤ 1000; omega), ⟨some (.str (S [c])), ?_, rfl⟩⟩
        rw [step, psh_no z, List.reverse_cons]
        show [some (V.str (S l)), some (V.str (S (act [] (l.take i)).reverse ++ S [c])), some (V.str (S [c]))] = _
        rw [S_app]
    · rintro σ H1 ⟨v, rfl, rfl⟩
      have e : l.take (S l).cps.size = l := List.take_of_length_le (by show l.length ≤ l.toArray.size; simp)
      rw [e]
      exact ⟨_, rfl, q⟩
theorem scReduced : FnScope ["text", "at", "sign"] ["text"] (defScope sReduced) := ⟨rfl, rfl, rfl, by decide +kernel, rfl, by decide +kernel, by decide +kernel⟩
theorem ok_reduced {f f1 : Addr} {fd fd1 : FuncData} (F : Fun K "reduced" "reduced" sReduced f fd) (M : Cst mg) (F1 : Fun K "short" "short" sShort f1 fd1) (b1 : Binds K fd1 ["text"] []) (g1 : mg "short" = some (.ref f1)) :
    FnOk P w K mg base CX0 2 f fd ["text"] spReduced := by
  have G1 : FnOk P w K mg base CX0 1 f1 fd1 ["text"] spShort := ok_short F1
  refine F.ok scReduced (fun vs H Q E h => ?_) (fun cdv A outer s H vs Q E hr h => ?_)
  · obtain ⟨l, rfl, _⟩ := h
    rfl
  · obtain ⟨l, rfl, lt, len, q⟩ := h
    obtain ⟨t1, hl⟩ := M.letters
    refine ⟨_, pss_cons (ps_for PassesOwn.never rfl (pi_enumS (by rfl) M.enum (pa_cons (pv 0) pa_nil))
        (pg_tup rfl (pgs_cons (pg_name (i := 1) scReduced.nd rfl (.inl rfl)) (pgs_cons (pg_name (i := 2) scReduced.nd rfl (.inl rfl)) pgs_nil)))
        (pss_one (ps_if (pt_cmpR op_notIn_sign (pv 2) (pe_glob (v := .str (Str.ofString "abcd")) rfl hl ⟨_, rfl⟩) rfl) (pss_one ps_never) pss_nil)))
      (pss_one (ps_ret (pe_call G1 hr rfl g1 F1.kp b1 .nil pass0 (pa_cons (pv 0) pa_nil)))), ?_⟩
    refine ⟨_, rfl, S l, rfl, for_it walk_made (fun i σ H' => ∃ v1 v2, σ = [some (.str (S l)), v1, v2] ∧ Same H H') ⟨none, none, rfl, Same.refl H⟩ (fun _ _ _ _ _ => trivial) ?_ ?_⟩
    · rintro i x σ H1 H2 hi ⟨v1, v2, rfl, sm⟩ ⟨lt_, T, rfl, nT, rfl⟩
      obtain ⟨c, hc', pe⟩ := signAt_eq lt_
      rw [pe]
      have sm2 : Same H (upd H1 T (.tup [.int (i : Nat), .str (S [c])])) := sm.trans (same_upd nT)
      refine ⟨T, [.int (i : Nat), .str (S [c])], rfl, SqT.of upd_same, rfl, _, _, rfl, _, _, rfl, rfl, ?_⟩
      refine ⟨_, rfl, c, _, rfl, rfl, _, rfl, ?_⟩
      exact iteNS (letter_in (lt c (List.mem_of_getElem? hc'))) ⟨_, _, rfl, sm2⟩
    · rintro σ H1 ⟨v1, v2, rfl, sm⟩
      exact ⟨_, rfl, l, rfl, len, q H1 sm⟩
/-! ### joined, undone -/
theorem scJoined : FnScope ["one", "other"] ["one", "other"] (defScope sJoined) := ⟨rfl, rfl, rfl, by decide +kernel, rfl, by decide +kernel, by decide +kernel⟩
theorem ok_joined {f f1 f2 : Addr} {fd fd1 fd2 : FuncData} (F : Fun K "joined" "joined" sJoined f fd) (F1 : Fun K "short" "short" sShort f1 fd1) (b1 : Binds K fd1 ["text"] []) (g1 : mg "short" = some (.ref f1))
    (F2 : Fun K "look_word" "look_word" sLookWord f2 fd2) (G2 : FnOk P w K mg base CX0 2 f2 fd2 ["text"] (spWordTo .non)) (b2 : Binds K fd2 ["text"] []) (g2 : mg "look_word" = some (.ref f2)) :
    FnOk P w K mg base CX0 3 f fd ["one", "other"] spJoined := by
  have G1 : FnOk P w K mg base CX0 1 f1 fd1 ["text"] spShort := ok_short F1
  refine F.ok scJoined (fun vs H Q E h => ?_) (fun cdv A outer s H vs Q E hr h => ?_)
  · obtain ⟨a, b, rfl, _⟩ := h
    rfl
  · obtain ⟨a, b, rfl, wa, wb, q⟩ := h
    refine ⟨_, pss_cons (ps_expr (pe_call G2 hr rfl g2 F2.kp b2 .nil pass0 (pa_cons (pv 0) pa_nil)))
      (pss_cons (ps_expr (pe_call G2 hr rfl g2 F2.kp b2 .nil pass0 (pa_cons (pv 1) pa_nil)))
      (pss_one (ps_ret (pe_call G1 (hr.mono (by decide)) rfl g1 F1.kp b1 .nil pass0 (pa_cons (pe_op op_add_str (pv 0) (pv 1)) pa_nil))))), ?_⟩
    have la := wa.len
    have lb := wb.len
    refine ⟨_, rfl, a, rfl, wa, fun H1 s1 => ⟨_, rfl, b, rfl, wb, fun H2 s2 => ⟨_, rfl, _, rfl, _, _, rfl, rfl, fits2 (by omega), a ++ b, ?_, by rw [List.length_append]; omega, q H2 (s1.trans s2)⟩⟩⟩
    rw [← S_app]
    rfl
theorem scUndone : FnScope ["word"] ["word"] (defScope sUndone) := ⟨rfl, rfl, rfl, by decide +kernel, rfl, by decide +kernel, by decide +kernel⟩
theorem ok_undone {f f2 : Addr} {fd fd2 : FuncData} (F : Fun K "undone" "undone" sUndone f fd) (F2 : Fun K "look_word" "look_word" sLookWord f2 fd2) (G2 : FnOk P w K mg base CX0 2 f2 fd2 ["text"] (spWordTo .non)) (b2 : Binds K fd2 ["text"] []) (g2 : mg "look_word" = some (.ref f2)) :
    FnOk P w K mg base CX0 3 f fd ["word"] spUndone := by
  refine F.ok scUndone (fun vs H Q E h => ?_) (fun cdv A outer s H vs Q E hr h => ?_)
  · obtain ⟨a, rfl, _⟩ := h
    rfl
  · obtain ⟨a, rfl, wa, q⟩ := h
    refine ⟨_, pss_cons (ps_expr (pe_call G2 hr rfl g2 F2.kp b2 .nil pass0 (pa_cons (pv 0) pa_nil))) (pss_one (ps_ret (pe_stepS (pv 0) po_none po_none (po_some (pe_un un_neg pe_int))))), ?_⟩
    have la := wa.len
    refine ⟨_, rfl, a, rfl, wa, fun H1 s1 => ⟨_, rfl, 1, rfl, _, rfl, S a, -1, rfl, rfl, by decide, by decide, ?_⟩⟩
    rw [S_back]
    exact ⟨fits (by rw [List.length_reverse]; omega), q H1 s1⟩
/-! ### name_at, split_call, name_turned, turned -/
theorem scNameAt : FnScope ["word", "letter", "at"] ["word", "letter"] (defScope sNameAt) := ⟨rfl, rfl, rfl, by decide +kernel, rfl, by decide +kernel, by decide +kernel⟩
theorem ok_nameat {f : Addr} {fd : FuncData} {k : Nat} (F : Fun K "name_at" "name_at" sNameAt f fd) (M : Cst mg) : FnOk P w K mg base CX0 (k + 1) f fd ["word", "letter"] spNameAt := by
  refine F.ok scNameAt (fun vs H Q E h => ?_) (fun cdv A outer s H vs Q E hr h => ?_)
  · obtain ⟨w, s, rfl, _⟩ := h
    rfl
  · obtain ⟨wo, s, rfl, le, len, q⟩ := h
    obtain ⟨t1, hl⟩ := M.letters
    obtain ⟨t2, hg⟩ := M.great
    refine ⟨_, pss_cons (ps_set (i := 2) scNameAt.nd rfl (.inl rfl) (pe_bm PySem.F.plainAttrs_str PySem.F.slot_str_rfind PySem.F.type_str_rfind mt_rfind (pv 0) (pa_cons (pv 1) pa_nil)))
      (pss_one (ps_ret (pe_ifExp (pt_cmpR op_ge (pv 2) pe_int (nomark _)) (pe_slice sl_str (pv 0) po_none (po_some (pe_op op_add (pv 2) pe_int)))
        (pe_ix ix_str (pe_glob (v := .str (Str.ofString "ABCD")) rfl hg ⟨_, rfl⟩)
          (pe_bm PySem.F.plainAttrs_str PySem.F.slot_str_index PySem.F.type_str_index mt_index0 (pe_glob (v := .str (Str.ofString "abcd")) rfl hl ⟨_, rfl⟩) (pa_cons (pv 1) pa_nil)) (fun _ _ => rfl))))), ?_⟩
    refine ⟨_, rfl, rfl, _, rfl, S wo, S [s], rfl, rfl, ?_⟩
    rcases rfind_sign wo s with ⟨e, n⟩ | ⟨j, e, hj, n⟩
    · rw [e]
      refine ⟨_, rfl, _, _, rfl, rfl, _, rfl, iteF ?_⟩
      refine ⟨rfl, _, rfl, _, _, _, rfl, rfl, small_index le, ?_⟩
      refine ⟨_, _, _, rfl, rfl, by decide +kernel, great_at le, ?_⟩
      rw [cut_none n] at q
      exact q
    · rw [e]
      refine ⟨_, rfl, _, _, rfl, rfl, _, rfl, ?_⟩
      have e0 : decide ((0 : Int) ≤ (j : Int)) = true := decide_eq_true (by omega)
      show (if decide ((0 : Int) ≤ (j : Int)) = true then _ else _)
      rw [e0]
      refine iteT ⟨_, rfl, _, rfl, _, _, rfl, rfl, _, rfl, S wo, rfl, fits (by omega), ?_⟩
      have e1 : ((j : Int) + 1) = ((j + 1 : Nat) : Int) := by omega
      have e2 := cut_take hj n
      have ne : cut s wo ≠ [] := fun z => by
        rw [e2, List.take_add_one, hj] at z
        exact absurd z (by simp)
      rw [cal_word ne, e2] at q
      rw [e1, cut_to]
      exact q
theorem scSplit : FnScope ["call"] ["call"] (defScope sSplit) := ⟨rfl, rfl, rfl, by decide +kernel, rfl, by decide +kernel, by decide +kernel⟩
theorem ok_split {f : Addr} {fd : FuncData} {k : Nat} (F : Fun K "split_call" "split_call" sSplit f fd) (M : Cst mg) : FnOk P w K mg base CX0 (k + 1) f fd ["call"] spSplit := by
  refine F.ok scSplit (fun vs H Q E h => ?_) (fun cdv A outer s H vs Q E hr h => ?_)
  · obtain ⟨i, s, rfl, _⟩ := h
    rfl
  · obtain ⟨i, s, rfl, cl, q⟩ := h
    obtain ⟨t1, hl⟩ := M.letters
    obtain ⟨t2, hg⟩ := M.great
    refine ⟨_, pss_cons (ps_if (pt_cmpR op_in_str (pv 0) (pe_glob (v := .str (Str.ofString "ABCD")) rfl hg ⟨_, rfl⟩) rfl)
        (pss_one (ps_ret (pe_tup (pa_cons pe_str (pa_cons (pe_ix ix_str (pe_glob (v := .str (Str.ofString "abcd")) rfl hl ⟨_, rfl⟩)
          (pe_bm PySem.F.plainAttrs_str PySem.F.slot_str_index PySem.F.type_str_index mt_index0 (pe_glob (v := .str (Str.ofString "ABCD")) rfl hg ⟨_, rfl⟩) (pa_cons (pv 0) pa_nil)) (fun _ _ => rfl)) pa_nil))))) pss_nil)
      (pss_one (ps_ret (pe_tup (pa_cons (pv 0) (pa_cons (pe_ix ix_str (pv 0) (pe_un un_neg pe_int) (fun _ _ => rfl)) pa_nil))))), ?_⟩
    by_cases hi : i = []
    · subst hi
      rw [cal_nil]
      refine ⟨_, rfl, S [s - 32], _, rfl, rfl, _, rfl, ?_⟩
      show (if inGreat [s - 32] = true then _ else _)
      rw [great_in cl.le]
      refine iteT ⟨rfl, _, rfl, _, _, _, rfl, rfl, great_index cl.le, ?_⟩
      refine ⟨_, _, _, rfl, rfl, by decide +kernel, small_at cl.le, (by show 2 ≤ sizeLine; decide), fun p hp => ?_⟩
      have e := q p hp
      rw [← empty_eq] at e
      exact e
    · rw [cal_word hi] at *
      refine ⟨_, rfl, S i, _, rfl, rfl, _, rfl, ?_⟩
      show (if inGreat i = true then _ else _)
      rw [small_notin cl.wd.lt hi]
      obtain ⟨p0, ep⟩ : ∃ p0, i = p0 ++ [s] := by
        rcases cut_last s i with h | ⟨p0, h⟩
        · rw [cl.ct] at h
          exact absurd h hi
        · rw [cl.ct] at h
          exact ⟨p0, h⟩
      refine iteF ⟨_, rfl, _, rfl, 1, rfl, S i, _, s, rfl, rfl, fits (by have := cl.wd.len; omega), ?_, (by show 2 ≤ sizeLine; decide), fun p hp => q p hp⟩
      rw [S_list, ep]
      exact atI_last p0 s
theorem scNameTurned : FnScope ["call", "word", "inner", "letter"] ["call", "word"] (defScope sNameTurned) := ⟨rfl, rfl, rfl, by decide +kernel, rfl, by decide +kernel, by decide +kernel⟩
theorem ok_nameturned {f f1 f2 f3 : Addr} {fd fd1 fd2 fd3 : FuncData} (F : Fun K "name_turned" "name_turned" sNameTurned f fd) (M : Cst mg) (F1 : Fun K "short" "short" sShort f1 fd1) (b1 : Binds K fd1 ["text"] []) (g1 : mg "short" = some (.ref f1))
    (F2 : Fun K "name_at" "name_at" sNameAt f2 fd2) (b2 : Binds K fd2 ["word", "letter"] []) (g2 : mg "name_at" = some (.ref f2)) (F3 : Fun K "split_call" "split_call" sSplit f3 fd3) (b3 : Binds K fd3 ["call"] []) (g3 : mg "split_call" = some (.ref f3)) :
    FnOk P w K mg base CX0 2 f fd ["call", "word"] spTurned := by
  have G1 : FnOk P w K mg base CX0 1 f1 fd1 ["text"] spShort := ok_short F1
  have G2 : FnOk P w K mg base CX0 1 f2 fd2 ["word", "letter"] spNameAt := ok_nameat F2 M
  have G3 : FnOk P w K mg base CX0 1 f3 fd3 ["call"] spSplit := ok_split F3 M
  refine F.ok scNameTurned (fun vs H Q E h => ?_) (fun cdv A outer s H vs Q E hr h => ?_)
  · obtain ⟨i, s, v, rfl, _⟩ := h
    rfl
  · obtain ⟨i, s, v, rfl, cl, wv, q⟩ := h
    refine ⟨_, pss_cons (ps_asg (pe_call G3 hr rfl g3 F3.kp b3 .nil pass0 (pa_cons (pv 0) pa_nil))
        (pg_tup rfl (pgs_cons (pg_name (i := 2) scNameTurned.nd rfl (.inl rfl)) (pgs_cons (pg_name (i := 3) scNameTurned.nd rfl (.inl rfl)) pgs_nil))))
      (pss_one (ps_ret (pe_call G2 hr rfl g2 F2.kp b2 .nil pass0 (pa_cons (pe_call G1 hr rfl g1 F1.kp b1 .nil pass0 (pa_cons (pe_op op_add_str (pe_stepS (pv 1) po_none po_none (po_some (pe_un un_neg pe_int))) (pv 2)) pa_nil)) (pa_cons (pv 3) pa_nil))))), ?_⟩
    have li := cl.wd.len
    have lv := wv.len
    have lr : v.reverse.length = v.length := List.length_reverse
    have ll : (v.reverse ++ i).length ≤ 80 := by rw [List.length_append]; omega
    refine ⟨_, rfl, i, s, rfl, cl, fun p hp => ?_⟩
    refine ⟨p, _, rfl, SqT.of upd_same, rfl, _, _, rfl, _, _, rfl, rfl, ?_⟩
    refine ⟨_, rfl, 1, rfl, _, rfl, S v, -1, rfl, rfl, by decide, by decide, ?_⟩
    rw [S_back]
    refine ⟨fits (by omega), _, rfl, S v.reverse, S i, rfl, rfl, fits2 (by omega), v.reverse ++ i, ?_, by omega, ?_⟩
    · rw [← S_app]
      rfl
    · exact ⟨_, rfl, _, s, rfl, cl.le, (by have := shrt_len (v.reverse ++ i); omega), q _ (same_upd hp)⟩
theorem scTurned : FnScope ["call", "word"] ["call", "word"] (defScope sTurned) := ⟨rfl, rfl, rfl, by decide +kernel, rfl, by decide +kernel, by decide +kernel⟩
theorem ok_turned {f f1 f2 f3 : Addr} {fd fd1 fd2 fd3 : FuncData} (F : Fun K "turned" "turned" sTurned f fd) (F1 : Fun K "look_call" "look_call" sLookCall f1 fd1) (G1 : FnOk P w K mg base CX0 4 f1 fd1 ["text"] (spCallTo .non)) (b1 : Binds K fd1 ["text"] []) (g1 : mg "look_call" = some (.ref f1))
    (F2 : Fun K "look_word" "look_word" sLookWord f2 fd2) (G2 : FnOk P w K mg base CX0 2 f2 fd2 ["text"] (spWordTo .non)) (b2 : Binds K fd2 ["text"] []) (g2 : mg "look_word" = some (.ref f2))
    (F3 : Fun K "name_turned" "name_turned" sNameTurned f3 fd3) (G3 : FnOk P w K mg base CX0 2 f3 fd3 ["call", "word"] spTurned) (b3 : Binds K fd3 ["call", "word"] []) (g3 : mg "name_turned" = some (.ref f3)) :
    FnOk P w K mg base CX0 5 f fd ["call", "word"] spTurned := by
  refine F.ok scTurned (fun vs H Q E h => ?_) (fun cdv A outer s H vs Q E hr h => ?_)
  · obtain ⟨i, s, v, rfl, _⟩ := h
    rfl
  · obtain ⟨i, s, v, rfl, cl, wv, q⟩ := h
    refine ⟨_, pss_cons (ps_expr (pe_call G1 hr rfl g1 F1.kp b1 .nil pass0 (pa_cons (pv 0) pa_nil)))
      (pss_cons (ps_expr (pe_call G2 (hr.mono (by decide)) rfl g2 F2.kp b2 .nil pass0 (pa_cons (pv 1) pa_nil)))
      (pss_one (ps_ret (pe_call G3 (hr.mono (by decide)) rfl g3 F3.kp b3 .nil pass0 (pa_cons (pv 0) (pa_cons (pv 1) pa_nil)))))), ?_⟩
    exact ⟨_, rfl, i, s, rfl, cl, fun H1 s1 => ⟨_, rfl, v, rfl, wv, fun H2 s2 => ⟨_, rfl, _, rfl, i, s, v, rfl, cl, wv, fun H3 s3 => q H3 ((s1.trans s2).trans s3)⟩⟩⟩
end
end K13

/-! The law's own defs. -/
namespace K13
open PySem PySem.Spec PyProof.Rows L2
abbrev sBag : Stmt := top 22
abbrev sPull : Stmt := top 23
abbrev sOf : Stmt := top 24
abbrev sWord : Stmt := top 25
abbrev sDrawn : Stmt := top 26
abbrev sLaw : Stmt := top 27
/-- the bag at b: the script's list, how far it is read, what is left of a big one, the seed -/
structure BagIn (H : Hp) (b a : Addr) (ns : List Int) (i : Nat) (big sd : Int) : Prop where
  hb : H b = some (.lst [.ref a, .int (i : Int), .int big, .int sd])
  ha : H a = some (.lst (ns.map V.int))
  ne : a ≠ b
  s0 : 0 ≤ sd
  s1 : sd < 2147483647
def BagAt (H : Hp) (b : Addr) : Prop := ∃ a ns i big sd, BagIn H b a ns i big sd
/-- all that was tracked is as it was, but the bag -/
def But (b : Addr) (H H' : Hp) : Prop := ∀ c o, H c = some o → c ≠ b → H' c = some o
theorem But.refl (b : Addr) (H : Hp) : But b H H := fun _ _ e _ => e
theorem But.trans {b : Addr} {H H1 H2 : Hp} (x : But b H H1) (y : But b H1 H2) : But b H H2 := fun c o e n => y c o (x c o e n) n
theorem But.of {b : Addr} {H H' : Hp} (x : Same H H') : But b H H' := fun c o e _ => x c o e
theorem But.upd {b : Addr} {H : Hp} {o : HO} : But b H (upd H b o) := fun c x e n => by
  rw [upd_ne n]
  exact e
theorem BagAt.same {H H' : Hp} {b : Addr} (x : BagAt H b) (s : Same H H') : BagAt H' b := by
  obtain ⟨a, ns, i, big, sd, h⟩ := x
  exact ⟨a, ns, i, big, sd, s _ _ h.hb, s _ _ h.ha, h.ne, h.s0, h.s1⟩
theorem BagIn.set {H : Hp} {b a : Addr} {ns : List Int} {i : Nat} {big sd : Int} (h : BagIn H b a ns i big sd) (j : Nat) (big' sd' : Int) (s0 : 0 ≤ sd') (s1 : sd' < 2147483647) :
    BagIn (upd H b (.lst [.ref a, .int (j : Int), .int big', .int sd'])) b a ns j big' sd' :=
  ⟨upd_same, by rw [upd_ne h.ne]; exact h.ha, h.ne, s0, s1⟩
theorem cut_ints (ns : List Int) (lo hi : Option Int) : ∃ ms : List Int, cutV (ns.map V.int) lo hi = ms.map V.int :=
  ⟨_, by unfold cutV; rw [← List.map_drop, ← List.map_take]⟩
def spBag (K : PySem.W.Frag) : Sp := fun vs H Q _ => ∃ (a : Addr) (ns : List Int), vs = [.ref a] ∧ SqL K H a (ns.map V.int) ∧ ∀ b H', BagAt H' b → Q (.ref b) H'
def spPull : Sp := fun vs H Q _ => ∃ b n, vs = [.ref b, .int n] ∧ BagAt H b ∧ 0 < n ∧ n < 1000 ∧ ∀ r H', 0 ≤ r → r < n → BagAt H' b → But b H H' → Q (.int r) H'
def spOf : Sp := fun vs H Q _ => ∃ b t ls, vs = [.ref b, .ref t] ∧ BagAt H b ∧ H t = some (.lst ls) ∧ t ≠ b ∧ ls ≠ [] ∧ ls.length < 1000 ∧ ∀ v H', v ∈ ls → BagAt H' b → But b H H' → Q v H'
def spWord : Sp := fun vs H Q _ => ∃ b, ∃ m : Nat, vs = [.ref b, .int (m : Int)] ∧ BagAt H b ∧ m ≤ 12 ∧ ∀ l H', Wd l m → BagAt H' b → But b H H' → Q (.str (S l)) H'
def spDrawn : Sp := fun vs H Q _ => ∃ b, ∃ m : Nat, vs = [.ref b, .int (m : Int)] ∧ BagAt H b ∧ m ≤ 12 ∧ ∀ i s H', Cl i s m → BagAt H' b → Q (.str (S (cal i s))) H'
section
variable {P : Program} {w : World} {K : PySem.W.Frag} {mg : Str → Option Value} {base : Heap}
/-! ### _law_bag -/
theorem scBag : FnScope ["_law_script", "_law_salt", "_law_cell"] ["_law_script"] (defScope sBag) := ⟨rfl, rfl, rfl, by decide +kernel, rfl, by decide +kernel, by decide +kernel⟩
theorem ok_bag {f : Addr} {fd : FuncData} {k : Nat} (F : Fun K "_law_bag" "_law_bag" sBag f fd) (M : Cst mg) : FnOk P w K mg base CX0 (k + 1) f fd ["_law_script"] (spBag K) := by
  refine F.ok scBag (fun vs H Q E h => ?_) (fun cdv A outer s H vs Q E hr h => ?_)
  · obtain ⟨a, ns, rfl, _⟩ := h
    rfl
  · obtain ⟨a, ns, rfl, hS, q⟩ := h
    refine ⟨_, pss_cons (ps_set (i := 1) scBag.nd rfl (.inl rfl) pe_int)
      (pss_cons (ps_for PassesOwn.never rfl (pi_list (pe_slice sl_list (pv 0) po_none (po_some pe_int))) (pg_name (i := 2) scBag.nd rfl (.inl rfl))
        (pss_one (ps_set (i := 1) scBag.nd rfl (.inl rfl) (pe_op op_mod (pe_op op_add (pe_op op_add (pe_op op_mul (pv 1) pe_int) (pe_op op_mod (pv 2) pe_int)) pe_int) pe_int))))
      (pss_one (ps_ret (pe_lst (pa_cons (pe_callTy call_list_of (by rfl) M.list PyProof.Rows.boot_list (pa_cons (pe_slice sl_list (pv 0) po_none (po_some pe_int)) pa_nil))
        (pa_cons pe_int (pa_cons pe_int (pa_cons (pv 1) pa_nil)))))))), ?_⟩
    obtain ⟨ms, em⟩ := cut_ints ns none (some 63)
    refine ⟨_, rfl, _, rfl, a, _, rfl, hS, fun c nc => ?_⟩
    rw [em]
    refine ⟨c, rfl, ⟨_, SqL.of upd_same⟩, for_list (K := K) (a := c) (xs := ms.map V.int) (fun i σ H' => ∃ sd v2, σ = [some (.ref a), some (.int sd), v2] ∧ 0 ≤ sd ∧ sd < 2147483647 ∧ H' = upd H c (.lst (ms.map V.int)))
      ⟨9146, none, rfl, by decide, by decide, rfl⟩ (fun i σ H' _ ⟨_, _, _, _, _, e⟩ => by rw [e]; exact SqL.of upd_same) ?_ ?_⟩
    · rintro i y σ H' hi ⟨sd, v2, rfl, s0, s1, rfl⟩
      obtain ⟨z, rfl⟩ : ∃ z, y = V.int z := by
        rw [List.getElem?_map] at hi
        cases e : ms[i]? with
        | none =>
          rw [e] at hi
          cases hi
        | some z =>
          rw [e] at hi
          exact ⟨z, (Option.some.inj hi).symm⟩
      refine ⟨_, rfl, sd, 48271, rfl, rfl, .inr ⟨by decide, by decide⟩, _, rfl, z, 2147483629, rfl, rfl, by show (0 : Int) < _; decide, _, _, rfl, rfl, _, _, rfl, rfl, _, _, rfl, rfl, by show (0 : Int) < _; decide, ?_⟩
      exact ⟨_, _, rfl, Int.emod_nonneg _ (by decide), Int.emod_lt_of_pos _ (by decide), rfl⟩
    · rintro σ H' ⟨sd, v2, rfl, s0, s1, rfl⟩
      have hS2 : SqL K (upd H c (.lst (ms.map V.int))) a (ns.map V.int) := (same_upd nc).seq hS
      refine ⟨_, rfl, _, rfl, a, _, rfl, hS2, fun d nd => ?_⟩
      rw [em]
      refine ⟨d, _, rfl, .inl (SqL.of upd_same), fun e ne => ?_⟩
      refine ⟨_, rfl, (by show 4 ≤ sizeLine; decide), fun b nb => ?_⟩
      have neb : e ≠ b := fun z => by
        rw [← z, upd_same] at nb
        cases nb
      exact q b _ ⟨e, ms, 0, 0, sd, upd_same, by rw [upd_ne neb, upd_same], neb, s0, s1⟩
/-! ### _law_pull -/
theorem scPull : FnScope ["_law_bag_here", "_law_many", "_law_cell", "_law_got", "_law_seed"] ["_law_bag_here", "_law_many"] (defScope sPull) := ⟨rfl, rfl, rfl, by decide +kernel, rfl, by decide +kernel, by decide +kernel⟩
theorem ok_pull {f : Addr} {fd : FuncData} {k : Nat} (F : Fun K "_law_pull" "_law_pull" sPull f fd) (M : Cst mg) : FnOk P w K mg base CX0 (k + 1) f fd ["_law_bag_here", "_law_many"] spPull := by
  refine F.ok scPull (fun vs H Q E h => ?_) (fun cdv A outer s H vs Q E hr h => ?_)
  · obtain ⟨b, n, rfl, _⟩ := h
    rfl
  · obtain ⟨b, n, rfl, hB, n0, n1, q⟩ := h
    obtain ⟨t2, h2, tail⟩ : ∃ t2, PSs (cxOf CX0 P w K mg base ["_law_bag_here", "_law_many", "_law_cell", "_law_got", "_law_seed"] "_law_pull" (defScope sPull) f cdv A outer s H E).nox (defBody sPull).tail t2 ∧
        ∀ v2 H1, BagAt H1 b → But b H H1 → t2 { nx := fun _ H' => Q .non H', rt := Q } [some (.ref b), some (.int n), v2, none, none] H1 := by
      refine ⟨_, pss_cons (ps_if (pt_cmpR op_gt (pe_ix ix_list (pv 0) pe_int (fun _ _ => rfl)) pe_int (nomark _))
          (pss_cons (ps_set (i := 3) scPull.nd rfl (.inl rfl) (pe_op op_mod (pe_ix ix_list (pv 0) pe_int (fun _ _ => rfl)) (pv 1)))
          (pss_cons (ps_asg (pe_op op_fdiv (pe_ix ix_list (pv 0) pe_int (fun _ _ => rfl)) (pv 1)) (pg_sub (pv 0) pe_int set_list))
          (pss_one (ps_ret (pv 3))))) pss_nil)
        (pss_cons (ps_set (i := 4) scPull.nd rfl (.inl rfl) (pe_ix ix_list (pv 0) pe_int (fun _ _ => rfl)))
        (pss_cons (ps_set (i := 4) scPull.nd rfl (.inl rfl) (pe_op op_mod (pe_op op_add (pe_op op_add (pe_op op_mul (pe_op op_mod (pe_op op_mul (pv 4) (pv 4)) pe_int) pe_int) (pe_op op_mul (pv 4) pe_int)) pe_int) pe_int))
        (pss_cons (ps_asg (pv 4) (pg_sub (pv 0) pe_int set_list))
        (pss_one (ps_ret (pe_op op_mod (pe_op op_add (pe_op op_fdiv (pv 4) pe_int) (pe_op op_mul (pe_op op_mod (pv 4) pe_int) pe_int)) (pv 1))))))), ?_⟩
      intro v2 H1 ⟨a, ns, i, big, sd, B⟩ bt
      refine ⟨_, rfl, b, _, 2, _, rfl, rfl, SqL.of B.hb, atI_nat (j := 2) rfl, _, _, rfl, rfl, _, rfl, ite2 (fun _ => ?_) (fun _ => ?_)⟩
      · refine ⟨_, rfl, b, _, 2, _, rfl, rfl, SqL.of B.hb, atI_nat (j := 2) rfl, _, rfl, _, _, rfl, rfl, n0, ?_⟩
        refine ⟨_, rfl, b, _, 2, _, rfl, rfl, SqL.of B.hb, atI_nat (j := 2) rfl, _, rfl, _, _, rfl, rfl, ⟨n0, by omega⟩, ?_⟩
        refine ⟨_, rfl, b, _, 2, 2, rfl, rfl, B.hb, rfl, ?_⟩
        refine ⟨_, rfl, q _ _ (Int.emod_nonneg _ (by omega)) (Int.emod_lt_of_pos _ n0) ⟨a, ns, i, big / n, sd, B.set i (big / n) sd B.s0 B.s1⟩ (bt.trans But.upd)⟩
      · have s0 := B.s0
        have s1 := B.s1
        refine ⟨_, rfl, b, _, 3, _, rfl, rfl, SqL.of B.hb, atI_nat (j := 3) rfl, ?_⟩
        refine ⟨_, rfl, _, rfl, sd, sd, rfl, rfl, .inl ⟨by omega, by omega⟩, _, _, rfl, rfl, by show (0 : Int) < _; decide, _, _, rfl, rfl, .inr ⟨by decide, by decide⟩, _, rfl, sd, _, rfl, rfl, .inr ⟨by decide, by decide⟩, _, _, rfl, rfl, _, _, rfl, rfl, _, _, rfl, rfl, by show (0 : Int) < _; decide, ?_⟩
        refine ⟨_, rfl, _, rfl, b, _, 3, 3, rfl, rfl, B.hb, rfl, ?_⟩
        refine ⟨_, rfl, _, _, rfl, rfl, ⟨by decide, by decide⟩, _, rfl, _, _, rfl, rfl, by show (0 : Int) < _; decide, _, _, rfl, rfl, .inr ⟨by decide, by decide⟩, _, _, rfl, rfl, _, rfl, _, _, rfl, rfl, n0, ?_⟩
        exact q _ _ (Int.emod_nonneg _ (by omega)) (Int.emod_lt_of_pos _ n0) ⟨a, ns, i, big, _, B.set i big _ (Int.emod_nonneg _ (by decide)) (Int.emod_lt_of_pos _ (by decide))⟩ (bt.trans But.upd)
    refine ⟨_, pss_cons (ps_if (PW.pt (pw_and (pt_cmpR op_eq (pe_ix ix_list (pv 0) pe_int (fun _ _ => rfl)) pe_int (nomark _))
          (pw_and1 (pt_cmpR op_lt (pe_ix ix_list (pv 0) pe_int (fun _ _ => rfl)) (pe_callB call_len_seq (by rfl) M.len PySem.boot_len (pa_cons (pe_ix ix_list (pv 0) pe_int (fun _ _ => rfl)) pa_nil)) (nomark _)))))
        (pss_cons (ps_set (i := 2) scPull.nd rfl (.inl rfl) (pe_ix ix_list (pe_ix ix_list (pv 0) pe_int (fun _ _ => rfl)) (pe_ix ix_list (pv 0) pe_int (fun _ _ => rfl)) (fun _ _ => rfl)))
        (pss_cons (ps_asg (pe_op op_add (pe_ix ix_list (pv 0) pe_int (fun _ _ => rfl)) pe_int) (pg_sub (pv 0) pe_int set_list))
        (pss_one (ps_if (pt_cmpR op_ge (pv 2) (pe_op op_pow pe_int pe_int) (nomark _))
          (pss_one (ps_asg (pv 2) (pg_sub (pv 0) pe_int set_list)))
          (pss_one (ps_asg (pe_op op_mod (pe_op op_add (pe_op op_add (pe_op op_mul (pe_ix ix_list (pv 0) pe_int (fun _ _ => rfl)) pe_int) (pe_op op_mul (pe_op op_mod (pv 2) pe_int) pe_int)) pe_int) pe_int) (pg_sub (pv 0) pe_int set_list))))))) pss_nil) h2, ?_⟩
    obtain ⟨a, ns, i, big, sd, B⟩ := id hB
    refine ⟨_, rfl, b, _, 2, _, rfl, rfl, SqL.of B.hb, atI_nat (j := 2) rfl, rfl, _, rfl, ite2 (fun _ => ?_) (fun _ => iteF (tail _ _ hB (But.refl b H)))⟩
    refine ⟨_, rfl, b, _, 1, _, rfl, rfl, SqL.of B.hb, atI_nat (j := 1) rfl, _, rfl, b, _, 0, _, rfl, rfl, SqL.of B.hb, atI_nat (j := 0) rfl, a, _, rfl, .inl (SqL.of B.ha), _, _, rfl, rfl, _, rfl, ite2 (fun hlt => ?_) (fun _ => tail _ _ hB (But.refl b H))⟩
    have hi : i < ns.length := by
      have := of_decide_eq_true hlt
      rw [List.length_map] at this
      omega
    have hz : (ns.map V.int)[i]? = some (.int ns[i]) := by
      rw [List.getElem?_map, List.getElem?_eq_getElem hi]
      rfl
    refine ⟨_, rfl, b, _, 0, _, rfl, rfl, SqL.of B.hb, atI_nat (j := 0) rfl, _, rfl, b, _, 1, _, rfl, rfl, SqL.of B.hb, atI_nat (j := 1) rfl, a, _, _, _, rfl, rfl, SqL.of B.ha, atI_nat hz, ?_⟩
    refine ⟨_, rfl, b, _, 1, _, rfl, rfl, SqL.of B.hb, atI_nat (j := 1) rfl, _, _, rfl, rfl, _, rfl, b, _, 1, 1, rfl, rfl, B.hb, rfl, ?_⟩
    have B1 : BagIn (upd H b (.lst [.ref a, .int ((i : Int) + 1), .int big, .int sd])) b a ns (i + 1) big sd := B.set (i + 1) big sd B.s0 B.s1
    refine ⟨_, rfl, _, _, rfl, rfl, ⟨by decide, by decide, by decide⟩, _, _, rfl, rfl, _, rfl, ite2 (fun _ => ?_) (fun _ => ?_)⟩
    · refine ⟨_, rfl, _, rfl, b, _, 2, 2, rfl, rfl, B1.hb, rfl, ?_⟩
      exact tail _ _ ⟨a, ns, i + 1, ns[i], sd, B1.set (i + 1) ns[i] sd B.s0 B.s1⟩ (But.upd.trans But.upd)
    · refine ⟨_, rfl, b, _, 3, _, rfl, rfl, SqL.of B1.hb, atI_nat (j := 3) rfl, _, _, rfl, rfl, .inr ⟨by decide, by decide⟩, _, rfl, _, _, rfl, rfl, by show (0 : Int) < _; decide, _, _, rfl, rfl, .inr ⟨by decide, by decide⟩, _, _, rfl, rfl, _, _, rfl, rfl, _, _, rfl, rfl, by show (0 : Int) < _; decide, ?_⟩
      refine ⟨_, rfl, b, _, 3, 3, rfl, rfl, B1.hb, rfl, ?_⟩
      exact tail _ _ ⟨a, ns, i + 1, big, _, B1.set (i + 1) big _ (Int.emod_nonneg _ (by decide)) (Int.emod_lt_of_pos _ (by decide))⟩ (But.upd.trans But.upd)
/-! ### _law_of -/
theorem scOf : FnScope ["_law_bag_here", "_law_things"] ["_law_bag_here", "_law_things"] (defScope sOf) := ⟨rfl, rfl, rfl, by decide +kernel, rfl, by decide +kernel, by decide +kernel⟩
theorem ok_of {f f1 : Addr} {fd fd1 : FuncData} (F : Fun K "_law_of" "_law_of" sOf f fd) (M : Cst mg) (F1 : Fun K "_law_pull" "_law_pull" sPull f1 fd1) (b1 : Binds K fd1 ["_law_bag_here", "_law_many"] []) (g1 : mg "_law_pull" = some (.ref f1)) :
    FnOk P w K mg base CX0 2 f fd ["_law_bag_here", "_law_things"] spOf := by
  have G1 : FnOk P w K mg base CX0 1 f1 fd1 ["_law_bag_here", "_law_many"] spPull := ok_pull F1 M
  refine F.ok scOf (fun vs H Q E h => ?_) (fun cdv A outer s H vs Q E hr h => ?_)
  · obtain ⟨b, t, ls, rfl, _⟩ := h
    rfl
  · obtain ⟨b, t, ls, rfl, hB, ht, ne, n0, n1, q⟩ := h
    refine ⟨_, pss_one (ps_ret (pe_ix ix_list (pv 1) (pe_call G1 hr rfl g1 F1.kp b1 .nil pass0 (pa_cons (pv 0) (pa_cons (pe_callB call_len_seq (by rfl) M.len PySem.boot_len (pa_cons (pv 1) pa_nil)) pa_nil))) (fun _ _ => rfl))), ?_⟩
    have l0 : 0 < ls.length := List.length_pos_iff.mpr n0
    refine ⟨_, rfl, _, rfl, _, rfl, t, ls, rfl, .inl (SqL.of ht), b, _, rfl, hB, by omega, by omega, fun r H1 r0 r1 hB1 bt => ?_⟩
    obtain ⟨j, rfl⟩ : ∃ j : Nat, r = (j : Int) := ⟨r.toNat, by omega⟩
    have hj : j < ls.length := by omega
    exact ⟨t, ls, (j : Int), ls[j], rfl, rfl, SqL.of (bt _ _ ht ne), atI_nat (List.getElem?_eq_getElem hj), q _ _ (List.getElem_mem hj) hB1 bt⟩
/-! ### _law_word -/
theorem scWord : FnScope ["_law_bag_here", "_law_most", "_law_text", "_law_k", "_law_sign"] ["_law_bag_here", "_law_most"] (defScope sWord) := ⟨rfl, rfl, rfl, by decide +kernel, rfl, by decide +kernel, by decide +kernel⟩
/-- the signs that may follow l -/
def may (l : List Nat) (i : Nat) : List Nat := ((List.take i [97, 98, 99, 100]).filter fun c => !decide ([c] = l.drop (l.length - 1)))
def mayV (l : List Nat) (i : Nat) : List V := (may l i).map fun c => V.str (S [c])
theorem drop_last (l : List Nat) : l.drop (l.length - 1) = l.getLast?.toList := by
  have h := end_rev l.reverse
  rw [List.reverse_reverse, List.head?_reverse] at h
  exact h
theorem may_more {l : List Nat} {i c : Nat} (h : [97, 98, 99, 100][i]? = some c) : may l (i + 1) = if (!decide ([c] = l.drop (l.length - 1))) = true then may l i ++ [c] else may l i := by
  unfold may
  rw [List.take_add_one, List.filter_append, h]
  by_cases e : (!decide ([c] = l.drop (l.length - 1))) = true
  · rw [if_pos e]
    show _ ++ List.filter _ [c] = _
    rw [List.filter_cons, if_pos e]
    rfl
  · rw [if_neg e]
    show _ ++ List.filter _ [c] = _
    rw [List.filter_cons, if_neg e]
    exact List.append_nil _
theorem may_len (l : List Nat) (i : Nat) : (may l i).length ≤ 4 := by
  unfold may
  have h1 := List.length_filter_le (fun c => !decide ([c] = l.drop (l.length - 1))) (List.take i [97, 98, 99, 100])
  have h2 : (List.take i [97, 98, 99, 100]).length ≤ 4 := by
    rw [List.length_take]
    exact Nat.min_le_right _ _
  omega
theorem may_mem {l : List Nat} {c : Nat} (h : c ∈ may l 4) : (97 ≤ c ∧ c ≤ 100) ∧ l.getLast? ≠ some c := by
  obtain ⟨h1, h2⟩ := List.mem_filter.mp h
  have h3 : c ∈ [97, 98, 99, 100] := h1
  refine ⟨by simp only [List.mem_cons, List.not_mem_nil, or_false] at h3; omega, fun z => ?_⟩
  rw [drop_last, z] at h2
  simp at h2
theorem may_some (l : List Nat) : may l 4 ≠ [] := by
  intro z
  have all : ∀ c ∈ [97, 98, 99, 100], [c] = l.drop (l.length - 1) := fun c hc => by
    refine Classical.byContradiction fun n => ?_
    have m : c ∈ may l 4 := List.mem_filter.mpr ⟨hc, by rw [decide_eq_false n]; rfl⟩
    rw [z] at m
    cases m
  have e1 := all 97 (by decide)
  have e2 := all 98 (by decide)
  rw [← e2] at e1
  cases e1
theorem ok_word {f f1 f2 : Addr} {fd fd1 fd2 : FuncData} (F : Fun K "_law_word" "_law_word" sWord f fd) (M : Cst mg) (F1 : Fun K "_law_pull" "_law_pull" sPull f1 fd1) (b1 : Binds K fd1 ["_law_bag_here", "_law_many"] []) (g1 : mg "_law_pull" = some (.ref f1))
    (F2 : Fun K "_law_of" "_law_of" sOf f2 fd2) (b2 : Binds K fd2 ["_law_bag_here", "_law_things"] []) (g2 : mg "_law_of" = some (.ref f2)) : FnOk P w K mg base CX0 3 f fd ["_law_bag_here", "_law_most"] spWord := by
  have G1 : FnOk P w K mg base CX0 1 f1 fd1 ["_law_bag_here", "_law_many"] spPull := ok_pull F1 M
  have G2 : FnOk P w K mg base CX0 2 f2 fd2 ["_law_bag_here", "_law_things"] spOf := ok_of F2 M F1 b1 g1
  refine F.ok scWord (fun vs H Q E h => ?_) (fun cdv A outer s H vs Q E hr h => ?_)
  · obtain ⟨b, m, rfl, _⟩ := h
    rfl
  · obtain ⟨b, m, rfl, hB, hm, q⟩ := h
    refine ⟨_, pss_cons (ps_set (i := 2) scWord.nd rfl (.inr rfl) pe_str)
      (pss_cons (ps_for PassesOwn.never rfl (pi_range1 (by rfl) M.range (pa_cons (pe_call G1 (hr.mono (by decide)) rfl g1 F1.kp b1 .nil pass0 (pa_cons (pv 0) (pa_cons (pe_op op_add (pv 1) pe_int) pa_nil))) pa_nil)) (pg_name (i := 3) scWord.nd rfl (.inl rfl))
        (pss_one (ps_set (i := 2) scWord.nd rfl (.inr rfl) (pe_op op_add_str (pv 2) (pe_call G2 hr rfl g2 F2.kp b2 .nil pass0 (pa_cons (pv 0) (pa_cons
          (pe_lc (own := [("_law_sign", 4)]) (g := gName 4) (by rfl) scWord.nd (pi_str pe_str) (blkOk_by (own := [("_law_sign", 4)]) (N := ["_law_bag_here", "_law_most", "_law_text", "_law_k", "_law_sign"]) (sc := defScope sWord) (by decide +kernel))
            (fun _ _ _ _ _ => pg_name (i := 4) scWord.nd rfl (Or.inl rfl))
            (fun _ _ _ _ _ => pts_one (pt_cmpR op_ne (pv 4) (pe_slice sl_str (pv 2) (po_some (pe_un un_neg pe_int)) po_none) (nomark _)))
            (fun _ _ _ _ _ => pv 4)) pa_nil)))))))
      (pss_one (ps_ret (pv 2)))), ?_⟩
    refine ⟨_, rfl, _, rfl, _, _, rfl, rfl, b, _, rfl, hB, by omega, by omega, fun r H1 r0 r1 hB1 bt1 => ?_⟩
    refine ⟨r, rfl, by omega, by omega, for_it walk_range (fun i σ H' => ∃ l v3 v4, σ = [some (.ref b), some (.int (m : Int)), some (.str (S l)), v3, v4] ∧ Wd l i ∧ BagAt H' b ∧ But b H H')
      ⟨[], none, none, ?_, ⟨Lt.nil, Rd_nil, Nat.le_refl _⟩, hB1, bt1⟩ (fun _ _ _ _ _ => trivial) ?_ ?_⟩
    · rw [← empty_eq]
      rfl
    · rintro i x σ H2 H3 hi ⟨l, v3, v4, rfl, wd, hB2, bt2⟩ ⟨rfl, rfl⟩
      have hl : l.length ≤ 12 := by
        have := wd.len
        omega
      refine ⟨_, rfl, _, rfl, Str.ofString "abcd", rfl, fun D nD => lc_it walk_str (fun j H' => Same H3 H' ∧ H' D = some (.lst (mayV l j))) ⟨same_upd nD, upd_same⟩ (fun _ _ _ _ => trivial) ?_ ?_⟩
      · rintro j y H4 H5 hj ⟨sm, hD⟩ ⟨rfl, c, hc, rfl⟩
        have hc' : [97, 98, 99, 100][j]? = some c := by
          have e : (Str.ofString "abcd").cps = [97, 98, 99, 100].toArray := congrArg Str.cps letters_eq
          rw [e] at hc
          simpa using hc
        have step := may_more (l := l) hc'
        refine ⟨rfl, _, rfl, _, rfl, 1, rfl, _, rfl, _, rfl, fits (by omega), rfl, _, rfl, ?_⟩
        have e : (!decide (V.str (S [c]) = V.str (cutS (S l) (some (-1)) none))) = !decide ([c] = l.drop (l.length - 1)) := by
          rw [cut_end, dec_S]
        show (if (!decide (V.str (S [c]) = V.str (cutS (S l) (some (-1)) none))) = true then _ else _)
        rw [e]
        refine ite2 (fun h => ?_) (fun h => ?_)
        · rw [if_pos h] at step
          refine ⟨_, rfl, mayV l j, hD, ?_, fun a o ea => ?_, ?_⟩
          · unfold mayV
            rw [List.length_map]
            exact small1000 (by have := may_len l j; omega)
          · rw [upd_ne (ne_of_none ea nD)]
            exact sm a o ea
          · rw [upd_same]
            unfold mayV
            rw [step, List.map_append]
            rfl
        · rw [if_neg h] at step
          refine ⟨sm, ?_⟩
          rw [hD]
          unfold mayV
          rw [step]
      · rintro H4 ⟨sm, hD⟩
        have hD' : H4 D = some (.lst (mayV l 4)) := hD
        have hB4 := hB2.same sm
        have neD : D ≠ b := fun z => by
          obtain ⟨a, ns, i, big, sd, B⟩ := hB2
          have := B.hb
          rw [← z, nD] at this
          cases this
        refine ⟨b, D, mayV l 4, rfl, hB4, hD', neD, fun z => may_some l (List.map_eq_nil_iff.mp z), ?_, fun v H6 hv hB6 bt6 => ?_⟩
        · unfold mayV
          rw [List.length_map]
          have := may_len l 4
          omega
        · obtain ⟨c, hc, rfl⟩ := List.mem_map.mp hv
          obtain ⟨hc1, hc2⟩ := may_mem hc
          refine ⟨S l, S [c], rfl, rfl, fits2 (by show _ + 1 ≤ 1000; omega), l ++ [c], some (.int (0 + (i : Int))), v4, ?_, ⟨wd.lt.app fun x hx => ?_, Rd_snoc wd.rd hc2, ?_⟩, hB6, (bt2.trans (But.of sm)).trans bt6⟩
          · rw [← S_app]
            rfl
          · rw [List.mem_singleton.mp hx]
            exact hc1
          · rw [List.length_append]
            have := wd.len
            show l.length + 1 ≤ i + 1
            omega
    · rintro σ H2 ⟨l, v3, v4, rfl, wd, hB2, bt2⟩
      exact ⟨_, rfl, q l H2 (wd.mono (by omega)) hB2 bt2⟩
/-! ### _law_drawn_call -/
theorem scDrawn : FnScope ["_law_bag_here", "_law_most", "_law_text"] ["_law_bag_here", "_law_most"] (defScope sDrawn) := ⟨rfl, rfl, rfl, by decide +kernel, rfl, by decide +kernel, by decide +kernel⟩
/-- a word that is not empty is a call -/
theorem call_of {l : List Nat} {m : Nat} (wd : Wd l m) (n : l ≠ []) : ∃ s, Cl l s m := by
  have e := (List.dropLast_concat_getLast n).symm
  refine ⟨l.getLast n, wd, wd.lt _ (List.getLast_mem n), ?_⟩
  have h := cut_snoc (l.getLast n) l.dropLast
  rw [← e] at h
  exact h
theorem great_call {v : V} (h : v ∈ [V.str (Str.ofString "A"), V.str (Str.ofString "B"), V.str (Str.ofString "C"), V.str (Str.ofString "D")]) : ∃ s, (97 ≤ s ∧ s ≤ 100) ∧ v = V.str (S (cal [] s)) := by
  have eA : Str.ofString "A" = S [65] := by decide +kernel
  have eB : Str.ofString "B" = S [66] := by decide +kernel
  have eC : Str.ofString "C" = S [67] := by decide +kernel
  have eD : Str.ofString "D" = S [68] := by decide +kernel
  rw [eA, eB, eC, eD] at h
  simp only [List.mem_cons, List.not_mem_nil, or_false] at h
  rcases h with rfl | rfl | rfl | rfl
  · exact ⟨97, by decide, rfl⟩
  · exact ⟨98, by decide, rfl⟩
  · exact ⟨99, by decide, rfl⟩
  · exact ⟨100, by decide, rfl⟩
theorem ok_drawn {f f2 f3 : Addr} {fd fd2 fd3 : FuncData} (F : Fun K "_law_drawn_call" "_law_drawn_call" sDrawn f fd)
    (F2 : Fun K "_law_of" "_law_of" sOf f2 fd2) (G2 : FnOk P w K mg base CX0 2 f2 fd2 ["_law_bag_here", "_law_things"] spOf) (b2 : Binds K fd2 ["_law_bag_here", "_law_things"] []) (g2 : mg "_law_of" = some (.ref f2))
    (F3 : Fun K "_law_word" "_law_word" sWord f3 fd3) (G3 : FnOk P w K mg base CX0 3 f3 fd3 ["_law_bag_here", "_law_most"] spWord) (b3 : Binds K fd3 ["_law_bag_here", "_law_most"] []) (g3 : mg "_law_word" = some (.ref f3)) :
    FnOk P w K mg base CX0 4 f fd ["_law_bag_here", "_law_most"] spDrawn := by
  refine F.ok scDrawn (fun vs H Q E h => ?_) (fun cdv A outer s H vs Q E hr h => ?_)
  · obtain ⟨b, m, rfl, _⟩ := h
    rfl
  · obtain ⟨b, m, rfl, hB, hm, q⟩ := h
    refine ⟨_, pss_cons (ps_set (i := 2) scDrawn.nd rfl (.inl rfl) (pe_call G3 hr rfl g3 F3.kp b3 .nil pass0 (pa_cons (pv 0) (pa_cons (pv 1) pa_nil))))
      (pss_one (ps_ret (pe_ifExp (pt_cmpR op_ne (pv 2) pe_str (nomark _)) (pv 2)
        (pe_call G2 (hr.mono (by decide)) rfl g2 F2.kp b2 .nil pass0 (pa_cons (pv 0) (pa_cons (pe_lst (pa_cons pe_str (pa_cons pe_str (pa_cons pe_str (pa_cons pe_str pa_nil))))) pa_nil)))))), ?_⟩
    refine ⟨_, rfl, _, rfl, b, m, rfl, hB, hm, fun l H1 wd hB1 bt1 => ?_⟩
    refine ⟨_, rfl, rfl, _, rfl, ?_⟩
    show (if (!decide (V.str (S l) = V.str (Str.ofString ""))) = true then _ else _)
    rw [empty_eq, dec_S]
    by_cases n : l = []
    · rw [decide_eq_true n]
      refine iteF ⟨_, rfl, (by show 4 ≤ sizeLine; decide), fun t nt => ?_⟩
      have net : t ≠ b := fun z => by
        obtain ⟨a, ns, i, big, sd, B⟩ := hB1
        have := B.hb
        rw [← z, nt] at this
        cases this
      refine ⟨b, t, _, rfl, hB1.same (same_upd nt), upd_same, net, (by intro z; cases z), (by show 4 < 1000; decide), fun v H2 hv hB2 bt2 => ?_⟩
      obtain ⟨s, le, rfl⟩ := great_call hv
      exact q [] s H2 ⟨⟨Lt.nil, Rd_nil, Nat.zero_le _⟩, le, rfl⟩ hB2
    · rw [decide_eq_false n]
      obtain ⟨s, cl⟩ := call_of wd n
      have h := q l s H1 cl hB1
      rw [cal_word n] at h
      exact iteT ⟨_, rfl, h⟩
/-! ### law -/
/-- the law's promise: a list of ints is handed in, True comes out -/
def spLaw (K : PySem.W.Frag) : Sp := fun args H Q _ => ∃ (a : Addr) (script : List Int), args = [.ref a] ∧ SqL K H a (script.map V.int) ∧ ∀ H', Q (.bl true) H'
theorem scLaw : FnScope ["_law_script", "_law_bag_here", "_law_turn", "_law_one", "_law_other", "_law_last", "_law_call", "_law_there", "_law_flaw"] ["_law_script"] (defScope sLaw) := ⟨rfl, rfl, rfl, by decide +kernel, rfl, by decide +kernel, by decide +kernel⟩
/-- what the law calls -/
structure Calls (P : Program) (w : World) (K : PySem.W.Frag) (mg : Str → Option Value) (base : Heap) : Prop where
  bag : ∃ f fd, FnOk P w K mg base CX0 1 f fd ["_law_script"] (spBag K) ∧ PySem.W.keepIn K (.ref f) = true ∧ Binds K fd ["_law_script"] [] ∧ mg "_law_bag" = some (.ref f)
  word : ∃ f fd, FnOk P w K mg base CX0 3 f fd ["_law_bag_here", "_law_most"] spWord ∧ PySem.W.keepIn K (.ref f) = true ∧ Binds K fd ["_law_bag_here", "_law_most"] [] ∧ mg "_law_word" = some (.ref f)
  drawn : ∃ f fd, FnOk P w K mg base CX0 4 f fd ["_law_bag_here", "_law_most"] spDrawn ∧ PySem.W.keepIn K (.ref f) = true ∧ Binds K fd ["_law_bag_here", "_law_most"] [] ∧ mg "_law_drawn_call" = some (.ref f)
  joined : ∃ f fd, FnOk P w K mg base CX0 3 f fd ["one", "other"] spJoined ∧ PySem.W.keepIn K (.ref f) = true ∧ Binds K fd ["one", "other"] [] ∧ mg "joined" = some (.ref f)
  undone : ∃ f fd, FnOk P w K mg base CX0 3 f fd ["word"] spUndone ∧ PySem.W.keepIn K (.ref f) = true ∧ Binds K fd ["word"] [] ∧ mg "undone" = some (.ref f)
  turned : ∃ f fd, FnOk P w K mg base CX0 5 f fd ["call", "word"] spTurned ∧ PySem.W.keepIn K (.ref f) = true ∧ Binds K fd ["call", "word"] [] ∧ mg "turned" = some (.ref f)
  iscall : ∃ f fd, FnOk P w K mg base CX0 3 f fd ["text"] (spCallTo (.bl true)) ∧ PySem.W.keepIn K (.ref f) = true ∧ Binds K fd ["text"] [] ∧ mg "is_call" = some (.ref f)
  isword : ∃ f fd, FnOk P w K mg base CX0 2 f fd ["text"] (spWordTo (.bl true)) ∧ PySem.W.keepIn K (.ref f) = true ∧ Binds K fd ["text"] [] ∧ mg "is_word" = some (.ref f)
  reduced : ∃ f fd, FnOk P w K mg base CX0 2 f fd ["text"] spReduced ∧ PySem.W.keepIn K (.ref f) = true ∧ Binds K fd ["text"] [] ∧ mg "reduced" = some (.ref f)
theorem ne_same {a b : List Nat} (h : a = b) {A B : Prop} (hB : B) : if (!decide (V.str (S a) = V.str (S b))) = true then A else B := iteNS (by rw [h]) hB
theorem ok_law {f : Addr} {fd : FuncData} (F : Fun K "law" "law" sLaw f fd) (M : Cst mg) (C : Calls P w K mg base) : FnOk P w K mg base CX0 6 f fd ["_law_script"] (spLaw K) := by
  obtain ⟨f1, fd1, G1, k1, b1, g1⟩ := C.bag
  obtain ⟨f2, fd2, G2, k2, b2, g2⟩ := C.word
  obtain ⟨f3, fd3, G3, k3, b3, g3⟩ := C.drawn
  obtain ⟨f4, fd4, G4, k4, b4, g4⟩ := C.joined
  obtain ⟨f5, fd5, G5, k5, b5, g5⟩ := C.undone
  obtain ⟨f6, fd6, G6, k6, b6, g6⟩ := C.turned
  obtain ⟨f7, fd7, G7, k7, b7, g7⟩ := C.iscall
  obtain ⟨f8, fd8, G8, k8, b8, g8⟩ := C.isword
  obtain ⟨f9, fd9, G9, k9, b9, g9⟩ := C.reduced
  refine F.ok scLaw (fun vs H Q E h => ?_) (fun cdv A outer s H vs Q E hr h => ?_)
  · obtain ⟨a, ns, rfl, _⟩ := h
    rfl
  · obtain ⟨a, ns, rfl, hS, q⟩ := h
    have r1 : Room 1 _ := hr.mono (by decide)
    have r2 : Room 2 _ := hr.mono (by decide)
    have r3 : Room 3 _ := hr.mono (by decide)
    have r4 : Room 4 _ := hr.mono (by decide)
    refine ⟨_, pss_cons (ps_set (i := 1) scLaw.nd rfl (.inl rfl) (pe_call G1 r1 rfl g1 k1 b1 .nil pass0 (pa_cons (pv 0) pa_nil)))
      (pss_cons (ps_for PassesOwn.never rfl (pi_range1 (by rfl) M.range (pa_cons pe_int pa_nil)) (pg_name (i := 2) scLaw.nd rfl (.inl rfl))
        -- the three words
        (pss_cons (ps_par3 (i := 3) (j := 4) (l := 5) rfl scLaw.nd rfl rfl rfl (by decide) (by decide) (by decide) rfl rfl rfl
          (pa_cons (pe_call G2 r3 rfl g2 k2 b2 .nil pass0 (pa_cons (pv 1) (pa_cons pe_int pa_nil))) (pa_cons (pe_call G2 r3 rfl g2 k2 b2 .nil pass0 (pa_cons (pv 1) (pa_cons pe_int pa_nil)))
            (pa_cons (pe_call G2 r3 rfl g2 k2 b2 .nil pass0 (pa_cons (pv 1) (pa_cons pe_int pa_nil))) pa_nil))) (by rfl))
        -- brackets don't matter
        (pss_cons (ps_if (pt_cmpR op_ne (pe_call G4 r3 rfl g4 k4 b4 .nil pass0 (pa_cons (pe_call G4 r3 rfl g4 k4 b4 .nil pass0 (pa_cons (pv 3) (pa_cons (pv 4) pa_nil))) (pa_cons (pv 5) pa_nil)))
            (pe_call G4 r3 rfl g4 k4 b4 .nil pass0 (pa_cons (pv 3) (pa_cons (pe_call G4 r3 rfl g4 k4 b4 .nil pass0 (pa_cons (pv 4) (pa_cons (pv 5) pa_nil))) pa_nil))) (nomark _)) (pss_one ps_never) pss_nil)
        -- a word and it undone
        (pss_cons (ps_if (PW.pt (pw_or (pt_cmpR op_ne (pe_call G4 r3 rfl g4 k4 b4 .nil pass0 (pa_cons (pv 3) (pa_cons (pe_call G5 r3 rfl g5 k5 b5 .nil pass0 (pa_cons (pv 3) pa_nil)) pa_nil))) pe_str (nomark _))
            (pw_or1 (pt_cmpR op_ne (pe_call G5 r3 rfl g5 k5 b5 .nil pass0 (pa_cons (pe_call G4 r3 rfl g4 k4 b4 .nil pass0 (pa_cons (pv 3) (pa_cons (pv 4) pa_nil))) pa_nil))
              (pe_call G4 r3 rfl g4 k4 b4 .nil pass0 (pa_cons (pe_call G5 r3 rfl g5 k5 b5 .nil pass0 (pa_cons (pv 4) pa_nil)) (pa_cons (pe_call G5 r3 rfl g5 k5 b5 .nil pass0 (pa_cons (pv 3) pa_nil)) pa_nil))) (nomark _))))) (pss_one ps_never) pss_nil)
        (pss_cons (ps_set (i := 6) scLaw.nd rfl (.inl rfl) (pe_call G3 r4 rfl g3 k3 b3 .nil pass0 (pa_cons (pv 1) (pa_cons pe_int pa_nil))))
        (pss_cons (ps_set (i := 7) scLaw.nd rfl (.inl rfl) (pe_call G6 hr rfl g6 k6 b6 .nil pass0 (pa_cons (pv 6) (pa_cons (pv 3) pa_nil))))
        -- there and back
        (pss_cons (ps_if (PW.pt (pw_or (pt_not (pt_val (pe_call G7 r3 rfl g7 k7 b7 .nil pass0 (pa_cons (pv 7) pa_nil))))
            (pw_or1 (pt_cmpR op_ne (pe_call G6 hr rfl g6 k6 b6 .nil pass0 (pa_cons (pv 7) (pa_cons (pe_call G5 r3 rfl g5 k5 b5 .nil pass0 (pa_cons (pv 3) pa_nil)) pa_nil))) (pv 6) (nomark _))))) (pss_one ps_never) pss_nil)
        -- one lead behind the other
        (pss_cons (ps_if (pt_cmpR op_ne (pe_call G6 hr rfl g6 k6 b6 .nil pass0 (pa_cons (pv 7) (pa_cons (pv 4) pa_nil)))
            (pe_call G6 hr rfl g6 k6 b6 .nil pass0 (pa_cons (pv 6) (pa_cons (pe_call G4 r3 rfl g4 k4 b4 .nil pass0 (pa_cons (pv 3) (pa_cons (pv 4) pa_nil))) pa_nil))) (nomark _)) (pss_one ps_never) pss_nil)
        (pss_cons (ps_set (i := 8) scLaw.nd rfl (.inl rfl) (pe_call G9 r2 rfl g9 k9 b9 .nil pass0 (pa_cons (pe_op op_add_str (pe_call G4 r3 rfl g4 k4 b4 .nil pass0 (pa_cons (pv 3) (pa_cons (pv 4) pa_nil))) (pv 5)) pa_nil)))
        (pss_one (ps_if (PW.pt (pw_or (pt_not (pt_val (pe_call G8 r2 rfl g8 k8 b8 .nil pass0 (pa_cons (pv 8) pa_nil))))
            (pw_or (pt_cmpR op_ne (pv 8) (pe_call G4 r3 rfl g4 k4 b4 .nil pass0 (pa_cons (pe_call G4 r3 rfl g4 k4 b4 .nil pass0 (pa_cons (pv 3) (pa_cons (pv 4) pa_nil))) (pa_cons (pv 5) pa_nil))) (nomark _))
            (pw_or1 (pt_cmpR op_ne (pe_call G4 r3 rfl g4 k4 b4 .nil pass0 (pa_cons (pv 3) (pa_cons pe_str pa_nil))) (pv 3) (nomark _)))))) (pss_one ps_never) pss_nil)))))))))))
      (pss_one (ps_ret pe_bl))), ?_⟩
    refine ⟨_, rfl, a, ns, rfl, hS, fun b H1 hB1 => ?_⟩
    refine ⟨4, rfl, by decide, by decide, for_it walk_range (fun i σ H' => ∃ v2 v3 v4 v5 v6 v7 v8, σ = [some (.ref a), some (.ref b), v2, v3, v4, v5, v6, v7, v8] ∧ BagAt H' b)
      ⟨none, none, none, none, none, none, none, rfl, hB1⟩ (fun _ _ _ _ _ => trivial) ?_ ?_⟩
    · rintro i x σ H2 H3 hi ⟨v2, v3, v4, v5, v6, v7, v8, rfl, hB⟩ ⟨rfl, rfl⟩
      -- the words
      refine ⟨_, rfl, b, 12, rfl, hB, Nat.le_refl _, fun u H4 wu hB4 _ => ⟨_, rfl, b, 12, rfl, hB4, Nat.le_refl _, fun v H5 wv hB5 _ => ⟨_, rfl, b, 12, rfl, hB5, Nat.le_refl _, fun y H6 wy hB6 _ => ⟨_, _, _, rfl, ?_⟩⟩⟩⟩
      have wu4 : Wd u 40 := wu.mono (by decide)
      have wv4 : Wd v 40 := wv.mono (by decide)
      have wy4 : Wd y 40 := wy.mono (by decide)
      have wuv : Wd (shrt (u ++ v)) 40 := (wu.join wv).mono (by decide)
      have wuv24 : Wd (shrt (u ++ v)) 24 := wu.join wv
      have wvy : Wd (shrt (v ++ y)) 40 := (wv.join wy).mono (by decide)
      -- brackets don't matter
      refine ⟨_, rfl, _, rfl, u, v, rfl, wu4, wv4, fun H7 s7 => ⟨_, rfl, shrt (u ++ v), y, rfl, wuv, wy4, fun H8 s8 => ?_⟩⟩
      refine ⟨_, rfl, _, rfl, _, rfl, v, y, rfl, wv4, wy4, fun H9 s9 => ⟨u, shrt (v ++ y), rfl, wu4, wvy, fun H10 s10 => ⟨rfl, _, rfl, ne_same (join_assoc u v y) ?_⟩⟩⟩
      have t10 : Same H6 H10 := ((s7.trans s8).trans s9).trans s10
      -- a word and it undone is none
      refine ⟨_, rfl, _, rfl, u, rfl, wu4, fun H11 s11 => ⟨u, u.reverse, rfl, wu4, wu4.rev, fun H12 s12 => ?_⟩⟩
      refine ⟨rfl, _, rfl, ?_⟩
      rw [empty_eq]
      refine ne_same (join_undone u) ?_
      refine ⟨_, rfl, _, rfl, u, v, rfl, wu4, wv4, fun H13 s13 => ⟨shrt (u ++ v), rfl, wuv, fun H14 s14 => ?_⟩⟩
      refine ⟨_, rfl, v, rfl, wv4, fun H15 s15 => ⟨_, rfl, u, rfl, wu4, fun H16 s16 => ⟨v.reverse, u.reverse, rfl, wv4.rev, wu4.rev, fun H17 s17 => ⟨rfl, _, rfl, ne_same (undone_join u v) ?_⟩⟩⟩⟩
      have t17 : Same H6 H17 := ((((((t10.trans s11).trans s12).trans s13).trans s14).trans s15).trans s16).trans s17
      -- the call
      refine ⟨_, rfl, b, 8, rfl, hB6.same t17, by decide, fun c0 s0 H18 cl hB18 => ?_⟩
      have cl4 : Cl c0 s0 40 := ⟨cl.wd.mono (by decide), cl.le, cl.ct⟩
      -- there
      refine ⟨_, rfl, _, rfl, c0, s0, u, rfl, cl4, wu4, fun H19 s19 => ?_⟩
      have ct : Cl (trn u c0 s0) s0 20 := cl.trn wu
      have ct4 : Cl (trn u c0 s0) s0 40 := ⟨ct.wd.mono (by decide), ct.le, ct.ct⟩
      -- and back
      refine ⟨_, rfl, trn u c0 s0, s0, rfl, ct4, fun H20 s20 => ⟨_, rfl, iteF ?_⟩⟩
      refine ⟨_, rfl, _, rfl, u, rfl, wu4, fun H21 s21 => ⟨trn u c0 s0, s0, u.reverse, rfl, ct4, wu4.rev, fun H22 s22 => ?_⟩⟩
      refine ⟨_, rfl, rfl, _, rfl, ne_same (by rw [trn_back cl.wd.rd cl.ct]) ?_⟩
      -- one lead behind the other
      refine ⟨_, rfl, _, rfl, trn u c0 s0, s0, v, rfl, ct4, wv4, fun H23 s23 => ?_⟩
      refine ⟨_, rfl, _, rfl, _, rfl, u, v, rfl, wu4, wv4, fun H24 s24 => ⟨c0, s0, shrt (u ++ v), rfl, cl4, wuv, fun H25 s25 => ⟨rfl, _, rfl, ne_same (by rw [trn_join]) ?_⟩⟩⟩
      -- reduced
      refine ⟨_, rfl, _, rfl, u, v, rfl, wu4, wv4, fun H26 s26 => ⟨_, rfl, S (shrt (u ++ v)), S y, rfl, rfl, fits2 (by have := wuv.len; have := wy4.len; omega), shrt (u ++ v) ++ y, ?_, wuv.lt.app wy4.lt, (by rw [List.length_append]; have := wuv.len; have := wy4.len; omega), fun H27 s27 => ?_⟩⟩
      · rw [← S_app]
        rfl
      have wall : Wd (shrt (shrt (u ++ v) ++ y)) 40 := (wuv24.join wy).mono (by decide)
      refine ⟨_, rfl, shrt (shrt (u ++ v) ++ y), rfl, wall, fun H28 s28 => ⟨_, rfl, iteF ?_⟩⟩
      refine ⟨_, rfl, _, rfl, _, rfl, u, v, rfl, wu4, wv4, fun H29 s29 => ⟨_, rfl, shrt (u ++ v), y, rfl, wuv, wy4, fun H30 s30 => ⟨rfl, _, rfl, ne_same rfl ?_⟩⟩⟩
      refine ⟨_, rfl, u, [], ?_, wu4, ⟨Lt.nil, Rd_nil, Nat.zero_le _⟩, fun H31 s31 => ⟨_, rfl, rfl, _, rfl, ne_same (join_nil wu.rd) ?_⟩⟩
      · rw [← empty_eq]
        rfl
      have t31 : Same H18 H31 := ((((((((((((s19.trans s20).trans s21).trans s22).trans s23).trans s24).trans s25).trans s26).trans s27).trans s28).trans s29).trans s30).trans s31)
      exact ⟨_, _, _, _, _, _, _, rfl, hB18.same t31⟩
    · rintro σ H2 ⟨v2, v3, v4, v5, v6, v7, v8, rfl, hB⟩
      exact q H2
end
end K13

/-! What the top has written, and the last theorem. -/
namespace K13
open PySem PySem.Spec PyProof.Rows L2
theorem all_mk {l : PySem.W.OpenLaw} {w : World} {K : PySem.W.Frag} {h : Heap} {mg : Str → Option Value} {fa f1 f2 f3 f4 f5 f6 f7 f8 f9 f10 f11 f12 f13 f14 f15 f16 f17 f18 f19 : Addr} (X : K.In h) (G : h.Ns mainGlobals mg) (hfa : mg "law" = some (.ref fa))
    {od1 an1 od2 an2 od3 an3 od4 an4 od5 an5 od6 an6 od7 an7 od8 an8 od9 an9 od10 an10 od11 an11 od12 an12 od13 an13 od14 an14 od15 an15 od16 an16 od17 an17 od18 an18 od19 an19 : Option Addr} {sl1 sl2 sl3 sl4 sl5 sl6 sl7 sl8 sl9 sl10 sl11 sl12 sl13 sl14 sl15 sl16 sl17 sl18 sl19 : Array (Option Value)} {oc1 kV1 dc1 pm1 cd1 ct1 oc2 kV2 dc2 pm2 cd2 ct2 oc3 kV3 dc3 pm3 cd3 ct3 oc4 kV4 dc4 pm4 cd4 ct4 oc5 kV5 dc5 pm5 cd5 ct5 oc6 kV6 dc6 pm6 cd6 ct6 oc7 kV7 dc7 pm7 cd7 ct7 oc8 kV8 dc8 pm8 cd8 ct8 oc9 kV9 dc9 pm9 cd9 ct9 oc10 kV10 dc10 pm10 cd10 ct10 oc11 kV11 dc11 pm11 cd11 ct11 oc12 kV12 dc12 pm12 cd12 ct12 oc13 kV13 dc13 pm13 cd13 ct13 oc14 kV14 dc14 pm14 cd14 ct14 oc15 kV15 dc15 pm15 cd15 ct15 oc16 kV16 dc16 pm16 cd16 ct16 oc17 kV17 dc17 pm17 cd17 ct17 oc18 kV18 dc18 pm18 cd18 ct18 oc19 kV19 dc19 pm19 cd19 ct19 : Value}
    {tl tg tm : Tok}
    (a1 : PySem.W.nsIn K mainGlobals "flaw_in" = some (some (.ref f1))) (l1 : K.lookup f1 = some ⟨oc1, od1, .func (PySem.W.fnOf "flaw_in" "flaw_in" (defArgs sFlaw) (defBody sFlaw) (defScope sFlaw) .none kV1 dc1 pm1 an1 cd1 ct1), sl1⟩) (c1 : PySem.W.codeIn K cd1 "flaw_in" = true) (k1 : PySem.W.keepIn K (.ref f1) = true)
    (a2 : PySem.W.nsIn K mainGlobals "is_word" = some (some (.ref f2))) (l2 : K.lookup f2 = some ⟨oc2, od2, .func (PySem.W.fnOf "is_word" "is_word" (defArgs sIsWord) (defBody sIsWord) (defScope sIsWord) .none kV2 dc2 pm2 an2 cd2 ct2), sl2⟩) (c2 : PySem.W.codeIn K cd2 "is_word" = true) (k2 : PySem.W.keepIn K (.ref f2) = true)
    (a3 : PySem.W.nsIn K mainGlobals "look_word" = some (some (.ref f3))) (l3 : K.lookup f3 = some ⟨oc3, od3, .func (PySem.W.fnOf "look_word" "look_word" (defArgs sLookWord) (defBody sLookWord) (defScope sLookWord) .none kV3 dc3 pm3 an3 cd3 ct3), sl3⟩) (c3 : PySem.W.codeIn K cd3 "look_word" = true) (k3 : PySem.W.keepIn K (.ref f3) = true)
    (a4 : PySem.W.nsIn K mainGlobals "is_call" = some (some (.ref f4))) (l4 : K.lookup f4 = some ⟨oc4, od4, .func (PySem.W.fnOf "is_call" "is_call" (defArgs sIsCall) (defBody sIsCall) (defScope sIsCall) .none kV4 dc4 pm4 an4 cd4 ct4), sl4⟩) (c4 : PySem.W.codeIn K cd4 "is_call" = true) (k4 : PySem.W.keepIn K (.ref f4) = true)
    (a5 : PySem.W.nsIn K mainGlobals "look_call" = some (some (.ref f5))) (l5 : K.lookup f5 = some ⟨oc5, od5, .func (PySem.W.fnOf "look_call" "look_call" (defArgs sLookCall) (defBody sLookCall) (defScope sLookCall) .none kV5 dc5 pm5 an5 cd5 ct5), sl5⟩) (c5 : PySem.W.codeIn K cd5 "look_call" = true) (k5 : PySem.W.keepIn K (.ref f5) = true)
    (a6 : PySem.W.nsIn K mainGlobals "short" = some (some (.ref f6))) (l6 : K.lookup f6 = some ⟨oc6, od6, .func (PySem.W.fnOf "short" "short" (defArgs sShort) (defBody sShort) (defScope sShort) .none kV6 dc6 pm6 an6 cd6 ct6), sl6⟩) (c6 : PySem.W.codeIn K cd6 "short" = true) (k6 : PySem.W.keepIn K (.ref f6) = true)
    (a7 : PySem.W.nsIn K mainGlobals "reduced" = some (some (.ref f7))) (l7 : K.lookup f7 = some ⟨oc7, od7, .func (PySem.W.fnOf "reduced" "reduced" (defArgs sReduced) (defBody sReduced) (defScope sReduced) .none kV7 dc7 pm7 an7 cd7 ct7), sl7⟩) (c7 : PySem.W.codeIn K cd7 "reduced" = true) (k7 : PySem.W.keepIn K (.ref f7) = true)
    (a8 : PySem.W.nsIn K mainGlobals "joined" = some (some (.ref f8))) (l8 : K.lookup f8 = some ⟨oc8, od8, .func (PySem.W.fnOf "joined" "joined" (defArgs sJoined) (defBody sJoined) (defScope sJoined) .none kV8 dc8 pm8 an8 cd8 ct8), sl8⟩) (c8 : PySem.W.codeIn K cd8 "joined" = true) (k8 : PySem.W.keepIn K (.ref f8) = true)
    (a9 : PySem.W.nsIn K mainGlobals "undone" = some (some (.ref f9))) (l9 : K.lookup f9 = some ⟨oc9, od9, .func (PySem.W.fnOf "undone" "undone" (defArgs sUndone) (defBody sUndone) (defScope sUndone) .none kV9 dc9 pm9 an9 cd9 ct9), sl9⟩) (c9 : PySem.W.codeIn K cd9 "undone" = true) (k9 : PySem.W.keepIn K (.ref f9) = true)
    (a10 : PySem.W.nsIn K mainGlobals "name_at" = some (some (.ref f10))) (l10 : K.lookup f10 = some ⟨oc10, od10, .func (PySem.W.fnOf "name_at" "name_at" (defArgs sNameAt) (defBody sNameAt) (defScope sNameAt) .none kV10 dc10 pm10 an10 cd10 ct10), sl10⟩) (c10 : PySem.W.codeIn K cd10 "name_at" = true) (k10 : PySem.W.keepIn K (.ref f10) = true)
    (a11 : PySem.W.nsIn K mainGlobals "split_call" = some (some (.ref f11))) (l11 : K.lookup f11 = some ⟨oc11, od11, .func (PySem.W.fnOf "split_call" "split_call" (defArgs sSplit) (defBody sSplit) (defScope sSplit) .none kV11 dc11 pm11 an11 cd11 ct11), sl11⟩) (c11 : PySem.W.codeIn K cd11 "split_call" = true) (k11 : PySem.W.keepIn K (.ref f11) = true)
    (a12 : PySem.W.nsIn K mainGlobals "name_turned" = some (some (.ref f12))) (l12 : K.lookup f12 = some ⟨oc12, od12, .func (PySem.W.fnOf "name_turned" "name_turned" (defArgs sNameTurned) (defBody sNameTurned) (defScope sNameTurned) .none kV12 dc12 pm12 an12 cd12 ct12), sl12⟩) (c12 : PySem.W.codeIn K cd12 "name_turned" = true) (k12 : PySem.W.keepIn K (.ref f12) = true)
    (a13 : PySem.W.nsIn K mainGlobals "turned" = some (some (.ref f13))) (l13 : K.lookup f13 = some ⟨oc13, od13, .func (PySem.W.fnOf "turned" "turned" (defArgs sTurned) (defBody sTurned) (defScope sTurned) .none kV13 dc13 pm13 an13 cd13 ct13), sl13⟩) (c13 : PySem.W.codeIn K cd13 "turned" = true) (k13 : PySem.W.keepIn K (.ref f13) = true)
    (a14 : PySem.W.nsIn K mainGlobals "_law_bag" = some (some (.ref f14))) (l14 : K.lookup f14 = some ⟨oc14, od14, .func (PySem.W.fnOf "_law_bag" "_law_bag" (defArgs sBag) (defBody sBag) (defScope sBag) .none kV14 dc14 pm14 an14 cd14 ct14), sl14⟩) (c14 : PySem.W.codeIn K cd14 "_law_bag" = true) (k14 : PySem.W.keepIn K (.ref f14) = true)
    (a15 : PySem.W.nsIn K mainGlobals "_law_pull" = some (some (.ref f15))) (l15 : K.lookup f15 = some ⟨oc15, od15, .func (PySem.W.fnOf "_law_pull" "_law_pull" (defArgs sPull) (defBody sPull) (defScope sPull) .none kV15 dc15 pm15 an15 cd15 ct15), sl15⟩) (c15 : PySem.W.codeIn K cd15 "_law_pull" = true) (k15 : PySem.W.keepIn K (.ref f15) = true)
    (a16 : PySem.W.nsIn K mainGlobals "_law_of" = some (some (.ref f16))) (l16 : K.lookup f16 = some ⟨oc16, od16, .func (PySem.W.fnOf "_law_of" "_law_of" (defArgs sOf) (defBody sOf) (defScope sOf) .none kV16 dc16 pm16 an16 cd16 ct16), sl16⟩) (c16 : PySem.W.codeIn K cd16 "_law_of" = true) (k16 : PySem.W.keepIn K (.ref f16) = true)
    (a17 : PySem.W.nsIn K mainGlobals "_law_word" = some (some (.ref f17))) (l17 : K.lookup f17 = some ⟨oc17, od17, .func (PySem.W.fnOf "_law_word" "_law_word" (defArgs sWord) (defBody sWord) (defScope sWord) .none kV17 dc17 pm17 an17 cd17 ct17), sl17⟩) (c17 : PySem.W.codeIn K cd17 "_law_word" = true) (k17 : PySem.W.keepIn K (.ref f17) = true)
    (a18 : PySem.W.nsIn K mainGlobals "_law_drawn_call" = some (some (.ref f18))) (l18 : K.lookup f18 = some ⟨oc18, od18, .func (PySem.W.fnOf "_law_drawn_call" "_law_drawn_call" (defArgs sDrawn) (defBody sDrawn) (defScope sDrawn) .none kV18 dc18 pm18 an18 cd18 ct18), sl18⟩) (c18 : PySem.W.codeIn K cd18 "_law_drawn_call" = true) (k18 : PySem.W.keepIn K (.ref f18) = true)
    (a19 : PySem.W.nsIn K mainGlobals "law" = some (some (.ref f19))) (l19 : K.lookup f19 = some ⟨oc19, od19, .func (PySem.W.fnOf "law" "law" (defArgs sLaw) (defBody sLaw) (defScope sLaw) .none kV19 dc19 pm19 an19 cd19 ct19), sl19⟩) (c19 : PySem.W.codeIn K cd19 "law" = true) (k19 : PySem.W.keepIn K (.ref f19) = true)
    (y1 : PySem.W.nsIn K mainGlobals "LETTERS" = some (some (.str (Str.ofString "abcd") tl))) (y2 : PySem.W.nsIn K mainGlobals "GREAT" = some (some (.str (Str.ofString "ABCD") tg))) (y3 : PySem.W.nsIn K mainGlobals "MOST_WORD" = some (some (.int 40 tm)))
    (z1 : PySem.W.nsIn K mainGlobals "enumerate" = some none) (z2 : PySem.W.nsIn K mainGlobals "len" = some none) (z3 : PySem.W.nsIn K mainGlobals "range" = some none) (z4 : PySem.W.nsIn K mainGlobals "list" = some none) :
    ∃ fd : FuncData, (∀ (s : Shared) (v : Value), BindsTo s fd ⟨[v], []⟩ [("_law_script", v)]) ∧ ∀ base : Heap, K.In base → base.Ns mainGlobals mg → FnOk l.prog w K mg base CX0 6 fa fd ["_law_script"] (spLaw K) := by
  have e := hfa.symm.trans (PySem.W.mg_of X G a19)
  cases e
  have M : Cst mg := ⟨⟨tl, PySem.W.mg_of X G y1⟩, ⟨tg, PySem.W.mg_of X G y2⟩, ⟨tm, PySem.W.mg_of X G y3⟩, PySem.W.mg_none_of X G z1, PySem.W.mg_none_of X G z2, PySem.W.mg_none_of X G z3, PySem.W.mg_none_of X G z4⟩
  have F1 := fun_mk (st := sFlaw) l1 c1 k1
  have b1 := F1.binds (ps := ["text"]) fun _ _ _ _ _ _ us hl => match us, hl with | [_], _ => rfl
  have g1 := PySem.W.mg_of X G a1
  have F2 := fun_mk (st := sIsWord) l2 c2 k2
  have b2 := F2.binds (ps := ["text"]) fun _ _ _ _ _ _ us hl => match us, hl with | [_], _ => rfl
  have g2 := PySem.W.mg_of X G a2
  have F3 := fun_mk (st := sLookWord) l3 c3 k3
  have b3 := F3.binds (ps := ["text"]) fun _ _ _ _ _ _ us hl => match us, hl with | [_], _ => rfl
  have g3 := PySem.W.mg_of X G a3
  have F4 := fun_mk (st := sIsCall) l4 c4 k4
  have b4 := F4.binds (ps := ["text"]) fun _ _ _ _ _ _ us hl => match us, hl with | [_], _ => rfl
  have g4 := PySem.W.mg_of X G a4
  have F5 := fun_mk (st := sLookCall) l5 c5 k5
  have b5 := F5.binds (ps := ["text"]) fun _ _ _ _ _ _ us hl => match us, hl with | [_], _ => rfl
  have g5 := PySem.W.mg_of X G a5
  have F6 := fun_mk (st := sShort) l6 c6 k6
  have b6 := F6.binds (ps := ["text"]) fun _ _ _ _ _ _ us hl => match us, hl with | [_], _ => rfl
  have g6 := PySem.W.mg_of X G a6
  have F7 := fun_mk (st := sReduced) l7 c7 k7
  have b7 := F7.binds (ps := ["text"]) fun _ _ _ _ _ _ us hl => match us, hl with | [_], _ => rfl
  have g7 := PySem.W.mg_of X G a7
  have F8 := fun_mk (st := sJoined) l8 c8 k8
  have b8 := F8.binds (ps := ["one", "other"]) fun _ _ _ _ _ _ us hl => match us, hl with | [_, _], _ => rfl
  have g8 := PySem.W.mg_of X G a8
  have F9 := fun_mk (st := sUndone) l9 c9 k9
  have b9 := F9.binds (ps := ["word"]) fun _ _ _ _ _ _ us hl => match us, hl with | [_], _ => rfl
  have g9 := PySem.W.mg_of X G a9
  have F10 := fun_mk (st := sNameAt) l10 c10 k10
  have b10 := F10.binds (ps := ["word", "letter"]) fun _ _ _ _ _ _ us hl => match us, hl with | [_, _], _ => rfl
  have g10 := PySem.W.mg_of X G a10
  have F11 := fun_mk (st := sSplit) l11 c11 k11
  have b11 := F11.binds (ps := ["call"]) fun _ _ _ _ _ _ us hl => match us, hl with | [_], _ => rfl
  have g11 := PySem.W.mg_of X G a11
  have F12 := fun_mk (st := sNameTurned) l12 c12 k12
  have b12 := F12.binds (ps := ["call", "word"]) fun _ _ _ _ _ _ us hl => match us, hl with | [_, _], _ => rfl
  have g12 := PySem.W.mg_of X G a12
  have F13 := fun_mk (st := sTurned) l13 c13 k13
  have b13 := F13.binds (ps := ["call", "word"]) fun _ _ _ _ _ _ us hl => match us, hl with | [_, _], _ => rfl
  have g13 := PySem.W.mg_of X G a13
  have F14 := fun_mk (st := sBag) l14 c14 k14
  have b14 := F14.binds (ps := ["_law_script"]) fun _ _ _ _ _ _ us hl => match us, hl with | [_], _ => rfl
  have g14 := PySem.W.mg_of X G a14
  have F15 := fun_mk (st := sPull) l15 c15 k15
  have b15 := F15.binds (ps := ["_law_bag_here", "_law_many"]) fun _ _ _ _ _ _ us hl => match us, hl with | [_, _], _ => rfl
  have g15 := PySem.W.mg_of X G a15
  have F16 := fun_mk (st := sOf) l16 c16 k16
  have b16 := F16.binds (ps := ["_law_bag_here", "_law_things"]) fun _ _ _ _ _ _ us hl => match us, hl with | [_, _], _ => rfl
  have g16 := PySem.W.mg_of X G a16
  have F17 := fun_mk (st := sWord) l17 c17 k17
  have b17 := F17.binds (ps := ["_law_bag_here", "_law_most"]) fun _ _ _ _ _ _ us hl => match us, hl with | [_, _], _ => rfl
  have g17 := PySem.W.mg_of X G a17
  have F18 := fun_mk (st := sDrawn) l18 c18 k18
  have b18 := F18.binds (ps := ["_law_bag_here", "_law_most"]) fun _ _ _ _ _ _ us hl => match us, hl with | [_, _], _ => rfl
  have g18 := PySem.W.mg_of X G a18
  have F19 := fun_mk (st := sLaw) l19 c19 k19
  refine ⟨PySem.W.fnOf "law" "law" (defArgs sLaw) (defBody sLaw) (defScope sLaw) .none kV19 dc19 pm19 an19 cd19 ct19, fun s v => .of_eq rfl, fun base _ _ => ?_⟩
  have LW := ok_lookword (P := l.prog) (w := w) (K := K) (mg := mg) (base := base) F3 M F1 b1 g1
  have IC := ok_iscall (P := l.prog) (w := w) (K := K) (mg := mg) (base := base) F4 M F1 b1 g1 F2 b2 g2
  have LC := ok_lookcall (P := l.prog) (w := w) (K := K) (mg := mg) (base := base) F5 F4 IC b4 g4
  have NT := ok_nameturned (P := l.prog) (w := w) (K := K) (mg := mg) (base := base) F12 M F6 b6 g6 F10 b10 g10 F11 b11 g11
  have TU := ok_turned (P := l.prog) (w := w) (K := K) (mg := mg) (base := base) F13 F5 LC b5 g5 F3 LW b3 g3 F12 NT b12 g12
  have JO := ok_joined (P := l.prog) (w := w) (K := K) (mg := mg) (base := base) F8 F6 b6 g6 F3 LW b3 g3
  have UN := ok_undone (P := l.prog) (w := w) (K := K) (mg := mg) (base := base) F9 F3 LW b3 g3
  have IW := ok_isword (P := l.prog) (w := w) (K := K) (mg := mg) (base := base) F2 M F1 b1 g1
  have RE := ok_reduced (P := l.prog) (w := w) (K := K) (mg := mg) (base := base) F7 M F6 b6 g6
  have BA := ok_bag (P := l.prog) (w := w) (K := K) (mg := mg) (base := base) (k := 0) F14 M
  have OF := ok_of (P := l.prog) (w := w) (K := K) (mg := mg) (base := base) F16 M F15 b15 g15
  have WO := ok_word (P := l.prog) (w := w) (K := K) (mg := mg) (base := base) F17 M F15 b15 g15 F16 b16 g16
  have DR := ok_drawn (P := l.prog) (w := w) (K := K) (mg := mg) (base := base) F18 F16 OF b16 g16 F17 WO b17 g17
  exact ok_law F19 M ⟨⟨_, _, BA, F14.kp, b14, g14⟩, ⟨_, _, WO, F17.kp, b17, g17⟩, ⟨_, _, DR, F18.kp, b18, g18⟩, ⟨_, _, JO, F8.kp, b8, g8⟩, ⟨_, _, UN, F9.kp, b9, g9⟩, ⟨_, _, TU, F13.kp, b13, g13⟩, ⟨_, _, IC, F4.kp, b4, g4⟩, ⟨_, _, IW, F2.kp, b2, g2⟩, ⟨_, _, RE, F7.kp, b7, g7⟩⟩
end K13
open PySem PySem.W PyProof.Rows
set_option maxRecDepth 100000 in
set_option maxHeartbeats 0 in
theorem PySem.Challenge.cw_gapstone_k13_whole_words_do_and_undo_holds : PySem.Challenge.rw_gapstone_k13_whole_words_do_and_undo.Holds := by
  w_on; o_law; k_head; (case hw => w_witness2)
  k_fill
  refine L2.walk_of (l := PySem.Challenge.rw_gapstone_k13_whole_words_do_and_undo) (n := 63) (k := 6) (x := "_law_script") (CX := fun _ => L2.CX0) (sp := fun w => K13.spLaw _) rfl (by decide) rfl ⟨rfl, by decide, by decide⟩ (fun w h Y => PySem.W.kIn_of Y) ?F (fun _ _ a ns hl _ hS => ⟨a, ns, rfl, hS, fun _ => rfl⟩) (fun _ _ _ _ _ h => h)
  case F =>
    intro w mg fa h KX G hmg
    refine' K13.all_mk KX G hmg ?a1 ?l1 ?c1 ?k1 ?a2 ?l2 ?c2 ?k2 ?a3 ?l3 ?c3 ?k3 ?a4 ?l4 ?c4 ?k4 ?a5 ?l5 ?c5 ?k5 ?a6 ?l6 ?c6 ?k6 ?a7 ?l7 ?c7 ?k7 ?a8 ?l8 ?c8 ?k8 ?a9 ?l9 ?c9 ?k9 ?a10 ?l10 ?c10 ?k10 ?a11 ?l11 ?c11 ?k11 ?a12 ?l12 ?c12 ?k12 ?a13 ?l13 ?c13 ?k13 ?a14 ?l14 ?c14 ?k14 ?a15 ?l15 ?c15 ?k15 ?a16 ?l16 ?c16 ?k16 ?a17 ?l17 ?c17 ?k17 ?a18 ?l18 ?c18 ?k18 ?a19 ?l19 ?c19 ?k19 ?y1 ?y2 ?y3 ?z1 ?z2 ?z3 ?z4
    (case a1 => k_is)
    (case l1 => k_is)
    (case c1 => k_is)
    (case k1 => k_is)
    (case a2 => k_is)
    (case l2 => k_is)
    (case c2 => k_is)
    (case k2 => k_is)
    (case a3 => k_is)
    (case l3 => k_is)
    (case c3 => k_is)
    (case k3 => k_is)
    (case a4 => k_is)
    (case l4 => k_is)
    (case c4 => k_is)
    (case k4 => k_is)
    (case a5 => k_is)
    (case l5 => k_is)
    (case c5 => k_is)
    (case k5 => k_is)
    (case a6 => k_is)
    (case l6 => k_is)
    (case c6 => k_is)
    (case k6 => k_is)
    (case a7 => k_is)
    (case l7 => k_is)
    (case c7 => k_is)
    (case k7 => k_is)
    (case a8 => k_is)
    (case l8 => k_is)
    (case c8 => k_is)
    (case k8 => k_is)
    (case a9 => k_is)
    (case l9 => k_is)
    (case c9 => k_is)
    (case k9 => k_is)
    (case a10 => k_is)
    (case l10 => k_is)
    (case c10 => k_is)
    (case k10 => k_is)
    (case a11 => k_is)
    (case l11 => k_is)
    (case c11 => k_is)
    (case k11 => k_is)
    (case a12 => k_is)
    (case l12 => k_is)
    (case c12 => k_is)
    (case k12 => k_is)
    (case a13 => k_is)
    (case l13 => k_is)
    (case c13 => k_is)
    (case k13 => k_is)
    (case a14 => k_is)
    (case l14 => k_is)
    (case c14 => k_is)
    (case k14 => k_is)
    (case a15 => k_is)
    (case l15 => k_is)
    (case c15 => k_is)
    (case k15 => k_is)
    (case a16 => k_is)
    (case l16 => k_is)
    (case c16 => k_is)
    (case k16 => k_is)
    (case a17 => k_is)
    (case l17 => k_is)
    (case c17 => k_is)
    (case k17 => k_is)
    (case a18 => k_is)
    (case l18 => k_is)
    (case c18 => k_is)
    (case k18 => k_is)
    (case a19 => k_is)
    (case l19 => k_is)
    (case c19 => k_is)
    (case k19 => k_is)
    (case y1 => k_is)
    (case y2 => k_is)
    (case y3 => k_is)
    (case z1 => k_is)
    (case z2 => k_is)
    (case z3 => k_is)
    (case z4 => k_is)
#print axioms PySem.Challenge.cw_gapstone_k13_whole_words_do_and_undo_holds
