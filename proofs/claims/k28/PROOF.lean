import PyProof.Rows.All
import Wide.All
import OpenK.AllK
import Wide.FinOn
import KE.IntTextText
import PyProof.Lay0
import KE.KExcSuper
import HandS.ForExc
import HandS.ForMost
import HandS.ExcIs
import HandS.ExcValue
import HandS.Style
import PyProof.Rows.StrRev
import HandS.IsInst
import HandS.Walk
import HandS.Text
import KE.IntTextLaws
import HandS.TupAny
import PySem.Challenge.RW_knownends_k28_whole_things_packed_and_re
set_option Elab.async false
set_option linter.all false
set_option maxRecDepth 100000
set_option maxHeartbeats 4000000
/-! K28M: the plain mathematics: the reader of texts as a relation, its totality, the text of a thing, and that reading it tells the thing back. -/
namespace K28
open PySem PySem.NumText

abbrev Cs := List Nat
inductive Res where
  | ok (d : PyData) (b : Nat)
  | bad (p : Nat)

/-! ### strings -/
def rstr : Cs → Nat → Cs → Res
  | [], p, _ => .bad p
  | c :: r, p, acc =>
    if c = 39 then .ok (.str ⟨acc.toArray⟩) (p + 1)
    else if ¬ (32 ≤ c ∧ c ≤ 126) then .bad p
    else if c = 126 then
      match r with
      | [] => .bad (p + 1)
      | e :: r' => if e = 39 ∨ e = 126 then rstr r' (p + 2) (acc ++ [e]) else .bad (p + 1)
    else rstr r (p + 1) (acc ++ [c])

theorem rstr_cons (c : Nat) (r : Cs) (p : Nat) (acc : Cs) : rstr (c :: r) p acc =
    if c = 39 then .ok (.str ⟨acc.toArray⟩) (p + 1)
    else if ¬ (32 ≤ c ∧ c ≤ 126) then .bad p
    else if c = 126 then
      match r with
      | [] => .bad (p + 1)
      | e :: r' => if e = 39 ∨ e = 126 then rstr r' (p + 2) (acc ++ [e]) else .bad (p + 1)
    else rstr r (p + 1) (acc ++ [c]) := by
  exact (rstr.eq_def (c :: r) p acc).trans rfl
theorem drop_some {x : Cs} {p c : Nat} (h : x[p]? = some c) : x.drop p = c :: x.drop (p + 1) := by
  obtain ⟨hp, e⟩ := List.getElem?_eq_some_iff.mp h
  rw [List.drop_eq_getElem_cons hp, e]
theorem drop_none {x : Cs} {p : Nat} (h : x[p]? = none) : x.drop p = [] :=
  List.drop_eq_nil_of_le (List.getElem?_eq_none_iff.mp h)

def RS (x : Cs) (p : Nat) (acc : Cs) : Res := rstr (x.drop p) p acc
section
variable {x : Cs} {p : Nat} {acc : Cs} {c e : Nat}
theorem RS_none (h : x[p]? = none) : RS x p acc = .bad p := by unfold RS; rw [drop_none h]; rfl
theorem RS_quote (h : x[p]? = some 39) : RS x p acc = .ok (.str ⟨acc.toArray⟩) (p + 1) := by
  unfold RS; rw [drop_some h, rstr_cons]; simp
theorem RS_odd (h : x[p]? = some c) (hc : ¬ (32 ≤ c ∧ c ≤ 126)) : RS x p acc = .bad p := by
  have : c ≠ 39 := by omega
  unfold RS; rw [drop_some h, rstr_cons, if_neg this, if_pos hc]
theorem RS_esc_none (h : x[p]? = some 126) (h1 : x[p + 1]? = none) : RS x p acc = .bad (p + 1) := by
  unfold RS; rw [drop_some h, drop_none h1]; rfl
theorem RS_esc_odd (h : x[p]? = some 126) (h1 : x[p + 1]? = some e) (he : ¬ (e = 39 ∨ e = 126)) : RS x p acc = .bad (p + 1) := by
  unfold RS; rw [drop_some h, drop_some h1, rstr_cons, if_neg (by decide), if_neg (by decide), if_pos rfl]; show (if e = 39 ∨ e = 126 then _ else _) = _; rw [if_neg he]
theorem RS_esc (h : x[p]? = some 126) (h1 : x[p + 1]? = some e) (he : e = 39 ∨ e = 126) : RS x p acc = RS x (p + 2) (acc ++ [e]) := by
  unfold RS; rw [drop_some h, drop_some h1, rstr_cons, if_neg (by decide), if_neg (by decide), if_pos rfl]; show (if e = 39 ∨ e = 126 then _ else _) = _; rw [if_pos he]
theorem RS_sign (h : x[p]? = some c) (h1 : c ≠ 39) (h2 : 32 ≤ c ∧ c ≤ 126) (h3 : c ≠ 126) : RS x p acc = RS x (p + 1) (acc ++ [c]) := by
  unfold RS; rw [drop_some h, rstr_cons, if_neg h1, if_neg (by omega), if_neg h3]
end
/-- what a string that was read is -/
theorem RS_fine (x : Cs) : ∀ (n p : Nat) (acc : Cs), x.length - p ≤ n → p ≤ x.length → (∀ c ∈ acc, c ≤ 126) → ∀ t b, RS x p acc = .ok t b → p < b ∧ b ≤ x.length ∧ PyData.canLay0 t = true ∧ PyData.depth t = 0
  | n, p, acc, hn, hp, ha, t, b, e => by
    cases h : x[p]? with
    | none => rw [RS_none h] at e; cases e
    | some c =>
      have hlt : p < x.length := (List.getElem?_eq_some_iff.mp h).1
      have np : 0 < n := by omega
      obtain ⟨m, rfl⟩ : ∃ m, n = m + 1 := ⟨n - 1, by omega⟩
      by_cases c1 : c = 39
      · subst c1
        rw [RS_quote h] at e
        injection e with e1 e2
        subst e1 e2
        refine ⟨by omega, by omega, ?_, ?_⟩
        · show PyData.strOk _ = true
          unfold PyData.strOk
          rw [Array.all_eq_true']
          intro c hc
          have := ha c (by simpa using hc)
          simp; omega
        · rfl
      by_cases c2 : 32 ≤ c ∧ c ≤ 126
      · by_cases c3 : c = 126
        · subst c3
          cases h1 : x[p + 1]? with
          | none => rw [RS_esc_none h h1] at e; cases e
          | some q =>
            have hlt2 : p + 1 < x.length := (List.getElem?_eq_some_iff.mp h1).1
            by_cases c4 : q = 39 ∨ q = 126
            · rw [RS_esc h h1 c4] at e
              have := RS_fine x m (p + 2) (acc ++ [q]) (by omega) (by omega) (fun d hd => by
                rcases List.mem_append.mp hd with hd | hd
                · exact ha d hd
                · rw [List.mem_singleton.mp hd]; omega) t b e
              exact ⟨by omega, this.2⟩
            · rw [RS_esc_odd h h1 c4] at e; cases e
        · rw [RS_sign h c1 c2 c3] at e
          have := RS_fine x m (p + 1) (acc ++ [c]) (by omega) (by omega) (fun d hd => by
            rcases List.mem_append.mp hd with hd | hd
            · exact ha d hd
            · rw [List.mem_singleton.mp hd]; omega) t b e
          exact ⟨by omega, this.2⟩
      · rw [RS_odd h c2] at e; cases e

/-! ### integers -/
def dig (c : Nat) : Bool := decide (48 ≤ c) && decide (c ≤ 57)
theorem dig_iff {c : Nat} : dig c = true ↔ 48 ≤ c ∧ c ≤ 57 := by unfold dig; simp
def digs (l : Cs) : Cs := (l.takeWhile dig).take 30
theorem digs_le (l : Cs) : (digs l).length ≤ 30 := by unfold digs; rw [List.length_take]; omega
theorem mem_tw : ∀ {l : Cs} {c : Nat}, c ∈ l.takeWhile dig → dig c = true
  | [], _, h => by simp at h
  | a :: r, c, h => by
    rw [List.takeWhile_cons] at h
    split at h
    · rename_i ha
      rcases List.mem_cons.mp h with e | h
      · rw [e]; exact ha
      · exact mem_tw h
    · simp at h
theorem tw_le : ∀ (l : Cs), (l.takeWhile dig).length ≤ l.length
  | [] => Nat.le_refl _
  | a :: r => by
    rw [List.takeWhile_cons]
    split
    · have := tw_le r; simp only [List.length_cons]; omega
    · exact Nat.zero_le _
theorem digs_all (l : Cs) : AllDigits (digs l) := fun c hc => by
  have h1 := List.mem_of_mem_take hc
  exact dig_iff.mp (mem_tw h1)
theorem takeWhile_take {l : Cs} : l.take (l.takeWhile dig).length = l.takeWhile dig := by
  induction l with
  | nil => rfl
  | cons c r ih =>
    rw [List.takeWhile_cons]
    split
    · rw [List.length_cons, List.take_succ_cons, ih]
    · rfl
theorem digs_take (l : Cs) : l.take (digs l).length = digs l := by
  unfold digs
  rw [List.length_take, ← List.take_take, takeWhile_take]
theorem digs_at {x : Cs} {f j : Nat} (h : j < (digs (x.drop f)).length) : ∃ c, x[f + j]? = some c ∧ dig c = true := by
  have e := digs_take (x.drop f)
  have hj : (digs (x.drop f))[j]? = x[f + j]? := by
    rw [← e, List.getElem?_take, if_pos h, List.getElem?_drop]
  have hs : (digs (x.drop f))[j]? = some (digs (x.drop f))[j] := List.getElem?_eq_getElem h
  refine ⟨_, hj.symm.trans hs, dig_iff.mpr (digs_all _ _ (List.getElem_mem h))⟩
theorem takeWhile_end : ∀ (l : Cs) (c : Nat), l[(l.takeWhile dig).length]? = some c → dig c = false
  | [], _, h => by simp at h
  | a :: r, c, h => by
    rw [List.takeWhile_cons] at h
    split at h
    · rw [List.length_cons, List.getElem?_cons_succ] at h
      exact takeWhile_end r c h
    · rename_i hn
      simp at h
      subst h
      exact Bool.eq_false_iff.mpr hn
theorem digs_end {x : Cs} {f c : Nat} (h30 : (digs (x.drop f)).length < 30) (h : x[f + (digs (x.drop f)).length]? = some c) : dig c = false := by
  have e : digs (x.drop f) = (x.drop f).takeWhile dig := by
    unfold digs at h30 ⊢
    rw [List.length_take] at h30
    exact List.take_of_length_le (by omega)
  rw [e, ← List.getElem?_drop] at h
  exact takeWhile_end _ _ h
theorem digs_nil {x : Cs} {f c : Nat} (h : x[f]? = some c) (hc : dig c = false) : digs (x.drop f) = [] := by
  unfold digs
  rw [drop_some h, List.takeWhile_cons, if_neg (by rw [hc]; decide)]
  rfl
theorem digs_nil' {x : Cs} {f : Nat} (h : x[f]? = none) : digs (x.drop f) = [] := by
  rw [drop_none h]; rfl
theorem digs_ne {x : Cs} {f c : Nat} (h : x[f]? = some c) (hc : dig c = true) : digs (x.drop f) ≠ [] := by
  unfold digs
  rw [drop_some h, List.takeWhile_cons, if_pos hc]
  intro e; cases e
theorem digs_in {x : Cs} {f : Nat} : f + (digs (x.drop f)).length ≤ max f x.length := by
  have h : (digs (x.drop f)).length ≤ (x.drop f).length := by
    unfold digs
    have := tw_le (x.drop f)
    rw [List.length_take]; omega
  rw [List.length_drop] at h
  omega

def rint (x : Cs) (at_ : Nat) : Res :=
  if x[at_]? = some 45 then
    (if x[at_ + 1]? = some 48 then .bad (at_ + 1)
    else if digs (x.drop (at_ + 1)) = [] then .bad (at_ + 1)
    else .ok (.int (-((digitsVal (digs (x.drop (at_ + 1))) : Nat) : Int))) (at_ + 1 + (digs (x.drop (at_ + 1))).length))
  else if x[at_]? = some 48 then .ok (.int 0) (at_ + 1)
  else if digs (x.drop at_) = [] then .bad at_
  else .ok (.int ((digitsVal (digs (x.drop at_)) : Nat) : Int)) (at_ + (digs (x.drop at_)).length)

theorem rint_fine {x : Cs} {at_ : Nat} (h : at_ < x.length) {t : PyData} {b : Nat} (e : rint x at_ = .ok t b) : at_ < b ∧ b ≤ x.length ∧ PyData.canLay0 t = true ∧ PyData.depth t = 0 := by
  unfold rint at e
  have d0 := digs_in (x := x) (f := at_)
  have d1 := digs_in (x := x) (f := at_ + 1)
  split at e
  · split at e
    · cases e
    · split at e
      · cases e
      · rename_i hne
        have : 0 < (digs (x.drop (at_ + 1))).length := List.length_pos_iff.mpr hne
        injection e with e1 e2
        subst e1 e2
        exact ⟨by omega, by omega, rfl, rfl⟩
  · split at e
    · injection e with e1 e2
      subst e1 e2
      exact ⟨by omega, by omega, rfl, rfl⟩
    · split at e
      · cases e
      · rename_i hne
        have : 0 < (digs (x.drop at_)).length := List.length_pos_iff.mpr hne
        injection e with e1 e2
        subst e1 e2
        exact ⟨by omega, by omega, rfl, rfl⟩

/-! ### the reader -/
inductive Mode where
  | item
  | tup
  | more (l : List PyData)
inductive Go (x : Cs) : Mode → Nat → Nat → Res → Prop
  | fin {a d : Nat} : x[a]? = none → Go x .item a d (.bad a)
  | dot {a d : Nat} : x[a]? = some 46 → Go x .item a d (.ok .none (a + 1))
  | quo {a d : Nat} : x[a]? = some 39 → Go x .item a d (RS x (a + 1) [])
  | deep {a d : Nat} : x[a]? = some 40 → 30 ≤ d → Go x .item a d (.bad a)
  | par {a d : Nat} {r : Res} : x[a]? = some 40 → d < 30 → Go x .tup (a + 1) (d + 1) r → Go x .item a d r
  | num {a d c : Nat} : x[a]? = some c → c ≠ 46 → c ≠ 39 → c ≠ 40 → Go x .item a d (rint x a)
  | tup0 {a d : Nat} : x[a]? = some 41 → Go x .tup a d (.ok (.tuple []) (a + 1))
  | tup1 {a d : Nat} {r : Res} : x[a]? ≠ some 41 → Go x (.more []) a d r → Go x .tup a d r
  | mbad {l : List PyData} {a d p : Nat} : Go x .item a d (.bad p) → Go x (.more l) a d (.bad p)
  | mend {l : List PyData} {t : PyData} {a d b : Nat} : Go x .item a d (.ok t b) → a < b → b ≤ x.length → x[b]? = some 41 → Go x (.more l) a d (.ok (.tuple (l ++ [t])) (b + 1))
  | mgo {l : List PyData} {t : PyData} {a d b : Nat} {r : Res} : Go x .item a d (.ok t b) → a < b → b ≤ x.length → x[b]? = some 44 → Go x (.more (l ++ [t])) (b + 1) d r → Go x (.more l) a d r
  | modd {l : List PyData} {t : PyData} {a d b : Nat} : Go x .item a d (.ok t b) → a < b → b ≤ x.length → x[b]? ≠ some 41 → x[b]? ≠ some 44 → Go x (.more l) a d (.bad b)

def Bd (x : Cs) (a : Nat) (r : Res) : Prop := ∀ t b, r = .ok t b → a < b ∧ b ≤ x.length
theorem Bd.bad {x : Cs} {a p : Nat} : Bd x a (.bad p) := fun _ _ e => by cases e
theorem Bd.lt {x : Cs} {a a' : Nat} {r : Res} (h : Bd x a r) (h' : a' ≤ a) : Bd x a' r := fun t b e => ⟨by have := (h t b e).1; omega, (h t b e).2⟩

/-- at every place the reader comes to an end -/
theorem total (x : Cs) : ∀ (n a d : Nat), a ≤ x.length → x.length - a ≤ n →
    (∃ r, Go x .item a d r ∧ Bd x a r) ∧ (∀ l, ∃ r, Go x (.more l) a d r ∧ Bd x a r) ∧ (∃ r, Go x .tup a d r ∧ Bd x a r) := by
  intro n
  induction n with
  | zero =>
    intro a d h1 h2
    have hn : x[a]? = none := List.getElem?_eq_none_iff.mpr (by omega)
    exact ⟨⟨_, .fin hn, .bad⟩, fun l => ⟨_, .mbad (.fin hn), .bad⟩, ⟨_, .tup1 (by rw [hn]; nofun) (.mbad (.fin hn)), .bad⟩⟩
  | succ n ih =>
    intro a d h1 h2
    have item : ∃ r, Go x .item a d r ∧ Bd x a r := by
      cases h : x[a]? with
      | none => exact ⟨_, .fin h, .bad⟩
      | some c =>
        have hlt : a < x.length := (List.getElem?_eq_some_iff.mp h).1
        by_cases c1 : c = 46
        · subst c1; exact ⟨_, .dot h, fun t b e => by injection e with _ e2; subst e2; exact ⟨by omega, by omega⟩⟩
        by_cases c2 : c = 39
        · subst c2
          exact ⟨_, .quo h, fun t b e => by
            have := RS_fine x _ (a + 1) [] (Nat.le_refl _) (by omega) (fun _ hm => nomatch hm) t b e
            exact ⟨by omega, this.2.1⟩⟩
        by_cases c3 : c = 40
        · subst c3
          by_cases hd : d < 30
          · obtain ⟨r, g, b⟩ := (ih (a + 1) (d + 1) (by omega) (by omega)).2.2
            exact ⟨r, .par h hd g, b.lt (by omega)⟩
          · exact ⟨_, .deep h (by omega), .bad⟩
        · exact ⟨_, .num h c1 c2 c3, fun t b e => ⟨(rint_fine hlt e).1, (rint_fine hlt e).2.1⟩⟩
    have more : ∀ l, ∃ r, Go x (.more l) a d r ∧ Bd x a r := by
      intro l
      obtain ⟨r, g, b⟩ := item
      cases r with
      | bad p => exact ⟨_, .mbad g, .bad⟩
      | ok t b' =>
        obtain ⟨q1, q2⟩ := b t b' rfl
        by_cases c1 : x[b']? = some 41
        · have hlt : b' < x.length := (List.getElem?_eq_some_iff.mp c1).1
          exact ⟨_, .mend g q1 q2 c1, fun t b e => by injection e with _ e2; subst e2; exact ⟨by omega, by omega⟩⟩
        by_cases c2 : x[b']? = some 44
        · have hlt : b' < x.length := (List.getElem?_eq_some_iff.mp c2).1
          obtain ⟨r, g', bb⟩ := (ih (b' + 1) d (by omega) (by omega)).2.1 (l ++ [t])
          exact ⟨r, .mgo g q1 q2 c2 g', bb.lt (by omega)⟩
        · exact ⟨_, .modd g q1 q2 c1 c2, .bad⟩
    refine ⟨item, more, ?_⟩
    by_cases c1 : x[a]? = some 41
    · have hlt : a < x.length := (List.getElem?_eq_some_iff.mp c1).1
      exact ⟨_, .tup0 c1, fun t b e => by injection e with _ e2; subst e2; exact ⟨by omega, by omega⟩⟩
    · obtain ⟨r, g, b⟩ := more []
      exact ⟨r, .tup1 c1 g, b⟩
theorem total0 (x : Cs) : ∃ r, Go x .item 0 0 r ∧ Bd x 0 r := (total x _ 0 0 (Nat.zero_le _) (Nat.le_refl _)).1

theorem canAll_append : ∀ (l : List PyData) (t : PyData), PyData.canLayAll0 l = true → PyData.canLay0 t = true → PyData.canLayAll0 (l ++ [t]) = true
  | [], t, _, h => by show (PyData.canLay0 t && true) = true; rw [h]; rfl
  | a :: l, t, h1, h2 => by
    have h1' : (PyData.canLay0 a && PyData.canLayAll0 l) = true := by simpa only [PyData.canLayAll0] using h1
    obtain ⟨q1, q2⟩ := Bool.and_eq_true_iff.mp h1'
    show (PyData.canLay0 a && PyData.canLayAll0 (l ++ [t])) = true
    rw [q1, canAll_append l t q2 h2]; rfl
theorem depthAll_append : ∀ (l : List PyData) (t : PyData), PyData.depthAll (l ++ [t]) = max (PyData.depthAll l) (PyData.depth t)
  | [], t => by show max (PyData.depth t) 0 = max 0 (PyData.depth t); omega
  | a :: l, t => by
    show max (PyData.depth a) (PyData.depthAll (l ++ [t])) = max (max (PyData.depth a) (PyData.depthAll l)) (PyData.depth t)
    rw [depthAll_append l t]; omega

def Mode.pre (d : Nat) : Mode → Prop
  | .item => d ≤ 30
  | .tup => 1 ≤ d ∧ d ≤ 30
  | .more l => 1 ≤ d ∧ d ≤ 30 ∧ PyData.canLayAll0 l = true ∧ PyData.depthAll l ≤ 30 - d
def Mode.top (d : Nat) : Mode → Nat
  | .item => 30 - d
  | _ => 31 - d
/-- a thing that was read may be compared: its strings are plain, it is at most so deep -/
theorem Go.fine {x : Cs} {m : Mode} {a d : Nat} {r : Res} (g : Go x m a d r) : m.pre d → ∀ t b, r = .ok t b → PyData.canLay0 t = true ∧ PyData.depth t ≤ m.top d := by
  induction g with
  | fin _ => intro _ t b e; cases e
  | dot _ => intro _ t b e; injection e with e1 _; subst e1; exact ⟨rfl, Nat.zero_le _⟩
  | quo h =>
    intro _ t b e
    have := RS_fine x _ _ [] (Nat.le_refl _) (by have := (List.getElem?_eq_some_iff.mp h).1; omega) (fun _ hm => nomatch hm) t b e
    exact ⟨this.2.2.1, by rw [this.2.2.2]; exact Nat.zero_le _⟩
  | deep _ _ => intro _ t b e; cases e
  | @par a d r h hd _ ih =>
    intro _ t b e
    obtain ⟨q1, q2⟩ := ih ⟨by omega, by omega⟩ t b e
    refine ⟨q1, ?_⟩
    have q2' : PyData.depth t ≤ 31 - (d + 1) := q2
    show PyData.depth t ≤ 30 - d
    omega
  | num h _ _ _ =>
    intro _ t b e
    have := rint_fine (List.getElem?_eq_some_iff.mp h).1 e
    exact ⟨this.2.2.1, by rw [this.2.2.2]; exact Nat.zero_le _⟩
  | @tup0 a d h =>
    intro hp t b e
    have hp' : 1 ≤ d ∧ d ≤ 30 := hp
    injection e with e1 _; subst e1
    refine ⟨rfl, ?_⟩
    show 0 + 1 ≤ 31 - d
    omega
  | @tup1 a d r _ _ ih =>
    intro hp t b e
    have hp' : 1 ≤ d ∧ d ≤ 30 := hp
    exact ih ⟨hp'.1, hp'.2, rfl, Nat.zero_le _⟩ t b e
  | mbad _ _ => intro _ t b e; cases e
  | @mend l t' a d b' _ _ _ _ ih =>
    intro hp t b e
    obtain ⟨p1, p2, p3, p4⟩ : 1 ≤ d ∧ d ≤ 30 ∧ PyData.canLayAll0 l = true ∧ PyData.depthAll l ≤ 30 - d := hp
    obtain ⟨q1, q2⟩ := ih p2 t' b' rfl
    have q2' : PyData.depth t' ≤ 30 - d := q2
    injection e with e1 _; subst e1
    refine ⟨canAll_append l t' p3 q1, ?_⟩
    show PyData.depthAll (l ++ [t']) + 1 ≤ 31 - d
    rw [depthAll_append]; omega
  | @mgo l t' a d b' r _ _ _ _ _ ih1 ih2 =>
    intro hp t b e
    obtain ⟨p1, p2, p3, p4⟩ : 1 ≤ d ∧ d ≤ 30 ∧ PyData.canLayAll0 l = true ∧ PyData.depthAll l ≤ 30 - d := hp
    obtain ⟨q1, q2⟩ := ih1 p2 t' b' rfl
    have q2' : PyData.depth t' ≤ 30 - d := q2
    exact ih2 ⟨p1, p2, canAll_append l t' p3 q1, by rw [depthAll_append]; omega⟩ t b e
  | modd _ _ _ _ _ _ => intro _ t b e; cases e

/-! ### the whole text -/
inductive Fin where
  | good (d : PyData)
  | wrong (p : Nat)
/-- what the tuples that are open make of what was read -/
inductive Unw (x : Cs) : List (List PyData) → Res → Fin → Prop
  | bad {st : List (List PyData)} {p : Nat} : Unw x st (.bad p) (.wrong p)
  | tip {d : PyData} {b : Nat} : x[b]? = none → Unw x [] (.ok d b) (.good d)
  | tail {d : PyData} {b c : Nat} : x[b]? = some c → Unw x [] (.ok d b) (.wrong b)
  | close {l : List PyData} {st : List (List PyData)} {d : PyData} {b : Nat} {G : Fin} : x[b]? = some 41 → Unw x st (.ok (.tuple (l ++ [d])) (b + 1)) G → Unw x (l :: st) (.ok d b) G
  | more {l : List PyData} {st : List (List PyData)} {d : PyData} {b : Nat} {r : Res} {G : Fin} : x[b]? = some 44 → Go x (.more (l ++ [d])) (b + 1) (st.length + 1) r → Unw x st r G → Unw x (l :: st) (.ok d b) G
  | odd {l : List PyData} {st : List (List PyData)} {d : PyData} {b : Nat} : x[b]? ≠ some 41 → x[b]? ≠ some 44 → Unw x (l :: st) (.ok d b) (.wrong b)
/-- a tuple is opened, or goes on -/
theorem push {x : Cs} {st : List (List PyData)} {l : List PyData} {a : Nat} {r : Res} {G : Fin} (g : Go x (.more l) a (st.length + 1) r) (u : Unw x st r G) : ∃ r', Go x .item a (st.length + 1) r' ∧ Unw x (l :: st) r' G := by
  cases g with
  | mbad g => exact ⟨_, g, by cases u; exact .bad⟩
  | mend g _ _ h => exact ⟨_, g, .close h u⟩
  | mgo g _ _ h g' => exact ⟨_, g, .more h g' u⟩
  | modd g _ _ h1 h2 => exact ⟨_, g, by cases u; exact .odd h1 h2⟩
def finOf (x : Cs) : Res → Fin
  | .ok d b => if b = x.length then .good d else .wrong b
  | .bad p => .wrong p
theorem start {x : Cs} {r : Res} (b : Bd x 0 r) : Unw x [] r (finOf x r) := by
  cases r with
  | bad p => exact .bad
  | ok d e =>
    obtain ⟨_, h⟩ := b d e rfl
    show Unw x [] _ (if e = x.length then .good d else .wrong e)
    by_cases q : e = x.length
    · rw [if_pos q]; exact .tip (List.getElem?_eq_none_iff.mpr (by omega))
    · rw [if_neg q]; exact .tail (List.getElem?_eq_getElem (by omega))
end K28

/-! K28P: the text of a thing; reading it tells the thing back. -/
namespace K28
open PySem PySem.NumText

def GREATEST : Int := 999999999999999999999999999999
def okc (c : Nat) : Bool := decide (32 ≤ c) && decide (c ≤ 126)
theorem okc_iff {c : Nat} : okc c = true ↔ 32 ≤ c ∧ c ≤ 126 := by unfold okc; simp
def esc : Cs → Cs
  | [] => []
  | c :: r => if c = 39 ∨ c = 126 then 126 :: c :: esc r else c :: esc r
def intCs (i : Int) : Cs := (Str.ofString (toString i)).cps.toList
def jn : List Cs → Cs
  | [] => []
  | [p] => p
  | p :: q :: r => p ++ ([44] ++ jn (q :: r))
mutual
def pk : PyData → Cs
  | .none => [46]
  | .int i => intCs i
  | .str z => [39] ++ esc z.cps.toList ++ [39]
  | .tuple ds => [40] ++ jn (pks ds) ++ [41]
  | .bool _ => []
  | .list _ => []
  | .dict _ => []
def pks : List PyData → List Cs
  | [] => []
  | d :: ds => pk d :: pks ds
end
/-- the digits of a text are those of a number without a needless 0 -/
def numOk (i : Int) (neg : Bool) (ds : Cs) : Bool :=
  ds.all dig && !ds.isEmpty && decide (ds.length ≤ 30) && (ds.head? != some 48 || (ds == [48] && !neg)) && decide (i = if neg then -((digitsVal ds : Nat) : Int) else ((digitsVal ds : Nat) : Int))
def intOk (i : Int) : Bool := (match intCs i with
  | 45 :: ds => numOk i true ds
  | ds => numOk i false ds) && decide (-GREATEST ≤ i) && decide (i ≤ GREATEST)
mutual
def fit : PyData → Bool
  | .none => true
  | .int i => intOk i
  | .str z => z.cps.toList.all okc
  | .tuple ds => fitAll ds
  | .bool _ => false
  | .list _ => false
  | .dict _ => false
def fitAll : List PyData → Bool
  | [] => true
  | d :: ds => fit d && fitAll ds
end
mutual
def isTh : PyData → Nat → Bool
  | .none, _ => true
  | .int i, _ => decide (-GREATEST ≤ i) && decide (i ≤ GREATEST)
  | .str z, _ => z.cps.toList.all okc
  | .tuple ds, n => decide (0 < n) && isThAll ds (n - 1)
  | .bool _, _ => false
  | .list _, _ => false
  | .dict _, _ => false
def isThAll : List PyData → Nat → Bool
  | [], _ => true
  | d :: ds, n => isTh d n && isThAll ds n
end

theorem two_and {a b : Bool} (h : (a && b) = true) : a = true ∧ b = true := Bool.and_eq_true_iff.mp h
mutual
theorem th_fit : ∀ (t : PyData) (n : Nat), fit t = true → t.depth ≤ n → isTh t n = true
  | .none, _, _, _ => by simp only [isTh]
  | .int i, _, h, _ => by
    have h' : intOk i = true := by simpa only [fit] using h
    obtain ⟨h1, h2⟩ := two_and h'
    obtain ⟨_, h3⟩ := two_and h1
    simp only [isTh]
    rw [h2, h3]; rfl
  | .str z, _, h, _ => by
    have h' : z.cps.toList.all okc = true := by simpa only [fit] using h
    simp only [isTh]; exact h'
  | .tuple ds, n, h, hd => by
    have h' : fitAll ds = true := by simpa only [fit] using h
    have hd' : PyData.depthAll ds + 1 ≤ n := hd
    simp only [isTh]
    rw [decide_eq_true (show 0 < n by omega), th_fitAll ds (n - 1) h' (by omega)]; rfl
  | .bool _, _, h, _ => by simp only [fit] at h; cases h
  | .list _, _, h, _ => by simp only [fit] at h; cases h
  | .dict _, _, h, _ => by simp only [fit] at h; cases h
theorem th_fitAll : ∀ (ts : List PyData) (n : Nat), fitAll ts = true → PyData.depthAll ts ≤ n → isThAll ts n = true
  | [], _, _, _ => by simp only [isThAll]
  | t :: ts, n, h, hd => by
    have h' : (fit t && fitAll ts) = true := by simpa only [fitAll] using h
    have hd' : max t.depth (PyData.depthAll ts) ≤ n := hd
    obtain ⟨h1, h2⟩ := two_and h'
    simp only [isThAll]
    rw [th_fit t n h1 (by omega), th_fitAll ts n h2 (by omega)]; rfl
end
mutual
theorem fit_can : ∀ (t : PyData), fit t = true → t.canLay0 = true
  | .none, _ => rfl
  | .int i, _ => rfl
  | .str z, h => by
    have h' : z.cps.toList.all okc = true := by simpa only [fit] using h
    show PyData.strOk z = true
    unfold PyData.strOk
    rw [Array.all_eq_true']
    intro c hc
    have := okc_iff.mp (List.all_eq_true.mp h' c (by simpa using hc))
    simp; omega
  | .tuple ds, h => by
    have h' : fitAll ds = true := by simpa only [fit] using h
    show PyData.canLayAll0 ds = true
    exact fit_canAll ds h'
  | .bool _, h => by simp only [fit] at h; cases h
  | .list _, h => by simp only [fit] at h; cases h
  | .dict _, h => by simp only [fit] at h; cases h
theorem fit_canAll : ∀ (ts : List PyData), fitAll ts = true → PyData.canLayAll0 ts = true
  | [], _ => rfl
  | t :: ts, h => by
    have h' : (fit t && fitAll ts) = true := by simpa only [fitAll] using h
    obtain ⟨h1, h2⟩ := two_and h'
    show (PyData.canLay0 t && PyData.canLayAll0 ts) = true
    rw [fit_can t h1, fit_canAll ts h2]; rfl
end

/-! ### reading a text that was packed -/
def nd : Cs → Prop
  | [] => True
  | c :: _ => dig c = false
theorem at_drop {x : Cs} {a : Nat} {c : Nat} {r : Cs} (h : x.drop a = c :: r) : x[a]? = some c := by
  have : (x.drop a)[0]? = some c := by rw [h]; rfl
  rw [List.getElem?_drop] at this
  exact this
theorem drop_add {x : Cs} {a : Nat} {u v : Cs} (h : x.drop a = u ++ v) : x.drop (a + u.length) = v := by
  rw [← List.drop_drop, h, List.drop_left]
theorem digs_append : ∀ {ds rest : Cs}, ds.all dig = true → ds.length ≤ 30 → nd rest → digs (ds ++ rest) = ds := by
  intro ds rest h hl hr
  have : (ds ++ rest).takeWhile dig = ds := by
    clear hl
    induction ds with
    | nil =>
      cases rest with
      | nil => rfl
      | cons c r =>
        have hr' : dig c = false := hr
        show (c :: r).takeWhile dig = []
        rw [List.takeWhile_cons, if_neg (by rw [hr']; decide)]
    | cons c r ih =>
      have h' : (dig c && r.all dig) = true := by simpa only [List.all_cons] using h
      obtain ⟨h1, h2⟩ := two_and h'
      show (c :: (r ++ rest)).takeWhile dig = c :: r
      rw [List.takeWhile_cons, if_pos h1, ih h2]
  unfold digs
  rw [this, List.take_of_length_le hl]
theorem numOk_cases {i : Int} {neg : Bool} {ds : Cs} (h : numOk i neg ds = true) : ds.all dig = true ∧ ds ≠ [] ∧ ds.length ≤ 30 ∧ (ds.head? = some 48 → ds = [48] ∧ neg = false) ∧ i = if neg then -((digitsVal ds : Nat) : Int) else ((digitsVal ds : Nat) : Int) := by
  unfold numOk at h
  obtain ⟨h1, h5⟩ := two_and h
  obtain ⟨h1, h4⟩ := two_and h1
  obtain ⟨h1, h3⟩ := two_and h1
  obtain ⟨h1, h2⟩ := two_and h1
  refine ⟨h1, ?_, of_decide_eq_true h3, fun q => ?_, of_decide_eq_true h5⟩
  · intro e; subst e; cases h2
  · rw [q] at h4
    have h4' : (ds == [48] && !neg) = true := by simpa using h4
    obtain ⟨p1, p2⟩ := two_and h4'
    refine ⟨eq_of_beq p1, by cases neg <;> first | rfl | cases p2⟩
theorem int_cases {i : Int} (h : intOk i = true) : (∃ ds, intCs i = 45 :: ds ∧ numOk i true ds = true) ∨ (numOk i false (intCs i) = true ∧ ∀ r, intCs i ≠ 45 :: r) := by
  unfold intOk at h
  obtain ⟨h1, _⟩ := two_and h
  obtain ⟨h1, _⟩ := two_and h1
  split at h1
  · rename_i ds e
    exact .inl ⟨ds, e, h1⟩
  · rename_i ds hne
    exact .inr ⟨h1, fun r e => hne r e⟩
theorem go_int {x : Cs} {i : Int} {a d : Nat} {rest : Cs} (h : intOk i = true) (hx : x.drop a = intCs i ++ rest) (hr : nd rest) : Go x .item a d (.ok (.int i) (a + (intCs i).length)) := by
  rcases int_cases h with ⟨ds, e, hn⟩ | ⟨hn, hne⟩
  · obtain ⟨h1, h2, h3, h4, h5⟩ := numOk_cases hn
    rw [e] at hx ⊢
    have ha : x[a]? = some 45 := at_drop (r := ds ++ rest) hx
    have hd : x.drop (a + 1) = ds ++ rest := drop_add (u := [45]) hx
    have hdd : digs (x.drop (a + 1)) = ds := by rw [hd]; exact digs_append h1 h3 hr
    have h48 : x[a + 1]? ≠ some 48 := fun q => by
      cases ds with
      | nil => exact h2 rfl
      | cons c r =>
        have := at_drop (r := r ++ rest) hd
        rw [this] at q
        have := (h4 (by rw [show c = 48 from Option.some.inj q]; rfl)).2
        cases this
    have : rint x a = .ok (.int i) (a + (45 :: ds).length) := by
      unfold rint
      rw [if_pos ha, if_neg h48, if_neg (by rw [hdd]; exact h2), hdd, h5]
      show Res.ok _ _ = Res.ok _ _
      congr 1
      simp only [List.length_cons]; omega
    rw [← this]
    exact .num ha (by decide) (by decide) (by decide)
  · obtain ⟨h1, h2, h3, h4, h5⟩ := numOk_cases hn
    generalize intCs i = ds at *
    cases ds with
    | nil => exact absurd rfl h2
    | cons c r =>
      have ha : x[a]? = some c := at_drop (r := r ++ rest) hx
      have hc : dig c = true := by
        have h' : (dig c && r.all dig) = true := by simpa only [List.all_cons] using h1
        exact (two_and h').1
      have hc' := dig_iff.mp hc
      have hdd : digs (x.drop a) = c :: r := by rw [hx]; exact digs_append h1 h3 hr
      have h45 : ¬ x[a]? = some 45 := by rw [ha]; intro q; have := Option.some.inj q; omega
      have : rint x a = .ok (.int i) (a + (c :: r).length) := by
        unfold rint
        rw [if_neg h45]
        by_cases h0 : c = 48
        · subst h0
          obtain ⟨q, _⟩ := h4 rfl
          have hr0 : r = [] := by injection q
          subst hr0
          rw [if_pos ha, h5]; rfl
        · rw [if_neg (by rw [ha]; intro q; exact h0 (Option.some.inj q)), if_neg (by rw [hdd]; exact h2), hdd, h5]; rfl
      rw [← this]
      exact .num ha (by omega) (by omega) (by omega)
theorem rs_esc {x : Cs} : ∀ (l : Cs) (p : Nat) (acc rest : Cs), l.all okc = true → x.drop p = esc l ++ 39 :: rest → RS x p acc = .ok (.str ⟨(acc ++ l).toArray⟩) (p + (esc l).length + 1)
  | [], p, acc, rest, _, hx => by
    have h1 : x[p]? = some 39 := at_drop (r := rest) hx
    rw [RS_quote h1, List.append_nil]; rfl
  | c :: l, p, acc, rest, h, hx => by
    have h' : (okc c && l.all okc) = true := by simpa only [List.all_cons] using h
    obtain ⟨h1, h2⟩ := two_and h'
    have hc := okc_iff.mp h1
    by_cases q : c = 39 ∨ c = 126
    · have e : esc (c :: l) = 126 :: c :: esc l := by rw [esc, if_pos q]
      rw [e] at hx ⊢
      have a1 : x[p]? = some 126 := at_drop (r := c :: (esc l ++ 39 :: rest)) hx
      have d1 : x.drop (p + 1) = c :: (esc l ++ 39 :: rest) := drop_add (u := [126]) hx
      have a2 : x[p + 1]? = some c := at_drop d1
      have d2 : x.drop (p + 2) = esc l ++ 39 :: rest := drop_add (u := [126, c]) hx
      rw [RS_esc a1 a2 q, rs_esc l (p + 2) (acc ++ [c]) rest h2 d2, List.append_assoc]
      show Res.ok _ _ = Res.ok _ _
      congr 1
      simp only [List.length_cons]; omega
    · have e : esc (c :: l) = c :: esc l := by rw [esc, if_neg q]
      rw [e] at hx ⊢
      have a1 : x[p]? = some c := at_drop (r := esc l ++ 39 :: rest) hx
      have d1 : x.drop (p + 1) = esc l ++ 39 :: rest := drop_add (u := [c]) hx
      rw [RS_sign a1 (by omega) hc (by omega), rs_esc l (p + 1) (acc ++ [c]) rest h2 d1, List.append_assoc]
      show Res.ok _ _ = Res.ok _ _
      congr 1
      simp only [List.length_cons]; omega
theorem pk_pos (t : PyData) (h : fit t = true) : ∃ c r, pk t = c :: r ∧ c ≠ 41 := by
  cases t with
  | none => exact ⟨46, [], by simp only [pk], by decide⟩
  | int i =>
    have h' : intOk i = true := by simpa only [fit] using h
    have e : pk (.int i) = intCs i := by simp only [pk]
    rw [e]
    rcases int_cases h' with ⟨ds, e, _⟩ | ⟨hn, _⟩
    · exact ⟨45, ds, e, by decide⟩
    · obtain ⟨h1, h2, _, _, _⟩ := numOk_cases hn
      generalize intCs i = ds at *
      cases ds with
      | nil => exact absurd rfl h2
      | cons c r =>
        refine ⟨c, r, rfl, ?_⟩
        have h3 : (dig c && r.all dig) = true := by simpa only [List.all_cons] using h1
        have := dig_iff.mp (two_and h3).1
        omega
  | str z => exact ⟨39, esc z.cps.toList ++ [39], by simp only [pk]; rfl, by decide⟩
  | tuple ds => exact ⟨40, jn (pks ds) ++ [41], by simp only [pk]; rfl, by decide⟩
  | bool _ => simp only [fit] at h; cases h
  | list _ => simp only [fit] at h; cases h
  | dict _ => simp only [fit] at h; cases h
theorem nd_of {c : Nat} {r : Cs} (h : c < 48) : nd (c :: r) := by
  show dig c = false
  unfold dig
  rw [decide_eq_false (by omega)]; rfl
mutual
theorem go_pk (x : Cs) : ∀ (t : PyData) (a d : Nat) (rest : Cs), fit t = true → t.depth + d ≤ 30 → x.drop a = pk t ++ rest → nd rest → Go x .item a d (.ok t (a + (pk t).length))
  | .none, a, d, rest, _, _, hx, _ => by
    have e0 : pk .none = [46] := by simp only [pk]
    rw [e0] at hx ⊢
    exact .dot (at_drop (r := rest) hx)
  | .int i, a, d, rest, h, _, hx, hr => by
    have h' : intOk i = true := by simpa only [fit] using h
    have e : pk (.int i) = intCs i := by simp only [pk]
    rw [e] at hx ⊢
    exact go_int h' hx hr
  | .str z, a, d, rest, h, _, hx, _ => by
    have h' : z.cps.toList.all okc = true := by simpa only [fit] using h
    have e : pk (.str z) = [39] ++ esc z.cps.toList ++ [39] := by simp only [pk]
    rw [e] at hx ⊢
    have hx' : x.drop a = 39 :: (esc z.cps.toList ++ 39 :: rest) := by rw [hx]; simp
    have a1 := at_drop hx'
    have d1 : x.drop (a + 1) = esc z.cps.toList ++ 39 :: rest := drop_add (u := [39]) hx'
    have g := Go.quo (d := d) a1
    rw [rs_esc _ _ _ _ h' d1] at g
    have e2 : a + ([39] ++ esc z.cps.toList ++ [39]).length = a + 1 + (esc z.cps.toList).length + 1 := by simp; omega
    rw [e2]
    simpa using g
  | .tuple [], a, d, rest, _, hd, hx, _ => by
    have hx' : x.drop a = 40 :: 41 :: rest := by simpa [pk, pks, jn] using hx
    have e : (pk (.tuple [])).length = 2 := by simp [pk, pks, jn]
    have hd' : 0 + 1 + d ≤ 30 := hd
    rw [e]
    exact .par (at_drop hx') (by omega) (.tup0 (at_drop (drop_add (u := [40]) hx')))
  | .tuple (t :: ts), a, d, rest, h, hd, hx, _ => by
    have h' : fitAll (t :: ts) = true := by simpa only [fit] using h
    have e : pk (.tuple (t :: ts)) = [40] ++ jn (pks (t :: ts)) ++ [41] := by simp only [pk]
    rw [e] at hx ⊢
    have hd' : PyData.depthAll (t :: ts) + 1 + d ≤ 30 := hd
    have hx' : x.drop a = 40 :: (jn (pks (t :: ts)) ++ 41 :: rest) := by rw [hx]; simp
    have d1 : x.drop (a + 1) = jn (pks (t :: ts)) ++ 41 :: rest := drop_add (u := [40]) hx'
    have g := go_pks x (t :: ts) [] (a + 1) (d + 1) rest (by nofun) h' (by omega) d1
    have n41 : x[a + 1]? ≠ some 41 := by
      have hf : fit t = true := by
        have h2 : (fit t && fitAll ts) = true := by simpa only [fitAll] using h'
        exact (two_and h2).1
      obtain ⟨c, r, ec, hc⟩ := pk_pos t hf
      have : ∃ r', jn (pks (t :: ts)) = c :: r' := by
        cases ts with
        | nil => exact ⟨r, by simpa only [pks, jn] using ec⟩
        | cons u us => exact ⟨r ++ ([44] ++ jn (pks (u :: us))), by simp only [pks, jn]; rw [ec]; rfl⟩
      obtain ⟨r', er⟩ := this
      rw [er] at d1
      rw [at_drop d1]
      intro q; exact hc (Option.some.inj q)
    have e2 : a + ([40] ++ jn (pks (t :: ts)) ++ [41]).length = a + 1 + (jn (pks (t :: ts))).length + 1 := by simp; omega
    rw [e2]
    exact .par (at_drop hx') (by omega) (.tup1 n41 g)
  | .bool _, _, _, _, h, _, _, _ => by simp only [fit] at h; cases h
  | .list _, _, _, _, h, _, _, _ => by simp only [fit] at h; cases h
  | .dict _, _, _, _, h, _, _, _ => by simp only [fit] at h; cases h
theorem go_pks (x : Cs) : ∀ (ts : List PyData) (l : List PyData) (a d : Nat) (rest : Cs), ts ≠ [] → fitAll ts = true → PyData.depthAll ts + d ≤ 30 → x.drop a = jn (pks ts) ++ 41 :: rest →
    Go x (.more l) a d (.ok (.tuple (l ++ ts)) (a + (jn (pks ts)).length + 1))
  | [], _, _, _, _, h, _, _, _ => absurd rfl h
  | [t], l, a, d, rest, _, h, hd, hx => by
    have h' : (fit t && true) = true := by simpa only [fitAll] using h
    have hd' : max t.depth 0 + d ≤ 30 := hd
    have e : jn (pks [t]) = pk t := by simp only [pks, jn]
    rw [e] at hx ⊢
    have g := go_pk x t a d (41 :: rest) (two_and h').1 (by omega) hx (nd_of (by decide))
    have hb : x[a + (pk t).length]? = some 41 := at_drop (drop_add hx)
    obtain ⟨c, r, ec, _⟩ := pk_pos t (two_and h').1
    have hl : 0 < (pk t).length := by rw [ec]; exact Nat.succ_pos _
    have := (List.getElem?_eq_some_iff.mp hb).1
    exact .mend g (by omega) (by omega) hb
  | t :: u :: ts, l, a, d, rest, _, h, hd, hx => by
    have h' : (fit t && fitAll (u :: ts)) = true := by simpa only [fitAll] using h
    have hd' : max t.depth (PyData.depthAll (u :: ts)) + d ≤ 30 := hd
    have e : jn (pks (t :: u :: ts)) = pk t ++ ([44] ++ jn (pks (u :: ts))) := by simp only [pks, jn]
    rw [e] at hx ⊢
    have hx1 : x.drop a = pk t ++ (44 :: (jn (pks (u :: ts)) ++ 41 :: rest)) := by rw [hx]; simp
    have g := go_pk x t a d _ (two_and h').1 (by omega) hx1 (nd_of (by decide))
    have d1 := drop_add hx1
    have hb : x[a + (pk t).length]? = some 44 := at_drop d1
    obtain ⟨c, r, ec, _⟩ := pk_pos t (two_and h').1
    have hl : 0 < (pk t).length := by rw [ec]; exact Nat.succ_pos _
    have := (List.getElem?_eq_some_iff.mp hb).1
    have d2 : x.drop (a + (pk t).length + 1) = jn (pks (u :: ts)) ++ 41 :: rest := drop_add (u := [44]) d1
    have g2 := go_pks x (u :: ts) (l ++ [t]) (a + (pk t).length + 1) d rest (by nofun) (two_and h').2 (by omega) d2
    have e2 : l ++ [t] ++ u :: ts = l ++ t :: u :: ts := by simp
    rw [e2] at g2
    have e3 : a + (pk t ++ ([44] ++ jn (pks (u :: ts)))).length + 1 = a + (pk t).length + 1 + (jn (pks (u :: ts))).length + 1 := by simp; omega
    rw [e3]
    exact .mgo g (by omega) (by omega) hb g2
end
/-- the text of a thing is read as just this thing -/
theorem go_whole (t : PyData) (h : fit t = true) (hd : t.depth ≤ 30) : Go (pk t) .item 0 0 (.ok t (pk t).length) := by
  have := go_pk (pk t) t 0 0 [] h (by omega) (by simp) trivial
  simpa using this
end K28

/-! K28E: BadText(place), whose __init__ says super().__init__(place) and keeps the place. -/
namespace K28
open PySem PySem.W PySem.Calls PyProof.Rows PySem.HandSPX

/-- BadText's __init__ by its place in the text -/
abbrev sBI : Stmt := L2.inClass (PySem.Challenge.pw_knownends_k28_whole_things_packed_and_re.main.body.getD 3 (.Pass ⟨0, 0, 0, 0⟩)) 0
abbrev iA : Arguments := L2.defArgs sBI
abbrev iB : List Stmt := L2.defBody sBI
abbrev iS : Scope := L2.defScope sBI
/-- what the written part says of BadText, at C, and of its __init__, at fI -/
structure BadTxt (P : Program) (K : Frag) (mg : Str → Option Value) (C fI : Addr) : Prop where
  gC : mg "BadText" = some (.ref C)
  cls : ∃ nm q N bs bm sn sub ab col dd k0 k1 k2 k3 k5, K.lookup C = some (excClassObj nm q C N bs bm true sn sub ab col dd k0 k1 k2 k3 k5 "ValueError.__new__") ∧ refsVE bm = true ∧ alongIn K "__init__" bm = some (some (.builtin "ValueError.__init__"))
  sa : findIn K (.ref C) "__setattr__" = some (some (.builtin "object.__setattr__"))
  ga : findIn K (.ref C) "__getattribute__" = some (some (.builtin "BaseException.__getattribute__"))
  gg : findIn K (.ref C) "__getattr__" = some none
  noN : findIn K (.ref C) "place" = some none
  iC : findIn K (.ref C) "__init__" = some (some (.ref fI))
  tC : typeIn K (.ref fI) = some (.type "function")
  kC : keepIn K (.ref C) = true
  exC : subIn K (.ref C) (.type "BaseException") = some true
  veC : subIn K (.ref C) (.type "ValueError") = some true
  slC : mroIn K C (.ref C) = some true
  tyC : typeIn K (.ref C) = some (.type "type")
  hdC : hasDictIn K C = true
  te : exmOne K (.ref C) (.ref C) = some true
  gS : mg "super" = none
  op : nsIn K cStatics "thirdparty.any" = some none
  top : (P.main.scope.names.lookup ("super" : Str)).isSome = false
  fn : ∃ (oc : Value) (od : Option Addr) (doc pm : Value) (an : Option Addr) (cda cc : Addr) (ct : Value) (osl : Array (Option Value)),
    K.lookup fI = some ⟨oc, od, .func (ksFn "__init__" "BadText.__init__" iA iB iS .none .none doc pm an (.ref cda) ct cc), osl⟩ ∧ codeIn K (.ref cda) "BadText.__init__" = true ∧
    (∃ ccl cdd vs ccs file tf, K.lookup cda = some ⟨ccl, cdd, .fields vs, ccs⟩ ∧ vs[2]? = some (.str file tf) ∧ ((P.main.file : Str) == file) = true) ∧
    (∃ cl cld csl, K.lookup cc = some ⟨cl, cld, .cell (some (.ref C)), csl⟩)
theorem one_size (v : Value) : [v].length ≤ sizeLine := by
  rw [sizeLine_eq]
  exact (by decide : 1 ≤ 16777216)
theorem ldF {M : Model} {A : Around} {E : Value → Shared → Prop} {s : Shared} {env : Env} {m : Str → Option Value} {x : Str} {pos : Pos} {v : Value} {Q : Value → Shared → Prop} (hn : s.heap.Ns env.locals m) (hv : m x = some v) (h : Q v s)
    (hk : env.scope.kind = .function) (hl : env.kindOf x = some .local) (hd : (x == ("__debug__" : Str)) = false := by decide) :
    wpAny M A (eval (.Name x pos) env) Q E s := wpAny_Name (wpAny_loadName_local hk hl hn hv h) hd
/-- what __init__ leaves of a fresh exception at x -/
structure InitEnd (h h' : Heap) (x C dx t1 : Addr) (v : Value) : Prop where
  keep : ∀ b o, b ≠ x → h.get? b = some o → h'.get? b = some o
  obj : h'.get? x = some { cls := .ref C, dict := some dx, data := .fields #[.ref t1, .none, .none, .none, .bool false, .none] }
  dbig : h.objs.size ≤ dx
  dne : dx ≠ x
  ns : h'.Ns1 dx (fun y => if y = "place" then some v else none)
/-- a made BadText -/
structure OwnMade (h h' : Heap) (e C d : Addr) (v : Value) : Prop where
  keep : ∀ b o, h.get? b = some o → h'.get? b = some o
  new : h.objs.size ≤ e
  obj : ∃ oe vs, h'.get? e = some oe ∧ oe.cls = .ref C ∧ oe.dict = some d ∧ oe.data = .fields vs ∧ vs[1]? = some .none
  dbig : h.objs.size ≤ d
  dne : d ≠ e
  ns : h'.Ns1 d (fun y => if y = "place" then some v else none)
section
variable {prog : Program} {w : World} {A : Around} {E : Value → Shared → Prop} {R : Result → Shared → Prop} {s : Shared} {K : Frag} {mg mb : Str → Option Value} {C fI : Addr}
theorem boot_super : bootBuiltins "super" = some (.type "super") := by first | boot_by_name | rfl | kernel_rfl
theorem drop_self (C : Addr) (l : List Value) : ((Value.ref C :: l).dropWhile (· != .ref C)).drop 1 = l := by
  simp [List.dropWhile_cons]
theorem ns_keep {h h' : Heap} {L : Addr} {m : Str → Option Value} (hn : h.Ns L m) (k : ∀ o, h.get? L = some o → h'.get? L = some o) : h'.Ns L m := by
  obtain ⟨o, es, ep, e, r⟩ := hn
  exact ⟨o, es, ep, k o e, r⟩
/-- the wrapper that super() hands out, called -/
theorem call_wrap {h : Heap} {g : Array GenState} {d : Drawn} {t : Nat} {os : OsState} {nm q : Str} {N u e t0 : Addr} {bs bm : List Value} {hdct : Bool} {sn : List Str} {sub : List Value} {ab : Bool} {col : Option Bool} {dd : Option Addr} {k0 k1 k2 k3 k5 : Option Value}
    {rest : List Value} {Q : Value → Shared → Prop}
    (hC : h.get? C = some (excClassObj nm q C N bs bm hdct sn sub ab col dd k0 k1 k2 k3 k5 "ValueError.__new__")) (he : h.get? e = some (excO C t0)) (hu : h.get? u = some (kxs_mw "ValueError.__init__" e)) (hrest : rest.length ≤ sizeLine)
    (hq : ∀ h' t1, (∀ b o, b ≠ e → h.get? b = some o → h'.get? b = some o) → h.objs.size ≤ h'.objs.size → h'.get? e = some (excO C t1) → Q .none ⟨h', g, d, t, os⟩) :
    wpAny (model prog w) A (call (.ref u) rest) Q E ⟨h, g, d, t, os⟩ := by
  refine wpAny_call (codeAny_of_tree ?_)
  show wpAny _ A.in1 (callAny (.ref u) ⟨rest, []⟩) _ _ _
  simp only [callAny]
  refine wpAny_bind (wpAny_load hu ?_)
  have m1 : (Value.type "method-wrapper" == Value.type "method" || Value.type "method-wrapper" == Value.type "builtin_function_or_method" || Value.type "method-wrapper" == Value.type "method-wrapper") = true := by decide
  simp only [kxs_mw, m1, if_true]
  refine KFB.if_so (by decide) ?_
  refine wpAny_bind (check_bound_init PySem.F.excBase_ValueError.toExcCallFacts hC he rfl ?_)
  refine wpAny_bind (wpAny_pure (wpAny_pure ?_))
  refine ⟨plainId_quiet PySem.F.excBase_ValueError.init.plain _, codeAny_builtin PySem.F.excBase_ValueError.initEntry ?_⟩
  refine exc_init_tree (cls := .ref C) (t0 := t0) (dv := none) (c2 := .none) (c3 := .none) (b4 := .bool false) he hrest fun h' k e' t' => ?_
  exact hq h' h.objs.size k (Nat.le_of_lt (Heap.lt_size t')) e'

theorem bad_init (T : BadTxt prog K mg C fI) {x t0 : Addr} {v : Value} (X : K.In s.heap) (hlim : s.heap.NoLimit) (hG : s.heap.Ns mainGlobals mg) (hB : s.heap.Ns builtinsNs mb) (hbb : ∀ x : Str, x ≠ "__name__" → mb x = bootBuiltins x)
    (hx : s.heap.get? x = some (excO C t0)) (hnx : K.lookup x = none) (hroom : A.depth < recursionLimit)
    (hq : ∀ h' tk dx t1, InitEnd s.heap h' x C dx t1 v → R (.ok (.ret .none)) { s with heap := h', toks := tk }) :
    codeAny (model prog w) A (.call (.ref fI) ⟨[.ref x, v], []⟩) R s := by
  obtain ⟨oc, od, doc, pm, an, cda, cc, ct, osl, ho, hcd, ⟨ccl, cdd, cvs, ccs, file, tf, hcode, hvs, hfile⟩, ⟨cl, cld, csl, hcell⟩⟩ := T.fn
  obtain ⟨nm, q, N, bs, bm, sn, sub, ab, col, dd, k0, k1, k2, k3, k5, hC, hbm, hal⟩ := T.cls
  have hcl : clsIn K C = some { name := nm, bases := bs, mro := .ref C :: bm, ns := N, qualname := q, hasDict := true, slotNames := sn, subclasses := sub, abstract := ab, collection := col, hasDel := false } := by unfold clsIn; rw [hC] <;> rfl
  obtain ⟨hp, g, d, t, os⟩ := s
  have hxC : x ≠ C := fun z => by
    rw [z, hC] at hnx; cases hnx
  have hxL : x < hp.objs.size := Heap.lt_size hx
  refine ks_codeAny_call_defAt (binds := [("self", .ref x), ("place", v)]) hroom (X _ _ ho) rfl hlim (codeRec_of X hcd) rfl (BindsTo.of_eq (by first | rfl | with_unfolding_all rfl))
    (show ∀ y ∈ iS.names, y.2 ≠ .cell by decide +kernel) (locs rfl) (fun h₁ hn k => ?_) rfl rfl rfl
  show PySem.wpAt _ _ _ (execs iB (ksEnv "BadText.__init__" iS hp.objs.size fI (.ref cda) cc)) _ _ _
  have X₁ : K.In h₁ := X.keeps k
  have hx₁ := k _ _ hx
  have hC₁ : h₁.get? C = some (excClassObj nm q C N bs bm true sn sub ab col dd k0 k1 k2 k3 k5 "ValueError.__new__") := X₁ _ _ hC
  have hsz : hp.objs.size < h₁.objs.size := hn.lt
  have hSb : mb "super" = some (.type "super") := (hbb "super" (by decide +kernel)).trans boot_super
  refine ks_wpAt_execs_cons ?_
  refine ks_wpAt_Expr_any ?_
  refine ks_wpAt_MethodCall ?_
  refine ks_wpAt_super_base (env := ksEnv "BadText.__init__" iS hp.objs.size fI (.ref cda) cc) (by first | rfl | decide +kernel) (by first | rfl | decide +kernel) (by decide) rfl (X₁ _ _ ho) rfl rfl rfl (X₁ _ _ hcode) rfl hvs hfile T.top ?_
  refine ks_loadName_global rfl (by first | rfl | decide +kernel) (loadGlobal_builtin (env := ksEnv "BadText.__init__" iS hp.objs.size fI (.ref cda) cc) (ns_keep hG fun o e => k _ _ e) T.gS (ns_keep hB fun o e => k _ _ e) hSb ⟨rfl, ?_⟩)
  refine wpAny_loadName_free rfl (by first | rfl | decide +kernel) (by first | rfl | decide +kernel) ⟨_, X₁ _ _ hcell, rfl⟩ ?_
  refine wpAny_loadName_local rfl (by first | rfl | decide +kernel) hn (v := .ref x) (by first | rfl | decide +kernel) ?_
  refine ks_wpAny_isType_cls hC₁ rfl ⟨rfl, ?_⟩
  refine ks_wpAny_call_super hC₁ rfl hx₁ rfl (fun c e => by cases e) (looks_mroIn X₁ T.slC) (fun h₂ hso k₂ => ?_)
  have X₂ : K.In h₂ := X₁.keeps k₂
  have I₂ : InstAt h₂ x (excO C t0) C none := ⟨k₂ _ _ hx₁, rfl, rfl, trivial⟩
  refine kxs_getMethod kxs_ValueError (l₀ := .ref C :: bm) (l := bm) hso (looks_opaque X₂ T.op) ((looks_clsIn X₂ hcl).andThen .now) (drop_self C bm) X₂ hal (I₂.type.andThen (looks_subIn X₂ T.veC)) hxC (by decide +kernel) ?_
  -- the wrapper, at h₂'s end; its argument
  generalize hh₃ : h₂.push (kxs_mw "ValueError.__init__" x) = h₃
  have k₃ : ∀ b o, h₂.get? b = some o → h₃.get? b = some o := fun b o e => by rw [← hh₃]; exact Heap.get?_push_of_some _ e
  have hu₃ : h₃.get? h₂.objs.size = some (kxs_mw "ValueError.__init__" x) := by rw [← hh₃]; exact Heap.get?_push_at rfl rfl
  have k13 : ∀ b o, h₁.get? b = some o → h₃.get? b = some o := fun b o e => k₃ b o (k₂ b o e)
  have hn₃ : h₃.Ns hp.objs.size _ := ns_keep hn fun o e => k13 _ _ e
  show wpAny _ _ (callWith _ (Value.ref h₂.objs.size) [] (backTo _ (starEach [.Name "place" _] (ksEnv "BadText.__init__" iS hp.objs.size fI (.ref cda) cc))) []) _ _ _
  refine kxs_callWith (i := "ValueError.__init__") (x := x) (by first | rfl | decide +kernel) ?_
  refine evalArgs_plain (spliced_cons (ldF (v := v) hn₃ (by first | rfl | decide +kernel) (spliced_nil ⟨hu₃, ?_⟩) rfl (by first | rfl | decide +kernel)))
  have hx₃ : h₃.get? x = some (excO C t0) := k13 _ _ hx₁
  refine call_wrap (nm := nm) (q := q) (X₁.keeps k13 _ _ hC) hx₃ hu₃ (one_size v) fun h₄ t1 k₄ sz₄ hx₄ => ?_
  have hL3 : hp.objs.size ≠ x := Nat.ne_of_gt hxL
  have hn₄ : h₄.Ns hp.objs.size _ := ns_keep hn₃ fun o e => k₄ _ _ hL3 e
  have X₄ : K.In h₄ := fun b o e => k₄ b o (fun z => by rw [z, hnx] at e; cases e) (X₁.keeps k13 b o e)
  show PySem.wpAt _ _ _ (execs _ _) _ _ _
  refine ks_wpAt_execs_cons (wpAt_of_wpAny (plainObj_wpAny_Assign_Attribute (hs := by first | rfl | decide +kernel) ?_))
  refine ldF (v := v) hn₄ (by first | rfl | decide +kernel) (ldF (v := .ref x) hn₄ (by first | rfl | decide +kernel) ?_ rfl (by first | rfl | decide +kernel)) rfl (by first | rfl | decide +kernel)
  refine set_plain X₄ (ox := excO C t1) (od := none) ⟨hx₄, rfl, rfl, trivial⟩ T.sa ?_
  refine exc_osa X₄ hx₄ hcl (show refsVE (.ref C :: bm) = true from hbm) rfl T.noN (fun h₅ tk₅ dx k₅ dn dne hx₅ hn₅ => ?_)
  show PySem.wpAt _ _ _ (execs _ _) _ _ _
  refine wpAt_of_wpAny (wpAny_execs_nil ?_)
  have sz₂ : h₁.objs.size ≤ h₃.objs.size := Nat.le_trans (Nat.le_of_lt (Heap.lt_size hu₃)) (Nat.le_refl _) |> fun z => by
    have z2 : h₁.objs.size ≤ h₂.objs.size := by
      refine Nat.le_of_not_lt fun z3 => ?_
      exact absurd (Heap.lt_size hso) (Nat.not_lt.mpr (Nat.le_trans (Nat.le_of_lt (Nat.lt_of_lt_of_le z3 (Nat.le_refl _))) (Nat.le_refl _)))
    rw [← hh₃, Heap.size_push]
    exact Nat.le_succ_of_le z2
  refine hq h₅ tk₅ dx t1 ⟨fun b o hb e => k₅ b o hb (k₄ b o hb (k13 b o (k b o e))), hx₅, ?_, dne, hn₅⟩
  exact Nat.le_trans (Nat.le_of_lt hsz) (Nat.le_trans sz₂ (Nat.le_trans sz₄ dn))
theorem bad_made (T : BadTxt prog K mg C fI) {v : Value} (X : K.In s.heap) (hlim : s.heap.NoLimit) (hG : s.heap.Ns mainGlobals mg) (hB : s.heap.Ns builtinsNs mb) (hbb : ∀ x : Str, x ≠ "__name__" → mb x = bootBuiltins x) (hroom : A.depth + 1 < recursionLimit)
    (hq : ∀ h' tk e d, OwnMade s.heap h' e C d v → R (.ok (.ret (.ref e))) { s with heap := h', toks := tk }) :
    codeAny (model prog w) A (.call (.ref C) ⟨[v], []⟩) R s := by
  obtain ⟨nm, q, N, bs, bm, sn, sub, ab, col, dd, k0, k1, k2, k3, k5, hC, hbm, hal⟩ := T.cls
  obtain ⟨hp, g, dr, tk, os⟩ := s
  have k : ∀ b o, hp.get? b = some o → ((hp.push (kdv_tup [v])).push (excO C hp.objs.size)).get? b = some o := fun b o e => Heap.get?_push_of_some _ (Heap.get?_push_of_some _ e)
  have hget : ((hp.push (kdv_tup [v])).push (excO C hp.objs.size)).get? (hp.objs.size + 1) = some (excO C hp.objs.size) := by heap_get
  have hnx : K.lookup (hp.objs.size + 1) = none := by
    cases e : K.lookup (hp.objs.size + 1) with
    | none => rfl
    | some o =>
      have z : hp.get? (hp.objs.size + 1) = some o := X _ _ e
      exact absurd (Nat.lt_of_succ_lt (Heap.lt_size z)) (Nat.lt_irrefl _)
  refine call_own F.excBase_ValueError (fun X => refsVE_contains X bm hbm) (X _ _ hC) (looks_findIn X T.iC) (fun self => bind_fn X self T.tC) (one_size v) ?_
  refine bad_init (mb := mb) (s := ⟨(hp.push (kdv_tup [v])).push (excO C hp.objs.size), g, dr, tk, os⟩) T (X.keeps k) (hlim.keeps k) (ns_keep hG fun o e => k _ _ e) (ns_keep hB fun o e => k _ _ e) hbb hget hnx ?_ fun h' tk' dx t1 ⟨k', hx, dn, dne, hns⟩ => ?_
  · show A.depth + 1 < recursionLimit
    exact hroom
  · have old : ∀ b o, hp.get? b = some o → h'.get? b = some o := fun b o e => k' b o (Nat.ne_of_lt (Nat.lt_succ_of_lt (Heap.lt_size e))) (k b o e)
    have z : hp.objs.size + 1 + 1 ≤ dx := by
      have q := dn
      rw [Heap.size_push, Heap.size_push] at q
      exact q
    exact ⟨rfl, hq h' tk' (hp.objs.size + 1) dx ⟨old, Nat.le_succ _, ⟨_, _, hx, rfl, rfl, rfl, rfl⟩, Nat.le_trans (Nat.le_trans (Nat.le_succ _) (Nat.le_succ _)) z, dne, hns⟩⟩
end
end K28

namespace K28
open PySem PySem.Spec PyProof.Rows L2
theorem relO_bad {v : V} {v' : Value} (r : RelV v v') (f : Str) : RelO (List.lookup f [(("place" : Str), v)]) (if f = "place" then some v' else none) := by
  by_cases hw : f = "place"
  · subst hw
    rw [if_pos rfl]
    have q : List.lookup ("place" : Str) [(("place" : Str), v)] = some v := by simp [List.lookup]
    rw [q]
    exact r
  · rw [if_neg hw]
    have qw : (f == ("place" : Str)) = false := by simpa using hw
    have q2 : List.lookup f [(("place" : Str), v)] = none := by simp [List.lookup, qw]
    rw [q2]
    trivial
section
variable {X : Cx} {C fI : Addr}
/-- BadText(e) -/
def tMkBad (C : Addr) (ta : TA) : L2.St → Hp → XK → Prop := fun σ H Q => ta σ H fun vs H1 => ∃ v, vs = [v] ∧ ∀ d, H1 d = none → Q (.ref C) (some d) (upd H1 d (.xd [(("place" : Str), v)]))
theorem pmk_bad {a : Expr} {ta : TA} {p pos : Pos} {k : Nat} (T : BadTxt X.prog X.K X.mg C fI) (hr : Room k X.A) (ha : PA X [a] ta) (hg : Gl X "BadText" := by rfl)
    (he : starEach (a :: []) X.env = (false, eval a X.env) :: starEach [] X.env := by rfl) (hpl : (backTo pos (starEach [] X.env)).any (·.1) = false := by rfl) :
    PMk X (.Call (.Name "BadText" p) [a] [] pos) (tMkBad C ta) := by
  intro pins s σ H Q I h
  refine wpAny_Call_Name_kw (ld_glob I hg T.gC ?_)
  refine PySem.W.callWith_K (h₀ := X.base) I.ok.mod.kin T.kC (thn (ha.run pos pins s σ H _ I h) fun us s1 hh => ?_) he hpl
  obtain ⟨vs, H1, I1, r1, v, ev, q1⟩ := hh
  subst ev
  refine ⟨I1.kIn, ?_⟩
  cases r1 with
  | cons rv rn =>
    rename_i v' us'
    cases rn
    show wpAny _ _ (call (.ref C) [v']) _ _ _
    have hlim := I1.nolimit
    obtain ⟨mb, hB, hbb⟩ := I1.mod.blt
    have hG := I1.mod.glob.keeps I1.bk
    have hB' := hB.keeps I1.bk
    obtain ⟨hp, g, dr, tk, os⟩ := s1
    refine wpAny_call (bad_made (mb := mb) T I1.kIn hlim hG hB' hbb (by have := hr.dp; omega) fun h' tk' e d M => ?_)
    show MkP X pins σ Q (.ref e) ⟨h', g, dr, tk', os⟩
    obtain ⟨oe, fv, hoe, hc, hd, hdat, h1⟩ := M.obj
    have hns := M.ns
    obtain ⟨G', g1, g2⟩ := restrict h' fun b => decide (b ≠ e)
    have gk : ∀ b, b ≠ e → G'.get? b = h'.get? b := fun b hb => g1 b (decide_eq_true hb)
    have ge : G'.get? e = none := g2 e (by simp)
    have old : ∀ b o, hp.get? b = some o → G'.get? b = some o := fun b o q => (gk b (Nat.ne_of_lt (Nat.lt_of_lt_of_le (Heap.lt_size q) M.new))).trans (M.keep b o q)
    have ob : ObjOk X.prog X.w (upd H1 d (.xd [(("place" : Str), v)])) G' d (.xd [(("place" : Str), v)]) :=
      ⟨_, hns.at (fun o q => (gk d M.dne).trans q), fun f => relO_bad rv f⟩
    have J : Inv X pins σ (upd H1 d (.xd [(("place" : Str), v)])) ⟨G', g, dr, tk', os⟩ := I1.laid (t' := tk') old M.dbig ob
    refine ⟨e, oe, fv, ⟨G', g, dr, tk', os⟩, _, .ref C, some d, rfl, J, fun b o q => ?_, ge, hoe, ⟨hc, hd⟩, hdat, h1, ?_, rfl, I1.bare, raises_own T.exC T.tyC, q1 d (I1.hok.fresh M.dbig)⟩
    · by_cases hb : b = e
      · have q' : G'.get? b = some o := q
        rw [hb, ge] at q'; cases q'
      · exact (gk b hb).symm.trans q
    · rw [upd_ne (Ne.symm M.dne)]
      exact I1.hok.fresh M.new
/-- raise BadText(e) -/
def tRaiseBad (C : Addr) (W : WX) (ta : TA) : TS := fun _ σ H => tMkBad C ta σ H fun cls d H' => W cls d σ H'
theorem ps_raiseBad {a : Expr} {ta : TA} {W : WX} {p pos pos2 : Pos} {k : Nat} (hc : X.calm = true) (T : BadTxt X.prog X.K X.mg C fI) (hr : Room k X.A) (tk : Takes X W) (ha : PA X [a] ta) (hg : Gl X "BadText" := by rfl)
    (he : starEach (a :: []) X.env = (false, eval a X.env) :: starEach [] X.env := by rfl) (hpl : (backTo pos (starEach [] X.env)).any (·.1) = false := by rfl) :
    PS X (.Raise (some (.Call (.Name "BadText" p) [a] [] pos)) none pos2) (tRaiseBad C W ta) := ps_raise hc tk (pmk_bad T hr ha hg he hpl)
/-- e.place, e the exception that the suite holds (at a; its class cls, its dict d) -/
def tByPlace (C : Addr) (a : Addr) (cls : Value) (d : Option Addr) (te : TE) : TE := fun σ H Q => te σ H fun x H1 => x = .ref a ∧ cls = .ref C ∧ ∃ (dd : Addr) (v : V), d = some dd ∧ H1 dd = some (.xd [(("place" : Str), v)]) ∧ Q v H1
theorem pe_byPlace {a : Addr} {oe : Obj} {cls : Value} {d : Option Addr} {pn : List (Addr × Obj)} {e : Expr} {te : TE} {pos : Pos} (T : BadTxt X.prog X.K X.mg C fI) (hz : Zc cls d oe) (hf : ∃ vs, oe.data = .fields vs) (he : PE (X.suite a ((a, oe) :: pn)) e te)
    (hb : attributeBase e "place" X.env (eval e X.env) = eval e X.env := by rfl) :
    PE (X.suite a ((a, oe) :: pn)) (.Attribute e "place" pos) (tByPlace C a cls d te) := by
  refine ⟨fun pins s σ H Q I h => ?_⟩
  refine attr_of hb (thn (he.run pins s σ H _ I h) fun u s1 hh => ?_)
  obtain ⟨x, H1, I1, rx, ex, ec, dd, v, ed, ea, q⟩ := hh
  subst ex
  obtain rfl : u = Value.ref a := rx
  subst ec
  subst ed
  obtain ⟨ha, _⟩ := I1.pin (a, oe) (List.mem_append_left _ List.mem_cons_self)
  obtain ⟨vs, hd⟩ := hf
  have hx : ObjOk X.prog X.w H1 s1.heap dd (.xd [(("place" : Str), v)]) := I1.hok dd _ ea
  obtain ⟨mA, hns, hr⟩ := hx
  obtain ⟨od, ho, hl⟩ := lookIn_ns hns
  have l : List.lookup ("place" : Str) [(("place" : Str), v)] = some v := by simp [List.lookup]
  obtain ⟨u, hu, ru⟩ := RelO.some_of (v := v) (o := mA "place") (by rw [← l]; exact hr "place")
  have J : PySem.W.InstAt s1.heap a oe C (some od) := ⟨ha, hz.1, by unfold PySem.W.notCls; rw [hd] <;> rfl, by rw [hz.2]; exact ho⟩
  exact HandSPX.exc_get I1.kIn J T.ga T.gg T.exC (PySem.W.findObj_own T.hdC T.noN rfl (by rw [hl, hu])) (handed_of ru) ⟨v, H1, I1.tok _, ru, q⟩
end
end K28

/-! K28R: further rules: an own error without arguments; `except X as e` ahead of further clauses; == with a whole number; text * number; text[::-1]. -/
namespace K28
open PySem PySem.Spec PyProof.Rows L2
section
variable {X : Cx} {C : Addr} {bmB : List Value} {B newId initId : String}
/-- X(), X an own exception class without own __init__ -/
theorem pmk_own0 {x : Str} {p pos : Pos} (F : ExcBaseFacts B newId initId bmB) (q : PySem.W.excIn X.K C bmB newId = true) (gC : X.mg x = some (.ref C)) (kC : PySem.W.keepIn X.K (.ref C) = true) (r : Raises X (.ref C)) (hg : Gl X x)
    (hdb : (x == ("__debug__" : Str)) = false := by decide) : PMk X (.Call (.Name x p) [] [] pos) (fun _ H Q => Q (.ref C) none H) := by
  intro pins s σ H Q I h
  refine wpAny_Call_Name_kw (ld_glob I hg gC ?_ hdb)
  refine PySem.W.callWith_K0 I.kIn kC ?_
  show wpAny _ _ (call (.ref C) []) _ _ _
  obtain ⟨bm, N, nm, qn, bs, hdct, sn, sub, ab, col, dd, k0, k1, k2, k3, k5, mN, hC, hN, hni, T⟩ := exc_obj I.kIn q
  exact wpAny_call_exc_subT F T hC hN hni (fun h' e hm => mk_of I hm r h (I.hok.gone hm.new)) (Nat.zero_le _)
end

/-! ### try: .. except X as n: .. except ..: .. where the first clause takes what the body lets out -/
/-- what the first clause wishes -/
def wAs1 (K : PySem.W.Frag) (c : Value) (i : Nat) (ts : Addr → Value → Option Addr → TS) (D : Ends) : WX := fun cls d σ H =>
  PySem.W.exmOne K cls c = some true ∧ ∀ a, H a = none → ts a cls d { nx := fun τ J => D.nx (τ.set i none) J, rt := D.rt, bk := fun τ J => D.bk (τ.set i none) J, ct := fun τ J => D.ct (τ.set i none) J } (σ.set i (some (.ref a))) H
section
variable {X : Cx} {x n : Str} {c : Value} {i : Nat} {body suite : List Stmt} {b₀ : Stmt} {np pos pos' : Pos} {hds : List ExceptHandler} {tb : WX → TS} {ts : Addr → Value → Option Addr → TS}
theorem ps_try_as1 (hs : X.stack = X.env :: X.outer) (hf : X.env.frame = some X.env.locals) (hN : X.N.Nodup) (hi : X.N[i]? = some n) (hln : X.env.kindOf n = some .local) (hc : Names X x c)
    (hb : ∀ (W : WX) (pn : List (Addr × Obj)) (xe : Value → Shared → Prop), Takes (X.tr pn xe) W → PassesOwn (model X.prog X.w) X.A X.env xe → PSs (X.tr pn xe) body (tb W))
    (hsu : ∀ (a : Addr) (oe : Obj) (cls : Value) (d : Option Addr) (pn : List (Addr × Obj)), Zc cls d oe → (∃ vs, oe.data = .fields vs) → PSs (X.suite a ((a, oe) :: pn)) (b₀ :: suite) (ts a cls d)) :
    PS X (.Try body (.ExceptHandler (some (.Name x np)) (some n) (b₀ :: suite) pos' :: hds) [] [] pos) (fun D σ H => tb (wAs1 X.K c i ts D) D σ H) := by
  constructor
  intro pins s σ H D I h
  have ok := I.ok
  have frames : X.A.frames = some (X.env :: X.outer) := ok.frames.trans (congrArg some hs)
  apply wpAny_Try_except
  have body_run := (hb (wAs1 X.K c i ts D) (X.pn ++ pins) (fun e s₁ => wpAny (model X.prog X.w) X.A (noteFrame e X.env) (fun _ s₂ => wpAny (model X.prog X.w) X.A (setFlight e none)
    (fun _ s₃ => wpAny (model X.prog X.w) X.A (handleBy e X.env (.ExceptHandler (some (.Name x np)) (some n) (b₀ :: suite) pos' :: hds)) (SP X pins D) X.xe s₃) X.xe s₂) X.xe s₁) ?takes PassesOwn.looking).run [] s σ H D (I.toTry _) h
  case takes =>
    intro u s' xx
    obtain ⟨a, BB, sI, pins', σ', H', cls, d, rfl, J', nb, up, sky, na, os, ag, hb1, hyes⟩ := xx
    have J : Inv X pins σ' H' sI := J'.ofTry ok
    have sky' : Sky BB (X.env :: X.outer) a (Zc cls d) X.env.locals s'.heap := hs ▸ sky
    show wpAny _ _ (noteFrame (.ref a) X.env) _ _ _
    refine Sky.land Zc.steady frames hf sky' fun h3 fl3 up3 => ?_
    have J3 : Inv X pins σ' H' { s' with heap := h3 } := J.landed nb fl3.1 (up.trans up3) os ag
    obtain ⟨oe3, vs3, he3, hz3, hd3⟩ := fl3.there
    have nfr : a ∉ frs (X.env :: X.outer) := by
      intro hm
      obtain ⟨_, o', e', hnf⟩ := fl3.2.2.1.mem hm
      rw [he3] at e'
      cases e'
      exact hnf _ hd3
    have nL : a ≠ X.env.locals := by
      intro z
      exact nfr (List.mem_filterMap.mpr ⟨X.env, List.mem_cons_self, hf.trans (congrArg some z.symm)⟩)
    have nF : a ∉ X.fs := by
      intro hm
      obtain ⟨e, he, q⟩ := List.mem_filterMap.mp hm
      exact nfr (List.mem_filterMap.mpr ⟨e, List.mem_cons_of_mem _ he, q⟩)
    have S3 := J3.suite he3 hd3 na nL nF
    refine wpAny_handleBy_cons (codeAny_handlers_test ?_) (by intro q; cases q)
    have LT : PySem.W.Looks (model X.prog X.w) h3 (typeOf (.ref a)) cls := by
      intro A Q E s k q
      refine wpAny_typeOf_ref (k _ _ he3) ?_
      rw [hz3.1]
      exact q
    have LM := PySem.W.exm_one (M := model X.prog X.w) J3.kIn LT hb1
    have test : ∀ {Q : Value → Shared → Prop} {E : Value → Shared → Prop}, Q c { s' with heap := h3 } → wpAny (model X.prog X.w) (X.A.mark (some (.ref a))) (eval (.Name x np) X.env) Q E { s' with heap := h3 } := by
      intro Q E q
      obtain ⟨hg, hdbg, hm | ⟨hm, hv, hnn⟩⟩ := hc
      · exact ld_glob (X := X.suite a ((a, oe3) :: (X.pn ++ pins))) S3 hg hm q hdbg
      · exact ld_blt (X := X.suite a ((a, oe3) :: (X.pn ++ pins))) S3 hg hm hv q hnn hdbg
    refine test (LM.here (codeAny_handlers_suite_as (HandSPX.lands_againZ fl3 fun h4 fl4 up4 => ?_)))
    have J4 : Inv X pins σ' H' { s' with heap := h4 } := J.landed nb fl4.1 ((up.trans up3).trans up4) os ag
    obtain ⟨oe4, vs4, he4, hz4, hd4⟩ := fl4.there
    have S4 := J4.suite he4 hd4 na nL nF
    refine store_ok (X := X.suite a ((a, oe4) :: (X.pn ++ pins))) (v := .ref a) S4 hN hi (.inl hln) rfl (fun s5 S5 => ?_) (.inr hln)
    refine wpAny_mono ((hsu a oe4 cls d (X.pn ++ pins) hz4 ⟨_, hd4⟩).run [] s5 _ H' _ S5 (hyes a na)) (fun f s6 hsp => ?_) (fun _ _ z => z.elim)
    have gone : ∀ {σ6 : L2.St} {H6 : Hp} {Q : Shared → Prop}, Inv (X.suite a ((a, oe4) :: (X.pn ++ pins))) [] σ6 H6 s6 → (∀ s7, Inv X pins (σ6.set i none) H6 s7 → Q s7) →
        wpAny (model X.prog X.w) X.A (do bindName X.env n .none; unbindBehindTheSuite X.env n pos') (fun _ s7 => Q s7) X.xe s6 := by
      intro σ6 H6 Q S6 hq
      exact gone_ok (S6.unsuite ok) hN hi hln hq
    cases f with
    | next =>
      obtain ⟨_, _, S6, q6⟩ := hsp
      exact gone S6 fun _ J7 => ⟨_, _, J7, q6⟩
    | brk =>
      obtain ⟨_, _, S6, q6⟩ := hsp
      exact gone S6 fun _ J7 => ⟨_, _, J7, q6⟩
    | cont =>
      obtain ⟨_, _, S6, q6⟩ := hsp
      exact gone S6 fun _ J7 => ⟨_, _, J7, q6⟩
    | ret u =>
      obtain ⟨_, _, _, S6, r6, q6⟩ := hsp
      exact gone S6 fun _ J7 => ⟨_, _, _, J7, r6, q6⟩
  refine wpAny_mono body_run (fun f s1 hsp => ?_) (fun e s1 he => he)
  cases f with
  | ret u =>
    obtain ⟨_, _, _, J', r, q⟩ := hsp
    exact ⟨_, _, _, J'.ofTry ok, r, q⟩
  | next =>
    obtain ⟨_, _, J', q⟩ := hsp
    exact wpAny_execs_nil ⟨_, _, J'.ofTry ok, q⟩
  | cont =>
    obtain ⟨_, _, J', q⟩ := hsp
    exact ⟨_, _, J'.ofTry ok, q⟩
  | brk =>
    obtain ⟨_, _, J', q⟩ := hsp
    exact ⟨_, _, J'.ofTry ok, q⟩
end

/-! ### == with a whole number -/
section
variable {M : Model} {A : Around} {E : Value → Shared → Prop} {s : Shared}
theorem dict_eq_int (l : Addr) (es : Array DictEntry) (n : Nat) (dd : Option Addr) (sl : Array (Option Value)) (b : Int) (u : Tok) :
    Meets (Builtin.«dict.__eq__» ⟨[.ref l, .int b u], []⟩) (fun _ R s => s.heap.get? l = some { cls := .type "dict", dict := dd, data := .dict es n, slots := sl } ∧ R (.ok (.ret .notImplemented)) s) :=
  .of_wp fun prog w A R s h => by
    obtain ⟨hp, g, d, tk, os⟩ := s
    obtain ⟨hl, h⟩ := h
    have f1 := F.sub_int_dict
    wp_walk using wpAny_loadPart' hl
    exact ⟨_, rfl, h⟩
theorem int_eq_dict (b : Int) (u : Tok) (l : Addr) (es : Array DictEntry) (n : Nat) (dd : Option Addr) (sl : Array (Option Value)) :
    Meets (Builtin.«int.__eq__» ⟨[.int b u, .ref l], []⟩) (fun _ R s => s.heap.get? l = some { cls := .type "dict", dict := dd, data := .dict es n, slots := sl } ∧ R (.ok (.ret .notImplemented)) s) :=
  .of_wp fun prog w A R s h => by
    obtain ⟨hp, g, d, tk, os⟩ := s
    obtain ⟨hl, h⟩ := h
    wp_walk using wpAny_loadPart' hl, wpAny_load hl
    exact ⟨_, rfl, h⟩
theorem rc_dict_int {l : Addr} {es : Array DictEntry} {n : Nat} {dd : Option Addr} {sl : Array (Option Value)} (b : Int) (u : Tok) (ho : s.heap.get? l = some { cls := .type "dict", dict := dd, data := .dict es n, slots := sl }) (hu : A.units < cLine) :
    SeqAt.RcAt A s (.ref l) (.int b u) false := fun prog w E Q h => by
  have t1 : s.TypeIs (.ref l) "dict" := ⟨_, ho, rfl⟩
  refine SeqAt.rc_eq_decline_or (k := false) t1 (typeIs_int s b u) (by decide) F.sub_int_dict F.slot_dict_eq F.slot_int_eq_refl (fun _ hq => ?_) (fun _ hq => ?_) (fun _ hq => wpAny_of_eq (rfl : isSame (.ref l) (.int b u) = pure false) hq) (.inr hu) h
  · exact call_meets F.slot_dict_eq t1 F.entry_dict_eq (F.args_dict_eq_2 _ _) (dict_eq_int l es n dd sl b u) ⟨ho, hq⟩
  · exact call_meets F.slot_int_eq_refl (typeIs_int s b u) F.entry_int_eq (F.args_int_eq_2 _ _) (int_eq_dict b u l es n dd sl) ⟨ho, hq⟩
end
/-- what x == 0 tells -/
inductive IsZ (K : PySem.W.Frag) (H : Hp) : V → Bool → Prop where
  | int (i : Int) : IsZ K H (.int i) (i == 0)
  | str (z : Str) : IsZ K H (.str z) false
  | lst {p : Addr} {xs : List V} : SqL K H p xs → IsZ K H (.ref p) false
  | tup {p : Addr} {xs : List V} : SqT K H p xs → IsZ K H (.ref p) false
  | dct {p : Addr} {kvs : List (Key × V)} : H p = some (.dK kvs) → IsZ K H (.ref p) false
theorem op_eqZ {X : Cx} (hu : X.A.units + 1 < cLine) : OpR X (compareOp .Eq) (fun x y H Q => ∃ b, y = .int 0 ∧ IsZ X.K H x b ∧ Q (.bl b) H) := by
  intro pins s σ H x y v u Q I rx ry h
  obtain ⟨b, rfl, hz, q⟩ := h
  obtain ⟨t, rfl⟩ := ry
  show wpAny _ _ (richCompare .Eq v (.int 0 t)) _ _ _
  have hu' : X.A.units < cLine := by omega
  cases hz with
  | int i =>
    obtain ⟨t', rfl⟩ := rx
    exact SeqAt.RcAt.int_int i t' 0 t _ _ _ _ ⟨.bl _, H, I, rfl, q⟩
  | str z =>
    obtain ⟨t', rfl⟩ := rx
    exact SeqAt.RcAt.str_int z t' 0 t _ _ _ _ ⟨.bl _, H, I, rfl, q⟩
  | lst hs =>
    cases rx
    obtain ⟨its, rv, pl, _⟩ := I.list hs
    exact SeqAt.RcAt.list_int 0 t pl.isList hu' _ _ _ _ ⟨.bl _, H, I, rfl, q⟩
  | tup hs =>
    cases rx
    obtain ⟨its, rv, pl, _⟩ := I.tuple hs
    exact SeqAt.RcAt.tuple_int 0 t pl hu' _ _ _ _ ⟨.bl _, H, I, rfl, q⟩
  | @dct p kvs hd =>
    cases rx
    obtain ⟨_, _, vs, _, o, es, ep, h1, h2, h3, _⟩ := (show ObjOk X.prog X.w H s.heap p (.dK kvs) from I.hok p _ hd)
    obtain ⟨oc, od, oda, osl⟩ := o
    obtain ⟨c1, c2⟩ := h2
    dsimp only at c1 h3
    subst c1 h3
    exact rc_dict_int 0 t h1 hu' _ _ _ _ ⟨.bl _, H, I, rfl, q⟩

/-! ### text * number, text[::-1] -/
theorem op_mulS {X : Cx} : OpR X (binaryOp .Mult) (fun x y H Q => ∃ z n, x = .str z ∧ y = .int n ∧ MulOk z n ∧ Q (.str (Txt.mul z n)) H) := by
  intro pins s σ H x y v u Q I rx ry h
  obtain ⟨z, n, rfl, rfl, hm, q⟩ := h
  obtain ⟨t, rfl⟩ := rx
  obtain ⟨t', rfl⟩ := ry
  exact SB.mul hm fun t2 k => ⟨.str _, H, I.tok k, ⟨t2, rfl⟩, q⟩
def tRevS (te : TE) : TE := fun σ H Q => te σ H fun x H1 => ∃ z, x = .str z ∧ z.length ≤ sizeLine ∧ ∀ z' : Str, z'.length = z.length → Q (.str z') H1
theorem pe_revS {X : Cx} {e : Expr} {te : TE} {k : Nat} {p1 p2 p3 pos : Pos} (he : PE X e te) : PE X (.Subscript e (.Slice none none (some (.UnaryOp .USub (.Constant (.int 1) k p1) p2)) p3) pos) (tRevS te) := by
  constructor
  intro pins s σ H Q I h
  refine Subscript_ (thn (he.run pins s σ H _ I h) fun v s1 hh => ?_)
  obtain ⟨x, H1, I1, r1, z, ex, hz, q⟩ := hh
  subst ex
  obtain ⟨tz, rfl⟩ := r1
  have back : PO X (some (.UnaryOp .USub (.Constant (.int 1) k p1) p2)) (tPart (tUn (rU fun i => .int (-i)) (tC (.int 1)))) := po_some (pe_un un_neg pe_int)
  refine wpAny_Slice (thn (po_none.run pins s1 σ H1 (fun o J => o = none ∧ J = H1) I1 ⟨rfl, rfl⟩) fun vl s2 h2 => ?_)
  obtain ⟨_, _, I2, pl, rfl, rfl⟩ := h2
  refine thn (po_none.run pins s2 σ _ (fun o J => o = none ∧ J = _) I2 ⟨rfl, rfl⟩) fun vu s3 h3 => ?_
  obtain ⟨_, _, I3, pu, rfl, rfl⟩ := h3
  refine thn (back.run pins s3 σ _ (fun o J => o = some (-1) ∧ J = _) I3 ⟨1, rfl, -1, rfl, rfl, rfl⟩) fun vs s4 h4 => ?_
  obtain ⟨_, H4, I4, ps, rfl, rfl⟩ := h4
  cases pl
  cases pu
  cases ps with
  | int _ tk =>
    have I5 : Inv X pins σ H4 { s4 with heap := s4.heap.push { cls := .type "slice", data := .fields #[Value.none, Value.none, Value.int (-1) tk] } } := I4.kept (t' := s4.toks) fun b ob q => Heap.get?_push_of_some _ q
    show wpAny (model X.prog X.w) X.A (subscriptTail e _ (.str z tz) (.ref s4.heap.objs.size)) _ _ _
    refine tail_any (ops := [.str z tz, .ref s4.heap.objs.size]) (typeIs_str _ _ _) (F.slot_str_getitem.lookup) ?_ (by with_unfolding_all rfl)
    refine wpAny_getItem_str_slice (l := none) (u := none) (st := some (-1, tk)) ⟨_, Heap.get?_push_size _ rfl, rfl, rfl⟩ (show (((-1 : Int)) == 0) = false by decide) ?_
    have hl := step_rev_len z tk
    unfold Txt.sliceBy at hl
    show Made.post (if (((some ((-1 : Int), tk)).map (·.1)).getD 1 == 1 && (slicePicked z none none (some (-1, tk))).length == z.length) = true then Made.val (.str z tz)
      else Made.str ⟨((slicePicked z none none (some (-1, tk))).filterMap (z.cps[·]?)).toArray⟩) _ _
    have nc : ¬ (((some ((-1 : Int), tk)).map (·.1)).getD 1 == 1 && (slicePicked z none none (some (-1, tk))).length == z.length) = true := by
      intro q
      have := (Bool.and_eq_true_iff.mp q).1
      exact absurd (show (((-1 : Int)) == 1) = true from this) (by decide)
    rw [if_neg nc] at hl ⊢
    exact ⟨by rw [hl]; exact hz, .str _, _, I5.tok _, ⟨_, rfl⟩, q _ hl⟩
end K28

/-! K28T (printed by gen_tx.py): the text by places; what the top has written. -/
namespace K28
open PySem L2
def topS (i : Nat) : Stmt := PySem.Challenge.pw_knownends_k28_whole_things_packed_and_re.main.body.getD i (.Pass ⟨0, 0, 0, 0⟩)
abbrev s_is_integer : Stmt := topS 5
theorem sc_is_integer : FnScope ["thing"] ["thing"] (defScope s_is_integer) := ⟨rfl, rfl, rfl, by decide +kernel, rfl, by decide +kernel, by decide +kernel⟩
abbrev s_is_sign : Stmt := topS 13
theorem sc_is_sign : FnScope ["sign"] ["sign"] (defScope s_is_sign) := ⟨rfl, rfl, rfl, by decide +kernel, rfl, by decide +kernel, by decide +kernel⟩
abbrev s_is_signs : Stmt := topS 14
theorem sc_is_signs : FnScope ["thing", "sign"] ["thing"] (defScope s_is_signs) := ⟨rfl, rfl, rfl, by decide +kernel, rfl, by decide +kernel, by decide +kernel⟩
abbrev s_is_thing : Stmt := topS 15
theorem sc_is_thing : FnScope ["thing", "deep", "item"] ["thing", "deep"] (defScope s_is_thing) := ⟨rfl, rfl, rfl, by decide +kernel, rfl, by decide +kernel, by decide +kernel⟩
abbrev s_raw_packed : Stmt := topS 16
theorem sc_raw_packed : FnScope ["thing", "sign", "item"] ["thing"] (defScope s_raw_packed) := ⟨rfl, rfl, rfl, by decide +kernel, rfl, by decide +kernel, by decide +kernel⟩
abbrev s_packed : Stmt := topS 17
theorem sc_packed : FnScope ["thing"] ["thing"] (defScope s_packed) := ⟨rfl, rfl, rfl, by decide +kernel, rfl, by decide +kernel, by decide +kernel⟩
abbrev s_unpacked : Stmt := topS 19
theorem sc_unpacked : FnScope ["text"] ["text"] (defScope s_unpacked) := ⟨rfl, rfl, rfl, by decide +kernel, rfl, by decide +kernel, by decide +kernel⟩
abbrev s_law_hand : Stmt := topS 21
theorem sc_law_hand : FnScope ["_law_script", "_law_cells", "_law_cell"] ["_law_script"] (defScope s_law_hand) := ⟨rfl, rfl, rfl, by decide +kernel, rfl, by decide +kernel, by decide +kernel⟩
abbrev s_law_draw : Stmt := topS 22
theorem sc_law_draw : FnScope ["_law_hand_here", "_law_many", "_law_cell", "_law_digit", "_law_number"] ["_law_hand_here", "_law_many"] (defScope s_law_draw) := ⟨rfl, rfl, rfl, by decide +kernel, rfl, by decide +kernel, by decide +kernel⟩
abbrev s_law_any : Stmt := topS 23
theorem sc_law_any : FnScope ["_law_hand_here", "_law_things"] ["_law_hand_here", "_law_things"] (defScope s_law_any) := ⟨rfl, rfl, rfl, by decide +kernel, rfl, by decide +kernel, by decide +kernel⟩
abbrev s_law_word : Stmt := topS 24
theorem sc_law_word : FnScope ["_law_hand_here", "_law_signs", "_law_k"] ["_law_hand_here"] (defScope s_law_word) := ⟨rfl, rfl, rfl, by decide +kernel, rfl, by decide +kernel, by decide +kernel⟩
abbrev s_law_thing : Stmt := topS 25
theorem sc_law_thing : FnScope ["_law_hand_here", "_law_deep_here", "_law_kind", "_law_k"] ["_law_hand_here", "_law_deep_here"] (defScope s_law_thing) := ⟨rfl, rfl, rfl, by decide +kernel, rfl, by decide +kernel, by decide +kernel⟩
abbrev s_law_nested : Stmt := topS 26
theorem sc_law_nested : FnScope ["_law_hand_here", "_law_many", "_law_found", "_law_k"] ["_law_hand_here", "_law_many"] (defScope s_law_nested) := ⟨rfl, rfl, rfl, by decide +kernel, rfl, by decide +kernel, by decide +kernel⟩
abbrev s_law_packed : Stmt := topS 27
theorem sc_law_packed : FnScope ["_law_thing_here", "_law_one", "_law_sign"] ["_law_thing_here"] (defScope s_law_packed) := ⟨rfl, rfl, rfl, by decide +kernel, rfl, by decide +kernel, by decide +kernel⟩
abbrev s_law_first_wrong : Stmt := topS 28
theorem sc_law_first_wrong : FnScope ["_law_text", "_law_at", "_law_deep_here", "_law_sign"] ["_law_text", "_law_at", "_law_deep_here"] (defScope s_law_first_wrong) := ⟨rfl, rfl, rfl, by decide +kernel, rfl, by decide +kernel, by decide +kernel⟩
abbrev s_law_read_string : Stmt := topS 29
theorem sc_law_read_string : FnScope ["_law_text", "_law_at", "_law_found", "_law_sign"] ["_law_text", "_law_at"] (defScope s_law_read_string) := ⟨rfl, rfl, rfl, by decide +kernel, rfl, by decide +kernel, by decide +kernel⟩
abbrev s_law_read_integer : Stmt := topS 30
theorem sc_law_read_integer : FnScope ["_law_text", "_law_at", "_law_begin", "_law_first"] ["_law_text", "_law_at"] (defScope s_law_read_integer) := ⟨rfl, rfl, rfl, by decide +kernel, rfl, by decide +kernel, by decide +kernel⟩
abbrev s_law_read_tuple : Stmt := topS 31
theorem sc_law_read_tuple : FnScope ["_law_text", "_law_at", "_law_deep_here", "_law_found", "_law_thing_here", "_law_wrong"] ["_law_text", "_law_at", "_law_deep_here"] (defScope s_law_read_tuple) := ⟨rfl, rfl, rfl, by decide +kernel, rfl, by decide +kernel, by decide +kernel⟩
abbrev s_law_unpacked : Stmt := topS 32
theorem sc_law_unpacked : FnScope ["_law_text", "_law_thing_here", "_law_at", "_law_wrong"] ["_law_text"] (defScope s_law_unpacked) := ⟨rfl, rfl, rfl, by decide +kernel, rfl, by decide +kernel, by decide +kernel⟩
abbrev s_law_changed : Stmt := topS 33
theorem sc_law_changed : FnScope ["_law_hand_here", "_law_text", "_law_at", "_law_sign", "_law_things"] ["_law_hand_here", "_law_text"] (defScope s_law_changed) := ⟨rfl, rfl, rfl, by decide +kernel, rfl, by decide +kernel, by decide +kernel⟩
abbrev s_law_deep : Stmt := topS 34
theorem sc_law_deep : FnScope ["_law_hand_here", "_law_found", "_law_turn"] ["_law_hand_here"] (defScope s_law_deep) := ⟨rfl, rfl, rfl, by decide +kernel, rfl, by decide +kernel, by decide +kernel⟩
abbrev s_law_told : Stmt := topS 35
theorem sc_law_told : FnScope ["_law_text", "_law_told_here", "e"] ["_law_text"] (defScope s_law_told) := ⟨rfl, rfl, rfl, by decide +kernel, rfl, by decide +kernel, by decide +kernel⟩
abbrev s_law_is_none : Stmt := topS 36
theorem sc_law_is_none : FnScope ["_law_thing_here", "_law_told_here", "e"] ["_law_thing_here"] (defScope s_law_is_none) := ⟨rfl, rfl, rfl, by decide +kernel, rfl, by decide +kernel, by decide +kernel⟩
abbrev s_law_is_plain : Stmt := topS 37
theorem sc_law_is_plain : FnScope ["_law_thing_here"] ["_law_thing_here"] (defScope s_law_is_plain) := ⟨rfl, rfl, rfl, by decide +kernel, rfl, by decide +kernel, by decide +kernel⟩
abbrev s_law : Stmt := topS 38
theorem sc_law : FnScope ["_law_script", "_law_hand_here", "_law_turn", "_law_thing_here", "_law_text", "_law_again", "_law_bent", "_law_odd", "_law_wrong", "_law_long"] ["_law_script"] (defScope s_law) := ⟨rfl, rfl, rfl, by decide +kernel, rfl, by decide +kernel, by decide +kernel⟩
abbrev sR_init : Stmt := inClass (topS 18) 0
theorem scR_init : FnScope ["self", "text"] ["self", "text"] (defScope sR_init) := ⟨rfl, rfl, rfl, by decide +kernel, rfl, by decide +kernel, by decide +kernel⟩
abbrev sR_wrong : Stmt := inClass (topS 18) 1
theorem scR_wrong : FnScope ["self"] ["self"] (defScope sR_wrong) := ⟨rfl, rfl, rfl, by decide +kernel, rfl, by decide +kernel, by decide +kernel⟩
abbrev sR_sign : Stmt := inClass (topS 18) 2
theorem scR_sign : FnScope ["self"] ["self"] (defScope sR_sign) := ⟨rfl, rfl, rfl, by decide +kernel, rfl, by decide +kernel, by decide +kernel⟩
abbrev sR_figures : Stmt := inClass (topS 18) 3
theorem scR_figures : FnScope ["self", "begin"] ["self"] (defScope sR_figures) := ⟨rfl, rfl, rfl, by decide +kernel, rfl, by decide +kernel, by decide +kernel⟩
abbrev sR_integer : Stmt := inClass (topS 18) 4
theorem scR_integer : FnScope ["self", "ahead", "told"] ["self"] (defScope sR_integer) := ⟨rfl, rfl, rfl, by decide +kernel, rfl, by decide +kernel, by decide +kernel⟩
abbrev sR_string : Stmt := inClass (topS 18) 5
theorem scR_string : FnScope ["self", "found"] ["self"] (defScope sR_string) := ⟨rfl, rfl, rfl, by decide +kernel, rfl, by decide +kernel, by decide +kernel⟩
abbrev sR_plain : Stmt := inClass (topS 18) 6
theorem scR_plain : FnScope ["self"] ["self"] (defScope sR_plain) := ⟨rfl, rfl, rfl, by decide +kernel, rfl, by decide +kernel, by decide +kernel⟩
abbrev sR_enter : Stmt := inClass (topS 18) 7
theorem scR_enter : FnScope ["self"] ["self"] (defScope sR_enter) := ⟨rfl, rfl, rfl, by decide +kernel, rfl, by decide +kernel, by decide +kernel⟩
abbrev sR_read : Stmt := inClass (topS 18) 8
theorem scR_read : FnScope ["self", "told"] ["self"] (defScope sR_read) := ⟨rfl, rfl, rfl, by decide +kernel, rfl, by decide +kernel, by decide +kernel⟩
/-- a def of the module as the top has left it -/
structure Df (K : PySem.W.Frag) (mg : Str → Option Value) (x : Str) (st : Stmt) (ps : List Str) (f : Addr) (fd : FuncData) : Prop where
  F : Fun K x x st f fd
  b : Binds K fd ps []
  m : mg x = some (.ref f)
/-- a method of Reader -/
structure Mf (K : PySem.W.Frag) (C : Addr) (x qual : Str) (st : Stmt) (ps : List Str) (f : Addr) (fd : FuncData) : Prop where
  F : Fun K x qual st f fd
  b : Binds K fd ps []
  m : Meth K C x f
structure Tx (P : Program) (K : PySem.W.Frag) (mg : Str → Option Value) where
  f_is_integer : Addr
  d_is_integer : FuncData
  is_integer : Df K mg "is_integer" s_is_integer ["thing"] f_is_integer d_is_integer
  f_is_sign : Addr
  d_is_sign : FuncData
  is_sign : Df K mg "is_sign" s_is_sign ["sign"] f_is_sign d_is_sign
  f_is_signs : Addr
  d_is_signs : FuncData
  is_signs : Df K mg "is_signs" s_is_signs ["thing"] f_is_signs d_is_signs
  f_is_thing : Addr
  d_is_thing : FuncData
  is_thing : Df K mg "is_thing" s_is_thing ["thing", "deep"] f_is_thing d_is_thing
  f_raw_packed : Addr
  d_raw_packed : FuncData
  raw_packed : Df K mg "raw_packed" s_raw_packed ["thing"] f_raw_packed d_raw_packed
  f_packed : Addr
  d_packed : FuncData
  packed : Df K mg "packed" s_packed ["thing"] f_packed d_packed
  f_unpacked : Addr
  d_unpacked : FuncData
  unpacked : Df K mg "unpacked" s_unpacked ["text"] f_unpacked d_unpacked
  f_law_hand : Addr
  d_law_hand : FuncData
  law_hand : Df K mg "_law_hand" s_law_hand ["_law_script"] f_law_hand d_law_hand
  f_law_draw : Addr
  d_law_draw : FuncData
  law_draw : Df K mg "_law_draw" s_law_draw ["_law_hand_here", "_law_many"] f_law_draw d_law_draw
  f_law_any : Addr
  d_law_any : FuncData
  law_any : Df K mg "_law_any" s_law_any ["_law_hand_here", "_law_things"] f_law_any d_law_any
  f_law_word : Addr
  d_law_word : FuncData
  law_word : Df K mg "_law_word" s_law_word ["_law_hand_here"] f_law_word d_law_word
  f_law_thing : Addr
  d_law_thing : FuncData
  law_thing : Df K mg "_law_thing" s_law_thing ["_law_hand_here", "_law_deep_here"] f_law_thing d_law_thing
  f_law_nested : Addr
  d_law_nested : FuncData
  law_nested : Df K mg "_law_nested" s_law_nested ["_law_hand_here", "_law_many"] f_law_nested d_law_nested
  f_law_packed : Addr
  d_law_packed : FuncData
  law_packed : Df K mg "_law_packed" s_law_packed ["_law_thing_here"] f_law_packed d_law_packed
  f_law_first_wrong : Addr
  d_law_first_wrong : FuncData
  law_first_wrong : Df K mg "_law_first_wrong" s_law_first_wrong ["_law_text", "_law_at", "_law_deep_here"] f_law_first_wrong d_law_first_wrong
  f_law_read_string : Addr
  d_law_read_string : FuncData
  law_read_string : Df K mg "_law_read_string" s_law_read_string ["_law_text", "_law_at"] f_law_read_string d_law_read_string
  f_law_read_integer : Addr
  d_law_read_integer : FuncData
  law_read_integer : Df K mg "_law_read_integer" s_law_read_integer ["_law_text", "_law_at"] f_law_read_integer d_law_read_integer
  f_law_read_tuple : Addr
  d_law_read_tuple : FuncData
  law_read_tuple : Df K mg "_law_read_tuple" s_law_read_tuple ["_law_text", "_law_at", "_law_deep_here"] f_law_read_tuple d_law_read_tuple
  f_law_unpacked : Addr
  d_law_unpacked : FuncData
  law_unpacked : Df K mg "_law_unpacked" s_law_unpacked ["_law_text"] f_law_unpacked d_law_unpacked
  f_law_changed : Addr
  d_law_changed : FuncData
  law_changed : Df K mg "_law_changed" s_law_changed ["_law_hand_here", "_law_text"] f_law_changed d_law_changed
  f_law_deep : Addr
  d_law_deep : FuncData
  law_deep : Df K mg "_law_deep" s_law_deep ["_law_hand_here"] f_law_deep d_law_deep
  f_law_told : Addr
  d_law_told : FuncData
  law_told : Df K mg "_law_told" s_law_told ["_law_text"] f_law_told d_law_told
  f_law_is_none : Addr
  d_law_is_none : FuncData
  law_is_none : Df K mg "_law_is_none" s_law_is_none ["_law_thing_here"] f_law_is_none d_law_is_none
  f_law_is_plain : Addr
  d_law_is_plain : FuncData
  law_is_plain : Df K mg "_law_is_plain" s_law_is_plain ["_law_thing_here"] f_law_is_plain d_law_is_plain
  f_law : Addr
  d_law : FuncData
  law : Df K mg "law" s_law ["_law_script"] f_law d_law
  C : Addr
  fI : Addr
  dI : FuncData
  rInit : Fun K "__init__" "Reader.__init__" sR_init fI dI
  bInit : Binds K dI ["self", "text"] []
  mkR : Mk K C fI
  cl : Cls K C
  n_text : NoAttr K C "text"
  n_place : NoAttr K C "place"
  n_levels : NoAttr K C "levels"
  gC : mg "Reader" = some (.ref C)
  fR_wrong : Addr
  dR_wrong : FuncData
  r_wrong : Mf K C "wrong" "Reader.wrong" sR_wrong ["self"] fR_wrong dR_wrong
  fR_sign : Addr
  dR_sign : FuncData
  r_sign : Mf K C "sign" "Reader.sign" sR_sign ["self"] fR_sign dR_sign
  fR_figures : Addr
  dR_figures : FuncData
  r_figures : Mf K C "figures" "Reader.figures" sR_figures ["self"] fR_figures dR_figures
  fR_integer : Addr
  dR_integer : FuncData
  r_integer : Mf K C "integer" "Reader.integer" sR_integer ["self"] fR_integer dR_integer
  fR_string : Addr
  dR_string : FuncData
  r_string : Mf K C "string" "Reader.string" sR_string ["self"] fR_string dR_string
  fR_plain : Addr
  dR_plain : FuncData
  r_plain : Mf K C "plain" "Reader.plain" sR_plain ["self"] fR_plain dR_plain
  fR_enter : Addr
  dR_enter : FuncData
  r_enter : Mf K C "enter_tuples" "Reader.enter_tuples" sR_enter ["self"] fR_enter dR_enter
  fR_read : Addr
  dR_read : FuncData
  r_read : Mf K C "read" "Reader.read" sR_read ["self"] fR_read dR_read
  z_isinstance : mg "isinstance" = none
  z_int : mg "int" = none
  z_bool : mg "bool" = none
  z_str : mg "str" = none
  z_tuple : mg "tuple" = none
  z_all : mg "all" = none
  z_len : mg "len" = none
  z_abs : mg "abs" = none
  z_range : mg "range" = none
  g_MOST_DEEP : ∃ t, mg "MOST_DEEP" = some (.int 30 t)
  g_MOST_DIGITS : ∃ t, mg "MOST_DIGITS" = some (.int 30 t)
  g_GREATEST : ∃ t, mg "GREATEST" = some (.int 999999999999999999999999999999 t)
  g_FIGURES : ∃ t, mg "FIGURES" = some (.str "0123456789" t)
  g_QUOTE : ∃ t, mg "QUOTE" = some (.str "'" t)
  g_ESCAPE : ∃ t, mg "ESCAPE" = some (.str "~" t)
  CB : Addr
  fB : Addr
  bad : BadTxt P K mg CB fB
  CN : Addr
  CK : Addr
  gN : mg "NoThing" = some (.ref CN)
  gK : mg "KnownError" = some (.ref CK)
  xN : PySem.W.excIn K CN [.type "ValueError", .type "Exception", .type "BaseException", .type "object"] "ValueError.__new__" = true
  kN : PySem.W.keepIn K (.ref CN) = true
  eN : PySem.W.subIn K (.ref CN) (.type "BaseException") = some true
  tN : PySem.W.typeIn K (.ref CN) = some (.type "type")
  mN : PySem.W.exmOne K (.ref CN) (.ref CN) = some true
  cN : ExcC K CN
  iN : PySem.W.kitOne K (.ref CN) (.ref CK) = some true
end K28

/-! K28H: which value stands for which data in a heap. -/
namespace K28
open PySem L2
/-- tuples stay -/
def TK (H H' : Hp) : Prop := ∀ b xs, H b = some (.tup xs) → H' b = some (.tup xs)
theorem TK.refl (H : Hp) : TK H H := fun _ _ h => h
theorem TK.trans {H H1 H2 : Hp} (a : TK H H1) (b : TK H1 H2) : TK H H2 := fun c o h => b c o (a c o h)
theorem tk_of {H H' : Hp} (s : Same H H') : TK H H' := fun b xs h => s b _ h
/-- all but what stands at a stays, the tuples stay -/
structure Kp (a : Addr) (H H' : Hp) : Prop where
  keep : ∀ b o, b ≠ a → H b = some o → H' b = some o
  tups : TK H H'
theorem Kp.refl (a : Addr) (H : Hp) : Kp a H H := ⟨fun _ _ _ h => h, TK.refl H⟩
theorem Kp.trans {a : Addr} {H H1 H2 : Hp} (x : Kp a H H1) (y : Kp a H1 H2) : Kp a H H2 := ⟨fun b o n h => y.keep b o n (x.keep b o n h), x.tups.trans y.tups⟩
theorem kp_of {a : Addr} {H H' : Hp} (s : Same H H') : Kp a H H' := ⟨fun b o _ h => s b o h, tk_of s⟩
theorem same_new {H : Hp} {p : Addr} (h : H p = none) (o : HO) : Same H (upd H p o) := fun b u q => by rw [upd_ne (ne_of_none q h)]; exact q
theorem tk_upd {H : Hp} {p : Addr} {o : HO} (h : ∀ xs, H p ≠ some (.tup xs)) : TK H (upd H p o) := fun b xs q => by
  have : b ≠ p := fun e => h xs (e ▸ q)
  rw [upd_ne this]; exact q
theorem kp_upd {H : Hp} {p : Addr} {o : HO} (h : ∀ xs, H p ≠ some (.tup xs)) : Kp p H (upd H p o) := ⟨fun b u n q => by rw [upd_ne n]; exact q, tk_upd h⟩
theorem not_tup_lst {H : Hp} {p : Addr} {ys : List V} (h : H p = some (.lst ys)) : ∀ xs, H p ≠ some (.tup xs) := fun xs q => by rw [h] at q; cases q
theorem not_tup_none {H : Hp} {p : Addr} (h : H p = none) : ∀ xs, H p ≠ some (.tup xs) := fun xs q => by rw [h] at q; cases q
theorem not_tup_ins {H : Hp} {p C dx : Addr} {fs : List (Str × V)} (h : H p = some (.ins C dx fs)) : ∀ xs, H p ≠ some (.tup xs) := fun xs q => by rw [h] at q; cases q

mutual
/-- none, integers, texts, tuples of such -/
inductive Pu (H : Hp) : V → PyData → Prop
  | non : Pu H .non .none
  | int (i : Int) : Pu H (.int i) (.int i)
  | str (z : Str) : Pu H (.str z) (.str z)
  | tup {p : Addr} {xs : List V} {ds : List PyData} : H p = some (.tup xs) → PuAll H xs ds → Pu H (.ref p) (.tuple ds)
inductive PuAll (H : Hp) : List V → List PyData → Prop
  | nil : PuAll H [] []
  | cons {v : V} {vs : List V} {d : PyData} {ds : List PyData} : Pu H v d → PuAll H vs ds → PuAll H (v :: vs) (d :: ds)
end
mutual
theorem Pu.mono {H H' : Hp} (k : TK H H') : ∀ (d : PyData) (v : V), Pu H v d → Pu H' v d
  | .none, _, h => by cases h; exact .non
  | .bool _, _, h => by cases h
  | .int i, _, h => by cases h; exact .int i
  | .str z, _, h => by cases h; exact .str z
  | .list _, _, h => by cases h
  | .dict _, _, h => by cases h
  | .tuple ds, _, h => by
    cases h with
    | tup e q => exact .tup (k _ _ e) (PuAll.mono k ds _ q)
theorem PuAll.mono {H H' : Hp} (k : TK H H') : ∀ (ds : List PyData) (vs : List V), PuAll H vs ds → PuAll H' vs ds
  | [], _, h => by cases h; exact .nil
  | d :: ds, _, h => by
    cases h with
    | cons q r => exact .cons (Pu.mono k d _ q) (PuAll.mono k ds _ r)
end
theorem PuAll.length {H : Hp} : ∀ {vs : List V} {ds : List PyData}, PuAll H vs ds → vs.length = ds.length
  | [], _, h => by cases h; rfl
  | _ :: vs, _, h => by
    cases h with
    | cons _ r => simp only [List.length_cons]; rw [PuAll.length r]
theorem PuAll.snoc {H : Hp} {v : V} {d : PyData} (q : Pu H v d) : ∀ {vs : List V} {ds : List PyData}, PuAll H vs ds → PuAll H (vs ++ [v]) (ds ++ [d])
  | [], _, h => by cases h; exact .cons q .nil
  | _ :: vs, _, h => by
    cases h with
    | cons p r => exact .cons p (PuAll.snoc q r)
theorem PuAll.get {H : Hp} : ∀ {vs : List V} {ds : List PyData} {i : Nat} {v : V}, PuAll H vs ds → vs[i]? = some v → ∃ d, ds[i]? = some d ∧ Pu H v d
  | [], _, _, _, _, e => by simp at e
  | _ :: vs, _, 0, _, h, e => by
    cases h with
    | cons p r => simp at e; subst e; exact ⟨_, rfl, p⟩
  | _ :: vs, _, i + 1, _, h, e => by
    cases h with
    | cons p r =>
      obtain ⟨d, h1, h2⟩ := PuAll.get (i := i) r (by simpa using e)
      exact ⟨d, by simpa using h1, h2⟩
mutual
theorem Pu.dp {K : PySem.W.Frag} {H : Hp} : ∀ (d : PyData) (v : V), Pu H v d → Dp K H v d
  | .none, _, h => by cases h; exact .non
  | .bool _, _, h => by cases h
  | .int i, _, h => by cases h; exact .int i
  | .str z, _, h => by cases h; exact .str z
  | .list _, _, h => by cases h
  | .dict _, _, h => by cases h
  | .tuple ds, _, h => by
    cases h with
    | tup e q => exact .tup (SqT.of e) (PuAll.dp ds _ q)
theorem PuAll.dp {K : PySem.W.Frag} {H : Hp} : ∀ (ds : List PyData) (vs : List V), PuAll H vs ds → DpAll K H vs ds
  | [], _, h => by cases h; exact .nil
  | d :: ds, _, h => by
    cases h with
    | cons q r => exact .cons (Pu.dp d _ q) (PuAll.dp ds _ r)
end
mutual
/-- any data: what stands in lists and dicts is not told; none of them stands at a -/
inductive Th (a : Addr) (H : Hp) : V → PyData → Prop
  | non : Th a H .non .none
  | bl (b : Bool) : Th a H (.bl b) (.bool b)
  | int (i : Int) : Th a H (.int i) (.int i)
  | str (z : Str) : Th a H (.str z) (.str z)
  | lst {p : Addr} {xs : List V} : p ≠ a → H p = some (.lst xs) → Th a H (.ref p) (.list [])
  | dct {p : Addr} {kvs : List (Key × V)} : p ≠ a → H p = some (.dK kvs) → Th a H (.ref p) (.dict [])
  | tup {p : Addr} {xs : List V} {ds : List PyData} : H p = some (.tup xs) → ThAll a H xs ds → Th a H (.ref p) (.tuple ds)
inductive ThAll (a : Addr) (H : Hp) : List V → List PyData → Prop
  | nil : ThAll a H [] []
  | cons {v : V} {vs : List V} {d : PyData} {ds : List PyData} : Th a H v d → ThAll a H vs ds → ThAll a H (v :: vs) (d :: ds)
end
mutual
theorem Th.mono {a : Addr} {H H' : Hp} (k : Kp a H H') : ∀ (d : PyData) (v : V), Th a H v d → Th a H' v d
  | .none, _, h => by cases h; exact .non
  | .bool b, _, h => by cases h; exact .bl b
  | .int i, _, h => by cases h; exact .int i
  | .str z, _, h => by cases h; exact .str z
  | .list _, _, h => by
    cases h with
    | lst n e => exact .lst n (k.keep _ _ n e)
  | .dict _, _, h => by
    cases h with
    | dct n e => exact .dct n (k.keep _ _ n e)
  | .tuple ds, _, h => by
    cases h with
    | tup e q => exact .tup (k.tups _ _ e) (ThAll.mono k ds _ q)
theorem ThAll.mono {a : Addr} {H H' : Hp} (k : Kp a H H') : ∀ (ds : List PyData) (vs : List V), ThAll a H vs ds → ThAll a H' vs ds
  | [], _, h => by cases h; exact .nil
  | d :: ds, _, h => by
    cases h with
    | cons q r => exact .cons (Th.mono k d _ q) (ThAll.mono k ds _ r)
end
theorem ThAll.length {a : Addr} {H : Hp} : ∀ {vs : List V} {ds : List PyData}, ThAll a H vs ds → vs.length = ds.length
  | [], _, h => by cases h; rfl
  | _ :: vs, _, h => by
    cases h with
    | cons _ r => simp only [List.length_cons]; rw [ThAll.length r]
theorem ThAll.get {a : Addr} {H : Hp} : ∀ {vs : List V} {ds : List PyData} {i : Nat} {v : V}, ThAll a H vs ds → vs[i]? = some v → ∃ d, ds[i]? = some d ∧ Th a H v d
  | [], _, _, _, _, e => by simp at e
  | _ :: vs, _, 0, _, h, e => by
    cases h with
    | cons p r => simp at e; subst e; exact ⟨_, rfl, p⟩
  | _ :: vs, _, i + 1, _, h, e => by
    cases h with
    | cons p r =>
      obtain ⟨d, h1, h2⟩ := ThAll.get (i := i) r (by simpa using e)
      exact ⟨d, by simpa using h1, h2⟩
mutual
theorem Pu.th {a : Addr} {H : Hp} : ∀ (d : PyData) (v : V), Pu H v d → Th a H v d
  | .none, _, h => by cases h; exact .non
  | .bool _, _, h => by cases h
  | .int i, _, h => by cases h; exact .int i
  | .str z, _, h => by cases h; exact .str z
  | .list _, _, h => by cases h
  | .dict _, _, h => by cases h
  | .tuple ds, _, h => by
    cases h with
    | tup e q => exact .tup e (PuAll.th ds _ q)
theorem PuAll.th {a : Addr} {H : Hp} : ∀ (ds : List PyData) (vs : List V), PuAll H vs ds → ThAll a H vs ds
  | [], _, h => by cases h; exact .nil
  | d :: ds, _, h => by
    cases h with
    | cons q r => exact .cons (Pu.th d _ q) (PuAll.th ds _ r)
end
/-- the type's name -/
def tyD : PyData → String
  | .none => "NoneType"
  | .bool _ => "bool"
  | .int _ => "int"
  | .str _ => "str"
  | .list _ => "list"
  | .tuple _ => "tuple"
  | .dict _ => "dict"
theorem Th.ty {K : PySem.W.Frag} {a : Addr} {H : Hp} {v : V} {d : PyData} (h : Th a H v d) : TyX K H v (.type (tyD d)) := by
  cases h with
  | non => exact .base .non
  | bl b => exact .base (.bl b)
  | int i => exact .base (.int i)
  | str z => exact .base (.str z)
  | lst _ e => exact .base (.lst e)
  | dct _ e => exact .base (.dK e)
  | tup e _ => exact .base (.tup e)
/-- isinstance(x, int) of such data -/
def isInt : PyData → Bool
  | .none => false
  | .bool _ => true
  | .int _ => true
  | .str _ => false
  | .list _ => false
  | .tuple _ => false
  | .dict _ => false
theorem kit_int (K : PySem.W.Frag) : ∀ d : PyData, PySem.W.kitOne K (.type (tyD d)) (.type "int") = some (isInt d)
  | .none => kit_ty (show kitB "NoneType" "int" = some false by decide +kernel)
  | .bool _ => kit_ty (show kitB "bool" "int" = some true by decide +kernel)
  | .int _ => kit_ty (show kitB "int" "int" = some true by decide +kernel)
  | .str _ => kit_ty (show kitB "str" "int" = some false by decide +kernel)
  | .list _ => kit_ty (show kitB "list" "int" = some false by decide +kernel)
  | .tuple _ => kit_ty (show kitB "tuple" "int" = some false by decide +kernel)
  | .dict _ => kit_ty (show kitB "dict" "int" = some false by decide +kernel)
/-- isinstance(x, bool) of such data -/
def isBool : PyData → Bool
  | .none => false
  | .bool _ => true
  | .int _ => false
  | .str _ => false
  | .list _ => false
  | .tuple _ => false
  | .dict _ => false
theorem kit_bool (K : PySem.W.Frag) : ∀ d : PyData, PySem.W.kitOne K (.type (tyD d)) (.type "bool") = some (isBool d)
  | .none => kit_ty (show kitB "NoneType" "bool" = some false by decide +kernel)
  | .bool _ => kit_ty (show kitB "bool" "bool" = some true by decide +kernel)
  | .int _ => kit_ty (show kitB "int" "bool" = some false by decide +kernel)
  | .str _ => kit_ty (show kitB "str" "bool" = some false by decide +kernel)
  | .list _ => kit_ty (show kitB "list" "bool" = some false by decide +kernel)
  | .tuple _ => kit_ty (show kitB "tuple" "bool" = some false by decide +kernel)
  | .dict _ => kit_ty (show kitB "dict" "bool" = some false by decide +kernel)
/-- isinstance(x, str) of such data -/
def isStr : PyData → Bool
  | .none => false
  | .bool _ => false
  | .int _ => false
  | .str _ => true
  | .list _ => false
  | .tuple _ => false
  | .dict _ => false
theorem kit_str (K : PySem.W.Frag) : ∀ d : PyData, PySem.W.kitOne K (.type (tyD d)) (.type "str") = some (isStr d)
  | .none => kit_ty (show kitB "NoneType" "str" = some false by decide +kernel)
  | .bool _ => kit_ty (show kitB "bool" "str" = some false by decide +kernel)
  | .int _ => kit_ty (show kitB "int" "str" = some false by decide +kernel)
  | .str _ => kit_ty (show kitB "str" "str" = some true by decide +kernel)
  | .list _ => kit_ty (show kitB "list" "str" = some false by decide +kernel)
  | .tuple _ => kit_ty (show kitB "tuple" "str" = some false by decide +kernel)
  | .dict _ => kit_ty (show kitB "dict" "str" = some false by decide +kernel)
/-- isinstance(x, tuple) of such data -/
def isTup : PyData → Bool
  | .none => false
  | .bool _ => false
  | .int _ => false
  | .str _ => false
  | .list _ => false
  | .tuple _ => true
  | .dict _ => false
theorem kit_tuple (K : PySem.W.Frag) : ∀ d : PyData, PySem.W.kitOne K (.type (tyD d)) (.type "tuple") = some (isTup d)
  | .none => kit_ty (show kitB "NoneType" "tuple" = some false by decide +kernel)
  | .bool _ => kit_ty (show kitB "bool" "tuple" = some false by decide +kernel)
  | .int _ => kit_ty (show kitB "int" "tuple" = some false by decide +kernel)
  | .str _ => kit_ty (show kitB "str" "tuple" = some false by decide +kernel)
  | .list _ => kit_ty (show kitB "list" "tuple" = some false by decide +kernel)
  | .tuple _ => kit_ty (show kitB "tuple" "tuple" = some true by decide +kernel)
  | .dict _ => kit_ty (show kitB "dict" "tuple" = some false by decide +kernel)
end K28

/-! K28W1: is_integer, is_sign, is_signs, is_thing, raw_packed, packed. -/
namespace K28
open PySem L2
section
variable {P : Program} {w : World} {K : PySem.W.Frag} {mg : Str → Option Value} {base : Heap}
def isInteger (d : PyData) : Bool := isInt d && !isBool d
def spIsInteger (a : Addr) : Sp := fun vs H Q _ => ∃ (v : V) (d : PyData), vs = [v] ∧ Th a H v d ∧ Q (.bl (isInteger d)) H
theorem ok_is_integer (T : Tx P K mg) (a : Addr) : FnOk P w K mg base CX0 1 T.f_is_integer T.d_is_integer ["thing"] (spIsInteger a) := by
  refine T.is_integer.F.ok sc_is_integer (fun vs H Q E h => ?_) (fun cdv A outer s H vs Q E hr h => ?_)
  · obtain ⟨v, d, rfl, _⟩ := h
    rfl
  obtain ⟨v, d, rfl, hv, q⟩ := h
  have isi := @call_isi
  refine ⟨_, pss_one (ps_ret (pe_and
    (pe_callB call_isi (by rfl) T.z_isinstance (by decide +kernel) (pa_cons (pv 0) (pa_cons (pe_bltn (v := .ty "int") (by rfl) T.z_int (by decide +kernel) rfl) pa_nil)))
    (pe_one (pe_not (pe_callB call_isi (by rfl) T.z_isinstance (by decide +kernel) (pa_cons (pv 0) (pa_cons (pe_bltn (v := .ty "bool") (by rfl) T.z_bool (by decide +kernel) rfl) pa_nil))))))), ?_⟩
  refine ⟨v, rfl, v, .ty "int", _, _, _, rfl, .ty _, hv.ty, kit_int K d, _, rfl, ?_⟩
  cases hi : isInt d with
  | false =>
    refine iteF ?_
    have : isInteger d = false := by unfold isInteger; rw [hi]; rfl
    rw [this] at q
    exact q
  | true =>
    refine iteT ?_
    refine ⟨v, rfl, v, .ty "bool", _, _, _, rfl, .ty _, hv.ty, kit_bool K d, _, rfl, ?_⟩
    have : isInteger d = !isBool d := by unfold isInteger; rw [hi]; rfl
    rw [this] at q
    exact q

theorem lt_one (a b : Nat) : decide (([a] : List Nat) < [b]) = decide (a < b) := by
  have e : (([a] : List Nat) < [b]) ↔ a < b := by
    rw [List.cons_lt_cons_iff]
    constructor
    · rintro (h | ⟨_, h⟩)
      · exact h
      · exact absurd h (List.lt_irrefl _)
    · intro h; exact .inl h
  exact decide_eq_decide.mpr e
theorem not_lt_le (a b : Nat) : (!decide (a < b)) = decide (b ≤ a) := by
  rcases Nat.lt_or_ge a b with h | h
  · rw [decide_eq_true h, decide_eq_false (by omega)]; rfl
  · rw [decide_eq_true h, decide_eq_false (by omega)]; rfl
def spIsSign : Sp := fun vs H Q _ => ∃ c : Nat, vs = [.str ⟨#[c]⟩] ∧ Q (.bl (okc c)) H
theorem ok_is_sign (T : Tx P K mg) : FnOk P w K mg base CX0 1 T.f_is_sign T.d_is_sign ["sign"] spIsSign := by
  refine T.is_sign.F.ok sc_is_sign (fun vs H Q E h => ?_) (fun cdv A outer s H vs Q E hr h => ?_)
  · obtain ⟨c, rfl, _⟩ := h
    rfl
  obtain ⟨c, rfl, q⟩ := h
  refine ⟨_, pss_one (ps_ret (pe_chain op_le_str op_le_str pe_str (pv 0) pe_str)), ?_⟩
  have e1 : (!decide ((⟨#[c]⟩ : Str).cps.toList < (PySem.Str.ofString " ").cps.toList)) = decide (32 ≤ c) := by
    have e : (PySem.Str.ofString " ").cps.toList = [32] := by decide +kernel
    rw [e]
    show (!decide (([c] : List Nat) < [32])) = decide (32 ≤ c)
    rw [lt_one, not_lt_le]
  have e2 : (!decide ((PySem.Str.ofString "~").cps.toList < (⟨#[c]⟩ : Str).cps.toList)) = decide (c ≤ 126) := by
    have e : (PySem.Str.ofString "~").cps.toList = [126] := by decide +kernel
    rw [e]
    show (!decide (([126] : List Nat) < [c])) = decide (c ≤ 126)
    rw [lt_one, not_lt_le]
  refine ⟨_, rfl, _, _, rfl, rfl, _, rfl, ?_⟩
  rw [e1]
  unfold okc at q
  cases h1 : decide (32 ≤ c) with
  | false =>
    rw [h1] at q
    exact iteF q
  | true =>
    rw [h1] at q
    refine iteT ⟨_, _, rfl, rfl, ?_⟩
    rw [e2]
    exact q
def signs : PyData → Bool
  | .str z => z.cps.toList.all okc
  | .none => false
  | .bool _ => false
  | .int _ => false
  | .list _ => false
  | .tuple _ => false
  | .dict _ => false
theorem all_take (l : List Nat) (i : Nat) (c : Nat) (h : l[i]? = some c) : ((l.take i).map fun c => V.bl (okc c)) ++ [V.bl (okc c)] = (l.take (i + 1)).map fun c => V.bl (okc c) := by
  rw [List.take_add_one, h]; simp
def spIsSigns (a : Addr) : Sp := fun vs H Q _ => ∃ (v : V) (d : PyData), vs = [v] ∧ Th a H v d ∧ (∀ z, d = .str z → z.length ≤ 10000) ∧ ∀ H', Same H H' → Q (.bl (signs d)) H'
theorem ok_is_signs (T : Tx P K mg) (a : Addr) : FnOk P w K mg base CX0 2 T.f_is_signs T.d_is_signs ["thing"] (spIsSigns a) := by
  have GS := ok_is_sign (P := P) (w := w) (base := base) T
  refine T.is_signs.F.ok sc_is_signs (fun vs H Q E h => ?_) (fun cdv A outer s H vs Q E hr h => ?_)
  · obtain ⟨v, d, rfl, _⟩ := h
    rfl
  obtain ⟨v, d, rfl, hv, hz, q⟩ := h
  have nd := sc_is_signs.nd
  refine ⟨_, pss_one (ps_ret (pe_and
    (pe_callB call_isi (by rfl) T.z_isinstance (by decide +kernel) (pa_cons (pv 0) (pa_cons (pe_bltn (v := .ty "str") (by rfl) T.z_str (by decide +kernel) rfl) pa_nil)))
    (pe_one (pe_callB (cr_all rfl) (by rfl) T.z_all (by decide +kernel) (pa_cons
      (pe_lc (own := [("sign", 1)]) (g := gName 1) (tt := tYes) rfl nd (pi_str (pv 0)) (blkOk_by (own := [("sign", 1)]) (N := ["thing", "sign"]) (sc := defScope s_is_signs) (by decide +kernel))
        (fun _ _ _ _ _ => pg_name (i := 1) nd rfl (Or.inl rfl)) (fun _ _ _ _ _ => pts_nil)
        (fun _ _ _ _ _ => pe_call GS hr rfl T.is_sign.m T.is_sign.F.kp T.is_sign.b .nil pass0 (pa_cons (pv 1) pa_nil)))
      pa_nil))))), ?_⟩
  refine ⟨v, rfl, v, .ty "str", _, _, _, rfl, .ty _, hv.ty, kit_str K d, _, rfl, ?_⟩
  cases hi : isStr d with
  | false =>
    refine iteF ?_
    have : signs d = false := by cases d <;> first | rfl | cases hi
    rw [this] at q
    exact q H (Same.refl H)
  | true =>
    refine iteT ?_
    obtain ⟨z, rfl⟩ : ∃ z, d = .str z := by cases d <;> first | exact ⟨_, rfl⟩ | cases hi
    cases hv
    have hz := hz z rfl
    refine ⟨_, rfl, z, rfl, fun D hD => lc_it walk_str (fun i H' => Same H H' ∧ H' D = some (.lst ((z.cps.toList.take i).map fun c => V.bl (okc c)))) ⟨same_new hD _, by rw [upd_same]; rfl⟩ (fun _ _ _ _ => trivial) ?_ ?_⟩
    · rintro i x H1 H2 hi ⟨s1, e1⟩ ⟨rfl, c, hc, rfl⟩
      refine ⟨rfl, _, rfl, c, rfl, _, e1, ?_, ?_, ?_⟩
      · rw [List.length_map, List.length_take]
        have : min i z.cps.toList.length ≤ 1000 + 9000 := by rw [Array.length_toList]; exact Nat.le_trans (Nat.min_le_right _ _) hz
        exact Nat.lt_of_le_of_lt this (by decide)
      · intro b o e
        have : b ≠ D := fun z => by rw [z, hD] at e; cases e
        rw [upd_ne this]; exact s1 b o e
      · rw [upd_same, all_take]
        rw [← hc, Array.getElem?_toList]
    · rintro H1 ⟨s1, e1⟩
      refine ⟨D, z.cps.toList.map okc, rfl, SqL.of ?_, ?_⟩
      · rw [e1, List.take_of_length_le (by rw [Array.length_toList]; exact Nat.le_refl _), List.map_map]; rfl
      · have : (z.cps.toList.map okc).all id = signs (.str z) := by
          show _ = z.cps.toList.all okc
          rw [List.all_map]; rfl
        rw [this]
        exact q H1 s1
end
end K28

/-! K28W2: is_thing. -/
namespace K28
open PySem L2
mutual
/-- no text and no tuple is longer than ten thousand -/
def sm : PyData → Bool
  | .str z => decide (z.length ≤ 10000)
  | .tuple ds => decide (ds.length ≤ 10000) && smAll ds
  | .none => true
  | .bool _ => true
  | .int _ => true
  | .list _ => true
  | .dict _ => true
def smAll : List PyData → Bool
  | [] => true
  | d :: ds => sm d && smAll ds
end
theorem smAll_get : ∀ {ds : List PyData} {i : Nat} {d : PyData}, smAll ds = true → ds[i]? = some d → sm d = true
  | [], _, _, _, e => by simp at e
  | a :: ds, 0, d, h, e => by
    simp at e; subst e
    simp only [smAll] at h
    exact (two_and h).1
  | a :: ds, i + 1, d, h, e => by
    simp only [smAll] at h
    exact smAll_get (i := i) (two_and h).2 (by simpa using e)
theorem isThAll_map : ∀ (ds : List PyData) (n : Nat), (ds.map fun d => isTh d n).all id = isThAll ds n
  | [], _ => by simp [isThAll]
  | d :: ds, n => by
    have := isThAll_map ds n
    simp only [isThAll]
    rw [← this]; rfl
theorem map_take {α β : Type} (f : α → β) (l : List α) (i : Nat) (d : α) (h : l[i]? = some d) : ((l.take i).map f) ++ [f d] = (l.take (i + 1)).map f := by
  rw [List.take_add_one, h]; simp
theorem take_small {α β : Type} (f : α → β) (l : List α) (i : Nat) (h : l.length ≤ 10000) : ((l.take i).map f).length < sizeLine := by
  rw [List.length_map, List.length_take]
  exact Nat.lt_of_le_of_lt (Nat.le_trans (Nat.min_le_right _ _) h) (by decide)
section
variable {P : Program} {w : World} {K : PySem.W.Frag} {mg : Str → Option Value} {base : Heap}
def spIsThing (a : Addr) (N : Nat) : Sp := fun vs H Q _ => ∃ (v : V) (d : PyData) (n : Nat), vs = [v, .int (n : Int)] ∧ n < N ∧ Th a H v d ∧ sm d = true ∧ ∀ H', Same H H' → Q (.bl (isTh d n)) H'
theorem ok_is_thing_step (T : Tx P K mg) (a : Addr) {N k : Nat} (hk : 2 ≤ k) (G : FnOk P w K mg base CX0 k T.f_is_thing T.d_is_thing ["thing", "deep"] (spIsThing a N)) :
    FnOk P w K mg base CX0 (k + 1) T.f_is_thing T.d_is_thing ["thing", "deep"] (spIsThing a (N + 1)) := by
  have GI := ok_is_integer (P := P) (w := w) (base := base) T a
  have GS := ok_is_signs (P := P) (w := w) (base := base) T a
  refine T.is_thing.F.ok sc_is_thing (fun vs H Q E h => ?_) (fun cdv A outer s H vs Q E hr h => ?_)
  · obtain ⟨v, d, n, rfl, _⟩ := h
    rfl
  obtain ⟨v, d, n, rfl, hn, hv, hs, q⟩ := h
  have nd := sc_is_thing.nd
  obtain ⟨tg, hG⟩ := T.g_GREATEST
  refine ⟨_, pss_cons (ps_if (pt_val (pe_callB call_isi (by rfl) T.z_isinstance (by decide +kernel) (pa_cons (pv 0) (pa_cons (pe_bltn (v := .ty "tuple") (by rfl) T.z_tuple (by decide +kernel) rfl) pa_nil))))
      (pss_one (ps_ret (pe_and (pe_cmpR op_gt (pv 1) pe_int (nomark _)) (pe_one (pe_callB (cr_all rfl) (by rfl) T.z_all (by decide +kernel) (pa_cons
        (pe_lc (own := [("item", 2)]) (g := gName 2) (tt := tYes) rfl nd (pi_tup (pv 0)) (blkOk_by (own := [("item", 2)]) (N := ["thing", "deep", "item"]) (sc := defScope s_is_thing) (by decide +kernel))
          (fun _ _ _ _ _ => pg_name (i := 2) nd rfl (Or.inl rfl)) (fun _ _ _ _ _ => pts_nil)
          (fun _ _ _ _ _ => pe_call G hr rfl T.is_thing.m T.is_thing.F.kp T.is_thing.b .nil pass0 (pa_cons (pv 2) (pa_cons (pe_op op_sub (pv 1) pe_int) pa_nil))))
        pa_nil)))))) pss_nil)
    (pss_cons (ps_if (pt_val (pe_call GI (hr.mono (by omega)) rfl T.is_integer.m T.is_integer.F.kp T.is_integer.b .nil pass0 (pa_cons (pv 0) pa_nil)))
      (pss_one (ps_ret (pe_chain op_le op_le (pe_un un_neg (pe_glob (v := .int 999999999999999999999999999999) rfl hG ⟨_, rfl⟩)) (pv 0) (pe_glob (v := .int 999999999999999999999999999999) rfl hG ⟨_, rfl⟩)))) pss_nil)
    (pss_one (ps_ret (pe_or (pe_cmpR op_isN (pv 0) pe_non (nomark _)) (pe_one (pe_call GS (hr.mono (by omega)) rfl T.is_signs.m T.is_signs.F.kp T.is_signs.b .nil pass0 (pa_cons (pv 0) pa_nil))))))), ?_⟩
  refine ⟨v, rfl, v, .ty "tuple", _, _, _, rfl, .ty _, hv.ty, kit_tuple K d, _, rfl, ?_⟩
  cases ht : isTup d with
  | true =>
    obtain ⟨ds, rfl⟩ : ∃ ds, d = .tuple ds := by cases d <;> first | exact ⟨_, rfl⟩ | cases ht
    simp only [sm] at hs
    obtain ⟨hs1, hs2⟩ := two_and hs
    have hl : ds.length ≤ 10000 := of_decide_eq_true hs1
    cases hv with
    | @tup p xs _ ep ha =>
      refine iteT ⟨_, rfl, _, _, rfl, rfl, _, rfl, ?_⟩
      by_cases h0 : n = 0
      · subst h0
        refine iteF ?_
        have e : isTh (.tuple ds) 0 = false := by simp only [isTh]; rfl
        rw [e] at q
        exact q H (Same.refl H)
      · have e1 : decide (((n : Nat) : Int) > 0) = true := decide_eq_true (by omega)
        rw [e1]
        refine iteT ?_
        refine ⟨_, rfl, p, rfl, ⟨_, SqT.of ep⟩, fun D hD => lc_it (walk_tup (xs := xs)) (fun i H' => Same H H' ∧ H' D = some (.lst ((ds.take i).map fun d => V.bl (isTh d (n - 1))))) ⟨same_new hD _, by rw [upd_same]; rfl⟩
          (fun i H' _ h => SqT.of (h.1 _ _ ep)) ?_ ?_⟩
        · rintro i x H1 H2 hi ⟨s1, e1⟩ ⟨rfl, hx⟩
          obtain ⟨d, hd, hxd⟩ := ha.get hx
          refine ⟨rfl, _, rfl, _, rfl, _, _, rfl, rfl, x, d, n - 1, ?_, by omega, hxd.mono (kp_of s1), smAll_get hs2 hd, fun H3 s3 => ?_⟩
          · show [x, V.int ((n : Int) - 1)] = [x, V.int ((n - 1 : Nat) : Int)]
            rw [show ((n - 1 : Nat) : Int) = (n : Int) - 1 by omega]
          · refine ⟨_, s3 _ _ e1, take_small _ _ _ hl, ?_, ?_⟩
            · intro b o e
              have : b ≠ D := fun z => by rw [z, hD] at e; cases e
              rw [upd_ne this]; exact s3 _ _ (s1 b o e)
            · rw [upd_same]
              exact congrArg (fun l => some (HO.lst l)) (map_take (fun d => V.bl (isTh d (n - 1))) ds i d hd)
        · rintro H1 ⟨s1, e1⟩
          refine ⟨D, ds.map fun d => isTh d (n - 1), rfl, SqL.of ?_, ?_⟩
          · rw [e1, List.take_of_length_le (by rw [ha.length]; exact Nat.le_refl _), List.map_map]; rfl
          · rw [isThAll_map]
            have : isTh (.tuple ds) n = isThAll ds (n - 1) := by
              simp only [isTh]; rw [decide_eq_true (by omega : 0 < n)]; rfl
            rw [this] at q
            exact q H1 s1
  | false =>
    refine iteF ⟨v, rfl, v, d, rfl, hv, _, rfl, ?_⟩
    cases hi : isInteger d with
    | true =>
      obtain ⟨i, rfl⟩ : ∃ i, d = .int i := by cases d <;> first | exact ⟨_, rfl⟩ | (simp [isInteger, isInt, isBool] at hi)
      cases hv
      refine iteT ⟨_, rfl, _, rfl, _, _, rfl, rfl, _, rfl, ?_⟩
      simp only [isTh] at q
      have e1 : decide (-(999999999999999999999999999999 : Int) ≤ i) = decide (-GREATEST ≤ i) := rfl
      rw [e1]
      cases h1 : decide (-GREATEST ≤ i) with
      | false =>
        rw [h1] at q
        exact iteF (q H (Same.refl H))
      | true =>
        rw [h1] at q
        exact iteT ⟨_, _, rfl, rfl, q H (Same.refl H)⟩
    | false =>
      refine iteF ⟨v, rfl, rfl, _, rfl, ?_⟩
      by_cases hno : v = .non
      · subst hno
        cases hv
        exact iteT (q H (Same.refl H))
      · rw [decide_eq_false hno]
        refine iteF ⟨v, rfl, v, d, rfl, hv, fun z e => ?_, fun H' s' => ?_⟩
        · subst e
          simp only [sm] at hs
          exact of_decide_eq_true hs
        · have e : isTh d n = signs d := by
            cases d with
            | none => cases hv; exact absurd rfl hno
            | tuple _ => cases ht
            | int _ => cases hi
            | _ => simp only [isTh, signs]
          rw [e] at q
          exact q H' s'
theorem is_thing_none (T : Tx P K mg) (a : Addr) (k : Nat) : FnOk P w K mg base CX0 k T.f_is_thing T.d_is_thing ["thing", "deep"] (spIsThing a 0) := by
  have no : ∀ vs H Q E, ¬ spIsThing a 0 vs H Q E := fun vs H Q E h => by
    obtain ⟨_, _, n, _, h, _⟩ := h
    omega
  exact ⟨fun vs H Q E h => absurd h (no vs H Q E), fun A outer s H args us vs Q E _ _ _ _ h => absurd h (no vs H Q E)⟩
theorem ok_is_thing (T : Tx P K mg) (a : Addr) : ∀ N : Nat, FnOk P w K mg base CX0 (N + 2) T.f_is_thing T.d_is_thing ["thing", "deep"] (spIsThing a N)
  | 0 => is_thing_none T a 2
  | N + 1 => ok_is_thing_step T a (k := N + 2) (by omega) (ok_is_thing T a N)
end
end K28

/-! K28W3: raw_packed, packed, _law_packed. -/
namespace K28
open PySem L2 TL
theorem esc_snoc (c : Nat) : ∀ l : Cs, esc (l ++ [c]) = esc l ++ (if c = 39 ∨ c = 126 then [126, c] else [c])
  | [] => by
    show esc [c] = [] ++ _
    rw [esc, esc]
    split <;> rfl
  | a :: l => by
    show esc (a :: (l ++ [c])) = _
    rw [esc, esc, esc_snoc c l]
    split <;> rfl
theorem esc_take_le (x : Cs) : ∀ i, (esc (x.take i)).length ≤ (esc x).length := by
  induction x with
  | nil => intro i; simp
  | cons a r ih =>
    intro i
    cases i with
    | zero => simp [esc]
    | succ i =>
      rw [List.take_succ_cons, esc, esc]
      have := ih i
      split <;> (simp only [List.length_cons]; omega)
theorem len_le_esc : ∀ x : Cs, x.length ≤ (esc x).length
  | [] => Nat.le_refl _
  | a :: r => by
    have := len_le_esc r
    rw [esc]
    split <;> (simp only [List.length_cons]; omega)
theorem sum_flat : ∀ zs : List Str, (zs.map (·.length)).sum = ((zs.map tl).flatten).length
  | [] => rfl
  | z :: zs => by
    have := sum_flat zs
    simp only [List.map_cons, List.sum_cons, List.flatten_cons, List.length_append]
    rw [this, len_tl]
theorem join_nil : ∀ ps : List (List Nat), joinL [] ps = ps.flatten
  | [] => rfl
  | [p] => by simp [joinL]
  | p :: q :: r => by
    have := join_nil (q :: r)
    simp only [joinL, this]
    simp
theorem join_jn : ∀ ps : List (List Nat), joinL [44] ps = jn ps
  | [] => rfl
  | [p] => rfl
  | p :: q :: r => by
    have := join_jn (q :: r)
    simp only [joinL, jn, this]
theorem jn_sum : ∀ ps : List (List Nat), (ps.map List.length).sum + ps.length ≤ (jn ps).length + 1
  | [] => by simp [jn]
  | [p] => by simp [jn]
  | p :: q :: r => by
    have := jn_sum (q :: r)
    simp only [jn, List.map_cons, List.sum_cons, List.length_cons, List.length_append] at this ⊢
    simp only [List.length_nil]
    omega
theorem jn_len (ps : List (List Nat)) : ps.length ≤ (jn ps).length + 1 := by
  have := jn_sum ps
  omega
theorem jn_mem : ∀ {ps : List (List Nat)} {p : List Nat}, p ∈ ps → p.length ≤ (jn ps).length := by
  intro ps p h
  have h1 := jn_sum ps
  have h2 : p.length ≤ (ps.map List.length).sum := by
    clear h1
    induction ps with
    | nil => cases h
    | cons a r ih =>
      simp only [List.map_cons, List.sum_cons]
      rcases List.mem_cons.mp h with e | h
      · rw [e]; omega
      · have := ih h; omega
  have h3 : 1 ≤ ps.length := List.length_pos_of_mem h
  omega
theorem pks_map : ∀ ds : List PyData, pks ds = ds.map pk
  | [] => rfl
  | d :: ds => by
    have := pks_map ds
    simp only [pks, List.map_cons, this]
theorem pk_tup (ds : List PyData) : pk (.tuple ds) = [40] ++ jn (ds.map pk) ++ [41] := by
  have : pk (.tuple ds) = [40] ++ jn (pks ds) ++ [41] := by simp only [pk]
  rw [this, pks_map]
theorem pk_str (z : Str) : pk (.str z) = [39] ++ esc z.cps.toList ++ [39] := by simp only [pk]
theorem pk_int (i : Int) : pk (.int i) = intCs i := by simp only [pk]
theorem pk_none : pk .none = [46] := by simp only [pk]
theorem fit_tup {ds : List PyData} (h : fit (.tuple ds) = true) : fitAll ds = true := by simpa only [fit] using h
theorem fitAll_get : ∀ {ds : List PyData} {i : Nat} {d : PyData}, fitAll ds = true → ds[i]? = some d → fit d = true
  | [], _, _, _, e => by simp at e
  | a :: ds, 0, d, h, e => by
    simp at e; subst e
    simp only [fitAll] at h
    exact (two_and h).1
  | a :: ds, i + 1, d, h, e => by
    simp only [fitAll] at h
    exact fitAll_get (i := i) (two_and h).2 (by simpa using e)
theorem depthAll_get : ∀ {ds : List PyData} {i : Nat} {d : PyData}, ds[i]? = some d → d.depth ≤ PyData.depthAll ds
  | [], _, _, e => by simp at e
  | a :: ds, 0, d, e => by
    simp at e; subst e
    show _ ≤ max _ _
    omega
  | a :: ds, i + 1, d, e => by
    have := depthAll_get (i := i) (ds := ds) (d := d) (by simpa using e)
    show _ ≤ max _ _
    omega
mutual
theorem sm_pk : ∀ (d : PyData), fit d = true → (pk d).length ≤ 10000 → sm d = true
  | .none, _, _ => rfl
  | .int _, _, _ => rfl
  | .bool _, _, _ => rfl
  | .list _, _, _ => rfl
  | .dict _, _, _ => rfl
  | .str z, _, h => by
    rw [pk_str] at h
    have := len_le_esc z.cps.toList
    simp only [List.length_append, List.length_cons, List.length_nil] at h
    simp only [sm]
    refine decide_eq_true ?_
    rw [len_tl]
    show z.cps.toList.length ≤ 10000
    omega
  | .tuple ds, hf, h => by
    rw [pk_tup] at h
    simp only [List.length_append, List.length_cons, List.length_nil] at h
    have h1 := jn_len (ds.map pk)
    rw [List.length_map] at h1
    simp only [sm]
    rw [decide_eq_true (show ds.length ≤ 10000 by omega), smAll_pk ds (fit_tup hf) (fun d hd => by
      have := jn_mem (List.mem_map_of_mem (f := pk) hd)
      omega)]
    rfl
theorem smAll_pk : ∀ (ds : List PyData), fitAll ds = true → (∀ d ∈ ds, (pk d).length ≤ 10000) → smAll ds = true
  | [], _, _ => rfl
  | d :: ds, hf, h => by
    simp only [fitAll] at hf
    simp only [smAll]
    rw [sm_pk d (two_and hf).1 (h d List.mem_cons_self), smAll_pk ds (two_and hf).2 (fun e he => h e (List.mem_cons_of_mem _ he))]
    rfl
end
theorem cs_quote : tl ("'" : Str) = [39] := by decide +kernel
theorem cs_tilde : tl ("~" : Str) = [126] := by decide +kernel
theorem cs_dot : tl ("." : Str) = [46] := by decide +kernel
theorem cs_open : tl ("(" : Str) = [40] := by decide +kernel
theorem cs_close : tl (")" : Str) = [41] := by decide +kernel
theorem cs_comma : tl ("," : Str) = [44] := by decide +kernel
theorem cs_empty : tl ("" : Str) = [] := by decide +kernel
theorem cs_minus : tl ("-" : Str) = [45] := by decide +kernel
theorem cs_zero : tl ("0" : Str) = [48] := by decide +kernel
theorem str_eq {x y : Str} : (x == y) = decide (tl x = tl y) := by
  by_cases h : tl x = tl y
  · rw [decide_eq_true h, ext_tl h]; simp
  · rw [decide_eq_false h]
    refine beq_eq_false_iff_ne.mpr fun e => h (by rw [e])
theorem in_quo (c : Nat) : inV (.str ⟨#[c]⟩) [.str ("'" : Str), .str ("~" : Str)] = decide (c = 39 ∨ c = 126) := by
  show ((("'" : Str) == ⟨#[c]⟩) || ((("~" : Str) == ⟨#[c]⟩) || false)) = _
  rw [str_eq, str_eq, cs_quote, cs_tilde, Bool.or_false]
  show (decide ([39] = [c]) || decide ([126] = [c])) = _
  by_cases h1 : c = 39
  · subst h1; rfl
  · by_cases h2 : c = 126
    · subst h2; rfl
    · rw [decide_eq_false (by simp; omega), decide_eq_false (by simp; omega), decide_eq_false (by omega)]; rfl
section
variable {P : Program} {w : World} {K : PySem.W.Frag} {mg : Str → Option Value} {base : Heap}
def spPk (N : Nat) : Sp := fun vs H Q _ => ∃ (v : V) (d : PyData), vs = [v] ∧ Pu H v d ∧ fit d = true ∧ d.depth < N ∧ (pk d).length ≤ 3000 ∧ ∀ (H' : Hp) (z : Str), Same H H' → tl z = pk d → Q (.str z) H'
theorem pk_none_left {k : Nat} {f : Addr} {fd : FuncData} {ps : List Str} : FnOk P w K mg base CX0 k f fd ps (spPk 0) := by
  have no : ∀ vs H Q E, ¬ spPk 0 vs H Q E := fun vs H Q E h => by
    obtain ⟨_, d, _, _, _, h, _⟩ := h
    omega
  exact ⟨fun vs H Q E h => absurd h (no vs H Q E), fun A outer s H args us vs Q E _ _ _ _ h => absurd h (no vs H Q E)⟩
theorem ok_raw_step (T : Tx P K mg) {N k : Nat} (G : FnOk P w K mg base CX0 k T.f_raw_packed T.d_raw_packed ["thing"] (spPk N)) : FnOk P w K mg base CX0 (k + 1) T.f_raw_packed T.d_raw_packed ["thing"] (spPk (N + 1)) := by
  refine T.raw_packed.F.ok sc_raw_packed (fun vs H Q E h => ?_) (fun cdv A outer s H vs Q E hr h => ?_)
  · obtain ⟨v, d, rfl, _⟩ := h
    rfl
  obtain ⟨v, d, rfl, hv, hf, hd, hl, q⟩ := h
  have hth : Th 0 H v d := Pu.th d v hv
  have nd := sc_raw_packed.nd
  obtain ⟨tq, hQ⟩ := T.g_QUOTE
  obtain ⟨te, hE⟩ := T.g_ESCAPE
  have gQ : ∀ {X : Cx} {pos : Pos}, X.mg = mg → Gl X "QUOTE" → PE X (.Name "QUOTE" pos) (tC (.str ("'" : Str))) := fun {X pos} e g => pe_glob (v := .str ("'" : Str)) g (by rw [e]; exact hQ) ⟨_, rfl⟩
  have gE : ∀ {X : Cx} {pos : Pos}, X.mg = mg → Gl X "ESCAPE" → PE X (.Name "ESCAPE" pos) (tC (.str ("~" : Str))) := fun {X pos} e g => pe_glob (v := .str ("~" : Str)) g (by rw [e]; exact hE) ⟨_, rfl⟩
  refine ⟨_, pss_cons (ps_if (pt_cmpR op_isN (pv 0) pe_non (nomark _)) (pss_one (ps_ret pe_str)) pss_nil)
    (pss_cons (ps_if (pt_val (pe_callB call_isi (by rfl) T.z_isinstance (by decide +kernel) (pa_cons (pv 0) (pa_cons (pe_bltn (v := .ty "str") (by rfl) T.z_str (by decide +kernel) rfl) pa_nil))))
      (pss_one (ps_ret (pe_op op_add_str (pe_op op_add_str (gQ rfl rfl) (pe_join pe_str
        (pe_lc (own := [("sign", 1)]) (g := gName 1) (tt := tYes) rfl nd (pi_str (pv 0)) (blkOk_by (own := [("sign", 1)]) (N := ["thing", "sign", "item"]) (sc := defScope s_raw_packed) (by decide +kernel))
          (fun _ _ _ _ _ => pg_name (i := 1) nd rfl (Or.inl rfl)) (fun _ _ _ _ _ => pts_nil)
          (fun _ _ _ _ _ => pe_ifExp (pt_cmpR (show OpR _ (compareOp .In) (rIn K false) from op_in_seq) (pv 1) (pe_tup (pa_cons (gQ rfl rfl) (pa_cons (gE rfl rfl) pa_nil))) (by rfl)) (pe_op op_add_str (gE rfl rfl) (pv 1)) (pv 1)))))
        (gQ rfl rfl)))) pss_nil)
    (pss_cons (ps_if (pt_val (pe_callB call_isi (by rfl) T.z_isinstance (by decide +kernel) (pa_cons (pv 0) (pa_cons (pe_bltn (v := .ty "tuple") (by rfl) T.z_tuple (by decide +kernel) rfl) pa_nil))))
      (pss_one (ps_ret (pe_op op_add_str (pe_op op_add_str pe_str (pe_join pe_str
        (pe_lc (own := [("item", 2)]) (g := gName 2) (tt := tYes) rfl nd (pi_tup (pv 0)) (blkOk_by (own := [("item", 2)]) (N := ["thing", "sign", "item"]) (sc := defScope s_raw_packed) (by decide +kernel))
          (fun _ _ _ _ _ => pg_name (i := 2) nd rfl (Or.inl rfl)) (fun _ _ _ _ _ => pts_nil)
          (fun _ _ _ _ _ => pe_call G hr rfl T.raw_packed.m T.raw_packed.F.kp T.raw_packed.b .nil pass0 (pa_cons (pv 2) pa_nil)))))
        pe_str))) pss_nil)
    (pss_one (ps_ret (pe_callTy call_str_int (by rfl) T.z_str (by decide +kernel) (pa_cons (pv 0) pa_nil)))))), ?_⟩
  refine ⟨v, rfl, rfl, _, rfl, ?_⟩
  by_cases hno : v = .non
  · subst hno
    cases hv
    exact iteT (q H _ (Same.refl H) (by rw [pk_none]; exact cs_dot))
  rw [decide_eq_false hno]
  refine iteF ⟨v, rfl, v, .ty "str", _, _, _, rfl, .ty _, hth.ty, kit_str K d, _, rfl, ?_⟩
  cases hs : isStr d with
  | true =>
    obtain ⟨x, rfl⟩ : ∃ x, d = .str x := by cases d <;> first | exact ⟨_, rfl⟩ | cases hs
    cases hv
    rw [pk_str] at hl q
    simp only [List.length_append, List.length_cons, List.length_nil] at hl
    refine iteT ⟨⟨_, rfl⟩, _, rfl, x, rfl, fun D hD => lc_it walk_str (fun i H1 => Same H H1 ∧ ∃ zs : List Str, H1 D = some (.lst (zs.map V.str)) ∧ (zs.map tl).flatten = esc (x.cps.toList.take i) ∧ zs.length = i) ⟨same_new hD _, [], upd_same, rfl, rfl⟩ (fun _ _ _ _ => trivial) ?_ ?_⟩
    · rintro i y H1 H2 hi ⟨s1, zs, e1, e2, e3⟩ ⟨rfl, c, hc, rfl⟩
      have hc' : x.cps.toList[i]? = some c := by rw [← hc, Array.getElem?_toList]
      have esn : esc (x.cps.toList.take (i + 1)) = esc (x.cps.toList.take i) ++ (if c = 39 ∨ c = 126 then [126, c] else [c]) := by
        rw [List.take_add_one, hc']; exact esc_snoc c _
      have hsz : zs.length < sizeLine := by
        have h1 := len_le_esc x.cps.toList
        have h2 : i < x.cps.toList.length := by rw [Array.length_toList]; exact hi
        rw [e3]
        exact Nat.lt_of_le_of_lt (show i ≤ 3000 by omega) (by decide)
      have fin : ∀ (H3 : Hp) (z : Str), Same H2 H3 → tl z = (if c = 39 ∨ c = 126 then [126, c] else [c]) →
          ∃ acc, H3 D = some (.lst acc) ∧ acc.length < sizeLine ∧ Same H (upd H3 D (.lst (acc ++ [V.str z]))) ∧ ∃ zs : List Str, upd H3 D (.lst (acc ++ [V.str z])) D = some (.lst (zs.map V.str)) ∧ (zs.map tl).flatten = esc (x.cps.toList.take (i + 1)) ∧ zs.length = i + 1 := by
        intro H3 z s3 ez
        refine ⟨_, s3 _ _ e1, by rw [List.length_map]; exact hsz, fun b o e => ?_, zs ++ [z], by rw [upd_same]; simp, ?_, by simp [e3]⟩
        · have : b ≠ D := fun z => by rw [z, hD] at e; cases e
          rw [upd_ne this]; exact s3 _ _ (s1 b o e)
        · rw [List.map_append, List.flatten_append, e2, esn, ← ez]; simp
      refine ⟨rfl, _, rfl, (by show 2 ≤ sizeLine; decide), fun p hp => ⟨p, _, rfl, .inr (SqT.of upd_same), rfl, rfl, _, rfl, ?_⟩⟩
      show if inV (.str ⟨#[c]⟩) [.str ("'" : Str), .str ("~" : Str)] = true then _ else _
      rw [in_quo]
      refine ite2 (fun h => ?_) (fun h => ?_)
      · have h' : c = 39 ∨ c = 126 := of_decide_eq_true h
        refine ⟨_, rfl, _, _, rfl, rfl, (by show 2 ≤ sizeLine; decide), ?_⟩
        exact fin _ _ (same_new hp _) (by rw [if_pos h', tl_append, cs_tilde]; rfl)
      · have h' : ¬ (c = 39 ∨ c = 126) := fun z => h (decide_eq_true z)
        refine ⟨_, rfl, ?_⟩
        exact fin _ _ (same_new hp _) (by rw [if_neg h'])
    · rintro H1 ⟨s1, zs, e1, e2, e3⟩
      rw [List.take_of_length_le (by rw [Array.length_toList]; exact Nat.le_refl _)] at e2
      have hsum : (zs.map (·.length)).sum = (esc x.cps.toList).length := by rw [sum_flat, e2]
      have ej : tl (Txt.join ("" : Str) zs) = esc x.cps.toList := by
        rw [join_eq, tl_join, cs_empty, join_nil, e2]
      have ejl : (Txt.join ("" : Str) zs).length = (esc x.cps.toList).length := by rw [len_tl, ej]
      have l1 : ("'" : Str).length = 1 := by decide +kernel
      refine ⟨_, D, zs, rfl, rfl, .inl (SqL.of e1), ?_, ?_⟩
      · have : ("" : Str).length = 0 := by decide +kernel
        rw [this, hsum]; omega
      · refine ⟨_, _, rfl, rfl, ?_, _, _, rfl, rfl, ?_, ?_⟩
        · rw [l1, ejl]
          exact Nat.le_trans (show _ ≤ 4000 by omega) (by decide)
        · rw [len_tl, tl_append, cs_quote, ej, l1]
          simp only [List.length_append, List.length_cons, List.length_nil]
          exact Nat.le_trans (show _ ≤ 4000 by omega) (by decide)
        · exact q H1 _ s1 (by rw [tl_append, tl_append, cs_quote, ej])
  | false =>
    refine iteF ⟨v, rfl, v, .ty "tuple", _, _, _, rfl, .ty _, hth.ty, kit_tuple K d, _, rfl, ?_⟩
    cases ht : isTup d with
    | true =>
      obtain ⟨ds, rfl⟩ : ∃ ds, d = .tuple ds := by cases d <;> first | exact ⟨_, rfl⟩ | cases ht
      rw [pk_tup] at hl q
      simp only [List.length_append, List.length_cons, List.length_nil] at hl
      have hd' : PyData.depthAll ds + 1 < N + 1 := hd
      have hjl := jn_len (ds.map pk)
      rw [List.length_map] at hjl
      cases hv with
      | @tup p xs _ ep ha =>
        refine iteT ⟨⟨_, rfl⟩, _, rfl, p, rfl, ⟨_, SqT.of ep⟩, fun D hD => lc_it (walk_tup (xs := xs)) (fun i H1 => Same H H1 ∧ ∃ zs : List Str, H1 D = some (.lst (zs.map V.str)) ∧ zs.map tl = (ds.take i).map pk ∧ zs.length ≤ i) ⟨same_new hD _, [], upd_same, rfl, Nat.le_refl _⟩
          (fun i H' _ h => SqT.of (h.1 _ _ ep)) ?_ ?_⟩
        · rintro i x H1 H2 hi ⟨s1, zs, e1, e2, e3⟩ ⟨rfl, hx⟩
          obtain ⟨d, hdd, hxd⟩ := ha.get hx
          have hm : d ∈ ds := List.mem_of_getElem? hdd
          have hjm := jn_mem (List.mem_map_of_mem (f := pk) hm)
          refine ⟨rfl, _, rfl, x, d, rfl, Pu.mono (tk_of s1) d x hxd, fitAll_get (fit_tup hf) hdd, ?_, by omega, fun H3 z s3 ez => ?_⟩
          · have := depthAll_get hdd
            omega
          · refine ⟨_, s3 _ _ e1, ?_, fun b o e => ?_, zs ++ [z], by rw [upd_same]; simp, ?_, by simp; omega⟩
            · rw [List.length_map]
              have : xs.length = ds.length := ha.length
              exact Nat.lt_of_le_of_lt (show zs.length ≤ 3001 by omega) (by decide)
            · have : b ≠ D := fun z => by rw [z, hD] at e; cases e
              rw [upd_ne this]; exact s3 _ _ (s1 b o e)
            · rw [List.map_append, e2, List.map_singleton, ez]
              exact map_take pk ds i d hdd
        · rintro H1 ⟨s1, zs, e1, e2, e3⟩
          rw [List.take_of_length_le (by rw [ha.length]; exact Nat.le_refl _)] at e2
          have ej : tl (Txt.join ("," : Str) zs) = jn (ds.map pk) := by
            rw [join_eq, tl_join, cs_comma, join_jn, e2]
          have ejl : (Txt.join ("," : Str) zs).length = (jn (ds.map pk)).length := by rw [len_tl, ej]
          have l1 : ("(" : Str).length = 1 := by decide +kernel
          have l2 : (")" : Str).length = 1 := by decide +kernel
          have hsum : (zs.map (·.length)).sum = ((ds.map pk).map List.length).sum := by
            rw [← e2, List.map_map]
            exact congrArg List.sum (List.map_congr_left fun z _ => len_tl z)
          have hjs := jn_sum (ds.map pk)
          have hzl : zs.length = ds.length := by
            have := congrArg List.length e2
            simpa using this
          refine ⟨_, D, zs, rfl, rfl, .inl (SqL.of e1), ?_, ?_⟩
          · have : ("," : Str).length = 1 := by decide +kernel
            rw [this, hsum, hzl]
            rw [List.length_map] at hjs
            omega
          · refine ⟨_, _, rfl, rfl, ?_, _, _, rfl, rfl, ?_, ?_⟩
            · rw [l1, ejl]
              exact Nat.le_trans (show _ ≤ 4000 by omega) (by decide)
            · rw [len_tl, tl_append, cs_open, ej, l2]
              simp only [List.length_append, List.length_cons, List.length_nil]
              exact Nat.le_trans (show _ ≤ 4000 by omega) (by decide)
            · exact q H1 _ s1 (by rw [tl_append, tl_append, cs_open, ej, cs_close])
    | false =>
      obtain ⟨i, rfl⟩ : ∃ i, d = .int i := by
        cases d with
        | int i => exact ⟨i, rfl⟩
        | none => cases hv; exact absurd rfl hno
        | str _ => cases hs
        | tuple _ => cases ht
        | _ => cases hv
      cases hv
      have hi : intOk i = true := by simpa only [fit] using hf
      refine iteF ⟨_, rfl, i, rfl, ?_, ?_⟩
      · obtain ⟨h1, h2⟩ := two_and hi
        obtain ⟨_, h3⟩ := two_and h1
        have b1 : -GREATEST ≤ i := of_decide_eq_true h3
        have b2 : i ≤ GREATEST := of_decide_eq_true h2
        have : i.natAbs < 2 ^ 100 := by unfold GREATEST at b1 b2; omega
        by_cases h0 : i.natAbs = 0
        · rw [h0]; decide
        · have := (Nat.log2_lt h0).mpr this
          omega
      · exact q H _ (Same.refl H) (by rw [pk_int]; rfl)
theorem ok_raw (T : Tx P K mg) : ∀ N : Nat, FnOk P w K mg base CX0 (N + 1) T.f_raw_packed T.d_raw_packed ["thing"] (spPk N)
  | 0 => pk_none_left
  | N + 1 => ok_raw_step T (ok_raw T N)
end
end K28

/-! K28W4: packed, _law_packed. -/
namespace K28
open PySem L2 TL
section
variable {P : Program} {w : World} {K : PySem.W.Frag} {mg : Str → Option Value} {base : Heap}
def spPacked (a CN : Addr) : Sp := fun vs H Q E => ∃ (v : V) (d : PyData), vs = [v] ∧ Th a H v d ∧ sm d = true ∧
  ((isTh d 30 = true ∧ Pu H v d ∧ fit d = true ∧ d.depth ≤ 30 ∧ (pk d).length ≤ 3000 ∧ ∀ (H' : Hp) (z : Str), Same H H' → tl z = pk d → Q (.str z) H') ∨ (isTh d 30 = false ∧ ∀ H', Same H H' → E (.ref CN) none H'))
theorem ok_packed (T : Tx P K mg) (a : Addr) : FnOk P w K mg base (L2.CX P w) 34 T.f_packed T.d_packed ["thing"] (spPacked a T.CN) := by
  have GT := ok_is_thing (P := P) (w := w) (base := base) T a 31
  have GR := ok_raw (P := P) (w := w) (base := base) T 31
  refine T.packed.F.okX sc_packed (fun vs H Q E h => ?_) (fun cdv A outer s H vs Q E hr h => ?_)
  · obtain ⟨v, d, rfl, _⟩ := h
    rfl
  obtain ⟨v, d, rfl, hv, hs, q⟩ := h
  obtain ⟨tg, hG⟩ := T.g_MOST_DEEP
  refine ⟨_, pss_cons (ps_if (pt_not (pt_val (pe_call GT hr rfl T.is_thing.m T.is_thing.F.kp T.is_thing.b .nil pass0 (pa_cons (pv 0) (pa_cons (pe_glob (v := .int 30) rfl hG ⟨_, rfl⟩) pa_nil)))))
      (pss_one (ps_raise (W := fun cls d _ H => E cls d H) rfl (takes_of rfl rfl rfl rfl) (pmk_own0 PySem.F.excBase_ValueError T.xN T.gN T.kN (raises_own T.eN T.tN) rfl))) pss_nil)
    (pss_one (ps_ret (pe_call GR (hr.mono (by decide)) rfl T.raw_packed.m T.raw_packed.F.kp T.raw_packed.b .nil pass0 (pa_cons (pv 0) pa_nil)))), ?_⟩
  refine ⟨v, rfl, v, d, 30, rfl, by decide, hv, hs, fun H1 s1 => ⟨_, rfl, ?_⟩⟩
  rcases q with ⟨e, hp, hf, hd, hl, q⟩ | ⟨e, q⟩
  · rw [e]
    refine iteF ⟨v, rfl, v, d, rfl, Pu.mono (tk_of s1) d v hp, hf, by omega, hl, fun H2 z s2 ez => q H2 z (s1.trans s2) ez⟩
  · rw [e]
    exact iteT (q H1 s1)
theorem in_quo2 (c : Nat) : decide (c ∈ tl ("'~" : Str)) = decide (c = 39 ∨ c = 126) := by
  have e : tl ("'~" : Str) = [39, 126] := by decide +kernel
  rw [e]
  exact decide_eq_decide.mpr (by simp)
theorem ok_lawp_step (T : Tx P K mg) {N k : Nat} (G : FnOk P w K mg base CX0 k T.f_law_packed T.d_law_packed ["_law_thing_here"] (spPk N)) : FnOk P w K mg base CX0 (k + 1) T.f_law_packed T.d_law_packed ["_law_thing_here"] (spPk (N + 1)) := by
  refine T.law_packed.F.ok sc_law_packed (fun vs H Q E h => ?_) (fun cdv A outer s H vs Q E hr h => ?_)
  · obtain ⟨v, d, rfl, _⟩ := h
    rfl
  obtain ⟨v, d, rfl, hv, hf, hd, hl, q⟩ := h
  have hth : Th 0 H v d := Pu.th d v hv
  have nd := sc_law_packed.nd
  refine ⟨_, pss_cons (ps_if (pt_cmpR op_isN (pv 0) pe_non (nomark _)) (pss_one (ps_ret pe_str)) pss_nil)
    (pss_cons (ps_if (pt_val (pe_callB call_isi (by rfl) T.z_isinstance (by decide +kernel) (pa_cons (pv 0) (pa_cons (pe_bltn (v := .ty "tuple") (by rfl) T.z_tuple (by decide +kernel) rfl) pa_nil))))
      (pss_one (ps_ret (pe_op op_add_str (pe_op op_add_str pe_str (pe_join pe_str
        (pe_lc (own := [("_law_one", 1)]) (g := gName 1) (tt := tYes) rfl nd (pi_tup (pv 0)) (blkOk_by (own := [("_law_one", 1)]) (N := ["_law_thing_here", "_law_one", "_law_sign"]) (sc := defScope s_law_packed) (by decide +kernel))
          (fun _ _ _ _ _ => pg_name (i := 1) nd rfl (Or.inl rfl)) (fun _ _ _ _ _ => pts_nil)
          (fun _ _ _ _ _ => pe_call G hr rfl T.law_packed.m T.law_packed.F.kp T.law_packed.b .nil pass0 (pa_cons (pv 1) pa_nil)))))
        pe_str))) pss_nil)
    (pss_cons (ps_if (pt_val (pe_callB call_isi (by rfl) T.z_isinstance (by decide +kernel) (pa_cons (pv 0) (pa_cons (pe_bltn (v := .ty "str") (by rfl) T.z_str (by decide +kernel) rfl) pa_nil))))
      (pss_one (ps_ret (pe_op op_add_str (pe_op op_add_str pe_str (pe_join pe_str
        (pe_lc (own := [("_law_sign", 2)]) (g := gName 2) (tt := tYes) rfl nd (pi_str (pv 0)) (blkOk_by (own := [("_law_sign", 2)]) (N := ["_law_thing_here", "_law_one", "_law_sign"]) (sc := defScope s_law_packed) (by decide +kernel))
          (fun _ _ _ _ _ => pg_name (i := 2) nd rfl (Or.inl rfl)) (fun _ _ _ _ _ => pts_nil)
          (fun _ _ _ _ _ => pe_ifExp (pt_cmpR op_in_sign (pv 2) pe_str (by rfl)) (pe_op op_add_str pe_str (pv 2)) (pv 2)))))
        pe_str))) pss_nil)
    (pss_one (ps_ret (pe_callTy call_str_int (by rfl) T.z_str (by decide +kernel) (pa_cons (pv 0) pa_nil)))))), ?_⟩
  refine ⟨v, rfl, rfl, _, rfl, ?_⟩
  by_cases hno : v = .non
  · subst hno
    cases hv
    exact iteT (q H _ (Same.refl H) (by rw [pk_none]; exact cs_dot))
  rw [decide_eq_false hno]
  refine iteF ⟨v, rfl, v, .ty "tuple", _, _, _, rfl, .ty _, hth.ty, kit_tuple K d, _, rfl, ?_⟩
  cases ht : isTup d with
  | true =>
    obtain ⟨ds, rfl⟩ : ∃ ds, d = .tuple ds := by cases d <;> first | exact ⟨_, rfl⟩ | cases ht
    rw [pk_tup] at hl q
    simp only [List.length_append, List.length_cons, List.length_nil] at hl
    have hd' : PyData.depthAll ds + 1 < N + 1 := hd
    have hjl := jn_len (ds.map pk)
    rw [List.length_map] at hjl
    cases hv with
    | @tup p xs _ ep ha =>
      refine iteT ⟨⟨_, rfl⟩, _, rfl, p, rfl, ⟨_, SqT.of ep⟩, fun D hD => lc_it (walk_tup (xs := xs)) (fun i H1 => Same H H1 ∧ ∃ zs : List Str, H1 D = some (.lst (zs.map V.str)) ∧ zs.map tl = (ds.take i).map pk ∧ zs.length ≤ i) ⟨same_new hD _, [], upd_same, rfl, Nat.le_refl _⟩
        (fun i H' _ h => SqT.of (h.1 _ _ ep)) ?_ ?_⟩
      · rintro i x H1 H2 hi ⟨s1, zs, e1, e2, e3⟩ ⟨rfl, hx⟩
        obtain ⟨d, hdd, hxd⟩ := ha.get hx
        have hm : d ∈ ds := List.mem_of_getElem? hdd
        have hjm := jn_mem (List.mem_map_of_mem (f := pk) hm)
        refine ⟨rfl, _, rfl, x, d, rfl, Pu.mono (tk_of s1) d x hxd, fitAll_get (fit_tup hf) hdd, ?_, by omega, fun H3 z s3 ez => ?_⟩
        · have := depthAll_get hdd
          omega
        · refine ⟨_, s3 _ _ e1, ?_, fun b o e => ?_, zs ++ [z], by rw [upd_same]; simp, ?_, by simp; omega⟩
          · rw [List.length_map]
            have : xs.length = ds.length := ha.length
            exact Nat.lt_of_le_of_lt (show zs.length ≤ 3001 by omega) (by decide)
          · have : b ≠ D := fun z => by rw [z, hD] at e; cases e
            rw [upd_ne this]; exact s3 _ _ (s1 b o e)
          · rw [List.map_append, e2, List.map_singleton, ez]
            exact map_take pk ds i d hdd
      · rintro H1 ⟨s1, zs, e1, e2, e3⟩
        rw [List.take_of_length_le (by rw [ha.length]; exact Nat.le_refl _)] at e2
        have ej : tl (Txt.join ("," : Str) zs) = jn (ds.map pk) := by
          rw [join_eq, tl_join, cs_comma, join_jn, e2]
        have ejl : (Txt.join ("," : Str) zs).length = (jn (ds.map pk)).length := by rw [len_tl, ej]
        have l1 : ("(" : Str).length = 1 := by decide +kernel
        have l2 : (")" : Str).length = 1 := by decide +kernel
        have hsum : (zs.map (·.length)).sum = ((ds.map pk).map List.length).sum := by
          rw [← e2, List.map_map]
          exact congrArg List.sum (List.map_congr_left fun z _ => len_tl z)
        have hjs := jn_sum (ds.map pk)
        have hzl : zs.length = ds.length := by
          have := congrArg List.length e2
          simpa using this
        refine ⟨_, D, zs, rfl, rfl, .inl (SqL.of e1), ?_, ?_⟩
        · have : ("," : Str).length = 1 := by decide +kernel
          rw [this, hsum, hzl]
          rw [List.length_map] at hjs
          omega
        · refine ⟨_, _, rfl, rfl, ?_, _, _, rfl, rfl, ?_, ?_⟩
          · rw [l1, ejl]
            exact Nat.le_trans (show _ ≤ 4000 by omega) (by decide)
          · rw [len_tl, tl_append, cs_open, ej, l2]
            simp only [List.length_append, List.length_cons, List.length_nil]
            exact Nat.le_trans (show _ ≤ 4000 by omega) (by decide)
          · exact q H1 _ s1 (by rw [tl_append, tl_append, cs_open, ej, cs_close])
  | false =>
    refine iteF ⟨v, rfl, v, .ty "str", _, _, _, rfl, .ty _, hth.ty, kit_str K d, _, rfl, ?_⟩
    cases hs : isStr d with
    | true =>
      obtain ⟨x, rfl⟩ : ∃ x, d = .str x := by cases d <;> first | exact ⟨_, rfl⟩ | cases hs
      cases hv
      rw [pk_str] at hl q
      simp only [List.length_append, List.length_cons, List.length_nil] at hl
      refine iteT ⟨⟨_, rfl⟩, _, rfl, x, rfl, fun D hD => lc_it walk_str (fun i H1 => Same H H1 ∧ ∃ zs : List Str, H1 D = some (.lst (zs.map V.str)) ∧ (zs.map tl).flatten = esc (x.cps.toList.take i) ∧ zs.length = i) ⟨same_new hD _, [], upd_same, rfl, rfl⟩ (fun _ _ _ _ => trivial) ?_ ?_⟩
      · rintro i y H1 H2 hi ⟨s1, zs, e1, e2, e3⟩ ⟨rfl, c, hc, rfl⟩
        have hc' : x.cps.toList[i]? = some c := by rw [← hc, Array.getElem?_toList]
        have esn : esc (x.cps.toList.take (i + 1)) = esc (x.cps.toList.take i) ++ (if c = 39 ∨ c = 126 then [126, c] else [c]) := by
          rw [List.take_add_one, hc']; exact esc_snoc c _
        have hsz : zs.length < sizeLine := by
          have h1 := len_le_esc x.cps.toList
          have h2 : i < x.cps.toList.length := by rw [Array.length_toList]; exact hi
          rw [e3]
          exact Nat.lt_of_le_of_lt (show i ≤ 3000 by omega) (by decide)
        have fin : ∀ (H3 : Hp) (z : Str), Same H2 H3 → tl z = (if c = 39 ∨ c = 126 then [126, c] else [c]) →
            ∃ acc, H3 D = some (.lst acc) ∧ acc.length < sizeLine ∧ Same H (upd H3 D (.lst (acc ++ [V.str z]))) ∧ ∃ zs : List Str, upd H3 D (.lst (acc ++ [V.str z])) D = some (.lst (zs.map V.str)) ∧ (zs.map tl).flatten = esc (x.cps.toList.take (i + 1)) ∧ zs.length = i + 1 := by
          intro H3 z s3 ez
          refine ⟨_, s3 _ _ e1, by rw [List.length_map]; exact hsz, fun b o e => ?_, zs ++ [z], by rw [upd_same]; simp, ?_, by simp [e3]⟩
          · have : b ≠ D := fun z => by rw [z, hD] at e; cases e
            rw [upd_ne this]; exact s3 _ _ (s1 b o e)
          · rw [List.map_append, List.flatten_append, e2, esn, ← ez]; simp
        refine ⟨rfl, _, rfl, c, _, rfl, rfl, _, rfl, ?_⟩
        show if decide (c ∈ tl ("'~" : Str)) = true then _ else _
        rw [in_quo2]
        refine ite2 (fun h => ?_) (fun h => ?_)
        · have h' : c = 39 ∨ c = 126 := of_decide_eq_true h
          refine ⟨_, rfl, _, _, rfl, rfl, (by show 2 ≤ sizeLine; decide), ?_⟩
          exact fin _ _ (Same.refl _) (by rw [if_pos h', tl_append, cs_tilde]; rfl)
        · have h' : ¬ (c = 39 ∨ c = 126) := fun z => h (decide_eq_true z)
          refine ⟨_, rfl, ?_⟩
          exact fin _ _ (Same.refl _) (by rw [if_neg h'])
      · rintro H1 ⟨s1, zs, e1, e2, e3⟩
        rw [List.take_of_length_le (by rw [Array.length_toList]; exact Nat.le_refl _)] at e2
        have hsum : (zs.map (·.length)).sum = (esc x.cps.toList).length := by rw [sum_flat, e2]
        have ej : tl (Txt.join ("" : Str) zs) = esc x.cps.toList := by
          rw [join_eq, tl_join, cs_empty, join_nil, e2]
        have ejl : (Txt.join ("" : Str) zs).length = (esc x.cps.toList).length := by rw [len_tl, ej]
        have l1 : ("'" : Str).length = 1 := by decide +kernel
        refine ⟨_, D, zs, rfl, rfl, .inl (SqL.of e1), ?_, ?_⟩
        · have : ("" : Str).length = 0 := by decide +kernel
          rw [this, hsum]; omega
        · refine ⟨_, _, rfl, rfl, ?_, _, _, rfl, rfl, ?_, ?_⟩
          · rw [l1, ejl]
            exact Nat.le_trans (show _ ≤ 4000 by omega) (by decide)
          · rw [len_tl, tl_append, cs_quote, ej, l1]
            simp only [List.length_append, List.length_cons, List.length_nil]
            exact Nat.le_trans (show _ ≤ 4000 by omega) (by decide)
          · exact q H1 _ s1 (by rw [tl_append, tl_append, cs_quote, ej])
    | false =>
      obtain ⟨i, rfl⟩ : ∃ i, d = .int i := by
        cases d with
        | int i => exact ⟨i, rfl⟩
        | none => cases hv; exact absurd rfl hno
        | str _ => cases hs
        | tuple _ => cases ht
        | _ => cases hv
      cases hv
      have hi : intOk i = true := by simpa only [fit] using hf
      refine iteF ⟨_, rfl, i, rfl, ?_, ?_⟩
      · obtain ⟨h1, h2⟩ := two_and hi
        obtain ⟨_, h3⟩ := two_and h1
        have b1 : -GREATEST ≤ i := of_decide_eq_true h3
        have b2 : i ≤ GREATEST := of_decide_eq_true h2
        have : i.natAbs < 2 ^ 100 := by unfold GREATEST at b1 b2; omega
        by_cases h0 : i.natAbs = 0
        · rw [h0]; decide
        · have := (Nat.log2_lt h0).mpr this
          omega
      · exact q H _ (Same.refl H) (by rw [pk_int]; rfl)
theorem ok_lawp (T : Tx P K mg) : ∀ N : Nat, FnOk P w K mg base CX0 (N + 1) T.f_law_packed T.d_law_packed ["_law_thing_here"] (spPk N)
  | 0 => pk_none_left
  | N + 1 => ok_lawp_step T (ok_lawp T N)
end
end K28

/-! K28W5: Reader: __init__, wrong, sign, figures, integer. -/
namespace K28
open PySem L2 TL
/-! ### the fields of a Reader -/
def rdr (z : Str) (q : Nat) (l : Addr) : List (Str × V) := [("text", .str z), ("place", .int (q : Int)), ("levels", .ref l)]
theorem k_pt : (("place" : Str) == ("text" : Str)) = false := by decide +kernel
theorem k_lt : (("levels" : Str) == ("text" : Str)) = false := by decide +kernel
theorem k_lp : (("levels" : Str) == ("place" : Str)) = false := by decide +kernel
theorem n_tp : ¬ (("text" : Str) = "place") := by decide +kernel
theorem n_tl : ¬ (("text" : Str) = "levels") := by decide +kernel
theorem n_pl : ¬ (("place" : Str) = "levels") := by decide +kernel
section
variable (z : Str) (q q' : Nat) (l : Addr)
theorem rd_text : (rdr z q l).lookup ("text" : Str) = some (.str z) := by
  unfold rdr; simp only [List.lookup, beq_self_eq_true]
theorem rd_place : (rdr z q l).lookup ("place" : Str) = some (.int (q : Int)) := by
  unfold rdr; simp only [List.lookup, k_pt, beq_self_eq_true]
theorem rd_levels : (rdr z q l).lookup ("levels" : Str) = some (.ref l) := by
  unfold rdr; simp only [List.lookup, k_lt, k_lp, beq_self_eq_true]
theorem rd_no {m : Str} (h1 : (m == ("text" : Str)) = false) (h2 : (m == ("place" : Str)) = false) (h3 : (m == ("levels" : Str)) = false) : (rdr z q l).lookup m = none := by
  unfold rdr; simp only [List.lookup, h1, h2, h3]
theorem rd_put : putF "place" (V.int ((q : Int) + 1)) (rdr z q l) = rdr z (q + 1) l := by
  show (if ("text" : Str) = "place" then _ else (("text" : Str), V.str z) :: (if ("place" : Str) = "place" then (("place" : Str), V.int ((q : Int) + 1)) :: [("levels", V.ref l)] else _)) = _
  rw [if_neg n_tp, if_pos rfl]
  unfold rdr
  rw [show (((q + 1 : Nat) : Int)) = (q : Int) + 1 by omega]
theorem rd_made : putF "levels" (V.ref l) (putF "place" (V.int 0) (putF "text" (V.str z) [])) = rdr z 0 l := by
  have e1 : putF "place" (V.int 0) (putF "text" (V.str z) []) = ([("text", V.str z), ("place", V.int 0)] : List (Str × V)) := by
    show (if ("text" : Str) = "place" then _ else (("text" : Str), V.str z) :: putF "place" (V.int 0) []) = _
    rw [if_neg n_tp]; rfl
  rw [e1]
  show (if ("text" : Str) = "levels" then _ else (("text" : Str), V.str z) :: (if ("place" : Str) = "levels" then _ else (("place" : Str), V.int 0) :: putF "levels" (V.ref l) [])) = _
  rw [if_neg n_tl, if_neg n_pl]; rfl
end
/-! ### signs of a text -/
def sg (x : Cs) (q : Nat) : Str := match x[q]? with
  | some c => ⟨#[c]⟩
  | none => ⟨#[]⟩
theorem sg_some {x : Cs} {q c : Nat} (h : x[q]? = some c) : sg x q = ⟨#[c]⟩ := by unfold sg; rw [h]
theorem sg_none {x : Cs} {q : Nat} (h : x[q]? = none) : sg x q = ⟨#[]⟩ := by unfold sg; rw [h]
theorem cut_nat (z : Str) (a b : Nat) : tl (cutS z (some (a : Int)) (some (b : Int))) = ((tl z).drop a).take (b - a) := by
  show (((tl z).drop (HT.sIx z.length 0 (some (a : Int)))).take (HT.sIx z.length z.length (some (b : Int)) - HT.sIx z.length 0 (some (a : Int)))).toArray.toList = _
  rw [HT.sIx_nat, HT.sIx_nat, len_tl]
  show ((tl z).drop (min a (tl z).length)).take (min b (tl z).length - min a (tl z).length) = _
  generalize tl z = L
  refine List.ext_getElem? fun i => ?_
  rw [List.getElem?_take, List.getElem?_take, List.getElem?_drop, List.getElem?_drop]
  by_cases h : a + i < L.length
  · rw [Nat.min_eq_left (show a ≤ L.length by omega)]
    by_cases hi : i < b - a
    · rw [if_pos (by omega), if_pos hi]
    · rw [if_neg (by omega), if_neg hi]
  · have e1 : L[a + i]? = none := List.getElem?_eq_none_iff.mpr (by omega)
    rw [e1]
    have e2 : ¬ i < min b L.length - min a L.length := by omega
    rw [if_neg e2]
    split <;> rfl
theorem cut_one (z : Str) (q : Nat) : cutS z (some (q : Int)) (some ((q : Int) + 1)) = sg (tl z) q := by
  refine ext_tl ?_
  have e : ((q : Int) + 1) = ((q + 1 : Nat) : Int) := by omega
  rw [e, cut_nat, show q + 1 - q = 1 by omega]
  cases h : (tl z)[q]? with
  | none => rw [sg_none h, drop_none h]; rfl
  | some c => rw [sg_some h, drop_some h]; rfl
/-- comparing the sign at a place with a written one -/
theorem sg_is {x : Cs} {q c : Nat} {y : Str} (hy : tl y = [c]) : decide (V.str (sg x q) = V.str y) = decide (x[q]? = some c) := by
  refine decide_eq_decide.mpr ?_
  constructor
  · intro e
    have e' : tl (sg x q) = [c] := by rw [V.str.inj e, hy]
    cases h : x[q]? with
    | none => rw [sg_none h] at e'; cases e'
    | some d =>
      rw [sg_some h] at e'
      have : [d] = [c] := e'
      rw [(List.cons.inj this).1]
  · intro h
    rw [sg_some h]
    refine congrArg V.str (ext_tl ?_)
    rw [hy]
theorem sg_end {x : Cs} {q : Nat} : decide (V.str (sg x q) = V.str ("" : Str)) = decide (x[q]? = none) := by
  refine decide_eq_decide.mpr ?_
  constructor
  · intro e
    have e' : tl (sg x q) = [] := by rw [V.str.inj e, cs_empty]
    cases h : x[q]? with
    | none => rfl
    | some d =>
      rw [sg_some h] at e'
      cases e'
  · intro h
    rw [sg_none h]
    exact congrArg V.str (ext_tl cs_empty.symm)
theorem in_fig (c : Nat) : decide (c ∈ tl ("0123456789" : Str)) = dig c := by
  have e : tl ("0123456789" : Str) = [48, 49, 50, 51, 52, 53, 54, 55, 56, 57] := by decide +kernel
  rw [e]
  unfold dig
  by_cases h : 48 ≤ c ∧ c ≤ 57
  · have : c = 48 ∨ c = 49 ∨ c = 50 ∨ c = 51 ∨ c = 52 ∨ c = 53 ∨ c = 54 ∨ c = 55 ∨ c = 56 ∨ c = 57 := by omega
    rcases this with e | e | e | e | e | e | e | e | e | e <;> (subst e; decide)
  · have h1 : decide (c ∈ [48, 49, 50, 51, 52, 53, 54, 55, 56, 57]) = false := decide_eq_false (by simp; omega)
    rw [h1]
    by_cases h2 : 48 ≤ c
    · rw [decide_eq_false (show ¬ c ≤ 57 by omega), Bool.and_false]
    · rw [decide_eq_false h2, Bool.false_and]
/-- all but what stands at p stays -/
def But (p : Addr) (H H' : Hp) : Prop := ∀ b o, b ≠ p → H b = some o → H' b = some o
theorem But.refl (p : Addr) (H : Hp) : But p H H := fun _ _ _ h => h
theorem But.trans {p : Addr} {H H1 H2 : Hp} (x : But p H H1) (y : But p H1 H2) : But p H H2 := fun b o n h => y b o n (x b o n h)
theorem but_upd {p : Addr} {H : Hp} {o : HO} : But p H (upd H p o) := fun b u n q => by rw [upd_ne n]; exact q
theorem but_same {p : Addr} {H H' : Hp} (s : Same H H') : But p H H' := fun b o _ h => s b o h
theorem But.tk {p C dx : Addr} {fs : List (Str × V)} {H H' : Hp} (k : But p H H') (h : H p = some (.ins C dx fs)) : TK H H' := fun b xs e => k b _ (fun z => by rw [z, h] at e; cases e) e
section
variable {P : Program} {w : World} {K : PySem.W.Frag} {mg : Str → Option Value} {base : Heap}
/-! ### __init__, wrong, sign -/
def spInit (C : Addr) : Sp := fun vs H Q _ => ∃ (p dx : Addr) (z : Str), vs = [.ref p, .str z] ∧ H p = some (.ins C dx []) ∧ ∀ (l : Addr) (H' : Hp), But p H H' → H l = none → H' p = some (.ins C dx (rdr z 0 l)) → H' l = some (.lst []) → Q .non H'
theorem ok_init (T : Tx P K mg) : FnOk P w K mg base CX0 1 T.fI T.dI ["self", "text"] (spInit T.C) := by
  refine T.rInit.ok scR_init (fun vs H Q E h => ?_) (fun cdv A outer s H vs Q E hr h => ?_)
  · obtain ⟨p, dx, z, rfl, _⟩ := h
    rfl
  obtain ⟨p, dx, z, rfl, hp, q⟩ := h
  refine ⟨_, pss_cons (ps_fld (pv 0) (pv 1) rfl) (pss_cons (ps_fld (pv 0) pe_int rfl) (pss_one (ps_fld (pv 0) (pe_lst pa_nil) rfl))), ?_⟩
  refine ⟨_, rfl, _, rfl, p, T.C, dx, _, rfl, hp, T.cl, T.n_text, (by decide), ?_⟩
  refine ⟨_, rfl, p, T.C, dx, _, rfl, upd_same, T.cl, T.n_place, (by show 1 < 1000; decide), ?_⟩
  refine ⟨(by show 0 ≤ sizeLine; decide), fun l hl => ?_⟩
  rw [upd_upd] at hl ⊢
  have hlp : l ≠ p := fun e => by rw [e, upd_same] at hl; cases hl
  rw [upd_ne hlp] at hl
  refine ⟨_, rfl, p, T.C, dx, _, rfl, (by rw [upd_ne hlp.symm]; exact upd_same), T.cl, T.n_levels, ?_, ?_⟩
  · exact Nat.lt_of_le_of_lt (length_putF _ _ _) (Nat.lt_of_le_of_lt (Nat.succ_le_succ (length_putF _ _ _)) (by decide))
  · refine q l _ (fun b o n e => ?_) hl (by rw [upd_same, rd_made]) (by rw [upd_ne hlp]; exact upd_same)
    rw [upd_ne n, upd_ne (fun z => by rw [z, hl] at e; cases e), upd_ne n]; exact e
def spSign (C : Addr) : Sp := fun vs H Q _ => ∃ (p dx : Addr) (z : Str) (q : Nat) (l : Addr), vs = [.ref p] ∧ H p = some (.ins C dx (rdr z q l)) ∧ z.length ≤ 10000 ∧ Q (.str (sg (tl z) q)) H
theorem size10 {n : Nat} (h : n ≤ 10000) : n ≤ sizeLine := Nat.le_trans h (by decide)
theorem ok_sign (T : Tx P K mg) : FnOk P w K mg base CX0 1 T.fR_sign T.dR_sign ["self"] (spSign T.C) := by
  refine T.r_sign.F.ok scR_sign (fun vs H Q E h => ?_) (fun cdv A outer s H vs Q E hr h => ?_)
  · obtain ⟨p, dx, z, q, l, rfl, _⟩ := h
    rfl
  obtain ⟨p, dx, z, q, l, rfl, hp, hz, k⟩ := h
  refine ⟨_, pss_one (ps_ret (pe_slice sl_str (pe_fld (pv 0) rfl) (po_some (pe_fld (pv 0) rfl)) (po_some (pe_op op_add (pe_fld (pv 0) rfl) pe_int)))), ?_⟩
  refine ⟨_, rfl, p, T.C, dx, _, _, rfl, hp, T.cl, T.n_text, rd_text z q l, ?_⟩
  refine ⟨_, rfl, p, T.C, dx, _, _, rfl, hp, T.cl, T.n_place, rd_place z q l, _, rfl, ?_⟩
  refine ⟨_, rfl, p, T.C, dx, _, _, rfl, hp, T.cl, T.n_place, rd_place z q l, _, _, rfl, rfl, _, rfl, z, rfl, size10 hz, ?_⟩
  rw [cut_one]
  exact k
def spWrong (C CB : Addr) : Sp := fun vs H _ E => ∃ (p dx : Addr) (z : Str) (q : Nat) (l : Addr), vs = [.ref p] ∧ H p = some (.ins C dx (rdr z q l)) ∧ ∀ dd, H dd = none → E (.ref CB) (some dd) (upd H dd (.xd [(("place" : Str), .int (q : Int))]))
theorem ok_wrong (T : Tx P K mg) : FnOk P w K mg base (L2.CX P w) 3 T.fR_wrong T.dR_wrong ["self"] (spWrong T.C T.CB) := by
  refine T.r_wrong.F.okX scR_wrong (fun vs H Q E h => ?_) (fun cdv A outer s H vs Q E hr h => ?_)
  · obtain ⟨p, dx, z, q, l, rfl, _⟩ := h
    rfl
  obtain ⟨p, dx, z, q, l, rfl, hp, k⟩ := h
  refine ⟨_, pss_one (ps_raiseBad (W := fun cls d _ H => E cls d H) rfl T.bad hr (takes_of rfl rfl rfl rfl) (pa_cons (pe_fld (pv 0) rfl) pa_nil)), ?_⟩
  exact ⟨_, rfl, p, T.C, dx, _, _, rfl, hp, T.cl, T.n_place, rd_place z q l, _, rfl, k⟩
/-! ### figures -/
def figK (x : Cs) (q : Nat) : Nat := if x[q]? = some 48 then 1 else (digs (x.drop q)).length
theorem figK_le (x : Cs) (q : Nat) : figK x q ≤ 30 := by
  unfold figK
  split
  · decide
  · exact digs_le _
theorem fig_in {x : Cs} {q j : Nat} (h : j < figK x q) : ∃ c, x[q + j]? = some c ∧ dig c = true := by
  unfold figK at h
  split at h
  · rename_i e
    have : j = 0 := by omega
    subst this
    exact ⟨48, e, by decide⟩
  · exact digs_at h
theorem fig_out {x : Cs} {q j c : Nat} (h : j ≤ figK x q) (hz : j = 0 ∨ x[q]? ≠ some 48) (h30 : j < 30) (hc : x[q + j]? = some c) (hd : dig c = true) : j < figK x q := by
  unfold figK at h ⊢
  by_cases e : x[q]? = some 48
  · rw [if_pos e]
    rcases hz with r | r
    · omega
    · exact absurd e r
  · rw [if_neg e] at h ⊢
    refine Nat.lt_of_le_of_ne h fun z => ?_
    rw [z] at h30 hc
    rw [digs_end h30 hc] at hd
    cases hd
def spFig (C : Addr) : Sp := fun vs H Q _ => ∃ (p dx : Addr) (z : Str) (q : Nat) (l : Addr), vs = [.ref p] ∧ H p = some (.ins C dx (rdr z q l)) ∧ z.length ≤ 10000 ∧
  ∀ (H' : Hp) (u : Str), But p H H' → H' p = some (.ins C dx (rdr z (q + figK (tl z) q) l)) → tl u = ((tl z).drop q).take (figK (tl z) q) → Q (.str u) H'
theorem lt30 (q j : Nat) : decide (((q + j : Nat) : Int) - (q : Int) < 30) = decide (j < 30) := decide_eq_decide.mpr (by omega)
theorem ok_figures (T : Tx P K mg) : FnOk P w K mg base CX0 2 T.fR_figures T.dR_figures ["self"] (spFig T.C) := by
  have GS := ok_sign (P := P) (w := w) (base := base) T
  refine T.r_figures.F.ok scR_figures (fun vs H Q E h => ?_) (fun cdv A outer s H vs Q E hr h => ?_)
  · obtain ⟨p, dx, z, q, l, rfl, _⟩ := h
    rfl
  obtain ⟨p, dx, z, q, l, rfl, hp, hz, k⟩ := h
  have nd := scR_figures.nd
  obtain ⟨t1, hF⟩ := T.g_FIGURES
  obtain ⟨t2, hM⟩ := T.g_MOST_DIGITS
  refine ⟨_, pss_cons (ps_set (i := 1) nd rfl (Or.inl rfl) (pe_fld (pv 0) rfl))
    (pss_cons (ps_while PassesOwn.never (PW.pt (pw_and (pt_cmpR op_ne (pe_meth0 (pv 0) T.cl T.r_sign.m GS hr T.r_sign.b .nil pass0) pe_str (nomark _))
        (pw_and (pt_cmpR op_in_sign (pe_meth0 (pv 0) T.cl T.r_sign.m GS hr T.r_sign.b .nil pass0) (pe_glob (v := .str ("0123456789" : Str)) rfl hF ⟨_, rfl⟩) (by rfl))
          (pw_and1 (pt_cmpR op_lt (pe_op op_sub (pe_fld (pv 0) rfl) (pv 1)) (pe_glob (v := .int 30) rfl hM ⟨_, rfl⟩) (nomark _))))))
      (pss_cons (ps_fldaug (pv 0) pe_int in_add) (pss_one (ps_if (pt_cmpR op_eq (pe_ix ix_str (pe_fld (pv 0) rfl) (pv 1) (fun _ _ => rfl)) pe_str (nomark _)) (pss_one ps_break) pss_nil))))
    (pss_one (ps_ret (pe_slice sl_str (pe_fld (pv 0) rfl) (po_some (pv 1)) (po_some (pe_fld (pv 0) rfl)))))), ?_⟩
  refine ⟨_, rfl, p, T.C, dx, _, _, rfl, hp, T.cl, T.n_place, rd_place z q l, ?_⟩
  have no : (rdr z q l).lookup ("sign" : Str) = none := rd_no z q l (by decide +kernel) (by decide +kernel) (by decide +kernel)
  have no' : ∀ q, (rdr z q l).lookup ("sign" : Str) = none := fun q => rd_no z q l (by decide +kernel) (by decide +kernel) (by decide +kernel)
  -- behind the loop
  have after : ∀ H1 : Hp, H1 p = some (.ins T.C dx (rdr z (q + figK (tl z) q) l)) → But p H H1 →
      tRet (tSl rSlS (tFld K (tVar 0) "text") (tPart (tVar 1)) (tPart (tFld K (tVar 0) "place"))) { nx := fun _ H' => Q .non H', rt := Q } [some (.ref p), some (.int (q : Int))] H1 := by
    intro H1 h1 b1
    refine ⟨_, rfl, p, T.C, dx, _, _, rfl, h1, T.cl, T.n_text, rd_text z _ l, _, rfl, _, rfl, _, rfl, p, T.C, dx, _, _, rfl, h1, T.cl, T.n_place, rd_place z _ l, _, rfl, z, rfl, size10 hz, ?_⟩
    refine k H1 _ b1 h1 ?_
    rw [cut_nat]
    congr 1
    omega
  refine ⟨fun m σ H1 => ∃ j : Nat, m = 40 - j ∧ σ = [some (.ref p), some (.int (q : Int))] ∧ H1 p = some (.ins T.C dx (rdr z (q + j) l)) ∧ But p H H1 ∧ j ≤ figK (tl z) q ∧ (j = 0 ∨ (tl z)[q]? ≠ some 48),
    ⟨_, 0, rfl, rfl, hp, But.refl p H, Nat.zero_le _, .inl rfl⟩, ?_⟩
  rintro m σ H1 ⟨j, rfl, rfl, h1, b1, hj, h0⟩
  refine ⟨_, rfl, p, dx, _, rfl, h1, no' _, p, dx, z, q + j, l, rfl, h1, hz, rfl, _, rfl, ?_⟩
  rw [sg_end]
  have stop : ¬ j < figK (tl z) q → tRet (tSl rSlS (tFld K (tVar 0) "text") (tPart (tVar 1)) (tPart (tFld K (tVar 0) "place"))) { nx := fun _ H' => Q .non H', rt := Q } [some (.ref p), some (.int (q : Int))] H1 := by
    intro hn
    have : j = figK (tl z) q := by omega
    rw [this] at h1
    exact after H1 h1 b1
  cases hx : (tl z)[q + j]? with
  | none =>
    rw [decide_eq_true rfl]
    refine iteF (stop fun hn => ?_)
    obtain ⟨c, hc, _⟩ := fig_in hn
    rw [hc] at hx
    cases hx
  | some c =>
    rw [decide_eq_false (by intro e; cases e)]
    refine iteT ⟨_, rfl, p, dx, _, rfl, h1, no' _, p, dx, z, q + j, l, rfl, h1, hz, c, ("0123456789" : Str), congrArg V.str (sg_some hx), rfl, _, rfl, ?_⟩
    rw [in_fig]
    cases hd : dig c with
    | false =>
      refine iteF (stop fun hn => ?_)
      obtain ⟨c', hc', hd'⟩ := fig_in hn
      rw [hx] at hc'
      have := Option.some.inj hc'
      subst this
      rw [hd] at hd'
      cases hd'
    | true =>
      refine iteT ⟨_, rfl, p, T.C, dx, _, _, rfl, h1, T.cl, T.n_place, rd_place z _ l, _, rfl, _, _, rfl, rfl, _, _, rfl, rfl, _, rfl, ?_⟩
      rw [lt30]
      refine ite2 (fun h30 => ?_) (fun h30 => ?_)
      · have h30' : j < 30 := of_decide_eq_true h30
        have hlt : j < figK (tl z) q := fig_out hj h0 h30' hx hd
        have hq : ∃ c0, (tl z)[q]? = some c0 := by
          obtain ⟨c0, e, _⟩ := fig_in (x := tl z) (q := q) (j := 0) (by omega)
          exact ⟨c0, e⟩
        obtain ⟨c0, hc0⟩ := hq
        refine ⟨fun τ J => τ = [some (.ref p), some (.int (q : Int))] ∧ J p = some (.ins T.C dx (rdr z (q + (j + 1)) l)) ∧ But p H J ∧ (tl z)[q]? ≠ some 48, ?_, ?_⟩
        · rintro τ J ⟨rfl, a1, a2, a3⟩
          exact ⟨40 - (j + 1), by omega, j + 1, rfl, rfl, a1, a2, by omega, .inr a3⟩
        · refine ⟨_, rfl, p, T.C, dx, _, _, rfl, h1, T.cl, T.n_place, rd_place z _ l, _, _, rfl, rfl, dx, _, h1, (by show 3 < 1000; decide), ?_⟩
          rw [rd_put]
          have b2 : But p H (upd H1 p (.ins T.C dx (rdr z (q + j + 1) l))) := b1.trans but_upd
          refine ⟨_, rfl, p, T.C, dx, _, _, rfl, upd_same, T.cl, T.n_text, rd_text z _ l, _, rfl, z, q, c0, rfl, rfl, size10 hz, atI_nat hc0, rfl, _, rfl, ?_⟩
          have e48 : decide (V.str ⟨#[c0]⟩ = V.str ("0" : Str)) = decide (c0 = 48) := by
            rw [← sg_some hc0, sg_is cs_zero, hc0]
            exact decide_eq_decide.mpr (by simp)
          rw [e48]
          refine ite2 (fun h => ?_) (fun h => ?_)
          · have h' : c0 = 48 := of_decide_eq_true h
            have hj0 : j = 0 := by
              rcases h0 with r | r
              · exact r
              · rw [hc0, h'] at r; exact absurd rfl r
            have hk : figK (tl z) q = 1 := by unfold figK; rw [hc0, h', if_pos rfl]
            subst hj0
            exact after _ (by rw [upd_same, hk]) b2
          · refine ⟨rfl, upd_same, b2, ?_⟩
            rw [hc0]
            intro e
            exact h (decide_eq_true (Option.some.inj e))
      · refine stop fun hn => ?_
        have := figK_le (tl z) q
        exact h30 (decide_eq_true (by omega))
/-! ### integer -/
theorem rint_none {x : Cs} {q : Nat} (h : x[q]? = none) : rint x q = .bad q := by
  unfold rint
  rw [if_neg (by rw [h]; nofun), if_neg (by rw [h]; nofun), if_pos (digs_nil' h)]
theorem take_fig0 {x : Cs} {q : Nat} (h : x[q]? = some 48) : (x.drop q).take (figK x q) = [48] := by
  unfold figK
  rw [if_pos h, drop_some h]; rfl
theorem take_fig {x : Cs} {q : Nat} (h : x[q]? ≠ some 48) : (x.drop q).take (figK x q) = digs (x.drop q) := by
  unfold figK
  rw [if_neg h, digs_take]
theorem fig_len {x : Cs} {q : Nat} (h : x[q]? ≠ some 48) : figK x q = (digs (x.drop q)).length := by
  unfold figK
  rw [if_neg h]
/-- what int() makes of the digits -/
theorem int_pos {x : Cs} {u : Str} (h : tl u = digs x) (hne : digs x ≠ []) : PySem.intText? u = some ((PySem.NumText.digitsVal (digs x) : Nat) : Int) := by
  have := PySem.intText_digits (x := u) (by rw [show u.cps.toList = digs x from h]; exact digs_all x) (by rw [show u.cps.toList = digs x from h]; exact hne)
    (by rw [len_tl, h]; exact Nat.le_trans (digs_le x) (by decide))
  rw [show u.cps.toList = digs x from h] at this
  exact this
theorem int_neg {x : Cs} {u : Str} (h : tl u = 45 :: digs x) (hne : digs x ≠ []) : PySem.intText? u = some (-((PySem.NumText.digitsVal (digs x) : Nat) : Int)) :=
  PySem.intText_neg (x := u) (cs := digs x) h (digs_all x) hne (by rw [len_tl, h]; have := digs_le x; simp only [List.length_cons]; omega)
theorem int_zero {u : Str} (h : tl u = [48]) : PySem.intText? u = some 0 := by
  have : u = ("0" : Str) := ext_tl (h.trans cs_zero.symm)
  rw [this]
  decide +kernel
/-- what is wanted of a BadText at the place n, H0 standing as it was -/
def BadE (CB : Addr) (H0 : Hp) (E : XK) (n : Nat) : Prop := ∀ (dd : Addr) (H' : Hp), Same H0 H' → H' dd = some (.xd [(("place" : Str), .int (n : Int))]) → E (.ref CB) (some dd) H'
def spInteger (C CB : Addr) : Sp := fun vs H Q E => ∃ (H0 : Hp) (p dx : Addr) (z : Str) (q : Nat) (l : Addr), vs = [.ref p] ∧ H p = some (.ins C dx (rdr z q l)) ∧ z.length ≤ 10000 ∧ Same H0 H ∧ H0 p = none ∧
  (∀ (i : Int) (b : Nat) (H' : Hp), rint (tl z) q = .ok (.int i) b → But p H H' → H' p = some (.ins C dx (rdr z b l)) → Q (.int i) H') ∧ (∀ n, rint (tl z) q = .bad n → BadE CB H0 E n)
theorem same_but {p : Addr} {H0 H H' : Hp} (s : Same H0 H) (b : But p H H') (n : H0 p = none) : Same H0 H' := fun c o e => b c o (fun z => by rw [z, n] at e; cases e) (s c o e)
theorem same_xd {H0 H : Hp} {dd : Addr} {o : HO} (s : Same H0 H) (n : H dd = none) : Same H0 (upd H dd o) := s.trans (same_new n o)
theorem ok_integer (T : Tx P K mg) : FnOk P w K mg base (L2.CX P w) 4 T.fR_integer T.dR_integer ["self"] (spInteger T.C T.CB) := by
  have GS := ok_sign (P := P) (w := w) (base := base) T
  have GF := ok_figures (P := P) (w := w) (base := base) T
  have GW := ok_wrong (P := P) (w := w) (base := base) T
  refine T.r_integer.F.okX scR_integer (fun vs H Q E h => ?_) (fun cdv A outer s H vs Q E hr h => ?_)
  · obtain ⟨H0, p, dx, z, q, l, rfl, _⟩ := h
    rfl
  obtain ⟨H0, p, dx, z, q, l, rfl, hp, hz, hs, hn, k, kb⟩ := h
  have nd := scR_integer.nd
  have hr1 : Room 1 _ := hr.mono (by decide)
  have hr2 : Room 2 _ := hr.mono (by decide)
  have tk := takes_of (X := cxOf (L2.CX P w) P w K mg base ["self", "ahead", "told"] "Reader.integer" (defScope sR_integer) T.fR_integer cdv A outer s H E) rfl rfl rfl rfl
  refine ⟨_, pss_cons (ps_set (i := 1) nd rfl (Or.inl rfl) pe_str)
    (pss_cons (ps_if (pt_cmpR op_eq (pe_meth0 (pv 0) T.cl T.r_sign.m GS hr1 T.r_sign.b .nil pass0) pe_str (nomark _))
      (pss_cons (ps_set (i := 1) nd rfl (Or.inl rfl) pe_str) (pss_cons (ps_fldaug (pv 0) pe_int in_add)
        (pss_one (ps_if (pt_cmpR op_eq (pe_meth0 (pv 0) T.cl T.r_sign.m GS hr1 T.r_sign.b .nil pass0) pe_str (nomark _))
          (pss_one (ps_expr (pe_meth0 (E := E) (pv 0) T.cl T.r_wrong.m GW hr T.r_wrong.b .nil (passes_call tk fun _ _ _ _ h => h)))) pss_nil)))) pss_nil)
    (pss_cons (ps_set (i := 2) nd rfl (Or.inl rfl) (pe_meth0 (pv 0) T.cl T.r_figures.m GF hr2 T.r_figures.b .nil pass0))
    (pss_cons (ps_if (pt_cmpR op_eq (pv 2) pe_str (nomark _)) (pss_one (ps_expr (pe_meth0 (E := E) (pv 0) T.cl T.r_wrong.m GW hr T.r_wrong.b .nil (passes_call tk fun _ _ _ _ h => h)))) pss_nil)
    (pss_one (ps_ret (pe_callTy call_int_str (by rfl) T.z_int (by decide +kernel) (pa_cons (pe_op op_add_str (pv 1) (pv 2)) pa_nil))))))), ?_⟩
  have noS : ∀ q, (rdr z q l).lookup ("sign" : Str) = none := fun q => rd_no z q l (by decide +kernel) (by decide +kernel) (by decide +kernel)
  have noW : ∀ q, (rdr z q l).lookup ("wrong" : Str) = none := fun q => rd_no z q l (by decide +kernel) (by decide +kernel) (by decide +kernel)
  have noF : ∀ q, (rdr z q l).lookup ("figures" : Str) = none := fun q => rd_no z q l (by decide +kernel) (by decide +kernel) (by decide +kernel)
  refine ⟨_, rfl, p, dx, _, rfl, hp, noS _, p, dx, z, q, l, rfl, hp, hz, rfl, _, rfl, ?_⟩
  rw [sg_is cs_minus]
  have bad : ∀ (n : Nat) (H1 : Hp), But p H H1 → rint (tl z) q = .bad n → ∀ dd, H1 dd = none → E (.ref T.CB) (some dd) (upd H1 dd (.xd [(("place" : Str), .int (n : Int))])) := by
    intro n H1 b1 er dd hd
    exact kb n er dd _ (same_xd (same_but hs b1 hn) hd) upd_same
  by_cases hm : (tl z)[q]? = some 45
  · rw [decide_eq_true hm]
    refine iteT ⟨_, rfl, p, T.C, dx, _, _, rfl, hp, T.cl, T.n_place, rd_place z _ l, _, _, rfl, rfl, dx, _, hp, (by show 3 < 1000; decide), ?_⟩
    rw [rd_put]
    have b1 : But p H (upd H p (.ins T.C dx (rdr z (q + 1) l))) := but_upd
    refine ⟨_, rfl, p, dx, _, rfl, upd_same, noS _, p, dx, z, q + 1, l, rfl, upd_same, hz, rfl, _, rfl, ?_⟩
    rw [sg_is cs_zero]
    by_cases h0 : (tl z)[q + 1]? = some 48
    · rw [decide_eq_true h0]
      have er : rint (tl z) q = .bad (q + 1) := by unfold rint; rw [if_pos hm, if_pos h0]
      exact iteT ⟨_, rfl, p, dx, _, rfl, upd_same, noW _, p, dx, z, q + 1, l, rfl, upd_same, bad _ _ b1 er⟩
    · rw [decide_eq_false h0]
      refine iteF ⟨_, rfl, p, dx, _, rfl, upd_same, noF _, p, dx, z, q + 1, l, rfl, upd_same, hz, fun H2 u b2 h2 eu => ?_⟩
      rw [take_fig h0] at eu
      rw [fig_len h0] at h2
      have b2' := b1.trans b2
      refine ⟨_, rfl, rfl, _, rfl, ?_⟩
      by_cases hd : digs ((tl z).drop (q + 1)) = []
      · have er : rint (tl z) q = .bad (q + 1) := by unfold rint; rw [if_pos hm, if_neg h0, if_pos hd]
        rw [hd] at eu h2
        have ee : u = ("" : Str) := ext_tl (eu.trans cs_empty.symm)
        subst ee
        exact iteT ⟨_, rfl, p, dx, _, rfl, h2, noW _, p, dx, z, q + 1, l, rfl, h2, bad _ _ b2' er⟩
      · have ee : ¬ (V.str u = V.str ("" : Str)) := fun e => hd (by rw [← eu, V.str.inj e]; exact cs_empty)
        rw [decide_eq_false ee]
        have er : rint (tl z) q = .ok (.int (-((PySem.NumText.digitsVal (digs ((tl z).drop (q + 1))) : Nat) : Int))) (q + 1 + (digs ((tl z).drop (q + 1))).length) := by
          unfold rint; rw [if_pos hm, if_neg h0, if_neg hd]
        have dl := digs_le ((tl z).drop (q + 1))
        have ea : tl (("-" : Str) ++ u) = 45 :: digs ((tl z).drop (q + 1)) := by rw [tl_append, cs_minus, eu]; rfl
        refine iteF ⟨_, rfl, _, rfl, _, _, rfl, rfl, ?_, _, _, rfl, int_neg ea hd, ?_, ?_⟩
        · rw [len_tl, len_tl, cs_minus, eu]
          simp only [List.length_cons, List.length_nil]
          exact size10 (by omega)
        · rw [len_tl, ea]
          simp only [List.length_cons]
          omega
        · exact k _ _ H2 er b2' h2
  · rw [decide_eq_false hm]
    refine iteF ⟨_, rfl, p, dx, _, rfl, hp, noF _, p, dx, z, q, l, rfl, hp, hz, fun H2 u b2 h2 eu => ?_⟩
    refine ⟨_, rfl, rfl, _, rfl, ?_⟩
    by_cases h0 : (tl z)[q]? = some 48
    · rw [take_fig0 h0] at eu
      have hk : figK (tl z) q = 1 := by unfold figK; rw [if_pos h0]
      rw [hk] at h2
      have er : rint (tl z) q = .ok (.int 0) (q + 1) := by unfold rint; rw [if_neg hm, if_pos h0]
      have ee : ¬ (V.str u = V.str ("" : Str)) := fun e => by
        rw [V.str.inj e, cs_empty] at eu; cases eu
      rw [decide_eq_false ee]
      have ea : tl (("" : Str) ++ u) = [48] := by rw [tl_append, cs_empty, eu]; rfl
      refine iteF ⟨_, rfl, _, rfl, _, _, rfl, rfl, ?_, _, _, rfl, int_zero ea, ?_, ?_⟩
      · rw [len_tl, len_tl, cs_empty, eu]; decide
      · rw [len_tl, ea]; decide
      · exact k _ _ H2 er b2 h2
    · rw [take_fig h0] at eu
      rw [fig_len h0] at h2
      by_cases hd : digs ((tl z).drop q) = []
      · have er : rint (tl z) q = .bad q := by unfold rint; rw [if_neg hm, if_neg h0, if_pos hd]
        rw [hd] at eu h2
        have ee : u = ("" : Str) := ext_tl (eu.trans cs_empty.symm)
        subst ee
        exact iteT ⟨_, rfl, p, dx, _, rfl, h2, noW _, p, dx, z, q, l, rfl, h2, bad _ _ b2 er⟩
      · have ee : ¬ (V.str u = V.str ("" : Str)) := fun e => hd (by rw [← eu, V.str.inj e]; exact cs_empty)
        rw [decide_eq_false ee]
        have er : rint (tl z) q = .ok (.int ((PySem.NumText.digitsVal (digs ((tl z).drop q)) : Nat) : Int)) (q + (digs ((tl z).drop q)).length) := by
          unfold rint; rw [if_neg hm, if_neg h0, if_neg hd]
        have dl := digs_le ((tl z).drop q)
        have ea : tl (("" : Str) ++ u) = digs ((tl z).drop q) := by rw [tl_append, cs_empty, eu]; rfl
        refine iteF ⟨_, rfl, _, rfl, _, _, rfl, rfl, ?_, _, _, rfl, int_pos ea hd, ?_, ?_⟩
        · rw [len_tl, len_tl, cs_empty, eu]
          simp only [List.length_nil]
          exact size10 (by omega)
        · rw [len_tl, ea]
          omega
        · exact k _ _ H2 er b2 h2
end
end K28

/-! K28W6: Reader: string, plain. -/
namespace K28
open PySem L2 TL
theorem sg_quo {x : Cs} {q : Nat} : inV (.str (sg x q)) [.str ("'" : Str), .str ("~" : Str)] = decide (x[q]? = some 39 ∨ x[q]? = some 126) := by
  cases h : x[q]? with
  | none =>
    rw [sg_none h, decide_eq_false (by simp)]
    show ((("'" : Str) == ⟨#[]⟩) || ((("~" : Str) == ⟨#[]⟩) || false)) = false
    rw [str_eq, str_eq, cs_quote, cs_tilde]; rfl
  | some c =>
    rw [sg_some h, in_quo]
    exact decide_eq_decide.mpr (by simp)
section
variable {P : Program} {w : World} {K : PySem.W.Frag} {mg : Str → Option Value} {base : Heap}
def spString (C CB : Addr) : Sp := fun vs H Q E => ∃ (H0 : Hp) (p dx : Addr) (z : Str) (q : Nat) (l : Addr), vs = [.ref p] ∧ H p = some (.ins C dx (rdr z q l)) ∧ z.length ≤ 10000 ∧ Same H0 H ∧ H0 p = none ∧ q ≤ (tl z).length ∧
  (∀ (u : Str) (b : Nat) (H' : Hp), RS (tl z) q [] = .ok (.str u) b → But p H H' → H' p = some (.ins C dx (rdr z b l)) → Q (.str u) H') ∧ (∀ n, RS (tl z) q [] = .bad n → BadE CB H0 E n)
theorem ok_string (T : Tx P K mg) : FnOk P w K mg base (L2.CX P w) 4 T.fR_string T.dR_string ["self"] (spString T.C T.CB) := by
  have GS := ok_sign (P := P) (w := w) (base := base) T
  have GI := ok_is_sign (P := P) (w := w) (base := base) T
  have GW := ok_wrong (P := P) (w := w) (base := base) T
  refine T.r_string.F.okX scR_string (fun vs H Q E h => ?_) (fun cdv A outer s H vs Q E hr h => ?_)
  · obtain ⟨H0, p, dx, z, q, l, rfl, _⟩ := h
    rfl
  obtain ⟨H0, p, dx, z, q, l, rfl, hp, hz, hs, hn, hq, k, kb⟩ := h
  have nd := scR_string.nd
  have hr1 : Room 1 _ := hr.mono (by decide)
  have tk := takes_of (X := cxOf (L2.CX P w) P w K mg base ["self", "found"] "Reader.string" (defScope sR_string) T.fR_string cdv A outer s H E) rfl rfl rfl rfl
  obtain ⟨t1, hQ⟩ := T.g_QUOTE
  obtain ⟨t2, hE⟩ := T.g_ESCAPE
  have psq : ∀ {X : Cx} {pos : Pos}, X.mg = mg → Gl X "QUOTE" → PE X (.Name "QUOTE" pos) (tC (.str ("'" : Str))) := fun {X pos} e g => pe_glob (v := .str ("'" : Str)) g (by rw [e]; exact hQ) ⟨_, rfl⟩
  have pse : ∀ {X : Cx} {pos : Pos}, X.mg = mg → Gl X "ESCAPE" → PE X (.Name "ESCAPE" pos) (tC (.str ("~" : Str))) := fun {X pos} e g => pe_glob (v := .str ("~" : Str)) g (by rw [e]; exact hE) ⟨_, rfl⟩
  refine ⟨_, pss_cons (ps_set (i := 1) nd rfl (Or.inl rfl) (pe_lst pa_nil))
    (pss_cons (ps_while (passes_of rfl) (pt_cmpR op_ne (pe_meth0 (pv 0) T.cl T.r_sign.m GS hr1 T.r_sign.b .nil pass0) (psq rfl rfl) (nomark _))
      (pss_cons (ps_if (pt_cmpR op_eq (pe_meth0 (pv 0) T.cl T.r_sign.m GS hr1 T.r_sign.b .nil pass0) (pse rfl rfl) (nomark _))
          (pss_cons (ps_fldaug (pv 0) pe_int in_add)
            (pss_one (ps_if (pt_cmpR op_notIn_seq (pe_meth0 (pv 0) T.cl T.r_sign.m GS hr1 T.r_sign.b .nil pass0) (pe_tup (pa_cons (psq rfl rfl) (pa_cons (pse rfl rfl) pa_nil))) (by rfl))
              (pss_one (ps_expr (pe_meth0 (E := E) (pv 0) T.cl T.r_wrong.m GW hr T.r_wrong.b .nil (passes_call tk fun _ _ _ _ h => h)))) pss_nil))) pss_nil)
      (pss_cons (ps_if (PW.pt (pw_or (pt_cmpR op_eq (pe_meth0 (pv 0) T.cl T.r_sign.m GS hr1 T.r_sign.b .nil pass0) pe_str (nomark _))
            (pw_or1 (pt_not (pt_val (pe_call GI hr1 rfl T.is_sign.m T.is_sign.F.kp T.is_sign.b .nil pass0 (pa_cons (pe_meth0 (pv 0) T.cl T.r_sign.m GS hr1 T.r_sign.b .nil pass0) pa_nil)))))))
          (pss_one (ps_expr (pe_meth0 (E := E) (pv 0) T.cl T.r_wrong.m GW hr T.r_wrong.b .nil (passes_call tk fun _ _ _ _ h => h)))) pss_nil)
      (pss_cons (ps_expr (pe_bm PySem.F.plainAttrs_list PySem.F.slot_list_append PySem.F.type_list_append mt_append (pv 1) (pa_cons (pe_meth0 (pv 0) T.cl T.r_sign.m GS hr1 T.r_sign.b .nil pass0) pa_nil)))
      (pss_one (ps_fldaug (pv 0) pe_int in_add))))))
    (pss_cons (ps_fldaug (pv 0) pe_int in_add)
    (pss_one (ps_ret (pe_join pe_str (pv 1)))))), ?_⟩
  have noS : ∀ q, (rdr z q l).lookup ("sign" : Str) = none := fun q => rd_no z q l (by decide +kernel) (by decide +kernel) (by decide +kernel)
  have noW : ∀ q, (rdr z q l).lookup ("wrong" : Str) = none := fun q => rd_no z q l (by decide +kernel) (by decide +kernel) (by decide +kernel)
  refine ⟨(by show 0 ≤ sizeLine; decide), fun D hD => ?_⟩
  have hDp : D ≠ p := fun e => by rw [e, hp] at hD; cases hD
  -- the invariant: place q + j; the list at D holds the signs read so far, what is read from here on is what is read at all
  refine ⟨fun m σ H1 => ∃ (j : Nat) (zs : List Str), m = (tl z).length + 1 - j ∧ σ = [some (.ref p), some (.ref D)] ∧ H1 p = some (.ins T.C dx (rdr z j l)) ∧ H1 D = some (.lst (zs.map V.str)) ∧ But p H H1 ∧ j ≤ (tl z).length ∧ zs.length ≤ j ∧ RS (tl z) j ((zs.map tl).flatten) = RS (tl z) q [] ∧ (zs.map tl).flatten.length ≤ j,
    ⟨_, q, [], rfl, rfl, by rw [upd_ne hDp.symm]; exact hp, upd_same, but_same (same_new hD _), hq, Nat.zero_le _, rfl, Nat.zero_le _⟩, ?_⟩
  rintro m σ H1 ⟨j, zs, rfl, rfl, h1, hl1, b1, hj, hzl, hR, hfl⟩
  have bad : ∀ (n : Nat) (H2 : Hp), But p H H2 → RS (tl z) q [] = .bad n → ∀ dd, H2 dd = none → E (.ref T.CB) (some dd) (upd H2 dd (.xd [(("place" : Str), .int (n : Int))])) := by
    intro n H2 b2 er dd hd
    exact kb n er dd _ (same_xd (same_but hs b2 hn) hd) upd_same
  refine ⟨_, rfl, p, dx, _, rfl, h1, noS _, p, dx, z, j, l, rfl, h1, hz, rfl, _, rfl, ?_⟩
  rw [sg_is cs_quote]
  by_cases h39 : (tl z)[j]? = some 39
  · -- the end of the string
    rw [decide_eq_true h39]
    refine iteF ⟨_, rfl, p, T.C, dx, _, _, rfl, h1, T.cl, T.n_place, rd_place z _ l, _, _, rfl, rfl, dx, _, h1, (by show 3 < 1000; decide), ?_⟩
    rw [rd_put]
    rw [RS_quote h39] at hR
    have hsum : (zs.map (·.length)).sum = ((zs.map tl).flatten).length := sum_flat zs
    have zl : z.length = (tl z).length := len_tl z
    refine ⟨⟨_, rfl⟩, _, rfl, _, D, zs, rfl, rfl, .inl (SqL.of (by rw [upd_ne hDp]; exact hl1)), ?_, ?_⟩
    · have : ("" : Str).length = 0 := by decide +kernel
      rw [this, hsum]; omega
    · have ej : Txt.join ("" : Str) zs = ⟨((zs.map tl).flatten).toArray⟩ := by
        refine ext_tl ?_
        rw [join_eq, tl_join, cs_empty, join_nil]
      refine k _ _ _ ?_ (b1.trans but_upd) upd_same
      rw [ej]; exact hR.symm
  rw [decide_eq_false h39]
  refine iteT ⟨fun τ J => ∃ (j' : Nat) (zs' : List Str), τ = [some (.ref p), some (.ref D)] ∧ J p = some (.ins T.C dx (rdr z j' l)) ∧ J D = some (.lst (zs'.map V.str)) ∧ But p H J ∧ j < j' ∧ j' ≤ (tl z).length ∧ zs'.length ≤ j' ∧ RS (tl z) j' ((zs'.map tl).flatten) = RS (tl z) q [] ∧ (zs'.map tl).flatten.length ≤ j', ?_, ?_⟩
  · rintro τ J ⟨j', zs', rfl, a1, a2, a3, a4, a5, a6, a7, a8⟩
    exact ⟨_, by omega, j', zs', rfl, rfl, a1, a2, a3, a5, a6, a7, a8⟩
  -- a sign is taken at the place j'
  have take : ∀ (H3 : Hp) (j' c : Nat), H3 p = some (.ins T.C dx (rdr z j' l)) → H3 D = some (.lst (zs.map V.str)) → But p H H3 → j ≤ j' → (tl z)[j']? = some c → RS (tl z) (j' + 1) ((zs.map tl).flatten ++ [c]) = RS (tl z) q [] →
      ∃ (j2 : Nat) (zs' : List Str), ([some (.ref p), some (.ref D)] : L2.St) = [some (.ref p), some (.ref D)] ∧ upd (upd H3 D (.lst (zs.map V.str ++ [V.str ⟨#[c]⟩]))) p (.ins T.C dx (rdr z (j' + 1) l)) p = some (.ins T.C dx (rdr z j2 l)) ∧
        upd (upd H3 D (.lst (zs.map V.str ++ [V.str ⟨#[c]⟩]))) p (.ins T.C dx (rdr z (j' + 1) l)) D = some (.lst (zs'.map V.str)) ∧ But p H (upd (upd H3 D (.lst (zs.map V.str ++ [V.str ⟨#[c]⟩]))) p (.ins T.C dx (rdr z (j' + 1) l))) ∧ j < j2 ∧ j2 ≤ (tl z).length ∧ zs'.length ≤ j2 ∧
        RS (tl z) j2 ((zs'.map tl).flatten) = RS (tl z) q [] ∧ (zs'.map tl).flatten.length ≤ j2 := by
    intro H3 j' c h3 hl3 b3 hj' hc hR'
    have hlt : j' < (tl z).length := (List.getElem?_eq_some_iff.mp hc).1
    refine ⟨j' + 1, zs ++ [⟨#[c]⟩], rfl, upd_same, by rw [upd_ne hDp, upd_same]; simp, fun b o n e => ?_, by omega, by omega, by simp; omega, ?_, ?_⟩
    · rw [upd_ne n, upd_ne (fun z => by rw [z, hD] at e; cases e)]
      exact b3 b o n e
    · rw [List.map_append, List.flatten_append]
      have : (([⟨#[c]⟩] : List Str).map tl).flatten = [c] := by simp
      rw [this]; exact hR'
    · rw [List.map_append, List.flatten_append]
      have : (([⟨#[c]⟩] : List Str).map tl).flatten = [c] := by simp
      rw [this, List.length_append]
      simp only [List.length_cons, List.length_nil]
      omega
  have small : (zs.map V.str).length < sizeLine := by
    rw [List.length_map]
    have : z.length = (tl z).length := len_tl z
    exact Nat.lt_of_le_of_lt (show zs.length ≤ 10000 by omega) (by decide)
  refine ⟨_, rfl, p, dx, _, rfl, h1, noS _, p, dx, z, j, l, rfl, h1, hz, rfl, _, rfl, ?_⟩
  rw [sg_is cs_tilde]
  by_cases h126 : (tl z)[j]? = some 126
  · rw [decide_eq_true h126]
    refine iteT ⟨_, rfl, p, T.C, dx, _, _, rfl, h1, T.cl, T.n_place, rd_place z _ l, _, _, rfl, rfl, dx, _, h1, (by show 3 < 1000; decide), ?_⟩
    rw [rd_put]
    have b2 : But p H (upd H1 p (.ins T.C dx (rdr z (j + 1) l))) := b1.trans but_upd
    have hl2 : upd H1 p (.ins T.C dx (rdr z (j + 1) l)) D = some (.lst (zs.map V.str)) := by rw [upd_ne hDp]; exact hl1
    refine ⟨_, rfl, p, dx, _, rfl, upd_same, noS _, p, dx, z, j + 1, l, rfl, upd_same, hz, (by show 2 ≤ sizeLine; decide), fun t ht => ?_⟩
    have htp : t ≠ p := fun e => by rw [e, upd_same] at ht; cases ht
    refine ⟨t, _, rfl, .inr (SqT.of upd_same), rfl, rfl, _, rfl, ?_⟩
    show if (!inV (.str (sg (tl z) (j + 1))) [.str ("'" : Str), .str ("~" : Str)]) = true then _ else _
    rw [sg_quo]
    have h3 : upd (upd H1 p (.ins T.C dx (rdr z (j + 1) l))) t (.tup [.str ("'" : Str), .str ("~" : Str)]) p = some (.ins T.C dx (rdr z (j + 1) l)) := by rw [upd_ne htp.symm]; exact upd_same
    have hl3 : upd (upd H1 p (.ins T.C dx (rdr z (j + 1) l))) t (.tup [.str ("'" : Str), .str ("~" : Str)]) D = some (.lst (zs.map V.str)) := by rw [upd_ne (ne_of_none hl2 ht)]; exact hl2
    have b3 : But p H (upd (upd H1 p (.ins T.C dx (rdr z (j + 1) l))) t (.tup [.str ("'" : Str), .str ("~" : Str)])) := b2.trans (but_same (same_new ht _))
    generalize upd (upd H1 p (.ins T.C dx (rdr z (j + 1) l))) t (.tup [.str ("'" : Str), .str ("~" : Str)]) = H3 at h3 hl3 b3 ⊢
    by_cases hq2 : (tl z)[j + 1]? = some 39 ∨ (tl z)[j + 1]? = some 126
    · rw [decide_eq_true hq2]
      refine iteF ?_
      obtain ⟨c, hc, hcc⟩ : ∃ c, (tl z)[j + 1]? = some c ∧ (c = 39 ∨ c = 126) := by
        rcases hq2 with e | e
        · exact ⟨39, e, .inl rfl⟩
        · exact ⟨126, e, .inr rfl⟩
      have ok : okc c = true := by rcases hcc with e | e <;> (subst e; decide)
      rw [RS_esc h126 hc hcc] at hR
      refine ⟨_, rfl, p, dx, _, rfl, h3, noS _, p, dx, z, j + 1, l, rfl, h3, hz, rfl, _, rfl, ?_⟩
      rw [sg_end, hc, decide_eq_false (by intro e; cases e)]
      refine iteF ⟨_, rfl, p, dx, _, rfl, h3, noS _, p, dx, z, j + 1, l, rfl, h3, hz, c, congrArg (fun s => [V.str s]) (sg_some hc), _, rfl, ?_⟩
      rw [ok]
      refine iteF ⟨_, rfl, .inl ⟨rfl, _, SqL.of hl3⟩, _, rfl, p, dx, _, rfl, h3, noS _, p, dx, z, j + 1, l, rfl, h3, hz, D, _, _, rfl, rfl, hl3, small, ?_⟩
      rw [sg_some hc]
      have h4 : upd H3 D (.lst (zs.map V.str ++ [V.str ⟨#[c]⟩])) p = some (.ins T.C dx (rdr z (j + 1) l)) := by rw [upd_ne hDp.symm]; exact h3
      refine ⟨_, rfl, p, T.C, dx, _, _, rfl, h4, T.cl, T.n_place, rd_place z _ l, _, _, rfl, rfl, dx, _, h4, (by show 3 < 1000; decide), ?_⟩
      rw [rd_put]
      exact take H3 (j + 1) c h3 hl3 b3 (by omega) hc hR
    · rw [decide_eq_false hq2]
      have er : RS (tl z) q [] = .bad (j + 1) := by
        rw [← hR]
        cases hc : (tl z)[j + 1]? with
        | none => exact RS_esc_none h126 hc
        | some c => exact RS_esc_odd h126 hc (fun h => hq2 (by rw [hc]; rcases h with e | e <;> (subst e; simp)))
      exact iteT ⟨_, rfl, p, dx, _, rfl, h3, noW _, p, dx, z, j + 1, l, rfl, h3, bad _ _ b3 er⟩
  · rw [decide_eq_false h126]
    refine iteF ⟨_, rfl, p, dx, _, rfl, h1, noS _, p, dx, z, j, l, rfl, h1, hz, rfl, _, rfl, ?_⟩
    rw [sg_end]
    cases hc : (tl z)[j]? with
    | none =>
      rw [decide_eq_true rfl]
      have er : RS (tl z) q [] = .bad j := by rw [← hR]; exact RS_none hc
      exact iteT (iteT ⟨_, rfl, p, dx, _, rfl, h1, noW _, p, dx, z, j, l, rfl, h1, bad _ _ b1 er⟩)
    | some c =>
      rw [decide_eq_false (by intro e; cases e)]
      refine iteF ⟨_, rfl, p, dx, _, rfl, h1, noS _, p, dx, z, j, l, rfl, h1, hz, c, congrArg (fun s => [V.str s]) (sg_some hc), _, rfl, ?_⟩
      cases ok : okc c with
      | false =>
        have er : RS (tl z) q [] = .bad j := by
          rw [← hR]
          exact RS_odd hc (fun h => by rw [okc_iff.mpr h] at ok; cases ok)
        exact iteT ⟨_, rfl, p, dx, _, rfl, h1, noW _, p, dx, z, j, l, rfl, h1, bad _ _ b1 er⟩
      | true =>
        have hR' : RS (tl z) (j + 1) ((zs.map tl).flatten ++ [c]) = RS (tl z) q [] := by
          rw [← hR]
          exact (RS_sign hc (fun e => h39 (by rw [hc, e])) (okc_iff.mp ok) (fun e => h126 (by rw [hc, e]))).symm
        refine iteF ⟨_, rfl, .inl ⟨rfl, _, SqL.of hl1⟩, _, rfl, p, dx, _, rfl, h1, noS _, p, dx, z, j, l, rfl, h1, hz, D, _, _, rfl, rfl, hl1, small, ?_⟩
        rw [sg_some hc]
        have h4 : upd H1 D (.lst (zs.map V.str ++ [V.str ⟨#[c]⟩])) p = some (.ins T.C dx (rdr z j l)) := by rw [upd_ne hDp.symm]; exact h1
        refine ⟨_, rfl, p, T.C, dx, _, _, rfl, h4, T.cl, T.n_place, rd_place z _ l, _, _, rfl, rfl, dx, _, h4, (by show 3 < 1000; decide), ?_⟩
        rw [rd_put]
        exact take H1 j c h1 hl1 b1 (by omega) hc hR'
/-! ### plain -/
def pl (x : Cs) (q : Nat) : Res := if x[q]? = some 46 then .ok .none (q + 1) else if x[q]? = some 39 then RS x (q + 1) [] else rint x q
theorem go_pl {x : Cs} {q d : Nat} {r : Res} (g : Go x .item q d r) (h : x[q]? ≠ some 40) : r = pl x q := by
  unfold pl
  cases g with
  | fin e => rw [if_neg (by rw [e]; nofun), if_neg (by rw [e]; nofun), rint_none e]
  | dot e => rw [if_pos e]
  | quo e => rw [if_neg (by rw [e]; decide), if_pos e]
  | deep e _ => exact absurd e h
  | par e _ _ => exact absurd e h
  | num e h1 h2 h3 => rw [if_neg (by rw [e]; intro z; exact h1 (Option.some.inj z)), if_neg (by rw [e]; intro z; exact h2 (Option.some.inj z))]
def spPlain (C CB : Addr) : Sp := fun vs H Q E => ∃ (H0 : Hp) (p dx : Addr) (z : Str) (q : Nat) (l : Addr), vs = [.ref p] ∧ H p = some (.ins C dx (rdr z q l)) ∧ z.length ≤ 10000 ∧ Same H0 H ∧ H0 p = none ∧ q ≤ (tl z).length ∧
  (∀ (d : PyData) (v : V) (b : Nat) (H' : Hp), pl (tl z) q = .ok d b → But p H H' → H' p = some (.ins C dx (rdr z b l)) → Pu H' v d → Q v H') ∧ (∀ n, pl (tl z) q = .bad n → BadE CB H0 E n)
theorem ok_plain (T : Tx P K mg) : FnOk P w K mg base (L2.CX P w) 5 T.fR_plain T.dR_plain ["self"] (spPlain T.C T.CB) := by
  have GS := ok_sign (P := P) (w := w) (base := base) T
  have GT := ok_string (P := P) (w := w) (base := base) T
  have GI := ok_integer (P := P) (w := w) (base := base) T
  refine T.r_plain.F.okX scR_plain (fun vs H Q E h => ?_) (fun cdv A outer s H vs Q E hr h => ?_)
  · obtain ⟨H0, p, dx, z, q, l, rfl, _⟩ := h
    rfl
  obtain ⟨H0, p, dx, z, q, l, rfl, hp, hz, hs, hn, hq, k, kb⟩ := h
  have nd := scR_plain.nd
  have hr1 : Room 1 _ := hr.mono (by decide)
  have tk := takes_of (X := cxOf (L2.CX P w) P w K mg base ["self"] "Reader.plain" (defScope sR_plain) T.fR_plain cdv A outer s H E) rfl rfl rfl rfl
  obtain ⟨t1, hQ⟩ := T.g_QUOTE
  refine ⟨_, pss_cons (ps_if (pt_cmpR op_eq (pe_meth0 (pv 0) T.cl T.r_sign.m GS hr1 T.r_sign.b .nil pass0) pe_str (nomark _)) (pss_cons (ps_fldaug (pv 0) pe_int in_add) (pss_one (ps_ret pe_non))) pss_nil)
    (pss_cons (ps_if (pt_cmpR op_eq (pe_meth0 (pv 0) T.cl T.r_sign.m GS hr1 T.r_sign.b .nil pass0) (pe_glob (v := .str ("'" : Str)) rfl hQ ⟨_, rfl⟩) (nomark _))
      (pss_cons (ps_fldaug (pv 0) pe_int in_add) (pss_one (ps_ret (pe_meth0 (E := E) (pv 0) T.cl T.r_string.m GT hr T.r_string.b .nil (passes_call tk fun _ _ _ _ h => h))))) pss_nil)
    (pss_one (ps_ret (pe_meth0 (E := E) (pv 0) T.cl T.r_integer.m GI hr T.r_integer.b .nil (passes_call tk fun _ _ _ _ h => h))))), ?_⟩
  have noS : ∀ q, (rdr z q l).lookup ("sign" : Str) = none := fun q => rd_no z q l (by decide +kernel) (by decide +kernel) (by decide +kernel)
  have noT : ∀ q, (rdr z q l).lookup ("string" : Str) = none := fun q => rd_no z q l (by decide +kernel) (by decide +kernel) (by decide +kernel)
  have noI : ∀ q, (rdr z q l).lookup ("integer" : Str) = none := fun q => rd_no z q l (by decide +kernel) (by decide +kernel) (by decide +kernel)
  refine ⟨_, rfl, p, dx, _, rfl, hp, noS _, p, dx, z, q, l, rfl, hp, hz, rfl, _, rfl, ?_⟩
  rw [sg_is cs_dot]
  by_cases h46 : (tl z)[q]? = some 46
  · rw [decide_eq_true h46]
    refine iteT ⟨_, rfl, p, T.C, dx, _, _, rfl, hp, T.cl, T.n_place, rd_place z _ l, _, _, rfl, rfl, dx, _, hp, (by show 3 < 1000; decide), ?_⟩
    rw [rd_put]
    exact k .none .non (q + 1) _ (by unfold pl; rw [if_pos h46]) but_upd upd_same .non
  rw [decide_eq_false h46]
  refine iteF ⟨_, rfl, p, dx, _, rfl, hp, noS _, p, dx, z, q, l, rfl, hp, hz, rfl, _, rfl, ?_⟩
  rw [sg_is cs_quote]
  by_cases h39 : (tl z)[q]? = some 39
  · rw [decide_eq_true h39]
    refine iteT ⟨_, rfl, p, T.C, dx, _, _, rfl, hp, T.cl, T.n_place, rd_place z _ l, _, _, rfl, rfl, dx, _, hp, (by show 3 < 1000; decide), ?_⟩
    rw [rd_put]
    have hlt : q < (tl z).length := (List.getElem?_eq_some_iff.mp h39).1
    have ep : pl (tl z) q = RS (tl z) (q + 1) [] := by unfold pl; rw [if_neg h46, if_pos h39]
    have b1 : But p H (upd H p (.ins T.C dx (rdr z (q + 1) l))) := but_upd
    refine ⟨_, rfl, p, dx, _, rfl, upd_same, noT _, H0, p, dx, z, q + 1, l, rfl, upd_same, hz, same_but hs b1 hn, hn, by omega, fun u b H' er b' h' => ?_, fun n er => kb n (ep.trans er)⟩
    exact k (.str u) (.str u) b H' (ep.trans er) (b1.trans b') h' (.str u)
  · rw [decide_eq_false h39]
    have ep : pl (tl z) q = rint (tl z) q := by unfold pl; rw [if_neg h46, if_neg h39]
    refine iteF ⟨_, rfl, p, dx, _, rfl, hp, noI _, H0, p, dx, z, q, l, rfl, hp, hz, hs, hn, fun i b H' er b' h' => ?_, fun n er => kb n (ep.trans er)⟩
    exact k (.int i) (.int i) b H' (ep.trans er) b' h' (.int i)
end
end K28

/-! K28W7: Reader: enter_tuples, read; unpacked. -/
namespace K28
open PySem L2 TL
/-- the lists of the open tuples, the innermost first -/
def Lv (H : Hp) : List Addr → List (List PyData) → Prop
  | [], [] => True
  | b :: ls, t :: st => (∃ xs, H b = some (.lst xs) ∧ PuAll H xs t) ∧ b ∉ ls ∧ Lv H ls st
  | [], _ :: _ => False
  | _ :: _, [] => False
theorem Lv.len {H : Hp} : ∀ {ls : List Addr} {st : List (List PyData)}, Lv H ls st → ls.length = st.length
  | [], [], _ => rfl
  | _ :: ls, _ :: st, h => by simp only [List.length_cons]; rw [Lv.len h.2.2]
  | [], _ :: _, h => h.elim
  | _ :: _, [], h => h.elim
theorem Lv.mono {H H' : Hp} (k : TK H H') : ∀ {ls : List Addr} {st : List (List PyData)}, (∀ b ∈ ls, ∀ o, H b = some o → H' b = some o) → Lv H ls st → Lv H' ls st
  | [], [], _, _ => trivial
  | b :: ls, t :: st, h, v => by
    obtain ⟨⟨xs, e, pu⟩, n, r⟩ := v
    exact ⟨⟨xs, h b List.mem_cons_self _ e, PuAll.mono k t xs pu⟩, n, Lv.mono k (fun c hc => h c (List.mem_cons_of_mem _ hc)) r⟩
  | [], _ :: _, _, v => v.elim
  | _ :: _, [], _, v => v.elim
theorem Lv.mem {H : Hp} : ∀ {ls : List Addr} {st : List (List PyData)} {b : Addr}, Lv H ls st → b ∈ ls → ∃ xs, H b = some (.lst xs)
  | [], _, _, _, hb => nomatch hb
  | c :: ls, t :: st, b, h, hb => by
    obtain ⟨⟨xs, e, _⟩, _, r⟩ := h
    rcases List.mem_cons.mp hb with rfl | hb
    · exact ⟨xs, e⟩
    · exact Lv.mem r hb
  | _ :: _, [], _, h, _ => h.elim
theorem ne_mem {c b : Addr} {ls : List Addr} (h : c ∈ ls) (n : b ∉ ls) : c ≠ b := fun e => n (by rw [← e]; exact h)
/-- a Reader at p, at the place q, ls the lists of its open tuples, their things st; what stood in H0 stands -/
structure Rs (C : Addr) (H0 H : Hp) (p dx : Addr) (z : Str) (q : Nat) (l : Addr) (ls : List Addr) (st : List (List PyData)) : Prop where
  ins : H p = some (.ins C dx (rdr z q l))
  lst : H l = some (.lst (ls.reverse.map V.ref))
  lv : Lv H ls st
  base : Same H0 H
  np : H0 p = none
  nl : H0 l = none
  nls : ∀ b ∈ ls, H0 b = none
  ll : l ∉ ls
  len : st.length ≤ 30
  sml : ∀ t ∈ st, t.length ≤ q
section
variable {C : Addr} {H0 H H' : Hp} {p dx : Addr} {z : Str} {q q' : Nat} {l : Addr} {ls : List Addr} {st : List (List PyData)}
theorem Rs.lp (R : Rs C H0 H p dx z q l ls st) : l ≠ p := ne_of R.lst R.ins (by intro q; cases q)
theorem Rs.bp (R : Rs C H0 H p dx z q l ls st) {b : Addr} (hb : b ∈ ls) : b ≠ p := by
  obtain ⟨xs, e⟩ := R.lv.mem hb
  exact ne_of e R.ins (by intro q; cases q)
/-- the place alone changed, new things came -/
theorem Rs.but (R : Rs C H0 H p dx z q l ls st) (hq : q ≤ q') (b : But p H H') (h : H' p = some (.ins C dx (rdr z q' l))) : Rs C H0 H' p dx z q' l ls st :=
  ⟨h, b _ _ R.lp R.lst, R.lv.mono (b.tk R.ins) (fun c hc o e => b c o (R.bp hc) e), same_but R.base b R.np, R.np, R.nl, R.nls, R.ll, R.len, fun t ht => Nat.le_trans (R.sml t ht) hq⟩
theorem Rs.step (R : Rs C H0 H p dx z q l ls st) : Rs C H0 (upd H p (.ins C dx (rdr z (q + 1) l))) p dx z (q + 1) l ls st := R.but (Nat.le_succ _) but_upd upd_same
/-- a tuple is opened -/
theorem Rs.push (R : Rs C H0 H p dx z q l ls st) {b : Addr} (hb : H b = none) (hl : st.length < 30) : Rs C H0 (upd (upd H b (.lst [])) l (.lst (ls.reverse.map V.ref ++ [.ref b]))) p dx z q l (b :: ls) ([] :: st) := by
  have hbl : b ≠ l := fun e => by rw [e, R.lst] at hb; cases hb
  have hbp : b ≠ p := fun e => by rw [e, R.ins] at hb; cases hb
  have hbn : b ∉ ls := fun h => by
    obtain ⟨xs, e⟩ := R.lv.mem h
    rw [hb] at e; cases e
  have s1 : Same H (upd H b (.lst [])) := same_new hb _
  have hl1 : upd H b (.lst []) l = some (.lst (ls.reverse.map V.ref)) := s1 _ _ R.lst
  have k2 : TK H (upd (upd H b (.lst [])) l (.lst (ls.reverse.map V.ref ++ [.ref b]))) := (tk_of s1).trans (tk_upd (not_tup_lst hl1))
  refine ⟨?_, ?_, ⟨⟨[], ?_, .nil⟩, hbn, R.lv.mono k2 fun c hc o e => ?_⟩, fun c o e => ?_, R.np, R.nl, fun c hc => ?_, fun h => ?_, by simp only [List.length_cons]; omega, fun t ht => ?_⟩
  · rw [upd_ne R.lp.symm, upd_ne hbp.symm]; exact R.ins
  · rw [upd_same]; simp
  · rw [upd_ne hbl]; exact upd_same
  · rw [upd_ne (ne_mem hc R.ll), upd_ne (ne_mem hc hbn)]; exact e
  · rw [upd_ne (fun z => by rw [z, R.nl] at e; cases e)]
    exact s1 _ _ (R.base _ _ e)
  · rcases List.mem_cons.mp hc with rfl | hc
    · exact R.base.free hb
    · exact R.nls c hc
  · rcases List.mem_cons.mp h with e | h
    · exact hbl e.symm
    · exact R.ll h
  · rcases List.mem_cons.mp ht with e | ht
    · rw [e]; exact Nat.zero_le _
    · exact R.sml t ht
/-- a thing is put into the innermost -/
theorem Rs.app {b : Addr} {t : List PyData} {xs : List V} {v : V} {d : PyData} (R : Rs C H0 H p dx z q l (b :: ls) (t :: st)) (hb : H b = some (.lst xs)) (hv : Pu H v d) (ht : t.length + 1 ≤ q) : Rs C H0 (upd H b (.lst (xs ++ [v]))) p dx z q l (b :: ls) ((t ++ [d]) :: st) := by
  obtain ⟨⟨xs', e', pu⟩, nb, r⟩ := R.lv
  have exx : xs' = xs := by rw [hb] at e'; injection e' with e'; injection e' with e'; exact e'.symm
  subst exx
  have hbl : b ≠ l := fun e => R.ll (by rw [← e]; exact List.mem_cons_self)
  have hbp : b ≠ p := R.bp List.mem_cons_self
  have k2 : TK H (upd H b (.lst (xs' ++ [v]))) := tk_upd (not_tup_lst hb)
  refine ⟨?_, ?_, ⟨⟨_, upd_same, PuAll.snoc (Pu.mono k2 _ _ hv) (PuAll.mono k2 _ _ pu)⟩, nb, r.mono k2 fun c hc o e => ?_⟩, fun c o e => ?_, R.np, R.nl, R.nls, R.ll, R.len, fun t' ht' => ?_⟩
  · rw [upd_ne hbp.symm]; exact R.ins
  · rw [upd_ne hbl.symm]; exact R.lst
  · rw [upd_ne (ne_mem hc nb)]; exact e
  · rw [upd_ne (fun z => by rw [z, R.nls b List.mem_cons_self] at e; cases e)]; exact R.base _ _ e
  · rcases List.mem_cons.mp ht' with e | h'
    · rw [e]; simpa using ht
    · exact R.sml t' (List.mem_cons_of_mem _ h')
/-- the innermost is taken away and made a tuple -/
theorem Rs.pop {b : Addr} {t : List PyData} {xs : List V} {a : Addr} (R : Rs C H0 H p dx z q l (b :: ls) (t :: st)) (hb : H b = some (.lst xs)) (ha : upd H l (.lst (ls.reverse.map V.ref)) a = none) :
    Rs C H0 (upd (upd H l (.lst (ls.reverse.map V.ref))) a (.tup xs)) p dx z q l ls st ∧ Pu (upd (upd H l (.lst (ls.reverse.map V.ref))) a (.tup xs)) (.ref a) (.tuple t) := by
  obtain ⟨⟨xs', e', pu⟩, nb, r⟩ := R.lv
  have exx : xs' = xs := by rw [hb] at e'; injection e' with e'; injection e' with e'; exact e'.symm
  subst exx
  have k1 : TK H (upd H l (.lst (ls.reverse.map V.ref))) := tk_upd (not_tup_lst R.lst)
  have s2 : Same (upd H l (.lst (ls.reverse.map V.ref))) (upd (upd H l (.lst (ls.reverse.map V.ref))) a (.tup xs')) := same_new ha _
  have k2 := k1.trans (tk_of s2)
  have hll : l ∉ ls := fun h => R.ll (List.mem_cons_of_mem _ h)
  refine ⟨⟨?_, s2 _ _ upd_same, r.mono k2 fun c hc o e => ?_, fun c o e => ?_, R.np, R.nl, fun c hc => R.nls c (List.mem_cons_of_mem _ hc), hll, ?_, fun t' ht' => R.sml t' (List.mem_cons_of_mem _ ht')⟩, .tup upd_same (PuAll.mono k2 _ _ pu)⟩
  · exact s2 _ _ (by rw [upd_ne R.lp.symm]; exact R.ins)
  · exact s2 _ _ (by rw [upd_ne (ne_mem hc hll)]; exact e)
  · exact s2 _ _ (by rw [upd_ne (fun z => by rw [z, R.nl] at e; cases e)]; exact R.base _ _ e)
  · have := R.len
    simp only [List.length_cons] at this
    omega
end
theorem unw_bad {x : Cs} {st : List (List PyData)} {n : Nat} {G : Fin} (u : Unw x st (.bad n) G) : G = .wrong n := by
  cases u; rfl
section
variable {P : Program} {w : World} {K : PySem.W.Frag} {mg : Str → Option Value} {base : Heap}
def spEnter (C CB : Addr) : Sp := fun vs H Q E => ∃ (H0 : Hp) (p dx : Addr) (z : Str) (q : Nat) (l : Addr) (ls : List Addr) (st : List (List PyData)) (r : Res) (G : Fin), vs = [.ref p] ∧ z.length ≤ 10000 ∧ Rs C H0 H p dx z q l ls st ∧ q ≤ (tl z).length ∧
  Go (tl z) .item q st.length r ∧ Unw (tl z) st r G ∧
  (∀ (H' : Hp) (q' : Nat) (ls' : List Addr) (st' : List (List PyData)) (r' : Res), Rs C H0 H' p dx z q' l ls' st' → q ≤ q' → q' ≤ (tl z).length → (tl z)[q']? ≠ some 40 → Go (tl z) .item q' st'.length r' → Unw (tl z) st' r' G → Q (.bl false) H') ∧
  (∀ (H' : Hp) (q' : Nat) (b : Addr) (ls' : List Addr) (st' : List (List PyData)), Rs C H0 H' p dx z q' l (b :: ls') ([] :: st') → q ≤ q' → q' ≤ (tl z).length → (∀ t ∈ st', t.length + 1 ≤ q') → Unw (tl z) st' (.ok (.tuple []) q') G → Q (.bl true) H') ∧
  (∀ n, G = .wrong n → BadE CB H0 E n)
theorem ok_enter (T : Tx P K mg) : FnOk P w K mg base (L2.CX P w) 4 T.fR_enter T.dR_enter ["self"] (spEnter T.C T.CB) := by
  have GS := ok_sign (P := P) (w := w) (base := base) T
  have GW := ok_wrong (P := P) (w := w) (base := base) T
  refine T.r_enter.F.okX scR_enter (fun vs H Q E h => ?_) (fun cdv A outer s H vs Q E hr h => ?_)
  · obtain ⟨H0, p, dx, z, q, l, ls, st, r, G, rfl, _⟩ := h
    rfl
  obtain ⟨H0, p, dx, z, q, l, ls, st, r, G, rfl, hz, R, hq, g, u, kF, kT, kB⟩ := h
  have nd := scR_enter.nd
  have hr1 : Room 1 _ := hr.mono (by decide)
  have tk := takes_of (X := cxOf (L2.CX P w) P w K mg base ["self"] "Reader.enter_tuples" (defScope sR_enter) T.fR_enter cdv A outer s H E) rfl rfl rfl rfl
  obtain ⟨t1, hM⟩ := T.g_MOST_DEEP
  refine ⟨_, pss_cons (ps_while (passes_of rfl) (pt_cmpR op_eq (pe_meth0 (pv 0) T.cl T.r_sign.m GS hr1 T.r_sign.b .nil pass0) pe_str (nomark _))
      (pss_cons (ps_if (pt_cmpR op_eq (pe_callB call_len_seq (by rfl) T.z_len PySem.boot_len (pa_cons (pe_fld (pv 0) rfl) pa_nil)) (pe_glob (v := .int 30) rfl hM ⟨_, rfl⟩) (nomark _))
          (pss_one (ps_expr (pe_meth0 (E := E) (pv 0) T.cl T.r_wrong.m GW hr T.r_wrong.b .nil (passes_call tk fun _ _ _ _ h => h)))) pss_nil)
      (pss_cons (ps_expr (pe_bm PySem.F.plainAttrs_list PySem.F.slot_list_append PySem.F.type_list_append mt_append (pe_fld (pv 0) rfl) (pa_cons (pe_lst pa_nil) pa_nil)))
      (pss_cons (ps_fldaug (pv 0) pe_int in_add)
      (pss_one (ps_if (pt_cmpR op_eq (pe_meth0 (pv 0) T.cl T.r_sign.m GS hr1 T.r_sign.b .nil pass0) pe_str (nomark _)) (pss_cons (ps_fldaug (pv 0) pe_int in_add) (pss_one (ps_ret pe_bl))) pss_nil)))))
    ) (pss_one (ps_ret pe_bl)), ?_⟩
  have noS : ∀ q, (rdr z q l).lookup ("sign" : Str) = none := fun q => rd_no z q l (by decide +kernel) (by decide +kernel) (by decide +kernel)
  have noW : ∀ q, (rdr z q l).lookup ("wrong" : Str) = none := fun q => rd_no z q l (by decide +kernel) (by decide +kernel) (by decide +kernel)
  refine ⟨fun m σ H1 => ∃ (j : Nat) (ls' : List Addr) (st' : List (List PyData)) (r' : Res), m = 31 - st'.length ∧ σ = [some (.ref p)] ∧ Rs T.C H0 H1 p dx z j l ls' st' ∧ q ≤ j ∧ j ≤ (tl z).length ∧ Go (tl z) .item j st'.length r' ∧ Unw (tl z) st' r' G,
    ⟨_, q, ls, st, r, rfl, rfl, R, Nat.le_refl _, hq, g, u⟩, ?_⟩
  rintro m σ H1 ⟨j, ls', st', r', rfl, rfl, R1, hqj, hj, g1, u1⟩
  refine ⟨_, rfl, p, dx, _, rfl, R1.ins, noS _, p, dx, z, j, l, rfl, R1.ins, hz, rfl, _, rfl, ?_⟩
  rw [sg_is cs_open]
  by_cases h40 : (tl z)[j]? = some 40
  · rw [decide_eq_true h40]
    refine iteT ⟨fun τ J => ∃ (j2 : Nat) (ls2 : List Addr) (st2 : List (List PyData)) (r2 : Res), τ = [some (.ref p)] ∧ st2.length = st'.length + 1 ∧ Rs T.C H0 J p dx z j2 l ls2 st2 ∧ q ≤ j2 ∧ j2 ≤ (tl z).length ∧ Go (tl z) .item j2 st2.length r2 ∧ Unw (tl z) st2 r2 G, ?_, ?_⟩
    · rintro τ J ⟨j2, ls2, st2, r2, rfl, a1, a2, a3, a4, a5, a6⟩
      have := a2.len
      exact ⟨_, by omega, j2, ls2, st2, r2, rfl, rfl, a2, a3, a4, a5, a6⟩
    have hll : ((ls'.reverse.map V.ref).length : Int) = (st'.length : Int) := by rw [List.length_map, List.length_reverse, R1.lv.len]
    have hlt : j < (tl z).length := (List.getElem?_eq_some_iff.mp h40).1
    refine ⟨_, rfl, p, T.C, dx, _, _, rfl, R1.ins, T.cl, T.n_levels, rd_levels z _ l, l, _, rfl, .inl (SqL.of R1.lst), rfl, _, rfl, ?_⟩
    rw [hll]
    by_cases h30 : st'.length = 30
    · have e30 : decide (V.int (st'.length : Int) = V.int 30) = true := decide_eq_true (by rw [h30]; first | done | rfl)
      rw [e30]
      have er : r' = .bad j := by
        cases g1 with
        | deep _ _ => rfl
        | par _ h _ => omega
        | fin e => rfl
        | dot e => rw [h40] at e; cases e
        | quo e => rw [h40] at e; cases e
        | num e _ _ h3 => rw [h40] at e; exact absurd (Option.some.inj e).symm h3
      subst er
      have eG := unw_bad u1
      exact iteT ⟨_, rfl, p, dx, _, rfl, R1.ins, noW _, p, dx, z, j, l, rfl, R1.ins, fun dd hd => kB j eG dd _ (same_xd R1.base hd) upd_same⟩
    · have e30 : decide (V.int (st'.length : Int) = V.int 30) = false := decide_eq_false (fun e => h30 (by have := V.int.inj e; omega))
      rw [e30]
      have hlen := R1.len
      have g2 : Go (tl z) .tup (j + 1) (st'.length + 1) r' := by
        cases g1 with
        | deep _ h => omega
        | par _ h g => exact g
        | fin e => rw [h40] at e; cases e
        | dot e => rw [h40] at e; cases e
        | quo e => rw [h40] at e; cases e
        | num e _ _ h3 => rw [h40] at e; exact absurd (Option.some.inj e).symm h3
      have hsz : (ls'.reverse.map V.ref).length < sizeLine := by
        rw [List.length_map, List.length_reverse, R1.lv.len]
        exact Nat.lt_of_le_of_lt hlen (by decide)
      refine iteF ⟨_, rfl, p, T.C, dx, _, _, rfl, R1.ins, T.cl, T.n_levels, rd_levels z _ l, .inl ⟨rfl, _, SqL.of R1.lst⟩, (by show 0 ≤ sizeLine; decide), fun b hb => ?_⟩
      have R2 := R1.push hb (by omega)
      have hl1 : upd H1 b (.lst []) l = some (.lst (ls'.reverse.map V.ref)) := same_new hb _ _ _ R1.lst
      refine ⟨l, _, _, rfl, rfl, hl1, hsz, ?_⟩
      refine ⟨_, rfl, p, T.C, dx, _, _, rfl, R2.ins, T.cl, T.n_place, rd_place z _ l, _, _, rfl, rfl, dx, _, R2.ins, (by show 3 < 1000; decide), ?_⟩
      rw [rd_put]
      have R3 := R2.step
      refine ⟨_, rfl, p, dx, _, rfl, R3.ins, noS _, p, dx, z, j + 1, l, rfl, R3.ins, hz, rfl, _, rfl, ?_⟩
      rw [sg_is cs_close]
      by_cases h41 : (tl z)[j + 1]? = some 41
      · rw [decide_eq_true h41]
        have hlt2 : j + 1 < (tl z).length := (List.getElem?_eq_some_iff.mp h41).1
        refine iteT ⟨_, rfl, p, T.C, dx, _, _, rfl, R3.ins, T.cl, T.n_place, rd_place z _ l, _, _, rfl, rfl, dx, _, R3.ins, (by show 3 < 1000; decide), ?_⟩
        rw [rd_put]
        have R4 := R3.step
        have er : r' = .ok (.tuple []) (j + 1 + 1) := by
          cases g2 with
          | tup0 _ => rfl
          | tup1 h _ => exact absurd h41 h
        subst er
        exact kT _ _ b ls' st' R4 (by omega) (by omega) (fun t ht => by have := R1.sml t ht; omega) u1
      · rw [decide_eq_false h41]
        have g3 : Go (tl z) (.more []) (j + 1) (st'.length + 1) r' := by
          cases g2 with
          | tup0 h => exact absurd h h41
          | tup1 _ g => exact g
        obtain ⟨r2, g4, u4⟩ := K28.push g3 u1
        exact iteF ⟨j + 1, b :: ls', [] :: st', r2, rfl, rfl, R3, by omega, by omega, g4, u4⟩
  · rw [decide_eq_false h40]
    exact iteF (kF H1 j ls' st' r' R1 hqj hj h40 g1 u1)
end
end K28

/-! K28W8: Reader.read; unpacked. -/
namespace K28
open PySem L2 TL
theorem pl_bd {x : Cs} {q : Nat} (hq : q ≤ x.length) {d : PyData} {b : Nat} (e : pl x q = .ok d b) : q < b ∧ b ≤ x.length := by
  unfold pl at e
  split at e
  · rename_i h
    have := (List.getElem?_eq_some_iff.mp h).1
    injection e with _ e2
    omega
  · split at e
    · rename_i h
      have h1 := (List.getElem?_eq_some_iff.mp h).1
      have := RS_fine x _ (q + 1) [] (Nat.le_refl _) (by omega) (fun _ hm => nomatch hm) d b e
      omega
    · by_cases hlt : q < x.length
      · have := rint_fine hlt e
        omega
      · rw [rint_none (List.getElem?_eq_none_iff.mpr (by omega))] at e
        cases e
/-- the statements of read's loop behind the first -/
def restR : List Stmt := match defBody sR_read with
  | [.While _ (_ :: r) _ _] => r
  | _ => []
section
variable {P : Program} {w : World} {K : PySem.W.Frag} {mg : Str → Option Value} {base : Heap}
theorem read_rest (T : Tx P K mg) {cdv : Value} {A : Around} {outer : List Env} {s : Shared} {H : Hp} {E : XK} {H0 : Hp} {p dx : Addr} {z : Str} {l : Addr} {G : Fin}
    (hr : Room 5 (A.deeper (PyProof.Rows.envOfC "Reader.read" (defScope sR_read) s.heap.objs.size T.fR_read cdv))) (hz : z.length ≤ 10000) (kB : ∀ n, G = .wrong n → BadE T.CB H0 E n) :
    ∃ t, PSs (cxOf (L2.CX P w) P w K mg base ["self", "told"] "Reader.read" (defScope sR_read) T.fR_read cdv A outer s H E) restR t ∧
      ∀ (D : Ends) (H2 : Hp) (q0 b : Nat) (ls : List Addr) (st : List (List PyData)) (v : V) (d : PyData), Rs T.C H0 H2 p dx z b l ls st → Pu H2 v d → Unw (tl z) st (.ok d b) G → q0 ≤ b → b ≤ (tl z).length → (∀ t ∈ st, t.length + 1 ≤ b) →
        (∀ (H' : Hp) (q' : Nat) (ls' : List Addr) (st' : List (List PyData)) (r' : Res) (v' : Option V), Rs T.C H0 H' p dx z q' l ls' st' → q0 < q' → q' ≤ (tl z).length → Go (tl z) .item q' st'.length r' → Unw (tl z) st' r' G → D.nx [some (.ref p), v'] H') →
        (∀ (H' : Hp) (v' : V) (d' : PyData), G = .good d' → Same H0 H' → Pu H' v' d' → D.rt v' H') → t D [some (.ref p), some v] H2 := by
  have GS := ok_sign (P := P) (w := w) (base := base) T
  have GW := ok_wrong (P := P) (w := w) (base := base) T
  have nd := scR_read.nd
  have hr1 : Room 1 _ := hr.mono (by decide)
  have hr3 : Room 3 _ := hr.mono (by decide)
  have tk := takes_of (X := cxOf (L2.CX P w) P w K mg base ["self", "told"] "Reader.read" (defScope sR_read) T.fR_read cdv A outer s H E) rfl rfl rfl rfl
  refine ⟨_, pss_cons (ps_while (passes_of rfl) (pt_cmpR op_gt (pe_callB call_len_seq (by rfl) T.z_len PySem.boot_len (pa_cons (pe_fld (pv 0) rfl) pa_nil)) pe_int (nomark _))
      (pss_cons (ps_expr (pe_bm PySem.F.plainAttrs_list PySem.F.slot_list_append PySem.F.type_list_append mt_append (pe_ix ix_list (pe_fld (pv 0) rfl) (pe_un un_neg pe_int) (fun _ _ => rfl)) (pa_cons (pv 1) pa_nil)))
      (pss_cons (ps_if (pt_cmpR op_ne (pe_meth0 (pv 0) T.cl T.r_sign.m GS hr1 T.r_sign.b .nil pass0) pe_str (nomark _)) (pss_one ps_break) pss_nil)
      (pss_cons (ps_set (i := 1) nd rfl (Or.inl rfl) (pe_callTy call_tuple_of (by rfl) T.z_tuple (by decide +kernel) (pa_cons (pe_bm0 PySem.F.plainAttrs_list PySem.F.slot_list_pop PySem.F.type_list_pop mt_pop (pe_fld (pv 0) rfl)) pa_nil)))
      (pss_one (ps_fldaug (pv 0) pe_int in_add))))))
    (pss_cons (ps_if (pt_cmpR op_eq (pe_callB call_len_seq (by rfl) T.z_len PySem.boot_len (pa_cons (pe_fld (pv 0) rfl) pa_nil)) pe_int (nomark _))
      (pss_cons (ps_if (pt_cmpR op_ne (pe_meth0 (pv 0) T.cl T.r_sign.m GS hr1 T.r_sign.b .nil pass0) pe_str (nomark _))
          (pss_one (ps_expr (pe_meth0 (E := E) (pv 0) T.cl T.r_wrong.m GW hr3 T.r_wrong.b .nil (passes_call tk fun _ _ _ _ h => h)))) pss_nil)
        (pss_one (ps_ret (pv 1)))) pss_nil)
    (pss_cons (ps_if (pt_cmpR op_ne (pe_meth0 (pv 0) T.cl T.r_sign.m GS hr1 T.r_sign.b .nil pass0) pe_str (nomark _))
        (pss_one (ps_expr (pe_meth0 (E := E) (pv 0) T.cl T.r_wrong.m GW hr3 T.r_wrong.b .nil (passes_call tk fun _ _ _ _ h => h)))) pss_nil)
    (pss_one (ps_fldaug (pv 0) pe_int in_add)))), ?_⟩
  intro D H2 q0 b ls st v d R hv u hq0 hb hsm kN kR
  have noS : ∀ q, (rdr z q l).lookup ("sign" : Str) = none := fun q => rd_no z q l (by decide +kernel) (by decide +kernel) (by decide +kernel)
  have noW : ∀ q, (rdr z q l).lookup ("wrong" : Str) = none := fun q => rd_no z q l (by decide +kernel) (by decide +kernel) (by decide +kernel)
  refine ⟨fun m σ H1 => ∃ (b1 : Nat) (ls1 : List Addr) (st1 : List (List PyData)) (v1 : V) (d1 : PyData), m = st1.length ∧ σ = [some (.ref p), some v1] ∧ Rs T.C H0 H1 p dx z b1 l ls1 st1 ∧ Pu H1 v1 d1 ∧ Unw (tl z) st1 (.ok d1 b1) G ∧ q0 ≤ b1 ∧ b1 ≤ (tl z).length ∧ (∀ t ∈ st1, t.length + 1 ≤ b1),
    ⟨_, b, ls, st, v, d, rfl, rfl, R, hv, u, hq0, hb, hsm⟩, ?_⟩
  rintro m σ H1 ⟨b1, ls1, st1, v1, d1, rfl, rfl, R1, hv1, u1, hqb, hb1, hsm1⟩
  have hll : ∀ {ls : List Addr} {st : List (List PyData)} {J : Hp} {b : Nat}, Rs T.C H0 J p dx z b l ls st → ((ls.reverse.map V.ref).length : Int) = (st.length : Int) := fun R => by rw [List.length_map, List.length_reverse, R.lv.len]
  refine ⟨_, rfl, p, T.C, dx, _, _, rfl, R1.ins, T.cl, T.n_levels, rd_levels z _ l, l, _, rfl, .inl (SqL.of R1.lst), _, _, rfl, rfl, _, rfl, ?_⟩
  rw [hll R1]
  cases u1 with
  | tip hx =>
    refine iteF ⟨_, rfl, p, T.C, dx, _, _, rfl, R1.ins, T.cl, T.n_levels, rd_levels z _ l, l, _, rfl, .inl (SqL.of R1.lst), rfl, _, rfl, ?_⟩
    rw [hll R1]
    refine iteT ⟨_, rfl, p, dx, _, rfl, R1.ins, noS _, p, dx, z, b1, l, rfl, R1.ins, hz, rfl, _, rfl, ?_⟩
    rw [sg_end, decide_eq_true hx]
    exact iteF ⟨_, rfl, kR H1 v1 d1 rfl R1.base hv1⟩
  | @tail _ _ c hx =>
    refine iteF ⟨_, rfl, p, T.C, dx, _, _, rfl, R1.ins, T.cl, T.n_levels, rd_levels z _ l, l, _, rfl, .inl (SqL.of R1.lst), rfl, _, rfl, ?_⟩
    rw [hll R1]
    refine iteT ⟨_, rfl, p, dx, _, rfl, R1.ins, noS _, p, dx, z, b1, l, rfl, R1.ins, hz, rfl, _, rfl, ?_⟩
    rw [sg_end, decide_eq_false (by rw [hx]; nofun)]
    exact iteT ⟨_, rfl, p, dx, _, rfl, R1.ins, noW _, p, dx, z, b1, l, rfl, R1.ins, fun dd hd => kB b1 rfl dd _ (same_xd R1.base hd) upd_same⟩
  | @close lt st2 _ _ _ hx u2 =>
    obtain ⟨a, ls2, rfl⟩ : ∃ a ls2, ls1 = a :: ls2 := by
      cases ls1 with
      | nil => exact R1.lv.elim
      | cons a ls2 => exact ⟨a, ls2, rfl⟩
    obtain ⟨xs, ea, pu⟩ := R1.lv.1
    have hpos : decide (((lt :: st2).length : Int) > 0) = true := decide_eq_true (by simp only [List.length_cons]; omega)
    rw [hpos]
    have hlt : lt.length + 1 ≤ b1 := hsm1 lt List.mem_cons_self
    have R2 := R1.app ea hv1 hlt
    have erev : ((a :: ls2).reverse.map V.ref) = ls2.reverse.map V.ref ++ [V.ref a] := by simp
    have hlast : atI ((a :: ls2).reverse.map V.ref) (-1) = some (V.ref a) := by rw [erev]; exact atI_last _ _
    have hsz : xs.length < sizeLine := by
      rw [pu.length]
      have : z.length = (tl z).length := len_tl z
      exact Nat.lt_of_le_of_lt (show lt.length ≤ 10000 by omega) (by decide)
    have hxl : b1 < (tl z).length := (List.getElem?_eq_some_iff.mp hx).1
    refine iteT ⟨fun τ J => ∃ (b3 : Nat) (ls3 : List Addr) (v3 : V) (d3 : PyData), τ = [some (.ref p), some v3] ∧ Rs T.C H0 J p dx z b3 l ls3 st2 ∧ Pu J v3 d3 ∧ Unw (tl z) st2 (.ok d3 b3) G ∧ q0 ≤ b3 ∧ b3 ≤ (tl z).length ∧ (∀ t ∈ st2, t.length + 1 ≤ b3), ?_, ?_⟩
    · rintro τ J ⟨b3, ls3, v3, d3, rfl, a1, a2, a3, a4, a5, a6⟩
      exact ⟨st2.length, by simp only [List.length_cons]; omega, b3, ls3, st2, v3, d3, rfl, rfl, a1, a2, a3, a4, a5, a6⟩
    refine ⟨_, rfl, p, T.C, dx, _, _, rfl, R1.ins, T.cl, T.n_levels, rd_levels z _ l, _, rfl, l, _, _, _, rfl, rfl, SqL.of R1.lst, hlast, .inl ⟨rfl, _, SqL.of ea⟩, _, rfl, a, _, _, rfl, rfl, ea, hsz, ?_⟩
    refine ⟨_, rfl, p, dx, _, rfl, R2.ins, noS _, p, dx, z, b1, l, rfl, R2.ins, hz, rfl, _, rfl, ?_⟩
    rw [sg_is cs_close, decide_eq_true hx]
    refine iteF ⟨_, rfl, p, T.C, dx, _, _, rfl, R2.ins, T.cl, T.n_levels, rd_levels z _ l, .inl ⟨rfl, _, SqL.of R2.lst⟩, l, _, V.ref a, rfl, rfl, R2.lst, by rw [erev]; simp, a, xs ++ [v1], rfl, .inl ⟨?_, fun t ht => ?_⟩⟩
    · refine SqL.of ?_
      rw [upd_ne (fun e => R2.ll (by rw [← e]; exact List.mem_cons_self))]
      exact upd_same
    · have edl : ((a :: ls2).reverse.map V.ref).dropLast = ls2.reverse.map V.ref := by rw [erev]; simp
      rw [edl] at ht ⊢
      obtain ⟨R3, pu3⟩ := R2.pop upd_same ht
      refine ⟨_, rfl, p, T.C, dx, _, _, rfl, R3.ins, T.cl, T.n_place, rd_place z _ l, _, _, rfl, rfl, dx, _, R3.ins, (by show 3 < 1000; decide), ?_⟩
      rw [rd_put]
      exact ⟨b1 + 1, ls2, V.ref t, _, rfl, R3.step, Pu.mono (but_upd.tk R3.ins) _ _ pu3, u2, by omega, by omega, fun t' ht' => by have := hsm1 t' (List.mem_cons_of_mem _ ht'); omega⟩
  | @more lt st2 _ _ r2 _ hx g2 u2 =>
    obtain ⟨a, ls2, rfl⟩ : ∃ a ls2, ls1 = a :: ls2 := by
      cases ls1 with
      | nil => exact R1.lv.elim
      | cons a ls2 => exact ⟨a, ls2, rfl⟩
    obtain ⟨xs, ea, pu⟩ := R1.lv.1
    have hpos : decide (((lt :: st2).length : Int) > 0) = true := decide_eq_true (by simp only [List.length_cons]; omega)
    rw [hpos]
    have hlt : lt.length + 1 ≤ b1 := hsm1 lt List.mem_cons_self
    have R2 := R1.app ea hv1 hlt
    have erev : ((a :: ls2).reverse.map V.ref) = ls2.reverse.map V.ref ++ [V.ref a] := by simp
    have hlast : atI ((a :: ls2).reverse.map V.ref) (-1) = some (V.ref a) := by rw [erev]; exact atI_last _ _
    have hsz : xs.length < sizeLine := by
      rw [pu.length]
      have : z.length = (tl z).length := len_tl z
      exact Nat.lt_of_le_of_lt (show lt.length ≤ 10000 by omega) (by decide)
    have hxl : b1 < (tl z).length := (List.getElem?_eq_some_iff.mp hx).1
    refine iteT ⟨fun _ _ => False, fun _ _ h => h.elim, ?_⟩
    refine ⟨_, rfl, p, T.C, dx, _, _, rfl, R1.ins, T.cl, T.n_levels, rd_levels z _ l, _, rfl, l, _, _, _, rfl, rfl, SqL.of R1.lst, hlast, .inl ⟨rfl, _, SqL.of ea⟩, _, rfl, a, _, _, rfl, rfl, ea, hsz, ?_⟩
    refine ⟨_, rfl, p, dx, _, rfl, R2.ins, noS _, p, dx, z, b1, l, rfl, R2.ins, hz, rfl, _, rfl, ?_⟩
    rw [sg_is cs_close, decide_eq_false (by rw [hx]; decide)]
    refine iteT ⟨_, rfl, p, T.C, dx, _, _, rfl, R2.ins, T.cl, T.n_levels, rd_levels z _ l, l, _, rfl, .inl (SqL.of R2.lst), rfl, _, rfl, ?_⟩
    rw [hll R2]
    have e0 : decide (V.int (((lt ++ [d1]) :: st2).length : Int) = V.int 0) = false := decide_eq_false (fun e => by have := V.int.inj e; simp only [List.length_cons] at this; omega)
    rw [e0]
    refine iteF ⟨_, rfl, p, dx, _, rfl, R2.ins, noS _, p, dx, z, b1, l, rfl, R2.ins, hz, rfl, _, rfl, ?_⟩
    rw [sg_is cs_comma, decide_eq_true hx]
    refine iteF ⟨_, rfl, p, T.C, dx, _, _, rfl, R2.ins, T.cl, T.n_place, rd_place z _ l, _, _, rfl, rfl, dx, _, R2.ins, (by show 3 < 1000; decide), ?_⟩
    rw [rd_put]
    obtain ⟨r3, g3, u3⟩ := K28.push g2 u2
    exact kN _ _ _ _ r3 _ R2.step (by omega) (by omega) g3 u3
  | @odd lt st2 _ _ h1 h2 =>
    obtain ⟨a, ls2, rfl⟩ : ∃ a ls2, ls1 = a :: ls2 := by
      cases ls1 with
      | nil => exact R1.lv.elim
      | cons a ls2 => exact ⟨a, ls2, rfl⟩
    obtain ⟨xs, ea, pu⟩ := R1.lv.1
    have hpos : decide (((lt :: st2).length : Int) > 0) = true := decide_eq_true (by simp only [List.length_cons]; omega)
    rw [hpos]
    have hlt : lt.length + 1 ≤ b1 := hsm1 lt List.mem_cons_self
    have R2 := R1.app ea hv1 hlt
    have erev : ((a :: ls2).reverse.map V.ref) = ls2.reverse.map V.ref ++ [V.ref a] := by simp
    have hlast : atI ((a :: ls2).reverse.map V.ref) (-1) = some (V.ref a) := by rw [erev]; exact atI_last _ _
    have hsz : xs.length < sizeLine := by
      rw [pu.length]
      have : z.length = (tl z).length := len_tl z
      exact Nat.lt_of_le_of_lt (show lt.length ≤ 10000 by omega) (by decide)
    refine iteT ⟨fun _ _ => False, fun _ _ h => h.elim, ?_⟩
    refine ⟨_, rfl, p, T.C, dx, _, _, rfl, R1.ins, T.cl, T.n_levels, rd_levels z _ l, _, rfl, l, _, _, _, rfl, rfl, SqL.of R1.lst, hlast, .inl ⟨rfl, _, SqL.of ea⟩, _, rfl, a, _, _, rfl, rfl, ea, hsz, ?_⟩
    refine ⟨_, rfl, p, dx, _, rfl, R2.ins, noS _, p, dx, z, b1, l, rfl, R2.ins, hz, rfl, _, rfl, ?_⟩
    rw [sg_is cs_close, decide_eq_false h1]
    refine iteT ⟨_, rfl, p, T.C, dx, _, _, rfl, R2.ins, T.cl, T.n_levels, rd_levels z _ l, l, _, rfl, .inl (SqL.of R2.lst), rfl, _, rfl, ?_⟩
    rw [hll R2]
    have e0 : decide (V.int (((lt ++ [d1]) :: st2).length : Int) = V.int 0) = false := decide_eq_false (fun e => by have := V.int.inj e; simp only [List.length_cons] at this; omega)
    rw [e0]
    refine iteF ⟨_, rfl, p, dx, _, rfl, R2.ins, noS _, p, dx, z, b1, l, rfl, R2.ins, hz, rfl, _, rfl, ?_⟩
    rw [sg_is cs_comma, decide_eq_false h2]
    exact iteT ⟨_, rfl, p, dx, _, rfl, R2.ins, noW _, p, dx, z, b1, l, rfl, R2.ins, fun dd hd => kB b1 rfl dd _ (same_xd R2.base hd) upd_same⟩
end
end K28

/-! K28W9: Reader.read; unpacked. -/
namespace K28
open PySem L2 TL
section
variable {P : Program} {w : World} {K : PySem.W.Frag} {mg : Str → Option Value} {base : Heap}
def spRead (C CB : Addr) : Sp := fun vs H Q E => ∃ (H0 : Hp) (p dx : Addr) (z : Str) (l : Addr) (r : Res) (G : Fin), vs = [.ref p] ∧ z.length ≤ 10000 ∧ Rs C H0 H p dx z 0 l [] [] ∧ Go (tl z) .item 0 0 r ∧ Unw (tl z) [] r G ∧
  (∀ (H' : Hp) (v : V) (d : PyData), G = .good d → Same H0 H' → Pu H' v d → Q v H') ∧ (∀ n, G = .wrong n → BadE CB H0 E n)
theorem ok_read (T : Tx P K mg) : FnOk P w K mg base (L2.CX P w) 6 T.fR_read T.dR_read ["self"] (spRead T.C T.CB) := by
  have GE := ok_enter (P := P) (w := w) (base := base) T
  have GP := ok_plain (P := P) (w := w) (base := base) T
  refine T.r_read.F.okX scR_read (fun vs H Q E h => ?_) (fun cdv A outer s H vs Q E hr h => ?_)
  · obtain ⟨H0, p, dx, z, l, r, G, rfl, _⟩ := h
    rfl
  obtain ⟨H0, p, dx, z, l, r, G, rfl, hz, R, g, u, kR, kB⟩ := h
  have nd := scR_read.nd
  have hr4 : Room 4 _ := hr.mono (by decide)
  have tk := takes_of (X := cxOf (L2.CX P w) P w K mg base ["self", "told"] "Reader.read" (defScope sR_read) T.fR_read cdv A outer s H E) rfl rfl rfl rfl
  obtain ⟨t, ht, hq⟩ := read_rest (P := P) (w := w) (base := base) T (H := H) (E := E) (H0 := H0) (p := p) (dx := dx) (z := z) (l := l) (G := G) hr hz kB
  have body : PSs (cxOf (L2.CX P w) P w K mg base ["self", "told"] "Reader.read" (defScope sR_read) T.fR_read cdv A outer s H E) (match defBody sR_read with | [.While _ b _ _] => b | _ => []) _ :=
    pss_cons (ps_set (i := 1) nd rfl (Or.inl rfl) (pe_ifExp (pt_val (pe_meth0 (E := E) (pv 0) T.cl T.r_enter.m GE hr4 T.r_enter.b .nil (passes_call tk fun _ _ _ _ h => h)))
      (pe_callTy call_tuple_of (by rfl) T.z_tuple (by decide +kernel) (pa_cons (pe_bm0 PySem.F.plainAttrs_list PySem.F.slot_list_pop PySem.F.type_list_pop mt_pop (pe_fld (pv 0) rfl)) pa_nil))
      (pe_meth0 (E := E) (pv 0) T.cl T.r_plain.m GP hr T.r_plain.b .nil (passes_call tk fun _ _ _ _ h => h)))) ht
  refine ⟨_, pss_one (ps_while (passes_of rfl) (pt_val pe_bl) body), ?_⟩
  have noE : ∀ q, (rdr z q l).lookup ("enter_tuples" : Str) = none := fun q => rd_no z q l (by decide +kernel) (by decide +kernel) (by decide +kernel)
  have noP : ∀ q, (rdr z q l).lookup ("plain" : Str) = none := fun q => rd_no z q l (by decide +kernel) (by decide +kernel) (by decide +kernel)
  refine ⟨fun m σ H1 => ∃ (q : Nat) (ls : List Addr) (st : List (List PyData)) (r1 : Res) (v : Option V), m = (tl z).length + 1 - q ∧ σ = [some (.ref p), v] ∧ Rs T.C H0 H1 p dx z q l ls st ∧ q ≤ (tl z).length ∧ Go (tl z) .item q st.length r1 ∧ Unw (tl z) st r1 G,
    ⟨_, 0, [], [], r, none, rfl, rfl, R, Nat.zero_le _, g, u⟩, ?_⟩
  rintro m σ H1 ⟨q, ls, st, r1, v0, rfl, rfl, R1, hq1, g1, u1⟩
  refine ⟨_, rfl, ?_⟩
  refine iteT ⟨fun τ J => ∃ (q2 : Nat) (ls2 : List Addr) (st2 : List (List PyData)) (r2 : Res) (v : Option V), τ = [some (.ref p), v] ∧ Rs T.C H0 J p dx z q2 l ls2 st2 ∧ q < q2 ∧ q2 ≤ (tl z).length ∧ Go (tl z) .item q2 st2.length r2 ∧ Unw (tl z) st2 r2 G, ?_, ?_⟩
  · rintro τ J ⟨q2, ls2, st2, r2, v, rfl, a1, a2, a3, a4, a5⟩
    exact ⟨_, by omega, q2, ls2, st2, r2, v, rfl, rfl, a1, a3, a4, a5⟩
  refine ⟨_, rfl, p, dx, _, rfl, R1.ins, noE _, H0, p, dx, z, q, l, ls, st, r1, G, rfl, hz, R1, hq1, g1, u1, fun H2 q2 ls2 st2 r2 R2 hqq hq2 h40 g2 u2 => ⟨_, rfl, ?_⟩, fun H2 q2 b ls2 st2 R2 hqq hq2 hsm u2 => ⟨_, rfl, ?_⟩, kB⟩
  · -- no tuple begins: a thing that is none
    have er := go_pl g2 h40
    refine iteF ⟨_, rfl, p, dx, _, rfl, R2.ins, noP _, H0, p, dx, z, q2, l, rfl, R2.ins, hz, R2.base, R2.np, hq2, fun d v b H3 ep b3 h3 pu => ?_, fun n ep => kB n (unw_bad (by rw [← ep, ← er]; exact u2))⟩
    have bd := pl_bd hq2 ep
    have R3 := R2.but (q' := b) (by omega) b3 h3
    refine hq _ H3 q b ls2 st2 v d R3 pu (by rw [← ep, ← er]; exact u2) (by omega) bd.2 (fun t ht => by have := R2.sml t ht; omega) ?_ ?_
    · intro H' q' ls' st' r' v' R' h1 h2 g' u'
      exact ⟨q', ls', st', r', v', rfl, R', h1, h2, g', u'⟩
    · intro H' v' d' e s' pu'
      exact kR H' v' d' e s' pu'
  · -- an empty tuple was opened, and closed
    have erev : ((b :: ls2).reverse.map V.ref) = ls2.reverse.map V.ref ++ [V.ref b] := by simp
    obtain ⟨xs, ea, pu0⟩ := R2.lv.1
    refine iteT ⟨_, rfl, p, T.C, dx, _, _, rfl, R2.ins, T.cl, T.n_levels, rd_levels z _ l, .inl ⟨rfl, _, SqL.of R2.lst⟩, l, _, V.ref b, rfl, rfl, R2.lst, by rw [erev]; simp, b, xs, rfl, .inl ⟨?_, fun t ht => ?_⟩⟩
    · refine SqL.of ?_
      rw [upd_ne (fun e => R2.ll (by rw [← e]; exact List.mem_cons_self))]
      exact ea
    · have edl : ((b :: ls2).reverse.map V.ref).dropLast = ls2.reverse.map V.ref := by rw [erev]; simp
      rw [edl] at ht ⊢
      obtain ⟨R3, pu3⟩ := R2.pop ea ht
      refine hq _ _ q q2 ls2 st2 _ _ R3 pu3 u2 hqq hq2 hsm ?_ ?_
      · intro H' q' ls' st' r' v' R' h1 h2 g' u'
        exact ⟨q', ls', st', r', v', rfl, R', h1, h2, g', u'⟩
      · intro H' v' d' e s' pu'
        exact kR H' v' d' e s' pu'
def spUnpacked (a CB : Addr) : Sp := fun vs H Q E => ∃ (v : V) (d : PyData), vs = [v] ∧ Th a H v d ∧
  ((∃ (z : Str) (r : Res) (G : Fin), d = .str z ∧ z.length ≤ 10000 ∧ Go (tl z) .item 0 0 r ∧ Unw (tl z) [] r G ∧ (∀ (H' : Hp) (v : V) (d : PyData), G = .good d → Same H H' → Pu H' v d → Q v H') ∧ (∀ n, G = .wrong n → BadE CB H E n)) ∨
   (isStr d = false ∧ ∀ (dd : Addr) (H' : Hp), Same H H' → H' dd = some (.xd [(("place" : Str), .int (-1))]) → E (.ref CB) (some dd) H'))
theorem ok_unpacked (T : Tx P K mg) (a : Addr) : FnOk P w K mg base (L2.CX P w) 8 T.f_unpacked T.d_unpacked ["text"] (spUnpacked a T.CB) := by
  have GI := ok_init (P := P) (w := w) (base := base) T
  have GR := ok_read (P := P) (w := w) (base := base) T
  refine T.unpacked.F.okX sc_unpacked (fun vs H Q E h => ?_) (fun cdv A outer s H vs Q E hr h => ?_)
  · obtain ⟨v, d, rfl, _⟩ := h
    rfl
  obtain ⟨v, d, rfl, hv, q⟩ := h
  have tk := takes_of (X := cxOf (L2.CX P w) P w K mg base ["text"] "unpacked" (defScope s_unpacked) T.f_unpacked cdv A outer s H E) rfl rfl rfl rfl
  refine ⟨_, pss_cons (ps_if (pt_not (pt_val (pe_callB call_isi (by rfl) T.z_isinstance (by decide +kernel) (pa_cons (pv 0) (pa_cons (pe_bltn (v := .ty "str") (by rfl) T.z_str (by decide +kernel) rfl) pa_nil)))))
      (pss_one (ps_raiseBad (W := fun cls d _ H => E cls d H) rfl T.bad hr (takes_of rfl rfl rfl rfl) (pa_cons (pe_un un_neg pe_int) pa_nil))) pss_nil)
    (pss_one (ps_ret (pe_meth0 (E := E) (pe_make T.mkR GI (hr.mono (by decide)) rfl T.gC T.bInit .nil pass0 (pa_cons (pv 0) pa_nil)) T.cl T.r_read.m GR (hr.mono (by decide)) T.r_read.b .nil (passes_call tk fun _ _ _ _ h => h)))), ?_⟩
  refine ⟨v, rfl, v, .ty "str", _, _, _, rfl, .ty _, hv.ty, kit_str K d, _, rfl, ?_⟩
  rcases q with ⟨z, r, G, rfl, hz, g, u, kR, kB⟩ | ⟨hs, kE⟩
  · cases hv
    refine iteF ⟨_, rfl, fun x dx hx hdx ndx => ⟨x, dx, z, rfl, upd_same, fun l H' b hl h1 h2 => ⟨rfl, x, dx, _, rfl, h1, rd_no z 0 l (by decide +kernel) (by decide +kernel) (by decide +kernel), H, x, dx, z, l, r, G, rfl, hz, ?_, g, u, kR, kB⟩⟩⟩
    have s1 : Same H (upd (upd H dx (.own x)) x (.ins T.C dx [])) := fun c o e => by
      rw [upd_ne (fun z => by rw [z, hx] at e; cases e), upd_ne (fun z => by rw [z, hdx] at e; cases e)]; exact e
    exact ⟨h1, h2, trivial, same_but s1 b hx, hx, s1.free hl, (fun _ hb => nomatch hb), (fun hb => nomatch hb), Nat.zero_le _, (fun _ ht => nomatch ht)⟩
  · rw [hs]
    exact iteT ⟨_, rfl, _, rfl, fun dd hd => kE dd _ (same_new hd _) upd_same⟩
end
end K28

/-! K28X1: _law_read_string, _law_read_integer. -/
namespace K28
open PySem L2 TL
/-- (thing, place, False), or (None, place, True) -/
def Tl (H : Hp) (u : V) : Res → Prop
  | .ok d b => ∃ (t : Addr) (v : V), u = .ref t ∧ H t = some (.tup [v, .int (b : Int), .bl false]) ∧ Pu H v d
  | .bad p => ∃ t : Addr, u = .ref t ∧ H t = some (.tup [.non, .int (p : Int), .bl true])
theorem le_blank (c : Nat) : (!decide ((⟨#[c]⟩ : Str).cps.toList < (PySem.Str.ofString " ").cps.toList)) = decide (32 ≤ c) := by
  have e : (PySem.Str.ofString " ").cps.toList = [32] := by decide +kernel
  rw [e]
  show (!decide (([c] : List Nat) < [32])) = decide (32 ≤ c)
  rw [lt_one, not_lt_le]
theorem le_tilde (c : Nat) : (!decide ((PySem.Str.ofString "~").cps.toList < (⟨#[c]⟩ : Str).cps.toList)) = decide (c ≤ 126) := by
  have e : (PySem.Str.ofString "~").cps.toList = [126] := by decide +kernel
  rw [e]
  show (!decide (([126] : List Nat) < [c])) = decide (c ≤ 126)
  rw [lt_one, not_lt_le]
theorem one_is {c k : Nat} {y : Str} (hy : tl y = [k]) : decide (V.str ⟨#[c]⟩ = V.str y) = decide (c = k) := by
  refine decide_eq_decide.mpr ?_
  constructor
  · intro e
    have e' : tl (⟨#[c]⟩ : Str) = [k] := by rw [V.str.inj e, hy]
    have : [c] = [k] := e'
    exact (List.cons.inj this).1
  · intro h
    rw [h]
    exact congrArg V.str (ext_tl hy.symm)
theorem str_mk (F : Str) : (⟨(tl F).toArray⟩ : Str) = F := ext_tl (by simp)
section
variable {P : Program} {w : World} {K : PySem.W.Frag} {mg : Str → Option Value} {base : Heap}
def spLStr : Sp := fun vs H Q _ => ∃ (z : Str) (q : Nat), vs = [.str z, .int (q : Int)] ∧ z.length ≤ 10000 ∧ q ≤ (tl z).length ∧ ∀ (H' : Hp) (u : V), Same H H' → Tl H' u (RS (tl z) q []) → Q u H'
theorem ok_lstr (T : Tx P K mg) : FnOk P w K mg base CX0 1 T.f_law_read_string T.d_law_read_string ["_law_text", "_law_at"] spLStr := by
  refine T.law_read_string.F.ok sc_law_read_string (fun vs H Q E h => ?_) (fun cdv A outer s H vs Q E hr h => ?_)
  · obtain ⟨z, q, rfl, _⟩ := h
    rfl
  obtain ⟨z, q, rfl, hz, hq, k⟩ := h
  have nd := sc_law_read_string.nd
  refine ⟨_, pss_cons (ps_set (i := 2) nd rfl (Or.inl rfl) pe_str)
    (pss_cons (ps_while PassesOwn.never (pt_cmpR op_lt (pv 1) (pe_callB call_len_str (by rfl) T.z_len PySem.boot_len (pa_cons (pv 0) pa_nil)) (nomark _))
      (pss_cons (ps_set (i := 3) nd rfl (Or.inl rfl) (pe_ix ix_str (pv 0) (pv 1) (fun _ _ => rfl)))
      (pss_cons (ps_if (pt_cmpR op_eq (pv 3) pe_str (nomark _)) (pss_one (ps_ret (pe_tup (pa_cons (pv 2) (pa_cons (pe_op op_add (pv 1) pe_int) (pa_cons pe_bl pa_nil)))))) pss_nil)
      (pss_cons (ps_if (pt_not (pt_chain op_le_str op_le_str pe_str (pv 3) pe_str)) (pss_one (ps_ret (pe_tup (pa_cons pe_non (pa_cons (pv 1) (pa_cons pe_bl pa_nil)))))) pss_nil)
      (pss_cons (ps_if (pt_cmpR op_eq (pv 3) pe_str (nomark _))
        (pss_cons (ps_set (i := 1) nd rfl (Or.inl rfl) (pe_op op_add (pv 1) pe_int))
        (pss_cons (ps_if (PW.pt (pw_or (pt_cmpR op_eq (pv 1) (pe_callB call_len_str (by rfl) T.z_len PySem.boot_len (pa_cons (pv 0) pa_nil)) (nomark _)) (pw_or1 (pt_cmpR op_notIn_sign (pe_ix ix_str (pv 0) (pv 1) (fun _ _ => rfl)) pe_str (by rfl)))))
          (pss_one (ps_ret (pe_tup (pa_cons pe_non (pa_cons (pv 1) (pa_cons pe_bl pa_nil)))))) pss_nil)
        (pss_one (ps_set (i := 3) nd rfl (Or.inl rfl) (pe_ix ix_str (pv 0) (pv 1) (fun _ _ => rfl)))))) pss_nil)
      (pss_cons (ps_set (i := 2) nd rfl (Or.inl rfl) (pe_op op_add_str (pv 2) (pv 3)))
      (pss_one (ps_set (i := 1) nd rfl (Or.inl rfl) (pe_op op_add (pv 1) pe_int)))))))))
    (pss_one (ps_ret (pe_tup (pa_cons pe_non (pa_cons (pv 1) (pa_cons pe_bl pa_nil))))))), ?_⟩
  have hzl : z.length = (tl z).length := len_tl z
  refine ⟨fun m σ H1 => ∃ (j : Nat) (F : Str) (x : Option V), m = (tl z).length + 1 - j ∧ σ = [some (.str z), some (.int (j : Int)), some (.str F), x] ∧ H1 = H ∧ j ≤ (tl z).length ∧ (tl F).length ≤ j ∧ RS (tl z) j (tl F) = RS (tl z) q [],
    ⟨_, q, ("" : Str), none, rfl, rfl, rfl, hq, by rw [cs_empty]; exact Nat.zero_le _, by rw [cs_empty]⟩, ?_⟩
  rintro m σ H1 ⟨j, F, x, rfl, rfl, rfl, hj, hF, hR⟩
  have bad : ∀ n : Nat, RS (tl z) q [] = .bad n → (3 : Nat) ≤ sizeLine ∧ ∀ p, H1 p = none → Q (.ref p) (upd H1 p (.tup [.non, .int (n : Int), .bl true])) := fun n e =>
    ⟨by decide, fun p hp => k _ _ (same_new hp _) (by rw [e]; exact ⟨p, rfl, upd_same⟩)⟩
  refine ⟨_, rfl, _, rfl, z, rfl, size10 hz, _, _, rfl, rfl, _, rfl, ?_⟩
  rw [hzl]
  by_cases hlt : j < (tl z).length
  · have e1 : decide (((j : Nat) : Int) < ((tl z).length : Int)) = true := decide_eq_true (by omega)
    rw [e1]
    have hc : (tl z)[j]? = some (tl z)[j] := List.getElem?_eq_getElem hlt
    generalize (tl z)[j] = c at hc
    refine iteT ⟨fun τ J => ∃ (j2 : Nat) (F2 : Str) (x2 : Option V), j < j2 ∧ τ = [some (.str z), some (.int (j2 : Int)), some (.str F2), x2] ∧ J = H1 ∧ j2 ≤ (tl z).length ∧ (tl F2).length ≤ j2 ∧ RS (tl z) j2 (tl F2) = RS (tl z) q [], ?_, ?_⟩
    · rintro τ J ⟨j2, F2, x2, a1, rfl, rfl, a2, a3, a4⟩
      exact ⟨_, by omega, j2, F2, x2, rfl, rfl, rfl, a2, a3, a4⟩
    refine ⟨_, rfl, _, rfl, z, (j : Int), c, rfl, rfl, size10 hz, atI_nat hc, ?_⟩
    refine ⟨_, rfl, rfl, _, rfl, ?_⟩
    rw [one_is cs_quote]
    by_cases h39 : c = 39
    · subst h39
      refine iteT ⟨_, rfl, _, rfl, _, _, rfl, rfl, (by show 3 ≤ sizeLine; decide), fun p hp => ?_⟩
      refine k _ _ (same_new hp _) ?_
      rw [← hR, RS_quote hc, str_mk]
      exact ⟨p, _, rfl, upd_same, .str F⟩
    · rw [decide_eq_false h39]
      refine iteF ⟨_, rfl, _, _, rfl, rfl, _, rfl, ?_⟩
      rw [le_blank]
      by_cases h32 : 32 ≤ c
      · rw [decide_eq_true h32]
        refine iteT ⟨_, _, rfl, rfl, _, rfl, ?_⟩
        rw [le_tilde]
        by_cases h126 : c ≤ 126
        · rw [decide_eq_true h126]
          refine iteF ⟨_, rfl, rfl, _, rfl, ?_⟩
          rw [one_is cs_tilde]
          by_cases hti : c = 126
          · subst hti
            refine iteT ⟨_, rfl, _, _, rfl, rfl, V.int ((j + 1 : Nat) : Int), rfl, _, rfl, z, rfl, size10 hz, rfl, _, rfl, ?_⟩
            rw [hzl]
            by_cases hend : j + 1 = (tl z).length
            · have e2 : decide (V.int ((j + 1 : Nat) : Int) = V.int ((tl z).length : Int)) = true := decide_eq_true (by rw [hend])
              rw [e2]
              refine iteT (iteT ⟨_, rfl, ?_⟩)
              exact bad (j + 1) (by rw [← hR]; exact RS_esc_none hc (List.getElem?_eq_none_iff.mpr (by omega)))
            · have e2 : decide (V.int ((j + 1 : Nat) : Int) = V.int ((tl z).length : Int)) = false := decide_eq_false (fun e => hend (by have := V.int.inj e; omega))
              rw [e2]
              have hd : (tl z)[j + 1]? = some (tl z)[j + 1] := List.getElem?_eq_getElem (by omega)
              generalize (tl z)[j + 1]'(by omega) = e at hd
              refine iteF ⟨_, rfl, V.int ((j + 1 : Nat) : Int), rfl, z, _, e, rfl, rfl, size10 hz, atI_nat hd, e, _, rfl, rfl, _, rfl, ?_⟩
              show if (!decide (e ∈ tl ("'~" : Str))) = true then _ else _
              rw [in_quo2]
              by_cases hq2 : e = 39 ∨ e = 126
              · rw [decide_eq_true hq2]
                refine iteF ⟨_, rfl, V.int ((j + 1 : Nat) : Int), rfl, z, _, e, rfl, rfl, size10 hz, atI_nat hd, ?_⟩
                have hlen : (F.length + (⟨#[e]⟩ : Str).length) ≤ sizeLine := by
                  rw [len_tl F]
                  exact size10 (show (tl F).length + 1 ≤ 10000 by omega)
                refine ⟨_, rfl, _, rfl, F, ⟨#[e]⟩, rfl, rfl, hlen, _, rfl, _, _, rfl, rfl, ?_⟩
                have ea : tl (F ++ (⟨#[e]⟩ : Str)) = tl F ++ [e] := tl_append _ _
                refine ⟨j + 2, F ++ (⟨#[e]⟩ : Str), some (.str ⟨#[e]⟩), by omega, rfl, rfl, by omega, ?_, ?_⟩
                · rw [ea, List.length_append]
                  simp only [List.length_cons, List.length_nil]
                  omega
                · rw [ea, ← hR]
                  exact (RS_esc hc hd hq2).symm
              · rw [decide_eq_false hq2]
                refine iteT ⟨_, rfl, ?_⟩
                exact bad (j + 1) (by rw [← hR]; exact RS_esc_odd hc hd hq2)
          · rw [decide_eq_false hti]
            have hlen : (F.length + (⟨#[c]⟩ : Str).length) ≤ sizeLine := by
              rw [len_tl F]
              exact size10 (show (tl F).length + 1 ≤ 10000 by omega)
            refine iteF ⟨_, rfl, _, rfl, F, ⟨#[c]⟩, rfl, rfl, hlen, _, rfl, _, _, rfl, rfl, ?_⟩
            have ea : tl (F ++ (⟨#[c]⟩ : Str)) = tl F ++ [c] := tl_append _ _
            refine ⟨j + 1, F ++ (⟨#[c]⟩ : Str), some (.str ⟨#[c]⟩), by omega, rfl, rfl, by omega, ?_, ?_⟩
            · rw [ea, List.length_append]
              simp only [List.length_cons, List.length_nil]
              omega
            · rw [ea, ← hR]
              exact (RS_sign hc h39 ⟨h32, h126⟩ hti).symm
        · rw [decide_eq_false h126]
          refine iteT ⟨_, rfl, ?_⟩
          exact bad _ (by rw [← hR]; exact RS_odd hc (by omega))
      · rw [decide_eq_false h32]
        refine iteF ⟨_, rfl, iteT ⟨_, rfl, ?_⟩⟩
        exact bad _ (by rw [← hR]; exact RS_odd hc (by omega))
  · have e1 : decide (((j : Nat) : Int) < ((tl z).length : Int)) = false := decide_eq_false (by omega)
    rw [e1]
    refine iteF ⟨_, rfl, ?_⟩
    exact bad _ (by rw [← hR]; exact RS_none (List.getElem?_eq_none_iff.mpr (by omega)))
end
end K28

/-! K28X2: _law_read_integer. -/
namespace K28
open PySem L2 TL
/-- where the digits begin -/
def IntF (x : Cs) (q f : Nat) : Prop := (f = q ∧ x[q]? ≠ some 45) ∨ (f = q + 1 ∧ x[q]? = some 45)
theorem rint_0n {x : Cs} {q f : Nat} (h : IntF x q f) (h0 : x[f]? = some 48) (hn : q < f) : rint x q = .bad f := by
  rcases h with ⟨rfl, h⟩ | ⟨rfl, h⟩
  · omega
  · unfold rint; rw [if_pos h, if_pos h0]
theorem rint_0p {x : Cs} {q f : Nat} (h : IntF x q f) (h0 : x[f]? = some 48) (hn : ¬ q < f) : rint x q = .ok (.int 0) (f + 1) := by
  rcases h with ⟨rfl, h⟩ | ⟨rfl, h⟩
  · unfold rint; rw [if_neg h, if_pos h0]
  · omega
theorem rint_no {x : Cs} {q f : Nat} (h : IntF x q f) (h0 : x[f]? ≠ some 48) (hd : digs (x.drop f) = []) : rint x q = .bad f := by
  rcases h with ⟨rfl, h⟩ | ⟨rfl, h⟩
  · unfold rint; rw [if_neg h, if_neg h0, if_pos hd]
  · unfold rint; rw [if_pos h, if_neg h0, if_pos hd]
/-- the text of the digits, with its sign: what int() tells, and rint -/
theorem rint_yes {x : Cs} {q f : Nat} {u : Str} (h : IntF x q f) (h0 : x[f]? ≠ some 48) (hd : digs (x.drop f) ≠ []) (hu : tl u = (x.drop q).take (f + (digs (x.drop f)).length - q)) :
    ∃ i, PySem.intText? u = some i ∧ rint x q = .ok (.int i) (f + (digs (x.drop f)).length) := by
  rcases h with ⟨rfl, h⟩ | ⟨rfl, h⟩
  · have e : tl u = digs (x.drop f) := by rw [hu, show f + (digs (x.drop f)).length - f = (digs (x.drop f)).length by omega, digs_take]
    refine ⟨_, int_pos e hd, ?_⟩
    unfold rint; rw [if_neg h, if_neg h0, if_neg hd]
  · have e : tl u = 45 :: digs (x.drop (q + 1)) := by
      rw [hu, show q + 1 + (digs (x.drop (q + 1))).length - q = (digs (x.drop (q + 1))).length + 1 by omega, drop_some h, List.take_succ_cons, digs_take]
    refine ⟨_, int_neg e hd, ?_⟩
    unfold rint; rw [if_pos h, if_neg h0, if_neg hd]
def restI : List Stmt := (defBody s_law_read_integer).drop 2
def tailI : List Stmt := (defBody s_law_read_integer).drop 4
section
variable {P : Program} {w : World} {K : PySem.W.Frag} {mg : Str → Option Value} {base : Heap}
theorem int_tail (T : Tx P K mg) {cdv : Value} {A : Around} {outer : List Env} {s : Shared} {H : Hp} {E : XK} :
    ∃ t, PSs (cxOf CX0 P w K mg base ["_law_text", "_law_at", "_law_begin", "_law_first"] "_law_read_integer" (defScope s_law_read_integer) T.f_law_read_integer cdv A outer s H E).nox tailI t ∧
      ∀ (D : Ends) (H1 : Hp) (z : Str) (q f : Nat), z.length ≤ 10000 → IntF (tl z) q f → ((tl z)[f]? = some 48 → ¬ q < f) →
        (∀ (H' : Hp) (u : V), Same H1 H' → Tl H' u (rint (tl z) q) → D.rt u H') → t D [some (.str z), some (.int ((f + figK (tl z) f : Nat) : Int)), some (.int (q : Int)), some (.int (f : Int))] H1 := by
  have nd := sc_law_read_integer.nd
  refine ⟨_, pss_cons (ps_if (pt_cmpR op_eq (pv 1) (pv 3) (nomark _)) (pss_one (ps_ret (pe_tup (pa_cons pe_non (pa_cons (pv 1) (pa_cons pe_bl pa_nil)))))) pss_nil)
    (pss_one (ps_ret (pe_tup (pa_cons (pe_callTy call_int_str (by rfl) T.z_int (by decide +kernel) (pa_cons (pe_slice sl_str (pv 0) (po_some (pv 2)) (po_some (pv 1))) pa_nil)) (pa_cons (pv 1) (pa_cons pe_bl pa_nil)))))), ?_⟩
  intro D H1 z q f hz hF h48 k
  have hqf : q ≤ f := by rcases hF with ⟨h, _⟩ | ⟨h, _⟩ <;> omega
  have hqf2 : f ≤ q + 1 := by rcases hF with ⟨h, _⟩ | ⟨h, _⟩ <;> omega
  have hk := figK_le (tl z) f
  refine ⟨_, rfl, _, rfl, rfl, _, rfl, ?_⟩
  by_cases h0 : figK (tl z) f = 0
  · rw [h0]
    have e1 : decide (V.int ((f + 0 : Nat) : Int) = V.int (f : Int)) = true := decide_eq_true rfl
    rw [e1]
    have hn48 : (tl z)[f]? ≠ some 48 := fun e => by unfold figK at h0; rw [if_pos e] at h0; cases h0
    have hd : digs ((tl z).drop f) = [] := by
      rw [fig_len hn48] at h0
      exact List.length_eq_zero_iff.mp h0
    refine iteT ⟨_, rfl, (by show 3 ≤ sizeLine; decide), fun p hp => ?_⟩
    exact k _ _ (same_new hp _) (by rw [rint_no hF hn48 hd]; exact ⟨p, rfl, upd_same⟩)
  · have e1 : decide (V.int ((f + figK (tl z) f : Nat) : Int) = V.int (f : Int)) = false := decide_eq_false (fun e => h0 (by have := V.int.inj e; omega))
    rw [e1]
    have hcut := cut_nat z q (f + figK (tl z) f)
    obtain ⟨i, hi, hri⟩ : ∃ i, PySem.intText? (cutS z (some (q : Int)) (some ((f + figK (tl z) f : Nat) : Int))) = some i ∧ rint (tl z) q = .ok (.int i) (f + figK (tl z) f) := by
      by_cases h : (tl z)[f]? = some 48
      · have hk1 : figK (tl z) f = 1 := by unfold figK; rw [if_pos h]
        rw [hk1]
        have : q = f := by have := h48 h; omega
        subst this
        refine ⟨0, int_zero ?_, rint_0p hF h (Nat.lt_irrefl _)⟩
        rw [cut_nat, show q + 1 - q = 1 by omega, drop_some h]; rfl
      · have hl := fig_len h
        have hne : digs ((tl z).drop f) ≠ [] := fun e => h0 (by rw [hl, e]; rfl)
        rw [hl] at hcut ⊢
        exact rint_yes hF h hne hcut
    refine iteF ⟨_, rfl, _, rfl, _, rfl, _, rfl, _, rfl, z, rfl, size10 hz, _, i, rfl, hi, ?_, _, rfl, (by show 3 ≤ sizeLine; decide), fun p hp => ?_⟩
    · rw [len_tl, hcut, List.length_take]
      omega
    · exact k _ _ (same_new hp _) (by rw [hri]; exact ⟨p, _, rfl, upd_same, .int i⟩)
def spLInt : Sp := fun vs H Q _ => ∃ (z : Str) (q : Nat), vs = [.str z, .int (q : Int)] ∧ z.length ≤ 10000 ∧ q < (tl z).length ∧ ∀ (H' : Hp) (u : V), Same H H' → Tl H' u (rint (tl z) q) → Q u H'
theorem int_rest (T : Tx P K mg) {cdv : Value} {A : Around} {outer : List Env} {s : Shared} {H : Hp} {E : XK} :
    ∃ t, PSs (cxOf CX0 P w K mg base ["_law_text", "_law_at", "_law_begin", "_law_first"] "_law_read_integer" (defScope s_law_read_integer) T.f_law_read_integer cdv A outer s H E).nox restI t ∧
      ∀ (D : Ends) (H1 : Hp) (z : Str) (q f : Nat) (x3 : Option V), z.length ≤ 10000 → IntF (tl z) q f →
        (∀ (H' : Hp) (u : V), Same H1 H' → Tl H' u (rint (tl z) q) → D.rt u H') → t D [some (.str z), some (.int (f : Int)), some (.int (q : Int)), x3] H1 := by
  have nd := sc_law_read_integer.nd
  obtain ⟨t2, ht2, hq2⟩ := int_tail (P := P) (w := w) (base := base) T (cdv := cdv) (A := A) (outer := outer) (s := s) (H := H) (E := E)
  refine ⟨_, pss_cons (ps_set (i := 3) nd rfl (Or.inl rfl) (pv 1))
    (pss_cons (ps_while PassesOwn.never (PW.pt (pw_and (pt_cmpR op_lt (pv 1) (pe_callB call_len_str (by rfl) T.z_len PySem.boot_len (pa_cons (pv 0) pa_nil)) (nomark _))
        (pw_and (pt_cmpR op_in_sign (pe_ix ix_str (pv 0) (pv 1) (fun _ _ => rfl)) pe_str (by rfl)) (pw_and1 (pt_cmpR op_lt (pe_op op_sub (pv 1) (pv 3)) pe_int (nomark _))))))
      (pss_cons (ps_if (PW.pt (pw_and (pt_cmpR op_eq (pv 1) (pe_op op_add (pv 3) pe_int) (nomark _)) (pw_and1 (pt_cmpR op_eq (pe_ix ix_str (pv 0) (pv 3) (fun _ _ => rfl)) pe_str (nomark _)))))
          (pss_one (ps_ret (pe_tup (pa_cons (pe_callTy call_int_str (by rfl) T.z_int (by decide +kernel) (pa_cons (pe_slice sl_str (pv 0) (po_some (pv 2)) (po_some (pv 1))) pa_nil)) (pa_cons (pv 1) (pa_cons pe_bl pa_nil)))))) pss_nil)
      (pss_cons (ps_if (PW.pt (pw_and (pt_cmpR op_eq (pv 1) (pv 3) (nomark _)) (pw_and (pt_cmpR op_eq (pe_ix ix_str (pv 0) (pv 1) (fun _ _ => rfl)) pe_str (nomark _)) (pw_and1 (pt_cmpR op_lt (pv 2) (pv 3) (nomark _))))))
          (pss_one (ps_ret (pe_tup (pa_cons pe_non (pa_cons (pv 1) (pa_cons pe_bl pa_nil)))))) pss_nil)
      (pss_one (ps_set (i := 1) nd rfl (Or.inl rfl) (pe_op op_add (pv 1) pe_int))))))
    ht2), ?_⟩
  intro D H1 z q f x3 hz hF k
  have hzl : z.length = (tl z).length := len_tl z
  have hqf : q ≤ f := by rcases hF with ⟨h, _⟩ | ⟨h, _⟩ <;> omega
  have hqf2 : f ≤ q + 1 := by rcases hF with ⟨h, _⟩ | ⟨h, _⟩ <;> omega
  refine ⟨_, rfl, ?_⟩
  refine ⟨fun m σ J => ∃ j : Nat, m = 40 - j ∧ σ = [some (.str z), some (.int ((f + j : Nat) : Int)), some (.int (q : Int)), some (.int (f : Int))] ∧ J = H1 ∧ j ≤ figK (tl z) f ∧ (j = 0 ∨ ((tl z)[f]? = some 48 → ¬ q < f)),
    ⟨_, 0, rfl, rfl, rfl, Nat.zero_le _, .inl rfl⟩, ?_⟩
  rintro m σ J ⟨j, rfl, rfl, rfl, hj, h0⟩
  have hk := figK_le (tl z) f
  have exit : ¬ j < figK (tl z) f → ∀ D' : Ends, D'.rt = D.rt → t2 D' [some (.str z), some (.int ((f + j : Nat) : Int)), some (.int (q : Int)), some (.int (f : Int))] J := by
    intro hn D' hD
    have ej : j = figK (tl z) f := by omega
    subst ej
    refine hq2 D' J z q f hz hF ?_ (fun H' u s' tu => by rw [hD]; exact k H' u s' tu)
    rcases h0 with h0 | h0
    · intro e
      unfold figK at h0
      rw [if_pos e] at h0
      cases h0
    · exact h0
  refine ⟨_, rfl, _, rfl, z, rfl, size10 hz, _, _, rfl, rfl, _, rfl, ?_⟩
  rw [hzl]
  by_cases hlt : f + j < (tl z).length
  · have e1 : decide (((f + j : Nat) : Int) < ((tl z).length : Int)) = true := decide_eq_true (by omega)
    rw [e1]
    have hc : (tl z)[f + j]? = some (tl z)[f + j] := List.getElem?_eq_getElem hlt
    generalize (tl z)[f + j] = c at hc
    have hc0 : (tl z)[f]? = some ((tl z)[f]'(by omega)) := List.getElem?_eq_getElem (by omega)
    generalize (tl z)[f]'(by omega) = c0 at hc0
    refine iteT ⟨_, rfl, _, rfl, z, _, c, rfl, rfl, size10 hz, atI_nat hc, c, _, rfl, rfl, _, rfl, ?_⟩
    rw [in_fig]
    cases hd : dig c with
    | false =>
      refine iteF (exit (fun hn => ?_) _ rfl)
      obtain ⟨c', hc', hd'⟩ := fig_in hn
      rw [hc] at hc'
      have := Option.some.inj hc'
      subst this
      rw [hd] at hd'
      cases hd'
    | true =>
      refine iteT ⟨_, rfl, _, rfl, _, _, rfl, rfl, _, _, rfl, rfl, _, rfl, ?_⟩
      rw [lt30]
      refine ite2 (fun h30 => ?_) (fun h30 => ?_)
      · have h30' : j < 30 := of_decide_eq_true h30
        refine ⟨fun τ J' => j + 1 ≤ figK (tl z) f ∧ ((tl z)[f]? = some 48 → ¬ q < f) ∧ τ = [some (.str z), some (.int ((f + (j + 1) : Nat) : Int)), some (.int (q : Int)), some (.int (f : Int))] ∧ J' = J, ?_, ?_⟩
        · rintro τ J' ⟨a1, a2, rfl, rfl⟩
          exact ⟨40 - (j + 1), by omega, j + 1, rfl, rfl, rfl, a1, .inr a2⟩
        refine ⟨_, rfl, _, rfl, _, _, rfl, rfl, rfl, _, rfl, ?_⟩
        have ed : decide (V.int ((f + j : Nat) : Int) = V.int ((f : Int) + 1)) = decide (j = 1) := decide_eq_decide.mpr ⟨fun e => by have := V.int.inj e; omega, fun e => by subst e; rfl⟩
        show if decide (V.int ((f + j : Nat) : Int) = V.int ((f : Int) + 1)) = true then _ else _
        rw [ed]
        have ed0 : decide (V.int ((f + j : Nat) : Int) = V.int (f : Int)) = decide (j = 0) := decide_eq_decide.mpr ⟨fun e => by have := V.int.inj e; omega, fun e => by subst e; rfl⟩
        by_cases h48 : c0 = 48
        · subst h48
          have hk1 : figK (tl z) f = 1 := by unfold figK; rw [if_pos hc0]
          by_cases hj1 : j = 1
          · subst hj1
            have hnq : ¬ q < f := by
              rcases h0 with h0 | h0
              · cases h0
              · exact h0 hc0
            have : q = f := by omega
            subst this
            refine iteT ⟨_, rfl, _, rfl, z, _, 48, rfl, rfl, size10 hz, atI_nat hc0, rfl, _, rfl, ?_⟩
            rw [one_is cs_zero]
            have hcut : tl (cutS z (some (q : Int)) (some ((q + 1 : Nat) : Int))) = [48] := by
              rw [cut_nat, show q + 1 - q = 1 by omega, drop_some hc0]; rfl
            refine iteT ⟨_, rfl, _, rfl, _, rfl, _, rfl, _, rfl, z, rfl, size10 hz, _, 0, rfl, int_zero hcut, ?_, _, rfl, (by show 3 ≤ sizeLine; decide), fun p hp => ?_⟩
            · rw [len_tl, hcut]; decide
            · exact k _ _ (same_new hp _) (by rw [rint_0p hF hc0 (Nat.lt_irrefl _)]; exact ⟨p, _, rfl, upd_same, .int 0⟩)
          · have hj0 : j = 0 := by omega
            subst hj0
            refine iteF ⟨_, rfl, _, rfl, rfl, _, rfl, ?_⟩
            rw [ed0]
            have : c = 48 := by
              have := hc0.symm.trans hc
              exact (Option.some.inj this).symm
            subst this
            refine iteT ⟨_, rfl, _, rfl, z, _, 48, rfl, rfl, size10 hz, atI_nat hc, rfl, _, rfl, ?_⟩
            rw [one_is cs_zero]
            refine iteT ⟨_, rfl, _, rfl, _, _, rfl, rfl, _, rfl, ?_⟩
            by_cases hqf3 : q < f
            · have e3 : decide (((q : Nat) : Int) < (f : Int)) = true := decide_eq_true (by omega)
              rw [e3]
              refine iteT ⟨_, rfl, (by show 3 ≤ sizeLine; decide), fun p hp => ?_⟩
              exact k _ _ (same_new hp _) (by rw [rint_0n hF hc0 hqf3]; exact ⟨p, rfl, upd_same⟩)
            · have e3 : decide (((q : Nat) : Int) < (f : Int)) = false := decide_eq_false (by omega)
              rw [e3]
              exact iteF ⟨_, rfl, _, _, rfl, rfl, by omega, fun _ => hqf3, rfl, rfl⟩
        · have hn48 : (tl z)[f]? ≠ some 48 := by rw [hc0]; intro e; exact h48 (Option.some.inj e)
          have hlt2 : j < figK (tl z) f := fig_out hj (.inr hn48) h30' hc hd
          -- the second test, and the step
          by_cases hj1 : j = 1
          · subst hj1
            refine iteT ⟨_, rfl, _, rfl, z, _, c0, rfl, rfl, size10 hz, atI_nat hc0, rfl, _, rfl, ?_⟩
            rw [one_is cs_zero, decide_eq_false h48]
            refine iteF ⟨_, rfl, _, rfl, rfl, _, rfl, ?_⟩
            rw [ed0]
            exact iteF ⟨_, rfl, _, _, rfl, rfl, by omega, fun e => absurd e hn48, rfl, rfl⟩
          · rw [decide_eq_false hj1]
            refine iteF ⟨_, rfl, _, rfl, rfl, _, rfl, ?_⟩
            rw [ed0]
            by_cases hj0 : j = 0
            · subst hj0
              have : c = c0 := by
                have := hc0.symm.trans hc
                exact (Option.some.inj this).symm
              subst this
              refine iteT ⟨_, rfl, _, rfl, z, _, c, rfl, rfl, size10 hz, atI_nat hc, rfl, _, rfl, ?_⟩
              rw [one_is cs_zero, decide_eq_false h48]
              exact iteF ⟨_, rfl, _, _, rfl, rfl, by omega, fun e => absurd e hn48, rfl, rfl⟩
            · rw [decide_eq_false hj0]
              exact iteF ⟨_, rfl, _, _, rfl, rfl, by omega, fun e => absurd e hn48, rfl, rfl⟩
      · refine exit (fun hn => ?_) _ rfl
        exact h30 (decide_eq_true (by omega))
  · have e1 : decide (((f + j : Nat) : Int) < ((tl z).length : Int)) = false := decide_eq_false (by omega)
    rw [e1]
    refine iteF (exit (fun hn => ?_) _ rfl)
    obtain ⟨c', hc', _⟩ := fig_in hn
    have := (List.getElem?_eq_some_iff.mp hc').1
    exact hlt this
theorem ok_lint (T : Tx P K mg) : FnOk P w K mg base CX0 1 T.f_law_read_integer T.d_law_read_integer ["_law_text", "_law_at"] spLInt := by
  refine T.law_read_integer.F.ok sc_law_read_integer (fun vs H Q E h => ?_) (fun cdv A outer s H vs Q E hr h => ?_)
  · obtain ⟨z, q, rfl, _⟩ := h
    rfl
  obtain ⟨z, q, rfl, hz, hq, k⟩ := h
  have nd := sc_law_read_integer.nd
  obtain ⟨t, ht, hR⟩ := int_rest (P := P) (w := w) (base := base) T (cdv := cdv) (A := A) (outer := outer) (s := s) (H := H) (E := E)
  refine ⟨_, pss_cons (ps_set (i := 2) nd rfl (Or.inl rfl) (pv 1))
    (pss_cons (ps_if (pt_cmpR op_eq (pe_ix ix_str (pv 0) (pv 1) (fun _ _ => rfl)) pe_str (nomark _)) (pss_one (ps_set (i := 1) nd rfl (Or.inl rfl) (pe_op op_add (pv 1) pe_int))) pss_nil) ht), ?_⟩
  have hc : (tl z)[q]? = some (tl z)[q] := List.getElem?_eq_getElem hq
  generalize (tl z)[q] = c at hc
  refine ⟨_, rfl, _, rfl, _, rfl, z, _, c, rfl, rfl, size10 hz, atI_nat hc, rfl, _, rfl, ?_⟩
  rw [one_is cs_minus]
  by_cases h45 : c = 45
  · rw [decide_eq_true h45]
    refine iteT ⟨_, rfl, _, _, rfl, rfl, ?_⟩
    exact hR _ H z q (q + 1) none hz (.inr ⟨rfl, by rw [hc, h45]⟩) k
  · rw [decide_eq_false h45]
    exact iteF (hR _ H z q q none hz (.inl ⟨rfl, by rw [hc]; intro e; exact h45 (Option.some.inj e)⟩) k)
end
end K28

/-! K28X3: _law_first_wrong, _law_read_tuple, _law_unpacked. -/
namespace K28
open PySem L2 TL
section
variable {P : Program} {w : World} {K : PySem.W.Frag} {mg : Str → Option Value} {base : Heap}
/-- 30 - d < N: so many levels are left -/
def spFirst (N : Nat) : Sp := fun vs H Q _ => ∃ (z : Str) (q d : Nat) (r : Res), vs = [.str z, .int (q : Int), .int (d : Int)] ∧ z.length ≤ 10000 ∧ q ≤ (tl z).length ∧ d ≤ 30 ∧ 30 < d + N ∧ Go (tl z) .item q d r ∧ ∀ (H' : Hp) (u : V), Same H H' → Tl H' u r → Q u H'
def spTup (N : Nat) : Sp := fun vs H Q _ => ∃ (z : Str) (q d : Nat) (r : Res), vs = [.str z, .int (q : Int), .int (d : Int)] ∧ z.length ≤ 10000 ∧ q ≤ (tl z).length ∧ d ≤ 30 ∧ 30 < d + N ∧ Go (tl z) .tup q d r ∧ ∀ (H' : Hp) (u : V), Same H H' → Tl H' u r → Q u H'
theorem first_none {k : Nat} {f : Addr} {fd : FuncData} {ps : List Str} : FnOk P w K mg base CX0 k f fd ps (spFirst 0) := by
  have no : ∀ vs H Q E, ¬ spFirst 0 vs H Q E := fun vs H Q E h => by
    obtain ⟨_, _, d, _, _, _, _, h1, h2, _⟩ := h
    omega
  exact ⟨fun vs H Q E h => absurd h (no vs H Q E), fun A outer s H args us vs Q E _ _ _ _ h => absurd h (no vs H Q E)⟩
theorem ok_first_step (T : Tx P K mg) {N k : Nat} (hk : 1 ≤ k) (G : FnOk P w K mg base CX0 k T.f_law_read_tuple T.d_law_read_tuple ["_law_text", "_law_at", "_law_deep_here"] (spTup N)) :
    FnOk P w K mg base CX0 (k + 1) T.f_law_first_wrong T.d_law_first_wrong ["_law_text", "_law_at", "_law_deep_here"] (spFirst (N + 1)) := by
  have GS := ok_lstr (P := P) (w := w) (base := base) T
  have GI := ok_lint (P := P) (w := w) (base := base) T
  refine T.law_first_wrong.F.ok sc_law_first_wrong (fun vs H Q E h => ?_) (fun cdv A outer s H vs Q E hr h => ?_)
  · obtain ⟨z, q, d, r, rfl, _⟩ := h
    rfl
  obtain ⟨z, q, d, r, rfl, hz, hq, hd, hN, g, kk⟩ := h
  have nd := sc_law_first_wrong.nd
  have hr1 : Room 1 _ := hr.mono hk
  refine ⟨_, pss_cons (ps_if (pt_cmpR op_ge (pv 1) (pe_callB call_len_str (by rfl) T.z_len PySem.boot_len (pa_cons (pv 0) pa_nil)) (nomark _)) (pss_one (ps_ret (pe_tup (pa_cons pe_non (pa_cons (pv 1) (pa_cons pe_bl pa_nil)))))) pss_nil)
    (pss_cons (ps_set (i := 3) nd rfl (Or.inl rfl) (pe_ix ix_str (pv 0) (pv 1) (fun _ _ => rfl)))
    (pss_cons (ps_if (pt_cmpR op_eq (pv 3) pe_str (nomark _)) (pss_one (ps_ret (pe_tup (pa_cons pe_non (pa_cons (pe_op op_add (pv 1) pe_int) (pa_cons pe_bl pa_nil)))))) pss_nil)
    (pss_cons (ps_if (pt_cmpR op_eq (pv 3) pe_str (nomark _)) (pss_one (ps_ret (pe_call GS hr1 rfl T.law_read_string.m T.law_read_string.F.kp T.law_read_string.b .nil pass0 (pa_cons (pv 0) (pa_cons (pe_op op_add (pv 1) pe_int) pa_nil))))) pss_nil)
    (pss_cons (ps_if (pt_cmpR op_eq (pv 3) pe_str (nomark _)) (pss_one (ps_ret (pe_ifExp (pt_cmpR op_lt (pv 2) pe_int (nomark _))
        (pe_call G hr rfl T.law_read_tuple.m T.law_read_tuple.F.kp T.law_read_tuple.b .nil pass0 (pa_cons (pv 0) (pa_cons (pe_op op_add (pv 1) pe_int) (pa_cons (pe_op op_add (pv 2) pe_int) pa_nil))))
        (pe_tup (pa_cons pe_non (pa_cons (pv 1) (pa_cons pe_bl pa_nil))))))) pss_nil)
    (pss_one (ps_ret (pe_call GI hr1 rfl T.law_read_integer.m T.law_read_integer.F.kp T.law_read_integer.b .nil pass0 (pa_cons (pv 0) (pa_cons (pv 1) pa_nil))))))))), ?_⟩
  have hzl : z.length = (tl z).length := len_tl z
  have bad : ∀ n : Nat, r = .bad n → (3 : Nat) ≤ sizeLine ∧ ∀ p, H p = none → Q (.ref p) (upd H p (.tup [.non, .int (n : Int), .bl true])) := fun n e =>
    ⟨by decide, fun p hp => kk _ _ (same_new hp _) (by rw [e]; exact ⟨p, rfl, upd_same⟩)⟩
  refine ⟨_, rfl, _, rfl, z, rfl, size10 hz, _, _, rfl, rfl, _, rfl, ?_⟩
  rw [hzl]
  by_cases hlt : q < (tl z).length
  · have e1 : decide (((q : Nat) : Int) ≥ ((tl z).length : Int)) = false := decide_eq_false (by omega)
    rw [e1]
    have hc : (tl z)[q]? = some (tl z)[q] := List.getElem?_eq_getElem hlt
    generalize (tl z)[q] = c at hc
    refine iteF ⟨_, rfl, _, rfl, z, _, c, rfl, rfl, size10 hz, atI_nat hc, _, rfl, rfl, _, rfl, ?_⟩
    rw [one_is cs_dot]
    by_cases h46 : c = 46
    · subst h46
      have er : r = .ok .none (q + 1) := by
        have := go_pl g (by rw [hc]; decide)
        rw [this]; unfold pl; rw [if_pos hc]
      refine iteT ⟨_, rfl, _, _, rfl, rfl, (by show 3 ≤ sizeLine; decide), fun p hp => ?_⟩
      exact kk _ _ (same_new hp _) (by rw [er]; exact ⟨p, _, rfl, upd_same, .non⟩)
    rw [decide_eq_false h46]
    refine iteF ⟨_, rfl, rfl, _, rfl, ?_⟩
    rw [one_is cs_quote]
    by_cases h39 : c = 39
    · subst h39
      have er : r = RS (tl z) (q + 1) [] := by
        have := go_pl g (by rw [hc]; decide)
        rw [this]; unfold pl; rw [if_neg (by rw [hc]; decide), if_pos hc]
      refine iteT ⟨_, rfl, _, rfl, _, _, rfl, rfl, z, q + 1, rfl, hz, by omega, fun H' u s' tu => kk H' u s' (by rw [er]; exact tu)⟩
    rw [decide_eq_false h39]
    refine iteF ⟨_, rfl, rfl, _, rfl, ?_⟩
    rw [one_is cs_open]
    by_cases h40 : c = 40
    · subst h40
      refine iteT ⟨_, rfl, _, _, rfl, rfl, _, rfl, ?_⟩
      by_cases h30 : d < 30
      · have e3 : decide (((d : Nat) : Int) < 30) = true := decide_eq_true (by omega)
        rw [e3]
        have g2 : Go (tl z) .tup (q + 1) (d + 1) r := by
          cases g with
          | par _ _ g => exact g
          | deep _ h => omega
          | fin e => rw [hc] at e; cases e
          | dot e => rw [hc] at e; cases e
          | quo e => rw [hc] at e; cases e
          | num e _ _ h3 => rw [hc] at e; exact absurd (Option.some.inj e).symm h3
        exact iteT ⟨_, rfl, _, rfl, _, _, rfl, rfl, _, rfl, _, _, rfl, rfl, z, q + 1, d + 1, r, rfl, hz, by omega, by omega, by omega, g2, kk⟩
      · have e3 : decide (((d : Nat) : Int) < 30) = false := decide_eq_false (by omega)
        rw [e3]
        have er : r = .bad q := by
          cases g with
          | par _ h _ => omega
          | deep _ h => rfl
          | fin e => rfl
          | dot e => rw [hc] at e; cases e
          | quo e => rw [hc] at e; cases e
          | num e _ _ h3 => rw [hc] at e; exact absurd (Option.some.inj e).symm h3
        exact iteF ⟨_, rfl, bad q er⟩
    rw [decide_eq_false h40]
    have er : r = rint (tl z) q := by
      have := go_pl g (by rw [hc]; intro e; exact h40 (Option.some.inj e))
      rw [this]; unfold pl
      rw [if_neg (by rw [hc]; intro e; exact h46 (Option.some.inj e)), if_neg (by rw [hc]; intro e; exact h39 (Option.some.inj e))]
    exact iteF ⟨_, rfl, _, rfl, z, q, rfl, hz, hlt, fun H' u s' tu => kk H' u s' (by rw [er]; exact tu)⟩
  · have e1 : decide (((q : Nat) : Int) ≥ ((tl z).length : Int)) = true := decide_eq_true (by omega)
    rw [e1]
    have hx : (tl z)[q]? = none := List.getElem?_eq_none_iff.mpr (by omega)
    have er : r = .bad q := by
      have := go_pl g (by rw [hx]; nofun)
      rw [this]; unfold pl
      rw [if_neg (by rw [hx]; nofun), if_neg (by rw [hx]; nofun), rint_none hx]
    exact iteT ⟨_, rfl, bad q er⟩
/-- _law_read_tuple's loop; what stands in the loop behind the third statement -/
def loopT : List Stmt := (defBody s_law_read_tuple).drop 2
def tailT : List Stmt := match loopT with
  | [.While _ b _ _] => b.drop 3
  | _ => []
abbrev NT : List Str := ["_law_text", "_law_at", "_law_deep_here", "_law_found", "_law_thing_here", "_law_wrong"]
theorem tup_tail (T : Tx P K mg) {cdv : Value} {A : Around} {outer : List Env} {s : Shared} {H : Hp} {E : XK} :
    ∃ t, PSs (cxOf CX0 P w K mg base NT "_law_read_tuple" (defScope s_law_read_tuple) T.f_law_read_tuple cdv A outer s H E).nox tailT t ∧
      ∀ (D : Ends) (H1 : Hp) (z : Str) (j d : Nat) (fa : Addr) (xs : List V) (l : List PyData) (v : V) (r : Res), z.length ≤ 10000 → j ≤ (tl z).length → H1 fa = some (.tup xs) → PuAll H1 xs l →
        ((tl z)[j]? = some 41 → r = .ok (.tuple l) (j + 1)) → ((tl z)[j]? = some 44 → D.nx [some (.str z), some (.int ((j + 1 : Nat) : Int)), some (.int (d : Int)), some (.ref fa), some v, some (.bl false)] H1) →
        ((tl z)[j]? ≠ some 41 → (tl z)[j]? ≠ some 44 → r = .bad j) → (∀ (H' : Hp) (u : V), Same H1 H' → Tl H' u r → D.rt u H') →
        t D [some (.str z), some (.int (j : Int)), some (.int (d : Int)), some (.ref fa), some v, some (.bl false)] H1 := by
  have nd := sc_law_read_tuple.nd
  refine ⟨_, pss_cons (ps_if (PW.pt (pw_and (pt_cmpR op_lt (pv 1) (pe_callB call_len_str (by rfl) T.z_len PySem.boot_len (pa_cons (pv 0) pa_nil)) (nomark _)) (pw_and1 (pt_cmpR op_eq (pe_ix ix_str (pv 0) (pv 1) (fun _ _ => rfl)) pe_str (nomark _)))))
      (pss_one (ps_ret (pe_tup (pa_cons (pv 3) (pa_cons (pe_op op_add (pv 1) pe_int) (pa_cons pe_bl pa_nil)))))) pss_nil)
    (pss_cons (ps_if (PW.pt (pw_or (pt_cmpR op_eq (pv 1) (pe_callB call_len_str (by rfl) T.z_len PySem.boot_len (pa_cons (pv 0) pa_nil)) (nomark _)) (pw_or1 (pt_cmpR op_ne (pe_ix ix_str (pv 0) (pv 1) (fun _ _ => rfl)) pe_str (nomark _)))))
      (pss_one (ps_ret (pe_tup (pa_cons pe_non (pa_cons (pv 1) (pa_cons pe_bl pa_nil)))))) pss_nil)
    (pss_one (ps_set (i := 1) nd rfl (Or.inl rfl) (pe_op op_add (pv 1) pe_int)))), ?_⟩
  intro D H1 z j d fa xs l v r hz hj hfa hpu hA hB hC kk
  have hzl : z.length = (tl z).length := len_tl z
  have bad : r = .bad j → (3 : Nat) ≤ sizeLine ∧ ∀ p, H1 p = none → D.rt (.ref p) (upd H1 p (.tup [.non, .int (j : Int), .bl true])) := fun e =>
    ⟨by decide, fun p hp => kk _ _ (same_new hp _) (by rw [e]; exact ⟨p, rfl, upd_same⟩)⟩
  refine ⟨_, rfl, _, rfl, z, rfl, size10 hz, _, _, rfl, rfl, _, rfl, ?_⟩
  rw [hzl]
  by_cases hlt : j < (tl z).length
  · have e1 : decide (((j : Nat) : Int) < ((tl z).length : Int)) = true := decide_eq_true (by omega)
    rw [e1]
    have hc : (tl z)[j]? = some (tl z)[j] := List.getElem?_eq_getElem hlt
    generalize (tl z)[j] = c at hc
    refine iteT ⟨_, rfl, _, rfl, z, _, c, rfl, rfl, size10 hz, atI_nat hc, rfl, _, rfl, ?_⟩
    rw [one_is cs_close]
    by_cases h41 : c = 41
    · subst h41
      refine iteT ⟨_, rfl, _, rfl, _, _, rfl, rfl, (by show 3 ≤ sizeLine; decide), fun p hp => ?_⟩
      have s1 := same_new hp (.tup [.ref fa, .int ((j + 1 : Nat) : Int), .bl false])
      exact kk _ _ s1 (by rw [hA hc]; exact ⟨p, _, rfl, upd_same, .tup (s1 _ _ hfa) (PuAll.mono (tk_of s1) _ _ hpu)⟩)
    · rw [decide_eq_false h41]
      refine iteF ⟨_, rfl, _, rfl, z, rfl, size10 hz, rfl, _, rfl, ?_⟩
      rw [hzl]
      have e2 : decide (V.int (j : Int) = V.int ((tl z).length : Int)) = false := decide_eq_false (fun e => by have := V.int.inj e; omega)
      rw [e2]
      refine iteF ⟨_, rfl, _, rfl, z, _, c, rfl, rfl, size10 hz, atI_nat hc, rfl, _, rfl, ?_⟩
      rw [one_is cs_comma]
      by_cases h44 : c = 44
      · subst h44
        refine iteF ⟨_, rfl, _, _, rfl, rfl, ?_⟩
        exact hB hc
      · rw [decide_eq_false h44]
        exact iteT ⟨_, rfl, bad (hC (by rw [hc]; intro e; exact h41 (Option.some.inj e)) (by rw [hc]; intro e; exact h44 (Option.some.inj e)))⟩
  · have e1 : decide (((j : Nat) : Int) < ((tl z).length : Int)) = false := decide_eq_false (by omega)
    rw [e1]
    refine iteF ⟨_, rfl, _, rfl, z, rfl, size10 hz, rfl, _, rfl, ?_⟩
    rw [hzl]
    have ej : j = (tl z).length := by omega
    have e2 : decide (V.int (j : Int) = V.int ((tl z).length : Int)) = true := decide_eq_true (by rw [ej])
    rw [e2]
    have hx : (tl z)[j]? = none := List.getElem?_eq_none_iff.mpr (by omega)
    exact iteT (iteT ⟨_, rfl, bad (hC (by rw [hx]; nofun) (by rw [hx]; nofun))⟩)
theorem tup_loop (T : Tx P K mg) {N k : Nat} (G : FnOk P w K mg base CX0 k T.f_law_first_wrong T.d_law_first_wrong ["_law_text", "_law_at", "_law_deep_here"] (spFirst N)) {cdv : Value} {A : Around} {outer : List Env} {s : Shared} {H : Hp} {E : XK}
    (hr : Room k (A.deeper (PyProof.Rows.envOfC "_law_read_tuple" (defScope s_law_read_tuple) s.heap.objs.size T.f_law_read_tuple cdv))) :
    ∃ t, PSs (cxOf CX0 P w K mg base NT "_law_read_tuple" (defScope s_law_read_tuple) T.f_law_read_tuple cdv A outer s H E).nox loopT t ∧
      ∀ (D : Ends) (H1 : Hp) (z : Str) (q d : Nat) (fa : Addr) (r : Res) (x4 x5 : Option V), z.length ≤ 10000 → q ≤ (tl z).length → d ≤ 30 → 30 < d + N → H1 fa = some (.tup []) → Go (tl z) (.more []) q d r →
        (∀ (H' : Hp) (u : V), Same H1 H' → Tl H' u r → D.rt u H') → t D [some (.str z), some (.int (q : Int)), some (.int (d : Int)), some (.ref fa), x4, x5] H1 := by
  have nd := sc_law_read_tuple.nd
  obtain ⟨t2, ht2, hq2⟩ := tup_tail (P := P) (w := w) (base := base) T (cdv := cdv) (A := A) (outer := outer) (s := s) (H := H) (E := E)
  refine ⟨_, pss_one (ps_while PassesOwn.never (pt_val pe_bl)
      (pss_cons (ps_asg (pe_call G hr rfl T.law_first_wrong.m T.law_first_wrong.F.kp T.law_first_wrong.b .nil pass0 (pa_cons (pv 0) (pa_cons (pv 1) (pa_cons (pv 2) pa_nil))))
          (pg_tup rfl (pgs_cons (pg_name (i := 4) nd rfl (Or.inl rfl)) (pgs_cons (pg_name (i := 1) nd rfl (Or.inl rfl)) (pgs_cons (pg_name (i := 5) nd rfl (Or.inl rfl)) pgs_nil)))))
      (pss_cons (ps_if (pt_val (pv 5)) (pss_one (ps_ret (pe_tup (pa_cons pe_non (pa_cons (pv 1) (pa_cons pe_bl pa_nil)))))) pss_nil)
      (pss_cons (ps_set (i := 3) nd rfl (Or.inl rfl) (pe_op op_catA (pv 3) (pe_tup (pa_cons (pv 4) pa_nil)))) ht2)))), ?_⟩
  intro D H1 z q d fa r x4 x5 hz hq hd hN hfa g kk
  refine ⟨fun m σ J => ∃ (j : Nat) (b : Addr) (xs : List V) (l : List PyData) (y4 y5 : Option V), m = (tl z).length + 1 - j ∧ σ = [some (.str z), some (.int (j : Int)), some (.int (d : Int)), some (.ref b), y4, y5] ∧ Same H1 J ∧ j ≤ (tl z).length ∧ J b = some (.tup xs) ∧ PuAll J xs l ∧ l.length ≤ j ∧ Go (tl z) (.more l) j d r,
    ⟨_, q, fa, [], [], x4, x5, rfl, rfl, Same.refl H1, hq, hfa, .nil, Nat.zero_le _, g⟩, ?_⟩
  rintro m σ J ⟨j, b, xs, l, y4, y5, rfl, rfl, s1, hj, hb, hpu, hl, g1⟩
  refine ⟨_, rfl, ?_⟩
  refine iteT ⟨fun τ J' => ∃ (j2 : Nat) (b2 : Addr) (xs2 : List V) (l2 : List PyData) (y4 y5 : Option V), j < j2 ∧ τ = [some (.str z), some (.int (j2 : Int)), some (.int (d : Int)), some (.ref b2), y4, y5] ∧ Same H1 J' ∧ j2 ≤ (tl z).length ∧ J' b2 = some (.tup xs2) ∧ PuAll J' xs2 l2 ∧ l2.length ≤ j2 ∧ Go (tl z) (.more l2) j2 d r, ?_, ?_⟩
  · rintro τ J' ⟨j2, b2, xs2, l2, y4, y5, a1, rfl, a2, a3, a4, a5, a6, a7⟩
    exact ⟨_, by omega, j2, b2, xs2, l2, y4, y5, rfl, rfl, a2, a3, a4, a5, a6, a7⟩
  -- the item that begins here, by the derivation
  have call : ∀ r1 : Res, Go (tl z) .item j d r1 → ∀ Q' : VK, (∀ (J2 : Hp) (u : V), Same J J2 → Tl J2 u r1 → Q' u J2) → spFirst N [.str z, .int (j : Int), .int (d : Int)] J Q' (fun _ _ _ => False) :=
    fun r1 g2 Q' hQ => ⟨z, j, d, r1, rfl, hz, hj, hd, hN, g2, hQ⟩
  have hxl := hpu.length
  have hzl : z.length = (tl z).length := len_tl z
  -- a thing was read: it is put to the others
  have onward : ∀ (t : PyData) (b' : Nat) (J2 : Hp) (u : Addr) (v : V), Same J J2 → J2 u = some (.tup [v, .int (b' : Int), .bl false]) → Pu J2 v t → j < b' → b' ≤ (tl z).length → ((tl z)[b']? = some 41 → r = .ok (.tuple (l ++ [t])) (b' + 1)) →
      ((tl z)[b']? = some 44 → Go (tl z) (.more (l ++ [t])) (b' + 1) d r) → ((tl z)[b']? ≠ some 41 → (tl z)[b']? ≠ some 44 → r = .bad b') →
      ∀ (J3 : Hp) (c : Addr), Same J2 J3 → J3 c = some (.tup (xs ++ [v])) → ∀ D' : Ends, D'.rt = D.rt → D'.nx = (fun τ J' => ∃ (j2 : Nat) (b2 : Addr) (xs2 : List V) (l2 : List PyData) (y4 y5 : Option V), j < j2 ∧ τ = [some (.str z), some (.int (j2 : Int)), some (.int (d : Int)), some (.ref b2), y4, y5] ∧ Same H1 J' ∧ j2 ≤ (tl z).length ∧ J' b2 = some (.tup xs2) ∧ PuAll J' xs2 l2 ∧ l2.length ≤ j2 ∧ Go (tl z) (.more l2) j2 d r) →
      t2 D' [some (.str z), some (.int (b' : Int)), some (.int (d : Int)), some (.ref c), some v, some (.bl false)] J3 := by
    intro t b' J2 u v s2 hu pv' hjb hbl hA hB hC J3 c s3 hc D' hD hDn
    have s13 : Same H1 J3 := s1.trans (s2.trans s3)
    have pu3 : PuAll J3 (xs ++ [v]) (l ++ [t]) := PuAll.snoc (Pu.mono (tk_of s3) _ _ pv') (PuAll.mono (tk_of (s2.trans s3)) _ _ hpu)
    refine hq2 D' J3 z b' d c (xs ++ [v]) (l ++ [t]) v r hz hbl hc pu3 hA (fun h44 => ?_) hC (fun H' u s' tu => by rw [hD]; exact kk H' u (s13.trans s') tu)
    have := (List.getElem?_eq_some_iff.mp h44).1
    rw [hDn]
    exact ⟨b' + 1, c, xs ++ [v], l ++ [t], some v, some (.bl false), by omega, rfl, s13, by omega, hc, pu3, by simp only [List.length_append, List.length_cons, List.length_nil]; omega, hB h44⟩
  cases g1 with
  | @mbad _ _ _ n g2 =>
    refine ⟨_, rfl, _, rfl, _, rfl, z, j, d, _, rfl, hz, hj, hd, hN, g2, fun J2 u s2 tu => ?_⟩
    obtain ⟨a, rfl, hu⟩ := tu
    refine ⟨a, _, rfl, SqT.of hu, rfl, _, _, rfl, _, _, rfl, _, _, rfl, rfl, _, rfl, _, rfl, ?_⟩
    refine iteT ⟨_, rfl, (by show 3 ≤ sizeLine; decide), fun p hp => ?_⟩
    exact kk _ _ (s1.trans (s2.trans (same_new hp _))) ⟨p, rfl, upd_same⟩
  | @mend _ t _ _ b' g2 hlt hle hx =>
    refine ⟨_, rfl, _, rfl, _, rfl, z, j, d, _, rfl, hz, hj, hd, hN, g2, fun J2 u s2 tu => ?_⟩
    obtain ⟨a, v, rfl, hu, pv'⟩ := tu
    refine ⟨a, _, rfl, SqT.of hu, rfl, _, _, rfl, _, _, rfl, _, _, rfl, rfl, _, rfl, _, rfl, ?_⟩
    refine iteF ⟨_, rfl, _, rfl, (by show 1 ≤ sizeLine; decide), fun p hp => ?_⟩
    have s3 := same_new hp (.tup [v])
    refine ⟨b, p, xs, [v], rfl, rfl, SqT.of (s3 _ _ (s2 _ _ hb)), SqT.of upd_same, ?_, fun hxs => ?_, fun _ hy => (nomatch hy), fun _ _ p2 hp2 => ?_⟩
    · simp only [List.length_cons, List.length_nil]
      exact size10 (by omega)
    · refine onward t b' J2 a v s2 hu pv' hlt hle (fun _ => rfl) (fun e => by rw [hx] at e; cases e) (fun e => absurd hx e) _ p s3 (by rw [hxs]; exact upd_same) _ rfl rfl
    · refine onward t b' J2 a v s2 hu pv' hlt hle (fun _ => rfl) (fun e => by rw [hx] at e; cases e) (fun e => absurd hx e) _ p2 (s3.trans (same_new hp2 _)) upd_same _ rfl rfl
  | @mgo _ t _ _ b' _ g2 hlt hle hx g3 =>
    refine ⟨_, rfl, _, rfl, _, rfl, z, j, d, _, rfl, hz, hj, hd, hN, g2, fun J2 u s2 tu => ?_⟩
    obtain ⟨a, v, rfl, hu, pv'⟩ := tu
    refine ⟨a, _, rfl, SqT.of hu, rfl, _, _, rfl, _, _, rfl, _, _, rfl, rfl, _, rfl, _, rfl, ?_⟩
    refine iteF ⟨_, rfl, _, rfl, (by show 1 ≤ sizeLine; decide), fun p hp => ?_⟩
    have s3 := same_new hp (.tup [v])
    refine ⟨b, p, xs, [v], rfl, rfl, SqT.of (s3 _ _ (s2 _ _ hb)), SqT.of upd_same, ?_, fun hxs => ?_, fun _ hy => (nomatch hy), fun _ _ p2 hp2 => ?_⟩
    · simp only [List.length_cons, List.length_nil]
      exact size10 (by omega)
    · refine onward t b' J2 a v s2 hu pv' hlt hle (fun e => by rw [hx] at e; cases e) (fun _ => g3) (fun _ e => absurd hx e) _ p s3 (by rw [hxs]; exact upd_same) _ rfl rfl
    · refine onward t b' J2 a v s2 hu pv' hlt hle (fun e => by rw [hx] at e; cases e) (fun _ => g3) (fun _ e => absurd hx e) _ p2 (s3.trans (same_new hp2 _)) upd_same _ rfl rfl
  | @modd _ t _ _ b' g2 hlt hle h1 h2 =>
    refine ⟨_, rfl, _, rfl, _, rfl, z, j, d, _, rfl, hz, hj, hd, hN, g2, fun J2 u s2 tu => ?_⟩
    obtain ⟨a, v, rfl, hu, pv'⟩ := tu
    refine ⟨a, _, rfl, SqT.of hu, rfl, _, _, rfl, _, _, rfl, _, _, rfl, rfl, _, rfl, _, rfl, ?_⟩
    refine iteF ⟨_, rfl, _, rfl, (by show 1 ≤ sizeLine; decide), fun p hp => ?_⟩
    have s3 := same_new hp (.tup [v])
    refine ⟨b, p, xs, [v], rfl, rfl, SqT.of (s3 _ _ (s2 _ _ hb)), SqT.of upd_same, ?_, fun hxs => ?_, fun _ hy => (nomatch hy), fun _ _ p2 hp2 => ?_⟩
    · simp only [List.length_cons, List.length_nil]
      exact size10 (by omega)
    · refine onward t b' J2 a v s2 hu pv' hlt hle (fun e => absurd e h1) (fun e => absurd e h2) (fun _ _ => rfl) _ p s3 (by rw [hxs]; exact upd_same) _ rfl rfl
    · refine onward t b' J2 a v s2 hu pv' hlt hle (fun e => absurd e h1) (fun e => absurd e h2) (fun _ _ => rfl) _ p2 (s3.trans (same_new hp2 _)) upd_same _ rfl rfl
theorem ok_tup (T : Tx P K mg) {N k : Nat} (G : FnOk P w K mg base CX0 k T.f_law_first_wrong T.d_law_first_wrong ["_law_text", "_law_at", "_law_deep_here"] (spFirst N)) :
    FnOk P w K mg base CX0 (k + 1) T.f_law_read_tuple T.d_law_read_tuple ["_law_text", "_law_at", "_law_deep_here"] (spTup N) := by
  refine T.law_read_tuple.F.ok sc_law_read_tuple (fun vs H Q E h => ?_) (fun cdv A outer s H vs Q E hr h => ?_)
  · obtain ⟨z, q, d, r, rfl, _⟩ := h
    rfl
  obtain ⟨z, q, d, r, rfl, hz, hq, hd, hN, g, kk⟩ := h
  have nd := sc_law_read_tuple.nd
  obtain ⟨t2, ht2, hq2⟩ := tup_loop (P := P) (w := w) (base := base) T G (s := s) (H := H) (E := E) (outer := outer) hr
  refine ⟨_, pss_cons (ps_set (i := 3) nd rfl (Or.inl rfl) (pe_tup pa_nil))
    (pss_cons (ps_if (PW.pt (pw_and (pt_cmpR op_lt (pv 1) (pe_callB call_len_str (by rfl) T.z_len PySem.boot_len (pa_cons (pv 0) pa_nil)) (nomark _)) (pw_and1 (pt_cmpR op_eq (pe_ix ix_str (pv 0) (pv 1) (fun _ _ => rfl)) pe_str (nomark _)))))
      (pss_one (ps_ret (pe_tup (pa_cons (pe_tup pa_nil) (pa_cons (pe_op op_add (pv 1) pe_int) (pa_cons pe_bl pa_nil)))))) pss_nil) ht2), ?_⟩
  have hzl : z.length = (tl z).length := len_tl z
  refine ⟨(by show 0 ≤ sizeLine; decide), fun p0 hp0 => ?_⟩
  have s0 : Same H (upd H p0 (.tup [])) := same_new hp0 _
  have e0 : upd H p0 (.tup []) p0 = some (.tup []) := upd_same
  generalize upd H p0 (.tup []) = Ha at s0 e0 ⊢
  refine ⟨_, rfl, _, rfl, z, rfl, size10 hz, _, _, rfl, rfl, _, rfl, ?_⟩
  rw [hzl]
  have on : (tl z)[q]? ≠ some 41 → Go (tl z) (.more []) q d r := by
    intro h
    cases g with
    | tup0 e => exact absurd e h
    | tup1 _ g => exact g
  by_cases hlt : q < (tl z).length
  · have e1 : decide (((q : Nat) : Int) < ((tl z).length : Int)) = true := decide_eq_true (by omega)
    rw [e1]
    have hc : (tl z)[q]? = some (tl z)[q] := List.getElem?_eq_getElem hlt
    generalize (tl z)[q] = c at hc
    refine iteT ⟨_, rfl, _, rfl, z, _, c, rfl, rfl, size10 hz, atI_nat hc, rfl, _, rfl, ?_⟩
    rw [one_is cs_close]
    by_cases h41 : c = 41
    · subst h41
      have er : r = .ok (.tuple []) (q + 1) := by
        cases g with
        | tup0 e => rfl
        | tup1 e _ => exact absurd hc e
      refine iteT ⟨(by show 0 ≤ sizeLine; decide), fun p1 hp1 => ⟨_, rfl, _, _, rfl, rfl, (by show 3 ≤ sizeLine; decide), fun p hp => ?_⟩⟩
      have s1 := same_new hp1 (.tup [])
      have s2 := same_new hp (.tup [.ref p1, .int ((q : Int) + 1), .bl false])
      exact kk _ _ (s0.trans (s1.trans s2)) (by rw [er]; exact ⟨p, _, rfl, upd_same, .tup (s2 _ _ upd_same) .nil⟩)
    · rw [decide_eq_false h41]
      exact iteF (hq2 _ Ha z q d p0 r none none hz hq hd hN e0 (on (by rw [hc]; intro e; exact h41 (Option.some.inj e))) (fun H' u s' tu => kk H' u (s0.trans s') tu))
  · have e1 : decide (((q : Nat) : Int) < ((tl z).length : Int)) = false := decide_eq_false (by omega)
    rw [e1]
    have hx : (tl z)[q]? = none := List.getElem?_eq_none_iff.mpr (by omega)
    exact iteF (hq2 _ Ha z q d p0 r none none hz hq hd hN e0 (on (by rw [hx]; nofun)) (fun H' u s' tu => kk H' u (s0.trans s') tu))
theorem ok_first (T : Tx P K mg) : ∀ N : Nat, FnOk P w K mg base CX0 (2 * N + 1) T.f_law_first_wrong T.d_law_first_wrong ["_law_text", "_law_at", "_law_deep_here"] (spFirst N)
  | 0 => first_none
  | N + 1 => ok_first_step T (k := 2 * N + 2) (by omega) (ok_tup T (ok_first T N))
/-- ("thing", it), or ("wrong", the place) -/
def Told (H : Hp) (u : V) : Fin → Prop
  | .good d => ∃ (t : Addr) (v : V), u = .ref t ∧ H t = some (.tup [.str ("thing" : Str), v]) ∧ Pu H v d
  | .wrong n => ∃ t : Addr, u = .ref t ∧ H t = some (.tup [.str ("wrong" : Str), .int (n : Int)])
def spLUn : Sp := fun vs H Q _ => ∃ (z : Str) (r : Res), vs = [.str z] ∧ z.length ≤ 10000 ∧ Go (tl z) .item 0 0 r ∧ ∀ (H' : Hp) (u : V), Same H H' → Told H' u (finOf (tl z) r) → Q u H'
theorem ok_lun (T : Tx P K mg) : FnOk P w K mg base CX0 64 T.f_law_unpacked T.d_law_unpacked ["_law_text"] spLUn := by
  have GF : FnOk P w K mg base CX0 63 T.f_law_first_wrong T.d_law_first_wrong ["_law_text", "_law_at", "_law_deep_here"] (spFirst 31) := ok_first T 31
  refine T.law_unpacked.F.ok sc_law_unpacked (fun vs H Q E h => ?_) (fun cdv A outer s H vs Q E hr h => ?_)
  · obtain ⟨z, r, rfl, _⟩ := h
    rfl
  obtain ⟨z, r, rfl, hz, g, kk⟩ := h
  have nd := sc_law_unpacked.nd
  refine ⟨_, pss_cons (ps_asg (pe_call GF hr rfl T.law_first_wrong.m T.law_first_wrong.F.kp T.law_first_wrong.b .nil pass0 (pa_cons (pv 0) (pa_cons pe_int (pa_cons pe_int pa_nil))))
      (pg_tup rfl (pgs_cons (pg_name (i := 1) nd rfl (Or.inl rfl)) (pgs_cons (pg_name (i := 2) nd rfl (Or.inl rfl)) (pgs_cons (pg_name (i := 3) nd rfl (Or.inl rfl)) pgs_nil)))))
    (pss_cons (ps_if (pt_val (pv 3)) (pss_one (ps_ret (pe_tup (pa_cons pe_str (pa_cons (pv 2) pa_nil))))) pss_nil)
    (pss_one (ps_ret (pe_ifExp (pt_cmpR op_eq (pv 2) (pe_callB call_len_str (by rfl) T.z_len PySem.boot_len (pa_cons (pv 0) pa_nil)) (nomark _)) (pe_tup (pa_cons pe_str (pa_cons (pv 1) pa_nil))) (pe_tup (pa_cons pe_str (pa_cons (pv 2) pa_nil))))))), ?_⟩
  have hzl : z.length = (tl z).length := len_tl z
  refine ⟨_, rfl, z, 0, 0, r, rfl, hz, Nat.zero_le _, by decide, by decide, g, fun J2 u s2 tu => ?_⟩
  cases r with
  | bad n =>
    obtain ⟨a, rfl, hu⟩ := tu
    refine ⟨a, _, rfl, SqT.of hu, rfl, _, _, rfl, _, _, rfl, _, _, rfl, rfl, _, rfl, _, rfl, ?_⟩
    refine iteT ⟨_, rfl, (by show 2 ≤ sizeLine; decide), fun p hp => ?_⟩
    exact kk _ _ (s2.trans (same_new hp _)) ⟨p, rfl, upd_same⟩
  | ok t b =>
    obtain ⟨a, v, rfl, hu, pv'⟩ := tu
    refine ⟨a, _, rfl, SqT.of hu, rfl, _, _, rfl, _, _, rfl, _, _, rfl, rfl, _, rfl, _, rfl, ?_⟩
    refine iteF ⟨_, rfl, _, rfl, z, rfl, size10 hz, rfl, _, rfl, ?_⟩
    rw [hzl]
    have ed : decide (V.int (b : Int) = V.int ((tl z).length : Int)) = decide (b = (tl z).length) := decide_eq_decide.mpr ⟨fun e => by have := V.int.inj e; omega, fun e => by rw [e]⟩
    rw [ed]
    have ef : finOf (tl z) (.ok t b) = if b = (tl z).length then .good t else .wrong b := rfl
    rw [ef] at kk
    by_cases hb : b = (tl z).length
    · rw [decide_eq_true hb]
      rw [if_pos hb] at kk
      refine iteT ⟨_, rfl, (by show 2 ≤ sizeLine; decide), fun p hp => ?_⟩
      have s3 := same_new hp (.tup [.str ("thing" : Str), v])
      exact kk _ _ (s2.trans s3) ⟨p, v, rfl, upd_same, Pu.mono (tk_of s3) _ _ pv'⟩
    · rw [decide_eq_false hb]
      rw [if_neg hb] at kk
      refine iteF ⟨_, rfl, (by show 2 ≤ sizeLine; decide), fun p hp => ?_⟩
      exact kk _ _ (s2.trans (same_new hp _)) ⟨p, rfl, upd_same⟩
end
end K28

/-! K28X4: the law's hand: _law_hand, _law_draw, _law_any. -/
namespace K28
open PySem L2 TL
/-- a hand stands at a -/
def HandAt (H : Hp) (a c : Addr) : Prop := ∃ (i b s k : Int) (ns : List Int), H a = some (.lst [.ref c, .int i, .int b, .int s, .int k]) ∧ c ≠ a ∧ H c = some (.lst (ns.map V.int)) ∧
  (∀ n ∈ ns, 0 ≤ n) ∧ 0 ≤ i ∧ 0 ≤ b ∧ 0 ≤ s ∧ s < 2147483647 ∧ 0 ≤ k
theorem hand_same {H H' : Hp} {a c : Addr} (h : HandAt H a c) (s : Same H H') : HandAt H' a c := by
  obtain ⟨i, b, s', k, ns, h1, h2, h3, r⟩ := h
  exact ⟨i, b, s', k, ns, s _ _ h1, h2, s _ _ h3, r⟩
theorem cut_ints (ns : List Int) (lo hi : Option Int) : ∃ ms : List Int, cutV (ns.map V.int) lo hi = ms.map V.int ∧ ms.length ≤ ns.length := by
  refine ⟨_, by unfold cutV; rw [← List.map_drop, ← List.map_take], ?_⟩
  rw [List.length_take, List.length_drop]; omega
theorem none_back {H H' : Hp} {b : Addr} (s : Same H H') (h : H' b = none) : H b = none := by
  cases e : H b with
  | none => rfl
  | some o => rw [s b o e] at h; cases h
theorem hand_new {H : Hp} {a c D : Addr} {o : HO} (h : HandAt H a c) (na : a ≠ D) (nc : c ≠ D) : HandAt (upd H D o) a c := by
  obtain ⟨i, b, s', k, ns, h1, h2, h3, r⟩ := h
  exact ⟨i, b, s', k, ns, by rw [upd_ne na]; exact h1, h2, by rw [upd_ne nc]; exact h3, r⟩
theorem hand_ne {H : Hp} {a c D : Addr} (h : HandAt H a c) (hD : H D = none) : a ≠ D ∧ c ≠ D := by
  obtain ⟨i, b, s', k, ns, h1, h2, h3, r⟩ := h
  exact ⟨ne_of_none h1 hD, ne_of_none h3 hD⟩
theorem kp_new {H1 H2 : Hp} {a D : Addr} {o : HO} (hD : H1 D = none) (k : Kp a H1 H2) : Kp a H1 (upd H2 D o) :=
  ⟨fun b u n e => by rw [upd_ne (ne_of_none e hD)]; exact k.keep b u n e, fun b xs e => by rw [upd_ne (ne_of_none e hD)]; exact k.tups b xs e⟩
section
variable {P : Program} {w : World} {K : PySem.W.Frag} {mg : Str → Option Value} {base : Heap}
def spHand : Sp := fun vs H Q _ => ∃ (a0 : Addr) (ns : List Int), vs = [.ref a0] ∧ SqL K H a0 (ns.map V.int) ∧ ns.length ≤ 10000 ∧ ∀ (a c : Addr) (H' : Hp), Same H H' → HandAt H' a c → H a = none → H c = none → Q (.ref a) H'
theorem ok_hand (T : Tx P K mg) : FnOk P w K mg base CX0 1 T.f_law_hand T.d_law_hand ["_law_script"] (spHand (K := K)) := by
  refine T.law_hand.F.ok sc_law_hand (fun vs H Q E h => ?_) (fun cdv A outer s H vs Q E hr h => ?_)
  · obtain ⟨a0, ns, rfl, _⟩ := h
    rfl
  obtain ⟨a0, ns, rfl, hl, hn, q⟩ := h
  have nd := sc_law_hand.nd
  refine ⟨_, pss_cons (ps_setLc (i := 1) (own := [("_law_cell", 2)]) (g := gName 2) (tt := tYes) rfl nd rfl rfl (sw_true rfl rfl rfl (by decide +kernel))
      (pi_list (pe_slice sl_list (pv 0) po_none (po_some pe_int))) (blkOk_by (own := [("_law_cell", 2)]) (N := ["_law_script", "_law_cells", "_law_cell"]) (sc := defScope s_law_hand) (by decide +kernel))
      (fun _ _ _ _ _ => pg_name (i := 2) nd rfl (Or.inl rfl)) (fun _ _ _ _ _ => pts_nil)
      (fun _ _ _ _ _ => pe_callB call_abs (by rfl) T.z_abs (by decide +kernel) (pa_cons (pe_callTy call_int1 (by rfl) T.z_int (by decide +kernel) (pa_cons (pv 2) pa_nil)) pa_nil)))
    (pss_one (ps_ret (pe_lst (pa_cons (pv 1) (pa_cons pe_int (pa_cons pe_int (pa_cons (pe_op op_add pe_int (pe_callB call_len (by rfl) T.z_len (by decide +kernel) (pa_cons (pv 1) pa_nil))) (pa_cons pe_int pa_nil)))))))), ?_⟩
  refine ⟨_, rfl, 63, rfl, a0, _, rfl, hl, fun p hp => ?_⟩
  obtain ⟨ms, em, hm⟩ := cut_ints ns none (some 63)
  rw [em]
  refine ⟨p, rfl, ⟨_, SqL.of upd_same⟩, fun D hD => ?_⟩
  have np : p ≠ D := fun z => by rw [z, upd_same] at hD; cases hD
  refine lc_it (walk_list (xs := ms.map V.int)) (fun i H' => Same H H' ∧ H' p = some (.lst (ms.map V.int)) ∧ ∃ zs : List Int, H' D = some (.lst (zs.map V.int)) ∧ zs.length = i ∧ ∀ n ∈ zs, 0 ≤ n) ?_ (fun i H' _ h => SqL.of h.2.1) ?_ ?_
  · exact ⟨(same_new hp _).trans (same_new hD _), by rw [upd_ne np]; exact upd_same, [], upd_same, rfl, fun _ h => by cases h⟩
  · rintro i x H1 H2 hi ⟨s1, e1, zs, e2, e3, e4⟩ ⟨rfl, hx⟩
    obtain ⟨n, hn', rfl⟩ : ∃ n, ms[i]? = some n ∧ x = .int n := by
      rw [List.getElem?_map] at hx
      cases e : ms[i]? with
      | none => rw [e] at hx; cases hx
      | some n => rw [e] at hx; exact ⟨n, rfl, by cases hx; rfl⟩
    refine ⟨rfl, _, rfl, .inl ⟨n, rfl, n, rfl, _, e2, ?_, fun b o e => ?_, by rw [upd_ne np]; exact e1, zs ++ [if n < 0 then -n else n], by rw [upd_same]; simp, by simp [e3], ?_⟩⟩
    · rw [List.length_map]
      rw [List.length_map] at hi
      exact Nat.lt_of_lt_of_le (show zs.length < 10001 by omega) (by decide)
    · have : b ≠ D := fun z => by
        subst z
        have := same_new hp (.lst (ms.map V.int)) b o e
        rw [hD] at this; cases this
      rw [upd_ne this]; exact s1 b o e
    · intro m hm'
      rcases List.mem_append.mp hm' with h | h
      · exact e4 m h
      · rw [List.mem_singleton] at h
        subst h
        split <;> omega
  · rintro H1 ⟨s1, e1, zs, e2, e3, e4⟩
    rw [List.length_map] at e3
    refine ⟨_, rfl, _, rfl, _, zs.length, rfl, .inl ⟨_, SqL.of e2, by rw [List.length_map]⟩, _, _, rfl, rfl, ?_⟩
    · refine ⟨by show 5 ≤ sizeLine; decide, fun a ha => ?_⟩
      have ne : D ≠ a := fun z => by rw [z, ha] at e2; cases e2
      have hA : H a = none := by
        cases e : H a with
        | none => rfl
        | some o => rw [s1 a o e] at ha; cases ha
      have hDn : H D = none := by
        cases e : H D with
        | none => rfl
        | some o => rw [same_new hp (.lst (ms.map V.int)) D o e] at hD; cases hD
      refine q a D _ (s1.trans (same_new ha _)) ⟨0, 0, 1 + (zs.length : Nat), 0, zs, upd_same, ne, by rw [upd_ne ne]; exact e2, e4, by omega, by omega, by omega, by omega, by omega⟩ hA hDn
theorem hand_put {H : Hp} {a c : Addr} {ns : List Int} {i b s k : Int} {xs : List V} (ha : H a = some (.lst xs)) (n : c ≠ a) (hc : H c = some (.lst (ns.map V.int))) (hn : ∀ n ∈ ns, 0 ≤ n) (h1 : 0 ≤ i) (h2 : 0 ≤ b) (h3 : 0 ≤ s) (h4 : s < 2147483647) (h5 : 0 ≤ k) :
    HandAt (upd H a (.lst [.ref c, .int i, .int b, .int s, .int k])) a c ∧ Kp a H (upd H a (.lst [.ref c, .int i, .int b, .int s, .int k])) :=
  ⟨⟨i, b, s, k, ns, upd_same, n, by rw [upd_ne n]; exact hc, hn, h1, h2, h3, h4, h5⟩, kp_upd (not_tup_lst ha)⟩
def restD : List Stmt := (defBody s_law_draw).drop 1
theorem draw_rest (T : Tx P K mg) {cdv : Value} {A : Around} {outer : List Env} {s : Shared} {H : Hp} {E : XK} :
    ∃ t, PSs (cxOf CX0 P w K mg base ["_law_hand_here", "_law_many", "_law_cell", "_law_digit", "_law_number"] "_law_draw" (defScope s_law_draw) T.f_law_draw cdv A outer s H E).nox restD t ∧
      ∀ (D : Ends) (H1 : Hp) (a c : Addr) (m : Int) (cv : Option V), HandAt H1 a c → 1 ≤ m → m < 1073741824 → (∀ (H' : Hp) (d : Int), HandAt H' a c → Kp a H1 H' → 0 ≤ d → d < m → D.rt (.int d) H') →
        t D [some (.ref a), some (.int m), cv, none, none] H1 := by
  have nd := sc_law_draw.nd
  refine ⟨_, pss_cons (ps_if (pt_cmpR op_gt (pe_ix ix_list (pv 0) pe_int (fun _ _ => rfl)) pe_int (nomark _))
      (pss_cons (ps_set (i := 3) nd rfl (Or.inl rfl) (pe_op op_mod (pe_callTy call_int1 (by rfl) T.z_int (by decide +kernel) (pa_cons (pe_ix ix_list (pv 0) pe_int (fun _ _ => rfl)) pa_nil)) (pv 1)))
      (pss_cons (ps_asg (pe_op op_fdiv (pe_ix ix_list (pv 0) pe_int (fun _ _ => rfl)) (pv 1)) (pg_sub (pv 0) pe_int set_list))
      (pss_one (ps_ret (pv 3))))) pss_nil)
    (pss_cons (ps_asg (pe_op op_add (pe_ix ix_list (pv 0) pe_int (fun _ _ => rfl)) pe_int) (pg_sub (pv 0) pe_int set_list))
    (pss_cons (ps_set (i := 4) nd rfl (Or.inl rfl) (pe_op op_mod (pe_callTy call_int1 (by rfl) T.z_int (by decide +kernel) (pa_cons (pe_op op_mul (pe_callTy call_int1 (by rfl) T.z_int (by decide +kernel) (pa_cons (pe_op op_add (pe_ix ix_list (pv 0) pe_int (fun _ _ => rfl)) (pe_op op_mul pe_int (pe_ix ix_list (pv 0) pe_int (fun _ _ => rfl)))) pa_nil)) pe_int) pa_nil)) pe_int))
    (pss_cons (ps_set (i := 4) nd rfl (Or.inl rfl) (pe_op op_mod (pe_callTy call_int1 (by rfl) T.z_int (by decide +kernel) (pa_cons (pe_op op_mul (pv 4) (pe_op op_add (pe_op op_fdiv (pv 4) pe_int) pe_int)) pa_nil)) pe_int))
    (pss_cons (ps_set (i := 4) nd rfl (Or.inl rfl) (pe_op op_mod (pe_callTy call_int1 (by rfl) T.z_int (by decide +kernel) (pa_cons (pe_op op_mul (pv 4) (pe_op op_add (pe_op op_fdiv (pv 4) pe_int) pe_int)) pa_nil)) pe_int))
    (pss_one (ps_ret (pe_op op_mod (pe_callTy call_int1 (by rfl) T.z_int (by decide +kernel) (pa_cons (pe_op op_fdiv (pv 4) pe_int) pa_nil)) (pv 1)))))))), ?_⟩
  intro D H1 a c m cv h m1 m2 q
  obtain ⟨i, b, s', k, ns, h1, h2, h3, hn, hi, hb, hs, hs2, hk⟩ := h
  have L := SqL.of (K := K) h1
  refine ⟨_, rfl, a, _, 2, .int b, rfl, rfl, L, rfl, _, _, rfl, rfl, _, rfl, ?_⟩
  refine ite2 (fun hb0 => ?_) (fun hb0 => ?_)
  · have hbm : 0 ≤ b % m := Int.emod_nonneg _ (by omega)
    have hbm2 : b % m < m := Int.emod_lt_of_pos _ (by omega)
    have hbd : 0 ≤ b / m := Int.ediv_nonneg hb (by omega)
    obtain ⟨p1, p2⟩ := hand_put (i := i) (b := b / m) (s := s') (k := k) h1 h2 h3 hn hi hbd hs hs2 hk
    refine ⟨_, rfl, a, _, 2, .int b, rfl, rfl, L, rfl, .inl ⟨b, rfl, _, rfl, b, m, rfl, rfl, by omega, ?_⟩⟩
    refine ⟨_, rfl, a, _, 2, .int b, rfl, rfl, L, rfl, _, rfl, b, m, rfl, rfl, ⟨by omega, m2⟩, ?_⟩
    refine ⟨_, rfl, a, _, 2, 2, rfl, rfl, h1, rfl, _, rfl, ?_⟩
    exact q _ _ p1 p2 hbm hbm2
  · refine ⟨_, rfl, a, _, 4, .int k, rfl, rfl, L, rfl, _, _, rfl, rfl, _, rfl, a, _, 4, 4, rfl, rfl, h1, rfl, ?_⟩
    obtain ⟨p1, p2⟩ := hand_put (i := i) (b := b) (s := s') (k := k + 1) h1 h2 h3 hn hi hb hs hs2 (by omega)
    have L2 := SqL.of (K := K) (H := upd H1 a (.lst [.ref c, .int i, .int b, .int s', .int (k + 1)])) (a := a) upd_same
    show (∃ v, _)
    refine ⟨_, rfl, a, _, 3, .int s', rfl, rfl, L2, rfl, _, rfl, a, _, 4, .int (k + 1), rfl, rfl, L2, rfl, 7919, k + 1, rfl, rfl, .inl ⟨by decide, by decide⟩, _, _, rfl, rfl, .inl ⟨_, rfl, _, _, rfl, rfl, .inr ⟨by decide, by decide⟩, .inl ⟨_, rfl, _, _, rfl, rfl, (by show (0 : Int) < 2147483647; decide), ?_⟩⟩⟩
    have a1 := Int.emod_nonneg ((s' + 7919 * (k + 1)) * 48271) (show (2147483647 : Int) ≠ 0 by decide)
    have a2 := Int.emod_lt_of_pos ((s' + 7919 * (k + 1)) * 48271) (show (0 : Int) < 2147483647 by decide)
    dsimp only
    generalize (s' + 7919 * (k + 1)) * 48271 % 2147483647 = n1 at a1 a2 ⊢
    refine ⟨_, rfl, _, rfl, n1, 1009, rfl, rfl, ⟨by decide, by decide⟩, _, _, rfl, rfl, n1, _, rfl, rfl, .inl ⟨Int.lt_of_lt_of_le (by decide) a1, Int.lt_of_lt_of_le a2 (by decide)⟩, .inl ⟨_, rfl, _, _, rfl, rfl, (by show (0 : Int) < 2147483647; decide), ?_⟩⟩
    have b1 := Int.emod_nonneg (n1 * (n1 / 1009 + 69621)) (show (2147483647 : Int) ≠ 0 by decide)
    have b2 := Int.emod_lt_of_pos (n1 * (n1 / 1009 + 69621)) (show (0 : Int) < 2147483647 by decide)
    dsimp only
    generalize n1 * (n1 / 1009 + 69621) % 2147483647 = n2 at b1 b2 ⊢
    refine ⟨_, rfl, _, rfl, n2, 2003, rfl, rfl, ⟨by decide, by decide⟩, _, _, rfl, rfl, n2, _, rfl, rfl, .inl ⟨Int.lt_of_lt_of_le (by decide) b1, Int.lt_of_lt_of_le b2 (by decide)⟩, .inl ⟨_, rfl, _, _, rfl, rfl, (by show (0 : Int) < 2147483399; decide), ?_⟩⟩
    refine ⟨_, rfl, _, _, rfl, rfl, ⟨by decide, by decide⟩, .inl ⟨_, rfl, _, rfl, _, m, rfl, rfl, by omega, ?_⟩⟩
    exact q _ _ p1 p2 (Int.emod_nonneg _ (by omega)) (Int.emod_lt_of_pos _ (by omega))
def spDraw : Sp := fun vs H Q _ => ∃ (a c : Addr) (m : Int), vs = [.ref a, .int m] ∧ HandAt H a c ∧ 1 ≤ m ∧ m < 1073741824 ∧ ∀ (H' : Hp) (d : Int), HandAt H' a c → Kp a H H' → 0 ≤ d → d < m → Q (.int d) H'
theorem ok_draw (T : Tx P K mg) : FnOk P w K mg base CX0 1 T.f_law_draw T.d_law_draw ["_law_hand_here", "_law_many"] spDraw := by
  refine T.law_draw.F.ok sc_law_draw (fun vs H Q E h => ?_) (fun cdv A outer s H vs Q E hr h => ?_)
  · obtain ⟨a, c, m, rfl, _⟩ := h
    rfl
  obtain ⟨a, c, m, rfl, h, m1, m2, q⟩ := h
  have nd := sc_law_draw.nd
  obtain ⟨t, ht, hq⟩ := draw_rest (P := P) (w := w) (base := base) T (cdv := cdv) (A := A) (outer := outer) (s := s) (H := H) (E := E)
  refine ⟨_, pss_cons (ps_if (PW.pt (pw_and (pt_cmpR op_eq (pe_ix ix_list (pv 0) pe_int (fun _ _ => rfl)) pe_int (nomark _)) (pw_and1 (pt_cmpR op_lt (pe_ix ix_list (pv 0) pe_int (fun _ _ => rfl)) (pe_callB call_len (by rfl) T.z_len (by decide +kernel) (pa_cons (pe_ix ix_list (pv 0) pe_int (fun _ _ => rfl)) pa_nil)) (nomark _)))))
      (pss_cons (ps_set (i := 2) nd rfl (Or.inl rfl) (pe_ix ix_list (pe_ix ix_list (pv 0) pe_int (fun _ _ => rfl)) (pe_ix ix_list (pv 0) pe_int (fun _ _ => rfl)) (fun _ _ => rfl)))
      (pss_cons (ps_asg (pe_op op_add (pe_ix ix_list (pv 0) pe_int (fun _ _ => rfl)) pe_int) (pg_sub (pv 0) pe_int set_list))
      (pss_cons (ps_asg (pe_op op_mod (pe_callTy call_int1 (by rfl) T.z_int (by decide +kernel) (pa_cons (pe_op op_add (pe_op op_add (pe_op op_mul (pe_ix ix_list (pv 0) pe_int (fun _ _ => rfl)) pe_int) (pv 2)) pe_int) pa_nil)) pe_int) (pg_sub (pv 0) pe_int set_list))
      (pss_one (ps_if (pt_cmpR op_ge (pv 2) (pe_op op_pow pe_int pe_int) (nomark _)) (pss_one (ps_asg (pv 2) (pg_sub (pv 0) pe_int set_list))) pss_nil))))) pss_nil) ht, ?_⟩
  have h' := h
  obtain ⟨i, b, s', k, ns, h1, h2, h3, hn, hi, hb, hs, hs2, hk⟩ := h
  have L := SqL.of (K := K) h1
  have fin : ∀ {cv : Option V} {H' : Hp}, HandAt H' a c → Kp a H H' → t { nx := fun x H' => Q V.non H', rt := Q } [some (.ref a), some (.int m), cv, none, none] H' := fun h kp =>
    hq _ _ _ _ _ _ h m1 m2 (fun H2 d g1 g2 g3 g4 => q H2 d g1 (kp.trans g2) g3 g4)
  refine ⟨_, rfl, a, _, 2, .int b, rfl, rfl, L, rfl, rfl, _, rfl, ?_⟩
  refine ite2 (fun hb0 => ?_) (fun _ => fin h' (Kp.refl a H))
  refine ⟨_, rfl, a, _, 1, .int i, rfl, rfl, L, rfl, _, rfl, a, _, 0, .ref c, rfl, rfl, L, rfl, _, _, rfl, .inl ⟨_, SqL.of h3, rfl⟩, _, _, rfl, rfl, _, rfl, ?_⟩
  refine ite2 (fun hlt => ?_) (fun _ => fin h' (Kp.refl a H))
  have hlt : i < ((ns.map V.int).length : Nat) := of_decide_eq_true hlt
  rw [List.length_map] at hlt
  obtain ⟨j, rfl⟩ : ∃ j : Nat, i = (j : Int) := ⟨i.toNat, by omega⟩
  have hj : j < ns.length := by omega
  have hc0 : 0 ≤ ns[j] := hn _ (List.getElem_mem hj)
  refine ⟨_, rfl, a, _, 0, .ref c, rfl, rfl, L, rfl, _, rfl, a, _, 1, .int (j : Int), rfl, rfl, L, rfl, c, _, (j : Int), .int ns[j], rfl, rfl, SqL.of h3, ?_, ?_⟩
  · exact atI_nat (by rw [List.getElem?_map, List.getElem?_eq_getElem hj]; rfl)
  generalize ns[j] = n at hc0 ⊢
  refine ⟨_, rfl, a, _, 1, .int (j : Int), rfl, rfl, L, rfl, _, _, rfl, rfl, _, rfl, a, _, 1, 1, rfl, rfl, h1, rfl, ?_⟩
  obtain ⟨p1, p2⟩ := hand_put (i := (j : Int) + 1) (b := b) (s := s') (k := k) h1 h2 h3 hn (by omega) hb hs hs2 hk
  have h1' : upd H a (.lst [.ref c, .int ((j : Int) + 1), .int b, .int s', .int k]) a = some _ := upd_same
  have h3' : upd H a (.lst [.ref c, .int ((j : Int) + 1), .int b, .int s', .int k]) c = some (.lst (ns.map V.int)) := by rw [upd_ne h2]; exact h3
  have L' := SqL.of (K := K) h1'
  show (∃ v, _)
  refine ⟨_, rfl, a, _, 3, .int s', rfl, rfl, L', rfl, s', 69621, rfl, rfl, .inr ⟨by decide, by decide⟩, _, rfl, _, _, rfl, rfl, _, _, rfl, rfl, .inl ⟨_, rfl, _, _, rfl, rfl, (by show (0 : Int) < 2147483629; decide), ?_⟩⟩
  have a1 := Int.emod_nonneg (s' * 69621 + n + 11) (show (2147483629 : Int) ≠ 0 by decide)
  have a2 := Int.emod_lt_of_pos (s' * 69621 + n + 11) (show (0 : Int) < 2147483629 by decide)
  dsimp only
  generalize (s' * 69621 + n + 11) % 2147483629 = n1 at a1 a2 ⊢
  refine ⟨_, rfl, a, _, 3, 3, rfl, rfl, h1', rfl, ?_⟩
  obtain ⟨r1, r2⟩ := hand_put (i := (j : Int) + 1) (b := b) (s := n1) (k := k) h1' h2 h3' hn (by omega) hb a1 (by omega) hk
  have h1'' : upd (upd H a (.lst [.ref c, .int ((j : Int) + 1), .int b, .int s', .int k])) a (.lst [.ref c, .int ((j : Int) + 1), .int b, .int n1, .int k]) a = some _ := upd_same
  have h3'' : upd (upd H a (.lst [.ref c, .int ((j : Int) + 1), .int b, .int s', .int k])) a (.lst [.ref c, .int ((j : Int) + 1), .int b, .int n1, .int k]) c = some (.lst (ns.map V.int)) := by rw [upd_ne h2]; exact h3'
  show (∃ v, _)
  refine ⟨_, rfl, 10, 18, rfl, rfl, ⟨by decide, by decide, by decide⟩, _, _, rfl, rfl, _, rfl, ?_⟩
  refine ite2 (fun hg => ?_) (fun _ => fin r1 (p2.trans r2))
  obtain ⟨u1, u2⟩ := hand_put (i := (j : Int) + 1) (b := n) (s := n1) (k := k) h1'' h2 h3'' hn (by omega) hc0 a1 (by omega) hk
  refine ⟨_, rfl, _, rfl, a, _, 2, 2, rfl, rfl, h1'', rfl, ?_⟩
  exact fin u1 ((p2.trans r2).trans u2)
end
end K28

/-! K28X5: _law_any, _law_word. -/
namespace K28
open PySem L2 TL
section
variable {P : Program} {w : World} {K : PySem.W.Frag} {mg : Str → Option Value} {base : Heap}
def spAny : Sp := fun vs H Q _ => ∃ (a c : Addr) (x : V), vs = [.ref a, x] ∧ HandAt H a c ∧
  ((∃ (p : Addr) (xs : List V), x = .ref p ∧ p ≠ a ∧ H p = some (.lst xs) ∧ 1 ≤ xs.length ∧ xs.length ≤ 10000 ∧ ∀ (H' : Hp) (v : V), v ∈ xs → HandAt H' a c → Kp a H H' → Q v H') ∨
   (∃ z : Str, x = .str z ∧ 1 ≤ z.length ∧ z.length ≤ 10000 ∧ ∀ (H' : Hp) (n : Nat), n ∈ tl z → HandAt H' a c → Kp a H H' → Q (.str ⟨#[n]⟩) H'))
theorem ok_any (T : Tx P K mg) : FnOk P w K mg base CX0 2 T.f_law_any T.d_law_any ["_law_hand_here", "_law_things"] spAny := by
  have GD := ok_draw (P := P) (w := w) (base := base) T
  refine T.law_any.F.ok sc_law_any (fun vs H Q E h => ?_) (fun cdv A outer s H vs Q E hr h => ?_)
  · obtain ⟨a, c, x, rfl, _⟩ := h
    rfl
  obtain ⟨a, c, x, rfl, h, q⟩ := h
  refine ⟨_, pss_one (ps_ret (pe_ix ix_seq (pv 1) (pe_call GD hr rfl T.law_draw.m T.law_draw.F.kp T.law_draw.b .nil pass0 (pa_cons (pv 0) (pa_cons (pe_callB call_len (by rfl) T.z_len (by decide +kernel) (pa_cons (pv 1) pa_nil)) pa_nil))) (fun _ _ => rfl))), ?_⟩
  rcases q with ⟨p, xs, rfl, np, hp, l1, l2, q⟩ | ⟨z, rfl, l1, l2, q⟩
  · refine ⟨_, rfl, _, rfl, _, rfl, _, xs.length, rfl, .inl ⟨xs, SqL.of hp, rfl⟩, a, c, _, rfl, h, by omega, by omega, fun H' d g1 g2 g3 g4 => .inl ?_⟩
    obtain ⟨j, rfl⟩ : ∃ j : Nat, d = (j : Int) := ⟨d.toNat, by omega⟩
    have hj : j < xs.length := by omega
    exact ⟨p, xs, (j : Int), xs[j], rfl, rfl, SqL.of (g2.keep p _ np hp), atI_nat (List.getElem?_eq_getElem hj), q _ _ (List.getElem_mem hj) g1 g2⟩
  · refine ⟨_, rfl, _, rfl, _, rfl, _, z.length, rfl, ⟨size10 l2, rfl⟩, a, c, _, rfl, h, by omega, by omega, fun H' d g1 g2 g3 g4 => .inr (.inr ?_)⟩
    obtain ⟨j, rfl⟩ : ∃ j : Nat, d = (j : Int) := ⟨d.toNat, by omega⟩
    have hj : j < (tl z).length := by rw [← len_tl]; omega
    exact ⟨z, (j : Int), (tl z)[j], rfl, rfl, size10 l2, atI_nat (List.getElem?_eq_getElem hj), q _ _ (List.getElem_mem hj) g1 g2⟩
def spWord : Sp := fun vs H Q _ => ∃ (a c : Addr), vs = [.ref a] ∧ HandAt H a c ∧ ∀ (H' : Hp) (z : Str), z.length ≤ 6 → (tl z).all okc = true → HandAt H' a c → Kp a H H' → Q (.str z) H'
theorem word_signs : ∀ c ∈ tl ("ab'~() ,#.-0129~'z!" : Str), okc c = true := by
  have : (tl ("ab'~() ,#.-0129~'z!" : Str)).all okc = true := by decide +kernel
  exact List.all_eq_true.mp this
theorem ok_word (T : Tx P K mg) : FnOk P w K mg base CX0 3 T.f_law_word T.d_law_word ["_law_hand_here"] spWord := by
  have GD := ok_draw (P := P) (w := w) (base := base) T
  have GA := ok_any (P := P) (w := w) (base := base) T
  refine T.law_word.F.ok sc_law_word (fun vs H Q E h => ?_) (fun cdv A outer s H vs Q E hr h => ?_)
  · obtain ⟨a, c, rfl, _⟩ := h
    rfl
  obtain ⟨a, c, rfl, h, q⟩ := h
  have nd := sc_law_word.nd
  refine ⟨_, pss_cons (ps_set (i := 1) nd rfl (Or.inr rfl) pe_str)
    (pss_one (ps_ret (pe_join pe_str
      (pe_lc (own := [("_law_k", 2)]) (g := gName 2) (tt := tYes) rfl nd (pi_range1 rfl T.z_range (pa_cons (pe_call GD (hr.mono (by omega)) rfl T.law_draw.m T.law_draw.F.kp T.law_draw.b .nil pass0 (pa_cons (pv 0) (pa_cons pe_int pa_nil))) pa_nil))
        (blkOk_by (own := [("_law_k", 2)]) (N := ["_law_hand_here", "_law_signs", "_law_k"]) (sc := defScope s_law_word) (by decide +kernel))
        (fun _ _ _ _ _ => pg_name (i := 2) nd rfl (Or.inl rfl)) (fun _ _ _ _ _ => pts_nil)
        (fun _ _ _ _ _ => pe_call GA hr rfl T.law_any.m T.law_any.F.kp T.law_any.b .nil pass0 (pa_cons (pv 0) (pa_cons (pv 1) pa_nil))))))), ?_⟩
  refine ⟨⟨_, rfl⟩, _, rfl, a, c, 7, rfl, h, by decide, by decide, fun H1 d g1 g2 g3 g4 => ⟨d, rfl, ?_, ?_, fun D hD => ?_⟩⟩
  · exact Int.le_trans (by decide) g3
  · exact Int.lt_trans g4 (by decide)
  obtain ⟨na, nc⟩ := hand_ne g1 hD
  refine lc_it (walk_range (lo := 0)) (fun i H' => HandAt H' a c ∧ Kp a H1 H' ∧ ∃ zs : List Str, H' D = some (.lst (zs.map V.str)) ∧ zs.length = i ∧ ∀ z ∈ zs, z.length = 1 ∧ (tl z).all okc = true) ?_ (fun _ _ _ _ => trivial) ?_ ?_
  · exact ⟨hand_same g1 (same_new hD _), kp_of (same_new hD _), [], upd_same, rfl, fun _ h => by cases h⟩
  · rintro i x H2 H3 hi ⟨e1, e2, zs, e3, e4, e5⟩ ⟨rfl, hx⟩
    refine ⟨rfl, _, rfl, _, rfl, a, c, _, rfl, e1, .inr ⟨_, rfl, by decide +kernel, by decide +kernel, fun H4 n hc f1 f2 => ?_⟩⟩
    have hD4 : H4 D = some (.lst (zs.map V.str)) := f2.keep D _ (fun z => na z.symm) e3
    refine ⟨_, hD4, ?_, hand_new f1 na nc, kp_new hD (e2.trans f2), zs ++ [⟨#[n]⟩], by rw [upd_same]; simp, by simp [e4], ?_⟩
    · rw [List.length_map, e4]
      exact Nat.lt_of_lt_of_le (show i < 10 by omega) (by decide)
    · intro z hz
      rcases List.mem_append.mp hz with h | h
      · exact e5 z h
      · rw [List.mem_singleton] at h
        subst h
        exact ⟨rfl, by show (okc n && true) = true; rw [word_signs n hc]; rfl⟩
  · rintro H2 ⟨e1, e2, zs, e3, e4, e5⟩
    have hsum : ∀ zs : List Str, (∀ z ∈ zs, z.length = 1 ∧ (tl z).all okc = true) → (zs.map (·.length)).sum = zs.length ∧ ((zs.map tl).flatten).all okc = true := by
      intro zs
      induction zs with
      | nil => intro _; exact ⟨rfl, rfl⟩
      | cons z zs ih =>
        intro h
        obtain ⟨i1, i2⟩ := ih fun y hy => h y (List.mem_cons_of_mem _ hy)
        obtain ⟨h1, h2⟩ := h z List.mem_cons_self
        refine ⟨?_, ?_⟩
        · simp only [List.map_cons, List.sum_cons, List.length_cons]
          rw [i1]
          have : z.length = 1 := h1
          omega
        · simp only [List.map_cons, List.flatten_cons, List.all_append]
          rw [i2, h2]; rfl
    obtain ⟨s1, s2⟩ := hsum zs e5
    have ej : tl (Txt.join ("" : Str) zs) = (zs.map tl).flatten := by rw [join_eq, tl_join, cs_empty, join_nil]
    refine ⟨_, D, zs, rfl, rfl, .inl (SqL.of e3), ?_, q _ _ ?_ (by rw [ej]; exact s2) e1 (g2.trans e2)⟩
    · have : ("" : Str).length = 0 := by decide +kernel
      rw [this, s1]; omega
    · rw [len_tl, ej, ← sum_flat, s1]; omega
end
end K28

/-! K28X6: _law_thing. -/
namespace K28
open PySem L2 TL
/-- a thing so deep, its text so long -/
structure Made (n B : Nat) (d : PyData) : Prop where
  fit : fit d = true
  deep : d.depth ≤ n
  len : (pk d).length ≤ B
def Bk : Nat → Nat
  | 0 => 31
  | n + 1 => 3 * Bk n + 4
theorem Bk_le : ∀ n, 31 ≤ Bk n
  | 0 => Nat.le_refl _
  | n + 1 => by have := Bk_le n; simp only [Bk]; omega
theorem int_len {i : Int} (h : intOk i = true) : (intCs i).length ≤ 31 := by
  rcases int_cases h with ⟨ds, e, h'⟩ | ⟨h', _⟩
  · obtain ⟨_, _, h3, _⟩ := numOk_cases h'
    rw [e, List.length_cons]; omega
  · obtain ⟨_, _, h3, _⟩ := numOk_cases h'
    omega
def theInts : List Int := [0, 1, -1, 7, 10, -205, (10 : Int) ^ (30 : Int).toNat - 1, -((10 : Int) ^ (30 : Int).toNat) + 1, 99991]
theorem ints_ok : ∀ i ∈ theInts, intOk i = true := by
  have : theInts.all intOk = true := by decide +kernel
  exact List.all_eq_true.mp this
theorem made_int {i : Int} {n : Nat} (h : intOk i = true) : Made n (Bk n) (.int i) := by
  refine ⟨by simpa only [fit] using h, by simp [PyData.depth], ?_⟩
  rw [pk_int]
  exact Nat.le_trans (int_len h) (Bk_le n)
theorem made_none {n : Nat} : Made n (Bk n) .none := by
  refine ⟨by simp only [fit], by simp [PyData.depth], ?_⟩
  rw [pk_none]
  exact Nat.le_trans (by decide) (Bk_le n)
theorem esc_len : ∀ l : Cs, (esc l).length ≤ 2 * l.length
  | [] => by simp [esc]
  | c :: l => by
    have := esc_len l
    simp only [esc]
    split <;> simp only [List.length_cons] <;> omega
theorem made_str {z : Str} {n : Nat} (h1 : z.length ≤ 6) (h2 : (tl z).all okc = true) : Made n (Bk n) (.str z) := by
  refine ⟨by simpa only [fit] using h2, by simp [PyData.depth], ?_⟩
  rw [pk_str]
  have h3 := esc_len z.cps.toList
  have h4 : z.cps.toList.length ≤ 6 := by rw [Array.length_toList]; exact h1
  have h5 := Bk_le n
  have h6 : (esc z.cps.toList).length ≤ 12 := by omega
  clear h3 h4
  generalize esc z.cps.toList = l at h6 ⊢
  simp only [List.length_append, List.length_cons, List.length_nil]
  omega
theorem jn_le (B : Nat) : ∀ ps : List Cs, (∀ p ∈ ps, p.length ≤ B) → (jn ps).length ≤ ps.length * (B + 1)
  | [], _ => by simp [jn]
  | [p], h => by
    have := h p List.mem_cons_self
    simp only [jn, List.length_cons, List.length_nil]; omega
  | p :: q :: ps, h => by
    have := h p List.mem_cons_self
    have ih := jn_le B (q :: ps) fun x hx => h x (List.mem_cons_of_mem _ hx)
    simp only [jn, List.length_append, List.length_cons, List.length_nil] at ih ⊢
    have e : (ps.length + 1 + 1) * (B + 1) = (ps.length + 1) * (B + 1) + (B + 1) := Nat.succ_mul _ _
    omega
theorem depthAll_le {n : Nat} : ∀ {ds : List PyData}, (∀ d ∈ ds, d.depth ≤ n) → PyData.depthAll ds ≤ n
  | [], _ => by simp [PyData.depthAll]
  | d :: ds, h => by
    have h1 := h d List.mem_cons_self
    have h2 := depthAll_le (ds := ds) fun x hx => h x (List.mem_cons_of_mem _ hx)
    simp only [PyData.depthAll]; omega
theorem fitAll_of : ∀ {ds : List PyData}, (∀ d ∈ ds, fit d = true) → fitAll ds = true
  | [], _ => by simp only [fitAll]
  | d :: ds, h => by
    simp only [fitAll]
    rw [h d List.mem_cons_self, fitAll_of (ds := ds) fun x hx => h x (List.mem_cons_of_mem _ hx)]; rfl
theorem jn_three (B : Nat) (ps : List Cs) (h : ∀ p ∈ ps, p.length ≤ B) (hl : ps.length ≤ 3) : (jn ps).length ≤ 3 * B + 2 := by
  match ps, hl with
  | [], _ => simp [jn]
  | [p], _ =>
    have := h p (by simp)
    simp only [jn]; omega
  | [p, q], _ =>
    have h1 := h p (by simp)
    have h2 := h q (by simp)
    simp only [jn, List.length_append, List.length_cons, List.length_nil]; omega
  | [p, q, r], _ =>
    have h1 := h p (by simp)
    have h2 := h q (by simp)
    have h3 := h r (by simp)
    simp only [jn, List.length_append, List.length_cons, List.length_nil]; omega
theorem made_tup {n : Nat} {ds : List PyData} (h : ∀ d ∈ ds, Made n (Bk n) d) (hl : ds.length ≤ 3) : Made (n + 1) (Bk (n + 1)) (.tuple ds) := by
  refine ⟨?_, ?_, ?_⟩
  · simp only [fit]; exact fitAll_of fun d hd => (h d hd).fit
  · have := depthAll_le fun d hd => (h d hd).deep
    show PyData.depthAll ds + 1 ≤ n + 1
    omega
  · rw [pk_tup]
    have := jn_three (Bk n) (ds.map pk) (fun p hp => by obtain ⟨d, hd, rfl⟩ := List.mem_map.mp hp; exact (h d hd).len) (by rw [List.length_map]; exact hl)
    simp only [List.length_append, List.length_cons, List.length_nil, Bk]
    omega
section
variable {P : Program} {w : World} {K : PySem.W.Frag} {mg : Str → Option Value} {base : Heap}
def spThing (N : Nat) : Sp := fun vs H Q _ => ∃ (a c : Addr) (n : Nat), vs = [.ref a, .int (n : Int)] ∧ n < N ∧ HandAt H a c ∧ ∀ (H' : Hp) (v : V) (d : PyData), Pu H' v d → Made n (Bk n) d → HandAt H' a c → Kp a H H' → Q v H'
theorem thing_none (T : Tx P K mg) (k : Nat) : FnOk P w K mg base CX0 k T.f_law_thing T.d_law_thing ["_law_hand_here", "_law_deep_here"] (spThing 0) := by
  have no : ∀ vs H Q E, ¬ spThing 0 vs H Q E := fun vs H Q E h => by
    obtain ⟨_, _, n, _, h, _⟩ := h
    omega
  exact ⟨fun vs H Q E h => absurd h (no vs H Q E), fun A outer s H args us vs Q E _ _ _ _ h => absurd h (no vs H Q E)⟩
abbrev NH : List Str := ["_law_hand_here", "_law_deep_here", "_law_kind", "_law_k"]
def restH : List Stmt := (defBody s_law_thing).drop 1
theorem thing_rest (T : Tx P K mg) {N k : Nat} (hk : 4 ≤ k) (G : FnOk P w K mg base CX0 k T.f_law_thing T.d_law_thing ["_law_hand_here", "_law_deep_here"] (spThing N)) {cdv : Value} {A : Around} {outer : List Env} {s : Shared} {H : Hp} {E : XK}
    (hr : Room k (cxOf CX0 P w K mg base NH "_law_thing" (defScope s_law_thing) T.f_law_thing cdv A outer s H E).A) :
    ∃ t, PSs (cxOf CX0 P w K mg base NH "_law_thing" (defScope s_law_thing) T.f_law_thing cdv A outer s H E).nox restH t ∧
      ∀ (D : Ends) (H1 : Hp) (a c : Addr) (n : Nat) (j : Int), n < N + 1 → HandAt H1 a c → (4 ≤ j → 0 < n) → (∀ (H' : Hp) (v : V) (d : PyData), Pu H' v d → Made n (Bk n) d → HandAt H' a c → Kp a H1 H' → D.rt v H') →
        t D [some (.ref a), some (.int (n : Int)), some (.int j), none] H1 := by
  have GD := ok_draw (P := P) (w := w) (base := base) T
  have GA := ok_any (P := P) (w := w) (base := base) T
  have GW := ok_word (P := P) (w := w) (base := base) T
  have nd := sc_law_thing.nd
  refine ⟨_, pss_cons (ps_if (pt_cmpR op_eq (pv 2) pe_int (nomark _)) (pss_one (ps_ret (pe_call GA (hr.mono (by omega)) rfl T.law_any.m T.law_any.F.kp T.law_any.b .nil pass0 (pa_cons (pv 0) (pa_cons
      (pe_lst (pa_cons pe_int (pa_cons pe_int (pa_cons (pe_un un_neg pe_int) (pa_cons pe_int (pa_cons pe_int (pa_cons (pe_un un_neg pe_int) (pa_cons (pe_op op_sub (pe_op op_pow pe_int pe_int) pe_int)
        (pa_cons (pe_op op_add (pe_un un_neg (pe_op op_pow pe_int pe_int)) pe_int) (pa_cons pe_int pa_nil)))))))))) pa_nil))))) pss_nil)
    (pss_cons (ps_if (pt_cmpR op_eq (pv 2) pe_int (nomark _)) (pss_one (ps_ret pe_non)) pss_nil)
    (pss_cons (ps_if (pt_cmpR op_lt (pv 2) pe_int (nomark _)) (pss_one (ps_ret (pe_call GW (hr.mono (by omega)) rfl T.law_word.m T.law_word.F.kp T.law_word.b .nil pass0 (pa_cons (pv 0) pa_nil)))) pss_nil)
    (pss_one (ps_ret (pe_callTy call_tuple_of (by rfl) T.z_tuple (by decide +kernel) (pa_cons
      (pe_lc (own := [("_law_k", 3)]) (g := gName 3) (tt := tYes) rfl nd (pi_range1 rfl T.z_range (pa_cons (pe_call GD (hr.mono (by omega)) rfl T.law_draw.m T.law_draw.F.kp T.law_draw.b .nil pass0 (pa_cons (pv 0) (pa_cons pe_int pa_nil))) pa_nil))
        (blkOk_by (own := [("_law_k", 3)]) (N := ["_law_hand_here", "_law_deep_here", "_law_kind", "_law_k"]) (sc := defScope s_law_thing) (by decide +kernel))
        (fun _ _ _ _ _ => pg_name (i := 3) nd rfl (Or.inl rfl)) (fun _ _ _ _ _ => pts_nil)
        (fun _ _ _ _ _ => pe_call G hr rfl T.law_thing.m T.law_thing.F.kp T.law_thing.b .nil pass0 (pa_cons (pv 0) (pa_cons (pe_op op_sub (pv 1) pe_int) pa_nil)))) pa_nil)))))), ?_⟩
  intro D H1 a c n j hn h hj q
  refine ⟨_, rfl, rfl, _, rfl, ite2 (fun _ => ?_) (fun h0 => ?_)⟩
  · refine ⟨_, rfl, 1, rfl, 205, rfl, 10, 30, rfl, rfl, ⟨by decide, by decide, by decide⟩, _, _, rfl, rfl, 10, 30, rfl, rfl, ⟨by decide, by decide, by decide⟩, _, rfl, _, _, rfl, rfl, (by show 9 ≤ sizeLine; decide), fun p hp => ?_⟩
    refine ⟨a, c, _, rfl, hand_same h (same_new hp _), .inl ⟨p, theInts.map V.int, rfl, fun z => (hand_ne h hp).1 z.symm, upd_same, by decide, by decide, fun H' v hv h1 h2 => ?_⟩⟩
    obtain ⟨i, hi, rfl⟩ := List.mem_map.mp hv
    exact q H' _ _ (.int i) (made_int (ints_ok i hi)) h1 ((kp_of (same_new hp _)).trans h2)
  refine ⟨_, rfl, rfl, _, rfl, ite2 (fun _ => ?_) (fun h1 => ?_)⟩
  · exact q H1 _ _ .non made_none h (Kp.refl a H1)
  refine ⟨_, rfl, _, _, rfl, rfl, _, rfl, ite2 (fun _ => ?_) (fun h2 => ?_)⟩
  · exact ⟨_, rfl, a, c, rfl, h, fun H' z z1 z2 g1 g2 => q H' _ _ (.str z) (made_str z1 z2) g1 g2⟩
  have h4 : 4 ≤ j := by
    have : ¬ (j < 4) := fun z => h2 (decide_eq_true z)
    omega
  have hn0 := hj h4
  obtain ⟨m, rfl⟩ : ∃ m, n = m + 1 := ⟨n - 1, by omega⟩
  refine ⟨_, rfl, a, c, 4, rfl, h, by decide, by decide, fun H2 d g1 g2 g3 g4 => ⟨d, rfl, Int.le_trans (by decide) g3, Int.lt_trans g4 (by decide), fun DD hD => ?_⟩⟩
  obtain ⟨na, nc⟩ := hand_ne g1 hD
  refine lc_it (walk_range (lo := 0)) (fun i H' => HandAt H' a c ∧ Kp a H2 H' ∧ ∃ (vs : List V) (ds : List PyData), H' DD = some (.lst vs) ∧ vs.length = i ∧ PuAll H' vs ds ∧ ∀ d ∈ ds, Made m (Bk m) d) ?_ (fun _ _ _ _ => trivial) ?_ ?_
  · exact ⟨hand_same g1 (same_new hD _), kp_of (same_new hD _), [], [], upd_same, rfl, .nil, fun _ h => by cases h⟩
  · rintro i x H3 H4 hi ⟨e1, e2, vs, ds, e3, e4, e5, e6⟩ ⟨rfl, hx⟩
    refine ⟨rfl, _, rfl, _, rfl, _, _, rfl, rfl, a, c, m, ?_, by omega, e1, fun H5 v d p1 p2 f1 f2 => ?_⟩
    · show [V.ref a, V.int (((m + 1 : Nat) : Int) - 1)] = _
      rw [show ((m + 1 : Nat) : Int) - 1 = (m : Int) by omega]
    have hD5 : H5 DD = some (.lst vs) := f2.keep DD _ (fun z => na z.symm) e3
    have tk5 : TK H5 (upd H5 DD (.lst (vs ++ [v]))) := tk_upd (not_tup_lst hD5)
    refine ⟨_, hD5, ?_, hand_new f1 na nc, kp_new hD (e2.trans f2), vs ++ [v], ds ++ [d], upd_same, by simp [e4], ?_, ?_⟩
    · rw [e4]
      exact Nat.lt_of_lt_of_le (show i < 10 by omega) (by decide)
    · exact (PuAll.mono (f2.tups.trans tk5) _ _ e5).snoc (Pu.mono tk5 _ _ p1)
    · intro x hx
      rcases List.mem_append.mp hx with h | h
      · exact e6 x h
      · rw [List.mem_singleton] at h
        subst h; exact p2
  · rintro H3 ⟨e1, e2, vs, ds, e3, e4, e5, e6⟩
    refine ⟨DD, vs, rfl, .inl ⟨SqL.of e3, fun l hl => ?_⟩⟩
    have s1 : Same H3 (upd H3 l (.tup vs)) := same_new hl _
    refine q _ _ _ (.tup upd_same (PuAll.mono (tk_of s1) _ _ e5)) (made_tup e6 ?_) (hand_same e1 s1) (g2.trans (e2.trans (kp_of s1)))
    rw [← e5.length, e4]; omega
theorem ok_thing_step (T : Tx P K mg) {N k : Nat} (hk : 4 ≤ k) (G : FnOk P w K mg base CX0 k T.f_law_thing T.d_law_thing ["_law_hand_here", "_law_deep_here"] (spThing N)) :
    FnOk P w K mg base CX0 (k + 1) T.f_law_thing T.d_law_thing ["_law_hand_here", "_law_deep_here"] (spThing (N + 1)) := by
  have GD := ok_draw (P := P) (w := w) (base := base) T
  refine T.law_thing.F.ok sc_law_thing (fun vs H Q E h => ?_) (fun cdv A outer s H vs Q E hr h => ?_)
  · obtain ⟨a, c, n, rfl, _⟩ := h
    rfl
  obtain ⟨a, c, n, rfl, hnN, h, q⟩ := h
  have nd := sc_law_thing.nd
  obtain ⟨t, ht, hq⟩ := thing_rest (P := P) (w := w) (base := base) T hk G (s := s) (H := H) (E := E) (outer := outer) hr
  refine ⟨_, pss_cons (ps_set (i := 2) nd rfl (Or.inl rfl) (pe_call GD (hr.mono (by omega)) rfl T.law_draw.m T.law_draw.F.kp T.law_draw.b .nil pass0 (pa_cons (pv 0) (pa_cons (pe_ifExp (pt_cmpR op_gt (pv 1) pe_int (nomark _)) pe_int pe_int) pa_nil)))) ht, ?_⟩
  have fin : ∀ {H1 : Hp} {j : Int}, HandAt H1 a c → Kp a H H1 → (4 ≤ j → 0 < n) → t { nx := fun x H' => Q V.non H', rt := Q } [some (.ref a), some (.int (n : Int)), some (.int j), none] H1 := fun h kp hj =>
    hq _ _ _ _ _ _ hnN h hj (fun H2 v d p1 p2 p3 p4 => q H2 v d p1 p2 p3 (kp.trans p4))
  refine ⟨_, rfl, _, rfl, _, _, rfl, rfl, _, rfl, ite2 (fun h0 => ?_) (fun _ => ?_)⟩
  · have h0 : (n : Int) > 0 := of_decide_eq_true h0
    exact ⟨a, c, 6, rfl, h, by decide, by decide, fun H1 d g1 g2 g3 g4 => fin g1 g2 (fun _ => by omega)⟩
  · exact ⟨a, c, 4, rfl, h, by decide, by decide, fun H1 d g1 g2 g3 g4 => fin g1 g2 (fun h => by omega)⟩
theorem ok_thing (T : Tx P K mg) : ∀ N : Nat, FnOk P w K mg base CX0 (N + 4) T.f_law_thing T.d_law_thing ["_law_hand_here", "_law_deep_here"] (spThing N)
  | 0 => thing_none T 4
  | N + 1 => ok_thing_step T (k := N + 4) (by omega) (ok_thing T N)
end
end K28

/-! K28X7: _law_nested, _law_changed. -/
namespace K28
open PySem L2 TL
theorem made_one {n B : Nat} {d : PyData} (h : Made n B d) : Made (n + 1) (B + 5) (.tuple [d]) := by
  refine ⟨?_, ?_, ?_⟩
  · simp only [fit, fitAll]; rw [h.fit]; rfl
  · have := h.deep
    show max d.depth 0 + 1 ≤ n + 1
    omega
  · have := h.len
    rw [pk_tup]
    simp only [List.map_cons, List.map_nil, jn, List.length_append, List.length_cons, List.length_nil]
    omega
theorem made_two {n B : Nat} {d : PyData} (h : Made n B d) : Made (n + 1) (B + 5) (.tuple [.none, d]) := by
  refine ⟨?_, ?_, ?_⟩
  · simp only [fit, fitAll]; rw [h.fit]; rfl
  · have := h.deep
    show max 0 (max d.depth 0) + 1 ≤ n + 1
    omega
  · have := h.len
    rw [pk_tup]
    simp only [List.map_cons, List.map_nil, jn, pk_none, List.length_append, List.length_cons, List.length_nil]
    omega
theorem Made.mono {n n' B B' : Nat} {d : PyData} (h : Made n B d) (h1 : n ≤ n') (h2 : B ≤ B') : Made n' B' d := ⟨h.fit, Nat.le_trans h.deep h1, Nat.le_trans h.len h2⟩
theorem made_0 : Made 1 5 (.tuple []) := ⟨by decide +kernel, by decide +kernel, by decide +kernel⟩
theorem made_3 : Made 1 5 (.tuple [.int 3]) := ⟨by decide +kernel, by decide +kernel, by decide +kernel⟩
theorem made_a : Made 1 5 (.tuple [.str "a"]) := ⟨by decide +kernel, by decide +kernel, by decide +kernel⟩
section
variable {P : Program} {w : World} {K : PySem.W.Frag} {mg : Str → Option Value} {base : Heap}
def spNested : Sp := fun vs H Q _ => ∃ (a c : Addr) (m : Nat), vs = [.ref a, .int (m : Int)] ∧ 1 ≤ m ∧ m ≤ 30 ∧ HandAt H a c ∧ ∀ (H' : Hp) (v : V) (d : PyData), Pu H' v d → Made 30 160 d → HandAt H' a c → Kp a H H' → Q v H'
theorem ok_nested (T : Tx P K mg) : FnOk P w K mg base CX0 3 T.f_law_nested T.d_law_nested ["_law_hand_here", "_law_many"] spNested := by
  have GD := ok_draw (P := P) (w := w) (base := base) T
  have GA := ok_any (P := P) (w := w) (base := base) T
  refine T.law_nested.F.ok sc_law_nested (fun vs H Q E h => ?_) (fun cdv A outer s H vs Q E hr h => ?_)
  · obtain ⟨a, c, m, rfl, _⟩ := h
    rfl
  obtain ⟨a, c, m, rfl, m1, m2, h, q⟩ := h
  have nd := sc_law_nested.nd
  refine ⟨_, pss_cons (ps_set (i := 2) nd rfl (Or.inl rfl) (pe_call GA hr rfl T.law_any.m T.law_any.F.kp T.law_any.b .nil pass0 (pa_cons (pv 0) (pa_cons
      (pe_lst (pa_cons (pe_tup pa_nil) (pa_cons (pe_tup (pa_cons pe_int pa_nil)) (pa_cons (pe_tup (pa_cons pe_str pa_nil)) pa_nil)))) pa_nil))))
    (pss_cons (ps_for PassesOwn.never rfl (pi_range1 rfl T.z_range (pa_cons (pe_op op_sub (pv 1) pe_int) pa_nil)) (pg_name (i := 3) nd rfl (Or.inl rfl))
      (pss_one (ps_set (i := 2) nd rfl (Or.inl rfl) (pe_ifExp (pt_cmpR op_gt (pe_call GD (hr.mono (by omega)) rfl T.law_draw.m T.law_draw.F.kp T.law_draw.b .nil pass0 (pa_cons (pv 0) (pa_cons pe_int pa_nil))) pe_int (nomark _))
        (pe_tup (pa_cons (pv 2) pa_nil)) (pe_tup (pa_cons pe_non (pa_cons (pv 2) pa_nil)))))))
    (pss_one (ps_ret (pv 2)))), ?_⟩
  refine ⟨_, rfl, (by show 0 ≤ sizeLine; decide), fun p1 h1 => ⟨(by show 1 ≤ sizeLine; decide), fun p2 h2 => ⟨(by show 1 ≤ sizeLine; decide), fun p3 h3 => ⟨(by show 3 ≤ sizeLine; decide), fun l hl => ?_⟩⟩⟩⟩
  have sA : Same H (upd (upd (upd (upd H p1 (.tup [])) p2 (.tup [.int 3])) p3 (.tup [.str "a"])) l (.lst [.ref p1, .ref p2, .ref p3])) := (((same_new h1 _).trans (same_new h2 _)).trans (same_new h3 _)).trans (same_new hl _)
  have e1 : Pu (upd (upd (upd (upd H p1 (.tup [])) p2 (.tup [.int 3])) p3 (.tup [.str "a"])) l (.lst [.ref p1, .ref p2, .ref p3])) (.ref p1) (.tuple []) :=
    .tup (((same_new h2 _).trans (same_new h3 _)).trans (same_new hl _) _ _ upd_same) .nil
  have e2 : Pu (upd (upd (upd (upd H p1 (.tup [])) p2 (.tup [.int 3])) p3 (.tup [.str "a"])) l (.lst [.ref p1, .ref p2, .ref p3])) (.ref p2) (.tuple [.int 3]) :=
    .tup ((same_new h3 _).trans (same_new hl _) _ _ upd_same) (.cons (.int 3) .nil)
  have e3 : Pu (upd (upd (upd (upd H p1 (.tup [])) p2 (.tup [.int 3])) p3 (.tup [.str "a"])) l (.lst [.ref p1, .ref p2, .ref p3])) (.ref p3) (.tuple [.str "a"]) :=
    .tup (same_new hl _ _ _ upd_same) (.cons (.str _) .nil)
  have e4 : upd (upd (upd (upd H p1 (.tup [])) p2 (.tup [.int 3])) p3 (.tup [.str "a"])) l (.lst [.ref p1, .ref p2, .ref p3]) l = some (.lst [.ref p1, .ref p2, .ref p3]) := upd_same
  have nl : l ≠ a := fun z => (hand_ne (hand_same h (((same_new h1 _).trans (same_new h2 _)).trans (same_new h3 _))) hl).1 z.symm
  generalize upd (upd (upd (upd H p1 (.tup [])) p2 (.tup [.int 3])) p3 (.tup [.str "a"])) l (.lst [.ref p1, .ref p2, .ref p3]) = Ha at sA e1 e2 e3 e4 ⊢
  refine ⟨a, c, _, rfl, hand_same h sA, .inl ⟨l, _, rfl, nl, e4, (by show 1 ≤ 3; decide), (by show 3 ≤ 10000; decide), fun H1 v hv f1 f2 => ?_⟩⟩
  have hv' : ∃ d, Pu H1 v d ∧ Made 1 5 d := by
    simp only [List.mem_cons, List.not_mem_nil, or_false] at hv
    rcases hv with rfl | rfl | rfl
    · exact ⟨_, Pu.mono f2.tups _ _ e1, made_0⟩
    · exact ⟨_, Pu.mono f2.tups _ _ e2, made_3⟩
    · exact ⟨_, Pu.mono f2.tups _ _ e3, made_a⟩
  refine ⟨_, rfl, _, _, rfl, rfl, (m : Int) - 1, rfl, by omega, by omega, ?_⟩
  refine for_it (walk_range (lo := 0)) (fun i σ H2 => ∃ (v : V) (d : PyData) (x : Option V), σ = [some (.ref a), some (.int (m : Int)), some v, x] ∧ Pu H2 v d ∧ Made (i + 1) (5 * i + 5) d ∧ HandAt H2 a c ∧ Kp a H H2) ?_ (fun _ _ _ _ _ => trivial) ?_ ?_
  · obtain ⟨d, g1, g2⟩ := hv'
    exact ⟨v, d, none, rfl, g1, g2, f1, (kp_of sA).trans f2⟩
  · rintro i x σ H2 H3 hi ⟨v, d, y, rfl, g1, g2, g3, g4⟩ ⟨rfl, hx⟩
    refine ⟨_, rfl, a, c, 3, rfl, g3, by decide, by decide, fun H4 k k1 k2 k3 k4 => ⟨_, _, rfl, rfl, _, rfl, ite2 (fun _ => ?_) (fun _ => ?_)⟩⟩
    · refine ⟨_, rfl, (by show 1 ≤ sizeLine; decide), fun p hp => ⟨.ref p, .tuple [d], _, rfl, ?_, made_one g2, hand_same k1 (same_new hp _), g4.trans (k2.trans (kp_of (same_new hp _)))⟩⟩
      exact .tup upd_same (.cons (Pu.mono (k2.tups.trans (tk_of (same_new hp _))) _ _ g1) .nil)
    · refine ⟨_, rfl, (by show 2 ≤ sizeLine; decide), fun p hp => ⟨.ref p, .tuple [.none, d], _, rfl, ?_, made_two g2, hand_same k1 (same_new hp _), g4.trans (k2.trans (kp_of (same_new hp _)))⟩⟩
      exact .tup upd_same (.cons .non (.cons (Pu.mono (k2.tups.trans (tk_of (same_new hp _))) _ _ g1) .nil))
  · rintro σ H2 ⟨v, d, y, rfl, g1, g2, g3, g4⟩
    exact ⟨_, rfl, q H2 v d g1 (g2.mono (by omega) (by omega)) g3 g4⟩
theorem cut_le (z : Str) (lo hi : Option Int) : (cutS z lo hi).length ≤ z.length := by
  rw [len_tl, len_tl]
  show ((z.cps.toList.drop _).take _).length ≤ (tl z).length
  rw [List.length_take, List.length_drop]
  show _ ≤ z.cps.toList.length
  omega
theorem len_add (x y : Str) : (x ++ y).length = x.length + y.length := by rw [len_tl, tl_append, List.length_append, ← len_tl, ← len_tl]
def spChanged : Sp := fun vs H Q _ => ∃ (a c : Addr) (z : Str), vs = [.ref a, .str z] ∧ z.length ≤ 3000 ∧ HandAt H a c ∧ ∀ (H' : Hp) (y : Str), y.length ≤ 10000 → HandAt H' a c → Kp a H H' → Q (.str y) H'
theorem ok_changed (T : Tx P K mg) : FnOk P w K mg base CX0 3 T.f_law_changed T.d_law_changed ["_law_hand_here", "_law_text"] spChanged := by
  have GD := ok_draw (P := P) (w := w) (base := base) T
  have GA := ok_any (P := P) (w := w) (base := base) T
  refine T.law_changed.F.ok sc_law_changed (fun vs H Q E h => ?_) (fun cdv A outer s H vs Q E hr h => ?_)
  · obtain ⟨a, c, z, rfl, _⟩ := h
    rfl
  obtain ⟨a, c, z, rfl, hz, h, q⟩ := h
  have nd := sc_law_changed.nd
  refine ⟨_, pss_cons (ps_set (i := 2) nd rfl (Or.inl rfl) (pe_call GD (hr.mono (by omega)) rfl T.law_draw.m T.law_draw.F.kp T.law_draw.b .nil pass0 (pa_cons (pv 0) (pa_cons (pe_op op_add (pe_callB call_len (by rfl) T.z_len (by decide +kernel) (pa_cons (pv 1) pa_nil)) pe_int) pa_nil))))
    (pss_cons (ps_set (i := 3) nd rfl (Or.inl rfl) (pe_call GA hr rfl T.law_any.m T.law_any.F.kp T.law_any.b .nil pass0 (pa_cons (pv 0) (pa_cons pe_str pa_nil))))
    (pss_cons (ps_set (i := 4) nd rfl (Or.inl rfl) (pe_lst
      (pa_cons (pe_op op_add_str (pe_op op_add_str (pe_slice sl_str (pv 1) po_none (po_some (pv 2))) (pv 3)) (pe_slice sl_str (pv 1) (po_some (pv 2)) po_none))
      (pa_cons (pe_op op_add_str (pe_slice sl_str (pv 1) po_none (po_some (pv 2))) (pe_slice sl_str (pv 1) (po_some (pe_op op_add (pv 2) pe_int)) po_none))
      (pa_cons (pe_op op_add_str (pe_op op_add_str (pe_slice sl_str (pv 1) po_none (po_some (pv 2))) (pv 3)) (pe_slice sl_str (pv 1) (po_some (pe_op op_add (pv 2) pe_int)) po_none))
      (pa_cons (pe_slice sl_str (pv 1) po_none (po_some (pv 2))) pa_nil))))))
    (pss_cons (ps_expr (pe_bm PySem.F.plainAttrs_list PySem.F.slot_list_extend PySem.F.type_list_extend mt_extend (pv 4) (pa_cons (pe_lst
      (pa_cons (pe_op op_add_str (pe_op op_add_str (pe_slice sl_str (pv 1) po_none (po_some (pv 2))) (pe_revS (pe_slice sl_str (pv 1) (po_some (pv 2)) (po_some (pe_op op_add (pv 2) pe_int))))) (pe_slice sl_str (pv 1) (po_some (pe_op op_add (pv 2) pe_int)) po_none))
      (pa_cons (pe_op op_add_str (pv 1) (pv 3))
      (pa_cons (pe_op op_add_str (pv 1) (pv 1))
      (pa_cons (pe_slice sl_str (pv 1) (po_some (pv 2)) po_none) pa_nil))))) pa_nil)))
    (pss_one (ps_ret (pe_call GA hr rfl T.law_any.m T.law_any.F.kp T.law_any.b .nil pass0 (pa_cons (pv 0) (pa_cons (pv 4) pa_nil)))))))), ?_⟩
  have zz : z.length ≤ sizeLine := size10 (by omega)
  refine ⟨_, rfl, _, rfl, _, z.length, rfl, ⟨zz, rfl⟩, _, _, rfl, rfl, a, c, _, rfl, h, by omega, by omega, fun H1 i g1 g2 g3 g4 => ?_⟩
  refine ⟨_, rfl, a, c, _, rfl, g1, .inr ⟨_, rfl, by decide +kernel, by decide +kernel, fun H2 n hn f1 f2 => ?_⟩⟩
  have l1 : (⟨#[n]⟩ : Str).length = 1 := rfl
  generalize (⟨#[n]⟩ : Str) = sn at l1 ⊢
  have k1 := cut_le z none (some i)
  have k2 := cut_le z (some i) none
  have k3 := cut_le z (some (i + 1)) none
  have k4 := cut_le z (some (i + 2)) none
  have k5 := cut_le z (some i) (some (i + 2))
  refine ⟨_, rfl, _, rfl, _, rfl, z, rfl, zz, _, rfl, _, _, rfl, rfl, size10 (by omega), _, rfl, _, rfl, _, rfl, z, rfl, zz, _, _, rfl, rfl, size10 (by rw [len_add]; omega), ?_⟩
  refine ⟨_, rfl, _, rfl, _, rfl, z, rfl, zz, _, rfl, _, rfl, _, _, rfl, rfl, _, rfl, z, rfl, zz, _, _, rfl, rfl, size10 (by omega), ?_⟩
  refine ⟨_, rfl, _, rfl, _, rfl, z, rfl, zz, _, rfl, _, _, rfl, rfl, size10 (by omega), _, rfl, _, rfl, _, _, rfl, rfl, _, rfl, z, rfl, zz, _, _, rfl, rfl, size10 (by rw [len_add]; omega), ?_⟩
  refine ⟨_, rfl, _, rfl, _, rfl, z, rfl, zz, (by show 4 ≤ sizeLine; decide), fun l hl => ?_⟩
  obtain ⟨na, nc⟩ := hand_ne f1 hl
  have sl := same_new hl (.lst [.str (cutS z none (some i) ++ sn ++ cutS z (some i) none), .str (cutS z none (some i) ++ cutS z (some (i + 1)) none), .str (cutS z none (some i) ++ sn ++ cutS z (some (i + 1)) none), .str (cutS z none (some i))])
  have el : upd H2 l (.lst [.str (cutS z none (some i) ++ sn ++ cutS z (some i) none), .str (cutS z none (some i) ++ cutS z (some (i + 1)) none), .str (cutS z none (some i) ++ sn ++ cutS z (some (i + 1)) none), .str (cutS z none (some i))]) l = some _ := upd_same
  have b1 : (cutS z none (some i) ++ sn ++ cutS z (some i) none).length ≤ 10000 := by rw [len_add, len_add]; omega
  have b2 : (cutS z none (some i) ++ cutS z (some (i + 1)) none).length ≤ 10000 := by rw [len_add]; omega
  have b3 : (cutS z none (some i) ++ sn ++ cutS z (some (i + 1)) none).length ≤ 10000 := by rw [len_add, len_add]; omega
  have b4 : (cutS z none (some i)).length ≤ 10000 := by omega
  dsimp only
  generalize upd H2 l _ = H3 at sl el ⊢
  generalize (cutS z none (some i) ++ sn ++ cutS z (some i) none) = y1 at b1 el ⊢
  generalize (cutS z none (some i) ++ cutS z (some (i + 1)) none) = y2 at b2 el ⊢
  generalize (cutS z none (some i) ++ sn ++ cutS z (some (i + 1)) none) = y3 at b3 el ⊢
  refine ⟨_, rfl, .inl ⟨rfl, _, SqL.of el⟩, ?_⟩
  refine ⟨_, rfl, _, rfl, _, rfl, z, rfl, zz, _, rfl, _, rfl, _, rfl, _, rfl, _, _, rfl, rfl, _, rfl, z, rfl, zz, _, rfl, size10 (by omega), fun y hy => ⟨_, _, rfl, rfl, size10 (by omega), _, rfl, _, rfl, _, _, rfl, rfl, _, rfl, z, rfl, zz, _, _, rfl, rfl, size10 (by rw [len_add]; omega), ?_⟩⟩
  refine ⟨_, rfl, _, rfl, _, _, rfl, rfl, size10 (by omega), ?_⟩
  refine ⟨_, rfl, _, rfl, _, _, rfl, rfl, size10 (by omega), ?_⟩
  refine ⟨_, rfl, _, rfl, _, rfl, z, rfl, zz, (by show 4 ≤ sizeLine; decide), fun l2 hl2 => ?_⟩
  have b5 : (cutS z none (some i) ++ y ++ cutS z (some (i + 2)) none).length ≤ 10000 := by rw [len_add, len_add]; omega
  have b6 : (z ++ sn).length ≤ 10000 := by rw [len_add]; omega
  have b7 : (z ++ z).length ≤ 10000 := by rw [len_add]; omega
  have b8 : (cutS z (some i) none).length ≤ 10000 := by omega
  have n2 := ne_of_none el hl2
  refine ⟨l, l2, _, _, rfl, rfl, by rw [upd_ne n2]; exact el, upd_same, (by show 4 + 4 ≤ sizeLine; decide), ?_⟩
  refine ⟨_, rfl, _, rfl, a, c, _, rfl, ?_, .inl ⟨l, _, rfl, fun z => na z.symm, upd_same, ?_, ?_, fun H' v hv r1 r2 => ?_⟩⟩
  · exact hand_new (hand_same f1 (sl.trans (same_new hl2 _))) na nc
  · show 1 ≤ 8; decide
  · show 8 ≤ 10000; decide
  · have : ∃ y : Str, v = .str y ∧ y.length ≤ 10000 := by
      simp only [List.cons_append, List.nil_append, List.mem_cons, List.not_mem_nil, or_false] at hv
      rcases hv with rfl | rfl | rfl | rfl | rfl | rfl | rfl | rfl
      · exact ⟨_, rfl, b1⟩
      · exact ⟨_, rfl, b2⟩
      · exact ⟨_, rfl, b3⟩
      · exact ⟨_, rfl, b4⟩
      · exact ⟨_, rfl, b5⟩
      · exact ⟨_, rfl, b6⟩
      · exact ⟨_, rfl, b7⟩
      · exact ⟨_, rfl, b8⟩
    obtain ⟨y, rfl, hy⟩ := this
    exact q H' y hy r1 (g2.trans (f2.trans ((kp_new hl (kp_of (sl.trans (same_new hl2 _)))).trans r2)))
end
end K28

/-! K28X8: _law_deep. -/
namespace K28
open PySem L2 TL
/-- what the law draws of odd things -/
inductive Od : PyData → Prop
  | non : Od .none
  | zero : Od (.int 0)
  | emp : Od (.tuple [])
  | bl (b : Bool) : Od (.bool b)
  | str (z : Str) : (tl z).all okc = false → z.length ≤ 3 → Od (.str z)
  | lst : Od (.list [])
  | dct : Od (.dict [])
  | two : Od (.tuple [.int 1, .bool true])
  | one {d : PyData} : Od d → Od (.tuple [d])
/-- as the law tells it -/
def plainB : PyData → Bool
  | .none => true
  | .int i => decide (i = 0)
  | .tuple [] => true
  | .tuple [d] => plainB d
  | .tuple (_ :: _ :: _) => false
  | .bool _ => false
  | .str _ => false
  | .list _ => false
  | .dict _ => false
theorem Od.sm {d : PyData} (h : Od d) : sm d = true := by
  induction h with
  | non => simp only [K28.sm]
  | zero => simp only [K28.sm]
  | emp => simp [K28.sm, smAll]
  | bl b => simp only [K28.sm]
  | str z _ h => simp only [K28.sm]; exact decide_eq_true (by omega)
  | lst => simp only [K28.sm]
  | dct => simp only [K28.sm]
  | two => simp [K28.sm, smAll]
  | one _ ih => simp [K28.sm, smAll, ih]
theorem Od.none {d : PyData} (h : Od d) : plainB d = false → ∀ n, isTh d n = false := by
  induction h with
  | non => intro h; cases h
  | zero => intro h; cases h
  | emp => intro h; simp [plainB] at h
  | bl b => intro _ n; simp only [isTh]
  | str z h _ => intro _ n; simp only [isTh]; exact h
  | lst => intro _ n; simp only [isTh]
  | dct => intro _ n; simp only [isTh]
  | two => intro _ n; simp [isTh, isThAll]
  | one _ ih =>
    intro h n
    simp only [plainB] at h
    simp only [isTh, isThAll]
    rw [ih h (n - 1)]; simp
theorem same_new2 {H : Hp} {p : Addr} (h : H p = none) (o o' : HO) : Same H (upd (upd H p o) p o') := fun b u q => by rw [upd_ne (ne_of_none q h), upd_ne (ne_of_none q h)]; exact q
section
variable {P : Program} {w : World} {K : PySem.W.Frag} {mg : Str → Option Value} {base : Heap}
def spDeep : Sp := fun vs H Q _ => ∃ (a c : Addr), vs = [.ref a] ∧ HandAt H a c ∧ ∀ (H' : Hp) (v : V) (d : PyData), Th a H' v d → Od d → HandAt H' a c → Kp a H H' → Q v H'
theorem ok_deep (T : Tx P K mg) : FnOk P w K mg base CX0 2 T.f_law_deep T.d_law_deep ["_law_hand_here"] spDeep := by
  have GD := ok_draw (P := P) (w := w) (base := base) T
  refine T.law_deep.F.ok sc_law_deep (fun vs H Q E h => ?_) (fun cdv A outer s H vs Q E hr h => ?_)
  · obtain ⟨a, c, rfl, _⟩ := h
    rfl
  obtain ⟨a, c, rfl, h, q⟩ := h
  have nd := sc_law_deep.nd
  refine ⟨_, pss_cons (ps_set (i := 1) nd rfl (Or.inl rfl) (pe_ix ix_list (pe_lst (pa_cons pe_non (pa_cons (pe_tup pa_nil) (pa_cons pe_int pa_nil)))) (pe_call GD hr rfl T.law_draw.m T.law_draw.F.kp T.law_draw.b .nil pass0 (pa_cons (pv 0) (pa_cons pe_int pa_nil))) (fun _ _ => rfl)))
    (pss_cons (ps_for PassesOwn.never rfl (pi_range1 rfl T.z_range (pa_cons (pe_op op_add pe_int (pe_call GD hr rfl T.law_draw.m T.law_draw.F.kp T.law_draw.b .nil pass0 (pa_cons (pv 0) (pa_cons pe_int pa_nil)))) pa_nil)) (pg_name (i := 2) nd rfl (Or.inl rfl))
      (pss_one (ps_set (i := 1) nd rfl (Or.inl rfl) (pe_ix ix_list (pe_lst (pa_cons (pe_lst (pa_cons (pv 1) pa_nil)) (pa_cons (pe_tup (pa_cons (pv 1) pa_nil)) (pa_cons (pe_disp (pps_cons pe_int (pv 1) pps_nil) (by rfl) (by rfl) (fun z => by cases z) (by decide)) pa_nil))))
        (pe_call GD hr rfl T.law_draw.m T.law_draw.F.kp T.law_draw.b .nil pass0 (pa_cons (pv 0) (pa_cons pe_int pa_nil))) (fun _ _ => rfl)))))
    (pss_one (ps_ret (pv 1)))), ?_⟩
  refine ⟨(by show 0 ≤ sizeLine; decide), fun p hp => ⟨(by show 3 ≤ sizeLine; decide), fun l hl => ?_⟩⟩
  have s1 : Same H (upd (upd H p (.tup [])) l (.lst [.non, .ref p, .int 0])) := (same_new hp _).trans (same_new hl _)
  have e1 : upd (upd H p (.tup [])) l (.lst [.non, .ref p, .int 0]) l = some (.lst [.non, .ref p, .int 0]) := upd_same
  have e2 : upd (upd H p (.tup [])) l (.lst [.non, .ref p, .int 0]) p = some (.tup []) := same_new hl _ _ _ upd_same
  have nl : l ≠ a := fun z => (hand_ne (hand_same h (same_new hp _)) hl).1 z.symm
  dsimp only
  generalize upd (upd H p (.tup [])) l (.lst [.non, .ref p, .int 0]) = H1 at s1 e1 e2 ⊢
  refine ⟨_, rfl, a, c, 3, rfl, hand_same h s1, by decide, by decide, fun H2 k f1 f2 f3 f4 => ?_⟩
  have hv : ∃ v d, atI [V.non, V.ref p, V.int 0] k = some v ∧ Th a H2 v d ∧ Od d := by
    have hk : k = 0 ∨ k = 1 ∨ k = 2 := by omega
    rcases hk with rfl | rfl | rfl
    · exact ⟨_, _, rfl, .non, .non⟩
    · exact ⟨_, _, rfl, .tup (f2.tups _ _ e2) .nil, .emp⟩
    · exact ⟨_, _, rfl, .int 0, .zero⟩
  obtain ⟨v, d, hv1, hv2, hv3⟩ := hv
  refine ⟨l, _, k, v, rfl, rfl, SqL.of (f2.keep l _ nl e1), hv1, ?_⟩
  refine ⟨_, rfl, a, c, 8, rfl, f1, by decide, by decide, fun H3 j g1 g2 g3 g4 => ⟨_, _, rfl, rfl, 14 + j, rfl, Int.le_trans (by decide) (show (0 : Int) ≤ 14 + j by omega), Int.lt_trans (show 14 + j < 100 by omega) (by decide), ?_⟩⟩
  refine for_it (walk_range (lo := 0)) (fun i σ H' => ∃ (v : V) (d : PyData) (x : Option V), σ = [some (.ref a), some v, x] ∧ Th a H' v d ∧ Od d ∧ HandAt H' a c ∧ Kp a H H') ?_ (fun _ _ _ _ _ => trivial) ?_ ?_
  · exact ⟨v, d, _, rfl, Th.mono g2 _ _ hv2, hv3, g1, (kp_of s1).trans (f2.trans g2)⟩
  · rintro i x σ H4 H5 hi ⟨v, d, y, rfl, k1, k2, k3, k4⟩ ⟨rfl, hx⟩
    refine ⟨_, rfl, (by show 1 ≤ sizeLine; decide), fun p1 h1 => ⟨_, rfl, (by show 1 ≤ sizeLine; decide), fun p2 h2 p3 h3 => ⟨_, rfl, upd_same, [(Sum.inl 0, v)], rfl, (by show 1 ≤ 15; decide), ?_⟩⟩⟩
    refine ⟨(by show 3 ≤ sizeLine; decide), fun l hl => ?_⟩
    have ha1 : p1 ≠ a := fun z => (hand_ne k3 h1).1 z.symm
    have s2 := (same_new h1 (.lst [v])).trans (same_new h2 (.tup [v]))
    have ha3 : p3 ≠ a := fun z => (hand_ne (hand_same k3 s2) h3).1 z.symm
    have t3 := same_new2 h3 (.dK []) (.dK (mergeK [] [(Sum.inl 0, v)]))
    have t4 := same_new hl (.lst [.ref p1, .ref p2, .ref p3])
    have s4 := s2.trans (t3.trans t4)
    have ha4 : l ≠ a := fun z => (hand_ne (hand_same k3 (s2.trans t3)) hl).1 z.symm
    have u1 := t4 _ _ (t3 _ _ (same_new h2 (.tup [v]) p1 (.lst [v]) upd_same))
    have u2 := t4 _ _ (t3 p2 (.tup [v]) upd_same)
    have u3 := t4 p3 (.dK (mergeK [] [(Sum.inl 0, v)])) upd_same
    have u4 : upd (upd (upd (upd (upd H5 p1 (.lst [v])) p2 (.tup [v])) p3 (.dK [])) p3 (.dK (mergeK [] [(Sum.inl 0, v)]))) l (.lst [.ref p1, .ref p2, .ref p3]) l = some (.lst [.ref p1, .ref p2, .ref p3]) := upd_same
    dsimp only
    generalize upd (upd (upd (upd (upd H5 p1 (.lst [v])) p2 (.tup [v])) p3 (.dK [])) p3 (.dK (mergeK [] [(Sum.inl 0, v)]))) l (.lst [.ref p1, .ref p2, .ref p3]) = H6 at s4 u1 u2 u3 u4 ⊢
    refine ⟨_, rfl, a, c, 3, rfl, hand_same k3 s4, by decide, by decide, fun H7 k r1 r2 r3 r4 => ?_⟩
    have hv : ∃ v' d', atI [V.ref p1, V.ref p2, V.ref p3] k = some v' ∧ Th a H7 v' d' ∧ Od d' := by
      have hk : k = 0 ∨ k = 1 ∨ k = 2 := by omega
      rcases hk with rfl | rfl | rfl
      · exact ⟨_, _, rfl, .lst ha1 (r2.keep _ _ ha1 u1), .lst⟩
      · exact ⟨_, _, rfl, .tup (r2.tups _ _ u2) (.cons (Th.mono ((kp_of s4).trans r2) _ _ k1) .nil), .one k2⟩
      · exact ⟨_, _, rfl, .dct ha3 (r2.keep _ _ ha3 u3), .dct⟩
    obtain ⟨v', d', hv1, hv2, hv3⟩ := hv
    exact ⟨l, _, k, v', rfl, rfl, SqL.of (r2.keep l _ ha4 u4), hv1, v', d', _, rfl, hv2, hv3, r1, k4.trans ((kp_of s4).trans r2)⟩
  · rintro σ H4 ⟨v, d, y, rfl, k1, k2, k3, k4⟩
    exact ⟨_, rfl, q H4 v d k1 k2 k3 k4⟩
end
end K28

/-! K28X9: _law_is_plain. -/
namespace K28
open PySem L2 TL
/-- no tuple of one -/
def notOne : PyData → Bool
  | .tuple [_] => false
  | _ => true
section
variable {P : Program} {w : World} {K : PySem.W.Frag} {mg : Str → Option Value} {base : Heap}
def restP : List Stmt := (defBody s_law_is_plain).drop 1
theorem plain_rest (T : Tx P K mg) {cdv : Value} {A : Around} {outer : List Env} {s : Shared} {H : Hp} {E : XK} {k : Nat}
    (hr : Room k (cxOf CX0 P w K mg base ["_law_thing_here"] "_law_is_plain" (defScope s_law_is_plain) T.f_law_is_plain cdv A outer s H E).A) :
    ∃ t, PSs (cxOf CX0 P w K mg base ["_law_thing_here"] "_law_is_plain" (defScope s_law_is_plain) T.f_law_is_plain cdv A outer s H E).nox restP t ∧
      ∀ (D : Ends) (H1 : Hp) (a : Addr) (v : V) (d : PyData), Th a H1 v d → Od d → notOne d = true → (∀ H', Same H1 H' → D.rt (.bl (plainB d)) H') → t D [some v] H1 := by
  refine ⟨_, pss_one (ps_ret (pe_or (pe_cmpR op_isN (pv 0) pe_non (nomark _)) (pe_or
      (pe_and (pe_callB call_isi (by rfl) T.z_isinstance (by decide +kernel) (pa_cons (pv 0) (pa_cons (pe_bltn (v := .ty "tuple") (by rfl) T.z_tuple (by decide +kernel) rfl) pa_nil))) (pe_one (pe_cmpR (op_eqD hr.units) (pv 0) (pe_tup pa_nil) (nomark _))))
      (pe_one (pe_and (pe_not (pe_callB call_isi (by rfl) T.z_isinstance (by decide +kernel) (pa_cons (pv 0) (pa_cons (pe_bltn (v := .ty "bool") (by rfl) T.z_bool (by decide +kernel) rfl) pa_nil)))) (pe_one (pe_cmpR (op_eqZ (hu_of hr)) (pv 0) pe_int (nomark _)))))))), ?_⟩
  intro D H1 a v d hv ho hn q
  refine ⟨_, rfl, rfl, _, rfl, ?_⟩
  by_cases hno : v = .non
  · subst hno
    cases hv
    exact iteT (q H1 (Same.refl H1))
  rw [decide_eq_false hno]
  refine iteF ⟨v, rfl, v, .ty "tuple", _, _, _, rfl, .ty _, hv.ty, kit_tuple K d, _, rfl, ?_⟩
  cases ht : isTup d with
  | false =>
    refine iteF ⟨_, rfl, iteF ⟨v, rfl, v, .ty "bool", _, _, _, rfl, .ty _, hv.ty, kit_bool K d, _, rfl, ?_⟩⟩
    cases hb : isBool d with
    | true =>
      have : plainB d = false := by cases d <;> first | rfl | cases hb
      rw [this] at q
      exact ⟨_, rfl, iteF (q H1 (Same.refl H1))⟩
    | false =>
      refine ⟨_, rfl, iteT ⟨v, rfl, plainB d, rfl, ?_, q H1 (Same.refl H1)⟩⟩
      cases ho with
      | non => cases hv; exact absurd rfl hno
      | zero => cases hv; exact .int 0
      | emp => cases ht
      | bl b => cases hb
      | str z _ _ => cases hv; exact .str z
      | lst =>
        cases hv with
        | lst _ e => exact .lst (SqL.of e)
      | dct =>
        cases hv with
        | dct _ e => exact .dct e
      | two => cases ht
      | one _ => cases ht
  | true =>
    refine iteT ⟨v, rfl, (by show 0 ≤ sizeLine; decide), fun p hp => ?_⟩
    have s2 := same_new hp (.tup [])
    have ep : upd H1 p (.tup []) p = some (.tup []) := upd_same
    generalize upd H1 p (.tup []) = H2 at s2 ep ⊢
    cases ho with
    | non => cases ht
    | zero => cases ht
    | bl b => cases ht
    | str z _ _ => cases ht
    | lst => cases ht
    | dct => cases ht
    | one _ => cases hn
    | emp =>
      cases hv with
      | tup e ha =>
        cases ha
        exact ⟨.tuple [], .tuple [], .tup (SqT.of (s2 _ _ e)) .nil, .tup (SqT.of ep) .nil, by decide +kernel, by decide +kernel, _, rfl, iteT (q H2 s2)⟩
    | two =>
      cases hv with
      | @tup p0 xs _ e ha =>
        have hx : xs = [.int 1, .bl true] := by
          cases ha with
          | cons h1 h2 =>
            cases h1
            cases h2 with
            | cons h1 h2 =>
              cases h1
              cases h2; rfl
        subst hx
        have e' := s2 _ _ e
        refine ⟨.tuple [.int 1, .bool true], .tuple [], .tup (SqT.of e') (.cons (.int 1) (.cons (.bl true) .nil)), .tup (SqT.of ep) .nil, by decide +kernel, by decide +kernel, _, rfl, ?_⟩
        have : PyData.eqv (.tuple [.int 1, .bool true]) (.tuple []) = false := by decide +kernel
        rw [this]
        refine iteF ⟨_, rfl, _, .ty "bool", _, _, _, rfl, .ty _, .base (.tup e'), kit_bool K (.tuple [.int 1, .bool true]), _, rfl, ⟨_, rfl, iteT ⟨_, rfl, false, rfl, .tup (SqT.of e'), q H2 s2⟩⟩⟩
def spIsPlain : Sp := fun vs H Q _ => ∃ (a : Addr) (v : V) (d : PyData), vs = [v] ∧ Th a H v d ∧ Od d ∧ ∀ H', Same H H' → Q (.bl (plainB d)) H'
theorem ok_is_plain (T : Tx P K mg) : FnOk P w K mg base CX0 1 T.f_law_is_plain T.d_law_is_plain ["_law_thing_here"] spIsPlain := by
  refine T.law_is_plain.F.ok sc_law_is_plain (fun vs H Q E h => ?_) (fun cdv A outer s H vs Q E hr h => ?_)
  · obtain ⟨a, v, d, rfl, _⟩ := h
    rfl
  obtain ⟨a, v, d, rfl, hv, ho, q⟩ := h
  have nd := sc_law_is_plain.nd
  obtain ⟨t, ht, hq⟩ := plain_rest (P := P) (w := w) (base := base) T (s := s) (H := H) (E := E) (outer := outer) hr
  refine ⟨_, pss_cons (ps_while PassesOwn.never (PW.pt (pw_and (pt_val (pe_callB call_isi (by rfl) T.z_isinstance (by decide +kernel) (pa_cons (pv 0) (pa_cons (pe_bltn (v := .ty "tuple") (by rfl) T.z_tuple (by decide +kernel) rfl) pa_nil))))
      (pw_and1 (pt_cmpR op_eq (pe_callB call_len (by rfl) T.z_len (by decide +kernel) (pa_cons (pv 0) pa_nil)) pe_int (nomark _)))))
      (pss_one (ps_set (i := 0) nd rfl (Or.inl rfl) (pe_ix ix_seq (pv 0) pe_int (fun _ _ => rfl))))) ht, ?_⟩
  refine ⟨fun m σ H1 => ∃ (v : V) (d' : PyData), m = d'.depth ∧ σ = [some v] ∧ H1 = H ∧ Th a H v d' ∧ Od d' ∧ plainB d' = plainB d, ⟨_, v, d, rfl, rfl, rfl, hv, ho, rfl⟩, ?_⟩
  rintro m σ H1 ⟨v, d', rfl, rfl, rfl, hv, ho, hp⟩
  have out : notOne d' = true → t { nx := fun x H' => Q V.non H', rt := Q } [some v] H1 := fun hn => hq _ _ a v d' hv ho hn (fun H' s' => by rw [hp]; exact q H' s')
  refine ⟨v, rfl, v, .ty "tuple", _, _, _, rfl, .ty _, hv.ty, kit_tuple K d', _, rfl, ?_⟩
  cases ht : isTup d' with
  | false =>
    refine iteF (out ?_)
    cases d' <;> first | rfl | cases ht
  | true =>
    obtain ⟨ds, rfl⟩ : ∃ ds, d' = .tuple ds := by cases d' <;> first | exact ⟨_, rfl⟩ | cases ht
    cases hv with
    | @tup p xs _ e ha =>
      refine iteT ⟨_, rfl, _, xs.length, rfl, .inr ⟨_, SqT.of e, rfl⟩, rfl, _, rfl, ?_⟩
      have hl := ha.length
      match ds, ha, hl, ho with
      | [], ha, hl, ho =>
        rw [show decide (V.int ((xs.length : Nat) : Int) = V.int 1) = false by rw [hl]; rfl]
        exact iteF (out rfl)
      | d1 :: d2 :: ds, ha, hl, ho =>
        rw [show decide (V.int ((xs.length : Nat) : Int) = V.int 1) = false from decide_eq_false (fun z => by
          have := V.int.inj z
          rw [hl] at this
          simp only [List.length_cons] at this
          omega)]
        exact iteF (out rfl)
      | [d1], ha, hl, ho =>
        rw [show decide (V.int ((xs.length : Nat) : Int) = V.int 1) = true by rw [hl]; rfl]
        cases ha with
        | @cons x ys _ _ h1 h2 =>
          refine iteT ⟨fun τ J => ∃ (v : V) (d'' : PyData), d''.depth < (PyData.tuple [d1]).depth ∧ τ = [some v] ∧ J = H1 ∧ Th a H1 v d'' ∧ Od d'' ∧ plainB d'' = plainB d, ?_, ?_⟩
          · rintro τ J ⟨v, d'', hd, rfl, rfl, h1, h2, h3⟩
            exact ⟨_, hd, v, d'', rfl, rfl, rfl, h1, h2, h3⟩
          · cases h2
            refine ⟨_, rfl, .inr (.inl ⟨p, [x], 0, x, rfl, rfl, SqT.of e, rfl, x, d1, ?_, rfl, rfl, h1, ?_, ?_⟩)⟩
            · show d1.depth < max d1.depth 0 + 1
              omega
            · cases ho with
              | one h => exact h
            · rw [← hp]; simp only [plainB]
end
end K28

/-! K28Y1: _law_told, _law_is_none. -/
namespace K28
open PySem L2 TL
section
variable {P : Program} {w : World} {K : PySem.W.Frag} {mg : Str → Option Value} {base : Heap}
/-- what the law tells of what was thrown in -/
def TellD (H : Hp) (u : V) : Option Fin → Prop
  | some G => Told H u G
  | none => ∃ t : Addr, u = .ref t ∧ H t = some (.tup [.str ("wrong" : Str), .int (-1)])
def spTold : Sp := fun vs H Q _ => ∃ (a : Addr) (v : V) (d : PyData) (o : Option Fin), vs = [v] ∧ Th a H v d ∧
  ((∃ (z : Str) (r : Res) (G : Fin), d = .str z ∧ z.length ≤ 10000 ∧ Go (tl z) .item 0 0 r ∧ Unw (tl z) [] r G ∧ o = some G) ∨ (isStr d = false ∧ o = none)) ∧ ∀ (H' : Hp) (u : V), Same H H' → TellD H' u o → Q u H'
theorem ok_told (T : Tx P K mg) (a : Addr) : FnOk P w K mg base CX0 9 T.f_law_told T.d_law_told ["_law_text"] spTold := by
  refine T.law_told.F.ok sc_law_told (fun vs H Q E h => ?_) (fun cdv A outer s H vs Q E hr h => ?_)
  · obtain ⟨a, v, d, o, rfl, _⟩ := h
    rfl
  obtain ⟨a, v, d, o, rfl, hv, hd, q⟩ := h
  have GU := ok_unpacked (P := P) (w := w) (base := base) T a
  have nd := sc_law_told.nd
  refine ⟨_, pss_cons (ps_set (i := 1) nd rfl (Or.inl rfl) (pe_tup (pa_cons pe_str (pa_cons pe_non pa_nil))))
    (pss_cons (ps_try_as1 (i := 2) rfl rfl nd rfl rfl ⟨rfl, by decide, .inl T.bad.gC⟩
      (fun W pn xe tk _ => pss_one (ps_set (i := 1) nd rfl (Or.inl rfl) (pe_tup (pa_cons pe_str (pa_cons (pe_callS GU hr rfl T.unpacked.m T.unpacked.F.kp T.unpacked.b (fun σ => passAt tk σ) (pa_cons (pv 0) pa_nil)) pa_nil)))))
      (fun a oe cls d pn hz hf => pss_one (ps_set (i := 1) nd rfl (Or.inl rfl) (pe_tup (pa_cons pe_str (pa_cons (pe_byPlace T.bad hz hf (pv 2)) pa_nil))))))
    (pss_one (ps_ret (pv 1)))), ?_⟩
  refine ⟨(by show 2 ≤ sizeLine; decide), fun p hp => ?_⟩
  have s1 := same_new hp (.tup [.str "other", .non])
  generalize upd H p (.tup [.str "other", .non]) = H1 at s1 ⊢
  refine ⟨_, rfl, v, d, rfl, Th.mono (kp_of s1) _ _ hv, ?_⟩
  rcases hd with ⟨z, r, G, rfl, hz, g, u, rfl⟩ | ⟨hd, rfl⟩
  · refine .inl ⟨z, r, G, rfl, hz, g, u, fun H2 v d e s2 pu => ⟨(by show 2 ≤ sizeLine; decide), fun t ht => ⟨_, rfl, ?_⟩⟩, fun n e dd H2 s2 hdd => ⟨T.bad.te, fun b hb => ?_⟩⟩
    · subst e
      have s3 := same_new ht (.tup [.str "thing", v])
      exact q _ _ (s1.trans (s2.trans s3)) ⟨t, v, rfl, upd_same, Pu.mono (tk_of s3) _ _ pu⟩
    · subst e
      refine ⟨_, rfl, rfl, rfl, dd, .int (n : Int), rfl, hdd, (by show 2 ≤ sizeLine; decide), fun t ht => ⟨_, rfl, ?_⟩⟩
      exact q _ _ (s1.trans (s2.trans (same_new ht _))) ⟨t, rfl, upd_same⟩
  · refine .inr ⟨hd, fun dd H2 s2 hdd => ⟨T.bad.te, fun b hb => ?_⟩⟩
    refine ⟨_, rfl, rfl, rfl, dd, .int (-1), rfl, hdd, (by show 2 ≤ sizeLine; decide), fun t ht => ⟨_, rfl, ?_⟩⟩
    exact q _ _ (s1.trans (s2.trans (same_new ht _))) ⟨t, rfl, upd_same⟩
theorem call_isE' {X : Cx} {a D : Addr} {oe : Obj} {cls : Value} {d : Option Addr} {pn : List (Addr × Obj)} (C : ExcC X.K D) (hz : Zc cls d oe) (hf : ∃ vs, oe.data = .fields vs) :
    CallR (X.suite a ((a, oe) :: pn)) (.builtin "isinstance") (fun xs H Q => cls = .ref D ∧ d = none ∧ rIsE X.K D a xs H Q) := by
  intro pins s σ H xs us Q I r h
  obtain ⟨rfl, rfl, h⟩ := h
  exact call_isE C hz hf pins s σ H xs us Q I r h
/-- things that are none -/
def spIsNone (CN : Addr) : Sp := fun vs H Q _ => ∃ (a : Addr) (v : V) (d : PyData), vs = [v] ∧ Th a H v d ∧ sm d = true ∧ isTh d 30 = false ∧ ∀ H', Same H H' → Q (.bl true) H'
theorem ok_is_none (T : Tx P K mg) : FnOk P w K mg base CX0 35 T.f_law_is_none T.d_law_is_none ["_law_thing_here"] (spIsNone T.CN) := by
  refine T.law_is_none.F.ok sc_law_is_none (fun vs H Q E h => ?_) (fun cdv A outer s H vs Q E hr h => ?_)
  · obtain ⟨a, v, d, rfl, _⟩ := h
    rfl
  obtain ⟨a, v, d, rfl, hv, hs, ht, q⟩ := h
  have GP := ok_packed (P := P) (w := w) (base := base) T a
  have nd := sc_law_is_none.nd
  refine ⟨_, pss_cons (ps_set (i := 1) nd rfl (Or.inl rfl) pe_bl)
    (pss_cons (ps_try_as1 (i := 2) rfl rfl nd rfl rfl ⟨rfl, by decide, .inl T.gN⟩
      (fun W pn xe tk _ => pss_one (ps_expr (pe_callS GP hr rfl T.packed.m T.packed.F.kp T.packed.b (fun σ => passAt tk σ) (pa_cons (pv 0) pa_nil))))
      (fun a oe cls d pn hz hf => pss_one (ps_set (i := 1) nd rfl (Or.inl rfl) (pe_callB (call_isE' T.cN hz hf) (by rfl) T.z_isinstance (by decide +kernel) (pa_cons (pv 2) (pa_cons (pe_glob (v := .ref T.CK) rfl T.gK rfl) pa_nil))))))
    (pss_one (ps_ret (pv 1)))), ?_⟩
  refine ⟨_, rfl, v, d, rfl, hv, hs, .inr ⟨ht, fun H1 s1 => ⟨T.mN, fun b hb => ?_⟩⟩⟩
  exact ⟨_, rfl, rfl, rfl, .ref T.CK, .ref T.CK, true, rfl, fun u r => r, T.iN, _, rfl, q H1 s1⟩
end
end K28

/-! K28Z1: the law's inner loop. -/
namespace K28
open PySem L2 TL
def tellData : Option Fin → PyData
  | none => .tuple [.str "wrong", .int (-1)]
  | some (.good d) => .tuple [.str "thing", d]
  | some (.wrong n) => .tuple [.str "wrong", .int (n : Int)]
theorem tell_dp {K : PySem.W.Frag} {H : Hp} {u : V} : ∀ {o : Option Fin}, TellD H u o → Dp K H u (tellData o)
  | none, ⟨t, e, h⟩ => by subst e; exact .tup (SqT.of h) (.cons (.str _) (.cons (.int _) .nil))
  | some (.good d), ⟨t, v, e, h, p⟩ => by subst e; exact .tup (SqT.of h) (.cons (.str _) (.cons (Pu.dp _ _ p) .nil))
  | some (.wrong n), ⟨t, e, h⟩ => by subst e; exact .tup (SqT.of h) (.cons (.str _) (.cons (.int _) .nil))
theorem tell_same {H H' : Hp} {u : V} (s : Same H H') : ∀ {o : Option Fin}, TellD H u o → TellD H' u o
  | none, ⟨t, e, h⟩ => ⟨t, e, s _ _ h⟩
  | some (.good d), ⟨t, v, e, h, p⟩ => ⟨t, v, e, s _ _ h, Pu.mono (tk_of s) _ _ p⟩
  | some (.wrong n), ⟨t, e, h⟩ => ⟨t, e, s _ _ h⟩
/-- what may be told -/
def FineO (o : Option Fin) : Prop := ∀ d, o = some (.good d) → d.canLay0 = true ∧ d.depth ≤ 60
theorem thing_shaped {d : PyData} (h1 : d.canLay0 = true) (h2 : d.depth ≤ 60) : SeqAt.shaped (.tuple [.str "thing", d]) = true := by
  unfold SeqAt.shaped
  have e1 : PyData.canLay0 (.tuple [.str "thing", d]) = true := by
    show (PyData.canLay0 (.str "thing") && (PyData.canLay0 d && true)) = true
    rw [h1]; decide +kernel
  rw [e1, decide_eq_true]; rfl
  show max 0 (max d.depth 0) + 1 ≤ 64
  omega
theorem tell_shaped : ∀ {o : Option Fin}, FineO o → SeqAt.shaped (tellData o) = true
  | none, _ => by decide +kernel
  | some (.good d), h => thing_shaped (h d rfl).1 (h d rfl).2
  | some (.wrong n), _ => by
    unfold SeqAt.shaped
    have e1 : PyData.canLay0 (.tuple [.str "wrong", .int (n : Int)]) = true := by
      show (PyData.canLay0 (.str "wrong") && (true && true)) = true
      decide +kernel
    show (PyData.canLay0 (.tuple [.str "wrong", .int (n : Int)]) && decide (max 0 (max 0 0) + 1 ≤ 64)) = true
    rw [e1]; rfl
theorem fine_go {x : Cs} {r : Res} (g : Go x .item 0 0 r) : FineO (some (finOf x r)) := fun d e => by
  cases r with
  | bad p => exact nomatch Option.some.inj e
  | ok t b =>
    obtain ⟨h1, h2⟩ := g.fine (show (0 : Nat) ≤ 30 by omega) t b rfl
    have h3 : t.depth ≤ 30 := h2
    have e' : (if b = x.length then Fin.good t else Fin.wrong b) = .good d := Option.some.inj e
    by_cases hb : b = x.length
    · rw [if_pos hb] at e'
      injection e' with e'
      subst e'
      exact ⟨h1, by omega⟩
    · rw [if_neg hb] at e'
      exact nomatch e'
theorem eqv_same {d : PyData} (h : SeqAt.shaped d = true) : PyData.eqv d d = true := SeqAt.eqv_refl d (SeqAt.canLay_of_shaped h)
section
variable {P : Program} {w : World} {K : PySem.W.Frag} {mg : Str → Option Value} {base : Heap}
abbrev NL : List Str := ["_law_script", "_law_hand_here", "_law_turn", "_law_thing_here", "_law_text", "_law_again", "_law_bent", "_law_odd", "_law_wrong", "_law_long"]
def bodyL : List Stmt := match (defBody s_law).drop 1 with
  | .For _ _ b _ _ :: _ => b
  | _ => []
def againL : List Stmt := bodyL.drop 4
theorem law_again (T : Tx P K mg) {cdv : Value} {A : Around} {outer : List Env} {s : Shared} {H : Hp} {E : XK}
    (hr : Room 64 (cxOf CX0 P w K mg base NL "law" (defScope s_law) T.f_law cdv A outer s H E).A) :
    ∃ t, PSs (cxOf CX0 P w K mg base NL "law" (defScope s_law) T.f_law cdv A outer s H E).nox againL t ∧
      ∀ (D : Ends) (H1 : Hp) (a c : Addr) (z : Str) (x0 x2 x3 x5 x6 x7 x8 x9 : Option V), HandAt H1 a c → z.length ≤ 3000 →
        (∀ (H' : Hp) (y5 y6 : Option V), HandAt H' a c → Kp a H1 H' → D.nx [x0, some (.ref a), x2, x3, some (.str z), y5, y6, x7, x8, x9] H') →
        t D [x0, some (.ref a), x2, x3, some (.str z), x5, x6, x7, x8, x9] H1 := by
  have GC := ok_changed (P := P) (w := w) (base := base) T
  have GT := fun a => ok_told (P := P) (w := w) (base := base) T a
  have GL := ok_lun (P := P) (w := w) (base := base) T
  have nd := sc_law.nd
  refine ⟨_, pss_one (ps_for PassesOwn.never rfl (pi_range1 rfl T.z_range (pa_cons pe_int pa_nil)) (pg_name (i := 5) nd rfl (Or.inl rfl))
      (pss_cons (ps_set (i := 6) nd rfl (Or.inl rfl) (pe_call GC (hr.mono (by decide)) rfl T.law_changed.m T.law_changed.F.kp T.law_changed.b .nil pass0 (pa_cons (pv 1) (pa_cons (pv 4) pa_nil))))
      (pss_one (ps_if (pt_cmpR (op_neD hr.units) (pe_call (GT 0) (hr.mono (by decide)) rfl T.law_told.m T.law_told.F.kp T.law_told.b .nil pass0 (pa_cons (pv 6) pa_nil)) (pe_call GL hr rfl T.law_unpacked.m T.law_unpacked.F.kp T.law_unpacked.b .nil pass0 (pa_cons (pv 6) pa_nil)) (nomark _))
        (pss_one (ps_ret pe_bl)) pss_nil)))), ?_⟩
  intro D H1 a c z x0 x2 x3 x5 x6 x7 x8 x9 h hz q
  refine ⟨5, rfl, by decide, by decide, ?_⟩
  refine for_it (walk_range (lo := 0)) (fun i σ H2 => ∃ y5 y6 : Option V, σ = [x0, some (.ref a), x2, x3, some (.str z), y5, y6, x7, x8, x9] ∧ HandAt H2 a c ∧ Kp a H1 H2) ⟨x5, x6, rfl, h, Kp.refl a H1⟩ (fun _ _ _ _ _ => trivial) ?_ ?_
  · rintro i x σ H2 H3 hi ⟨y5, y6, rfl, e1, e2⟩ ⟨rfl, hx⟩
    refine ⟨_, rfl, _, rfl, a, c, z, rfl, hz, e1, fun H4 y hy f1 f2 => ?_⟩
    obtain ⟨r, g, bd⟩ := total0 (tl y)
    have fo := fine_go g
    refine ⟨_, rfl, 0, .str y, .str y, some (finOf (tl y) r), rfl, .str y, .inl ⟨y, r, _, rfl, hy, g, start bd, rfl⟩, fun H5 u s5 t5 => ?_⟩
    refine ⟨_, rfl, y, r, rfl, hy, g, fun H6 u' s6 t6 => ⟨tellData (some (finOf (tl y) r)), tellData (some (finOf (tl y) r)), tell_dp (tell_same s6 t5), tell_dp (o := some (finOf (tl y) r)) t6, tell_shaped fo, tell_shaped fo, _, rfl, ?_⟩⟩
    rw [eqv_same (tell_shaped fo)]
    refine iteF ⟨_, _, rfl, hand_same f1 (s5.trans s6), e2.trans (f2.trans (kp_of (s5.trans s6)))⟩
  · rintro σ H2 ⟨y5, y6, rfl, e1, e2⟩
    exact q H2 y5 y6 e1 e2
end
end K28

/-! K28Z2: the law's outer loop. -/
namespace K28
open PySem L2 TL
theorem tl_inj {x y : Str} (h : tl x = tl y) : x = y := by
  obtain ⟨⟨l⟩⟩ := x
  obtain ⟨⟨m⟩⟩ := y
  have : l = m := h
  rw [this]
section
variable {P : Program} {w : World} {K : PySem.W.Frag} {mg : Str → Option Value} {base : Heap}
def textL : List Stmt := bodyL.drop 2
theorem law_text (T : Tx P K mg) {cdv : Value} {A : Around} {outer : List Env} {s : Shared} {H : Hp} {E : XK}
    (hr : Room 64 (cxOf CX0 P w K mg base NL "law" (defScope s_law) T.f_law cdv A outer s H E).A) :
    ∃ t, PSs (cxOf CX0 P w K mg base NL "law" (defScope s_law) T.f_law cdv A outer s H E).nox textL t ∧
      ∀ (D : Ends) (H1 : Hp) (a c : Addr) (v : V) (d : PyData) (x0 x2 x4 x5 x6 x7 x8 x9 : Option V), HandAt H1 a c → Pu H1 v d → Made 30 3000 d →
        (∀ (H' : Hp) (y3 y4 y5 y6 : Option V), HandAt H' a c → Kp a H1 H' → D.nx [x0, some (.ref a), x2, y3, y4, y5, y6, x7, x8, x9] H') →
        t D [x0, some (.ref a), x2, some v, x4, x5, x6, x7, x8, x9] H1 := by
  have GK := ok_lawp (P := P) (w := w) (base := base) T 31
  have GP := ok_packed (P := P) (w := w) (base := base) T 0
  have GT := fun a => ok_told (P := P) (w := w) (base := base) T a
  have GL := ok_lun (P := P) (w := w) (base := base) T
  have nd := sc_law.nd
  obtain ⟨t, ht, hq⟩ := law_again (P := P) (w := w) (base := base) T (cdv := cdv) (A := A) (outer := outer) (s := s) (H := H) (E := E) hr
  refine ⟨_, pss_cons (ps_set (i := 4) nd rfl (Or.inl rfl) (pe_call GK (hr.mono (by decide)) rfl T.law_packed.m T.law_packed.F.kp T.law_packed.b .nil pass0 (pa_cons (pv 3) pa_nil)))
    (pss_cons (ps_if (PW.pt (pw_or (pt_cmpR op_ne (pe_callS (E := fun _ _ _ _ => False) GP (hr.mono (by decide)) rfl T.packed.m T.packed.F.kp T.packed.b (fun σ => passAt takes0 σ) (pa_cons (pv 3) pa_nil)) (pv 4) (nomark _))
        (pw_or (pt_cmpR (op_neD hr.units) (pe_call (GT 0) (hr.mono (by decide)) rfl T.law_told.m T.law_told.F.kp T.law_told.b .nil pass0 (pa_cons (pv 4) pa_nil)) (pe_tup (pa_cons pe_str (pa_cons (pv 3) pa_nil))) (nomark _))
          (pw_or1 (pt_cmpR (op_neD hr.units) (pe_call GL hr rfl T.law_unpacked.m T.law_unpacked.F.kp T.law_unpacked.b .nil pass0 (pa_cons (pv 4) pa_nil)) (pe_tup (pa_cons pe_str (pa_cons (pv 3) pa_nil))) (nomark _))))))
        (pss_one (ps_ret pe_bl)) pss_nil) ht), ?_⟩
  intro D H1 a c v d x0 x2 x4 x5 x6 x7 x8 x9 h hp hm q
  have hfit := hm.fit
  have hth := th_fit d 30 hfit hm.deep
  have hcan := fit_can d hfit
  have hsh : SeqAt.shaped (.tuple [.str "thing", d]) = true := thing_shaped hcan (by have := hm.deep; omega)
  refine ⟨_, rfl, v, d, rfl, hp, hfit, by have := hm.deep; omega, hm.len, fun H2 z s2 ez => ?_⟩
  have hzl : z.length ≤ 3000 := by rw [len_tl, ez]; exact hm.len
  have gw : Go (tl z) .item 0 0 (.ok d (pk d).length) := by rw [ez]; exact go_whole d hfit hm.deep
  have bd : Bd (tl z) 0 (.ok d (pk d).length) := by
    intro t b e
    injection e with e1 e2
    subst e2
    obtain ⟨ch, rr, hpk, _⟩ := pk_pos d hfit
    refine ⟨by rw [hpk]; simp, by rw [ez]; exact Nat.le_refl _⟩
  have fin : finOf (tl z) (.ok d (pk d).length) = .good d := by
    show (if (pk d).length = (tl z).length then Fin.good d else Fin.wrong _) = _
    rw [ez, if_pos rfl]
  refine ⟨_, rfl, v, d, rfl, Pu.th _ _ (Pu.mono (tk_of s2) _ _ hp), sm_pk d hfit (by have := hm.len; omega), .inl ⟨hth, Pu.mono (tk_of s2) _ _ hp, hfit, hm.deep, hm.len, fun H3 z' s3 ez' => ?_⟩⟩
  have : z' = z := tl_inj (ez'.trans ez.symm)
  subst this
  refine ⟨_, rfl, rfl, _, rfl, ?_⟩
  rw [decide_eq_true (rfl : V.str z' = V.str z')]
  refine iteF ⟨_, rfl, 0, .str z', .str z', some (.good d), rfl, .str z', .inl ⟨z', _, .good d, rfl, by omega, gw, by rw [← fin]; exact start bd, rfl⟩, fun H4 u s4 t4 => ⟨_, rfl, (by show 2 ≤ sizeLine; decide), fun p hp4 => ?_⟩⟩
  have s5 := same_new hp4 (.tup [.str "thing", v])
  have pu5 := Pu.mono (tk_of (s2.trans (s3.trans (s4.trans s5)))) _ _ hp
  refine ⟨tellData (some (.good d)), .tuple [.str "thing", d], tell_dp (tell_same s5 t4), .tup (SqT.of upd_same) (.cons (.str _) (.cons (Pu.dp _ _ pu5) .nil)), hsh, hsh, _, rfl, ?_⟩
  have eq1 : PyData.eqv (tellData (some (.good d))) (.tuple [.str "thing", d]) = true := eqv_same hsh
  rw [eq1]
  generalize upd H4 p (.tup [.str "thing", v]) = H5 at s5 pu5 ⊢
  refine iteF ⟨_, rfl, z', _, rfl, by omega, gw, fun H6 u6 s6 t6 => ⟨_, rfl, (by show 2 ≤ sizeLine; decide), fun p hp7 => ?_⟩⟩
  rw [fin] at t6
  have s7 := same_new hp7 (.tup [.str "thing", v])
  have pu7 := Pu.mono (tk_of (s6.trans s7)) _ _ pu5
  refine ⟨tellData (some (.good d)), .tuple [.str "thing", d], tell_dp (tell_same (o := some (.good d)) s7 t6), .tup (SqT.of upd_same) (.cons (.str _) (.cons (Pu.dp _ _ pu7) .nil)), hsh, hsh, _, rfl, ?_⟩
  rw [eq1]
  have s17 := s2.trans (s3.trans (s4.trans (s5.trans (s6.trans s7))))
  exact iteF (hq _ _ _ _ _ _ _ _ _ _ _ _ _ (hand_same h s17) hzl (fun H' y5 y6 k1 k2 => q _ _ _ _ _ k1 ((kp_of s17).trans k2)))
/-- the outer loop -/
def turnsL : List Stmt := ((defBody s_law).drop 1).take 1
theorem law_turns (T : Tx P K mg) {cdv : Value} {A : Around} {outer : List Env} {s : Shared} {H : Hp} {E : XK}
    (hr : Room 64 (cxOf CX0 P w K mg base NL "law" (defScope s_law) T.f_law cdv A outer s H E).A) :
    ∃ t, PS (cxOf CX0 P w K mg base NL "law" (defScope s_law) T.f_law cdv A outer s H E).nox (((defBody s_law).drop 1).headD (.Pass ⟨0, 0, 0, 0⟩)) t ∧
      ∀ (D : Ends) (H1 : Hp) (a c : Addr) (x0 : Option V), HandAt H1 a c →
        (∀ (H' : Hp) (y2 y3 y4 y5 y6 : Option V), HandAt H' a c → D.nx [x0, some (.ref a), y2, y3, y4, y5, y6, none, none, none] H') →
        t D [x0, some (.ref a), none, none, none, none, none, none, none, none] H1 := by
  have GN := ok_nested (P := P) (w := w) (base := base) T
  have GH := ok_thing (P := P) (w := w) (base := base) T 5
  have GD := ok_draw (P := P) (w := w) (base := base) T
  have nd := sc_law.nd
  obtain ⟨t, ht, hq⟩ := law_text (P := P) (w := w) (base := base) T (cdv := cdv) (A := A) (outer := outer) (s := s) (H := H) (E := E) hr
  refine ⟨_, ps_for PassesOwn.never rfl (pi_range1 rfl T.z_range (pa_cons pe_int pa_nil)) (pg_name (i := 2) nd rfl (Or.inl rfl))
      (pss_cons (ps_set (i := 3) nd rfl (Or.inl rfl) (pe_call GH (hr.mono (by decide)) rfl T.law_thing.m T.law_thing.F.kp T.law_thing.b .nil pass0 (pa_cons (pv 1) (pa_cons pe_int pa_nil))))
      (pss_cons (ps_if (pt_cmpR op_eq (pe_call GD (hr.mono (by decide)) rfl T.law_draw.m T.law_draw.F.kp T.law_draw.b .nil pass0 (pa_cons (pv 1) (pa_cons pe_int pa_nil))) pe_int (nomark _))
        (pss_one (ps_set (i := 3) nd rfl (Or.inl rfl) (pe_call GN (hr.mono (by decide)) rfl T.law_nested.m T.law_nested.F.kp T.law_nested.b .nil pass0 (pa_cons (pv 1) (pa_cons
          (pe_ix ix_list (pe_lst (pa_cons pe_int (pa_cons pe_int (pa_cons pe_int pa_nil)))) (pe_call GD (hr.mono (by decide)) rfl T.law_draw.m T.law_draw.F.kp T.law_draw.b .nil pass0 (pa_cons (pv 1) (pa_cons pe_int pa_nil))) (fun _ _ => rfl)) pa_nil))))) pss_nil) ht)), ?_⟩
  intro D H1 a c x0 h q
  refine ⟨3, rfl, by decide, by decide, ?_⟩
  refine for_it (walk_range (lo := 0)) (fun i σ H2 => ∃ y2 y3 y4 y5 y6 : Option V, σ = [x0, some (.ref a), y2, y3, y4, y5, y6, none, none, none] ∧ HandAt H2 a c) ⟨_, _, _, _, _, rfl, h⟩ (fun _ _ _ _ _ => trivial) ?_ ?_
  · rintro i x σ H2 H3 hi ⟨y2, y3, y4, y5, y6, rfl, e1⟩ ⟨rfl, hx⟩
    refine ⟨_, rfl, a, c, 4, rfl, by decide, e1, fun H4 v d p1 p2 p3 p4 => ?_⟩
    have p2' : Made 30 3000 d := p2.mono (by decide) (by decide)
    refine ⟨_, rfl, a, c, 6, rfl, p3, by decide, by decide, fun H5 k k1 k2 k3 k4 => ⟨rfl, _, rfl, ite2 (fun _ => ?_) (fun _ => ?_)⟩⟩
    · refine ⟨_, rfl, (by show 3 ≤ sizeLine; decide), fun l hl => ?_⟩
      have sl := same_new hl (.lst [.int 2, .int 29, .int 30])
      have nl : l ≠ a := fun z => (hand_ne k1 hl).1 z.symm
      have el : upd H5 l (.lst [.int 2, .int 29, .int 30]) l = some (.lst [.int 2, .int 29, .int 30]) := upd_same
      dsimp only
      generalize upd H5 l (.lst [.int 2, .int 29, .int 30]) = H6 at sl el ⊢
      refine ⟨_, rfl, a, c, 3, rfl, hand_same k1 sl, by decide, by decide, fun H7 j j1 j2 j3 j4 => ?_⟩
      have hv : ∃ m : Nat, atI [V.int 2, V.int 29, V.int 30] j = some (.int (m : Int)) ∧ 1 ≤ m ∧ m ≤ 30 := by
        have hk : j = 0 ∨ j = 1 ∨ j = 2 := by omega
        rcases hk with rfl | rfl | rfl
        · exact ⟨2, rfl, by decide, by decide⟩
        · exact ⟨29, rfl, by decide, by decide⟩
        · exact ⟨30, rfl, by decide, by decide⟩
      obtain ⟨m, hm1, hm2, hm3⟩ := hv
      refine ⟨l, _, j, _, rfl, rfl, SqL.of (j2.keep l _ nl el), hm1, a, c, m, rfl, hm2, hm3, j1, fun H8 v d q1 q2 q3 q4 => ?_⟩
      exact hq _ _ _ _ _ _ _ _ _ _ _ _ _ _ q3 q1 (q2.mono (Nat.le_refl _) (by decide)) (fun H' y3 y4 y5 y6 w1 w2 => ⟨_, _, _, _, _, rfl, w1⟩)
    · exact hq _ _ _ _ _ _ _ _ _ _ _ _ _ _ k1 (Pu.mono k2.tups _ _ p1) p2' (fun H' y3 y4 y5 y6 w1 w2 => ⟨_, _, _, _, _, rfl, w1⟩)
  · rintro σ H2 ⟨y2, y3, y4, y5, y6, rfl, e1⟩
    exact q H2 y2 y3 y4 y5 y6 e1
end
end K28

/-! K28Z3: the law's end; law. -/
namespace K28
open PySem L2 TL
section
variable {P : Program} {w : World} {K : PySem.W.Frag} {mg : Str → Option Value} {base : Heap}
def end2L : List Stmt := (defBody s_law).drop 5
theorem law_end2 (T : Tx P K mg) {cdv : Value} {A : Around} {outer : List Env} {s : Shared} {H : Hp} {E : XK}
    (hr : Room 64 (cxOf CX0 P w K mg base NL "law" (defScope s_law) T.f_law cdv A outer s H E).A) :
    ∃ t, PSs (cxOf CX0 P w K mg base NL "law" (defScope s_law) T.f_law cdv A outer s H E).nox end2L t ∧
      ∀ (D : Ends) (H1 : Hp) (a c : Addr) (x0 x2 x3 x4 x5 x6 x7 x8 x9 : Option V), HandAt H1 a c → (∀ H', D.rt (.bl true) H') → t D [x0, some (.ref a), x2, x3, x4, x5, x6, x7, x8, x9] H1 := by
  have GD := ok_draw (P := P) (w := w) (base := base) T
  have GA := ok_any (P := P) (w := w) (base := base) T
  have GT := fun a => ok_told (P := P) (w := w) (base := base) T a
  have GL := ok_lun (P := P) (w := w) (base := base) T
  have nd := sc_law.nd
  refine ⟨_, pss_cons (ps_set (i := 9) nd rfl (Or.inl rfl) (pe_ix ix_list (pe_lst
        (pa_cons (pe_op op_add_str (pe_op op_mulS pe_str pe_int) (pe_op op_mulS pe_str pe_int))
        (pa_cons (pe_op op_mulS pe_str pe_int)
        (pa_cons (pe_op op_add_str pe_str (pe_op op_mulS pe_str pe_int))
        (pa_cons (pe_op op_mulS pe_str pe_int)
        (pa_cons (pe_op op_add_str pe_str (pe_op op_mulS pe_str pe_int)) pa_nil))))))
        (pe_call GD (hr.mono (by decide)) rfl T.law_draw.m T.law_draw.F.kp T.law_draw.b .nil pass0 (pa_cons (pv 1) (pa_cons pe_int pa_nil))) (fun _ _ => rfl)))
    (pss_cons (ps_if (pt_cmpR (op_neD hr.units) (pe_call (GT 0) (hr.mono (by decide)) rfl T.law_told.m T.law_told.F.kp T.law_told.b .nil pass0 (pa_cons (pv 9) pa_nil)) (pe_call GL hr rfl T.law_unpacked.m T.law_unpacked.F.kp T.law_unpacked.b .nil pass0 (pa_cons (pv 9) pa_nil)) (nomark _))
        (pss_one (ps_ret pe_bl)) pss_nil)
    (pss_one (ps_ret (pe_cmpR (op_eqD hr.units) (pe_call (GT 0) (hr.mono (by decide)) rfl T.law_told.m T.law_told.F.kp T.law_told.b .nil pass0 (pa_cons
        (pe_call GA (hr.mono (by decide)) rfl T.law_any.m T.law_any.F.kp T.law_any.b .nil pass0 (pa_cons (pv 1) (pa_cons
          (pe_lst (pa_cons pe_non (pa_cons pe_int (pa_cons pe_bl (pa_cons (pe_lst (pa_cons pe_str pa_nil)) (pa_cons (pe_tup (pa_cons pe_str pa_nil)) (pa_cons pe_dnewK pa_nil))))))) pa_nil))) pa_nil))
        (pe_tup (pa_cons pe_str (pa_cons (pe_un un_neg pe_int) pa_nil))) (nomark _))))), ?_⟩
  intro D H1 a c x0 x2 x3 x4 x5 x6 x7 x8 x9 h q
  refine ⟨("(" : Str), 31, rfl, rfl, (by unfold MulOk; decide +kernel), (")" : Str), 31, rfl, rfl, (by unfold MulOk; decide +kernel), _, _, rfl, rfl, (by refine size10 ?_; decide +kernel), ?_⟩
  refine ⟨("1" : Str), 31, rfl, rfl, (by unfold MulOk; decide +kernel), ?_⟩
  refine ⟨("9" : Str), 31, rfl, rfl, (by unfold MulOk; decide +kernel), _, _, rfl, rfl, (by refine size10 ?_; decide +kernel), ?_⟩
  refine ⟨("(" : Str), 40, rfl, rfl, (by unfold MulOk; decide +kernel), ?_⟩
  refine ⟨("a" : Str), 50, rfl, rfl, (by unfold MulOk; decide +kernel), _, _, rfl, rfl, (by refine size10 ?_; decide +kernel), ?_⟩
  refine ⟨(by show 5 ≤ sizeLine; decide), fun l hl => ?_⟩
  have sl := same_new hl (.lst [.str (Txt.mul ("(" : Str) 31 ++ Txt.mul (")" : Str) 31), .str (Txt.mul ("1" : Str) 31), .str ("-" ++ Txt.mul ("9" : Str) 31), .str (Txt.mul ("(" : Str) 40), .str ("'" ++ Txt.mul ("a" : Str) 50)])
  have nl : l ≠ a := fun z => (hand_ne h hl).1 z.symm
  have el : upd H1 l (.lst [.str (Txt.mul ("(" : Str) 31 ++ Txt.mul (")" : Str) 31), .str (Txt.mul ("1" : Str) 31), .str ("-" ++ Txt.mul ("9" : Str) 31), .str (Txt.mul ("(" : Str) 40), .str ("'" ++ Txt.mul ("a" : Str) 50)]) l = some _ := upd_same
  refine ⟨_, rfl, a, c, 5, rfl, hand_same h sl, by decide, by decide, fun H2 k k1 k2 k3 k4 => ?_⟩
  have hv : ∃ y : Str, atI [V.str (Txt.mul ("(" : Str) 31 ++ Txt.mul (")" : Str) 31), V.str (Txt.mul ("1" : Str) 31), V.str ("-" ++ Txt.mul ("9" : Str) 31), V.str (Txt.mul ("(" : Str) 40), V.str ("'" ++ Txt.mul ("a" : Str) 50)] k = some (.str y) ∧ y.length ≤ 10000 := by
    have hk : k = 0 ∨ k = 1 ∨ k = 2 ∨ k = 3 ∨ k = 4 := by omega
    rcases hk with rfl | rfl | rfl | rfl | rfl
    · exact ⟨_, rfl, by decide +kernel⟩
    · exact ⟨_, rfl, by decide +kernel⟩
    · exact ⟨_, rfl, by decide +kernel⟩
    · exact ⟨_, rfl, by decide +kernel⟩
    · exact ⟨_, rfl, by decide +kernel⟩
  obtain ⟨y, hv, hy⟩ := hv
  obtain ⟨r, g, bd⟩ := total0 (tl y)
  have fo := fine_go g
  refine ⟨l, _, k, _, rfl, rfl, SqL.of (k2.keep l _ nl el), hv, ?_⟩
  refine ⟨_, rfl, 0, .str y, .str y, some (finOf (tl y) r), rfl, .str y, .inl ⟨y, r, _, rfl, hy, g, start bd, rfl⟩, fun H5 u s5 t5 => ?_⟩
  refine ⟨_, rfl, y, r, rfl, hy, g, fun H6 u' s6 t6 => ⟨tellData (some (finOf (tl y) r)), tellData (some (finOf (tl y) r)), tell_dp (tell_same s6 t5), tell_dp (o := some (finOf (tl y) r)) t6, tell_shaped fo, tell_shaped fo, _, rfl, ?_⟩⟩
  rw [eqv_same (tell_shaped fo)]
  have h6 := hand_same k1 (s5.trans s6)
  refine iteF ⟨_, rfl, (by show 1 ≤ sizeLine; decide), fun p1 h1 => ⟨(by show 1 ≤ sizeLine; decide), fun p2 h2 p3 h3 => ⟨(by show 6 ≤ sizeLine; decide), fun l2 hl2 => ?_⟩⟩⟩
  have n1 : p1 ≠ a := fun z => (hand_ne h6 h1).1 z.symm
  have n3 : p3 ≠ a := fun z => (hand_ne (hand_same h6 ((same_new h1 _).trans (same_new h2 _))) h3).1 z.symm
  have n4 : l2 ≠ a := fun z => (hand_ne (hand_same h6 ((same_new h1 _).trans ((same_new h2 _).trans (same_new h3 _)))) hl2).1 z.symm
  have S4 := same_new hl2 (.lst [.non, .int 5, .bl true, .ref p1, .ref p2, .ref p3])
  have S3 := (same_new h3 (.dK [])).trans S4
  have S2 := (same_new h2 (.tup [.str "."])).trans S3
  have S1 := (same_new h1 (.lst [.str "."])).trans S2
  have e1 := S2 _ _ (show upd H6 p1 (.lst [.str "."]) p1 = some _ from upd_same)
  have e2 := S3 p2 (.tup [.str "."]) upd_same
  have e3 := S4 p3 (.dK []) upd_same
  have e4 : upd (upd (upd (upd H6 p1 (.lst [.str "."])) p2 (.tup [.str "."])) p3 (.dK [])) l2 (.lst [.non, .int 5, .bl true, .ref p1, .ref p2, .ref p3]) l2 = some (.lst [.non, .int 5, .bl true, .ref p1, .ref p2, .ref p3]) := upd_same
  dsimp only
  generalize upd (upd (upd (upd H6 p1 (.lst [.str "."])) p2 (.tup [.str "."])) p3 (.dK [])) l2 (.lst [.non, .int 5, .bl true, .ref p1, .ref p2, .ref p3]) = H7 at S1 e1 e2 e3 e4 ⊢
  refine ⟨a, c, _, rfl, hand_same h6 S1, .inl ⟨l2, _, rfl, n4, e4, (by show 1 ≤ 6; decide), (by show 6 ≤ 10000; decide), fun H8 v hv f1 f2 => ?_⟩⟩
  have hv : ∃ d, Th a H8 v d ∧ isStr d = false := by
    simp only [List.mem_cons, List.not_mem_nil, or_false] at hv
    rcases hv with rfl | rfl | rfl | rfl | rfl | rfl
    · exact ⟨_, .non, rfl⟩
    · exact ⟨_, .int 5, rfl⟩
    · exact ⟨_, .bl true, rfl⟩
    · exact ⟨_, .lst n1 (f2.keep _ _ n1 e1), rfl⟩
    · exact ⟨_, .tup (f2.tups _ _ e2) (.cons (.str _) .nil), rfl⟩
    · exact ⟨_, .dct n3 (f2.keep _ _ n3 e3), rfl⟩
  obtain ⟨d, hd, hs⟩ := hv
  refine ⟨a, v, d, none, rfl, hd, .inr ⟨hs, rfl⟩, fun H9 u s9 t9 => ⟨_, rfl, (by show 2 ≤ sizeLine; decide), fun p hp => ?_⟩⟩
  have s10 := same_new hp (.tup [.str "wrong", .int (-1)])
  refine ⟨tellData none, tellData none, tell_dp (tell_same s10 t9), tell_dp (o := none) ⟨p, rfl, upd_same⟩, by decide +kernel, by decide +kernel, ?_⟩
  have : PyData.eqv (tellData none) (tellData none) = true := by decide +kernel
  rw [this]
  exact q _
end
end K28

/-! K28Z4: the law's odd things; law. -/
namespace K28
open PySem L2 TL
section
variable {P : Program} {w : World} {K : PySem.W.Frag} {mg : Str → Option Value} {base : Heap}
theorem hand_off {H : Hp} {a c p : Addr} (h : HandAt H a c) (hp : H p = none) : p ≠ a := fun z => (hand_ne h hp).1 z.symm
def end1L : List Stmt := (defBody s_law).drop 2
theorem law_end1 (T : Tx P K mg) {cdv : Value} {A : Around} {outer : List Env} {s : Shared} {H : Hp} {E : XK}
    (hr : Room 64 (cxOf CX0 P w K mg base NL "law" (defScope s_law) T.f_law cdv A outer s H E).A) :
    ∃ t, PSs (cxOf CX0 P w K mg base NL "law" (defScope s_law) T.f_law cdv A outer s H E).nox end1L t ∧
      ∀ (D : Ends) (H1 : Hp) (a c : Addr) (x0 x2 x3 x4 x5 x6 x7 x8 x9 : Option V), HandAt H1 a c → (∀ H', D.rt (.bl true) H') → t D [x0, some (.ref a), x2, x3, x4, x5, x6, x7, x8, x9] H1 := by
  have GD := ok_draw (P := P) (w := w) (base := base) T
  have GE := ok_deep (P := P) (w := w) (base := base) T
  have GP := ok_is_plain (P := P) (w := w) (base := base) T
  have GN := ok_is_none (P := P) (w := w) (base := base) T
  have nd := sc_law.nd
  obtain ⟨t, ht, hq⟩ := law_end2 (P := P) (w := w) (base := base) T (cdv := cdv) (A := A) (outer := outer) (s := s) (H := H) (E := E) hr
  refine ⟨_, pss_cons (ps_set (i := 7) nd rfl (Or.inl rfl) (pe_lst
        (pa_cons pe_bl (pa_cons (pe_lst pa_nil) (pa_cons pe_dnewK (pa_cons pe_str (pa_cons (pe_tup (pa_cons pe_int (pa_cons pe_bl pa_nil)))
        (pa_cons (pe_tup (pa_cons (pe_lst pa_nil) pa_nil)) (pa_cons (pe_tup (pa_cons pe_str pa_nil))
        (pa_cons (pe_disp (pps_cons pe_int pe_int pps_nil) (by rfl) (by rfl) (fun z => by cases z) (by decide))
        (pa_cons (pe_tup (pa_cons (pe_tup (pa_cons pe_bl pa_nil)) pa_nil))
        (pa_cons (pe_call GE (hr.mono (by decide)) rfl T.law_deep.m T.law_deep.F.kp T.law_deep.b .nil pass0 (pa_cons (pv 1) pa_nil)) pa_nil))))))))))))
    (pss_cons (ps_set (i := 8) nd rfl (Or.inl rfl) (pe_ix ix_list (pv 7) (pe_call GD (hr.mono (by decide)) rfl T.law_draw.m T.law_draw.F.kp T.law_draw.b .nil pass0 (pa_cons (pv 1) (pa_cons pe_int pa_nil))) (fun _ _ => rfl)))
    (pss_cons (ps_if (PW.pt (pw_and (pt_not (pt_val (pe_call GP (hr.mono (by decide)) rfl T.law_is_plain.m T.law_is_plain.F.kp T.law_is_plain.b .nil pass0 (pa_cons (pv 8) pa_nil))))
        (pw_and1 (pt_not (pt_val (pe_call GN (hr.mono (by decide)) rfl T.law_is_none.m T.law_is_none.F.kp T.law_is_none.b .nil pass0 (pa_cons (pv 8) pa_nil)))))))
        (pss_one (ps_ret pe_bl)) pss_nil) ht)), ?_⟩
  intro D H0 a c x0 x2 x3 x4 x5 x6 x7 x8 x9 h0 q
  refine ⟨(by show 0 ≤ sizeLine; decide), fun p1 f1 => ?_⟩
  have s1 := same_new f1 (.lst [])
  have n1 := hand_off h0 f1
  have e1 : upd H0 p1 (.lst []) p1 = some (.lst []) := upd_same
  generalize upd H0 p1 (.lst []) = H1 at s1 e1 ⊢
  have h1 := hand_same h0 s1
  intro p2 f2
  have s2 := same_new f2 (.dK [])
  have n2 := hand_off h1 f2
  have e2 : upd H1 p2 (.dK []) p2 = some (.dK []) := upd_same
  generalize upd H1 p2 (.dK []) = H2 at s2 e2 ⊢
  have h2 := hand_same h1 s2
  refine ⟨(by show 2 ≤ sizeLine; decide), fun p3 f3 => ?_⟩
  have s3 := same_new f3 (.tup [.int 1, .bl true])
  have e3 : upd H2 p3 (.tup [.int 1, .bl true]) p3 = some (.tup [.int 1, .bl true]) := upd_same
  generalize upd H2 p3 (.tup [.int 1, .bl true]) = H3 at s3 e3 ⊢
  have h3 := hand_same h2 s3
  refine ⟨(by show 0 ≤ sizeLine; decide), fun p4 f4 => ?_⟩
  have s4 := same_new f4 (.lst [])
  have n4 := hand_off h3 f4
  have e4 : upd H3 p4 (.lst []) p4 = some (.lst []) := upd_same
  generalize upd H3 p4 (.lst []) = H4 at s4 e4 ⊢
  have h4 := hand_same h3 s4
  refine ⟨(by show 1 ≤ sizeLine; decide), fun p5 f5 => ?_⟩
  have s5 := same_new f5 (.tup [.ref p4])
  have e5 : upd H4 p5 (.tup [.ref p4]) p5 = some (.tup [.ref p4]) := upd_same
  generalize upd H4 p5 (.tup [.ref p4]) = H5 at s5 e5 ⊢
  have h5 := hand_same h4 s5
  refine ⟨(by show 1 ≤ sizeLine; decide), fun p6 f6 => ?_⟩
  have s6 := same_new f6 (.tup [.str "a\nb"])
  have e6 : upd H5 p6 (.tup [.str "a\nb"]) p6 = some (.tup [.str "a\nb"]) := upd_same
  generalize upd H5 p6 (.tup [.str "a\nb"]) = H6 at s6 e6 ⊢
  have h6 := hand_same h5 s6
  intro p7 f7
  refine ⟨upd_same, [(Sum.inl 0, .int 1)], rfl, (by show 1 ≤ 15; decide), ?_⟩
  have s7 := same_new2 f7 (.dK []) (.dK (mergeK [] [(Sum.inl 0, .int 1)]))
  have n7 := hand_off h6 f7
  have e7 : upd (upd H6 p7 (.dK [])) p7 (.dK (mergeK [] [(Sum.inl 0, .int 1)])) p7 = some (.dK (mergeK [] [(Sum.inl 0, .int 1)])) := upd_same
  generalize upd (upd H6 p7 (.dK [])) p7 (.dK (mergeK [] [(Sum.inl 0, .int 1)])) = H7 at s7 e7 ⊢
  have h7 := hand_same h6 s7
  refine ⟨(by show 1 ≤ sizeLine; decide), fun p8 f8 => ?_⟩
  have s8 := same_new f8 (.tup [.bl false])
  have e8 : upd H7 p8 (.tup [.bl false]) p8 = some (.tup [.bl false]) := upd_same
  generalize upd H7 p8 (.tup [.bl false]) = H8 at s8 e8 ⊢
  have h8 := hand_same h7 s8
  refine ⟨(by show 1 ≤ sizeLine; decide), fun p9 f9 => ?_⟩
  have s9 := same_new f9 (.tup [.ref p8])
  have e9 : upd H8 p9 (.tup [.ref p8]) p9 = some (.tup [.ref p8]) := upd_same
  generalize upd H8 p9 (.tup [.ref p8]) = H9 at s9 e9 ⊢
  have h9 := hand_same h8 s9
  refine ⟨_, rfl, a, c, rfl, h9, fun HA vd dd d1 d2 d3 d4 => ?_⟩
  refine ⟨(by show 10 ≤ sizeLine; decide), fun l hl => ?_⟩
  have sl := same_new hl (.lst [.bl true, .ref p1, .ref p2, .str "\n", .ref p3, .ref p5, .ref p6, .ref p7, .ref p9, vd])
  have nl := hand_off d3 hl
  have el : upd HA l (.lst [.bl true, .ref p1, .ref p2, .str "\n", .ref p3, .ref p5, .ref p6, .ref p7, .ref p9, vd]) l = some (.lst [.bl true, .ref p1, .ref p2, .str "\n", .ref p3, .ref p5, .ref p6, .ref p7, .ref p9, vd]) := upd_same
  dsimp only
  generalize upd HA l (.lst [.bl true, .ref p1, .ref p2, .str "\n", .ref p3, .ref p5, .ref p6, .ref p7, .ref p9, vd]) = HB at sl el ⊢
  refine ⟨_, rfl, _, rfl, a, c, 10, rfl, hand_same d3 sl, by decide, by decide, fun HC k k1 k2 k3 k4 => ?_⟩
  have K9 : Kp a H9 HC := d4.trans ((kp_of sl).trans k2)
  have K8 := (kp_of s9).trans K9
  have K7 := (kp_of s8).trans K8
  have K6 := (kp_of s7).trans K7
  have K5 := (kp_of s6).trans K6
  have K4 := (kp_of s5).trans K5
  have K3 := (kp_of s4).trans K4
  have K2 := (kp_of s3).trans K3
  have K1 := (kp_of s2).trans K2
  have hv : ∃ v d, atI [V.bl true, .ref p1, .ref p2, .str "\n", .ref p3, .ref p5, .ref p6, .ref p7, .ref p9, vd] k = some v ∧ Th a HC v d ∧ Od d := by
    have hk : k = 0 ∨ k = 1 ∨ k = 2 ∨ k = 3 ∨ k = 4 ∨ k = 5 ∨ k = 6 ∨ k = 7 ∨ k = 8 ∨ k = 9 := by omega
    rcases hk with rfl | rfl | rfl | rfl | rfl | rfl | rfl | rfl | rfl | rfl
    · exact ⟨_, _, rfl, .bl true, .bl true⟩
    · exact ⟨_, _, rfl, .lst n1 (K1.keep _ _ n1 e1), .lst⟩
    · exact ⟨_, _, rfl, .dct n2 (K2.keep _ _ n2 e2), .dct⟩
    · exact ⟨_, _, rfl, .str _, .str _ (by decide +kernel) (by decide +kernel)⟩
    · exact ⟨_, _, rfl, .tup (K3.tups _ _ e3) (.cons (.int 1) (.cons (.bl true) .nil)), .two⟩
    · exact ⟨_, _, rfl, .tup (K5.tups _ _ e5) (.cons (.lst n4 (K4.keep _ _ n4 e4)) .nil), .one .lst⟩
    · exact ⟨_, _, rfl, .tup (K6.tups _ _ e6) (.cons (.str _) .nil), .one (.str _ (by decide +kernel) (by decide +kernel))⟩
    · exact ⟨_, _, rfl, .dct n7 (K7.keep _ _ n7 e7), .dct⟩
    · exact ⟨_, _, rfl, .tup (K9.tups _ _ e9) (.cons (.tup (K8.tups _ _ e8) (.cons (.bl false) .nil)) .nil), .one (.one (.bl false))⟩
    · exact ⟨_, _, rfl, Th.mono ((kp_of sl).trans k2) _ _ d1, d2⟩
  obtain ⟨v, d, hv1, hv2, hv3⟩ := hv
  refine ⟨l, _, k, v, rfl, rfl, SqL.of (k2.keep l _ nl el), hv1, ?_⟩
  refine ⟨_, rfl, a, v, d, rfl, hv2, hv3, fun HD sD => ⟨_, rfl, ?_⟩⟩
  have hD := hand_same k1 sD
  cases hp : plainB d with
  | true => exact iteF (hq _ _ _ _ _ _ _ _ _ _ _ _ _ hD q)
  | false => exact iteT ⟨_, rfl, a, v, d, rfl, Th.mono (kp_of sD) _ _ hv2, hv3.sm, hv3.none hp 30, fun HE sE => ⟨_, rfl, iteF (hq _ _ _ _ _ _ _ _ _ _ _ _ _ (hand_same hD sE) q)⟩⟩
def spLaw : Sp := fun vs H Q _ => ∃ (a0 : Addr) (ns : List Int), vs = [.ref a0] ∧ SqL K H a0 (ns.map V.int) ∧ ns.length ≤ 10000 ∧ ∀ H', Q (.bl true) H'
theorem ok_law (T : Tx P K mg) : FnOk P w K mg base CX0 65 T.f_law T.d_law ["_law_script"] (spLaw (K := K)) := by
  have GH := ok_hand (P := P) (w := w) (base := base) T
  refine T.law.F.ok sc_law (fun vs H Q E h => ?_) (fun cdv A outer s H vs Q E hr h => ?_)
  · obtain ⟨a0, ns, rfl, _⟩ := h
    rfl
  obtain ⟨a0, ns, rfl, hl, hn, q⟩ := h
  have nd := sc_law.nd
  obtain ⟨t1, ht1, hq1⟩ := law_turns (P := P) (w := w) (base := base) T (cdv := cdv) (A := A) (outer := outer) (s := s) (H := H) (E := E) hr
  obtain ⟨t2, ht2, hq2⟩ := law_end1 (P := P) (w := w) (base := base) T (cdv := cdv) (A := A) (outer := outer) (s := s) (H := H) (E := E) hr
  refine ⟨_, pss_cons (ps_set (i := 1) nd rfl (Or.inl rfl) (pe_call GH (hr.mono (by decide)) rfl T.law_hand.m T.law_hand.F.kp T.law_hand.b .nil pass0 (pa_cons (pv 0) pa_nil))) (pss_cons ht1 ht2), ?_⟩
  refine ⟨_, rfl, a0, ns, rfl, hl, hn, fun a c H1 s1 h1 _ _ => ?_⟩
  exact hq1 _ _ _ _ _ h1 (fun H' y2 y3 y4 y5 y6 h' => hq2 _ _ _ _ _ _ _ _ _ _ _ _ _ h' q)
end
end K28

/-! K28V (printed by gen_end.py): what the top has written, row by row; the law's walk. -/
namespace K28
open PySem L2
/-- an error of the class at S is what «except S» names -/
theorem exm_self {K : PySem.W.Frag} {S : Addr} (h1 : PySem.W.subIn K (.ref S) (.type "BaseException") = some true) (h2 : PySem.W.isClsIn K S = true) (h3 : PySem.W.typeIn K (.ref S) = some (.type "type")) (h4 : PySem.W.subIn K (.ref S) (.ref S) = some true) :
    PySem.W.exmOne K (.ref S) (.ref S) = some true := by
  have e1 : (PySem.W.subIn K (.ref S) (.type "BaseException") == some true) = true := by rw [h1] <;> rfl
  have e2 : ((PySem.W.clsIn K S).isSome && PySem.W.typeIn K (.ref S) == some (.type "type")) = true := by
    have h2' : (PySem.W.clsIn K S).isSome = true := h2
    rw [h2', h3] <;> rfl
  show (if (PySem.W.subIn K (.ref S) (.type "BaseException") == some true) = true then (if ((PySem.W.clsIn K S).isSome && PySem.W.typeIn K (.ref S) == some (.type "type")) = true then PySem.W.subIn K (.ref S) (.ref S) else none) else none) = some true
  rw [if_pos e1, if_pos e2]
  exact h4
theorem kit_super {K : PySem.W.Frag} {S B : Addr} (h2 : PySem.W.isClsIn K B = true) (h3 : PySem.W.typeIn K (.ref B) = some (.type "type")) (h4 : PySem.W.subIn K (.ref S) (.ref B) = some true) :
    PySem.W.kitOne K (.ref S) (.ref B) = some true := by
  have e2 : ((PySem.W.clsIn K B).isSome && PySem.W.typeIn K (.ref B) == some (.type "type")) = true := by
    have h2' : (PySem.W.clsIn K B).isSome = true := h2
    rw [h2', h3] <;> rfl
  show (if (Value.ref S == Value.ref B) = true then some true else if ((PySem.W.clsIn K B).isSome && PySem.W.typeIn K (.ref B) == some (.type "type")) = true then PySem.W.subIn K (.ref S) (.ref B) else none) = some true
  rw [if_pos e2, h4]
  split <;> rfl
theorem along_of {K : PySem.W.Frag} {C : Addr} {cl : Value} {dd : Option Addr} {cd : ClassData} {sl : Array (Option Value)} {n : Str} {r : Option Value} (lK : K.lookup C = some ⟨cl, dd, .cls cd, sl⟩) (e : PySem.W.findIn K (.ref C) n = some r) : PySem.W.alongIn K n cd.mro = some r := by
  unfold PySem.W.findIn at e
  dsimp only at e
  rw [lK] at e
  exact e
theorem all_mk {l : PySem.W.OpenLaw} {w : World} {K : PySem.W.Frag} {h : Heap} {mg : Str → Option Value} {fa : Addr}
    {f0 : Addr}
    {od0 an0 : Option Addr}
    {sl0 : Array (Option Value)}
    {oc0 kV0 dc0 pm0 cd0 ct0 : Value}
    {f1 : Addr}
    {od1 an1 : Option Addr}
    {sl1 : Array (Option Value)}
    {oc1 kV1 dc1 pm1 cd1 ct1 : Value}
    {f2 : Addr}
    {od2 an2 : Option Addr}
    {sl2 : Array (Option Value)}
    {oc2 kV2 dc2 pm2 cd2 ct2 : Value}
    {f3 : Addr}
    {od3 an3 : Option Addr}
    {sl3 : Array (Option Value)}
    {oc3 kV3 dc3 pm3 cd3 ct3 : Value}
    {f4 : Addr}
    {od4 an4 : Option Addr}
    {sl4 : Array (Option Value)}
    {oc4 kV4 dc4 pm4 cd4 ct4 : Value}
    {f5 : Addr}
    {od5 an5 : Option Addr}
    {sl5 : Array (Option Value)}
    {oc5 kV5 dc5 pm5 cd5 ct5 : Value}
    {f6 : Addr}
    {od6 an6 : Option Addr}
    {sl6 : Array (Option Value)}
    {oc6 kV6 dc6 pm6 cd6 ct6 : Value}
    {f7 : Addr}
    {od7 an7 : Option Addr}
    {sl7 : Array (Option Value)}
    {oc7 kV7 dc7 pm7 cd7 ct7 : Value}
    {f8 : Addr}
    {od8 an8 : Option Addr}
    {sl8 : Array (Option Value)}
    {oc8 kV8 dc8 pm8 cd8 ct8 : Value}
    {f9 : Addr}
    {od9 an9 : Option Addr}
    {sl9 : Array (Option Value)}
    {oc9 kV9 dc9 pm9 cd9 ct9 : Value}
    {f10 : Addr}
    {od10 an10 : Option Addr}
    {sl10 : Array (Option Value)}
    {oc10 kV10 dc10 pm10 cd10 ct10 : Value}
    {f11 : Addr}
    {od11 an11 : Option Addr}
    {sl11 : Array (Option Value)}
    {oc11 kV11 dc11 pm11 cd11 ct11 : Value}
    {f12 : Addr}
    {od12 an12 : Option Addr}
    {sl12 : Array (Option Value)}
    {oc12 kV12 dc12 pm12 cd12 ct12 : Value}
    {f13 : Addr}
    {od13 an13 : Option Addr}
    {sl13 : Array (Option Value)}
    {oc13 kV13 dc13 pm13 cd13 ct13 : Value}
    {f14 : Addr}
    {od14 an14 : Option Addr}
    {sl14 : Array (Option Value)}
    {oc14 kV14 dc14 pm14 cd14 ct14 : Value}
    {f15 : Addr}
    {od15 an15 : Option Addr}
    {sl15 : Array (Option Value)}
    {oc15 kV15 dc15 pm15 cd15 ct15 : Value}
    {f16 : Addr}
    {od16 an16 : Option Addr}
    {sl16 : Array (Option Value)}
    {oc16 kV16 dc16 pm16 cd16 ct16 : Value}
    {f17 : Addr}
    {od17 an17 : Option Addr}
    {sl17 : Array (Option Value)}
    {oc17 kV17 dc17 pm17 cd17 ct17 : Value}
    {f18 : Addr}
    {od18 an18 : Option Addr}
    {sl18 : Array (Option Value)}
    {oc18 kV18 dc18 pm18 cd18 ct18 : Value}
    {f19 : Addr}
    {od19 an19 : Option Addr}
    {sl19 : Array (Option Value)}
    {oc19 kV19 dc19 pm19 cd19 ct19 : Value}
    {f20 : Addr}
    {od20 an20 : Option Addr}
    {sl20 : Array (Option Value)}
    {oc20 kV20 dc20 pm20 cd20 ct20 : Value}
    {f21 : Addr}
    {od21 an21 : Option Addr}
    {sl21 : Array (Option Value)}
    {oc21 kV21 dc21 pm21 cd21 ct21 : Value}
    {f22 : Addr}
    {od22 an22 : Option Addr}
    {sl22 : Array (Option Value)}
    {oc22 kV22 dc22 pm22 cd22 ct22 : Value}
    {f23 : Addr}
    {od23 an23 : Option Addr}
    {sl23 : Array (Option Value)}
    {oc23 kV23 dc23 pm23 cd23 ct23 : Value}
    {f24 : Addr}
    {od24 an24 : Option Addr}
    {sl24 : Array (Option Value)}
    {oc24 kV24 dc24 pm24 cd24 ct24 : Value}
    {C : Addr}
    {g0 : Addr}
    {odm0 anm0 : Option Addr}
    {slm0 : Array (Option Value)}
    {ocm0 kVm0 dcm0 pmm0 cdm0 ctm0 : Value}
    {g1 : Addr}
    {odm1 anm1 : Option Addr}
    {slm1 : Array (Option Value)}
    {ocm1 kVm1 dcm1 pmm1 cdm1 ctm1 : Value}
    {g2 : Addr}
    {odm2 anm2 : Option Addr}
    {slm2 : Array (Option Value)}
    {ocm2 kVm2 dcm2 pmm2 cdm2 ctm2 : Value}
    {g3 : Addr}
    {odm3 anm3 : Option Addr}
    {slm3 : Array (Option Value)}
    {ocm3 kVm3 dcm3 pmm3 cdm3 ctm3 : Value}
    {g4 : Addr}
    {odm4 anm4 : Option Addr}
    {slm4 : Array (Option Value)}
    {ocm4 kVm4 dcm4 pmm4 cdm4 ctm4 : Value}
    {g5 : Addr}
    {odm5 anm5 : Option Addr}
    {slm5 : Array (Option Value)}
    {ocm5 kVm5 dcm5 pmm5 cdm5 ctm5 : Value}
    {g6 : Addr}
    {odm6 anm6 : Option Addr}
    {slm6 : Array (Option Value)}
    {ocm6 kVm6 dcm6 pmm6 cdm6 ctm6 : Value}
    {g7 : Addr}
    {odm7 anm7 : Option Addr}
    {slm7 : Array (Option Value)}
    {ocm7 kVm7 dcm7 pmm7 cdm7 ctm7 : Value}
    {g8 : Addr}
    {odm8 anm8 : Option Addr}
    {slm8 : Array (Option Value)}
    {ocm8 kVm8 dcm8 pmm8 cdm8 ctm8 : Value}
    {t_MOST_DEEP : Tok}
    {t_MOST_DIGITS : Tok}
    {t_GREATEST : Tok}
    {t_FIGURES : Tok}
    {t_QUOTE : Tok}
    {t_ESCAPE : Tok}
    {CB CK CN fB : Addr}
    {nmB qnB : Str}
    {NB : Addr}
    {bsB subB : List Value}
    {snB : List Str}
    {abB : Bool}
    {colB : Option Bool}
    {ddB : Option Addr}
    {w0B w1B w2B w3B w5B : Option Value}
    {nmK qnK : Str}
    {NK : Addr}
    {bsK subK : List Value}
    {snK : List Str}
    {abK : Bool}
    {colK : Option Bool}
    {ddK : Option Addr}
    {w0K w1K w2K w3K w5K : Option Value}
    {ocB dcB pmB ctB cclB clB : Value}
    {odB anB cddB cldB : Option Addr}
    {cdaB ccB : Addr}
    {oslB ccsB cslB : Array (Option Value)}
    {vsB : Array Value}
    {fileB : Str}
    {tfl : Tok}
    (X : K.In h) (G : h.Ns mainGlobals mg) (hfa : mg "law" = some (.ref fa))
    (a0 : PySem.W.nsIn K mainGlobals "is_integer" = some (some (.ref f0)))
    (l0 : K.lookup f0 = some ⟨oc0, od0, .func (PySem.W.fnOf "is_integer" "is_integer" (defArgs s_is_integer) (defBody s_is_integer) (defScope s_is_integer) .none kV0 dc0 pm0 an0 cd0 ct0), sl0⟩)
    (c0 : PySem.W.codeIn K cd0 "is_integer" = true)
    (k0 : PySem.W.keepIn K (.ref f0) = true)
    (a1 : PySem.W.nsIn K mainGlobals "is_sign" = some (some (.ref f1)))
    (l1 : K.lookup f1 = some ⟨oc1, od1, .func (PySem.W.fnOf "is_sign" "is_sign" (defArgs s_is_sign) (defBody s_is_sign) (defScope s_is_sign) .none kV1 dc1 pm1 an1 cd1 ct1), sl1⟩)
    (c1 : PySem.W.codeIn K cd1 "is_sign" = true)
    (k1 : PySem.W.keepIn K (.ref f1) = true)
    (a2 : PySem.W.nsIn K mainGlobals "is_signs" = some (some (.ref f2)))
    (l2 : K.lookup f2 = some ⟨oc2, od2, .func (PySem.W.fnOf "is_signs" "is_signs" (defArgs s_is_signs) (defBody s_is_signs) (defScope s_is_signs) .none kV2 dc2 pm2 an2 cd2 ct2), sl2⟩)
    (c2 : PySem.W.codeIn K cd2 "is_signs" = true)
    (k2 : PySem.W.keepIn K (.ref f2) = true)
    (a3 : PySem.W.nsIn K mainGlobals "is_thing" = some (some (.ref f3)))
    (l3 : K.lookup f3 = some ⟨oc3, od3, .func (PySem.W.fnOf "is_thing" "is_thing" (defArgs s_is_thing) (defBody s_is_thing) (defScope s_is_thing) .none kV3 dc3 pm3 an3 cd3 ct3), sl3⟩)
    (c3 : PySem.W.codeIn K cd3 "is_thing" = true)
    (k3 : PySem.W.keepIn K (.ref f3) = true)
    (a4 : PySem.W.nsIn K mainGlobals "raw_packed" = some (some (.ref f4)))
    (l4 : K.lookup f4 = some ⟨oc4, od4, .func (PySem.W.fnOf "raw_packed" "raw_packed" (defArgs s_raw_packed) (defBody s_raw_packed) (defScope s_raw_packed) .none kV4 dc4 pm4 an4 cd4 ct4), sl4⟩)
    (c4 : PySem.W.codeIn K cd4 "raw_packed" = true)
    (k4 : PySem.W.keepIn K (.ref f4) = true)
    (a5 : PySem.W.nsIn K mainGlobals "packed" = some (some (.ref f5)))
    (l5 : K.lookup f5 = some ⟨oc5, od5, .func (PySem.W.fnOf "packed" "packed" (defArgs s_packed) (defBody s_packed) (defScope s_packed) .none kV5 dc5 pm5 an5 cd5 ct5), sl5⟩)
    (c5 : PySem.W.codeIn K cd5 "packed" = true)
    (k5 : PySem.W.keepIn K (.ref f5) = true)
    (a6 : PySem.W.nsIn K mainGlobals "unpacked" = some (some (.ref f6)))
    (l6 : K.lookup f6 = some ⟨oc6, od6, .func (PySem.W.fnOf "unpacked" "unpacked" (defArgs s_unpacked) (defBody s_unpacked) (defScope s_unpacked) .none kV6 dc6 pm6 an6 cd6 ct6), sl6⟩)
    (c6 : PySem.W.codeIn K cd6 "unpacked" = true)
    (k6 : PySem.W.keepIn K (.ref f6) = true)
    (a7 : PySem.W.nsIn K mainGlobals "_law_hand" = some (some (.ref f7)))
    (l7 : K.lookup f7 = some ⟨oc7, od7, .func (PySem.W.fnOf "_law_hand" "_law_hand" (defArgs s_law_hand) (defBody s_law_hand) (defScope s_law_hand) .none kV7 dc7 pm7 an7 cd7 ct7), sl7⟩)
    (c7 : PySem.W.codeIn K cd7 "_law_hand" = true)
    (k7 : PySem.W.keepIn K (.ref f7) = true)
    (a8 : PySem.W.nsIn K mainGlobals "_law_draw" = some (some (.ref f8)))
    (l8 : K.lookup f8 = some ⟨oc8, od8, .func (PySem.W.fnOf "_law_draw" "_law_draw" (defArgs s_law_draw) (defBody s_law_draw) (defScope s_law_draw) .none kV8 dc8 pm8 an8 cd8 ct8), sl8⟩)
    (c8 : PySem.W.codeIn K cd8 "_law_draw" = true)
    (k8 : PySem.W.keepIn K (.ref f8) = true)
    (a9 : PySem.W.nsIn K mainGlobals "_law_any" = some (some (.ref f9)))
    (l9 : K.lookup f9 = some ⟨oc9, od9, .func (PySem.W.fnOf "_law_any" "_law_any" (defArgs s_law_any) (defBody s_law_any) (defScope s_law_any) .none kV9 dc9 pm9 an9 cd9 ct9), sl9⟩)
    (c9 : PySem.W.codeIn K cd9 "_law_any" = true)
    (k9 : PySem.W.keepIn K (.ref f9) = true)
    (a10 : PySem.W.nsIn K mainGlobals "_law_word" = some (some (.ref f10)))
    (l10 : K.lookup f10 = some ⟨oc10, od10, .func (PySem.W.fnOf "_law_word" "_law_word" (defArgs s_law_word) (defBody s_law_word) (defScope s_law_word) .none kV10 dc10 pm10 an10 cd10 ct10), sl10⟩)
    (c10 : PySem.W.codeIn K cd10 "_law_word" = true)
    (k10 : PySem.W.keepIn K (.ref f10) = true)
    (a11 : PySem.W.nsIn K mainGlobals "_law_thing" = some (some (.ref f11)))
    (l11 : K.lookup f11 = some ⟨oc11, od11, .func (PySem.W.fnOf "_law_thing" "_law_thing" (defArgs s_law_thing) (defBody s_law_thing) (defScope s_law_thing) .none kV11 dc11 pm11 an11 cd11 ct11), sl11⟩)
    (c11 : PySem.W.codeIn K cd11 "_law_thing" = true)
    (k11 : PySem.W.keepIn K (.ref f11) = true)
    (a12 : PySem.W.nsIn K mainGlobals "_law_nested" = some (some (.ref f12)))
    (l12 : K.lookup f12 = some ⟨oc12, od12, .func (PySem.W.fnOf "_law_nested" "_law_nested" (defArgs s_law_nested) (defBody s_law_nested) (defScope s_law_nested) .none kV12 dc12 pm12 an12 cd12 ct12), sl12⟩)
    (c12 : PySem.W.codeIn K cd12 "_law_nested" = true)
    (k12 : PySem.W.keepIn K (.ref f12) = true)
    (a13 : PySem.W.nsIn K mainGlobals "_law_packed" = some (some (.ref f13)))
    (l13 : K.lookup f13 = some ⟨oc13, od13, .func (PySem.W.fnOf "_law_packed" "_law_packed" (defArgs s_law_packed) (defBody s_law_packed) (defScope s_law_packed) .none kV13 dc13 pm13 an13 cd13 ct13), sl13⟩)
    (c13 : PySem.W.codeIn K cd13 "_law_packed" = true)
    (k13 : PySem.W.keepIn K (.ref f13) = true)
    (a14 : PySem.W.nsIn K mainGlobals "_law_first_wrong" = some (some (.ref f14)))
    (l14 : K.lookup f14 = some ⟨oc14, od14, .func (PySem.W.fnOf "_law_first_wrong" "_law_first_wrong" (defArgs s_law_first_wrong) (defBody s_law_first_wrong) (defScope s_law_first_wrong) .none kV14 dc14 pm14 an14 cd14 ct14), sl14⟩)
    (c14 : PySem.W.codeIn K cd14 "_law_first_wrong" = true)
    (k14 : PySem.W.keepIn K (.ref f14) = true)
    (a15 : PySem.W.nsIn K mainGlobals "_law_read_string" = some (some (.ref f15)))
    (l15 : K.lookup f15 = some ⟨oc15, od15, .func (PySem.W.fnOf "_law_read_string" "_law_read_string" (defArgs s_law_read_string) (defBody s_law_read_string) (defScope s_law_read_string) .none kV15 dc15 pm15 an15 cd15 ct15), sl15⟩)
    (c15 : PySem.W.codeIn K cd15 "_law_read_string" = true)
    (k15 : PySem.W.keepIn K (.ref f15) = true)
    (a16 : PySem.W.nsIn K mainGlobals "_law_read_integer" = some (some (.ref f16)))
    (l16 : K.lookup f16 = some ⟨oc16, od16, .func (PySem.W.fnOf "_law_read_integer" "_law_read_integer" (defArgs s_law_read_integer) (defBody s_law_read_integer) (defScope s_law_read_integer) .none kV16 dc16 pm16 an16 cd16 ct16), sl16⟩)
    (c16 : PySem.W.codeIn K cd16 "_law_read_integer" = true)
    (k16 : PySem.W.keepIn K (.ref f16) = true)
    (a17 : PySem.W.nsIn K mainGlobals "_law_read_tuple" = some (some (.ref f17)))
    (l17 : K.lookup f17 = some ⟨oc17, od17, .func (PySem.W.fnOf "_law_read_tuple" "_law_read_tuple" (defArgs s_law_read_tuple) (defBody s_law_read_tuple) (defScope s_law_read_tuple) .none kV17 dc17 pm17 an17 cd17 ct17), sl17⟩)
    (c17 : PySem.W.codeIn K cd17 "_law_read_tuple" = true)
    (k17 : PySem.W.keepIn K (.ref f17) = true)
    (a18 : PySem.W.nsIn K mainGlobals "_law_unpacked" = some (some (.ref f18)))
    (l18 : K.lookup f18 = some ⟨oc18, od18, .func (PySem.W.fnOf "_law_unpacked" "_law_unpacked" (defArgs s_law_unpacked) (defBody s_law_unpacked) (defScope s_law_unpacked) .none kV18 dc18 pm18 an18 cd18 ct18), sl18⟩)
    (c18 : PySem.W.codeIn K cd18 "_law_unpacked" = true)
    (k18 : PySem.W.keepIn K (.ref f18) = true)
    (a19 : PySem.W.nsIn K mainGlobals "_law_changed" = some (some (.ref f19)))
    (l19 : K.lookup f19 = some ⟨oc19, od19, .func (PySem.W.fnOf "_law_changed" "_law_changed" (defArgs s_law_changed) (defBody s_law_changed) (defScope s_law_changed) .none kV19 dc19 pm19 an19 cd19 ct19), sl19⟩)
    (c19 : PySem.W.codeIn K cd19 "_law_changed" = true)
    (k19 : PySem.W.keepIn K (.ref f19) = true)
    (a20 : PySem.W.nsIn K mainGlobals "_law_deep" = some (some (.ref f20)))
    (l20 : K.lookup f20 = some ⟨oc20, od20, .func (PySem.W.fnOf "_law_deep" "_law_deep" (defArgs s_law_deep) (defBody s_law_deep) (defScope s_law_deep) .none kV20 dc20 pm20 an20 cd20 ct20), sl20⟩)
    (c20 : PySem.W.codeIn K cd20 "_law_deep" = true)
    (k20 : PySem.W.keepIn K (.ref f20) = true)
    (a21 : PySem.W.nsIn K mainGlobals "_law_told" = some (some (.ref f21)))
    (l21 : K.lookup f21 = some ⟨oc21, od21, .func (PySem.W.fnOf "_law_told" "_law_told" (defArgs s_law_told) (defBody s_law_told) (defScope s_law_told) .none kV21 dc21 pm21 an21 cd21 ct21), sl21⟩)
    (c21 : PySem.W.codeIn K cd21 "_law_told" = true)
    (k21 : PySem.W.keepIn K (.ref f21) = true)
    (a22 : PySem.W.nsIn K mainGlobals "_law_is_none" = some (some (.ref f22)))
    (l22 : K.lookup f22 = some ⟨oc22, od22, .func (PySem.W.fnOf "_law_is_none" "_law_is_none" (defArgs s_law_is_none) (defBody s_law_is_none) (defScope s_law_is_none) .none kV22 dc22 pm22 an22 cd22 ct22), sl22⟩)
    (c22 : PySem.W.codeIn K cd22 "_law_is_none" = true)
    (k22 : PySem.W.keepIn K (.ref f22) = true)
    (a23 : PySem.W.nsIn K mainGlobals "_law_is_plain" = some (some (.ref f23)))
    (l23 : K.lookup f23 = some ⟨oc23, od23, .func (PySem.W.fnOf "_law_is_plain" "_law_is_plain" (defArgs s_law_is_plain) (defBody s_law_is_plain) (defScope s_law_is_plain) .none kV23 dc23 pm23 an23 cd23 ct23), sl23⟩)
    (c23 : PySem.W.codeIn K cd23 "_law_is_plain" = true)
    (k23 : PySem.W.keepIn K (.ref f23) = true)
    (a24 : PySem.W.nsIn K mainGlobals "law" = some (some (.ref f24)))
    (l24 : K.lookup f24 = some ⟨oc24, od24, .func (PySem.W.fnOf "law" "law" (defArgs s_law) (defBody s_law) (defScope s_law) .none kV24 dc24 pm24 an24 cd24 ct24), sl24⟩)
    (c24 : PySem.W.codeIn K cd24 "law" = true)
    (k24 : PySem.W.keepIn K (.ref f24) = true)
    (aC : PySem.W.nsIn K mainGlobals "Reader" = some (some (.ref C)))
    (am0 : PySem.W.findIn K (.ref C) "__init__" = some (some (.ref g0)))
    (im0 : PySem.W.isFn K (.ref g0) = true)
    (lm0 : K.lookup g0 = some ⟨ocm0, odm0, .func (PySem.W.fnOf "__init__" "Reader.__init__" (defArgs sR_init) (defBody sR_init) (defScope sR_init) .none kVm0 dcm0 pmm0 anm0 cdm0 ctm0), slm0⟩)
    (cm0 : PySem.W.codeIn K cdm0 "Reader.__init__" = true)
    (km0 : PySem.W.keepIn K (.ref g0) = true)
    (am1 : PySem.W.findIn K (.ref C) "wrong" = some (some (.ref g1)))
    (im1 : PySem.W.isFn K (.ref g1) = true)
    (lm1 : K.lookup g1 = some ⟨ocm1, odm1, .func (PySem.W.fnOf "wrong" "Reader.wrong" (defArgs sR_wrong) (defBody sR_wrong) (defScope sR_wrong) .none kVm1 dcm1 pmm1 anm1 cdm1 ctm1), slm1⟩)
    (cm1 : PySem.W.codeIn K cdm1 "Reader.wrong" = true)
    (km1 : PySem.W.keepIn K (.ref g1) = true)
    (am2 : PySem.W.findIn K (.ref C) "sign" = some (some (.ref g2)))
    (im2 : PySem.W.isFn K (.ref g2) = true)
    (lm2 : K.lookup g2 = some ⟨ocm2, odm2, .func (PySem.W.fnOf "sign" "Reader.sign" (defArgs sR_sign) (defBody sR_sign) (defScope sR_sign) .none kVm2 dcm2 pmm2 anm2 cdm2 ctm2), slm2⟩)
    (cm2 : PySem.W.codeIn K cdm2 "Reader.sign" = true)
    (km2 : PySem.W.keepIn K (.ref g2) = true)
    (am3 : PySem.W.findIn K (.ref C) "figures" = some (some (.ref g3)))
    (im3 : PySem.W.isFn K (.ref g3) = true)
    (lm3 : K.lookup g3 = some ⟨ocm3, odm3, .func (PySem.W.fnOf "figures" "Reader.figures" (defArgs sR_figures) (defBody sR_figures) (defScope sR_figures) .none kVm3 dcm3 pmm3 anm3 cdm3 ctm3), slm3⟩)
    (cm3 : PySem.W.codeIn K cdm3 "Reader.figures" = true)
    (km3 : PySem.W.keepIn K (.ref g3) = true)
    (am4 : PySem.W.findIn K (.ref C) "integer" = some (some (.ref g4)))
    (im4 : PySem.W.isFn K (.ref g4) = true)
    (lm4 : K.lookup g4 = some ⟨ocm4, odm4, .func (PySem.W.fnOf "integer" "Reader.integer" (defArgs sR_integer) (defBody sR_integer) (defScope sR_integer) .none kVm4 dcm4 pmm4 anm4 cdm4 ctm4), slm4⟩)
    (cm4 : PySem.W.codeIn K cdm4 "Reader.integer" = true)
    (km4 : PySem.W.keepIn K (.ref g4) = true)
    (am5 : PySem.W.findIn K (.ref C) "string" = some (some (.ref g5)))
    (im5 : PySem.W.isFn K (.ref g5) = true)
    (lm5 : K.lookup g5 = some ⟨ocm5, odm5, .func (PySem.W.fnOf "string" "Reader.string" (defArgs sR_string) (defBody sR_string) (defScope sR_string) .none kVm5 dcm5 pmm5 anm5 cdm5 ctm5), slm5⟩)
    (cm5 : PySem.W.codeIn K cdm5 "Reader.string" = true)
    (km5 : PySem.W.keepIn K (.ref g5) = true)
    (am6 : PySem.W.findIn K (.ref C) "plain" = some (some (.ref g6)))
    (im6 : PySem.W.isFn K (.ref g6) = true)
    (lm6 : K.lookup g6 = some ⟨ocm6, odm6, .func (PySem.W.fnOf "plain" "Reader.plain" (defArgs sR_plain) (defBody sR_plain) (defScope sR_plain) .none kVm6 dcm6 pmm6 anm6 cdm6 ctm6), slm6⟩)
    (cm6 : PySem.W.codeIn K cdm6 "Reader.plain" = true)
    (km6 : PySem.W.keepIn K (.ref g6) = true)
    (am7 : PySem.W.findIn K (.ref C) "enter_tuples" = some (some (.ref g7)))
    (im7 : PySem.W.isFn K (.ref g7) = true)
    (lm7 : K.lookup g7 = some ⟨ocm7, odm7, .func (PySem.W.fnOf "enter_tuples" "Reader.enter_tuples" (defArgs sR_enter) (defBody sR_enter) (defScope sR_enter) .none kVm7 dcm7 pmm7 anm7 cdm7 ctm7), slm7⟩)
    (cm7 : PySem.W.codeIn K cdm7 "Reader.enter_tuples" = true)
    (km7 : PySem.W.keepIn K (.ref g7) = true)
    (am8 : PySem.W.findIn K (.ref C) "read" = some (some (.ref g8)))
    (im8 : PySem.W.isFn K (.ref g8) = true)
    (lm8 : K.lookup g8 = some ⟨ocm8, odm8, .func (PySem.W.fnOf "read" "Reader.read" (defArgs sR_read) (defBody sR_read) (defScope sR_read) .none kVm8 dcm8 pmm8 anm8 cdm8 ctm8), slm8⟩)
    (cm8 : PySem.W.codeIn K cdm8 "Reader.read" = true)
    (km8 : PySem.W.keepIn K (.ref g8) = true)
    (pgC : PySem.W.plainGet K C Str.empty = true)
    (hdC : PySem.W.hasDictIn K C = true)
    (poC : PySem.W.plainOver K C = true)
    (saC : PySem.W.findIn K (.ref C) "__setattr__" = some (some (.builtin "object.__setattr__")))
    (mkC : PySem.W.makesIn K C = true)
    (kcC : PySem.W.keepIn K (.ref C) = true)
    (n_text : PySem.W.findIn K (.ref C) "text" = some none)
    (n_place : PySem.W.findIn K (.ref C) "place" = some none)
    (n_levels : PySem.W.findIn K (.ref C) "levels" = some none)
    (z_isinstance : PySem.W.nsIn K mainGlobals "isinstance" = some none)
    (z_int : PySem.W.nsIn K mainGlobals "int" = some none)
    (z_bool : PySem.W.nsIn K mainGlobals "bool" = some none)
    (z_str : PySem.W.nsIn K mainGlobals "str" = some none)
    (z_tuple : PySem.W.nsIn K mainGlobals "tuple" = some none)
    (z_all : PySem.W.nsIn K mainGlobals "all" = some none)
    (z_len : PySem.W.nsIn K mainGlobals "len" = some none)
    (z_abs : PySem.W.nsIn K mainGlobals "abs" = some none)
    (z_range : PySem.W.nsIn K mainGlobals "range" = some none)
    (g_MOST_DEEP : PySem.W.nsIn K mainGlobals "MOST_DEEP" = some (some (.int 30 t_MOST_DEEP)))
    (g_MOST_DIGITS : PySem.W.nsIn K mainGlobals "MOST_DIGITS" = some (some (.int 30 t_MOST_DIGITS)))
    (g_GREATEST : PySem.W.nsIn K mainGlobals "GREATEST" = some (some (.int 999999999999999999999999999999 t_GREATEST)))
    (g_FIGURES : PySem.W.nsIn K mainGlobals "FIGURES" = some (some (.str "0123456789" t_FIGURES)))
    (g_QUOTE : PySem.W.nsIn K mainGlobals "QUOTE" = some (some (.str "'" t_QUOTE)))
    (g_ESCAPE : PySem.W.nsIn K mainGlobals "ESCAPE" = some (some (.str "~" t_ESCAPE)))
    (aB : PySem.W.nsIn K mainGlobals "BadText" = some (some (.ref CB)))
    (aK : PySem.W.nsIn K mainGlobals "KnownError" = some (some (.ref CK)))
    (aN : PySem.W.nsIn K mainGlobals "NoThing" = some (some (.ref CN)))
    (xB : K.lookup CB = some (excClassObj nmB qnB CB NB bsB (.ref CK :: [.type "ValueError", .type "Exception", .type "BaseException", .type "object"]) true snB subB abB colB ddB w0B w1B w2B w3B w5B "ValueError.__new__"))
    (xK : K.lookup CK = some (excClassObj nmK qnK CK NK bsK [.type "ValueError", .type "Exception", .type "BaseException", .type "object"] true snK subK abK colK ddK w0K w1K w2K w3K w5K "ValueError.__new__"))
    (iK : PySem.W.findIn K (.ref CK) "__init__" = some (some (.builtin "ValueError.__init__")))
    (saB : PySem.W.findIn K (.ref CB) "__setattr__" = some (some (.builtin "object.__setattr__")))
    (gaB : PySem.W.findIn K (.ref CB) "__getattribute__" = some (some (.builtin "BaseException.__getattribute__")))
    (ggB : PySem.W.findIn K (.ref CB) "__getattr__" = some none)
    (noB : PySem.W.findIn K (.ref CB) "place" = some none)
    (iB : PySem.W.findIn K (.ref CB) "__init__" = some (some (.ref fB)))
    (tfB : PySem.W.typeIn K (.ref fB) = some (.type "function"))
    (kB : PySem.W.keepIn K (.ref CB) = true)
    (exB : PySem.W.subIn K (.ref CB) (.type "BaseException") = some true)
    (veB : PySem.W.subIn K (.ref CB) (.type "ValueError") = some true)
    (slB : PySem.W.mroIn K CB (.ref CB) = some true)
    (tyB : PySem.W.typeIn K (.ref CB) = some (.type "type"))
    (hdB : PySem.W.hasDictIn K CB = true)
    (isB : PySem.W.isClsIn K CB = true)
    (ssB : PySem.W.subIn K (.ref CB) (.ref CB) = some true)
    (z_super : PySem.W.nsIn K mainGlobals "super" = some none)
    (opB : PySem.W.nsIn K cStatics "thirdparty.any" = some none)
    (topB : (l.prog.main.scope.names.lookup ("super" : Str)).isSome = false)
    (lB : K.lookup fB = some ⟨ocB, odB, .func (PySem.W.ksFn "__init__" "BadText.__init__" iA K28.iB iS .none .none dcB pmB anB (.ref cdaB) ctB ccB), oslB⟩)
    (cB : PySem.W.codeIn K (.ref cdaB) "BadText.__init__" = true)
    (ldB : K.lookup cdaB = some ⟨cclB, cddB, .fields vsB, ccsB⟩)
    (vB : vsB[2]? = some (.str fileB tfl))
    (flB : ((l.prog.main.file : Str) == fileB) = true)
    (lcB : K.lookup ccB = some ⟨clB, cldB, .cell (some (.ref CB)), cslB⟩)
    (xN : PySem.W.excIn K CN [.type "ValueError", .type "Exception", .type "BaseException", .type "object"] "ValueError.__new__" = true)
    (kN : PySem.W.keepIn K (.ref CN) = true)
    (eN : PySem.W.subIn K (.ref CN) (.type "BaseException") = some true)
    (tN : PySem.W.typeIn K (.ref CN) = some (.type "type"))
    (isN : PySem.W.isClsIn K CN = true)
    (ssN : PySem.W.subIn K (.ref CN) (.ref CN) = some true)
    (gaN : PySem.W.findIn K (.ref CN) "__getattribute__" = some (some (.builtin "BaseException.__getattribute__")))
    (ggN : PySem.W.findIn K (.ref CN) "__getattr__" = some none)
    (hdN : PySem.W.hasDictIn K CN = true)
    (clN : PySem.W.findIn K (.ref CN) "__class__" = some (some (.builtin "object.__class__")))
    (gtN : PySem.W.specialIn K (.builtin "object.__class__") "__get__" = some (some (.builtin "getset_descriptor.__get__")))
    (tkN : PySem.W.takesIn K (.builtin "object.__class__") = some true)
    (obN : PySem.W.mroIn K CN (.type "object") = some true)
    (tyK : PySem.W.typeIn K (.ref CK) = some (.type "type"))
    (isK : PySem.W.isClsIn K CK = true)
    (sNK : PySem.W.subIn K (.ref CN) (.ref CK) = some true) :
    ∃ fd : FuncData, (∀ (s : Shared) (v : Value), BindsTo s fd ⟨[v], []⟩ [("_law_script", v)]) ∧ ∀ base : Heap, K.In base → base.Ns mainGlobals mg → FnOk l.prog w K mg base CX0 65 fa fd ["_law_script"] (spLaw (K := K)) := by
  have e := hfa.symm.trans (PySem.W.mg_of X G a24)
  cases e
  have F0 := fun_mk (st := s_is_integer) l0 c0 k0
  have B0 := F0.binds (ps := ["thing"]) fun _ _ _ _ _ _ us hl => match us, hl with | [_], _ => rfl
  have F1 := fun_mk (st := s_is_sign) l1 c1 k1
  have B1 := F1.binds (ps := ["sign"]) fun _ _ _ _ _ _ us hl => match us, hl with | [_], _ => rfl
  have F2 := fun_mk (st := s_is_signs) l2 c2 k2
  have B2 := F2.binds (ps := ["thing"]) fun _ _ _ _ _ _ us hl => match us, hl with | [_], _ => rfl
  have F3 := fun_mk (st := s_is_thing) l3 c3 k3
  have B3 := F3.binds (ps := ["thing", "deep"]) fun _ _ _ _ _ _ us hl => match us, hl with | [_, _], _ => rfl
  have F4 := fun_mk (st := s_raw_packed) l4 c4 k4
  have B4 := F4.binds (ps := ["thing"]) fun _ _ _ _ _ _ us hl => match us, hl with | [_], _ => rfl
  have F5 := fun_mk (st := s_packed) l5 c5 k5
  have B5 := F5.binds (ps := ["thing"]) fun _ _ _ _ _ _ us hl => match us, hl with | [_], _ => rfl
  have F6 := fun_mk (st := s_unpacked) l6 c6 k6
  have B6 := F6.binds (ps := ["text"]) fun _ _ _ _ _ _ us hl => match us, hl with | [_], _ => rfl
  have F7 := fun_mk (st := s_law_hand) l7 c7 k7
  have B7 := F7.binds (ps := ["_law_script"]) fun _ _ _ _ _ _ us hl => match us, hl with | [_], _ => rfl
  have F8 := fun_mk (st := s_law_draw) l8 c8 k8
  have B8 := F8.binds (ps := ["_law_hand_here", "_law_many"]) fun _ _ _ _ _ _ us hl => match us, hl with | [_, _], _ => rfl
  have F9 := fun_mk (st := s_law_any) l9 c9 k9
  have B9 := F9.binds (ps := ["_law_hand_here", "_law_things"]) fun _ _ _ _ _ _ us hl => match us, hl with | [_, _], _ => rfl
  have F10 := fun_mk (st := s_law_word) l10 c10 k10
  have B10 := F10.binds (ps := ["_law_hand_here"]) fun _ _ _ _ _ _ us hl => match us, hl with | [_], _ => rfl
  have F11 := fun_mk (st := s_law_thing) l11 c11 k11
  have B11 := F11.binds (ps := ["_law_hand_here", "_law_deep_here"]) fun _ _ _ _ _ _ us hl => match us, hl with | [_, _], _ => rfl
  have F12 := fun_mk (st := s_law_nested) l12 c12 k12
  have B12 := F12.binds (ps := ["_law_hand_here", "_law_many"]) fun _ _ _ _ _ _ us hl => match us, hl with | [_, _], _ => rfl
  have F13 := fun_mk (st := s_law_packed) l13 c13 k13
  have B13 := F13.binds (ps := ["_law_thing_here"]) fun _ _ _ _ _ _ us hl => match us, hl with | [_], _ => rfl
  have F14 := fun_mk (st := s_law_first_wrong) l14 c14 k14
  have B14 := F14.binds (ps := ["_law_text", "_law_at", "_law_deep_here"]) fun _ _ _ _ _ _ us hl => match us, hl with | [_, _, _], _ => rfl
  have F15 := fun_mk (st := s_law_read_string) l15 c15 k15
  have B15 := F15.binds (ps := ["_law_text", "_law_at"]) fun _ _ _ _ _ _ us hl => match us, hl with | [_, _], _ => rfl
  have F16 := fun_mk (st := s_law_read_integer) l16 c16 k16
  have B16 := F16.binds (ps := ["_law_text", "_law_at"]) fun _ _ _ _ _ _ us hl => match us, hl with | [_, _], _ => rfl
  have F17 := fun_mk (st := s_law_read_tuple) l17 c17 k17
  have B17 := F17.binds (ps := ["_law_text", "_law_at", "_law_deep_here"]) fun _ _ _ _ _ _ us hl => match us, hl with | [_, _, _], _ => rfl
  have F18 := fun_mk (st := s_law_unpacked) l18 c18 k18
  have B18 := F18.binds (ps := ["_law_text"]) fun _ _ _ _ _ _ us hl => match us, hl with | [_], _ => rfl
  have F19 := fun_mk (st := s_law_changed) l19 c19 k19
  have B19 := F19.binds (ps := ["_law_hand_here", "_law_text"]) fun _ _ _ _ _ _ us hl => match us, hl with | [_, _], _ => rfl
  have F20 := fun_mk (st := s_law_deep) l20 c20 k20
  have B20 := F20.binds (ps := ["_law_hand_here"]) fun _ _ _ _ _ _ us hl => match us, hl with | [_], _ => rfl
  have F21 := fun_mk (st := s_law_told) l21 c21 k21
  have B21 := F21.binds (ps := ["_law_text"]) fun _ _ _ _ _ _ us hl => match us, hl with | [_], _ => rfl
  have F22 := fun_mk (st := s_law_is_none) l22 c22 k22
  have B22 := F22.binds (ps := ["_law_thing_here"]) fun _ _ _ _ _ _ us hl => match us, hl with | [_], _ => rfl
  have F23 := fun_mk (st := s_law_is_plain) l23 c23 k23
  have B23 := F23.binds (ps := ["_law_thing_here"]) fun _ _ _ _ _ _ us hl => match us, hl with | [_], _ => rfl
  have F24 := fun_mk (st := s_law) l24 c24 k24
  have B24 := F24.binds (ps := ["_law_script"]) fun _ _ _ _ _ _ us hl => match us, hl with | [_], _ => rfl
  have Fm0 := fun_mk (st := sR_init) lm0 cm0 km0
  have Bm0 := Fm0.binds (ps := ["self", "text"]) fun _ _ _ _ _ _ us hl => match us, hl with | [_, _], _ => rfl
  have Fm1 := fun_mk (st := sR_wrong) lm1 cm1 km1
  have Bm1 := Fm1.binds (ps := ["self"]) fun _ _ _ _ _ _ us hl => match us, hl with | [_], _ => rfl
  have Fm2 := fun_mk (st := sR_sign) lm2 cm2 km2
  have Bm2 := Fm2.binds (ps := ["self"]) fun _ _ _ _ _ _ us hl => match us, hl with | [_], _ => rfl
  have Fm3 := fun_mk (st := sR_figures) lm3 cm3 km3
  have Bm3 := Fm3.binds (ps := ["self"]) fun _ _ _ _ _ _ us hl => match us, hl with | [_], _ => rfl
  have Fm4 := fun_mk (st := sR_integer) lm4 cm4 km4
  have Bm4 := Fm4.binds (ps := ["self"]) fun _ _ _ _ _ _ us hl => match us, hl with | [_], _ => rfl
  have Fm5 := fun_mk (st := sR_string) lm5 cm5 km5
  have Bm5 := Fm5.binds (ps := ["self"]) fun _ _ _ _ _ _ us hl => match us, hl with | [_], _ => rfl
  have Fm6 := fun_mk (st := sR_plain) lm6 cm6 km6
  have Bm6 := Fm6.binds (ps := ["self"]) fun _ _ _ _ _ _ us hl => match us, hl with | [_], _ => rfl
  have Fm7 := fun_mk (st := sR_enter) lm7 cm7 km7
  have Bm7 := Fm7.binds (ps := ["self"]) fun _ _ _ _ _ _ us hl => match us, hl with | [_], _ => rfl
  have Fm8 := fun_mk (st := sR_read) lm8 cm8 km8
  have Bm8 := Fm8.binds (ps := ["self"]) fun _ _ _ _ _ _ us hl => match us, hl with | [_], _ => rfl
  have bad : BadTxt l.prog K mg CB fB :=
    { gC := PySem.W.mg_of X G aB, cls := ⟨_, _, _, _, _, _, _, _, _, _, _, _, _, _, _, xB, by rfl, along_of xK iK⟩, sa := saB, ga := gaB, gg := ggB, noN := noB, iC := iB, tC := tfB, kC := kB, exC := exB, veC := veB, slC := slB, tyC := tyB, hdC := hdB, te := exm_self exB isB tyB ssB,
      gS := PySem.W.mg_none_of X G z_super, op := opB, top := topB, fn := ⟨_, _, _, _, _, _, _, _, _, lB, cB, ⟨_, _, _, _, _, _, ldB, vB, flB⟩, ⟨_, _, _, lcB⟩⟩ }
  let T : Tx l.prog K mg := {
    f_is_integer := f0, d_is_integer := _, is_integer := ⟨F0, B0, PySem.W.mg_of X G a0⟩,
    f_is_sign := f1, d_is_sign := _, is_sign := ⟨F1, B1, PySem.W.mg_of X G a1⟩,
    f_is_signs := f2, d_is_signs := _, is_signs := ⟨F2, B2, PySem.W.mg_of X G a2⟩,
    f_is_thing := f3, d_is_thing := _, is_thing := ⟨F3, B3, PySem.W.mg_of X G a3⟩,
    f_raw_packed := f4, d_raw_packed := _, raw_packed := ⟨F4, B4, PySem.W.mg_of X G a4⟩,
    f_packed := f5, d_packed := _, packed := ⟨F5, B5, PySem.W.mg_of X G a5⟩,
    f_unpacked := f6, d_unpacked := _, unpacked := ⟨F6, B6, PySem.W.mg_of X G a6⟩,
    f_law_hand := f7, d_law_hand := _, law_hand := ⟨F7, B7, PySem.W.mg_of X G a7⟩,
    f_law_draw := f8, d_law_draw := _, law_draw := ⟨F8, B8, PySem.W.mg_of X G a8⟩,
    f_law_any := f9, d_law_any := _, law_any := ⟨F9, B9, PySem.W.mg_of X G a9⟩,
    f_law_word := f10, d_law_word := _, law_word := ⟨F10, B10, PySem.W.mg_of X G a10⟩,
    f_law_thing := f11, d_law_thing := _, law_thing := ⟨F11, B11, PySem.W.mg_of X G a11⟩,
    f_law_nested := f12, d_law_nested := _, law_nested := ⟨F12, B12, PySem.W.mg_of X G a12⟩,
    f_law_packed := f13, d_law_packed := _, law_packed := ⟨F13, B13, PySem.W.mg_of X G a13⟩,
    f_law_first_wrong := f14, d_law_first_wrong := _, law_first_wrong := ⟨F14, B14, PySem.W.mg_of X G a14⟩,
    f_law_read_string := f15, d_law_read_string := _, law_read_string := ⟨F15, B15, PySem.W.mg_of X G a15⟩,
    f_law_read_integer := f16, d_law_read_integer := _, law_read_integer := ⟨F16, B16, PySem.W.mg_of X G a16⟩,
    f_law_read_tuple := f17, d_law_read_tuple := _, law_read_tuple := ⟨F17, B17, PySem.W.mg_of X G a17⟩,
    f_law_unpacked := f18, d_law_unpacked := _, law_unpacked := ⟨F18, B18, PySem.W.mg_of X G a18⟩,
    f_law_changed := f19, d_law_changed := _, law_changed := ⟨F19, B19, PySem.W.mg_of X G a19⟩,
    f_law_deep := f20, d_law_deep := _, law_deep := ⟨F20, B20, PySem.W.mg_of X G a20⟩,
    f_law_told := f21, d_law_told := _, law_told := ⟨F21, B21, PySem.W.mg_of X G a21⟩,
    f_law_is_none := f22, d_law_is_none := _, law_is_none := ⟨F22, B22, PySem.W.mg_of X G a22⟩,
    f_law_is_plain := f23, d_law_is_plain := _, law_is_plain := ⟨F23, B23, PySem.W.mg_of X G a23⟩,
    f_law := fa, d_law := _, law := ⟨F24, B24, PySem.W.mg_of X G a24⟩,
    C := C, fI := g0, dI := _, rInit := Fm0, bInit := Bm0, mkR := ⟨mkC, am0, im0, kcC⟩, cl := ⟨pgC, hdC, poC, saC⟩, n_text := n_text, n_place := n_place, n_levels := n_levels, gC := PySem.W.mg_of X G aC,
    fR_wrong := g1, dR_wrong := _, r_wrong := ⟨Fm1, Bm1, ⟨am1, im1, km1⟩⟩,
    fR_sign := g2, dR_sign := _, r_sign := ⟨Fm2, Bm2, ⟨am2, im2, km2⟩⟩,
    fR_figures := g3, dR_figures := _, r_figures := ⟨Fm3, Bm3, ⟨am3, im3, km3⟩⟩,
    fR_integer := g4, dR_integer := _, r_integer := ⟨Fm4, Bm4, ⟨am4, im4, km4⟩⟩,
    fR_string := g5, dR_string := _, r_string := ⟨Fm5, Bm5, ⟨am5, im5, km5⟩⟩,
    fR_plain := g6, dR_plain := _, r_plain := ⟨Fm6, Bm6, ⟨am6, im6, km6⟩⟩,
    fR_enter := g7, dR_enter := _, r_enter := ⟨Fm7, Bm7, ⟨am7, im7, km7⟩⟩,
    fR_read := g8, dR_read := _, r_read := ⟨Fm8, Bm8, ⟨am8, im8, km8⟩⟩,
    z_isinstance := PySem.W.mg_none_of X G z_isinstance,
    z_int := PySem.W.mg_none_of X G z_int,
    z_bool := PySem.W.mg_none_of X G z_bool,
    z_str := PySem.W.mg_none_of X G z_str,
    z_tuple := PySem.W.mg_none_of X G z_tuple,
    z_all := PySem.W.mg_none_of X G z_all,
    z_len := PySem.W.mg_none_of X G z_len,
    z_abs := PySem.W.mg_none_of X G z_abs,
    z_range := PySem.W.mg_none_of X G z_range,
    g_MOST_DEEP := ⟨_, PySem.W.mg_of X G g_MOST_DEEP⟩,
    g_MOST_DIGITS := ⟨_, PySem.W.mg_of X G g_MOST_DIGITS⟩,
    g_GREATEST := ⟨_, PySem.W.mg_of X G g_GREATEST⟩,
    g_FIGURES := ⟨_, PySem.W.mg_of X G g_FIGURES⟩,
    g_QUOTE := ⟨_, PySem.W.mg_of X G g_QUOTE⟩,
    g_ESCAPE := ⟨_, PySem.W.mg_of X G g_ESCAPE⟩,
    CB := CB, fB := fB, bad := bad, CN := CN, CK := CK, gN := PySem.W.mg_of X G aN, gK := PySem.W.mg_of X G aK, xN := xN, kN := kN, eN := eN, tN := tN, mN := exm_self eN isN tN ssN, cN := ⟨gaN, ggN, eN, hdN, clN, gtN, tkN, obN⟩, iN := kit_super isK tyK sNK }
  exact ⟨T.d_law, fun s v => .of_eq rfl, fun base _ _ => ok_law T⟩
theorem walk {l : PySem.W.OpenLaw} {q : Program} {loose : List Str} {XP : (Str → Option Value) → Heap → Prop} {YP : World → Heap → Prop} {d : DefRec} {K : Params → PySem.W.Frag} (hn : l.most = some 63) (hdf : d.params.defaults = [])
    (hY : ∀ (w : World) (h : Heap), YP w h → (K w.params).In h)
    (F : ∀ (w : World) (mg : Str → Option Value) (fa : Addr) (h : Heap), (K w.params).In h → h.Ns mainGlobals mg → mg d.name = some (.ref fa) →
      ∃ fd : FuncData, (∀ (s : Shared) (u : Value), BindsTo s fd ⟨[u], []⟩ [("_law_script", u)]) ∧ ∀ base : Heap, (K w.params).In base → base.Ns mainGlobals mg → FnOk l.prog w (K w.params) mg base CX0 65 fa fd ["_law_script"] (spLaw (K := K w.params))) :
    PySem.W.WalkO q loose XP YP l.row.toRowW d [] (fun f vs => PySem.call f vs) :=
  L2.walk_of (n := 63) (k := 65) (x := "_law_script") (CX := fun _ => CX0) (sp := fun w => spLaw (K := K w.params)) hn (by decide) hdf ⟨rfl, by decide, by decide⟩ hY F (fun _ _ a ns hl _ hS => ⟨a, ns, rfl, hS, Nat.le_trans hl (by decide), fun _ => rfl⟩) fun _ _ _ _ _ z => z
end K28

open PySem PySem.W PyProof.Rows
set_option maxRecDepth 100000 in
set_option maxHeartbeats 0 in
theorem PySem.Challenge.cw_knownends_k28_whole_things_packed_and_re_holds : PySem.Challenge.rw_knownends_k28_whole_things_packed_and_re.Holds := by
  w_on; o_law; k_head; (case hw => w_witness2)
  k_fill
  refine K28.walk (l := PySem.Challenge.rw_knownends_k28_whole_things_packed_and_re) rfl rfl (fun w h Y => PySem.W.kIn_of Y) ?F
  case F =>
    intro w mg fa h KX G hmg
    refine' K28.all_mk KX G hmg ?a0 ?l0 ?c0 ?k0 ?a1 ?l1 ?c1 ?k1 ?a2 ?l2 ?c2 ?k2 ?a3 ?l3 ?c3 ?k3 ?a4 ?l4 ?c4 ?k4 ?a5 ?l5 ?c5 ?k5 ?a6 ?l6 ?c6 ?k6 ?a7 ?l7 ?c7 ?k7 ?a8 ?l8 ?c8 ?k8 ?a9 ?l9 ?c9 ?k9 ?a10 ?l10 ?c10 ?k10 ?a11 ?l11 ?c11 ?k11 ?a12 ?l12 ?c12 ?k12 ?a13 ?l13 ?c13 ?k13 ?a14 ?l14 ?c14 ?k14 ?a15 ?l15 ?c15 ?k15 ?a16 ?l16 ?c16 ?k16 ?a17 ?l17 ?c17 ?k17 ?a18 ?l18 ?c18 ?k18 ?a19 ?l19 ?c19 ?k19 ?a20 ?l20 ?c20 ?k20 ?a21 ?l21 ?c21 ?k21 ?a22 ?l22 ?c22 ?k22 ?a23 ?l23 ?c23 ?k23 ?a24 ?l24 ?c24 ?k24 ?aC ?am0 ?im0 ?lm0 ?cm0 ?km0 ?am1 ?im1 ?lm1 ?cm1 ?km1 ?am2 ?im2 ?lm2 ?cm2 ?km2 ?am3 ?im3 ?lm3 ?cm3 ?km3 ?am4 ?im4 ?lm4 ?cm4 ?km4 ?am5 ?im5 ?lm5 ?cm5 ?km5 ?am6 ?im6 ?lm6 ?cm6 ?km6 ?am7 ?im7 ?lm7 ?cm7 ?km7 ?am8 ?im8 ?lm8 ?cm8 ?km8 ?pgC ?hdC ?poC ?saC ?mkC ?kcC ?n_text ?n_place ?n_levels ?z_isinstance ?z_int ?z_bool ?z_str ?z_tuple ?z_all ?z_len ?z_abs ?z_range ?g_MOST_DEEP ?g_MOST_DIGITS ?g_GREATEST ?g_FIGURES ?g_QUOTE ?g_ESCAPE ?aB ?aK ?aN ?xB ?xK ?iK ?saB ?gaB ?ggB ?noB ?iB ?tfB ?kB ?exB ?veB ?slB ?tyB ?hdB ?isB ?ssB ?z_super ?opB ?topB ?lB ?cB ?ldB ?vB ?flB ?lcB ?xN ?kN ?eN ?tN ?isN ?ssN ?gaN ?ggN ?hdN ?clN ?gtN ?tkN ?obN ?tyK ?isK ?sNK
    (case a0 => k_is)
    (case l0 => k_is)
    (case c0 => k_is)
    (case k0 => k_is)
    (case a1 => k_is)
    (case l1 => k_is)
    (case c1 => k_is)
    (case k1 => k_is)
    (case a2 => k_is)
    (case l2 => k_is)
    (case c2 => k_is)
    (case k2 => k_is)
    (case a3 => k_is)
    (case l3 => k_is)
    (case c3 => k_is)
    (case k3 => k_is)
    (case a4 => k_is)
    (case l4 => k_is)
    (case c4 => k_is)
    (case k4 => k_is)
    (case a5 => k_is)
    (case l5 => k_is)
    (case c5 => k_is)
    (case k5 => k_is)
    (case a6 => k_is)
    (case l6 => k_is)
    (case c6 => k_is)
    (case k6 => k_is)
    (case a7 => k_is)
    (case l7 => k_is)
    (case c7 => k_is)
    (case k7 => k_is)
    (case a8 => k_is)
    (case l8 => k_is)
    (case c8 => k_is)
    (case k8 => k_is)
    (case a9 => k_is)
    (case l9 => k_is)
    (case c9 => k_is)
    (case k9 => k_is)
    (case a10 => k_is)
    (case l10 => k_is)
    (case c10 => k_is)
    (case k10 => k_is)
    (case a11 => k_is)
    (case l11 => k_is)
    (case c11 => k_is)
    (case k11 => k_is)
    (case a12 => k_is)
    (case l12 => k_is)
    (case c12 => k_is)
    (case k12 => k_is)
    (case a13 => k_is)
    (case l13 => k_is)
    (case c13 => k_is)
    (case k13 => k_is)
    (case a14 => k_is)
    (case l14 => k_is)
    (case c14 => k_is)
    (case k14 => k_is)
    (case a15 => k_is)
    (case l15 => k_is)
    (case c15 => k_is)
    (case k15 => k_is)
    (case a16 => k_is)
    (case l16 => k_is)
    (case c16 => k_is)
    (case k16 => k_is)
    (case a17 => k_is)
    (case l17 => k_is)
    (case c17 => k_is)
    (case k17 => k_is)
    (case a18 => k_is)
    (case l18 => k_is)
    (case c18 => k_is)
    (case k18 => k_is)
    (case a19 => k_is)
    (case l19 => k_is)
    (case c19 => k_is)
    (case k19 => k_is)
    (case a20 => k_is)
    (case l20 => k_is)
    (case c20 => k_is)
    (case k20 => k_is)
    (case a21 => k_is)
    (case l21 => k_is)
    (case c21 => k_is)
    (case k21 => k_is)
    (case a22 => k_is)
    (case l22 => k_is)
    (case c22 => k_is)
    (case k22 => k_is)
    (case a23 => k_is)
    (case l23 => k_is)
    (case c23 => k_is)
    (case k23 => k_is)
    (case a24 => k_is)
    (case l24 => k_is)
    (case c24 => k_is)
    (case k24 => k_is)
    (case aC => k_is)
    (case am0 => k_is)
    (case im0 => k_is)
    (case lm0 => k_is)
    (case cm0 => k_is)
    (case km0 => k_is)
    (case am1 => k_is)
    (case im1 => k_is)
    (case lm1 => k_is)
    (case cm1 => k_is)
    (case km1 => k_is)
    (case am2 => k_is)
    (case im2 => k_is)
    (case lm2 => k_is)
    (case cm2 => k_is)
    (case km2 => k_is)
    (case am3 => k_is)
    (case im3 => k_is)
    (case lm3 => k_is)
    (case cm3 => k_is)
    (case km3 => k_is)
    (case am4 => k_is)
    (case im4 => k_is)
    (case lm4 => k_is)
    (case cm4 => k_is)
    (case km4 => k_is)
    (case am5 => k_is)
    (case im5 => k_is)
    (case lm5 => k_is)
    (case cm5 => k_is)
    (case km5 => k_is)
    (case am6 => k_is)
    (case im6 => k_is)
    (case lm6 => k_is)
    (case cm6 => k_is)
    (case km6 => k_is)
    (case am7 => k_is)
    (case im7 => k_is)
    (case lm7 => k_is)
    (case cm7 => k_is)
    (case km7 => k_is)
    (case am8 => k_is)
    (case im8 => k_is)
    (case lm8 => k_is)
    (case cm8 => k_is)
    (case km8 => k_is)
    (case pgC => k_is)
    (case hdC => k_is)
    (case poC => k_is)
    (case saC => k_is)
    (case mkC => k_is)
    (case kcC => k_is)
    (case n_text => k_is)
    (case n_place => k_is)
    (case n_levels => k_is)
    (case z_isinstance => k_is)
    (case z_int => k_is)
    (case z_bool => k_is)
    (case z_str => k_is)
    (case z_tuple => k_is)
    (case z_all => k_is)
    (case z_len => k_is)
    (case z_abs => k_is)
    (case z_range => k_is)
    (case g_MOST_DEEP => k_is)
    (case g_MOST_DIGITS => k_is)
    (case g_GREATEST => k_is)
    (case g_FIGURES => k_is)
    (case g_QUOTE => k_is)
    (case g_ESCAPE => k_is)
    (case aB => k_is)
    (case aK => k_is)
    (case aN => k_is)
    (case xB => k_is)
    (case xK => k_is)
    (case iK => k_is)
    (case saB => k_is)
    (case gaB => k_is)
    (case ggB => k_is)
    (case noB => k_is)
    (case iB => k_is)
    (case tfB => k_is)
    (case kB => k_is)
    (case exB => k_is)
    (case veB => k_is)
    (case slB => k_is)
    (case tyB => k_is)
    (case hdB => k_is)
    (case isB => k_is)
    (case ssB => k_is)
    (case z_super => k_is)
    (case opB => k_is)
    (case topB => first | rfl | decide +kernel)
    (case lB => k_is)
    (case cB => k_is)
    (case ldB => k_is)
    (case vB => rfl)
    (case flB => first | rfl | decide +kernel)
    (case lcB => k_is)
    (case xN => k_exc)
    (case kN => k_is)
    (case eN => k_is)
    (case tN => k_is)
    (case isN => k_is)
    (case ssN => k_is)
    (case gaN => k_is)
    (case ggN => k_is)
    (case hdN => k_is)
    (case clN => k_is)
    (case gtN => k_is)
    (case tkN => k_is)
    (case obN => k_is)
    (case tyK => k_is)
    (case isK => k_is)
    (case sNK => k_is)
