import PyProof.Rows.All
import Wide.All
import OpenK.AllK
import Wide.FinOn
import PyProof.EqAt
import PyProof.EqKinds
import PyProof.TupleCall
import HandS.ForMost
import HandS.ForExc
import HandS.CallSlots
import HandS.FStr
import HandS.StrMore
import HandS.IsInst
import HandS.Style
import HandS.Walk
import HandS.FStrTup
import HandS.Codes
import PySem.Challenge.RW_eyesonly_k03_whole_texts_of_trees
set_option Elab.async false
set_option linter.all false
set_option maxRecDepth 100000
set_option maxHeartbeats 4000000
/-! The plain law: trees, their texts, the reader by recursion, the reader sign by sign; that both tell the same. -/
namespace Eo
/-- a small letter -/
abbrev small (c : Nat) : Bool := decide (97 ≤ c) && decide (c ≤ 122)
inductive T where
  | nil
  | node (g : List Nat) (l r : T)
def T.isNil : T → Bool
  | .nil => true
  | .node _ _ _ => false
def T.text : T → List Nat
  | .nil => [45]
  | .node g l r => if (l.isNil && r.isNil) = true then g else g ++ 40 :: (l.text ++ 44 :: (r.text ++ [41]))
def T.depth : T → Nat
  | .nil => 0
  | .node _ l r => max l.depth r.depth + 1
def T.nodes : T → Nat
  | .nil => 0
  | .node _ l r => l.nodes + r.nodes + 1
structure TagOk (g : List Nat) : Prop where
  pos : g ≠ []
  len : g.length ≤ 8
  all : ∀ c ∈ g, small c = true
def T.ok : T → Prop
  | .nil => True
  | .node g l r => TagOk g ∧ l.ok ∧ r.ok
theorem isNil_iff {t : T} : t.isNil = true ↔ t = .nil := by
  cases t with
  | nil => exact ⟨fun _ => rfl, fun _ => rfl⟩
  | node g l r => exact Iff.intro (fun h => by cases h) (fun h => by cases h)
theorem depth_le_nodes : ∀ t : T, t.depth ≤ t.nodes
  | .nil => Nat.le_refl _
  | .node _ l r => by
    have h1 := depth_le_nodes l
    have h2 := depth_le_nodes r
    simp only [T.depth, T.nodes]
    omega
theorem text_pos : ∀ {t : T}, t.ok → t.text ≠ []
  | .nil, _ => by simp [T.text]
  | .node g l r, h => by
    have hg := h.1.pos
    unfold T.text
    split
    · exact hg
    · intro q
      exact hg (List.append_eq_nil_iff.mp q).1
theorem text_le : ∀ t : T, t.ok → t.text.length ≤ 12 * t.nodes + 1
  | .nil, _ => by simp [T.text, T.nodes]
  | .node g l r, h => by
    have h1 := text_le l h.2.1
    have h2 := text_le r h.2.2
    have hg := h.1.len
    unfold T.text T.nodes
    split
    · omega
    · simp only [List.length_append, List.length_cons, List.length_nil]
      omega
/-! ### the reader by recursion, on what is left of the text -/
inductive R where
  | bad (rest : List Nat)
  | got (t : T) (rest : List Nat)
def after (x : Nat) : List Nat → Option (List Nat)
  | [] => none
  | c :: r => if c = x then some r else none
theorem after_some {x : Nat} {s r : List Nat} (h : after x s = some r) : s = x :: r := by
  cases s with
  | nil => cases h
  | cons c q =>
    have h' : (if c = x then some q else none) = some r := h
    by_cases e : c = x
    · rw [if_pos e] at h'
      cases h'
      rw [e]
    · rw [if_neg e] at h'
      cases h'
theorem after_cons (x : Nat) (r : List Nat) : after x (x :: r) = some r := by
  show (if x = x then some r else none) = some r
  rw [if_pos rfl]
theorem after_none {x : Nat} {s : List Nat} (h : after x s = none) : ∀ r, s ≠ x :: r := fun r e => by
  rw [e, after_cons] at h
  cases h
theorem after_ne {x c : Nat} {r : List Nat} (h : c ≠ x) : after x (c :: r) = none := by
  show (if c = x then some r else none) = none
  rw [if_neg h]
def takeTag : Nat → List Nat → List Nat
  | 0, _ => []
  | _ + 1, [] => []
  | k + 1, c :: r => if small c = true then c :: takeTag k r else []
theorem takeTag_le : ∀ (k : Nat) (s : List Nat), (takeTag k s).length ≤ k
  | 0, _ => Nat.le_refl _
  | _ + 1, [] => Nat.zero_le _
  | k + 1, c :: r => by
    unfold takeTag
    split
    · exact Nat.succ_le_succ (takeTag_le k r)
    · exact Nat.zero_le _
theorem takeTag_small : ∀ (k : Nat) (s : List Nat), ∀ c ∈ takeTag k s, small c = true
  | 0, _, c, h => by cases h
  | _ + 1, [], c, h => by cases h
  | k + 1, x :: r, c, h => by
    unfold takeTag at h
    split at h
    · rename_i e
      rcases List.mem_cons.mp h with q | q
      · rw [q]; exact e
      · exact takeTag_small k r c q
    · cases h
theorem takeTag_split : ∀ (k : Nat) (s : List Nat), s = takeTag k s ++ s.drop (takeTag k s).length
  | 0, s => rfl
  | _ + 1, [] => rfl
  | k + 1, c :: r => by
    unfold takeTag
    split
    · show c :: r = c :: (takeTag k r ++ r.drop (takeTag k r).length)
      rw [← takeTag_split k r]
    · rfl
/-- behind a tag there is no small letter, but behind eight -/
theorem takeTag_end : ∀ (k : Nat) (s : List Nat) (c : Nat) (r : List Nat), s.drop (takeTag k s).length = c :: r → small c = true → (takeTag k s).length = k
  | 0, _, _, _, _, _ => rfl
  | _ + 1, [], _, _, h, _ => by cases h
  | k + 1, x :: q, c, r, h, hc => by
    unfold takeTag at h ⊢
    by_cases e : small x = true
    · rw [if_pos e] at h ⊢
      exact congrArg Nat.succ (takeTag_end k q c r h hc)
    · rw [if_neg e] at h
      have h' : x :: q = c :: r := h
      cases h'
      exact absurd hc e
theorem takeTag_of : ∀ (k : Nat) (g s : List Nat), g.length ≤ k → (∀ c ∈ g, small c = true) → (∀ c r, s = c :: r → small c = false) → takeTag k (g ++ s) = g
  | k, [], s, _, _, h3 => by
    cases k with
    | zero => rfl
    | succ k =>
      cases s with
      | nil => rfl
      | cons c r =>
        show takeTag (k + 1) (c :: r) = []
        unfold takeTag
        rw [h3 c r rfl]
        rfl
  | 0, _ :: _, _, h1, _, _ => by simp at h1
  | k + 1, c :: g, s, h1, h2, h3 => by
    show takeTag (k + 1) (c :: (g ++ s)) = c :: g
    unfold takeTag
    rw [if_pos (h2 c List.mem_cons_self), takeTag_of k g s (by simpa using h1) (fun x hx => h2 x (List.mem_cons_of_mem _ hx)) h3]
/-- n: how many calls one in another are allowed; isn: the tree may not be empty -/
def rd : Nat → Bool → List Nat → Option R
  | 0, _, _ => none
  | n + 1, isn, s =>
    match after 45 s with
    | some r => some (if isn = true then .bad s else .got .nil r)
    | none =>
      if takeTag 8 s = [] then some (.bad s)
      else match after 40 (s.drop (takeTag 8 s).length) with
        | none => some (.got (.node (takeTag 8 s) .nil .nil) (s.drop (takeTag 8 s).length))
        | some s2 => match rd n false s2 with
          | none => none
          | some (.bad x) => some (.bad x)
          | some (.got l s3) => match after 44 s3 with
            | none => some (.bad s3)
            | some s4 => match rd n l.isNil s4 with
              | none => none
              | some (.bad x) => some (.bad x)
              | some (.got r s5) => match after 41 s5 with
                | none => some (.bad s5)
                | some s6 => some (.got (.node (takeTag 8 s) l r) s6)
theorem takeTag_ok {s : List Nat} (h : takeTag 8 s ≠ []) : TagOk (takeTag 8 s) := ⟨h, takeTag_le 8 s, takeTag_small 8 s⟩
theorem rd_got : ∀ (n : Nat) (isn : Bool) (s : List Nat) (t : T) (r : List Nat), rd n isn s = some (.got t r) → s = t.text ++ r ∧ t.ok ∧ t.depth ≤ n ∧ (isn = true → t.isNil = false)
  | 0, _, _, _, _, h => by cases h
  | n + 1, isn, s, t, r, h => by
    unfold rd at h
    split at h
    · rename_i r0 e0
      have e0 := after_some e0
      cases isn with
      | true => cases h
      | false =>
        cases h
        exact ⟨e0, trivial, Nat.zero_le _, fun q => by cases q⟩
    · split at h
      · cases h
      · rename_i hg
        have hk := takeTag_ok hg
        have hs := takeTag_split 8 s
        split at h
        · cases h
          exact ⟨hs, ⟨hk, trivial, trivial⟩, Nat.succ_le_succ (Nat.zero_le _), fun _ => rfl⟩
        · rename_i s2 e2
          have e2 := after_some e2
          split at h
          · cases h
          · cases h
          · rename_i l s3 e3
            obtain ⟨a1, a2, a3, _⟩ := rd_got n _ _ _ _ e3
            split at h
            · cases h
            · rename_i s4 e4
              have e4 := after_some e4
              split at h
              · cases h
              · cases h
              · rename_i r1 s5 e5
                obtain ⟨b1, b2, b3, b4⟩ := rd_got n _ _ _ _ e5
                split at h
                · cases h
                · rename_i s6 e6
                  have e6 := after_some e6
                  cases h
                  refine ⟨?_, ⟨hk, a2, b2⟩, ?_, fun _ => rfl⟩
                  · have hn : ¬ (l.isNil && r1.isNil) = true := fun q => by
                      obtain ⟨q1, q2⟩ := Bool.and_eq_true_iff.mp q
                      rw [b4 q1] at q2
                      cases q2
                    have q : (T.node (takeTag 8 s) l r1).text = takeTag 8 s ++ 40 :: (l.text ++ 44 :: (r1.text ++ [41])) := by
                      show (if (l.isNil && r1.isNil) = true then takeTag 8 s else takeTag 8 s ++ 40 :: (l.text ++ 44 :: (r1.text ++ [41]))) = _
                      rw [if_neg hn]
                    refine hs.trans ?_
                    rw [q, e2, a1, e4, b1, e6, List.append_assoc, List.cons_append, List.append_assoc, List.cons_append, List.append_assoc, List.singleton_append]
                  · show max l.depth r1.depth + 1 ≤ n + 1
                    omega
theorem rd_bad : ∀ (n : Nat) (isn : Bool) (s x : List Nat), rd n isn s = some (.bad x) → ∃ p, s = p ++ x
  | 0, _, _, _, h => by cases h
  | n + 1, isn, s, x, h => by
    unfold rd at h
    split at h
    · cases isn with
      | true => cases h; exact ⟨[], rfl⟩
      | false => cases h
    · split at h
      · cases h; exact ⟨[], rfl⟩
      · have hs := takeTag_split 8 s
        split at h
        · cases h
        · rename_i s2 e2
          have e2 := after_some e2
          split at h
          · cases h
          · rename_i y e3
            cases h
            obtain ⟨p, hp⟩ := rd_bad n _ _ _ e3
            exact ⟨takeTag 8 s ++ 40 :: p, hs.trans (by rw [e2, hp]; simp)⟩
          · rename_i l s3 e3
            obtain ⟨a1, _⟩ := rd_got n _ _ _ _ e3
            split at h
            · cases h
              exact ⟨takeTag 8 s ++ 40 :: l.text, hs.trans (by rw [e2, a1]; simp)⟩
            · rename_i s4 e4
              have e4 := after_some e4
              split at h
              · cases h
              · rename_i y e5
                cases h
                obtain ⟨p, hp⟩ := rd_bad n _ _ _ e5
                exact ⟨takeTag 8 s ++ 40 :: (l.text ++ 44 :: p), hs.trans (by rw [e2, a1, e4, hp]; simp)⟩
              · rename_i r1 s5 e5
                obtain ⟨b1, _⟩ := rd_got n _ _ _ _ e5
                split at h
                · cases h
                  exact ⟨takeTag 8 s ++ 40 :: (l.text ++ 44 :: r1.text), hs.trans (by rw [e2, a1, e4, b1]; simp)⟩
                · cases h
/-- how many brackets are opened -/
abbrev opens (s : List Nat) : Nat := s.count 40
theorem opens_app (a b : List Nat) : opens (a ++ b) = opens a + opens b := List.count_append
/-- with more calls than brackets the reader comes to an end -/
theorem rd_ends : ∀ (n : Nat) (isn : Bool) (s : List Nat), opens s < n → ∃ o, rd n isn s = some o
  | 0, _, _, h => absurd h (Nat.not_lt_zero _)
  | n + 1, isn, s, h => by
    unfold rd
    split
    · exact ⟨_, rfl⟩
    · split
      · exact ⟨_, rfl⟩
      · have hs := takeTag_split 8 s
        split
        · exact ⟨_, rfl⟩
        · rename_i s2 e2
          have e2 := after_some e2
          have c2 : opens s = opens (takeTag 8 s) + (opens s2 + 1) := by
            rw [e2] at hs
            have q := congrArg opens hs
            rw [opens_app] at q
            rw [q]
            simp [opens]
          obtain ⟨o1, h1⟩ := rd_ends n false s2 (by omega)
          rw [h1]
          cases o1 with
          | bad x => exact ⟨_, rfl⟩
          | got l s3 =>
            obtain ⟨a1, _⟩ := rd_got n _ _ _ _ h1
            dsimp only
            split
            · exact ⟨_, rfl⟩
            · rename_i s4 e4
              have e4 := after_some e4
              have c4 : opens s4 ≤ opens s2 := by
                rw [a1, e4, opens_app]
                simp [opens]
              obtain ⟨o2, h2⟩ := rd_ends n l.isNil s4 (by omega)
              rw [h2]
              cases o2 with
              | bad x => exact ⟨_, rfl⟩
              | got r s5 =>
                dsimp only
                split
                · exact ⟨_, rfl⟩
                · exact ⟨_, rfl⟩
/-- the text of a tree is read as this tree -/
theorem rd_text : ∀ (t : T) (n : Nat) (isn : Bool) (s : List Nat), t.ok → t.depth < n → (isn = true → t.isNil = false) → (∀ c r, s = c :: r → small c = false ∧ c ≠ 40) → rd n isn (t.text ++ s) = some (.got t s)
  | .nil, 0, _, _, _, h, _, _ => absurd h (Nat.not_lt_zero _)
  | .nil, n + 1, isn, s, _, _, h, _ => by
    have e : isn = false := by
      cases isn with
      | false => rfl
      | true => exact absurd (h rfl) (by decide)
    subst e
    show rd (n + 1) false (45 :: s) = _
    unfold rd
    rw [after_cons]
    rfl
  | .node _ _ _, 0, _, _, _, h, _, _ => absurd h (Nat.not_lt_zero _)
  | .node g l r, n + 1, isn, s, hk, hd, _, hs => by
    have hd' : max l.depth r.depth + 1 < n + 1 := hd
    obtain ⟨c0, g0, eg⟩ : ∃ c g0, g = c :: g0 := by
      cases g with
      | nil => exact absurd rfl hk.1.pos
      | cons c g0 => exact ⟨c, g0, rfl⟩
    have hc0 : small c0 = true := hk.1.all c0 (by rw [eg]; exact List.mem_cons_self)
    have n45 : ∀ q, after 45 (g ++ q) = none := fun q => by
      rw [eg]
      exact after_ne fun e => by rw [e] at hc0; exact absurd hc0 (by decide)
    have hd40 : ∀ q, g ++ 40 :: q = g ++ 40 :: q → takeTag 8 (g ++ 40 :: q) = g := fun q _ => takeTag_of 8 g _ hk.1.len hk.1.all fun c r e => by cases e; decide
    by_cases e : (l.isNil && r.isNil) = true
    · have et : (T.node g l r).text = g := by unfold T.text; rw [if_pos e]
      obtain ⟨e1, e2⟩ := Bool.and_eq_true_iff.mp e
      have e1 := isNil_iff.mp e1
      have e2 := isNil_iff.mp e2
      have tg : takeTag 8 (g ++ s) = g := takeTag_of 8 g s hk.1.len hk.1.all fun c q z => (hs c q z).1
      have n40 : after 40 s = none := by
        cases s with
        | nil => rfl
        | cons c q => exact after_ne (hs c q rfl).2
      rw [et]
      unfold rd
      rw [n45, tg]
      dsimp only
      rw [if_neg hk.1.pos, List.drop_left, n40, e1, e2]
    · have et : (T.node g l r).text ++ s = g ++ 40 :: (l.text ++ 44 :: (r.text ++ 41 :: s)) := by
        have q : (T.node g l r).text = g ++ 40 :: (l.text ++ 44 :: (r.text ++ [41])) := by
          show (if (l.isNil && r.isNil) = true then g else g ++ 40 :: (l.text ++ 44 :: (r.text ++ [41]))) = _
          rw [if_neg e]
        rw [q, List.append_assoc, List.cons_append, List.append_assoc, List.cons_append, List.append_assoc, List.singleton_append]
      have h1 : rd n false (l.text ++ 44 :: (r.text ++ 41 :: s)) = some (.got l (44 :: (r.text ++ 41 :: s))) :=
        rd_text l n false _ hk.2.1 (by omega) (fun q => by cases q) fun c q z => by cases z; decide
      have h2 : rd n l.isNil (r.text ++ 41 :: s) = some (.got r (41 :: s)) :=
        rd_text r n l.isNil _ hk.2.2 (by omega) (fun q => by
          cases hr : r.isNil with
          | false => rfl
          | true => exact absurd (by rw [q, hr]; rfl) e) fun c q z => by cases z; decide
      rw [et]
      unfold rd
      rw [n45, hd40 _ rfl]
      dsimp only
      rw [if_neg hk.1.pos, List.drop_left, after_cons]
      dsimp only
      rw [h1]
      dsimp only
      rw [after_cons]
      dsimp only
      rw [h2]
      dsimp only
      rw [after_cons]
/-! ### the reader sign by sign -/
/-- what stands around the place that is read: in a left part, in a right part -/
inductive F where
  | L (g : List Nat)
  | R (g : List Nat) (l : T)
inductive Z where
  | need (isn : Bool) (c : List F)
  | tag (g : List Nat) (c : List F)
  | done (t : T) (c : List F)
def stepDone (t : T) : List F → Nat → Option Z
  | [], _ => none
  | .L g :: c, x => if x = 44 then some (.need t.isNil (.R g t :: c)) else none
  | .R g l :: c, x => if x = 41 then some (.done (.node g l t) c) else none
def step : Z → Nat → Option Z
  | .need isn c, x => if small x = true then some (.tag [x] c) else if x = 45 ∧ isn = false then some (.done .nil c) else none
  | .tag g c, x => if small x = true then (if g.length + 1 ≤ 8 then some (.tag (g ++ [x]) c) else none) else if x = 40 then some (.need false (.L g :: c)) else stepDone (.node g .nil .nil) c x
  | .done t c, x => stepDone t c x
inductive Out where
  | bad (rest : List Nat)
  | ok (t : T)
def fin : Z → Out
  | .done t [] => .ok t
  | .tag g [] => .ok (.node g .nil .nil)
  | _ => .bad []
def run : Z → List Nat → Out
  | z, [] => fin z
  | z, x :: r => match step z x with
    | none => .bad (x :: r)
    | some z' => run z' r
theorem run_cons {z : Z} {x : Nat} {r : List Nat} : run z (x :: r) = match step z x with
    | none => .bad (x :: r)
    | some z' => run z' r := rfl
theorem run_to {z z' : Z} {x : Nat} {r : List Nat} (h : step z x = some z') : run z (x :: r) = run z' r := by rw [run_cons, h]
theorem run_no {z : Z} {x : Nat} {r : List Nat} (h : step z x = none) : run z (x :: r) = .bad (x :: r) := by rw [run_cons, h]
theorem small_ne {x : Nat} (h : small x = true) : x ≠ 40 ∧ x ≠ 41 ∧ x ≠ 44 ∧ x ≠ 45 := by
  refine ⟨?_, ?_, ?_, ?_⟩ <;> (rintro rfl; exact absurd h (by decide))
theorem stepDone_small {t : T} {c : List F} {x : Nat} (h : small x = true) : stepDone t c x = none := by
  obtain ⟨_, h2, h3, _⟩ := small_ne h
  cases c with
  | nil => rfl
  | cons f c =>
    cases f with
    | L g => show (if x = 44 then _ else none) = none; rw [if_neg h3]
    | R g l => show (if x = 41 then _ else none) = none; rw [if_neg h2]
/-- a tag's signs are taken one by one -/
theorem run_tag : ∀ (k : Nat) (s g : List Nat) (c : List F), g.length + k = 8 → run (.tag g c) s = run (.tag (g ++ takeTag k s) c) (s.drop (takeTag k s).length)
  | 0, s, g, c, _ => by simp [takeTag]
  | _ + 1, [], g, c, _ => by simp [takeTag]
  | k + 1, x :: s, g, c, h => by
    unfold takeTag
    by_cases e : small x = true
    · rw [if_pos e]
      have q : step (.tag g c) x = some (.tag (g ++ [x]) c) := by
        show (if small x = true then (if g.length + 1 ≤ 8 then some (Z.tag (g ++ [x]) c) else none) else _) = _
        rw [if_pos e, if_pos (by omega)]
      rw [run_to q, run_tag k s (g ++ [x]) c (by simp; omega)]
      simp
    · rw [if_neg e]
      simp
/-- a tag that has ended is a node without parts -/
theorem run_lag {g : List Nat} {c : List F} {s : List Nat} (h40 : after 40 s = none) (hs : ∀ x r, s = x :: r → small x = true → g.length = 8) : run (.tag g c) s = run (.done (.node g .nil .nil) c) s := by
  cases s with
  | nil =>
    cases c with
    | nil => rfl
    | cons f c => rfl
  | cons x r =>
    have hx : x ≠ 40 := fun e => after_none h40 r (by rw [e])
    by_cases e : small x = true
    · have h8 := hs x r rfl e
      have q1 : step (.tag g c) x = none := by
        show (if small x = true then (if g.length + 1 ≤ 8 then some (Z.tag (g ++ [x]) c) else none) else _) = _
        rw [if_pos e, if_neg (by omega)]
      have q2 : step (.done (.node g .nil .nil) c) x = none := stepDone_small e
      rw [run_no q1, run_no q2]
    · have q : step (.tag g c) x = step (.done (.node g .nil .nil) c) x := by
        show (if small x = true then _ else if x = 40 then _ else stepDone (.node g .nil .nil) c x) = stepDone (.node g .nil .nil) c x
        rw [if_neg e, if_neg hx]
      rw [run_cons, run_cons, q]
theorem run_rd : ∀ (n : Nat) (isn : Bool) (s : List Nat) (o : R) (c : List F), rd n isn s = some o → run (.need isn c) s = match o with
    | .bad x => .bad x
    | .got t r => run (.done t c) r
  | 0, _, _, _, _, h => by cases h
  | n + 1, isn, s, o, c, h => by
    unfold rd at h
    split at h
    · rename_i r0 e0
      have e0 := after_some e0
      subst e0
      cases isn with
      | true =>
        cases h
        exact run_no rfl
      | false =>
        cases h
        exact run_to rfl
    · rename_i e45
      split at h
      · rename_i hg
        cases h
        cases s with
        | nil => rfl
        | cons x r =>
          have hx : ¬ small x = true := fun q => by
            unfold takeTag at hg
            rw [if_pos q] at hg
            cases hg
          have hx2 : ¬ (x = 45 ∧ isn = false) := fun q => after_none e45 r (by rw [q.1])
          refine run_no ?_
          show (if small x = true then _ else if x = 45 ∧ isn = false then _ else none) = none
          rw [if_neg hx, if_neg hx2]
      · rename_i hg
        -- the tag's signs
        have htag : run (.need isn c) s = run (.tag (takeTag 8 s) c) (s.drop (takeTag 8 s).length) := by
          cases s with
          | nil => exact absurd rfl hg
          | cons x r =>
            have hx : small x = true := by
              cases q : small x with
              | true => rfl
              | false =>
                unfold takeTag at hg
                rw [q] at hg
                exact absurd rfl hg
            have q1 : step (.need isn c) x = some (.tag [x] c) := by
              show (if small x = true then _ else _) = _
              rw [if_pos hx]
            have q2 : takeTag 8 (x :: r) = x :: takeTag 7 r := by
              show (if small x = true then _ else _) = _
              rw [if_pos hx]
            rw [run_to q1, run_tag 7 r [x] c rfl, q2]
            rfl
        split at h
        · rename_i e40
          cases h
          exact htag.trans (run_lag e40 fun x r q hx => takeTag_end 8 s x r q hx)
        · rename_i s2 e2
          have e2 := after_some e2
          have q2 : step (.tag (takeTag 8 s) c) 40 = some (.need false (.L (takeTag 8 s) :: c)) := rfl
          have h2 : run (.need isn c) s = run (.need false (.L (takeTag 8 s) :: c)) s2 := by rw [htag, e2, run_to q2]
          split at h
          · cases h
          · rename_i y e3
            cases h
            rw [h2, run_rd n _ _ _ _ e3]
          · rename_i l s3 e3
            have h3 := run_rd n _ _ _ (.L (takeTag 8 s) :: c) e3
            dsimp only at h3
            split at h
            · rename_i e4
              cases h
              rw [h2, h3]
              cases s3 with
              | nil => rfl
              | cons x r =>
                refine run_no ?_
                show (if x = 44 then _ else none) = none
                rw [if_neg fun q => after_none e4 r (by rw [q])]
            · rename_i s4 e4
              have e4 := after_some e4
              have q4 : step (.done l (.L (takeTag 8 s) :: c)) 44 = some (.need l.isNil (.R (takeTag 8 s) l :: c)) := rfl
              rw [e4, run_to q4] at h3
              split at h
              · cases h
              · rename_i y e5
                cases h
                rw [h2, h3, run_rd n _ _ _ _ e5]
              · rename_i r1 s5 e5
                have h5 := run_rd n _ _ _ (.R (takeTag 8 s) l :: c) e5
                dsimp only at h5
                split at h
                · rename_i e6
                  cases h
                  rw [h2, h3, h5]
                  cases s5 with
                  | nil => rfl
                  | cons x r =>
                    refine run_no ?_
                    show (if x = 41 then _ else none) = none
                    rw [if_neg fun q => after_none e6 r (by rw [q])]
                · rename_i s6 e6
                  have e6 := after_some e6
                  cases h
                  rw [h2, h3, h5, e6]
                  exact run_to rfl
/-! ### the whole text -/
def whole (n : Nat) (s : List Nat) : Option Out := match rd n false s with
  | none => none
  | some (.bad x) => some (.bad x)
  | some (.got t r) => some (if r = [] then .ok t else .bad r)
theorem run_whole {n : Nat} {s : List Nat} {o : Out} (h : whole n s = some o) : run (.need false []) s = o := by
  unfold whole at h
  split at h
  · cases h
  · rename_i x e
    cases h
    exact run_rd n _ _ _ _ e
  · rename_i t r e
    cases h
    rw [run_rd n _ _ _ _ e]
    cases r with
    | nil => rfl
    | cons x r => rfl
theorem whole_text {t : T} {n : Nat} (hk : t.ok) (hd : t.depth < n) : whole n t.text = some (.ok t) := by
  have q := rd_text t n false [] hk hd (fun z => by cases z) (fun c r z => by cases z)
  rw [List.append_nil] at q
  unfold whole
  rw [q]
  rfl
end Eo
/-! Rules that the layer lacks, for this claim: repr of data, extend by a tuple, a list against the empty one, anything of a tree against a text, enumerate of a text, a call by keywords alone, isinstance of the caught error. -/
namespace Eo
open PySem PySem.Spec PyProof.Rows L2
section
variable {X : Cx}
/-! ### repr -/
theorem noDict_dp {K : PySem.W.Frag} {H : Hp} {x : V} {d : PyData} (h : Dp K H x d) : d.hasDict = false → (d.hasDict = true → sysModules ∉ ([] : List Addr)) := fun e q => by rw [e] at q; cases q
/-- repr of a text, of a list or a tuple of data: X.A.guards tells that no repr is under way -/
def rRep (K : PySem.W.Frag) : List V → Hp → VK → Prop := fun xs H Q => ∃ (x : V) (d : PyData), xs = [x] ∧ Dp K H x d ∧ d.showable = true ∧ d.hasDict = false ∧ d.depth ≤ 100 ∧ d.shown.length ≤ sizeLine ∧ (∃ z, x = .str z ∨ ∃ a, x = .ref a) ∧ Q (.str d.shown) H
theorem call_rep (hg : X.A.guards = some []) (hu : X.A.units + 150 < cLine) : CallR X (.builtin "repr") (rRep X.K) := by
  intro pins s σ H xs us Q I r h
  obtain ⟨x, d, rfl, hd, hs, hn, hp, hz, hx, q⟩ := h
  obtain ⟨u, rfl, ru⟩ := vals1 r
  obtain ⟨as, rd⟩ := Dp.reads I d x u hd ru
  obtain ⟨z, rfl | ⟨a, rfl⟩⟩ := hx
  · obtain ⟨t, rfl⟩ := ru
    cases hd
    exact PySem.P.repr_of_str ⟨.str _, H, I.tok _, ⟨_, rfl⟩, q⟩ hz
  · cases (show u = Value.ref a from ru)
    exact repr_of_reads' rd hs (fun e => by rw [hn] at e; cases e) hg (by omega) (fun _ _ e => e) (fun h' v tk hk => ⟨.str _, H, I.kept (t' := tk) hk, ⟨v, rfl⟩, q⟩) hz
/-! ### list.extend by a tuple -/
theorem extend_tuple (l : Addr) (items : Array Value) (n : Nat) (b : Addr) (items2 : Array Value) (n2 : Nat) (dd : Option Addr) (sl : Array (Option Value)) (hs0 : ¬(!items.isEmpty && Builtin.List.listTooLong (items.size + items2.size)) = true) (hs1 : items.size ≤ sizeLine) (hs2 : items.size + items2.size ≤ sizeLine + 1) :
    Meets (Builtin.«list.extend» ⟨[.ref l, .ref b], []⟩) (fun _ R s => s.heap.get? l = some { cls := .type "list", dict := none, data := .seq items n, slots := #[] } ∧ s.heap.get? b = some { cls := .type "tuple", dict := dd, data := .seq items2 n2, slots := sl } ∧ R (.ok (.ret Value.none)) { s with heap := s.heap.update l (Obj.mapSeq fun x => x ++ items2), toks := s.toks }) :=
  .of_wp fun prog w A R s h => by
    obtain ⟨hp, g, d, tk, os⟩ := s
    obtain ⟨hl, hb, h⟩ := h
    have f1 := AutoSeq1.idx_int
    have f2 := AutoSeq1.sub_tuple_tuple
    have f3 := AutoSeq1.sub_list_list
    have f4 := AutoSeq1.sub_tuple_list
    have f5 := AutoSeq1.sub_list_tuple
    have hz' : (items ++ items2).size ≤ sizeLine + 1 := by rw [Array.size_append]; exact hs2
    wp_walk using (wpAny_updateSeq hl rfl (hz := hs1) (_hz' := hz')), AutoSeq1.wpAny_loadPart' hl, AutoSeq1.wpAny_loadPart' hb
    exact ⟨_, rfl, h⟩
/-- l.extend(t), t a tuple -/
def rExtT (K : PySem.W.Frag) : V → List V → Hp → VK → Prop := fun x vs H Q => ∃ l b xs zs, x = .ref l ∧ vs = [.ref b] ∧ H l = some (.lst xs) ∧ SqT K H b zs ∧ xs.length + zs.length ≤ sizeLine ∧ Q .non (upd H l (.lst (xs ++ zs)))
theorem mt_extT : MtM X "list.extend" (rExtT X.K) := by
  intro pins s σ H x vs v us Q I rx rv h
  obtain ⟨l, b, xs, zs, rfl, rfl, hH, hB, hz, q⟩ := h
  cases rx
  obtain ⟨u, rfl, ru⟩ := rv.one
  cases ru
  obtain ⟨_, its, n, r, hl, e⟩ := I.lstM hH
  obtain ⟨its2, r2, ⟨⟨oc, od, oda, osl⟩, e2, hc, n2, hd⟩, _⟩ := I.tuple hB
  have hc : oc = .type "tuple" := hc
  have hd : oda = .seq its2.toArray n2 := hd
  subst hc hd
  have l2 : zs.length = its2.length := r2.length
  have hsz : its.toArray.size + its2.toArray.size ≤ sizeLine := by
    rw [List.size_toArray, List.size_toArray]
    omega
  have hno : ¬ (!its.toArray.isEmpty && Builtin.List.listTooLong (its.toArray.size + its2.toArray.size)) = true := by
    rw [notLongL hsz, Bool.and_false]
    exact Bool.false_ne_true
  refine call_meets PySem.F.slot_list_extend ⟨_, e, rfl⟩ PySem.F.entry_list_extend (PySem.F.args_list_extend_2 _ _) (extend_tuple l its.toArray n b its2.toArray n2 od osl hno (by omega) (by omega)) ⟨e, e2, ?_⟩
  refine ⟨.non, _, I.lset (its' := its ++ its2) hH e (by simp) (r.append r2) ?_, rfl, q⟩
  rw [List.length_append]
  exact hz
/-! ### a list against the empty one -/
def rNil (neg : Bool) : R2 := fun x y H Q => ∃ a b xs, x = .ref a ∧ y = .ref b ∧ H a = some (.lst xs) ∧ H b = some (.lst []) ∧ Q (.bl (xs.isEmpty != neg)) H
theorem isl_of {pins : List (Addr × Obj)} {σ : L2.St} {H : Hp} {s : Shared} {a : Addr} {xs : List V} (I : Inv X pins σ H s) (h : H a = some (.lst xs)) : ∃ its : Array Value, s.heap.IsList a its ∧ its.size = xs.length := by
  obtain ⟨_, its, n, _, hl, e⟩ := I.lstM h
  exact ⟨its.toArray, ⟨_, e, rfl, n, rfl⟩, by rw [List.size_toArray]; exact hl.symm⟩
theorem op_eqNil (hu : X.A.units < cLine) : OpR X (compareOp .Eq) (rNil false) := by
  intro pins s σ H x y v u Q I rx ry h
  obtain ⟨a, b, xs, rfl, rfl, ha, hb, q⟩ := h
  cases rx
  cases ry
  obtain ⟨i1, h1, z1⟩ := isl_of I ha
  obtain ⟨i2, h2, z2⟩ := isl_of I hb
  have z2 : i2.size = 0 := z2
  cases xs with
  | nil =>
    have z1 : i1.size = 0 := z1
    refine SeqAt.eq_listAt (e := fun _ => true) h1 h2 (by omega) hu (fun j j1 _ => absurd j1 (by omega)) ⟨.bl _, H, I, ?_, q⟩
    rw [z1]
    rfl
  | cons c xs =>
    have z1 : i1.size = xs.length + 1 := z1
    exact SeqAt.eq_list_lengthsAt h1 h2 (by rw [z1, z2]; rfl) hu ⟨.bl _, H, I, rfl, q⟩
theorem op_neNil (hu : X.A.units < cLine) : OpR X (compareOp .NotEq) (rNil true) := by
  intro pins s σ H x y v u Q I rx ry h
  obtain ⟨a, b, xs, rfl, rfl, ha, hb, q⟩ := h
  cases rx
  cases ry
  obtain ⟨i1, h1, z1⟩ := isl_of I ha
  obtain ⟨i2, h2, z2⟩ := isl_of I hb
  have z2 : i2.size = 0 := z2
  cases xs with
  | nil =>
    have z1 : i1.size = 0 := z1
    refine SeqAt.RcNeAt.lists (e := fun _ => true) h1 h2 (by omega) hu (fun j j1 _ => absurd j1 (by omega)) _ _ _ _ ⟨.bl _, H, I, ?_, q⟩
    rw [z1]
    rfl
  | cons c xs =>
    have z1 : i1.size = xs.length + 1 := z1
    exact SeqAt.RcNeAt.lists_lengths h1 h2 (by rw [z1, z2]; rfl) hu _ _ _ _ ⟨.bl _, H, I, rfl, q⟩
/-! ### None, a tuple or a text against a text -/
def rWord (K : PySem.W.Frag) : R2 := fun x y H Q => ∃ z, y = .str z ∧ ((∃ y, x = .str y ∧ Q (.bl (decide (y = z))) H) ∨ (x = .non ∧ Q (.bl false) H) ∨ ∃ a xs, x = .ref a ∧ SqT K H a xs ∧ Q (.bl false) H)
theorem op_eqWord (hu : X.A.units < cLine) : OpR X (compareOp .Eq) (rWord X.K) := by
  intro pins s σ H x y v u Q I rx ry h
  obtain ⟨z, rfl, h⟩ := h
  obtain ⟨t, rfl⟩ := ry
  rcases h with ⟨y, rfl, q⟩ | ⟨rfl, q⟩ | ⟨a, xs, rfl, ht, q⟩
  · obtain ⟨t', rfl⟩ := rx
    exact SeqAt.RcAt.str_str _ _ _ _ _ _ _ _ ⟨.bl _, H, I, congrArg Value.bool (Bool.beq_eq_decide_eq y z), q⟩
  · cases rx
    exact SeqAt.RcAt.none_str _ _ _ _ _ _ ⟨.bl _, H, I, rfl, q⟩
  · cases rx
    obtain ⟨its, _, p, _⟩ := I.tuple ht
    obtain ⟨o, h1, h2, n, h3⟩ := p
    exact SeqAt.RcAt.tuple_str _ _ ⟨o, h1, h2, n, h3⟩ hu _ _ _ _ ⟨.bl _, H, I, rfl, q⟩
/-! ### enumerate of a text -/
theorem draws_text {prog : Program} {w : World} {A : Around} (hh : A.handled = none) (it : Addr) (x : Str) (t : Tok) :
    Draws prog w A it [it] x.cps.size (fun i v => ∃ c u, x.cps[i]? = some c ∧ v = .str ⟨#[c]⟩ u) (fun i h => h.IsStrIter it (strIterType x) x t i) := by
  unfold strIterType
  cases x.cps.all (· < 128) with
  | false => exact Draws.strWide hh it x t
  | true => exact Draws.strAscii hh it x t
/-- the signs of a text, each in a new pair -/
def Ites (x : Str) : It :=
  ⟨fun i _ => i < x.cps.size, fun i H v H' => ∃ T c, v = .ref T ∧ H T = none ∧ H' = upd H T (.tup [.int (i : Nat), .str ⟨#[c]⟩]) ∧ x.cps[i]? = some c, fun i _ => x.cps.size ≤ i⟩
theorem turn_enumS {P : Program} {w : World} {K : PySem.W.Frag} {elts : List Expr} {kk : Nat} {tpos : Pos} (x : Str) (t : Tok) (e it : Addr) :
    Turn P w K (.Tuple elts kk tpos) (Ites x) [e, it] e (fun i h => (∃ old, IsEnum h e it ((i : Nat) : Int) old) ∧ h.IsStrIter it (strIterType x) x t i ∧ e ≠ it) where
  mem := List.mem_cons_self
  obj := by
    rintro i h ⟨⟨old, he⟩, ⟨o, ho, hc, hd⟩, _⟩ b hb
    rcases List.mem_cons.mp hb with z | z
    · rw [z]
      exact ⟨_, he, fun v q => nomatch q⟩
    · rw [List.mem_singleton.mp z]
      exact ⟨o, ho, fun v q => by rw [hd] at q; cases q⟩
  keep := by
    rintro i h h' ⟨⟨old, he⟩, ⟨o, ho, r⟩, hne⟩ k
    exact ⟨⟨old, k e List.mem_cons_self _ he⟩, ⟨o, k it (by simp) o ho, r⟩, hne⟩
  item := by
    intro X hP hw hK hc i pins s σ H E I hf st hg
    subst hP hw hK
    obtain ⟨⟨old, he⟩, hit, hne⟩ := st
    have hel : e < s.heap.objs.size := Heap.lt_size he
    have hil : it < s.heap.objs.size := by
      obtain ⟨_, q, _⟩ := hit
      exact Heap.lt_size q
    refine wpAny_pyNext_enum_itemD (draws_text (A := X.A.in1) (I.ok.hd hc) it x t) he hit hg hne (by simpa using hne) fun y h' tk hy ho hit' hT hsz hk => ?_
    obtain ⟨c, u, hcx, rfl⟩ := hy
    refine ⟨_, rfl, wpAny_letOwnedTupleGo_enum (s := { s with heap := h', toks := tk + 1 }) ho fun h'' he' sb => ?_⟩
    have hT2 : h''.get? s.heap.objs.size = some { cls := .type "tuple", data := .seq #[.int i tk, .str ⟨#[c]⟩ u] } := (sb.2 _ (Nat.ne_of_gt hel)).trans hT
    have new : ObjOk X.prog X.w (upd H s.heap.objs.size (.tup [.int (i : Nat), .str ⟨#[c]⟩])) h'' s.heap.objs.size (.tup [.int (i : Nat), .str ⟨#[c]⟩]) :=
      ⟨by show 2 ≤ sizeLine; decide, [.int i tk, .str ⟨#[c]⟩ u], .cons ⟨_, rfl⟩ (.cons ⟨_, rfl⟩ .nil), ⟨_, hT2, rfl, _, rfl⟩⟩
    have I1 : Inv X pins σ (upd H s.heap.objs.size (.tup [.int (i : Nat), .str ⟨#[c]⟩])) { s with heap := h'', toks := tk + 1 } :=
      I.turnedNew (ch := [e, it]) (fun b ob hb q => (sb.2 b (fun z => hb (by simp [z]))).trans (hk b ob (fun z => hb (by simp [z])) (fun z => hb (by simp [z])) q)) hf (Nat.le_refl _) new
    refine ⟨.ref s.heap.objs.size, _, I1, rfl, ⟨_, c, rfl, I.hok.fresh (Nat.le_refl _), rfl, hcx⟩, ⟨⟨Value.str ⟨#[c]⟩ u, ?_⟩, ?_, hne⟩, fun b hb => ?_⟩
    · have e1 : ((i + 1 : Nat) : Int) = (i : Int) + 1 := by omega
      rw [e1]
      exact he'
    · obtain ⟨o, q, r⟩ := hit'
      exact ⟨o, (sb.2 it (Ne.symm hne)).trans q, r⟩
    · have hb' : b < s.heap.objs.size := by
        rcases List.mem_cons.mp hb with z | z
        · rw [z]; exact hel
        · rw [List.mem_singleton.mp z]; exact hil
      rw [upd_ne (Nat.ne_of_lt hb')]
      exact (hf b hb).1
  done := by
    intro X hP hw hK hc i pins s σ H E I hf st hg
    subst hP hw hK
    obtain ⟨⟨old, he⟩, hit, hne⟩ := st
    obtain ⟨f0, f1, f2, f3, f4, f5⟩ := hf it (by simp)
    have D := draws_text (prog := X.prog) (w := X.w) (A := X.A.in1) (I.ok.hd hc) it x t
    have hi : i = x.cps.size ∨ x.cps.size < i := by
      have hg : x.cps.size ≤ i := hg
      omega
    have hn : x.cps[i]? = none := Array.getElem?_eq_none hg
    have D2 : Draws X.prog X.w X.A.in1 it [it] i (fun _ _ => False) (fun j h => h.IsStrIter it (strIterType x) x t j ∧ j = i) :=
      { live := fun j h st => D.live j h st.1, frame := fun j h h' st k => ⟨D.frame j h h' st.1 k, st.2⟩, item := fun j s Q E hj st _ => absurd st.2 (by omega),
        done := fun s Q E st hE => by
          obtain ⟨st, _⟩ := st
          unfold strIterType at st
          cases ha : x.cps.all (· < 128) with
          | false =>
            rw [ha] at st
            exact wpAny_nextOf_wide_end (I.ok.hd hc) st hn hE
          | true =>
            rw [ha] at st
            exact wpAny_nextOf_ascii_end (I.ok.hd hc) st hn hE }
    exact wpAny_pyNext_enum_endD D2 he ⟨hit, rfl⟩ fun h' eb => ⟨rfl, I.turned (t' := s.toks) (fun b o hb q => eb b o hb q) f0 f1 f3 f4 f5⟩
  self := fun A i s Q E st h => by
    obtain ⟨⟨_, he⟩, _⟩ := st
    exact wpAny_pyIter_enum he h
def iEnumS (ta : TA) : TI := fun σ H R => ta σ H fun vs H1 => ∃ x, vs = [.str x] ∧ R (Ites x) H1
theorem pi_enumS {e : Expr} {ta : TA} {p pos tpos : Pos} {elts : List Expr} {kk : Nat} (hg : Gl X "enumerate") (hm : X.mg "enumerate" = none) (ha : PA X [e] ta) (hs : starEach [e] X.env = [(false, eval e X.env)] := by rfl) :
    PI X (.Tuple elts kk tpos) (.Call (.Name "enumerate" p) [e] [] pos) (iEnumS ta) := by
  refine ⟨fun pins s σ H R I h => ?_⟩
  refine Call_ (ld_blt I hg hm boot_enumerate (PyProof.Rows.callWith_type1 (thn (ha.run pos pins s σ H _ I h) fun us s1 ⟨vs, H1, I1, r1, q1⟩ => ?_) hs rfl))
  obtain ⟨x, rfl, q⟩ := q1
  obtain ⟨u, rfl, t, rfl⟩ := vals1 r1
  refine call_enumerate_str fun h' he hit hsz hk => wpAny_pyIter_enum he ?_
  have I2 : Inv X pins σ H1 { s1 with heap := h' } := I1.kept (t' := s1.toks) hk
  refine ⟨s1.heap.objs.size + 1, [s1.heap.objs.size + 1, s1.heap.objs.size], _, _, H1, rfl, I2, turn_enumS x t (s1.heap.objs.size + 1) s1.heap.objs.size, ⟨⟨.none, he⟩, hit, Nat.succ_ne_self _⟩, fun b hb => ?_, q⟩
  have hle : s1.heap.objs.size ≤ b := by
    rcases List.mem_cons.mp hb with z | z
    · rw [z]
      exact Nat.le_add_right _ _
    · rw [List.mem_singleton.mp z]
      exact Nat.le_refl _
  exact I1.fpOk hle (I1.hok.fresh hle)
theorem walk_enumS {x : Str} : Walk (Ites x) x.cps.size (fun _ => True) (fun i H v H' => ∃ T c, v = .ref T ∧ H T = none ∧ H' = upd H T (.tup [.int (i : Nat), .str ⟨#[c]⟩]) ∧ x.cps[i]? = some c) :=
  ⟨fun _ _ h _ => h, fun _ _ => Nat.le_refl _, fun _ _ _ _ _ _ y => y⟩
end
/-! ### a call by keywords alone -/
section
variable {X : Cx} {CX : CXT} {k : Nat} {f : Addr} {fd : FuncData} {ps ks : List Str} {sp : Sp} {x : Str} {p pos : Pos} {kws : List Keyword} {tk : TA} {g : List Value → List Value → List Value} {gV : List V → List V → List V}
def tCallO (sp : Sp) (gV : List V → List V → List V) (E : L2.St → XK) (tk : TA) : TE := fun σ H Q => tk σ H fun zs H2 => sp (gV [] zs) H2 Q (E σ)
theorem pe_callO {E : L2.St → XK} (F : FnOk X.prog X.w X.K X.mg X.base CX k f fd ps sp) (hr : Room k X.A) (hg : Gl X x) (hm : X.mg x = some (.ref f)) (hk : PySem.W.keepIn X.K (.ref f) = true) (hb : KBinds X.K fd ps ks g gV) (hx : ∀ σ, PassesAt CX X σ (E σ))
    (hkw : PK X kws tk) (hall : (backToKw pos (keywordEach kws X.env)).all (·.1.isSome) = true := by rfl) (hks : (backToKw pos (keywordEach kws X.env)).filterMap (·.1) = ks := by rfl)
    (hdb : (x == ("__debug__" : Str)) = false := by decide) (hpl : ((backTo pos (starEach [] X.env)).any (·.1) || (backToKw pos (keywordEach kws X.env)).any (·.1.isNone)) = false := by rfl) :
    PE X (.Call (.Name x p) [] kws pos) (tCallO sp gV E tk) := by
  refine ⟨fun pins s σ H Q I h => ?_⟩
  refine wpAny_Call_Name_kw (ld_glob I hg hm ?_ hdb)
  refine PySem.W.callWith_KW0 (h₀ := X.base) I.ok.mod.kin hk hall (thn (hkw.run pos pins s σ H _ I h) fun ws s2 ⟨zs, H2, I2, rz, q2⟩ => ⟨I2.kIn, ?_⟩) hpl
  rw [hks]
  have r2 := hb.rel Paired.nil rz
  have hl : (g [] ws).length = ps.length := by
    rw [← r2.length]
    exact F.len _ _ _ _ q2
  refine wpAny_call (codeAny_mono (F.run X.A X.stack s2 H2 ⟨[], ks.zip ws⟩ (g [] ws) (gV [] zs) Q (E σ) hr I2.env0 (hb.to s2 [] ws I2.kIn hl) r2 q2) fun r s' hq => ?_)
  cases r with
  | error e => exact hx σ pins H2 s2 e s' I2 hq
  | ok fl =>
    cases fl with
    | ret u => exact I2.after hq
    | next => exact False.elim hq
    | brk => exact False.elim hq
    | cont => exact False.elim hq
/-- where nothing leaves the callee -/
theorem at0 {X : Cx} : ∀ σ : L2.St, PassesAt CX0 X σ E0 := fun _ _ _ _ _ _ _ h => h.elim
theorem atL {X : Cx} : ∀ σ : L2.St, PassesAt (L2.CX X.prog X.w) X σ E0 := fun σ pins H s e s' I h => passL pins σ H s e s' I h
end
/-! ### isinstance of the caught error -/
def rIsX (K : PySem.W.Frag) (cls : Value) (a : Addr) : List V → Hp → VK → Prop := fun xs H Q => ∃ C D, xs = [.ref a, .ref D] ∧ cls = .ref C ∧ PySem.W.isIn K (.ref C) D = true ∧ Q (.bl true) H
theorem call_isX {X : Cx} {a : Addr} {oe : Obj} {cls : Value} {d : Option Addr} {pn : List (Addr × Obj)} (hz : Zc cls d oe) : CallR (X.suite a ((a, oe) :: pn)) (.builtin "isinstance") (rIsX X.K cls a) := by
  intro pins s σ H xs us Q I r h
  obtain ⟨C, D, rfl, rfl, e, q⟩ := h
  obtain ⟨u, v, rfl, ru, rv⟩ := vals2 r
  cases (show u = Value.ref a from ru)
  cases (show v = Value.ref D from rv)
  obtain ⟨hget, _⟩ := I.pin (a, oe) (List.mem_append.mpr (.inl List.mem_cons_self))
  refine PySem.W.isi_call (t := .ref C) I.kIn (fun M A Q E s k q => wpAny_typeOf_ref (k _ _ hget) (by rw [hz.1]; exact q)) e (fun z => nomatch z) ⟨.bl true, H, I, rfl, q⟩
end Eo
/-! BadText: an own error over an own error over Exception, its __init__ stores one field. (Turned from the worked proof skel/42_own_error_by_import, whose class stands over ValueError.) -/
namespace PySem
namespace BadX
open PySem.W PySem.Calls PyProof.Rows PySem.HandSPX Builtin Builtin.ObjectAttr
/-! ### self.at = at on an error that has no dict yet, whatever its chain is -/
section
variable {prog : Program} {w : World} {A : Around} {E : Value → Shared → Prop} {R : Result → Shared → Prop} {hp : Heap} {g : Array GenState} {d : Drawn} {t : Nat} {os : OsState}
theorem store_first {K : W.Frag} {name : Str} {tk : Tok} {v : Value} {x C : Addr} {fv : Array Value} {cd : ClassData}
    (X : K.In hp) (hx : hp.get? x = some { cls := .ref C, data := .fields fv }) (hcd : W.clsIn K C = some cd) (pass : refuseLoop (.ref x) "__setattr__" cd.mro = pure ()) (some_ : cd.mro.isEmpty = false) (obj : cd.mro.contains (.type "object") = true)
    (hh : cd.hasDict = true) (ha : W.findIn K (.ref C) name = some none)
    (hq : ∀ h' tk' dx, (∀ b o, b ≠ x → hp.get? b = some o → h'.get? b = some o) → hp.objs.size ≤ dx → dx ≠ x → h'.get? x = some { cls := .ref C, dict := some dx, data := .fields fv } →
      h'.Ns1 dx (fun y => if y = name then some v else none) → R (.ok (.ret .none)) ⟨h', g, d, tk', os⟩) :
    codeAny (model prog w) A (.call (.builtin "object.__setattr__") ⟨[.ref x, .str name tk, v], []⟩) R ⟨hp, g, d, t, os⟩ := by
  have J : W.InstAt hp x { cls := .ref C, data := .fields fv } C none := ⟨hx, rfl, rfl, trivial⟩
  have SF := F.store_object
  have away : x ≠ hp.objs.size := Nat.ne_of_lt (Heap.lt_size hx)
  have isObj : W.Looks (model prog w) hp (isInstance (.ref x) (.type "object")) true :=
    J.type.andThen (W.looks_mroIn X (by unfold W.mroIn; rw [hcd, Option.bind_some, if_neg (by rw [some_]; decide), obj]))
  refine codeAny_call_builtin SF.slot.plain SF.entry (@W.check_slot (model prog w) _ _ ⟨hp, g, d, t, os⟩ "object.__setattr__" "object" "__setattr__" (.ref x) [.str name tk, v] [] _ SF.kind SF.split isObj (SF.args (.ref x) (.str name tk) v) ?_)
  have lM : W.Looks (model prog w) hp (mroOf (.ref C)) cd.mro := (W.looks_clsIn X hcd).andThen .now
  have lT : W.Looks (model prog w) hp (storeTaker? none) none := .now
  have lC : W.Looks (model prog w) hp (classData C) cd := W.looks_clsIn X hcd
  rw [W.osa_eq, refuse_eq]
  refine wpAny_bind (wpAny_bind (J.type.at (wpAny_bind (lM.at ?_))))
  rw [pass]
  refine wpAny_pure (wpAny_bind (J.type.at (wpAny_bind ((W.looks_findIn X ha).at (wpAny_bind (lT.at ?_))))))
  show wpAny _ _ (storeInOwnDict (.ref x) (.ref C) (.str name tk) name v false) _ _ _
  obtain ⟨nm, bs, mro, ns, qn, hd, sn, sb, ab, col, del⟩ := cd
  dsimp only at hh
  subst hh
  unfold storeInOwnDict ownDictForStores
  repeat (first | with_reducible refine store_in_new ?_ ?_ | with_reducible refine wpAny_loadPart_at hx ?_ | with_reducible refine lC.at ?_ | wp_step)
  · exact ⟨_, #[], _, (Heap.get?_update_ne _ _ _ _ away.symm).trans (Heap.get?_push_at rfl rfl), rfl, fun e he => absurd he (by simp), fun _ => rfl⟩
  · intro h' tk' ns' same
    have hx1 : (hp.push { cls := .type "dict", data := .dict #[] }).get? x = some { cls := .ref C, data := .fields fv } := Heap.get?_push_of_some _ hx
    refine hq h' tk' hp.objs.size (fun b o hb ho => ?_) (Nat.le_refl _) away.symm ?_ ns'
    · have n1 : b ≠ hp.objs.size := Nat.ne_of_lt (Heap.lt_size ho)
      exact (same.2 b n1).trans ((Heap.get?_update_ne _ _ _ _ hb).trans (Heap.get?_push_of_some _ ho))
    · exact (same.2 x away).trans (Heap.get?_update_self _ hx1 rfl)
end
/-! ### the text of __init__ -/
def iA (p1 p2 : Pos) : Arguments := { posonlyargs := [], args := [{ arg := "self", annotation := none, pos := p1 }, { arg := "at", annotation := none, pos := p2 }], vararg := none, kwonlyargs := [], kw_defaults := [], kwarg := none, defaults := [] }
def iB (q1 q2 q3 q4 : Pos) : List Stmt := [.Assign [.Attribute (.Name "self" q1) "at" q2] (.Name "at" q3) q4]
def iS : Scope := { kind := .function, names := [(PySem.Str.ofString "self", .local), (PySem.Str.ofString "at", .local)], isGenerator := false, isCoroutine := false, more := [] }
/-- what the written part says of BadText, at C, of its __init__, at fI, of its base EyesError, at D -/
structure BadTxt (K : Frag) (mg : Str → Option Value) (C D fI : Addr) : Prop where
  gC : mg "BadText" = some (.ref C)
  cls : ∃ nm q N bs sn sub ab col dd k0 k1 k2 k3 k5, K.lookup C = some (excClassObj nm q C N bs [.ref D, .type "Exception", .type "BaseException", .type "object"] true sn sub ab col dd k0 k1 k2 k3 k5 "Exception.__new__")
  sa : findIn K (.ref C) "__setattr__" = some (some (.builtin "object.__setattr__"))
  ga : findIn K (.ref C) "__getattribute__" = some (some (.builtin "BaseException.__getattribute__"))
  gg : findIn K (.ref C) "__getattr__" = some none
  noN : findIn K (.ref C) "at" = some none
  iC : findIn K (.ref C) "__init__" = some (some (.ref fI))
  tC : typeIn K (.ref fI) = some (.type "function")
  kC : keepIn K (.ref C) = true
  exC : subIn K (.ref C) (.type "BaseException") = some true
  tyC : typeIn K (.ref C) = some (.type "type")
  hdC : hasDictIn K C = true
  te : exmOne K (.ref C) (.ref C) = some true
  fn : ∃ (oc : Value) (od : Option Addr) (doc pm : Value) (an : Option Addr) (cdv ct : Value) (osl : Array (Option Value)) (p1 p2 q1 q2 q3 q4 : Pos),
    K.lookup fI = some ⟨oc, od, .func (fnOf "__init__" "BadText.__init__" (iA p1 p2) (iB q1 q2 q3 q4) iS .none .none doc pm an cdv ct), osl⟩ ∧ codeIn K cdv "BadText.__init__" = true
theorem ldC {M : Model} {s : Shared} {name : Str} {scope : Scope} {L a : Addr} {cd : Value} {m : Str → Option Value} {x : Str} {pos : Pos} {v : Value} {Q : Value → Shared → Prop} {A : Around} {E : Value → Shared → Prop} (hn : s.heap.Ns L m) (hv : m x = some v) (h : Q v s)
    (hk : scope.kind = .function := by rfl) (hl : (envOfC name scope L a cd).kindOf x = some .local := by rfl) (hd : (x == ("__debug__" : Str)) = false := by decide) :
    wpAny M A (eval (.Name x pos) (envOfC name scope L a cd)) Q E s := wpAny_Name (wpAny_loadName_local hk hl hn hv h) hd
/-- what __init__ leaves of a fresh exception at x -/
structure InitEnd (h h' : Heap) (x C dx t1 : Addr) (v : Value) : Prop where
  keep : ∀ b o, b ≠ x → h.get? b = some o → h'.get? b = some o
  obj : h'.get? x = some { cls := .ref C, dict := some dx, data := .fields #[.ref t1, .none, .none, .none, .bool false, .none] }
  dbig : h.objs.size ≤ dx
  dne : dx ≠ x
  ns : h'.Ns1 dx (fun y => if y = "at" then some v else none)
/-- a made BadText -/
structure OwnMade (h h' : Heap) (e C d : Addr) (v : Value) : Prop where
  keep : ∀ b o, h.get? b = some o → h'.get? b = some o
  new : h.objs.size ≤ e
  obj : ∃ oe vs, h'.get? e = some oe ∧ oe.cls = .ref C ∧ oe.dict = some d ∧ oe.data = .fields vs ∧ vs[1]? = some .none
  dbig : h.objs.size ≤ d
  dne : d ≠ e
  ns : h'.Ns1 d (fun y => if y = "at" then some v else none)
section
variable {prog : Program} {w : World} {A : Around} {E : Value → Shared → Prop} {R : Result → Shared → Prop} {s : Shared} {K : Frag} {mg : Str → Option Value} {C D fI : Addr}
theorem bad_init (T : BadTxt K mg C D fI) {x t0 : Addr} {v : Value} (X : K.In s.heap) (hlim : s.heap.NoLimit) (hx : s.heap.get? x = some (excO C t0)) (hroom : A.depth < recursionLimit)
    (hq : ∀ h' tk dx, InitEnd s.heap h' x C dx t0 v → R (.ok (.ret .none)) { s with heap := h', toks := tk }) :
    codeAny (model prog w) A (.call (.ref fI) ⟨[.ref x, v], []⟩) R s := by
  obtain ⟨oc, od, doc, pm, an, cdv, ct, osl, p1, p2, q1, q2, q3, q4, ho, hcd⟩ := T.fn
  obtain ⟨nm, q, N, bs, sn, sub, ab, col, dd, k0, k1, k2, k3, k5, hC⟩ := T.cls
  have hcl : clsIn K C = some { name := nm, bases := bs, mro := [.ref C, .ref D, .type "Exception", .type "BaseException", .type "object"], ns := N, qualname := q, hasDict := true, slotNames := sn, subclasses := sub, abstract := ab, collection := col, hasDel := false } := by unfold clsIn; rw [hC] <;> rfl
  refine Att.call_fn (binds := [("self", .ref x), ("at", v)]) X hlim ho hcd hroom (BindsTo.of_eq (by first | rfl | with_unfolding_all rfl)) (by first | rfl | decide | with_unfolding_all rfl) (fun s1 IC => ?_) rfl rfl rfl
  obtain ⟨h1, tk1, rfl⟩ := IC.toInCall.same
  have k : ∀ b o, s.heap.get? b = some o → h1.get? b = some o := IC.toInCall.keep
  have hn := IC.toInCall.ns
  have X1 : K.In h1 := X.keeps k
  have hx1 := k _ _ hx
  -- self.at = at
  show wpAny _ _ (execs _ _) _ _ _
  refine wpAny_execs_cons (plainObj_wpAny_Assign_Attribute ?_)
  refine ldC (v := v) hn (by first | rfl | with_unfolding_all rfl | kernel_rfl) (ldC (v := .ref x) hn (by first | rfl | with_unfolding_all rfl | kernel_rfl) ?_)
  refine set_plain X1 (ox := excO C t0) (od := none) ⟨hx1, rfl, rfl, trivial⟩ T.sa ?_
  refine store_first X1 hx1 hcl ?_ rfl (by first | rfl | simp) rfl T.noN (fun h3 tk3 dx k3 dn dne hx3 hn3 => ?_)
  · show refuseLoop (.ref x) "__setattr__" [.ref C, .ref D, .type "Exception", .type "BaseException", .type "object"] = pure ()
    rw [refuseLoop_ref, refuseLoop_ref]
    exact F.store_Exception.passes _
  show wpAny _ _ (execs _ _) _ _ _
  have z : s.heap.objs.size < h1.objs.size := hn.lt
  exact wpAny_execs_nil (hq h3 tk3 dx ⟨fun b o hb e => k3 b o hb (k b o e), hx3, Nat.le_of_lt (Nat.lt_of_lt_of_le z dn), dne, hn3⟩)
theorem tail_has (D : Addr) (X : String) : ([.ref D, .type "Exception", .type "BaseException", .type "object"] : List Value).contains (.type X) = ([.type "Exception", .type "BaseException", .type "object"] : List Value).contains (.type X) := by
  rw [List.contains_cons]
  rfl
theorem bad_made (T : BadTxt K mg C D fI) {v : Value} (X : K.In s.heap) (hlim : s.heap.NoLimit) (hroom : A.depth + 1 < recursionLimit)
    (hq : ∀ h' tk e d, OwnMade s.heap h' e C d v → R (.ok (.ret (.ref e))) { s with heap := h', toks := tk }) :
    codeAny (model prog w) A (.call (.ref C) ⟨[v], []⟩) R s := by
  obtain ⟨nm, q, N, bs, sn, sub, ab, col, dd, k0, k1, k2, k3, k5, hC⟩ := T.cls
  obtain ⟨hp, g, dr, tk, os⟩ := s
  have k : ∀ b o, hp.get? b = some o → ((hp.push (kdv_tup [v])).push (excO C hp.objs.size)).get? b = some o := fun b o e => Heap.get?_push_of_some _ (Heap.get?_push_of_some _ e)
  have hget : ((hp.push (kdv_tup [v])).push (excO C hp.objs.size)).get? (hp.objs.size + 1) = some (excO C hp.objs.size) := by heap_get
  refine call_own F.excBase_Exception (tail_has D) (X _ _ hC) (looks_findIn X T.iC) (fun self => bind_fn X self T.tC) (by show 1 ≤ sizeLine; rw [sizeLine_eq]; omega) ?_
  refine bad_init (s := ⟨(hp.push (kdv_tup [v])).push (excO C hp.objs.size), g, dr, tk, os⟩) T (X.keeps k) (hlim.keeps k) hget ?_ fun h' tk' dx ⟨k', hx, dn, dne, hns⟩ => ?_
  · show A.depth + 1 < recursionLimit
    exact hroom
  · have old : ∀ b o, hp.get? b = some o → h'.get? b = some o := fun b o e => k' b o (Nat.ne_of_lt (Nat.lt_succ_of_lt (Heap.lt_size e))) (k b o e)
    have z : hp.objs.size + 1 + 1 ≤ dx := by
      first
        | (simpa only [Heap.size_push] using dn)
        | exact dn
        | (have q := dn; rw [Heap.size_push, Heap.size_push] at q; exact q)
    exact ⟨rfl, hq h' tk' (hp.objs.size + 1) dx ⟨old, Nat.le_succ _, ⟨_, _, hx, rfl, rfl, rfl, rfl⟩, Nat.le_trans (Nat.le_trans (Nat.le_succ _) (Nat.le_succ _)) z, dne, hns⟩⟩
end
end BadX
end PySem
namespace Eo
open PySem PySem.Spec PyProof.Rows L2
theorem relO_bad {v : V} {v' : Value} (r : RelV v v') (f : Str) : RelO (List.lookup f [(("at" : Str), v)]) (if f = "at" then some v' else none) := by
  by_cases hw : f = "at"
  · subst hw
    rw [if_pos rfl]
    have q : List.lookup ("at" : Str) [(("at" : Str), v)] = some v := by simp [List.lookup]
    rw [q]
    exact r
  · rw [if_neg hw]
    have qw : (f == ("at" : Str)) = false := by simpa using hw
    have q2 : List.lookup f [(("at" : Str), v)] = none := by simp [List.lookup, qw]
    rw [q2]
    trivial
section
variable {X : Cx} {C D fI : Addr}
/-- BadText(e) -/
def tMkBad (C : Addr) (ta : TA) : L2.St → Hp → XK → Prop := fun σ H Q => ta σ H fun vs H1 => ∃ v, vs = [v] ∧ ∀ d, H1 d = none → Q (.ref C) (some d) (upd H1 d (.xd [(("at" : Str), v)]))
theorem pmk_bad {a : Expr} {ta : TA} {p pos : Pos} {k : Nat} (T : PySem.BadX.BadTxt X.K X.mg C D fI) (hr : Room k X.A) (ha : PA X [a] ta) (hg : Gl X "BadText" := by rfl)
    (he : starEach (a :: []) X.env = (false, eval a X.env) :: starEach [] X.env := by rfl) (hpl : (backTo pos (starEach [] X.env)).any (·.1) = false := by rfl) :
    PMk X (.Call (.Name "BadText" p) [a] [] pos) (tMkBad C ta) := by
  intro pins s σ H Q I h
  refine wpAny_Call_Name_kw (ld_glob I hg T.gC ?_)
  refine PySem.W.callWith_K (h₀ := X.base) I.ok.mod.kin T.kC (thn (ha.run pos pins s σ H _ I h) fun us s1 hh => ?_) he hpl
  obtain ⟨vs, H1, I1, r1, v, ev, q1⟩ := hh
  subst ev
  refine ⟨I1.kIn, ?_⟩
  cases r1 with
  | cons rv rn =>
    rename_i v' us'
    cases rn
    show wpAny _ _ (call (.ref C) [v']) _ _ _
    have hlim := I1.nolimit
    obtain ⟨hp, g, dr, tk, os⟩ := s1
    refine wpAny_call (PySem.BadX.bad_made T I1.kIn hlim (by have := hr.dp; omega) fun h' tk' e d M => ?_)
    show MkP X pins σ Q (.ref e) ⟨h', g, dr, tk', os⟩
    obtain ⟨oe, fv, hoe, hc, hd, hdat, h1⟩ := M.obj
    have hns := M.ns
    obtain ⟨G', g1, g2⟩ := restrict h' fun b => decide (b ≠ e)
    have gk : ∀ b, b ≠ e → G'.get? b = h'.get? b := fun b hb => g1 b (decide_eq_true hb)
    have ge : G'.get? e = none := g2 e (by simp)
    have old : ∀ b o, hp.get? b = some o → G'.get? b = some o := fun b o q => (gk b (Nat.ne_of_lt (Nat.lt_of_lt_of_le (Heap.lt_size q) M.new))).trans (M.keep b o q)
    have ob : ObjOk X.prog X.w (upd H1 d (.xd [(("at" : Str), v)])) G' d (.xd [(("at" : Str), v)]) :=
      ⟨_, hns.at (fun o q => (gk d M.dne).trans q), fun f => relO_bad rv f⟩
    have J : Inv X pins σ (upd H1 d (.xd [(("at" : Str), v)])) ⟨G', g, dr, tk', os⟩ := I1.laid (t' := tk') old M.dbig ob
    refine ⟨e, oe, fv, ⟨G', g, dr, tk', os⟩, _, .ref C, some d, rfl, J, fun b o q => ?_, ge, hoe, ⟨hc, hd⟩, hdat, h1, ?_, rfl, I1.bare, raises_own T.exC T.tyC, q1 d (I1.hok.fresh M.dbig)⟩
    · by_cases hb : b = e
      · have q' : G'.get? b = some o := q
        rw [hb, ge] at q'; cases q'
      · exact (gk b hb).symm.trans q
    · rw [upd_ne (Ne.symm M.dne)]
      exact I1.hok.fresh M.new
/-- raise BadText(e) -/
def tRaiseBad (C : Addr) (W : WX) (ta : TA) : TS := fun _ σ H => tMkBad C ta σ H fun cls d H' => W cls d σ H'
theorem ps_raiseBad {a : Expr} {ta : TA} {W : WX} {p pos pos2 : Pos} {k : Nat} (hc : X.calm = true) (T : PySem.BadX.BadTxt X.K X.mg C D fI) (hr : Room k X.A) (tk : Takes X W) (ha : PA X [a] ta) (hg : Gl X "BadText" := by rfl)
    (he : starEach (a :: []) X.env = (false, eval a X.env) :: starEach [] X.env := by rfl) (hpl : (backTo pos (starEach [] X.env)).any (·.1) = false := by rfl) :
    PS X (.Raise (some (.Call (.Name "BadText" p) [a] [] pos)) none pos2) (tRaiseBad C W ta) := ps_raise hc tk (pmk_bad T hr ha hg he hpl)
/-- e.at, e the exception that the suite holds (at a; its class cls, its dict d) -/
def tByBad (C : Addr) (a : Addr) (cls : Value) (d : Option Addr) (te : TE) : TE := fun σ H Q => te σ H fun x H1 => x = .ref a ∧ cls = .ref C ∧ ∃ (dd : Addr) (v : V), d = some dd ∧ H1 dd = some (.xd [(("at" : Str), v)]) ∧ Q v H1
theorem pe_byBad {a : Addr} {oe : Obj} {cls : Value} {d : Option Addr} {pn : List (Addr × Obj)} {e : Expr} {te : TE} {pos : Pos} (T : PySem.BadX.BadTxt X.K X.mg C D fI) (hz : Zc cls d oe) (hf : ∃ vs, oe.data = .fields vs) (he : PE (X.suite a ((a, oe) :: pn)) e te)
    (hb : attributeBase e "at" X.env (eval e X.env) = eval e X.env := by rfl) :
    PE (X.suite a ((a, oe) :: pn)) (.Attribute e "at" pos) (tByBad C a cls d te) := by
  refine ⟨fun pins s σ H Q I h => ?_⟩
  refine attr_of hb (thn (he.run pins s σ H _ I h) fun u s1 hh => ?_)
  obtain ⟨x, H1, I1, rx, ex, ec, dd, v, ed, ea, q⟩ := hh
  subst ex
  obtain rfl : u = Value.ref a := rx
  subst ec
  subst ed
  obtain ⟨ha, _⟩ := I1.pin (a, oe) (List.mem_append_left _ List.mem_cons_self)
  obtain ⟨vs, hd⟩ := hf
  have hx : ObjOk X.prog X.w H1 s1.heap dd (.xd [(("at" : Str), v)]) := I1.hok dd _ ea
  obtain ⟨mA, hns, hr⟩ := hx
  obtain ⟨od, ho, hl⟩ := lookIn_ns hns
  have l : List.lookup ("at" : Str) [(("at" : Str), v)] = some v := by simp [List.lookup]
  obtain ⟨u, hu, ru⟩ := RelO.some_of (v := v) (o := mA "at") (by rw [← l]; exact hr "at")
  have J : PySem.W.InstAt s1.heap a oe C (some od) := ⟨ha, hz.1, by unfold PySem.W.notCls; rw [hd] <;> rfl, by rw [hz.2]; exact ho⟩
  exact HandSPX.exc_get I1.kIn J T.ga T.gg T.exC (PySem.W.findObj_own T.hdC T.noN rfl (by rw [hl, hu])) (handed_of ru) ⟨v, H1, I1.tok _, ru, q⟩
end
end Eo
/-! The law's own call: its body runs where no repr is under way (the layer's contracts do not tell that), so its contract is of this one call. -/
namespace Eo
open PySem PySem.Spec PyProof.Rows L2
/-- the def at f, called once from around A, keeps the promise -/
def OnceOk (P : Program) (w : World) (K : PySem.W.Frag) (mg : Str → Option Value) (base : Heap) (A : Around) (f : Addr) (fd : FuncData) (ps : List Str) (sp : Sp) : Prop :=
  ∀ (s : Shared) (H : Hp) (us : List Value) (vs : List V) (Q : VK), Env0 P w K mg base A [] s H → BindsTo s fd ⟨us, []⟩ (ps.zip us) → Vals vs us → sp vs H Q E0 →
    codeAny (model P w) A (.call (.ref f) ⟨us, []⟩) (CR CX0 [] P w H s Q E0) s
theorem once {P : Program} {w : World} {K : PySem.W.Frag} {mg : Str → Option Value} {base : Heap} {A : Around} {k : Nat} {x qual : Str} {st : Stmt} {f : Addr} {fd : FuncData} {N ps : List Str} {sp : Sp}
    (F : Fun K x qual st f fd) (S : FnScope N ps (defScope st)) (len : ∀ vs H Q, sp vs H Q E0 → vs.length = ps.length) (hr : Room (k + 1) A) (hg : A.guards = some [])
    (body : ∀ (cdv : Value) (s : Shared) (H : Hp) (vs : List V) (Q : VK), Room k (A.deeper (envOfC qual (defScope st) s.heap.objs.size f cdv)) → (A.deeper (envOfC qual (defScope st) s.heap.objs.size f cdv)).guards = some [] → sp vs H Q E0 →
      ∃ t, PSs (cxOf CX0 P w K mg base N qual (defScope st) f cdv A [] s H E0).nox (defBody st) t ∧ t { nx := fun _ H' => Q .non H', rt := Q } (start N vs) H) : OnceOk P w K mg base A f fd ps sp := by
  obtain ⟨oc, od, kV, doc, pm, an, cdv, ct, osl, rfl, lk, hcd⟩ := F.ex
  intro s H us vs Q e0 hb rv hs
  have base_kept : ∀ b o, base.get? b = some o → s.heap.get? b = some o := fun b o q => (e0.bs b o q).1
  have room := hr.depth
  have places : ∀ y ∈ ps.zip us, (defScope st).names.lookup y.1 = some .local ∨ ((defScope st).names.lookup y.1 = some .cell ∧ ((cellsFrom (s.heap.objs.size + 1) (defScope st).names []).lookup y.1).isSome = true) := by
    rintro ⟨n, v⟩ hy
    exact (S.par n (List.of_mem_zip hy).1).imp id fun q => ⟨q, PySem.W.cellsFrom_some _ _ _ (.inl q)⟩
  refine codeAny_call_function room (e0.mod.kin.keeps base_kept _ _ lk) rfl S.co S.gen rfl (PySem.W.codeRec_of (e0.mod.kin.keeps base_kept) hcd) (hb _ _ _ _ ?_)
  refine wpAny_newFunctionEnv_cells S.kind places fun env he s1 ic => ?_
  subst he
  refine ⟨(e0.mod.nolimit.keeps base_kept).keeps ic.toInCall.keep, codeAny_func ?_⟩
  obtain ⟨t, ht, hq⟩ := body cdv s H vs Q (hr.deeper _) hg hs
  have I := inv_start (CX := CX0) (P := P) (w := w) (K := K) (mg := mg) (base := base) (E := E0) S hr.hd e0 (len _ _ _ hs) rv ic
  refine wpAny_mono (ht.nox.run [] s1 (start N vs) H _ I hq) (fun fl s' z => ?_) fun _ _ z => z
  cases fl with
  | ret u =>
    obtain ⟨v, σ', H', J, r, q⟩ := z
    exact ⟨v, H', J.os, J.bare, J.base, J.hok, r, q⟩
  | next =>
    obtain ⟨σ', H', J, q⟩ := z
    exact ⟨V.non, H', J.os, J.bare, J.base, J.hok, rfl, q⟩
  | brk => exact z.elim fun _ z => z.elim fun _ z => z.2.elim
  | cont => exact z.elim fun _ z => z.elim fun _ z => z.2.elim
/-- the heap at the law's entry: nothing is tracked but the script -/
def only1 (a : Addr) (o : Obj) (xs : List V) : Hp := fun b => if b = a then some (.frz o (.lst xs)) else none
theorem call_once {P : Program} {w : World} {K : PySem.W.Frag} {mg mb : Str → Option Value} {fa a : Addr} {fd : FuncData} {x : Str} {sp : Sp} {s1 : Shared} {us : List Value} {ns : List Int}
    (KX : K.In s1.heap) (gns : s1.heap.Ns mainGlobals mg) (bns : s1.heap.Ns builtinsNs mb) (boot : ∀ x : Str, x ≠ "__name__" → mb x = bootBuiltins x) (lim : s1.heap.NoLimit) (gen : s1.gens = #[])
    (ha : s1.heap.get? a = some { cls := .type "list", data := .seq us.toArray }) (isInts : IntsAre us ns) (len : ns.length ≤ sizeLine)
    (F : ∀ base : Heap, K.In base → base.Ns mainGlobals mg → OnceOk P w K mg base callerA fa fd [x] sp) (binds : ∀ (s : Shared) (u : Value), BindsTo s fd ⟨[u], []⟩ [(x, u)])
    (hsp : ∀ H : Hp, SqL K H a (ns.map V.int) → sp [.ref a] H (fun v _ => v = .bl true) E0) :
    codeAny (model P w) callerA (.call (.ref fa) ⟨[.ref a], []⟩) (fun r s' => r = .ok (.ret (.bool true)) ∧ OldK s1.heap s'.heap ∧ s'.os = s1.os ∧ AllBare s'.gens) s1 := by
  have rv := vals_ints isInts
  have ulen := isInts.length
  -- from any abstract heap that tracks the script at most
  have from_ : ∀ H : Hp, SqL K H a (ns.map V.int) → HOk P w H s1.heap → (∀ b u, H b = some u → b = a ∧ ∃ o xs, u = .frz o (.lst xs)) → (H a ≠ none → K.lookup a = none) →
      codeAny (model P w) callerA (.call (.ref fa) ⟨[.ref a], []⟩) (fun r s' => r = .ok (.ret (.bool true)) ∧ OldK s1.heap s'.heap ∧ s'.os = s1.os ∧ AllBare s'.gens) s1 := by
    intro H hS ok few notK
    have untracked : ∀ {b : Addr}, b ≠ a → H b = none := fun {b} hb => by
      cases q : H b with
      | none => rfl
      | some u => exact absurd (few b u q).1 hb
    have dict_free : ∀ {b : Addr} {o : Obj} {es : Array DictEntry} {ep : Nat}, s1.heap.get? b = some o → o.data = .dict es ep → H b = none := fun {b o es ep} e d => by
      refine untracked fun z => ?_
      rw [z, ha] at e
      cases e
      cases (show Data.seq us.toArray _ = Data.dict es ep from d)
    have ns_kept : ∀ {b : Addr} {m : Str → Option Value}, s1.heap.Ns b m → (hidT s1.heap H).Ns b m := by
      rintro b m ⟨o, es, ep, e, d, r⟩
      exact ⟨o, es, ep, hidT_get e (dict_free e d), d, r⟩
    have k_kept : K.In (hidT s1.heap H) := fun b o e => hidT_get (KX b o e) (by
      by_cases hb : b = a
      · cases q : H b with
        | none => rfl
        | some u =>
          have z := notK (by rw [← hb, q]; exact fun z => by cases z)
          rw [← hb, e] at z
          cases z
      · exact untracked hb)
    have md : Mod K mg (hidT s1.heap H) := ⟨k_kept, ns_kept gns, ⟨mb, ns_kept bns, boot⟩, lim.imp fun mc q => ⟨ns_kept q.1, q.2⟩⟩
    have e0 : Env0 P w K mg (hidT s1.heap H) callerA [] s1 H :=
      { frames := rfl, mod := md, bs := fun b o e => of_hidT e, bsz := Nat.le_of_eq (hidT_size _ _), funs := trivial, frf := fun b hb => (nomatch (show b ∈ ([] : List Addr) from hb)), hok := ok, bare := .of_eq gen }
    refine codeAny_mono (F _ k_kept (ns_kept gns) s1 H [.ref a] [.ref a] _ e0 (binds s1 (.ref a)) (.cons rfl .nil) (hsp H hS)) fun r s' z => ?_
    match r, z with
    | .error e, z => exact False.elim z
    | .ok .next, z => exact False.elim z
    | .ok .brk, z => exact False.elim z
    | .ok .cont, z => exact False.elim z
    | .ok (.ret u), ⟨v, H', os, bare, un, ok', rv', q⟩ =>
      have q : v = .bl true := q
      subst q
      cases (show u = Value.bool true from rv')
      refine ⟨rfl, OldK.of_keep fun b o e => ?_, os, bare⟩
      cases hb : H b with
      | none => exact un.keep b o e hb (fun z => nomatch (show b ∈ ([] : List Addr) from z)) (fun z => nomatch z)
      | some u =>
        obtain ⟨_, ob, xs, rfl⟩ := few b u hb
        have before := (ok b _ hb).1
        have behind := (ok' b _ (un.frzs b ob _ hb)).1
        rw [e] at before
        cases before
        exact behind
  cases hk : K.lookup a with
  | some o =>
    have e := KX a o hk
    rw [ha] at e
    cases e
    refine from_ (fun _ => none) (.inr ⟨_, us.toArray, _, hk, rfl, rfl, rfl, by rw [List.size_toArray, ulen]; exact len, by simpa using rv⟩) (fun b u z => nomatch z) (fun b u z => nomatch z) fun z => absurd rfl z
  | none =>
    have at_a : only1 a { cls := .type "list", data := .seq us.toArray } (ns.map V.int) a = some (.frz { cls := .type "list", data := .seq us.toArray } (.lst (ns.map V.int))) := if_pos rfl
    have at_b : ∀ b u, only1 a { cls := .type "list", data := .seq us.toArray } (ns.map V.int) b = some u → b = a ∧ u = .frz { cls := .type "list", data := .seq us.toArray } (.lst (ns.map V.int)) := fun b u z => by
      by_cases hb : b = a
      · subst hb
        rw [at_a] at z
        exact ⟨rfl, (Option.some.inj z).symm⟩
      · exact nomatch (if_neg hb).symm.trans z
    refine from_ (only1 a _ (ns.map V.int)) (.inl (.inr ⟨_, at_a⟩)) (fun b u z => ?_) (fun b u z => ⟨(at_b b u z).1, _, _, (at_b b u z).2⟩) fun _ => hk
    obtain ⟨rfl, rfl⟩ := at_b b u z
    exact ⟨ha, by rw [List.length_map]; exact len, us, _, rv, ha⟩
/-- the end of the law's row -/
theorem walk_once {l : PySem.W.OpenLaw} {n : Nat} {q : Program} {loose : List Str} {XP : (Str → Option Value) → Heap → Prop} {YP : World → Heap → Prop} {d : DefRec} {K : Params → PySem.W.Frag} {sp : PySem.W.Frag → Sp} {x : Str}
    (hn : l.most = some n) (hn2 : n ≤ sizeLine) (hdf : d.params.defaults = []) (hY : ∀ (w : World) (h : Heap), YP w h → (K w.params).In h)
    (F : ∀ (w : World) (mg : Str → Option Value) (fa : Addr) (h : Heap), (K w.params).In h → h.Ns mainGlobals mg → mg d.name = some (.ref fa) →
      ∃ fd : FuncData, (∀ (s : Shared) (u : Value), BindsTo s fd ⟨[u], []⟩ [(x, u)]) ∧ ∀ base : Heap, (K w.params).In base → base.Ns mainGlobals mg → OnceOk l.prog w (K w.params) mg base callerA fa fd [x] (sp (K w.params)))
    (hsp : ∀ (K : PySem.W.Frag) (H : Hp) (a : Addr) (ns : List Int), ns.length ≤ n → SqL K H a (ns.map V.int) → sp K [.ref a] H (fun v _ => v = .bl true) E0) :
    PySem.W.WalkO q loose XP YP l.row.toRowW d [] (fun f vs => PySem.call f vs) := by
  refine Att.attach_call hn hdf fun w s0 s1 mg mb fa o pm cd doc a vs ns G Y ho hd hcd hmg hobj hints hlen hg => ?_
  obtain ⟨fd, hb, hF⟩ := F w mg fa _ (hY w _ Y) G.T.g hmg
  exact call_once (hY w _ Y) G.T.g G.T.b G.T.builtins G.T.nolimit hg hobj hints (Nat.le_trans hlen hn2) hF hb fun H hS => hsp _ H a ns hlen hS
end Eo
/-! How a tree lies in the heap; what repr says of it; what is kept. -/
namespace Eo
open PySem PySem.Spec PyProof.Rows L2
/-- a text by its signs -/
abbrev Sx (cs : List Nat) : Str := ⟨cs.toArray⟩
theorem Sx_inj {a b : List Nat} (h : Sx a = Sx b) : a = b := by
  have q := congrArg (fun s : Str => s.cps.toList) h
  simpa using q
theorem Sx_len (a : List Nat) : (Sx a).length = a.length := by
  show a.toArray.size = a.length
  simp
theorem Sx_app (a b : List Nat) : Sx a ++ Sx b = Sx (a ++ b) := by
  show Str.mk (a.toArray ++ b.toArray) = Str.mk (a ++ b).toArray
  simp
/-- a tree, at v -/
inductive At (H : Hp) : V → T → Prop
  | nil : At H .non .nil
  | node {a : Addr} {vl vr : V} {g : List Nat} {l r : T} : H a = some (.tup [.str (Sx g), vl, vr]) → At H vl l → At H vr r → At H (.ref a) (.node g l r)
/-- the tuples stand -/
def Tups (H H' : Hp) : Prop := ∀ b xs, H b = some (.tup xs) → H' b = some (.tup xs)
theorem Tups.refl (H : Hp) : Tups H H := fun _ _ h => h
theorem Tups.trans {H H1 H2 : Hp} (a : Tups H H1) (b : Tups H1 H2) : Tups H H2 := fun c o h => b c o (a c o h)
theorem _root_.L2.Same.tups {H H' : Hp} (h : Same H H') : Tups H H' := fun b xs q => h b _ q
/-- an object that is no tuple is written -/
theorem Tups.write {H : Hp} {a : Addr} {o u : HO} (h : H a = some o) (n : ∀ xs, o ≠ .tup xs) : Tups H (upd H a u) := fun b xs q => by
  have e : b ≠ a := fun z => by
    rw [z, h] at q
    exact n xs (Option.some.inj q)
  rw [upd_ne e]
  exact q
theorem same_new {H : Hp} {p : Addr} (h : H p = none) (o : HO) : Same H (upd H p o) := fun b u q => by
  rw [upd_ne (ne_of_none q h)]
  exact q
theorem At.mono {H H' : Hp} (k : Tups H H') {v : V} {t : T} (h : At H v t) : At H' v t := by
  induction h with
  | nil => exact .nil
  | node e _ _ i1 i2 => exact .node (k _ _ e) i1 i2
theorem At.isNil {H : Hp} {v : V} {t : T} (h : At H v t) : decide (v = .non) = t.isNil := by
  cases h with
  | nil => rfl
  | node _ _ _ => rfl
/-! ### as data -/
def T.data : T → PyData
  | .nil => .none
  | .node g l r => .tuple [.str (Sx g), l.data, r.data]
theorem At.dp {K : PySem.W.Frag} {H : Hp} {v : V} {t : T} (h : At H v t) : Dp K H v t.data := by
  induction h with
  | nil => exact .non
  | node e _ _ i1 i2 => exact .tup (SqT.of e) (.cons (.str _) (.cons i1 (.cons i2 .nil)))
theorem data_showable : ∀ t : T, t.data.showable = true
  | .nil => rfl
  | .node g l r => by
    simp only [T.data, PyData.showable, PyData.showableAll, data_showable l, data_showable r, Bool.and_self]
theorem data_hasDict : ∀ t : T, t.data.hasDict = false
  | .nil => rfl
  | .node g l r => by
    simp only [T.data, PyData.hasDict, PyData.hasDictAll, data_hasDict l, data_hasDict r, Bool.or_self]
theorem data_depth : ∀ t : T, t.data.depth ≤ t.depth
  | .nil => Nat.le_refl _
  | .node g l r => by
    have h1 := data_depth l
    have h2 := data_depth r
    simp only [T.data, PyData.depth, PyData.depthAll, T.depth]
    omega
theorem signs_small {g : List Nat} (h : ∀ c ∈ g, small c = true) : ∀ c ∈ (Sx g).cps.toList, c < 16 ^ 8 := fun c hc => by
  have hc' : c ∈ g := by simpa using hc
  have q := h c hc'
  simp only [small, Bool.and_eq_true, decide_eq_true_eq] at q
  omega
theorem data_shown : ∀ t : T, t.ok → t.data.shown.length ≤ 30 * t.text.length
  | .nil, _ => by
    show ("None" : Str).length ≤ 30 * 1
    decide +kernel
  | .node g l r, h => by
    have h1 := data_shown l h.2.1
    have h2 := data_shown r h.2.2
    have h3 := StrLaws.reprText_len (Sx g) (signs_small h.1.all)
    have hg0 : (Sx g).length = g.length := Sx_len g
    rw [hg0] at h3
    have h4 := tupleText_len_le [reprText (Sx g), l.data.shown, r.data.shown]
    have h5 : (T.node g l r).data.shown = tupleText [reprText (Sx g), l.data.shown, r.data.shown] := by
      simp only [T.data, PyData.shown, PyData.shownAll]
    have hp : 1 ≤ g.length := by
      cases g with
      | nil => exact absurd rfl h.1.pos
      | cons c g => simp
    rw [h5]
    simp only [List.map_cons, List.map_nil, List.sum_cons, List.sum_nil, List.length_cons, List.length_nil] at h4
    by_cases e : (l.isNil && r.isNil) = true
    · have e1 := isNil_iff.mp (Bool.and_eq_true_iff.mp e).1
      have e2 := isNil_iff.mp (Bool.and_eq_true_iff.mp e).2
      have et : (T.node g l r).text = g := by
        show (if (l.isNil && r.isNil) = true then g else _) = g
        rw [if_pos e]
      subst e1
      subst e2
      have en : (PyData.shown T.nil.data).length = 4 := by
        show ("None" : Str).length = 4
        decide +kernel
      rw [et]
      rw [en] at h4
      omega
    · have et : (T.node g l r).text.length = g.length + 3 + l.text.length + r.text.length := by
        have q : (T.node g l r).text = g ++ 40 :: (l.text ++ 44 :: (r.text ++ [41])) := by
          show (if (l.isNil && r.isNil) = true then g else g ++ 40 :: (l.text ++ 44 :: (r.text ++ [41]))) = _
          rw [if_neg e]
        rw [q]
        simp only [List.length_append, List.length_cons, List.length_nil]
        omega
      rw [et]
      omega
/-- two things in a tuple -/
theorem shown_two (a b : PyData) : (PyData.tuple [a, b]).shown.length ≤ a.shown.length + b.shown.length + 7 := by
  have h4 := tupleText_len_le [a.shown, b.shown]
  have h5 : (PyData.tuple [a, b]).shown = tupleText [a.shown, b.shown] := by simp only [PyData.shown, PyData.shownAll]
  rw [h5]
  simp only [List.map_cons, List.map_nil, List.sum_cons, List.sum_nil, List.length_cons, List.length_nil] at h4
  omega
theorem shown_int {i : Int} (h : i.natAbs < 10 ^ 6) : (PyData.int i).shown.length ≤ 7 := by
  have e := int_text_length_le10 (k := 6) (by decide) h
  simp only [PyData.shown]
  show (Str.ofString (toString i)).length ≤ 7
  rw [PySem.ofString_length]
  omega
/-! ### the deck: a dict, its list of ints -/
def deckK (l : Addr) (m k : Int) : List (Key × V) := [(.inr "left", .ref l), (.inr "mixed", .int m), (.inr "draws", .int k)]
structure Deck (H : Hp) (d l : Addr) : Prop where
  ex : ∃ (ns : List Int) (m k : Int), H d = some (.dK (deckK l m k)) ∧ H l = some (.lst (ns.map V.int)) ∧ ns.length ≤ 63 ∧ 0 ≤ m ∧ m < 2147483647
/-- all but these two stand -/
def Keep2 (d l : Addr) (H H' : Hp) : Prop := ∀ b o, H b = some o → b ≠ d → b ≠ l → H' b = some o
theorem Keep2.refl (d l : Addr) (H : Hp) : Keep2 d l H H := fun _ _ h _ _ => h
theorem Keep2.trans {d l : Addr} {H H1 H2 : Hp} (a : Keep2 d l H H1) (b : Keep2 d l H1 H2) : Keep2 d l H H2 := fun c o h h1 h2 => b c o (a c o h h1 h2) h1 h2
theorem _root_.L2.Same.keep2 {d l : Addr} {H H' : Hp} (h : Same H H') : Keep2 d l H H' := fun b o q _ _ => h b o q
theorem Deck.keeps {d l : Addr} {H H' : Hp} (h : Deck H d l) (k : Same H H') : Deck H' d l := by
  obtain ⟨ns, m, j, h1, h2, h3⟩ := h.ex
  exact ⟨ns, m, j, k _ _ h1, k _ _ h2, h3⟩
theorem Deck.tups {d l : Addr} {H H' : Hp} (h : Deck H d l) (k : Keep2 d l H H') : Tups H H' := fun b xs q => by
  obtain ⟨ns, m, j, h1, h2, _⟩ := h.ex
  exact k b _ q (ne_of q h1 fun z => by cases z) (ne_of q h2 fun z => by cases z)
/-- what is new -/
theorem Deck.fresh {d l : Addr} {H H' : Hp} (h : Deck H d l) {b : Addr} (q : H b = none) (o : HO) : Deck (upd H b o) d l := h.keeps (same_new q o)
end Eo
/-! The text by places; what the top has left of built-ins and constants. -/
namespace Eo
open PySem PySem.Spec PyProof.Rows L2
def top (i : Nat) : Stmt := PySem.Challenge.pw_eyesonly_k03_whole_texts_of_trees.main.body.getD i (.Pass ⟨0, 0, 0, 0⟩)
abbrev sIsTuple : Stmt := top 8
abbrev sIsTag : Stmt := top 9
abbrev sIsTree : Stmt := top 10
abbrev sNeedTree : Stmt := top 11
abbrev sIsPlace : Stmt := top 12
abbrev sSubtree : Stmt := top 14
abbrev sNeedPlace : Stmt := top 20
abbrev sPartAt : Stmt := top 21
abbrev sTextOf : Stmt := top 22
abbrev sWritten : Stmt := top 23
abbrev sInit : Stmt := inClass (top 24) 0
abbrev sAdd : Stmt := inClass (top 24) 1
abbrev sEndTag : Stmt := inClass (top 24) 2
abbrev sTake : Stmt := inClass (top 24) 3
abbrev sTakeAw : Stmt := inClass (top 24) 4
abbrev sRead : Stmt := top 25
abbrev sDeck : Stmt := top 27
abbrev sDraw : Stmt := top 28
abbrev sPick : Stmt := top 29
abbrev sAny : Stmt := top 30
abbrev sPlaces : Stmt := top 31
abbrev sPart : Stmt := top 32
abbrev sTags : Stmt := top 33
abbrev sDrawn : Stmt := top 34
abbrev sChain : Stmt := top 35
abbrev sTreeText : Stmt := top 36
abbrev sReadTree : Stmt := top 37
abbrev sTreeOf : Stmt := top 38
abbrev sTold : Stmt := top 39
abbrev sBent : Stmt := top 40
abbrev sLaw : Stmt := top 41
/-- built-ins are still built-ins, constants stand -/
structure Txt (mg : Str → Option Value) : Prop where
  len : mg "len" = none
  int : mg "int" = none
  max : mg "max" = none
  list : mg "list" = none
  tuple : mg "tuple" = none
  range : mg "range" = none
  all : mg "all" = none
  repr : mg "repr" = none
  isi : mg "isinstance" = none
  enum : mg "enumerate" = none
  str : mg "str" = none
  small : ∃ t, mg "SMALL" = some (.str "abcdefghijklmnopqrstuvwxyz" t)
  longest : ∃ t, mg "LONGEST_TAG" = some (.int 8 t)
  tree : ∃ t, mg "TREE" = some (.str "tree" t)
  node : ∃ t, mg "NODE" = some (.str "node" t)
  comma : ∃ t, mg "COMMA" = some (.str "comma" t)
  close : ∃ t, mg "CLOSE" = some (.str "close" t)
/-! ### a def that may be called by its name -/
structure Cal (P : Program) (w : World) (K : PySem.W.Frag) (mg : Str → Option Value) (base : Heap) (k : Nat) (x : Str) (sp : Sp) : Prop where
  ex : ∃ (f : Addr) (fd : FuncData) (ps : List Str), FnOk P w K mg base CX0 k f fd ps sp ∧ mg x = some (.ref f) ∧ PySem.W.keepIn K (.ref f) = true ∧ Binds K fd ps []
/-- a def of the text as it stands behind the top, under its name -/
structure Df (K : PySem.W.Frag) (mg : Str → Option Value) (x : Str) (st : Stmt) (ps : List Str) (f : Addr) (fd : FuncData) : Prop where
  fn : Fun K x x st f fd
  mg : mg x = some (.ref f)
  b : Binds K fd ps []
theorem Df.cal {P : Program} {w : World} {K : PySem.W.Frag} {mg : Str → Option Value} {base : Heap} {k : Nat} {x : Str} {st : Stmt} {ps : List Str} {f : Addr} {fd : FuncData} {sp : Sp} (D : Df K mg x st ps f fd) (ok : FnOk P w K mg base CX0 k f fd ps sp) : Cal P w K mg base k x sp :=
  ⟨f, fd, ps, ok, D.mg, D.fn.kp, D.b⟩
section
variable {X : Cx} {k j : Nat} {x : Str} {sp : Sp} {p pos : Pos} {e : Expr} {es : List Expr} {t : TA}
theorem pe_c (c : Cal X.prog X.w X.K X.mg X.base k x sp) (hr : Room j X.A) (ha : PA X (e :: es) t) (hk : k ≤ j := by first | decide | omega) (hg : Gl X x := by rfl)
    (hdb : (x == ("__debug__" : Str)) = false := by decide) (he : starEach (e :: es) X.env = (false, eval e X.env) :: starEach es X.env := by rfl) (hpl : (backTo pos (starEach es X.env)).any (·.1) = false := by rfl) :
    PE X (.Call (.Name x p) (e :: es) [] pos) (tCall sp [] E0 t) := by
  obtain ⟨f, fd, ps, F, hm, kp, b⟩ := c.ex
  exact pe_call F (hr.mono hk) hg hm kp b .nil pass0 ha hdb he hpl
theorem pe_c0 (c : Cal X.prog X.w X.K X.mg X.base k x sp) (hr : Room j X.A) (hk : k ≤ j := by first | decide | omega) (hg : Gl X x := by rfl) (hdb : (x == ("__debug__" : Str)) = false := by decide) : PE X (.Call (.Name x p) [] [] pos) (tCall sp [] E0 tNil) := by
  obtain ⟨f, fd, ps, F, hm, kp, b⟩ := c.ex
  exact pe_call0 F (hr.mono hk) hg hm kp b .nil pass0 hdb
end
/-! ### reading and writing a dict whose pairs are known -/
theorem dget_of {H : Hp} {a : Addr} {kvs : List (Key × V)} {k : Key} {v : V} (h : H a = some (.dK kvs)) (e : valV kvs k = some v) : DGet H a (kV k) (some v) := by
  rw [← e]
  exact DGet.k h
theorem dput_of {H : Hp} {a : Addr} {kvs kvs' : List (Key × V)} {k : Key} {v : V} (h : H a = some (.dK kvs)) (hl : kvs.length < sizeLine) (e : putK kvs k v = kvs') : DPut H a (kV k) v (upd H a (.dK kvs')) := by
  rw [← e]
  exact DPut.k h hl
/-! ### the deck's dict -/
theorem kl1 : (Sum.inr ("left" : Str) : Key) ≠ .inr "mixed" := by decide +kernel
theorem kl2 : (Sum.inr ("left" : Str) : Key) ≠ .inr "draws" := by decide +kernel
theorem kl3 : (Sum.inr ("mixed" : Str) : Key) ≠ .inr "draws" := by decide +kernel
theorem deck_left (l : Addr) (m k : Int) : valV (deckK l m k) (.inr "left") = some (.ref l) := valV_pos rfl
theorem deck_mixed (l : Addr) (m k : Int) : valV (deckK l m k) (.inr "mixed") = some (.int m) := (valV_neg kl1).trans (valV_pos rfl)
theorem deck_draws (l : Addr) (m k : Int) : valV (deckK l m k) (.inr "draws") = some (.int k) := (valV_neg kl2).trans ((valV_neg kl3).trans (valV_pos rfl))
theorem put_draws (l : Addr) (m k j : Int) : putK (deckK l m k) (.inr "draws") (.int j) = deckK l m j := by
  unfold putK deckK
  rw [if_pos (by simp)]
  simp only [List.map_cons, List.map_nil]
  rw [if_neg kl2, if_neg kl3, if_pos trivial]
theorem put_mixed (l : Addr) (m k j : Int) : putK (deckK l m k) (.inr "mixed") (.int j) = deckK l j k := by
  unfold putK deckK
  rw [if_pos (by simp)]
  simp only [List.map_cons, List.map_nil]
  rw [if_neg kl1, if_pos trivial, if_neg (Ne.symm kl3)]
end Eo
/-! _law_draw: a number below many. -/
namespace Eo
open PySem PySem.Spec PyProof.Rows L2
def spDraw : Sp := fun vs H Q _ => ∃ (d l : Addr) (many : Int), vs = [.ref d, .int many] ∧ Deck H d l ∧ 1 ≤ many ∧ many ≤ 1000000 ∧
  ∀ (r : Int) (H' : Hp), 0 ≤ r → r < many → Deck H' d l → Keep2 d l H H' → Q (.int r) H'
theorem fmod_in (a : Int) {m : Int} (h : 1 ≤ m) : 0 ≤ a.fmod m ∧ a.fmod m < m := by
  rw [Int.fmod_eq_emod_of_nonneg a (by omega)]
  exact ⟨Int.emod_nonneg a (by omega), Int.emod_lt_of_pos a (by omega)⟩
theorem emod_in (a : Int) {m : Int} (h : 1 ≤ m) : 0 ≤ a % m ∧ a % m < m := ⟨Int.emod_nonneg a (by omega), Int.emod_lt_of_pos a (by omega)⟩
section
variable {P : Program} {w : World} {K : PySem.W.Frag} {mg : Str → Option Value} {base : Heap}
theorem scDraw : FnScope ["_law_deck_here", "_law_many", "_law_cell", "_law_figure"] ["_law_deck_here", "_law_many"] (defScope sDraw) := ⟨rfl, rfl, rfl, by decide +kernel, rfl, by decide +kernel, by decide +kernel⟩
theorem ok_draw {f : Addr} {fd : FuncData} (F : Fun K "_law_draw" "_law_draw" sDraw f fd) (T : Txt mg) : FnOk P w K mg base CX0 1 f fd ["_law_deck_here", "_law_many"] spDraw := by
  refine F.ok scDraw (fun vs H Q E h => ?_) (fun cdv A outer s H vs Q E hr h => ?_)
  · obtain ⟨d, l, many, rfl, _⟩ := h
    rfl
  obtain ⟨d, l, many, rfl, D, h1, h2, k⟩ := h
  have hu := hu_of hr
  refine ⟨_, pss_cons (ps_dput hu (pv 0) pe_str (pe_op op_add (pe_dget hu (pv 0) pe_str (fun _ _ => rfl)) pe_int) rfl)
    (C8.pss_cut (ps_if (pt_cmpR (op_neNil hr.units0) (pe_dget hu (pv 0) pe_str (fun _ _ => rfl)) (pe_lst pa_nil) (nomark _))
      (pss_cons (ps_set (i := 2) scDraw.nd rfl (Or.inl rfl) (pe_bm0 PySem.F.plainAttrs_list PySem.F.slot_list_pop PySem.F.type_list_pop mt_pop (pe_dget hu (pv 0) pe_str (fun _ _ => rfl))))
      (pss_cons (ps_if (pt_cmpR op_ge (pv 2) (pe_op op_pow pe_int pe_int) (nomark _))
          (pss_cons (ps_expr (pe_bm PySem.F.plainAttrs_list PySem.F.slot_list_append PySem.F.type_list_append mt_append (pe_dget hu (pv 0) pe_str (fun _ _ => rfl)) (pa_cons (pe_op op_fdivN (pv 2) (pe_callB (call_max2 rfl) rfl T.max boot_max (pa_cons pe_int (pa_cons (pv 1) pa_nil)))) pa_nil)))
          (pss_one (ps_ret (pe_op op_modN (pe_callTy call_int1 rfl T.int boot_int (pa_cons (pv 2) pa_nil)) (pv 1)))))
          pss_nil)
      (pss_one (ps_dput hu (pv 0) pe_str (pe_op op_mod (pe_callTy call_int1 rfl T.int boot_int (pa_cons (pe_op op_add (pe_op op_add (pe_op op_mul (pe_dget hu (pv 0) pe_str (fun _ _ => rfl)) pe_int) (pe_op op_mod (pe_callTy call_int1 rfl T.int boot_int (pa_cons (pv 2) pa_nil)) pe_int)) pe_int) pa_nil)) pe_int) rfl))))
      pss_nil)
    (pss_cons (ps_set (i := 3) scDraw.nd rfl (Or.inl rfl) (pe_op op_mod (pe_callTy call_int1 rfl T.int boot_int (pa_cons (pe_op op_add (pe_dget hu (pv 0) pe_str (fun _ _ => rfl)) (pe_op op_mul pe_int (pe_dget hu (pv 0) pe_str (fun _ _ => rfl)))) pa_nil)) pe_int))
    (pss_cons (ps_set (i := 3) scDraw.nd rfl (Or.inl rfl) (pe_op op_mod (pe_callTy call_int1 rfl T.int boot_int (pa_cons (pe_op op_add (pe_op op_add (pe_op op_mul (pv 3) (pv 3)) (pe_op op_mul pe_int (pe_dget hu (pv 0) pe_str (fun _ _ => rfl)))) pe_int) pa_nil)) pe_int))
    (pss_cons (ps_set (i := 3) scDraw.nd rfl (Or.inl rfl) (pe_op op_mod (pe_callTy call_int1 rfl T.int boot_int (pa_cons (pe_op op_add (pe_op op_mul (pv 3) pe_int) pe_int) pa_nil)) pe_int))
    (pss_one (ps_ret (pe_op op_modN (pe_callTy call_int1 rfl T.int boot_int (pa_cons (pe_op op_fdiv (pv 3) pe_int) pa_nil)) (pv 1)))))))), ?_⟩
  obtain ⟨ns, m, j, e1, e2, hn, hm0, hm1⟩ := D.ex
  have ndl : d ≠ l := ne_of e1 e2 fun z => by cases z
  -- deck["draws"] = deck["draws"] + 1
  refine ⟨_, rfl, d, _, rfl, dget_of e1 (deck_draws l m j), _, _, rfl, rfl, _, rfl, d, _, rfl, dput_of e1 (by show 3 < sizeLine; decide) (put_draws l m j _), ?_⟩
  have a1 : upd H d (.dK (deckK l m (j + 1))) d = some (.dK (deckK l m (j + 1))) := upd_same
  have a2 : upd H d (.dK (deckK l m (j + 1))) l = some (.lst (ns.map V.int)) := by
    rw [upd_ne ndl.symm]
    exact e2
  have kp1 : Keep2 d l H (upd H d (.dK (deckK l m (j + 1)))) := fun b o q h1 h2 => by
    rw [upd_ne h1]
    exact q
  -- what holds behind the if
  refine ⟨fun σ' H' => ∃ v, σ' = [some (.ref d), some (.int many), v, none] ∧ Deck H' d l ∧ Keep2 d l H H', ?_, ?_⟩
  · refine ⟨_, rfl, d, _, rfl, dget_of a1 (deck_left l m _), (by show 0 ≤ sizeLine; decide), fun e he => ?_⟩
    have b1 := same_new he (.lst []) _ _ a1
    have b2 := same_new he (.lst []) _ _ a2
    have kp2 : Keep2 d l H (upd (upd H d (.dK (deckK l m (j + 1)))) e (.lst [])) := kp1.trans (same_new he _).keep2
    refine ⟨l, e, _, rfl, rfl, b2, upd_same, _, rfl, ?_⟩
    refine ite2 (fun c => ?_) (fun c => ?_)
    · have nn : ns ≠ [] := fun z => by
        rw [z] at c
        exact absurd c (by decide)
      obtain ⟨z, hz⟩ : ∃ z, ns[ns.length - 1]? = some z := ⟨ns[ns.length - 1]'(by have := List.length_pos_iff.mpr nn; omega), List.getElem?_eq_getElem _⟩
      -- cell = deck["left"].pop()
      refine ⟨_, rfl, d, _, rfl, dget_of b1 (deck_left l m _), Or.inl ⟨rfl, _, Or.inl (Or.inl b2)⟩, l, _, .int z, rfl, rfl, b2, (by rw [List.length_map, List.getElem?_map, hz] <;> rfl), ?_⟩
      have c1 : upd (upd (upd H d (.dK (deckK l m (j + 1)))) e (.lst [])) l (.lst (ns.map V.int).dropLast) d = some (.dK (deckK l m (j + 1))) := by
        rw [upd_ne ndl]
        exact b1
      have c2 : upd (upd (upd H d (.dK (deckK l m (j + 1)))) e (.lst [])) l (.lst (ns.map V.int).dropLast) l = some (.lst (ns.dropLast.map V.int)) := by
        rw [upd_same, List.map_dropLast]
      have kp3 : Keep2 d l H (upd (upd (upd H d (.dK (deckK l m (j + 1)))) e (.lst [])) l (.lst (ns.map V.int).dropLast)) := fun b o q h1 h2 => by
        rw [upd_ne h2]
        exact kp2 b o q h1 h2
      generalize upd (upd (upd H d (.dK (deckK l m (j + 1)))) e (.lst [])) l (.lst (ns.map V.int).dropLast) = H3 at c1 c2 kp3 ⊢
      have hlen : (ns.dropLast.map V.int).length < sizeLine := by
        rw [List.length_map, List.length_dropLast]
        exact small1000 (by omega)
      -- if cell >= 10 ** 18
      refine ⟨_, rfl, _, _, rfl, rfl, ⟨by decide, by decide, by decide⟩, _, _, rfl, rfl, _, rfl, ?_⟩
      refine ite2 (fun c3 => ?_) (fun c3 => ?_)
      · have hmax : (if many > 2 then many else 2 : Int) ≠ 0 ∧ (if many > 2 then many else 2 : Int).natAbs < 1073741824 := by
          by_cases q : many > 2
          · rw [if_pos q]
            omega
          · rw [if_neg q]
            decide
        refine ⟨_, rfl, d, _, rfl, dget_of c1 (deck_left l m _), Or.inl ⟨rfl, _, Or.inl (Or.inl c2)⟩, _, rfl, _, rfl, _, _, rfl, _, _, rfl, rfl, hmax, l, _, _, rfl, rfl, c2, hlen, ?_⟩
        refine ⟨_, rfl, .inl ⟨_, rfl, _, rfl, _, _, rfl, rfl, (by show many ≠ 0; omega), ?_⟩⟩
        obtain ⟨r0, r1⟩ := fmod_in z h1
        refine k _ _ r0 r1 ⟨⟨ns.dropLast ++ [z.fdiv (if many > 2 then many else 2)], m, j + 1, ?_, ?_, ?_, hm0, hm1⟩⟩ fun b o q h1 h2 => ?_
        · rw [upd_ne ndl]
          exact c1
        · rw [upd_same, List.map_append]
          all_goals rfl
        · rw [List.length_append, List.length_dropLast, List.length_singleton]
          omega
        · rw [upd_ne h2]
          exact kp3 b o q h1 h2
      · -- deck["mixed"] = ..
        obtain ⟨r0, r1⟩ := emod_in (m * 39373 + z % 2147483629 + 43) (m := 2147483587) (by decide)
        refine ⟨_, rfl, d, _, rfl, dget_of c1 (deck_mixed l m _), _, _, rfl, rfl, .inr (by decide), _, rfl, .inl ⟨_, rfl, _, _, rfl, rfl, (by show (0 : Int) < 2147483629; decide), _, _, rfl, rfl, _, _, rfl, rfl,
          .inl ⟨_, rfl, _, _, rfl, rfl, (by show (0 : Int) < 2147483587; decide), _, rfl, d, _, rfl, dput_of c1 (by show 3 < sizeLine; decide) (put_mixed l m _ _), ?_⟩⟩⟩
        refine ⟨_, rfl, ⟨⟨ns.dropLast, _, j + 1, upd_same, ?_, ?_, r0, by omega⟩⟩, fun b o q h1 h2 => ?_⟩
        · rw [upd_ne ndl.symm]
          exact c2
        · rw [List.length_dropLast]
          omega
        · rw [upd_ne h1]
          exact kp3 b o q h1 h2
    · exact ⟨none, rfl, ⟨⟨ns, m, j + 1, b1, b2, hn, hm0, hm1⟩⟩, kp2⟩
  · rintro σ' H' ⟨v, rfl, D', kp⟩
    obtain ⟨ns', m', j', g1, g2, gn, gm0, gm1⟩ := id D'.ex
    obtain ⟨r0, r1⟩ := emod_in (m' + 31337 * j') (m := 2147483647) (by decide)
    refine ⟨_, rfl, d, _, rfl, dget_of g1 (deck_mixed l m' _), _, rfl, d, _, rfl, dget_of g1 (deck_draws l m' _), _, _, rfl, rfl, .inl (by decide), _, _, rfl, rfl, .inl ⟨_, rfl, _, _, rfl, rfl, (by show (0 : Int) < 2147483647; decide), ?_⟩⟩
    obtain ⟨s0, s1⟩ := emod_in ((m' + 31337 * j') % 2147483647 * ((m' + 31337 * j') % 2147483647) + 48271 * j' + 47) (m := 2147483629) (by decide)
    refine ⟨_, rfl, _, rfl, _, _, rfl, rfl, .inl (by omega), _, rfl, d, _, rfl, dget_of g1 (deck_draws l m' _), _, _, rfl, rfl, .inl (by decide), _, _, rfl, rfl, _, _, rfl, rfl, .inl ⟨_, rfl, _, _, rfl, rfl, (by show (0 : Int) < 2147483629; decide), ?_⟩⟩
    refine ⟨_, rfl, _, _, rfl, rfl, .inr (by decide), _, _, rfl, rfl, .inl ⟨_, rfl, _, _, rfl, rfl, (by show (0 : Int) < 2147483563; decide), ?_⟩⟩
    refine ⟨_, rfl, _, _, rfl, rfl, ⟨by decide, by decide⟩, .inl ⟨_, rfl, _, rfl, _, _, rfl, rfl, (by show many ≠ 0; omega), ?_⟩⟩
    exact k _ _ (fmod_in _ h1).1 (fmod_in _ h1).2 D' kp
end
end Eo
/-! Loops over the signs of a text, by what is left of it. -/
namespace Eo
open PySem PySem.Spec PyProof.Rows L2
theorem drop_sign {cs : List Nat} {i c : Nat} (h : cs.toArray[i]? = some c) : cs.drop i = c :: cs.drop (i + 1) := by
  have h' : cs[i]? = some c := by simpa using h
  obtain ⟨hi, e⟩ := List.getElem?_eq_some_iff.mp h'
  rw [List.drop_eq_getElem_cons hi, e]
/-- for c in text -/
theorem for_text {cs : List Nat} {g : TG} {tb : TS} {D : Ends} {σ : L2.St} {H : Hp} (Pv : List Nat → L2.St → Hp → Prop) (h0 : Pv cs σ H)
    (hs : ∀ c r σ H, Pv (c :: r) σ H → g (.str (Sx [c])) σ H fun σ2 H2 => tb { D with nx := Pv r, ct := Pv r, bk := D.nx } σ2 H2) (hd : ∀ σ H, Pv [] σ H → D.nx σ H) :
    ∃ W : Nat → Nat → L2.St → Hp → Prop, (∃ m, W 0 m σ H) ∧ ∀ i m σ H, W i m σ H →
      ((Its (Sx cs)).stop i H ∧ D.nx σ H) ∨ ((Its (Sx cs)).go i H ∧ ∃ N : L2.St → Hp → Prop, (∀ σ' H', N σ' H' → ∃ m', m' < m ∧ W (i + 1) m' σ' H') ∧ ∀ x H', (Its (Sx cs)).yld i H x H' → g x σ H' fun σ2 H2 => tb { D with nx := N, ct := N, bk := D.nx } σ2 H2) := by
  refine for_it walk_str (fun i σ H => Pv (cs.drop i) σ H) h0 (fun _ _ _ _ _ => trivial) ?_ ?_
  · rintro i x σ H H' hi p ⟨rfl, c, hc, rfl⟩
    rw [drop_sign hc] at p
    exact hs c _ σ H' p
  · intro σ H p
    have e : cs.drop (Sx cs).cps.size = [] := List.drop_eq_nil_of_le (by simp)
    exact hd σ H (e ▸ p)
/-- [.. for c in text]: Pv by what is left (the new list at D within) -/
theorem lc_text {cs : List Nat} {g : TG} {tt : TT} {te : TE} {vs : List Nat} {σ : L2.St} {H1 : Hp} {D : Addr} {Qd : Hp → Prop} (Pv : List Nat → Hp → Prop) (h0 : Pv cs (upd H1 D (.lst [])))
    (hs : ∀ c r H, Pv (c :: r) H → g (.str (Sx [c])) (wipe σ vs) H fun σ2 H2 => wipe σ2 vs = wipe σ vs ∧ tt σ2 H2 fun b H3 =>
      if b = true then te σ2 H3 fun y H4 => ∃ acc, H4 D = some (.lst acc) ∧ acc.length < sizeLine ∧ Pv r (upd H4 D (.lst (acc ++ [y]))) else Pv r H3) (hd : ∀ H, Pv [] H → Qd H) :
    ∃ W : Nat → Nat → Hp → Prop, (∃ m, W 0 m (upd H1 D (.lst []))) ∧ ∀ i m H, W i m H →
      ((Its (Sx cs)).stop i H ∧ Qd H) ∨ ((Its (Sx cs)).go i H ∧ ∃ Nx : Hp → Prop, (∀ H', Nx H' → ∃ m', m' < m ∧ W (i + 1) m' H') ∧ ∀ x H', (Its (Sx cs)).yld i H x H' → g x (wipe σ vs) H' fun σ2 H2 => wipe σ2 vs = wipe σ vs ∧ tt σ2 H2 fun b H3 =>
        if b = true then te σ2 H3 fun y H4 => ∃ acc, H4 D = some (.lst acc) ∧ acc.length < sizeLine ∧ Nx (upd H4 D (.lst (acc ++ [y]))) else Nx H3) := by
  refine lc_it walk_str (fun i H => Pv (cs.drop i) H) h0 (fun _ _ _ _ => trivial) ?_ ?_
  · rintro i x H H' hi p ⟨rfl, c, hc, rfl⟩
    rw [drop_sign hc] at p
    exact hs c _ H' p
  · intro H p
    have e : cs.drop (Sx cs).cps.size = [] := List.drop_eq_nil_of_le (by simp)
    exact hd H (e ▸ p)
/-- for at, c in enumerate(text): at is the number of the signs ahead -/
theorem for_enum {cs : List Nat} {g : TG} {tb : TS} {D : Ends} {σ : L2.St} {H : Hp} (Pv : List Nat → L2.St → Hp → Prop) (h0 : Pv cs σ H)
    (hs : ∀ c r σ H p, H p = none → (c :: r).length ≤ cs.length → Pv (c :: r) σ H → g (.ref p) σ (upd H p (.tup [.int ((cs.length - (c :: r).length : Nat) : Int), .str (Sx [c])])) fun σ2 H2 => tb { D with nx := Pv r, ct := Pv r, bk := D.nx } σ2 H2) (hd : ∀ σ H, Pv [] σ H → D.nx σ H) :
    ∃ W : Nat → Nat → L2.St → Hp → Prop, (∃ m, W 0 m σ H) ∧ ∀ i m σ H, W i m σ H →
      ((Ites (Sx cs)).stop i H ∧ D.nx σ H) ∨ ((Ites (Sx cs)).go i H ∧ ∃ N : L2.St → Hp → Prop, (∀ σ' H', N σ' H' → ∃ m', m' < m ∧ W (i + 1) m' σ' H') ∧ ∀ x H', (Ites (Sx cs)).yld i H x H' → g x σ H' fun σ2 H2 => tb { D with nx := N, ct := N, bk := D.nx } σ2 H2) := by
  refine for_it walk_enumS (fun i σ H => Pv (cs.drop i) σ H) h0 (fun _ _ _ _ _ => trivial) ?_ ?_
  · rintro i x σ H H' hi p ⟨T, c, rfl, hT, rfl, hc⟩
    have hi' : i < cs.length := by simpa using hi
    have e := drop_sign hc
    have el : (c :: cs.drop (i + 1)).length = cs.length - i := by rw [← e, List.length_drop]
    rw [e] at p
    have q := hs c (cs.drop (i + 1)) σ H T hT (by omega) p
    rw [el, show cs.length - (cs.length - i) = i by omega] at q
    exact q
  · intro σ H p
    have e : cs.drop (Sx cs).cps.size = [] := List.drop_eq_nil_of_le (by simp)
    exact hd σ H (e ▸ p)
end Eo
/-! What the program asks of a tree: is_tuple, is_tag_value, is_tree_value, need_tree. -/
namespace Eo
open PySem PySem.Spec PyProof.Rows L2
section
variable {P : Program} {w : World} {K : PySem.W.Frag} {mg : Str → Option Value} {base : Heap}
/-! ### is_tuple(thing, many), of a tuple -/
def spIsTuple : Sp := fun vs H Q _ => ∃ (a : Addr) (xs : List V) (n : Int), vs = [.ref a, .int n] ∧ H a = some (.tup xs) ∧ Q (.bl (decide (((xs.length : Nat) : Int) = n))) H
theorem scIsTuple : FnScope ["thing", "many"] ["thing", "many"] (defScope sIsTuple) := ⟨rfl, rfl, rfl, by decide +kernel, rfl, by decide +kernel, by decide +kernel⟩
theorem ok_isTuple {f : Addr} {fd : FuncData} (F : Fun K "is_tuple" "is_tuple" sIsTuple f fd) (T : Txt mg) : FnOk P w K mg base CX0 1 f fd ["thing", "many"] spIsTuple := by
  refine F.ok scIsTuple (fun vs H Q E h => ?_) (fun cdv A outer s H vs Q E hr h => ?_)
  · obtain ⟨a, xs, n, rfl, _⟩ := h
    rfl
  obtain ⟨a, xs, n, rfl, ha, k⟩ := h
  refine ⟨_, pss_one (ps_ret (pe_and (pe_callB call_isi rfl T.isi boot_isinstance (pa_cons (pv 0) (pa_cons (pe_bltn (v := .ty "tuple") rfl T.tuple boot_tuple rfl) pa_nil)))
    (pe_one (pe_cmpR op_eq (pe_callB call_len_seq rfl T.len PySem.boot_len (pa_cons (pv 0) pa_nil)) (pv 1) (nomark _))))), ?_⟩
  refine ⟨_, rfl, _, _, .type "tuple", .type "tuple", true, rfl, .ty "tuple", .base (.tup ha), kit_ty (by decide +kernel), true, rfl, ?_⟩
  refine iteT ⟨_, rfl, a, xs, rfl, .inr (SqT.of ha), _, rfl, rfl, ?_⟩
  have e : decide (V.int ((xs.length : Nat) : Int) = V.int n) = decide (((xs.length : Nat) : Int) = n) := by
    by_cases h : ((xs.length : Nat) : Int) = n
    · rw [h, decide_eq_true rfl, decide_eq_true rfl]
    · rw [decide_eq_false h, decide_eq_false fun q => h (V.int.inj q)]
  show Q (V.bl (decide (V.int ((xs.length : Nat) : Int) = V.int n))) H
  rw [e]
  exact k
/-! ### is_tag_value(thing), of a tag -/
def spIsTag : Sp := fun vs H Q _ => ∃ g : List Nat, vs = [.str (Sx g)] ∧ TagOk g ∧ ∀ H', Same H H' → Q (.bl true) H'
theorem all_true : ∀ n : Nat, (List.replicate n true).all id = true
  | 0 => rfl
  | n + 1 => by rw [List.replicate_succ, List.all_cons, all_true n]; rfl
theorem small_in {c : Nat} (h : small c = true) : decide (c ∈ ("abcdefghijklmnopqrstuvwxyz" : Str).cps.toList) = true := by
  have q : ∀ c, c < 123 → small c = true → decide (c ∈ ("abcdefghijklmnopqrstuvwxyz" : Str).cps.toList) = true := by decide +kernel
  simp only [small, Bool.and_eq_true, decide_eq_true_eq] at h
  exact q c (by omega) (by simp only [small, Bool.and_eq_true, decide_eq_true_eq]; exact h)
theorem small_not {c : Nat} (h : small c = false) : decide (c ∈ ("abcdefghijklmnopqrstuvwxyz" : Str).cps.toList) = false := by
  have q : ("abcdefghijklmnopqrstuvwxyz" : Str).cps.toList = (List.range 26).map (· + 97) := by decide +kernel
  rw [q]
  refine decide_eq_false fun m => ?_
  obtain ⟨j, hj, rfl⟩ := List.mem_map.mp m
  have hj := List.mem_range.mp hj
  simp only [small, Bool.and_eq_false_iff, decide_eq_false_iff_not] at h
  omega
theorem small_is (c : Nat) : decide (c ∈ ("abcdefghijklmnopqrstuvwxyz" : Str).cps.toList) = small c := by
  cases h : small c with
  | true => exact small_in h
  | false => exact small_not h
theorem scIsTag : FnScope ["thing", "sign"] ["thing"] (defScope sIsTag) := ⟨rfl, rfl, rfl, by decide +kernel, rfl, by decide +kernel, by decide +kernel⟩
theorem ok_isTag {f : Addr} {fd : FuncData} (F : Fun K "is_tag_value" "is_tag_value" sIsTag f fd) (T : Txt mg) : FnOk P w K mg base CX0 1 f fd ["thing"] spIsTag := by
  refine F.ok scIsTag (fun vs H Q E h => ?_) (fun cdv A outer s H vs Q E hr h => ?_)
  · obtain ⟨g, rfl, _⟩ := h
    rfl
  obtain ⟨g, rfl, hg, k⟩ := h
  obtain ⟨tS, gS⟩ := T.small
  obtain ⟨tL, gL⟩ := T.longest
  refine ⟨_, pss_cons (ps_if (PW.pt (pw_or (pt_not (pt_val (pe_callB call_isi rfl T.isi boot_isinstance (pa_cons (pv 0) (pa_cons (pe_bltn (v := .ty "str") rfl T.str boot_str rfl) pa_nil)))))
      (pw_or1 (pt_not (pt_chain op_le op_le pe_int (pe_callB call_len_str rfl T.len PySem.boot_len (pa_cons (pv 0) pa_nil)) (pe_glob (v := .int 8) rfl gL ⟨_, rfl⟩)))))) (pss_one (ps_ret pe_bl)) pss_nil)
    (pss_one (ps_ret (pe_callB (cr_all rfl) rfl T.all boot_all (pa_cons (pe_lc (own := [("sign", 1)]) (g := gName 1) (tt := tYes) rfl scIsTag.nd (pi_str (pv 0)) (blkOk_by (N := ["thing", "sign"]) (sc := defScope sIsTag) (by decide +kernel))
      (fun _ _ _ _ _ => pg_name (i := 1) scIsTag.nd rfl (Or.inl rfl)) (fun _ _ _ _ _ => pts_nil) (fun _ _ _ _ _ => pe_cmpR op_in_sign (pv 1) (pe_glob (v := .str "abcdefghijklmnopqrstuvwxyz") rfl gS ⟨_, rfl⟩) rfl)) pa_nil)))), ?_⟩
  have hl : (Sx g).length = g.length := Sx_len g
  have h1 := hg.len
  have hp : 1 ≤ g.length := by
    have := List.length_pos_iff.mpr hg.pos
    omega
  have hz : g.length < sizeLine := small1000 (by omega)
  refine ⟨_, rfl, _, _, .type "str", .type "str", true, rfl, .ty "str", .base (.str _), kit_ty (by decide +kernel), true, rfl, ?_⟩
  refine iteF ⟨_, rfl, _, rfl, (by rw [hl]; omega), _, _, rfl, rfl, true, congrArg V.bl (decide_eq_true (by rw [hl]; omega)), iteT ⟨_, _, rfl, rfl, true, congrArg V.bl (decide_eq_true (by rw [hl]; omega)), iteF ?_⟩⟩
  refine ⟨_, rfl, _, rfl, fun D hD => ?_⟩
  refine lc_text (cs := g) (fun r H' => (∃ n, r.length + n = g.length ∧ H' D = some (.lst ((List.replicate n true).map V.bl))) ∧ (∀ c ∈ r, small c = true) ∧ ∀ b o, H b = some o → b ≠ D → H' b = some o) ⟨⟨0, rfl, upd_same⟩, hg.all, fun b o e hb => by rw [upd_ne hb]; exact e⟩ ?_ ?_
  · rintro c r H' ⟨⟨n, hn, hD'⟩, hs, hk⟩
    refine ⟨rfl, _, rfl, c, _, rfl, rfl, _, hD', ?_, ⟨n + 1, by rw [List.length_cons] at hn; omega, ?_⟩, fun x hx => hs x (List.mem_cons_of_mem _ hx), fun b o e hb => by rw [upd_ne hb]; exact hk b o e hb⟩
    · rw [List.length_map, List.length_replicate]
      rw [List.length_cons] at hn
      omega
    · rw [upd_same, small_is c, hs c List.mem_cons_self, List.replicate_succ', List.map_append]
      rfl
  · rintro H' ⟨⟨n, hn, hD'⟩, _, hk⟩
    refine ⟨D, List.replicate n true, rfl, SqL.of hD', ?_⟩
    rw [all_true]
    exact k H' fun b o e => hk b o e (ne_of_none e hD)
/-! ### is_tree_value(thing), of a tree -/
def spIsTree : Sp := fun vs H Q _ => ∃ (v : V) (t : T), vs = [v] ∧ At H v t ∧ t.ok ∧ t.nodes ≤ 1000 ∧ ∀ H', Same H H' → Q (.bl true) H'
def wt : List T → Nat
  | [] => 0
  | t :: r => 2 * t.nodes + 1 + wt r
theorem wt_app (a b : List T) : wt (a ++ b) = wt a + wt b := by
  induction a with
  | nil => simp [wt]
  | cons t r ih =>
    show 2 * t.nodes + 1 + wt (r ++ b) = 2 * t.nodes + 1 + wt r + wt b
    omega
theorem wt_len (a : List T) : a.length ≤ wt a := by
  induction a with
  | nil => exact Nat.le_refl _
  | cons t r ih =>
    show r.length + 1 ≤ 2 * t.nodes + 1 + wt r
    omega
theorem paired_last {α β : Type} {R : α → β → Prop} : ∀ {xs : List α} {ys : List β}, Paired R xs ys → xs ≠ [] → ∃ xs' x ys' y, xs = xs' ++ [x] ∧ ys = ys' ++ [y] ∧ Paired R xs' ys' ∧ R x y
  | _, _, .nil, h => absurd rfl h
  | [x], [y], .cons r .nil, _ => ⟨[], x, [], y, rfl, rfl, .nil, r⟩
  | x :: x2 :: xs, y :: y2 :: ys, .cons r (.cons r2 t), _ => by
    obtain ⟨xs', z, ys', u, e1, e2, p, q⟩ := paired_last (xs := x2 :: xs) (ys := y2 :: ys) (.cons r2 t) (fun h => by cases h)
    exact ⟨x :: xs', z, y :: ys', u, by rw [e1]; rfl, by rw [e2]; rfl, .cons r p, q⟩
theorem paired_app {α β : Type} {R : α → β → Prop} : ∀ {xs xs2 : List α} {ys ys2 : List β}, Paired R xs ys → Paired R xs2 ys2 → Paired R (xs ++ xs2) (ys ++ ys2)
  | _, _, _, _, .nil, q => q
  | _, _, _, _, .cons r t, q => .cons r (paired_app t q)
theorem Ats.mono {H H' : Hp} (k : Tups H H') {vs : List V} {ts : List T} (h : Paired (At H) vs ts) : Paired (At H') vs ts := L2.Paired.mapP h fun _ _ q => q.mono k
theorem scIsTree : FnScope ["thing", "parts", "part"] ["thing"] (defScope sIsTree) := ⟨rfl, rfl, rfl, by decide +kernel, rfl, by decide +kernel, by decide +kernel⟩
theorem ok_isTree {f : Addr} {fd : FuncData} (F : Fun K "is_tree_value" "is_tree_value" sIsTree f fd) (C1 : Cal P w K mg base 1 "is_tuple" spIsTuple) (C2 : Cal P w K mg base 1 "is_tag_value" spIsTag) :
    FnOk P w K mg base CX0 2 f fd ["thing"] spIsTree := by
  refine F.ok scIsTree (fun vs H Q E h => ?_) (fun cdv A outer s H vs Q E hr h => ?_)
  · obtain ⟨v, t, rfl, _⟩ := h
    rfl
  obtain ⟨v, t, rfl, ht, hk, hn, k⟩ := h
  refine ⟨_, pss_cons (ps_set (i := 1) scIsTree.nd rfl (Or.inl rfl) (pe_lst (pa_cons (pv 0) pa_nil)))
    (pss_cons (ps_while PassesOwn.never (pt_cmpR (op_neNil hr.units0) (pv 1) (pe_lst pa_nil) (nomark _))
      (pss_cons (ps_set (i := 2) scIsTree.nd rfl (Or.inl rfl) (pe_bm0 PySem.F.plainAttrs_list PySem.F.slot_list_pop PySem.F.type_list_pop mt_pop (pv 1)))
      (pss_cons (ps_if (pt_cmpR op_isN (pv 2) pe_non (nomark _)) (pss_one ps_continue) pss_nil)
      (pss_cons (ps_if (PW.pt (pw_or (pt_not (pt_val (pe_c C1 hr (pa_cons (pv 2) (pa_cons pe_int pa_nil))))) (pw_or1 (pt_not (pt_val (pe_c C2 hr (pa_cons (pe_ix ix_tup (pv 2) pe_int (fun _ _ => rfl)) pa_nil))))))) (pss_one (ps_ret pe_bl)) pss_nil)
      (pss_one (ps_expr (pe_bm PySem.F.plainAttrs_list PySem.F.slot_list_extend PySem.F.type_list_extend mt_extT (pv 1) (pa_cons (pe_slice sl_tup (pv 2) (po_some pe_int) po_none) pa_nil))))))))
    (pss_one (ps_ret pe_bl))), ?_⟩
  refine ⟨_, rfl, (by show 1 ≤ sizeLine; decide), fun l hl => ?_⟩
  -- the stack: its trees, what they weigh
  refine ⟨fun m σ H' => ∃ (vs : List V) (ts : List T) (pt : Option V), σ = [some v, some (.ref l), pt] ∧ H' l = some (.lst vs) ∧ Paired (At H') vs ts ∧ (∀ t ∈ ts, t.ok) ∧ wt ts = m ∧ m ≤ 3000 ∧ Same H H',
    ⟨_, [v], [t], none, rfl, upd_same, .cons (ht.mono (same_new hl _).tups) .nil, fun x hx => by rw [List.mem_singleton.mp hx]; exact hk, rfl, (by show 2 * t.nodes + 1 + 0 ≤ 3000; omega), same_new hl _⟩, ?_⟩
  rintro m σ H1 ⟨vs, ts, pt, rfl, h1, h2, h3, h4, h5, s1⟩
  refine ⟨_, rfl, (by show 0 ≤ sizeLine; decide), fun e he => ⟨l, e, vs, rfl, rfl, same_new he _ _ _ h1, upd_same, _, rfl, ?_⟩⟩
  have s2 : Same H (upd H1 e (.lst [])) := s1.trans (same_new he _)
  have g1 : upd H1 e (.lst []) l = some (.lst vs) := same_new he _ _ _ h1
  have g2 : Paired (At (upd H1 e (.lst []))) vs ts := Ats.mono (same_new he _).tups h2
  have vlen : vs.length = ts.length := Paired.length h2
  generalize upd H1 e (.lst []) = H2 at s2 g1 g2 ⊢
  cases hvs : vs with
  | nil =>
    refine iteF ?_
    exact k H2 s2
  | cons c0 r0 =>
    have hne : vs ≠ [] := by rw [hvs]; exact fun z => by cases z
    rw [← hvs]
    have hb : (vs.isEmpty != true) = true := by rw [hvs]; rfl
    obtain ⟨vs', y, ts', u, ev, et, p', q'⟩ := paired_last g2 hne
    refine ite2 (fun _ => ?_) (fun z => absurd hb z)
    refine ⟨fun σ' H' => ∃ m', m' < m ∧ ∃ (vs : List V) (ts : List T) (pt : Option V), σ' = [some v, some (.ref l), pt] ∧ H' l = some (.lst vs) ∧ Paired (At H') vs ts ∧ (∀ t ∈ ts, t.ok) ∧ wt ts = m' ∧ m' ≤ 3000 ∧ Same H H', fun σ' H' z => z, ?_⟩
    have hu : u.ok := h3 u (by rw [et]; simp)
    have hm : wt ts' + (2 * u.nodes + 1) = m := by
      rw [← h4, et, wt_app]
      simp [wt]
    -- part = parts.pop()
    refine ⟨_, rfl, Or.inl ⟨rfl, _, Or.inl (Or.inl g1)⟩, l, vs, y, rfl, rfl, g1, (by rw [ev]; simp), ?_⟩
    have tw : Tups H2 (upd H2 l (.lst vs.dropLast)) := Tups.write g1 fun _ z => by cases z
    have ed : vs.dropLast = vs' := by rw [ev]; simp
    have s3 : Same H (upd H2 l (.lst vs.dropLast)) := fun b o q => by
      rw [upd_ne (ne_of_none q hl)]
      exact s2 b o q
    have g3 : upd H2 l (.lst vs.dropLast) l = some (.lst vs') := by rw [upd_same, ed]
    have g4 := Ats.mono tw p'
    have g5 := q'.mono tw
    generalize upd H2 l (.lst vs.dropLast) = H3 at s3 g3 g4 g5 ⊢
    cases g5 with
    | nil =>
      refine ⟨_, rfl, rfl, _, rfl, ?_⟩
      refine iteT ?_
      exact ⟨wt ts', by simp only [T.nodes] at hm; omega, vs', ts', _, rfl, g3, g4, fun t ht => h3 t (by rw [et]; exact List.mem_append_left _ ht), rfl, by omega, s3⟩
    | @node a vl vr g lt rt ha hl' hr' =>
      refine ⟨_, rfl, rfl, _, rfl, ?_⟩
      refine iteF ?_
      refine ⟨_, rfl, a, _, 3, rfl, ha, _, rfl, ?_⟩
      refine iteF ⟨_, rfl, a, _, 0, _, rfl, rfl, SqT.of ha, rfl, g, rfl, hu.1, fun H4 s4 => ⟨_, rfl, ?_⟩⟩
      refine iteF ?_
      have ha4 := s4 _ _ ha
      refine ⟨_, rfl, Or.inl ⟨rfl, _, Or.inl (Or.inl (s4 _ _ g3))⟩, _, rfl, 1, rfl, a, _, rfl, SqT.of ha4, (by show ¬ (HT.sIx 3 0 (some 1) = 0 ∧ HT.sIx 3 3 none = 3); decide), fun c hc => ?_⟩
      have ec : cutV [.str (Sx g), vl, vr] (some 1) none = [vl, vr] := rfl
      have s5 : Same H4 (upd H4 c (.tup (cutV [.str (Sx g), vl, vr] (some 1) none))) := same_new hc _
      have g6 := s5 _ _ (s4 _ _ g3)
      refine ⟨l, c, vs', [vl, vr], rfl, rfl, g6, SqT.of (by rw [upd_same, ec]), ?_, ?_⟩
      · have z1 := wt_len ts'
        have z2 : vs'.length = ts'.length := Paired.length p'
        show vs'.length + 2 ≤ sizeLine
        exact Nat.le_trans (show vs'.length + 2 ≤ 3002 by omega) (by decide)
      have tw2 : Tups H3 (upd (upd H4 c (.tup (cutV [.str (Sx g), vl, vr] (some 1) none))) l (.lst (vs' ++ [vl, vr]))) := (s4.tups.trans s5.tups).trans (Tups.write g6 fun _ z => by cases z)
      have hnn : wt (ts' ++ [lt, rt]) + 1 = m := by
        rw [wt_app]
        simp only [T.nodes] at hm
        show wt ts' + (2 * lt.nodes + 1 + (2 * rt.nodes + 1 + 0)) + 1 = m
        omega
      refine ⟨wt (ts' ++ [lt, rt]), by omega, vs' ++ [vl, vr], ts' ++ [lt, rt], _, rfl, upd_same, paired_app (Ats.mono tw2 g4) (.cons (hl'.mono tw2) (.cons (hr'.mono tw2) .nil)), fun t ht => ?_, rfl, by omega, fun b o q => ?_⟩
      · rcases List.mem_append.mp ht with z | z
        · exact h3 t (by rw [et]; exact List.mem_append_left _ z)
        · rcases List.mem_cons.mp z with z | z
          · rw [z]; exact hu.2.1
          · rw [List.mem_singleton.mp z]; exact hu.2.2
      · rw [upd_ne (ne_of_none q hl)]
        exact s5 b o (s4 b o (s3 b o q))
end
end Eo
/-! Places and texts of trees: need_tree, subtree, is_place_of, need_place, part_at, text_of, tree_written; the law's own _law_part, _law_tree_text. -/
namespace Eo
open PySem PySem.Spec PyProof.Rows L2
def partAt : T → List Nat → Option T
  | t, [] => some t
  | .nil, _ :: _ => none
  | .node _ l r, c :: p => if c = 108 then partAt l p else partAt r p
theorem partAt_ok : ∀ (p : List Nat) (t u : T), t.ok → partAt t p = some u → u.ok ∧ u.nodes ≤ t.nodes ∧ u.depth ≤ t.depth
  | [], t, u, h, e => by
    have e' : some t = some u := by
      cases t <;> exact e
    cases e'
    exact ⟨h, Nat.le_refl _, Nat.le_refl _⟩
  | c :: p, .nil, u, _, e => by cases e
  | c :: p, .node g l r, u, h, e => by
    have e' : (if c = 108 then partAt l p else partAt r p) = some u := e
    by_cases hc : c = 108
    · rw [if_pos hc] at e'
      have q := partAt_ok p l u h.2.1 e'
      simp only [T.nodes, T.depth]
      exact ⟨q.1, by omega, by omega⟩
    · rw [if_neg hc] at e'
      have q := partAt_ok p r u h.2.2 e'
      simp only [T.nodes, T.depth]
      exact ⟨q.1, by omega, by omega⟩
def PlaceOk (p : List Nat) : Prop := ∀ c ∈ p, c = 108 ∨ c = 114
theorem sign_eq (c d : Nat) : decide (V.str (Sx [c]) = V.str (Sx [d])) = decide (c = d) := by
  by_cases h : c = d
  · rw [h, decide_eq_true rfl, decide_eq_true rfl]
  · rw [decide_eq_false h, decide_eq_false fun q => h (List.cons.inj (Sx_inj (V.str.inj q))).1]
theorem lit_l : ("l" : Str) = Sx [108] := by decide +kernel
theorem lit_r : ("r" : Str) = Sx [114] := by decide +kernel
theorem lit_minus : ("-" : Str) = Sx [45] := by decide +kernel
theorem lit_open : ("(" : Str) = Sx [40] := by decide +kernel
theorem lit_comma : ("," : Str) = Sx [44] := by decide +kernel
theorem lit_close : (")" : Str) = Sx [41] := by decide +kernel
theorem lit_empty : Str.empty = Sx [] := rfl
theorem text_node_leaf {g : List Nat} {l r : T} (h : (l.isNil && r.isNil) = true) : (T.node g l r).text = g := by
  show (if (l.isNil && r.isNil) = true then g else _) = g
  rw [if_pos h]
theorem text_node {g : List Nat} {l r : T} (h : ¬ (l.isNil && r.isNil) = true) : (T.node g l r).text = g ++ 40 :: (l.text ++ 44 :: (r.text ++ [41])) := by
  show (if (l.isNil && r.isNil) = true then g else g ++ 40 :: (l.text ++ 44 :: (r.text ++ [41]))) = _
  rw [if_neg h]
section
variable {P : Program} {w : World} {K : PySem.W.Frag} {mg : Str → Option Value} {base : Heap}
/-! ### need_tree -/
def spNeedTree : Sp := fun vs H Q _ => ∃ (v : V) (t : T), vs = [v] ∧ At H v t ∧ t.ok ∧ t.nodes ≤ 1000 ∧ ∀ H', Same H H' → Q .non H'
theorem scNeedTree : FnScope ["tree"] ["tree"] (defScope sNeedTree) := ⟨rfl, rfl, rfl, by decide +kernel, rfl, by decide +kernel, by decide +kernel⟩
theorem ok_needTree {f : Addr} {fd : FuncData} (F : Fun K "need_tree" "need_tree" sNeedTree f fd) (C1 : Cal P w K mg base 2 "is_tree_value" spIsTree) : FnOk P w K mg base CX0 3 f fd ["tree"] spNeedTree := by
  refine F.ok scNeedTree (fun vs H Q E h => ?_) (fun cdv A outer s H vs Q E hr h => ?_)
  · obtain ⟨v, t, rfl, _⟩ := h
    rfl
  obtain ⟨v, t, rfl, ht, hk, hn, k⟩ := h
  refine ⟨_, pss_one (ps_if (pt_not (pt_val (pe_c C1 hr (pa_cons (pv 0) pa_nil)))) (pss_one ps_never) pss_nil), ?_⟩
  refine ⟨_, rfl, v, t, rfl, ht, hk, hn, fun H' s' => ⟨_, rfl, ?_⟩⟩
  exact iteF (k H' s')
/-! ### subtree, the law's _law_part -/
def spSubtree : Sp := fun vs H Q _ => ∃ (v : V) (t u : T) (p : List Nat), vs = [v, .str (Sx p)] ∧ At H v t ∧ partAt t p = some u ∧ ∀ v', At H v' u → Q v' H
theorem scSubtree : FnScope ["tree", "place", "letter"] ["tree", "place"] (defScope sSubtree) := ⟨rfl, rfl, rfl, by decide +kernel, rfl, by decide +kernel, by decide +kernel⟩
theorem scPart : FnScope ["_law_tree", "_law_place", "_law_letter"] ["_law_tree", "_law_place"] (defScope sPart) := ⟨rfl, rfl, rfl, by decide +kernel, rfl, by decide +kernel, by decide +kernel⟩
/-- down the letters of a place -/
theorem go_down {Q : VK} {v : V} {t u : T} {p : List Nat} {H : Hp} (ht : At H v t) (hp : partAt t p = some u) (k : ∀ v', At H v' u → Q v' H) :
    tSeq (tFor (iStr (tVar 1)) (gName 2) (tAsg (tIf (tTest (tOp rEq (tVar 2) (tC (.str "l")))) (tOp (rIxT K) (tVar 0) (tC (.int 1))) (tOp (rIxT K) (tVar 0) (tC (.int 2)))) (gName 0))) (tRet (tVar 0)) { nx := fun _ H' => Q .non H', rt := Q } [some v, some (.str (Sx p)), none] H := by
  refine ⟨_, rfl, _, rfl, for_text (cs := p) (fun r σ H' => H' = H ∧ ∃ (v' : V) (t' : T) (lt : Option V), σ = [some v', some (.str (Sx p)), lt] ∧ At H v' t' ∧ partAt t' r = some u) ⟨rfl, v, t, none, rfl, ht, hp⟩ ?_ ?_⟩
  · rintro c r σ H' ⟨rfl, v', t', lt, rfl, ha, hq⟩
    cases ha with
    | nil => cases hq
    | @node a vl vr g l1 r1 e hl hr =>
      have hq' : (if c = 108 then partAt l1 r else partAt r1 r) = some u := hq
      refine ⟨_, rfl, rfl, _, rfl, ?_⟩
      have ec : decide (V.str (Sx [c]) = V.str "l") = decide (c = 108) := by
        rw [lit_l]
        exact sign_eq c 108
      refine ite2 (fun h => ?_) (fun h => ?_)
      · have h1 : c = 108 := of_decide_eq_true (ec ▸ h)
        rw [if_pos h1] at hq'
        exact ⟨_, rfl, a, _, 1, vl, rfl, rfl, SqT.of e, rfl, rfl, vl, l1, _, rfl, hl, hq'⟩
      · have h1 : ¬ c = 108 := fun q => h (ec.trans (decide_eq_true q))
        rw [if_neg h1] at hq'
        exact ⟨_, rfl, a, _, 2, vr, rfl, rfl, SqT.of e, rfl, rfl, vr, r1, _, rfl, hr, hq'⟩
  · rintro σ H' ⟨rfl, v', t', lt, rfl, ha, hq⟩
    have e' : some t' = some u := by
      cases t' <;> exact hq
    cases e'
    exact ⟨_, rfl, k v' ha⟩
theorem ok_subtree {f : Addr} {fd : FuncData} (F : Fun K "subtree" "subtree" sSubtree f fd) : FnOk P w K mg base CX0 1 f fd ["tree", "place"] spSubtree := by
  refine F.ok scSubtree (fun vs H Q E h => ?_) (fun cdv A outer s H vs Q E hr h => ?_)
  · obtain ⟨v, t, u, p, rfl, _⟩ := h
    rfl
  obtain ⟨v, t, u, p, rfl, ht, hp, k⟩ := h
  exact ⟨_, pss_cons (ps_for PassesOwn.never rfl (pi_str (pv 1)) (pg_name (i := 2) scSubtree.nd rfl (Or.inl rfl)) (pss_one (ps_set (i := 0) scSubtree.nd rfl (Or.inl rfl) (pe_ifExp (pt_cmpR op_eq (pv 2) pe_str (nomark _)) (pe_ix ix_tup (pv 0) pe_int (fun _ _ => rfl)) (pe_ix ix_tup (pv 0) pe_int (fun _ _ => rfl))))))
    (pss_one (ps_ret (pv 0))), go_down ht hp k⟩
theorem ok_part {f : Addr} {fd : FuncData} (F : Fun K "_law_part" "_law_part" sPart f fd) : FnOk P w K mg base CX0 1 f fd ["_law_tree", "_law_place"] spSubtree := by
  refine F.ok scPart (fun vs H Q E h => ?_) (fun cdv A outer s H vs Q E hr h => ?_)
  · obtain ⟨v, t, u, p, rfl, _⟩ := h
    rfl
  obtain ⟨v, t, u, p, rfl, ht, hp, k⟩ := h
  exact ⟨_, pss_cons (ps_for PassesOwn.never rfl (pi_str (pv 1)) (pg_name (i := 2) scPart.nd rfl (Or.inl rfl)) (pss_one (ps_set (i := 0) scPart.nd rfl (Or.inl rfl) (pe_ifExp (pt_cmpR op_eq (pv 2) pe_str (nomark _)) (pe_ix ix_tup (pv 0) pe_int (fun _ _ => rfl)) (pe_ix ix_tup (pv 0) pe_int (fun _ _ => rfl))))))
    (pss_one (ps_ret (pv 0))), go_down ht hp k⟩
/-! ### is_place_of, need_place, part_at -/
def spIsPlace : Sp := fun vs H Q _ => ∃ (v : V) (t u : T) (p : List Nat), vs = [v, .str (Sx p)] ∧ At H v t ∧ partAt t p = some u ∧ PlaceOk p ∧ ∀ H', Same H H' → Q (.bl true) H'
theorem scIsPlace : FnScope ["tree", "thing", "letter"] ["tree", "thing"] (defScope sIsPlace) := ⟨rfl, rfl, rfl, by decide +kernel, rfl, by decide +kernel, by decide +kernel⟩
theorem ok_isPlace {f : Addr} {fd : FuncData} (F : Fun K "is_place_of" "is_place_of" sIsPlace f fd) (TX : Txt mg) : FnOk P w K mg base CX0 1 f fd ["tree", "thing"] spIsPlace := by
  refine F.ok scIsPlace (fun vs H Q E h => ?_) (fun cdv A outer s H vs Q E hr h => ?_)
  · obtain ⟨v, t, u, p, rfl, _⟩ := h
    rfl
  obtain ⟨v, t, u, p, rfl, ht, hp, hok, k⟩ := h
  refine ⟨_, pss_cons (ps_if (pt_not (pt_val (pe_callB call_isi rfl TX.isi boot_isinstance (pa_cons (pv 1) (pa_cons (pe_bltn (v := .ty "str") rfl TX.str boot_str rfl) pa_nil))))) (pss_one (ps_ret pe_bl)) pss_nil)
    (pss_cons (ps_for PassesOwn.never rfl (pi_str (pv 1)) (pg_name (i := 2) scIsPlace.nd rfl (Or.inl rfl))
      (pss_cons (ps_if (PW.pt (pw_or (pt_cmpR op_isN (pv 0) pe_non (nomark _)) (pw_or1 (pt_cmpR op_notIn_seq (pv 2) (pe_tup (pa_cons pe_str (pa_cons pe_str pa_nil))) rfl)))) (pss_one (ps_ret pe_bl)) pss_nil)
      (pss_one (ps_set (i := 0) scIsPlace.nd rfl (Or.inl rfl) (pe_ifExp (pt_cmpR op_eq (pv 2) pe_str (nomark _)) (pe_ix ix_tup (pv 0) pe_int (fun _ _ => rfl)) (pe_ix ix_tup (pv 0) pe_int (fun _ _ => rfl)))))))
    (pss_one (ps_ret pe_bl))), ?_⟩
  refine ⟨_, rfl, _, _, .type "str", .type "str", true, rfl, .ty "str", .base (.str _), kit_ty (by decide +kernel), true, rfl, ?_⟩
  refine iteF ⟨_, rfl, _, rfl, for_text (cs := p) (fun r σ H' => Same H H' ∧ (∀ c ∈ r, c = 108 ∨ c = 114) ∧ ∃ (v' : V) (t' : T) (lt : Option V), σ = [some v', some (.str (Sx p)), lt] ∧ At H v' t' ∧ partAt t' r = some u) ⟨Same.refl H, hok, v, t, none, rfl, ht, hp⟩ ?_ ?_⟩
  · rintro c r σ H' ⟨s1, hs, v', t', lt, rfl, ha, hq⟩
    cases ha with
    | nil => cases hq
    | @node a vl vr g l1 r1 e hl hr =>
      have hq' : (if c = 108 then partAt l1 r else partAt r1 r) = some u := hq
      refine ⟨_, rfl, rfl, _, rfl, ?_⟩
      refine iteF ⟨_, rfl, (by show 2 ≤ sizeLine; decide), fun q hq0 => ⟨q, _, rfl, .inr (SqT.of upd_same), rfl, rfl, _, rfl, ?_⟩⟩
      have hin : inV (V.str (Sx [c])) [V.str "l", V.str "r"] = true := by
        rw [lit_l, lit_r]
        rcases hs c List.mem_cons_self with z | z <;> (rw [z]; decide +kernel)
      rw [hin]
      refine iteF ?_
      have s2 : Same H (upd H' q (.tup [.str "l", .str "r"])) := s1.trans (same_new hq0 _)
      refine ⟨_, rfl, rfl, _, rfl, ?_⟩
      have ec : decide (V.str (Sx [c]) = V.str "l") = decide (c = 108) := by
        rw [lit_l]
        exact sign_eq c 108
      refine ite2 (fun h => ?_) (fun h => ?_)
      · have h1 : c = 108 := of_decide_eq_true (ec ▸ h)
        rw [if_pos h1] at hq'
        exact ⟨_, rfl, a, _, 1, vl, rfl, rfl, SqT.of (s2 _ _ e), rfl, s2, fun x hx => hs x (List.mem_cons_of_mem _ hx), vl, l1, _, rfl, hl, hq'⟩
      · have h1 : ¬ c = 108 := fun q => h (ec.trans (decide_eq_true q))
        rw [if_neg h1] at hq'
        exact ⟨_, rfl, a, _, 2, vr, rfl, rfl, SqT.of (s2 _ _ e), rfl, s2, fun x hx => hs x (List.mem_cons_of_mem _ hx), vr, r1, _, rfl, hr, hq'⟩
  · rintro σ H' ⟨s1, _, _⟩
    exact k H' s1
def spNeedPlace : Sp := fun vs H Q _ => ∃ (v : V) (t u : T) (p : List Nat), vs = [v, .str (Sx p)] ∧ At H v t ∧ t.ok ∧ t.nodes ≤ 1000 ∧ partAt t p = some u ∧ PlaceOk p ∧ ∀ H', Same H H' → Q .non H'
theorem scNeedPlace : FnScope ["tree", "place"] ["tree", "place"] (defScope sNeedPlace) := ⟨rfl, rfl, rfl, by decide +kernel, rfl, by decide +kernel, by decide +kernel⟩
theorem ok_needPlace {f : Addr} {fd : FuncData} (F : Fun K "need_place" "need_place" sNeedPlace f fd) (C1 : Cal P w K mg base 3 "need_tree" spNeedTree) (C2 : Cal P w K mg base 1 "is_place_of" spIsPlace) : FnOk P w K mg base CX0 4 f fd ["tree", "place"] spNeedPlace := by
  refine F.ok scNeedPlace (fun vs H Q E h => ?_) (fun cdv A outer s H vs Q E hr h => ?_)
  · obtain ⟨v, t, u, p, rfl, _⟩ := h
    rfl
  obtain ⟨v, t, u, p, rfl, ht, hk, hn, hp, hok, k⟩ := h
  refine ⟨_, pss_cons (ps_expr (pe_c C1 hr (pa_cons (pv 0) pa_nil)))
    (pss_one (ps_if (pt_not (pt_val (pe_c C2 hr (pa_cons (pv 0) (pa_cons (pv 1) pa_nil))))) (pss_one ps_never) pss_nil)), ?_⟩
  refine ⟨_, rfl, v, t, rfl, ht, hk, hn, fun H1 s1 => ?_⟩
  refine ⟨_, rfl, _, rfl, v, t, u, p, rfl, ht.mono s1.tups, hp, hok, fun H2 s2 => ⟨_, rfl, ?_⟩⟩
  exact iteF (k H2 (s1.trans s2))
def spPartAt : Sp := fun vs H Q _ => ∃ (v : V) (t u : T) (p : List Nat), vs = [v, .str (Sx p)] ∧ At H v t ∧ t.ok ∧ t.nodes ≤ 1000 ∧ partAt t p = some u ∧ PlaceOk p ∧ ∀ v' H', Same H H' → At H' v' u → Q v' H'
theorem scPartAt : FnScope ["tree", "place"] ["tree", "place"] (defScope sPartAt) := ⟨rfl, rfl, rfl, by decide +kernel, rfl, by decide +kernel, by decide +kernel⟩
theorem ok_partAt {f : Addr} {fd : FuncData} (F : Fun K "part_at" "part_at" sPartAt f fd) (C1 : Cal P w K mg base 4 "need_place" spNeedPlace) (C2 : Cal P w K mg base 1 "subtree" spSubtree) : FnOk P w K mg base CX0 5 f fd ["tree", "place"] spPartAt := by
  refine F.ok scPartAt (fun vs H Q E h => ?_) (fun cdv A outer s H vs Q E hr h => ?_)
  · obtain ⟨v, t, u, p, rfl, _⟩ := h
    rfl
  obtain ⟨v, t, u, p, rfl, ht, hk, hn, hp, hok, k⟩ := h
  refine ⟨_, pss_cons (ps_expr (pe_c C1 hr (pa_cons (pv 0) (pa_cons (pv 1) pa_nil))))
    (pss_one (ps_ret (pe_c C2 hr (pa_cons (pv 0) (pa_cons (pv 1) pa_nil))))), ?_⟩
  refine ⟨_, rfl, _, rfl, v, t, u, p, rfl, ht, hk, hn, hp, hok, fun H1 s1 => ?_⟩
  exact ⟨_, rfl, _, rfl, v, t, u, p, rfl, ht.mono s1.tups, hp, fun v' ha => k v' H1 s1 ha⟩
/-! ### text_of, the law's _law_tree_text -/
def spText (n : Nat) : Sp := fun vs H Q _ => ∃ (v : V) (t : T), vs = [v] ∧ At H v t ∧ t.depth < n ∧ t.text.length ≤ 100000 ∧ Q (.str (Sx t.text)) H
theorem text_none {f : Addr} {fd : FuncData} {x : Str} : FnOk P w K mg base CX0 0 f fd [x] (spText 0) := by
  have no : ∀ vs H Q E, ¬ spText 0 vs H Q E := fun vs H Q E ⟨v, t, _, _, h, _⟩ => Nat.not_lt_zero _ h
  exact ⟨fun vs H Q E h => absurd h (no vs H Q E), fun A outer s H args us vs Q E _ _ _ _ h => absurd h (no vs H Q E)⟩
theorem size_le {n : Nat} (h : n ≤ 200000) : n ≤ sizeLine := Nat.le_trans h (by decide)
theorem text_parts {g : List Nat} {l r : T} (h : ¬ (l.isNil && r.isNil) = true) : (T.node g l r).text.length = g.length + 3 + l.text.length + r.text.length := by
  rw [text_node h]
  simp only [List.length_append, List.length_cons, List.length_nil]
  omega
theorem scTextOf : FnScope ["tree"] ["tree"] (defScope sTextOf) := ⟨rfl, rfl, rfl, by decide +kernel, rfl, by decide +kernel, by decide +kernel⟩
theorem ok_textOf1 {n : Nat} {f : Addr} {fd : FuncData} (F : Fun K "text_of" "text_of" sTextOf f fd) (C1 : Cal P w K mg base n "text_of" (spText n)) : FnOk P w K mg base CX0 (n + 1) f fd ["tree"] (spText (n + 1)) := by
  refine F.ok scTextOf (fun vs H Q E h => ?_) (fun cdv A outer s H vs Q E hr h => ?_)
  · obtain ⟨v, t, rfl, _⟩ := h
    rfl
  obtain ⟨v, t, rfl, ht, hd, hz, k⟩ := h
  refine ⟨_, pss_cons (ps_if (pt_cmpR op_isN (pv 0) pe_non (nomark _)) (pss_one (ps_ret pe_str)) pss_nil)
    (pss_cons (ps_if (PW.pt (pw_and (pt_cmpR op_isN (pe_ix ix_tup (pv 0) pe_int (fun _ _ => rfl)) pe_non (nomark _)) (pw_and1 (pt_cmpR op_isN (pe_ix ix_tup (pv 0) pe_int (fun _ _ => rfl)) pe_non (nomark _))))) (pss_one (ps_ret (pe_ix ix_tup (pv 0) pe_int (fun _ _ => rfl)))) pss_nil)
    (pss_one (ps_ret (pe_joined (PJ.cons (pe_fmt (pe_ix ix_tup (pv 0) pe_int (fun _ _ => rfl))) (PJ.cons pe_str (PJ.cons (pe_fmt (pe_c C1 hr (pa_cons (pe_ix ix_tup (pv 0) pe_int (fun _ _ => rfl)) pa_nil) (Nat.le_refl _)))
      (PJ.cons pe_str (PJ.cons (pe_fmt (pe_c C1 hr (pa_cons (pe_ix ix_tup (pv 0) pe_int (fun _ _ => rfl)) pa_nil) (Nat.le_refl _))) (PJ.cons pe_str PJ.nil)))))))))), ?_⟩
  cases ht with
  | nil =>
    refine ⟨_, rfl, rfl, _, rfl, ?_⟩
    refine iteT ?_
    show Q (V.str "-") H
    rw [lit_minus]
    exact k
  | @node a vl vr g l r e hl hr' =>
    have e' : SqT K H a [.str (Sx g), vl, vr] := SqT.of e
    have il := hl.isNil
    have ir := hr'.isNil
    refine ⟨_, rfl, rfl, _, rfl, ?_⟩
    refine iteF ⟨_, rfl, a, _, 1, vl, rfl, rfl, e', rfl, rfl, _, rfl, ?_⟩
    have hdl : l.depth < n := by simp only [T.depth] at hd; omega
    have hdr : r.depth < n := by simp only [T.depth] at hd; omega
    have long : ¬ (l.isNil && r.isNil) = true → tJs [tFmt (tOp (rIxT K) (tVar 0) (tC (.int 0))), tC (.str "("), tFmt (tCall (spText n) [] E0 (tCons (tOp (rIxT K) (tVar 0) (tC (.int 1))) tNil)), tC (.str ","), tFmt (tCall (spText n) [] E0 (tCons (tOp (rIxT K) (tVar 0) (tC (.int 2))) tNil)), tC (.str ")")] Str.empty [some (.ref a)] H fun out H1 => Q (.str out) H1 := by
      intro hn
      have ln := text_parts (g := g) hn
      have z1 : (Sx g).length ≤ sizeLine := by rw [Sx_len]; exact size_le (by omega)
      have z2 : (Sx l.text).length ≤ sizeLine := by rw [Sx_len]; exact size_le (by omega)
      have z3 : (Sx r.text).length ≤ sizeLine := by rw [Sx_len]; exact size_le (by omega)
      refine ⟨_, rfl, a, _, 0, _, rfl, rfl, e', rfl, .inl ⟨_, rfl, z1, _, rfl, ?_, _, rfl, ?_, ?_⟩⟩
      · rw [lit_empty, Sx_app, Sx_len]
        exact size_le (by simp only [List.length_append, List.length_nil]; omega)
      · rw [lit_empty, lit_open, Sx_app, Sx_app, Sx_len]
        exact size_le (by simp only [List.length_append, List.length_nil, List.length_cons]; omega)
      · rw [lit_empty, lit_open, Sx_app, Sx_app]
        refine ⟨_, rfl, a, _, 1, vl, rfl, rfl, e', rfl, vl, l, rfl, hl, hdl, by omega, .inl ⟨_, rfl, z2, _, rfl, ?_, _, rfl, ?_, ?_⟩⟩
        · rw [Sx_app, Sx_len]
          exact size_le (by simp only [List.length_append, List.length_nil, List.length_cons]; omega)
        · rw [lit_comma, Sx_app, Sx_app, Sx_len]
          exact size_le (by simp only [List.length_append, List.length_nil, List.length_cons]; omega)
        · rw [lit_comma, Sx_app, Sx_app]
          refine ⟨_, rfl, a, _, 2, vr, rfl, rfl, e', rfl, vr, r, rfl, hr', hdr, by omega, .inl ⟨_, rfl, z3, _, rfl, ?_, _, rfl, ?_, ?_⟩⟩
          · rw [Sx_app, Sx_len]
            exact size_le (by simp only [List.length_append, List.length_nil, List.length_cons]; omega)
          · rw [lit_close, Sx_app, Sx_app, Sx_len]
            exact size_le (by simp only [List.length_append, List.length_nil, List.length_cons]; omega)
          · rw [lit_close, Sx_app, Sx_app]
            show Q _ H
            have q : (([] ++ g ++ [40] ++ l.text ++ [44] ++ r.text ++ [41] : List Nat)) = (T.node g l r).text := by
              rw [text_node hn]
              simp
            rw [q]
            exact k
    refine ite2 (fun h => ?_) (fun h => ?_)
    · refine ⟨_, rfl, a, _, 2, vr, rfl, rfl, e', rfl, rfl, _, rfl, ?_⟩
      refine ite2 (fun h2 => ?_) (fun h2 => ?_)
      · refine ⟨_, rfl, a, _, 0, _, rfl, rfl, e', rfl, ?_⟩
        show Q (.str (Sx g)) H
        rw [text_node_leaf (by rw [← il, ← ir, h, h2]; rfl)] at k
        exact k
      · exact long fun z => h2 (by rw [ir]; exact (Bool.and_eq_true_iff.mp z).2)
    · exact iteF (long fun z => h (by rw [il]; exact (Bool.and_eq_true_iff.mp z).1))
end
end Eo
/-! tree_written; the law's own _law_tree_text, _law_places. -/
namespace Eo
open PySem PySem.Spec PyProof.Rows L2
section
variable {P : Program} {w : World} {K : PySem.W.Frag} {mg : Str → Option Value} {base : Heap}
theorem ok_textOf {f : Addr} {fd : FuncData} (D : Df K mg "text_of" sTextOf ["tree"] f fd) : ∀ n : Nat, FnOk P w K mg base CX0 n f fd ["tree"] (spText n)
  | 0 => text_none
  | n + 1 => ok_textOf1 D.fn (D.cal (ok_textOf D n))
/-! ### tree_written -/
def spWritten : Sp := fun vs H Q _ => ∃ (v : V) (t : T), vs = [v] ∧ At H v t ∧ t.ok ∧ t.nodes ≤ 1000 ∧ t.depth < 50 ∧ ∀ H', Same H H' → Q (.str (Sx t.text)) H'
theorem scWritten : FnScope ["tree"] ["tree"] (defScope sWritten) := ⟨rfl, rfl, rfl, by decide +kernel, rfl, by decide +kernel, by decide +kernel⟩
theorem ok_written {f : Addr} {fd : FuncData} (F : Fun K "tree_written" "tree_written" sWritten f fd) (C1 : Cal P w K mg base 3 "need_tree" spNeedTree) (C2 : Cal P w K mg base 50 "text_of" (spText 50)) : FnOk P w K mg base CX0 51 f fd ["tree"] spWritten := by
  refine F.ok scWritten (fun vs H Q E h => ?_) (fun cdv A outer s H vs Q E hr h => ?_)
  · obtain ⟨v, t, rfl, _⟩ := h
    rfl
  obtain ⟨v, t, rfl, ht, hk, hn, hd, k⟩ := h
  refine ⟨_, pss_cons (ps_expr (pe_c C1 hr (pa_cons (pv 0) pa_nil))) (pss_one (ps_ret (pe_c C2 hr (pa_cons (pv 0) pa_nil)))), ?_⟩
  refine ⟨_, rfl, v, t, rfl, ht, hk, hn, fun H1 s1 => ⟨_, rfl, v, t, rfl, ht.mono s1.tups, hd, ?_, k H1 s1⟩⟩
  have := text_le t hk
  omega
/-! ### _law_tree_text -/
theorem scTreeText : FnScope ["_law_tree"] ["_law_tree"] (defScope sTreeText) := ⟨rfl, rfl, rfl, by decide +kernel, rfl, by decide +kernel, by decide +kernel⟩
theorem ok_treeText1 {n : Nat} {f : Addr} {fd : FuncData} (F : Fun K "_law_tree_text" "_law_tree_text" sTreeText f fd) (C1 : Cal P w K mg base n "_law_tree_text" (spText n)) : FnOk P w K mg base CX0 (n + 1) f fd ["_law_tree"] (spText (n + 1)) := by
  refine F.ok scTreeText (fun vs H Q E h => ?_) (fun cdv A outer s H vs Q E hr h => ?_)
  · obtain ⟨v, t, rfl, _⟩ := h
    rfl
  obtain ⟨v, t, rfl, ht, hd, hz, k⟩ := h
  refine ⟨_, pss_cons (ps_if (pt_cmpR op_isN (pv 0) pe_non (nomark _)) (pss_one (ps_ret pe_str)) pss_nil)
    (pss_cons (ps_if (PW.pt (pw_and (pt_cmpR op_isN (pe_ix ix_tup (pv 0) pe_int (fun _ _ => rfl)) pe_non (nomark _)) (pw_and1 (pt_cmpR op_isN (pe_ix ix_tup (pv 0) pe_int (fun _ _ => rfl)) pe_non (nomark _))))) (pss_one (ps_ret (pe_ix ix_tup (pv 0) pe_int (fun _ _ => rfl)))) pss_nil)
    (pss_one (ps_ret (pe_op op_add_str (pe_op op_add_str (pe_op op_add_str (pe_op op_add_str (pe_op op_add_str (pe_ix ix_tup (pv 0) pe_int (fun _ _ => rfl)) pe_str) (pe_c C1 hr (pa_cons (pe_ix ix_tup (pv 0) pe_int (fun _ _ => rfl)) pa_nil) (Nat.le_refl _))) pe_str)
      (pe_c C1 hr (pa_cons (pe_ix ix_tup (pv 0) pe_int (fun _ _ => rfl)) pa_nil) (Nat.le_refl _))) pe_str)))), ?_⟩
  cases ht with
  | nil =>
    refine ⟨_, rfl, rfl, _, rfl, ?_⟩
    refine iteT ?_
    show Q (V.str "-") H
    rw [lit_minus]
    exact k
  | @node a vl vr g l r e hl hr' =>
    have e' : SqT K H a [.str (Sx g), vl, vr] := SqT.of e
    have il := hl.isNil
    have ir := hr'.isNil
    refine ⟨_, rfl, rfl, _, rfl, ?_⟩
    refine iteF ⟨_, rfl, a, _, 1, vl, rfl, rfl, e', rfl, rfl, _, rfl, ?_⟩
    have hdl : l.depth < n := by simp only [T.depth] at hd; omega
    have hdr : r.depth < n := by simp only [T.depth] at hd; omega
    have ln : ¬ (l.isNil && r.isNil) = true → (T.node g l r).text.length = g.length + 3 + l.text.length + r.text.length := text_parts
    have long : ¬ (l.isNil && r.isNil) = true → (tRet (tOp (fun x y H Q => ∃ i j, x = .str i ∧ y = .str j ∧ i.length + j.length ≤ sizeLine ∧ Q (.str (i ++ j)) H) (tOp (fun x y H Q => ∃ i j, x = .str i ∧ y = .str j ∧ i.length + j.length ≤ sizeLine ∧ Q (.str (i ++ j)) H) (tOp (fun x y H Q => ∃ i j, x = .str i ∧ y = .str j ∧ i.length + j.length ≤ sizeLine ∧ Q (.str (i ++ j)) H) (tOp (fun x y H Q => ∃ i j, x = .str i ∧ y = .str j ∧ i.length + j.length ≤ sizeLine ∧ Q (.str (i ++ j)) H) (tOp (fun x y H Q => ∃ i j, x = .str i ∧ y = .str j ∧ i.length + j.length ≤ sizeLine ∧ Q (.str (i ++ j)) H)
        (tOp (rIxT K) (tVar 0) (tC (.int 0))) (tC (.str "("))) (tCall (spText n) [] E0 (tCons (tOp (rIxT K) (tVar 0) (tC (.int 1))) tNil))) (tC (.str ","))) (tCall (spText n) [] E0 (tCons (tOp (rIxT K) (tVar 0) (tC (.int 2))) tNil))) (tC (.str ")")))) { nx := fun _ H' => Q .non H', rt := Q } [some (.ref a)] H := by
      intro hn
      have ln := ln hn
      refine ⟨_, rfl, a, _, 0, _, rfl, rfl, e', rfl, _, _, rfl, rfl, ?_, _, rfl, a, _, 1, vl, rfl, rfl, e', rfl, vl, l, rfl, hl, hdl, by omega, _, _, rfl, rfl, ?_, _, _, rfl, rfl, ?_,
        _, rfl, a, _, 2, vr, rfl, rfl, e', rfl, vr, r, rfl, hr', hdr, by omega, _, _, rfl, rfl, ?_, _, _, rfl, rfl, ?_, ?_⟩
      · rw [lit_open, Sx_len, Sx_len]
        exact size_le (by simp only [List.length_cons, List.length_nil]; omega)
      · rw [lit_open, Sx_app, Sx_len, Sx_len]
        exact size_le (by simp only [List.length_append, List.length_cons, List.length_nil]; omega)
      · rw [lit_open, lit_comma, Sx_app, Sx_app, Sx_len, Sx_len]
        exact size_le (by simp only [List.length_append, List.length_cons, List.length_nil]; omega)
      · rw [lit_open, lit_comma, Sx_app, Sx_app, Sx_app, Sx_len, Sx_len]
        exact size_le (by simp only [List.length_append, List.length_cons, List.length_nil]; omega)
      · rw [lit_open, lit_comma, lit_close, Sx_app, Sx_app, Sx_app, Sx_app, Sx_len, Sx_len]
        exact size_le (by simp only [List.length_append, List.length_cons, List.length_nil]; omega)
      · rw [lit_open, lit_comma, lit_close, Sx_app, Sx_app, Sx_app, Sx_app, Sx_app]
        have q : ((g ++ [40] ++ l.text ++ [44] ++ r.text ++ [41] : List Nat)) = (T.node g l r).text := by
          rw [text_node hn]
          simp
        rw [q]
        exact k
    refine ite2 (fun h => ?_) (fun h => ?_)
    · refine ⟨_, rfl, a, _, 2, vr, rfl, rfl, e', rfl, rfl, _, rfl, ?_⟩
      refine ite2 (fun h2 => ?_) (fun h2 => ?_)
      · refine ⟨_, rfl, a, _, 0, _, rfl, rfl, e', rfl, ?_⟩
        show Q (.str (Sx g)) H
        rw [text_node_leaf (by rw [← il, ← ir, h, h2]; rfl)] at k
        exact k
      · exact long fun z => h2 (by rw [ir]; exact (Bool.and_eq_true_iff.mp z).2)
    · exact iteF (long fun z => h (by rw [il]; exact (Bool.and_eq_true_iff.mp z).1))
theorem ok_treeText {f : Addr} {fd : FuncData} (D : Df K mg "_law_tree_text" sTreeText ["_law_tree"] f fd) : ∀ n : Nat, FnOk P w K mg base CX0 n f fd ["_law_tree"] (spText n)
  | 0 => text_none
  | n + 1 => ok_treeText1 D.fn (D.cal (ok_treeText D n))
end
end Eo
/-! The reader's object by its four lists, as the program keeps them; that it goes as the reader sign by sign does. -/
namespace Eo
inductive Aw where
  | tree | node | comma | close
  deriving DecidableEq
/-- aw: what is awaited, the next first; bg: the nodes that were begun, the innermost first -/
structure M where
  aw : List Aw
  bg : List (List Nat × List T)
  tag : List Nat
  fd : List T
def M.add (m : M) (t : T) : M := match m.bg with
  | [] => { m with fd := m.fd ++ [t] }
  | (g, ps) :: r => { m with bg := (g, ps ++ [t]) :: r }
def M.endTag (m : M) : M := if m.tag = [] then m else { m.add (.node m.tag .nil .nil) with tag := [] }
def M.second (m : M) : Bool := match m.bg with
  | (_, p :: _) :: _ => p.isNil
  | _ => false
def M.takeAw (m : M) (x : Nat) : Aw → Option M
  | .comma => if x = 44 then some (if m.second = true then { m with aw := .node :: m.aw.tail } else m) else none
  | .close => if x = 41 then (match m.bg with
    | (g, [l, r]) :: rest => some (M.add { m with bg := rest } (.node g l r))
    | _ => none) else none
  | .tree => if small x = true then some { m with tag := [x] } else if x = 45 then some (m.add .nil) else none
  | .node => if small x = true then some { m with tag := [x] } else none
def M.take (m : M) (x : Nat) : Option M :=
  if m.tag ≠ [] ∧ small x = true then (if m.tag.length + 1 ≤ 8 then some { m with tag := m.tag ++ [x] } else none)
  else if m.tag ≠ [] ∧ x = 40 then some { m with aw := .tree :: .comma :: .tree :: .close :: m.aw, bg := (m.tag, []) :: m.bg, tag := [] }
  else match m.endTag.aw with
    | [] => none
    | a :: aw => M.takeAw { m.endTag with aw := aw } x a
/-- what stands ready where a sign is taken -/
def M.WfAw (m : M) : Aw → Prop
  | .comma => (∃ g p ps r, m.bg = (g, p :: ps) :: r) ∧ m.aw ≠ []
  | .close => ∃ g l r rest, m.bg = (g, [l, r]) :: rest
  | _ => True
def M.Wf (m : M) : Prop := ∀ a aw, m.endTag.aw = a :: aw → M.WfAw { m.endTag with aw := aw } a
structure M.Small (m : M) : Prop where
  aw : m.aw.length ≤ 50000
  bg : m.bg.length ≤ 50000
  fd : m.fd.length ≤ 10
  ps : ∀ e ∈ m.bg, e.2.length ≤ 10
  tag : m.tag.length ≤ 10
def awB : List F → List Aw
  | [] => []
  | .L _ :: c => .comma :: .tree :: .close :: awB c
  | .R _ _ :: c => .close :: awB c
def bgB : List F → List (List Nat × List T)
  | [] => []
  | .L g :: c => (g, []) :: bgB c
  | .R g l :: c => (g, [l]) :: bgB c
def mOf : Z → M
  | .need isn c => { aw := (if isn = true then .node else .tree) :: awB c, bg := bgB c, tag := [], fd := [] }
  | .tag g c => { aw := awB c, bg := bgB c, tag := g, fd := [] }
  | .done t c => M.add { aw := awB c, bg := bgB c, tag := [], fd := [] } t
/-- a tag that is being read is not empty -/
def ZOk : Z → Prop
  | .tag g _ => g ≠ [] ∧ g.length ≤ 8
  | _ => True
theorem add_done (t : T) (c : List F) : M.add { aw := awB c, bg := bgB c, tag := [], fd := [] } t = mOf (.done t c) := rfl
theorem done_L (t : T) (g : List Nat) (c : List F) : mOf (.done t (.L g :: c)) = { aw := .comma :: .tree :: .close :: awB c, bg := (g, [t]) :: bgB c, tag := [], fd := [] } := rfl
theorem done_R (t : T) (g : List Nat) (l : T) (c : List F) : mOf (.done t (.R g l :: c)) = { aw := .close :: awB c, bg := (g, [l, t]) :: bgB c, tag := [], fd := [] } := rfl
theorem done_nil (t : T) : mOf (.done t []) = { aw := [], bg := [], tag := [], fd := [t] } := rfl
theorem done_tag (t : T) (c : List F) : (mOf (.done t c)).tag = [] := by
  cases c with
  | nil => rfl
  | cons f c => cases f <;> rfl
theorem done_aw (t : T) (c : List F) : (mOf (.done t c)).aw = awB c := by
  cases c with
  | nil => rfl
  | cons f c => cases f <;> rfl
/-- the open tag is ended -/
def zEnd : Z → Z
  | .tag g c => .done (.node g .nil .nil) c
  | z => z
theorem endTag_of (z : Z) (h : ZOk z) : (mOf z).endTag = mOf (zEnd z) := by
  cases z with
  | need isn c => rfl
  | tag g c =>
    have hg : ¬ (mOf (.tag g c)).tag = [] := h.1
    unfold M.endTag
    rw [if_neg hg]
    show { M.add { aw := awB c, bg := bgB c, tag := g, fd := [] } (.node g .nil .nil) with tag := [] } = M.add { aw := awB c, bg := bgB c, tag := [], fd := [] } (.node g .nil .nil)
    cases c with
    | nil => rfl
    | cons f c => cases f <;> rfl
  | done t c =>
    unfold M.endTag
    rw [if_pos (done_tag t c)]
    rfl
theorem take_done (t : T) (c : List F) (x : Nat) : (match (mOf (.done t c)).aw with
    | [] => none
    | a :: aw => M.takeAw { mOf (.done t c) with aw := aw } x a) = (stepDone t c x).map mOf := by
  cases c with
  | nil => rfl
  | cons f c =>
    cases f with
    | L g =>
      show (if x = 44 then some (if t.isNil = true then { aw := .node :: .close :: awB c, bg := (g, [t]) :: bgB c, tag := [], fd := [] } else { aw := .tree :: .close :: awB c, bg := (g, [t]) :: bgB c, tag := [], fd := [] }) else none) = ((if x = 44 then some (Z.need t.isNil (.R g t :: c)) else none) : Option Z).map mOf
      by_cases e : x = 44
      · rw [if_pos e, if_pos e]
        cases hn : t.isNil <;> rfl
      · rw [if_neg e, if_neg e]
        rfl
    | R g l =>
      show (if x = 41 then some (M.add { aw := awB c, bg := bgB c, tag := [], fd := [] } (.node g l t)) else none) = ((if x = 41 then some (Z.done (.node g l t) c) else none) : Option Z).map mOf
      by_cases e : x = 41
      · rw [if_pos e, if_pos e]
        rfl
      · rw [if_neg e, if_neg e]
        rfl
theorem take_step (z : Z) (h : ZOk z) (x : Nat) : (mOf z).take x = (step z x).map mOf := by
  unfold M.take
  cases z with
  | need isn c =>
    have ht : (mOf (.need isn c)).tag = [] := rfl
    rw [if_neg fun q => q.1 ht, if_neg fun q => q.1 ht]
    have he : (mOf (.need isn c)).endTag = mOf (.need isn c) := endTag_of _ trivial
    rw [he]
    cases isn with
    | true =>
      show (if small x = true then some ({ aw := awB c, bg := bgB c, tag := [x], fd := [] } : M) else (none : Option M)) = ((if small x = true then some (Z.tag [x] c) else if x = 45 ∧ true = false then some (.done .nil c) else none) : Option Z).map mOf
      by_cases e : small x = true
      · rw [if_pos e, if_pos e]
        rfl
      · rw [if_neg e, if_neg e, if_neg fun q => by cases q.2]
        rfl
    | false =>
      show (if small x = true then some { aw := awB c, bg := bgB c, tag := [x], fd := [] } else if x = 45 then some (M.add { aw := awB c, bg := bgB c, tag := [], fd := [] } .nil) else none) = ((if small x = true then some (Z.tag [x] c) else if x = 45 ∧ false = false then some (.done .nil c) else none) : Option Z).map mOf
      by_cases e : small x = true
      · rw [if_pos e, if_pos e]
        rfl
      · rw [if_neg e, if_neg e]
        by_cases e2 : x = 45
        · rw [if_pos e2, if_pos ⟨e2, rfl⟩]
          rfl
        · rw [if_neg e2, if_neg fun q => e2 q.1]
          rfl
  | tag g c =>
    have hg : (mOf (.tag g c)).tag ≠ [] := h.1
    have hs : step (.tag g c) x = (if small x = true then (if g.length + 1 ≤ 8 then some (Z.tag (g ++ [x]) c) else none) else if x = 40 then some (.need false (.L g :: c)) else stepDone (.node g .nil .nil) c x) := rfl
    rw [hs]
    by_cases e : small x = true
    · rw [if_pos ⟨hg, e⟩, if_pos e]
      show (if g.length + 1 ≤ 8 then some ({ aw := awB c, bg := bgB c, tag := g ++ [x], fd := [] } : M) else none) = _
      by_cases e2 : g.length + 1 ≤ 8
      · rw [if_pos e2, if_pos e2]
        rfl
      · rw [if_neg e2, if_neg e2]
        rfl
    · rw [if_neg fun q => e q.2, if_neg e]
      by_cases e2 : x = 40
      · rw [if_pos ⟨hg, e2⟩, if_pos e2]
        rfl
      · rw [if_neg fun q => e2 q.2, if_neg e2, endTag_of _ h]
        exact take_done _ c x
  | done t c =>
    have ht : (mOf (.done t c)).tag = [] := done_tag t c
    rw [if_neg fun q => q.1 ht, if_neg fun q => q.1 ht]
    have he : (mOf (.done t c)).endTag = mOf (.done t c) := endTag_of _ trivial
    rw [he]
    exact take_done t c x
theorem wf_of (z : Z) (h : ZOk z) : (mOf z).Wf := by
  intro a aw e
  rw [endTag_of z h] at e ⊢
  have dn : ∀ (t : T) (c : List F), (mOf (.done t c)).aw = a :: aw → M.WfAw { mOf (.done t c) with aw := aw } a := by
    intro t c e
    cases c with
    | nil => cases e
    | cons f c =>
      cases f with
      | L g =>
        rw [done_L] at e ⊢
        obtain ⟨rfl, rfl⟩ := List.cons.inj e
        exact ⟨⟨g, t, [], _, rfl⟩, fun z => by cases z⟩
      | R g l =>
        rw [done_R] at e ⊢
        obtain ⟨rfl, rfl⟩ := List.cons.inj e
        exact ⟨g, l, t, _, rfl⟩
  cases z with
  | need isn c =>
    have e' : (if isn = true then Aw.node else Aw.tree) :: awB c = a :: aw := e
    obtain ⟨rfl, rfl⟩ := List.cons.inj e'
    cases isn <;> exact trivial
  | tag g c => exact dn _ _ e
  | done t c => exact dn _ _ e
theorem awB_len : ∀ c : List F, (awB c).length ≤ 3 * c.length
  | [] => Nat.le_refl _
  | .L _ :: c => by
    have := awB_len c
    simp only [awB, List.length_cons]
    omega
  | .R _ _ :: c => by
    have := awB_len c
    simp only [awB, List.length_cons]
    omega
theorem bgB_len : ∀ c : List F, (bgB c).length = c.length
  | [] => rfl
  | .L _ :: c => by simp only [bgB, List.length_cons, bgB_len c]
  | .R _ _ :: c => by simp only [bgB, List.length_cons, bgB_len c]
theorem bgB_ps : ∀ (c : List F), ∀ e ∈ bgB c, e.2.length ≤ 1
  | [], e, h => by cases h
  | .L g :: c, e, h => by
    rcases List.mem_cons.mp h with q | q
    · rw [q]; exact Nat.zero_le _
    · exact bgB_ps c e q
  | .R g l :: c, e, h => by
    rcases List.mem_cons.mp h with q | q
    · rw [q]; exact Nat.le_refl _
    · exact bgB_ps c e q
/-- how deep the reader is -/
def zc : Z → Nat
  | .need _ c => c.length
  | .tag _ c => c.length
  | .done _ c => c.length
theorem small_of (z : Z) (h : ZOk z) (n : zc z ≤ 10000) : (mOf z).Small := by
  have dn : ∀ (t : T) (c : List F), c.length ≤ 10000 → (mOf (.done t c)).Small := by
    intro t c n
    have h1 := awB_len c
    have h2 := bgB_len c
    have h3 := bgB_ps c
    cases c with
    | nil => exact ⟨Nat.zero_le _, Nat.zero_le _, (by show 1 ≤ 10; decide), (fun e h => by cases h), Nat.zero_le _⟩
    | cons f c =>
      cases f with
      | L g =>
        refine ⟨?_, ?_, Nat.zero_le _, fun e he => ?_, Nat.zero_le _⟩
        · show (awB (.L g :: c)).length ≤ 50000
          omega
        · show ((g, [t]) :: bgB c).length ≤ 50000
          simp only [bgB, List.length_cons] at h2
          simp only [List.length_cons] at n ⊢
          omega
        · have he' : e ∈ (g, [t]) :: bgB c := he
          rcases List.mem_cons.mp he' with q | q
          · rw [q]
            show 1 ≤ 10
            decide
          · have := h3 e (List.mem_cons_of_mem _ q)
            omega
      | R g l =>
        refine ⟨?_, ?_, Nat.zero_le _, fun e he => ?_, Nat.zero_le _⟩
        · show (awB (.R g l :: c)).length ≤ 50000
          omega
        · show ((g, [l, t]) :: bgB c).length ≤ 50000
          simp only [bgB, List.length_cons] at h2
          simp only [List.length_cons] at n ⊢
          omega
        · have he' : e ∈ (g, [l, t]) :: bgB c := he
          rcases List.mem_cons.mp he' with q | q
          · rw [q]
            show 2 ≤ 10
            decide
          · have := h3 e (List.mem_cons_of_mem _ q)
            omega
  cases z with
  | need isn c =>
    have n : c.length ≤ 10000 := n
    have h1 := awB_len c
    have h2 := bgB_len c
    refine ⟨?_, ?_, Nat.zero_le _, fun e he => Nat.le_trans (bgB_ps c e he) (by decide), Nat.zero_le _⟩
    · show (awB c).length + 1 ≤ 50000
      omega
    · show (bgB c).length ≤ 50000
      omega
  | tag g c =>
    have n : c.length ≤ 10000 := n
    have h1 := awB_len c
    have h2 := bgB_len c
    refine ⟨?_, ?_, Nat.zero_le _, fun e he => Nat.le_trans (bgB_ps c e he) (by decide), Nat.le_trans h.2 (by decide)⟩
    · show (awB c).length ≤ 50000
      omega
    · show (bgB c).length ≤ 50000
      omega
  | done t c => exact dn t c n
theorem stepDone_ok {t : T} {c : List F} {x : Nat} {z : Z} (h : stepDone t c x = some z) : ZOk z ∧ zc z ≤ c.length := by
  cases c with
  | nil => cases h
  | cons f c =>
    cases f with
    | L g =>
      have h' : (if x = 44 then some (Z.need t.isNil (.R g t :: c)) else none) = some z := h
      split at h'
      · cases h'
        exact ⟨trivial, Nat.le_refl _⟩
      · cases h'
    | R g l =>
      have h' : (if x = 41 then some (Z.done (.node g l t) c) else none) = some z := h
      split at h'
      · cases h'
        exact ⟨trivial, Nat.le_succ _⟩
      · cases h'
theorem step_ok {z z' : Z} {x : Nat} (h : ZOk z) (e : step z x = some z') : ZOk z' ∧ zc z' ≤ zc z + 1 := by
  cases z with
  | need isn c =>
    have e' : (if small x = true then some (Z.tag [x] c) else if x = 45 ∧ isn = false then some (Z.done .nil c) else none) = some z' := e
    split at e'
    · cases e'
      exact ⟨⟨(fun z => by cases z), (by show 1 ≤ 8; decide)⟩, Nat.le_succ _⟩
    · split at e'
      · cases e'
        exact ⟨trivial, Nat.le_succ _⟩
      · cases e'
  | tag g c =>
    have e' : (if small x = true then (if g.length + 1 ≤ 8 then some (Z.tag (g ++ [x]) c) else none) else if x = 40 then some (Z.need false (.L g :: c)) else stepDone (.node g .nil .nil) c x) = some z' := e
    split at e'
    · split at e'
      · rename_i hl
        cases e'
        exact ⟨⟨(fun z => by simp at z), (by simp; omega)⟩, Nat.le_succ _⟩
      · cases e'
    · split at e'
      · cases e'
        exact ⟨trivial, Nat.le_refl _⟩
      · have q := stepDone_ok e'
        exact ⟨q.1, Nat.le_trans q.2 (Nat.le_succ _)⟩
  | done t c =>
    have q := stepDone_ok (show stepDone t c x = some z' from e)
    exact ⟨q.1, Nat.le_trans q.2 (Nat.le_succ _)⟩
/-- the end of the text -/
theorem fin_end (z : Z) (h : ZOk z) : (∃ t, fin z = .ok t ∧ (mOf z).endTag = { aw := [], bg := [], tag := [], fd := [t] }) ∨ (fin z = .bad [] ∧ (mOf z).endTag.aw ≠ []) := by
  rw [endTag_of z h]
  have dn : ∀ (t : T) (f : F) (c : List F), (mOf (.done t (f :: c))).aw ≠ [] := fun t f c => by
    rw [done_aw]
    cases f <;> exact fun z => by cases z
  cases z with
  | need isn c =>
    cases c with
    | nil => exact .inr ⟨rfl, fun z => by cases z⟩
    | cons f c => exact .inr ⟨rfl, fun z => by cases z⟩
  | tag g c =>
    cases c with
    | nil => exact .inl ⟨_, rfl, rfl⟩
    | cons f c => exact .inr ⟨rfl, dn _ f c⟩
  | done t c =>
    cases c with
    | nil => exact .inl ⟨_, rfl, rfl⟩
    | cons f c => exact .inr ⟨rfl, dn _ f c⟩
end Eo
/-! The class Reading: its methods go as the machine does. -/
namespace Eo
open PySem PySem.Spec PyProof.Rows L2
/-- what is awaited, as the program's words -/
def wd : Aw → Str
  | .tree => "tree"
  | .node => "node"
  | .comma => "comma"
  | .close => "close"
def rf (l1 l2 l3 : Addr) (g : List Nat) : List (Str × V) := [("awaited", .ref l1), ("begun", .ref l2), ("tag", .str (Sx g)), ("found", .ref l3)]
theorem nAB : ¬ (("awaited" : Str) = "begun") := by decide +kernel
theorem nAT : ¬ (("awaited" : Str) = "tag") := by decide +kernel
theorem nAF : ¬ (("awaited" : Str) = "found") := by decide +kernel
theorem nBT : ¬ (("begun" : Str) = "tag") := by decide +kernel
theorem nBF : ¬ (("begun" : Str) = "found") := by decide +kernel
theorem nTF : ¬ (("tag" : Str) = "found") := by decide +kernel
theorem lookup_yes {f : Str} {v : V} {r : List (Str × V)} : List.lookup f ((f, v) :: r) = some v := by simp [List.lookup]
theorem lookup_no {f g : Str} {v : V} {r : List (Str × V)} (h : ¬ g = f) : List.lookup g ((f, v) :: r) = List.lookup g r := by
  have e : (g == f) = false := beq_eq_false_iff_ne.mpr h
  simp only [List.lookup, e]
theorem rf_a (l1 l2 l3 : Addr) (g : List Nat) : (rf l1 l2 l3 g).lookup ("awaited" : Str) = some (.ref l1) := lookup_yes
theorem rf_b (l1 l2 l3 : Addr) (g : List Nat) : (rf l1 l2 l3 g).lookup ("begun" : Str) = some (.ref l2) := (lookup_no (Ne.symm nAB)).trans lookup_yes
theorem rf_t (l1 l2 l3 : Addr) (g : List Nat) : (rf l1 l2 l3 g).lookup ("tag" : Str) = some (.str (Sx g)) := (lookup_no (Ne.symm nAT)).trans ((lookup_no (Ne.symm nBT)).trans lookup_yes)
theorem rf_f (l1 l2 l3 : Addr) (g : List Nat) : (rf l1 l2 l3 g).lookup ("found" : Str) = some (.ref l3) := (lookup_no (Ne.symm nAF)).trans ((lookup_no (Ne.symm nBF)).trans ((lookup_no (Ne.symm nTF)).trans lookup_yes))
theorem rf_no (l1 l2 l3 : Addr) (g : List Nat) {m : Str} (h1 : ¬ m = "awaited") (h2 : ¬ m = "begun") (h3 : ¬ m = "tag") (h4 : ¬ m = "found") : (rf l1 l2 l3 g).lookup m = none :=
  (lookup_no h1).trans ((lookup_no h2).trans ((lookup_no h3).trans ((lookup_no h4).trans rfl)))
theorem rf_put (l1 l2 l3 : Addr) (g g' : List Nat) : putF "tag" (.str (Sx g')) (rf l1 l2 l3 g) = rf l1 l2 l3 g' := by
  show (if ("awaited" : Str) = "tag" then _ else (("awaited" : Str), V.ref l1) :: (if ("begun" : Str) = "tag" then _ else (("begun" : Str), V.ref l2) :: (if ("tag" : Str) = "tag" then (("tag" : Str), V.str (Sx g')) :: _ else _))) = _
  rw [if_neg nAT, if_neg nBT, if_pos rfl]
  rfl
/-- the nodes that were begun, each a list of its tag and its parts so far -/
def Bg (H : Hp) (rs : List Addr) (bgs : List (List Nat × List T)) : Prop := Paired (fun r e => ∃ vs, H r = some (.lst (.str (Sx e.1) :: vs)) ∧ Paired (At H) vs e.2) rs bgs
structure RdO (C : Addr) (H0 H : Hp) (p : Addr) (m : M) (dx l1 l2 l3 : Addr) (rs : List Addr) (vs : List V) : Prop where
  same : Same H0 H
  ob : H p = some (.ins C dx (rf l1 l2 l3 m.tag))
  a : H l1 = some (.lst (m.aw.reverse.map fun a => V.str (wd a)))
  b : H l2 = some (.lst (rs.reverse.map V.ref))
  f : H l3 = some (.lst vs)
  fd : Paired (At H) vs m.fd
  bg : Bg H rs m.bg
  np : H0 p = none
  n1 : H0 l1 = none
  n2 : H0 l2 = none
  n3 : H0 l3 = none
  nr : ∀ r ∈ rs, H0 r = none
  d12 : l1 ≠ l2
  d13 : l1 ≠ l3
  d23 : l2 ≠ l3
  nd : rs.Nodup
  r1 : ¬ l1 ∈ rs
  r2 : ¬ l2 ∈ rs
  r3 : ¬ l3 ∈ rs
/-- a reading stands at p, as m says; H0: the heap ahead of it -/
def RdAt (C : Addr) (H0 H : Hp) (p : Addr) (m : M) : Prop := ∃ dx l1 l2 l3 rs vs, RdO C H0 H p m dx l1 l2 l3 rs vs
theorem Bg.keep {H H' : Hp} {rs : List Addr} {bgs : List (List Nat × List T)} (h : Bg H rs bgs) (t : Tups H H') (k : ∀ r ∈ rs, ∀ o, H r = some o → H' r = some o) : Bg H' rs bgs := by
  unfold Bg at h ⊢
  induction h with
  | nil => exact .nil
  | @cons r e rs bgs h1 h2 ih =>
    obtain ⟨vs, q1, q2⟩ := h1
    exact .cons ⟨vs, k _ List.mem_cons_self _ q1, Ats.mono t q2⟩ (ih fun x hx => k x (List.mem_cons_of_mem _ hx))
theorem bg_kind {H : Hp} {rs : List Addr} {bgs : List (List Nat × List T)} (h : Bg H rs bgs) : ∀ r ∈ rs, ∃ xs, H r = some (.lst xs) := by
  unfold Bg at h
  induction h with
  | nil => intro r hr; cases hr
  | @cons r e rs bgs h1 h2 ih =>
    intro x hx
    obtain ⟨vs, q1, _⟩ := h1
    rcases List.mem_cons.mp hx with z | z
    · rw [z]; exact ⟨_, q1⟩
    · exact ih x z
/-- what is new does not touch it -/
theorem RdO.more {C : Addr} {H0 H H' : Hp} {p : Addr} {m : M} {dx l1 l2 l3 : Addr} {rs : List Addr} {vs : List V} (h : RdO C H0 H p m dx l1 l2 l3 rs vs) (s : Same H H') : RdO C H0 H' p m dx l1 l2 l3 rs vs :=
  { h with same := h.same.trans s, ob := s _ _ h.ob, a := s _ _ h.a, b := s _ _ h.b, f := s _ _ h.f, fd := Ats.mono s.tups h.fd, bg := h.bg.keep s.tups fun r _ o q => s _ _ q }
theorem RdAt.more {C : Addr} {H0 H H' : Hp} {p : Addr} {m : M} (h : RdAt C H0 H p m) (s : Same H H') : RdAt C H0 H' p m := by
  obtain ⟨dx, l1, l2, l3, rs, vs, h⟩ := h
  exact ⟨dx, l1, l2, l3, rs, vs, h.more s⟩
section
variable {C : Addr} {H0 H : Hp} {p : Addr} {m : M} {dx l1 l2 l3 : Addr} {rs : List Addr} {vs : List V}
theorem RdO.p1 (h : RdO C H0 H p m dx l1 l2 l3 rs vs) : p ≠ l1 := ne_of h.ob h.a fun z => by cases z
theorem RdO.p2 (h : RdO C H0 H p m dx l1 l2 l3 rs vs) : p ≠ l2 := ne_of h.ob h.b fun z => by cases z
theorem RdO.p3 (h : RdO C H0 H p m dx l1 l2 l3 rs vs) : p ≠ l3 := ne_of h.ob h.f fun z => by cases z
theorem RdO.pr (h : RdO C H0 H p m dx l1 l2 l3 rs vs) : ∀ r ∈ rs, p ≠ r := fun r hr => by
  obtain ⟨xs, q⟩ := bg_kind h.bg r hr
  exact ne_of h.ob q fun z => by cases z
theorem not_of {l : Addr} {l' : List Addr} (h : ¬ l ∈ l') : ∀ r ∈ l', r ≠ l := fun r hr e => h (e ▸ hr)
/-- the tag is set -/
theorem RdO.setTag (h : RdO C H0 H p m dx l1 l2 l3 rs vs) (g : List Nat) : RdO C H0 (upd H p (.ins C dx (putF "tag" (.str (Sx g)) (rf l1 l2 l3 m.tag)))) p { m with tag := g } dx l1 l2 l3 rs vs := by
  have tw : Tups H (upd H p (.ins C dx (putF "tag" (.str (Sx g)) (rf l1 l2 l3 m.tag)))) := Tups.write h.ob fun _ z => by cases z
  exact { h with
    same := fun b o q => by rw [upd_ne (ne_of_none q h.np)]; exact h.same b o q
    ob := by rw [upd_same, rf_put]
    a := by rw [upd_ne h.p1.symm]; exact h.a
    b := by rw [upd_ne h.p2.symm]; exact h.b
    f := by rw [upd_ne h.p3.symm]; exact h.f
    fd := Ats.mono tw h.fd
    bg := h.bg.keep tw fun r hr o q => by rw [upd_ne (h.pr r hr).symm]; exact q }
/-- the list of what is awaited is changed -/
theorem RdO.setAw (h : RdO C H0 H p m dx l1 l2 l3 rs vs) {aw : List Aw} {xs : List V} (e : xs = aw.reverse.map fun a => V.str (wd a)) : RdO C H0 (upd H l1 (.lst xs)) p { m with aw := aw } dx l1 l2 l3 rs vs := by
  have tw : Tups H (upd H l1 (.lst xs)) := Tups.write h.a fun _ z => by cases z
  exact { h with
    same := fun b o q => by rw [upd_ne (ne_of_none q h.n1)]; exact h.same b o q
    ob := by rw [upd_ne h.p1]; exact h.ob
    a := by rw [upd_same, e]
    b := by rw [upd_ne h.d12.symm]; exact h.b
    f := by rw [upd_ne h.d13.symm]; exact h.f
    fd := Ats.mono tw h.fd
    bg := h.bg.keep tw fun r hr o q => by rw [upd_ne (not_of h.r1 r hr)]; exact q }
/-- the list of what was found grows -/
theorem RdO.addFound (h : RdO C H0 H p m dx l1 l2 l3 rs vs) {v : V} {t : T} (ht : At H v t) : RdO C H0 (upd H l3 (.lst (vs ++ [v]))) p { m with fd := m.fd ++ [t] } dx l1 l2 l3 rs (vs ++ [v]) := by
  have tw : Tups H (upd H l3 (.lst (vs ++ [v]))) := Tups.write h.f fun _ z => by cases z
  exact { h with
    same := fun b o q => by rw [upd_ne (ne_of_none q h.n3)]; exact h.same b o q
    ob := by rw [upd_ne h.p3]; exact h.ob
    a := by rw [upd_ne h.d13]; exact h.a
    b := by rw [upd_ne h.d23]; exact h.b
    f := upd_same
    fd := paired_app (Ats.mono tw h.fd) (.cons (ht.mono tw) .nil)
    bg := h.bg.keep tw fun r hr o q => by rw [upd_ne (not_of h.r3 r hr)]; exact q }
/-- the innermost begun node gets a part -/
theorem RdO.addPart {g : List Nat} {ps : List T} {bg : List (List Nat × List T)} (h : RdO C H0 H p m dx l1 l2 l3 rs vs) (e : m.bg = (g, ps) :: bg) {v : V} {t : T} (ht : At H v t) :
    ∃ r rs' ws, rs = r :: rs' ∧ H r = some (.lst (.str (Sx g) :: ws)) ∧ Paired (At H) ws ps ∧ RdO C H0 (upd H r (.lst ((.str (Sx g) :: ws) ++ [v]))) p { m with bg := (g, ps ++ [t]) :: bg } dx l1 l2 l3 rs vs := by
  have hb := h.bg
  rw [e] at hb
  unfold Bg at hb
  cases hb with
  | @cons r _ rs' _ h1 h2 =>
    obtain ⟨ws, q1, q2⟩ := h1
    have tw : Tups H (upd H r (.lst ((.str (Sx g) :: ws) ++ [v]))) := Tups.write q1 fun _ z => by cases z
    have nr := List.nodup_cons.mp h.nd
    refine ⟨r, rs', ws, rfl, q1, q2, ?_⟩
    exact { h with
      same := fun b o q => by rw [upd_ne (ne_of_none q (h.nr r List.mem_cons_self))]; exact h.same b o q
      ob := by rw [upd_ne (h.pr r List.mem_cons_self)]; exact h.ob
      a := by rw [upd_ne (fun z => h.r1 (by rw [z]; exact List.mem_cons_self))]; exact h.a
      b := by rw [upd_ne (fun z => h.r2 (by rw [z]; exact List.mem_cons_self))]; exact h.b
      f := by rw [upd_ne (fun z => h.r3 (by rw [z]; exact List.mem_cons_self))]; exact h.f
      fd := Ats.mono tw h.fd
      bg := .cons ⟨ws ++ [v], upd_same, paired_app (Ats.mono tw q2) (.cons (ht.mono tw) .nil)⟩ (Bg.keep h2 tw fun x hx o q => by rw [upd_ne (fun z => nr.1 (by rw [← z]; exact hx))]; exact q) }
/-- a node is begun: r is its list, made ahead -/
theorem RdO.begin_ (h : RdO C H0 H p m dx l1 l2 l3 rs vs) {r : Addr} {g : List Nat} (hr : H r = some (.lst [.str (Sx g)])) (n0 : H0 r = none) (a1 : r ≠ l1) (a2 : r ≠ l2) (a3 : r ≠ l3) (ar : ¬ r ∈ rs) :
    RdO C H0 (upd H l2 (.lst (rs.reverse.map V.ref ++ [.ref r]))) p { m with bg := (g, []) :: m.bg } dx l1 l2 l3 (r :: rs) vs := by
  have tw : Tups H (upd H l2 (.lst (rs.reverse.map V.ref ++ [.ref r]))) := Tups.write h.b fun _ z => by cases z
  exact { h with
    same := fun b o q => by rw [upd_ne (ne_of_none q h.n2)]; exact h.same b o q
    ob := by rw [upd_ne h.p2]; exact h.ob
    a := by rw [upd_ne h.d12]; exact h.a
    b := by rw [upd_same, List.reverse_cons, List.map_append] <;> rfl
    f := by rw [upd_ne h.d23.symm]; exact h.f
    fd := Ats.mono tw h.fd
    bg := .cons ⟨[], by rw [upd_ne a2]; exact hr, .nil⟩ (h.bg.keep tw fun x hx o q => by rw [upd_ne (not_of h.r2 x hx)]; exact q)
    nr := fun x hx => by
      rcases List.mem_cons.mp hx with z | z
      · rw [z]; exact n0
      · exact h.nr x z
    nd := List.nodup_cons.mpr ⟨ar, h.nd⟩
    r1 := fun z => (List.mem_cons.mp z).elim (fun q => a1 q.symm) h.r1
    r2 := fun z => (List.mem_cons.mp z).elim (fun q => a2 q.symm) h.r2
    r3 := fun z => (List.mem_cons.mp z).elim (fun q => a3 q.symm) h.r3 }
/-- the innermost begun node is taken off -/
theorem RdO.unbegin {e : List Nat × List T} {bg : List (List Nat × List T)} (h : RdO C H0 H p m dx l1 l2 l3 rs vs) (eb : m.bg = e :: bg) :
    ∃ r rs' ws, rs = r :: rs' ∧ H r = some (.lst (.str (Sx e.1) :: ws)) ∧ Paired (At H) ws e.2 ∧ rs.reverse.map V.ref = rs'.reverse.map V.ref ++ [.ref r] ∧ r ≠ l2 ∧
      RdO C H0 (upd H l2 (.lst (rs'.reverse.map V.ref))) p { m with bg := bg } dx l1 l2 l3 rs' vs := by
  have hb := h.bg
  rw [eb] at hb
  unfold Bg at hb
  cases hb with
  | @cons r _ rs' _ h1 h2 =>
    obtain ⟨ws, q1, q2⟩ := h1
    have tw : Tups H (upd H l2 (.lst (rs'.reverse.map V.ref))) := Tups.write h.b fun _ z => by cases z
    have nr := List.nodup_cons.mp h.nd
    refine ⟨r, rs', ws, rfl, q1, q2, by rw [List.reverse_cons, List.map_append] <;> rfl, fun z => h.r2 (by rw [← z]; exact List.mem_cons_self), ?_⟩
    exact { h with
      same := fun b o q => by rw [upd_ne (ne_of_none q h.n2)]; exact h.same b o q
      ob := by rw [upd_ne h.p2]; exact h.ob
      a := by rw [upd_ne h.d12]; exact h.a
      b := upd_same
      f := by rw [upd_ne h.d23.symm]; exact h.f
      fd := Ats.mono tw h.fd
      bg := Bg.keep h2 tw fun x hx o q => by rw [upd_ne (not_of h.r2 x (List.mem_cons_of_mem _ hx))]; exact q
      nr := fun x hx => h.nr x (List.mem_cons_of_mem _ hx)
      nd := nr.2
      r1 := fun z => h.r1 (List.mem_cons_of_mem _ z)
      r2 := fun z => h.r2 (List.mem_cons_of_mem _ z)
      r3 := fun z => h.r3 (List.mem_cons_of_mem _ z) }
end
end Eo
/-! The methods of Reading, one by one. -/
namespace Eo
open PySem PySem.Spec PyProof.Rows L2
structure RTxt (K : PySem.W.Frag) (C : Addr) : Prop where
  cl : Cls K C
  nA : NoAttr K C "awaited"
  nB : NoAttr K C "begun"
  nT : NoAttr K C "tag"
  nF : NoAttr K C "found"
/-- a method that may be called -/
structure Met (P : Program) (w : World) (K : PySem.W.Frag) (mg : Str → Option Value) (base : Heap) (k : Nat) (C : Addr) (m : Str) (sp : Sp) : Prop where
  ex : ∃ (f : Addr) (fd : FuncData) (ps : List Str), Cls K C ∧ Meth K C m f ∧ FnOk P w K mg base CX0 k f fd ps sp ∧ Binds K fd ps []
section
variable {X : Cx} {k j : Nat} {C : Addr} {m : Str} {sp : Sp} {p pos apos : Pos} {e o : Expr} {es : List Expr} {ta : TE} {t : TA}
theorem pe_mt {pl : Sem Bool} (c : Met X.prog X.w X.K X.mg X.base k C m sp) (hr : Room j X.A) (he : PE X o ta) (ha : PA X (e :: es) t) (hk : k ≤ j := by first | decide | omega)
    (hst : starEach (e :: es) X.env = (false, eval e X.env) :: starEach es X.env := by rfl) (hpl : (backTo pos (starEach es X.env)).any (·.1) = false := by rfl)
    (ht : eval (.Call (.Attribute o m apos) (e :: es) [] pos) X.env = (do
      let ov ← eval o X.env
      standAt apos.atName
      let (f, first) ← holding [ov] (getMethod ov m pl)
      callWith pos f first (backTo pos (starEach (e :: es) X.env)) (backToKw pos (keywordEach [] X.env))) := by rfl) :
    PE X (.Call (.Attribute o m apos) (e :: es) [] pos) (tMeth C m sp [] E0 ta t) := by
  obtain ⟨f, fd, ps, hc, hm, F, b⟩ := c.ex
  exact pe_meth (pl := pl) he hc hm F (hr.mono hk) b .nil pass0 ha hst hpl ht
theorem pe_mt0 {pl : Sem Bool} (c : Met X.prog X.w X.K X.mg X.base k C m sp) (hr : Room j X.A) (he : PE X o ta) (hk : k ≤ j := by first | decide | omega)
    (ht : eval (.Call (.Attribute o m apos) [] [] pos) X.env = (do
      let ov ← eval o X.env
      standAt apos.atName
      let (f, first) ← holding [ov] (getMethod ov m pl)
      callWith pos f first (backTo pos (starEach [] X.env)) (backToKw pos (keywordEach [] X.env))) := by rfl) :
    PE X (.Call (.Attribute o m apos) [] [] pos) (tMeth C m sp [] E0 ta tNil) := by
  obtain ⟨f, fd, ps, hc, hm, F, b⟩ := c.ex
  exact pe_meth0 (pl := pl) he hc hm F (hr.mono hk) b .nil pass0 ht
end
section
variable {P : Program} {w : World} {K : PySem.W.Frag} {mg : Str → Option Value} {base : Heap}
/-! ### __init__ -/
def spInit (C : Addr) : Sp := fun vs H Q _ => ∃ (p dx : Addr) (H0 : Hp), vs = [.ref p] ∧ H p = some (.ins C dx []) ∧ Same H0 H ∧ H0 p = none ∧
  ∀ H', RdAt C H0 H' p { aw := [.tree], bg := [], tag := [], fd := [] } → Q .non H'
theorem scInit : FnScope ["self"] ["self"] (defScope sInit) := ⟨rfl, rfl, rfl, by decide +kernel, rfl, by decide +kernel, by decide +kernel⟩
theorem put1 (l1 : Addr) : putF "awaited" (.ref l1) [] = [(("awaited" : Str), V.ref l1)] := rfl
theorem put2 (l1 l2 : Addr) : putF "begun" (.ref l2) [(("awaited" : Str), V.ref l1)] = [(("awaited" : Str), V.ref l1), ("begun", .ref l2)] := by
  show (if ("awaited" : Str) = "begun" then _ else (("awaited" : Str), V.ref l1) :: [(("begun" : Str), V.ref l2)]) = _
  rw [if_neg nAB]
theorem put3 (l1 l2 : Addr) (x : V) : putF "tag" x [(("awaited" : Str), V.ref l1), ("begun", .ref l2)] = [(("awaited" : Str), V.ref l1), ("begun", .ref l2), ("tag", x)] := by
  show (if ("awaited" : Str) = "tag" then _ else (("awaited" : Str), V.ref l1) :: (if ("begun" : Str) = "tag" then _ else (("begun" : Str), V.ref l2) :: [(("tag" : Str), x)])) = _
  rw [if_neg nAT, if_neg nBT]
theorem put4 (l1 l2 l3 : Addr) : putF "found" (.ref l3) [(("awaited" : Str), V.ref l1), ("begun", .ref l2), ("tag", .str "")] = rf l1 l2 l3 [] := by
  show (if ("awaited" : Str) = "found" then _ else (("awaited" : Str), V.ref l1) :: (if ("begun" : Str) = "found" then _ else (("begun" : Str), V.ref l2) :: (if ("tag" : Str) = "found" then _ else (("tag" : Str), V.str "") :: [(("found" : Str), V.ref l3)]))) = _
  rw [if_neg nAF, if_neg nBF, if_neg nTF]
  rfl
theorem ok_init {C f : Addr} {fd : FuncData} (F : Fun K "__init__" "Reading.__init__" sInit f fd) (TX : Txt mg) (R : RTxt K C) : FnOk P w K mg base CX0 1 f fd ["self"] (spInit C) := by
  refine F.ok scInit (fun vs H Q E h => ?_) (fun cdv A outer s H vs Q E hr h => ?_)
  · obtain ⟨p, dx, H0, rfl, _⟩ := h
    rfl
  obtain ⟨p, dx, H0, rfl, hp, s0, n0, k⟩ := h
  obtain ⟨tk, gT⟩ := TX.tree
  refine ⟨_, pss_cons (ps_fld (pv 0) (pe_lst (pa_cons (pe_glob (v := .str "tree") rfl gT ⟨_, rfl⟩) pa_nil)) rfl) (pss_cons (ps_fld (pv 0) (pe_lst pa_nil) rfl) (pss_cons (ps_fld (pv 0) pe_str rfl) (pss_one (ps_fld (pv 0) (pe_lst pa_nil) rfl)))), ?_⟩
  refine ⟨(by show 1 ≤ sizeLine; decide), fun l1 h1 => ⟨_, rfl, p, C, dx, [], rfl, (by rw [upd_ne (ne_of_none hp h1)]; exact hp), R.cl, R.nA, (by show 0 < 1000; decide), ?_⟩⟩
  have e1 : upd (upd H l1 (.lst [.str "tree"])) p (.ins C dx (putF "awaited" (.ref l1) [])) p = some (.ins C dx [(("awaited" : Str), V.ref l1)]) := upd_same
  have p1 : l1 ≠ p := (ne_of_none hp h1).symm
  have a1 : upd (upd H l1 (.lst [.str "tree"])) p (.ins C dx (putF "awaited" (.ref l1) [])) l1 = some (.lst [.str "tree"]) := by rw [upd_ne p1, upd_same]
  have s1 : Same H0 (upd (upd H l1 (.lst [.str "tree"])) p (.ins C dx (putF "awaited" (.ref l1) []))) := fun b o q => by
    rw [upd_ne (ne_of_none q n0)]
    exact (s0.trans (same_new h1 _)) b o q
  have f1 : H0 l1 = none := s0.free h1
  generalize upd (upd H l1 (.lst [.str "tree"])) p (.ins C dx (putF "awaited" (.ref l1) [])) = H1 at e1 a1 s1 ⊢
  refine ⟨(by show 0 ≤ sizeLine; decide), fun l2 h2 => ⟨_, rfl, p, C, dx, _, rfl, (by rw [upd_ne (ne_of_none e1 h2)]; exact e1), R.cl, R.nB, (by show 1 < 1000; decide), ?_⟩⟩
  have e2 : upd (upd H1 l2 (.lst [])) p (.ins C dx (putF "begun" (.ref l2) [(("awaited" : Str), V.ref l1)])) p = some (.ins C dx [(("awaited" : Str), V.ref l1), ("begun", .ref l2)]) := by rw [upd_same, put2]
  have p2 : l2 ≠ p := (ne_of_none e1 h2).symm
  have d12 : l1 ≠ l2 := ne_of_none a1 h2
  have a2 : upd (upd H1 l2 (.lst [])) p (.ins C dx (putF "begun" (.ref l2) [(("awaited" : Str), V.ref l1)])) l1 = some (.lst [.str "tree"]) := by rw [upd_ne p1, upd_ne d12]; exact a1
  have b2 : upd (upd H1 l2 (.lst [])) p (.ins C dx (putF "begun" (.ref l2) [(("awaited" : Str), V.ref l1)])) l2 = some (.lst []) := by rw [upd_ne p2, upd_same]
  have s2 : Same H0 (upd (upd H1 l2 (.lst [])) p (.ins C dx (putF "begun" (.ref l2) [(("awaited" : Str), V.ref l1)]))) := fun b o q => by
    rw [upd_ne (ne_of_none q n0)]
    exact (s1.trans (same_new h2 _)) b o q
  have f2 : H0 l2 = none := s1.free h2
  generalize upd (upd H1 l2 (.lst [])) p (.ins C dx (putF "begun" (.ref l2) [(("awaited" : Str), V.ref l1)])) = H2 at e2 a2 b2 s2 ⊢
  refine ⟨_, rfl, p, C, dx, _, rfl, e2, R.cl, R.nT, (by show 2 < 1000; decide), ?_⟩
  have e3 : upd H2 p (.ins C dx (putF "tag" (.str "") [(("awaited" : Str), V.ref l1), ("begun", .ref l2)])) p = some (.ins C dx [(("awaited" : Str), V.ref l1), ("begun", .ref l2), ("tag", .str "")]) := by rw [upd_same, put3]
  have a3 : upd H2 p (.ins C dx (putF "tag" (.str "") [(("awaited" : Str), V.ref l1), ("begun", .ref l2)])) l1 = some (.lst [.str "tree"]) := by rw [upd_ne p1]; exact a2
  have b3 : upd H2 p (.ins C dx (putF "tag" (.str "") [(("awaited" : Str), V.ref l1), ("begun", .ref l2)])) l2 = some (.lst []) := by rw [upd_ne p2]; exact b2
  have s3 : Same H0 (upd H2 p (.ins C dx (putF "tag" (.str "") [(("awaited" : Str), V.ref l1), ("begun", .ref l2)]))) := fun b o q => by
    rw [upd_ne (ne_of_none q n0)]
    exact s2 b o q
  generalize upd H2 p (.ins C dx (putF "tag" (.str "") [(("awaited" : Str), V.ref l1), ("begun", .ref l2)])) = H3 at e3 a3 b3 s3 ⊢
  refine ⟨(by show 0 ≤ sizeLine; decide), fun l3 h3 => ⟨_, rfl, p, C, dx, _, rfl, (by rw [upd_ne (ne_of_none e3 h3)]; exact e3), R.cl, R.nF, (by show 3 < 1000; decide), ?_⟩⟩
  have p3 : l3 ≠ p := (ne_of_none e3 h3).symm
  have d13 : l1 ≠ l3 := ne_of_none a3 h3
  have d23 : l2 ≠ l3 := ne_of_none b3 h3
  refine k _ ⟨dx, l1, l2, l3, [], [], ?_, ?_, ?_, ?_, ?_, .nil, .nil, n0, f1, f2, s3.free h3, fun _ z => (nomatch z), d12, d13, d23, .nil, (fun z => nomatch z), (fun z => nomatch z), (fun z => nomatch z)⟩
  · intro b o q
    rw [upd_ne (ne_of_none q n0)]
    exact (s3.trans (same_new h3 _)) b o q
  · rw [upd_same, put4]
  · rw [upd_ne p1, upd_ne d13]
    exact a3
  · rw [upd_ne p2, upd_ne d23]
    exact b3
  · rw [upd_ne p3, upd_same]
/-! ### add -/
def spAdd (C : Addr) : Sp := fun vs H Q _ => ∃ (p : Addr) (v : V) (t : T) (m : M) (H0 : Hp), vs = [.ref p, v] ∧ RdAt C H0 H p m ∧ At H v t ∧ m.Small ∧ ∀ H', RdAt C H0 H' p (m.add t) → Q .non H'
theorem scAdd : FnScope ["self", "tree"] ["self", "tree"] (defScope sAdd) := ⟨rfl, rfl, rfl, by decide +kernel, rfl, by decide +kernel, by decide +kernel⟩
theorem add_nil {m : M} (h : m.bg = []) (t : T) : m.add t = { m with fd := m.fd ++ [t] } := by
  unfold M.add
  rw [h]
theorem add_cons {m : M} {g : List Nat} {ps : List T} {r : List (List Nat × List T)} (h : m.bg = (g, ps) :: r) (t : T) : m.add t = { m with bg := (g, ps ++ [t]) :: r } := by
  unfold M.add
  rw [h]
theorem tiny {n : Nat} (h : n ≤ 60000) : n < sizeLine := Nat.lt_of_le_of_lt h (by decide)
theorem ok_add {C f : Addr} {fd : FuncData} (F : Fun K "add" "Reading.add" sAdd f fd) (R : RTxt K C) : FnOk P w K mg base CX0 1 f fd ["self", "tree"] (spAdd C) := by
  refine F.ok scAdd (fun vs H Q E h => ?_) (fun cdv A outer s H vs Q E hr h => ?_)
  · obtain ⟨p, v, t, m, H0, rfl, _⟩ := h
    rfl
  obtain ⟨p, v, t, m, H0, rfl, ⟨dx, l1, l2, l3, rs, vs, O⟩, ht, sm, k⟩ := h
  refine ⟨_, pss_one (ps_if (pt_cmpR (op_eqNil hr.units0) (pe_fld (pv 0) rfl) (pe_lst pa_nil) (nomark _))
    (pss_one (ps_expr (pe_bm PySem.F.plainAttrs_list PySem.F.slot_list_append PySem.F.type_list_append mt_append (pe_fld (pv 0) rfl) (pa_cons (pv 1) pa_nil))))
    (pss_one (ps_expr (pe_bm PySem.F.plainAttrs_list PySem.F.slot_list_append PySem.F.type_list_append mt_append (pe_ix ix_list (pe_fld (pv 0) rfl) (pe_un un_neg pe_int) (fun _ _ => rfl)) (pa_cons (pv 1) pa_nil))))), ?_⟩
  refine ⟨_, rfl, p, C, dx, _, _, rfl, O.ob, R.cl, R.nB, rf_b _ _ _ _, (by show 0 ≤ sizeLine; decide), fun e he => ⟨l2, e, _, rfl, rfl, same_new he _ _ _ O.b, upd_same, _, rfl, ?_⟩⟩
  have O1 := O.more (same_new he (.lst []))
  have ht1 := ht.mono (same_new he (.lst [])).tups
  generalize upd H e (.lst []) = H1 at O1 ht1 ⊢
  cases hb : m.bg with
  | nil =>
    have q := O1.bg
    rw [hb] at q
    unfold Bg at q
    cases q
    refine iteT ?_
    have lv : vs.length = m.fd.length := Paired.length O1.fd
    have z := sm.fd
    refine ⟨_, rfl, p, C, dx, _, _, rfl, O1.ob, R.cl, R.nF, rf_f _ _ _ _, Or.inl ⟨rfl, _, Or.inl (Or.inl O1.f)⟩, _, rfl, l3, vs, v, rfl, rfl, O1.f, tiny (by omega), ?_⟩
    refine k _ ?_
    rw [add_nil hb]
    exact ⟨dx, l1, l2, l3, [], _, O1.addFound ht1⟩
  | cons e0 bg =>
    obtain ⟨g, ps⟩ := e0
    obtain ⟨r, rs', ws, rfl, q1, q2, O2⟩ := O1.addPart hb ht1
    have er : (r :: rs').reverse.map V.ref = rs'.reverse.map V.ref ++ [.ref r] := by rw [List.reverse_cons, List.map_append] <;> rfl
    have lw : ws.length = ps.length := Paired.length q2
    have z := sm.ps (g, ps) (by rw [hb]; exact List.mem_cons_self)
    have hne : ((((r :: rs').reverse.map V.ref).isEmpty) != false) = false := by rw [er]; simp
    rw [hne]
    refine iteF ?_
    refine ⟨_, rfl, p, C, dx, _, _, rfl, O1.ob, R.cl, R.nB, rf_b _ _ _ _, 1, rfl, l2, _, _, .ref r, rfl, rfl, SqL.of O1.b, (by rw [er]; exact atI_last _ _), Or.inl ⟨rfl, _, Or.inl (Or.inl q1)⟩, _, rfl, r, _, v, rfl, rfl, q1, ?_, ?_⟩
    · show ws.length + 1 < sizeLine
      have z' : ps.length ≤ 10 := z
      exact tiny (by omega)
    · refine k _ ?_
      rw [add_cons hb]
      exact ⟨dx, l1, l2, l3, _, _, O2⟩
end
end Eo
/-! end_tag, take_awaited, take. -/
namespace Eo
open PySem PySem.Spec PyProof.Rows L2
theorem tag_empty (g : List Nat) : (!decide (V.str (Sx g) = V.str ("" : Str))) = true ↔ g ≠ [] := by
  have e0 : ("" : Str) = Sx [] := by decide +kernel
  rw [e0]
  constructor
  · intro h z
    rw [z, decide_eq_true rfl] at h
    cases h
  · intro h
    rw [decide_eq_false fun q => h (Sx_inj (V.str.inj q))]
    rfl
theorem small_sign {x : Nat} : decide (x ∈ ("abcdefghijklmnopqrstuvwxyz" : Str).cps.toList) = true ↔ small x = true := by rw [small_is]
section
variable {P : Program} {w : World} {K : PySem.W.Frag} {mg : Str → Option Value} {base : Heap}
/-! ### end_tag -/
def spEndTag (C : Addr) : Sp := fun vs H Q _ => ∃ (p : Addr) (m : M) (H0 : Hp), vs = [.ref p] ∧ RdAt C H0 H p m ∧ m.Small ∧ ∀ H', RdAt C H0 H' p m.endTag → Q .non H'
theorem scEndTag : FnScope ["self"] ["self"] (defScope sEndTag) := ⟨rfl, rfl, rfl, by decide +kernel, rfl, by decide +kernel, by decide +kernel⟩
theorem ok_endTag {C f : Addr} {fd : FuncData} (F : Fun K "end_tag" "Reading.end_tag" sEndTag f fd) (R : RTxt K C) (A1 : Met P w K mg base 1 C "add" (spAdd C)) : FnOk P w K mg base CX0 2 f fd ["self"] (spEndTag C) := by
  refine F.ok scEndTag (fun vs H Q E h => ?_) (fun cdv A outer s H vs Q E hr h => ?_)
  · obtain ⟨p, m, H0, rfl, _⟩ := h
    rfl
  obtain ⟨p, m, H0, rfl, ⟨dx, l1, l2, l3, rs, vs, O⟩, sm, k⟩ := h
  refine ⟨_, pss_one (ps_if (pt_cmpR op_ne (pe_fld (pv 0) rfl) pe_str (nomark _))
    (pss_cons (ps_expr (pe_mt A1 hr (pv 0) (pa_cons (pe_tup (pa_cons (pe_fld (pv 0) rfl) (pa_cons pe_non (pa_cons pe_non pa_nil)))) pa_nil)))
    (pss_one (ps_fld (pv 0) pe_str rfl))) pss_nil), ?_⟩
  refine ⟨_, rfl, p, C, dx, _, _, rfl, O.ob, R.cl, R.nT, rf_t _ _ _ _, rfl, _, rfl, ?_⟩
  refine ite2 (fun h => ?_) (fun h => ?_)
  · have hg : m.tag ≠ [] := (tag_empty m.tag).mp h
    refine ⟨_, rfl, p, dx, _, rfl, O.ob, rf_no _ _ _ _ (by decide +kernel) (by decide +kernel) (by decide +kernel) (by decide +kernel), _, rfl, p, C, dx, _, _, rfl, O.ob, R.cl, R.nT, rf_t _ _ _ _, (by show 3 ≤ sizeLine; decide), fun q hq => ?_⟩
    have s1 : Same H (upd H q (.tup [.str (Sx m.tag), .non, .non])) := same_new hq _
    refine ⟨p, .ref q, .node m.tag .nil .nil, m, H0, rfl, ⟨dx, l1, l2, l3, rs, vs, O.more s1⟩, .node upd_same .nil .nil, sm, ?_⟩
    rintro H2 ⟨dx', l1', l2', l3', rs', vs', O2⟩
    have ht : (m.add (.node m.tag .nil .nil)).tag = m.tag := by
      unfold M.add
      split <;> rfl
    refine ⟨_, rfl, p, C, dx', _, rfl, O2.ob, R.cl, R.nT, (by show 4 < 1000; decide), ?_⟩
    refine k _ ?_
    have e : m.endTag = { m.add (.node m.tag .nil .nil) with tag := [] } := by
      unfold M.endTag
      rw [if_neg hg]
    rw [e]
    exact ⟨dx', l1', l2', l3', rs', vs', O2.setTag []⟩
  · have hg : m.tag = [] := by
      cases q : m.tag with
      | nil => rfl
      | cons c g => exact absurd ((tag_empty m.tag).mpr (by rw [q]; exact fun z => by cases z)) h
    refine k _ ?_
    have e : m.endTag = m := by
      unfold M.endTag
      rw [if_pos hg]
    rw [e]
    exact ⟨dx, l1, l2, l3, rs, vs, O⟩
/-! ### take_awaited -/
def spTakeAw (C : Addr) : Sp := fun vs H Q _ => ∃ (p : Addr) (x : Nat) (a : Aw) (m : M) (H0 : Hp), vs = [.ref p, .str (Sx [x]), .str (wd a)] ∧ RdAt C H0 H p m ∧ m.Small ∧ m.WfAw a ∧
  (∀ m' H', m.takeAw x a = some m' → RdAt C H0 H' p m' → Q (.bl true) H') ∧ (∀ H', m.takeAw x a = none → Same H0 H' → Q (.bl false) H')
theorem wd_inj : ∀ a b : Aw, decide (V.str (wd a) = V.str (wd b)) = decide (a = b) := by
  intro a b
  cases a <;> cases b <;> decide +kernel
theorem takeAw_tree {m : M} {x : Nat} {a : Aw} (h : a = .tree ∨ a = .node) : m.takeAw x a = (if small x = true then some { m with tag := [x] } else if x = 45 ∧ a = .tree then some (m.add .nil) else none) := by
  rcases h with rfl | rfl
  · unfold M.takeAw
    by_cases e : x = 45
    · rw [if_pos e, if_pos (⟨e, rfl⟩ : x = 45 ∧ Aw.tree = Aw.tree)]
    · rw [if_neg e, if_neg (fun q => e q.1 : ¬ (x = 45 ∧ Aw.tree = Aw.tree))]
  · unfold M.takeAw
    rw [if_neg (fun q => Aw.noConfusion q.2 : ¬ (x = 45 ∧ Aw.node = Aw.tree))]
theorem scTakeAw : FnScope ["self", "sign", "awaited"] ["self", "sign", "awaited"] (defScope sTakeAw) := ⟨rfl, rfl, rfl, by decide +kernel, rfl, by decide +kernel, by decide +kernel⟩
theorem ok_takeAw {C f : Addr} {fd : FuncData} (F : Fun K "take_awaited" "Reading.take_awaited" sTakeAw f fd) (TX : Txt mg) (R : RTxt K C) (A1 : Met P w K mg base 1 C "add" (spAdd C)) : FnOk P w K mg base CX0 2 f fd ["self", "sign", "awaited"] (spTakeAw C) := by
  refine F.ok scTakeAw (fun vs H Q E h => ?_) (fun cdv A outer s H vs Q E hr h => ?_)
  · obtain ⟨p, x, a, m, H0, rfl, _⟩ := h
    rfl
  obtain ⟨p, x, a, m, H0, rfl, ⟨dx, l1, l2, l3, rs, vs, O⟩, sm, wf, k1, k2⟩ := h
  obtain ⟨tS, gS⟩ := TX.small
  obtain ⟨t1, g1⟩ := TX.tree
  obtain ⟨t2, g2⟩ := TX.node
  obtain ⟨t3, g3⟩ := TX.comma
  obtain ⟨t4, g4⟩ := TX.close
  refine ⟨_, pss_cons (ps_if (pt_cmpR op_eq (pv 2) (pe_glob (v := .str "comma") rfl g3 ⟨_, rfl⟩) (nomark _))
      (pss_cons (ps_if (PW.pt (pw_and (pt_cmpR op_eq (pv 1) pe_str (nomark _)) (pw_and1 (pt_cmpR op_isN (pe_ix ix_list (pe_ix ix_list (pe_fld (pv 0) rfl) (pe_un un_neg pe_int) (fun _ _ => rfl)) pe_int (fun _ _ => rfl)) pe_non (nomark _)))))
        (pss_one (ps_asg (pe_glob (v := .str "node") rfl g2 ⟨_, rfl⟩) (pg_sub (pe_fld (pv 0) rfl) (pe_un un_neg pe_int) set_list))) pss_nil)
      (pss_one (ps_ret (pe_cmpR op_eq (pv 1) pe_str (nomark _))))) pss_nil)
    (pss_cons (ps_if (pt_cmpR op_eq (pv 2) (pe_glob (v := .str "close") rfl g4 ⟨_, rfl⟩) (nomark _))
      (pss_cons (ps_if (pt_cmpR op_eq (pv 1) pe_str (nomark _))
        (pss_one (ps_expr (pe_mt A1 hr (pv 0) (pa_cons (pe_callTy call_tuple_of rfl TX.tuple boot_tuple (pa_cons (pe_bm0 PySem.F.plainAttrs_list PySem.F.slot_list_pop PySem.F.type_list_pop mt_pop (pe_fld (pv 0) rfl)) pa_nil)) pa_nil)))) pss_nil)
      (pss_one (ps_ret (pe_cmpR op_eq (pv 1) pe_str (nomark _))))) pss_nil)
    (pss_cons (ps_if (pt_cmpR op_in_sign (pv 1) (pe_glob (v := .str "abcdefghijklmnopqrstuvwxyz") rfl gS ⟨_, rfl⟩) rfl) (pss_cons (ps_fld (pv 0) (pv 1) rfl) (pss_one (ps_ret pe_bl))) pss_nil)
    (pss_cons (ps_if (PW.pt (pw_and (pt_cmpR op_eq (pv 1) pe_str (nomark _)) (pw_and1 (pt_cmpR op_eq (pv 2) (pe_glob (v := .str "tree") rfl g1 ⟨_, rfl⟩) (nomark _)))))
      (pss_cons (ps_expr (pe_mt A1 hr (pv 0) (pa_cons pe_non pa_nil))) (pss_one (ps_ret pe_bl))) pss_nil)
    (pss_one (ps_ret pe_bl))))), ?_⟩
  have sg : ∀ (d : Nat) (z : Str), z = Sx [d] → decide (V.str (Sx [x]) = V.str z) = decide (x = d) := fun d z e => by rw [e]; exact sign_eq x d
  refine ⟨_, rfl, rfl, _, rfl, ?_⟩
  have w1 : decide (V.str (wd a) = V.str "comma") = decide (a = .comma) := wd_inj a .comma
  have w2 : decide (V.str (wd a) = V.str "close") = decide (a = .close) := wd_inj a .close
  have w3 : decide (V.str (wd a) = V.str "tree") = decide (a = .tree) := wd_inj a .tree
  -- a tree is awaited
  have rest : (a = .tree ∨ a = .node) → m.takeAw x a = (if small x = true then some { m with tag := [x] } else if x = 45 ∧ a = .tree then some (m.add .nil) else none) := takeAw_tree
  have tree_way : (a = .tree ∨ a = .node) → tSeq (tIfS (tTest (tOp (fun x y H Q => ∃ (c : Nat) (z : Str), x = .str ⟨#[c]⟩ ∧ y = .str z ∧ Q (.bl (decide (c ∈ z.cps.toList))) H) (tVar 1) (tC (.str "abcdefghijklmnopqrstuvwxyz")))) (tSeq (sFld K (tVar 0) (tVar 1) "tag") (tRet (tC (.bl true)))) tNext)
      (tSeq (tIfS (tAnd (tTest (tOp rEq (tVar 1) (tC (.str "-")))) (tTest (tOp rEq (tVar 2) (tC (.str "tree"))))) (tSeq (tDrop (tMeth C "add" (spAdd C) [] E0 (tVar 0) (tCons (tC .non) tNil))) (tRet (tC (.bl true)))) tNext) (tRet (tC (.bl false))))
      { nx := fun _ H' => Q .non H', rt := Q } [some (.ref p), some (.str (Sx [x])), some (.str (wd a))] H := by
    intro ha
    have rs := rest ha
    refine ⟨_, rfl, x, _, rfl, rfl, _, rfl, ?_⟩
    refine ite2 (fun h => ?_) (fun h => ?_)
    · have hx := small_sign.mp h
      rw [if_pos hx] at rs
      refine ⟨_, rfl, _, rfl, p, C, dx, _, rfl, O.ob, R.cl, R.nT, (by show 4 < 1000; decide), ?_⟩
      exact k1 _ _ rs ⟨dx, l1, l2, l3, _, vs, O.setTag [x]⟩
    · have hx : ¬ small x = true := fun z => h (small_sign.mpr z)
      rw [if_neg hx] at rs
      refine ⟨_, rfl, rfl, _, rfl, ?_⟩
      rw [sg 45 "-" lit_minus]
      refine ite2 (fun h2 => ?_) (fun h2 => ?_)
      · have e2 : x = 45 := of_decide_eq_true h2
        refine ⟨_, rfl, rfl, _, rfl, ?_⟩
        rw [w3]
        refine ite2 (fun h3 => ?_) (fun h3 => ?_)
        · have e3 : a = .tree := of_decide_eq_true h3
          rw [if_pos ⟨e2, e3⟩] at rs
          refine ⟨_, rfl, p, dx, _, rfl, O.ob, rf_no _ _ _ _ (by decide +kernel) (by decide +kernel) (by decide +kernel) (by decide +kernel), p, .non, .nil, m, H0, rfl, ⟨dx, l1, l2, l3, _, vs, O⟩, .nil, sm, fun H' O' => ?_⟩
          exact k1 _ _ rs O'
        · rw [if_neg fun q => h3 (decide_eq_true q.2)] at rs
          exact k2 _ rs O.same
      · rw [if_neg fun q => h2 (decide_eq_true q.1)] at rs
        exact iteF (k2 _ rs O.same)
  rw [w1]
  cases a with
  | comma =>
    refine iteT ?_
    obtain ⟨⟨g, u, ps, bg, hb⟩, haw⟩ := wf
    refine ⟨_, rfl, rfl, _, rfl, ?_⟩
    rw [sg 44 "," lit_comma]
    have snd : m.second = u.isNil := by
      unfold M.second
      rw [hb]
    have q0 := O.bg
    rw [hb] at q0
    unfold Bg at q0
    cases q0 with
    | @cons r _ rs' _ hr1 hr2 =>
      obtain ⟨ws, q1, q2⟩ := hr1
      cases q2 with
      | @cons v0 _ ws' _ at0 at1 =>
        have er : (r :: rs').reverse.map V.ref = rs'.reverse.map V.ref ++ [.ref r] := by rw [List.reverse_cons, List.map_append] <;> rfl
        refine ite2 (fun h => ?_) (fun h => ?_)
        · have hx : x = 44 := of_decide_eq_true h
          have tk : m.takeAw x .comma = some (if m.second = true then { m with aw := .node :: m.aw.tail } else m) := by
            show (if x = 44 then _ else none) = _
            rw [if_pos hx]
          refine ⟨_, rfl, p, C, dx, _, _, rfl, O.ob, R.cl, R.nB, rf_b _ _ _ _, 1, rfl, l2, _, _, .ref r, rfl, rfl, SqL.of O.b, (by rw [er]; exact atI_last _ _), r, _, 1, v0, rfl, rfl, SqL.of q1, atI_nat (j := 1) rfl, rfl, _, rfl, ?_⟩
          have vn := at0.isNil
          rw [vn]
          refine ite2 (fun h3 => ?_) (fun h3 => ?_)
          · obtain ⟨a0, aw', ea⟩ : ∃ a0 aw', m.aw = a0 :: aw' := by
              cases q : m.aw with
              | nil => exact absurd q haw
              | cons a0 aw' => exact ⟨a0, aw', rfl⟩
            have ex : (m.aw.reverse.map fun a => V.str (wd a)) = (aw'.reverse.map fun a => V.str (wd a)) ++ [.str (wd a0)] := by rw [ea, List.reverse_cons, List.map_append] <;> rfl
            have hlen : (m.aw.reverse.map fun a => V.str (wd a)).length = aw'.length + 1 := by rw [ex]; simp
            refine ⟨_, rfl, p, C, dx, _, _, rfl, O.ob, R.cl, R.nA, rf_a _ _ _ _, 1, rfl, l1, _, _, aw'.length, rfl, rfl, O.a, ?_, ?_⟩
            · rw [hlen]
              show ixN (aw'.length + 1) (-1) = some aw'.length
              unfold ixN
              rw [if_neg (by decide), if_pos (by omega)]
              exact congrArg some (by omega)
            · have e5 : ((m.aw.reverse.map fun a => V.str (wd a)).set aw'.length (.str "node")) = ((Aw.node :: aw').reverse.map fun a => V.str (wd a)) := by
                have e6 : aw'.length = (aw'.reverse.map fun a => V.str (wd a)).length := by simp
                rw [ex, List.reverse_cons, List.map_append, List.set_append, if_neg (by omega)]
                rw [show aw'.length - (aw'.reverse.map fun a => V.str (wd a)).length = 0 by omega]
                rfl
              rw [snd, if_pos h3] at tk
              have O2 := O.setAw (aw := .node :: m.aw.tail) (xs := (m.aw.reverse.map fun a => V.str (wd a)).set aw'.length (.str "node")) (by rw [e5, ea]; rfl)
              refine ⟨_, rfl, rfl, ?_⟩
              show Q (V.bl (decide (V.str (Sx [x]) = V.str ","))) _
              rw [sg 44 "," lit_comma, decide_eq_true hx]
              exact k1 _ _ tk ⟨dx, l1, l2, l3, _, vs, O2⟩
          · rw [snd, if_neg h3] at tk
            refine ⟨_, rfl, rfl, ?_⟩
            show Q (V.bl (decide (V.str (Sx [x]) = V.str ","))) _
            rw [sg 44 "," lit_comma, decide_eq_true hx]
            exact k1 _ _ tk ⟨dx, l1, l2, l3, _, vs, O⟩
        · have hx : ¬ x = 44 := fun z => h (decide_eq_true z)
          have tk : m.takeAw x .comma = none := by
            show (if x = 44 then _ else none) = _
            rw [if_neg hx]
          refine iteF ⟨_, rfl, rfl, ?_⟩
          show Q (V.bl (decide (V.str (Sx [x]) = V.str ","))) _
          rw [sg 44 "," lit_comma, decide_eq_false hx]
          exact k2 _ tk O.same
  | close =>
    refine iteF ?_
    refine ⟨_, rfl, rfl, _, rfl, ?_⟩
    rw [w2]
    refine iteT ?_
    obtain ⟨g, lt, rt, bg, hb⟩ := wf
    refine ⟨_, rfl, rfl, _, rfl, ?_⟩
    rw [sg 41 ")" lit_close]
    refine ite2 (fun h => ?_) (fun h => ?_)
    · have hx : x = 41 := of_decide_eq_true h
      have tk : m.takeAw x .close = some (M.add { m with bg := bg } (.node g lt rt)) := by
        show (if x = 41 then _ else none) = _
        rw [if_pos hx, hb]
      obtain ⟨r, rs', ws, rfl, q1, q2, er, nr2, O2⟩ := O.unbegin hb
      cases q2 with
      | @cons vl _ ws1 _ a1 a2 =>
        cases a2 with
        | @cons vr _ ws2 _ a3 a4 =>
          cases a4
          refine ⟨_, rfl, p, dx, _, rfl, O.ob, rf_no _ _ _ _ (by decide +kernel) (by decide +kernel) (by decide +kernel) (by decide +kernel), _, rfl, p, C, dx, _, _, rfl, O.ob, R.cl, R.nB, rf_b _ _ _ _,
            Or.inl ⟨rfl, _, Or.inl (Or.inl O.b)⟩, l2, _, .ref r, rfl, rfl, O.b, (by rw [er]; simp), r, _, rfl, .inl ⟨SqL.of (by rw [upd_ne nr2]; exact q1), fun q hq => ?_⟩⟩
          have ed : ((r :: rs').reverse.map V.ref).dropLast = rs'.reverse.map V.ref := by rw [er]; simp
          have tw : Tups H (upd H l2 (.lst ((r :: rs').reverse.map V.ref).dropLast)) := Tups.write O.b fun _ z => by cases z
          have O3 : RdO C H0 (upd H l2 (.lst ((r :: rs').reverse.map V.ref).dropLast)) p { m with bg := bg } dx l1 l2 l3 rs' vs := by rw [ed]; exact O2
          have s3 := same_new hq (.tup [.str (Sx g), vl, vr])
          refine ⟨p, .ref q, .node g lt rt, { m with bg := bg }, H0, rfl, ⟨dx, l1, l2, l3, rs', vs, O3.more s3⟩, .node upd_same ((a1.mono tw).mono s3.tups) ((a3.mono tw).mono s3.tups), ?_, fun H' O' => ?_⟩
          · have z := sm.bg
            rw [hb, List.length_cons] at z
            exact ⟨sm.aw, by show bg.length ≤ 50000; omega, sm.fd, fun e he => sm.ps e (by rw [hb]; exact List.mem_cons_of_mem _ he), sm.tag⟩
          · refine ⟨_, rfl, rfl, ?_⟩
            show Q (V.bl (decide (V.str (Sx [x]) = V.str ")"))) _
            rw [sg 41 ")" lit_close, decide_eq_true hx]
            exact k1 _ _ tk O'
    · have hx : ¬ x = 41 := fun z => h (decide_eq_true z)
      have tk : m.takeAw x .close = none := by
        show (if x = 41 then _ else none) = _
        rw [if_neg hx]
      refine ⟨_, rfl, rfl, ?_⟩
      show Q (V.bl (decide (V.str (Sx [x]) = V.str ")"))) _
      rw [sg 41 ")" lit_close, decide_eq_false hx]
      exact k2 _ tk O.same
  | tree =>
    refine iteF ?_
    refine ⟨_, rfl, rfl, _, rfl, ?_⟩
    rw [w2]
    exact iteF (tree_way (.inl rfl))
  | node =>
    refine iteF ?_
    refine ⟨_, rfl, rfl, _, rfl, ?_⟩
    rw [w2]
    exact iteF (tree_way (.inr rfl))
end
end Eo
/-! take, tree_read. -/
namespace Eo
open PySem PySem.Spec PyProof.Rows L2
section
variable {P : Program} {w : World} {K : PySem.W.Frag} {mg : Str → Option Value} {base : Heap}
/-! ### take -/
def spTake (C : Addr) : Sp := fun vs H Q _ => ∃ (p : Addr) (x : Nat) (m : M) (H0 : Hp), vs = [.ref p, .str (Sx [x])] ∧ RdAt C H0 H p m ∧ m.Small ∧ m.endTag.Small ∧ m.Wf ∧
  (∀ m' H', m.take x = some m' → RdAt C H0 H' p m' → Q (.bl true) H') ∧ (∀ H', m.take x = none → Same H0 H' → Q (.bl false) H')
theorem scTake : FnScope ["self", "sign"] ["self", "sign"] (defScope sTake) := ⟨rfl, rfl, rfl, by decide +kernel, rfl, by decide +kernel, by decide +kernel⟩
theorem ok_take {C f : Addr} {fd : FuncData} (F : Fun K "take" "Reading.take" sTake f fd) (TX : Txt mg) (R : RTxt K C) (A1 : Met P w K mg base 2 C "end_tag" (spEndTag C)) (A2 : Met P w K mg base 2 C "take_awaited" (spTakeAw C)) : FnOk P w K mg base CX0 3 f fd ["self", "sign"] (spTake C) := by
  refine F.ok scTake (fun vs H Q E h => ?_) (fun cdv A outer s H vs Q E hr h => ?_)
  · obtain ⟨p, x, m, H0, rfl, _⟩ := h
    rfl
  obtain ⟨p, x, m, H0, rfl, ⟨dx, l1, l2, l3, rs, vs, O⟩, sm, sm2, wf, k1, k2⟩ := h
  obtain ⟨tS, gS⟩ := TX.small
  obtain ⟨tL, gL⟩ := TX.longest
  obtain ⟨t1, g1⟩ := TX.tree
  obtain ⟨t3, g3⟩ := TX.comma
  obtain ⟨t4, g4⟩ := TX.close
  refine ⟨_, pss_cons (ps_if (PW.pt (pw_and (pt_cmpR op_ne (pe_fld (pv 0) rfl) pe_str (nomark _)) (pw_and1 (pt_cmpR op_in_sign (pv 1) (pe_glob (v := .str "abcdefghijklmnopqrstuvwxyz") rfl gS ⟨_, rfl⟩) rfl))))
      (pss_cons (ps_fld (pv 0) (pe_op op_add_str (pe_fld (pv 0) rfl) (pv 1)) rfl)
      (pss_one (ps_ret (pe_cmpR op_le (pe_callB call_len_str rfl TX.len PySem.boot_len (pa_cons (pe_fld (pv 0) rfl) pa_nil)) (pe_glob (v := .int 8) rfl gL ⟨_, rfl⟩) (nomark _))))) pss_nil)
    (pss_cons (ps_if (PW.pt (pw_and (pt_cmpR op_ne (pe_fld (pv 0) rfl) pe_str (nomark _)) (pw_and1 (pt_cmpR op_eq (pv 1) pe_str (nomark _)))))
      (pss_cons (ps_expr (pe_bm PySem.F.plainAttrs_list PySem.F.slot_list_append PySem.F.type_list_append mt_append (pe_fld (pv 0) rfl) (pa_cons (pe_lst (pa_cons (pe_fld (pv 0) rfl) pa_nil)) pa_nil)))
      (pss_cons (ps_fld (pv 0) pe_str rfl)
      (pss_cons (ps_expr (pe_bm PySem.F.plainAttrs_list PySem.F.slot_list_extend PySem.F.type_list_extend mt_extend (pe_fld (pv 0) rfl)
        (pa_cons (pe_lst (pa_cons (pe_glob (v := .str "close") rfl g4 ⟨_, rfl⟩) (pa_cons (pe_glob (v := .str "tree") rfl g1 ⟨_, rfl⟩) (pa_cons (pe_glob (v := .str "comma") rfl g3 ⟨_, rfl⟩) (pa_cons (pe_glob (v := .str "tree") rfl g1 ⟨_, rfl⟩) pa_nil))))) pa_nil)))
      (pss_one (ps_ret pe_bl))))) pss_nil)
    (pss_cons (ps_expr (pe_mt0 A1 hr (pv 0)))
    (pss_one (ps_ret (pe_and (pe_cmpR (op_neNil hr.units0) (pe_fld (pv 0) rfl) (pe_lst pa_nil) (nomark _))
      (pe_one (pe_mt A2 hr (pv 0) (pa_cons (pv 1) (pa_cons (pe_bm0 PySem.F.plainAttrs_list PySem.F.slot_list_pop PySem.F.type_list_pop mt_pop (pe_fld (pv 0) rfl)) pa_nil))))))))), ?_⟩
  have lit0 : ("" : Str) = Sx [] := by decide +kernel
  have sg : decide (V.str (Sx [x]) = V.str "(") = decide (x = 40) := by rw [lit_open]; exact sign_eq x 40
  -- the rest: behind end_tag
  have last : ¬ (m.tag ≠ [] ∧ small x = true) → ¬ (m.tag ≠ [] ∧ x = 40) →
      tSeq (tDrop (tMeth C "end_tag" (spEndTag C) [] E0 (tVar 0) tNil)) (tRet (tAndV (tOp (rNil true) (tFld K (tVar 0) "awaited") (tLst tNil)) (tMeth C "take_awaited" (spTakeAw C) [] E0 (tVar 0) (tCons (tVar 1) (tCons (tBM0 K "list" rPop (tFld K (tVar 0) "awaited")) tNil)))))
        { nx := fun _ H' => Q .non H', rt := Q } [some (.ref p), some (.str (Sx [x]))] H := by
    intro n1 n2
    have tk : m.take x = match m.endTag.aw with
        | [] => none
        | a :: aw => M.takeAw { m.endTag with aw := aw } x a := by
      unfold M.take
      rw [if_neg n1, if_neg n2] <;> rfl
    refine ⟨_, rfl, p, dx, _, rfl, O.ob, rf_no _ _ _ _ (by decide +kernel) (by decide +kernel) (by decide +kernel) (by decide +kernel), p, m, H0, rfl, ⟨dx, l1, l2, l3, rs, vs, O⟩, sm, ?_⟩
    rintro H1 ⟨dx', l1', l2', l3', rs', vs', O1⟩
    refine ⟨_, rfl, p, C, dx', _, _, rfl, O1.ob, R.cl, R.nA, rf_a _ _ _ _, (by show 0 ≤ sizeLine; decide), fun e he => ⟨l1', e, _, rfl, rfl, same_new he _ _ _ O1.a, upd_same, ?_⟩⟩
    have O2 := O1.more (same_new he (.lst []))
    generalize upd H1 e (.lst []) = H2 at O2 ⊢
    cases ha : m.endTag.aw with
    | nil =>
      rw [ha] at tk
      refine ⟨_, rfl, ?_⟩
      have e0 : (m.endTag.aw.reverse.map fun a => V.str (wd a)) = [] := by rw [ha]; rfl
      rw [← ha, e0]
      exact iteF (k2 _ tk O2.same)
    | cons a aw =>
      rw [ha] at tk
      have ex : (m.endTag.aw.reverse.map fun a => V.str (wd a)) = (aw.reverse.map fun a => V.str (wd a)) ++ [.str (wd a)] := by rw [ha, List.reverse_cons, List.map_append] <;> rfl
      refine ⟨_, rfl, ?_⟩
      rw [← ha, ex]
      have hb : ((((aw.reverse.map fun a => V.str (wd a)) ++ [V.str (wd a)]).isEmpty) != true) = true := by simp
      rw [hb]
      refine iteT ?_
      have ed : (m.endTag.aw.reverse.map fun a => V.str (wd a)).dropLast = aw.reverse.map fun a => V.str (wd a) := by rw [ex]; simp
      refine ⟨_, rfl, p, dx', _, rfl, O2.ob, rf_no _ _ _ _ (by decide +kernel) (by decide +kernel) (by decide +kernel) (by decide +kernel), _, rfl, _, rfl, p, C, dx', _, _, rfl, O2.ob, R.cl, R.nA, rf_a _ _ _ _,
        Or.inl ⟨rfl, _, Or.inl (Or.inl O2.a)⟩, l1', _, .str (wd a), rfl, rfl, O2.a, (by rw [ex]; simp), ?_⟩
      have O3 := O2.setAw (aw := aw) ed
      refine ⟨p, x, a, { m.endTag with aw := aw }, H0, rfl, ⟨dx', l1', l2', l3', rs', vs', O3⟩, ?_, wf a aw ha, fun m' H' q O' => k1 m' H' (tk.trans q) O', fun H' q s' => k2 H' (tk.trans q) s'⟩
      have z := sm2.aw
      rw [ha, List.length_cons] at z
      exact ⟨(by show aw.length ≤ 50000; omega), sm2.bg, sm2.fd, sm2.ps, sm2.tag⟩
  refine ⟨_, rfl, p, C, dx, _, _, rfl, O.ob, R.cl, R.nT, rf_t _ _ _ _, rfl, _, rfl, ?_⟩
  refine ite2 (fun h => ?_) (fun h => ?_)
  · have hg : m.tag ≠ [] := (tag_empty m.tag).mp h
    refine ⟨_, rfl, x, _, rfl, rfl, _, rfl, ?_⟩
    refine ite2 (fun h2 => ?_) (fun h2 => ?_)
    · have hx : small x = true := small_sign.mp h2
      have tk : m.take x = if m.tag.length + 1 ≤ 8 then some { m with tag := m.tag ++ [x] } else none := by
        unfold M.take
        rw [if_pos ⟨hg, hx⟩]
      have z := sm.tag
      refine ⟨_, rfl, p, C, dx, _, _, rfl, O.ob, R.cl, R.nT, rf_t _ _ _ _, _, rfl, _, _, rfl, rfl, ?_, _, rfl, p, C, dx, _, rfl, O.ob, R.cl, R.nT, (by show 4 < 1000; decide), ?_⟩
      · rw [Sx_len, Sx_len]
        exact size_le (by simp only [List.length_cons, List.length_nil]; omega)
      · rw [Sx_app]
        have O2 := O.setTag (m.tag ++ [x])
        refine ⟨_, rfl, p, C, dx, _, _, rfl, O2.ob, R.cl, R.nT, rf_t _ _ _ _, _, rfl, ?_, _, _, rfl, rfl, ?_⟩
        · rw [Sx_len]
          exact size_le (by simp only [List.length_append, List.length_cons, List.length_nil]; omega)
        · have el : (Sx (m.tag ++ [x])).length = m.tag.length + 1 := by rw [Sx_len]; simp
          show Q (V.bl (decide (((Sx (m.tag ++ [x])).length : Int) ≤ 8))) _
          rw [el]
          by_cases e8 : m.tag.length + 1 ≤ 8
          · rw [if_pos e8] at tk
            rw [decide_eq_true (by omega)]
            exact k1 _ _ tk ⟨dx, l1, l2, l3, rs, vs, O2⟩
          · rw [if_neg e8] at tk
            rw [decide_eq_false (by omega)]
            exact k2 _ tk O2.same
    · have hx : ¬ small x = true := fun q => h2 (small_sign.mpr q)
      refine ⟨_, rfl, p, C, dx, _, _, rfl, O.ob, R.cl, R.nT, rf_t _ _ _ _, rfl, _, rfl, ?_⟩
      rw [(tag_empty m.tag).mpr hg]
      refine iteT ⟨_, rfl, rfl, _, rfl, ?_⟩
      rw [sg]
      refine ite2 (fun h3 => ?_) (fun h3 => ?_)
      · have ex : x = 40 := of_decide_eq_true h3
        have tk : m.take x = some { m with aw := .tree :: .comma :: .tree :: .close :: m.aw, bg := (m.tag, []) :: m.bg, tag := [] } := by
          unfold M.take
          rw [if_neg fun q => hx q.2, if_pos ⟨hg, ex⟩]
        -- self.begun.append([self.tag])
        refine ⟨_, rfl, p, C, dx, _, _, rfl, O.ob, R.cl, R.nB, rf_b _ _ _ _, Or.inl ⟨rfl, _, Or.inl (Or.inl O.b)⟩, _, rfl, p, C, dx, _, _, rfl, O.ob, R.cl, R.nT, rf_t _ _ _ _, (by show 1 ≤ sizeLine; decide), fun r hr0 => ?_⟩
        have O1 := O.more (same_new hr0 (.lst [.str (Sx m.tag)]))
        have hr1 : upd H r (.lst [.str (Sx m.tag)]) r = some (.lst [.str (Sx m.tag)]) := upd_same
        have lr : rs.length = m.bg.length := Paired.length O.bg
        have zb := sm.bg
        refine ⟨l2, _, .ref r, rfl, rfl, O1.b, ?_, ?_⟩
        · rw [List.length_map, List.length_reverse]
          exact tiny (by omega)
        have ar : ¬ r ∈ rs := fun z => by
          obtain ⟨xs, q⟩ := bg_kind O.bg r z
          rw [hr0] at q
          cases q
        have O2 := O1.begin_ hr1 (O.same.free hr0) (ne_of_none O.a hr0).symm (ne_of_none O.b hr0).symm (ne_of_none O.f hr0).symm ar
        refine ⟨_, rfl, p, C, dx, _, rfl, O2.ob, R.cl, R.nT, (by show 4 < 1000; decide), ?_⟩
        rw [lit0]
        have O3 := O2.setTag []
        refine ⟨_, rfl, p, C, dx, _, _, rfl, O3.ob, R.cl, R.nA, rf_a _ _ _ _, Or.inl ⟨rfl, _, Or.inl (Or.inl O3.a)⟩, (by show 4 ≤ sizeLine; decide), fun q hq => ?_⟩
        have O4 := O3.more (same_new hq (.lst [.str "close", .str "tree", .str "comma", .str "tree"]))
        have za := sm.aw
        refine ⟨l1, q, _, _, rfl, rfl, O4.a, upd_same, ?_, ?_⟩
        · rw [List.length_map, List.length_reverse]
          show m.aw.length + 4 ≤ sizeLine
          exact size_le (by omega)
        · refine k1 _ _ tk ⟨dx, l1, l2, l3, _, vs, O4.setAw (aw := .tree :: .comma :: .tree :: .close :: m.aw) ?_⟩
          simp [wd]
      · have ex : ¬ x = 40 := fun q => h3 (decide_eq_true q)
        exact last (fun q => hx q.2) fun q => ex q.2
  · have hg : ¬ m.tag ≠ [] := fun q => h ((tag_empty m.tag).mpr q)
    have hf : (!decide (V.str (Sx m.tag) = V.str ("" : Str))) = false := by
      cases q : (!decide (V.str (Sx m.tag) = V.str ("" : Str))) with
      | false => rfl
      | true => exact absurd q h
    refine iteF ⟨_, rfl, p, C, dx, _, _, rfl, O.ob, R.cl, R.nT, rf_t _ _ _ _, rfl, _, rfl, ?_⟩
    rw [hf]
    exact iteF (iteF (last (fun q => hg q.1) fun q => hg q.1))
end
end Eo
/-! tree_read: the tree, or BadText with the place. -/
namespace Eo
open PySem PySem.Spec PyProof.Rows L2
/-- a value that is no string -/
inductive NonStr (H : Hp) : V → Prop
  | non : NonStr H .non
  | bl (b : Bool) : NonStr H (.bl b)
  | int (i : Int) : NonStr H (.int i)
  | lst {a : Addr} {xs : List V} : H a = some (.lst xs) → NonStr H (.ref a)
  | tup {a : Addr} {xs : List V} : H a = some (.tup xs) → NonStr H (.ref a)
  | dK {a : Addr} {kvs : List (Key × V)} : H a = some (.dK kvs) → NonStr H (.ref a)
theorem NonStr.ty {K : PySem.W.Frag} {H : Hp} {v : V} (h : NonStr H v) : ∃ t : String, TyX K H v (.type t) ∧ kitB t "str" = some false := by
  cases h with
  | non => exact ⟨"NoneType", .base .non, by decide +kernel⟩
  | bl b => exact ⟨"bool", .base (.bl b), by decide +kernel⟩
  | int i => exact ⟨"int", .base (.int i), by decide +kernel⟩
  | lst e => exact ⟨"list", .base (.lst e), by decide +kernel⟩
  | tup e => exact ⟨"tuple", .base (.tup e), by decide +kernel⟩
  | dK e => exact ⟨"dict", .base (.dK e), by decide +kernel⟩
def xdAt (i : Int) : HO := .xd [(("at" : Str), V.int i)]
def spRead (C : Addr) : Sp := fun vs H Q E => ∃ x : V, vs = [x] ∧
  ((NonStr H x ∧ ∀ d H', H d = none → Same H H' → H' d = some (xdAt (-1)) → E (.ref C) (some d) H') ∨
   ∃ cs : List Nat, x = .str (Sx cs) ∧ cs.length ≤ 5000 ∧ (∀ t v H', run (.need false []) cs = .ok t → Same H H' → At H' v t → Q v H') ∧
     ∀ r d H', run (.need false []) cs = .bad r → H d = none → Same H H' → H' d = some (xdAt ((cs.length - r.length : Nat) : Int)) → E (.ref C) (some d) H')
theorem zEnd_ok {z : Z} (h : ZOk z) : ZOk (zEnd z) := by
  cases z with
  | need _ _ => exact trivial
  | tag _ _ => exact trivial
  | done _ _ => exact trivial
theorem zEnd_c (z : Z) : zc (zEnd z) = zc z := by cases z <;> rfl
section
variable {P : Program} {w : World} {K : PySem.W.Frag} {mg : Str → Option Value} {base : Heap}
theorem scRead : FnScope ["text", "reading", "at", "sign"] ["text"] (defScope sRead) := ⟨rfl, rfl, rfl, by decide +kernel, rfl, by decide +kernel, by decide +kernel⟩
theorem ok_read {C D fI CR fR f : Addr} {fd fdR : FuncData} (F : Fun K "tree_read" "tree_read" sRead f fd) (TX : Txt mg) (B : PySem.BadX.BadTxt K mg C D fI) (R : RTxt K CR) (MR : Mk K CR fR) (gR : mg "Reading" = some (.ref CR))
    (GI : FnOk P w K mg base CX0 1 fR fdR ["self"] (spInit CR)) (bI : Binds K fdR ["self"] []) (A1 : Met P w K mg base 2 CR "end_tag" (spEndTag CR)) (A2 : Met P w K mg base 3 CR "take" (spTake CR)) :
    FnOk P w K mg base (L2.CX P w) 4 f fd ["text"] (spRead C) := by
  refine F.okX scRead (fun vs H Q E h => ?_) (fun cdv A outer s H vs Q E hr h => ?_)
  · obtain ⟨x, rfl, _⟩ := h
    rfl
  obtain ⟨x, rfl, h⟩ := h
  have hr2 : Room 2 _ := hr.mono (by decide)
  refine ⟨_, pss_cons (ps_if (pt_not (pt_val (pe_callB call_isi rfl TX.isi boot_isinstance (pa_cons (pv 0) (pa_cons (pe_bltn (v := .ty "str") rfl TX.str boot_str rfl) pa_nil)))))
      (pss_one (ps_raiseBad rfl B hr (takes_of rfl rfl rfl rfl) (by exact (pa_cons (pe_un un_neg pe_int) pa_nil)))) pss_nil)
    (pss_cons (ps_set (i := 1) scRead.nd rfl (Or.inl rfl) (pe_make0 MR GI hr2 rfl gR bI .nil pass0))
    (pss_cons (ps_for (passes_of rfl) rfl (pi_enumS rfl TX.enum (pa_cons (pv 0) pa_nil)) (pg_tup rfl (pgs_cons (pg_name (i := 2) scRead.nd rfl (Or.inl rfl)) (pgs_cons (pg_name (i := 3) scRead.nd rfl (Or.inl rfl)) pgs_nil)))
      (pss_one (ps_if (pt_not (pt_val (pe_mt A2 hr (pv 1) (pa_cons (pv 3) pa_nil)))) (pss_one (ps_raiseBad rfl B hr (takes_of rfl rfl rfl rfl) (by exact (pa_cons (pv 2) pa_nil)))) pss_nil)))
    (pss_cons (ps_expr (pe_mt0 A1 hr (pv 1)))
    (pss_cons (ps_if (pt_cmpR (op_neNil hr.units0) (pe_fld (pv 1) rfl) (pe_lst pa_nil) (nomark _))
      (pss_one (ps_raiseBad rfl B hr (takes_of rfl rfl rfl rfl) (by exact (pa_cons (pe_callB call_len_str rfl TX.len PySem.boot_len (pa_cons (pv 0) pa_nil)) pa_nil)))) pss_nil)
    (pss_one (ps_ret (pe_ix ix_list (pe_fld (pv 1) rfl) pe_int (fun _ _ => rfl)))))))), ?_⟩
  rcases h with ⟨hn, k⟩ | ⟨cs, rfl, hl, k1, k2⟩
  · obtain ⟨t, ty, kt⟩ := hn.ty (K := K)
    refine ⟨_, rfl, _, _, .type t, .type "str", false, rfl, .ty "str", ty, kit_ty kt, false, rfl, ?_⟩
    refine iteT ⟨1, rfl, _, rfl, fun d hd => ?_⟩
    exact k d _ hd (same_new hd _) upd_same
  · refine ⟨_, rfl, _, _, .type "str", .type "str", true, rfl, .ty "str", .base (.str _), kit_ty (by decide +kernel), true, rfl, ?_⟩
    refine iteF ?_
    intro p dx np ndx nex
    have s0 : Same H (upd (upd H dx (.own p)) p (.ins CR dx [])) := fun b o e => by
      rw [upd_ne (ne_of_none e np), upd_ne (ne_of_none e ndx)]
      exact e
    refine ⟨p, dx, H, rfl, upd_same, s0, np, fun H1 r1 => ⟨rfl, ?_⟩⟩
    refine ⟨_, rfl, _, rfl, for_enum (cs := cs) (fun r σ H' => ∃ (z : Z) (a b : Option V), σ = [some (.str (Sx cs)), some (.ref p), a, b] ∧ RdAt CR H H' p (mOf z) ∧ ZOk z ∧ zc z + r.length ≤ cs.length ∧ run z r = run (.need false []) cs)
      ⟨.need false [], none, none, rfl, r1, trivial, by show 0 + cs.length ≤ cs.length; omega, rfl⟩ ?_ ?_⟩
    · rintro c r σ H2 q hq hlen ⟨z, a, b, rfl, O, zo, zl, zr⟩
      have O1 := O.more (same_new hq (.tup [.int ((cs.length - (c :: r).length : Nat) : Int), .str (Sx [c])]))
      have hT : upd H2 q (.tup [.int ((cs.length - (c :: r).length : Nat) : Int), .str (Sx [c])]) q = some (.tup [.int ((cs.length - (c :: r).length : Nat) : Int), .str (Sx [c])]) := upd_same
      refine ⟨q, _, rfl, SqT.of hT, rfl, ?_⟩
      rw [List.length_cons] at zl
      obtain ⟨dx', l1, l2, l3, rs, vs, OO⟩ := id O1
      have sm := small_of z zo (by omega)
      have sm2 : (mOf z).endTag.Small := by
        rw [endTag_of z zo]
        exact small_of _ (zEnd_ok zo) (by rw [zEnd_c]; omega)
      refine ⟨_, _, rfl, _, _, rfl, rfl, _, rfl, p, dx', _, rfl, OO.ob, rf_no _ _ _ _ (by decide +kernel) (by decide +kernel) (by decide +kernel) (by decide +kernel), _, rfl, p, c, mOf z, H, rfl, O1, sm, sm2, wf_of z zo, ?_, ?_⟩
      · intro m' H3 e O3
        rw [take_step z zo] at e
        obtain ⟨z', e1, e2⟩ := Option.map_eq_some_iff.mp e
        subst e2
        have so := step_ok zo e1
        refine ⟨_, rfl, ?_⟩
        refine iteF ?_
        exact ⟨z', _, _, rfl, O3, so.1, by omega, by rw [← zr, run_to e1]⟩
      · intro H3 e s3
        rw [take_step z zo] at e
        have e1 : step z c = none := by
          cases q : step z c with
          | none => rfl
          | some z' =>
            rw [q] at e
            cases e
        refine ⟨_, rfl, ?_⟩
        refine iteT ⟨_, rfl, _, rfl, fun d hd => ?_⟩
        have hb : run (.need false []) cs = .bad (c :: r) := by rw [← zr, run_no e1]
        exact k2 _ d _ hb (s3.free hd) (s3.trans (same_new hd _)) upd_same
    · rintro σ H2 ⟨z, a, b, rfl, O, zo, zl, zr⟩
      have zl : zc z ≤ cs.length := by
        have : ([] : List Nat).length = 0 := rfl
        omega
      obtain ⟨dx', l1, l2, l3, rs, vs, OO⟩ := id O
      have sm := small_of z zo (by omega)
      refine ⟨_, rfl, p, dx', _, rfl, OO.ob, rf_no _ _ _ _ (by decide +kernel) (by decide +kernel) (by decide +kernel) (by decide +kernel), p, mOf z, H, rfl, O, sm, ?_⟩
      rintro H3 ⟨dx2, m1, m2, m3, rs2, vs2, O3⟩
      refine ⟨_, rfl, p, CR, dx2, _, _, rfl, O3.ob, R.cl, R.nA, rf_a _ _ _ _, (by show 0 ≤ sizeLine; decide), fun e he => ⟨m1, e, _, rfl, rfl, same_new he _ _ _ O3.a, upd_same, _, rfl, ?_⟩⟩
      have O4 := O3.more (same_new he (.lst []))
      generalize upd H3 e (.lst []) = H4 at O4 ⊢
      have zr' : fin z = run (.need false []) cs := zr
      rcases fin_end z zo with ⟨t, f1, f2⟩ | ⟨f1, f2⟩
      · rw [f2] at O4 ⊢
        refine iteF ?_
        have fd := O4.fd
        cases fd with
        | @cons v _ vs' _ a1 a2 =>
          cases a2
          refine ⟨_, rfl, p, CR, dx2, _, _, rfl, O4.ob, R.cl, R.nF, rf_f _ _ _ _, m3, _, 0, v, rfl, rfl, SqL.of O4.f, rfl, ?_⟩
          exact k1 t v H4 (by rw [← zr', f1]) O4.same a1
      · have hb : (((mOf z).endTag.aw.reverse.map fun a => V.str (wd a)).isEmpty != true) = true := by
          cases q : (mOf z).endTag.aw with
          | nil => exact absurd q f2
          | cons a aw => simp
        rw [hb]
        refine iteT ⟨_, rfl, _, rfl, ?_, _, rfl, fun d hd => ?_⟩
        · rw [Sx_len]
          exact size_le (by omega)
        · have e5 : (((Sx cs).length : Nat) : Int) = ((cs.length - ([] : List Nat).length : Nat) : Int) := by
            rw [Sx_len]
            rfl
          have hb2 : run (.need false []) cs = .bad [] := by rw [← zr', f1]
          refine k2 [] d _ hb2 (O4.same.free hd) (O4.same.trans (same_new hd _)) ?_
          rw [upd_same, e5]
          rfl
end
end Eo
/-! _law_deck, _law_pick, _law_tags, _law_places. -/
namespace Eo
open PySem PySem.Spec PyProof.Rows L2
theorem cut63 (ns : List Int) : cutV (ns.map V.int) none (some 63) = (ns.take 63).map V.int := by
  unfold cutV
  rw [HT.sIx_none]
  have e : HT.sIx (ns.map V.int).length (ns.map V.int).length (some 63) = min 63 (ns.map V.int).length := HT.sIx_nat _ _ 63
  rw [e, List.length_map, List.drop_zero, Nat.sub_zero, ← List.map_take]
  congr 1
  rw [Nat.min_comm, ← List.take_take]
  exact List.take_of_length_le (by rw [List.length_take]; omega)
theorem fresh_ne {H H' : Hp} {p a : Addr} {o : HO} (s : Same H H') (n : H' p = none) (h : H a = some o) : a ≠ p := fun z => by
  have q := s _ _ h
  rw [z, n] at q
  cases q
def spDeck (K : PySem.W.Frag) : Sp := fun vs H Q _ => ∃ (a : Addr) (ns : List Int) (seed : Int), vs = [.ref a, .int seed] ∧ SqL K H a (ns.map V.int) ∧ 0 ≤ seed ∧ seed < 2147483647 ∧ ∀ d l H', Deck H' d l → Same H H' → Q (.ref d) H'
def spPick : Sp := fun vs H Q _ => ∃ (d l a : Addr) (xs : List V), vs = [.ref d, .ref a] ∧ Deck H d l ∧ H a = some (.lst xs) ∧ a ≠ l ∧ 1 ≤ xs.length ∧ xs.length ≤ 1000 ∧
  ∀ (x : V) (H' : Hp), x ∈ xs → Deck H' d l → Keep2 d l H H' → Q x H'
def tagNs : List (List Nat) := [[97], [106, 107, 113, 118, 119, 122], [99], [105, 102], [101, 108, 115, 101], [97, 98, 99, 100, 101, 102, 103, 104], [122], [104, 97, 115], [121, 101, 115], [97, 110, 100]]
def tagVs : List V := tagNs.map fun g => .str (Sx g)
theorem tags_lit : [V.str "a", .str "jkqvwz", .str "c", .str "if", .str "else", .str "abcdefgh", .str "z", .str "has", .str "yes", .str "and"] = tagVs := by decide +kernel
theorem tag_of {x : V} (h : x ∈ tagVs) : ∃ g, x = .str (Sx g) ∧ TagOk g := by
  obtain ⟨g, hg, rfl⟩ := List.mem_map.mp h
  refine ⟨g, rfl, ?_⟩
  have q : ∀ g ∈ tagNs, g ≠ [] ∧ g.length ≤ 8 ∧ ∀ c ∈ g, small c = true := by decide +kernel
  exact ⟨(q g hg).1, (q g hg).2.1, (q g hg).2.2⟩
def spTags : Sp := fun vs H Q _ => vs = [] ∧ ∀ p, H p = none → Q (.ref p) (upd H p (.lst tagVs))
def spPlaces (n : Nat) : Sp := fun vs H Q _ => ∃ (v : V) (t : T) (q : List Nat), vs = [v, .str (Sx q)] ∧ At H v t ∧ t.depth < n ∧ q.length + n ≤ 1000 ∧ t.nodes ≤ 1000 ∧
  ∀ p (ps : List V) H', H p = none → Same H H' → H' p = some (.lst ps) → (∀ x ∈ ps, ∃ (r : List Nat) (u : T), x = .str (Sx (q ++ r)) ∧ partAt t r = some u ∧ PlaceOk r) → ps.length = 2 * t.nodes + 1 → Q (.ref p) H'
section
variable {P : Program} {w : World} {K : PySem.W.Frag} {mg : Str → Option Value} {base : Heap}
theorem scDeck : FnScope ["_law_script", "_law_seed", "_law_mixed", "_law_cell"] ["_law_script", "_law_seed"] (defScope sDeck) := ⟨rfl, rfl, rfl, by decide +kernel, rfl, by decide +kernel, by decide +kernel⟩
theorem ok_deck {f : Addr} {fd : FuncData} (F : Fun K "_law_deck" "_law_deck" sDeck f fd) (TX : Txt mg) : FnOk P w K mg base CX0 1 f fd ["_law_script", "_law_seed"] (spDeck K) := by
  refine F.ok scDeck (fun vs H Q E h => ?_) (fun cdv A outer s H vs Q E hr h => ?_)
  · obtain ⟨a, ns, seed, rfl, _⟩ := h
    rfl
  obtain ⟨a, ns, seed, rfl, hl, s0, s1, k⟩ := h
  refine ⟨_, pss_cons (ps_set (i := 2) scDeck.nd rfl (Or.inl rfl) (pv 1))
    (pss_cons (ps_for PassesOwn.never rfl (pi_list (pe_slice sl_list (pv 0) po_none (po_some pe_int))) (pg_name (i := 3) scDeck.nd rfl (Or.inl rfl))
      (pss_one (ps_set (i := 2) scDeck.nd rfl (Or.inl rfl) (pe_op op_mod (pe_callTy call_int1 rfl TX.int boot_int (pa_cons (pe_op op_add (pe_op op_add (pe_op op_mul (pv 2) pe_int) (pe_op op_mod (pe_callTy call_int1 rfl TX.int boot_int (pa_cons (pv 3) pa_nil)) pe_int)) pe_int) pa_nil)) pe_int))))
    (pss_one (ps_ret (pe_disp (pps_cons pe_str (pe_revL (pe_callTy call_list_of rfl TX.list boot_list (pa_cons (pe_slice sl_list (pv 0) po_none (po_some pe_int)) pa_nil))) (pps_cons pe_str (pv 2) (pps_cons pe_str pe_int pps_nil))) rfl rfl (fun z => by cases z) (by decide))))), ?_⟩
  refine ⟨_, rfl, ?_⟩
  refine ⟨_, rfl, _, rfl, a, _, rfl, hl, fun p hp => ⟨p, rfl, ⟨_, SqL.of upd_same⟩, ?_⟩⟩
  rw [cut63]
  have sm := same_new hp (.lst ((ns.take 63).map V.int))
  have hP : upd H p (.lst ((ns.take 63).map V.int)) p = some (.lst ((ns.take 63).map V.int)) := upd_same
  generalize upd H p (.lst ((ns.take 63).map V.int)) = H1 at sm hP ⊢
  refine for_list (xs := (ns.take 63).map V.int) (fun _ σ H' => H' = H1 ∧ ∃ (m : Int) (c : Option V), σ = [some (.ref a), some (.int seed), some (.int m), c] ∧ 0 ≤ m ∧ m < 2147483647) ⟨rfl, seed, none, rfl, s0, s1⟩ ?_ ?_ ?_
  · rintro i σ H' _ ⟨rfl, _⟩
    exact SqL.of hP
  · rintro i x σ H' hx ⟨rfl, m, c, rfl, m0, m1⟩
    obtain ⟨z, _, rfl⟩ := List.mem_map.mp (List.mem_of_getElem? hx)
    obtain ⟨r0, r1⟩ := emod_in (m * 46237 + z % 2147483629 + 61) (m := 2147483563) (by decide)
    refine ⟨_, rfl, _, _, rfl, rfl, .inr (by decide), _, rfl, .inl ⟨_, rfl, _, _, rfl, rfl, (by show (0 : Int) < 2147483629; decide), _, _, rfl, rfl, _, _, rfl, rfl, .inl ⟨_, rfl, _, _, rfl, rfl, (by show (0 : Int) < 2147483563; decide), ?_⟩⟩⟩
    exact ⟨rfl, _, _, rfl, r0, by omega⟩
  · rintro σ H' ⟨rfl, m, c, rfl, m0, m1⟩
    refine fun d hd => ?_
    have s2 := same_new hd (.dK [])
    have hD : upd H' d (.dK []) d = some (.dK []) := upd_same
    generalize upd H' d (.dK []) = H2 at s2 hD ⊢
    refine ⟨_, rfl, _, rfl, a, _, rfl, (sm.trans s2).seq hl, fun p2 hp2 => ⟨p2, _, rfl, .inl (SqL.of upd_same), fun l hl2 => ⟨l, _, rfl, SqL.of upd_same, fun q hq => ?_⟩⟩⟩
    have s3 := ((same_new hp2 (.lst (cutV (ns.map V.int) none (some 63)))).trans (same_new hl2 (.lst (cutV (ns.map V.int) none (some 63))))).trans (same_new hq (.lst (cutV (ns.map V.int) none (some 63)).reverse))
    have hQ : upd (upd (upd H2 p2 (.lst (cutV (ns.map V.int) none (some 63)))) l (.lst (cutV (ns.map V.int) none (some 63)))) q (.lst (cutV (ns.map V.int) none (some 63)).reverse) q = some (.lst (cutV (ns.map V.int) none (some 63)).reverse) := upd_same
    generalize upd (upd (upd H2 p2 (.lst (cutV (ns.map V.int) none (some 63)))) l (.lst (cutV (ns.map V.int) none (some 63)))) q (.lst (cutV (ns.map V.int) none (some 63)).reverse) = H3 at s3 hQ ⊢
    have hD3 := s3 _ _ hD
    refine ⟨_, rfl, hD3, [(.inr "left", .ref q), (.inr "mixed", .int m), (.inr "draws", .int 0)], rfl, (by show 3 ≤ 15; decide), ?_⟩
    have nqd : q ≠ d := ne_of hQ hD3 fun z => by cases z
    rw [cut63, ← List.map_reverse] at hQ
    refine k d q _ ⟨⟨(ns.take 63).reverse, m, 0, upd_same, ?_, ?_, m0, m1⟩⟩ ?_
    · rw [upd_ne nqd]
      exact hQ
    · rw [List.length_reverse, List.length_take]
      omega
    · intro b o e
      have e1 := sm _ _ e
      rw [upd_ne (ne_of_none e1 hd)]
      exact s3 _ _ (s2 _ _ e1)
theorem scPick : FnScope ["_law_deck_here", "_law_some"] ["_law_deck_here", "_law_some"] (defScope sPick) := ⟨rfl, rfl, rfl, by decide +kernel, rfl, by decide +kernel, by decide +kernel⟩
theorem ok_pick {f : Addr} {fd : FuncData} (F : Fun K "_law_pick" "_law_pick" sPick f fd) (TX : Txt mg) (C1 : Cal P w K mg base 1 "_law_draw" spDraw) : FnOk P w K mg base CX0 2 f fd ["_law_deck_here", "_law_some"] spPick := by
  refine F.ok scPick (fun vs H Q E h => ?_) (fun cdv A outer s H vs Q E hr h => ?_)
  · obtain ⟨d, l, a, xs, rfl, _⟩ := h
    rfl
  obtain ⟨d, l, a, xs, rfl, D, ha, nal, h1, h2, k⟩ := h
  refine ⟨_, pss_one (ps_ret (pe_ix ix_list (pv 1) (pe_c C1 hr (pa_cons (pv 0) (pa_cons (pe_callB call_len_seq rfl TX.len PySem.boot_len (pa_cons (pv 1) pa_nil)) pa_nil))) (fun _ _ => rfl))), ?_⟩
  refine ⟨_, rfl, _, rfl, _, rfl, a, xs, rfl, .inl (SqL.of ha), d, l, _, rfl, D, by omega, by omega, fun r H' r0 r1 D' kp => ?_⟩
  obtain ⟨n, m, j, e1, e2, _⟩ := id D.ex
  have nad : a ≠ d := ne_of ha e1 fun z => by cases z
  have hr' : r = ((r.toNat : Nat) : Int) := by omega
  have hlt : r.toNat < xs.length := by omega
  obtain ⟨x, hx⟩ : ∃ x, xs[r.toNat]? = some x := ⟨xs[r.toNat], List.getElem?_eq_getElem hlt⟩
  refine ⟨a, xs, r, x, rfl, rfl, SqL.of (kp _ _ ha nad nal), ?_, k _ H' (List.mem_of_getElem? hx) D' kp⟩
  rw [hr']
  exact atI_nat hx
theorem scTags : FnScope [] [] (defScope sTags) := ⟨rfl, rfl, rfl, by decide +kernel, rfl, by decide +kernel, by decide +kernel⟩
theorem ok_tags {f : Addr} {fd : FuncData} (F : Fun K "_law_tags" "_law_tags" sTags f fd) : FnOk P w K mg base CX0 1 f fd [] spTags := by
  refine F.ok scTags (fun vs H Q E h => ?_) (fun cdv A outer s H vs Q E hr h => ?_)
  · obtain ⟨rfl, _⟩ := h
    rfl
  obtain ⟨rfl, k⟩ := h
  refine ⟨_, pss_one (ps_ret (pe_lst (pa_cons pe_str (pa_cons pe_str (pa_cons pe_str (pa_cons pe_str (pa_cons pe_str (pa_cons pe_str (pa_cons pe_str (pa_cons pe_str (pa_cons pe_str (pa_cons pe_str pa_nil)))))))))))), ?_⟩
  refine ⟨(by show 10 ≤ sizeLine; decide), fun p hp => ?_⟩
  have q := k p hp
  rw [← tags_lit] at q
  exact q
/-! ### _law_places -/
theorem places_none {f : Addr} {fd : FuncData} {x y : Str} : FnOk P w K mg base CX0 0 f fd [x, y] (spPlaces 0) := by
  have no : ∀ vs H Q E, ¬ spPlaces 0 vs H Q E := fun vs H Q E ⟨v, t, q, _, _, h, _⟩ => Nat.not_lt_zero _ h
  exact ⟨fun vs H Q E h => absurd h (no vs H Q E), fun A outer s H args us vs Q E _ _ _ _ h => absurd h (no vs H Q E)⟩
theorem scPlaces : FnScope ["_law_tree", "_law_ahead"] ["_law_tree", "_law_ahead"] (defScope sPlaces) := ⟨rfl, rfl, rfl, by decide +kernel, rfl, by decide +kernel, by decide +kernel⟩
theorem ok_places1 {n : Nat} {f : Addr} {fd : FuncData} (F : Fun K "_law_places" "_law_places" sPlaces f fd) (C1 : Cal P w K mg base n "_law_places" (spPlaces n)) : FnOk P w K mg base CX0 (n + 1) f fd ["_law_tree", "_law_ahead"] (spPlaces (n + 1)) := by
  refine F.ok scPlaces (fun vs H Q E h => ?_) (fun cdv A outer s H vs Q E hr h => ?_)
  · obtain ⟨v, t, q, rfl, _⟩ := h
    rfl
  obtain ⟨v, t, q, rfl, ht, hd, hq, hn, k⟩ := h
  refine ⟨_, pss_cons (ps_if (pt_cmpR op_isN (pv 0) pe_non (nomark _)) (pss_one (ps_ret (pe_lst (pa_cons (pv 1) pa_nil)))) pss_nil)
    (pss_one (ps_ret (pe_op op_cat (pe_op op_cat (pe_lst (pa_cons (pv 1) pa_nil)) (pe_c C1 hr (pa_cons (pe_ix ix_tup (pv 0) pe_int (fun _ _ => rfl)) (pa_cons (pe_op op_add_str (pv 1) pe_str) pa_nil)) (Nat.le_refl _)))
      (pe_c C1 hr (pa_cons (pe_ix ix_tup (pv 0) pe_int (fun _ _ => rfl)) (pa_cons (pe_op op_add_str (pv 1) pe_str) pa_nil)) (Nat.le_refl _))))), ?_⟩
  cases ht with
  | nil =>
    refine ⟨_, rfl, rfl, _, rfl, ?_⟩
    refine iteT ⟨_, rfl, (by show 1 ≤ sizeLine; decide), fun p hp => k p _ _ hp (same_new hp _) upd_same ?_ rfl⟩
    intro x hx
    rw [List.mem_singleton.mp hx]
    exact ⟨[], .nil, by rw [List.append_nil], rfl, fun c hc => by cases hc⟩
  | @node a vl vr g l r e hl hr' =>
    have hdl : l.depth < n := by simp only [T.depth] at hd; omega
    have hdr : r.depth < n := by simp only [T.depth] at hd; omega
    have hnn : l.nodes + r.nodes + 1 ≤ 1000 := hn
    have zq : (Sx q).length + 1 ≤ sizeLine := by rw [Sx_len]; exact size_le (by omega)
    refine ⟨_, rfl, rfl, _, rfl, ?_⟩
    refine iteF ⟨_, rfl, (by show 1 ≤ sizeLine; decide), fun p1 hp1 => ?_⟩
    have s1 := same_new hp1 (.lst [.str (Sx q)])
    have h1 : upd H p1 (.lst [.str (Sx q)]) p1 = some (.lst [.str (Sx q)]) := upd_same
    generalize upd H p1 (.lst [.str (Sx q)]) = H1 at s1 h1 ⊢
    refine ⟨_, rfl, a, _, 1, vl, rfl, rfl, SqT.of (s1 _ _ e), rfl, _, rfl, _, _, rfl, rfl, zq, vl, l, q ++ [108], by rw [lit_l, Sx_app]; rfl, hl.mono s1.tups, hdl, by rw [List.length_append, List.length_singleton]; omega, by omega, fun p2 ps2 H2 n2 s2 h2 g2 c2 => ?_⟩
    refine ⟨p1, p2, _, _, rfl, rfl, s2 _ _ h1, h2, ?_, fun p3 n3 => ?_⟩
    · rw [c2]
      exact size_le (by simp only [List.length_cons, List.length_nil]; omega)
    have s3 := same_new n3 (.lst ([.str (Sx q)] ++ ps2))
    have h3 : upd H2 p3 (.lst ([.str (Sx q)] ++ ps2)) p3 = some (.lst ([.str (Sx q)] ++ ps2)) := upd_same
    generalize upd H2 p3 (.lst ([.str (Sx q)] ++ ps2)) = H3 at s3 h3 ⊢
    have s03 := (s1.trans s2).trans s3
    refine ⟨_, rfl, a, _, 2, vr, rfl, rfl, SqT.of (s03 _ _ e), rfl, _, rfl, _, _, rfl, rfl, zq, vr, r, q ++ [114], by rw [lit_r, Sx_app]; rfl, hr'.mono s03.tups, hdr, by rw [List.length_append, List.length_singleton]; omega, by omega, fun p4 ps4 H4 n4 s4 h4 g4 c4 => ?_⟩
    refine ⟨p3, p4, _, _, rfl, rfl, s4 _ _ h3, h4, ?_, fun p5 n5 => ?_⟩
    · rw [List.length_append, c2, c4]
      exact size_le (by simp only [List.length_cons, List.length_nil]; omega)
    refine k p5 _ _ ((s03.trans s4).free n5) ((s03.trans s4).trans (same_new n5 _)) upd_same ?_ ?_
    · intro x hx
      rcases List.mem_append.mp hx with hx | hx
      · rcases List.mem_append.mp hx with hx | hx
        · rw [List.mem_singleton.mp hx]
          exact ⟨[], _, by rw [List.append_nil], rfl, fun c hc => by cases hc⟩
        · obtain ⟨s, u, e1, e2, e3⟩ := g2 x hx
          refine ⟨108 :: s, u, by rw [e1, List.append_assoc]; rfl, ?_, ?_⟩
          · show (if (108 : Nat) = 108 then partAt l s else partAt r s) = some u
            rw [if_pos rfl]
            exact e2
          · intro c hc
            rcases List.mem_cons.mp hc with z | z
            · exact .inl z
            · exact e3 c z
      · obtain ⟨s, u, e1, e2, e3⟩ := g4 x hx
        refine ⟨114 :: s, u, by rw [e1, List.append_assoc]; rfl, ?_, ?_⟩
        · show (if (114 : Nat) = 108 then partAt l s else partAt r s) = some u
          rw [if_neg (by decide)]
          exact e2
        · intro c hc
          rcases List.mem_cons.mp hc with z | z
          · exact .inr z
          · exact e3 c z
    · rw [List.length_append, List.length_append, c2, c4]
      simp only [T.nodes, List.length_cons, List.length_nil]
      omega
theorem ok_places {f : Addr} {fd : FuncData} (D : Df K mg "_law_places" sPlaces ["_law_tree", "_law_ahead"] f fd) : ∀ n : Nat, FnOk P w K mg base CX0 n f fd ["_law_tree", "_law_ahead"] (spPlaces n)
  | 0 => places_none
  | n + 1 => ok_places1 D.fn (D.cal (ok_places D n))
end
end Eo
/-! The drawn trees: _law_drawn_tree, _law_chain. -/
namespace Eo
open PySem PySem.Spec PyProof.Rows L2
/-- all but these three stand -/
def Keep3 (d l b : Addr) (H H' : Hp) : Prop := ∀ c o, H c = some o → c ≠ d → c ≠ l → c ≠ b → H' c = some o
theorem Keep3.refl (d l b : Addr) (H : Hp) : Keep3 d l b H H := fun _ _ h _ _ _ => h
theorem Keep3.trans {d l b : Addr} {H H1 H2 : Hp} (x : Keep3 d l b H H1) (y : Keep3 d l b H1 H2) : Keep3 d l b H H2 := fun c o h h1 h2 h3 => y c o (x c o h h1 h2 h3) h1 h2 h3
theorem Keep2.keep3 {d l b : Addr} {H H' : Hp} (h : Keep2 d l H H') : Keep3 d l b H H' := fun c o q h1 h2 _ => h c o q h1 h2
theorem _root_.L2.Same.keep3 {d l b : Addr} {H H' : Hp} (h : Same H H') : Keep3 d l b H H' := fun c o q _ _ _ => h c o q
def boxK (m : Int) : HO := .dK [(Sum.inr ("left" : Str), V.int m)]
theorem Deck.tups3 {d l b : Addr} {m : Int} {H H' : Hp} (h : Deck H d l) (hb : H b = some (boxK m)) (k : Keep3 d l b H H') : Tups H H' := fun c xs q => by
  obtain ⟨ns, m, j, h1, h2, _⟩ := h.ex
  exact k c _ q (ne_of q h1 fun z => by cases z) (ne_of q h2 fun z => by cases z) (ne_of q hb fun z => by cases z)
theorem box_get (m : Int) : valV [((Sum.inr ("left" : Str) : Key), V.int m)] (.inr "left") = some (.int m) := valV_pos rfl
theorem box_put (m j : Int) : putK [((Sum.inr ("left" : Str) : Key), V.int m)] (.inr "left") (.int j) = [(.inr "left", .int j)] := by
  unfold putK
  rw [if_pos (by simp)]
  simp only [List.map_cons, List.map_nil]
  rw [if_pos trivial]
def spDrawn (n : Nat) : Sp := fun vs H Q _ => ∃ (d b l : Addr) (k m : Nat), vs = [.ref d, .ref b, .int (k : Int)] ∧ Deck H d l ∧ H b = some (boxK (m : Int)) ∧ b ≠ d ∧ k < n ∧
  ∀ (v : V) (t : T) (H' : Hp) (m' : Nat), Deck H' d l → H' b = some (boxK (m' : Int)) → m' + t.nodes ≤ m → Keep3 d l b H H' → At H' v t → t.ok → t.depth ≤ k → Q v H'
def spChain : Sp := fun vs H Q _ => ∃ (d l : Addr) (k : Nat), vs = [.ref d, .int (k : Int)] ∧ Deck H d l ∧ k ≤ 1000 ∧
  ∀ (v : V) (t : T) (H' : Hp), Deck H' d l → Keep2 d l H H' → At H' v t → t.ok → t.nodes ≤ k → Q v H'
section
variable {P : Program} {w : World} {K : PySem.W.Frag} {mg : Str → Option Value} {base : Heap}
theorem drawn_none {f : Addr} {fd : FuncData} {x y z : Str} {k : Nat} : FnOk P w K mg base CX0 k f fd [x, y, z] (spDrawn 0) := by
  have no : ∀ vs H Q E, ¬ spDrawn 0 vs H Q E := fun vs H Q E ⟨d, b, l, k, m, _, _, _, _, h, _⟩ => Nat.not_lt_zero _ h
  exact ⟨fun vs H Q E h => absurd h (no vs H Q E), fun A outer s H args us vs Q E _ _ _ _ h => absurd h (no vs H Q E)⟩
theorem scDrawn : FnScope ["_law_deck_here", "_law_box", "_law_deep", "_law_tag", "_law_first", "_law_one", "_law_other"] ["_law_deck_here", "_law_box", "_law_deep"] (defScope sDrawn) := ⟨rfl, rfl, rfl, by decide +kernel, rfl, by decide +kernel, by decide +kernel⟩
theorem ok_drawn1 {n : Nat} {f : Addr} {fd : FuncData} (F : Fun K "_law_drawn_tree" "_law_drawn_tree" sDrawn f fd) (A1 : Cal P w K mg base 1 "_law_draw" spDraw) (A2 : Cal P w K mg base 2 "_law_pick" spPick) (A3 : Cal P w K mg base 1 "_law_tags" spTags)
    (C1 : Cal P w K mg base (n + 2) "_law_drawn_tree" (spDrawn n)) : FnOk P w K mg base CX0 (n + 1 + 2) f fd ["_law_deck_here", "_law_box", "_law_deep"] (spDrawn (n + 1)) := by
  refine F.ok scDrawn (fun vs H Q E h => ?_) (fun cdv A outer s H vs Q E hr h => ?_)
  · obtain ⟨d, b, l, k, m, rfl, _⟩ := h
    rfl
  obtain ⟨d, b, l, k, m, rfl, D, hb, nbd, hk, kk⟩ := h
  have hu := hu_of hr
  refine ⟨_, pss_cons (ps_if (PW.pt (pw_or (pt_cmpR op_eq (pe_dget hu (pv 1) pe_str (fun _ _ => rfl)) pe_int (nomark _)) (pw_or (pt_cmpR op_eq (pv 2) pe_int (nomark _)) (pw_or1 (pt_cmpR op_lt (pe_c A1 hr (pa_cons (pv 0) (pa_cons pe_int pa_nil))) pe_int (nomark _)))))) (pss_one (ps_ret pe_non)) pss_nil)
    (pss_cons (ps_dput hu (pv 1) pe_str (pe_op op_sub (pe_dget hu (pv 1) pe_str (fun _ _ => rfl)) pe_int) rfl)
    (pss_cons (ps_par (i := 3) (j := 4) rfl scDrawn.nd rfl rfl (by decide) rfl rfl (pa_cons (pe_c A2 hr (pa_cons (pv 0) (pa_cons (pe_c0 A3 hr) pa_nil))) (pa_cons (pe_cmp (pc_eqI (pe_c A1 hr (pa_cons (pv 0) (pa_cons pe_int pa_nil))) pe_int) (nomark _)) pa_nil)) rfl)
    (pss_cons (ps_set (i := 5) scDrawn.nd rfl (Or.inl rfl) (pe_c C1 hr (pa_cons (pv 0) (pa_cons (pv 1) (pa_cons (pe_op op_sub (pv 2) pe_int) pa_nil))) (Nat.le_refl _)))
    (pss_cons (ps_set (i := 6) scDrawn.nd rfl (Or.inl rfl) (pe_c C1 hr (pa_cons (pv 0) (pa_cons (pv 1) (pa_cons (pe_op op_sub (pv 2) pe_int) pa_nil))) (Nat.le_refl _)))
    (pss_one (ps_ret (pe_ifExp (pt_val (pv 4)) (pe_tup (pa_cons (pv 3) (pa_cons (pv 5) (pa_cons (pv 6) pa_nil)))) (pe_tup (pa_cons (pv 3) (pa_cons (pv 6) (pa_cons (pv 5) pa_nil))))))))))), ?_⟩
  have stop : ∀ H', Deck H' d l → Keep2 d l H H' → Q .non H' := fun H' D' kp => by
    obtain ⟨ns, mm, j, e1, e2, _⟩ := id D.ex
    exact kk .non .nil H' m D' (kp _ _ hb nbd (ne_of hb e2 fun z => by cases z)) (Nat.le_refl _) kp.keep3 .nil trivial (Nat.zero_le _)
  refine ⟨_, rfl, b, _, rfl, dget_of hb (box_get _), rfl, _, rfl, ?_⟩
  refine ite2 (fun _ => stop H D (Keep2.refl _ _ _)) (fun c1 => ?_)
  refine ⟨_, rfl, rfl, _, rfl, ?_⟩
  refine ite2 (fun _ => stop H D (Keep2.refl _ _ _)) (fun c2 => ?_)
  have m0 : m ≠ 0 := fun z => c1 (by rw [z]; rfl)
  have k0 : k ≠ 0 := fun z => c2 (by rw [z]; rfl)
  refine ⟨_, rfl, d, l, _, rfl, D, by decide, by decide, fun r H1 r0 r1 D1 kp1 => ⟨_, _, rfl, rfl, _, rfl, ?_⟩⟩
  refine ite2 (fun _ => stop H1 D1 kp1) (fun _ => ?_)
  obtain ⟨ns, mm, j, e1, e2, _⟩ := id D.ex
  have nbl : b ≠ l := ne_of hb e2 fun z => by cases z
  have ndl : d ≠ l := ne_of e1 e2 fun z => by cases z
  have hb1 := kp1 _ _ hb nbd nbl
  have put1 : putK [((Sum.inr ("left" : Str) : Key), V.int (m : Int))] (.inr "left") (.int ((m : Int) - 1)) = [(.inr "left", .int (((m - 1 : Nat)) : Int))] := by
    rw [box_put, show ((m : Int) - 1) = ((m - 1 : Nat) : Int) by omega]
  refine ⟨_, rfl, b, _, rfl, dget_of hb1 (box_get _), _, _, rfl, rfl, _, rfl, b, _, rfl, dput_of hb1 (by show 1 < sizeLine; decide) put1, ?_⟩
  obtain ⟨ns1, mm1, j1, f1, f2, f3⟩ := id D1.ex
  have D2 : Deck (upd H1 b (.dK [(.inr "left", .int (((m - 1 : Nat)) : Int))])) d l := ⟨⟨ns1, mm1, j1, (upd_ne nbd.symm).trans f1, (upd_ne nbl.symm).trans f2, f3⟩⟩
  have hb2 : upd H1 b (.dK [(.inr "left", .int (((m - 1 : Nat)) : Int))]) b = some (boxK ((m - 1 : Nat) : Int)) := upd_same
  have kp2 : Keep3 d l b H (upd H1 b (.dK [(.inr "left", .int (((m - 1 : Nat)) : Int))])) := kp1.keep3.trans fun c o q _ _ h3 => (upd_ne h3).trans q
  generalize upd H1 b (.dK [(.inr "left", .int (((m - 1 : Nat)) : Int))]) = H2 at D2 hb2 kp2 ⊢
  -- the tag and the coin
  refine ⟨_, rfl, rfl, fun a ha => ?_⟩
  have s3 := same_new ha (.lst tagVs)
  have D3 := D2.keeps s3
  have ha3 : upd H2 a (.lst tagVs) a = some (.lst tagVs) := upd_same
  have hb3 := s3 _ _ hb2
  have kp3 := kp2.trans (s3.keep3 (d := d) (l := l) (b := b))
  have nal : a ≠ l := by
    obtain ⟨_, _, _, _, g2, _⟩ := id D2.ex
    exact (ne_of_none g2 ha).symm
  generalize upd H2 a (.lst tagVs) = H3 at D3 ha3 hb3 kp3 ⊢
  refine ⟨d, l, a, _, rfl, D3, ha3, nal, by decide, by decide, fun x H4 hx D4 kp4 => ?_⟩
  obtain ⟨g, rfl, hg⟩ := tag_of hx
  have hb4 := kp4 _ _ hb3 nbd nbl
  refine ⟨_, rfl, d, l, _, rfl, D4, by decide, by decide, fun r2 H5 _ _ D5 kp5 => ?_⟩
  have hb5 := kp5 _ _ hb4 nbd nbl
  have kp05 : Keep3 d l b H H5 := (kp3.trans kp4.keep3).trans kp5.keep3
  refine ⟨_, _, rfl, rfl, _, _, rfl, ?_⟩
  have hk1 : ((k : Int) - 1) = ((k - 1 : Nat) : Int) := by omega
  refine ⟨_, rfl, _, rfl, _, rfl, _, _, rfl, rfl, d, b, l, k - 1, m - 1, by rw [← hk1]; rfl, D5, hb5, nbd, by omega, fun v1 t1 H6 m6 D6 hb6 hm6 kp6 at1 ok1 dp1 => ?_⟩
  refine ⟨_, rfl, _, rfl, _, rfl, _, _, rfl, rfl, d, b, l, k - 1, m6, by rw [← hk1]; rfl, D6, hb6, nbd, by omega, fun v2 t2 H7 m7 D7 hb7 hm7 kp7 at2 ok2 dp2 => ?_⟩
  have at1' := at1.mono (D6.tups3 hb6 kp7)
  have kp07 := (kp05.trans kp6).trans kp7
  refine ⟨_, rfl, _, rfl, ?_⟩
  refine ite2 (fun _ => ?_) (fun _ => ?_)
  · refine ⟨_, rfl, _, rfl, _, rfl, (by show 3 ≤ sizeLine; decide), fun q hq => ?_⟩
    have sq := same_new hq (.tup [.str (Sx g), v1, v2])
    refine kk _ (.node g t1 t2) _ m7 (D7.keeps sq) (sq _ _ hb7) ?_ (kp07.trans sq.keep3) (.node upd_same (at1'.mono sq.tups) (at2.mono sq.tups)) ⟨hg, ok1, ok2⟩ ?_
    · simp only [T.nodes]
      omega
    · simp only [T.depth]
      omega
  · refine ⟨_, rfl, _, rfl, _, rfl, (by show 3 ≤ sizeLine; decide), fun q hq => ?_⟩
    have sq := same_new hq (.tup [.str (Sx g), v2, v1])
    refine kk _ (.node g t2 t1) _ m7 (D7.keeps sq) (sq _ _ hb7) ?_ (kp07.trans sq.keep3) (.node upd_same (at2.mono sq.tups) (at1'.mono sq.tups)) ⟨hg, ok2, ok1⟩ ?_
    · simp only [T.nodes]
      omega
    · simp only [T.depth]
      omega
theorem ok_drawn {f : Addr} {fd : FuncData} (D : Df K mg "_law_drawn_tree" sDrawn ["_law_deck_here", "_law_box", "_law_deep"] f fd) (A1 : Cal P w K mg base 1 "_law_draw" spDraw) (A2 : Cal P w K mg base 2 "_law_pick" spPick) (A3 : Cal P w K mg base 1 "_law_tags" spTags) :
    ∀ n : Nat, FnOk P w K mg base CX0 (n + 2) f fd ["_law_deck_here", "_law_box", "_law_deep"] (spDrawn n)
  | 0 => drawn_none
  | n + 1 => ok_drawn1 D.fn A1 A2 A3 (D.cal (ok_drawn D A1 A2 A3 n))
theorem scChain : FnScope ["_law_deck_here", "_law_many", "_law_tree", "_law_turn", "_law_tag"] ["_law_deck_here", "_law_many"] (defScope sChain) := ⟨rfl, rfl, rfl, by decide +kernel, rfl, by decide +kernel, by decide +kernel⟩
theorem ok_chain {f : Addr} {fd : FuncData} (F : Fun K "_law_chain" "_law_chain" sChain f fd) (TX : Txt mg) (A1 : Cal P w K mg base 1 "_law_draw" spDraw) (A2 : Cal P w K mg base 2 "_law_pick" spPick) (A3 : Cal P w K mg base 1 "_law_tags" spTags) :
    FnOk P w K mg base CX0 3 f fd ["_law_deck_here", "_law_many"] spChain := by
  refine F.ok scChain (fun vs H Q E h => ?_) (fun cdv A outer s H vs Q E hr h => ?_)
  · obtain ⟨d, l, k, rfl, _⟩ := h
    rfl
  obtain ⟨d, l, k, rfl, D, hk, kk⟩ := h
  refine ⟨_, pss_cons (ps_set (i := 2) scChain.nd rfl (Or.inl rfl) pe_non)
    (pss_cons (ps_for PassesOwn.never rfl (pi_range1 rfl TX.range (pa_cons (pv 1) pa_nil)) (pg_name (i := 3) scChain.nd rfl (Or.inl rfl))
      (pss_cons (ps_set (i := 4) scChain.nd rfl (Or.inl rfl) (pe_c A2 hr (pa_cons (pv 0) (pa_cons (pe_c0 A3 hr) pa_nil))))
      (pss_one (ps_set (i := 2) scChain.nd rfl (Or.inl rfl) (pe_ifExp (pt_cmpR op_eq (pe_c A1 hr (pa_cons (pv 0) (pa_cons pe_int pa_nil))) pe_int (nomark _))
        (pe_tup (pa_cons (pv 4) (pa_cons (pv 2) (pa_cons pe_non pa_nil)))) (pe_tup (pa_cons (pv 4) (pa_cons pe_non (pa_cons (pv 2) pa_nil)))))))))
    (pss_one (ps_ret (pv 2)))), ?_⟩
  refine ⟨_, rfl, _, rfl, by omega, by omega, ?_⟩
  rw [Int.toNat_natCast]
  refine for_range (n := k) (fun i σ H' => ∃ (v : V) (t : T) (a b : Option V), σ = [some (.ref d), some (.int (k : Int)), some v, a, b] ∧ Deck H' d l ∧ Keep2 d l H H' ∧ At H' v t ∧ t.ok ∧ t.nodes ≤ i) ⟨.non, .nil, none, none, rfl, D, Keep2.refl _ _ _, .nil, trivial, Nat.zero_le _⟩ ?_ ?_
  · rintro i σ H1 hi ⟨v, t, c1, c2, rfl, D1, kp1, at1, ok1, n1⟩
    refine ⟨_, rfl, rfl, fun a ha => ?_⟩
    have s2 := same_new ha (.lst tagVs)
    have D2 := D1.keeps s2
    have at2 := at1.mono s2.tups
    have ha2 : upd H1 a (.lst tagVs) a = some (.lst tagVs) := upd_same
    have kp2 := kp1.trans (s2.keep2 (d := d) (l := l))
    have nal : a ≠ l := by
      obtain ⟨_, _, _, _, g2, _⟩ := id D1.ex
      exact (ne_of_none g2 ha).symm
    generalize upd H1 a (.lst tagVs) = H2 at D2 at2 ha2 kp2 ⊢
    refine ⟨d, l, a, _, rfl, D2, ha2, nal, by decide, by decide, fun x H3 hx D3 kp3 => ?_⟩
    obtain ⟨g, rfl, hg⟩ := tag_of hx
    have at3 := at2.mono (D2.tups kp3)
    refine ⟨_, rfl, d, l, _, rfl, D3, by decide, by decide, fun r2 H4 _ _ D4 kp4 => ?_⟩
    have at4 := at3.mono (D3.tups kp4)
    have kp04 := (kp2.trans kp3).trans kp4
    refine ⟨rfl, _, rfl, ?_⟩
    refine ite2 (fun _ => ?_) (fun _ => ?_)
    · refine ⟨_, rfl, _, rfl, (by show 3 ≤ sizeLine; decide), fun q hq => ?_⟩
      have sq := same_new hq (.tup [.str (Sx g), v, .non])
      refine ⟨_, .node g t .nil, _, _, rfl, D4.keeps sq, kp04.trans sq.keep2, .node upd_same (at4.mono sq.tups) .nil, ⟨hg, ok1, trivial⟩, ?_⟩
      simp only [T.nodes]
      omega
    · refine ⟨_, rfl, _, rfl, (by show 3 ≤ sizeLine; decide), fun q hq => ?_⟩
      have sq := same_new hq (.tup [.str (Sx g), .non, v])
      refine ⟨_, .node g .nil t, _, _, rfl, D4.keeps sq, kp04.trans sq.keep2, .node upd_same .nil (at4.mono sq.tups), ⟨hg, trivial, ok1⟩, ?_⟩
      simp only [T.nodes]
      omega
  · rintro σ H1 ⟨v, t, c1, c2, rfl, D1, kp1, at1, ok1, n1⟩
    exact ⟨_, rfl, kk v t H1 D1 kp1 at1 ok1 n1⟩
end
end Eo
/-! _law_any: a text, or a value that is none. -/
namespace Eo
open PySem PySem.Spec PyProof.Rows L2
/-- a text or a value that is none -/
def AnyV (H : Hp) (v : V) : Prop := NonStr H v ∨ ∃ s, v = .str s
def spAny (n : Nat) : Sp := fun vs H Q _ => ∃ (d l : Addr) (k : Nat), vs = [.ref d, .int (k : Int)] ∧ Deck H d l ∧ k < n ∧ ∀ (v : V) (H' : Hp), Deck H' d l → Keep2 d l H H' → AnyV H' v → Q v H'
section
variable {P : Program} {w : World} {K : PySem.W.Frag} {mg : Str → Option Value} {base : Heap}
theorem any_none {f : Addr} {fd : FuncData} {x y : Str} {k : Nat} : FnOk P w K mg base CX0 k f fd [x, y] (spAny 0) := by
  have no : ∀ vs H Q E, ¬ spAny 0 vs H Q E := fun vs H Q E ⟨d, l, k, _, _, h, _⟩ => Nat.not_lt_zero _ h
  exact ⟨fun vs H Q E h => absurd h (no vs H Q E), fun A outer s H args us vs Q E _ _ _ _ h => absurd h (no vs H Q E)⟩
theorem scAny : FnScope ["_law_deck_here", "_law_deep", "_law_way", "_law_some", "_law_turn"] ["_law_deck_here", "_law_deep"] (defScope sAny) := ⟨rfl, rfl, rfl, by decide +kernel, rfl, by decide +kernel, by decide +kernel⟩
theorem ok_any1 {n : Nat} {f : Addr} {fd : FuncData} (F : Fun K "_law_any" "_law_any" sAny f fd) (TX : Txt mg) (A1 : Cal P w K mg base 1 "_law_draw" spDraw) (A2 : Cal P w K mg base 2 "_law_pick" spPick)
    (C1 : Cal P w K mg base (n + 2) "_law_any" (spAny n)) : FnOk P w K mg base CX0 (n + 1 + 2) f fd ["_law_deck_here", "_law_deep"] (spAny (n + 1)) := by
  refine F.ok scAny (fun vs H Q E h => ?_) (fun cdv A outer s H vs Q E hr h => ?_)
  · obtain ⟨d, l, k, rfl, _⟩ := h
    rfl
  obtain ⟨d, l, k, rfl, D, hk, kk⟩ := h
  have hu := hu_of hr
  refine ⟨_, pss_cons (ps_set (i := 2) scAny.nd rfl (Or.inl rfl) (pe_c A1 hr (pa_cons (pv 0) (pa_cons pe_int pa_nil))))
    (pss_cons (ps_if (pt_cmpR op_lt (pv 2) pe_int (nomark _)) (pss_one (ps_ret (pe_c A2 hr (pa_cons (pv 0) (pa_cons (pe_lst (pa_cons pe_int (pa_cons pe_int (pa_cons (pe_un un_neg pe_int) (pa_cons pe_int (pa_cons (pe_op op_pow pe_int pe_int) (pa_cons (pe_un un_neg (pe_op op_pow pe_int pe_int)) (pa_cons pe_int (pa_cons pe_int pa_nil))))))))) pa_nil))))) pss_nil)
    (pss_cons (ps_if (pt_cmpR op_lt (pv 2) pe_int (nomark _)) (pss_one (ps_ret (pe_c A2 hr (pa_cons (pv 0) (pa_cons (pe_lst (pa_cons pe_str (pa_cons pe_str (pa_cons pe_str (pa_cons pe_str (pa_cons pe_str (pa_cons pe_str pa_nil))))))) pa_nil))))) pss_nil)
    (pss_cons (ps_if (pt_cmpR op_eq (pv 2) pe_int (nomark _)) (pss_one (ps_ret (pe_c A2 hr (pa_cons (pv 0) (pa_cons (pe_lst (pa_cons pe_bl (pa_cons pe_bl (pa_cons pe_non pa_nil)))) pa_nil))))) pss_nil)
    (C8.pss_cut (ps_set (i := 3) scAny.nd rfl (Or.inl rfl) (pe_ifExp (pt_cmpR op_gt (pv 1) pe_int (nomark _))
        (pe_lc (own := [("_law_turn", 4)]) (g := gName 4) (tt := tYes) rfl scAny.nd (pi_range1 rfl TX.range (pa_cons (pe_c A1 hr (pa_cons (pv 0) (pa_cons pe_int pa_nil))) pa_nil)) (blkOk_by (N := ["_law_deck_here", "_law_deep", "_law_way", "_law_some", "_law_turn"]) (sc := defScope sAny) (by decide +kernel))
          (fun _ _ _ _ _ => pg_name (i := 4) scAny.nd rfl (Or.inl rfl)) (fun _ _ _ _ _ => pts_nil) (fun _ _ _ _ _ => pe_c C1 hr (pa_cons (pv 0) (pa_cons (pe_op op_sub (pv 1) pe_int) pa_nil)) (Nat.le_refl _)))
        (pe_lst pa_nil)))
    (pss_cons (ps_if (pt_cmpR op_eq (pv 2) pe_int (nomark _)) (pss_one (ps_ret (pv 3))) pss_nil)
    (pss_one (ps_ret (pe_ifExp (pt_cmpR op_eq (pv 2) pe_int (nomark _)) (pe_disp (pps_cons pe_str (pv 3) (pps_cons pe_int (pe_callB call_len_seq rfl TX.len PySem.boot_len (pa_cons (pv 3) pa_nil)) pps_nil)) rfl rfl (fun z => by cases z) (by decide))
      (pe_callTy call_tuple_of rfl TX.tuple boot_tuple (pa_cons (pv 3) pa_nil)))))))))), ?_⟩
  have nl : ∀ {H1 : Hp} {a : Addr}, Deck H1 d l → H1 a = none → a ≠ l := fun D1 ha => by
    obtain ⟨_, _, _, _, g2, _⟩ := id D1.ex
    exact (ne_of_none g2 ha).symm
  have nd : ∀ {H1 : Hp} {a : Addr}, Deck H1 d l → H1 a = none → a ≠ d := fun D1 ha => by
    obtain ⟨_, _, _, g1, _, _⟩ := id D1.ex
    exact (ne_of_none g1 ha).symm
  refine ⟨_, rfl, d, l, _, rfl, D, by decide, by decide, fun r H1 r0 r1 D1 kp1 => ?_⟩
  refine ⟨_, rfl, _, _, rfl, rfl, _, rfl, ?_⟩
  refine ite2 (fun _ => ?_) (fun _ => ?_)
  · refine ⟨_, rfl, _, rfl, _, _, rfl, rfl, ⟨by decide, by decide, by decide⟩, _, _, rfl, rfl, ⟨by decide, by decide, by decide⟩, _, rfl, (by show 8 ≤ sizeLine; decide), fun a ha => ?_⟩
    have s2 := same_new ha (.lst [V.int 0, .int 1, .int (-1), .int 7, .int (10 ^ 29), .int (-(10 ^ 20)), .int 2, .int 5])
    refine ⟨d, l, a, _, rfl, D1.keeps s2, upd_same, nl D1 ha, by decide, by decide, fun x H' hx D' kp' => kk x H' D' ((kp1.trans s2.keep2).trans kp') ?_⟩
    simp only [List.mem_cons, List.not_mem_nil, or_false] at hx
    rcases hx with rfl | rfl | rfl | rfl | rfl | rfl | rfl | rfl <;> exact .inl (.int _)
  refine ⟨_, rfl, _, _, rfl, rfl, _, rfl, ?_⟩
  refine ite2 (fun _ => ?_) (fun _ => ?_)
  · refine ⟨_, rfl, (by show 6 ≤ sizeLine; decide), fun a ha => ?_⟩
    have s2 := same_new ha (.lst [V.str "", .str "a", .str "l", .str "top", .str "x\ny", .str "~"])
    refine ⟨d, l, a, _, rfl, D1.keeps s2, upd_same, nl D1 ha, by decide, by decide, fun x H' hx D' kp' => kk x H' D' ((kp1.trans s2.keep2).trans kp') ?_⟩
    simp only [List.mem_cons, List.not_mem_nil, or_false] at hx
    rcases hx with rfl | rfl | rfl | rfl | rfl | rfl <;> exact .inr ⟨_, rfl⟩
  refine ⟨_, rfl, rfl, _, rfl, ?_⟩
  refine ite2 (fun _ => ?_) (fun _ => ?_)
  · refine ⟨_, rfl, (by show 3 ≤ sizeLine; decide), fun a ha => ?_⟩
    have s2 := same_new ha (.lst [V.bl true, .bl false, .non])
    refine ⟨d, l, a, _, rfl, D1.keeps s2, upd_same, nl D1 ha, by decide, by decide, fun x H' hx D' kp' => kk x H' D' ((kp1.trans s2.keep2).trans kp') ?_⟩
    simp only [List.mem_cons, List.not_mem_nil, or_false] at hx
    rcases hx with rfl | rfl | rfl
    · exact .inl (.bl _)
    · exact .inl (.bl _)
    · exact .inl .non
  refine ⟨fun σ' H' => ∃ (a : Addr) (xs : List V) (z : Option V), σ' = [some (.ref d), some (.int (k : Int)), some (.int r), some (.ref a), z] ∧ Deck H' d l ∧ Keep2 d l H H' ∧ H' a = some (.lst xs) ∧ xs.length ≤ 10, ?_, ?_⟩
  · refine ⟨_, rfl, _, _, rfl, rfl, _, rfl, ?_⟩
    refine ite2 (fun c => ?_) (fun _ => ?_)
    · have c' : (0 : Int) < (k : Int) := of_decide_eq_true c
      have k0 : k ≠ 0 := by omega
      have hk1 : ((k : Int) - 1) = ((k - 1 : Nat) : Int) := by omega
      refine ⟨_, rfl, d, l, _, rfl, D1, by decide, by decide, fun r2 H2 p0 p1 D2 kp2 => ⟨r2, rfl, by omega, by omega, fun B hB => ?_⟩⟩
      have nBd := nd D2 hB
      have nBl := nl D2 hB
      have stay : ∀ {H3 : Hp} (acc : List V), Deck H3 d l → Keep2 d l H H3 → Deck (upd H3 B (.lst acc)) d l ∧ Keep2 d l H (upd H3 B (.lst acc)) := fun {H3} acc D3 kp3 => by
        obtain ⟨ns, m, j, e1, e2, e3⟩ := D3.ex
        refine ⟨⟨ns, m, j, (upd_ne nBd.symm).trans e1, (upd_ne nBl.symm).trans e2, e3⟩, fun b o q h1 h2 => ?_⟩
        have q2 := (kp1.trans kp2) b o q h1 h2
        rw [upd_ne (ne_of_none q2 hB)]
        exact kp3 b o q h1 h2
      refine lc_range (n := r2.toNat) (fun i H' => i ≤ 10 ∧ Deck H' d l ∧ Keep2 d l H H' ∧ ∃ acc, H' B = some (.lst acc) ∧ acc.length = i) ⟨by omega, (stay [] D2 (kp1.trans kp2)).1, (stay [] D2 (kp1.trans kp2)).2, [], upd_same, rfl⟩ ?_ ?_
      · rintro i H3 hi ⟨_, D3, kp3, acc, hB3, hl⟩
        refine ⟨rfl, _, rfl, _, rfl, _, _, rfl, rfl, d, l, k - 1, by rw [← hk1]; rfl, D3, by omega, fun y H4 D4 kp4 _ => ?_⟩
        have hB4 := kp4 _ _ hB3 nBd nBl
        refine ⟨acc, hB4, small1000 (by omega), by omega, (stay _ D4 (kp3.trans kp4)).1, (stay _ D4 (kp3.trans kp4)).2, _, upd_same, ?_⟩
        rw [List.length_append, hl]
        rfl
      · rintro H3 ⟨h10, D3, kp3, acc, hB3, hl⟩
        exact ⟨B, acc, none, rfl, D3, kp3, hB3, by omega⟩
    · refine ⟨(by show 0 ≤ sizeLine; decide), fun a ha => ⟨a, [], none, rfl, D1.keeps (same_new ha _), kp1.trans (same_new ha _).keep2, upd_same, Nat.zero_le _⟩⟩
  · rintro σ' H' ⟨a, xs, z, rfl, D2, kp2, ha, hl⟩
    refine ⟨_, rfl, rfl, _, rfl, ?_⟩
    refine ite2 (fun _ => ⟨_, rfl, kk _ H' D2 kp2 (.inl (.lst ha))⟩) (fun _ => ?_)
    refine ⟨_, rfl, rfl, _, rfl, ?_⟩
    refine ite2 (fun _ => fun p hp => ?_) (fun _ => ?_)
    · have s3 := same_new hp (.dK [])
      refine ⟨_, rfl, _, rfl, a, xs, rfl, .inl (SqL.of (s3 _ _ ha)), upd_same, [(.inr "key", .ref a), (.inl 1, .int (xs.length : Int))], rfl, (by show 2 ≤ 15; decide), ?_⟩
      rw [upd_upd]
      have s4 := same_new hp (.dK (mergeK [] [(.inr "key", .ref a), (.inl 1, .int (xs.length : Int))]))
      exact kk _ _ (D2.keeps s4) (kp2.trans s4.keep2) (.inl (.dK upd_same))
    · refine ⟨_, rfl, a, xs, rfl, .inl ⟨SqL.of ha, fun q hq => ?_⟩⟩
      have s4 := same_new hq (.tup xs)
      exact kk _ _ (D2.keeps s4) (kp2.trans s4.keep2) (.inl (.tup upd_same))
theorem ok_any {f : Addr} {fd : FuncData} (D : Df K mg "_law_any" sAny ["_law_deck_here", "_law_deep"] f fd) (TX : Txt mg) (A1 : Cal P w K mg base 1 "_law_draw" spDraw) (A2 : Cal P w K mg base 2 "_law_pick" spPick) :
    ∀ n : Nat, FnOk P w K mg base CX0 (n + 2) f fd ["_law_deck_here", "_law_deep"] (spAny n)
  | 0 => any_none
  | n + 1 => ok_any1 D.fn TX A1 A2 (D.cal (ok_any D TX A1 A2 n))
end
end Eo
/-! text.index(sign, start): the first place. -/
namespace Eo
open PySem PySem.Spec PyProof.Rows L2
open Builtin Builtin.Str StrLaws
theorem occ_stays (s sub : Str) (hi : Nat) : ∀ (l : List Nat) (st : Array Nat × Nat), 1 ≤ st.fst.size → (forIn l st (occBody s sub hi 1)).run.fst = st.fst
  | [], _, _ => rfl
  | a :: l, st, h => by
    rw [List.forIn_cons]
    unfold occBody
    rw [if_neg (fun z => by have := z.1.1.1; omega)]
    exact occ_stays s sub hi l _ h
theorem occ_first (s sub : Str) (hi j free : Nat) : ∀ (n a : Nat), free ≤ a → a ≤ j → j < a + n → (j + sub.length ≤ hi ∧ subAt s sub j = true) → (∀ i, a ≤ i → i < j → ¬ (i + sub.length ≤ hi ∧ subAt s sub i = true)) →
    (forIn (List.range' a n) ((#[] : Array Nat), free) (occBody s sub hi 1)).run.fst = #[j]
  | 0, a, _, h2, h3, _, _ => by omega
  | n + 1, a, h1, h2, h3, h4, h5 => by
    rw [List.range'_succ, List.forIn_cons]
    unfold occBody
    by_cases e : a = j
    · subst e
      rw [if_pos ⟨⟨⟨by simp, h1⟩, h4.1⟩, h4.2⟩]
      exact occ_stays s sub hi _ _ (by simp)
    · rw [if_neg (fun z => h5 a (Nat.le_refl _) (by omega) ⟨z.1.2, z.2⟩)]
      exact occ_first s sub hi j free n (a + 1) (by omega) (by omega) (by omega) h4 (fun i hi1 hi2 => h5 i (by omega) hi2)
theorem index_first {cs : List Nat} {c a j : Nat} (h1 : a ≤ j) (h2 : cs[j]? = some c) (h3 : ∀ i, a ≤ i → i < j → cs[i]? ≠ some c) : Txt.indexFrom (Sx cs) (Sx [c]) (a : Int) = some j := by
  have hj : j < cs.length := (List.getElem?_eq_some_iff.mp h2).1
  have hf : fromIndex (Sx cs).length (a : Int) = a := by
    unfold fromIndex
    rw [Sx_len]
    split
    · omega
    · omega
  unfold Txt.indexFrom
  rw [hf, occ_eq, occ_first (Sx cs) (Sx [c]) (Sx cs).length j a _ a (Nat.le_refl _) h1 (by rw [Sx_len]; omega) ((subAt_one (Sx cs) c j).mpr (by simpa using h2)) (fun i hi1 hi2 z => h3 i hi1 hi2 (by simpa using (subAt_one (Sx cs) c i).mp z))]
  rfl
end Eo
/-! _law_read_tree: the reader by recursion. -/
namespace Eo
open PySem PySem.Spec PyProof.Rows L2
def RdOut (cs : List Nat) (H' : Hp) (p : Addr) : R → Prop
  | .bad x => H' p = some (.tup [.str "wrong", .int ((cs.length - x.length : Nat) : Int)])
  | .got t x => ∃ v, H' p = some (.tup [v, .int ((cs.length - x.length : Nat) : Int)]) ∧ At H' v t
def spRd (n : Nat) : Sp := fun vs H Q _ => ∃ (cs : List Nat) (k : Nat) (isn : Bool) (o : R), vs = [.str (Sx cs), .int (k : Int), .bl isn] ∧ k ≤ cs.length ∧ cs.length ≤ 5000 ∧ rd n isn (cs.drop k) = some o ∧
  ∀ (p : Addr) (H' : Hp), Same H H' → RdOut cs H' p o → Q (.ref p) H'
theorem word_or {K : PySem.W.Frag} {H : Hp} {v : V} {t : T} {A B : Prop} (h : At H v t) (q : B) : A ∨ (v = .non ∧ B) ∨ ∃ a xs, v = .ref a ∧ SqT K H a xs ∧ B := by
  cases h with
  | nil => exact .inr (.inl ⟨rfl, q⟩)
  | node e _ _ => exact .inr (.inr ⟨_, _, rfl, SqT.of e, q⟩)
theorem cut_mid {cs : List Nat} {k j : Nat} (h1 : k ≤ j) (h2 : j ≤ cs.length) : cutS (Sx cs) (some (k : Int)) (some (j : Int)) = Sx ((cs.drop k).take (j - k)) := by
  unfold cutS
  rw [HT.sIx_nat, HT.sIx_nat, Sx_len, Nat.min_eq_left h2, Nat.min_eq_left (Nat.le_trans h1 h2)]
theorem suffix_drop {a x cs : List Nat} (h : cs = a ++ x) : cs.drop (cs.length - x.length) = x := by
  subst h
  rw [List.length_append, Nat.add_sub_cancel, List.drop_left]
theorem drop_len {cs x : List Nat} {j : Nat} (h : cs.drop j = x) (hj : j ≤ cs.length) : j = cs.length - x.length := by
  rw [← h, List.length_drop]
  omega
theorem head_of {cs r : List Nat} {j c : Nat} (h : cs.drop j = c :: r) : cs[j]? = some c ∧ j < cs.length ∧ cs.drop (j + 1) = r := by
  have e : (cs.drop j)[0]? = some c := by rw [h]; rfl
  rw [List.getElem?_drop] at e
  have e' : cs[j]? = some c := e
  refine ⟨e', (List.getElem?_eq_some_iff.mp e').1, ?_⟩
  rw [← List.drop_drop, h]
  rfl
theorem sign_at {cs : List Nat} {j c : Nat} (h : cs[j]? = some c) : atI (Sx cs).cps.toList (j : Int) = some c := atI_nat (by simpa using h)
/-- at the end, or another sign: what after tells -/
theorem chk {cs x : List Nat} {d j : Nat} (h : cs.drop j = x) (hj : j ≤ cs.length) : (after d x = none ∧ (j = cs.length ∨ ∃ c, j < cs.length ∧ cs[j]? = some c ∧ c ≠ d)) ∨ ∃ r, x = d :: r ∧ after d x = some r ∧ j < cs.length ∧ cs[j]? = some d ∧ cs.drop (j + 1) = r := by
  cases x with
  | nil =>
    refine .inl ⟨rfl, .inl ?_⟩
    have := List.drop_eq_nil_iff.mp h
    omega
  | cons c r =>
    obtain ⟨h1, h2, h3⟩ := head_of h
    by_cases e : c = d
    · subst e
      exact .inr ⟨r, rfl, after_cons c r, h2, h1, h3⟩
    · exact .inl ⟨after_ne e, .inr ⟨c, h2, h1, e⟩⟩
theorem int_eq (a b : Nat) : decide (V.int (a : Int) = V.int (b : Int)) = decide (a = b) := by
  by_cases h : a = b
  · rw [h, decide_eq_true rfl, decide_eq_true rfl]
  · rw [decide_eq_false h, decide_eq_false fun q => h (by have := V.int.inj q; omega)]
theorem ite_ne {c d : Nat} {z : Str} {A B : Prop} (hz : z = Sx [d]) (h : c ≠ d → A) (h' : c = d → B) : if (!decide (V.str ⟨#[c]⟩ = V.str z)) = true then A else B := by
  have e : decide (V.str ⟨#[c]⟩ = V.str z) = decide (c = d) := by rw [hz]; exact sign_eq c d
  rw [e]
  by_cases q : c = d
  · rw [decide_eq_true q]
    exact iteF (h' q)
  · rw [decide_eq_false q]
    exact iteT (h q)
theorem ite_end {j n : Nat} {A B : Prop} (h : j = n → A) (h' : j ≠ n → B) : if decide (V.int (j : Int) = V.int (n : Int)) = true then A else B := by
  rw [int_eq]
  by_cases q : j = n
  · rw [decide_eq_true q]
    exact iteT (h q)
  · rw [decide_eq_false q]
    exact iteF (h' q)
section
variable {P : Program} {w : World} {K : PySem.W.Frag} {mg : Str → Option Value} {base : Heap}
theorem rd_none {f : Addr} {fd : FuncData} {x y z : Str} : FnOk P w K mg base CX0 0 f fd [x, y, z] (spRd 0) := by
  have no : ∀ vs H Q E, ¬ spRd 0 vs H Q E := fun vs H Q E ⟨cs, k, isn, o, _, _, _, h, _⟩ => by cases h
  exact ⟨fun vs H Q E h => absurd h (no vs H Q E), fun A outer s H args us vs Q E _ _ _ _ h => absurd h (no vs H Q E)⟩
theorem scRd : FnScope ["_law_text", "_law_at", "_law_is_node", "_law_start", "_law_left", "_law_right"] ["_law_text", "_law_at", "_law_is_node"] (defScope sReadTree) := ⟨rfl, rfl, rfl, by decide +kernel, rfl, by decide +kernel, by decide +kernel⟩
theorem ok_rd1 {n : Nat} {f : Addr} {fd : FuncData} (F : Fun K "_law_read_tree" "_law_read_tree" sReadTree f fd) (TX : Txt mg) (C1 : Cal P w K mg base n "_law_read_tree" (spRd n)) : FnOk P w K mg base CX0 (n + 1) f fd ["_law_text", "_law_at", "_law_is_node"] (spRd (n + 1)) := by
  refine F.ok scRd (fun vs H Q E h => ?_) (fun cdv A outer s H vs Q E hr h => ?_)
  · obtain ⟨cs, k, isn, o, rfl, _⟩ := h
    rfl
  obtain ⟨cs, k, isn, o, rfl, hk, hN, hrd, kk⟩ := h
  refine ⟨_, pss_cons (ps_if (pt_cmpR op_eq (pv 1) (pe_callB call_len_str rfl TX.len PySem.boot_len (pa_cons (pv 0) pa_nil)) (nomark _)) (pss_one (ps_ret (pe_tup (pa_cons pe_str (pa_cons (pv 1) pa_nil))))) pss_nil)
    (pss_cons (ps_if (pt_cmpR op_eq (pe_ix ix_str (pv 0) (pv 1) (fun _ _ => rfl)) pe_str (nomark _)) (pss_one (ps_ret (pe_ifExp (pt_val (pv 2)) (pe_tup (pa_cons pe_str (pa_cons (pv 1) pa_nil))) (pe_tup (pa_cons pe_non (pa_cons (pe_op op_add (pv 1) pe_int) pa_nil)))))) pss_nil)
    (pss_cons (ps_set (i := 3) scRd.nd rfl (Or.inl rfl) (pv 1))
    (C8.pss_cut (ps_while PassesOwn.never (PW.pt (pw_and (pt_cmpR op_lt (pv 1) (pe_callB call_len_str rfl TX.len PySem.boot_len (pa_cons (pv 0) pa_nil)) (nomark _)) (pw_and (pt_cmpR op_lt (pv 1) (pe_op op_add (pv 3) pe_int) (nomark _)) (pw_and1 (pt_cmpR op_in_sign (pe_ix ix_str (pv 0) (pv 1) (fun _ _ => rfl)) pe_str rfl)))))
        (pss_one (ps_set (i := 1) scRd.nd rfl (Or.inl rfl) (pe_op op_add (pv 1) pe_int))))
    (pss_cons (ps_if (pt_cmpR op_eq (pv 1) (pv 3) (nomark _)) (pss_one (ps_ret (pe_tup (pa_cons pe_str (pa_cons (pv 1) pa_nil))))) pss_nil)
    (pss_cons (ps_if (PW.pt (pw_or (pt_cmpR op_eq (pv 1) (pe_callB call_len_str rfl TX.len PySem.boot_len (pa_cons (pv 0) pa_nil)) (nomark _)) (pw_or1 (pt_cmpR op_ne (pe_ix ix_str (pv 0) (pv 1) (fun _ _ => rfl)) pe_str (nomark _)))))
        (pss_one (ps_ret (pe_tup (pa_cons (pe_tup (pa_cons (pe_slice sl_str (pv 0) (po_some (pv 3)) (po_some (pv 1))) (pa_cons pe_non (pa_cons pe_non pa_nil)))) (pa_cons (pv 1) pa_nil))))) pss_nil)
    (pss_cons (ps_set (i := 4) scRd.nd rfl (Or.inl rfl) (pe_c C1 hr (pa_cons (pv 0) (pa_cons (pe_op op_add (pv 1) pe_int) (pa_cons pe_bl pa_nil))) (Nat.le_refl _)))
    (pss_cons (ps_if (pt_cmpR (op_eqWord hr.units0) (pe_ix ix_tup (pv 4) pe_int (fun _ _ => rfl)) pe_str (nomark _)) (pss_one (ps_ret (pv 4))) pss_nil)
    (pss_cons (ps_set (i := 1) scRd.nd rfl (Or.inl rfl) (pe_ix ix_tup (pv 4) pe_int (fun _ _ => rfl)))
    (pss_cons (ps_if (PW.pt (pw_or (pt_cmpR op_eq (pv 1) (pe_callB call_len_str rfl TX.len PySem.boot_len (pa_cons (pv 0) pa_nil)) (nomark _)) (pw_or1 (pt_cmpR op_ne (pe_ix ix_str (pv 0) (pv 1) (fun _ _ => rfl)) pe_str (nomark _)))))
        (pss_one (ps_ret (pe_tup (pa_cons pe_str (pa_cons (pv 1) pa_nil))))) pss_nil)
    (pss_cons (ps_set (i := 5) scRd.nd rfl (Or.inl rfl) (pe_c C1 hr (pa_cons (pv 0) (pa_cons (pe_op op_add (pv 1) pe_int) (pa_cons (pe_cmp (pc_isN (pe_ix ix_tup (pv 4) pe_int (fun _ _ => rfl))) (nomark _)) pa_nil))) (Nat.le_refl _)))
    (pss_cons (ps_if (pt_cmpR (op_eqWord hr.units0) (pe_ix ix_tup (pv 5) pe_int (fun _ _ => rfl)) pe_str (nomark _)) (pss_one (ps_ret (pv 5))) pss_nil)
    (pss_cons (ps_set (i := 1) scRd.nd rfl (Or.inl rfl) (pe_ix ix_tup (pv 5) pe_int (fun _ _ => rfl)))
    (pss_cons (ps_if (PW.pt (pw_or (pt_cmpR op_eq (pv 1) (pe_callB call_len_str rfl TX.len PySem.boot_len (pa_cons (pv 0) pa_nil)) (nomark _)) (pw_or1 (pt_cmpR op_ne (pe_ix ix_str (pv 0) (pv 1) (fun _ _ => rfl)) pe_str (nomark _)))))
        (pss_one (ps_ret (pe_tup (pa_cons pe_str (pa_cons (pv 1) pa_nil))))) pss_nil)
    (pss_one (ps_ret (pe_tup (pa_cons (pe_tup (pa_cons (pe_slice sl_str (pv 0) (po_some (pv 3)) (po_some (pe_bmS PySem.F.plainAttrs_str PySem.F.slot_str_index PySem.F.type_str_index (mt_indexFromX rfl takes0) (pv 0) (pa_cons pe_str (pa_cons (pv 3) pa_nil)))))
        (pa_cons (pe_ix ix_tup (pv 4) pe_int (fun _ _ => rfl)) (pa_cons (pe_ix ix_tup (pv 5) pe_int (fun _ _ => rfl)) pa_nil)))) (pa_cons (pe_op op_add (pv 1) pe_int) pa_nil)))))))))))))))))), ?_⟩
  have hz : (Sx cs).length ≤ sizeLine := by rw [Sx_len]; exact size_le (by omega)
  have wrong : ∀ {H1 : Hp} {x : List Nat} {j : Nat}, cs.drop j = x → j ≤ cs.length → o = .bad x → Same H H1 → ∀ q, H1 q = none → Q (.ref q) (upd H1 q (.tup [.str "wrong", .int (j : Int)])) := by
    intro H1 x j h1 h2 h3 s1 q hq
    refine kk q _ (s1.trans (same_new hq _)) ?_
    rw [h3, drop_len h1 h2]
    exact upd_same
  -- at == len(text)
  refine ⟨_, rfl, _, rfl, _, rfl, hz, rfl, _, rfl, ?_⟩
  rw [Sx_len, int_eq]
  refine ite2 (fun c => ?_) (fun c => ?_)
  · have e : k = cs.length := of_decide_eq_true c
    have e2 : cs.drop k = [] := List.drop_eq_nil_of_le (by omega)
    rw [e2] at hrd
    have ho : o = .bad [] := by cases hrd; rfl
    exact ⟨_, rfl, (by show 2 ≤ sizeLine; decide), wrong e2 hk ho (Same.refl H)⟩
  have hlt : k < cs.length := by
    have : ¬ k = cs.length := fun z => c (decide_eq_true z)
    omega
  obtain ⟨c0, hc0⟩ : ∃ c0, cs[k]? = some c0 := ⟨cs[k], List.getElem?_eq_getElem hlt⟩
  have hs : cs.drop k = c0 :: cs.drop (k + 1) := drop_sign (by simpa using hc0)
  -- text[at] == '-'
  refine ⟨_, rfl, _, rfl, _, _, c0, rfl, rfl, hz, sign_at hc0, rfl, _, rfl, ?_⟩
  have ec : decide (V.str (Sx [c0]) = V.str "-") = decide (c0 = 45) := by rw [lit_minus]; exact sign_eq c0 45
  refine ite2 (fun c => ?_) (fun c => ?_)
  · have e1 : c0 = 45 := of_decide_eq_true (ec ▸ c)
    subst e1
    have hr1 : some (if isn = true then R.bad (cs.drop k) else .got .nil (cs.drop (k + 1))) = some o := by
      rw [← hrd, hs]
      unfold rd
      rw [after_cons]
    have hr2 := Option.some.inj hr1
    refine ⟨_, rfl, _, rfl, ?_⟩
    cases isn with
    | true =>
      exact iteT ⟨_, rfl, (by show 2 ≤ sizeLine; decide), wrong rfl hk hr2.symm (Same.refl H)⟩
    | false =>
      refine iteF ⟨_, rfl, _, _, rfl, rfl, (by show 2 ≤ sizeLine; decide), fun q hq => kk q _ (same_new hq _) ?_⟩
      rw [← hr2]
      refine ⟨.non, ?_, .nil⟩
      have ek : (k : Int) + 1 = ((cs.length - (cs.drop (k + 1)).length : Nat) : Int) := by
        rw [List.length_drop]
        omega
      rw [upd_same, ← ek]
  have n45 : c0 ≠ 45 := fun z => c (ec.trans (decide_eq_true z))
  have hA : after 45 (cs.drop k) = none := by rw [hs]; exact after_ne n45
  unfold rd at hrd
  rw [hA] at hrd
  dsimp only at hrd
  have hsp := takeTag_split 8 (cs.drop k)
  have hsm := takeTag_small 8 (cs.drop k)
  have hle := takeTag_le 8 (cs.drop k)
  have hend := takeTag_end 8 (cs.drop k)
  generalize takeTag 8 (cs.drop k) = g at hrd hsp hsm hle hend
  have hgl : k + g.length ≤ cs.length := by
    have q := congrArg List.length hsp
    rw [List.length_append, List.length_drop] at q
    omega
  have hdd : (cs.drop k).drop g.length = cs.drop (k + g.length) := List.drop_drop ..
  rw [hdd] at hrd hsp hend
  have gtake : (cs.drop k).take g.length = g := by
    rw [hsp, List.take_left]
  have gat : ∀ m, m < g.length → cs[k + m]? = g[m]? := fun m hm => by
    have q : (cs.drop k)[m]? = g[m]? := by
      rw [hsp, List.getElem?_append_left hm]
    rw [List.getElem?_drop] at q
    exact q
  -- the letters
  refine ⟨_, rfl, ?_⟩
  refine ⟨fun σ' H' => H' = H ∧ σ' = [some (.str (Sx cs)), some (.int ((k + g.length : Nat) : Int)), some (.bl isn), some (.int (k : Int)), none, none], ?_, ?_⟩
  · refine ⟨fun μ σ H' => H' = H ∧ ∃ m, m ≤ g.length ∧ μ = g.length - m ∧ σ = [some (.str (Sx cs)), some (.int ((k + m : Nat) : Int)), some (.bl isn), some (.int (k : Int)), none, none], ⟨_, rfl, 0, Nat.zero_le _, rfl, rfl⟩, ?_⟩
    rintro μ σ H' ⟨rfl, m, hm, rfl, rfl⟩
    have out : m = g.length → ([some (.str (Sx cs)), some (.int ((k + m : Nat) : Int)), some (.bl isn), some (.int (k : Int)), none, none] : L2.St) = [some (.str (Sx cs)), some (.int ((k + g.length : Nat) : Int)), some (.bl isn), some (.int (k : Int)), none, none] := fun z => by rw [z]
    refine ⟨_, rfl, _, rfl, _, rfl, hz, _, _, rfl, rfl, _, rfl, ?_⟩
    rw [Sx_len]
    refine ite2 (fun b1 => ?_) (fun b1 => ?_)
    · have h1 : ((k + m : Nat) : Int) < (cs.length : Int) := of_decide_eq_true b1
      have h1' : k + m < cs.length := by omega
      refine ⟨_, rfl, _, rfl, _, _, rfl, rfl, _, _, rfl, rfl, _, rfl, ?_⟩
      refine ite2 (fun b2 => ?_) (fun b2 => ?_)
      · have h2 : ((k + m : Nat) : Int) < (k : Int) + 8 := of_decide_eq_true b2
        obtain ⟨c1, hc1⟩ : ∃ c1, cs[k + m]? = some c1 := ⟨cs[k + m], List.getElem?_eq_getElem h1'⟩
        refine ⟨_, rfl, _, rfl, _, _, c1, rfl, rfl, hz, sign_at hc1, c1, _, rfl, rfl, _, rfl, ?_⟩
        rw [small_is]
        refine ite2 (fun b3 => ?_) (fun b3 => ?_)
        · have hmg : m < g.length := by
            rcases Nat.lt_or_ge m g.length with z | z
            · exact z
            · have em : m = g.length := by omega
              rw [em] at hc1
              have := hend c1 (cs.drop (k + g.length + 1)) (drop_sign (by simpa using hc1)) b3
              omega
          refine ⟨fun σ' H2 => H2 = H' ∧ ∃ m', m < m' ∧ m' ≤ g.length ∧ σ' = [some (.str (Sx cs)), some (.int ((k + m' : Nat) : Int)), some (.bl isn), some (.int (k : Int)), none, none], ?_, ?_⟩
          · rintro σ' H2 ⟨rfl, m', l1, l2, rfl⟩
            exact ⟨g.length - m', by omega, rfl, m', l2, rfl, rfl⟩
          · exact ⟨_, rfl, _, _, rfl, rfl, rfl, m + 1, by omega, by omega, rfl⟩
        · refine ⟨rfl, out ?_⟩
          rcases Nat.lt_or_ge m g.length with z | z
          · rw [gat m z] at hc1
            exact absurd (hsm c1 (List.mem_of_getElem? hc1)) b3
          · omega
      · have h2 : ¬ ((k + m : Nat) : Int) < (k : Int) + 8 := fun z => b2 (decide_eq_true z)
        exact iteF ⟨rfl, out (by omega)⟩
    · have h1 : ¬ ((k + m : Nat) : Int) < (cs.length : Int) := fun z => b1 (decide_eq_true z)
      exact iteF ⟨rfl, out (by omega)⟩
  rintro σ' H' ⟨rfl, rfl⟩
  -- at == start
  refine ⟨_, rfl, _, rfl, rfl, _, rfl, ?_⟩
  rw [int_eq]
  refine ite2 (fun b => ?_) (fun b => ?_)
  · have e0 : k + g.length = k := of_decide_eq_true b
    have eg : g = [] := List.eq_nil_of_length_eq_zero (by omega)
    rw [if_pos eg] at hrd
    exact ⟨_, rfl, (by show 2 ≤ sizeLine; decide), wrong (by rw [e0]) hgl (Option.some.inj hrd).symm (Same.refl H')⟩
  have hg0 : g ≠ [] := fun z => b (by rw [z]; exact decide_eq_true rfl)
  rw [if_neg hg0] at hrd
  have hj2 : cs.drop (k + g.length) = cs.drop (k + g.length) := rfl
  refine ⟨_, rfl, _, rfl, _, rfl, hz, rfl, _, rfl, ?_⟩
  rw [Sx_len]
  have hcut : cutS (Sx cs) (some (k : Int)) (some ((k + g.length : Nat) : Int)) = Sx g := by
    rw [cut_mid (by omega) hgl, Nat.add_sub_cancel_left, gtake]
  rcases chk (d := 40) hj2 hgl with ⟨ha, hj⟩ | ⟨s2, e1, e2, e3, e4, e5⟩
  · rw [ha] at hrd
    dsimp only at hrd
    have leaf : ∀ q1 q2, H' q1 = none → upd H' q1 (.tup [.str (cutS (Sx cs) (some (k : Int)) (some ((k + g.length : Nat) : Int))), .non, .non]) q2 = none → Q (.ref q2) (upd (upd H' q1 (.tup [.str (cutS (Sx cs) (some (k : Int)) (some ((k + g.length : Nat) : Int))), .non, .non])) q2 (.tup [.ref q1, .int ((k + g.length : Nat) : Int)])) := by
      intro q1 q2 h1 h2
      rw [hcut] at h2 ⊢
      refine kk q2 _ ((same_new h1 _).trans (same_new h2 _)) ?_
      rw [← Option.some.inj hrd]
      refine ⟨.ref q1, ?_, .node (same_new h2 _ _ _ upd_same) .nil .nil⟩
      rw [upd_same, ← drop_len hj2 hgl]
    refine ite_end (fun ej => ?_) (fun nj => ?_)
    · exact ⟨_, rfl, _, rfl, _, rfl, _, rfl, _, rfl, _, rfl, hz, (by show 3 ≤ sizeLine; decide), fun q1 h1 => ⟨_, rfl, (by show 2 ≤ sizeLine; decide), fun q2 h2 => leaf q1 q2 h1 h2⟩⟩
    · rcases hj with hj | ⟨c2, l2, hc2, n2⟩
      · exact absurd hj nj
      refine ⟨_, rfl, _, rfl, _, _, c2, rfl, rfl, hz, sign_at hc2, rfl, _, rfl, ?_⟩
      refine ite_ne lit_open (fun _ => ?_) (fun z => absurd z n2)
      exact ⟨_, rfl, _, rfl, _, rfl, _, rfl, _, rfl, _, rfl, hz, (by show 3 ≤ sizeLine; decide), fun q1 h1 => ⟨_, rfl, (by show 2 ≤ sizeLine; decide), fun q2 h2 => leaf q1 q2 h1 h2⟩⟩
  refine ite_end (fun z => by omega) (fun _ => ?_)
  refine ⟨_, rfl, _, rfl, _, _, 40, rfl, rfl, hz, sign_at e4, rfl, _, rfl, ?_⟩
  refine ite_ne lit_open (fun z => absurd rfl z) (fun _ => ?_)
  rw [e2] at hrd
  dsimp only at hrd
  -- the left tree
  obtain ⟨o1, ho1⟩ : ∃ o1, rd n false s2 = some o1 := by
    cases q : rd n false s2 with
    | none =>
      rw [q] at hrd
      cases hrd
    | some o1 => exact ⟨o1, rfl⟩
  rw [ho1] at hrd
  refine ⟨_, rfl, _, rfl, _, _, rfl, rfl, cs, k + g.length + 1, false, o1, rfl, by omega, hN, by rw [e5]; exact ho1, fun p1 H1 s1 R1 => ?_⟩
  cases o1 with
  | bad x =>
    dsimp only at hrd
    have R1' : H1 p1 = some (.tup [.str "wrong", .int ((cs.length - x.length : Nat) : Int)]) := R1
    refine ⟨_, rfl, p1, _, 0, _, rfl, rfl, SqT.of R1', rfl, _, rfl, .inl ⟨_, rfl, _, rfl, ?_⟩⟩
    refine iteT ⟨_, rfl, kk p1 H1 s1 ?_⟩
    rw [← Option.some.inj hrd]
    exact R1'
  | got l s3 =>
    dsimp only at hrd
    obtain ⟨vl, h1, atl⟩ := R1
    obtain ⟨t1, _, _, _⟩ := rd_got n false s2 l s3 ho1
    refine ⟨_, rfl, p1, _, 0, vl, rfl, rfl, SqT.of h1, rfl, _, rfl, ?_⟩
    refine word_or atl ⟨_, rfl, ?_⟩
    refine iteF ?_
    refine ⟨_, rfl, p1, _, 1, _, rfl, rfl, SqT.of h1, rfl, ?_⟩
    have d3 : cs.drop (cs.length - s3.length) = s3 := by
      refine suffix_drop (a := cs.take (k + g.length) ++ 40 :: l.text) ?_
      have q : cs = cs.take (k + g.length) ++ cs.drop (k + g.length) := (List.take_append_drop _ _).symm
      conv => lhs; rw [q, e1, t1]
      simp
    have l3 : s3.length ≤ cs.length := by
      have q := congrArg List.length d3
      rw [List.length_drop] at q
      omega
    have j3 : cs.length - s3.length ≤ cs.length := Nat.sub_le _ _
    -- the comma
    refine ⟨_, rfl, _, rfl, _, rfl, hz, rfl, _, rfl, ?_⟩
    rw [Sx_len]
    rcases chk (d := 44) d3 j3 with ⟨ha, hj⟩ | ⟨s4, f1, f2, f3, f4, f5⟩
    · rw [ha] at hrd
      dsimp only at hrd
      have bad := wrong d3 j3 (Option.some.inj hrd).symm s1
      refine ite_end (fun _ => ⟨_, rfl, (by show 2 ≤ sizeLine; decide), bad⟩) (fun nj => ?_)
      rcases hj with hj | ⟨c2, l2, hc2, n2⟩
      · exact absurd hj nj
      refine ⟨_, rfl, _, rfl, _, _, c2, rfl, rfl, hz, sign_at hc2, rfl, _, rfl, ?_⟩
      exact ite_ne lit_comma (fun _ => ⟨_, rfl, (by show 2 ≤ sizeLine; decide), bad⟩) (fun z => absurd z n2)
    refine ite_end (fun z => by omega) (fun _ => ?_)
    refine ⟨_, rfl, _, rfl, _, _, 44, rfl, rfl, hz, sign_at f4, rfl, _, rfl, ?_⟩
    refine ite_ne lit_comma (fun z => absurd rfl z) (fun _ => ?_)
    rw [f2] at hrd
    dsimp only at hrd
    -- the right tree
    obtain ⟨o2, ho2⟩ : ∃ o2, rd n l.isNil s4 = some o2 := by
      cases q : rd n l.isNil s4 with
      | none =>
        rw [q] at hrd
        cases hrd
      | some o2 => exact ⟨o2, rfl⟩
    rw [ho2] at hrd
    refine ⟨_, rfl, _, rfl, _, _, rfl, rfl, _, rfl, p1, _, 0, vl, rfl, rfl, SqT.of h1, rfl, cs, cs.length - s3.length + 1, l.isNil, o2, by rw [atl.isNil]; rfl, by omega, hN, by rw [f5]; exact ho2, fun p2 H2 s2' R2 => ?_⟩
    cases o2 with
    | bad x =>
      dsimp only at hrd
      have R2' : H2 p2 = some (.tup [.str "wrong", .int ((cs.length - x.length : Nat) : Int)]) := R2
      refine ⟨_, rfl, p2, _, 0, _, rfl, rfl, SqT.of R2', rfl, _, rfl, .inl ⟨_, rfl, _, rfl, ?_⟩⟩
      refine iteT ⟨_, rfl, kk p2 H2 (s1.trans s2') ?_⟩
      rw [← Option.some.inj hrd]
      exact R2'
    | got r s5 =>
      dsimp only at hrd
      obtain ⟨vr, h2, atr⟩ := R2
      obtain ⟨t2, _, _, _⟩ := rd_got n l.isNil s4 r s5 ho2
      refine ⟨_, rfl, p2, _, 0, vr, rfl, rfl, SqT.of h2, rfl, _, rfl, ?_⟩
      refine word_or atr ⟨_, rfl, ?_⟩
      refine iteF ?_
      refine ⟨_, rfl, p2, _, 1, _, rfl, rfl, SqT.of h2, rfl, ?_⟩
      have q3 : cs = cs.take (cs.length - s3.length) ++ s3 := by
        conv => lhs; rw [← List.take_append_drop (cs.length - s3.length) cs, d3]
      have e34 : s3 = (44 :: r.text) ++ s5 := by rw [f1, t2]; rfl
      have d5 : cs.drop (cs.length - s5.length) = s5 :=
        suffix_drop ((q3.trans (congrArg (fun z => cs.take (cs.length - s3.length) ++ z) e34)).trans (List.append_assoc ..).symm)
      have l5 : s5.length ≤ cs.length := by
        have q := congrArg List.length d5
        rw [List.length_drop] at q
        omega
      have j5 : cs.length - s5.length ≤ cs.length := Nat.sub_le _ _
      refine ⟨_, rfl, _, rfl, _, rfl, hz, rfl, _, rfl, ?_⟩
      rw [Sx_len]
      rcases chk (d := 41) d5 j5 with ⟨ha, hj⟩ | ⟨s6, g1, g2, g3, g4, g5⟩
      · rw [ha] at hrd
        dsimp only at hrd
        have bad := wrong d5 j5 (Option.some.inj hrd).symm (s1.trans s2')
        refine ite_end (fun _ => ⟨_, rfl, (by show 2 ≤ sizeLine; decide), bad⟩) (fun nj => ?_)
        rcases hj with hj | ⟨c2, l2, hc2, n2⟩
        · exact absurd hj nj
        refine ⟨_, rfl, _, rfl, _, _, c2, rfl, rfl, hz, sign_at hc2, rfl, _, rfl, ?_⟩
        exact ite_ne lit_close (fun _ => ⟨_, rfl, (by show 2 ≤ sizeLine; decide), bad⟩) (fun z => absurd z n2)
      refine ite_end (fun z => by omega) (fun _ => ?_)
      refine ⟨_, rfl, _, rfl, _, _, 41, rfl, rfl, hz, sign_at g4, rfl, _, rfl, ?_⟩
      refine ite_ne lit_close (fun z => absurd rfl z) (fun _ => ?_)
      rw [g2] at hrd
      dsimp only at hrd
      have ix : Txt.indexFrom (Sx cs) (Sx [40]) (k : Int) = some (k + g.length) := index_first (by omega) e4 fun i hi1 hi2 z => by
        have q := gat (i - k) (by omega)
        rw [show k + (i - k) = i by omega, z] at q
        have := hsm 40 (List.mem_of_getElem? q.symm)
        exact absurd this (by decide)
      have h1' := s2' _ _ h1
      refine ⟨_, rfl, _, rfl, _, rfl, _, rfl, rfl, _, rfl, _, _, _, rfl, rfl, fun k2 hk2 => ?_, fun z => ?_⟩
      · have ek : k2 = k + g.length := Option.some.inj (hk2.symm.trans (by rw [lit_open]; exact ix))
        subst ek
        refine ⟨_, rfl, _, rfl, hz, _, rfl, p1, _, 0, vl, rfl, rfl, SqT.of h1', rfl, _, rfl, p2, _, 0, vr, rfl, rfl, SqT.of h2, rfl, (by show 3 ≤ sizeLine; decide), fun q1 hq1 => ⟨_, rfl, _, _, rfl, rfl, (by show 2 ≤ sizeLine; decide), fun q2 hq2 => ?_⟩⟩
        rw [hcut] at hq2 ⊢
        have t1 := same_new hq1 (.tup [.str (Sx g), vl, vr])
        have t2 := same_new hq2 (.tup [.ref q1, .int (((cs.length - s5.length : Nat) : Int) + 1)])
        refine kk q2 _ (((s1.trans s2').trans t1).trans t2) ?_
        rw [← Option.some.inj hrd]
        refine ⟨.ref q1, ?_, .node (t2 _ _ upd_same) ((atl.mono s2'.tups).mono (t1.trans t2).tups) (atr.mono (t1.trans t2).tups)⟩
        have e6 : (((cs.length - s5.length : Nat) : Int) + 1) = ((cs.length - s6.length : Nat) : Int) := by
          rw [g1, List.length_cons] at l5 ⊢
          omega
        rw [upd_same, ← e6]
      · rw [lit_open, ix] at z
        cases z
theorem ok_rd {f : Addr} {fd : FuncData} (D : Df K mg "_law_read_tree" sReadTree ["_law_text", "_law_at", "_law_is_node"] f fd) (TX : Txt mg) : ∀ n : Nat, FnOk P w K mg base CX0 n f fd ["_law_text", "_law_at", "_law_is_node"] (spRd n)
  | 0 => rd_none
  | n + 1 => ok_rd1 D.fn TX (D.cal (ok_rd D TX n))
end
end Eo
/-! _law_tree_of, _law_told: the same words on every text. -/
namespace Eo
open PySem PySem.Spec PyProof.Rows L2
def ToldAt (cs : List Nat) (H' : Hp) (p : Addr) : Out → Prop
  | .bad r => H' p = some (.tup [.str "wrong", .int ((cs.length - r.length : Nat) : Int)])
  | .ok t => ∃ v, H' p = some (.tup [.str "tree", v]) ∧ At H' v t
def spTreeOf : Sp := fun vs H Q _ => ∃ cs : List Nat, vs = [.str (Sx cs)] ∧ cs.length ≤ 5000 ∧ opens cs < 50 ∧ ∀ (p : Addr) (H' : Hp), Same H H' → ToldAt cs H' p (run (.need false []) cs) → Q (.ref p) H'
def spTold : Sp := fun vs H Q _ => ∃ (x : V) (way : Int), vs = [x, .int way] ∧
  ((NonStr H x ∧ ∀ (p : Addr) (H' : Hp), Same H H' → H' p = some (.tup [.str "wrong", .int (-1)]) → Q (.ref p) H') ∨
   ∃ cs : List Nat, x = .str (Sx cs) ∧ cs.length ≤ 5000 ∧ ∀ (p : Addr) (H' : Hp), Same H H' → ToldAt cs H' p (run (.need false []) cs) → Q (.ref p) H')
/-- one parameter, given by its place or by its name -/
def gApp (us ws : List Value) : List Value := us ++ ws
def gAppV (us ws : List V) : List V := us ++ ws
section
variable {P : Program} {w : World} {K : PySem.W.Frag} {mg : Str → Option Value} {base : Heap}
theorem scTreeOf : FnScope ["_law_text", "_law_near"] ["_law_text"] (defScope sTreeOf) := ⟨rfl, rfl, rfl, by decide +kernel, rfl, by decide +kernel, by decide +kernel⟩
theorem ok_treeOf {f : Addr} {fd : FuncData} (F : Fun K "_law_tree_of" "_law_tree_of" sTreeOf f fd) (TX : Txt mg) (C1 : Cal P w K mg base 50 "_law_read_tree" (spRd 50)) : FnOk P w K mg base CX0 51 f fd ["_law_text"] spTreeOf := by
  refine F.ok scTreeOf (fun vs H Q E h => ?_) (fun cdv A outer s H vs Q E hr h => ?_)
  · obtain ⟨cs, rfl, _⟩ := h
    rfl
  obtain ⟨cs, rfl, hN, ho, kk⟩ := h
  refine ⟨_, pss_cons (ps_set (i := 1) scTreeOf.nd rfl (Or.inl rfl) (pe_c C1 hr (pa_cons (pv 0) (pa_cons pe_int (pa_cons pe_bl pa_nil)))))
    (pss_cons (ps_if (pt_cmpR (op_eqWord hr.units0) (pe_ix ix_tup (pv 1) pe_int (fun _ _ => rfl)) pe_str (nomark _)) (pss_one (ps_ret (pv 1))) pss_nil)
    (pss_one (ps_ret (pe_ifExp (pt_cmpR op_eq (pe_ix ix_tup (pv 1) pe_int (fun _ _ => rfl)) (pe_callB call_len_str rfl TX.len PySem.boot_len (pa_cons (pv 0) pa_nil)) (nomark _))
      (pe_tup (pa_cons pe_str (pa_cons (pe_ix ix_tup (pv 1) pe_int (fun _ _ => rfl)) pa_nil))) (pe_tup (pa_cons pe_str (pa_cons (pe_ix ix_tup (pv 1) pe_int (fun _ _ => rfl)) pa_nil))))))), ?_⟩
  have hz : (Sx cs).length ≤ sizeLine := by rw [Sx_len]; exact size_le (by omega)
  obtain ⟨o, hro⟩ := rd_ends 50 false cs ho
  refine ⟨_, rfl, cs, 0, false, o, rfl, Nat.zero_le _, hN, hro, fun p H1 s1 R1 => ?_⟩
  cases o with
  | bad x =>
    have hw : whole 50 cs = some (.bad x) := by unfold whole; rw [hro]
    have hrun := run_whole hw
    have R1' : H1 p = some (.tup [.str "wrong", .int ((cs.length - x.length : Nat) : Int)]) := R1
    refine ⟨_, rfl, p, _, 0, _, rfl, rfl, SqT.of R1', rfl, _, rfl, .inl ⟨_, rfl, _, rfl, ?_⟩⟩
    refine iteT ⟨_, rfl, kk p H1 s1 ?_⟩
    rw [hrun]
    exact R1'
  | got t x =>
    have hw : whole 50 cs = some (if x = [] then .ok t else .bad x) := by unfold whole; rw [hro]
    have hrun := run_whole hw
    obtain ⟨v, h1, at1⟩ := R1
    obtain ⟨e1, _, _, _⟩ := rd_got 50 false cs t x hro
    have lx : x.length ≤ cs.length := by rw [e1, List.length_append]; omega
    refine ⟨_, rfl, p, _, 0, v, rfl, rfl, SqT.of h1, rfl, _, rfl, ?_⟩
    refine word_or at1 ⟨_, rfl, ?_⟩
    refine iteF ?_
    refine ⟨_, rfl, p, _, 1, _, rfl, rfl, SqT.of h1, rfl, _, rfl, _, rfl, hz, rfl, _, rfl, ?_⟩
    rw [Sx_len]
    refine ite_end (fun ej => ?_) (fun nj => ?_)
    · have ex : x = [] := List.eq_nil_of_length_eq_zero (by
        cases x with
        | nil => rfl
        | cons c x =>
          rw [List.length_cons] at ej lx
          omega)
      rw [if_pos ex] at hrun
      refine ⟨_, rfl, p, _, 0, v, rfl, rfl, SqT.of h1, rfl, (by show 2 ≤ sizeLine; decide), fun q hq => kk q _ (s1.trans (same_new hq _)) ?_⟩
      rw [hrun]
      exact ⟨v, upd_same, at1.mono (same_new hq _).tups⟩
    · have ex : x ≠ [] := fun z => nj (by rw [z]; exact Nat.sub_zero _)
      rw [if_neg ex] at hrun
      refine ⟨_, rfl, p, _, 1, _, rfl, rfl, SqT.of h1, rfl, (by show 2 ≤ sizeLine; decide), fun q hq => kk q _ (s1.trans (same_new hq _)) ?_⟩
      rw [hrun]
      exact upd_same
theorem scTold : FnScope ["_law_text", "_law_way", "e"] ["_law_text", "_law_way"] (defScope sTold) := ⟨rfl, rfl, rfl, by decide +kernel, rfl, by decide +kernel, by decide +kernel⟩
theorem ok_told {C D fI f fR : Addr} {fd fdR : FuncData} (F : Fun K "_law_told" "_law_told" sTold f fd) (TX : Txt mg) (B : PySem.BadX.BadTxt K mg C D fI) (gD : mg "EyesError" = some (.ref D)) (hD : PySem.W.isIn K (.ref C) D = true)
    (FR : FnOk P w K mg base (L2.CX P w) 4 fR fdR ["text"] (spRead C)) (gR : mg "tree_read" = some (.ref fR)) (kR : PySem.W.keepIn K (.ref fR) = true) (bR : Binds K fdR ["text"] []) (kb : KBinds K fdR ["text"] ["text"] gApp gAppV) :
    FnOk P w K mg base CX0 5 f fd ["_law_text", "_law_way"] spTold := by
  refine F.ok scTold (fun vs H Q E h => ?_) (fun cdv A outer s H vs Q E hr h => ?_)
  · obtain ⟨x, way, rfl, _⟩ := h
    rfl
  obtain ⟨x, way, rfl, h⟩ := h
  refine ⟨_, pss_one (ps_try_as (i := 2)
      (tb := fun W => tRet (tTup (tCons (tC (.str "tree")) (tCons (tIf (tTest (tOp rEq (tVar 1) (tC (.int 0)))) (tCallS (spRead C) (WE W) (tCons (tVar 0) tNil)) (tCallO (spRead C) gAppV (WE W) (tCons (tVar 0) tNil))) tNil))))
      (ts := fun a cls d => tRet (tIf (tB (tCB (rIsX K cls a) (tCons (tVar 2) (tCons (tC (.ref D)) tNil)))) (tTup (tCons (tC (.str "wrong")) (tCons (tByBad C a cls d (tVar 2)) tNil))) (tTup (tCons (tC (.str "other")) (tCons (tC .non) tNil)))))
      (Wout := fun _ _ _ _ => False) rfl rfl scTold.nd rfl rfl ⟨rfl, by decide, Or.inl B.gC⟩ takes0
      (fun W pn xe tk _ => pss_one (ps_ret (pe_tup (pa_cons pe_str (pa_cons (pe_ifExp (pt_cmpR op_eq (pv 1) pe_int (nomark _)) (by exact (pe_callS FR hr rfl gR kR bR (fun σ => passAt tk σ) (by exact (pa_cons (pv 0) pa_nil))))
        (by exact (pe_callO FR hr rfl gR kR kb (fun σ => passAt tk σ) (by exact (pk_cons (pv 0) pk_nil))))) pa_nil)))))
      (fun a oe cls d pn hz hf => pss_one (ps_ret (pe_ifExp (pt_val (by exact (pe_callB (call_isX hz) rfl TX.isi boot_isinstance (by exact (pa_cons (pv 2) (pa_cons (pe_glob (v := .ref D) rfl gD rfl) pa_nil))))))
        (pe_tup (pa_cons pe_str (pa_cons (by exact (pe_byBad B hz hf (pv 2))) pa_nil))) (pe_tup (pa_cons pe_str (pa_cons pe_non pa_nil))))))), ?_⟩
  have exc : ∀ (d : Addr) (H' : Hp) (i : Int), H' d = some (xdAt i) → (∀ p, H' p = none → Q (.ref p) (upd H' p (.tup [.str "wrong", .int i]))) →
      wAs K (.ref C) 2 (fun a cls d => tRet (tIf (tB (tCB (rIsX K cls a) (tCons (tVar 2) (tCons (tC (.ref D)) tNil)))) (tTup (tCons (tC (.str "wrong")) (tCons (tByBad C a cls d (tVar 2)) tNil))) (tTup (tCons (tC (.str "other")) (tCons (tC .non) tNil)))))
        (fun _ _ _ _ => False) { nx := fun _ H' => Q .non H', rt := Q } (.ref C) (some d) [some x, some (.int way), none] H' := by
    intro d H' i e k
    refine ⟨true, B.te, fun _ a ha => ?_, fun q => Bool.noConfusion q⟩
    refine ⟨_, rfl, C, D, rfl, rfl, hD, _, rfl, ?_⟩
    exact iteT ⟨_, rfl, rfl, rfl, d, _, rfl, e, (by show 2 ≤ sizeLine; decide), k⟩
  have call : ∀ (V0 : VK), (∀ v H', (∀ p, H' p = none → Q (.ref p) (upd H' p (.tup [.str "tree", v]))) → V0 v H') →
      spRead C [x] H V0 (WE (wAs K (.ref C) 2 (fun a cls d => tRet (tIf (tB (tCB (rIsX K cls a) (tCons (tVar 2) (tCons (tC (.ref D)) tNil)))) (tTup (tCons (tC (.str "wrong")) (tCons (tByBad C a cls d (tVar 2)) tNil))) (tTup (tCons (tC (.str "other")) (tCons (tC .non) tNil)))))
        (fun _ _ _ _ => False) { nx := fun _ H' => Q .non H', rt := Q }) [some x, some (.int way), none]) := by
    intro V0 hV
    refine ⟨x, rfl, ?_⟩
    rcases h with ⟨hn, k⟩ | ⟨cs, rfl, hl, k⟩
    · refine .inl ⟨hn, fun d H' hd s1 e1 => exc d H' (-1) e1 fun p hp => k p _ (s1.trans (same_new hp _)) upd_same⟩
    · refine .inr ⟨cs, rfl, hl, fun t v H' hrun s1 at1 => hV v H' fun p hp => k p _ (s1.trans (same_new hp _)) ?_, fun r d H' hrun hd s1 e1 => exc d H' _ e1 fun p hp => k p _ (s1.trans (same_new hp _)) ?_⟩
      · rw [hrun]
        exact ⟨v, upd_same, at1.mono (same_new hp _).tups⟩
      · rw [hrun]
        exact upd_same
  refine ⟨_, rfl, rfl, _, rfl, ?_⟩
  refine ite2 (fun _ => ?_) (fun _ => ?_)
  · exact ⟨_, rfl, call _ fun v H' k => ⟨(by show 2 ≤ sizeLine; decide), k⟩⟩
  · exact ⟨_, rfl, call _ fun v H' k => ⟨(by show 2 ≤ sizeLine; decide), k⟩⟩
end
end Eo
/-! _law_bent_text: at most nine signs more, at most one more that opens. -/
namespace Eo
open PySem PySem.Spec PyProof.Rows L2
theorem cut_to (cs : List Nat) (a : Nat) : cutS (Sx cs) none (some (a : Int)) = Sx (cs.take a) := by
  unfold cutS
  rw [HT.sIx_nat, HT.sIx_none, Sx_len, Nat.sub_zero]
  show Sx ((cs.drop 0).take (min a cs.length)) = Sx (cs.take a)
  rw [List.drop_zero]
  congr 1
  rw [← List.take_take, List.take_length]
theorem cut_from (cs : List Nat) (a : Nat) : cutS (Sx cs) (some (a : Int)) none = Sx (cs.drop a) := by
  unfold cutS
  rw [HT.sIx_nat, HT.sIx_none, Sx_len]
  show Sx ((cs.drop (min a cs.length)).take (cs.length - min a cs.length)) = Sx (cs.drop a)
  rw [List.take_of_length_le (by rw [List.length_drop]; omega)]
  congr 1
  rcases Nat.le_total a cs.length with h | h
  · rw [Nat.min_eq_left h]
  · rw [Nat.min_eq_right h, List.drop_eq_nil_of_le (Nat.le_refl _), List.drop_eq_nil_of_le h]
theorem opens_le {a b : List Nat} (h : a.Sublist b) : opens a ≤ opens b := h.count_le _
theorem opens_cut (cs : List Nat) {a b : Nat} (h : a ≤ b) : opens (cs.take a) + opens (cs.drop b) ≤ opens cs := by
  have e : opens cs = opens (cs.take a) + opens (cs.drop a) := by rw [← opens_app, List.take_append_drop]
  have l : opens (cs.drop b) ≤ opens (cs.drop a) := by
    rw [show b = a + (b - a) by omega, ← List.drop_drop]
    exact opens_le (List.drop_sublist _ _)
  omega
theorem opens_back (cs : List Nat) {a : Nat} (h : a ≤ cs.length) : opens (cs.take a) + opens (cs.drop (a - 1)) ≤ opens cs + 1 := by
  have e : opens cs = opens (cs.take a) + opens (cs.drop a) := by rw [← opens_app, List.take_append_drop]
  cases a with
  | zero =>
    show opens (cs.take 0) + opens (cs.drop 0) ≤ opens cs + 1
    omega
  | succ a =>
    have q : cs.drop a = cs[a]'(by omega) :: cs.drop (a + 1) := List.drop_eq_getElem_cons (by omega)
    have l : opens (cs.drop a) ≤ 1 + opens (cs.drop (a + 1)) := by
      rw [q]
      have : opens (cs[a]'(by omega) :: cs.drop (a + 1)) = opens [cs[a]'(by omega)] + opens (cs.drop (a + 1)) := opens_app [_] _
      have l1 : opens [cs[a]'(by omega)] ≤ 1 := List.count_le_length
      omega
    rw [Nat.add_sub_cancel]
    omega
def bentNs : List (List Nat) := [[45], [40], [41], [44], [97], [123], [65], [32], [49], [97, 98, 99, 100, 101, 102, 103, 104, 105], [40, 45, 44, 45, 41], [97, 40], [10], [126]]
def bentVs : List V := bentNs.map fun g => .str (Sx g)
theorem bent_lit : [V.str "-", .str "(", .str ")", .str ",", .str "a", .str "{", .str "A", .str " ", .str "1", .str "abcdefghi", .str "(-,-)", .str "a(", .str "\n", .str "~"] = bentVs := by decide +kernel
theorem bent_of {x : V} (h : x ∈ bentVs) : ∃ g, x = .str (Sx g) ∧ g.length ≤ 9 ∧ opens g ≤ 1 := by
  obtain ⟨g, hg, rfl⟩ := List.mem_map.mp h
  have q : ∀ g ∈ bentNs, g.length ≤ 9 ∧ opens g ≤ 1 := by decide +kernel
  exact ⟨g, rfl, q g hg⟩
def spBent : Sp := fun vs H Q _ => ∃ (d l : Addr) (cs : List Nat), vs = [.ref d, .str (Sx cs)] ∧ Deck H d l ∧ cs.length ≤ 4000 ∧
  ∀ (cs' : List Nat) (H' : Hp), Deck H' d l → Keep2 d l H H' → cs'.length ≤ cs.length + 9 → opens cs' ≤ opens cs + 1 → Q (.str (Sx cs')) H'
section
variable {P : Program} {w : World} {K : PySem.W.Frag} {mg : Str → Option Value} {base : Heap}
theorem scBent : FnScope ["_law_deck_here", "_law_text", "_law_at", "_law_way", "_law_sign"] ["_law_deck_here", "_law_text"] (defScope sBent) := ⟨rfl, rfl, rfl, by decide +kernel, rfl, by decide +kernel, by decide +kernel⟩
theorem ok_bent {f : Addr} {fd : FuncData} (F : Fun K "_law_bent_text" "_law_bent_text" sBent f fd) (TX : Txt mg) (A1 : Cal P w K mg base 1 "_law_draw" spDraw) (A2 : Cal P w K mg base 2 "_law_pick" spPick) : FnOk P w K mg base CX0 3 f fd ["_law_deck_here", "_law_text"] spBent := by
  refine F.ok scBent (fun vs H Q E h => ?_) (fun cdv A outer s H vs Q E hr h => ?_)
  · obtain ⟨d, l, cs, rfl, _⟩ := h
    rfl
  obtain ⟨d, l, cs, rfl, D, hN, kk⟩ := h
  refine ⟨_, pss_cons (ps_par (i := 2) (j := 3) rfl scBent.nd rfl rfl (by decide) rfl rfl (pa_cons (pe_c A1 hr (pa_cons (pv 0) (pa_cons (pe_op op_add (pe_callB call_len_str rfl TX.len PySem.boot_len (pa_cons (pv 1) pa_nil)) pe_int) pa_nil))) (pa_cons (pe_c A1 hr (pa_cons (pv 0) (pa_cons pe_int pa_nil))) pa_nil)) rfl)
    (pss_cons (ps_set (i := 4) scBent.nd rfl (Or.inl rfl) (pe_c A2 hr (pa_cons (pv 0) (pa_cons (pe_lst (pa_cons pe_str (pa_cons pe_str (pa_cons pe_str (pa_cons pe_str (pa_cons pe_str (pa_cons pe_str (pa_cons pe_str (pa_cons pe_str (pa_cons pe_str (pa_cons pe_str (pa_cons pe_str (pa_cons pe_str (pa_cons pe_str (pa_cons pe_str pa_nil))))))))))))))) pa_nil))))
    (pss_cons (ps_if (pt_cmpR op_eq (pv 3) pe_int (nomark _)) (pss_one (ps_ret (pe_op op_add_str (pe_slice sl_str (pv 1) po_none (po_some (pv 2))) (pe_slice sl_str (pv 1) (po_some (pe_op op_add (pv 2) pe_int)) po_none)))) pss_nil)
    (pss_cons (ps_if (pt_cmpR op_eq (pv 3) pe_int (nomark _)) (pss_one (ps_ret (pe_op op_add_str (pe_op op_add_str (pe_slice sl_str (pv 1) po_none (po_some (pv 2))) (pv 4)) (pe_slice sl_str (pv 1) (po_some (pe_op op_add (pv 2) pe_int)) po_none)))) pss_nil)
    (pss_cons (ps_if (pt_cmpR op_eq (pv 3) pe_int (nomark _)) (pss_one (ps_ret (pe_slice sl_str (pv 1) po_none (po_some (pv 2))))) pss_nil)
    (pss_cons (ps_if (pt_cmpR op_eq (pv 3) pe_int (nomark _)) (pss_one (ps_ret (pe_op op_add_str (pe_slice sl_str (pv 1) po_none (po_some (pv 2))) (pe_slice sl_str (pv 1) (po_some (pe_callB (call_max2 rfl) rfl TX.max boot_max (pa_cons pe_int (pa_cons (pe_op op_sub (pv 2) pe_int) pa_nil)))) po_none)))) pss_nil)
    (pss_one (ps_ret (pe_op op_add_str (pe_op op_add_str (pe_slice sl_str (pv 1) po_none (po_some (pv 2))) (pv 4)) (pe_slice sl_str (pv 1) (po_some (pv 2)) po_none))))))))), ?_⟩
  have hz : (Sx cs).length ≤ sizeLine := by rw [Sx_len]; exact size_le (by omega)
  have e1 : ((Sx cs).length : Int) + 1 = ((cs.length + 1 : Nat) : Int) := by rw [Sx_len]; omega
  refine ⟨_, rfl, _, rfl, _, rfl, hz, _, _, rfl, rfl, d, l, _, rfl, D, by omega, by rw [e1]; omega, fun r H1 r0 r1 D1 kp1 => ?_⟩
  rw [e1] at r1
  obtain ⟨a, ea⟩ : ∃ a : Nat, r = (a : Int) := ⟨r.toNat, by omega⟩
  subst ea
  have ha : a ≤ cs.length := by omega
  refine ⟨_, rfl, d, l, _, rfl, D1, by decide, by decide, fun way H2 _ _ D2 kp2 => ⟨_, _, rfl, ?_⟩⟩
  have e2 : (a : Int) + 1 = ((a + 1 : Nat) : Int) := by omega
  have e3 : (if (a : Int) - 1 > 0 then (a : Int) - 1 else 0 : Int) = ((a - 1 : Nat) : Int) := by
    split
    · omega
    · omega
  have lt : (cs.take a).length = a := by rw [List.length_take]; omega
  have kp02 := kp1.trans kp2
  refine ⟨_, rfl, (by show 14 ≤ sizeLine; decide), fun b hb => ?_⟩
  rw [bent_lit]
  have s3 := same_new hb (.lst bentVs)
  have D3 := D2.keeps s3
  have hb3 : upd H2 b (.lst bentVs) b = some (.lst bentVs) := upd_same
  have nbl : b ≠ l := by
    obtain ⟨_, _, _, _, g2, _⟩ := id D2.ex
    exact (ne_of_none g2 hb).symm
  refine ⟨d, l, b, bentVs, rfl, D3, hb3, nbl, by decide, by decide, fun x H4 hx D4 kp4 => ?_⟩
  have kp04 := (kp02.trans s3.keep2).trans kp4
  obtain ⟨g, rfl, hg1, hg2⟩ := bent_of hx
  refine ⟨_, rfl, rfl, _, rfl, ?_⟩
  refine ite2 (fun _ => ?_) (fun _ => ?_)
  · refine ⟨_, rfl, _, rfl, _, rfl, _, rfl, hz, _, rfl, _, rfl, _, _, rfl, rfl, _, rfl, _, rfl, hz, _, _, rfl, rfl, ?_, ?_⟩
    · rw [cut_to, e2, cut_from, Sx_len, Sx_len, lt, List.length_drop]
      exact size_le (by omega)
    · rw [cut_to, e2, cut_from, Sx_app]
      refine kk _ H4 D4 kp04 ?_ ?_
      · rw [List.length_append, lt, List.length_drop]
        omega
      · rw [opens_app]
        have := opens_cut cs (show a ≤ a + 1 by omega)
        omega
  refine ⟨_, rfl, rfl, _, rfl, ?_⟩
  refine ite2 (fun _ => ?_) (fun _ => ?_)
  · refine ⟨_, rfl, _, rfl, _, rfl, _, rfl, hz, _, rfl, _, _, rfl, rfl, ?_, _, rfl, _, rfl, _, _, rfl, rfl, _, rfl, _, rfl, hz, _, _, rfl, rfl, ?_, ?_⟩
    · rw [cut_to, Sx_len, Sx_len, lt]
      exact size_le (by omega)
    · rw [cut_to, e2, cut_from, Sx_app, Sx_len, Sx_len, List.length_append, lt, List.length_drop]
      exact size_le (by omega)
    · rw [cut_to, e2, cut_from, Sx_app, Sx_app]
      refine kk _ H4 D4 kp04 ?_ ?_
      · rw [List.length_append, List.length_append, lt, List.length_drop]
        omega
      · rw [opens_app, opens_app]
        have := opens_cut cs (show a ≤ a + 1 by omega)
        omega
  refine ⟨_, rfl, rfl, _, rfl, ?_⟩
  refine ite2 (fun _ => ?_) (fun _ => ?_)
  · refine ⟨_, rfl, _, rfl, _, rfl, _, rfl, hz, ?_⟩
    show Q (.str (cutS (Sx cs) none (some (a : Int)))) H4
    rw [cut_to]
    refine kk _ H4 D4 kp04 ?_ ?_
    · rw [lt]
      omega
    · have := opens_le (List.take_sublist a cs)
      omega
  refine ⟨_, rfl, rfl, _, rfl, ?_⟩
  refine ite2 (fun _ => ?_) (fun _ => ?_)
  · refine ⟨_, rfl, _, rfl, _, rfl, _, rfl, hz, _, rfl, _, rfl, _, _, rfl, rfl, _, _, rfl, _, rfl, _, rfl, hz, _, _, rfl, rfl, ?_, ?_⟩
    · rw [cut_to, e3, cut_from, Sx_len, Sx_len, lt, List.length_drop]
      exact size_le (by omega)
    · rw [cut_to, e3, cut_from, Sx_app]
      refine kk _ H4 D4 kp04 ?_ ?_
      · rw [List.length_append, lt, List.length_drop]
        omega
      · rw [opens_app]
        exact opens_back cs ha
  · refine ⟨_, rfl, _, rfl, _, rfl, _, rfl, hz, _, rfl, _, _, rfl, rfl, ?_, _, rfl, _, rfl, _, rfl, _, rfl, hz, _, _, rfl, rfl, ?_, ?_⟩
    · rw [cut_to, Sx_len, Sx_len, lt]
      exact size_le (by omega)
    · rw [cut_to, cut_from, Sx_app, Sx_len, Sx_len, List.length_append, lt, List.length_drop]
      exact size_le (by omega)
    · rw [cut_to, cut_from, Sx_app, Sx_app]
      refine kk _ H4 D4 kp04 ?_ ?_
      · rw [List.length_append, List.length_append, lt, List.length_drop]
        omega
      · rw [opens_app, opens_app]
        have := opens_cut cs (Nat.le_refl a)
        omega
end
end Eo
/-! What repr says of the law's pairs; small facts for the law's own body. -/
namespace Eo
open PySem PySem.Spec PyProof.Rows L2
theorem opens_tag {g : List Nat} (h : ∀ c ∈ g, small c = true) : opens g = 0 := by
  refine List.count_eq_zero.mpr fun q => ?_
  have := h 40 q
  exact absurd this (by decide)
theorem opens_text : ∀ t : T, t.ok → opens t.text ≤ t.nodes
  | .nil, _ => by decide
  | .node g l r, h => by
    have h1 := opens_text l h.2.1
    have h2 := opens_text r h.2.2
    have h3 := opens_tag h.1.all
    by_cases e : (l.isNil && r.isNil) = true
    · rw [text_node_leaf e, h3]
      exact Nat.zero_le _
    · rw [text_node e]
      have e1 : g ++ 40 :: (l.text ++ 44 :: (r.text ++ [41])) = g ++ ([40] ++ (l.text ++ ([44] ++ (r.text ++ [41])))) := rfl
      rw [e1, opens_app, opens_app, opens_app, opens_app, opens_app, h3]
      have z1 : opens [40] = 1 := by decide
      have z2 : opens [44] = 0 := by decide
      have z3 : opens [41] = 0 := by decide
      simp only [T.nodes]
      omega
theorem text_signs : ∀ t : T, t.ok → ∀ c ∈ t.text, c < 200
  | .nil, _, c, hc => by
    rw [List.mem_singleton.mp hc]
    decide
  | .node g l r, h, c, hc => by
    have hg : ∀ c ∈ g, c < 200 := fun c q => by
      have q := h.1.all c q
      simp only [small, Bool.and_eq_true, decide_eq_true_eq] at q
      omega
    by_cases e : (l.isNil && r.isNil) = true
    · rw [text_node_leaf e] at hc
      exact hg c hc
    · rw [text_node e] at hc
      rcases List.mem_append.mp hc with q | q
      · exact hg c q
      rcases List.mem_cons.mp q with q | q
      · rw [q]
        decide
      rcases List.mem_append.mp q with q | q
      · exact text_signs l h.2.1 c q
      rcases List.mem_cons.mp q with q | q
      · rw [q]
        decide
      rcases List.mem_append.mp q with q | q
      · exact text_signs r h.2.2 c q
      · rw [List.mem_singleton.mp q]
        decide
/-- what repr asks of data -/
structure Shows (d : PyData) : Prop where
  show_ : d.showable = true
  dict : d.hasDict = false
  deep : d.depth ≤ 100
  long : d.shown.length ≤ 100000
theorem shows_text {t : T} (h : t.ok) (hn : t.text.length ≤ 1000) : Shows (.str (Sx t.text)) := by
  refine ⟨rfl, rfl, by show 0 ≤ 100; decide, ?_⟩
  have q := StrLaws.reprText_len (Sx t.text) (fun c hc => Nat.lt_trans (text_signs t h c (by simpa using hc)) (by decide))
  have l : (Sx t.text).length = t.text.length := Sx_len _
  rw [l] at q
  simp only [PyData.shown]
  omega
theorem shows_data {t : T} (h : t.ok) (hn : t.text.length ≤ 1000) (hd : t.depth ≤ 60) : Shows t.data := by
  refine ⟨data_showable t, data_hasDict t, Nat.le_trans (data_depth t) (by omega), ?_⟩
  have := data_shown t h
  omega
theorem shows_two {a b : PyData} (h1 : Shows a) (h2 : Shows b) (d1 : a.depth ≤ 60) (d2 : b.depth ≤ 60) (l1 : a.shown.length ≤ 40000) (l2 : b.shown.length ≤ 40000) : Shows (.tuple [a, b]) := by
  refine ⟨?_, ?_, ?_, ?_⟩
  · simp only [PyData.showable, PyData.showableAll, h1.show_, h2.show_, Bool.and_self]
  · simp only [PyData.hasDict, PyData.hasDictAll, h1.dict, h2.dict, Bool.or_self]
  · simp only [PyData.depth, PyData.depthAll]
    omega
  · have := shown_two a b
    omega
theorem shows_word : Shows (.str "tree") ∧ Shows (.str "wrong") := ⟨⟨rfl, rfl, by decide +kernel, by decide +kernel⟩, ⟨rfl, rfl, by decide +kernel, by decide +kernel⟩⟩
theorem word_len : (PyData.str "tree").shown.length ≤ 40000 ∧ (PyData.str "wrong").shown.length ≤ 40000 := by decide +kernel
theorem int_showable {i : Int} (h : i.natAbs < 10 ^ 6) : (PyData.int i).showable = true := by
  simp only [PyData.showable, decide_eq_true_eq]
  by_cases e : i.natAbs = 0
  · rw [e]
    decide
  · have : i.natAbs.log2 < 20 := (Nat.log2_lt e).mpr (Nat.lt_trans h (by decide))
    omega
theorem shows_int {i : Int} (h : i.natAbs < 10 ^ 6) : Shows (.int i) := ⟨int_showable h, rfl, by show 0 ≤ 100; decide, by have := shown_int h; omega⟩
theorem text_shown {t : T} (h : t.ok) (hn : t.text.length ≤ 1000) : (PyData.str (Sx t.text)).shown.length ≤ 40000 := by
  have q := StrLaws.reprText_len (Sx t.text) (fun c hc => Nat.lt_trans (text_signs t h c (by simpa using hc)) (by decide))
  have l : (Sx t.text).length = t.text.length := Sx_len _
  rw [l] at q
  simp only [PyData.shown]
  omega
/-! ### the pairs -/
theorem dp_two {K : PySem.W.Frag} {H : Hp} {p : Addr} {x y : V} {a b : PyData} (h : H p = some (.tup [x, y])) (h1 : Dp K H x a) (h2 : Dp K H y b) : Dp K H (.ref p) (.tuple [a, b]) := .tup (SqT.of h) (.cons h1 (.cons h2 .nil))
def outData (cs : List Nat) : Out → PyData
  | .bad r => .tuple [.str "wrong", .int ((cs.length - r.length : Nat) : Int)]
  | .ok t => .tuple [.str "tree", t.data]
theorem ToldAt.dp {K : PySem.W.Frag} {cs : List Nat} {H : Hp} {p : Addr} {o : Out} (h : ToldAt cs H p o) : Dp K H (.ref p) (outData cs o) := by
  cases o with
  | bad r => exact dp_two h (.str _) (.int _)
  | ok t =>
    obtain ⟨v, h1, at1⟩ := h
    exact dp_two h1 (.str _) at1.dp
theorem ToldAt.mono {cs : List Nat} {H H' : Hp} {p : Addr} {o : Out} (s : Same H H') (h : ToldAt cs H p o) : ToldAt cs H' p o := by
  cases o with
  | bad r => exact s _ _ h
  | ok t =>
    obtain ⟨v, h1, at1⟩ := h
    exact ⟨v, s _ _ h1, at1.mono s.tups⟩
theorem shows_tree {t : T} (h : t.ok) (hn : t.text.length ≤ 1000) (hd : t.depth ≤ 60) : Shows (.tuple [.str "tree", t.data]) :=
  shows_two shows_word.1 (shows_data h hn hd) (by show 0 ≤ 60; decide) (Nat.le_trans (data_depth t) hd) word_len.1 (by have := data_shown t h; omega)
theorem shows_out {cs : List Nat} (hN : cs.length ≤ 1000) (ho : opens cs < 50) : Shows (outData cs (run (.need false []) cs)) := by
  have bad : ∀ r : List Nat, Shows (outData cs (.bad r)) := fun r =>
    shows_two shows_word.2 (shows_int (by omega)) (by show 0 ≤ 60; decide) (by show 0 ≤ 60; decide) word_len.2 (by have := shown_int (i := ((cs.length - r.length : Nat) : Int)) (by omega); omega)
  obtain ⟨o, hro⟩ := rd_ends 50 false cs ho
  cases o with
  | bad x =>
    rw [run_whole (show whole 50 cs = some (.bad x) by unfold whole; rw [hro])]
    exact bad x
  | got t x =>
    obtain ⟨e1, ok1, d1, _⟩ := rd_got 50 false cs t x hro
    rw [run_whole (show whole 50 cs = some (if x = [] then .ok t else .bad x) by unfold whole; rw [hro])]
    by_cases e : x = []
    · rw [if_pos e]
      refine shows_tree ok1 ?_ (by omega)
      have q := congrArg List.length e1
      rw [List.length_append] at q
      omega
    · rw [if_neg e]
      exact bad x
/-! ### things -/
theorem NonStr.keep2 {d l : Addr} {H H' : Hp} {v : V} (D : Deck H d l) (D' : Deck H' d l) (k : Keep2 d l H H') (h : NonStr H v) : NonStr H' v := by
  obtain ⟨_, _, _, e1, e2, _⟩ := D.ex
  obtain ⟨_, _, _, f1, f2, _⟩ := D'.ex
  cases h with
  | non => exact .non
  | bl b => exact .bl b
  | int i => exact .int i
  | @lst a xs e =>
    by_cases q : a = l
    · subst q
      exact .lst f2
    · exact .lst (k _ _ e (ne_of e e1 fun z => by cases z) q)
  | @tup a xs e => exact .tup (k _ _ e (ne_of e e1 fun z => by cases z) (ne_of e e2 fun z => by cases z))
  | @dK a kvs e =>
    by_cases q : a = d
    · subst q
      exact .dK f1
    · exact .dK (k _ _ e q (ne_of e e2 fun z => by cases z))
theorem AnyV.keep2 {d l : Addr} {H H' : Hp} {v : V} (D : Deck H d l) (D' : Deck H' d l) (k : Keep2 d l H H') (h : AnyV H v) : AnyV H' v := h.imp (NonStr.keep2 D D' k) id
theorem At.any {H : Hp} {v : V} {t : T} (h : At H v t) : AnyV H v := by
  cases h with
  | nil => exact .inl .non
  | node e _ _ => exact .inl (.tup e)
theorem ite_same {s : Str} {A B : Prop} (h : B) : if (!decide (V.str s = V.str s)) = true then A else B := by
  rw [decide_eq_true rfl]
  exact iteF h
end Eo
/-! The law's own body. -/
namespace Eo
open PySem PySem.Spec PyProof.Rows L2
/-- a def of one parameter that may be called by its place and by its name -/
structure Kw (P : Program) (w : World) (K : PySem.W.Frag) (mg : Str → Option Value) (base : Heap) (CX : CXT) (k : Nat) (nm x : Str) (sp : Sp) : Prop where
  ex : ∃ (f : Addr) (fd : FuncData), FnOk P w K mg base CX k f fd [x] sp ∧ mg nm = some (.ref f) ∧ PySem.W.keepIn K (.ref f) = true ∧ Binds K fd [x] [] ∧ KBinds K fd [x] [x] gApp gAppV
section
variable {X : Cx} {CX : CXT} {k j : Nat} {nm x : Str} {sp : Sp} {p pos : Pos} {e : Expr} {es : List Expr} {t tk : TA} {te : TE} {kws : List Keyword}
theorem pe_k (c : Kw X.prog X.w X.K X.mg X.base CX k nm x sp) (hr : Room j X.A) (hx : Passes CX X E0) (ha : PA X (e :: es) t) (hk : k ≤ j := by first | decide | omega) (hg : Gl X nm := by rfl)
    (hdb : (nm == ("__debug__" : Str)) = false := by decide) (he : starEach (e :: es) X.env = (false, eval e X.env) :: starEach es X.env := by rfl) (hpl : (backTo pos (starEach es X.env)).any (·.1) = false := by rfl) :
    PE X (.Call (.Name nm p) (e :: es) [] pos) (tCall sp [] E0 t) := by
  obtain ⟨f, fd, F, hm, kp, b, kb⟩ := c.ex
  exact pe_call F (hr.mono hk) hg hm kp b .nil hx ha hdb he hpl
theorem pe_kk (c : Kw X.prog X.w X.K X.mg X.base CX k nm x sp) (hr : Room j X.A) (hx : ∀ σ : L2.St, PassesAt CX X σ E0) (hkw : PK X kws tk) (hk : k ≤ j := by first | decide | omega) (hg : Gl X nm := by rfl)
    (hall : (backToKw pos (keywordEach kws X.env)).all (·.1.isSome) = true := by rfl) (hks : (backToKw pos (keywordEach kws X.env)).filterMap (·.1) = [x] := by rfl)
    (hdb : (nm == ("__debug__" : Str)) = false := by decide) (hpl : ((backTo pos (starEach [] X.env)).any (·.1) || (backToKw pos (keywordEach kws X.env)).any (·.1.isNone)) = false := by rfl) :
    PE X (.Call (.Name nm p) [] kws pos) (tCallO sp gAppV (fun _ => E0) tk) := by
  obtain ⟨f, fd, F, hm, kp, b, kb⟩ := c.ex
  exact pe_callO (E := fun _ => E0) F (hr.mono hk) hg hm kp kb hx hkw hall hks hdb hpl
theorem pe_rep (hg : X.A.guards = some []) (hu : X.A.units + 150 < cLine) (hm : X.mg "repr" = none) (he : PE X e te) (hgl : Gl X "repr" := by rfl) (h1 : starEach (e :: []) X.env = (false, eval e X.env) :: starEach [] X.env := by rfl) (h2 : (backTo pos (starEach [] X.env)).any (·.1) = false := by rfl) :
    PE X (.Call (.Name "repr" p) [e] [] pos) (tCB (rRep X.K) (tCons te tNil)) :=
  pe_callB (call_rep hg hu) hgl hm boot_repr (pa_cons he pa_nil (hs := h1)) (he := h1) (hpl := h2)
end
/-- what the law's body calls -/
structure Parts (P : Program) (w : World) (K : PySem.W.Frag) (mg : Str → Option Value) (base : Heap) (C : Addr) : Prop where
  tx : Txt mg
  deck : Cal P w K mg base 1 "_law_deck" (spDeck K)
  draw : Cal P w K mg base 1 "_law_draw" spDraw
  pick : Cal P w K mg base 2 "_law_pick" spPick
  any : Cal P w K mg base 5 "_law_any" (spAny 3)
  places : Cal P w K mg base 50 "_law_places" (spPlaces 50)
  part : Cal P w K mg base 1 "_law_part" spSubtree
  drawn : Cal P w K mg base 11 "_law_drawn_tree" (spDrawn 9)
  chain : Cal P w K mg base 3 "_law_chain" spChain
  treeText : Cal P w K mg base 50 "_law_tree_text" (spText 50)
  treeOf : Cal P w K mg base 51 "_law_tree_of" spTreeOf
  told : Cal P w K mg base 5 "_law_told" spTold
  bent : Cal P w K mg base 3 "_law_bent_text" spBent
  partAt : Cal P w K mg base 5 "part_at" spPartAt
  written : Kw P w K mg base CX0 51 "tree_written" "tree" spWritten
  read : Kw P w K mg base (L2.CX P w) 4 "tree_read" "text" (spRead C)
def spLaw (K : PySem.W.Frag) : Sp := fun vs H Q _ => ∃ (a : Addr) (ns : List Int), vs = [.ref a] ∧ SqL K H a (ns.map V.int) ∧ ∀ H', Q (.bl true) H'
theorem scLaw : FnScope ["_law_script", "_law_deck_here", "_law_turn", "_law_tree", "_law_text", "_law_place", "_law_again", "_law_near", "_law_more", "_law_due", "_law_thing"] ["_law_script"] (defScope sLaw) := ⟨rfl, rfl, rfl, by decide +kernel, rfl, by decide +kernel, by decide +kernel⟩
theorem ok_law {P : Program} {w : World} {K : PySem.W.Frag} {mg : Str → Option Value} {base : Heap} {C f : Addr} {fd : FuncData} {A : Around} (F : Fun K "law" "law" sLaw f fd) (Z : Parts P w K mg base C) (hrA : Room (51 + 1) A) (hgA : A.guards = some []) :
    OnceOk P w K mg base A f fd ["_law_script"] (spLaw K) := by
  refine once F scLaw (fun vs H Q h => ?_) hrA hgA (fun cdv s H vs Q hr hg h => ?_)
  · obtain ⟨a, ns, rfl, _⟩ := h
    rfl
  obtain ⟨a, ns, rfl, hl, kk⟩ := h
  have hu2 : (A.deeper (envOfC "law" (defScope sLaw) s.heap.objs.size f cdv)).units + 150 < cLine := by have := hr.un; omega
  have TX := Z.tx
  refine ⟨_, pss_cons (ps_set (i := 1) scLaw.nd rfl (Or.inl rfl) (pe_c Z.deck hr (pa_cons (pv 0) (pa_cons pe_int pa_nil))))
    (pss_cons (ps_for PassesOwn.never rfl (pi_range1 rfl TX.range (pa_cons pe_int pa_nil)) (pg_name (i := 2) scLaw.nd rfl (Or.inl rfl))
      (C8.pss_cut (ps_set (i := 3) scLaw.nd rfl (Or.inl rfl) (pe_ifExp (pt_cmpR op_gt (pv 2) pe_int (nomark _)) (pe_c Z.drawn hr (pa_cons (pv 1) (pa_cons (pe_disp (pps_cons pe_str pe_int pps_nil) rfl rfl (fun z => by cases z) (by decide)) (pa_cons pe_int pa_nil)))) (pe_c Z.chain hr (pa_cons (pv 1) (pa_cons (pe_c Z.draw hr (pa_cons (pv 1) (pa_cons pe_int pa_nil))) pa_nil)))))
      (pss_cons (ps_set (i := 4) scLaw.nd rfl (Or.inl rfl) (pe_c Z.treeText hr (pa_cons (pv 3) pa_nil)))
      (C8.pss_cut (ps_if (PW.pt (pw_or (pt_cmpR op_ne (pe_rep hg hu2 TX.repr (pe_tup (pa_cons (pe_k Z.written hr pass0 (pa_cons (pv 3) pa_nil)) (pa_cons (pe_kk Z.written hr at0 (pk_cons (pv 3) pk_nil)) pa_nil)))) (pe_rep hg hu2 TX.repr (pe_tup (pa_cons (pv 4) (pa_cons (pv 4) pa_nil)))) (nomark _))
          (pw_or1 (pt_cmpR op_ne (pe_rep hg hu2 TX.repr (pe_c Z.treeOf hr (pa_cons (pv 4) pa_nil))) (pe_rep hg hu2 TX.repr (pe_tup (pa_cons pe_str (pa_cons (pv 3) pa_nil)))) (nomark _))))) (pss_one (ps_ret pe_bl)) pss_nil)
      (C8.pss_cut (ps_if (pt_cmpR op_ne (pe_rep hg hu2 TX.repr (pe_tup (pa_cons (pe_k Z.read hr passL (pa_cons (pv 4) pa_nil)) (pa_cons (pe_kk Z.read hr atL (pk_cons (pv 4) pk_nil)) pa_nil)))) (pe_rep hg hu2 TX.repr (pe_tup (pa_cons (pv 3) (pa_cons (pv 3) pa_nil)))) (nomark _)) (pss_one (ps_ret pe_bl)) pss_nil)
      (C8.pss_cut (ps_set (i := 5) scLaw.nd rfl (Or.inl rfl) (pe_c Z.pick hr (pa_cons (pv 1) (pa_cons (pe_c Z.places hr (pa_cons (pv 3) (pa_cons pe_str pa_nil))) pa_nil))))
      (C8.pss_cut (ps_if (pt_cmpR op_ne (pe_rep hg hu2 TX.repr (pe_k Z.written hr pass0 (pa_cons (pe_c Z.partAt hr (pa_cons (pv 3) (pa_cons (pv 5) pa_nil))) pa_nil))) (pe_rep hg hu2 TX.repr (pe_c Z.treeText hr (pa_cons (pe_c Z.part hr (pa_cons (pv 3) (pa_cons (pv 5) pa_nil))) pa_nil))) (nomark _)) (pss_one (ps_ret pe_bl)) pss_nil)
      (C8.pss_cut (ps_for PassesOwn.never rfl (pi_range1 rfl TX.range (pa_cons pe_int pa_nil)) (pg_name (i := 6) scLaw.nd rfl (Or.inl rfl))
        (pss_cons (ps_set (i := 7) scLaw.nd rfl (Or.inl rfl) (pv 4))
        (C8.pss_cut (ps_for PassesOwn.never rfl (pi_range1 rfl TX.range (pa_cons (pe_c Z.pick hr (pa_cons (pv 1) (pa_cons (pe_lst (pa_cons pe_int (pa_cons pe_int (pa_cons pe_int (pa_cons pe_int pa_nil))))) pa_nil))) pa_nil)) (pg_name (i := 8) scLaw.nd rfl (Or.inl rfl))
          (pss_one (ps_set (i := 7) scLaw.nd rfl (Or.inl rfl) (pe_c Z.bent hr (pa_cons (pv 1) (pa_cons (pv 7) pa_nil))))))
        (pss_cons (ps_set (i := 9) scLaw.nd rfl (Or.inl rfl) (pe_c Z.treeOf hr (pa_cons (pv 7) pa_nil)))
        (pss_one (ps_if (pt_cmpR op_ne (pe_rep hg hu2 TX.repr (pe_c Z.told hr (pa_cons (pv 7) (pa_cons (pe_op op_mod (pe_callTy call_int1 rfl TX.int boot_int (pa_cons (pv 6) pa_nil)) pe_int) pa_nil)))) (pe_rep hg hu2 TX.repr (pv 9)) (nomark _)) (pss_one (ps_ret pe_bl)) pss_nil))))))
      (C8.pss_cut (ps_set (i := 10) scLaw.nd rfl (Or.inl rfl) (pe_c Z.pick hr (pa_cons (pv 1) (pa_cons (pe_lst (pa_cons pe_non (pa_cons pe_int (pa_cons pe_bl (pa_cons (pe_lst (pa_cons (pv 4) pa_nil)) (pa_cons (pe_tup pa_nil) (pa_cons (pv 3) (pa_cons pe_dnewK (pa_cons (pe_c Z.any hr (pa_cons (pv 1) (pa_cons pe_int pa_nil))) pa_nil))))))))) pa_nil))))
      (pss_one (ps_if (PW.pt (pw_and (pt_not (pt_val (pe_callB call_isi rfl TX.isi boot_isinstance (pa_cons (pv 10) (pa_cons (pe_bltn (v := .ty "str") rfl TX.str boot_str rfl) pa_nil)))))
          (pw_and1 (pt_cmpR op_ne (pe_rep hg hu2 TX.repr (pe_c Z.told hr (pa_cons (pv 10) (pa_cons pe_int pa_nil)))) (pe_rep hg hu2 TX.repr (pe_tup (pa_cons pe_str (pa_cons (pe_un un_neg pe_int) pa_nil)))) (nomark _))))) (pss_one (ps_ret pe_bl)) pss_nil)))))))))))
    (pss_one (ps_ret pe_bl))), ?_⟩
  have big : 100000 ≤ sizeLine := by decide
  have two : 2 ≤ sizeLine := by decide
  have zero : 0 ≤ sizeLine := by decide
  refine ⟨_, rfl, a, ns, 14406003, rfl, hl, by decide, by decide, fun d l H1 D1 s1 => ?_⟩
  refine ⟨4, rfl, by decide, by decide, ?_⟩
  refine for_range (n := 4) (fun i σ H' => (∃ c2 c3 c4 c5 c6 c7 c8 c9 c10 : Option V, σ = [some (.ref a), some (.ref d), c2, c3, c4, c5, c6, c7, c8, c9, c10]) ∧ Deck H' d l) ⟨⟨none, none, none, none, none, none, none, none, none, rfl⟩, D1⟩ ?_ (fun σ H' _ => kk H')
  rintro i σ H2 hi ⟨⟨c2, c3, c4, c5, c6, c7, c8, c9, c10, rfl⟩, D2⟩
  refine ⟨fun σ' H' => ∃ (v : V) (t : T) (c2 c4 c5 c6 c7 c8 c9 c10 : Option V), σ' = [some (.ref a), some (.ref d), c2, some v, c4, c5, c6, c7, c8, c9, c10] ∧ Deck H' d l ∧ At H' v t ∧ t.ok ∧ t.nodes ≤ 36, ?_, ?_⟩
  · refine ⟨_, rfl, _, _, rfl, rfl, _, rfl, ?_⟩
    refine ite2 (fun _ => ?_) (fun _ => ?_)
    · refine ⟨_, rfl, fun b hb => ⟨upd_same, [(.inr "left", .int 24)], rfl, (by show 1 ≤ 15; decide), ?_⟩⟩
      rw [upd_upd]
      have s3 := same_new hb (boxK 24)
      obtain ⟨_, _, _, e1, e2, _⟩ := id D2.ex
      exact ⟨d, b, l, 8, 24, rfl, D2.keeps s3, upd_same, (ne_of_none e1 hb).symm, by decide, fun v t H' m' D' _ hm' _ at1 ok1 _ => ⟨v, t, _, _, _, _, _, _, _, _, rfl, D', at1, ok1, by omega⟩⟩
    · refine ⟨_, rfl, _, rfl, d, l, _, rfl, D2, by decide, by decide, fun r H3 r0 r1 D3 kp3 => ?_⟩
      exact ⟨d, l, r.toNat, by rw [show ((r.toNat : Nat) : Int) = r by omega]; rfl, D3, by omega, fun v t H' D' _ at1 ok1 n1 => ⟨v, t, _, _, _, _, _, _, _, _, rfl, D', at1, ok1, by omega⟩⟩
  rintro σ H3 ⟨v, t, c2, c4, c5, c6, c7, c8, c9, c10, rfl, D3, at3, ok3, n3⟩
  have hd : t.depth ≤ 36 := Nat.le_trans (depth_le_nodes t) n3
  have hlen : t.text.length ≤ 433 := by
    have := text_le t ok3
    omega
  have hop : opens t.text ≤ 36 := Nat.le_trans (opens_text t ok3) n3
  have hrun : run (.need false []) t.text = .ok t := run_whole (n := 50) (whole_text ok3 (by omega))
  have shT := shows_text ok3 (by omega)
  have shD := shows_data ok3 (by omega) (by omega)
  have lenD : t.data.shown.length ≤ 40000 := by
    have := data_shown t ok3
    omega
  have depD : t.data.depth ≤ 60 := Nat.le_trans (data_depth t) (by omega)
  refine ⟨_, rfl, v, t, rfl, at3, by omega, by omega, ?_⟩
  refine ⟨fun σ' H' => ∃ (c2 c5 c6 c7 c8 c9 c10 : Option V), σ' = [some (.ref a), some (.ref d), c2, some v, some (.str (Sx t.text)), c5, c6, c7, c8, c9, c10] ∧ Deck H' d l ∧ At H' v t, ?_, ?_⟩
  · -- tree_written twice
    refine ⟨_, rfl, v, t, rfl, at3, ok3, by omega, by omega, fun H4 s4 => ?_⟩
    refine ⟨_, rfl, v, t, rfl, at3.mono s4.tups, ok3, by omega, by omega, fun H5 s5 => ?_⟩
    refine ⟨two, fun q1 hq1 => ?_⟩
    have t1 := same_new hq1 (.tup [.str (Sx t.text), .str (Sx t.text)])
    have g1 : upd H5 q1 (.tup [.str (Sx t.text), .str (Sx t.text)]) q1 = some (.tup [.str (Sx t.text), .str (Sx t.text)]) := upd_same
    generalize upd H5 q1 (.tup [.str (Sx t.text), .str (Sx t.text)]) = H6 at t1 g1 ⊢
    have sh2 := shows_two shT shT (by show 0 ≤ 60; decide) (by show 0 ≤ 60; decide) (text_shown ok3 (by omega)) (text_shown ok3 (by omega))
    refine ⟨_, _, rfl, dp_two g1 (.str _) (.str _), sh2.show_, sh2.dict, sh2.deep, Nat.le_trans sh2.long big, ⟨Str.empty, .inr ⟨_, rfl⟩⟩, ?_⟩
    refine ⟨_, rfl, _, rfl, two, fun q2 hq2 => ?_⟩
    have t2 := same_new hq2 (.tup [.str (Sx t.text), .str (Sx t.text)])
    have g2 : upd H6 q2 (.tup [.str (Sx t.text), .str (Sx t.text)]) q2 = some (.tup [.str (Sx t.text), .str (Sx t.text)]) := upd_same
    generalize upd H6 q2 (.tup [.str (Sx t.text), .str (Sx t.text)]) = H7 at t2 g2 ⊢
    refine ⟨_, _, rfl, dp_two g2 (.str _) (.str _), sh2.show_, sh2.dict, sh2.deep, Nat.le_trans sh2.long big, ⟨Str.empty, .inr ⟨_, rfl⟩⟩, ?_⟩
    refine ⟨rfl, _, rfl, ite_same ?_⟩
    have s37 := ((s4.trans s5).trans t1).trans t2
    -- the reader by recursion
    refine ⟨_, rfl, t.text, rfl, by omega, by omega, fun p H8 s8 told => ?_⟩
    rw [hrun] at told
    have sh3 := shows_tree ok3 (by omega) (by omega)
    refine ⟨_, _, rfl, told.dp, sh3.show_, sh3.dict, sh3.deep, Nat.le_trans sh3.long big, ⟨Str.empty, .inr ⟨_, rfl⟩⟩, ?_⟩
    refine ⟨_, rfl, two, fun q3 hq3 => ?_⟩
    have s38 := (s37.trans s8).trans (same_new hq3 (.tup [.str "tree", v]))
    have g3 : upd H8 q3 (.tup [.str "tree", v]) q3 = some (.tup [.str "tree", v]) := upd_same
    generalize upd H8 q3 (.tup [.str "tree", v]) = H9 at s38 g3 ⊢
    refine ⟨_, _, rfl, dp_two g3 (.str _) (at3.mono s38.tups).dp, sh3.show_, sh3.dict, sh3.deep, Nat.le_trans sh3.long big, ⟨Str.empty, .inr ⟨_, rfl⟩⟩, ?_⟩
    exact ⟨rfl, _, rfl, ite_same ⟨_, _, _, _, _, _, _, rfl, D3.keeps s38, at3.mono s38.tups⟩⟩
  rintro σ H4 ⟨c2, c5, c6, c7, c8, c9, c10, rfl, D4, at4⟩
  -- tree_read twice
  refine ⟨fun σ' H' => ∃ (c2 c5 c6 c7 c8 c9 c10 : Option V), σ' = [some (.ref a), some (.ref d), c2, some v, some (.str (Sx t.text)), c5, c6, c7, c8, c9, c10] ∧ Deck H' d l ∧ At H' v t, ?_, ?_⟩
  · refine ⟨_, rfl, _, rfl, .inr ⟨t.text, rfl, by omega, fun t1 v1 H5 e5 s5 at5 => ?_, fun r d' H5 e5 _ _ _ => absurd (e5.symm.trans hrun) (fun z => by cases z)⟩⟩
    refine ⟨_, rfl, _, rfl, .inr ⟨t.text, rfl, by omega, fun t2 v2 H6 e6 s6 at6 => ?_, fun r d' H6 e6 _ _ _ => absurd (e6.symm.trans hrun) (fun z => by cases z)⟩⟩
    have at5 : At H5 v1 t := Out.ok.inj (e5.symm.trans hrun) ▸ at5
    have at6 : At H6 v2 t := Out.ok.inj (e6.symm.trans hrun) ▸ at6
    refine ⟨two, fun q1 hq1 => ?_⟩
    have u1 := same_new hq1 (.tup [v1, v2])
    have g1 : upd H6 q1 (.tup [v1, v2]) q1 = some (.tup [v1, v2]) := upd_same
    generalize upd H6 q1 (.tup [v1, v2]) = H7 at u1 g1 ⊢
    have sh2 := shows_two shD shD depD depD lenD lenD
    refine ⟨_, _, rfl, dp_two g1 (at5.mono (s6.trans u1).tups).dp (at6.mono u1.tups).dp, sh2.show_, sh2.dict, sh2.deep, Nat.le_trans sh2.long big, ⟨Str.empty, .inr ⟨_, rfl⟩⟩, ?_⟩
    refine ⟨_, rfl, _, rfl, two, fun q2 hq2 => ?_⟩
    have s8 := ((s5.trans s6).trans u1).trans (same_new hq2 (.tup [v, v]))
    have g2 : upd H7 q2 (.tup [v, v]) q2 = some (.tup [v, v]) := upd_same
    generalize upd H7 q2 (.tup [v, v]) = H8 at s8 g2 ⊢
    have at8 := at4.mono s8.tups
    refine ⟨_, _, rfl, dp_two g2 at8.dp at8.dp, sh2.show_, sh2.dict, sh2.deep, Nat.le_trans sh2.long big, ⟨Str.empty, .inr ⟨_, rfl⟩⟩, ?_⟩
    exact ⟨rfl, _, rfl, ite_same ⟨_, _, _, _, _, _, _, rfl, D4.keeps s8, at8⟩⟩
  clear at4 D4
  rintro σ H4 ⟨c2, c5, c6, c7, c8, c9, c10, rfl, D4, at4⟩
  -- a place
  refine ⟨fun σ' H' => ∃ (r : List Nat) (u : T) (c2 c6 c7 c8 c9 c10 : Option V), σ' = [some (.ref a), some (.ref d), c2, some v, some (.str (Sx t.text)), some (.str (Sx r)), c6, c7, c8, c9, c10] ∧ partAt t r = some u ∧ PlaceOk r ∧ Deck H' d l ∧ At H' v t, ?_, ?_⟩
  · refine ⟨_, rfl, _, rfl, v, t, [], rfl, at4, by omega, by decide, by omega, fun p ps H5 n5 s5 h5 g5 l5 => ?_⟩
    have npl : p ≠ l := by
      obtain ⟨_, _, _, _, e2, _⟩ := id D4.ex
      exact (ne_of_none e2 n5).symm
    refine ⟨d, l, p, ps, rfl, D4.keeps s5, h5, npl, by omega, by omega, fun x H6 hx D6 kp6 => ?_⟩
    obtain ⟨r, u, rfl, hp, hok⟩ := g5 x hx
    exact ⟨r, u, _, _, _, _, _, _, rfl, hp, hok, D6, (at4.mono s5.tups).mono ((D4.keeps s5).tups kp6)⟩
  clear at4 D4
  rintro σ H4 ⟨r, u, c2, c6, c7, c8, c9, c10, rfl, hp, hok, D4, at4⟩
  obtain ⟨uok, un, ud⟩ := partAt_ok r t u ok3 hp
  have ulen : u.text.length ≤ 433 := by
    have := text_le u uok
    omega
  refine ⟨fun σ' H' => ∃ (c2 c5 c6 c7 c8 c9 c10 : Option V), σ' = [some (.ref a), some (.ref d), c2, some v, some (.str (Sx t.text)), c5, c6, c7, c8, c9, c10] ∧ Deck H' d l ∧ At H' v t, ?_, ?_⟩
  · have shU := shows_text uok (by omega)
    refine ⟨_, rfl, _, rfl, v, t, u, r, rfl, at4, ok3, by omega, hp, hok, fun v1 H5 s5 at5 => ?_⟩
    refine ⟨v1, u, rfl, at5, uok, by omega, by omega, fun H6 s6 => ?_⟩
    refine ⟨_, _, rfl, .str _, shU.show_, shU.dict, shU.deep, Nat.le_trans shU.long big, ⟨_, .inl rfl⟩, ?_⟩
    have s46 := s5.trans s6
    refine ⟨_, rfl, _, rfl, v, t, u, r, rfl, at4.mono s46.tups, hp, fun v2 at6 => ?_⟩
    refine ⟨v2, u, rfl, at6, by omega, by omega, ?_⟩
    refine ⟨_, _, rfl, .str _, shU.show_, shU.dict, shU.deep, Nat.le_trans shU.long big, ⟨_, .inl rfl⟩, ?_⟩
    exact ⟨rfl, _, rfl, ite_same ⟨_, _, _, _, _, _, _, rfl, D4.keeps s46, at4.mono s46.tups⟩⟩
  clear at4 D4
  rintro σ H4 ⟨c2, c5, c6, c7, c8, c9, c10, rfl, D4, at4⟩
  -- bent texts
  refine ⟨fun σ' H' => ∃ (c2 c5 c6 c7 c8 c9 c10 : Option V), σ' = [some (.ref a), some (.ref d), c2, some v, some (.str (Sx t.text)), c5, c6, c7, c8, c9, c10] ∧ Deck H' d l ∧ At H' v t, ?_, ?_⟩
  · refine ⟨4, rfl, by decide, by decide, ?_⟩
    refine for_range (n := 4) (fun _ σ' H' => ∃ (c2 c5 c6 c7 c8 c9 c10 : Option V), σ' = [some (.ref a), some (.ref d), c2, some v, some (.str (Sx t.text)), c5, c6, c7, c8, c9, c10] ∧ Deck H' d l ∧ At H' v t) ⟨_, _, _, _, _, _, _, rfl, D4, at4⟩ ?_ (fun σ H' h => h)
    clear at4 D4
    rintro j σ H5 hj ⟨c2, c5, c6, c7, c8, c9, c10, rfl, D5, at5⟩
    refine ⟨_, rfl, ?_⟩
    refine ⟨fun σ' H' => ∃ (cs : List Nat) (z : Int) (c2 c5 c8 c9 c10 : Option V), σ' = [some (.ref a), some (.ref d), c2, some v, some (.str (Sx t.text)), c5, some (.int z), some (.str (Sx cs)), c8, c9, c10] ∧ Deck H' d l ∧ At H' v t ∧ cs.length ≤ 600 ∧ opens cs ≤ 40, ?_, ?_⟩
    · refine ⟨_, rfl, (by show 4 ≤ sizeLine; decide), fun b hb => ?_⟩
      have s6 := same_new hb (.lst [V.int 1, .int 1, .int 2, .int 3])
      have nbl : b ≠ l := by
        obtain ⟨_, _, _, _, e2, _⟩ := id D5.ex
        exact (ne_of_none e2 hb).symm
      refine ⟨d, l, b, _, rfl, D5.keeps s6, upd_same, nbl, by decide, by decide, fun x H6 hx D6 kp6 => ?_⟩
      have at6 := (at5.mono s6.tups).mono ((D5.keeps s6).tups kp6)
      obtain ⟨n, hn, rfl⟩ : ∃ n : Nat, n ≤ 3 ∧ x = .int (n : Int) := by
        simp only [List.mem_cons, List.not_mem_nil, or_false] at hx
        rcases hx with rfl | rfl | rfl | rfl
        · exact ⟨1, by decide, rfl⟩
        · exact ⟨1, by decide, rfl⟩
        · exact ⟨2, by decide, rfl⟩
        · exact ⟨3, by decide, rfl⟩
      refine ⟨(n : Int), rfl, by omega, by omega, ?_⟩
      rw [Int.toNat_natCast]
      refine for_range (n := n) (fun m σ' H' => ∃ (cs : List Nat) (z : Int) (c2 c5 c8 c9 c10 : Option V), σ' = [some (.ref a), some (.ref d), c2, some v, some (.str (Sx t.text)), c5, some (.int z), some (.str (Sx cs)), c8, c9, c10] ∧ Deck H' d l ∧ At H' v t ∧ cs.length ≤ 433 + 9 * m ∧ opens cs ≤ 36 + m)
        ⟨t.text, _, _, _, _, _, _, rfl, D6, at6, by omega, by omega⟩ ?_ ?_
      · rintro m σ H7 hm ⟨cs, z, c2, c5, c8, c9, c10, rfl, D7, at7, l7, o7⟩
        refine ⟨_, rfl, _, rfl, d, l, cs, rfl, D7, by omega, fun cs' H8 D8 kp8 l8 o8 => ?_⟩
        exact ⟨cs', _, _, _, _, _, _, rfl, D8, at7.mono (D7.tups kp8), by omega, by omega⟩
      · rintro σ H7 ⟨cs, z, c2, c5, c8, c9, c10, rfl, D7, at7, l7, o7⟩
        exact ⟨cs, _, _, _, _, _, _, rfl, D7, at7, by omega, by omega⟩
    rintro σ H6 ⟨cs, z, c2, c5, c8, c9, c10, rfl, D6, at6, l6, o6⟩
    have shO := shows_out (cs := cs) (by omega) (by omega)
    refine ⟨_, rfl, cs, rfl, by omega, by omega, fun p H7 s7 told7 => ?_⟩
    refine ⟨_, rfl, _, rfl, .inl ⟨_, rfl, _, _, rfl, rfl, (by show (0 : Int) < 2; decide), ?_⟩⟩
    refine ⟨_, _, rfl, .inr ⟨cs, rfl, by omega, fun p2 H8 s8 told8 => ?_⟩⟩
    refine ⟨_, _, rfl, told8.dp, shO.show_, shO.dict, shO.deep, Nat.le_trans shO.long big, ⟨Str.empty, .inr ⟨_, rfl⟩⟩, ?_⟩
    refine ⟨_, rfl, _, _, rfl, (told7.mono s8).dp, shO.show_, shO.dict, shO.deep, Nat.le_trans shO.long big, ⟨Str.empty, .inr ⟨_, rfl⟩⟩, ?_⟩
    exact ⟨rfl, _, rfl, ite_same ⟨_, _, _, _, _, _, _, rfl, D6.keeps (s7.trans s8), at6.mono (s7.trans s8).tups⟩⟩
  clear at4 D4
  rintro σ H4 ⟨c2, c5, c6, c7, c8, c9, c10, rfl, D4, at4⟩
  -- things that are no text
  refine ⟨fun σ' H' => ∃ (x : V) (c2 c3 c4 c5 c6 c7 c8 c9 : Option V), σ' = [some (.ref a), some (.ref d), c2, c3, c4, c5, c6, c7, c8, c9, some x] ∧ Deck H' d l ∧ AnyV H' x, ?_, ?_⟩
  · have nl : ∀ {H1 : Hp} {b : Addr}, Deck H1 d l → H1 b = none → b ≠ l := fun D1 hb => by
      obtain ⟨_, _, _, _, g2, _⟩ := id D1.ex
      exact (ne_of_none g2 hb).symm
    have nd : ∀ {H1 : Hp} {b : Addr}, Deck H1 d l → H1 b = none → b ≠ d := fun D1 hb => by
      obtain ⟨_, _, _, g1, _, _⟩ := id D1.ex
      exact (ne_of_none g1 hb).symm
    refine ⟨_, rfl, _, rfl, (by show 1 ≤ sizeLine; decide), fun e1 h1 => ?_⟩
    have s5 := same_new h1 (.lst [V.str (Sx t.text)])
    have x1 : upd H4 e1 (.lst [V.str (Sx t.text)]) e1 = some (.lst [V.str (Sx t.text)]) := upd_same
    have D5 := D4.keeps s5
    have n1 := nl D4 h1
    have m1 := nd D4 h1
    generalize upd H4 e1 (.lst [V.str (Sx t.text)]) = H5 at s5 x1 D5 ⊢
    refine ⟨zero, fun e2 h2 => ?_⟩
    have s6 := same_new h2 (.tup [])
    have x2 : upd H5 e2 (.tup []) e2 = some (.tup []) := upd_same
    have D6 := D5.keeps s6
    have n2 := nl D5 h2
    have m2 := nd D5 h2
    generalize upd H5 e2 (.tup []) = H6 at s6 x2 D6 ⊢
    refine ⟨_, rfl, fun e3 h3 => ?_⟩
    have s7 := same_new h3 (.dK [])
    have x3 : upd H6 e3 (.dK []) e3 = some (.dK []) := upd_same
    have D7 := D6.keeps s7
    have n3' := nl D6 h3
    have m3 := nd D6 h3
    generalize upd H6 e3 (.dK []) = H7 at s7 x3 D7 ⊢
    refine ⟨_, rfl, d, l, 2, rfl, D7, by decide, fun x H8 D8 kp8 ax => ?_⟩
    refine ⟨(by show 8 ≤ sizeLine; decide), fun e4 h4 => ?_⟩
    have s9 := same_new h4 (.lst [V.non, .int 0, .bl true, .ref e1, .ref e2, v, .ref e3, x])
    refine ⟨d, l, e4, _, rfl, D8.keeps s9, upd_same, nl D8 h4, (by show 1 ≤ 8; decide), (by show 8 ≤ 1000; decide), fun y H9 hy D9 kp9 => ?_⟩
    have ay : AnyV H8 y := by
      simp only [List.mem_cons, List.not_mem_nil, or_false] at hy
      rcases hy with rfl | rfl | rfl | rfl | rfl | rfl | rfl | rfl
      · exact .inl .non
      · exact .inl (.int _)
      · exact .inl (.bl _)
      · exact .inl (.lst (kp8 _ _ (s7 _ _ (s6 _ _ x1)) m1 n1))
      · exact .inl (.tup (kp8 _ _ (s7 _ _ x2) m2 n2))
      · exact ((at4.mono ((s5.trans s6).trans s7).tups).mono (D7.tups kp8)).any
      · exact .inl (.dK (kp8 _ _ x3 m3 n3'))
      · exact ax
    exact ⟨y, _, _, _, _, _, _, _, _, rfl, D9, (ay.keep2 D8 (D8.keeps s9) s9.keep2).keep2 (D8.keeps s9) D9 kp9⟩
  clear at4 D4
  rintro σ H4 ⟨x, c2, c3, c4, c5, c6, c7, c8, c9, rfl, D4, ax⟩
  rcases ax with hn | ⟨z, rfl⟩
  · obtain ⟨t', ty, kt⟩ := hn.ty (K := K)
    refine ⟨_, rfl, _, _, .type t', .type "str", false, rfl, .ty "str", ty, kit_ty kt, false, rfl, ?_⟩
    refine iteT ?_
    have shW := shows_two shows_word.2 (shows_int (i := -1) (by decide)) (by show 0 ≤ 60; decide) (by show 0 ≤ 60; decide) word_len.2 (by have := shown_int (i := -1) (by decide); omega)
    refine ⟨_, rfl, x, 1, rfl, .inl ⟨hn, fun p H5 s5 h5 => ?_⟩⟩
    refine ⟨_, _, rfl, dp_two h5 (.str _) (.int _), shW.show_, shW.dict, shW.deep, Nat.le_trans shW.long big, ⟨Str.empty, .inr ⟨_, rfl⟩⟩, ?_⟩
    refine ⟨_, rfl, two, fun q hq => ?_⟩
    have s6 := same_new hq (.tup [V.str "wrong", .int (-1)])
    refine ⟨_, _, rfl, dp_two upd_same (.str _) (.int _), shW.show_, shW.dict, shW.deep, Nat.le_trans shW.long big, ⟨Str.empty, .inr ⟨_, rfl⟩⟩, ?_⟩
    exact ⟨rfl, _, rfl, ite_same ⟨⟨_, _, _, _, _, _, _, _, _, rfl⟩, D4.keeps (s5.trans s6)⟩⟩
  · refine ⟨_, rfl, _, _, .type "str", .type "str", true, rfl, .ty "str", .base (.str _), kit_ty (by decide +kernel), true, rfl, ?_⟩
    exact iteF (iteF ⟨⟨_, _, _, _, _, _, _, _, _, rfl⟩, D4⟩)
end Eo
/-! The end: what the written part says of every def and class (this text is printed by mk_end.py). -/
namespace Eo
open PySem PySem.Spec PyProof.Rows L2
theorem exm_self {K : PySem.W.Frag} {S : Addr} (h1 : PySem.W.subIn K (.ref S) (.type "BaseException") = some true) (h2 : PySem.W.isClsIn K S = true) (h3 : PySem.W.typeIn K (.ref S) = some (.type "type")) (h4 : PySem.W.subIn K (.ref S) (.ref S) = some true) :
    PySem.W.exmOne K (.ref S) (.ref S) = some true := by
  have e1 : (PySem.W.subIn K (.ref S) (.type "BaseException") == some true) = true := by rw [h1] <;> rfl
  have e2 : ((PySem.W.clsIn K S).isSome && PySem.W.typeIn K (.ref S) == some (.type "type")) = true := by
    have h2' : (PySem.W.clsIn K S).isSome = true := h2
    rw [h2', h3] <;> rfl
  show (if (PySem.W.subIn K (.ref S) (.type "BaseException") == some true) = true then (if ((PySem.W.clsIn K S).isSome && PySem.W.typeIn K (.ref S) == some (.type "type")) = true then PySem.W.subIn K (.ref S) (.ref S) else none) else none) = some true
  rw [if_pos e1, if_pos e2]
  exact h4
/-- one parameter, by its place or by its name -/
theorem kb_one {K : PySem.W.Frag} {nm : Str} {fd : FuncData} (h1 : ∀ v : Value, bindArgs fd ⟨[v], []⟩ = pure [(nm, v)]) (h2 : ∀ v : Value, bindArgs fd ⟨[], [(nm, v)]⟩ = pure [(nm, v)]) : KBinds K fd [nm] [nm] gApp gAppV where
  to := fun s us ws _ hl => by
    cases us with
    | nil =>
      cases ws with
      | nil => cases hl
      | cons w ws =>
        cases ws with
        | nil => exact .of_eq (h2 w)
        | cons w2 ws => cases hl
    | cons u us =>
      cases us with
      | nil =>
        cases ws with
        | nil => exact .of_eq (h1 u)
        | cons w ws => cases hl
      | cons u2 us => cases hl
  rel := fun r1 r2 => r1.append r2
theorem all_mk {l : PySem.W.OpenLaw} {w : World} {K : PySem.W.Frag} {h : Heap} {mg : Str → Option Value} {fa CR C D fI f_isTuple f_isTag f_isTree f_needTree f_isPlace f_subtree f_needPlace f_partAt f_textOf f_written f_read f_deck f_draw f_pick f_any f_places f_part f_tags f_drawn f_chain f_treeText f_readTree f_treeOf f_told f_bent f_law f_init f_add f_endTag f_take f_takeAw : Addr} (X : K.In h) (G : h.Ns mainGlobals mg) (hfa : mg "law" = some (.ref fa))
    {od_isTuple an_isTuple od_isTag an_isTag od_isTree an_isTree od_needTree an_needTree od_isPlace an_isPlace od_subtree an_subtree od_needPlace an_needPlace od_partAt an_partAt od_textOf an_textOf od_written an_written od_read an_read od_deck an_deck od_draw an_draw od_pick an_pick od_any an_any od_places an_places od_part an_part od_tags an_tags od_drawn an_drawn od_chain an_chain od_treeText an_treeText od_readTree an_readTree od_treeOf an_treeOf od_told an_told od_bent an_bent od_law an_law od_init an_init od_add an_add od_endTag an_endTag od_take an_take od_takeAw an_takeAw : Option Addr} {sl_isTuple sl_isTag sl_isTree sl_needTree sl_isPlace sl_subtree sl_needPlace sl_partAt sl_textOf sl_written sl_read sl_deck sl_draw sl_pick sl_any sl_places sl_part sl_tags sl_drawn sl_chain sl_treeText sl_readTree sl_treeOf sl_told sl_bent sl_law sl_init sl_add sl_endTag sl_take sl_takeAw : Array (Option Value)}
    {oc_isTuple kV_isTuple dc_isTuple pm_isTuple cd_isTuple ct_isTuple oc_isTag kV_isTag dc_isTag pm_isTag cd_isTag ct_isTag oc_isTree kV_isTree dc_isTree pm_isTree cd_isTree ct_isTree oc_needTree kV_needTree dc_needTree pm_needTree cd_needTree ct_needTree oc_isPlace kV_isPlace dc_isPlace pm_isPlace cd_isPlace ct_isPlace oc_subtree kV_subtree dc_subtree pm_subtree cd_subtree ct_subtree oc_needPlace kV_needPlace dc_needPlace pm_needPlace cd_needPlace ct_needPlace oc_partAt kV_partAt dc_partAt pm_partAt cd_partAt ct_partAt oc_textOf kV_textOf dc_textOf pm_textOf cd_textOf ct_textOf oc_written kV_written dc_written pm_written cd_written ct_written oc_read kV_read dc_read pm_read cd_read ct_read oc_deck kV_deck dc_deck pm_deck cd_deck ct_deck oc_draw kV_draw dc_draw pm_draw cd_draw ct_draw oc_pick kV_pick dc_pick pm_pick cd_pick ct_pick oc_any kV_any dc_any pm_any cd_any ct_any oc_places kV_places dc_places pm_places cd_places ct_places oc_part kV_part dc_part pm_part cd_part ct_part oc_tags kV_tags dc_tags pm_tags cd_tags ct_tags oc_drawn kV_drawn dc_drawn pm_drawn cd_drawn ct_drawn oc_chain kV_chain dc_chain pm_chain cd_chain ct_chain oc_treeText kV_treeText dc_treeText pm_treeText cd_treeText ct_treeText oc_readTree kV_readTree dc_readTree pm_readTree cd_readTree ct_readTree oc_treeOf kV_treeOf dc_treeOf pm_treeOf cd_treeOf ct_treeOf oc_told kV_told dc_told pm_told cd_told ct_told oc_bent kV_bent dc_bent pm_bent cd_bent ct_bent oc_law kV_law dc_law pm_law cd_law ct_law oc_init kV_init dc_init pm_init cd_init ct_init oc_add kV_add dc_add pm_add cd_add ct_add oc_endTag kV_endTag dc_endTag pm_endTag cd_endTag ct_endTag oc_take kV_take dc_take pm_take cd_take ct_take oc_takeAw kV_takeAw dc_takeAw pm_takeAw cd_takeAw ct_takeAw : Value}
    {tk1 tk2 tk3 tk4 tk5 tk6 : Tok}
    {nm q : Str} {N : Addr} {bs : List Value} {sn : List Str} {sub : List Value} {ab : Bool} {col : Option Bool} {dd : Option Addr} {m0 m1 m2 m3 m5 : Option Value} {odI anI : Option Addr} {slI : Array (Option Value)} {ocI dcI pmI cdI ctI : Value}
    (gCR : PySem.W.nsIn K mainGlobals "Reading" = some (some (.ref CR)))
    (gC : PySem.W.nsIn K mainGlobals "BadText" = some (some (.ref C)))
    (gD : PySem.W.nsIn K mainGlobals "EyesError" = some (some (.ref D)))
    (a_init : PySem.W.findIn K (.ref CR) "__init__" = some (some (.ref f_init)))
    (i_init : PySem.W.isFn K (.ref f_init) = true)
    (l_init : K.lookup f_init = some ⟨oc_init, od_init, .func (PySem.W.fnOf "__init__" "Reading.__init__" (defArgs sInit) (defBody sInit) (defScope sInit) .none kV_init dc_init pm_init an_init cd_init ct_init), sl_init⟩)
    (c_init : PySem.W.codeIn K cd_init "Reading.__init__" = true)
    (k_init : PySem.W.keepIn K (.ref f_init) = true)
    (a_add : PySem.W.findIn K (.ref CR) "add" = some (some (.ref f_add)))
    (i_add : PySem.W.isFn K (.ref f_add) = true)
    (l_add : K.lookup f_add = some ⟨oc_add, od_add, .func (PySem.W.fnOf "add" "Reading.add" (defArgs sAdd) (defBody sAdd) (defScope sAdd) .none kV_add dc_add pm_add an_add cd_add ct_add), sl_add⟩)
    (c_add : PySem.W.codeIn K cd_add "Reading.add" = true)
    (k_add : PySem.W.keepIn K (.ref f_add) = true)
    (a_endTag : PySem.W.findIn K (.ref CR) "end_tag" = some (some (.ref f_endTag)))
    (i_endTag : PySem.W.isFn K (.ref f_endTag) = true)
    (l_endTag : K.lookup f_endTag = some ⟨oc_endTag, od_endTag, .func (PySem.W.fnOf "end_tag" "Reading.end_tag" (defArgs sEndTag) (defBody sEndTag) (defScope sEndTag) .none kV_endTag dc_endTag pm_endTag an_endTag cd_endTag ct_endTag), sl_endTag⟩)
    (c_endTag : PySem.W.codeIn K cd_endTag "Reading.end_tag" = true)
    (k_endTag : PySem.W.keepIn K (.ref f_endTag) = true)
    (a_take : PySem.W.findIn K (.ref CR) "take" = some (some (.ref f_take)))
    (i_take : PySem.W.isFn K (.ref f_take) = true)
    (l_take : K.lookup f_take = some ⟨oc_take, od_take, .func (PySem.W.fnOf "take" "Reading.take" (defArgs sTake) (defBody sTake) (defScope sTake) .none kV_take dc_take pm_take an_take cd_take ct_take), sl_take⟩)
    (c_take : PySem.W.codeIn K cd_take "Reading.take" = true)
    (k_take : PySem.W.keepIn K (.ref f_take) = true)
    (a_takeAw : PySem.W.findIn K (.ref CR) "take_awaited" = some (some (.ref f_takeAw)))
    (i_takeAw : PySem.W.isFn K (.ref f_takeAw) = true)
    (l_takeAw : K.lookup f_takeAw = some ⟨oc_takeAw, od_takeAw, .func (PySem.W.fnOf "take_awaited" "Reading.take_awaited" (defArgs sTakeAw) (defBody sTakeAw) (defScope sTakeAw) .none kV_takeAw dc_takeAw pm_takeAw an_takeAw cd_takeAw ct_takeAw), sl_takeAw⟩)
    (c_takeAw : PySem.W.codeIn K cd_takeAw "Reading.take_awaited" = true)
    (k_takeAw : PySem.W.keepIn K (.ref f_takeAw) = true)
    (a_isTuple : PySem.W.nsIn K mainGlobals "is_tuple" = some (some (.ref f_isTuple)))
    (l_isTuple : K.lookup f_isTuple = some ⟨oc_isTuple, od_isTuple, .func (PySem.W.fnOf "is_tuple" "is_tuple" (defArgs sIsTuple) (defBody sIsTuple) (defScope sIsTuple) .none kV_isTuple dc_isTuple pm_isTuple an_isTuple cd_isTuple ct_isTuple), sl_isTuple⟩)
    (c_isTuple : PySem.W.codeIn K cd_isTuple "is_tuple" = true)
    (k_isTuple : PySem.W.keepIn K (.ref f_isTuple) = true)
    (a_isTag : PySem.W.nsIn K mainGlobals "is_tag_value" = some (some (.ref f_isTag)))
    (l_isTag : K.lookup f_isTag = some ⟨oc_isTag, od_isTag, .func (PySem.W.fnOf "is_tag_value" "is_tag_value" (defArgs sIsTag) (defBody sIsTag) (defScope sIsTag) .none kV_isTag dc_isTag pm_isTag an_isTag cd_isTag ct_isTag), sl_isTag⟩)
    (c_isTag : PySem.W.codeIn K cd_isTag "is_tag_value" = true)
    (k_isTag : PySem.W.keepIn K (.ref f_isTag) = true)
    (a_isTree : PySem.W.nsIn K mainGlobals "is_tree_value" = some (some (.ref f_isTree)))
    (l_isTree : K.lookup f_isTree = some ⟨oc_isTree, od_isTree, .func (PySem.W.fnOf "is_tree_value" "is_tree_value" (defArgs sIsTree) (defBody sIsTree) (defScope sIsTree) .none kV_isTree dc_isTree pm_isTree an_isTree cd_isTree ct_isTree), sl_isTree⟩)
    (c_isTree : PySem.W.codeIn K cd_isTree "is_tree_value" = true)
    (k_isTree : PySem.W.keepIn K (.ref f_isTree) = true)
    (a_needTree : PySem.W.nsIn K mainGlobals "need_tree" = some (some (.ref f_needTree)))
    (l_needTree : K.lookup f_needTree = some ⟨oc_needTree, od_needTree, .func (PySem.W.fnOf "need_tree" "need_tree" (defArgs sNeedTree) (defBody sNeedTree) (defScope sNeedTree) .none kV_needTree dc_needTree pm_needTree an_needTree cd_needTree ct_needTree), sl_needTree⟩)
    (c_needTree : PySem.W.codeIn K cd_needTree "need_tree" = true)
    (k_needTree : PySem.W.keepIn K (.ref f_needTree) = true)
    (a_isPlace : PySem.W.nsIn K mainGlobals "is_place_of" = some (some (.ref f_isPlace)))
    (l_isPlace : K.lookup f_isPlace = some ⟨oc_isPlace, od_isPlace, .func (PySem.W.fnOf "is_place_of" "is_place_of" (defArgs sIsPlace) (defBody sIsPlace) (defScope sIsPlace) .none kV_isPlace dc_isPlace pm_isPlace an_isPlace cd_isPlace ct_isPlace), sl_isPlace⟩)
    (c_isPlace : PySem.W.codeIn K cd_isPlace "is_place_of" = true)
    (k_isPlace : PySem.W.keepIn K (.ref f_isPlace) = true)
    (a_subtree : PySem.W.nsIn K mainGlobals "subtree" = some (some (.ref f_subtree)))
    (l_subtree : K.lookup f_subtree = some ⟨oc_subtree, od_subtree, .func (PySem.W.fnOf "subtree" "subtree" (defArgs sSubtree) (defBody sSubtree) (defScope sSubtree) .none kV_subtree dc_subtree pm_subtree an_subtree cd_subtree ct_subtree), sl_subtree⟩)
    (c_subtree : PySem.W.codeIn K cd_subtree "subtree" = true)
    (k_subtree : PySem.W.keepIn K (.ref f_subtree) = true)
    (a_needPlace : PySem.W.nsIn K mainGlobals "need_place" = some (some (.ref f_needPlace)))
    (l_needPlace : K.lookup f_needPlace = some ⟨oc_needPlace, od_needPlace, .func (PySem.W.fnOf "need_place" "need_place" (defArgs sNeedPlace) (defBody sNeedPlace) (defScope sNeedPlace) .none kV_needPlace dc_needPlace pm_needPlace an_needPlace cd_needPlace ct_needPlace), sl_needPlace⟩)
    (c_needPlace : PySem.W.codeIn K cd_needPlace "need_place" = true)
    (k_needPlace : PySem.W.keepIn K (.ref f_needPlace) = true)
    (a_partAt : PySem.W.nsIn K mainGlobals "part_at" = some (some (.ref f_partAt)))
    (l_partAt : K.lookup f_partAt = some ⟨oc_partAt, od_partAt, .func (PySem.W.fnOf "part_at" "part_at" (defArgs sPartAt) (defBody sPartAt) (defScope sPartAt) .none kV_partAt dc_partAt pm_partAt an_partAt cd_partAt ct_partAt), sl_partAt⟩)
    (c_partAt : PySem.W.codeIn K cd_partAt "part_at" = true)
    (k_partAt : PySem.W.keepIn K (.ref f_partAt) = true)
    (a_textOf : PySem.W.nsIn K mainGlobals "text_of" = some (some (.ref f_textOf)))
    (l_textOf : K.lookup f_textOf = some ⟨oc_textOf, od_textOf, .func (PySem.W.fnOf "text_of" "text_of" (defArgs sTextOf) (defBody sTextOf) (defScope sTextOf) .none kV_textOf dc_textOf pm_textOf an_textOf cd_textOf ct_textOf), sl_textOf⟩)
    (c_textOf : PySem.W.codeIn K cd_textOf "text_of" = true)
    (k_textOf : PySem.W.keepIn K (.ref f_textOf) = true)
    (a_written : PySem.W.nsIn K mainGlobals "tree_written" = some (some (.ref f_written)))
    (l_written : K.lookup f_written = some ⟨oc_written, od_written, .func (PySem.W.fnOf "tree_written" "tree_written" (defArgs sWritten) (defBody sWritten) (defScope sWritten) .none kV_written dc_written pm_written an_written cd_written ct_written), sl_written⟩)
    (c_written : PySem.W.codeIn K cd_written "tree_written" = true)
    (k_written : PySem.W.keepIn K (.ref f_written) = true)
    (a_read : PySem.W.nsIn K mainGlobals "tree_read" = some (some (.ref f_read)))
    (l_read : K.lookup f_read = some ⟨oc_read, od_read, .func (PySem.W.fnOf "tree_read" "tree_read" (defArgs sRead) (defBody sRead) (defScope sRead) .none kV_read dc_read pm_read an_read cd_read ct_read), sl_read⟩)
    (c_read : PySem.W.codeIn K cd_read "tree_read" = true)
    (k_read : PySem.W.keepIn K (.ref f_read) = true)
    (a_deck : PySem.W.nsIn K mainGlobals "_law_deck" = some (some (.ref f_deck)))
    (l_deck : K.lookup f_deck = some ⟨oc_deck, od_deck, .func (PySem.W.fnOf "_law_deck" "_law_deck" (defArgs sDeck) (defBody sDeck) (defScope sDeck) .none kV_deck dc_deck pm_deck an_deck cd_deck ct_deck), sl_deck⟩)
    (c_deck : PySem.W.codeIn K cd_deck "_law_deck" = true)
    (k_deck : PySem.W.keepIn K (.ref f_deck) = true)
    (a_draw : PySem.W.nsIn K mainGlobals "_law_draw" = some (some (.ref f_draw)))
    (l_draw : K.lookup f_draw = some ⟨oc_draw, od_draw, .func (PySem.W.fnOf "_law_draw" "_law_draw" (defArgs sDraw) (defBody sDraw) (defScope sDraw) .none kV_draw dc_draw pm_draw an_draw cd_draw ct_draw), sl_draw⟩)
    (c_draw : PySem.W.codeIn K cd_draw "_law_draw" = true)
    (k_draw : PySem.W.keepIn K (.ref f_draw) = true)
    (a_pick : PySem.W.nsIn K mainGlobals "_law_pick" = some (some (.ref f_pick)))
    (l_pick : K.lookup f_pick = some ⟨oc_pick, od_pick, .func (PySem.W.fnOf "_law_pick" "_law_pick" (defArgs sPick) (defBody sPick) (defScope sPick) .none kV_pick dc_pick pm_pick an_pick cd_pick ct_pick), sl_pick⟩)
    (c_pick : PySem.W.codeIn K cd_pick "_law_pick" = true)
    (k_pick : PySem.W.keepIn K (.ref f_pick) = true)
    (a_any : PySem.W.nsIn K mainGlobals "_law_any" = some (some (.ref f_any)))
    (l_any : K.lookup f_any = some ⟨oc_any, od_any, .func (PySem.W.fnOf "_law_any" "_law_any" (defArgs sAny) (defBody sAny) (defScope sAny) .none kV_any dc_any pm_any an_any cd_any ct_any), sl_any⟩)
    (c_any : PySem.W.codeIn K cd_any "_law_any" = true)
    (k_any : PySem.W.keepIn K (.ref f_any) = true)
    (a_places : PySem.W.nsIn K mainGlobals "_law_places" = some (some (.ref f_places)))
    (l_places : K.lookup f_places = some ⟨oc_places, od_places, .func (PySem.W.fnOf "_law_places" "_law_places" (defArgs sPlaces) (defBody sPlaces) (defScope sPlaces) .none kV_places dc_places pm_places an_places cd_places ct_places), sl_places⟩)
    (c_places : PySem.W.codeIn K cd_places "_law_places" = true)
    (k_places : PySem.W.keepIn K (.ref f_places) = true)
    (a_part : PySem.W.nsIn K mainGlobals "_law_part" = some (some (.ref f_part)))
    (l_part : K.lookup f_part = some ⟨oc_part, od_part, .func (PySem.W.fnOf "_law_part" "_law_part" (defArgs sPart) (defBody sPart) (defScope sPart) .none kV_part dc_part pm_part an_part cd_part ct_part), sl_part⟩)
    (c_part : PySem.W.codeIn K cd_part "_law_part" = true)
    (k_part : PySem.W.keepIn K (.ref f_part) = true)
    (a_tags : PySem.W.nsIn K mainGlobals "_law_tags" = some (some (.ref f_tags)))
    (l_tags : K.lookup f_tags = some ⟨oc_tags, od_tags, .func (PySem.W.fnOf "_law_tags" "_law_tags" (defArgs sTags) (defBody sTags) (defScope sTags) .none kV_tags dc_tags pm_tags an_tags cd_tags ct_tags), sl_tags⟩)
    (c_tags : PySem.W.codeIn K cd_tags "_law_tags" = true)
    (k_tags : PySem.W.keepIn K (.ref f_tags) = true)
    (a_drawn : PySem.W.nsIn K mainGlobals "_law_drawn_tree" = some (some (.ref f_drawn)))
    (l_drawn : K.lookup f_drawn = some ⟨oc_drawn, od_drawn, .func (PySem.W.fnOf "_law_drawn_tree" "_law_drawn_tree" (defArgs sDrawn) (defBody sDrawn) (defScope sDrawn) .none kV_drawn dc_drawn pm_drawn an_drawn cd_drawn ct_drawn), sl_drawn⟩)
    (c_drawn : PySem.W.codeIn K cd_drawn "_law_drawn_tree" = true)
    (k_drawn : PySem.W.keepIn K (.ref f_drawn) = true)
    (a_chain : PySem.W.nsIn K mainGlobals "_law_chain" = some (some (.ref f_chain)))
    (l_chain : K.lookup f_chain = some ⟨oc_chain, od_chain, .func (PySem.W.fnOf "_law_chain" "_law_chain" (defArgs sChain) (defBody sChain) (defScope sChain) .none kV_chain dc_chain pm_chain an_chain cd_chain ct_chain), sl_chain⟩)
    (c_chain : PySem.W.codeIn K cd_chain "_law_chain" = true)
    (k_chain : PySem.W.keepIn K (.ref f_chain) = true)
    (a_treeText : PySem.W.nsIn K mainGlobals "_law_tree_text" = some (some (.ref f_treeText)))
    (l_treeText : K.lookup f_treeText = some ⟨oc_treeText, od_treeText, .func (PySem.W.fnOf "_law_tree_text" "_law_tree_text" (defArgs sTreeText) (defBody sTreeText) (defScope sTreeText) .none kV_treeText dc_treeText pm_treeText an_treeText cd_treeText ct_treeText), sl_treeText⟩)
    (c_treeText : PySem.W.codeIn K cd_treeText "_law_tree_text" = true)
    (k_treeText : PySem.W.keepIn K (.ref f_treeText) = true)
    (a_readTree : PySem.W.nsIn K mainGlobals "_law_read_tree" = some (some (.ref f_readTree)))
    (l_readTree : K.lookup f_readTree = some ⟨oc_readTree, od_readTree, .func (PySem.W.fnOf "_law_read_tree" "_law_read_tree" (defArgs sReadTree) (defBody sReadTree) (defScope sReadTree) .none kV_readTree dc_readTree pm_readTree an_readTree cd_readTree ct_readTree), sl_readTree⟩)
    (c_readTree : PySem.W.codeIn K cd_readTree "_law_read_tree" = true)
    (k_readTree : PySem.W.keepIn K (.ref f_readTree) = true)
    (a_treeOf : PySem.W.nsIn K mainGlobals "_law_tree_of" = some (some (.ref f_treeOf)))
    (l_treeOf : K.lookup f_treeOf = some ⟨oc_treeOf, od_treeOf, .func (PySem.W.fnOf "_law_tree_of" "_law_tree_of" (defArgs sTreeOf) (defBody sTreeOf) (defScope sTreeOf) .none kV_treeOf dc_treeOf pm_treeOf an_treeOf cd_treeOf ct_treeOf), sl_treeOf⟩)
    (c_treeOf : PySem.W.codeIn K cd_treeOf "_law_tree_of" = true)
    (k_treeOf : PySem.W.keepIn K (.ref f_treeOf) = true)
    (a_told : PySem.W.nsIn K mainGlobals "_law_told" = some (some (.ref f_told)))
    (l_told : K.lookup f_told = some ⟨oc_told, od_told, .func (PySem.W.fnOf "_law_told" "_law_told" (defArgs sTold) (defBody sTold) (defScope sTold) .none kV_told dc_told pm_told an_told cd_told ct_told), sl_told⟩)
    (c_told : PySem.W.codeIn K cd_told "_law_told" = true)
    (k_told : PySem.W.keepIn K (.ref f_told) = true)
    (a_bent : PySem.W.nsIn K mainGlobals "_law_bent_text" = some (some (.ref f_bent)))
    (l_bent : K.lookup f_bent = some ⟨oc_bent, od_bent, .func (PySem.W.fnOf "_law_bent_text" "_law_bent_text" (defArgs sBent) (defBody sBent) (defScope sBent) .none kV_bent dc_bent pm_bent an_bent cd_bent ct_bent), sl_bent⟩)
    (c_bent : PySem.W.codeIn K cd_bent "_law_bent_text" = true)
    (k_bent : PySem.W.keepIn K (.ref f_bent) = true)
    (a_law : PySem.W.nsIn K mainGlobals "law" = some (some (.ref f_law)))
    (l_law : K.lookup f_law = some ⟨oc_law, od_law, .func (PySem.W.fnOf "law" "law" (defArgs sLaw) (defBody sLaw) (defScope sLaw) .none kV_law dc_law pm_law an_law cd_law ct_law), sl_law⟩)
    (c_law : PySem.W.codeIn K cd_law "law" = true)
    (k_law : PySem.W.keepIn K (.ref f_law) = true)
    (pgR : PySem.W.plainGet K CR Str.empty = true)
    (hdR : PySem.W.hasDictIn K CR = true)
    (poR : PySem.W.plainOver K CR = true)
    (saR : PySem.W.findIn K (.ref CR) "__setattr__" = some (some (.builtin "object.__setattr__")))
    (mkR : PySem.W.makesIn K CR = true)
    (kcR : PySem.W.keepIn K (.ref CR) = true)
    (nAR : PySem.W.findIn K (.ref CR) "awaited" = some none)
    (nBR : PySem.W.findIn K (.ref CR) "begun" = some none)
    (nTR : PySem.W.findIn K (.ref CR) "tag" = some none)
    (nFR : PySem.W.findIn K (.ref CR) "found" = some none)
    (xL : K.lookup C = some (excClassObj nm q C N bs [.ref D, .type "Exception", .type "BaseException", .type "object"] true sn sub ab col dd m0 m1 m2 m3 m5 "Exception.__new__"))
    (sa : PySem.W.findIn K (.ref C) "__setattr__" = some (some (.builtin "object.__setattr__")))
    (ga : PySem.W.findIn K (.ref C) "__getattribute__" = some (some (.builtin "BaseException.__getattribute__")))
    (gg : PySem.W.findIn K (.ref C) "__getattr__" = some none)
    (nb : PySem.W.findIn K (.ref C) "at" = some none)
    (aI : PySem.W.findIn K (.ref C) "__init__" = some (some (.ref fI)))
    (tI : PySem.W.typeIn K (.ref fI) = some (.type "function"))
    (lI : K.lookup fI = some ⟨ocI, odI, .func (PySem.W.fnOf "__init__" "BadText.__init__" (PySem.BadX.iA ⟨14, 17, 14, 21⟩ ⟨14, 23, 14, 25⟩) (PySem.BadX.iB ⟨15, 8, 15, 12⟩ ⟨15, 8, 15, 15⟩ ⟨15, 18, 15, 20⟩ ⟨15, 8, 15, 20⟩) PySem.BadX.iS .none .none dcI pmI anI cdI ctI), slI⟩)
    (cI : PySem.W.codeIn K cdI "BadText.__init__" = true)
    (kC : PySem.W.keepIn K (.ref C) = true)
    (eC : PySem.W.subIn K (.ref C) (.type "BaseException") = some true)
    (tC : PySem.W.typeIn K (.ref C) = some (.type "type"))
    (hC : PySem.W.hasDictIn K C = true)
    (iC : PySem.W.isClsIn K C = true)
    (sC : PySem.W.subIn K (.ref C) (.ref C) = some true)
    (hCD : PySem.W.isIn K (.ref C) D = true)
    (n_len : PySem.W.nsIn K mainGlobals "len" = some none)
    (n_int : PySem.W.nsIn K mainGlobals "int" = some none)
    (n_max : PySem.W.nsIn K mainGlobals "max" = some none)
    (n_list : PySem.W.nsIn K mainGlobals "list" = some none)
    (n_tuple : PySem.W.nsIn K mainGlobals "tuple" = some none)
    (n_range : PySem.W.nsIn K mainGlobals "range" = some none)
    (n_all : PySem.W.nsIn K mainGlobals "all" = some none)
    (n_repr : PySem.W.nsIn K mainGlobals "repr" = some none)
    (n_isi : PySem.W.nsIn K mainGlobals "isinstance" = some none)
    (n_enum : PySem.W.nsIn K mainGlobals "enumerate" = some none)
    (n_str : PySem.W.nsIn K mainGlobals "str" = some none)
    (q_small : PySem.W.nsIn K mainGlobals "SMALL" = some (some (.str "abcdefghijklmnopqrstuvwxyz" tk1)))
    (q_longest : PySem.W.nsIn K mainGlobals "LONGEST_TAG" = some (some (.int 8 tk2)))
    (q_tree : PySem.W.nsIn K mainGlobals "TREE" = some (some (.str "tree" tk3)))
    (q_node : PySem.W.nsIn K mainGlobals "NODE" = some (some (.str "node" tk4)))
    (q_comma : PySem.W.nsIn K mainGlobals "COMMA" = some (some (.str "comma" tk5)))
    (q_close : PySem.W.nsIn K mainGlobals "CLOSE" = some (some (.str "close" tk6)))
    : ∃ fd : FuncData, (∀ (s : Shared) (u : Value), BindsTo s fd ⟨[u], []⟩ [("_law_script", u)]) ∧ ∀ base : Heap, K.In base → base.Ns mainGlobals mg → OnceOk l.prog w K mg base callerA fa fd ["_law_script"] (spLaw K) := by
  have e := hfa.symm.trans (PySem.W.mg_of X G a_law)
  cases e
  have TX : Txt mg := { len := PySem.W.mg_none_of X G n_len, int := PySem.W.mg_none_of X G n_int, max := PySem.W.mg_none_of X G n_max, list := PySem.W.mg_none_of X G n_list, tuple := PySem.W.mg_none_of X G n_tuple, range := PySem.W.mg_none_of X G n_range, all := PySem.W.mg_none_of X G n_all, repr := PySem.W.mg_none_of X G n_repr, isi := PySem.W.mg_none_of X G n_isi, enum := PySem.W.mg_none_of X G n_enum, str := PySem.W.mg_none_of X G n_str, small := ⟨_, PySem.W.mg_of X G q_small⟩, longest := ⟨_, PySem.W.mg_of X G q_longest⟩, tree := ⟨_, PySem.W.mg_of X G q_tree⟩, node := ⟨_, PySem.W.mg_of X G q_node⟩, comma := ⟨_, PySem.W.mg_of X G q_comma⟩, close := ⟨_, PySem.W.mg_of X G q_close⟩ }
  have F_init := fun_mk (st := sInit) l_init c_init k_init
  have b_init := F_init.binds (ps := ["self"]) fun _ _ _ _ _ _ us hl => match us, hl with | [_], _ => rfl
  have F_add := fun_mk (st := sAdd) l_add c_add k_add
  have b_add := F_add.binds (ps := ["self", "tree"]) fun _ _ _ _ _ _ us hl => match us, hl with | [_, _], _ => rfl
  have F_endTag := fun_mk (st := sEndTag) l_endTag c_endTag k_endTag
  have b_endTag := F_endTag.binds (ps := ["self"]) fun _ _ _ _ _ _ us hl => match us, hl with | [_], _ => rfl
  have F_take := fun_mk (st := sTake) l_take c_take k_take
  have b_take := F_take.binds (ps := ["self", "sign"]) fun _ _ _ _ _ _ us hl => match us, hl with | [_, _], _ => rfl
  have F_takeAw := fun_mk (st := sTakeAw) l_takeAw c_takeAw k_takeAw
  have b_takeAw := F_takeAw.binds (ps := ["self", "sign", "awaited"]) fun _ _ _ _ _ _ us hl => match us, hl with | [_, _, _], _ => rfl
  have F_isTuple := fun_mk (st := sIsTuple) l_isTuple c_isTuple k_isTuple
  have b_isTuple := F_isTuple.binds (ps := ["thing", "many"]) fun _ _ _ _ _ _ us hl => match us, hl with | [_, _], _ => rfl
  have F_isTag := fun_mk (st := sIsTag) l_isTag c_isTag k_isTag
  have b_isTag := F_isTag.binds (ps := ["thing"]) fun _ _ _ _ _ _ us hl => match us, hl with | [_], _ => rfl
  have F_isTree := fun_mk (st := sIsTree) l_isTree c_isTree k_isTree
  have b_isTree := F_isTree.binds (ps := ["thing"]) fun _ _ _ _ _ _ us hl => match us, hl with | [_], _ => rfl
  have F_needTree := fun_mk (st := sNeedTree) l_needTree c_needTree k_needTree
  have b_needTree := F_needTree.binds (ps := ["tree"]) fun _ _ _ _ _ _ us hl => match us, hl with | [_], _ => rfl
  have F_isPlace := fun_mk (st := sIsPlace) l_isPlace c_isPlace k_isPlace
  have b_isPlace := F_isPlace.binds (ps := ["tree", "thing"]) fun _ _ _ _ _ _ us hl => match us, hl with | [_, _], _ => rfl
  have F_subtree := fun_mk (st := sSubtree) l_subtree c_subtree k_subtree
  have b_subtree := F_subtree.binds (ps := ["tree", "place"]) fun _ _ _ _ _ _ us hl => match us, hl with | [_, _], _ => rfl
  have F_needPlace := fun_mk (st := sNeedPlace) l_needPlace c_needPlace k_needPlace
  have b_needPlace := F_needPlace.binds (ps := ["tree", "place"]) fun _ _ _ _ _ _ us hl => match us, hl with | [_, _], _ => rfl
  have F_partAt := fun_mk (st := sPartAt) l_partAt c_partAt k_partAt
  have b_partAt := F_partAt.binds (ps := ["tree", "place"]) fun _ _ _ _ _ _ us hl => match us, hl with | [_, _], _ => rfl
  have F_textOf := fun_mk (st := sTextOf) l_textOf c_textOf k_textOf
  have b_textOf := F_textOf.binds (ps := ["tree"]) fun _ _ _ _ _ _ us hl => match us, hl with | [_], _ => rfl
  have F_written := fun_mk (st := sWritten) l_written c_written k_written
  have b_written := F_written.binds (ps := ["tree"]) fun _ _ _ _ _ _ us hl => match us, hl with | [_], _ => rfl
  have F_read := fun_mk (st := sRead) l_read c_read k_read
  have b_read := F_read.binds (ps := ["text"]) fun _ _ _ _ _ _ us hl => match us, hl with | [_], _ => rfl
  have F_deck := fun_mk (st := sDeck) l_deck c_deck k_deck
  have b_deck := F_deck.binds (ps := ["_law_script", "_law_seed"]) fun _ _ _ _ _ _ us hl => match us, hl with | [_, _], _ => rfl
  have F_draw := fun_mk (st := sDraw) l_draw c_draw k_draw
  have b_draw := F_draw.binds (ps := ["_law_deck_here", "_law_many"]) fun _ _ _ _ _ _ us hl => match us, hl with | [_, _], _ => rfl
  have F_pick := fun_mk (st := sPick) l_pick c_pick k_pick
  have b_pick := F_pick.binds (ps := ["_law_deck_here", "_law_some"]) fun _ _ _ _ _ _ us hl => match us, hl with | [_, _], _ => rfl
  have F_any := fun_mk (st := sAny) l_any c_any k_any
  have b_any := F_any.binds (ps := ["_law_deck_here", "_law_deep"]) fun _ _ _ _ _ _ us hl => match us, hl with | [_, _], _ => rfl
  have F_places := fun_mk (st := sPlaces) l_places c_places k_places
  have b_places := F_places.binds (ps := ["_law_tree", "_law_ahead"]) fun _ _ _ _ _ _ us hl => match us, hl with | [_, _], _ => rfl
  have F_part := fun_mk (st := sPart) l_part c_part k_part
  have b_part := F_part.binds (ps := ["_law_tree", "_law_place"]) fun _ _ _ _ _ _ us hl => match us, hl with | [_, _], _ => rfl
  have F_tags := fun_mk (st := sTags) l_tags c_tags k_tags
  have b_tags := F_tags.binds (ps := []) fun _ _ _ _ _ _ us hl => match us, hl with | [], _ => rfl
  have F_drawn := fun_mk (st := sDrawn) l_drawn c_drawn k_drawn
  have b_drawn := F_drawn.binds (ps := ["_law_deck_here", "_law_box", "_law_deep"]) fun _ _ _ _ _ _ us hl => match us, hl with | [_, _, _], _ => rfl
  have F_chain := fun_mk (st := sChain) l_chain c_chain k_chain
  have b_chain := F_chain.binds (ps := ["_law_deck_here", "_law_many"]) fun _ _ _ _ _ _ us hl => match us, hl with | [_, _], _ => rfl
  have F_treeText := fun_mk (st := sTreeText) l_treeText c_treeText k_treeText
  have b_treeText := F_treeText.binds (ps := ["_law_tree"]) fun _ _ _ _ _ _ us hl => match us, hl with | [_], _ => rfl
  have F_readTree := fun_mk (st := sReadTree) l_readTree c_readTree k_readTree
  have b_readTree := F_readTree.binds (ps := ["_law_text", "_law_at", "_law_is_node"]) fun _ _ _ _ _ _ us hl => match us, hl with | [_, _, _], _ => rfl
  have F_treeOf := fun_mk (st := sTreeOf) l_treeOf c_treeOf k_treeOf
  have b_treeOf := F_treeOf.binds (ps := ["_law_text"]) fun _ _ _ _ _ _ us hl => match us, hl with | [_], _ => rfl
  have F_told := fun_mk (st := sTold) l_told c_told k_told
  have b_told := F_told.binds (ps := ["_law_text", "_law_way"]) fun _ _ _ _ _ _ us hl => match us, hl with | [_, _], _ => rfl
  have F_bent := fun_mk (st := sBent) l_bent c_bent k_bent
  have b_bent := F_bent.binds (ps := ["_law_deck_here", "_law_text"]) fun _ _ _ _ _ _ us hl => match us, hl with | [_, _], _ => rfl
  have F_law := fun_mk (st := sLaw) l_law c_law k_law
  have b_law := F_law.binds (ps := ["_law_script"]) fun _ _ _ _ _ _ us hl => match us, hl with | [_], _ => rfl
  have D_isTuple : Df K mg "is_tuple" sIsTuple ["thing", "many"] f_isTuple _ := ⟨F_isTuple, PySem.W.mg_of X G a_isTuple, b_isTuple⟩
  have D_isTag : Df K mg "is_tag_value" sIsTag ["thing"] f_isTag _ := ⟨F_isTag, PySem.W.mg_of X G a_isTag, b_isTag⟩
  have D_isTree : Df K mg "is_tree_value" sIsTree ["thing"] f_isTree _ := ⟨F_isTree, PySem.W.mg_of X G a_isTree, b_isTree⟩
  have D_needTree : Df K mg "need_tree" sNeedTree ["tree"] f_needTree _ := ⟨F_needTree, PySem.W.mg_of X G a_needTree, b_needTree⟩
  have D_isPlace : Df K mg "is_place_of" sIsPlace ["tree", "thing"] f_isPlace _ := ⟨F_isPlace, PySem.W.mg_of X G a_isPlace, b_isPlace⟩
  have D_subtree : Df K mg "subtree" sSubtree ["tree", "place"] f_subtree _ := ⟨F_subtree, PySem.W.mg_of X G a_subtree, b_subtree⟩
  have D_needPlace : Df K mg "need_place" sNeedPlace ["tree", "place"] f_needPlace _ := ⟨F_needPlace, PySem.W.mg_of X G a_needPlace, b_needPlace⟩
  have D_partAt : Df K mg "part_at" sPartAt ["tree", "place"] f_partAt _ := ⟨F_partAt, PySem.W.mg_of X G a_partAt, b_partAt⟩
  have D_textOf : Df K mg "text_of" sTextOf ["tree"] f_textOf _ := ⟨F_textOf, PySem.W.mg_of X G a_textOf, b_textOf⟩
  have D_written : Df K mg "tree_written" sWritten ["tree"] f_written _ := ⟨F_written, PySem.W.mg_of X G a_written, b_written⟩
  have D_read : Df K mg "tree_read" sRead ["text"] f_read _ := ⟨F_read, PySem.W.mg_of X G a_read, b_read⟩
  have D_deck : Df K mg "_law_deck" sDeck ["_law_script", "_law_seed"] f_deck _ := ⟨F_deck, PySem.W.mg_of X G a_deck, b_deck⟩
  have D_draw : Df K mg "_law_draw" sDraw ["_law_deck_here", "_law_many"] f_draw _ := ⟨F_draw, PySem.W.mg_of X G a_draw, b_draw⟩
  have D_pick : Df K mg "_law_pick" sPick ["_law_deck_here", "_law_some"] f_pick _ := ⟨F_pick, PySem.W.mg_of X G a_pick, b_pick⟩
  have D_any : Df K mg "_law_any" sAny ["_law_deck_here", "_law_deep"] f_any _ := ⟨F_any, PySem.W.mg_of X G a_any, b_any⟩
  have D_places : Df K mg "_law_places" sPlaces ["_law_tree", "_law_ahead"] f_places _ := ⟨F_places, PySem.W.mg_of X G a_places, b_places⟩
  have D_part : Df K mg "_law_part" sPart ["_law_tree", "_law_place"] f_part _ := ⟨F_part, PySem.W.mg_of X G a_part, b_part⟩
  have D_tags : Df K mg "_law_tags" sTags [] f_tags _ := ⟨F_tags, PySem.W.mg_of X G a_tags, b_tags⟩
  have D_drawn : Df K mg "_law_drawn_tree" sDrawn ["_law_deck_here", "_law_box", "_law_deep"] f_drawn _ := ⟨F_drawn, PySem.W.mg_of X G a_drawn, b_drawn⟩
  have D_chain : Df K mg "_law_chain" sChain ["_law_deck_here", "_law_many"] f_chain _ := ⟨F_chain, PySem.W.mg_of X G a_chain, b_chain⟩
  have D_treeText : Df K mg "_law_tree_text" sTreeText ["_law_tree"] f_treeText _ := ⟨F_treeText, PySem.W.mg_of X G a_treeText, b_treeText⟩
  have D_readTree : Df K mg "_law_read_tree" sReadTree ["_law_text", "_law_at", "_law_is_node"] f_readTree _ := ⟨F_readTree, PySem.W.mg_of X G a_readTree, b_readTree⟩
  have D_treeOf : Df K mg "_law_tree_of" sTreeOf ["_law_text"] f_treeOf _ := ⟨F_treeOf, PySem.W.mg_of X G a_treeOf, b_treeOf⟩
  have D_told : Df K mg "_law_told" sTold ["_law_text", "_law_way"] f_told _ := ⟨F_told, PySem.W.mg_of X G a_told, b_told⟩
  have D_bent : Df K mg "_law_bent_text" sBent ["_law_deck_here", "_law_text"] f_bent _ := ⟨F_bent, PySem.W.mg_of X G a_bent, b_bent⟩
  have R : RTxt K CR := ⟨⟨pgR, hdR, poR, saR⟩, nAR, nBR, nTR, nFR⟩
  have B : PySem.BadX.BadTxt K mg C D fI :=
    { gC := PySem.W.mg_of X G gC, cls := ⟨nm, q, N, bs, sn, sub, ab, col, dd, m0, m1, m2, m3, m5, xL⟩, sa := sa, ga := ga, gg := gg, noN := nb, iC := aI, tC := tI, kC := kC, exC := eC, tyC := tC, hdC := hC, te := exm_self eC iC tC sC,
      fn := ⟨_, _, _, _, _, _, _, _, _, _, _, _, _, _, lI, cI⟩ }
  have kbW : KBinds K _ ["tree"] ["tree"] gApp gAppV := kb_one (fd := PySem.W.fnOf "tree_written" "tree_written" (defArgs sWritten) (defBody sWritten) (defScope sWritten) .none kV_written dc_written pm_written an_written cd_written ct_written) (fun _ => rfl) (fun _ => rfl)
  have kbR : KBinds K _ ["text"] ["text"] gApp gAppV := kb_one (fd := PySem.W.fnOf "tree_read" "tree_read" (defArgs sRead) (defBody sRead) (defScope sRead) .none kV_read dc_read pm_read an_read cd_read ct_read) (fun _ => rfl) (fun _ => rfl)
  refine ⟨PySem.W.fnOf "law" "law" (defArgs sLaw) (defBody sLaw) (defScope sLaw) .none kV_law dc_law pm_law an_law cd_law ct_law, fun s u => .of_eq rfl, fun base _ _ => ?_⟩
  have C_isTuple := D_isTuple.cal (ok_isTuple (P := l.prog) (w := w) (base := base) F_isTuple TX)
  have C_isTag := D_isTag.cal (ok_isTag (P := l.prog) (w := w) (base := base) F_isTag TX)
  have C_isTree := D_isTree.cal (ok_isTree F_isTree C_isTuple C_isTag)
  have C_needTree := D_needTree.cal (ok_needTree F_needTree C_isTree)
  have C_isPlace := D_isPlace.cal (ok_isPlace (P := l.prog) (w := w) (base := base) F_isPlace TX)
  have C_subtree := D_subtree.cal (ok_subtree (P := l.prog) (w := w) (mg := mg) (base := base) F_subtree)
  have C_needPlace := D_needPlace.cal (ok_needPlace F_needPlace C_needTree C_isPlace)
  have C_partAt := D_partAt.cal (ok_partAt F_partAt C_needPlace C_subtree)
  have C_textOf := D_textOf.cal (ok_textOf (P := l.prog) (w := w) (base := base) D_textOf 50)
  have W := ok_written F_written C_needTree C_textOf
  have M_add : Met l.prog w K mg base 1 CR "add" (spAdd CR) := ⟨_, _, _, R.cl, ⟨a_add, i_add, k_add⟩, ok_add F_add R, b_add⟩
  have M_endTag : Met l.prog w K mg base 2 CR "end_tag" (spEndTag CR) := ⟨_, _, _, R.cl, ⟨a_endTag, i_endTag, k_endTag⟩, ok_endTag F_endTag R M_add, b_endTag⟩
  have M_takeAw : Met l.prog w K mg base 2 CR "take_awaited" (spTakeAw CR) := ⟨_, _, _, R.cl, ⟨a_takeAw, i_takeAw, k_takeAw⟩, ok_takeAw F_takeAw TX R M_add, b_takeAw⟩
  have M_take : Met l.prog w K mg base 3 CR "take" (spTake CR) := ⟨_, _, _, R.cl, ⟨a_take, i_take, k_take⟩, ok_take F_take TX R M_endTag M_takeAw, b_take⟩
  have RD := ok_read F_read TX B R ⟨mkR, a_init, i_init, kcR⟩ (PySem.W.mg_of X G gCR) (ok_init (P := l.prog) (w := w) (base := base) F_init TX R) b_init M_endTag M_take
  have C_deck := D_deck.cal (ok_deck (P := l.prog) (w := w) (base := base) F_deck TX)
  have C_draw := D_draw.cal (ok_draw (P := l.prog) (w := w) (base := base) F_draw TX)
  have C_pick := D_pick.cal (ok_pick F_pick TX C_draw)
  have C_any := D_any.cal (ok_any D_any TX C_draw C_pick 3)
  have C_places := D_places.cal (ok_places (P := l.prog) (w := w) (base := base) D_places 50)
  have C_part := D_part.cal (ok_part (P := l.prog) (w := w) (mg := mg) (base := base) F_part)
  have C_tags := D_tags.cal (ok_tags (P := l.prog) (w := w) (mg := mg) (base := base) F_tags)
  have C_drawn := D_drawn.cal (ok_drawn D_drawn C_draw C_pick C_tags 9)
  have C_chain := D_chain.cal (ok_chain F_chain TX C_draw C_pick C_tags)
  have C_treeText := D_treeText.cal (ok_treeText (P := l.prog) (w := w) (base := base) D_treeText 50)
  have C_readTree := D_readTree.cal (ok_rd (P := l.prog) (w := w) (base := base) D_readTree TX 50)
  have C_treeOf := D_treeOf.cal (ok_treeOf F_treeOf TX C_readTree)
  have C_told := D_told.cal (ok_told F_told TX B (PySem.W.mg_of X G gD) hCD RD D_read.mg F_read.kp b_read kbR)
  have C_bent := D_bent.cal (ok_bent F_bent TX C_draw C_pick)
  exact ok_law F_law
    { tx := TX, deck := C_deck, draw := C_draw, pick := C_pick, any := C_any, places := C_places, part := C_part, drawn := C_drawn, chain := C_chain, treeText := C_treeText, treeOf := C_treeOf, told := C_told, bent := C_bent, partAt := C_partAt,
      written := ⟨_, _, W, D_written.mg, F_written.kp, b_written, kbW⟩, read := ⟨_, _, RD, D_read.mg, F_read.kp, b_read, kbR⟩ }
    ⟨rfl, by decide, by decide⟩ rfl
end Eo
open PySem PySem.W PyProof.Rows
set_option maxRecDepth 100000 in
set_option maxHeartbeats 0 in
theorem PySem.Challenge.cw_eyesonly_k03_whole_texts_of_trees_holds : PySem.Challenge.rw_eyesonly_k03_whole_texts_of_trees.Holds := by
  w_on; o_law; k_head; (case hw => w_witness2)
  k_fill
  refine Eo.walk_once (l := PySem.Challenge.rw_eyesonly_k03_whole_texts_of_trees) (n := 63) (x := "_law_script") (sp := Eo.spLaw) rfl (by decide) rfl (fun w h Y => PySem.W.kIn_of Y) ?F (fun K H a ns hl hS => ⟨a, ns, rfl, hS, fun _ => rfl⟩)
  case F =>
    intro w mg fa h KX G hmg
    refine' Eo.all_mk KX G hmg ?gCR ?gC ?gD ?a_init ?i_init ?l_init ?c_init ?k_init ?a_add ?i_add ?l_add ?c_add ?k_add ?a_endTag ?i_endTag ?l_endTag ?c_endTag ?k_endTag ?a_take ?i_take ?l_take ?c_take ?k_take ?a_takeAw ?i_takeAw ?l_takeAw ?c_takeAw ?k_takeAw ?a_isTuple ?l_isTuple ?c_isTuple ?k_isTuple ?a_isTag ?l_isTag ?c_isTag ?k_isTag ?a_isTree ?l_isTree ?c_isTree ?k_isTree ?a_needTree ?l_needTree ?c_needTree ?k_needTree ?a_isPlace ?l_isPlace ?c_isPlace ?k_isPlace ?a_subtree ?l_subtree ?c_subtree ?k_subtree ?a_needPlace ?l_needPlace ?c_needPlace ?k_needPlace ?a_partAt ?l_partAt ?c_partAt ?k_partAt ?a_textOf ?l_textOf ?c_textOf ?k_textOf ?a_written ?l_written ?c_written ?k_written ?a_read ?l_read ?c_read ?k_read ?a_deck ?l_deck ?c_deck ?k_deck ?a_draw ?l_draw ?c_draw ?k_draw ?a_pick ?l_pick ?c_pick ?k_pick ?a_any ?l_any ?c_any ?k_any ?a_places ?l_places ?c_places ?k_places ?a_part ?l_part ?c_part ?k_part ?a_tags ?l_tags ?c_tags ?k_tags ?a_drawn ?l_drawn ?c_drawn ?k_drawn ?a_chain ?l_chain ?c_chain ?k_chain ?a_treeText ?l_treeText ?c_treeText ?k_treeText ?a_readTree ?l_readTree ?c_readTree ?k_readTree ?a_treeOf ?l_treeOf ?c_treeOf ?k_treeOf ?a_told ?l_told ?c_told ?k_told ?a_bent ?l_bent ?c_bent ?k_bent ?a_law ?l_law ?c_law ?k_law ?pgR ?hdR ?poR ?saR ?mkR ?kcR ?nAR ?nBR ?nTR ?nFR ?xL ?sa ?ga ?gg ?nb ?aI ?tI ?lI ?cI ?kC ?eC ?tC ?hC ?iC ?sC ?hCD ?n_len ?n_int ?n_max ?n_list ?n_tuple ?n_range ?n_all ?n_repr ?n_isi ?n_enum ?n_str ?q_small ?q_longest ?q_tree ?q_node ?q_comma ?q_close
    (case gCR => k_is)
    (case gC => k_is)
    (case gD => k_is)
    (case a_init => k_is)
    (case i_init => k_is)
    (case l_init => k_is)
    (case c_init => k_is)
    (case k_init => k_is)
    (case a_add => k_is)
    (case i_add => k_is)
    (case l_add => k_is)
    (case c_add => k_is)
    (case k_add => k_is)
    (case a_endTag => k_is)
    (case i_endTag => k_is)
    (case l_endTag => k_is)
    (case c_endTag => k_is)
    (case k_endTag => k_is)
    (case a_take => k_is)
    (case i_take => k_is)
    (case l_take => k_is)
    (case c_take => k_is)
    (case k_take => k_is)
    (case a_takeAw => k_is)
    (case i_takeAw => k_is)
    (case l_takeAw => k_is)
    (case c_takeAw => k_is)
    (case k_takeAw => k_is)
    (case a_isTuple => k_is)
    (case l_isTuple => k_is)
    (case c_isTuple => k_is)
    (case k_isTuple => k_is)
    (case a_isTag => k_is)
    (case l_isTag => k_is)
    (case c_isTag => k_is)
    (case k_isTag => k_is)
    (case a_isTree => k_is)
    (case l_isTree => k_is)
    (case c_isTree => k_is)
    (case k_isTree => k_is)
    (case a_needTree => k_is)
    (case l_needTree => k_is)
    (case c_needTree => k_is)
    (case k_needTree => k_is)
    (case a_isPlace => k_is)
    (case l_isPlace => k_is)
    (case c_isPlace => k_is)
    (case k_isPlace => k_is)
    (case a_subtree => k_is)
    (case l_subtree => k_is)
    (case c_subtree => k_is)
    (case k_subtree => k_is)
    (case a_needPlace => k_is)
    (case l_needPlace => k_is)
    (case c_needPlace => k_is)
    (case k_needPlace => k_is)
    (case a_partAt => k_is)
    (case l_partAt => k_is)
    (case c_partAt => k_is)
    (case k_partAt => k_is)
    (case a_textOf => k_is)
    (case l_textOf => k_is)
    (case c_textOf => k_is)
    (case k_textOf => k_is)
    (case a_written => k_is)
    (case l_written => k_is)
    (case c_written => k_is)
    (case k_written => k_is)
    (case a_read => k_is)
    (case l_read => k_is)
    (case c_read => k_is)
    (case k_read => k_is)
    (case a_deck => k_is)
    (case l_deck => k_is)
    (case c_deck => k_is)
    (case k_deck => k_is)
    (case a_draw => k_is)
    (case l_draw => k_is)
    (case c_draw => k_is)
    (case k_draw => k_is)
    (case a_pick => k_is)
    (case l_pick => k_is)
    (case c_pick => k_is)
    (case k_pick => k_is)
    (case a_any => k_is)
    (case l_any => k_is)
    (case c_any => k_is)
    (case k_any => k_is)
    (case a_places => k_is)
    (case l_places => k_is)
    (case c_places => k_is)
    (case k_places => k_is)
    (case a_part => k_is)
    (case l_part => k_is)
    (case c_part => k_is)
    (case k_part => k_is)
    (case a_tags => k_is)
    (case l_tags => k_is)
    (case c_tags => k_is)
    (case k_tags => k_is)
    (case a_drawn => k_is)
    (case l_drawn => k_is)
    (case c_drawn => k_is)
    (case k_drawn => k_is)
    (case a_chain => k_is)
    (case l_chain => k_is)
    (case c_chain => k_is)
    (case k_chain => k_is)
    (case a_treeText => k_is)
    (case l_treeText => k_is)
    (case c_treeText => k_is)
    (case k_treeText => k_is)
    (case a_readTree => k_is)
    (case l_readTree => k_is)
    (case c_readTree => k_is)
    (case k_readTree => k_is)
    (case a_treeOf => k_is)
    (case l_treeOf => k_is)
    (case c_treeOf => k_is)
    (case k_treeOf => k_is)
    (case a_told => k_is)
    (case l_told => k_is)
    (case c_told => k_is)
    (case k_told => k_is)
    (case a_bent => k_is)
    (case l_bent => k_is)
    (case c_bent => k_is)
    (case k_bent => k_is)
    (case a_law => k_is)
    (case l_law => k_is)
    (case c_law => k_is)
    (case k_law => k_is)
    (case pgR => k_is)
    (case hdR => k_is)
    (case poR => k_is)
    (case saR => k_is)
    (case mkR => k_is)
    (case kcR => k_is)
    (case nAR => k_is)
    (case nBR => k_is)
    (case nTR => k_is)
    (case nFR => k_is)
    (case xL => k_is)
    (case sa => k_is)
    (case ga => k_is)
    (case gg => k_is)
    (case nb => k_is)
    (case aI => k_is)
    (case tI => k_is)
    (case lI => k_is)
    (case cI => k_is)
    (case kC => k_is)
    (case eC => k_is)
    (case tC => k_is)
    (case hC => k_is)
    (case iC => k_is)
    (case sC => first | rfl | k_is)
    (case hCD => k_is)
    (case n_len => k_is)
    (case n_int => k_is)
    (case n_max => k_is)
    (case n_list => k_is)
    (case n_tuple => k_is)
    (case n_range => k_is)
    (case n_all => k_is)
    (case n_repr => k_is)
    (case n_isi => k_is)
    (case n_enum => k_is)
    (case n_str => k_is)
    (case q_small => k_is)
    (case q_longest => k_is)
    (case q_tree => k_is)
    (case q_node => k_is)
    (case q_comma => k_is)
    (case q_close => k_is)
#print axioms PySem.Challenge.cw_eyesonly_k03_whole_texts_of_trees_holds
