import PyProof.Rows.All
import Wide.All
import OpenK.AllK
import Wide.FinOn
import Open.SpecLaws
import KE.OsGo
import HandS.ForSpec
import HandS.CallLocal
import HandS.CallRecv
import HandS.Codes
import HandS.Comp
import HandS.Deep
import HandS.Dict
import HandS.DictTup
import HandS.Exc
import HandS.ExcField
import HandS.ExcInit
import HandS.ExcOwn
import HandS.Iter
import HandS.NoneIn
import HandS.TryOnly
import HandS.Walk
import HandS.WordsDict
import HandS.WordsExc
import PySem.Challenge.RW_talkrooms_s01_answers
set_option Elab.async false
set_option linter.all false
set_option maxRecDepth 100000
set_option maxHeartbeats 8000000
/-! The mathematics of the house, without the program: what the specification's state keeps, its order of rooms. -/
namespace Tr
open Kcs8

/-! ### rooms -/
theorem isRoom_iff {f k : Nat} {r : Room} : isRoom f k r = true ↔ r.founder = f ∧ r.number = k := by
  unfold isRoom
  simp [Bool.and_eq_true]
theorem roomOf_some {s : Abs} {f k : Nat} {r : Room} (h : roomOf s f k = some r) : r ∈ s.rooms ∧ r.founder = f ∧ r.number = k :=
  ⟨List.mem_of_find?_eq_some h, isRoom_iff.mp (List.find?_some (p := isRoom f k) h)⟩
theorem find_with (r' : Room) (f k : Nat) : ∀ l : List Room, (l.map fun x => if isRoom r'.founder r'.number x then r' else x).find? (isRoom f k) =
    if f = r'.founder ∧ k = r'.number then (l.find? (isRoom f k)).map (fun _ => r') else l.find? (isRoom f k)
  | [] => by simp
  | x :: l => by
    have ih := find_with r' f k l
    rw [List.map_cons, List.find?_cons]
    by_cases c : isRoom r'.founder r'.number x = true
    · rw [if_pos c]
      have cx := isRoom_iff.mp c
      by_cases e : f = r'.founder ∧ k = r'.number
      · rw [if_pos e]
        obtain ⟨rfl, rfl⟩ := e
        have c' : isRoom r'.founder r'.number r' = true := isRoom_iff.mpr ⟨rfl, rfl⟩
        rw [c']
        rw [List.find?_cons, c]
        rfl
      · rw [if_neg e]
        rw [if_neg e] at ih
        have c1 : isRoom f k r' = false := by
          cases h : isRoom f k r' with
          | false => rfl
          | true => exact absurd ⟨(isRoom_iff.mp h).1.symm, (isRoom_iff.mp h).2.symm⟩ e
        have c2 : isRoom f k x = false := by
          cases h : isRoom f k x with
          | false => rfl
          | true =>
            have hx := isRoom_iff.mp h
            exact absurd ⟨hx.1.symm.trans cx.1, hx.2.symm.trans cx.2⟩ e
        rw [c1, List.find?_cons, c2]
        exact ih
    · rw [if_neg c]
      cases h : isRoom f k x with
      | true =>
        have hx := isRoom_iff.mp h
        have e : ¬ (f = r'.founder ∧ k = r'.number) := fun z => c (isRoom_iff.mpr ⟨hx.1.trans z.1, hx.2.trans z.2⟩)
        rw [if_neg e, List.find?_cons, h]
      | false =>
        rw [List.find?_cons, h]
        exact ih
theorem roomOf_with (s : Abs) (r' : Room) (f k : Nat) : roomOf (withRoom s r') f k = if f = r'.founder ∧ k = r'.number then (roomOf s f k).map (fun _ => r') else roomOf s f k :=
  find_with r' f k s.rooms
theorem with_with (s : Abs) (r1 r2 : Room) (hf : r2.founder = r1.founder) (hk : r2.number = r1.number) : withRoom (withRoom s r1) r2 = withRoom s r2 := by
  unfold withRoom
  simp only [List.map_map]
  congr 1
  apply List.map_congr_left
  intro x _
  simp only [Function.comp]
  rw [hf, hk]
  by_cases c : isRoom r1.founder r1.number x = true
  · have c' : isRoom r1.founder r1.number r1 = true := isRoom_iff.mpr ⟨rfl, rfl⟩
    rw [if_pos c, if_pos c', if_pos c]
  · rw [if_neg c]
theorem memberOf_some {r : Room} {p : Nat} {m : Member} (h : memberOf r p = some m) : m ∈ r.members ∧ m.who = p :=
  ⟨List.mem_of_find?_eq_some h, by have := List.find?_some (p := fun m : Member => m.who == p) h; simpa using this⟩
theorem memberOf_none {r : Room} {p : Nat} : memberOf r p = none ↔ ∀ m ∈ r.members, m.who ≠ p := by
  unfold memberOf
  rw [List.find?_eq_none]
  constructor
  · intro h m hm e
    exact h m hm (by simp [e])
  · intro h m hm e
    exact h m hm (by simpa using e)
theorem find_who {p : Nat} : ∀ {l : List Member} {m : Member}, (l.map (·.who)).Nodup → m ∈ l → m.who = p → l.find? (fun m => m.who == p) = some m
  | x :: l, m, hn, hm, e => by
    rw [List.map_cons, List.nodup_cons] at hn
    rw [List.find?_cons]
    by_cases c : x.who = p
    · have c' : (x.who == p) = true := by simpa using c
      rw [c']
      cases hm with
      | head => rfl
      | tail _ h =>
        have : x.who ∈ l.map (·.who) := List.mem_map.mpr ⟨m, h, e.trans c.symm⟩
        exact absurd this hn.1
    · have c' : (x.who == p) = false := by simpa using c
      rw [c']
      cases hm with
      | head => exact absurd e c
      | tail _ h => exact find_who hn.2 h e

/-! ### what holds of the state -/
structure MsgOk (x : Message) : Prop where
  text : x.text.length ≤ 256
  nd : x.marks.Nodup
  lt : ∀ m ∈ x.marks, m.1 < 16 ∧ m.2 < 16
structure RoomOk (r : Room) : Prop where
  mnd : (r.members.map (·.who)).Nodup
  mlt : ∀ m ∈ r.members, m.who < 16
  ind : r.invited.Nodup
  ilt : ∀ q ∈ r.invited, q < 16
  dis : ∀ m ∈ r.members, m.who ∉ r.invited
  few : r.members.length + r.invited.length ≤ 12
  msgs : r.messages.length ≤ 128
  msg : ∀ x ∈ r.messages, MsgOk x
  bnd : ∀ m ∈ r.members, m.since ≤ 128 ∧ m.read ≤ 128
def cnt (s : Abs) (f : Nat) : Nat := s.founded.getD f 0
structure WF (s : Abs) : Prop where
  len : s.founded.length = 16
  le4 : ∀ f, cnt s f ≤ 4
  here : ∀ f k, (roomOf s f k).isSome = true ↔ f < 16 ∧ k < cnt s f
  keys : (s.rooms.map fun r => (r.founder, r.number)).Nodup
  ok : ∀ r ∈ s.rooms, RoomOk r
theorem WF.room {s : Abs} (W : WF s) {f k : Nat} {r : Room} (h : roomOf s f k = some r) : RoomOk r := W.ok r (roomOf_some h).1
theorem WF.lt {s : Abs} (W : WF s) {f k : Nat} {r : Room} (h : roomOf s f k = some r) : f < 16 ∧ k < cnt s f := (W.here f k).mp (by rw [h]; rfl)
theorem wf_first : WF first where
  len := by decide
  le4 f := by
    show (List.replicate 16 0).getD f 0 ≤ 4
    rw [List.getD_eq_getElem?_getD, List.getElem?_replicate]
    split <;> simp
  here f k := by
    constructor
    · intro h
      cases h
    · intro h
      exfalso
      have h2 : k < (List.replicate 16 0).getD f 0 := h.2
      rw [List.getD_eq_getElem?_getD, List.getElem?_replicate] at h2
      split at h2 <;> simp at h2
  keys := List.nodup_nil
  ok _ h := by cases h
theorem WF.with {s : Abs} (W : WF s) {f k : Nat} {r r' : Room} (_hr : roomOf s f k = some r) (_hf : r'.founder = f) (_hk : r'.number = k) (ok : RoomOk r') : WF (withRoom s r') where
  len := W.len
  le4 := W.le4
  here f' k' := by
    rw [roomOf_with]
    show _ ↔ f' < 16 ∧ k' < cnt s f'
    rw [← W.here f' k']
    split
    · rw [Option.isSome_map]
    · exact Iff.rfl
  keys := by
    have e : ((withRoom s r').rooms.map fun r => (r.founder, r.number)) = s.rooms.map fun r => (r.founder, r.number) := by
      show (s.rooms.map _).map _ = _
      rw [List.map_map]
      apply List.map_congr_left
      intro x _
      simp only [Function.comp]
      by_cases c : isRoom r'.founder r'.number x = true
      · rw [if_pos c, (isRoom_iff.mp c).1, (isRoom_iff.mp c).2]
      · rw [if_neg c]
    rw [e]
    exact W.keys
  ok x hx := by
    have hx' : x ∈ s.rooms.map fun x => if isRoom r'.founder r'.number x then r' else x := hx
    rw [List.mem_map] at hx'
    obtain ⟨y, hy, rfl⟩ := hx'
    by_cases c : isRoom r'.founder r'.number y = true
    · rw [if_pos c]
      exact ok
    · rw [if_neg c]
      exact W.ok y hy
/-- a new room -/
def newRoom (p n : Nat) (b : Bool) : Room := ⟨p, n, b, [⟨p, true, 0, 0⟩], [], []⟩
def foundS (s : Abs) (p : Nat) (b : Bool) : Abs := { rooms := s.rooms ++ [newRoom p (cnt s p) b], founded := s.founded.set p (cnt s p + 1) }
theorem cnt_found {s : Abs} {p : Nat} {b : Bool} (W : WF s) (hp : p < 16) (f : Nat) : cnt (foundS s p b) f = if f = p then cnt s p + 1 else cnt s f := by
  show (s.founded.set p (cnt s p + 1)).getD f 0 = _
  rw [List.getD_eq_getElem?_getD, List.getElem?_set]
  have hl : p < s.founded.length := by rw [W.len]; exact hp
  by_cases c : f = p
  · subst c
    rw [if_pos rfl, if_pos hl, if_pos rfl]
    rfl
  · rw [if_neg (fun e => c e.symm), if_neg c]
    unfold cnt
    rw [List.getD_eq_getElem?_getD]
theorem roomOf_found {s : Abs} {p : Nat} {b : Bool} (W : WF s) (f k : Nat) : roomOf (foundS s p b) f k = if f = p ∧ k = cnt s p then some (newRoom p (cnt s p) b) else roomOf s f k := by
  show (s.rooms ++ [newRoom p (cnt s p) b]).find? (isRoom f k) = _
  rw [List.find?_append]
  by_cases c : f = p ∧ k = cnt s p
  · rw [if_pos c]
    obtain ⟨rfl, rfl⟩ := c
    have h : roomOf s f (cnt s f) = none := by
      cases e : roomOf s f (cnt s f) with
      | none => rfl
      | some r => exact absurd (W.lt e).2 (Nat.lt_irrefl _)
    have h' : s.rooms.find? (isRoom f (cnt s f)) = none := h
    rw [h']
    have : isRoom f (cnt s f) (newRoom f (cnt s f) b) = true := isRoom_iff.mpr ⟨rfl, rfl⟩
    simp [this]
  · rw [if_neg c]
    have : isRoom f k (newRoom p (cnt s p) b) = false := by
      cases h : isRoom f k (newRoom p (cnt s p) b) with
      | false => rfl
      | true => exact absurd ⟨(isRoom_iff.mp h).1.symm, (isRoom_iff.mp h).2.symm⟩ c
    simp only [List.find?_cons, this, List.find?_nil]
    show (roomOf s f k).or none = roomOf s f k
    cases roomOf s f k <;> rfl
theorem roomOk_new {p n : Nat} {b : Bool} (hp : p < 16) : RoomOk (newRoom p n b) where
  mnd := by simp [newRoom]
  mlt m hm := by
    simp only [newRoom, List.mem_singleton] at hm
    subst hm
    exact hp
  ind := List.nodup_nil
  ilt q hq := by cases hq
  dis m hm h := by cases h
  few := by simp [newRoom]
  msgs := by simp [newRoom]
  msg x hx := by cases hx
  bnd m hm := by
    simp only [newRoom, List.mem_singleton] at hm
    subst hm
    exact ⟨Nat.zero_le _, Nat.zero_le _⟩
theorem wf_found {s : Abs} {p : Nat} {b : Bool} (W : WF s) (hp : p < 16) (h4 : cnt s p < 4) : WF (foundS s p b) where
  len := by
    show (s.founded.set p (cnt s p + 1)).length = 16
    rw [List.length_set, W.len]
  le4 f := by
    rw [cnt_found W hp]
    split
    · omega
    · exact W.le4 f
  here f k := by
    rw [roomOf_found W, cnt_found W hp]
    by_cases c : f = p ∧ k = cnt s p
    · rw [if_pos c]
      obtain ⟨rfl, rfl⟩ := c
      rw [if_pos rfl]
      exact ⟨fun _ => ⟨hp, by omega⟩, fun _ => rfl⟩
    · rw [if_neg c, W.here f k]
      by_cases e : f = p
      · subst e
        rw [if_pos rfl]
        have : k ≠ cnt s f := fun z => c ⟨rfl, z⟩
        omega
      · rw [if_neg e]
  keys := by
    show ((s.rooms ++ [newRoom p (cnt s p) b]).map fun r => (r.founder, r.number)).Nodup
    rw [List.map_append, List.nodup_append]
    refine ⟨W.keys, by simp, fun a ha b' hb e => ?_⟩
    simp only [List.map_cons, List.map_nil, List.mem_singleton] at hb
    rw [List.mem_map] at ha
    obtain ⟨r, hr, rfl⟩ := ha
    rw [hb] at e
    have e1 : r.founder = p := (Prod.mk.inj e).1
    have e2 : r.number = cnt s p := (Prod.mk.inj e).2
    have h : (roomOf s p (cnt s p)).isSome = true := List.find?_isSome.mpr ⟨r, hr, isRoom_iff.mpr ⟨e1, e2⟩⟩
    exact absurd ((W.here _ _).mp h).2 (Nat.lt_irrefl _)
  ok r hr := by
    have hr' : r ∈ s.rooms ++ [newRoom p (cnt s p) b] := hr
    rw [List.mem_append, List.mem_singleton] at hr'
    rcases hr' with h | h
    · exact W.ok r h
    · subst h
      exact roomOk_new hp

/-! ### the rooms in order -/
def keysF (s : Abs) (f : Nat) : List (Nat × Nat) := (List.range (cnt s f)).map fun k => (f, k)
def keysOf (s : Abs) : List (Nat × Nat) := (List.range 16).flatMap (keysF s)
theorem mem_keysOf {s : Abs} (W : WF s) {p : Nat × Nat} : p ∈ keysOf s ↔ (roomOf s p.1 p.2).isSome = true := by
  obtain ⟨f, k⟩ := p
  unfold keysOf keysF
  rw [List.mem_flatMap, W.here]
  constructor
  · rintro ⟨f', hf, h⟩
    rw [List.mem_map] at h
    obtain ⟨k', hk, e⟩ := h
    cases e
    exact ⟨List.mem_range.mp hf, List.mem_range.mp hk⟩
  · rintro ⟨h1, h2⟩
    exact ⟨f, List.mem_range.mpr h1, List.mem_map.mpr ⟨k, List.mem_range.mpr h2, rfl⟩⟩
def lexLt (a b : Nat × Nat) : Prop := a.1 < b.1 ∨ (a.1 = b.1 ∧ a.2 < b.2)
theorem keysOf_sorted (s : Abs) : (keysOf s).Pairwise lexLt := by
  unfold keysOf keysF
  rw [List.pairwise_flatMap]
  constructor
  · intro f _
    rw [List.pairwise_map]
    exact List.pairwise_lt_range.imp fun h => Or.inr ⟨rfl, h⟩
  · refine List.pairwise_lt_range.imp fun {a b} h x hx y hy => ?_
    rw [List.mem_map] at hx hy
    obtain ⟨_, _, rfl⟩ := hx
    obtain ⟨_, _, rfl⟩ := hy
    exact Or.inl h
theorem keysOf_length (s : Abs) (W : WF s) : (keysOf s).length ≤ 64 := by
  unfold keysOf keysF
  rw [List.length_flatMap]
  have : ∀ l : List Nat, (l.map fun f => ((List.range (cnt s f)).map fun k => (f, k)).length).sum ≤ 4 * l.length := by
    intro l
    induction l with
    | nil => simp
    | cons a l ih =>
      have h := W.le4 a
      simp only [List.map_cons, List.sum_cons, List.length_cons, List.length_map, List.length_range] at ih ⊢
      omega
  have h := this (List.range 16)
  rw [List.length_range] at h
  exact h
def roomLe (a b : Room) : Bool := decide (a.founder < b.founder) || (a.founder == b.founder && decide (a.number ≤ b.number))
theorem roomLe_iff {a b : Room} : roomLe a b = true ↔ a.founder < b.founder ∨ (a.founder = b.founder ∧ a.number ≤ b.number) := by
  unfold roomLe
  simp
theorem inOrder_eq {s : Abs} (W : WF s) : inOrder s.rooms = (keysOf s).filterMap fun p => roomOf s p.1 p.2 := by
  have hroom : ∀ r ∈ s.rooms, roomOf s r.founder r.number = some r := by
    intro r hr
    have h : (roomOf s r.founder r.number).isSome = true := List.find?_isSome.mpr ⟨r, hr, isRoom_iff.mpr ⟨rfl, rfl⟩⟩
    obtain ⟨x, hx⟩ := Option.isSome_iff_exists.mp h
    obtain ⟨h1, h2, h3⟩ := roomOf_some hx
    have hn : (s.rooms.map fun r => (r.founder, r.number)).Nodup := W.keys
    have : ∀ l : List Room, (l.map fun r => (r.founder, r.number)).Nodup → x ∈ l → r ∈ l → x = r := by
      intro l
      induction l with
      | nil => intro _ h; cases h
      | cons a l ih =>
        intro hn hx hr
        rw [List.map_cons, List.nodup_cons] at hn
        have key : ∀ y ∈ l, ¬ (a.founder = y.founder ∧ a.number = y.number) := fun y hy e => hn.1 (List.mem_map.mpr ⟨y, hy, by rw [e.1, e.2]⟩)
        cases hx with
        | head =>
          cases hr with
          | head => rfl
          | tail _ hr => exact absurd ⟨h2, h3⟩ (key r hr)
        | tail _ hx =>
          cases hr with
          | head => exact absurd ⟨h2.symm, h3.symm⟩ (key x hx)
          | tail _ hr => exact ih hn.2 hx hr
    rw [hx, this _ hn h1 hr]
  have hnd : s.rooms.Nodup := by
    have h := W.keys
    rw [List.nodup_iff_pairwise_ne, List.pairwise_map] at h
    rw [List.nodup_iff_pairwise_ne]
    exact h.imp fun h e => h (by rw [e])
  have hks := keysOf_sorted s
  have hR : ((keysOf s).filterMap fun p => roomOf s p.1 p.2).Pairwise fun a b => roomLe a b = true ∧ a ≠ b := by
    rw [List.pairwise_filterMap]
    refine hks.imp fun {a b} h x hx y hy => ?_
    obtain ⟨_, x1, x2⟩ := roomOf_some hx
    obtain ⟨_, y1, y2⟩ := roomOf_some hy
    unfold lexLt at h
    refine ⟨roomLe_iff.mpr ?_, fun e => ?_⟩
    · rw [x1, x2, y1, y2]
      omega
    · rw [e] at x1 x2
      rw [x1] at y1
      rw [x2] at y2
      omega
  refine List.Perm.eq_of_pairwise (le := fun a b => roomLe a b = true) ?_ ?_ (hR.imp fun h => h.1) ?_
  · intro a b ha hb h1 h2
    have ha' : a ∈ s.rooms := (List.mergeSort_perm s.rooms _).mem_iff.mp ha
    rw [List.mem_filterMap] at hb
    obtain ⟨p, _, hb⟩ := hb
    obtain ⟨hb', _⟩ := roomOf_some hb
    have e := roomLe_iff.mp h1
    have e' := roomLe_iff.mp h2
    have x1 := hroom a ha'
    have x2 := hroom b hb'
    have f1 : a.founder = b.founder := by omega
    have f2 : a.number = b.number := by omega
    rw [f1, f2, x2] at x1
    exact (Option.some.inj x1).symm
  · refine List.pairwise_mergeSort (le := roomLe) ?_ ?_ s.rooms
    · intro a b c h1 h2
      rw [roomLe_iff] at h1 h2 ⊢
      omega
    · intro a b
      rw [Bool.or_eq_true, roomLe_iff, roomLe_iff]
      omega
  · refine (List.mergeSort_perm s.rooms _).trans ?_
    rw [List.perm_ext_iff_of_nodup hnd (List.nodup_iff_pairwise_ne.mpr (hR.imp fun h => h.2))]
    intro r
    rw [List.mem_filterMap]
    constructor
    · intro hr
      refine ⟨(r.founder, r.number), ?_, hroom r hr⟩
      rw [mem_keysOf W, hroom r hr]
      rfl
    · rintro ⟨p, _, hp⟩
      exact (roomOf_some hp).1
end Tr
/-! A list of calls, read off the tape. -/
namespace Tr
open Kcs8
def idx : Call → Nat
  | .begin_ => 0
  | .found .. => 1
  | .invite .. => 2
  | .join .. => 3
  | .leave .. => 4
  | .out .. => 5
  | .lift .. => 6
  | .past .. => 7
  | .say .. => 8
  | .change .. => 9
  | .remove .. => 10
  | .mark .. => 11
  | .seen .. => 12
  | .read .. => 13
  | .unread .. => 14
  | .rooms .. => 15
  | .people .. => 16
  | .find .. => 17
def numsOf : Call → List Nat
  | .begin_ => []
  | .found p b => [p, b]
  | .invite p f k q => [p, f, k, q]
  | .join p f k => [p, f, k]
  | .leave p f k => [p, f, k]
  | .out p f k q => [p, f, k, q]
  | .lift p f k q => [p, f, k, q]
  | .past p f k b => [p, f, k, b]
  | .say p f k a _ => [p, f, k, a]
  | .change p f k m _ => [p, f, k, m]
  | .remove p f k m => [p, f, k, m]
  | .mark p f k m j => [p, f, k, m, j]
  | .seen p f k m => [p, f, k, m]
  | .read p f k m => [p, f, k, m]
  | .unread p f k => [p, f, k]
  | .rooms p j => [p, j]
  | .people p f k j => [p, f, k, j]
  | .find p _ j => [p, j]
def rowOf : Call → Option (List Nat)
  | .say _ _ _ _ t => some t
  | .change _ _ _ _ t => some t
  | .find _ w _ => some w
  | _ => none
def intsOf (l : List Nat) : List Int := l.map fun (x : Nat) => (x : Int)
def rowPart : Option (List Nat) → List Int
  | none => []
  | some t => (t.length : Int) :: intsOf t
def encode (c : Call) : List Int := (idx c : Int) :: (intsOf (numsOf c) ++ rowPart (rowOf c))
/-- what DOC lets be handed in, of one call -/
structure Fine (c : Call) : Prop where
  nums : ∀ x ∈ numsOf c, x < 4294967296
  row : ∀ t, rowOf c = some t → t.length ≤ 400 ∧ ∀ b ∈ t, b < 256
def saidTo (c : Call) (s : Abs) : List Int := Kcs8Neutral.told (Kcs8.step s c).2
def play : Abs → List Call → List (List Int)
  | _, [] => []
  | s, c :: l => saidTo c s :: play (Kcs8.step s c).1 l
def out (l : List (List Int)) : List Int := l.flatMap fun a => (a.length : Int) :: a

theorem whole_id (c : List (List Int)) : PyKcs8.whole c = c := by
  unfold PyKcs8.whole
  split <;> rfl
theorem map_whole (l : List (List (List Int))) : l.map PyKcs8.whole = l := by
  have : PyKcs8.whole = id := funext whole_id
  rw [this, List.map_id]
theorem nat32 {z : Int} (h : Kcs8Neutral.natural z 32 = true) : (z.toNat : Int) = z ∧ z.toNat < 4294967296 := by
  unfold Kcs8Neutral.natural at h
  rw [Bool.and_eq_true, decide_eq_true_eq, decide_eq_true_eq] at h
  have h2 : z < 4294967296 := h.2
  omega
theorem nat8 {z : Int} (h : Kcs8Neutral.natural z 8 = true) : (z.toNat : Int) = z ∧ z.toNat < 256 := by
  unfold Kcs8Neutral.natural at h
  rw [Bool.and_eq_true, decide_eq_true_eq, decide_eq_true_eq] at h
  have h2 : z < 256 := h.2
  omega
theorem row8 : ∀ {g : List Int}, (g.all fun z => Kcs8Neutral.natural z 8) = true → intsOf (g.map Int.toNat) = g ∧ ∀ b ∈ g.map Int.toNat, b < 256
  | [], _ => ⟨rfl, fun _ h => by cases h⟩
  | z :: g, h => by
    rw [List.all_cons, Bool.and_eq_true] at h
    obtain ⟨h1, h2⟩ := h
    obtain ⟨i1, i2⟩ := row8 h2
    refine ⟨?_, fun b hb => ?_⟩
    · show (z.toNat : Int) :: intsOf (g.map Int.toNat) = z :: g
      rw [(nat8 h1).1, i1]
    · rw [List.map_cons, List.mem_cons] at hb
      rcases hb with rfl | hb
      · exact (nat8 h1).2
      · exact i2 b hb
/-- a call as the document's lists have it -/
structure IsCall (c : List (List Int)) (d : Call) : Prop where
  call : Kcs8Neutral.call c = d
  fine : Fine d
  num : c.headD [] = (idx d : Int) :: intsOf (numsOf d)
  rows : c.drop 1 = (match rowOf d with | none => [] | some t => [intsOf t])
theorem asked1_call {c : List (List Int)} (h : Kcs8Neutral.asked1 c = true) (hr : ∀ r ∈ c.drop 1, r.length ≤ 400) : ∃ d, IsCall c d := by
  unfold Kcs8Neutral.asked1 at h
  split at h
  all_goals first
    | (exact absurd h Bool.false_ne_true)
    | skip
  all_goals (simp only [Bool.and_eq_true] at h)
  · exact ⟨.begin_, rfl, ⟨fun x hx => (by cases hx), fun t ht => (by cases ht)⟩, rfl, rfl⟩
  · rename_i a0 b0
    obtain ⟨h1, h2⟩ := h
    have q1 := nat32 h1
    have q2 := nat32 h2
    refine ⟨.found a0.toNat b0.toNat, rfl, ⟨fun x hx => ?_, fun t ht => ?_⟩, ?_, ?_⟩
    · simp only [numsOf, List.mem_cons, List.not_mem_nil, or_false] at hx
      omega
    · cases ht
    · show (_ :: [a0, b0] : List Int) = _ :: [(a0.toNat : Int), (b0.toNat : Int)]
      rw [q1.1, q2.1]
      rfl
    · rfl
  · rename_i a0 b0 d0 e0
    obtain ⟨⟨⟨h1, h2⟩, h3⟩, h4⟩ := h
    have q1 := nat32 h1
    have q2 := nat32 h2
    have q3 := nat32 h3
    have q4 := nat32 h4
    refine ⟨.invite a0.toNat b0.toNat d0.toNat e0.toNat, rfl, ⟨fun x hx => ?_, fun t ht => ?_⟩, ?_, ?_⟩
    · simp only [numsOf, List.mem_cons, List.not_mem_nil, or_false] at hx
      omega
    · cases ht
    · show (_ :: [a0, b0, d0, e0] : List Int) = _ :: [(a0.toNat : Int), (b0.toNat : Int), (d0.toNat : Int), (e0.toNat : Int)]
      rw [q1.1, q2.1, q3.1, q4.1]
      rfl
    · rfl
  · rename_i a0 b0 d0
    obtain ⟨⟨h1, h2⟩, h3⟩ := h
    have q1 := nat32 h1
    have q2 := nat32 h2
    have q3 := nat32 h3
    refine ⟨.join a0.toNat b0.toNat d0.toNat, rfl, ⟨fun x hx => ?_, fun t ht => ?_⟩, ?_, ?_⟩
    · simp only [numsOf, List.mem_cons, List.not_mem_nil, or_false] at hx
      omega
    · cases ht
    · show (_ :: [a0, b0, d0] : List Int) = _ :: [(a0.toNat : Int), (b0.toNat : Int), (d0.toNat : Int)]
      rw [q1.1, q2.1, q3.1]
      rfl
    · rfl
  · rename_i a0 b0 d0
    obtain ⟨⟨h1, h2⟩, h3⟩ := h
    have q1 := nat32 h1
    have q2 := nat32 h2
    have q3 := nat32 h3
    refine ⟨.leave a0.toNat b0.toNat d0.toNat, rfl, ⟨fun x hx => ?_, fun t ht => ?_⟩, ?_, ?_⟩
    · simp only [numsOf, List.mem_cons, List.not_mem_nil, or_false] at hx
      omega
    · cases ht
    · show (_ :: [a0, b0, d0] : List Int) = _ :: [(a0.toNat : Int), (b0.toNat : Int), (d0.toNat : Int)]
      rw [q1.1, q2.1, q3.1]
      rfl
    · rfl
  · rename_i a0 b0 d0 e0
    obtain ⟨⟨⟨h1, h2⟩, h3⟩, h4⟩ := h
    have q1 := nat32 h1
    have q2 := nat32 h2
    have q3 := nat32 h3
    have q4 := nat32 h4
    refine ⟨.out a0.toNat b0.toNat d0.toNat e0.toNat, rfl, ⟨fun x hx => ?_, fun t ht => ?_⟩, ?_, ?_⟩
    · simp only [numsOf, List.mem_cons, List.not_mem_nil, or_false] at hx
      omega
    · cases ht
    · show (_ :: [a0, b0, d0, e0] : List Int) = _ :: [(a0.toNat : Int), (b0.toNat : Int), (d0.toNat : Int), (e0.toNat : Int)]
      rw [q1.1, q2.1, q3.1, q4.1]
      rfl
    · rfl
  · rename_i a0 b0 d0 e0
    obtain ⟨⟨⟨h1, h2⟩, h3⟩, h4⟩ := h
    have q1 := nat32 h1
    have q2 := nat32 h2
    have q3 := nat32 h3
    have q4 := nat32 h4
    refine ⟨.lift a0.toNat b0.toNat d0.toNat e0.toNat, rfl, ⟨fun x hx => ?_, fun t ht => ?_⟩, ?_, ?_⟩
    · simp only [numsOf, List.mem_cons, List.not_mem_nil, or_false] at hx
      omega
    · cases ht
    · show (_ :: [a0, b0, d0, e0] : List Int) = _ :: [(a0.toNat : Int), (b0.toNat : Int), (d0.toNat : Int), (e0.toNat : Int)]
      rw [q1.1, q2.1, q3.1, q4.1]
      rfl
    · rfl
  · rename_i a0 b0 d0 e0
    obtain ⟨⟨⟨h1, h2⟩, h3⟩, h4⟩ := h
    have q1 := nat32 h1
    have q2 := nat32 h2
    have q3 := nat32 h3
    have q4 := nat32 h4
    refine ⟨.past a0.toNat b0.toNat d0.toNat e0.toNat, rfl, ⟨fun x hx => ?_, fun t ht => ?_⟩, ?_, ?_⟩
    · simp only [numsOf, List.mem_cons, List.not_mem_nil, or_false] at hx
      omega
    · cases ht
    · show (_ :: [a0, b0, d0, e0] : List Int) = _ :: [(a0.toNat : Int), (b0.toNat : Int), (d0.toNat : Int), (e0.toNat : Int)]
      rw [q1.1, q2.1, q3.1, q4.1]
      rfl
    · rfl
  · rename_i a0 b0 d0 e0 g0r
    obtain ⟨⟨⟨⟨h1, h2⟩, h3⟩, h4⟩, h5⟩ := h
    have q1 := nat32 h1
    have q2 := nat32 h2
    have q3 := nat32 h3
    have q4 := nat32 h4
    have qr := row8 h5
    refine ⟨.say a0.toNat b0.toNat d0.toNat e0.toNat (g0r.map Int.toNat), rfl, ⟨fun x hx => ?_, fun t ht => ?_⟩, ?_, ?_⟩
    · simp only [numsOf, List.mem_cons, List.not_mem_nil, or_false] at hx
      omega
    · cases ht
      exact ⟨by rw [List.length_map]; exact hr g0r (List.mem_cons_self ..), qr.2⟩
    · show (_ :: [a0, b0, d0, e0] : List Int) = _ :: [(a0.toNat : Int), (b0.toNat : Int), (d0.toNat : Int), (e0.toNat : Int)]
      rw [q1.1, q2.1, q3.1, q4.1]
      rfl
    · show [g0r] = [intsOf (g0r.map Int.toNat)]
      rw [qr.1]
  · rename_i a0 b0 d0 e0 g0r
    obtain ⟨⟨⟨⟨h1, h2⟩, h3⟩, h4⟩, h5⟩ := h
    have q1 := nat32 h1
    have q2 := nat32 h2
    have q3 := nat32 h3
    have q4 := nat32 h4
    have qr := row8 h5
    refine ⟨.change a0.toNat b0.toNat d0.toNat e0.toNat (g0r.map Int.toNat), rfl, ⟨fun x hx => ?_, fun t ht => ?_⟩, ?_, ?_⟩
    · simp only [numsOf, List.mem_cons, List.not_mem_nil, or_false] at hx
      omega
    · cases ht
      exact ⟨by rw [List.length_map]; exact hr g0r (List.mem_cons_self ..), qr.2⟩
    · show (_ :: [a0, b0, d0, e0] : List Int) = _ :: [(a0.toNat : Int), (b0.toNat : Int), (d0.toNat : Int), (e0.toNat : Int)]
      rw [q1.1, q2.1, q3.1, q4.1]
      rfl
    · show [g0r] = [intsOf (g0r.map Int.toNat)]
      rw [qr.1]
  · rename_i a0 b0 d0 e0
    obtain ⟨⟨⟨h1, h2⟩, h3⟩, h4⟩ := h
    have q1 := nat32 h1
    have q2 := nat32 h2
    have q3 := nat32 h3
    have q4 := nat32 h4
    refine ⟨.remove a0.toNat b0.toNat d0.toNat e0.toNat, rfl, ⟨fun x hx => ?_, fun t ht => ?_⟩, ?_, ?_⟩
    · simp only [numsOf, List.mem_cons, List.not_mem_nil, or_false] at hx
      omega
    · cases ht
    · show (_ :: [a0, b0, d0, e0] : List Int) = _ :: [(a0.toNat : Int), (b0.toNat : Int), (d0.toNat : Int), (e0.toNat : Int)]
      rw [q1.1, q2.1, q3.1, q4.1]
      rfl
    · rfl
  · rename_i a0 b0 d0 e0 g0
    obtain ⟨⟨⟨⟨h1, h2⟩, h3⟩, h4⟩, h5⟩ := h
    have q1 := nat32 h1
    have q2 := nat32 h2
    have q3 := nat32 h3
    have q4 := nat32 h4
    have q5 := nat32 h5
    refine ⟨.mark a0.toNat b0.toNat d0.toNat e0.toNat g0.toNat, rfl, ⟨fun x hx => ?_, fun t ht => ?_⟩, ?_, ?_⟩
    · simp only [numsOf, List.mem_cons, List.not_mem_nil, or_false] at hx
      omega
    · cases ht
    · show (_ :: [a0, b0, d0, e0, g0] : List Int) = _ :: [(a0.toNat : Int), (b0.toNat : Int), (d0.toNat : Int), (e0.toNat : Int), (g0.toNat : Int)]
      rw [q1.1, q2.1, q3.1, q4.1, q5.1]
      rfl
    · rfl
  · rename_i a0 b0 d0 e0
    obtain ⟨⟨⟨h1, h2⟩, h3⟩, h4⟩ := h
    have q1 := nat32 h1
    have q2 := nat32 h2
    have q3 := nat32 h3
    have q4 := nat32 h4
    refine ⟨.seen a0.toNat b0.toNat d0.toNat e0.toNat, rfl, ⟨fun x hx => ?_, fun t ht => ?_⟩, ?_, ?_⟩
    · simp only [numsOf, List.mem_cons, List.not_mem_nil, or_false] at hx
      omega
    · cases ht
    · show (_ :: [a0, b0, d0, e0] : List Int) = _ :: [(a0.toNat : Int), (b0.toNat : Int), (d0.toNat : Int), (e0.toNat : Int)]
      rw [q1.1, q2.1, q3.1, q4.1]
      rfl
    · rfl
  · rename_i a0 b0 d0 e0
    obtain ⟨⟨⟨h1, h2⟩, h3⟩, h4⟩ := h
    have q1 := nat32 h1
    have q2 := nat32 h2
    have q3 := nat32 h3
    have q4 := nat32 h4
    refine ⟨.read a0.toNat b0.toNat d0.toNat e0.toNat, rfl, ⟨fun x hx => ?_, fun t ht => ?_⟩, ?_, ?_⟩
    · simp only [numsOf, List.mem_cons, List.not_mem_nil, or_false] at hx
      omega
    · cases ht
    · show (_ :: [a0, b0, d0, e0] : List Int) = _ :: [(a0.toNat : Int), (b0.toNat : Int), (d0.toNat : Int), (e0.toNat : Int)]
      rw [q1.1, q2.1, q3.1, q4.1]
      rfl
    · rfl
  · rename_i a0 b0 d0
    obtain ⟨⟨h1, h2⟩, h3⟩ := h
    have q1 := nat32 h1
    have q2 := nat32 h2
    have q3 := nat32 h3
    refine ⟨.unread a0.toNat b0.toNat d0.toNat, rfl, ⟨fun x hx => ?_, fun t ht => ?_⟩, ?_, ?_⟩
    · simp only [numsOf, List.mem_cons, List.not_mem_nil, or_false] at hx
      omega
    · cases ht
    · show (_ :: [a0, b0, d0] : List Int) = _ :: [(a0.toNat : Int), (b0.toNat : Int), (d0.toNat : Int)]
      rw [q1.1, q2.1, q3.1]
      rfl
    · rfl
  · rename_i a0 b0
    obtain ⟨h1, h2⟩ := h
    have q1 := nat32 h1
    have q2 := nat32 h2
    refine ⟨.rooms a0.toNat b0.toNat, rfl, ⟨fun x hx => ?_, fun t ht => ?_⟩, ?_, ?_⟩
    · simp only [numsOf, List.mem_cons, List.not_mem_nil, or_false] at hx
      omega
    · cases ht
    · show (_ :: [a0, b0] : List Int) = _ :: [(a0.toNat : Int), (b0.toNat : Int)]
      rw [q1.1, q2.1]
      rfl
    · rfl
  · rename_i a0 b0 d0 e0
    obtain ⟨⟨⟨h1, h2⟩, h3⟩, h4⟩ := h
    have q1 := nat32 h1
    have q2 := nat32 h2
    have q3 := nat32 h3
    have q4 := nat32 h4
    refine ⟨.people a0.toNat b0.toNat d0.toNat e0.toNat, rfl, ⟨fun x hx => ?_, fun t ht => ?_⟩, ?_, ?_⟩
    · simp only [numsOf, List.mem_cons, List.not_mem_nil, or_false] at hx
      omega
    · cases ht
    · show (_ :: [a0, b0, d0, e0] : List Int) = _ :: [(a0.toNat : Int), (b0.toNat : Int), (d0.toNat : Int), (e0.toNat : Int)]
      rw [q1.1, q2.1, q3.1, q4.1]
      rfl
    · rfl
  · rename_i a0 b0 g0r
    obtain ⟨⟨h1, h2⟩, h3⟩ := h
    have q1 := nat32 h1
    have q2 := nat32 h2
    have qr := row8 h3
    refine ⟨.find a0.toNat (g0r.map Int.toNat) b0.toNat, rfl, ⟨fun x hx => ?_, fun t ht => ?_⟩, ?_, ?_⟩
    · simp only [numsOf, List.mem_cons, List.not_mem_nil, or_false] at hx
      omega
    · cases ht
      exact ⟨by rw [List.length_map]; exact hr g0r (List.mem_cons_self ..), qr.2⟩
    · show (_ :: [a0, b0] : List Int) = _ :: [(a0.toNat : Int), (b0.toNat : Int)]
      rw [q1.1, q2.1]
      rfl
    · show [g0r] = [intsOf (g0r.map Int.toNat)]
      rw [qr.1]
theorem list1 {lo hi : Int} {least most : Nat} {g : List Int} (h : PyInside.lists [(lo, hi, least, most)] [g] = true) : g.length ≤ most := by
  unfold PyInside.lists at h
  simp only [Bool.and_eq_true, decide_eq_true_eq] at h
  exact h.1.1.2
theorem call1 {p : Int} {xs : List Int} {g : List Int} {least most : Nat} {lo hi : Int} (hb : PyInside.call PyKcs8.bound [p :: xs, g] = true) (e : (PyKcs8.bound p).2 = [(lo, hi, least, most)]) : g.length ≤ most := by
  have h : (PyInside.each (PyKcs8.bound p).1 xs && PyInside.lists (PyKcs8.bound p).2 [g]) = true := hb
  rw [Bool.and_eq_true, e] at h
  exact list1 h.2
theorem row_len {c : List (List Int)} (h : Kcs8Neutral.asked1 c = true) (hb : PyInside.call PyKcs8.bound c = true) : ∀ r ∈ c.drop 1, r.length ≤ 400 := by
  unfold Kcs8Neutral.asked1 at h
  split at h
  all_goals first
    | (exact absurd h Bool.false_ne_true)
    | (intro r hr; cases hr; done)
    | (intro r hr
       simp only [List.drop_succ_cons, List.drop_zero, List.mem_singleton] at hr
       subst hr
       exact call1 (lo := 0) (hi := 255) (least := 0) (most := 400) hb (by decide))
theorem flat_row {l x s : List Int} (h : PyFlat.row l = some (x, s)) : l = (x.length : Int) :: (x ++ s) := by
  cases l with
  | nil => cases h
  | cons n r =>
    have h0 : (if 0 ≤ n ∧ n.toNat ≤ r.length then some (r.take n.toNat, r.drop n.toNat) else none) = some (x, s) := h
    by_cases c : 0 ≤ n ∧ n.toNat ≤ r.length
    · rw [if_pos c] at h0
      have h' := Option.some.inj h0
      have e1 : r.take n.toNat = x := (Prod.mk.inj h').1
      have e2 : r.drop n.toNat = s := (Prod.mk.inj h').2
      rw [← e1, ← e2, List.take_append_drop, List.length_take]
      congr 1
      omega
    · rw [if_neg c] at h0
      cases h0
theorem flat_rows : ∀ {k : Nat} {l : List Int} {xs : List (List Int)} {t : List Int}, PyFlat.rows k l = some (xs, t) → l = xs.flatMap (fun x => (x.length : Int) :: x) ++ t
  | 0, l, xs, t, h => by
    have h' := Option.some.inj h
    rw [← (Prod.mk.inj h').1, ← (Prod.mk.inj h').2]
    rfl
  | k + 1, l, xs, t, h => by
    unfold PyFlat.rows at h
    split at h
    · cases h
    · rename_i x s hx
      split at h
      · cases h
      · rename_i ys t' hy
        have h' := Option.some.inj h
        rw [← (Prod.mk.inj h').1, ← (Prod.mk.inj h').2, flat_row hx, flat_rows hy]
        simp
theorem flat_call {l : List Int} {c : List (List Int)} {t : List Int} {d : Call} (h : PyFlat.call PyKcs8.shape l = some (c, t)) (hd : IsCall c d) : l = encode d ++ t := by
  cases l with
  | nil => cases h
  | cons p r =>
    have h0 : (match PyKcs8.shape p with
      | none => none
      | some (n, k) => if r.length < n then none else match PyFlat.rows k (r.drop n) with
        | none => none
        | some (xs, t) => some ((p :: r.take n) :: xs, t)) = some (c, t) := h
    cases hs : PyKcs8.shape p with
    | none =>
      rw [hs] at h0
      cases h0
    | some nk =>
      obtain ⟨n, k⟩ := nk
      rw [hs] at h0
      dsimp only at h0
      by_cases cl : r.length < n
      · rw [if_pos cl] at h0
        cases h0
      · rw [if_neg cl] at h0
        cases hx : PyFlat.rows k (r.drop n) with
        | none =>
          rw [hx] at h0
          cases h0
        | some xt =>
          obtain ⟨xs, t'⟩ := xt
          rw [hx] at h0
          have h' := Option.some.inj h0
          have e1 := (Prod.mk.inj h').1
          have e2 := (Prod.mk.inj h').2
          subst e2
          have en := hd.num
          have er := hd.rows
          rw [← e1] at en er
          have er' : xs = (match rowOf d with | none => [] | some t => [intsOf t]) := er
          have en' : p :: r.take n = (idx d : Int) :: intsOf (numsOf d) := en
          have ep : p = idx d := (List.cons.inj en').1
          have et : r.take n = intsOf (numsOf d) := (List.cons.inj en').2
          have hr : r = intsOf (numsOf d) ++ (rowPart (rowOf d) ++ t') := by
            rw [← et]
            have e3 := flat_rows hx
            have : rowPart (rowOf d) ++ t' = r.drop n := by
              rw [e3, er']
              cases rowOf d with
              | none => rfl
              | some z =>
                unfold rowPart intsOf
                simp
            rw [this, List.take_append_drop]
          show p :: r = _
          rw [ep]
          unfold encode
          rw [List.cons_append, List.append_assoc]
          rw [← hr]
theorem flat_calls : ∀ (f : Nat) (l : List Int) (cs : List (List (List Int))), PyFlat.calls PyKcs8.shape f l = some cs → cs.all Kcs8Neutral.asked1 = true → PyInside.calls PyKcs8.bound cs = true →
    ∃ ds : List Call, l = ds.flatMap encode ∧ (∀ d ∈ ds, Fine d) ∧ cs.length = ds.length ∧ ∀ s, PyFlat.played Kcs8Neutral.step s cs = play s ds ∧ Kcs8Neutral.answersFrom s cs = play s ds
  | f, [], cs, h, _, _ => by
    have e : cs = [] := by
      cases f <;> exact (Option.some.inj h).symm
    subst e
    exact ⟨[], rfl, fun _ h => (by cases h), rfl, fun s => ⟨rfl, rfl⟩⟩
  | 0, _ :: _, cs, h, _, _ => by cases h
  | f + 1, p :: r, cs, h, ha, hb => by
    have h0 : (match PyFlat.call PyKcs8.shape (p :: r) with
      | none => none
      | some (c, t) => match PyFlat.calls PyKcs8.shape f t with
        | none => none
        | some cs => some (c :: cs)) = some cs := h
    cases hc : PyFlat.call PyKcs8.shape (p :: r) with
    | none =>
      rw [hc] at h0
      cases h0
    | some ct =>
      obtain ⟨c, t⟩ := ct
      rw [hc] at h0
      dsimp only at h0
      cases hcs : PyFlat.calls PyKcs8.shape f t with
      | none =>
        rw [hcs] at h0
        cases h0
      | some cs' =>
        rw [hcs] at h0
        have e := Option.some.inj h0
        subst e
        rw [List.all_cons, Bool.and_eq_true] at ha
        have hb' : (c :: cs').all (PyInside.call PyKcs8.bound) = true := hb
        rw [List.all_cons, Bool.and_eq_true] at hb'
        obtain ⟨ds, e1, e2, e3, e4⟩ := flat_calls f t cs' hcs ha.2 hb'.2
        obtain ⟨d, hd⟩ := asked1_call ha.1 (row_len ha.1 hb'.1)
        refine ⟨d :: ds, ?_, ?_, ?_, ?_⟩
        · rw [List.flatMap_cons, ← e1]
          exact flat_call hc hd
        · intro x hx
          rw [List.mem_cons] at hx
          rcases hx with rfl | hx
          · exact hd.fine
          · exact e2 x hx
        · rw [List.length_cons, List.length_cons, e3]
        · intro s
          have es : Kcs8Neutral.step s c = ((Kcs8.step s d).1, saidTo d s) := by
            unfold Kcs8Neutral.step saidTo
            rw [hd.call]
          constructor
          · unfold PyFlat.played play
            rw [es, (e4 _).1]
          · unfold Kcs8Neutral.answersFrom play
            rw [es, (e4 _).2]
theorem foldl_sum : ∀ (l : List Nat) (a : Nat), l.foldl (fun (x y : Nat) => x + y) a = a + l.sum
  | [], a => by simp
  | x :: l, a => by
    rw [List.foldl_cons, foldl_sum l (a + x), List.sum_cons]
    omega
theorem out_length : ∀ l : List (List Int), (out l).length = (l.map List.length).sum + l.length
  | [] => rfl
  | a :: l => by
    unfold out
    rw [List.flatMap_cons, List.length_append]
    have ih := out_length l
    unfold out at ih
    rw [ih, List.map_cons, List.sum_cons, List.length_cons, List.length_cons]
    omega
theorem play_length : ∀ (cs : List Call) (s : Abs), (play s cs).length = cs.length
  | [], _ => rfl
  | c :: cs, s => by
    unfold play
    rw [List.length_cons, List.length_cons, play_length cs]
/-- what is asked, as a list of calls -/
theorem decode {ns : List Int} (h : PyKcs8.answers_asked ns = true) : ∃ cs : List Call, ns = cs.flatMap encode ∧ PyKcs8.answers ns = out (play first cs) ∧ (∀ c ∈ cs, Fine c) ∧ (out (play first cs)).length ≤ 1003000 := by
  have h0 : (match PyFlat.calls PyKcs8.shape ns.length ns with
    | none => false
    | some raw => !raw.isEmpty && PyFlat.atMost 3000 raw && PyInside.calls PyKcs8.bound raw && Kcs8Neutral.asked (raw.map PyKcs8.whole) && PyFlat.short 10000000 (PyKcs8.answers ns)) = true := h
  cases hraw : PyFlat.calls PyKcs8.shape ns.length ns with
  | none =>
    rw [hraw] at h0
    cases h0
  | some raw =>
    rw [hraw] at h0
    replace h := h0
    dsimp only at h
    rw [map_whole] at h
    simp only [Bool.and_eq_true] at h
    obtain ⟨⟨⟨⟨_, h2⟩, h3⟩, h4⟩, _⟩ := h
    unfold Kcs8Neutral.asked at h4
    simp only [Bool.and_eq_true] at h4
    obtain ⟨⟨_, h5, _⟩, h6⟩ := h4
    obtain ⟨ds, e1, e2, e3, e4⟩ := flat_calls _ _ _ hraw h5 h3
    refine ⟨ds, e1, ?_, e2, ?_⟩
    · unfold PyKcs8.answers PyKcs8.calls
      rw [hraw]
      show PyFlat.told (PyFlat.played Kcs8Neutral.step Kcs8Neutral.start (raw.map PyKcs8.whole)) = _
      rw [map_whole, (e4 _).1]
      rfl
    · unfold Kcs8Neutral.few_ Kcs8Neutral.answers at h6
      rw [decide_eq_true_eq, (e4 _).2, foldl_sum] at h6
      have hs : Kcs8Neutral.start = first := rfl
      rw [hs] at h6
      rw [out_length, play_length]
      unfold PyFlat.atMost at h2
      rw [decide_eq_true_eq] at h2
      omega
end Tr
/-! The house in the heap: which object stands for what of the specification's state. -/
namespace Tr
open PySem PySem.Spec PyProof.Rows L2
open Kcs8 (Abs Member Message roomOf memberOf withRoom)
abbrev KRoom := Kcs8.Room

/-- what of a room an object stands for -/
inductive RT where
  | room | mems | inv | msgs
  | mem (w : Nat) | msg (n : Nat) | txt (n : Nat) | mrk (n : Nat)
  deriving DecidableEq
inductive Tg where
  | house | fnd
  | mine (f : Nat)
  | rm (f k : Nat) (t : RT)
  deriving DecidableEq
abbrev Ad := Tg → Addr
/-- an object but for an instance's own dict's place -/
inductive PO where
  | lst (xs : List V) | dK (kvs : List (L2.Key × V)) | dT (kvs : List (List L2.Key × V))
  | ins (C : Addr) (fs : List (Str × V))
def PO.Is : PO → HO → Prop
  | .lst xs, u => u = .lst xs
  | .dK kvs, u => u = .dK kvs
  | .dT kvs, u => u = .dT kvs
  | .ins C fs, u => ∃ dx, u = .ins C dx fs
structure Cs where
  msg : Addr
  mem : Addr
  room : Addr
  house : Addr
  place : Addr
  street : Addr
  tape : Addr
  refused : Addr
def nats (l : List Nat) : List V := l.map fun (x : Nat) => V.int (x : Int)
def ansN (x : Message) : Nat := match x.answers with
  | none => 0
  | some n => n + 1
def msgF (ad : Ad) (f k n : Nat) (x : Message) : List (Str × V) :=
  [("who", .int (x.who : Int)), ("text", .ref (ad (.rm f k (.txt n)))), ("answered", .int (ansN x : Int)), ("many_changed", .int (x.changes : Int)), ("marks", .ref (ad (.rm f k (.mrk n)))), ("is_gone", .bl x.gone)]
def memF (m : Member) : List (Str × V) := [("who", .int (m.who : Int)), ("is_keeper", .bl m.keeper), ("start", .int (m.since : Int)), ("behind_read", .int (m.read : Int))]
def pastV (b : Bool) : V := .int (if b then 1 else 0)
def roomF (ad : Ad) (f k : Nat) (r : KRoom) : List (Str × V) :=
  [("past", pastV r.past), ("members", .ref (ad (.rm f k .mems))), ("invited", .ref (ad (.rm f k .inv))), ("messages", .ref (ad (.rm f k .msgs)))]
def houseF (ad : Ad) : List (Str × V) := [("founded", .ref (ad .fnd))]
def invK (l : List Nat) : List (L2.Key × V) := l.map fun (q : Nat) => (Sum.inl (q : Int), V.bl true)
def mrkK (l : List (Nat × Nat)) : List (List L2.Key × V) := l.map fun m => ([Sum.inl (m.2 : Int), Sum.inl (m.1 : Int)], V.bl true)
def memsL (ad : Ad) (f k : Nat) (l : List Member) : List V := l.map fun m => V.ref (ad (.rm f k (.mem m.who)))
def msgsL (ad : Ad) (f k n : Nat) : List V := (List.range n).map fun n => V.ref (ad (.rm f k (.msg n)))
def mineL (ad : Ad) (f n : Nat) : List V := (List.range n).map fun k => V.ref (ad (.rm f k .room))
def fndL (ad : Ad) : List V := (List.range 16).map fun f => V.ref (ad (.mine f))
def robj (C : Cs) (ad : Ad) (f k : Nat) (r : KRoom) : RT → Option PO
  | .room => some (.ins C.room (roomF ad f k r))
  | .mems => some (.lst (memsL ad f k r.members))
  | .inv => some (.dK (invK r.invited))
  | .msgs => some (.lst (msgsL ad f k r.messages.length))
  | .mem w => (memberOf r w).map fun m => .ins C.mem (memF m)
  | .msg n => r.messages[n]?.map fun x => .ins C.msg (msgF ad f k n x)
  | .txt n => r.messages[n]?.map fun x => .lst (nats x.text)
  | .mrk n => r.messages[n]?.map fun x => .dT (mrkK x.marks)
def obj (C : Cs) (ad : Ad) (s : Abs) : Tg → Option PO
  | .house => some (.ins C.house (houseF ad))
  | .fnd => some (.lst (fndL ad))
  | .mine f => if f < 16 then some (.lst (mineL ad f (cnt s f))) else none
  | .rm f k t => (roomOf s f k).bind fun r => robj C ad f k r t
/-- the state s stands in H, its objects apart from each other and from F, which stands in H too -/
structure Rep (C : Cs) (F H : Hp) (s : Abs) (ad : Ad) : Prop where
  sub : ∀ b o, F b = some o → H b = some o
  own : ∀ T p, obj C ad s T = some p → F (ad T) = none ∧ ∃ u, H (ad T) = some u ∧ p.Is u
  inj : ∀ T T', (obj C ad s T).isSome = true → (obj C ad s T').isSome = true → ad T = ad T' → T = T'
  wf : WF s
section
variable {C : Cs} {F F' H H' : Hp} {s : Abs} {ad : Ad}
theorem Rep.same (R : Rep C F H s ad) (k : Same H H') : Rep C F H' s ad where
  sub b o e := k b o (R.sub b o e)
  own T p e := by
    obtain ⟨h1, u, h2, h3⟩ := R.own T p e
    exact ⟨h1, u, k _ _ h2, h3⟩
  inj := R.inj
  wf := R.wf
theorem Rep.weak (R : Rep C F' H s ad) (k : ∀ b o, F b = some o → F' b = some o) : Rep C F H s ad where
  sub b o e := R.sub b o (k b o e)
  own T p e := by
    obtain ⟨h1, h2⟩ := R.own T p e
    refine ⟨?_, h2⟩
    cases q : F (ad T) with
    | none => rfl
    | some o =>
      rw [k _ _ q] at h1
      cases h1
  inj := R.inj
  wf := R.wf
theorem Rep.free (R : Rep C F H s ad) {p : Addr} (h : H p = none) : F p = none := by
  cases q : F p with
  | none => rfl
  | some o =>
    rw [R.sub _ _ q] at h
    cases h
/-- a new object, laid into the frame -/
theorem Rep.new (R : Rep C F H s ad) {p : Addr} {o : HO} (h : H p = none) : Rep C (upd F p o) (upd H p o) s ad where
  sub b u e := by
    by_cases c : b = p
    · subst c
      rw [upd_same] at e ⊢
      exact e
    · rw [upd_ne c] at e ⊢
      exact R.sub b u e
  own T q e := by
    obtain ⟨h1, u, h2, h3⟩ := R.own T q e
    have c : ad T ≠ p := ne_of_none h2 h
    exact ⟨by rw [upd_ne c]; exact h1, u, by rw [upd_ne c]; exact h2, h3⟩
  inj := R.inj
  wf := R.wf
/-- an object of the frame changes -/
theorem Rep.fupd (R : Rep C F H s ad) {p : Addr} {o o' : HO} (h : F p = some o) : Rep C (upd F p o') (upd H p o') s ad where
  sub b u e := by
    by_cases c : b = p
    · subst c
      rw [upd_same] at e ⊢
      exact e
    · rw [upd_ne c] at e ⊢
      exact R.sub b u e
  own T q e := by
    obtain ⟨h1, u, h2, h3⟩ := R.own T q e
    have c : ad T ≠ p := fun z => by rw [z, h] at h1; cases h1
    exact ⟨by rw [upd_ne c]; exact h1, u, by rw [upd_ne c]; exact h2, h3⟩
  inj := R.inj
  wf := R.wf
/-- the frame's objects may change as they like, the house's stay -/
theorem Rep.over (R : Rep C F H s ad) (hs : ∀ b o, F' b = some o → H' b = some o) (hk : ∀ b u, H b = some u → F b = none → H' b = some u ∧ F' b = none) : Rep C F' H' s ad where
  sub := hs
  own T q e := by
    obtain ⟨h1, u, h2, h3⟩ := R.own T q e
    obtain ⟨k1, k2⟩ := hk _ _ h2 h1
    exact ⟨k2, u, k1, h3⟩
  inj := R.inj
  wf := R.wf
theorem Rep.at_house (R : Rep C F H s ad) : ∃ dx, H (ad .house) = some (.ins C.house dx (houseF ad)) := by
  obtain ⟨_, u, h2, dx, rfl⟩ := R.own .house _ rfl
  exact ⟨dx, h2⟩
theorem Rep.at_fnd (R : Rep C F H s ad) : H (ad .fnd) = some (.lst (fndL ad)) := by
  obtain ⟨_, u, h2, h3⟩ := R.own .fnd _ rfl
  have h3' : u = .lst (fndL ad) := h3
  rw [← h3']
  exact h2
theorem Rep.at_mine (R : Rep C F H s ad) {f : Nat} (hf : f < 16) : H (ad (.mine f)) = some (.lst (mineL ad f (cnt s f))) := by
  obtain ⟨_, u, h2, h3⟩ := R.own (.mine f) _ (if_pos hf)
  have h3' : u = .lst (mineL ad f (cnt s f)) := h3
  rw [← h3']
  exact h2
theorem obj_rm {f k : Nat} {r : KRoom} (hr : roomOf s f k = some r) (t : RT) : obj C ad s (.rm f k t) = robj C ad f k r t := by
  show (roomOf s f k).bind _ = _
  rw [hr]
  rfl
variable {f k : Nat} {r : KRoom}
theorem Rep.at_rm (R : Rep C F H s ad) (hr : roomOf s f k = some r) {t : RT} {p : PO} (e : robj C ad f k r t = some p) : ∃ u, H (ad (.rm f k t)) = some u ∧ p.Is u :=
  (R.own (.rm f k t) p ((obj_rm hr t).trans e)).2
theorem Rep.no_frame (R : Rep C F H s ad) (hr : roomOf s f k = some r) {t : RT} {p : PO} (e : robj C ad f k r t = some p) : F (ad (.rm f k t)) = none :=
  (R.own (.rm f k t) p ((obj_rm hr t).trans e)).1
theorem Rep.at_room (R : Rep C F H s ad) (hr : roomOf s f k = some r) : ∃ dx, H (ad (.rm f k .room)) = some (.ins C.room dx (roomF ad f k r)) := by
  obtain ⟨u, h2, dx, rfl⟩ := R.at_rm hr (t := .room) rfl
  exact ⟨dx, h2⟩
theorem Rep.at_mems (R : Rep C F H s ad) (hr : roomOf s f k = some r) : H (ad (.rm f k .mems)) = some (.lst (memsL ad f k r.members)) := by
  obtain ⟨u, h2, h3⟩ := R.at_rm hr (t := .mems) rfl
  have h3' : u = .lst (memsL ad f k r.members) := h3
  rw [← h3']
  exact h2
theorem Rep.at_inv (R : Rep C F H s ad) (hr : roomOf s f k = some r) : H (ad (.rm f k .inv)) = some (.dK (invK r.invited)) := by
  obtain ⟨u, h2, h3⟩ := R.at_rm hr (t := .inv) rfl
  have h3' : u = .dK (invK r.invited) := h3
  rw [← h3']
  exact h2
theorem Rep.at_msgs (R : Rep C F H s ad) (hr : roomOf s f k = some r) : H (ad (.rm f k .msgs)) = some (.lst (msgsL ad f k r.messages.length)) := by
  obtain ⟨u, h2, h3⟩ := R.at_rm hr (t := .msgs) rfl
  have h3' : u = .lst (msgsL ad f k r.messages.length) := h3
  rw [← h3']
  exact h2
theorem Rep.at_mem (R : Rep C F H s ad) (hr : roomOf s f k = some r) {w : Nat} {m : Member} (hm : memberOf r w = some m) : ∃ dx, H (ad (.rm f k (.mem w))) = some (.ins C.mem dx (memF m)) := by
  obtain ⟨u, h2, dx, rfl⟩ := R.at_rm hr (t := .mem w) (by show (memberOf r w).map _ = _; rw [hm]; rfl)
  exact ⟨dx, h2⟩
theorem Rep.at_msg (R : Rep C F H s ad) (hr : roomOf s f k = some r) {n : Nat} {x : Message} (hx : r.messages[n]? = some x) : ∃ dx, H (ad (.rm f k (.msg n))) = some (.ins C.msg dx (msgF ad f k n x)) := by
  obtain ⟨u, h2, dx, rfl⟩ := R.at_rm hr (t := .msg n) (by show r.messages[n]?.map _ = _; rw [hx]; rfl)
  exact ⟨dx, h2⟩
theorem Rep.at_txt (R : Rep C F H s ad) (hr : roomOf s f k = some r) {n : Nat} {x : Message} (hx : r.messages[n]? = some x) : H (ad (.rm f k (.txt n))) = some (.lst (nats x.text)) := by
  obtain ⟨u, h2, h3⟩ := R.at_rm hr (t := .txt n) (by show r.messages[n]?.map _ = _; rw [hx]; rfl)
  have h3' : u = .lst (nats x.text) := h3
  rw [← h3']
  exact h2
theorem Rep.at_mrk (R : Rep C F H s ad) (hr : roomOf s f k = some r) {n : Nat} {x : Message} (hx : r.messages[n]? = some x) : H (ad (.rm f k (.mrk n))) = some (.dT (mrkK x.marks)) := by
  obtain ⟨u, h2, h3⟩ := R.at_rm hr (t := .mrk n) (by show r.messages[n]?.map _ = _; rw [hx]; rfl)
  have h3' : u = .dT (mrkK x.marks) := h3
  rw [← h3']
  exact h2
end

/-! ### a room changes -/
/-- some of a room's objects move -/
def mv (ad : Ad) (f k : Nat) (na : RT → Option Addr) : Ad
  | .rm f' k' t => if f' = f ∧ k' = k then (na t).getD (ad (.rm f' k' t)) else ad (.rm f' k' t)
  | T => ad T
theorem mv_here {ad : Ad} {f k : Nat} {na : RT → Option Addr} (t : RT) : mv ad f k na (.rm f k t) = (na t).getD (ad (.rm f k t)) := if_pos ⟨rfl, rfl⟩
theorem mv_none {ad : Ad} {f k : Nat} : mv ad f k (fun _ => none) = ad := by
  funext T
  cases T with
  | rm f' k' t =>
    show (if f' = f ∧ k' = k then _ else _) = _
    split <;> rfl
  | _ => rfl
theorem robj_other {C : Cs} {ad : Ad} {f k f' k' : Nat} {na : RT → Option Addr} (h : ¬ (f' = f ∧ k' = k)) (r : KRoom) (t : RT) : robj C (mv ad f k na) f' k' r t = robj C ad f' k' r t := by
  have e : ∀ t, mv ad f k na (.rm f' k' t) = ad (.rm f' k' t) := fun t => if_neg h
  cases t with
  | room => simp only [robj, roomF, e]
  | mems => simp only [robj, memsL, e]
  | inv => rfl
  | msgs => simp only [robj, msgsL, e]
  | mem w => rfl
  | msg n => simp only [robj, msgF, e]
  | txt n => rfl
  | mrk n => rfl
theorem mineL_mv {ad : Ad} {f k : Nat} {na : RT → Option Addr} (h : na .room = none) (f' n : Nat) : mineL (mv ad f k na) f' n = mineL ad f' n := by
  unfold mineL
  apply List.map_congr_left
  intro k' _
  show V.ref (if f' = f ∧ k' = k then (na .room).getD _ else _) = _
  rw [h]
  split <;> rfl
section
variable {C : Cs} {F F' H : Hp} {s : Abs} {ad : Ad} {f k : Nat} {r : KRoom}
theorem Rep.local (R : Rep C F' H s ad) (hr : roomOf s f k = some r) {r' : KRoom} (hf : r'.founder = f) (hk : r'.number = k) (ok : RoomOk r') (hF : ∀ b o, F b = some o → F' b = some o)
    {t0 : RT} {p0 p1 : PO} {o0 : HO} (l0 : robj C ad f k r t0 = some p0) {na : RT → Option Addr} (n0 : na t0 = none) (nr : na .room = none)
    (hn : ∀ t a, na t = some a → F a = none ∧ ∃ o p, F' a = some o ∧ robj C (mv ad f k na) f k r' t = some p ∧ p.Is o)
    (hi : ∀ t t' a, na t = some a → na t' = some a → t = t')
    (h0 : robj C (mv ad f k na) f k r' t0 = some p1) (i0 : p1.Is o0)
    (hne : ∀ t, na t = none → t ≠ t0 → ∀ p, robj C (mv ad f k na) f k r' t = some p → robj C ad f k r t = some p) :
    Rep C F (upd H (ad (.rm f k t0)) o0) (withRoom s r') (mv ad f k na) := by
  have hw : ∀ f' k', roomOf (withRoom s r') f' k' = if f' = f ∧ k' = k then some r' else roomOf s f' k' := fun f' k' => by
    rw [roomOf_with, hf, hk]
    split
    · rename_i e
      rw [e.1, e.2, hr]
      rfl
    · rfl
  -- each object of the new state: it stands as it did, or it is t0's, or it has moved
  have cases3 : ∀ T p, obj C (mv ad f k na) (withRoom s r') T = some p →
      (mv ad f k na T = ad T ∧ obj C ad s T = some p ∧ T ≠ .rm f k t0) ∨ (T = .rm f k t0 ∧ p = p1) ∨ (∃ t a, T = .rm f k t ∧ na t = some a ∧ robj C (mv ad f k na) f k r' t = some p) := by
    intro T p e
    cases T with
    | house => exact .inl ⟨rfl, e, fun z => by cases z⟩
    | fnd => exact .inl ⟨rfl, e, fun z => by cases z⟩
    | mine f' =>
      refine .inl ⟨rfl, ?_, fun z => by cases z⟩
      have e' : (if f' < 16 then some (PO.lst (mineL (mv ad f k na) f' (cnt s f'))) else none) = some p := e
      rw [mineL_mv nr] at e'
      exact e'
    | rm f' k' t =>
      have e' : (roomOf (withRoom s r') f' k').bind (fun r => robj C (mv ad f k na) f' k' r t) = some p := e
      rw [hw] at e'
      by_cases c : f' = f ∧ k' = k
      · rw [if_pos c] at e'
        obtain ⟨rfl, rfl⟩ := c
        have e2 : robj C (mv ad f' k' na) f' k' r' t = some p := e'
        by_cases ct : t = t0
        · subst ct
          rw [h0] at e2
          exact .inr (.inl ⟨rfl, (Option.some.inj e2).symm⟩)
        · cases q : na t with
          | some a => exact .inr (.inr ⟨t, a, rfl, q, e2⟩)
          | none =>
            refine .inl ⟨by rw [mv_here, q]; rfl, (obj_rm hr t).trans (hne t q ct p e2), fun z => ?_⟩
            injection z with _ _ z
            exact ct z
      · rw [if_neg c] at e'
        refine .inl ⟨if_neg c, ?_, fun z => ?_⟩
        · show (roomOf s f' k').bind (fun r => robj C ad f' k' r t) = some p
          cases q : roomOf s f' k' with
          | none =>
            rw [q] at e'
            cases e'
          | some r2 =>
            rw [q] at e'
            have e2 : robj C (mv ad f k na) f' k' r2 t = some p := e'
            rw [robj_other c] at e2
            exact e2
        · injection z with z1 z2 _
          exact c ⟨z1, z2⟩
  have lv0 : (obj C ad s (.rm f k t0)).isSome = true := by
    rw [obj_rm hr, l0]
    rfl
  have f0 := R.own (.rm f k t0) p0 ((obj_rm hr t0).trans l0)
  have mt0 : mv ad f k na (.rm f k t0) = ad (.rm f k t0) := by
    rw [mv_here, n0]
    rfl
  have hF0 : ∀ b, F' b = none → F b = none := fun b e => by
    cases q : F b with
    | none => rfl
    | some o =>
      rw [hF _ _ q] at e
      cases e
  refine ⟨fun b o e => ?_, fun T p e => ?_, fun T T' e e' h => ?_, R.wf.with hr hf hk ok⟩
  · have : b ≠ ad (.rm f k t0) := fun z => by
      rw [z] at e
      rw [hF _ _ e] at f0
      cases f0.1
    rw [upd_ne this]
    exact R.sub _ _ (hF _ _ e)
  · rcases cases3 T p e with ⟨e1, e2, e3⟩ | ⟨rfl, rfl⟩ | ⟨t, a, rfl, q, e2⟩
    · rw [e1]
      obtain ⟨h1, u, h2, h3⟩ := R.own T p e2
      have : ad T ≠ ad (.rm f k t0) := fun z => e3 (R.inj T _ (by rw [e2]; rfl) lv0 z)
      exact ⟨hF0 _ h1, u, by rw [upd_ne this]; exact h2, h3⟩
    · rw [mt0]
      exact ⟨hF0 _ f0.1, o0, upd_same, i0⟩
    · rw [mv_here, q]
      show F a = none ∧ _
      obtain ⟨h1, o, p', h2, h3, h4⟩ := hn t a q
      rw [h3] at e2
      cases e2
      have : a ≠ ad (.rm f k t0) := fun z => by
        rw [z] at h2
        rw [h2] at f0
        cases f0.1
      exact ⟨h1, o, by show upd H _ o0 a = some o; rw [upd_ne this]; exact R.sub _ _ h2, h4⟩
  · obtain ⟨p, e⟩ := Option.isSome_iff_exists.mp e
    obtain ⟨p', e'⟩ := Option.isSome_iff_exists.mp e'
    rcases cases3 T p e with ⟨e1, e2, e3⟩ | ⟨rfl, rfl⟩ | ⟨t, a, rfl, q, e2⟩
    · rcases cases3 T' p' e' with ⟨e1', e2', e3'⟩ | ⟨rfl, rfl⟩ | ⟨t', a', rfl, q', e2'⟩
      · rw [e1, e1'] at h
        exact R.inj _ _ (by rw [e2]; rfl) (by rw [e2']; rfl) h
      · rw [e1, mt0] at h
        exact R.inj _ _ (by rw [e2]; rfl) lv0 h
      · rw [e1, mv_here, q'] at h
        have h' : ad T = a' := h
        obtain ⟨_, o, _, h2, _⟩ := hn t' a' q'
        have := (R.own T p e2).1
        rw [h', h2] at this
        cases this
    · rcases cases3 T' p' e' with ⟨e1', e2', e3'⟩ | ⟨rfl, rfl⟩ | ⟨t', a', rfl, q', e2'⟩
      · rw [e1', mt0] at h
        exact R.inj _ _ lv0 (by rw [e2']; rfl) h
      · rfl
      · rw [mt0, mv_here, q'] at h
        have h' : ad (.rm f k t0) = a' := h
        obtain ⟨_, o, _, h2, _⟩ := hn t' a' q'
        have := f0.1
        rw [h', h2] at this
        cases this
    · rcases cases3 T' p' e' with ⟨e1', e2', e3'⟩ | ⟨rfl, rfl⟩ | ⟨t', a', rfl, q', e2'⟩
      · rw [e1', mv_here, q] at h
        have h' : a = ad T' := h
        obtain ⟨_, o, _, h2, _⟩ := hn t a q
        have := (R.own T' p' e2').1
        rw [← h', h2] at this
        cases this
      · rw [mt0, mv_here, q] at h
        have h' : a = ad (.rm f k t0) := h
        obtain ⟨_, o, _, h2, _⟩ := hn t a q
        have := f0.1
        rw [← h', h2] at this
        cases this
      · rw [mv_here, mv_here, q, q'] at h
        have h' : a = a' := h
        subst h'
        rw [hi t t' a q q']
/-- one object of a room changes where it stands -/
theorem Rep.put (R : Rep C F H s ad) (hr : roomOf s f k = some r) {r' : KRoom} (hf : r'.founder = f) (hk : r'.number = k) (ok : RoomOk r')
    {t0 : RT} {p0 p1 : PO} {o0 : HO} (l0 : robj C ad f k r t0 = some p0) (h0 : robj C ad f k r' t0 = some p1) (i0 : p1.Is o0)
    (hne : ∀ t, t ≠ t0 → ∀ p, robj C ad f k r' t = some p → robj C ad f k r t = some p) : Rep C F (upd H (ad (.rm f k t0)) o0) (withRoom s r') ad := by
  have h := Rep.local (F := F) (na := fun _ => none) R hr hf hk ok (fun _ _ e => e) l0 rfl rfl (fun t a e => by cases e) (fun t t' a e => by cases e) (by rw [mv_none]; exact h0) i0 (fun t _ c p e => hne t c p (by rw [mv_none] at e; exact e))
  rw [mv_none] at h
  exact h
end
end Tr
/-! What a store does to the house: a lemma a store. -/
namespace Tr
open PySem PySem.Spec PyProof.Rows L2
open Kcs8 (Abs Member Message roomOf memberOf withRoom withMessage)
/-! ### fields -/
section
variable (ad : Ad) (f k n : Nat) (r : KRoom) (x : Message) (m : Member) (p : V)
theorem putF_members : putF "members" p (roomF ad f k r) = ([("past", pastV r.past), ("members", p), ("invited", .ref (ad (.rm f k .inv))), ("messages", .ref (ad (.rm f k .msgs)))] : List (Str × V)) := by rfl
theorem putF_past : putF "past" p (roomF ad f k r) = ([("past", p), ("members", .ref (ad (.rm f k .mems))), ("invited", .ref (ad (.rm f k .inv))), ("messages", .ref (ad (.rm f k .msgs)))] : List (Str × V)) := by rfl
theorem putF_keeper : putF "is_keeper" (.bl true) (memF m) = memF { m with keeper := true } := by rfl
theorem putF_read (j : Nat) : putF "behind_read" (.int (j : Int)) (memF m) = memF { m with read := j } := by rfl
theorem putF_text : putF "text" p (msgF ad f k n x) = ([("who", .int (x.who : Int)), ("text", p), ("answered", .int (ansN x : Int)), ("many_changed", .int (x.changes : Int)), ("marks", .ref (ad (.rm f k (.mrk n)))), ("is_gone", .bl x.gone)] : List (Str × V)) := by rfl
theorem putF_marks : putF "marks" p (msgF ad f k n x) = ([("who", .int (x.who : Int)), ("text", .ref (ad (.rm f k (.txt n)))), ("answered", .int (ansN x : Int)), ("many_changed", .int (x.changes : Int)), ("marks", p), ("is_gone", .bl x.gone)] : List (Str × V)) := by rfl
theorem putF_gone : putF "is_gone" (.bl true) (msgF ad f k n x) = msgF ad f k n { x with gone := true } := by rfl
theorem putF_changed (j : Nat) : putF "many_changed" (.int (j : Int)) (msgF ad f k n x) = msgF ad f k n { x with changes := j } := by rfl
end
/-! ### dicts -/
theorem valV_inv (q : Nat) : ∀ l : List Nat, valV (invK l) (Sum.inl (q : Int)) = if q ∈ l then some (V.bl true) else none
  | [] => by simp [invK, valV]
  | a :: l => by
    have ih := valV_inv q l
    by_cases c : a = q
    · subst c
      rw [if_pos (List.mem_cons_self ..)]
      exact valV_pos (p := (Sum.inl (a : Int), V.bl true)) rfl
    · have e : valV (invK (a :: l)) (Sum.inl (q : Int)) = valV (invK l) (Sum.inl (q : Int)) := valV_neg (p := (Sum.inl (a : Int), V.bl true)) fun z => c (by
        have z' : (a : Int) = (q : Int) := by injection z
        omega)
      rw [e, ih]
      have : (q ∈ a :: l) ↔ q ∈ l := by
        rw [List.mem_cons]
        constructor
        · rintro (h | h)
          · exact absurd h.symm c
          · exact h
        · exact Or.inr
      by_cases h : q ∈ l
      · rw [if_pos h, if_pos (this.mpr h)]
      · rw [if_neg h, if_neg (fun z => h (this.mp z))]
theorem dropK_inv (q : Nat) (l : List Nat) : dropK (invK l) (Sum.inl (q : Int)) = invK (l.filter (· != q)) := by
  unfold dropK invK
  rw [List.filter_map]
  congr 1
  apply List.filter_congr
  intro a _
  simp only [Function.comp]
  by_cases c : a = q
  · subst c
    simp
  · have : ¬ (Sum.inl (a : Int) : L2.Key) = Sum.inl (q : Int) := fun z => c (by
      have z' : (a : Int) = (q : Int) := by injection z
      omega)
    simp [this, c]
theorem putK_inv {q : Nat} {l : List Nat} (h : q ∉ l) : putK (invK l) (Sum.inl (q : Int)) (V.bl true) = invK (l ++ [q]) := by
  rw [putK_new _ (by rw [valV_inv, if_neg h])]
  unfold invK
  rw [List.map_append]
  rfl
abbrev mkKey (who kind : Nat) : List L2.Key := [Sum.inl (kind : Int), Sum.inl (who : Int)]
theorem mkKey_inj {a b c d : Nat} (h : mkKey a b = mkKey c d) : (a, b) = (c, d) := by
  have h1 := (List.cons.inj h).1
  have h2 := (List.cons.inj (List.cons.inj h).2).1
  have e1 : (b : Int) = (d : Int) := by injection h1
  have e2 : (a : Int) = (c : Int) := by injection h2
  rw [show a = c by omega, show b = d by omega]
theorem valV_mrk (w j : Nat) : ∀ l : List (Nat × Nat), valV (mrkK l) (mkKey w j) = if (w, j) ∈ l then some (V.bl true) else none
  | [] => by simp [mrkK, valV]
  | (a, b) :: l => by
    have ih := valV_mrk w j l
    by_cases c : (a, b) = (w, j)
    · cases c
      rw [if_pos (List.mem_cons_self ..)]
      exact valV_pos (p := (mkKey w j, V.bl true)) rfl
    · have e : valV (mrkK ((a, b) :: l)) (mkKey w j) = valV (mrkK l) (mkKey w j) := valV_neg (p := (mkKey a b, V.bl true)) fun z => c (mkKey_inj z)
      rw [e, ih]
      have : ((w, j) ∈ (a, b) :: l) ↔ (w, j) ∈ l := by
        rw [List.mem_cons]
        constructor
        · rintro (h | h)
          · exact absurd h.symm c
          · exact h
        · exact Or.inr
      by_cases h : (w, j) ∈ l
      · rw [if_pos h, if_pos (this.mpr h)]
      · rw [if_neg h, if_neg (fun z => h (this.mp z))]
theorem dropK_mrk (w j : Nat) (l : List (Nat × Nat)) : dropK (mrkK l) (mkKey w j) = mrkK (l.filter (· != (w, j))) := by
  unfold dropK mrkK
  rw [List.filter_map]
  congr 1
  apply List.filter_congr
  intro a _
  simp only [Function.comp]
  by_cases c : a = (w, j)
  · subst c
    simp
  · have : ¬ ([Sum.inl (a.2 : Int), Sum.inl (a.1 : Int)] : List L2.Key) = mkKey w j := fun z => c (mkKey_inj (a := a.1) (b := a.2) z)
    simp [this, c]
theorem putK_mrk {w j : Nat} {l : List (Nat × Nat)} (h : (w, j) ∉ l) : putK (mrkK l) (mkKey w j) (V.bl true) = mrkK (l ++ [(w, j)]) := by
  rw [putK_new _ (by rw [valV_mrk, if_neg h])]
  unfold mrkK
  rw [List.map_append]
  rfl
theorem marks_few {x : Message} (h : MsgOk x) : x.marks.length ≤ 256 := by
  have hs : x.marks ⊆ (List.range 16).flatMap fun a => (List.range 16).map fun b => (a, b) := fun m hm => by
    obtain ⟨h1, h2⟩ := h.lt m hm
    rw [List.mem_flatMap]
    exact ⟨m.1, List.mem_range.mpr h1, List.mem_map.mpr ⟨m.2, List.mem_range.mpr h2, rfl⟩⟩
  have := List.Nodup.length_le_of_subset h.nd hs
  rw [List.length_flatMap] at this
  exact Nat.le_trans this (by decide)
/-! ### members, messages -/
theorem memberOf_map {r : KRoom} {g : Member → Member} (hg : ∀ m, (g m).who = m.who) (w : Nat) : memberOf { r with members := r.members.map g } w = (memberOf r w).map g := by
  show (r.members.map g).find? _ = (r.members.find? _).map g
  rw [List.find?_map]
  congr 2
  funext m
  simp only [Function.comp, hg]
theorem memsL_map {ad : Ad} {f k : Nat} {g : Member → Member} (hg : ∀ m, (g m).who = m.who) (l : List Member) : memsL ad f k (l.map g) = memsL ad f k l := by
  unfold memsL
  rw [List.map_map]
  apply List.map_congr_left
  intro m _
  simp only [Function.comp, hg]
theorem RoomOk.mapm {r : KRoom} (h : RoomOk r) {g : Member → Member} (hg : ∀ m, (g m).who = m.who) (hb : ∀ m, m.since ≤ 128 ∧ m.read ≤ 128 → (g m).since ≤ 128 ∧ (g m).read ≤ 128) : RoomOk { r with members := r.members.map g } where
  mnd := by
    have e : (r.members.map g).map (·.who) = r.members.map (·.who) := by
      rw [List.map_map]
      exact List.map_congr_left fun m _ => hg m
    show ((r.members.map g).map (·.who)).Nodup
    rw [e]
    exact h.mnd
  mlt m hm := by
    rw [List.mem_map] at hm
    obtain ⟨y, hy, rfl⟩ := hm
    rw [hg]
    exact h.mlt y hy
  ind := h.ind
  ilt := h.ilt
  dis m hm := by
    rw [List.mem_map] at hm
    obtain ⟨y, hy, rfl⟩ := hm
    rw [hg]
    exact h.dis y hy
  few := by
    show (r.members.map g).length + _ ≤ 12
    rw [List.length_map]
    exact h.few
  msgs := h.msgs
  msg := h.msg
  bnd m hm := by
    rw [List.mem_map] at hm
    obtain ⟨y, hy, rfl⟩ := hm
    exact hb y (h.bnd y hy)
theorem RoomOk.setm {r : KRoom} (h : RoomOk r) {n : Nat} {x : Message} (hx : MsgOk x) : RoomOk (withMessage r n x) where
  mnd := h.mnd
  mlt := h.mlt
  ind := h.ind
  ilt := h.ilt
  dis := h.dis
  few := h.few
  msgs := by
    show (r.messages.set n x).length ≤ 128
    rw [List.length_set]
    exact h.msgs
  msg y hy := by
    have hy' : y ∈ r.messages.set n x := hy
    rcases List.mem_or_eq_of_mem_set hy' with h1 | h1
    · exact h.msg y h1
    · rw [h1]
      exact hx
  bnd := h.bnd
theorem RoomOk.past {r : KRoom} (h : RoomOk r) (b : Bool) : RoomOk { r with past := b } := ⟨h.mnd, h.mlt, h.ind, h.ilt, h.dis, h.few, h.msgs, h.msg, h.bnd⟩
/-- who's marked is there -/
def upMem (q : Nat) (g : Member → Member) (r : KRoom) : KRoom := { r with members := r.members.map fun y => if y.who = q then g y else y }
section
variable {C : Cs} {F F' H : Hp} {s : Abs} {ad : Ad} {f k : Nat} {r : KRoom}
theorem Rep.upMem (R : Rep C F H s ad) (hr : roomOf s f k = some r) {q : Nat} {m : Member} (hm : memberOf r q = some m) (g : Member → Member) (hg : ∀ m, (g m).who = m.who) (hb : ∀ m, m.since ≤ 128 ∧ m.read ≤ 128 → (g m).since ≤ 128 ∧ (g m).read ≤ 128) (dx : Addr) :
    Rep C F (upd H (ad (.rm f k (.mem q))) (.ins C.mem dx (memF (g m)))) (withRoom s (upMem q g r)) ad := by
  have hg' : ∀ m : Member, (if m.who = q then g m else m).who = m.who := fun m => by
    split
    · exact hg m
    · rfl
  have hb' : ∀ m : Member, m.since ≤ 128 ∧ m.read ≤ 128 → (if m.who = q then g m else m).since ≤ 128 ∧ (if m.who = q then g m else m).read ≤ 128 := fun m h => by
    split
    · exact hb m h
    · exact h
  obtain ⟨_, h1, h2⟩ := roomOf_some hr
  have hq : m.who = q := (memberOf_some hm).2
  refine R.put hr (r' := Tr.upMem q g r) h1 h2 ((R.wf.room hr).mapm hg' hb') (t0 := .mem q) (p0 := .ins C.mem (memF m)) (p1 := .ins C.mem (memF (g m))) (by show (memberOf r q).map _ = _; rw [hm]; rfl) ?_ ⟨dx, rfl⟩ ?_
  · show (memberOf (Tr.upMem q g r) q).map _ = _
    unfold Tr.upMem
    rw [memberOf_map hg', hm]
    show some (PO.ins C.mem (memF (if m.who = q then g m else m))) = _
    rw [if_pos hq]
  · intro t ht p e
    cases t with
    | mems =>
      have e' : some (PO.lst (memsL ad f k (r.members.map fun y => if y.who = q then g y else y))) = some p := e
      rw [memsL_map hg'] at e'
      exact e'
    | mem w =>
      have hw : w ≠ q := fun z => ht (by rw [z])
      have e' : (memberOf (Tr.upMem q g r) w).map (fun m => PO.ins C.mem (memF m)) = some p := e
      unfold Tr.upMem at e'
      rw [memberOf_map hg'] at e'
      show (memberOf r w).map (fun m => PO.ins C.mem (memF m)) = some p
      cases z : memberOf r w with
      | none =>
        rw [z] at e'
        cases e'
      | some m' =>
        rw [z] at e'
        have e2 : some (PO.ins C.mem (memF (if m'.who = q then g m' else m'))) = some p := e'
        rw [if_neg (by rw [(memberOf_some z).2]; exact hw)] at e2
        exact e2
    | _ => exact e
/-- a list of those that are left, laid at p, is the room's -/
theorem Rep.members (R : Rep C (upd F p (.lst (memsL ad f k (Kcs8.without r.members q)))) H s ad) (hp : F p = none) (hr : roomOf s f k = some r) (dx : Addr) :
    ∃ ad' : Ad, ad' .house = ad .house ∧ (∀ w, ad' (.rm f k (.mem w)) = ad (.rm f k (.mem w))) ∧ ad' (.rm f k .inv) = ad (.rm f k .inv) ∧ ad' (.rm f k .room) = ad (.rm f k .room) ∧
      Rep C F (upd H (ad (.rm f k .room)) (.ins C.room dx (putF "members" (.ref p) (roomF ad f k r)))) (withRoom s { r with members := Kcs8.without r.members q }) ad' := by
  obtain ⟨_, h1, h2⟩ := roomOf_some hr
  have ok := R.wf.room hr
  have hw : ∀ m ∈ Kcs8.without r.members q, m ∈ r.members ∧ m.who ≠ q := fun m hm => by
    unfold Kcs8.without at hm
    rw [List.mem_filter] at hm
    exact ⟨hm.1, by simpa using hm.2⟩
  have sub : (Kcs8.without r.members q).Sublist r.members := List.filter_sublist
  have ok' : RoomOk { r with members := Kcs8.without r.members q } := {
    mnd := ok.mnd.sublist (sub.map _)
    mlt := fun m hm => ok.mlt m (hw m hm).1
    ind := ok.ind
    ilt := ok.ilt
    dis := fun m hm => ok.dis m (hw m hm).1
    few := Nat.le_trans (Nat.add_le_add_right sub.length_le _) ok.few
    msgs := ok.msgs
    msg := ok.msg
    bnd := fun m hm => ok.bnd m (hw m hm).1 }
  refine ⟨mv ad f k (fun t => if t = .mems then some p else none), rfl, fun w => if_pos ⟨rfl, rfl⟩, if_pos ⟨rfl, rfl⟩, if_pos ⟨rfl, rfl⟩, ?_⟩
  have em : ∀ l, memsL (mv ad f k (fun t => if t = .mems then some p else none)) f k l = memsL ad f k l := fun l => by
    unfold memsL
    apply List.map_congr_left
    intro m _
    rw [mv_here]
    rfl
  refine R.local (F := F) (r' := { r with members := Kcs8.without r.members q }) (na := fun t => if t = .mems then some p else none) (t0 := .room) hr h1 h2 ok' ?_ rfl rfl rfl ?_ ?_ rfl ?_ ?_
  · intro b o e
    rw [upd_ne (fun z => by rw [z, hp] at e; cases e)]
    exact e
  · intro t a e
    by_cases c : t = .mems
    · subst c
      have ea : some p = some a := e
      cases ea
      refine ⟨hp, _, _, upd_same, rfl, ?_⟩
      show _ = HO.lst _
      rw [em]
    · have e' : (if t = .mems then some p else none) = some a := e
      rw [if_neg c] at e'
      cases e'
  · intro t t' a e e'
    by_cases c : t = .mems
    · by_cases c' : t' = .mems
      · rw [c, c']
      · have e2 : (if t' = .mems then some p else none) = some a := e'
        rw [if_neg c'] at e2
        cases e2
    · have e2 : (if t = .mems then some p else none) = some a := e
      rw [if_neg c] at e2
      cases e2
  · refine ⟨dx, ?_⟩
    rw [putF_members]
    unfold roomF
    rw [mv_here, mv_here, mv_here]
    rfl
  · intro t ht hc pp e
    cases t with
    | room => exact absurd rfl hc
    | mems => cases ht
    | inv => exact e
    | msgs =>
      have e' : some (PO.lst (msgsL (mv ad f k (fun t => if t = .mems then some p else none)) f k r.messages.length)) = some pp := e
      have ee : msgsL (mv ad f k (fun t => if t = .mems then some p else none)) f k r.messages.length = msgsL ad f k r.messages.length := by
        unfold msgsL
        apply List.map_congr_left
        intro n _
        rw [mv_here]
        rfl
      rw [ee] at e'
      exact e'
    | mem w =>
      have e' : (memberOf { r with members := Kcs8.without r.members q } w).map (fun m => PO.ins C.mem (memF m)) = some pp := e
      show (memberOf r w).map (fun m => PO.ins C.mem (memF m)) = some pp
      cases z : memberOf { r with members := Kcs8.without r.members q } w with
      | none =>
        rw [z] at e'
        cases e'
      | some m =>
        rw [z] at e'
        obtain ⟨z1, z2⟩ := memberOf_some z
        have : memberOf r w = some m := find_who ok.mnd (hw m z1).1 z2
        rw [this]
        exact e'
    | msg n =>
      have e' : r.messages[n]?.map (fun x => PO.ins C.msg (msgF (mv ad f k (fun t => if t = .mems then some p else none)) f k n x)) = some pp := e
      show r.messages[n]?.map (fun x => PO.ins C.msg (msgF ad f k n x)) = some pp
      rw [← e']
      congr 1
      funext x
      unfold msgF
      rw [mv_here, mv_here]
      rfl
    | txt n => exact e
    | mrk n => exact e
end
end Tr
/-! What a store does to the house, further. -/
namespace Tr
open PySem PySem.Spec PyProof.Rows L2
open Kcs8 (Abs Member Message roomOf memberOf withRoom withMessage)
section
variable {C : Cs} {F F' H : Hp} {s : Abs} {ad : Ad} {f k : Nat} {r : KRoom}
theorem Rep.past (R : Rep C F H s ad) (hr : roomOf s f k = some r) (b : Bool) (dx : Addr) : Rep C F (upd H (ad (.rm f k .room)) (.ins C.room dx (putF "past" (pastV b) (roomF ad f k r)))) (withRoom s { r with past := b }) ad := by
  obtain ⟨_, h1, h2⟩ := roomOf_some hr
  refine R.put hr (r' := { r with past := b }) h1 h2 ((R.wf.room hr).past b) (t0 := .room) rfl rfl ⟨dx, ?_⟩ ?_
  · rw [putF_past]
    rfl
  · intro t ht p e
    cases t with
    | room => exact absurd rfl ht
    | _ => exact e
/-- who is invited changes -/
theorem Rep.invited (R : Rep C F H s ad) (hr : roomOf s f k = some r) (l : List Nat) (ok : RoomOk { r with invited := l }) : Rep C F (upd H (ad (.rm f k .inv)) (.dK (invK l))) (withRoom s { r with invited := l }) ad := by
  obtain ⟨_, h1, h2⟩ := roomOf_some hr
  refine R.put hr (r' := { r with invited := l }) h1 h2 ok (t0 := .inv) rfl rfl rfl ?_
  intro t ht p e
  cases t with
  | inv => exact absurd rfl ht
  | _ => exact e
theorem RoomOk.invite (h : RoomOk r) {q : Nat} (hq : q < 16) (hm : memberOf r q = none) (hi : q ∉ r.invited) (hl : r.members.length + r.invited.length < 12) : RoomOk { r with invited := r.invited ++ [q] } where
  mnd := h.mnd
  mlt := h.mlt
  ind := by
    show (r.invited ++ [q]).Nodup
    rw [List.nodup_append]
    refine ⟨h.ind, by simp, fun a ha b hb e => ?_⟩
    rw [List.mem_singleton] at hb
    rw [e, hb] at ha
    exact hi ha
  ilt a ha := by
    have ha' : a ∈ r.invited ++ [q] := ha
    rw [List.mem_append, List.mem_singleton] at ha'
    rcases ha' with z | z
    · exact h.ilt a z
    · rw [z]
      exact hq
  dis m hm' z := by
    have z' : m.who ∈ r.invited ++ [q] := z
    rw [List.mem_append, List.mem_singleton] at z'
    rcases z' with z' | z'
    · exact h.dis m hm' z'
    · exact memberOf_none.mp hm m hm' z'
  few := by
    show r.members.length + (r.invited ++ [q]).length ≤ 12
    rw [List.length_append]
    simp only [List.length_cons, List.length_nil]
    omega
  msgs := h.msgs
  msg := h.msg
  bnd := h.bnd
theorem length_filter_ne {q : Nat} {l : List Nat} (hn : l.Nodup) (hq : q ∈ l) : (l.filter (· != q)).length + 1 = l.length := by
  induction l with
  | nil => cases hq
  | cons a l ih =>
    rw [List.nodup_cons] at hn
    rw [List.filter_cons]
    by_cases c : a = q
    · subst c
      have : (l.filter (· != a)) = l := List.filter_eq_self.mpr fun b hb => by
        have : b ≠ a := fun z => hn.1 (z ▸ hb)
        simpa using this
      simp [this]
    · have c' : (a != q) = true := by simpa using c
      rw [if_pos c', List.length_cons, List.length_cons]
      cases hq with
      | head => exact absurd rfl c
      | tail _ hq => rw [ih hn.2 hq]
theorem RoomOk.uninvite (h : RoomOk r) (q : Nat) : RoomOk { r with invited := r.invited.filter (· != q) } where
  mnd := h.mnd
  mlt := h.mlt
  ind := h.ind.sublist List.filter_sublist
  ilt a ha := h.ilt a (List.mem_filter.mp ha).1
  dis m hm z := h.dis m hm (List.mem_filter.mp z).1
  few := Nat.le_trans (Nat.add_le_add_left (List.length_filter_le _ _) _) h.few
  msgs := h.msgs
  msg := h.msg
  bnd := h.bnd
theorem RoomOk.join (h : RoomOk r) {p : Nat} (hp : p < 16) (hm : memberOf r p = none) (hi : p ∉ r.invited) (hl : r.members.length + r.invited.length < 12) (b : Bool) (i j : Nat) (hij : i ≤ 128 ∧ j ≤ 128) : RoomOk { r with members := r.members ++ [⟨p, b, i, j⟩] } where
  mnd := by
    show ((r.members ++ [(⟨p, b, i, j⟩ : Member)]).map (·.who)).Nodup
    rw [List.map_append, List.nodup_append]
    refine ⟨h.mnd, by simp, fun a ha b' hb e => ?_⟩
    have hb' : b' = p := by simpa using hb
    rw [List.mem_map] at ha
    obtain ⟨m, hm', rfl⟩ := ha
    exact memberOf_none.mp hm m hm' (e.trans hb')
  mlt m hm' := by
    have z : m ∈ r.members ++ [⟨p, b, i, j⟩] := hm'
    rw [List.mem_append, List.mem_singleton] at z
    rcases z with z | z
    · exact h.mlt m z
    · rw [z]
      exact hp
  ind := h.ind
  ilt := h.ilt
  dis m hm' := by
    have z : m ∈ r.members ++ [⟨p, b, i, j⟩] := hm'
    rw [List.mem_append, List.mem_singleton] at z
    rcases z with z | z
    · exact h.dis m z
    · rw [z]
      exact hi
  few := by
    show (r.members ++ [(⟨p, b, i, j⟩ : Member)]).length + r.invited.length ≤ 12
    rw [List.length_append]
    simp only [List.length_cons, List.length_nil]
    omega
  msgs := h.msgs
  msg := h.msg
  bnd m hm' := by
    have z : m ∈ r.members ++ [⟨p, b, i, j⟩] := hm'
    rw [List.mem_append, List.mem_singleton] at z
    rcases z with z | z
    · exact h.bnd m z
    · rw [z]
      exact hij
/-- a new member, laid at x, is the last one -/
theorem Rep.join (R : Rep C F' H s ad) (hF : ∀ b o, F b = some o → F' b = some o) (hr : roomOf s f k = some r) {p : Nat} {x dx : Addr} {b : Bool} {i j : Nat} (hm : memberOf r p = none) (hx : F' x = some (.ins C.mem dx (memF ⟨p, b, i, j⟩))) (hxF : F x = none)
    (ok : RoomOk { r with members := r.members ++ [⟨p, b, i, j⟩] }) :
    ∃ ad' : Ad, ad' .house = ad .house ∧ Rep C F (upd H (ad (.rm f k .mems)) (.lst (memsL ad f k r.members ++ [V.ref x]))) (withRoom s { r with members := r.members ++ [⟨p, b, i, j⟩] }) ad' := by
  obtain ⟨_, h1, h2⟩ := roomOf_some hr
  refine ⟨mv ad f k (fun t => if t = .mem p then some x else none), rfl, ?_⟩
  have hnp := memberOf_none.mp hm
  have em : memsL (mv ad f k (fun t => if t = .mem p then some x else none)) f k r.members = memsL ad f k r.members := by
    unfold memsL
    apply List.map_congr_left
    intro m hm'
    rw [mv_here, if_neg (fun z => hnp m hm' (by injection z))]
    rfl
  have na_ne : ∀ t, t ≠ .mem p → mv ad f k (fun t => if t = .mem p then some x else none) (.rm f k t) = ad (.rm f k t) := fun t ht => by
    rw [mv_here, if_neg ht]
    rfl
  refine R.local (F := F) (r' := { r with members := r.members ++ [⟨p, b, i, j⟩] }) (na := fun t => if t = .mem p then some x else none) (t0 := .mems) hr h1 h2 ok hF rfl rfl rfl ?_ ?_ rfl ?_ ?_
  · intro t a e
    by_cases c : t = .mem p
    · subst c
      have ea : (if RT.mem p = RT.mem p then some x else none) = some a := e
      rw [if_pos rfl] at ea
      cases ea
      refine ⟨hxF, _, .ins C.mem (memF ⟨p, b, i, j⟩), hx, ?_, ⟨dx, rfl⟩⟩
      show ((r.members ++ [(⟨p, b, i, j⟩ : Member)]).find? (fun m => m.who == p)).map _ = _
      have hm' : r.members.find? (fun m => m.who == p) = none := hm
      rw [List.find?_append, hm']
      simp [List.find?_cons]
    · have e' : (if t = .mem p then some x else none) = some a := e
      rw [if_neg c] at e'
      cases e'
  · intro t t' a e e'
    by_cases c : t = .mem p
    · by_cases c' : t' = .mem p
      · rw [c, c']
      · have e2 : (if t' = .mem p then some x else none) = some a := e'
        rw [if_neg c'] at e2
        cases e2
    · have e2 : (if t = .mem p then some x else none) = some a := e
      rw [if_neg c] at e2
      cases e2
  · show HO.lst _ = HO.lst _
    rw [← em]
    unfold memsL
    rw [List.map_append]
    congr 2
    show [V.ref x] = [V.ref (mv ad f k _ (.rm f k (.mem p)))]
    rw [mv_here, if_pos rfl]
    rfl
  · intro t ht hc pp e
    have ht' : t ≠ .mem p := fun z => by
      rw [z] at ht
      have : (if RT.mem p = RT.mem p then some x else none) = none := ht
      rw [if_pos rfl] at this
      cases this
    cases t with
    | mems => exact absurd rfl hc
    | room =>
      have e' : some (PO.ins C.room (roomF (mv ad f k (fun t => if t = .mem p then some x else none)) f k { r with members := r.members ++ [⟨p, b, i, j⟩] })) = some pp := e
      rw [← e']
      unfold robj roomF
      rw [na_ne _ (by intro z; cases z), na_ne _ (by intro z; cases z), na_ne _ (by intro z; cases z)]
    | inv => exact e
    | msgs =>
      have e' : some (PO.lst (msgsL (mv ad f k (fun t => if t = .mem p then some x else none)) f k r.messages.length)) = some pp := e
      rw [← e']
      show some (PO.lst _) = some (PO.lst _)
      congr 2
      apply List.map_congr_left
      intro n _
      rw [na_ne _ (by intro z; cases z)]
    | mem w =>
      have hw : w ≠ p := fun z => ht' (by rw [z])
      have e' : ((r.members ++ [(⟨p, b, i, j⟩ : Member)]).find? (fun m => m.who == w)).map (fun m => PO.ins C.mem (memF m)) = some pp := e
      show (r.members.find? (fun m => m.who == w)).map (fun m => PO.ins C.mem (memF m)) = some pp
      rw [← e', List.find?_append]
      cases z : r.members.find? (fun m => m.who == w) with
      | some m => rfl
      | none =>
        have : (p == w) = false := by simpa using (fun z => hw z.symm)
        simp [List.find?_cons, this]
    | msg n =>
      have e' : r.messages[n]?.map (fun x' => PO.ins C.msg (msgF (mv ad f k (fun t => if t = .mem p then some x else none)) f k n x')) = some pp := e
      rw [← e']
      show r.messages[n]?.map _ = _
      congr 1
      funext x'
      unfold msgF
      rw [na_ne _ (by intro z; cases z), na_ne _ (by intro z; cases z)]
    | txt n => exact e
    | mrk n => exact e
/-- message n changes; its record, or its text, or its marks -/
theorem robj_with (ad : Ad) {n : Nat} {x x' : Message} (hx : r.messages[n]? = some x) (t : RT) (h1 : t ≠ .msg n) (h2 : t ≠ .txt n) (h3 : t ≠ .mrk n) : robj C ad f k (withMessage r n x') t = robj C ad f k r t := by
  have hl : ∀ j, j ≠ n → (r.messages.set n x')[j]? = r.messages[j]? := fun j hj => List.getElem?_set_ne (fun z => hj z.symm)
  cases t with
  | msgs =>
    show some (PO.lst (msgsL ad f k (r.messages.set n x').length)) = _
    rw [List.length_set]
    rfl
  | msg j =>
    show (r.messages.set n x')[j]?.map _ = _
    rw [hl j (fun z => h1 (by rw [z]))]
    rfl
  | txt j =>
    show (r.messages.set n x')[j]?.map _ = _
    rw [hl j (fun z => h2 (by rw [z]))]
    rfl
  | mrk j =>
    show (r.messages.set n x')[j]?.map _ = _
    rw [hl j (fun z => h3 (by rw [z]))]
    rfl
  | _ => rfl
theorem set_at {n : Nat} {x x' : Message} (hx : r.messages[n]? = some x) : (withMessage r n x').messages[n]? = some x' := by
  show (r.messages.set n x')[n]? = _
  rw [List.getElem?_set_self']
  rw [hx]
  rfl
/-- the record changes where text and marks do not -/
theorem Rep.setMsg (R : Rep C F H s ad) (hr : roomOf s f k = some r) {n : Nat} {x x' : Message} (hx : r.messages[n]? = some x) (ok : MsgOk x') (ht : x'.text = x.text) (hm : x'.marks = x.marks) (dx : Addr) :
    Rep C F (upd H (ad (.rm f k (.msg n))) (.ins C.msg dx (msgF ad f k n x'))) (withRoom s (withMessage r n x')) ad := by
  obtain ⟨_, h1, h2⟩ := roomOf_some hr
  refine R.put hr (r' := withMessage r n x') h1 h2 ((R.wf.room hr).setm ok) (t0 := .msg n) (p0 := .ins C.msg (msgF ad f k n x)) (p1 := .ins C.msg (msgF ad f k n x')) (by show r.messages[n]?.map _ = _; rw [hx]; rfl) (by show (withMessage r n x').messages[n]?.map _ = _; rw [set_at hx]; rfl) ⟨dx, rfl⟩ ?_
  intro t hc p e
  by_cases c2 : t = .txt n
  · subst c2
    have e' : (withMessage r n x').messages[n]?.map (fun x => PO.lst (nats x.text)) = some p := e
    rw [set_at hx] at e'
    have e2 : some (PO.lst (nats x'.text)) = some p := e'
    show r.messages[n]?.map (fun x => PO.lst (nats x.text)) = some p
    rw [hx, ← e2, ht]
    rfl
  · by_cases c3 : t = .mrk n
    · subst c3
      have e' : (withMessage r n x').messages[n]?.map (fun x => PO.dT (mrkK x.marks)) = some p := e
      rw [set_at hx] at e'
      have e2 : some (PO.dT (mrkK x'.marks)) = some p := e'
      show r.messages[n]?.map (fun x => PO.dT (mrkK x.marks)) = some p
      rw [hx, ← e2, hm]
      rfl
    · rw [robj_with ad hx t hc c2 c3] at e
      exact e
/-- its marks change where they stand -/
theorem Rep.setMarks (R : Rep C F H s ad) (hr : roomOf s f k = some r) {n : Nat} {x : Message} (hx : r.messages[n]? = some x) {l : List (Nat × Nat)} (ok : MsgOk { x with marks := l }) :
    Rep C F (upd H (ad (.rm f k (.mrk n))) (.dT (mrkK l))) (withRoom s (withMessage r n { x with marks := l })) ad := by
  obtain ⟨_, h1, h2⟩ := roomOf_some hr
  refine R.put hr (r' := withMessage r n { x with marks := l }) h1 h2 ((R.wf.room hr).setm ok) (t0 := .mrk n) (p0 := .dT (mrkK x.marks)) (p1 := .dT (mrkK l)) (by show r.messages[n]?.map _ = _; rw [hx]; rfl) (by show (withMessage r n _).messages[n]?.map _ = _; rw [set_at hx]; rfl) rfl ?_
  intro t hc p e
  by_cases c2 : t = .txt n
  · subst c2
    have e' : (withMessage r n { x with marks := l }).messages[n]?.map (fun x => PO.lst (nats x.text)) = some p := e
    rw [set_at hx] at e'
    show r.messages[n]?.map (fun x => PO.lst (nats x.text)) = some p
    rw [hx, ← e']
    rfl
  · by_cases c3 : t = .msg n
    · subst c3
      have e' : (withMessage r n { x with marks := l }).messages[n]?.map (fun x => PO.ins C.msg (msgF ad f k n x)) = some p := e
      rw [set_at hx] at e'
      show r.messages[n]?.map (fun x => PO.ins C.msg (msgF ad f k n x)) = some p
      rw [hx, ← e']
      rfl
    · rw [robj_with ad hx t c3 c2 hc] at e
      exact e
/-- a message's text (at p) or marks (at p) is another object -/
theorem Rep.moveMsg (R : Rep C F' H s ad) (hF : ∀ b o, F b = some o → F' b = some o) (hr : roomOf s f k = some r) {n : Nat} {x x' : Message} (hx : r.messages[n]? = some x) (ok : MsgOk x') {t1 : RT} {p dx : Addr} {o : HO} {po : PO} (h1 : t1 = .txt n ∨ t1 = .mrk n)
    (hp : F' p = some o) (hpF : F p = none) (e1 : robj C ad f k (withMessage r n x') t1 = some po) (i1 : po.Is o) (ht : t1 ≠ .txt n → x'.text = x.text) (hm : t1 ≠ .mrk n → x'.marks = x.marks) :
    ∃ ad' : Ad, ad' .house = ad .house ∧ (∀ t, t ≠ t1 → ad' (.rm f k t) = ad (.rm f k t)) ∧ ad' (.rm f k t1) = p ∧ Rep C F (upd H (ad (.rm f k (.msg n))) (.ins C.msg dx (msgF ad' f k n x'))) (withRoom s (withMessage r n x')) ad' := by
  obtain ⟨_, g1, g2⟩ := roomOf_some hr
  have nm : t1 ≠ .msg n := fun z => by rcases h1 with h | h <;> (rw [h] at z; cases z)
  have na_ne : ∀ t, t ≠ t1 → mv ad f k (fun t => if t = t1 then some p else none) (.rm f k t) = ad (.rm f k t) := fun t ht => by
    rw [mv_here, if_neg ht]
    rfl
  refine ⟨mv ad f k (fun t => if t = t1 then some p else none), rfl, na_ne, by rw [mv_here, if_pos rfl]; rfl, ?_⟩
  have nroom : t1 ≠ .room := fun z => by rcases h1 with h | h <;> (rw [h] at z; cases z)
  refine R.local (F := F) (r' := withMessage r n x') (na := fun t => if t = t1 then some p else none) (t0 := .msg n) (p0 := .ins C.msg (msgF ad f k n x)) (p1 := .ins C.msg (msgF (mv ad f k (fun t => if t = t1 then some p else none)) f k n x')) hr g1 g2 ((R.wf.room hr).setm ok) hF
    (by show r.messages[n]?.map _ = _; rw [hx]; rfl) (if_neg (fun z => nm z.symm)) (if_neg (fun z => nroom z.symm)) ?_ ?_ (by show (withMessage r n x').messages[n]?.map _ = _; rw [set_at hx]; rfl) ⟨dx, rfl⟩ ?_
  · intro t a e
    by_cases c : t = t1
    · have e' : (if t = t1 then some p else none) = some a := e
      rw [if_pos c] at e'
      cases e'
      refine ⟨hpF, o, po, hp, ?_, i1⟩
      rw [c, ← e1]
      rcases h1 with h | h <;> rw [h] <;> rfl
    · have e' : (if t = t1 then some p else none) = some a := e
      rw [if_neg c] at e'
      cases e'
  · intro t t' a e e'
    by_cases c : t = t1
    · by_cases c' : t' = t1
      · rw [c, c']
      · have e2 : (if t' = t1 then some p else none) = some a := e'
        rw [if_neg c'] at e2
        cases e2
    · have e2 : (if t = t1 then some p else none) = some a := e
      rw [if_neg c] at e2
      cases e2
  · intro t htt hc pp e
    have ht1 : t ≠ t1 := fun z => by
      have : (if t = t1 then some p else none) = none := htt
      rw [if_pos z] at this
      cases this
    have base : robj C (mv ad f k (fun t => if t = t1 then some p else none)) f k (withMessage r n x') t = robj C ad f k (withMessage r n x') t := by
      cases t with
      | room =>
        unfold robj roomF
        rw [na_ne _ (by rintro rfl; rcases h1 with h | h <;> cases h), na_ne _ (by rintro rfl; rcases h1 with h | h <;> cases h), na_ne _ (by rintro rfl; rcases h1 with h | h <;> cases h)]
      | mems =>
        show some (PO.lst _) = some (PO.lst _)
        congr 2
        apply List.map_congr_left
        intro m _
        rw [na_ne _ (by rintro rfl; rcases h1 with h | h <;> cases h)]
      | msgs =>
        show some (PO.lst _) = some (PO.lst _)
        congr 2
        apply List.map_congr_left
        intro m _
        rw [na_ne _ (by rintro rfl; rcases h1 with h | h <;> cases h)]
      | msg j =>
        have hj : j ≠ n := fun z => hc (by rw [z])
        show (withMessage r n x').messages[j]?.map _ = (withMessage r n x').messages[j]?.map _
        congr 1
        funext y
        unfold msgF
        rw [na_ne _ (by rintro rfl; rcases h1 with h | h <;> (first | (injection h with h; exact hj h) | cases h)), na_ne _ (by rintro rfl; rcases h1 with h | h <;> (first | (injection h with h; exact hj h) | cases h))]
      | _ => rfl
    rw [base] at e
    by_cases c2 : t = .txt n
    · subst c2
      have e' : (withMessage r n x').messages[n]?.map (fun x => PO.lst (nats x.text)) = some pp := e
      rw [set_at hx] at e'
      have e2 : some (PO.lst (nats x'.text)) = some pp := e'
      show r.messages[n]?.map (fun x => PO.lst (nats x.text)) = some pp
      rw [hx, ← e2, ht (fun z => ht1 z.symm)]
      rfl
    · by_cases c3 : t = .mrk n
      · subst c3
        have e' : (withMessage r n x').messages[n]?.map (fun x => PO.dT (mrkK x.marks)) = some pp := e
        rw [set_at hx] at e'
        have e2 : some (PO.dT (mrkK x'.marks)) = some pp := e'
        show r.messages[n]?.map (fun x => PO.dT (mrkK x.marks)) = some pp
        rw [hx, ← e2, hm (fun z => ht1 z.symm)]
        rfl
      · rw [robj_with ad hx t hc c2 c3] at e
        exact e
end
end Tr
/-! What a store does to the house: new messages, new rooms, a new house. -/
namespace Tr
open PySem PySem.Spec PyProof.Rows L2
open Kcs8 (Abs Member Message roomOf memberOf withRoom withMessage)
theorem RoomOk.say {r : KRoom} (h : RoomOk r) {x : Message} (hx : MsgOk x) (hl : r.messages.length < 128) : RoomOk { r with messages := r.messages ++ [x] } where
  mnd := h.mnd
  mlt := h.mlt
  ind := h.ind
  ilt := h.ilt
  dis := h.dis
  few := h.few
  msgs := by
    show (r.messages ++ [x]).length ≤ 128
    rw [List.length_append]
    simp only [List.length_cons, List.length_nil]
    omega
  msg y hy := by
    have hy' : y ∈ r.messages ++ [x] := hy
    rw [List.mem_append, List.mem_singleton] at hy'
    rcases hy' with z | z
    · exact h.msg y z
    · rw [z]
      exact hx
  bnd := h.bnd
section
variable {C : Cs} {F F' H : Hp} {s : Abs} {ad : Ad} {f k : Nat} {r : KRoom}
theorem Rep.say (R : Rep C F' H s ad) (hF : ∀ b o, F b = some o → F' b = some o) (hr : roomOf s f k = some r) {x : Message} {a row d dx : Addr} (ok : MsgOk x) (hl : r.messages.length < 128)
    (ha : F' a = some (.ins C.msg dx [("who", .int (x.who : Int)), ("text", .ref row), ("answered", .int (ansN x : Int)), ("many_changed", .int (x.changes : Int)), ("marks", .ref d), ("is_gone", .bl x.gone)])) (haF : F a = none)
    (hw : F' row = some (.lst (nats x.text))) (hwF : F row = none) (hd : F' d = some (.dT (mrkK x.marks))) (hdF : F d = none) :
    ∃ ad' : Ad, ad' .house = ad .house ∧ ad' (.rm f k .msgs) = ad (.rm f k .msgs) ∧ Rep C F (upd H (ad (.rm f k .msgs)) (.lst (msgsL ad f k r.messages.length ++ [V.ref a]))) (withRoom s { r with messages := r.messages ++ [x] }) ad' := by
  obtain ⟨_, h1, h2⟩ := roomOf_some hr
  let n := r.messages.length
  let na : RT → Option Addr := fun t => if t = .msg n then some a else if t = .txt n then some row else if t = .mrk n then some d else none
  have n1 : na (.msg n) = some a := if_pos rfl
  have n2 : na (.txt n) = some row := by
    show (if RT.txt n = RT.msg n then some a else if RT.txt n = RT.txt n then some row else if RT.txt n = RT.mrk n then some d else none) = _
    rw [if_neg (by intro z; cases z), if_pos rfl]
  have n3 : na (.mrk n) = some d := by
    show (if RT.mrk n = RT.msg n then some a else if RT.mrk n = RT.txt n then some row else if RT.mrk n = RT.mrk n then some d else none) = _
    rw [if_neg (by intro z; cases z), if_neg (by intro z; cases z), if_pos rfl]
  have n0 : ∀ t, t ≠ .msg n → t ≠ .txt n → t ≠ .mrk n → na t = none := fun t e1 e2 e3 => by
    show (if t = RT.msg n then some a else if t = RT.txt n then some row else if t = RT.mrk n then some d else none) = _
    rw [if_neg e1, if_neg e2, if_neg e3]
  have nn : ∀ t b, na t = some b → (t = .msg n ∧ b = a) ∨ (t = .txt n ∧ b = row) ∨ (t = .mrk n ∧ b = d) := fun t b e => by
    by_cases c1 : t = .msg n
    · rw [c1, n1] at e
      cases e
      exact .inl ⟨c1, rfl⟩
    · by_cases c2 : t = .txt n
      · rw [c2, n2] at e
        cases e
        exact .inr (.inl ⟨c2, rfl⟩)
      · by_cases c3 : t = .mrk n
        · rw [c3, n3] at e
          cases e
          exact .inr (.inr ⟨c3, rfl⟩)
        · rw [n0 t c1 c2 c3] at e
          cases e
  have na_ne : ∀ t, t ≠ .msg n → t ≠ .txt n → t ≠ .mrk n → mv ad f k na (.rm f k t) = ad (.rm f k t) := fun t e1 e2 e3 => by
    rw [mv_here, n0 t e1 e2 e3]
    rfl
  have m1 : mv ad f k na (.rm f k (.msg n)) = a := by
    rw [mv_here, n1]
    rfl
  have m2 : mv ad f k na (.rm f k (.txt n)) = row := by
    rw [mv_here, n2]
    rfl
  have m3 : mv ad f k na (.rm f k (.mrk n)) = d := by
    rw [mv_here, n3]
    rfl
  have last : (r.messages ++ [x])[n]? = some x := by
    rw [List.getElem?_append_right (Nat.le_refl _), Nat.sub_self]
    rfl
  have before : ∀ j, j ≠ n → (r.messages ++ [x])[j]? = r.messages[j]? := fun j hj => by
    by_cases c : j < n
    · rw [List.getElem?_append_left c]
    · rw [List.getElem?_eq_none (by rw [List.length_append]; simp only [List.length_cons, List.length_nil]; omega), List.getElem?_eq_none (by omega)]
  refine ⟨mv ad f k na, rfl, na_ne _ (by intro z; cases z) (by intro z; cases z) (by intro z; cases z), ?_⟩
  refine R.local (F := F) (r' := { r with messages := r.messages ++ [x] }) (na := na) (t0 := .msgs) hr h1 h2 ((R.wf.room hr).say ok hl) hF rfl (n0 _ (by intro z; cases z) (by intro z; cases z) (by intro z; cases z)) (n0 _ (by intro z; cases z) (by intro z; cases z) (by intro z; cases z)) ?_ ?_ rfl ?_ ?_
  · intro t b e
    rcases nn t b e with ⟨rfl, rfl⟩ | ⟨rfl, rfl⟩ | ⟨rfl, rfl⟩
    · refine ⟨haF, _, .ins C.msg (msgF (mv ad f k na) f k n x), ha, ?_, dx, ?_⟩
      · show (r.messages ++ [x])[n]?.map _ = _
        rw [last]
        rfl
      · unfold msgF
        rw [m2, m3]
    · refine ⟨hwF, _, .lst (nats x.text), hw, ?_, rfl⟩
      show (r.messages ++ [x])[n]?.map _ = _
      rw [last]
      rfl
    · refine ⟨hdF, _, .dT (mrkK x.marks), hd, ?_, rfl⟩
      show (r.messages ++ [x])[n]?.map _ = _
      rw [last]
      rfl
  · intro t t' b e e'
    have ne1 : a ≠ row := fun z => by
      rw [z, hw] at ha
      cases ha
    have ne2 : a ≠ d := fun z => by
      rw [z, hd] at ha
      cases ha
    have ne3 : row ≠ d := fun z => by
      rw [z, hd] at hw
      cases hw
    rcases nn t b e with ⟨rfl, rfl⟩ | ⟨rfl, rfl⟩ | ⟨rfl, rfl⟩ <;> rcases nn t' _ e' with ⟨rfl, z⟩ | ⟨rfl, z⟩ | ⟨rfl, z⟩
    · rfl
    · exact absurd z ne1
    · exact absurd z ne2
    · exact absurd z.symm ne1
    · rfl
    · exact absurd z ne3
    · exact absurd z.symm ne2
    · exact absurd z.symm ne3
    · rfl
  · show HO.lst _ = HO.lst _
    congr 1
    show _ = msgsL (mv ad f k na) f k (r.messages ++ [x]).length
    rw [List.length_append]
    show msgsL ad f k n ++ [V.ref a] = msgsL (mv ad f k na) f k (n + 1)
    unfold msgsL
    rw [List.range_succ, List.map_append]
    congr 1
    · apply List.map_congr_left
      intro j hj
      have hj' : j < n := List.mem_range.mp hj
      rw [na_ne _ (by intro z; injection z with z; omega) (by intro z; cases z) (by intro z; cases z)]
    · show _ = [V.ref (mv ad f k na (.rm f k (.msg n)))]
      rw [m1]
  · intro t ht hc pp e
    have c1 : t ≠ .msg n := fun z => by rw [z, n1] at ht; cases ht
    have c2 : t ≠ .txt n := fun z => by rw [z, n2] at ht; cases ht
    have c3 : t ≠ .mrk n := fun z => by rw [z, n3] at ht; cases ht
    cases t with
    | msgs => exact absurd rfl hc
    | room =>
      have e' : some (PO.ins C.room (roomF (mv ad f k na) f k { r with messages := r.messages ++ [x] })) = some pp := e
      rw [← e']
      unfold robj roomF
      rw [na_ne _ (by intro z; cases z) (by intro z; cases z) (by intro z; cases z), na_ne _ (by intro z; cases z) (by intro z; cases z) (by intro z; cases z), na_ne _ (by intro z; cases z) (by intro z; cases z) (by intro z; cases z)]
    | mems =>
      have e' : some (PO.lst (memsL (mv ad f k na) f k r.members)) = some pp := e
      rw [← e']
      show some (PO.lst _) = some (PO.lst _)
      congr 2
      apply List.map_congr_left
      intro m _
      rw [na_ne _ (by intro z; cases z) (by intro z; cases z) (by intro z; cases z)]
    | inv => exact e
    | mem w => exact e
    | msg j =>
      have hj : j ≠ n := fun z => c1 (by rw [z])
      have e' : (r.messages ++ [x])[j]?.map (fun x' => PO.ins C.msg (msgF (mv ad f k na) f k j x')) = some pp := e
      rw [before j hj] at e'
      rw [← e']
      show r.messages[j]?.map _ = _
      congr 1
      funext x'
      unfold msgF
      rw [na_ne _ (by intro z; cases z) (by intro z; injection z with z; exact hj z) (by intro z; cases z), na_ne _ (by intro z; cases z) (by intro z; cases z) (by intro z; injection z with z; exact hj z)]
    | txt j =>
      have hj : j ≠ n := fun z => c2 (by rw [z])
      have e' : (r.messages ++ [x])[j]?.map (fun x => PO.lst (nats x.text)) = some pp := e
      rw [before j hj] at e'
      exact e'
    | mrk j =>
      have hj : j ≠ n := fun z => c3 (by rw [z])
      have e' : (r.messages ++ [x])[j]?.map (fun x => PO.dT (mrkK x.marks)) = some pp := e
      rw [before j hj] at e'
      exact e'
/-- a room is founded: its five objects, new, and its founder's list -/
theorem Rep.found (R : Rep C F' H s ad) (hF : ∀ b o, F b = some o → F' b = some o) {p : Nat} (hp : p < 16) (h4 : cnt s p < 4) {b : Bool} {x ma ia ga y dx dy : Addr}
    (hx : F' x = some (.ins C.room dx [("past", pastV b), ("members", .ref ma), ("invited", .ref ia), ("messages", .ref ga)])) (hxF : F x = none) (hm : F' ma = some (.lst [V.ref y])) (hmF : F ma = none)
    (hi : F' ia = some (.dK [])) (hiF : F ia = none) (hg : F' ga = some (.lst [])) (hgF : F ga = none) (hy : F' y = some (.ins C.mem dy (memF ⟨p, true, 0, 0⟩))) (hyF : F y = none) (hxy : x ≠ y) :
    ∃ ad' : Ad, ad' .house = ad .house ∧ ad' (.mine p) = ad (.mine p) ∧ Rep C F (upd H (ad (.mine p)) (.lst (mineL ad p (cnt s p) ++ [V.ref x]))) (foundS s p b) ad' := by
  let n := cnt s p
  let na : RT → Option Addr := fun t => match t with
    | .room => some x
    | .mems => some ma
    | .inv => some ia
    | .msgs => some ga
    | .mem w => if w = p then some y else none
    | _ => none
  have hrn : roomOf s p n = none := by
    cases e : roomOf s p n with
    | none => rfl
    | some r => exact absurd (R.wf.lt e).2 (Nat.lt_irrefl _)
  have other : ∀ f' k' t, ¬ (f' = p ∧ k' = n) → mv ad p n na (.rm f' k' t) = ad (.rm f' k' t) := fun f' k' t c => if_neg c
  have my : na (.mem p) = some y := if_pos rfl
  have mems1 : memberOf (newRoom p n b) p = some ⟨p, true, 0, 0⟩ := by
    show List.find? (fun m : Member => m.who == p) [⟨p, true, 0, 0⟩] = _
    simp [List.find?_cons]
  -- the objects of the new state
  have cases3 : ∀ T q, obj C (mv ad p n na) (foundS s p b) T = some q →
      (mv ad p n na T = ad T ∧ obj C ad s T = some q ∧ T ≠ .mine p) ∨ (T = .mine p ∧ q = .lst (mineL ad p n ++ [V.ref x])) ∨ (∃ t a, T = .rm p n t ∧ na t = some a ∧ ∃ o, F' a = some o ∧ F a = none ∧ q.Is o) := by
    intro T q e
    cases T with
    | house => exact .inl ⟨rfl, e, fun z => by cases z⟩
    | fnd => exact .inl ⟨rfl, e, fun z => by cases z⟩
    | mine f' =>
      have e' : (if f' < 16 then some (PO.lst (mineL (mv ad p n na) f' (cnt (foundS s p b) f'))) else none) = some q := e
      rw [cnt_found R.wf hp] at e'
      by_cases c : f' = p
      · subst c
        rw [if_pos rfl, if_pos hp] at e'
        refine .inr (.inl ⟨rfl, ?_⟩)
        rw [← Option.some.inj e']
        congr 1
        unfold mineL
        show (List.range (n + 1)).map _ = _
        rw [List.range_succ, List.map_append]
        congr 1
        · apply List.map_congr_left
          intro j hj
          have hj' : j < n := List.mem_range.mp hj
          rw [other _ _ _ (by intro z; omega)]
        · show [V.ref (mv ad f' n na (.rm f' n .room))] = _
          rw [mv_here]
          rfl
      · rw [if_neg c] at e'
        refine .inl ⟨rfl, ?_, fun z => c (by injection z)⟩
        have ee : mineL (mv ad p n na) f' (cnt s f') = mineL ad f' (cnt s f') := by
          unfold mineL
          apply List.map_congr_left
          intro j _
          rw [other _ _ _ (fun z => c z.1)]
        rw [ee] at e'
        exact e'
    | rm f' k' t =>
      have e' : (roomOf (foundS s p b) f' k').bind (fun r => robj C (mv ad p n na) f' k' r t) = some q := e
      rw [roomOf_found R.wf] at e'
      by_cases c : f' = p ∧ k' = n
      · rw [if_pos c] at e'
        obtain ⟨rfl, rfl⟩ := c
        have e2 : robj C (mv ad f' n na) f' n (newRoom f' n b) t = some q := e'
        refine .inr (.inr ?_)
        cases t with
        | room =>
          refine ⟨.room, x, rfl, rfl, _, hx, hxF, ?_⟩
          rw [← Option.some.inj e2]
          refine ⟨dx, ?_⟩
          unfold roomF
          rw [mv_here, mv_here, mv_here]
          rfl
        | mems =>
          refine ⟨.mems, ma, rfl, rfl, _, hm, hmF, ?_⟩
          rw [← Option.some.inj e2]
          show HO.lst _ = HO.lst [V.ref (mv ad f' n na (.rm f' n (.mem f')))]
          rw [mv_here, my]
          rfl
        | inv =>
          refine ⟨.inv, ia, rfl, rfl, _, hi, hiF, ?_⟩
          rw [← Option.some.inj e2]
          rfl
        | msgs =>
          refine ⟨.msgs, ga, rfl, rfl, _, hg, hgF, ?_⟩
          rw [← Option.some.inj e2]
          rfl
        | mem w =>
          have e3 : (memberOf (newRoom f' n b) w).map (fun m => PO.ins C.mem (memF m)) = some q := e2
          by_cases cw : w = f'
          · subst cw
            rw [mems1] at e3
            refine ⟨.mem w, y, rfl, my, _, hy, hyF, ?_⟩
            rw [← Option.some.inj e3]
            exact ⟨dy, rfl⟩
          · exfalso
            have : memberOf (newRoom f' n b) w = none := by
              rw [memberOf_none]
              intro m hm'
              have : m ∈ [(⟨f', true, 0, 0⟩ : Member)] := hm'
              rw [List.mem_singleton] at this
              rw [this]
              exact fun z => cw z.symm
            rw [this] at e3
            cases e3
        | msg j => cases e2
        | txt j => cases e2
        | mrk j => cases e2
      · rw [if_neg c] at e'
        refine .inl ⟨if_neg c, ?_, fun z => by cases z⟩
        show (roomOf s f' k').bind (fun r => robj C ad f' k' r t) = some q
        cases z : roomOf s f' k' with
        | none =>
          rw [z] at e'
          cases e'
        | some r2 =>
          rw [z] at e'
          have e2 : robj C (mv ad p n na) f' k' r2 t = some q := e'
          rw [robj_other c] at e2
          exact e2
  have f0 := R.own (.mine p) _ (if_pos hp)
  have lv0 : (obj C ad s (.mine p)).isSome = true := by
    show (if p < 16 then some (PO.lst _) else none).isSome = true
    rw [if_pos hp]
    rfl
  have hF0 : ∀ b, F' b = none → F b = none := fun b e => by
    cases q : F b with
    | none => rfl
    | some o =>
      rw [hF _ _ q] at e
      cases e
  have nainj : ∀ t t' a, na t = some a → na t' = some a → t = t' := by
    have d1 : x ≠ ma := fun z => by rw [z, hm] at hx; cases hx
    have d2 : x ≠ ia := fun z => by rw [z, hi] at hx; cases hx
    have d3 : x ≠ ga := fun z => by rw [z, hg] at hx; cases hx
    have d4 : ma ≠ ia := fun z => by rw [z, hi] at hm; cases hm
    have d5 : ma ≠ ga := fun z => by rw [z, hg] at hm; cases hm
    have d6 : ma ≠ y := fun z => by rw [z, hy] at hm; cases hm
    have d7 : ia ≠ ga := fun z => by rw [z, hg] at hi; cases hi
    have d8 : ia ≠ y := fun z => by rw [z, hy] at hi; cases hi
    have d9 : ga ≠ y := fun z => by rw [z, hy] at hg; cases hg
    have nmem : ∀ w a, na (.mem w) = some a → w = p ∧ a = y := fun w a e => by
      have e' : (if w = p then some y else none) = some a := e
      by_cases c : w = p
      · rw [if_pos c] at e'
        exact ⟨c, (Option.some.inj e').symm⟩
      · rw [if_neg c] at e'
        cases e'
    intro t t' a e e'
    cases t with
    | room =>
      cases e
      cases t' with
      | room => rfl
      | mems => exact absurd (Option.some.inj e').symm d1
      | inv => exact absurd (Option.some.inj e').symm d2
      | msgs => exact absurd (Option.some.inj e').symm d3
      | mem w => exact absurd (nmem w _ e').2 hxy
      | _ => cases e'
    | mems =>
      cases e
      cases t' with
      | room => exact absurd (Option.some.inj e') d1
      | mems => rfl
      | inv => exact absurd (Option.some.inj e').symm d4
      | msgs => exact absurd (Option.some.inj e').symm d5
      | mem w => exact absurd (nmem w _ e').2 d6
      | _ => cases e'
    | inv =>
      cases e
      cases t' with
      | room => exact absurd (Option.some.inj e') d2
      | mems => exact absurd (Option.some.inj e') d4
      | inv => rfl
      | msgs => exact absurd (Option.some.inj e').symm d7
      | mem w => exact absurd (nmem w _ e').2 d8
      | _ => cases e'
    | msgs =>
      cases e
      cases t' with
      | room => exact absurd (Option.some.inj e') d3
      | mems => exact absurd (Option.some.inj e') d5
      | inv => exact absurd (Option.some.inj e') d7
      | msgs => rfl
      | mem w => exact absurd (nmem w _ e').2 d9
      | _ => cases e'
    | mem w =>
      obtain ⟨rfl, rfl⟩ := nmem w a e
      cases t' with
      | room => exact absurd (Option.some.inj e') hxy
      | mems => exact absurd (Option.some.inj e') d6
      | inv => exact absurd (Option.some.inj e') d8
      | msgs => exact absurd (Option.some.inj e') d9
      | mem w' => rw [(nmem w' _ e').1]
      | _ => cases e'
    | msg j => cases e
    | txt j => cases e
    | mrk j => cases e
  refine ⟨mv ad p n na, rfl, rfl, fun b o e => ?_, fun T q e => ?_, fun T T' e e' h => ?_, wf_found R.wf hp h4⟩
  · have : b ≠ ad (.mine p) := fun z => by
      rw [z] at e
      rw [hF _ _ e] at f0
      cases f0.1
    rw [upd_ne this]
    exact R.sub _ _ (hF _ _ e)
  · rcases cases3 T q e with ⟨e1, e2, e3⟩ | ⟨rfl, rfl⟩ | ⟨t, a, rfl, z, o, z1, z2, z3⟩
    · rw [e1]
      obtain ⟨h1, u, h2, h3⟩ := R.own T q e2
      have : ad T ≠ ad (.mine p) := fun z => e3 (R.inj T _ (by rw [e2]; rfl) lv0 z)
      exact ⟨hF0 _ h1, u, by rw [upd_ne this]; exact h2, h3⟩
    · exact ⟨hF0 _ f0.1, _, upd_same, rfl⟩
    · rw [mv_here, z]
      show F a = none ∧ _
      have : a ≠ ad (.mine p) := fun z => by
        rw [z] at z1
        rw [z1] at f0
        cases f0.1
      exact ⟨z2, o, by show upd H _ _ a = some o; rw [upd_ne this]; exact R.sub _ _ z1, z3⟩
  · obtain ⟨q, e⟩ := Option.isSome_iff_exists.mp e
    obtain ⟨q', e'⟩ := Option.isSome_iff_exists.mp e'
    have mm : mv ad p n na (.mine p) = ad (.mine p) := rfl
    rcases cases3 T q e with ⟨e1, e2, e3⟩ | ⟨rfl, rfl⟩ | ⟨t, a, rfl, z, o, z1, z2, z3⟩
    · rcases cases3 T' q' e' with ⟨e1', e2', e3'⟩ | ⟨rfl, rfl⟩ | ⟨t', a', rfl, z', o', z1', z2', z3'⟩
      · rw [e1, e1'] at h
        exact R.inj _ _ (by rw [e2]; rfl) (by rw [e2']; rfl) h
      · rw [e1, mm] at h
        exact R.inj _ _ (by rw [e2]; rfl) lv0 h
      · rw [e1, mv_here, z'] at h
        have h' : ad T = a' := h
        have := (R.own T q e2).1
        rw [h', z1'] at this
        cases this
    · rcases cases3 T' q' e' with ⟨e1', e2', e3'⟩ | ⟨rfl, rfl⟩ | ⟨t', a', rfl, z', o', z1', z2', z3'⟩
      · rw [e1', mm] at h
        exact R.inj _ _ lv0 (by rw [e2']; rfl) h
      · rfl
      · rw [mm, mv_here, z'] at h
        have h' : ad (.mine p) = a' := h
        have := f0.1
        rw [h', z1'] at this
        cases this
    · rcases cases3 T' q' e' with ⟨e1', e2', e3'⟩ | ⟨rfl, rfl⟩ | ⟨t', a', rfl, z', o', z1', z2', z3'⟩
      · rw [e1', mv_here, z] at h
        have h' : a = ad T' := h
        have := (R.own T' q' e2').1
        rw [← h', z1] at this
        cases this
      · rw [mm, mv_here, z] at h
        have h' : a = ad (.mine p) := h
        have := f0.1
        rw [← h', z1] at this
        cases this
      · rw [mv_here, mv_here, z, z'] at h
        have h' : a = a' := h
        subst h'
        rw [nainj t t' a z z']
/-- a new house -/
theorem Rep.fresh {hh l dx : Addr} {L : List Addr} (hl : L.length = 16) (nd : L.Nodup) (hs : ∀ b o, F b = some o → H b = some o) (h1 : H hh = some (.ins C.house dx [("founded", .ref l)])) (f1 : F hh = none) (h2 : H l = some (.lst (L.map V.ref))) (f2 : F l = none)
    (h3 : ∀ a ∈ L, H a = some (.lst []) ∧ F a = none ∧ a ≠ l) : ∃ ad : Ad, ad .house = hh ∧ Rep C F H Kcs8.first ad := by
  let ad : Ad := fun T => match T with
    | .house => hh
    | .fnd => l
    | .mine f => L.getD f 0
    | .rm _ _ _ => 0
  have hnone : ∀ f k, roomOf Kcs8.first f k = none := fun f k => rfl
  have hc : ∀ f, cnt Kcs8.first f = 0 := fun f => by
    show (List.replicate 16 0).getD f 0 = 0
    rw [List.getD_eq_getElem?_getD, List.getElem?_replicate]
    split <;> rfl
  have hm : ∀ f, f < 16 → L.getD f 0 ∈ L := fun f hf => by
    rw [List.getD_eq_getElem?_getD, List.getElem?_eq_getElem (by rw [hl]; exact hf)]
    exact List.getElem_mem _
  refine ⟨ad, rfl, hs, fun T p e => ?_, fun T T' e e' h => ?_, wf_first⟩
  · cases T with
    | house =>
      rw [← Option.some.inj e]
      exact ⟨f1, _, h1, dx, rfl⟩
    | fnd =>
      rw [← Option.some.inj e]
      refine ⟨f2, _, h2, ?_⟩
      show HO.lst _ = HO.lst _
      congr 1
      apply List.ext_getElem?
      intro i
      unfold fndL
      rw [List.getElem?_map, List.getElem?_map]
      by_cases c : i < 16
      · rw [List.getElem?_eq_getElem (by rw [hl]; exact c), List.getElem?_range c]
        show some (V.ref L[i]) = some (V.ref (L.getD i 0))
        rw [List.getD_eq_getElem?_getD, List.getElem?_eq_getElem (by rw [hl]; exact c)]
        rfl
      · rw [List.getElem?_eq_none (by rw [hl]; omega), List.getElem?_eq_none (by rw [List.length_range]; omega)]
        rfl
    | mine f =>
      have e' : (if f < 16 then some (PO.lst (mineL ad f (cnt Kcs8.first f))) else none) = some p := e
      by_cases c : f < 16
      · rw [if_pos c, hc] at e'
        rw [← Option.some.inj e']
        obtain ⟨z1, z2, _⟩ := h3 _ (hm f c)
        exact ⟨z2, _, z1, rfl⟩
      · rw [if_neg c] at e'
        cases e'
    | rm f k t => cases e
  · have key : ∀ T, (obj C ad Kcs8.first T).isSome = true → T = .house ∨ T = .fnd ∨ ∃ f, f < 16 ∧ T = .mine f := fun T e => by
      cases T with
      | house => exact .inl rfl
      | fnd => exact .inr (.inl rfl)
      | mine f =>
        have e' : (if f < 16 then some (PO.lst (mineL ad f (cnt Kcs8.first f))) else none).isSome = true := e
        by_cases c : f < 16
        · exact .inr (.inr ⟨f, c, rfl⟩)
        · rw [if_neg c] at e'
          cases e'
      | rm f k t => cases e
    have n1 : hh ≠ l := fun z => by rw [z, h2] at h1; cases h1
    have n2 : ∀ f, f < 16 → L.getD f 0 ≠ hh := fun f hf z => by
      have := (h3 _ (hm f hf)).1
      rw [z, h1] at this
      cases this
    rcases key T e with rfl | rfl | ⟨f, hf, rfl⟩ <;> rcases key T' e' with rfl | rfl | ⟨f', hf', rfl⟩
    · rfl
    · exact absurd h n1
    · exact absurd h.symm (n2 f' hf')
    · exact absurd h.symm n1
    · rfl
    · exact absurd h.symm (h3 _ (hm f' hf')).2.2
    · exact absurd h (n2 f hf)
    · exact absurd h (h3 _ (hm f hf)).2.2
    · have h' : L.getD f 0 = L.getD f' 0 := h
      rw [List.getD_eq_getElem?_getD, List.getD_eq_getElem?_getD, List.getElem?_eq_getElem (by rw [hl]; exact hf), List.getElem?_eq_getElem (by rw [hl]; exact hf')] at h'
      have h2 : L[f]'(by rw [hl]; exact hf) = L[f']'(by rw [hl]; exact hf') := h'
      rw [(List.getElem_inj nd).mp h2]
end
end Tr
/-! Rules that the layer lacks, and how defs of the text are called. -/
namespace Tr
open PySem PySem.Spec PyProof.Rows L2
/-- no exception leaves: then it keeps its promise in any context -/
theorem lift0 {P : Program} {w : World} {K : PySem.W.Frag} {mg : Str → Option Value} {base : Heap} {k : Nat} {f : Addr} {fd : FuncData} {ps : List Str} {sp : Sp} (CX : CXT) (F : FnOk P w K mg base CX0 k f fd ps sp) : FnOk P w K mg base CX k f fd ps sp where
  len := F.len
  run A outer s H args us vs Q E hr e0 hb hv h := codeAny_mono (F.run A outer s H args us vs Q E hr e0 hb hv h) fun r s' hq => by
    cases r with
    | error e => exact False.elim hq
    | ok fl =>
      cases fl with
      | ret u => exact hq
      | next => exact False.elim hq
      | brk => exact False.elim hq
      | cont => exact False.elim hq
/-- what is known of a def of the text -/
structure Def (K : PySem.W.Frag) (mg : Str → Option Value) (x : Str) (st : Stmt) : Prop where
  ex : ∃ f fd, Fun K x x st f fd ∧ mg x = some (.ref f)
/-- a def by its promise -/
structure Cal (P : Program) (w : World) (K : PySem.W.Frag) (mg : Str → Option Value) (base : Heap) (CX : CXT) (k : Nat) (x : Str) (sp : Sp) : Prop where
  ex : ∃ f fd ps, FnOk P w K mg base CX k f fd ps sp ∧ mg x = some (.ref f) ∧ PySem.W.keepIn K (.ref f) = true ∧ Binds K fd ps []
structure DefM (K : PySem.W.Frag) (C : Addr) (m qual : Str) (st : Stmt) : Prop where
  ex : ∃ f fd, Fun K m qual st f fd ∧ Meth K C m f
structure CalM (P : Program) (w : World) (K : PySem.W.Frag) (mg : Str → Option Value) (base : Heap) (CX : CXT) (k : Nat) (C : Addr) (m : Str) (sp : Sp) : Prop where
  ex : ∃ f fd ps, FnOk P w K mg base CX k f fd ps sp ∧ Meth K C m f ∧ Binds K fd ps []
structure DefI (K : PySem.W.Frag) (mg : Str → Option Value) (x : Str) (C : Addr) (qual : Str) (st : Stmt) : Prop where
  ex : ∃ f fd, Fun K "__init__" qual st f fd ∧ Mk K C f ∧ mg x = some (.ref C)
structure Mak (P : Program) (w : World) (K : PySem.W.Frag) (mg : Str → Option Value) (base : Heap) (CX : CXT) (k : Nat) (x : Str) (C : Addr) (sp : Sp) : Prop where
  ex : ∃ f fd ps, FnOk P w K mg base CX k f fd ps sp ∧ Mk K C f ∧ mg x = some (.ref C) ∧ Binds K fd ps []
section
variable {X : Cx} {CX : CXT} {j k : Nat} {C : Addr} {sp : Sp} {E : XK} {x m : Str} {p pos apos : Pos} {e o : Expr} {es : List Expr} {ta : TE} {t : TA}
theorem app_nil_sp {sp : Sp} {Q : VK} {E : XK} : (fun (vs : List V) (H1 : Hp) => sp (vs ++ []) H1 Q E) = fun vs H1 => sp vs H1 Q E := by
  funext vs H1
  rw [List.append_nil]
def tC1 (sp : Sp) (E : XK) (t : TA) : TE := fun σ H Q => t σ H fun vs H1 => sp vs H1 Q E
theorem pe_c (c : Cal X.prog X.w X.K X.mg X.base CX k x sp) (hr : Room j X.A) (hx : Passes CX X E) (ha : PA X (e :: es) t) (hk : k ≤ j := by decide) (hg : Gl X x := by rfl)
    (hdb : (x == ("__debug__" : Str)) = false := by decide) (he : starEach (e :: es) X.env = (false, eval e X.env) :: starEach es X.env := by rfl) (hpl : (backTo pos (starEach es X.env)).any (·.1) = false := by rfl) :
    PE X (.Call (.Name x p) (e :: es) [] pos) (tC1 sp E t) := by
  obtain ⟨f, fd, ps, F, hm, kp, hb⟩ := c.ex
  refine ⟨fun pins s σ H Q I h => ?_⟩
  refine (pe_call F (hr.mono hk) hg hm kp hb .nil hx ha hdb he hpl).run pins s σ H Q I ?_
  show t σ H fun vs H1 => sp (vs ++ []) H1 Q E
  rw [app_nil_sp]
  exact h
/-- within a try -/
theorem pe_cS {E : L2.St → XK} (c : Cal X.prog X.w X.K X.mg X.base CX k x sp) (hr : Room j X.A) (hx : ∀ σ, PassesAt CX X σ (E σ)) (ha : PA X (e :: es) t) (hk : k ≤ j := by decide) (hg : Gl X x := by rfl)
    (hdb : (x == ("__debug__" : Str)) = false := by decide) (he : starEach (e :: es) X.env = (false, eval e X.env) :: starEach es X.env := by rfl) (hpl : (backTo pos (starEach es X.env)).any (·.1) = false := by rfl) :
    PE X (.Call (.Name x p) (e :: es) [] pos) (tCallS sp E t) := by
  obtain ⟨f, fd, ps, F, hm, kp, hb⟩ := c.ex
  exact pe_callS F (hr.mono hk) hg hm kp hb hx ha hdb he hpl
def tM1 (C : Addr) (m : Str) (sp : Sp) (E : XK) (ta : TE) (t : TA) : TE := fun σ H Q => ta σ H fun x H1 => ∃ a dx fs, x = .ref a ∧ H1 a = some (.ins C dx fs) ∧ fs.lookup m = none ∧ t σ H1 fun vs H2 => sp (x :: vs) H2 Q E
theorem pe_m {pl : Sem Bool} (c : CalM X.prog X.w X.K X.mg X.base CX k C m sp) (hcl : Cls X.K C) (hr : Room j X.A) (hx : Passes CX X E) (he : PE X o ta) (ha : PA X (e :: es) t) (hk : k ≤ j := by decide)
    (hst : starEach (e :: es) X.env = (false, eval e X.env) :: starEach es X.env := by rfl) (hpl : (backTo pos (starEach es X.env)).any (·.1) = false := by rfl)
    (ht : eval (.Call (.Attribute o m apos) (e :: es) [] pos) X.env = (do
      let ov ← eval o X.env
      standAt apos.atName
      let (f, first) ← holding [ov] (getMethod ov m pl)
      callWith pos f first (backTo pos (starEach (e :: es) X.env)) (backToKw pos (keywordEach [] X.env))) := by rfl) :
    PE X (.Call (.Attribute o m apos) (e :: es) [] pos) (tM1 C m sp E ta t) := by
  obtain ⟨f, fd, ps, F, hm, hb⟩ := c.ex
  refine ⟨fun pins s σ H Q I h => ?_⟩
  refine (pe_meth (pl := pl) he hcl hm F (hr.mono hk) hb .nil hx ha hst hpl ht).run pins s σ H Q I ?_
  show ta σ H fun x H1 => ∃ a dx fs, x = .ref a ∧ H1 a = some (.ins C dx fs) ∧ fs.lookup m = none ∧ t σ H1 fun vs H2 => sp (x :: (vs ++ [])) H2 Q E
  have e0 : ∀ x, (fun (vs : List V) (H1 : Hp) => sp (x :: (vs ++ [])) H1 Q E) = fun vs H1 => sp (x :: vs) H1 Q E := fun x => by
    funext vs H1
    rw [List.append_nil]
  have e1 : (fun (x : V) (H1 : Hp) => ∃ a dx fs, x = .ref a ∧ H1 a = some (.ins C dx fs) ∧ fs.lookup m = none ∧ t σ H1 fun vs H2 => sp (x :: (vs ++ [])) H2 Q E) =
      fun x H1 => ∃ a dx fs, x = .ref a ∧ H1 a = some (.ins C dx fs) ∧ fs.lookup m = none ∧ t σ H1 fun vs H2 => sp (x :: vs) H2 Q E := by
    funext x H1
    rw [e0]
  rw [e1]
  exact h
def tM0 (C : Addr) (m : Str) (sp : Sp) (E : XK) (ta : TE) : TE := fun σ H Q => ta σ H fun x H1 => ∃ a dx fs, x = .ref a ∧ H1 a = some (.ins C dx fs) ∧ fs.lookup m = none ∧ sp [x] H1 Q E
theorem pe_m0 {pl : Sem Bool} (c : CalM X.prog X.w X.K X.mg X.base CX k C m sp) (hcl : Cls X.K C) (hr : Room j X.A) (hx : Passes CX X E) (he : PE X o ta) (hk : k ≤ j := by decide)
    (ht : eval (.Call (.Attribute o m apos) [] [] pos) X.env = (do
      let ov ← eval o X.env
      standAt apos.atName
      let (f, first) ← holding [ov] (getMethod ov m pl)
      callWith pos f first (backTo pos (starEach [] X.env)) (backToKw pos (keywordEach [] X.env))) := by rfl) :
    PE X (.Call (.Attribute o m apos) [] [] pos) (tM0 C m sp E ta) := by
  obtain ⟨f, fd, ps, F, hm, hb⟩ := c.ex
  refine ⟨fun pins s σ H Q I h => ?_⟩
  exact (pe_meth0 (pl := pl) he hcl hm F (hr.mono hk) hb .nil hx ht).run pins s σ H Q I h
def tK1 (C : Addr) (sp : Sp) (E : XK) (t : TA) : TE := fun σ H Q => t σ H fun vs H1 => ∀ x dx, H1 x = none → H1 dx = none → dx ≠ x →
  sp (.ref x :: vs) (upd (upd H1 dx (.own x)) x (.ins C dx [])) (fun v H2 => v = .non ∧ Q (.ref x) H2) E
theorem pe_k (c : Mak X.prog X.w X.K X.mg X.base CX k x C sp) (hr : Room j X.A) (hx : Passes CX X E) (ha : PA X (e :: es) t) (hk : k + 1 ≤ j := by decide) (hg : Gl X x := by rfl)
    (hdb : (x == ("__debug__" : Str)) = false := by decide) (he : starEach (e :: es) X.env = (false, eval e X.env) :: starEach es X.env := by rfl) (hpl : (backTo pos (starEach es X.env)).any (·.1) = false := by rfl) :
    PE X (.Call (.Name x p) (e :: es) [] pos) (tK1 C sp E t) := by
  obtain ⟨f, fd, ps, F, M, hm, hb⟩ := c.ex
  refine ⟨fun pins s σ H Q I h => ?_⟩
  refine (pe_make M F (hr.mono hk) hg hm hb .nil hx ha hdb he hpl).run pins s σ H Q I ?_
  have e1 : (fun (vs : List V) (H1 : Hp) => ∀ x dx, H1 x = none → H1 dx = none → dx ≠ x → sp (.ref x :: (vs ++ [])) (upd (upd H1 dx (.own x)) x (.ins C dx [])) (fun v H2 => v = .non ∧ Q (.ref x) H2) E) =
      fun vs H1 => ∀ x dx, H1 x = none → H1 dx = none → dx ≠ x → sp (.ref x :: vs) (upd (upd H1 dx (.own x)) x (.ins C dx [])) (fun v H2 => v = .non ∧ Q (.ref x) H2) E := by
    funext vs H1
    rw [List.append_nil]
  show t σ H fun vs H1 => ∀ x dx, H1 x = none → H1 dx = none → dx ≠ x → sp (.ref x :: (vs ++ [])) (upd (upd H1 dx (.own x)) x (.ins C dx [])) (fun v H2 => v = .non ∧ Q (.ref x) H2) E
  rw [e1]
  exact h
def tK0 (C : Addr) (sp : Sp) (E : XK) : TE := fun _ H Q => ∀ x dx, H x = none → H dx = none → dx ≠ x → sp [.ref x] (upd (upd H dx (.own x)) x (.ins C dx [])) (fun v H2 => v = .non ∧ Q (.ref x) H2) E
theorem pe_k0 (c : Mak X.prog X.w X.K X.mg X.base CX k x C sp) (hr : Room j X.A) (hx : Passes CX X E) (hk : k + 1 ≤ j := by decide) (hg : Gl X x := by rfl)
    (hdb : (x == ("__debug__" : Str)) = false := by decide) : PE X (.Call (.Name x p) [] [] pos) (tK0 C sp E) := by
  obtain ⟨f, fd, ps, F, M, hm, hb⟩ := c.ex
  refine ⟨fun pins s σ H Q I h => ?_⟩
  exact (pe_make0 M F (hr.mono hk) hg hm hb .nil hx hdb).run pins s σ H Q I h
/-- a constant of the module, a whole number -/
def IntAt (mg : Str → Option Value) (x : Str) (n : Int) : Prop := ∃ t, mg x = some (.int n t)
theorem pe_n {n : Int} (h : IntAt X.mg x n) (hg : Gl X x := by rfl) (hd : (x == ("__debug__" : Str)) = false := by decide) : PE X (.Name x pos) (tC (.int n)) := by
  obtain ⟨t, ht⟩ := h
  exact pe_glob hg ht ⟨t, rfl⟩ hd
/-- xs[i] of a list, by values -/
theorem pget_list : PGet X (rIxL X.K) := by
  intro pins s σ H o i ov iv Q I ro ri h
  obtain ⟨p, xs, i, z, rfl, rfl, hq, he, q⟩ := h
  cases ro
  obtain ⟨t, rfl⟩ := ri
  obtain ⟨its, r, pl, hz⟩ := I.list hq
  obtain ⟨j, h1, h2, h3, h4, h5⟩ := atI_get he
  obtain ⟨w, ew, rw'⟩ := r.get h2
  have hl := r.length
  have hn := line63
  have fin : EP X pins σ Q w s := ⟨z, H, I, rw', q⟩
  by_cases h0 : 0 ≤ i
  · have hj : i.toNat = j := by
      rw [seqIndex_of h0 h5] at h1
      exact Option.some.inj h1
    exact wpAny_getItem_list pl.isList h0 (by omega) (by rw [hj]; simpa using ew) fin
  · have hj : (i + (its.toArray.size : Int)).toNat = j := by
      rw [seqIndex_neg (by omega) h4] at h1
      rw [List.size_toArray, ← hl]
      exact Option.some.inj h1
    exact wpAny_getItem_list_neg pl.isList (by omega) (by rw [List.size_toArray] <;> omega) (by omega) (by rw [hj]; simpa using ew) fin
/-- d[n], d a written dict whose keys are whole numbers -/
def KDctI (K : PySem.W.Frag) (a : Addr) (x : Int) (v : V) : Prop :=
  ∃ es n u, K.lookup a = some ⟨.type "dict", none, .dict es n, #[]⟩ ∧ (∀ e ∈ es, ∃ (k : Int) (t : Tok), e.key = .int k t ∧ e.hash = hashInt k) ∧ findBy Value.isInt es x = some u ∧ RelV v u
def rIxDI (K : PySem.W.Frag) : R2 := fun x y H Q => ∃ p z v, x = .ref p ∧ y = .int z ∧ KDctI K p z v ∧ Q v H
theorem ix_kdictI : IxR X (rIxDI X.K) := by
  intro value slice pins s σ H x y v u Q I rx ry h hs
  obtain ⟨p, z, r, rfl, rfl, ⟨es, n, u0, hl, hk, e, ru⟩, q⟩ := h
  obtain rfl : v = Value.ref p := rx
  obtain ⟨t, rfl⟩ := ry
  have hm : s.heap.MapOf (PySem.intKind X.prog X.w) p (fun k => findBy Value.isInt es k) :=
    ⟨_, es, n, I.kIn _ _ hl, ⟨rfl, rfl, rfl⟩, rfl, fun e he => by
      obtain ⟨k, t, e1, e2⟩ := hk e he
      exact ⟨k, by rw [e1]; exact PySem.intKind_is X.prog X.w k t, e2⟩, fun _ => rfl⟩
  exact tail_any hm.typeIs slot_dict_getitem.lookup (wpAny_getItem_of (PySem.intKind_is X.prog X.w z t) hm e ⟨r, H, I.tok _, ru, q⟩) hs
/-- a call of a local name that holds one of several defs, within a try -/
structure HeldX (P : Program) (w : World) (K : PySem.W.Frag) (mg : Str → Option Value) (base : Heap) (CX : CXT) (k : Nat) (f : Addr) (sp : Sp) : Prop where
  ex : ∃ (fd : FuncData) (ps : List Str), FnOk P w K mg base CX k f fd ps sp ∧ PySem.W.keepIn K (.ref f) = true ∧ Binds K fd ps []
def tCallAX (i : Nat) (S : Addr → Sp → Prop) (E : L2.St → XK) (t : TA) : TE := fun σ H Q => ∃ f sp, σ[i]? = some (some (.ref f)) ∧ S f sp ∧ t σ H fun vs H1 => sp vs H1 Q (E σ)
theorem pe_callAX {i : Nat} {S : Addr → Sp → Prop} {E : L2.St → XK} (A : ∀ f sp, S f sp → HeldX X.prog X.w X.K X.mg X.base CX k f sp) (hr : Room k X.A) (hN : X.N[i]? = some x) (hv : Vis X.env.scope x) (hx : ∀ σ, PassesAt CX X σ (E σ)) (ha : PA X (e :: es) t)
    (hdb : (x == ("__debug__" : Str)) = false := by decide) (hcd : (x == ("__classdict__" : Str)) = false := by decide)
    (he : starEach (e :: es) X.env = (false, eval e X.env) :: starEach es X.env := by rfl) (hpl : (backTo pos (starEach es X.env)).any (·.1) = false := by rfl) : PE X (.Call (.Name x p) (e :: es) [] pos) (tCallAX i S E t) := by
  refine ⟨fun pins s σ H Q I h => ?_⟩
  obtain ⟨f, sp, hs, hS, ht⟩ := h
  obtain ⟨fd, ps, F, hk, hb⟩ := (A f sp hS).ex
  refine wpAny_Call_Name_kw (thn ((pe_var (i := i) hN hv hdb hcd).run pins s σ H (fun v H' => v = .ref f ∧ H' = H) I ⟨_, hs, rfl, rfl⟩) fun u s1 hh => ?_)
  obtain ⟨v, H1, I1, r1, rfl, rfl⟩ := hh
  obtain rfl : u = Value.ref f := r1
  refine PySem.W.callWith_K (h₀ := X.base) I1.ok.mod.kin hk (thn (ha.run pos pins s1 σ H1 _ I1 ht) fun us s2 ⟨vs, H2, I2, r, q⟩ => ⟨I2.kIn, ?_⟩) he hpl
  exact run_fnS F hr hb (hx σ) I2 r q
end
end Tr
/-! The program's statements by their places, each def's slots, what the top leaves. -/
namespace Tr
open PySem PySem.Spec PyProof.Rows L2
def top (i : Nat) : Stmt := PySem.Challenge.pw_talkrooms_s01_answers.main.body.getD i (.Pass ⟨0, 0, 0, 0⟩)
abbrev s_is_text : Stmt := top 4
abbrev n_is_text : List Str := ["row", "byte"]
theorem sc_is_text : FnScope n_is_text ["row"] (defScope s_is_text) := ⟨rfl, rfl, rfl, by decide +kernel, rfl, by decide +kernel, by decide +kernel⟩
abbrev s_is_great_letter : Stmt := top 5
abbrev n_is_great_letter : List Str := ["byte"]
theorem sc_is_great_letter : FnScope n_is_great_letter ["byte"] (defScope s_is_great_letter) := ⟨rfl, rfl, rfl, by decide +kernel, rfl, by decide +kernel, by decide +kernel⟩
abbrev s_is_of_word : Stmt := top 6
abbrev n_is_of_word : List Str := ["byte"]
theorem sc_is_of_word : FnScope n_is_of_word ["byte"] (defScope s_is_of_word) := ⟨rfl, rfl, rfl, by decide +kernel, rfl, by decide +kernel, by decide +kernel⟩
abbrev s_small : Stmt := top 7
abbrev n_small : List Str := ["byte"]
theorem sc_small : FnScope n_small ["byte"] (defScope s_small) := ⟨rfl, rfl, rfl, by decide +kernel, rfl, by decide +kernel, by decide +kernel⟩
abbrev s_is_word : Stmt := top 8
abbrev n_is_word : List Str := ["row", "byte"]
theorem sc_is_word : FnScope n_is_word ["row"] (defScope s_is_word) := ⟨rfl, rfl, rfl, by decide +kernel, rfl, by decide +kernel, by decide +kernel⟩
abbrev s_small_word : Stmt := top 9
abbrev n_small_word : List Str := ["row", "byte"]
theorem sc_small_word : FnScope n_small_word ["row"] (defScope s_small_word) := ⟨rfl, rfl, rfl, by decide +kernel, rfl, by decide +kernel, by decide +kernel⟩
abbrev s_words_of : Stmt := top 10
abbrev n_words_of : List Str := ["row", "found", "word", "byte"]
theorem sc_words_of : FnScope n_words_of ["row"] (defScope s_words_of) := ⟨rfl, rfl, rfl, by decide +kernel, rfl, by decide +kernel, by decide +kernel⟩
abbrev s_Message_init : Stmt := inClass (top 15) 0
abbrev n_Message_init : List Str := ["self", "who", "text", "answered"]
theorem sc_Message_init : FnScope n_Message_init ["self", "who", "text", "answered"] (defScope s_Message_init) := ⟨rfl, rfl, rfl, by decide +kernel, rfl, by decide +kernel, by decide +kernel⟩
abbrev s_Member_init : Stmt := inClass (top 16) 0
abbrev n_Member_init : List Str := ["self", "who", "is_keeper", "start"]
theorem sc_Member_init : FnScope n_Member_init ["self", "who", "is_keeper", "start"] (defScope s_Member_init) := ⟨rfl, rfl, rfl, by decide +kernel, rfl, by decide +kernel, by decide +kernel⟩
abbrev s_Room_init : Stmt := inClass (top 17) 0
abbrev n_Room_init : List Str := ["self", "past"]
theorem sc_Room_init : FnScope n_Room_init ["self", "past"] (defScope s_Room_init) := ⟨rfl, rfl, rfl, by decide +kernel, rfl, by decide +kernel, by decide +kernel⟩
abbrev s_House_init : Stmt := inClass (top 18) 0
abbrev n_House_init : List Str := ["self", "k"]
theorem sc_House_init : FnScope n_House_init ["self"] (defScope s_House_init) := ⟨rfl, rfl, rfl, by decide +kernel, rfl, by decide +kernel, by decide +kernel⟩
abbrev s_room_at : Stmt := top 19
abbrev n_room_at : List Str := ["house", "founder", "number"]
theorem sc_room_at : FnScope n_room_at ["house", "founder", "number"] (defScope s_room_at) := ⟨rfl, rfl, rfl, by decide +kernel, rfl, by decide +kernel, by decide +kernel⟩
abbrev s_all_rooms : Stmt := top 20
abbrev n_all_rooms : List Str := ["house", "found", "founder", "number", "room"]
theorem sc_all_rooms : FnScope n_all_rooms ["house"] (defScope s_all_rooms) := ⟨rfl, rfl, rfl, by decide +kernel, rfl, by decide +kernel, by decide +kernel⟩
abbrev s_member_of : Stmt := top 21
abbrev n_member_of : List Str := ["room", "who", "member"]
theorem sc_member_of : FnScope n_member_of ["room", "who"] (defScope s_member_of) := ⟨rfl, rfl, rfl, by decide +kernel, rfl, by decide +kernel, by decide +kernel⟩
abbrev s_is_known : Stmt := top 22
abbrev n_is_known : List Str := ["room", "who"]
theorem sc_is_known : FnScope n_is_known ["room", "who"] (defScope s_is_known) := ⟨rfl, rfl, rfl, by decide +kernel, rfl, by decide +kernel, by decide +kernel⟩
abbrev s_has_keeper : Stmt := top 23
abbrev n_has_keeper : List Str := ["room", "member"]
theorem sc_has_keeper : FnScope n_has_keeper ["room"] (defScope s_has_keeper) := ⟨rfl, rfl, rfl, by decide +kernel, rfl, by decide +kernel, by decide +kernel⟩
abbrev s_take_out : Stmt := top 24
abbrev n_take_out : List Str := ["room", "who", "first", "member"]
theorem sc_take_out : FnScope n_take_out ["room", "who"] (defScope s_take_out) := ⟨rfl, rfl, rfl, by decide +kernel, rfl, by decide +kernel, by decide +kernel⟩
abbrev s_join : Stmt := top 25
abbrev n_join : List Str := ["room", "who", "start"]
theorem sc_join : FnScope n_join ["room", "who"] (defScope s_join) := ⟨rfl, rfl, rfl, by decide +kernel, rfl, by decide +kernel, by decide +kernel⟩
abbrev s_message_seen : Stmt := top 26
abbrev n_message_seen : List Str := ["room", "member", "number"]
theorem sc_message_seen : FnScope n_message_seen ["room", "member", "number"] (defScope s_message_seen) := ⟨rfl, rfl, rfl, by decide +kernel, rfl, by decide +kernel, by decide +kernel⟩
abbrev s_message_there : Stmt := top 27
abbrev n_message_there : List Str := ["room", "member", "number", "message"]
theorem sc_message_there : FnScope n_message_there ["room", "member", "number"] (defScope s_message_there) := ⟨rfl, rfl, rfl, by decide +kernel, rfl, by decide +kernel, by decide +kernel⟩
abbrev s_remove : Stmt := top 28
abbrev n_remove : List Str := ["message"]
theorem sc_remove : FnScope n_remove ["message"] (defScope s_remove) := ⟨rfl, rfl, rfl, by decide +kernel, rfl, by decide +kernel, by decide +kernel⟩
abbrev s_turn_mark : Stmt := top 29
abbrev n_turn_mark : List Str := ["message", "who", "kind", "key"]
theorem sc_turn_mark : FnScope n_turn_mark ["message", "who", "kind"] (defScope s_turn_mark) := ⟨rfl, rfl, rfl, by decide +kernel, rfl, by decide +kernel, by decide +kernel⟩
abbrev s_many_marks : Stmt := top 30
abbrev n_many_marks : List Str := ["message", "kind", "found", "who"]
theorem sc_many_marks : FnScope n_many_marks ["message"] (defScope s_many_marks) := ⟨rfl, rfl, rfl, by decide +kernel, rfl, by decide +kernel, by decide +kernel⟩
abbrev s_many_unread : Stmt := top 31
abbrev n_many_unread : List Str := ["room", "member", "found", "number", "message"]
theorem sc_many_unread : FnScope n_many_unread ["room", "member"] (defScope s_many_unread) := ⟨rfl, rfl, rfl, by decide +kernel, rfl, by decide +kernel, by decide +kernel⟩
abbrev s_places_of : Stmt := top 32
abbrev n_places_of : List Str := ["house", "who", "word", "found", "founder", "number", "room", "member", "at"]
theorem sc_places_of : FnScope n_places_of ["house", "who", "word"] (defScope s_places_of) := ⟨rfl, rfl, rfl, by decide +kernel, rfl, by decide +kernel, by decide +kernel⟩
abbrev s_Refused_init : Stmt := inClass (top 44) 0
abbrev n_Refused_init : List Str := ["self", "number"]
theorem sc_Refused_init : FnScope n_Refused_init ["self", "number"] (defScope s_Refused_init) := ⟨rfl, rfl, rfl, by decide +kernel, rfl, by decide +kernel, by decide +kernel⟩
abbrev s_ask : Stmt := top 45
abbrev n_ask : List Str := ["is_good", "number"]
theorem sc_ask : FnScope n_ask ["is_good", "number"] (defScope s_ask) := ⟨rfl, rfl, rfl, by decide +kernel, rfl, by decide +kernel, by decide +kernel⟩
abbrev s_ask_person : Stmt := top 46
abbrev n_ask_person : List Str := ["who"]
theorem sc_ask_person : FnScope n_ask_person ["who"] (defScope s_ask_person) := ⟨rfl, rfl, rfl, by decide +kernel, rfl, by decide +kernel, by decide +kernel⟩
abbrev s_ask_flag : Stmt := top 47
abbrev n_ask_flag : List Str := ["number"]
theorem sc_ask_flag : FnScope n_ask_flag ["number"] (defScope s_ask_flag) := ⟨rfl, rfl, rfl, by decide +kernel, rfl, by decide +kernel, by decide +kernel⟩
abbrev s_Place_init : Stmt := inClass (top 48) 0
abbrev n_Place_init : List Str := ["self", "house", "numbers", "who", "founder", "number", "found", "member"]
theorem sc_Place_init : FnScope n_Place_init ["self", "house", "numbers"] (defScope s_Place_init) := ⟨rfl, rfl, rfl, by decide +kernel, rfl, by decide +kernel, by decide +kernel⟩
abbrev s_Place_ask_keeper : Stmt := inClass (top 48) 1
abbrev n_Place_ask_keeper : List Str := ["self"]
theorem sc_Place_ask_keeper : FnScope n_Place_ask_keeper ["self"] (defScope s_Place_ask_keeper) := ⟨rfl, rfl, rfl, by decide +kernel, rfl, by decide +kernel, by decide +kernel⟩
abbrev s_Place_ask_there : Stmt := inClass (top 48) 2
abbrev n_Place_ask_there : List Str := ["self", "number", "found"]
theorem sc_Place_ask_there : FnScope n_Place_ask_there ["self", "number"] (defScope s_Place_ask_there) := ⟨rfl, rfl, rfl, by decide +kernel, rfl, by decide +kernel, by decide +kernel⟩
abbrev s_Place_ask_seen : Stmt := inClass (top 48) 3
abbrev n_Place_ask_seen : List Str := ["self", "number", "found"]
theorem sc_Place_ask_seen : FnScope n_Place_ask_seen ["self", "number"] (defScope s_Place_ask_seen) := ⟨rfl, rfl, rfl, by decide +kernel, rfl, by decide +kernel, by decide +kernel⟩
abbrev s_do_found : Stmt := top 49
abbrev n_do_found : List Str := ["house", "numbers", "row", "who", "past", "mine", "room"]
theorem sc_do_found : FnScope n_do_found ["house", "numbers", "row"] (defScope s_do_found) := ⟨rfl, rfl, rfl, by decide +kernel, rfl, by decide +kernel, by decide +kernel⟩
abbrev s_do_invite : Stmt := top 50
abbrev n_do_invite : List Str := ["house", "numbers", "row", "other", "place", "room"]
theorem sc_do_invite : FnScope n_do_invite ["house", "numbers", "row"] (defScope s_do_invite) := ⟨rfl, rfl, rfl, by decide +kernel, rfl, by decide +kernel, by decide +kernel⟩
abbrev s_do_join : Stmt := top 51
abbrev n_do_join : List Str := ["house", "numbers", "row", "who", "founder", "number", "room"]
theorem sc_do_join : FnScope n_do_join ["house", "numbers", "row"] (defScope s_do_join) := ⟨rfl, rfl, rfl, by decide +kernel, rfl, by decide +kernel, by decide +kernel⟩
abbrev s_do_leave : Stmt := top 52
abbrev n_do_leave : List Str := ["house", "numbers", "row"]
theorem sc_do_leave : FnScope n_do_leave ["house", "numbers", "row"] (defScope s_do_leave) := ⟨rfl, rfl, rfl, by decide +kernel, rfl, by decide +kernel, by decide +kernel⟩
abbrev s_do_out : Stmt := top 53
abbrev n_do_out : List Str := ["house", "numbers", "row", "other", "place"]
theorem sc_do_out : FnScope n_do_out ["house", "numbers", "row"] (defScope s_do_out) := ⟨rfl, rfl, rfl, by decide +kernel, rfl, by decide +kernel, by decide +kernel⟩
abbrev s_do_lift : Stmt := top 54
abbrev n_do_lift : List Str := ["house", "numbers", "row", "place", "other"]
theorem sc_do_lift : FnScope n_do_lift ["house", "numbers", "row"] (defScope s_do_lift) := ⟨rfl, rfl, rfl, by decide +kernel, rfl, by decide +kernel, by decide +kernel⟩
abbrev s_do_past : Stmt := top 55
abbrev n_do_past : List Str := ["house", "numbers", "row", "place", "room"]
theorem sc_do_past : FnScope n_do_past ["house", "numbers", "row"] (defScope s_do_past) := ⟨rfl, rfl, rfl, by decide +kernel, rfl, by decide +kernel, by decide +kernel⟩
abbrev s_do_say : Stmt := top 56
abbrev n_do_say : List Str := ["house", "numbers", "row", "answered", "place", "messages"]
theorem sc_do_say : FnScope n_do_say ["house", "numbers", "row"] (defScope s_do_say) := ⟨rfl, rfl, rfl, by decide +kernel, rfl, by decide +kernel, by decide +kernel⟩
abbrev s_do_change : Stmt := top 57
abbrev n_do_change : List Str := ["house", "numbers", "row", "message"]
theorem sc_do_change : FnScope n_do_change ["house", "numbers", "row"] (defScope s_do_change) := ⟨rfl, rfl, rfl, by decide +kernel, rfl, by decide +kernel, by decide +kernel⟩
abbrev s_do_remove : Stmt := top 58
abbrev n_do_remove : List Str := ["house", "numbers", "row", "place", "message"]
theorem sc_do_remove : FnScope n_do_remove ["house", "numbers", "row"] (defScope s_do_remove) := ⟨rfl, rfl, rfl, by decide +kernel, rfl, by decide +kernel, by decide +kernel⟩
abbrev s_do_mark : Stmt := top 59
abbrev n_do_mark : List Str := ["house", "numbers", "row", "kind", "message"]
theorem sc_do_mark : FnScope n_do_mark ["house", "numbers", "row"] (defScope s_do_mark) := ⟨rfl, rfl, rfl, by decide +kernel, rfl, by decide +kernel, by decide +kernel⟩
abbrev s_do_seen : Stmt := top 60
abbrev n_do_seen : List Str := ["house", "numbers", "row", "place", "member"]
theorem sc_do_seen : FnScope n_do_seen ["house", "numbers", "row"] (defScope s_do_seen) := ⟨rfl, rfl, rfl, by decide +kernel, rfl, by decide +kernel, by decide +kernel⟩
abbrev s_do_read : Stmt := top 61
abbrev n_do_read : List Str := ["house", "numbers", "row", "message", "found"]
theorem sc_do_read : FnScope n_do_read ["house", "numbers", "row"] (defScope s_do_read) := ⟨rfl, rfl, rfl, by decide +kernel, rfl, by decide +kernel, by decide +kernel⟩
abbrev s_do_unread : Stmt := top 62
abbrev n_do_unread : List Str := ["house", "numbers", "row", "place"]
theorem sc_do_unread : FnScope n_do_unread ["house", "numbers", "row"] (defScope s_do_unread) := ⟨rfl, rfl, rfl, by decide +kernel, rfl, by decide +kernel, by decide +kernel⟩
abbrev s_kth : Stmt := top 63
abbrev n_kth : List Str := ["found", "k"]
theorem sc_kth : FnScope n_kth ["found", "k"] (defScope s_kth) := ⟨rfl, rfl, rfl, by decide +kernel, rfl, by decide +kernel, by decide +kernel⟩
abbrev s_do_rooms : Stmt := top 64
abbrev n_do_rooms : List Str := ["house", "numbers", "row", "who", "k", "found", "founder", "number", "room", "member"]
theorem sc_do_rooms : FnScope n_do_rooms ["house", "numbers", "row"] (defScope s_do_rooms) := ⟨rfl, rfl, rfl, by decide +kernel, rfl, by decide +kernel, by decide +kernel⟩
abbrev s_do_people : Stmt := top 65
abbrev n_do_people : List Str := ["house", "numbers", "row", "room", "member"]
theorem sc_do_people : FnScope n_do_people ["house", "numbers", "row"] (defScope s_do_people) := ⟨rfl, rfl, rfl, by decide +kernel, rfl, by decide +kernel, by decide +kernel⟩
abbrev s_do_find : Stmt := top 66
abbrev n_do_find : List Str := ["house", "numbers", "row"]
theorem sc_do_find : FnScope n_do_find ["house", "numbers", "row"] (defScope s_do_find) := ⟨rfl, rfl, rfl, by decide +kernel, rfl, by decide +kernel, by decide +kernel⟩
abbrev s_Street_init : Stmt := inClass (top 70) 0
abbrev n_Street_init : List Str := ["self"]
theorem sc_Street_init : FnScope n_Street_init ["self"] (defScope s_Street_init) := ⟨rfl, rfl, rfl, by decide +kernel, rfl, by decide +kernel, by decide +kernel⟩
abbrev s_Tape_init : Stmt := inClass (top 71) 0
abbrev n_Tape_init : List Str := ["self", "numbers"]
theorem sc_Tape_init : FnScope n_Tape_init ["self", "numbers"] (defScope s_Tape_init) := ⟨rfl, rfl, rfl, by decide +kernel, rfl, by decide +kernel, by decide +kernel⟩
abbrev s_Tape_is_done : Stmt := inClass (top 71) 1
abbrev n_Tape_is_done : List Str := ["self"]
theorem sc_Tape_is_done : FnScope n_Tape_is_done ["self"] (defScope s_Tape_is_done) := ⟨rfl, rfl, rfl, by decide +kernel, rfl, by decide +kernel, by decide +kernel⟩
abbrev s_Tape_take_one : Stmt := inClass (top 71) 2
abbrev n_Tape_take_one : List Str := ["self", "found"]
theorem sc_Tape_take_one : FnScope n_Tape_take_one ["self"] (defScope s_Tape_take_one) := ⟨rfl, rfl, rfl, by decide +kernel, rfl, by decide +kernel, by decide +kernel⟩
abbrev s_Tape_take_many : Stmt := inClass (top 71) 3
abbrev n_Tape_take_many : List Str := ["self", "many", "k"]
theorem sc_Tape_take_many : FnScope n_Tape_take_many ["self", "many"] (defScope s_Tape_take_many) := ⟨rfl, rfl, rfl, by decide +kernel, rfl, by decide +kernel, by decide +kernel⟩
abbrev s_Tape_take_row : Stmt := inClass (top 71) 4
abbrev n_Tape_take_row : List Str := ["self"]
theorem sc_Tape_take_row : FnScope n_Tape_take_row ["self"] (defScope s_Tape_take_row) := ⟨rfl, rfl, rfl, by decide +kernel, rfl, by decide +kernel, by decide +kernel⟩
abbrev s_answer : Stmt := top 72
abbrev n_answer : List Str := ["house", "call", "tape", "many", "has_row", "deed", "numbers", "row", "found", "refused"]
theorem sc_answer : FnScope n_answer ["house", "call", "tape"] (defScope s_answer) := ⟨rfl, rfl, rfl, by decide +kernel, rfl, by decide +kernel, by decide +kernel⟩
abbrev s_answers : Stmt := top 73
abbrev n_answers : List Str := ["calls", "street", "tape", "found", "call", "told"]
theorem sc_answers : FnScope n_answers ["calls"] (defScope s_answers) := ⟨rfl, rfl, rfl, by decide +kernel, rfl, by decide +kernel, by decide +kernel⟩
/-- what the top leaves, of names, classes and fields -/
structure Txt (K : PySem.W.Frag) (mg : Str → Option Value) (C : Cs) : Prop where
  b_len : mg "len" = none
  b_range : mg "range" = none
  b_enumerate : mg "enumerate" = none
  b_max : mg "max" = none
  b_int : mg "int" = none
  b_list : mg "list" = none
  b_tuple : mg "tuple" = none
  k_MOST_TEXT : IntAt mg "MOST_TEXT" (256)
  k_MOST_WORD : IntAt mg "MOST_WORD" (32)
  k_SMALLER : IntAt mg "SMALLER" (32)
  k_PEOPLE : IntAt mg "PEOPLE" (16)
  k_MOST_FOUNDED : IntAt mg "MOST_FOUNDED" (4)
  k_KINDS : IntAt mg "KINDS" (16)
  k_WRONG : IntAt mg "WRONG" (-22)
  k_NO_ROOM : IntAt mg "NO_ROOM" (-2)
  k_NO_KEEPER : IntAt mg "NO_KEEPER" (-1)
  k_ALREADY : IntAt mg "ALREADY" (-17)
  k_FULL : IntAt mg "FULL" (-28)
  k_NO_SUCH : IntAt mg "NO_SUCH" (-61)
  k_MOST_PEOPLE : IntAt mg "MOST_PEOPLE" (12)
  k_MOST_MESSAGES : IntAt mg "MOST_MESSAGES" (128)
  k_MOST_CHANGES : IntAt mg "MOST_CHANGES" (255)
  k_MOST_KIND : IntAt mg "MOST_KIND" (15)
  k_BEGIN : IntAt mg "BEGIN" (0)
  c_msg : Cls K C.msg
  n_msg_who : NoAttr K C.msg "who"
  n_msg_text : NoAttr K C.msg "text"
  n_msg_answered : NoAttr K C.msg "answered"
  n_msg_many_changed : NoAttr K C.msg "many_changed"
  n_msg_marks : NoAttr K C.msg "marks"
  n_msg_is_gone : NoAttr K C.msg "is_gone"
  c_mem : Cls K C.mem
  n_mem_who : NoAttr K C.mem "who"
  n_mem_is_keeper : NoAttr K C.mem "is_keeper"
  n_mem_start : NoAttr K C.mem "start"
  n_mem_behind_read : NoAttr K C.mem "behind_read"
  c_room : Cls K C.room
  n_room_past : NoAttr K C.room "past"
  n_room_members : NoAttr K C.room "members"
  n_room_invited : NoAttr K C.room "invited"
  n_room_messages : NoAttr K C.room "messages"
  c_house : Cls K C.house
  n_house_founded : NoAttr K C.house "founded"
  c_place : Cls K C.place
  n_place_room : NoAttr K C.place "room"
  n_place_member : NoAttr K C.place "member"
  c_street : Cls K C.street
  n_street_house : NoAttr K C.street "house"
  c_tape : Cls K C.tape
  n_tape_numbers : NoAttr K C.tape "numbers"
  n_tape_at : NoAttr K C.tape "at"
  g_refused : mg "Refused" = some (.ref C.refused)
  x_refused : OexC K C.refused
  f_refused : XfC K C.refused
  n_refused : PySem.W.findIn K (.ref C.refused) "number" = some none
  e_refused : PySem.W.exmOne K (.ref C.refused) (.ref C.refused) = some true
end Tr
/-! texts.py -/
namespace Tr
open PySem PySem.Spec PyProof.Rows L2
/-! ### small words -/
theorem nats_get {l : List Nat} {i : Nat} {x : V} (h : (nats l)[i]? = some x) : ∃ b, l[i]? = some b ∧ x = .int (b : Int) := by
  unfold nats at h
  rw [List.getElem?_map] at h
  cases e : l[i]? with
  | none =>
    rw [e] at h
    cases h
  | some b =>
    rw [e] at h
    exact ⟨b, rfl, (Option.some.inj h).symm⟩
theorem nats_length (l : List Nat) : (nats l).length = l.length := List.length_map _
theorem nats_append (l m : List Nat) : nats (l ++ m) = nats l ++ nats m := List.map_append
theorem take_more {α : Type} {l : List α} {i : Nat} {x : α} (h : l[i]? = some x) : l.take (i + 1) = l.take i ++ [x] := by
  rw [List.take_add_one, h]
  rfl
theorem lt_of_get {α : Type} {l : List α} {i : Nat} {x : α} (h : l[i]? = some x) : i < l.length := by
  obtain ⟨h', _⟩ := List.getElem?_eq_some_iff.mp h
  exact h'
theorem line_le {n : Nat} (h : n ≤ 16777216) : n ≤ sizeLine := by
  rw [sizeLine_eq]
  exact h
theorem line_lt {n : Nat} (h : n < 16777216) : n < sizeLine := by
  rw [sizeLine_eq]
  exact h
theorem decI (a b : Int) : decide (V.int a = V.int b) = decide (a = b) := by
  by_cases h : a = b
  · rw [h]
    simp
  · have : ¬ V.int a = V.int b := fun z => h (by injection z)
    simp [h, this]
theorem same_upd {H H' : Hp} {p : Addr} {o : HO} (s : Same H H') (h : H p = none) : Same H (L2.upd H' p o) := fun b u e => by
  rw [upd_ne (ne_of_none e h)]
  exact s b u e
theorem same_new {H : Hp} {p : Addr} {o : HO} (h : H p = none) : Same H (L2.upd H p o) := same_upd (Same.refl H) h
/-! ### letters -/
def great (b : Nat) : Bool := decide (65 ≤ b) && decide (b ≤ 90)
def spGreat : Sp := fun vs H Q _ => ∃ b : Nat, vs = [.int (b : Int)] ∧ Q (.bl (great b)) H
def spOfWord : Sp := fun vs H Q _ => ∃ b : Nat, vs = [.int (b : Int)] ∧ Q (.bl (Kcs8.wordByte b)) H
def spSmall : Sp := fun vs H Q _ => ∃ b : Nat, vs = [.int (b : Int)] ∧ Q (.int (Kcs8.small b : Int)) H
section
variable {P : Program} {w : World} {K : PySem.W.Frag} {mg : Str → Option Value} {base : Heap} {C : Cs}
theorem cal_great (D : Def K mg "is_great_letter" s_is_great_letter) : Cal P w K mg base CX0 1 "is_great_letter" spGreat := by
  obtain ⟨f, fd, F, hm⟩ := D.ex
  refine ⟨f, fd, _, F.ok sc_is_great_letter (fun vs H Q E h => ?_) (fun cdv A outer s H vs Q E hr h => ?_), hm, F.kp, F.binds fun _ _ _ _ _ _ us hl => match us, hl with | [_], _ => rfl⟩
  · obtain ⟨b, rfl, _⟩ := h
    rfl
  · obtain ⟨b, rfl, k⟩ := h
    refine ⟨_, pss_one (ps_ret (pe_chain op_le op_le pe_int (pv 0) pe_int)), ?_⟩
    refine ⟨_, rfl, _, _, rfl, rfl, _, rfl, ?_⟩
    refine ite2 (fun c => ?_) (fun c => ?_)
    · refine ⟨_, _, rfl, rfl, ?_⟩
      have e : great b = decide ((b : Int) ≤ 90) := by
        unfold great
        have c' : 65 ≤ b := by
          have := of_decide_eq_true c
          omega
        rw [decide_eq_true c', Bool.true_and]
        exact decide_eq_decide.mpr (by omega)
      rw [e] at k
      exact k
    · have e : great b = false := by
        unfold great
        have c' : ¬ 65 ≤ b := fun z => c (decide_eq_true (by omega))
        rw [decide_eq_false c', Bool.false_and]
      rw [e] at k
      exact k
theorem cal_of_word (D : Def K mg "is_of_word" s_is_of_word) (G : Cal P w K mg base CX0 1 "is_great_letter" spGreat) : Cal P w K mg base CX0 2 "is_of_word" spOfWord := by
  obtain ⟨f, fd, F, hm⟩ := D.ex
  refine ⟨f, fd, _, F.ok sc_is_of_word (fun vs H Q E h => ?_) (fun cdv A outer s H vs Q E hr h => ?_), hm, F.kp, F.binds fun _ _ _ _ _ _ us hl => match us, hl with | [_], _ => rfl⟩
  · obtain ⟨b, rfl, _⟩ := h
    rfl
  · obtain ⟨b, rfl, k⟩ := h
    refine ⟨_, pss_one (ps_ret (pe_or (pe_c G hr pass0 (pa_cons (pv 0) pa_nil)) (pe_or (pe_chain op_le op_le pe_int (pv 0) pe_int) (pe_one (pe_chain op_le op_le pe_int (pv 0) pe_int))))), ?_⟩
    refine ⟨_, rfl, b, rfl, great b, rfl, ite2 (fun c => ?_) (fun c => ?_)⟩
    · have e : Kcs8.wordByte b = true := by
        unfold Kcs8.wordByte
        unfold great at c
        rw [c]
        simp
      rw [e] at k
      exact k
    · have g0 : great b = false := by simpa using c
      refine ⟨_, rfl, _, _, rfl, rfl, _, rfl, ite2 (fun c1 => ?_) (fun c1 => ?_)⟩
      · refine ⟨_, _, rfl, rfl, _, rfl, ite2 (fun c2 => ?_) (fun c2 => ?_)⟩
        · have e : Kcs8.wordByte b = true := by
            have z1 := of_decide_eq_true c1
            have z2 := of_decide_eq_true c2
            unfold Kcs8.wordByte
            have : decide (97 ≤ b) = true := decide_eq_true (by omega)
            have h2 : decide (b ≤ 122) = true := decide_eq_true (by omega)
            rw [this, h2]
            simp
          rw [e] at k
          exact k
        · refine ⟨_, rfl, _, _, rfl, rfl, _, rfl, ite2 (fun c3 => ?_) (fun c3 => ?_)⟩
          · have z1 := of_decide_eq_true c1
            have z2 : ¬ (b : Int) ≤ 122 := fun z => c2 (decide_eq_true z)
            refine ⟨_, _, rfl, rfl, ?_⟩
            have e : Kcs8.wordByte b = decide ((b : Int) ≤ 57) := by
              unfold Kcs8.wordByte
              unfold great at g0
              rw [g0, decide_eq_false (by omega : ¬ b ≤ 122), decide_eq_false (by omega : ¬ b ≤ 57), decide_eq_false (by omega : ¬ (b : Int) ≤ 57)]
              simp
            rw [e] at k
            exact k
          · exfalso
            have z1 := of_decide_eq_true c1
            exact c3 (decide_eq_true (by omega))
      · refine ⟨_, rfl, ite2 (fun z => Bool.noConfusion z) (fun _ => ?_)⟩
        have z1 : ¬ 97 ≤ b := fun z => c1 (decide_eq_true (by omega))
        refine ⟨_, rfl, _, _, rfl, rfl, _, rfl, ite2 (fun c3 => ?_) (fun c3 => ?_)⟩
        · have z3 := of_decide_eq_true c3
          refine ⟨_, _, rfl, rfl, ?_⟩
          have e : Kcs8.wordByte b = decide ((b : Int) ≤ 57) := by
            unfold Kcs8.wordByte
            unfold great at g0
            rw [g0, decide_eq_false z1, decide_eq_true (by omega : 48 ≤ b)]
            simp only [Bool.true_and, Bool.false_and, Bool.or_false]
            exact decide_eq_decide.mpr (by omega)
          rw [e] at k
          exact k
        · have z3 : ¬ 48 ≤ b := fun z => c3 (decide_eq_true (by omega))
          have e : Kcs8.wordByte b = false := by
            unfold Kcs8.wordByte
            unfold great at g0
            rw [g0, decide_eq_false z1, decide_eq_false z3]
            simp
          rw [e] at k
          exact k
theorem cal_small (T : Txt K mg C) (D : Def K mg "small" s_small) (G : Cal P w K mg base CX0 1 "is_great_letter" spGreat) : Cal P w K mg base CX0 2 "small" spSmall := by
  obtain ⟨f, fd, F, hm⟩ := D.ex
  refine ⟨f, fd, _, F.ok sc_small (fun vs H Q E h => ?_) (fun cdv A outer s H vs Q E hr h => ?_), hm, F.kp, F.binds fun _ _ _ _ _ _ us hl => match us, hl with | [_], _ => rfl⟩
  · obtain ⟨b, rfl, _⟩ := h
    rfl
  · obtain ⟨b, rfl, k⟩ := h
    refine ⟨_, pss_cons (ps_if (pt_val (pe_c G hr pass0 (pa_cons (pv 0) pa_nil))) (pss_one (ps_ret (pe_op op_add (pv 0) (pe_n T.k_SMALLER)))) pss_nil) (pss_one (ps_ret (pv 0))), ?_⟩
    refine ⟨_, rfl, b, rfl, great b, rfl, ite2 (fun c => ?_) (fun c => ?_)⟩
    · refine ⟨_, rfl, _, _, rfl, rfl, ?_⟩
      have e : (Kcs8.small b : Int) = (b : Int) + 32 := by
        unfold great at c
        rw [Bool.and_eq_true, decide_eq_true_eq, decide_eq_true_eq] at c
        unfold Kcs8.small
        rw [if_pos c]
        rfl
      rw [e] at k
      exact k
    · refine ⟨_, rfl, ?_⟩
      have e : Kcs8.small b = b := by
        unfold great at c
        rw [Bool.and_eq_true, decide_eq_true_eq, decide_eq_true_eq] at c
        unfold Kcs8.small
        rw [if_neg c]
      rw [e] at k
      exact k
/-! ### is_text, is_word -/
def badText (b : Nat) : Bool := decide (b < 32) || decide (126 < b)
theorem isText_eq (t : List Nat) : Kcs8.isText t = (!(decide (t.length < 1) || decide (256 < t.length)) && decide ((t.filter badText).length = 0)) := by
  unfold Kcs8.isText Kcs8.TEXT
  have h1 : (t.all fun b => decide (32 ≤ b) && decide (b ≤ 126)) = decide ((t.filter badText).length = 0) := by
    rw [Bool.eq_iff_iff, List.all_eq_true, decide_eq_true_eq, List.length_eq_zero_iff, List.filter_eq_nil_iff]
    constructor
    · intro h b hb z
      have := h b hb
      rw [Bool.and_eq_true, decide_eq_true_eq, decide_eq_true_eq] at this
      unfold badText at z
      rw [Bool.or_eq_true, decide_eq_true_eq, decide_eq_true_eq] at z
      omega
    · intro h b hb
      have := h b hb
      unfold badText at this
      rw [Bool.or_eq_true, decide_eq_true_eq, decide_eq_true_eq] at this
      rw [Bool.and_eq_true, decide_eq_true_eq, decide_eq_true_eq]
      omega
  rw [h1]
  congr 1
  rw [Bool.eq_iff_iff]
  simp only [Bool.and_eq_true, Bool.not_eq_true', Bool.or_eq_false_iff, decide_eq_true_eq, decide_eq_false_iff_not]
  omega
theorem isWord_eq (t : List Nat) : Kcs8.isWord t = (!(decide (t.length < 1) || decide (32 < t.length)) && decide ((t.filter (fun b => !Kcs8.wordByte b)).length = 0)) := by
  unfold Kcs8.isWord Kcs8.WORD
  have h1 : (t.all Kcs8.wordByte) = decide ((t.filter (fun b => !Kcs8.wordByte b)).length = 0) := by
    rw [Bool.eq_iff_iff, List.all_eq_true, decide_eq_true_eq, List.length_eq_zero_iff, List.filter_eq_nil_iff]
    constructor
    · intro h b hb z
      rw [h b hb] at z
      cases z
    · intro h b hb
      have := h b hb
      simpa using this
  rw [h1]
  congr 1
  rw [Bool.eq_iff_iff]
  simp only [Bool.and_eq_true, Bool.not_eq_true', Bool.or_eq_false_iff, decide_eq_true_eq, decide_eq_false_iff_not]
  omega
def spIsText : Sp := fun vs H Q _ => ∃ (a : Addr) (t : List Nat), vs = [.ref a] ∧ H a = some (.lst (nats t)) ∧ t.length ≤ 400 ∧ ∀ H', Same H H' → Q (.bl (Kcs8.isText t)) H'
def spIsWord : Sp := fun vs H Q _ => ∃ (a : Addr) (t : List Nat), vs = [.ref a] ∧ H a = some (.lst (nats t)) ∧ t.length ≤ 400 ∧ ∀ H', Same H H' → Q (.bl (Kcs8.isWord t)) H'
theorem cal_is_text (T : Txt K mg C) (D : Def K mg "is_text" s_is_text) : Cal P w K mg base CX0 1 "is_text" spIsText := by
  obtain ⟨f, fd, F, hm⟩ := D.ex
  refine ⟨f, fd, _, F.ok sc_is_text (fun vs H Q E h => ?_) (fun cdv A outer s H vs Q E hr h => ?_), hm, F.kp, F.binds fun _ _ _ _ _ _ us hl => match us, hl with | [_], _ => rfl⟩
  · obtain ⟨a, t, rfl, _⟩ := h
    rfl
  · obtain ⟨a, t, rfl, ha, hl, k⟩ := h
    refine ⟨_, pss_cons (ps_if (PW.pt (pw_or (pt_cmpR op_lt (pe_callB call_len_seq (by rfl) T.b_len PySem.boot_len (pa_cons (pv 0) pa_nil)) pe_int (nomark _)) (pw_or1 (pt_cmpR op_gt (pe_callB call_len_seq (by rfl) T.b_len PySem.boot_len (pa_cons (pv 0) pa_nil)) (pe_n T.k_MOST_TEXT) (nomark _)))))
        (pss_one (ps_ret pe_bl)) pss_nil)
      (pss_one (ps_ret (pe_cmpR op_eq (pe_callB call_len_seq (by rfl) T.b_len PySem.boot_len (pa_cons
        (pe_lc (own := [("byte", 1)]) (g := gName 1) (by rfl) sc_is_text.nd (pi_list (pv 0)) (blkOk_by (own := [("byte", 1)]) (N := n_is_text) (sc := defScope s_is_text) (by decide +kernel)) (fun _ _ _ _ _ => pg_name (i := 1) sc_is_text.nd rfl (Or.inl rfl))
          (fun _ _ _ _ _ => pts_one (PW.pt (pw_or (pt_cmpR op_lt (pv 1) pe_int (nomark _)) (pw_or1 (pt_cmpR op_gt (pv 1) pe_int (nomark _)))))) (fun _ _ _ _ _ => pv 1)) pa_nil)) pe_int (nomark _)))), ?_⟩
    have e0 := isText_eq t
    refine ⟨_, rfl, a, _, rfl, .inl (SqL.of ha), _, _, rfl, rfl, _, rfl, ?_⟩
    rw [nats_length]
    refine ite2 (fun c1 => iteT ?_) (fun c1 => ⟨_, rfl, a, _, rfl, .inl (SqL.of ha), _, _, rfl, rfl, _, rfl, ?_⟩)
    · have c1' : t.length < 1 := by
        have := of_decide_eq_true c1
        omega
      rw [decide_eq_true c1'] at e0
      have := k H (Same.refl H)
      rw [e0] at this
      exact this
    · have c1' : ¬ t.length < 1 := fun z => c1 (decide_eq_true (by omega))
      rw [decide_eq_false c1', Bool.false_or] at e0
      rw [nats_length]
      refine ite2 (fun c2 => ?_) (fun c2 => ?_)
      · have c2' : 256 < t.length := by
          have := of_decide_eq_true c2
          omega
        rw [decide_eq_true c2'] at e0
        have := k H (Same.refl H)
        rw [e0] at this
        exact this
      · have c2' : ¬ 256 < t.length := fun z => c2 (decide_eq_true (by omega))
        rw [decide_eq_false c2', Bool.not_false, Bool.true_and] at e0
        refine ⟨_, rfl, a, rfl, ⟨_, SqL.of ha⟩, fun D hD => ?_⟩
        refine lc_list (K := K) (a := a) (xs := nats t) (fun i H' => Same H H' ∧ H' D = some (.lst (nats ((t.take i).filter badText)))) ⟨same_new hD, upd_same⟩ (fun i H' _ z => SqL.of (z.1 _ _ ha)) ?_ ?_
        · rintro i x H' hi ⟨z1, z2⟩
          obtain ⟨b, hb, rfl⟩ := nats_get hi
          have hil := lt_of_get hb
          refine ⟨rfl, _, rfl, _, _, rfl, rfl, _, rfl, ?_⟩
          have step : (t.take (i + 1)).filter badText = (t.take i).filter badText ++ (if badText b = true then [b] else []) := by
            rw [take_more hb, List.filter_append]
            congr 1
            by_cases c : badText b = true
            · rw [if_pos c, List.filter_cons, if_pos c]
              rfl
            · rw [if_neg c, List.filter_cons, if_neg c]
              rfl
          have keep : badText b = true → ∃ v, ((wipe [some (V.ref a), none] [1]).set 1 (some (V.int (b : Int))))[1]? = some (some v) ∧ ∃ acc, H' D = some (.lst acc) ∧ acc.length < sizeLine ∧ Same H (upd H' D (.lst (acc ++ [v]))) ∧ upd H' D (.lst (acc ++ [v])) D = some (.lst (nats ((t.take (i + 1)).filter badText))) := fun c => by
            refine ⟨_, rfl, _, z2, ?_, same_upd z1 hD, ?_⟩
            · rw [nats_length]
              refine line_lt (Nat.lt_of_le_of_lt (List.length_filter_le _ _) ?_)
              rw [List.length_take]
              omega
            · rw [step, if_pos c, nats_append]
              exact upd_same
          refine ite2 (fun c => iteT ?_) (fun c => ⟨_, rfl, _, _, rfl, rfl, _, rfl, ?_⟩)
          · refine keep ?_
            unfold badText
            have c' : b < 32 := by
              have := of_decide_eq_true c
              omega
            rw [decide_eq_true c', Bool.true_or]
          · refine ite2 (fun c2 => ?_) (fun c2 => ?_)
            · refine keep ?_
              unfold badText
              have c' : 126 < b := by
                have := of_decide_eq_true c2
                omega
              rw [decide_eq_true c', Bool.or_true]
            · refine ⟨z1, ?_⟩
              have c' : badText b = false := by
                unfold badText
                have q1 : ¬ b < 32 := fun z => c (decide_eq_true (by omega))
                have q2 : ¬ 126 < b := fun z => c2 (decide_eq_true (by omega))
                rw [decide_eq_false q1, decide_eq_false q2]
                rfl
              rw [step, c', if_neg Bool.false_ne_true, List.append_nil]
              exact z2
        · rintro H' ⟨z1, z2⟩
          rw [nats_length, List.take_length] at z2
          refine ⟨D, _, rfl, .inl (SqL.of z2), rfl, ?_⟩
          rw [nats_length, decI]
          have e1 : Kcs8.isText t = decide ((((t.filter badText).length : Nat) : Int) = 0) := by
            rw [e0]
            exact decide_eq_decide.mpr (by omega)
          rw [← e1]
          exact k H' z1
end
end Tr
/-! texts.py, the words -/
namespace Tr
open PySem PySem.Spec PyProof.Rows L2
theorem yes_of {σ : L2.St} {H : Hp} {Q : Bool → Hp → Prop} (h : Q true H) : tYes σ H Q := h
/-! ### lists of numbers as data -/
def datL (l : List Nat) : List PyData := l.map fun (x : Nat) => .int (x : Int)
theorem datL_lay : ∀ l : List Nat, PyData.canLayAll0 (datL l) = true
  | [] => by simp [datL, PyData.canLayAll0]
  | a :: l => by
    have ih := datL_lay l
    show PyData.canLayAll0 (.int (a : Int) :: datL l) = true
    simp only [PyData.canLayAll0, PyData.canLay0, ih, Bool.and_self]
theorem datL_depth : ∀ l : List Nat, PyData.depthAll (datL l) = 0
  | [] => by simp [datL, PyData.depthAll]
  | a :: l => by
    have ih := datL_depth l
    show PyData.depthAll (.int (a : Int) :: datL l) = 0
    simp only [PyData.depthAll, PyData.depth, ih, Nat.max_self]
theorem dp_nats {K : PySem.W.Frag} {H : Hp} : ∀ l : List Nat, DpAll K H (nats l) (datL l)
  | [] => .nil
  | _ :: l => .cons (.int _) (dp_nats l)
theorem eqv_nats : ∀ l m : List Nat, PyData.eqvAll (datL l) (datL m) = decide (l = m)
  | [], [] => by simp [datL, PyData.eqvAll]
  | [], b :: m => by
    show PyData.eqvAll [] (.int (b : Int) :: datL m) = _
    simp [PyData.eqvAll]
  | a :: l, [] => by
    show PyData.eqvAll (.int (a : Int) :: datL l) [] = _
    simp [PyData.eqvAll]
  | a :: l, b :: m => by
    have ih := eqv_nats l m
    show PyData.eqvAll (.int (a : Int) :: datL l) (.int (b : Int) :: datL m) = _
    simp only [PyData.eqvAll, PyData.eqv, ih]
    by_cases c : a = b
    · subst c
      by_cases c2 : l = m
      · subst c2
        simp
      · simp [c2]
    · have : ¬ (a : Int) = (b : Int) := by omega
      simp [c, this]
def wordsD (ws : List (List Nat)) : List PyData := ws.map fun w => .tuple (datL w)
theorem wordsD_lay : ∀ ws : List (List Nat), PyData.canLayAll0 (wordsD ws) = true
  | [] => by simp [wordsD, PyData.canLayAll0]
  | a :: l => by
    have ih := wordsD_lay l
    show PyData.canLayAll0 (.tuple (datL a) :: wordsD l) = true
    simp only [PyData.canLayAll0, PyData.canLay0, ih, datL_lay, Bool.and_self]
theorem wordsD_depth : ∀ ws : List (List Nat), PyData.depthAll (wordsD ws) ≤ 1
  | [] => by simp [wordsD, PyData.depthAll]
  | a :: l => by
    have ih := wordsD_depth l
    show PyData.depthAll (.tuple (datL a) :: wordsD l) ≤ 1
    simp only [PyData.depthAll, PyData.depth, datL_depth]
    omega
theorem any_words (w : List Nat) : ∀ ws : List (List Nat), ((wordsD ws).any fun z => PyData.eqv z (.tuple (datL w))) = ws.contains w
  | [] => rfl
  | a :: l => by
    have ih := any_words w l
    show ((.tuple (datL a) :: wordsD l).any fun z => PyData.eqv z (.tuple (datL w))) = _
    rw [List.any_cons, ih, List.contains_cons]
    congr 1
    show PyData.eqv (.tuple (datL a)) (.tuple (datL w)) = (w == a)
    simp only [PyData.eqv, eqv_nats]
    by_cases c : a = w
    · subst c
      simp
    · have c' : ¬ w = a := fun z => c z.symm
      simp [c, c']
theorem shaped_nats (l : List Nat) : SeqAt.shaped (.list (datL l)) = true := by
  unfold SeqAt.shaped
  simp only [PyData.canLay0, datL_lay, PyData.depth, datL_depth]
  rfl
theorem shaped_nil : SeqAt.shaped (.list []) = true := shaped_nats []
theorem shaped_word (l : List Nat) : SeqAt.shaped (.tuple (datL l)) = true := by
  unfold SeqAt.shaped
  simp only [PyData.canLay0, datL_lay, PyData.depth, datL_depth]
  rfl
theorem shaped_words (ws : List (List Nat)) : SeqAt.shaped (.list (wordsD ws)) = true := by
  unfold SeqAt.shaped
  have h := wordsD_depth ws
  have h1 : PyData.canLay0 (.list (wordsD ws)) = true := by simp only [PyData.canLay0, wordsD_lay]
  have h2 : PyData.depth (.list (wordsD ws)) ≤ 64 := by
    simp only [PyData.depth]
    omega
  rw [h1, decide_eq_true h2]
  rfl
/-! ### the loop -/
abbrev WS := List (List Nat) × List Nat
def wstep (s : WS) (b : Nat) : WS := if Kcs8.wordByte b = true then (s.1, s.2 ++ [Kcs8.small b]) else if s.2 = [] then s else (s.1 ++ [s.2], [])
def wrun (l : List Nat) : WS := l.foldl wstep ([], [])
theorem wrun_from : ∀ (l : List Nat) (s : WS), s.1 ++ Kcs8.wordsFrom s.2.reverse l = (l.foldl wstep s).1 ++ (if (l.foldl wstep s).2 = [] then [] else [(l.foldl wstep s).2])
  | [], s => by
    show s.1 ++ (if s.2.reverse.isEmpty = true then [] else [s.2.reverse.reverse]) = s.1 ++ (if s.2 = [] then [] else [s.2])
    rw [List.reverse_reverse]
    congr 1
    by_cases c : s.2 = []
    · rw [c]
      rfl
    · rw [if_neg c, if_neg]
      intro z
      rw [List.isEmpty_reverse, List.isEmpty_iff] at z
      exact c z
  | b :: l, s => by
    rw [List.foldl_cons, ← wrun_from l (wstep s b)]
    unfold wstep
    show s.1 ++ (if Kcs8.wordByte b = true then Kcs8.wordsFrom (Kcs8.small b :: s.2.reverse) l else if s.2.reverse.isEmpty = true then Kcs8.wordsFrom [] l else s.2.reverse.reverse :: Kcs8.wordsFrom [] l) = _
    by_cases c : Kcs8.wordByte b = true
    · rw [if_pos c, if_pos c]
      show _ = s.1 ++ Kcs8.wordsFrom (s.2 ++ [Kcs8.small b]).reverse l
      rw [List.reverse_append]
      rfl
    · rw [if_neg c, if_neg c]
      by_cases c2 : s.2 = []
      · rw [if_pos c2, c2]
        rfl
      · have : ¬ s.2.reverse.isEmpty = true := fun z => by
          rw [List.isEmpty_reverse, List.isEmpty_iff] at z
          exact c2 z
        rw [if_neg this, if_neg c2, List.reverse_reverse]
        show s.1 ++ (s.2 :: Kcs8.wordsFrom [] l) = (s.1 ++ [s.2]) ++ Kcs8.wordsFrom [] l
        rw [List.append_assoc]
        rfl
theorem words_32 : ∀ (l w : List Nat), Kcs8.wordsFrom w (l ++ [32]) = Kcs8.wordsFrom w l
  | [], w => by
    show (if Kcs8.wordByte 32 = true then _ else if w.isEmpty = true then Kcs8.wordsFrom [] [] else w.reverse :: Kcs8.wordsFrom [] []) = if w.isEmpty = true then [] else [w.reverse]
    rw [if_neg (by decide)]
    rfl
  | b :: l, w => by
    show (if Kcs8.wordByte b = true then Kcs8.wordsFrom (Kcs8.small b :: w) (l ++ [32]) else if w.isEmpty = true then Kcs8.wordsFrom [] (l ++ [32]) else w.reverse :: Kcs8.wordsFrom [] (l ++ [32])) = _
    rw [words_32 l, words_32 l]
    rfl
theorem wrun_end (t : List Nat) : (wrun (t ++ [32])).1 = Kcs8.words t := by
  have h := wrun_from (t ++ [32]) ([], [])
  have e2 : (wrun (t ++ [32])).2 = [] := by
    unfold wrun
    rw [List.foldl_append]
    show (wstep _ 32).2 = []
    unfold wstep
    rw [if_neg (by decide)]
    split
    · assumption
    · rfl
  have h' : Kcs8.wordsFrom [] (t ++ [32]) = (wrun (t ++ [32])).1 ++ (if (wrun (t ++ [32])).2 = [] then [] else [(wrun (t ++ [32])).2]) := h
  rw [words_32, e2, if_pos rfl, List.append_nil] at h'
  exact h'.symm
theorem wrun_more {l : List Nat} {i b : Nat} (h : l[i]? = some b) : wrun (l.take (i + 1)) = wstep (wrun (l.take i)) b := by
  unfold wrun
  rw [take_more h, List.foldl_append]
  rfl
theorem wstep_size (s : WS) (b n : Nat) (h1 : s.1.length + s.2.length ≤ n) : (wstep s b).1.length + (wstep s b).2.length ≤ n + 1 := by
  unfold wstep
  split
  · show s.1.length + (s.2 ++ [Kcs8.small b]).length ≤ n + 1
    rw [List.length_append]
    simp only [List.length_cons, List.length_nil]
    omega
  · split
    · omega
    · show (s.1 ++ [s.2]).length + 0 ≤ n + 1
      rw [List.length_append]
      simp only [List.length_cons, List.length_nil]
      omega
theorem wrun_size (l : List Nat) : ∀ i, (wrun (l.take i)).1.length + (wrun (l.take i)).2.length ≤ i
  | 0 => by simp [wrun]
  | i + 1 => by
    cases h : l[i]? with
    | none =>
      have : l.take (i + 1) = l.take i := by
        rw [List.take_add_one, h]
        simp
      rw [this]
      exact Nat.le_succ_of_le (wrun_size l i)
    | some b =>
      rw [wrun_more h]
      exact wstep_size _ _ _ (wrun_size l i)
/-- tuples of the words at ts -/
def TupsAt (H : Hp) : List Addr → List (List Nat) → Prop := PySem.Paired fun a w => H a = some (.tup (nats w))
theorem TupsAt.same {H H' : Hp} : ∀ {ts : List Addr} {ws : List (List Nat)}, TupsAt H ts ws → (∀ b o, H b = some (.tup o) → H' b = some (.tup o)) → TupsAt H' ts ws
  | _, _, .nil, _ => .nil
  | _, _, .cons h r, k => .cons (k _ _ h) (TupsAt.same r k)
theorem TupsAt.snoc {H : Hp} : ∀ {ts : List Addr} {ws : List (List Nat)} {a : Addr} {w : List Nat}, TupsAt H ts ws → H a = some (.tup (nats w)) → TupsAt H (ts ++ [a]) (ws ++ [w])
  | _, _, _, _, .nil, h => .cons h .nil
  | _, _, _, _, .cons h r, h2 => .cons h (TupsAt.snoc r h2)
theorem TupsAt.length {H : Hp} : ∀ {ts : List Addr} {ws : List (List Nat)}, TupsAt H ts ws → ts.length = ws.length
  | _, _, .nil => rfl
  | _, _, .cons _ r => congrArg (· + 1) (TupsAt.length r)
theorem TupsAt.dp {K : PySem.W.Frag} {H : Hp} : ∀ {ts : List Addr} {ws : List (List Nat)}, TupsAt H ts ws → DpAll K H (ts.map V.ref) (wordsD ws)
  | _, _, .nil => .nil
  | _, _, .cons h r => .cons (.tup (SqT.of h) (dp_nats _)) (TupsAt.dp r)
def spSmallWord : Sp := fun vs H Q _ => ∃ (a : Addr) (t : List Nat), vs = [.ref a] ∧ H a = some (.lst (nats t)) ∧ t.length ≤ 400 ∧ ∀ H' p, Same H H' → H p = none → H' p = some (.tup (nats (t.map Kcs8.small))) → Q (.ref p) H'
def spWordsOf : Sp := fun vs H Q _ => ∃ (a : Addr) (t : List Nat), vs = [.ref a] ∧ H a = some (.lst (nats t)) ∧ t.length ≤ 400 ∧ ∀ H' p ts, Same H H' → H p = none → H' p = some (.lst (ts.map V.ref)) → TupsAt H' ts (Kcs8.words t) → Q (.ref p) H'
section
variable {P : Program} {w : World} {K : PySem.W.Frag} {mg : Str → Option Value} {base : Heap} {C : Cs}
theorem cal_is_word (T : Txt K mg C) (D : Def K mg "is_word" s_is_word) (G : Cal P w K mg base CX0 2 "is_of_word" spOfWord) : Cal P w K mg base CX0 3 "is_word" spIsWord := by
  obtain ⟨f, fd, F, hm⟩ := D.ex
  refine ⟨f, fd, _, F.ok sc_is_word (fun vs H Q E h => ?_) (fun cdv A outer s H vs Q E hr h => ?_), hm, F.kp, F.binds fun _ _ _ _ _ _ us hl => match us, hl with | [_], _ => rfl⟩
  · obtain ⟨a, t, rfl, _⟩ := h
    rfl
  · obtain ⟨a, t, rfl, ha, hl, k⟩ := h
    refine ⟨_, pss_cons (ps_if (PW.pt (pw_or (pt_cmpR op_lt (pe_callB call_len_seq (by rfl) T.b_len PySem.boot_len (pa_cons (pv 0) pa_nil)) pe_int (nomark _)) (pw_or1 (pt_cmpR op_gt (pe_callB call_len_seq (by rfl) T.b_len PySem.boot_len (pa_cons (pv 0) pa_nil)) (pe_n T.k_MOST_WORD) (nomark _)))))
        (pss_one (ps_ret pe_bl)) pss_nil)
      (pss_one (ps_ret (pe_cmpR op_eq (pe_callB call_len_seq (by rfl) T.b_len PySem.boot_len (pa_cons
        (pe_lc (own := [("byte", 1)]) (g := gName 1) (by rfl) sc_is_word.nd (pi_list (pv 0)) (blkOk_by (own := [("byte", 1)]) (N := n_is_word) (sc := defScope s_is_word) (by decide +kernel)) (fun _ _ _ _ _ => pg_name (i := 1) sc_is_word.nd rfl (Or.inl rfl))
          (fun _ _ _ _ _ => pts_one (pt_not (pt_val (pe_c G hr pass0 (pa_cons (pv 1) pa_nil))))) (fun _ _ _ _ _ => pv 1)) pa_nil)) pe_int (nomark _)))), ?_⟩
    have e0 := isWord_eq t
    refine ⟨_, rfl, a, _, rfl, .inl (SqL.of ha), _, _, rfl, rfl, _, rfl, ?_⟩
    rw [nats_length]
    refine ite2 (fun c1 => iteT ?_) (fun c1 => ⟨_, rfl, a, _, rfl, .inl (SqL.of ha), _, _, rfl, rfl, _, rfl, ?_⟩)
    · have c1' : t.length < 1 := by
        have := of_decide_eq_true c1
        omega
      rw [decide_eq_true c1'] at e0
      have := k H (Same.refl H)
      rw [e0] at this
      exact this
    · have c1' : ¬ t.length < 1 := fun z => c1 (decide_eq_true (by omega))
      rw [decide_eq_false c1', Bool.false_or] at e0
      rw [nats_length]
      refine ite2 (fun c2 => ?_) (fun c2 => ?_)
      · have c2' : 32 < t.length := by
          have := of_decide_eq_true c2
          omega
        rw [decide_eq_true c2'] at e0
        have := k H (Same.refl H)
        rw [e0] at this
        exact this
      · have c2' : ¬ 32 < t.length := fun z => c2 (decide_eq_true (by omega))
        rw [decide_eq_false c2', Bool.not_false, Bool.true_and] at e0
        refine ⟨_, rfl, a, rfl, ⟨_, SqL.of ha⟩, fun D hD => ?_⟩
        refine lc_list (K := K) (a := a) (xs := nats t) (fun i H' => Same H H' ∧ H' D = some (.lst (nats ((t.take i).filter fun b => !Kcs8.wordByte b)))) ⟨same_new hD, upd_same⟩ (fun i H' _ z => SqL.of (z.1 _ _ ha)) ?_ ?_
        · rintro i x H' hi ⟨z1, z2⟩
          obtain ⟨b, hb, rfl⟩ := nats_get hi
          have hil := lt_of_get hb
          refine ⟨rfl, _, rfl, b, rfl, Kcs8.wordByte b, rfl, ?_⟩
          refine ite2 (fun c => ?_) (fun c => ?_)
          · refine ⟨_, rfl, _, z2, ?_, same_upd z1 hD, ?_⟩
            · rw [nats_length]
              refine line_lt (Nat.lt_of_le_of_lt (List.length_filter_le _ _) ?_)
              rw [List.length_take]
              omega
            · rw [take_more hb, List.filter_append, List.filter_cons, if_pos c, nats_append]
              exact upd_same
          · refine ⟨z1, ?_⟩
            rw [take_more hb, List.filter_append, List.filter_cons, if_neg c, List.filter_nil, List.append_nil]
            exact z2
        · rintro H' ⟨z1, z2⟩
          rw [nats_length, List.take_length] at z2
          refine ⟨D, _, rfl, .inl (SqL.of z2), rfl, ?_⟩
          rw [nats_length, decI]
          have e1 : Kcs8.isWord t = decide ((((t.filter fun b => !Kcs8.wordByte b).length : Nat) : Int) = 0) := by
            rw [e0]
            exact decide_eq_decide.mpr (by omega)
          rw [← e1]
          exact k H' z1
theorem cal_small_word (T : Txt K mg C) (D : Def K mg "small_word" s_small_word) (G : Cal P w K mg base CX0 2 "small" spSmall) : Cal P w K mg base CX0 3 "small_word" spSmallWord := by
  obtain ⟨f, fd, F, hm⟩ := D.ex
  refine ⟨f, fd, _, F.ok sc_small_word (fun vs H Q E h => ?_) (fun cdv A outer s H vs Q E hr h => ?_), hm, F.kp, F.binds fun _ _ _ _ _ _ us hl => match us, hl with | [_], _ => rfl⟩
  · obtain ⟨a, t, rfl, _⟩ := h
    rfl
  · obtain ⟨a, t, rfl, ha, hl, k⟩ := h
    refine ⟨_, pss_one (ps_ret (pe_callTy call_tuple_of (by rfl) T.b_tuple (by decide +kernel) (pa_cons
        (pe_lc (own := [("byte", 1)]) (g := gName 1) (by rfl) sc_small_word.nd (pi_list (pv 0)) (blkOk_by (own := [("byte", 1)]) (N := n_small_word) (sc := defScope s_small_word) (by decide +kernel)) (fun _ _ _ _ _ => pg_name (i := 1) sc_small_word.nd rfl (Or.inl rfl))
          (fun _ _ _ _ _ => pts_nil) (fun _ _ _ _ _ => pe_c G hr pass0 (pa_cons (pv 1) pa_nil))) pa_nil))), ?_⟩
    refine ⟨_, rfl, a, rfl, ⟨_, SqL.of ha⟩, fun D hD => ?_⟩
    refine lc_list (K := K) (a := a) (xs := nats t) (fun i H' => Same H H' ∧ H' D = some (.lst (nats ((t.take i).map Kcs8.small)))) ⟨same_new hD, upd_same⟩ (fun i H' _ z => SqL.of (z.1 _ _ ha)) ?_ ?_
    · rintro i x H' hi ⟨z1, z2⟩
      obtain ⟨b, hb, rfl⟩ := nats_get hi
      have hil := lt_of_get hb
      refine ⟨rfl, yes_of (iteT ?_)⟩
      refine ⟨_, rfl, b, rfl, _, z2, ?_, same_upd z1 hD, ?_⟩
      · rw [nats_length, List.length_map, List.length_take]
        exact line_lt (by omega)
      · rw [take_more hb, List.map_append, nats_append]
        exact upd_same
    · rintro H' ⟨z1, z2⟩
      rw [nats_length, List.take_length] at z2
      refine ⟨D, _, rfl, .inl ⟨SqL.of z2, fun l hl' => ?_⟩⟩
      exact k _ l (same_upd z1 (z1.free hl')) (z1.free hl') upd_same
theorem cal_words_of (T : Txt K mg C) (D : Def K mg "words_of" s_words_of) (G : Cal P w K mg base CX0 2 "is_of_word" spOfWord) (S : Cal P w K mg base CX0 2 "small" spSmall) : Cal P w K mg base CX0 3 "words_of" spWordsOf := by
  obtain ⟨f, fd, F, hm⟩ := D.ex
  refine ⟨f, fd, _, F.ok sc_words_of (fun vs H Q E h => ?_) (fun cdv A outer s H vs Q E hr h => ?_), hm, F.kp, F.binds fun _ _ _ _ _ _ us hl => match us, hl with | [_], _ => rfl⟩
  · obtain ⟨a, t, rfl, _⟩ := h
    rfl
  · obtain ⟨a, t, rfl, ha, hl, k⟩ := h
    refine ⟨_, pss_cons (ps_set (i := 1) sc_words_of.nd rfl (.inl rfl) (pe_lst pa_nil))
      (pss_cons (ps_set (i := 2) sc_words_of.nd rfl (.inl rfl) (pe_lst pa_nil))
      (pss_cons (ps_for PassesOwn.never rfl (pi_list (pe_op op_cat (pv 0) (pe_lst (pa_cons pe_int pa_nil)))) (pg_name (i := 3) sc_words_of.nd rfl (.inl rfl))
        (pss_one (ps_if (pt_val (pe_c G hr pass0 (pa_cons (pv 3) pa_nil)))
          (pss_one (ps_expr (pe_bm PySem.F.plainAttrs_list PySem.F.slot_list_append PySem.F.type_list_append mt_append (pv 2) (pa_cons (pe_c S hr pass0 (pa_cons (pv 3) pa_nil)) pa_nil))))
          (pss_one (ps_if (pt_cmpR (op_neD hr.units) (pv 2) (pe_lst pa_nil) (nomark _))
            (pss_cons (ps_expr (pe_bm PySem.F.plainAttrs_list PySem.F.slot_list_append PySem.F.type_list_append mt_append (pv 1) (pa_cons (pe_callTy call_tuple_of (by rfl) T.b_tuple (by decide +kernel) (pa_cons (pv 2) pa_nil)) pa_nil)))
              (pss_one (ps_set (i := 2) sc_words_of.nd rfl (.inl rfl) (pe_lst pa_nil)))) pss_nil)))))
      (pss_one (ps_ret (pv 1))))), ?_⟩
    -- found = []; word = []
    refine ⟨by show 0 ≤ sizeLine; exact Nat.zero_le _, fun fl hfl => ⟨by show 0 ≤ sizeLine; exact Nat.zero_le _, fun wl hwl => ?_⟩⟩
    have nwf : wl ≠ fl := fun z => by rw [z, upd_same] at hwl; cases hwl
    have hwl0 : H wl = none := by rw [upd_ne nwf] at hwl; exact hwl
    -- row + [32]
    refine ⟨_, rfl, by show 1 ≤ sizeLine; exact line_le (by decide), fun l1 hl1 => ?_⟩
    have hS : Same H (upd (upd H fl (.lst [])) wl (.lst [])) := same_upd (same_new hfl) hwl0
    have hS1 : Same H (upd (upd (upd H fl (.lst [])) wl (.lst [])) l1 (.lst [V.int 32])) := fun b o e => by
      rw [upd_ne (ne_of_none (hS b o e) hl1)]
      exact hS b o e
    refine ⟨a, l1, nats t, [V.int 32], rfl, rfl, hS1 _ _ ha, upd_same, line_le (by rw [nats_length]; show t.length + 1 ≤ _; omega), fun l2 hl2 => ?_⟩
    refine ⟨l2, rfl, ⟨_, SqL.of upd_same⟩, ?_⟩
    have n2f : l2 ≠ fl := fun z => by
      rw [z, upd_ne (fun z => by rw [← z, upd_ne nwf.symm, upd_same] at hl1; cases hl1), upd_ne nwf.symm, upd_same] at hl2
      cases hl2
    have n2w : l2 ≠ wl := fun z => by
      rw [z, upd_ne (fun z => by rw [← z, upd_same] at hl1; cases hl1), upd_same] at hl2
      cases hl2
    have n1f : l1 ≠ fl := fun z => by rw [z, upd_ne nwf.symm, upd_same] at hl1; cases hl1
    have n1w : l1 ≠ wl := fun z => by rw [z, upd_same] at hl1; cases hl1
    have e32 : nats t ++ [V.int 32] = nats (t ++ [32]) := (nats_append t [32]).symm
    rw [e32]
    have hS2 : Same H (upd (upd (upd (upd H fl (.lst [])) wl (.lst [])) l1 (.lst [V.int 32])) l2 (.lst (nats (t ++ [32])))) := fun b o e => by
      rw [upd_ne (ne_of_none (hS1 b o e) hl2)]
      exact hS1 b o e
    refine for_list (K := K) (a := l2) (xs := nats (t ++ [32])) (fun i σ H' => ∃ (wl : Addr) (ts : List Addr) (v : Option V), σ = [some (.ref a), some (.ref fl), some (.ref wl), v] ∧ Same H H' ∧ H wl = none ∧ wl ≠ fl ∧ l2 ≠ wl ∧
        H' l2 = some (.lst (nats (t ++ [32]))) ∧ H' fl = some (.lst (ts.map V.ref)) ∧ H' wl = some (.lst (nats (wrun ((t ++ [32]).take i)).2)) ∧ TupsAt H' ts (wrun ((t ++ [32]).take i)).1)
      ⟨wl, [], none, rfl, hS2, hwl0, nwf, n2w, upd_same, ?_, ?_, (show TupsAt _ [] [] from .nil)⟩ (fun i σ H' _ z => ?_) ?_ ?_
    · rw [upd_ne n2f.symm, upd_ne n1f.symm, upd_ne nwf.symm, upd_same]
      rfl
    · rw [upd_ne n2w.symm, upd_ne n1w.symm, upd_same]
      rfl
    · obtain ⟨_, _, _, _, _, _, _, _, z, _⟩ := z
      exact SqL.of z
    · rintro i x σ H' hi ⟨wl, ts, v, rfl, z1, hw0, z2, z3, z4, z5, z6, z7⟩
      obtain ⟨b, hb, rfl⟩ := nats_get hi
      have hil := lt_of_get hb
      have hsz := wrun_size (t ++ [32]) i
      have hlen : (t ++ [32]).length ≤ 401 := by
        rw [List.length_append]
        show t.length + 1 ≤ 401
        omega
      have step := wrun_more hb
      generalize wrun ((t ++ [32]).take i) = S0 at *
      obtain ⟨ws, wd⟩ := S0
      dsimp only at z6 z7 hsz
      refine ⟨_, rfl, b, rfl, _, rfl, ite2 (fun c => ?_) (fun c => ?_)⟩
      · -- a letter
        have es : wrun ((t ++ [32]).take (i + 1)) = (ws, wd ++ [Kcs8.small b]) := by
          rw [step]
          unfold wstep
          rw [if_pos c]
        refine ⟨_, rfl, .inl ⟨rfl, _, SqL.of z6⟩, _, rfl, b, rfl, wl, _, _, rfl, rfl, z6, line_lt (by rw [nats_length]; omega), ?_⟩
        refine ⟨wl, ts, some (.int b), rfl, same_upd z1 hw0, hw0, z2, z3, ?_, ?_, ?_, ?_⟩
        · rw [upd_ne z3]
          exact z4
        · rw [upd_ne z2.symm]
          exact z5
        · rw [es, nats_append]
          exact upd_same
        · rw [es]
          exact z7.same fun b' o e => by
            rw [upd_ne (fun z => by rw [z, z6] at e; cases e)]
            exact e
      · refine ⟨_, rfl, by show 0 ≤ sizeLine; exact Nat.zero_le _, fun pn hpn => ?_⟩
        have npw : wl ≠ pn := fun z => by rw [← z, z6] at hpn; cases hpn
        have npf : fl ≠ pn := fun z => by rw [← z, z5] at hpn; cases hpn
        have np2 : l2 ≠ pn := fun z => by rw [← z, z4] at hpn; cases hpn
        have hpH : H pn = none := z1.free hpn
        refine ⟨.list (datL wd), .list [], .lst (SqL.of (by rw [upd_ne npw]; exact z6)) (dp_nats wd), .lst (SqL.of upd_same) .nil, shaped_nats wd, shaped_nil, _, rfl, ?_⟩
        have ee : PyData.eqv (.list (datL wd)) (.list []) = decide (wd = []) := by
          have := eqv_nats wd []
          simp only [PyData.eqv]
          exact this
        rw [ee]
        have k1 : ∀ b' o, H' b' = some (.tup o) → upd H' pn (.lst []) b' = some (.tup o) := fun b' o e => by
          rw [upd_ne (ne_of_none e hpn)]
          exact e
        by_cases c2 : wd = []
        · have es : wrun ((t ++ [32]).take (i + 1)) = (ws, wd) := by
            rw [step]
            unfold wstep
            rw [if_neg c, if_pos c2]
          rw [decide_eq_true c2]
          refine iteF ?_
          refine ⟨wl, ts, some (.int b), rfl, same_upd z1 hpH, hw0, z2, z3, ?_, ?_, ?_, ?_⟩
          · rw [upd_ne np2]
            exact z4
          · rw [upd_ne npf]
            exact z5
          · rw [es, upd_ne npw]
            exact z6
          · rw [es]
            exact z7.same k1
        · have es : wrun ((t ++ [32]).take (i + 1)) = (ws ++ [wd], []) := by
            rw [step]
            unfold wstep
            rw [if_neg c, if_neg c2]
          rw [decide_eq_false c2]
          refine iteT ?_
          have z5' : upd H' pn (.lst []) fl = some (.lst (ts.map V.ref)) := by
            rw [upd_ne npf]
            exact z5
          have z6' : upd H' pn (.lst []) wl = some (.lst (nats wd)) := by
            rw [upd_ne npw]
            exact z6
          refine ⟨_, rfl, .inl ⟨rfl, _, SqL.of z5'⟩, _, rfl, wl, _, rfl, .inl ⟨SqL.of z6', fun tp htp => ?_⟩⟩
          have ntf : fl ≠ tp := fun z => by rw [← z, z5'] at htp; cases htp
          have ntw : wl ≠ tp := fun z => by rw [← z, z6'] at htp; cases htp
          have nt2 : l2 ≠ tp := fun z => by rw [← z, upd_ne np2, z4] at htp; cases htp
          have htH : H tp = none := (same_upd (o := .lst []) z1 hpH).free htp
          have hlt := z7.length
          refine ⟨fl, _, _, rfl, rfl, by rw [upd_ne ntf]; exact z5', line_lt (by rw [List.length_map, hlt]; omega), ?_⟩
          -- word = []
          refine ⟨by show 0 ≤ sizeLine; exact Nat.zero_le _, fun wn hwn => ?_⟩
          have hflH : H fl = none := hfl
          have hS4 : Same H (upd (upd (upd H' pn (.lst [])) tp (.tup (nats wd))) fl (.lst (ts.map V.ref ++ [V.ref tp]))) := same_upd (same_upd (same_upd z1 hpH) htH) hflH
          have hwnH : H wn = none := hS4.free hwn
          have nnf : wn ≠ fl := fun z => by rw [z, upd_same] at hwn; cases hwn
          have nnt : wn ≠ tp := fun z => by rw [z, upd_ne ntf.symm, upd_same] at hwn; cases hwn
          have nn2 : l2 ≠ wn := fun z => by rw [← z, upd_ne n2f, upd_ne nt2, upd_ne np2, z4] at hwn; cases hwn
          refine ⟨wn, ts ++ [tp], some (.int b), rfl, same_upd hS4 hwnH, hwnH, nnf, nn2, ?_, ?_, ?_, ?_⟩
          · rw [upd_ne nn2, upd_ne n2f, upd_ne nt2, upd_ne np2]
            exact z4
          · rw [upd_ne nnf.symm, List.map_append]
            exact upd_same
          · rw [es]
            exact upd_same
          · rw [es]
            have kk : ∀ b' o, H' b' = some (.tup o) → upd (upd (upd (upd H' pn (.lst [])) tp (.tup (nats wd))) fl (.lst (ts.map V.ref ++ [V.ref tp]))) wn (.lst []) b' = some (.tup o) := fun b' o e => by
              have e1 := k1 b' o e
              have e2 : upd (upd H' pn (.lst [])) tp (.tup (nats wd)) b' = some (.tup o) := by
                rw [upd_ne (ne_of_none e1 htp)]
                exact e1
              have e3 : upd (upd (upd H' pn (.lst [])) tp (.tup (nats wd))) fl (.lst (ts.map V.ref ++ [V.ref tp])) b' = some (.tup o) := by
                rw [upd_ne (fun z => by rw [z, upd_ne npf, z5] at e1; cases e1)]
                exact e2
              rw [upd_ne (ne_of_none e3 hwn)]
              exact e3
            refine (z7.same kk).snoc ?_
            rw [upd_ne nnt.symm, upd_ne ntf.symm]
            exact upd_same
    · rintro σ H' ⟨wl, ts, v, rfl, z1, hw0, z2, z3, z4, z5, z6, z7⟩
      rw [nats_length, List.take_length] at z7
      rw [wrun_end] at z7
      exact ⟨_, rfl, k H' fl ts z1 hfl z5 z7⟩
end
end Tr
/-! rooms.py: what is made, what is read -/
namespace Tr
open PySem PySem.Spec PyProof.Rows L2
open Kcs8 (Abs Member Message roomOf memberOf withRoom withMessage sees)
theorem one1000 : 1 < 1000 := by decide
/-- all that stood but x stands -/
def But (x : Addr) (H H' : Hp) : Prop := ∀ b o, H b = some o → b ≠ x → H' b = some o
def spMessageI (C : Cs) : Sp := fun vs H Q _ => ∃ (x dx t : Addr) (who a : Nat), vs = [.ref x, .int (who : Int), .ref t, .int (a : Int)] ∧ H x = some (.ins C.msg dx []) ∧
  ∀ H' d, But x H H' → H d = none → H' d = some (.dT []) →
    H' x = some (.ins C.msg dx [("who", .int (who : Int)), ("text", .ref t), ("answered", .int (a : Int)), ("many_changed", .int 0), ("marks", .ref d), ("is_gone", .bl false)]) → Q .non H'
def spMemberI (C : Cs) : Sp := fun vs H Q _ => ∃ (x dx : Addr) (who : Nat) (b : Bool) (st : Nat), vs = [.ref x, .int (who : Int), .bl b, .int (st : Int)] ∧ H x = some (.ins C.mem dx []) ∧
  ∀ H', But x H H' → H' x = some (.ins C.mem dx (memF ⟨who, b, st, st⟩)) → Q .non H'
def spRoomI (C : Cs) : Sp := fun vs H Q _ => ∃ (x dx : Addr) (p : V), vs = [.ref x, p] ∧ H x = some (.ins C.room dx []) ∧
  ∀ H' ma ia ga, But x H H' → H ma = none → H ia = none → H ga = none → H' ma = some (.lst []) → H' ia = some (.dK []) → H' ga = some (.lst []) → ma ≠ ga →
    H' x = some (.ins C.room dx [("past", p), ("members", .ref ma), ("invited", .ref ia), ("messages", .ref ga)]) → Q .non H'
def spHouseI (C : Cs) : Sp := fun vs H Q _ => ∃ (x dx : Addr), vs = [.ref x] ∧ H x = some (.ins C.house dx []) ∧
  ∀ H' l (L : List Addr), But x H H' → L.length = 16 → L.Nodup → (∀ a ∈ L, H a = none ∧ a ≠ l ∧ H' a = some (.lst [])) → H l = none → H' l = some (.lst (L.map V.ref)) →
    H' x = some (.ins C.house dx [("founded", .ref l)]) → Q .non H'
section
variable {P : Program} {w : World} {K : PySem.W.Frag} {mg : Str → Option Value} {base : Heap} {C : Cs}
theorem mak_member (T : Txt K mg C) (D : DefI K mg "Member" C.mem "Member.__init__" s_Member_init) : Mak P w K mg base CX0 1 "Member" C.mem (spMemberI C) := by
  obtain ⟨f, fd, F, M, hm⟩ := D.ex
  refine ⟨f, fd, _, F.ok sc_Member_init (fun vs H Q E h => ?_) (fun cdv A outer s H vs Q E hr h => ?_), M, hm, F.binds fun _ _ _ _ _ _ us hl => match us, hl with | [_, _, _, _], _ => rfl⟩
  · obtain ⟨x, dx, who, b, st, rfl, _⟩ := h
    rfl
  · obtain ⟨x, dx, who, b, st, rfl, hx, k⟩ := h
    refine ⟨_, pss_cons (ps_fld (pv 0) (pv 1) rfl) (pss_cons (ps_fld (pv 0) (pv 2) rfl) (pss_cons (ps_fld (pv 0) (pv 3) rfl) (pss_one (ps_fld (pv 0) (pv 3) rfl)))), ?_⟩
    refine ⟨_, rfl, _, rfl, x, C.mem, dx, _, rfl, hx, T.c_mem, T.n_mem_who, (by show 0 < 1000; decide), ?_⟩
    refine ⟨_, rfl, _, rfl, x, C.mem, dx, _, rfl, upd_same, T.c_mem, T.n_mem_is_keeper, (by show 1 < 1000; decide), ?_⟩
    refine ⟨_, rfl, _, rfl, x, C.mem, dx, _, rfl, upd_same, T.c_mem, T.n_mem_start, (by show 2 < 1000; decide), ?_⟩
    refine ⟨_, rfl, _, rfl, x, C.mem, dx, _, rfl, upd_same, T.c_mem, T.n_mem_behind_read, (by show 3 < 1000; decide), ?_⟩
    refine k _ (fun b o e hb => ?_) upd_same
    rw [upd_ne hb, upd_ne hb, upd_ne hb, upd_ne hb]
    exact e
theorem mak_message (T : Txt K mg C) (D : DefI K mg "Message" C.msg "Message.__init__" s_Message_init) : Mak P w K mg base CX0 1 "Message" C.msg (spMessageI C) := by
  obtain ⟨f, fd, F, M, hm⟩ := D.ex
  refine ⟨f, fd, _, F.ok sc_Message_init (fun vs H Q E h => ?_) (fun cdv A outer s H vs Q E hr h => ?_), M, hm, F.binds fun _ _ _ _ _ _ us hl => match us, hl with | [_, _, _, _], _ => rfl⟩
  · obtain ⟨x, dx, t, who, a, rfl, _⟩ := h
    rfl
  · obtain ⟨x, dx, t, who, a, rfl, hx, k⟩ := h
    refine ⟨_, pss_cons (ps_fld (pv 0) (pv 1) rfl) (pss_cons (ps_fld (pv 0) (pv 2) rfl) (pss_cons (ps_fld (pv 0) (pv 3) rfl) (pss_cons (ps_fld (pv 0) pe_int rfl) (pss_cons (ps_fld (pv 0) pe_dnewT rfl) (pss_one (ps_fld (pv 0) pe_bl rfl)))))), ?_⟩
    refine ⟨_, rfl, _, rfl, x, C.msg, dx, _, rfl, hx, T.c_msg, T.n_msg_who, (by show 0 < 1000; decide), ?_⟩
    refine ⟨_, rfl, _, rfl, x, C.msg, dx, _, rfl, upd_same, T.c_msg, T.n_msg_text, (by show 1 < 1000; decide), ?_⟩
    refine ⟨_, rfl, _, rfl, x, C.msg, dx, _, rfl, upd_same, T.c_msg, T.n_msg_answered, (by show 2 < 1000; decide), ?_⟩
    refine ⟨_, rfl, x, C.msg, dx, _, rfl, upd_same, T.c_msg, T.n_msg_many_changed, (by show 3 < 1000; decide), fun d hd => ?_⟩
    have nd : x ≠ d := fun z => by rw [← z, upd_same] at hd; cases hd
    refine ⟨_, rfl, x, C.msg, dx, _, rfl, (by rw [upd_ne nd]; exact upd_same), T.c_msg, T.n_msg_marks, (by show 4 < 1000; decide), ?_⟩
    refine ⟨_, rfl, x, C.msg, dx, _, rfl, upd_same, T.c_msg, T.n_msg_is_gone, (by show 5 < 1000; decide), ?_⟩
    rw [upd_ne nd.symm, upd_ne nd.symm, upd_ne nd.symm, upd_ne nd.symm] at hd
    refine k _ d (fun b o e hb => ?_) hd ?_ upd_same
    · rw [upd_ne hb, upd_ne hb, upd_ne (ne_of_none e hd), upd_ne hb, upd_ne hb, upd_ne hb, upd_ne hb]
      exact e
    · rw [upd_ne nd.symm, upd_ne nd.symm]
      exact upd_same
theorem mak_room (T : Txt K mg C) (D : DefI K mg "Room" C.room "Room.__init__" s_Room_init) : Mak P w K mg base CX0 1 "Room" C.room (spRoomI C) := by
  obtain ⟨f, fd, F, M, hm⟩ := D.ex
  refine ⟨f, fd, _, F.ok sc_Room_init (fun vs H Q E h => ?_) (fun cdv A outer s H vs Q E hr h => ?_), M, hm, F.binds fun _ _ _ _ _ _ us hl => match us, hl with | [_, _], _ => rfl⟩
  · obtain ⟨x, dx, p, rfl, _⟩ := h
    rfl
  · obtain ⟨x, dx, p, rfl, hx, k⟩ := h
    refine ⟨_, pss_cons (ps_fld (pv 0) (pv 1) rfl) (pss_cons (ps_fld (pv 0) (pe_lst pa_nil) rfl) (pss_cons (ps_fld (pv 0) pe_dnewK rfl) (pss_one (ps_fld (pv 0) (pe_lst pa_nil) rfl)))), ?_⟩
    refine ⟨_, rfl, _, rfl, x, C.room, dx, _, rfl, hx, T.c_room, T.n_room_past, (by show 0 < 1000; decide), ?_⟩
    refine ⟨by show 0 ≤ sizeLine; exact Nat.zero_le _, fun ma hma => ?_⟩
    have n1 : x ≠ ma := fun z => by rw [← z, upd_same] at hma; cases hma
    refine ⟨_, rfl, x, C.room, dx, _, rfl, (by rw [upd_ne n1]; exact upd_same), T.c_room, T.n_room_members, (by show 1 < 1000; decide), fun ia hia => ?_⟩
    have n2 : x ≠ ia := fun z => by rw [← z, upd_same] at hia; cases hia
    have n12 : ma ≠ ia := fun z => by rw [← z, upd_ne n1.symm, upd_same] at hia; cases hia
    refine ⟨_, rfl, x, C.room, dx, _, rfl, (by rw [upd_ne n2]; exact upd_same), T.c_room, T.n_room_invited, (by show 2 < 1000; decide), ?_⟩
    refine ⟨by show 0 ≤ sizeLine; exact Nat.zero_le _, fun ga hga => ?_⟩
    have n3 : x ≠ ga := fun z => by rw [← z, upd_same] at hga; cases hga
    have n13 : ma ≠ ga := fun z => by rw [← z, upd_ne n1.symm, upd_ne n12, upd_ne n1.symm, upd_same] at hga; cases hga
    have n23 : ia ≠ ga := fun z => by rw [← z, upd_ne n2.symm, upd_same] at hga; cases hga
    refine ⟨_, rfl, x, C.room, dx, _, rfl, (by rw [upd_ne n3]; exact upd_same), T.c_room, T.n_room_messages, (by show 3 < 1000; decide), ?_⟩
    rw [upd_ne n1.symm] at hma
    rw [upd_ne n2.symm, upd_ne n12.symm, upd_ne n2.symm] at hia
    rw [upd_ne n3.symm, upd_ne n23.symm, upd_ne n3.symm, upd_ne n13.symm, upd_ne n3.symm] at hga
    refine k _ ma ia ga (fun b o e hb => ?_) hma hia hga ?_ ?_ ?_ n13 upd_same
    · rw [upd_ne hb, upd_ne (ne_of_none e hga), upd_ne hb, upd_ne (ne_of_none e hia), upd_ne hb, upd_ne (ne_of_none e hma), upd_ne hb]
      exact e
    · rw [upd_ne n1.symm, upd_ne n13, upd_ne n1.symm, upd_ne n12, upd_ne n1.symm]
      exact upd_same
    · rw [upd_ne n2.symm, upd_ne n23, upd_ne n2.symm]
      exact upd_same
    · rw [upd_ne n3.symm]
      exact upd_same
theorem mak_house (T : Txt K mg C) (D : DefI K mg "House" C.house "House.__init__" s_House_init) : Mak P w K mg base CX0 1 "House" C.house (spHouseI C) := by
  obtain ⟨f, fd, F, M, hm⟩ := D.ex
  refine ⟨f, fd, _, F.ok sc_House_init (fun vs H Q E h => ?_) (fun cdv A outer s H vs Q E hr h => ?_), M, hm, F.binds fun _ _ _ _ _ _ us hl => match us, hl with | [_], _ => rfl⟩
  · obtain ⟨x, dx, rfl, _⟩ := h
    rfl
  · obtain ⟨x, dx, rfl, hx, k⟩ := h
    refine ⟨_, pss_one (ps_fld (pv 0) (pe_lc (own := [("k", 1)]) (g := gName 1) (by rfl) sc_House_init.nd (pi_range1 (by rfl) T.b_range (pa_cons (pe_n T.k_PEOPLE) pa_nil)) (blkOk_by (own := [("k", 1)]) (N := n_House_init) (sc := defScope s_House_init) (by decide +kernel))
        (fun _ _ _ _ _ => pg_name (i := 1) sc_House_init.nd rfl (Or.inl rfl)) (fun _ _ _ _ _ => pts_nil) (fun _ _ _ _ _ => pe_lst pa_nil)) rfl), ?_⟩
    refine ⟨16, rfl, by decide, by decide, fun D hD => ?_⟩
    refine lc_range (lo := 0) (n := 16) (fun i H' => ∃ L : List Addr, L.length = i ∧ L.Nodup ∧ (∀ a ∈ L, H a = none ∧ a ≠ D ∧ H' a = some (.lst [])) ∧ H' D = some (.lst (L.map V.ref)) ∧ Same H H')
      ⟨[], rfl, List.nodup_nil, fun a ha => by (cases ha), upd_same, same_new hD⟩ ?_ ?_
    · rintro i H' hi ⟨L, l1, l2, l3, l4, l5⟩
      refine ⟨rfl, yes_of (iteT ?_)⟩
      refine ⟨by show 0 ≤ sizeLine; exact Nat.zero_le _, fun p hp => ?_⟩
      have npD : D ≠ p := fun z => by rw [← z, l4] at hp; cases hp
      refine ⟨_, by rw [upd_ne npD]; exact l4, line_lt (by rw [List.length_map]; omega), L ++ [p], by rw [List.length_append, l1]; rfl, ?_, ?_, ?_, ?_⟩
      · rw [List.nodup_append]
        refine ⟨l2, by simp, fun a ha b hb e => ?_⟩
        rw [List.mem_singleton] at hb
        subst hb
        rw [e] at ha
        rw [(l3 _ ha).2.2] at hp
        cases hp
      · intro a ha
        rw [List.mem_append, List.mem_singleton] at ha
        rcases ha with ha | rfl
        · obtain ⟨q1, q2, q3⟩ := l3 a ha
          refine ⟨q1, q2, ?_⟩
          rw [upd_ne q2, upd_ne (ne_of_none q3 hp)]
          exact q3
        · refine ⟨l5.free hp, npD.symm, ?_⟩
          rw [upd_ne npD.symm]
          exact upd_same
      · rw [List.map_append]
        exact upd_same
      · exact same_upd (same_upd l5 (l5.free hp)) hD
    · rintro H' ⟨L, l1, l2, l3, l4, l5⟩
      refine ⟨_, rfl, x, C.house, dx, _, rfl, l5 _ _ hx, T.c_house, T.n_house_founded, (by show 0 < 1000; decide), ?_⟩
      have nxD : D ≠ x := fun z => by rw [← z, hD] at hx; cases hx
      refine k _ D L (fun b o e hb => ?_) l1 l2 (fun a ha => ?_) hD ?_ upd_same
      · rw [upd_ne hb]
        exact l5 b o e
      · obtain ⟨q1, q2, q3⟩ := l3 a ha
        refine ⟨q1, q2, ?_⟩
        rw [upd_ne (fun z => by rw [z, hx] at q1; cases q1)]
        exact q3
      · rw [upd_ne nxD]
        exact l4
/-! ### what is read -/
def roomV (ad : Ad) (f k : Nat) : Option KRoom → V
  | none => .non
  | some _ => .ref (ad (.rm f k .room))
def memV (ad : Ad) (f k w : Nat) : Option Member → V
  | none => .non
  | some _ => .ref (ad (.rm f k (.mem w)))
def msgV (ad : Ad) (f k n : Nat) : Option Message → V
  | none => .non
  | some _ => .ref (ad (.rm f k (.msg n)))
end
def spRoomAt (C : Cs) : Sp := fun vs H Q _ => ∃ (F : Hp) (s : Abs) (ad : Ad) (f k : Nat), vs = [.ref (ad .house), .int (f : Int), .int (k : Int)] ∧ Rep C F H s ad ∧ Q (roomV ad f k (roomOf s f k)) H
def spMemberOf (C : Cs) : Sp := fun vs H Q _ => ∃ (F : Hp) (s : Abs) (ad : Ad) (f k : Nat) (r : KRoom) (w : Nat), vs = [.ref (ad (.rm f k .room)), .int (w : Int)] ∧ Rep C F H s ad ∧ roomOf s f k = some r ∧ Q (memV ad f k w (memberOf r w)) H
def spIsKnown (C : Cs) : Sp := fun vs H Q _ => ∃ (F : Hp) (s : Abs) (ad : Ad) (f k : Nat) (r : KRoom) (w : Nat), vs = [.ref (ad (.rm f k .room)), .int (w : Int)] ∧ Rep C F H s ad ∧ roomOf s f k = some r ∧ Q (.bl (Kcs8.isIn r w || r.invited.contains w)) H
def spHasKeeper (C : Cs) : Sp := fun vs H Q _ => ∃ (F : Hp) (s : Abs) (ad : Ad) (f k : Nat) (r : KRoom), vs = [.ref (ad (.rm f k .room))] ∧ Rep C F H s ad ∧ roomOf s f k = some r ∧ ∀ H', Same H H' → Q (.bl (r.members.any fun m => m.keeper)) H'
def spSeen (C : Cs) : Sp := fun vs H Q _ => ∃ (F : Hp) (s : Abs) (ad : Ad) (f k : Nat) (r : KRoom) (w n : Nat) (m : Member), vs = [.ref (ad (.rm f k .room)), .ref (ad (.rm f k (.mem w))), .int (n : Int)] ∧ Rep C F H s ad ∧ roomOf s f k = some r ∧ memberOf r w = some m ∧ Q (msgV ad f k n (sees r m n)) H
def there (r : KRoom) (m : Member) (n : Nat) : Option Message := (sees r m n).filter fun x => !x.gone
def spThere (C : Cs) : Sp := fun vs H Q _ => ∃ (F : Hp) (s : Abs) (ad : Ad) (f k : Nat) (r : KRoom) (w n : Nat) (m : Member), vs = [.ref (ad (.rm f k .room)), .ref (ad (.rm f k (.mem w))), .int (n : Int)] ∧ Rep C F H s ad ∧ roomOf s f k = some r ∧ memberOf r w = some m ∧ Q (msgV ad f k n (there r m n)) H
section
variable {P : Program} {w : World} {K : PySem.W.Frag} {mg : Str → Option Value} {base : Heap} {C : Cs}
theorem fndL_get (ad : Ad) {f : Nat} (hf : f < 16) : (fndL ad)[f]? = some (V.ref (ad (.mine f))) := by
  unfold fndL
  rw [List.getElem?_map, List.getElem?_range hf]
  rfl
theorem mineL_get (ad : Ad) (f : Nat) {n k : Nat} (hk : k < n) : (mineL ad f n)[k]? = some (V.ref (ad (.rm f k .room))) := by
  unfold mineL
  rw [List.getElem?_map, List.getElem?_range hk]
  rfl
theorem mineL_length (ad : Ad) (f n : Nat) : (mineL ad f n).length = n := by
  unfold mineL
  rw [List.length_map, List.length_range]
theorem msgsL_get (ad : Ad) (f k : Nat) {n i : Nat} (hk : i < n) : (msgsL ad f k n)[i]? = some (V.ref (ad (.rm f k (.msg i)))) := by
  unfold msgsL
  rw [List.getElem?_map, List.getElem?_range hk]
  rfl
theorem msgsL_length (ad : Ad) (f k n : Nat) : (msgsL ad f k n).length = n := by
  unfold msgsL
  rw [List.length_map, List.length_range]
theorem memsL_length (ad : Ad) (f k : Nat) (l : List Member) : (memsL ad f k l).length = l.length := List.length_map _
theorem memsL_get {ad : Ad} {f k : Nat} {l : List Member} {i : Nat} {x : V} (h : (memsL ad f k l)[i]? = some x) : ∃ m, l[i]? = some m ∧ x = .ref (ad (.rm f k (.mem m.who))) := by
  unfold memsL at h
  rw [List.getElem?_map] at h
  cases e : l[i]? with
  | none =>
    rw [e] at h
    cases h
  | some m =>
    rw [e] at h
    exact ⟨m, rfl, (Option.some.inj h).symm⟩
theorem cal_room_at (T : Txt K mg C) (D : Def K mg "room_at" s_room_at) : Cal P w K mg base CX0 1 "room_at" (spRoomAt C) := by
  obtain ⟨f, fd, F, hm⟩ := D.ex
  refine ⟨f, fd, _, F.ok sc_room_at (fun vs H Q E h => ?_) (fun cdv A outer s H vs Q E hr h => ?_), hm, F.kp, F.binds fun _ _ _ _ _ _ us hl => match us, hl with | [_, _, _], _ => rfl⟩
  · obtain ⟨_, _, _, _, _, rfl, _⟩ := h
    rfl
  · obtain ⟨Fr, S, ad, fo, n, rfl, R, k⟩ := h
    refine ⟨_, pss_cons (ps_if (PW.pt (pw_or (pt_cmpR op_ge (pv 1) (pe_n T.k_PEOPLE) (nomark _)) (pw_or1 (pt_cmpR op_ge (pv 2) (pe_callB call_len_seq (by rfl) T.b_len PySem.boot_len (pa_cons (pe_ix ix_list (pe_fld (pv 0) rfl) (pv 1) (fun _ _ => rfl)) pa_nil)) (nomark _)))))
        (pss_one (ps_ret pe_non)) pss_nil)
      (pss_one (ps_ret (pe_ix ix_list (pe_ix ix_list (pe_fld (pv 0) rfl) (pv 1) (fun _ _ => rfl)) (pv 2) (fun _ _ => rfl)))), ?_⟩
    obtain ⟨dh, hh⟩ := R.at_house
    have none_of : ¬ (fo < 16 ∧ n < cnt S fo) → roomOf S fo n = none := fun c => by
      cases e : roomOf S fo n with
      | none => rfl
      | some r => exact absurd (R.wf.lt e) c
    refine ⟨_, rfl, _, _, rfl, rfl, _, rfl, ite2 (fun c => iteT ?_) (fun c => ?_)⟩
    · rw [none_of (fun z => by have := of_decide_eq_true c; omega)] at k
      exact k
    · have hf : fo < 16 := by
        have : ¬ (16 : Int) ≤ fo := fun z => c (decide_eq_true z)
        omega
      have hm := R.at_mine hf
      refine ⟨_, rfl, _, rfl, _, C.house, dh, _, _, rfl, hh, T.c_house, T.n_house_founded, rfl, _, rfl, _, _, _, _, rfl, rfl, SqL.of R.at_fnd, atI_nat (fndL_get ad hf), _, _, rfl, .inl (SqL.of hm), _, _, rfl, rfl, _, rfl, ?_⟩
      rw [mineL_length]
      refine ite2 (fun c2 => ?_) (fun c2 => ?_)
      · rw [none_of (fun z => by have := of_decide_eq_true c2; omega)] at k
        exact k
      · have hn : n < cnt S fo := by
          have : ¬ ((cnt S fo : Nat) : Int) ≤ n := fun z => c2 (decide_eq_true z)
          omega
        refine ⟨_, rfl, _, C.house, dh, _, _, rfl, hh, T.c_house, T.n_house_founded, rfl, _, rfl, _, _, _, _, rfl, rfl, SqL.of R.at_fnd, atI_nat (fndL_get ad hf), _, rfl, _, _, _, _, rfl, rfl, SqL.of hm, atI_nat (mineL_get ad fo hn), ?_⟩
        obtain ⟨r, e⟩ := Option.isSome_iff_exists.mp ((R.wf.here fo n).mpr ⟨hf, hn⟩)
        rw [e] at k
        exact k
theorem cal_member_of (T : Txt K mg C) (D : Def K mg "member_of" s_member_of) : Cal P w K mg base CX0 1 "member_of" (spMemberOf C) := by
  obtain ⟨f, fd, F, hm⟩ := D.ex
  refine ⟨f, fd, _, F.ok sc_member_of (fun vs H Q E h => ?_) (fun cdv A outer s H vs Q E hr h => ?_), hm, F.kp, F.binds fun _ _ _ _ _ _ us hl => match us, hl with | [_, _], _ => rfl⟩
  · obtain ⟨_, _, _, _, _, _, _, rfl, _⟩ := h
    rfl
  · obtain ⟨Fr, S, ad, fo, n, r, who, rfl, R, hr0, k⟩ := h
    refine ⟨_, pss_cons (ps_for PassesOwn.never rfl (pi_list (pe_fld (pv 0) rfl)) (pg_name (i := 2) sc_member_of.nd rfl (.inl rfl))
        (pss_one (ps_if (pt_cmpR op_eq (pe_fld (pv 2) rfl) (pv 1) (nomark _)) (pss_one (ps_ret (pv 2))) pss_nil)))
      (pss_one (ps_ret pe_non)), ?_⟩
    obtain ⟨dr, hroom⟩ := R.at_room hr0
    have hmems := R.at_mems hr0
    have ok := R.wf.room hr0
    refine ⟨_, rfl, _, C.room, dr, _, _, rfl, hroom, T.c_room, T.n_room_members, rfl, _, rfl, ⟨_, SqL.of hmems⟩, ?_⟩
    refine for_list (K := K) (a := ad (.rm fo n .mems)) (xs := memsL ad fo n r.members) (fun i σ H' => H' = H ∧ (∃ v, σ = [some (.ref (ad (.rm fo n .room))), some (.int (who : Int)), v]) ∧ ∀ j m, j < i → r.members[j]? = some m → m.who ≠ who)
      ⟨rfl, ⟨none, rfl⟩, fun j m hj => absurd hj (Nat.not_lt_zero _)⟩ (fun i σ H' _ z => by rw [z.1]; exact SqL.of hmems) ?_ ?_
    · rintro i x σ H' hi ⟨rfl, ⟨v, rfl⟩, z⟩
      obtain ⟨m, hmi, rfl⟩ := memsL_get hi
      have hmm : m ∈ r.members := List.mem_of_getElem? hmi
      have hmo : memberOf r m.who = some m := find_who ok.mnd hmm rfl
      obtain ⟨dm, hmem⟩ := R.at_mem hr0 hmo
      refine ⟨_, rfl, _, C.mem, dm, _, _, rfl, hmem, T.c_mem, T.n_mem_who, rfl, _, rfl, rfl, _, rfl, ?_⟩
      rw [decI]
      refine ite2 (fun c => ?_) (fun c => ?_)
      · have e : m.who = who := by
          have := of_decide_eq_true c
          omega
        refine ⟨_, rfl, ?_⟩
        rw [← e, hmo, e] at k
        have k' : Q (V.ref (ad (.rm fo n (.mem who)))) H' := k
        rw [← e] at k'
        exact k'
      · have e : m.who ≠ who := fun z => c (decide_eq_true (by omega))
        refine ⟨rfl, ⟨_, rfl⟩, fun j m' hj hm' => ?_⟩
        by_cases cj : j < i
        · exact z j m' cj hm'
        · have : j = i := by omega
          subst this
          rw [hmi] at hm'
          cases hm'
          exact e
    · rintro σ H' ⟨rfl, ⟨v, rfl⟩, z⟩
      rw [memsL_length] at z
      have : memberOf r who = none := memberOf_none.mpr fun m hm' => by
        obtain ⟨j, hj, e⟩ := List.getElem_of_mem hm'
        exact z j m hj (by rw [List.getElem?_eq_getElem hj, e])
      rw [this] at k
      exact k
theorem cal_is_known (T : Txt K mg C) (D : Def K mg "is_known" s_is_known) (G : Cal P w K mg base CX0 1 "member_of" (spMemberOf C)) : Cal P w K mg base CX0 2 "is_known" (spIsKnown C) := by
  obtain ⟨f, fd, F, hm⟩ := D.ex
  refine ⟨f, fd, _, F.ok sc_is_known (fun vs H Q E h => ?_) (fun cdv A outer s H vs Q E hr h => ?_), hm, F.kp, F.binds fun _ _ _ _ _ _ us hl => match us, hl with | [_, _], _ => rfl⟩
  · obtain ⟨_, _, _, _, _, _, _, rfl, _⟩ := h
    rfl
  · obtain ⟨Fr, S, ad, fo, n, r, who, rfl, R, hr0, k⟩ := h
    refine ⟨_, pss_one (ps_ret (pe_or (pe_cmpR op_notN (pe_c G hr pass0 (pa_cons (pv 0) (pa_cons (pv 1) pa_nil))) pe_non (nomark _)) (pe_one (pe_cmp (pc_din (hu_of hr) (pv 1) (pe_fld (pv 0) rfl)))))), ?_⟩
    obtain ⟨dr, hroom⟩ := R.at_room hr0
    refine ⟨_, rfl, _, rfl, Fr, S, ad, fo, n, r, who, rfl, R, hr0, rfl, _, rfl, ite2 (fun c => ?_) (fun c => ?_)⟩
    · have e : Kcs8.isIn r who = true := by
        unfold Kcs8.isIn
        cases z : memberOf r who with
        | some m => rfl
        | none =>
          rw [z] at c
          cases c
      rw [e, Bool.true_or] at k
      exact k
    · have e : Kcs8.isIn r who = false := by
        unfold Kcs8.isIn
        cases z : memberOf r who with
        | none => rfl
        | some m =>
          rw [z] at c
          exact absurd rfl c
      rw [e, Bool.false_or] at k
      refine ⟨_, rfl, _, rfl, _, C.room, dr, _, _, rfl, hroom, T.c_room, T.n_room_invited, rfl, _, _, rfl, DGet.k (k := Sum.inl (who : Int)) (R.at_inv hr0), ?_⟩
      have e2 : (valV (invK r.invited) (Sum.inl (who : Int))).isSome = r.invited.contains who := by
        rw [valV_inv]
        by_cases h : who ∈ r.invited
        · rw [if_pos h]
          simp [h]
        · rw [if_neg h]
          simp [h]
      rw [e2]
      exact k
theorem cal_has_keeper (T : Txt K mg C) (D : Def K mg "has_keeper" s_has_keeper) : Cal P w K mg base CX0 1 "has_keeper" (spHasKeeper C) := by
  obtain ⟨f, fd, F, hm⟩ := D.ex
  refine ⟨f, fd, _, F.ok sc_has_keeper (fun vs H Q E h => ?_) (fun cdv A outer s H vs Q E hr h => ?_), hm, F.kp, F.binds fun _ _ _ _ _ _ us hl => match us, hl with | [_], _ => rfl⟩
  · obtain ⟨_, _, _, _, _, _, rfl, _⟩ := h
    rfl
  · obtain ⟨Fr, S, ad, fo, n, r, rfl, R, hr0, k⟩ := h
    refine ⟨_, pss_one (ps_ret (pe_cmpR op_gt (pe_callB call_len_seq (by rfl) T.b_len PySem.boot_len (pa_cons
        (pe_lc (own := [("member", 1)]) (g := gName 1) (tt := tB (tFld K (tVar 1) "is_keeper")) (by rfl) sc_has_keeper.nd (pi_list (pe_fld (pv 0) rfl)) (blkOk_by (own := [("member", 1)]) (N := n_has_keeper) (sc := defScope s_has_keeper) (by decide +kernel)) (fun _ _ _ _ _ => pg_name (i := 1) sc_has_keeper.nd rfl (Or.inl rfl))
          (fun _ _ _ _ _ => pts_one (pt_val (pe_fld (pv 1) rfl))) (fun _ _ _ _ _ => pv 1)) pa_nil)) pe_int (nomark _))), ?_⟩
    obtain ⟨dr, hroom⟩ := R.at_room hr0
    have hmems := R.at_mems hr0
    have ok := R.wf.room hr0
    refine ⟨_, rfl, _, C.room, dr, _, _, rfl, hroom, T.c_room, T.n_room_members, rfl, _, rfl, ⟨_, SqL.of hmems⟩, fun D hD => ?_⟩
    refine lc_list (K := K) (a := ad (.rm fo n .mems)) (xs := memsL ad fo n r.members) (fun i H' => Same H H' ∧ ∃ xs : List V, H' D = some (.lst xs) ∧ xs.length = ((r.members.take i).filter fun m => m.keeper).length) ⟨same_new hD, [], upd_same, rfl⟩ (fun i H' _ z => SqL.of (z.1 _ _ hmems)) ?_ ?_
    · rintro i x H' hi ⟨z1, xs, z2, z3⟩
      obtain ⟨m, hmi, rfl⟩ := memsL_get hi
      have hmm : m ∈ r.members := List.mem_of_getElem? hmi
      have hmo : memberOf r m.who = some m := find_who ok.mnd hmm rfl
      obtain ⟨dm, hmem⟩ := R.at_mem hr0 hmo
      have hil := lt_of_get hmi
      refine ⟨rfl, _, rfl, _, C.mem, dm, _, _, rfl, z1 _ _ hmem, T.c_mem, T.n_mem_is_keeper, rfl, m.keeper, rfl, ite2 (fun c => ?_) (fun c => ?_)⟩
      · refine ⟨_, rfl, _, z2, line_lt ?_, same_upd z1 hD, _, upd_same, ?_⟩
        · rw [z3]
          refine Nat.lt_of_le_of_lt (List.length_filter_le _ _) ?_
          rw [List.length_take]
          have := ok.few
          omega
        · rw [take_more hmi, List.filter_append, List.length_append, List.length_append, z3, List.filter_cons, if_pos c]
          rfl
      · refine ⟨z1, xs, z2, ?_⟩
        rw [take_more hmi, List.filter_append, List.filter_cons, if_neg c, List.filter_nil, List.append_nil]
        exact z3
    · rintro H' ⟨z1, xs, z2, z3⟩
      rw [memsL_length, List.take_length] at z3
      refine ⟨D, _, rfl, .inl (SqL.of z2), _, _, rfl, rfl, ?_⟩
      have e : (r.members.any fun m => m.keeper) = decide ((0 : Int) < (xs.length : Nat)) := by
        rw [z3, Bool.eq_iff_iff, List.any_eq_true, decide_eq_true_eq]
        constructor
        · rintro ⟨m, h1, h2⟩
          have : m ∈ r.members.filter fun m => m.keeper := List.mem_filter.mpr ⟨h1, h2⟩
          have := List.length_pos_of_mem this
          omega
        · intro h
          have h' : 0 < (r.members.filter fun m => m.keeper).length := by omega
          obtain ⟨m, hm'⟩ := List.exists_mem_of_length_pos h'
          exact ⟨m, (List.mem_filter.mp hm').1, (List.mem_filter.mp hm').2⟩
      rw [e] at k
      exact k H' z1
theorem cal_seen (T : Txt K mg C) (D : Def K mg "message_seen" s_message_seen) : Cal P w K mg base CX0 1 "message_seen" (spSeen C) := by
  obtain ⟨f, fd, F, hm⟩ := D.ex
  refine ⟨f, fd, _, F.ok sc_message_seen (fun vs H Q E h => ?_) (fun cdv A outer s H vs Q E hr h => ?_), hm, F.kp, F.binds fun _ _ _ _ _ _ us hl => match us, hl with | [_, _, _], _ => rfl⟩
  · obtain ⟨_, _, _, _, _, _, _, _, _, rfl, _⟩ := h
    rfl
  · obtain ⟨Fr, S, ad, fo, n, r, who, j, m, rfl, R, hr0, hmo, k⟩ := h
    refine ⟨_, pss_cons (ps_if (PW.pt (pw_or (pt_cmpR op_lt (pv 2) (pe_fld (pv 1) rfl) (nomark _)) (pw_or1 (pt_cmpR op_ge (pv 2) (pe_callB call_len_seq (by rfl) T.b_len PySem.boot_len (pa_cons (pe_fld (pv 0) rfl) pa_nil)) (nomark _)))))
        (pss_one (ps_ret pe_non)) pss_nil)
      (pss_one (ps_ret (pe_ix ix_list (pe_fld (pv 0) rfl) (pv 2) (fun _ _ => rfl)))), ?_⟩
    obtain ⟨dr, hroom⟩ := R.at_room hr0
    obtain ⟨dm, hmem⟩ := R.at_mem hr0 hmo
    have hmsgs := R.at_msgs hr0
    refine ⟨_, rfl, _, rfl, _, C.mem, dm, _, _, rfl, hmem, T.c_mem, T.n_mem_start, rfl, _, _, rfl, rfl, _, rfl, ite2 (fun c => iteT ?_) (fun c => ?_)⟩
    · have e : sees r m j = none := by
        unfold sees
        rw [if_neg]
        have := of_decide_eq_true c
        omega
      rw [e] at k
      exact k
    · have c' : m.since ≤ j := by
        have : ¬ (j : Int) < m.since := fun z => c (decide_eq_true z)
        omega
      refine ⟨_, rfl, _, rfl, _, C.room, dr, _, _, rfl, hroom, T.c_room, T.n_room_messages, rfl, _, _, rfl, .inl (SqL.of hmsgs), _, _, rfl, rfl, _, rfl, ?_⟩
      rw [msgsL_length]
      refine ite2 (fun c2 => ?_) (fun c2 => ?_)
      · have e : sees r m j = none := by
          unfold sees
          rw [if_pos c', List.getElem?_eq_none]
          have := of_decide_eq_true c2
          omega
        rw [e] at k
        exact k
      · have hj : j < r.messages.length := by
          have : ¬ ((r.messages.length : Nat) : Int) ≤ j := fun z => c2 (decide_eq_true z)
          omega
        refine ⟨_, rfl, _, C.room, dr, _, _, rfl, hroom, T.c_room, T.n_room_messages, rfl, _, rfl, _, _, _, _, rfl, rfl, SqL.of hmsgs, atI_nat (msgsL_get ad fo n hj), ?_⟩
        have e : sees r m j = some r.messages[j] := by
          unfold sees
          rw [if_pos c', List.getElem?_eq_getElem hj]
        rw [e] at k
        exact k
theorem sees_get {r : KRoom} {m : Member} {n : Nat} {x : Message} (h : sees r m n = some x) : r.messages[n]? = some x := by
  unfold sees at h
  split at h
  · exact h
  · cases h
theorem cal_there (T : Txt K mg C) (D : Def K mg "message_there" s_message_there) (G : Cal P w K mg base CX0 1 "message_seen" (spSeen C)) : Cal P w K mg base CX0 2 "message_there" (spThere C) := by
  obtain ⟨f, fd, F, hm⟩ := D.ex
  refine ⟨f, fd, _, F.ok sc_message_there (fun vs H Q E h => ?_) (fun cdv A outer s H vs Q E hr h => ?_), hm, F.kp, F.binds fun _ _ _ _ _ _ us hl => match us, hl with | [_, _, _], _ => rfl⟩
  · obtain ⟨_, _, _, _, _, _, _, _, _, rfl, _⟩ := h
    rfl
  · obtain ⟨Fr, S, ad, fo, n, r, who, j, m, rfl, R, hr0, hmo, k⟩ := h
    refine ⟨_, pss_cons (ps_set (i := 3) sc_message_there.nd rfl (.inl rfl) (pe_c G hr pass0 (pa_cons (pv 0) (pa_cons (pv 1) (pa_cons (pv 2) pa_nil)))))
      (pss_cons (ps_if (PW.pt (pw_or (pt_cmpR op_isN (pv 3) pe_non (nomark _)) (pw_or1 (pt_val (pe_fld (pv 3) rfl))))) (pss_one (ps_ret pe_non)) pss_nil)
      (pss_one (ps_ret (pv 3)))), ?_⟩
    refine ⟨_, rfl, _, rfl, _, rfl, Fr, S, ad, fo, n, r, who, j, m, rfl, R, hr0, hmo, ?_⟩
    cases e : sees r m j with
    | none =>
      have e2 : there r m j = none := by
        unfold there
        rw [e]
        rfl
      rw [e2] at k
      refine ⟨_, rfl, rfl, _, rfl, iteT (iteT ?_)⟩
      exact k
    | some x =>
      obtain ⟨dm, hmsg⟩ := R.at_msg hr0 (sees_get e)
      refine ⟨_, rfl, rfl, _, rfl, iteF ?_⟩
      refine ⟨_, rfl, _, C.msg, dm, _, _, rfl, hmsg, T.c_msg, T.n_msg_is_gone, rfl, x.gone, rfl, ite2 (fun c => ?_) (fun c => ?_)⟩
      · have e2 : there r m j = none := by
          unfold there
          rw [e]
          simp [Option.filter, c]
        rw [e2] at k
        exact k
      · have e2 : there r m j = some x := by
          unfold there
          rw [e]
          simp [Option.filter, c]
        rw [e2] at k
        exact ⟨_, rfl, k⟩
end
end Tr
/-! d.pop(k) of a dict with tuple keys, k there -/
namespace Tr
open PySem PySem.Spec PyProof.Rows L2
section
variable {prog : Program} {w : World} {κ : Type} [DecidableEq κ] {knd : HeapKind prog w κ}
theorem popOne {d b : Addr} {k : κ} (hd : (d == sysModules) = false) :
    MeetsIn prog w (Builtin.«dict.pop» ⟨[.ref d, .ref b], []⟩) (fun A R s => ∃ xs p, knd.room A.in1 ∧ knd.is s.heap k b ∧ s.heap.DictOfH knd d xs ∧ xs.length ≤ sizeLine ∧ atKey xs k = some p ∧
      ∀ h' tk, h'.DictOfH knd d (DT.dropH xs k) → Heap.SameBut d s.heap h' → R (.ok (.ret p.2)) { s with heap := h', toks := tk }) :=
  .of_wp fun A R s ⟨xs, p, hu, hkey, hm, hsz, hp, hgo⟩ => by
    obtain ⟨o, es, ep, ho, hc, hdat, he, his, hn⟩ := id hm
    have sz : es.size = xs.length := size_of_entries he
    have np : (keyPart (Value.ref b)).isSome = false := rfl
    unfold Builtin.«dict.pop»
    refine wpAny_bind ?_
    unfold Builtin.Dict.keyAndDefault
    refine wpAny_bind (wpAny_notOrdered_dict hm.typeIs ?_)
    show wpAny _ _ (pure (d, Value.ref b, (none : Option Value))) _ _ s
    refine wpAny_pure ?_
    simp only [np, Bool.false_eq_true, if_false]
    refine wpAny_bind (wpAny_dictEntries ho hdat (wpAny_bind (wpAny_pure ?_)))
    cases hem : es.isEmpty with
    | true =>
      exfalso
      have z : es.size = 0 := by simpa using hem
      have h0 : xs = [] := List.length_eq_zero_iff.mp (by omega)
      rw [h0] at hp
      cases hp
    | false =>
      simp only [Bool.false_eq_true, if_false]
      refine wpAny_bind (DT.takeH hu hkey hm hsz (fun no => by rw [hp] at no; cases no) fun p' e hp' hev h' hm' hs' => ?_)
      rw [hp] at hp'
      cases hp'
      simp only [Option.isNone_some, Bool.false_eq_true, if_false]
      exact wpAny_bind (wpAny_letGo (wpAny_pure ⟨e.val, rfl, by rw [hev]; exact hgo h' _ hm' hs'⟩))
end
section
variable {X : Cx}
def rPopT1 : V → List V → Hp → VK → Prop := fun x xs H Q => ∃ (a : Addr) (kvs : List (List L2.Key × V)) (k : List L2.Key) (b : Addr) (v : V), x = .ref a ∧ xs = [.ref b] ∧ H a = some (.dT kvs) ∧ H b = some (.tup (k.map kV)) ∧
  valV kvs k = some v ∧ Q v (upd H a (.dT (dropK kvs k)))
theorem mt_popT1 (hu : X.A.units + 1 < cLine) : MtR X "dict.pop" rPopT1 := by
  intro pins s σ H x xs v us Q I rx rxs h
  obtain ⟨a, kvs, k, b, v1, rfl, rfl, ha, hb, hv, q1⟩ := h
  cases rx
  obtain ⟨u1, rfl, r1⟩ := vals1 rxs
  cases r1
  obtain ⟨z, hd, xs', rel, dd⟩ := dt_of I.hok ha
  have hz : xs'.length ≤ sizeLine := by rw [← Paired.length rel]; exact z
  have r := rel.val k
  rw [hv] at r
  obtain ⟨u, hu1, ru⟩ := RelO.some_of r
  obtain ⟨p, hp, rfl⟩ : ∃ p, atKey xs' k = some p ∧ p.2 = u := by
    cases e : atKey xs' k with
    | none =>
      rw [e] at hu1
      cases hu1
    | some p =>
      rw [e] at hu1
      exact ⟨p, rfl, Option.some.inj hu1⟩
  refine call_meetsIn PySem.F.slot_dict_pop dd.typeIs PySem.F.entry_dict_pop (PySem.F.args_dict_pop_2 _ _) (popOne (knd := tupleKind (mixKind X.prog X.w)) (k := k) hd)
    ⟨xs', p, tupleKind_room_in1 hu, key_of I.hok hb, dd, hz, hp, fun h' tk dd' hs => ?_⟩
  obtain ⟨o, es, ep, hq, h2, h3, h4, _, h5⟩ := dd'
  have J : Inv X pins σ (upd H a (.dT (dropK kvs k))) { s with heap := h', toks := tk } :=
    d_write I (by rw [ha]; exact True.intro) hs ⟨o, hq⟩ ⟨Nat.le_trans (dropK_le kvs k) z, hd, _, (DX.KT_drop k rel).keeps (fun c ys ec => (by rw [upd_ne (ne_of ec ha (fun z => nomatch z))]; exact ec)), o, es, ep, hq, h2, h3, h4, h5⟩
  exact ⟨v1, _, J, ru, q1⟩
end
end Tr
/-! rooms.py: what changes -/
namespace Tr
open PySem PySem.Spec PyProof.Rows L2
open Kcs8 (Abs Member Message roomOf memberOf withRoom withMessage sees)
theorem Rep.lay {C : Cs} {F H H1 : Hp} {s : Abs} {ad : Ad} (R : Rep C F H s ad) (k : Same H H1) {p : Addr} {o : HO} (hp : H p = none) (h1 : H1 p = some o) : Rep C (upd F p o) H1 s ad :=
  R.over (fun b u e => by
    by_cases c : b = p
    · rw [c, upd_same] at e
      cases e
      rw [c]
      exact h1
    · rw [upd_ne c] at e
      exact k b u (R.sub b u e)) fun b u e f => ⟨k b u e, by rw [upd_ne (ne_of_none e hp)]; exact f⟩
theorem room_self {s : Abs} {f k : Nat} {r r' : KRoom} (hr : roomOf s f k = some r) (hf : r'.founder = r.founder) (hk : r'.number = r.number) : roomOf (withRoom s r') f k = some r' := by
  obtain ⟨_, h1, h2⟩ := roomOf_some hr
  rw [roomOf_with, hf, hk, h1, h2, if_pos ⟨rfl, rfl⟩, hr]
  rfl
theorem msg_msg (r : KRoom) (n : Nat) (x y : Message) : withMessage (withMessage r n x) n y = withMessage r n y := by
  unfold withMessage
  simp only [List.set_set]
theorem Rep.with2 {C : Cs} {F H : Hp} {s : Abs} {r1 r2 : KRoom} {ad : Ad} (R : Rep C F H (withRoom (withRoom s r1) r2) ad) (hf : r2.founder = r1.founder) (hk : r2.number = r1.number) : Rep C F H (withRoom s r2) ad := by
  rw [with_with s r1 r2 hf hk] at R
  exact R
/-! ### take_out, join -/
def outR (r : KRoom) (w : Nat) : KRoom := { r with members := Kcs8.kept (Kcs8.without r.members w), invited := r.invited.filter (· != w) }
def joinR (r : KRoom) (w : Nat) : KRoom :=
  let n := if r.past then 0 else r.messages.length
  { r with invited := r.invited.filter (· != w), members := r.members ++ [⟨w, r.members.isEmpty, n, n⟩] }
def goneM (x : Message) : Message := { x with text := [], gone := true, marks := [] }
def spTakeOut (C : Cs) : Sp := fun vs H Q _ => ∃ (F : Hp) (s : Abs) (ad : Ad) (f k : Nat) (r : KRoom) (w : Nat), vs = [.ref (ad (.rm f k .room)), .int (w : Int)] ∧ Rep C F H s ad ∧ roomOf s f k = some r ∧
  ∀ H' ad', ad' .house = ad .house → Rep C F H' (withRoom s (outR r w)) ad' → Q .non H'
def spJoin (C : Cs) : Sp := fun vs H Q _ => ∃ (F : Hp) (s : Abs) (ad : Ad) (f k : Nat) (r : KRoom) (w : Nat), vs = [.ref (ad (.rm f k .room)), .int (w : Int)] ∧ Rep C F H s ad ∧ roomOf s f k = some r ∧ w ∈ r.invited ∧
  ∀ H' ad', ad' .house = ad .house → Rep C F H' (withRoom s (joinR r w)) ad' → Q .non H'
def spRemove (C : Cs) : Sp := fun vs H Q _ => ∃ (F : Hp) (s : Abs) (ad : Ad) (f k : Nat) (r : KRoom) (n : Nat) (x : Message), vs = [.ref (ad (.rm f k (.msg n)))] ∧ Rep C F H s ad ∧ roomOf s f k = some r ∧ r.messages[n]? = some x ∧
  ∀ H' ad', ad' .house = ad .house → Rep C F H' (withRoom s (withMessage r n (goneM x))) ad' → Q .non H'
theorem kept_upMem {r : KRoom} (ok : RoomOk r) {l : List Member} {m : Member} {t : List Member} (hl : l = m :: t) (sub : (l.map (·.who)).Nodup) (hk : (l.any fun m => m.keeper) = false) :
    (l.map fun y => if y.who = m.who then { y with keeper := true } else y) = Kcs8.kept l := by
  subst hl
  unfold Kcs8.kept
  rw [hk, if_neg Bool.false_ne_true]
  rw [List.map_cons, if_pos rfl]
  show _ :: _ = _ :: _
  congr 1
  rw [List.map_cons, List.nodup_cons] at sub
  refine (List.map_congr_left fun y hy => ?_).trans (List.map_id t)
  rw [if_neg (fun z => sub.1 (List.mem_map.mpr ⟨y, hy, z⟩))]
  rfl
section
variable {P : Program} {w : World} {K : PySem.W.Frag} {mg : Str → Option Value} {base : Heap} {C : Cs}
theorem cal_take_out (T : Txt K mg C) (D : Def K mg "take_out" s_take_out) (G : Cal P w K mg base CX0 1 "has_keeper" (spHasKeeper C)) : Cal P w K mg base CX0 2 "take_out" (spTakeOut C) := by
  obtain ⟨f, fd, F, hm⟩ := D.ex
  refine ⟨f, fd, _, F.ok sc_take_out (fun vs H Q E h => ?_) (fun cdv A outer s H vs Q E hr h => ?_), hm, F.kp, F.binds fun _ _ _ _ _ _ us hl => match us, hl with | [_, _], _ => rfl⟩
  · obtain ⟨_, _, _, _, _, _, _, rfl, _⟩ := h
    rfl
  · obtain ⟨Fr, S, ad, fo, n, r, who, rfl, R, hr0, k⟩ := h
    refine ⟨_, pss_cons (ps_fld (pv 0) (pe_lc (own := [("member", 3)]) (g := gName 3) (tt := tTest (tOp rNe (tFld K (tVar 3) "who") (tVar 1))) (by rfl) sc_take_out.nd (pi_list (pe_fld (pv 0) rfl)) (blkOk_by (own := [("member", 3)]) (N := n_take_out) (sc := defScope s_take_out) (by decide +kernel))
          (fun _ _ _ _ _ => pg_name (i := 3) sc_take_out.nd rfl (Or.inl rfl)) (fun _ _ _ _ _ => pts_one (pt_cmpR op_ne (pe_fld (pv 3) rfl) (pv 1) (nomark _))) (fun _ _ _ _ _ => pv 3)) rfl)
      (pss_cons (ps_expr (pe_dpop2 (pe_fld (pv 0) rfl) (pv 1) pe_int ⟨rfl, rfl, rfl, rfl⟩))
      (pss_one (ps_if (PW.pt (pw_and (pt_cmpR op_gt (pe_callB call_len_seq (by rfl) T.b_len PySem.boot_len (pa_cons (pe_fld (pv 0) rfl) pa_nil)) pe_int (nomark _)) (pw_and1 (pt_not (pt_val (pe_c G hr pass0 (pa_cons (pv 0) pa_nil)))))))
        (pss_cons (ps_set (i := 2) sc_take_out.nd rfl (.inl rfl) (pe_ix ix_list (pe_fld (pv 0) rfl) pe_int (fun _ _ => rfl))) (pss_one (ps_fld (pv 2) pe_bl rfl))) pss_nil))), ?_⟩
    obtain ⟨dr, hroom⟩ := R.at_room hr0
    have hmems := R.at_mems hr0
    have ok := R.wf.room hr0
    refine ⟨_, rfl, _, C.room, dr, _, _, rfl, hroom, T.c_room, T.n_room_members, rfl, _, rfl, ⟨_, SqL.of hmems⟩, fun D hD => ?_⟩
    refine lc_list (K := K) (a := ad (.rm fo n .mems)) (xs := memsL ad fo n r.members) (fun i H' => Same H H' ∧ H' D = some (.lst (memsL ad fo n (Kcs8.without (r.members.take i) who)))) ⟨same_new hD, upd_same⟩ (fun i H' _ z => SqL.of (z.1 _ _ hmems)) ?_ ?_
    · rintro i x H' hi ⟨z1, z2⟩
      obtain ⟨m, hmi, rfl⟩ := memsL_get hi
      have hmm : m ∈ r.members := List.mem_of_getElem? hmi
      have hmo : memberOf r m.who = some m := find_who ok.mnd hmm rfl
      obtain ⟨dm, hmem⟩ := R.at_mem hr0 hmo
      have hil := lt_of_get hmi
      refine ⟨rfl, _, rfl, _, C.mem, dm, _, _, rfl, z1 _ _ hmem, T.c_mem, T.n_mem_who, rfl, _, rfl, rfl, _, rfl, ?_⟩
      rw [decI]
      have step : Kcs8.without (r.members.take (i + 1)) who = Kcs8.without (r.members.take i) who ++ (if m.who = who then [] else [m]) := by
        unfold Kcs8.without
        rw [take_more hmi, List.filter_append, List.filter_cons]
        congr 1
        by_cases c : m.who = who
        · rw [if_pos c, if_neg (by simp [c])]
          rfl
        · rw [if_neg c, if_pos (by simp [c])]
          rfl
      refine ite2 (fun c => ?_) (fun c => ?_)
      · have e : m.who ≠ who := fun z => by rw [z] at c; simp at c
        refine ⟨_, rfl, _, z2, line_lt ?_, same_upd z1 hD, ?_⟩
        · rw [memsL_length]
          refine Nat.lt_of_le_of_lt (List.length_filter_le _ _) ?_
          rw [List.length_take]
          have := ok.few
          omega
        · rw [step, if_neg e]
          unfold memsL
          rw [List.map_append]
          exact upd_same
      · have e : m.who = who := by
          have c' : ¬ (!decide ((m.who : Int) = (who : Int))) = true := c
          rw [Bool.not_eq_true', decide_eq_false_iff_not] at c'
          have := Classical.not_not.mp c'
          omega
        refine ⟨z1, ?_⟩
        rw [step, if_pos e, List.append_nil]
        exact z2
    · rintro H' ⟨z1, z2⟩
      rw [memsL_length, List.take_length] at z2
      refine ⟨_, rfl, _, C.room, dr, _, rfl, z1 _ _ hroom, T.c_room, T.n_room_members, (by show 4 < 1000; decide), ?_⟩
      obtain ⟨ad1, a1, a2, a3, a4, R1⟩ := Rep.members (R.lay z1 hD z2) (R.free hD) hr0 dr
      have hr1 := room_self (r' := { r with members := Kcs8.without r.members who }) hr0 rfl rfl
      have ok1 := R1.wf.room hr1
      obtain ⟨dr1, hroom1⟩ := R1.at_room hr1
      rw [a4] at hroom1
      have hinv1 := R1.at_inv hr1
      -- behind the pop
      have rest : ∀ H3, Rep C Fr H3 (withRoom S { r with members := Kcs8.without r.members who, invited := r.invited.filter (· != who) }) ad1 →
          tIfS (tAnd (tTest (tOp (rI0 fun i j => .bl (decide (j < i))) (tCB (fun xs H Q => ∃ p ys, xs = [.ref p] ∧ (SqL K H p ys ∨ SqT K H p ys) ∧ Q (.int ys.length) H) (tCons (tFld K (tVar 0) "members") tNil)) (tC (.int 0))))
            (tNot (tB (tC1 (spHasKeeper C) E0 (tCons (tVar 0) tNil)))))
            (tSeq (tAsg (tOp (rIxL K) (tFld K (tVar 0) "members") (tC (.int 0))) (gName 2)) (sFld K (tVar 2) (tC (.bl true)) "is_keeper")) tNext
            { nx := fun _ H' => Q .non H', rt := Q } [some (.ref (ad (.rm fo n .room))), some (.int (who : Int)), none, none] H3 := by
        intro H3 R3
        have hr3 := room_self (r' := { r with members := Kcs8.without r.members who, invited := r.invited.filter (· != who) }) hr0 rfl rfl
        have ok3 := R3.wf.room hr3
        obtain ⟨dr3, hroom3⟩ := R3.at_room hr3
        rw [a4] at hroom3
        have hmems3 := R3.at_mems hr3
        refine ⟨_, rfl, _, C.room, dr3, _, _, rfl, hroom3, T.c_room, T.n_room_members, rfl, _, _, rfl, .inl (SqL.of hmems3), _, _, rfl, rfl, _, rfl, ?_⟩
        rw [memsL_length]
        have fin : Kcs8.kept (Kcs8.without r.members who) = Kcs8.without r.members who → Q .non H3 := fun e => by
          have e2 : outR r who = { r with members := Kcs8.without r.members who, invited := r.invited.filter (· != who) } := by
            unfold outR
            rw [e]
          refine k H3 ad1 a1 ?_
          rw [e2]
          exact R3
        refine ite2 (fun c => ?_) (fun c => ?_)
        · have c' : 0 < (Kcs8.without r.members who).length := by
            have : (0 : Int) < ((Kcs8.without r.members who).length : Nat) := of_decide_eq_true c
            omega
          obtain ⟨m, t, hmt⟩ := List.exists_cons_of_length_pos c'
          refine ⟨_, rfl, Fr, _, ad1, fo, n, _, by rw [a4], R3, hr3, fun H4 s4 => ⟨_, rfl, ?_⟩⟩
          refine ite2 (fun c2 => ?_) (fun c2 => ?_)
          · have hk0 : ((Kcs8.without r.members who).any fun m => m.keeper) = false := by
              have c3 : (!((Kcs8.without r.members who).any fun m => m.keeper)) = true := c2
              simpa using c3
            have R4 := R3.same s4
            have g0 : (memsL ad1 fo n (Kcs8.without r.members who))[0]? = some (V.ref (ad1 (.rm fo n (.mem m.who)))) := by
              rw [hmt]
              rfl
            refine ⟨_, rfl, _, C.room, dr3, _, _, rfl, s4 _ _ hroom3, T.c_room, T.n_room_members, rfl, _, _, _, _, rfl, rfl, SqL.of (s4 _ _ hmems3), atI_nat (j := 0) g0, ?_⟩
            have hmo : memberOf { r with members := Kcs8.without r.members who, invited := r.invited.filter (· != who) } m.who = some m := find_who ok3.mnd (by show m ∈ Kcs8.without r.members who; rw [hmt]; exact List.mem_cons_self ..) rfl
            obtain ⟨dm, hmem⟩ := R4.at_mem hr3 hmo
            refine ⟨_, rfl, _, C.mem, dm, _, rfl, hmem, T.c_mem, T.n_mem_is_keeper, (by show 4 < 1000; decide), ?_⟩
            have R5 := R4.upMem hr3 hmo (fun m => { m with keeper := true }) (fun _ => rfl) (fun _ h => h) dm
            refine k _ ad1 a1 ?_
            have e5 : withRoom (withRoom S { r with members := Kcs8.without r.members who, invited := r.invited.filter (· != who) }) (upMem m.who (fun m => { m with keeper := true }) { r with members := Kcs8.without r.members who, invited := r.invited.filter (· != who) }) = withRoom S (outR r who) := by
              rw [with_with S _ (upMem _ _ _) (by rfl) (by rfl)]
              congr 1
              unfold upMem outR
              rw [kept_upMem ok hmt ok3.mnd hk0]
            rw [← e5]
            exact R5
          · have hk1 : ((Kcs8.without r.members who).any fun m => m.keeper) = true := by
              have c3 : ¬ (!((Kcs8.without r.members who).any fun m => m.keeper)) = true := c2
              simpa using c3
            have e : Kcs8.kept (Kcs8.without r.members who) = Kcs8.without r.members who := by
              unfold Kcs8.kept
              rw [hk1, if_pos rfl]
            have e2 : outR r who = { r with members := Kcs8.without r.members who, invited := r.invited.filter (· != who) } := by
              unfold outR
              rw [e]
            refine k H4 ad1 a1 ?_
            rw [e2]
            exact R3.same s4
        · have c' : Kcs8.without r.members who = [] := by
            have : ¬ (0 : Int) < ((Kcs8.without r.members who).length : Nat) := fun z => c (decide_eq_true z)
            exact List.length_eq_zero_iff.mp (by omega)
          refine iteF ?_
          refine fin ?_
          rw [c']
          rfl
      refine ⟨_, rfl, _, C.room, dr1, _, _, rfl, hroom1, T.c_room, T.n_room_invited, rfl, _, rfl, .inl ⟨_, .inl hinv1⟩, _, rfl, _, Sum.inl (who : Int), hinv1, rfl, fun v hv => ?_, fun hv => ?_⟩
      · rw [dropK_inv]
        have R3 := (R1.invited hr1 (r.invited.filter (· != who)) (ok1.uninvite who)).with2 rfl rfl
        exact rest _ R3
      · have hv' : who ∉ r.invited := fun z => by
          rw [valV_inv, if_pos z] at hv
          cases hv
        have e : r.invited.filter (· != who) = r.invited := List.filter_eq_self.mpr fun b hb => by
          have : b ≠ who := fun z => hv' (z ▸ hb)
          simpa using this
        refine rest _ ?_
        rw [e]
        exact R1
theorem cal_join (T : Txt K mg C) (D : Def K mg "join" s_join) (M : Mak P w K mg base CX0 1 "Member" C.mem (spMemberI C)) : Cal P w K mg base CX0 3 "join" (spJoin C) := by
  obtain ⟨f, fd, F, hm⟩ := D.ex
  refine ⟨f, fd, _, F.ok sc_join (fun vs H Q E h => ?_) (fun cdv A outer s H vs Q E hr h => ?_), hm, F.kp, F.binds fun _ _ _ _ _ _ us hl => match us, hl with | [_, _], _ => rfl⟩
  · obtain ⟨_, _, _, _, _, _, _, rfl, _⟩ := h
    rfl
  · obtain ⟨Fr, S, ad, fo, n, r, who, rfl, R, hr0, hin, k⟩ := h
    refine ⟨_, pss_cons (ps_expr (pe_dpop1 (pe_fld (pv 0) rfl) (pv 1) ⟨rfl, rfl, rfl, rfl⟩))
      (pss_cons (ps_set (i := 2) sc_join.nd rfl (.inl rfl) (pe_callB call_len_seq (by rfl) T.b_len PySem.boot_len (pa_cons (pe_fld (pv 0) rfl) pa_nil)))
      (pss_cons (ps_if (pt_cmpR op_eq (pe_fld (pv 0) rfl) pe_int (nomark _)) (pss_one (ps_set (i := 2) sc_join.nd rfl (.inl rfl) pe_int)) pss_nil)
      (pss_one (ps_expr (pe_bm PySem.F.plainAttrs_list PySem.F.slot_list_append PySem.F.type_list_append mt_append (pe_fld (pv 0) rfl) (pa_cons
        (pe_k M hr pass0 (pa_cons (pv 1) (pa_cons (pe_cmpR op_eq (pe_callB call_len_seq (by rfl) T.b_len PySem.boot_len (pa_cons (pe_fld (pv 0) rfl) pa_nil)) pe_int (nomark _)) (pa_cons (pv 2) pa_nil)))) pa_nil)))))), ?_⟩
    obtain ⟨dr, hroom⟩ := R.at_room hr0
    have hinv := R.at_inv hr0
    have ok := R.wf.room hr0
    have hn : memberOf r who = none := memberOf_none.mpr fun m hm' z => ok.dis m hm' (by rw [z]; exact hin)
    have hw16 := ok.ilt who hin
    have hcount := length_filter_ne ok.ind hin
    refine ⟨_, rfl, _, C.room, dr, _, _, rfl, hroom, T.c_room, T.n_room_invited, rfl, _, rfl, .inl ⟨_, .inl hinv⟩, _, rfl, _, Sum.inl (who : Int), _, hinv, rfl, (by rw [valV_inv, if_pos hin]), ?_⟩
    rw [dropK_inv]
    have R1 := R.invited hr0 (r.invited.filter (· != who)) (ok.uninvite who)
    generalize hH1 : upd H (ad (.rm fo n .inv)) (.dK (invK (r.invited.filter (· != who)))) = H1 at R1 ⊢
    have hr1 := room_self (r' := { r with invited := r.invited.filter (· != who) }) hr0 rfl rfl
    obtain ⟨dr1, hroom1⟩ := R1.at_room hr1
    have hmems1 := R1.at_mems hr1
    have hmsgs1 := R1.at_msgs hr1
    have ok1 := R1.wf.room hr1
    have rest : ∀ st : Nat, st = (if r.past then 0 else r.messages.length) →
        tDrop (tBM K "list" rAppend (tFld K (tVar 0) "members") (tCons (tK1 C.mem (spMemberI C) E0 (tCons (tVar 1) (tCons (tOp rEq (tCB (fun xs H Q => ∃ p ys, xs = [.ref p] ∧ (SqL K H p ys ∨ SqT K H p ys) ∧ Q (.int ys.length) H) (tCons (tFld K (tVar 0) "members") tNil)) (tC (.int 0))) (tCons (tVar 2) tNil)))) tNil))
          { nx := fun _ H' => Q .non H', rt := Q } [some (.ref (ad (.rm fo n .room))), some (.int (who : Int)), some (.int (st : Int))] H1 := by
      intro st hst
      have hst128 : st ≤ 128 ∧ st ≤ 128 := by
        have := ok.msgs
        rw [hst]
        split
        · exact ⟨Nat.zero_le _, Nat.zero_le _⟩
        · exact ⟨this, this⟩
      refine ⟨_, rfl, _, C.room, dr1, _, _, rfl, hroom1, T.c_room, T.n_room_members, rfl, .inl ⟨rfl, _, SqL.of hmems1⟩, ?_⟩
      refine ⟨_, rfl, _, rfl, _, C.room, dr1, _, _, rfl, hroom1, T.c_room, T.n_room_members, rfl, _, _, rfl, .inl (SqL.of hmems1), rfl, _, rfl, fun x dx hx hdx hne => ?_⟩
      refine ⟨x, dx, who, _, st, rfl, upd_same, fun H2 b2 e2 => ⟨rfl, ?_⟩⟩
      have s2 : Same H1 H2 := Same.made hx hdx b2
      have R2 : Rep C (upd Fr x _) H2 _ ad := R1.lay s2 hx e2
      rw [memsL_length, decI] at e2 R2
      have hb : decide (((r.members.length : Nat) : Int) = 0) = r.members.isEmpty := by
        cases r.members with
        | nil => rfl
        | cons a l =>
          simp only [List.length_cons, List.isEmpty_cons, decide_eq_false_iff_not]
          omega
      rw [hb] at e2 R2
      refine ⟨_, _, _, rfl, rfl, s2 _ _ hmems1, line_lt (by rw [memsL_length]; have := ok.few; show r.members.length < _; omega), ?_⟩
      have hFr : ∀ b o, Fr b = some o → upd Fr x (.ins C.mem dx (memF ⟨who, r.members.isEmpty, st, st⟩)) b = some o := fun b o e => by
        rw [upd_ne (ne_of_none e (R1.free hx))]
        exact e
      have hn1 : memberOf { r with invited := r.invited.filter (· != who) } who = none := hn
      obtain ⟨ad3, a3, R3⟩ := R2.join hFr hr1 hn1 upd_same (R1.free hx) (ok1.join hw16 hn1 (by simp) (by show r.members.length + (r.invited.filter (· != who)).length < 12; have := ok.few; omega) _ st st hst128)
      refine k _ ad3 a3 ?_
      replace R3 := R3.with2 rfl rfl
      have ej : joinR r who = { r with invited := r.invited.filter (· != who), members := r.members ++ [⟨who, r.members.isEmpty, st, st⟩] } := by
        unfold joinR
        rw [hst]
      rw [ej]
      exact R3
    refine ⟨_, rfl, _, C.room, dr1, _, _, rfl, hroom1, T.c_room, T.n_room_messages, rfl, _, _, rfl, .inl (SqL.of hmsgs1), ?_⟩
    refine ⟨_, rfl, _, C.room, dr1, _, _, rfl, hroom1, T.c_room, T.n_room_past, rfl, rfl, _, rfl, ?_⟩
    rw [msgsL_length]
    cases hp : r.past with
    | true =>
      refine ite2 (fun _ => ?_) (fun c => absurd ?_ c)
      · refine rest 0 ?_
        rw [hp]
        rfl
      · exact decide_eq_true rfl
    | false =>
      refine ite2 (fun c => absurd c ?_) (fun _ => ?_)
      · show ¬ decide (V.int 0 = V.int 1) = true
        rw [decI]
        simp
      · refine rest r.messages.length ?_
        rw [hp]
        rfl
theorem cal_remove (T : Txt K mg C) (D : Def K mg "remove" s_remove) : Cal P w K mg base CX0 1 "remove" (spRemove C) := by
  obtain ⟨f, fd, F, hm⟩ := D.ex
  refine ⟨f, fd, _, F.ok sc_remove (fun vs H Q E h => ?_) (fun cdv A outer s H vs Q E hr h => ?_), hm, F.kp, F.binds fun _ _ _ _ _ _ us hl => match us, hl with | [_], _ => rfl⟩
  · obtain ⟨_, _, _, _, _, _, _, _, rfl, _⟩ := h
    rfl
  · obtain ⟨Fr, S, ad, fo, n, r, j, x, rfl, R, hr0, hx, k⟩ := h
    refine ⟨_, pss_cons (ps_fld (pv 0) pe_bl rfl) (pss_cons (ps_fld (pv 0) (pe_lst pa_nil) rfl) (pss_one (ps_fld (pv 0) pe_dnewT rfl))), ?_⟩
    obtain ⟨dm, hmsg⟩ := R.at_msg hr0 hx
    have okx := (R.wf.room hr0).msg x (List.mem_of_getElem? hx)
    refine ⟨_, rfl, _, C.msg, dm, _, rfl, hmsg, T.c_msg, T.n_msg_is_gone, (by show 6 < 1000; decide), ?_⟩
    rw [putF_gone]
    have R1 := R.setMsg hr0 hx (x' := { x with gone := true }) ⟨okx.text, okx.nd, okx.lt⟩ rfl rfl dm
    have hr1 := room_self (r' := withMessage r j { x with gone := true }) hr0 rfl rfl
    have hx1 : (withMessage r j { x with gone := true }).messages[j]? = some { x with gone := true } := set_at hx
    refine ⟨by show 0 ≤ sizeLine; exact Nat.zero_le _, fun p hp => ?_⟩
    have R1' := R1.new (o := .lst []) hp
    obtain ⟨dm1, hmsg1⟩ := R1'.at_msg hr1 hx1
    refine ⟨_, rfl, _, C.msg, dm1, _, rfl, hmsg1, T.c_msg, T.n_msg_text, (by show 6 < 1000; decide), ?_⟩
    obtain ⟨ad2, a2, b2, c2, R2⟩ := R1'.moveMsg (F := Fr) (fun b o e => by rw [upd_ne (ne_of_none e (R1.free hp))]; exact e) hr1 hx1 (x' := { x with gone := true, text := [] }) ⟨Nat.zero_le _, okx.nd, okx.lt⟩ (t1 := .txt j) (dx := dm1) (po := .lst []) (.inl rfl) upd_same (R1.free hp)
      (by show (withMessage _ _ _).messages[j]?.map _ = _; rw [set_at hx1]; rfl) rfl (fun z => absurd rfl z) (fun _ => rfl)
    have e2 : putF "text" (V.ref p) (msgF ad fo n j { x with gone := true }) = msgF ad2 fo n j { x with gone := true, text := [] } := by
      rw [putF_text]
      unfold msgF
      rw [c2, b2 _ (by intro z; cases z)]
      rfl
    rw [e2]
    rw [msg_msg] at R2
    replace R2 := R2.with2 rfl rfl
    have hr2 := room_self (r' := withMessage r j { x with gone := true, text := [] }) hr0 rfl rfl
    have hx2 : (withMessage r j { x with gone := true, text := [] }).messages[j]? = some { x with gone := true, text := [] } := set_at hx
    have e3 : ad (.rm fo n (.msg j)) = ad2 (.rm fo n (.msg j)) := (b2 _ (by intro z; cases z)).symm
    generalize hH2 : upd (upd (upd H (ad (.rm fo n (.msg j))) (.ins C.msg dm (msgF ad fo n j { x with gone := true }))) p (.lst [])) (ad (.rm fo n (.msg j))) (.ins C.msg dm1 (msgF ad2 fo n j { x with gone := true, text := [] })) = H2 at R2 ⊢
    refine fun d hd => ?_
    have R2' := R2.new (o := .dT []) hd
    obtain ⟨dm2, hmsg2⟩ := R2'.at_msg hr2 hx2
    rw [← e3] at hmsg2
    refine ⟨_, rfl, _, C.msg, dm2, _, rfl, hmsg2, T.c_msg, T.n_msg_marks, (by show 6 < 1000; decide), ?_⟩
    obtain ⟨ad3, a3, b3, c3, R3⟩ := R2'.moveMsg (F := Fr) (fun b o e => by rw [upd_ne (ne_of_none e (R2.free hd))]; exact e) hr2 hx2 (x' := goneM x) ⟨Nat.zero_le _, List.nodup_nil, fun m hm' => by cases hm'⟩ (t1 := .mrk j) (dx := dm2) (po := .dT []) (.inr rfl) upd_same (R2.free hd)
      (by show (withMessage _ _ _).messages[j]?.map _ = _; rw [set_at hx2]; rfl) rfl (fun _ => rfl) (fun z => absurd rfl z)
    rw [msg_msg] at R3
    replace R3 := R3.with2 rfl rfl
    have e4 : putF "marks" (V.ref d) (msgF ad2 fo n j { x with gone := true, text := [] }) = msgF ad3 fo n j (goneM x) := by
      rw [putF_marks]
      unfold msgF
      rw [c3, b3 _ (by intro z; cases z)]
      rfl
    rw [e4, e3]
    exact k _ ad3 (a3.trans a2) R3
end
end Tr
/-! rooms.py: marks, what is counted, what is found -/
namespace Tr
open PySem PySem.Spec PyProof.Rows L2
open Kcs8 (Abs Member Message roomOf memberOf withRoom withMessage sees)
/-! ### mathematics -/
def kinds (l : List (Nat × Nat)) : List Nat := (List.range 16).map fun k => (l.filter fun m => m.2 == k).length
theorem kinds_get (l : List (Nat × Nat)) {j : Nat} (h : j < 16) : (kinds l)[j]? = some (l.filter fun m => m.2 == j).length := by
  unfold kinds
  rw [List.getElem?_map, List.getElem?_range h]
  rfl
theorem kinds_snoc (l : List (Nat × Nat)) (a j : Nat) : kinds (l ++ [(a, j)]) = (kinds l).set j ((l.filter fun m => m.2 == j).length + 1) := by
  apply List.ext_getElem?
  intro i
  rw [List.getElem?_set]
  by_cases hi : i < 16
  · rw [kinds_get _ hi, List.filter_append, List.length_append, List.filter_cons]
    by_cases c : j = i
    · subst c
      have hl : j < (kinds l).length := by
        unfold kinds
        rw [List.length_map, List.length_range]
        exact hi
      simp [hl]
    · rw [if_neg c, kinds_get _ hi, if_neg (by simp only [beq_iff_eq]; exact c)]
      rfl
  · have h1 : (kinds (l ++ [(a, j)]))[i]? = none := List.getElem?_eq_none (by unfold kinds; rw [List.length_map, List.length_range]; omega)
    have h2 : (kinds l)[i]? = none := List.getElem?_eq_none (by unfold kinds; rw [List.length_map, List.length_range]; omega)
    rw [h1]
    by_cases c : j = i
    · rw [if_pos c, if_neg (by unfold kinds; rw [List.length_map, List.length_range, c]; exact hi)]
    · rw [if_neg c, h2]
theorem range_from {α : Type} (lo n : Nat) (g : Nat → Option α) (h : ∀ i, i < lo → g i = none) : (List.range n).filterMap g = (List.range (n - lo)).filterMap fun j => g (lo + j) := by
  by_cases c : lo ≤ n
  · obtain ⟨d, rfl⟩ := Nat.exists_eq_add_of_le c
    rw [List.range_add, List.filterMap_append, Nat.add_sub_cancel_left]
    have e : (List.range lo).filterMap g = [] := List.filterMap_eq_nil_iff.mpr fun i hi => h i (List.mem_range.mp hi)
    rw [e, List.nil_append, List.filterMap_map]
    rfl
  · have e : n - lo = 0 := by omega
    rw [e]
    exact List.filterMap_eq_nil_iff.mpr fun i hi => h i (by have := List.mem_range.mp hi; omega)
theorem filter_range_from (lo n : Nat) (p : Nat → Bool) (h : ∀ i, i < lo → p i = false) : ((List.range n).filter p).length = ((List.range (n - lo)).filter fun j => p (lo + j)).length := by
  have e := range_from lo n (fun i => if p i = true then some i else none) (fun i hi => by rw [h i hi]; rfl)
  have e1 : ∀ (q : Nat → Bool) (l : List Nat) (f : Nat → Nat), (l.filterMap fun i => if q i = true then some (f i) else none).length = (l.filter q).length := fun q l f => by
    induction l with
    | nil => rfl
    | cons a l ih =>
      rw [List.filterMap_cons, List.filter_cons]
      by_cases c : q a = true
      · rw [if_pos c, if_pos c]
        simp [ih]
      · rw [if_neg c, if_neg c]
        exact ih
  have e2 := congrArg List.length e
  rw [e1 p _ (fun i => i)] at e2
  rw [e2]
  exact e1 (fun j => p (lo + j)) _ (fun j => lo + j)
/-- what of one room p finds -/
def foundAt (s : Abs) (p : Nat) (wd : List Nat) (fk : Nat × Nat) : List (List Nat) := match roomOf s fk.1 fk.2 with
  | none => []
  | some r => match memberOf r p with
    | none => []
    | some m => (List.range r.messages.length).filterMap fun n => (sees r m n).bind fun x => if (Kcs8.words x.text).contains wd then some [fk.1, fk.2, n] else none
def foundL (s : Abs) (p : Nat) (wd : List Nat) : List (List Nat) := (keysOf s).flatMap (foundAt s p wd)
theorem found_eq {s : Abs} (W : WF s) (p : Nat) (w : List Nat) : Kcs8.found s p w = foundL s p (w.map Kcs8.small) := by
  unfold Kcs8.found foundL
  rw [inOrder_eq W]
  induction keysOf s with
  | nil => rfl
  | cons fk l ih =>
    rw [List.filterMap_cons, List.flatMap_cons]
    unfold foundAt
    cases e : roomOf s fk.1 fk.2 with
    | none => exact ih
    | some r =>
      obtain ⟨_, h1, h2⟩ := roomOf_some e
      show (match memberOf r p with | none => [] | some m => _) ++ _ = _
      rw [← h1, ← h2]
      exact congrArg (_ ++ ·) ih
/-! ### promises -/
def RoomTups (H : Hp) (ad : Ad) : List Addr → List (Nat × Nat) → Prop := PySem.Paired fun a fk => H a = some (.tup [.int (fk.1 : Int), .int (fk.2 : Int), .ref (ad (.rm fk.1 fk.2 .room))])
theorem RoomTups.same {H H' : Hp} {ad : Ad} : ∀ {ts : List Addr} {ks : List (Nat × Nat)}, RoomTups H ad ts ks → (∀ b o, H b = some (.tup o) → H' b = some (.tup o)) → RoomTups H' ad ts ks
  | _, _, .nil, _ => .nil
  | _, _, .cons h r, k => .cons (k _ _ h) (RoomTups.same r k)
theorem RoomTups.snoc {H : Hp} {ad : Ad} : ∀ {ts : List Addr} {ks : List (Nat × Nat)} {a : Addr} {fk : Nat × Nat}, RoomTups H ad ts ks → H a = some (.tup [.int (fk.1 : Int), .int (fk.2 : Int), .ref (ad (.rm fk.1 fk.2 .room))]) → RoomTups H ad (ts ++ [a]) (ks ++ [fk])
  | _, _, _, _, .nil, h => .cons h .nil
  | _, _, _, _, .cons h r, h2 => .cons h (RoomTups.snoc r h2)
theorem RoomTups.length {H : Hp} {ad : Ad} : ∀ {ts : List Addr} {ks : List (Nat × Nat)}, RoomTups H ad ts ks → ts.length = ks.length
  | _, _, .nil => rfl
  | _, _, .cons _ r => congrArg (· + 1) (RoomTups.length r)
theorem RoomTups.get {H : Hp} {ad : Ad} : ∀ {ts : List Addr} {ks : List (Nat × Nat)} {i : Nat} {x : V}, RoomTups H ad ts ks → (ts.map V.ref)[i]? = some x → ∃ a fk, x = .ref a ∧ ks[i]? = some fk ∧ H a = some (.tup [.int (fk.1 : Int), .int (fk.2 : Int), .ref (ad (.rm fk.1 fk.2 .room))])
  | _, _, _, _, .nil, h => by simp at h
  | _, _, 0, _, .cons h r, e => ⟨_, _, (Option.some.inj e).symm, rfl, h⟩
  | _, _, i + 1, _, .cons h r, e => by
    obtain ⟨a, fk, h1, h2, h3⟩ := RoomTups.get (i := i) r e
    exact ⟨a, fk, h1, h2, h3⟩
def spAllRooms (C : Cs) : Sp := fun vs H Q _ => ∃ (F : Hp) (s : Abs) (ad : Ad), vs = [.ref (ad .house)] ∧ Rep C F H s ad ∧ ∀ H' p ts, Same H H' → H p = none → H' p = some (.lst (ts.map V.ref)) → RoomTups H' ad ts (keysOf s) → Q (.ref p) H'
/-- the mark, turned -/
def turnM (x : Message) (w j : Nat) : Message := if x.marks.contains (w, j) then { x with marks := x.marks.filter (· != (w, j)) } else { x with marks := x.marks ++ [(w, j)] }
def spTurn (C : Cs) : Sp := fun vs H Q _ => ∃ (F : Hp) (s : Abs) (ad : Ad) (f k : Nat) (r : KRoom) (n w j : Nat) (x : Message), vs = [.ref (ad (.rm f k (.msg n))), .int (w : Int), .int (j : Int)] ∧ Rep C F H s ad ∧ roomOf s f k = some r ∧ r.messages[n]? = some x ∧ w < 16 ∧ j < 16 ∧
  ∀ H', Rep C F H' (withRoom s (withMessage r n (turnM x w j))) ad → Q (.int (if x.marks.contains (w, j) then 0 else 1)) H'
def spMarks (C : Cs) : Sp := fun vs H Q _ => ∃ (F : Hp) (s : Abs) (ad : Ad) (f k : Nat) (r : KRoom) (n : Nat) (x : Message), vs = [.ref (ad (.rm f k (.msg n)))] ∧ Rep C F H s ad ∧ roomOf s f k = some r ∧ r.messages[n]? = some x ∧
  ∀ H' p, Same H H' → H p = none → H' p = some (.lst (nats (kinds x.marks))) → Q (.ref p) H'
def spUnread (C : Cs) : Sp := fun vs H Q _ => ∃ (F : Hp) (s : Abs) (ad : Ad) (f k : Nat) (r : KRoom) (w : Nat) (m : Member), vs = [.ref (ad (.rm f k .room)), .ref (ad (.rm f k (.mem w)))] ∧ Rep C F H s ad ∧ roomOf s f k = some r ∧ memberOf r w = some m ∧ Q (.int (Kcs8.unread r m : Nat)) H
def spPlaces (C : Cs) : Sp := fun vs H Q _ => ∃ (F : Hp) (s : Abs) (ad : Ad) (p : Nat) (wa : Addr) (wd : List Nat), vs = [.ref (ad .house), .int (p : Int), .ref wa] ∧ Rep C F H s ad ∧ H wa = some (.tup (nats wd)) ∧
  ∀ H' p' ts, Same H H' → H p' = none → H' p' = some (.lst (ts.map V.ref)) → TupsAt H' ts (foundL s p wd) → Q (.ref p') H'
section
variable {P : Program} {w : World} {K : PySem.W.Frag} {mg : Str → Option Value} {base : Heap} {C : Cs}
theorem cal_all_rooms (T : Txt K mg C) (D : Def K mg "all_rooms" s_all_rooms) : Cal P w K mg base CX0 1 "all_rooms" (spAllRooms C) := by
  obtain ⟨f, fd, F, hm⟩ := D.ex
  refine ⟨f, fd, _, F.ok sc_all_rooms (fun vs H Q E h => ?_) (fun cdv A outer s H vs Q E hr h => ?_), hm, F.kp, F.binds fun _ _ _ _ _ _ us hl => match us, hl with | [_], _ => rfl⟩
  · obtain ⟨_, _, _, rfl, _⟩ := h
    rfl
  · obtain ⟨Fr, S, ad, rfl, R, k⟩ := h
    refine ⟨_, pss_cons (ps_set (i := 1) sc_all_rooms.nd rfl (.inl rfl) (pe_lst pa_nil))
      (pss_cons (ps_for PassesOwn.never rfl (pi_range1 (by rfl) T.b_range (pa_cons (pe_n T.k_PEOPLE) pa_nil)) (pg_name (i := 2) sc_all_rooms.nd rfl (.inl rfl))
        (pss_one (ps_for PassesOwn.never rfl (pi_enum (by rfl) T.b_enumerate (pa_cons (pe_ix ix_list (pe_fld (pv 0) rfl) (pv 2) (fun _ _ => rfl)) pa_nil)) (pg_tup rfl (pgs_cons (pg_name (i := 3) sc_all_rooms.nd rfl (.inl rfl)) (pgs_cons (pg_name (i := 4) sc_all_rooms.nd rfl (.inl rfl)) pgs_nil)))
          (pss_one (ps_expr (pe_bm PySem.F.plainAttrs_list PySem.F.slot_list_append PySem.F.type_list_append mt_append (pv 1) (pa_cons (pe_tup (pa_cons (pv 2) (pa_cons (pv 3) (pa_cons (pv 4) pa_nil)))) pa_nil)))))))
      (pss_one (ps_ret (pv 1)))), ?_⟩
    obtain ⟨dh, hh⟩ := R.at_house
    have W := R.wf
    refine ⟨by show 0 ≤ sizeLine; exact Nat.zero_le _, fun fl hfl => ?_⟩
    refine ⟨16, rfl, by decide, by decide, for_range (lo := 0) (n := 16) (fun i σ H' => ∃ (ts : List Addr) (v2 v3 v4 : Option V), σ = [some (.ref (ad .house)), some (.ref fl), v2, v3, v4] ∧ Same H H' ∧ H' fl = some (.lst (ts.map V.ref)) ∧ RoomTups H' ad ts ((List.range i).flatMap (keysF S)))
      ⟨[], none, none, none, rfl, same_new hfl, upd_same, .nil⟩ ?_ ?_⟩
    · rintro i σ H' hi ⟨ts, v2, v3, v4, rfl, z1, z2, z3⟩
      have hz : (0 : Int) + (i : Int) = (i : Int) := by omega
      rw [hz]
      refine ⟨_, rfl, _, C.house, dh, _, _, rfl, z1 _ _ hh, T.c_house, T.n_house_founded, rfl, _, rfl, _, _, _, _, rfl, rfl, SqL.of (z1 _ _ R.at_fnd), atI_nat (fndL_get ad hi), ad (.mine i), _, rfl, SqL.of (z1 _ _ (R.at_mine hi)), ?_⟩
      have hlen : ((List.range i).flatMap (keysF S)).length ≤ 64 := by
        have h := keysOf_length S W
        have e : keysOf S = (List.range i).flatMap (keysF S) ++ ((List.range (16 - i)).map fun x => i + x).flatMap (keysF S) := by
          unfold keysOf
          have : (16 : Nat) = i + (16 - i) := by omega
          conv => lhs; rw [this]
          rw [List.range_add, List.flatMap_append]
        rw [e, List.length_append] at h
        omega
      refine for_it (n := (mineL ad i (cnt S i)).length) (walk_enum (K := K) (a := ad (.mine i)) (xs := mineL ad i (cnt S i))) (fun j σ H' => ∃ (ts : List Addr) (v3 v4 : Option V), σ = [some (.ref (ad .house)), some (.ref fl), some (.int (i : Int)), v3, v4] ∧ Same H H' ∧ H' fl = some (.lst (ts.map V.ref)) ∧ RoomTups H' ad ts ((List.range i).flatMap (keysF S) ++ (List.range j).map fun k => (i, k)))
        ⟨ts, v3, v4, rfl, z1, z2, by rw [List.range_zero, List.map_nil, List.append_nil]; exact z3⟩ (fun j σ H' _ z => ?_) ?_ ?_
      · obtain ⟨_, _, _, _, z, _⟩ := z
        exact SqL.of (z _ _ (R.at_mine hi))
      · rintro j x σ H1 H2 hj ⟨ts, v3, v4, rfl, z1, z2, z3⟩ ⟨T1, x1, y1, rfl, hT, rfl, e1, e2⟩
        rw [mineL_length] at hj
        cases e1
        have e2' : (mineL ad i (cnt S i))[j]? = some y1 := e2
        rw [mineL_get ad i hj] at e2'
        cases e2'
        have nfT : fl ≠ T1 := fun z => by rw [← z, z2] at hT; cases hT
        refine ⟨T1, _, rfl, SqT.of upd_same, rfl, _, _, rfl, _, _, rfl, rfl, ?_⟩
        have hTH : H T1 = none := z1.free hT
        have z1' : Same H (upd H1 T1 (.tup [.int (j : Nat), .ref (ad (.rm i j .room))])) := same_upd z1 hTH
        refine ⟨_, rfl, .inl ⟨rfl, _, SqL.of (by rw [upd_ne nfT]; exact z2)⟩, _, rfl, _, rfl, _, rfl, by show 3 ≤ sizeLine; exact line_le (by decide), fun p hp => ?_⟩
        have nfp : fl ≠ p := fun z => by rw [← z, upd_ne nfT, z2] at hp; cases hp
        have hl := z3.length
        rw [List.length_append, List.length_map, List.length_range] at hl
        have hc := W.le4 i
        refine ⟨fl, _, _, rfl, rfl, (by rw [upd_ne nfp, upd_ne nfT]; exact z2), line_lt (by rw [List.length_map]; omega), ?_⟩
        refine ⟨ts ++ [p], _, _, rfl, same_upd (same_upd z1' (z1'.free hp)) hfl, by rw [List.map_append]; exact upd_same, ?_⟩
        rw [List.range_succ, List.map_append, ← List.append_assoc]
        refine (z3.same fun b o e => ?_).snoc (fk := (i, j)) ?_
        · have c1 : b ≠ T1 := ne_of_none e hT
          have c2 : b ≠ fl := fun z => by rw [z, z2] at e; cases e
          have e' : upd H1 T1 (.tup [.int (j : Nat), .ref (ad (.rm i j .room))]) b = some (.tup o) := by rw [upd_ne c1]; exact e
          rw [upd_ne c2, upd_ne (ne_of_none e' hp)]
          exact e'
        · rw [upd_ne nfp.symm]
          exact upd_same
      · rintro σ H2 ⟨ts, v3, v4, rfl, z1, z2, z3⟩
        refine ⟨ts, _, _, _, rfl, z1, z2, ?_⟩
        rw [mineL_length] at z3
        rw [List.range_succ, List.flatMap_append]
        show RoomTups H2 ad ts (_ ++ (keysF S i ++ []))
        rw [List.append_nil]
        exact z3
    · rintro σ H' ⟨ts, v2, v3, v4, rfl, z1, z2, z3⟩
      exact ⟨_, rfl, k H' fl ts z1 hfl z2 z3⟩
theorem cal_turn (T : Txt K mg C) (D : Def K mg "turn_mark" s_turn_mark) : Cal P w K mg base CX0 1 "turn_mark" (spTurn C) := by
  obtain ⟨f, fd, F, hm⟩ := D.ex
  refine ⟨f, fd, _, F.ok sc_turn_mark (fun vs H Q E h => ?_) (fun cdv A outer s H vs Q E hr h => ?_), hm, F.kp, F.binds fun _ _ _ _ _ _ us hl => match us, hl with | [_, _, _], _ => rfl⟩
  · obtain ⟨_, _, _, _, _, _, _, _, _, _, rfl, _⟩ := h
    rfl
  · obtain ⟨Fr, S, ad, fo, n, r, j, who, kd, x, rfl, R, hr0, hx, hw16, hk16, k⟩ := h
    have hu := hu_of hr
    refine ⟨_, pss_cons (ps_set (i := 3) sc_turn_mark.nd rfl (.inl rfl) (pe_tup (pa_cons (pv 2) (pa_cons (pv 1) pa_nil))))
      (pss_cons (ps_if (pt_cmp (pc_din hu (pv 3) (pe_fld (pv 0) rfl)))
        (pss_cons (ps_expr (pe_bm PySem.F.plainAttrs_dict PySem.F.slot_dict_pop PySem.F.type_dict_pop (mt_popT1 hu) (pe_fld (pv 0) rfl) (pa_cons (pv 3) pa_nil))) (pss_one (ps_ret pe_int))) pss_nil)
      (pss_cons (ps_dput hu (pe_fld (pv 0) rfl) (pv 3) pe_bl rfl)
      (pss_one (ps_ret pe_int)))), ?_⟩
    obtain ⟨dm, hmsg⟩ := R.at_msg hr0 hx
    have hmrk := R.at_mrk hr0 hx
    have okx := (R.wf.room hr0).msg x (List.mem_of_getElem? hx)
    refine ⟨_, rfl, _, rfl, by show 2 ≤ sizeLine; exact line_le (by decide), fun t ht => ?_⟩
    have sH : Same H (upd H t (.tup [.int (kd : Int), .int (who : Int)])) := same_new ht
    have htup : upd H t (.tup [.int (kd : Int), .int (who : Int)]) t = some (.tup ((mkKey who kd).map kV)) := upd_same
    have R1 : Rep C Fr (upd H t (.tup [.int (kd : Int), .int (who : Int)])) S ad := R.same sH
    refine ⟨_, rfl, _, rfl, _, C.msg, dm, _, _, rfl, sH _ _ hmsg, T.c_msg, T.n_msg_marks, rfl, _, _, rfl, DGet.t (sH _ _ hmrk) htup, _, rfl, ?_⟩
    have e := valV_mrk who kd x.marks
    rw [e]
    by_cases c : (who, kd) ∈ x.marks
    · rw [if_pos c] at e ⊢
      refine iteT ?_
      refine ⟨_, rfl, _, C.msg, dm, _, _, rfl, sH _ _ hmsg, T.c_msg, T.n_msg_marks, rfl, .inr (.inr (.inl ⟨rfl, .inr ⟨_, sH _ _ hmrk⟩⟩)), _, rfl, _, _, mkKey who kd, t, _, rfl, rfl, sH _ _ hmrk, htup, e, ?_⟩
      rw [dropK_mrk]
      have ok' : MsgOk { x with marks := x.marks.filter (· != (who, kd)) } := ⟨okx.text, okx.nd.sublist List.filter_sublist, fun m hm => okx.lt m (List.mem_filter.mp hm).1⟩
      have R2 := R1.setMarks hr0 hx ok'
      have hc : x.marks.contains (who, kd) = true := by simpa using c
      have := k _ (by
        unfold turnM
        rw [hc]
        exact R2)
      rw [hc] at this
      exact this
    · rw [if_neg c] at e ⊢
      refine iteF ?_
      refine ⟨_, rfl, _, C.msg, dm, _, _, rfl, sH _ _ hmsg, T.c_msg, T.n_msg_marks, rfl, _, rfl, _, _, rfl, DPut.t (sH _ _ hmrk) htup (small1000 (by show (mrkK x.marks).length ≤ 1000; unfold mrkK; rw [List.length_map]; have := marks_few okx; omega)), ?_⟩
      rw [putK_mrk c]
      have ok' : MsgOk { x with marks := x.marks ++ [(who, kd)] } := ⟨okx.text, by
        rw [List.nodup_append]
        refine ⟨okx.nd, by simp, fun a ha b hb z => ?_⟩
        rw [List.mem_singleton] at hb
        rw [z, hb] at ha
        exact c ha, fun m hm => by
        have hm' : m ∈ x.marks ++ [(who, kd)] := hm
        rw [List.mem_append, List.mem_singleton] at hm'
        rcases hm' with z | z
        · exact okx.lt m z
        · rw [z]
          exact ⟨hw16, hk16⟩⟩
      have R2 := R1.setMarks hr0 hx ok'
      have hc : x.marks.contains (who, kd) = false := by simpa using c
      have := k _ (by
        unfold turnM
        rw [hc]
        exact R2)
      rw [hc] at this
      exact this
theorem cal_marks (T : Txt K mg C) (D : Def K mg "many_marks" s_many_marks) : Cal P w K mg base CX0 1 "many_marks" (spMarks C) := by
  obtain ⟨f, fd, F, hm⟩ := D.ex
  refine ⟨f, fd, _, F.ok sc_many_marks (fun vs H Q E h => ?_) (fun cdv A outer s H vs Q E hr h => ?_), hm, F.kp, F.binds fun _ _ _ _ _ _ us hl => match us, hl with | [_], _ => rfl⟩
  · obtain ⟨_, _, _, _, _, _, _, _, rfl, _⟩ := h
    rfl
  · obtain ⟨Fr, S, ad, fo, n, r, j, x, rfl, R, hr0, hx, k⟩ := h
    refine ⟨_, pss_cons (ps_setLc (i := 2) (own := [("kind", 1)]) (g := gName 1) (by rfl) sc_many_marks.nd rfl rfl (sw_true rfl rfl rfl (by decide +kernel)) (pi_range1 (by rfl) T.b_range (pa_cons (pe_n T.k_KINDS) pa_nil)) (blkOk_by (own := [("kind", 1)]) (N := n_many_marks) (sc := defScope s_many_marks) (by decide +kernel))
        (fun _ _ _ _ _ => pg_name (i := 1) sc_many_marks.nd rfl (Or.inl rfl)) (fun _ _ _ _ _ => pts_nil) (fun _ _ _ _ _ => pe_int))
      (pss_cons (ps_lock (ps_for PassesOwn.never rfl (pi_keys (pe_fld (pv 0) rfl)) (pg_tup rfl (pgs_cons (pg_name (i := 1) sc_many_marks.nd rfl (.inl rfl)) (pgs_cons (pg_name (i := 3) sc_many_marks.nd rfl (.inl rfl)) pgs_nil)))
        (pss_one (ps_augS (pv 2) (pv 1) pget_list pe_int ip_add set_list))))
      (pss_one (ps_ret (pv 2)))), ?_⟩
    obtain ⟨dm, hmsg⟩ := R.at_msg hr0 hx
    have hmrk := R.at_mrk hr0 hx
    have okx := (R.wf.room hr0).msg x (List.mem_of_getElem? hx)
    refine ⟨16, rfl, by decide, by decide, fun D hD => ?_⟩
    refine lc_range (lo := 0) (n := 16) (fun i H' => Same H H' ∧ H' D = some (.lst (nats (List.replicate i 0)))) ⟨same_new hD, upd_same⟩ ?_ ?_
    · rintro i H' hi ⟨z1, z2⟩
      refine ⟨rfl, yes_of (iteT ?_)⟩
      refine ⟨_, z2, line_lt (by rw [nats_length, List.length_replicate]; omega), same_upd z1 hD, ?_⟩
      rw [List.replicate_succ', nats_append]
      exact upd_same
    · rintro H' ⟨z1, z2⟩
      have z2' : H' D = some (.lst (nats (kinds []))) := z2
      have nDm : ad (.rm fo n (.mrk j)) ≠ D := fun z => by rw [z, hD] at hmrk; cases hmrk
      have nDg : ad (.rm fo n (.msg j)) ≠ D := fun z => by rw [z, hD] at hmsg; cases hmsg
      have nmg : ad (.rm fo n (.msg j)) ≠ ad (.rm fo n (.mrk j)) := fun z => by rw [z, hmrk] at hmsg; cases hmsg
      refine ⟨ad (.rm fo n (.mrk j)), _, z1 _ _ hmrk, trivial, fun od => ?_⟩
      refine ⟨_, rfl, _, C.msg, dm, _, _, rfl, (by rw [upd_ne nmg]; exact z1 _ _ hmsg), T.c_msg, T.n_msg_marks, rfl, ad (.rm fo n (.mrk j)), od, rfl, .inr ⟨mrkK x.marks, upd_same, ?_⟩⟩
      refine for_it (walk_keysT (d := ad (.rm fo n (.mrk j))) (o := od) (kvs := mrkK x.marks)) (fun i σ H' => ∃ (v1 v3 : Option V) (X : HO), σ = [some (.ref (ad (.rm fo n (.msg j)))), v1, some (.ref D), v3] ∧ H' (ad (.rm fo n (.mrk j))) = some (.frz od (.dT (mrkK x.marks))) ∧
          (∀ b o, H b = some o → b ≠ ad (.rm fo n (.mrk j)) → H' b = some o) ∧ H' D = some (.lst (nats (kinds (x.marks.take i)))))
        ⟨none, none, .tup [], rfl, upd_same, fun b o e hb => by rw [upd_ne hb]; exact z1 b o e, by rw [upd_ne nDm.symm]; exact z2'⟩ (fun i σ H' _ z => by obtain ⟨_, _, _, _, z, _⟩ := z; exact z) ?_ ?_
      · rintro i x1 σ H1 H2 hi ⟨v1, v3, _, rfl, q1, q2, q3⟩ ⟨rfl, ks, v, q, e1, rfl, e2⟩
        have e1' : (mrkK x.marks)[i]? = some (ks, v) := e1
        unfold mrkK at e1'
        rw [List.getElem?_map] at e1'
        cases em : x.marks[i]? with
        | none =>
          rw [em] at e1'
          cases e1'
        | some mk =>
          rw [em] at e1'
          obtain ⟨a, b⟩ := mk
          have e3 := Option.some.inj e1'
          have e4 : [Sum.inl (b : Int), Sum.inl (a : Int)] = ks := (Prod.mk.inj e3).1
          subst e4
          obtain ⟨_, hb16⟩ := okx.lt (a, b) (List.mem_of_getElem? em)
          refine ⟨q, _, rfl, SqT.of e2, rfl, _, _, rfl, _, _, rfl, rfl, ?_⟩
          have hg : (nats (kinds (x.marks.take i)))[b]? = some (.int (((x.marks.take i).filter fun m => m.2 == b).length : Nat)) := by
            unfold nats
            rw [List.getElem?_map, kinds_get _ hb16]
            rfl
          have hl : (nats (kinds (x.marks.take i))).length = 16 := by
            rw [nats_length]
            unfold kinds
            rw [List.length_map, List.length_range]
          refine ⟨_, rfl, _, rfl, D, _, (b : Int), _, rfl, rfl, SqL.of q3, atI_nat hg, _, _, rfl, rfl, D, _, (b : Int), b, rfl, rfl, q3, ?_, ?_⟩
          · rw [hl]
            unfold ixN
            rw [if_pos (by omega), if_pos (by omega)]
            rfl
          · refine ⟨_, _, .tup [], rfl, ?_, fun b' o e hb => ?_, ?_⟩
            · rw [upd_ne nDm]
              exact q1
            · rw [upd_ne (ne_of_none e hD)]
              exact q2 b' o e hb
            · rw [take_more em, kinds_snoc]
              have ee : (nats (kinds (x.marks.take i))).set b (.int ((((x.marks.take i).filter fun m => m.2 == b).length : Nat) + 1)) = nats ((kinds (x.marks.take i)).set b (((x.marks.take i).filter fun m => m.2 == b).length + 1)) := by
                unfold nats
                rw [List.map_set]
                rfl
              rw [← ee]
              exact upd_same
      · rintro σ H1 ⟨v1, v3, _, rfl, q1, q2, q3⟩
        have hlen : (mrkK x.marks).length = x.marks.length := List.length_map _
        rw [hlen, List.take_length] at q3
        refine ⟨q1, _, rfl, k _ D (fun b o e => ?_) hD (by rw [upd_ne nDm.symm]; exact q3)⟩
        by_cases hb : b = ad (.rm fo n (.mrk j))
        · subst hb
          rw [hmrk] at e
          cases e
          exact upd_same
        · rw [upd_ne hb]
          exact q2 b o e hb
end
end Tr
/-! rooms.py: what is counted, what is found -/
namespace Tr
open PySem PySem.Spec PyProof.Rows L2
open Kcs8 (Abs Member Message roomOf memberOf withRoom withMessage sees)
theorem units65 {A : Around} {k : Nat} (hr : L2.Room k A) : A.units + 65 < cLine := by
  have := hr.un
  omega
def unP (r : KRoom) (m : Member) (n : Nat) : Bool := decide (m.read ≤ n) && (sees r m n).any fun x => !x.gone && x.who != m.who
theorem unread_eq (r : KRoom) (m : Member) : Kcs8.unread r m = ((List.range (r.messages.length - max m.since m.read)).filter fun j => unP r m (max m.since m.read + j)).length := by
  unfold Kcs8.unread
  refine filter_range_from (max m.since m.read) r.messages.length (unP r m) fun i hi => ?_
  unfold unP
  by_cases c : m.read ≤ i
  · have : ¬ m.since ≤ i := by omega
    unfold sees
    rw [if_neg this]
    simp
  · rw [decide_eq_false c, Bool.false_and]
theorem range_take {i n : Nat} (h : i < n) : (List.range (i + 1)) = List.range i ++ [i] := List.range_succ
section
variable {P : Program} {w : World} {K : PySem.W.Frag} {mg : Str → Option Value} {base : Heap} {C : Cs}
theorem cal_unread (T : Txt K mg C) (D : Def K mg "many_unread" s_many_unread) : Cal P w K mg base CX0 1 "many_unread" (spUnread C) := by
  obtain ⟨f, fd, F, hm⟩ := D.ex
  refine ⟨f, fd, _, F.ok sc_many_unread (fun vs H Q E h => ?_) (fun cdv A outer s H vs Q E hr h => ?_), hm, F.kp, F.binds fun _ _ _ _ _ _ us hl => match us, hl with | [_, _], _ => rfl⟩
  · obtain ⟨_, _, _, _, _, _, _, _, rfl, _⟩ := h
    rfl
  · obtain ⟨Fr, S, ad, fo, n, r, who, m, rfl, R, hr0, hmo, k⟩ := h
    refine ⟨_, pss_cons (ps_set (i := 2) sc_many_unread.nd rfl (.inl rfl) pe_int)
      (pss_cons (ps_for PassesOwn.never rfl (pi_range2 (by rfl) T.b_range (pa_cons (pe_callB (call_max2 rfl) (by rfl) T.b_max (by decide +kernel) (pa_cons (pe_fld (pv 1) rfl) (pa_cons (pe_fld (pv 1) rfl) pa_nil))) (pa_cons (pe_callB call_len_seq (by rfl) T.b_len PySem.boot_len (pa_cons (pe_fld (pv 0) rfl) pa_nil)) pa_nil)))
          (pg_name (i := 3) sc_many_unread.nd rfl (.inl rfl))
        (pss_cons (ps_set (i := 4) sc_many_unread.nd rfl (.inl rfl) (pe_ix ix_list (pe_fld (pv 0) rfl) (pv 3) (fun _ _ => rfl)))
          (pss_one (ps_if (PW.pt (pw_and (pt_cmpR op_ne (pe_fld (pv 4) rfl) (pe_fld (pv 1) rfl) (nomark _)) (pw_and1 (pt_not (pt_val (pe_fld (pv 4) rfl))))))
            (pss_one (ps_aug (i := 2) sc_many_unread.nd rfl (.inl rfl) pe_int ip_add)) pss_nil))))
      (pss_one (ps_ret (pv 2)))), ?_⟩
    obtain ⟨dr, hroom⟩ := R.at_room hr0
    obtain ⟨dm, hmem⟩ := R.at_mem hr0 hmo
    have hmsgs := R.at_msgs hr0
    have ok := R.wf.room hr0
    have hb := ok.bnd m (memberOf_some hmo).1
    refine ⟨_, rfl, _, C.mem, dm, _, _, rfl, hmem, T.c_mem, T.n_mem_start, rfl, _, rfl, _, C.mem, dm, _, _, rfl, hmem, T.c_mem, T.n_mem_behind_read, rfl, _, _, rfl, ?_⟩
    have emax : (if (m.read : Int) > (m.since : Int) then (m.read : Int) else (m.since : Int)) = ((max m.since m.read : Nat) : Int) := by
      split <;> omega
    rw [emax]
    have hmx : max m.since m.read ≤ 128 := by omega
    have hml := ok.msgs
    refine ⟨_, rfl, _, C.room, dr, _, _, rfl, hroom, T.c_room, T.n_room_messages, rfl, _, _, rfl, .inl (SqL.of hmsgs), _, _, rfl, ⟨?_, ?_, ?_, ?_⟩, ?_⟩
    · omega
    · omega
    · rw [msgsL_length]
      omega
    · rw [msgsL_length]
      omega
    rw [msgsL_length]
    have en : (((r.messages.length : Nat) : Int) - ((max m.since m.read : Nat) : Int)).toNat = r.messages.length - max m.since m.read := by omega
    rw [en]
    refine for_range (lo := ((max m.since m.read : Nat) : Int)) (n := r.messages.length - max m.since m.read) (fun i σ H' => H' = H ∧ ∃ v3 v4 : Option V, σ = [some (.ref (ad (.rm fo n .room))), some (.ref (ad (.rm fo n (.mem who)))), some (.int (((List.range i).filter fun j => unP r m (max m.since m.read + j)).length : Nat)), v3, v4])
      ⟨rfl, none, none, rfl⟩ ?_ ?_
    · rintro i σ H' hi ⟨rfl, v3, v4, rfl⟩
      have hix : ((max m.since m.read : Nat) : Int) + (i : Int) = ((max m.since m.read + i : Nat) : Int) := by omega
      rw [hix]
      have hlt : max m.since m.read + i < r.messages.length := by omega
      generalize hj : max m.since m.read + i = j at *
      have hx : r.messages[j]? = some r.messages[j] := List.getElem?_eq_getElem hlt
      obtain ⟨dx, hmsg⟩ := R.at_msg hr0 hx
      have hs : sees r m j = some r.messages[j] := by
        unfold sees
        rw [if_pos (by omega)]
        exact hx
      have hP : unP r m j = (!r.messages[j].gone && r.messages[j].who != m.who) := by
        unfold unP
        rw [hs, decide_eq_true (by omega), Bool.true_and]
        rfl
      have step : ((List.range (i + 1)).filter fun j => unP r m (max m.since m.read + j)).length = ((List.range i).filter fun j => unP r m (max m.since m.read + j)).length + (if unP r m j = true then 1 else 0) := by
        rw [List.range_succ, List.filter_append, List.length_append, List.filter_cons, hj]
        split <;> rfl
      refine ⟨_, rfl, _, C.room, dr, _, _, rfl, hroom, T.c_room, T.n_room_messages, rfl, _, rfl, _, _, _, _, rfl, rfl, SqL.of hmsgs, atI_nat (msgsL_get ad fo n hlt), ?_⟩
      refine ⟨_, rfl, _, C.msg, dx, _, _, rfl, hmsg, T.c_msg, T.n_msg_who, rfl, _, rfl, _, C.mem, dm, _, _, rfl, hmem, T.c_mem, T.n_mem_who, rfl, rfl, _, rfl, ?_⟩
      rw [decI]
      refine ite2 (fun c => ?_) (fun c => ?_)
      · have c' : ¬ r.messages[j].who = m.who := fun z => by
          rw [z] at c
          simp at c
        have c2 : (r.messages[j].who != m.who) = true := by simpa using c'
        refine ⟨_, rfl, _, C.msg, dx, _, _, rfl, hmsg, T.c_msg, T.n_msg_is_gone, rfl, _, rfl, ?_⟩
        refine ite2 (fun c3 => ?_) (fun c3 => ?_)
        · have e : unP r m j = true := by
            rw [hP, c3, c2]
            rfl
          refine ⟨_, rfl, _, _, rfl, rfl, rfl, some (.int (j : Nat)), some (.ref (ad (.rm fo n (.msg j)))), ?_⟩
          rw [step, if_pos e]
          rfl
        · have e : unP r m j = false := by
            rw [hP]
            have : (!r.messages[j].gone) = false := by simpa using c3
            rw [this]
            rfl
          refine ⟨rfl, some (.int (j : Nat)), some (.ref (ad (.rm fo n (.msg j)))), ?_⟩
          rw [step, e]
          rfl
      · have c' : r.messages[j].who = m.who := by
          have c0 : ¬ (!decide ((r.messages[j].who : Int) = (m.who : Int))) = true := c
          rw [Bool.not_eq_true', decide_eq_false_iff_not] at c0
          have := Classical.not_not.mp c0
          omega
        refine iteF ?_
        have e : unP r m j = false := by
          rw [hP, c']
          simp
        refine ⟨rfl, some (.int (j : Nat)), some (.ref (ad (.rm fo n (.msg j)))), ?_⟩
        rw [step, e]
        rfl
    · rintro σ H' ⟨rfl, v3, v4, rfl⟩
      refine ⟨_, rfl, ?_⟩
      rw [← unread_eq]
      exact k
theorem foundAt_length (s : Abs) (W : WF s) (p : Nat) (wd : List Nat) (fk : Nat × Nat) : (foundAt s p wd fk).length ≤ 128 := by
  unfold foundAt
  cases e : roomOf s fk.1 fk.2 with
  | none => exact Nat.zero_le _
  | some r =>
    have ok := W.room e
    show (match memberOf r p with | none => [] | some m => _).length ≤ 128
    cases memberOf r p with
    | none => exact Nat.zero_le _
    | some m =>
      refine Nat.le_trans (List.length_filterMap_le _ _) ?_
      rw [List.length_range]
      exact ok.msgs
theorem flat_le {α : Type} (g : α → List (List Nat)) (h : ∀ a, (g a).length ≤ 128) : ∀ l : List α, (l.flatMap g).length ≤ 128 * l.length
  | [] => Nat.zero_le _
  | a :: l => by
    have ih := flat_le g h l
    have ha := h a
    rw [List.flatMap_cons, List.length_append, List.length_cons]
    omega
/-- what of one room p finds among the first messages -/
def atL (r : KRoom) (m : Member) (wd : List Nat) (fk : Nat × Nat) (n : Nat) : Option (List Nat) := (sees r m n).bind fun x => if (Kcs8.words x.text).contains wd then some [fk.1, fk.2, n] else none
theorem cal_places (T : Txt K mg C) (D : Def K mg "places_of" s_places_of) (GA : Cal P w K mg base CX0 1 "all_rooms" (spAllRooms C)) (GM : Cal P w K mg base CX0 1 "member_of" (spMemberOf C)) (GW : Cal P w K mg base CX0 3 "words_of" spWordsOf) : Cal P w K mg base CX0 4 "places_of" (spPlaces C) := by
  obtain ⟨f, fd, F, hm⟩ := D.ex
  refine ⟨f, fd, _, F.ok sc_places_of (fun vs H Q E h => ?_) (fun cdv A outer s H vs Q E hr h => ?_), hm, F.kp, F.binds fun _ _ _ _ _ _ us hl => match us, hl with | [_, _, _], _ => rfl⟩
  · obtain ⟨_, _, _, _, _, _, rfl, _⟩ := h
    rfl
  · obtain ⟨Fr, S, ad, who, wa, wd, rfl, R, hwa, k⟩ := h
    refine ⟨_, pss_cons (ps_set (i := 3) sc_places_of.nd rfl (.inl rfl) (pe_lst pa_nil))
      (pss_cons (ps_for PassesOwn.never rfl (pi_list (pe_c GA hr pass0 (pa_cons (pv 0) pa_nil))) (pg_tup rfl (pgs_cons (pg_name (i := 4) sc_places_of.nd rfl (.inl rfl)) (pgs_cons (pg_name (i := 5) sc_places_of.nd rfl (.inl rfl)) (pgs_cons (pg_name (i := 6) sc_places_of.nd rfl (.inl rfl)) pgs_nil))))
        (pss_cons (ps_set (i := 7) sc_places_of.nd rfl (.inl rfl) (pe_c GM hr pass0 (pa_cons (pv 6) (pa_cons (pv 1) pa_nil))))
        (pss_one (ps_if (pt_cmpR op_notN (pv 7) pe_non (nomark _))
          (pss_one (ps_for PassesOwn.never rfl (pi_range2 (by rfl) T.b_range (pa_cons (pe_fld (pv 7) rfl) (pa_cons (pe_callB call_len_seq (by rfl) T.b_len PySem.boot_len (pa_cons (pe_fld (pv 6) rfl) pa_nil)) pa_nil))) (pg_name (i := 8) sc_places_of.nd rfl (.inl rfl))
            (pss_one (ps_if (pt_cmpR (op_inD (units65 hr)) (pv 2) (pe_c GW hr pass0 (pa_cons (pe_fld (pe_ix ix_list (pe_fld (pv 6) rfl) (pv 8) (fun _ _ => rfl)) rfl) pa_nil)) (by rfl))
              (pss_one (ps_expr (pe_bm PySem.F.plainAttrs_list PySem.F.slot_list_append PySem.F.type_list_append mt_append (pv 3) (pa_cons (pe_tup (pa_cons (pv 4) (pa_cons (pv 5) (pa_cons (pv 8) pa_nil)))) pa_nil)))) pss_nil)))) pss_nil))))
      (pss_one (ps_ret (pv 3)))), ?_⟩
    have W := R.wf
    have hfl64 := keysOf_length S W
    refine ⟨by show 0 ≤ sizeLine; exact Nat.zero_le _, fun fl hfl => ?_⟩
    have R0 : Rep C Fr (upd H fl (.lst [])) S ad := R.same (same_new hfl)
    refine ⟨_, rfl, Fr, S, ad, rfl, R0, fun H1 p1 ts s1 hp1 e1 ht => ?_⟩
    have sH1 : Same H H1 := (same_new hfl).trans s1
    have n1f : p1 ≠ fl := fun z => by rw [z, upd_same] at hp1; cases hp1
    refine ⟨p1, rfl, ⟨_, SqL.of e1⟩, ?_⟩
    refine for_list (K := K) (a := p1) (xs := ts.map V.ref) (fun i σ H' => ∃ (us : List Addr) (v4 v5 v6 v7 v8 : Option V), σ = [some (.ref (ad .house)), some (.int (who : Int)), some (.ref wa), some (.ref fl), v4, v5, v6, v7, v8] ∧ (∀ b o, H1 b = some o → b ≠ fl → H' b = some o) ∧
        H' fl = some (.lst (us.map V.ref)) ∧ TupsAt H' us (((keysOf S).take i).flatMap (foundAt S who wd)))
      ⟨[], none, none, none, none, none, rfl, fun b o e _ => e, s1 _ _ upd_same, .nil⟩ (fun i σ H' _ z => ?_) ?_ ?_
    · obtain ⟨_, _, _, _, _, _, _, z, _⟩ := z
      exact SqL.of (z _ _ e1 n1f)
    · rintro i x σ H' hi ⟨us, v4, v5, v6, v7, v8, rfl, z1, z2, z3⟩
      obtain ⟨ta, fk, rfl, hk, hta⟩ := ht.get hi
      obtain ⟨fo, n⟩ := fk
      dsimp only at hta
      have nt : ta ≠ fl := fun z => by
        have := s1 fl _ upd_same
        rw [z, this] at hta
        cases hta
      have sHH : Same H H' := fun b o e => z1 b o (sH1 b o e) (ne_of_none e hfl)
      have step : ((keysOf S).take (i + 1)).flatMap (foundAt S who wd) = ((keysOf S).take i).flatMap (foundAt S who wd) ++ foundAt S who wd (fo, n) := by
        rw [take_more hk, List.flatMap_append]
        show _ ++ (foundAt S who wd (fo, n) ++ []) = _
        rw [List.append_nil]
      obtain ⟨r, hr0⟩ := Option.isSome_iff_exists.mp ((mem_keysOf W).mp (List.mem_of_getElem? hk))
      have hr0' : roomOf S fo n = some r := hr0
      have ok := W.room hr0'
      refine ⟨ta, _, rfl, SqT.of (z1 _ _ hta nt), rfl, _, _, rfl, _, _, rfl, _, _, rfl, rfl, ?_⟩
      refine ⟨_, rfl, _, rfl, Fr, S, ad, fo, n, r, who, rfl, R.same sHH, hr0', ?_⟩
      cases hmo : memberOf r who with
      | none =>
        refine ⟨_, rfl, rfl, _, rfl, iteF ?_⟩
        have ef : foundAt S who wd (fo, n) = [] := by
          unfold foundAt
          rw [hr0]
          show (match memberOf r who with | none => [] | some m => _) = _
          rw [hmo]
        refine ⟨us, _, _, _, _, _, rfl, z1, z2, ?_⟩
        rw [step, ef, List.append_nil]
        exact z3
      | some m =>
        have hb := ok.bnd m (memberOf_some hmo).1
        have hml := ok.msgs
        obtain ⟨dr, hroom⟩ := R.at_room hr0'
        obtain ⟨dm, hmem⟩ := R.at_mem hr0' hmo
        have hmsgs := R.at_msgs hr0'
        have ef : foundAt S who wd (fo, n) = (List.range (r.messages.length - m.since)).filterMap fun j => atL r m wd (fo, n) (m.since + j) := by
          unfold foundAt
          rw [hr0]
          show (match memberOf r who with | none => [] | some m => _) = _
          rw [hmo]
          refine range_from m.since r.messages.length (atL r m wd (fo, n)) fun j hj => ?_
          unfold atL sees
          rw [if_neg (by omega)]
          rfl
        have hsz : (((keysOf S).take i).flatMap (foundAt S who wd)).length ≤ 8192 := by
          refine Nat.le_trans (flat_le _ (foundAt_length S W who wd) _) ?_
          rw [List.length_take]
          omega
        refine ⟨_, rfl, rfl, _, rfl, iteT ?_⟩
        refine ⟨_, rfl, _, C.mem, dm, _, _, rfl, sHH _ _ hmem, T.c_mem, T.n_mem_start, rfl, _, rfl, _, C.room, dr, _, _, rfl, sHH _ _ hroom, T.c_room, T.n_room_messages, rfl, _, _, rfl, .inl (SqL.of (sHH _ _ hmsgs)), _, _, rfl, ⟨?_, ?_, ?_, ?_⟩, ?_⟩
        · omega
        · omega
        · rw [msgsL_length]
          omega
        · rw [msgsL_length]
          omega
        rw [msgsL_length]
        have en : (((r.messages.length : Nat) : Int) - (m.since : Int)).toNat = r.messages.length - m.since := by omega
        rw [en]
        refine for_range (lo := (m.since : Int)) (n := r.messages.length - m.since) (fun j σ H2 => ∃ (us : List Addr) (v8 : Option V), σ = [some (.ref (ad .house)), some (.int (who : Int)), some (.ref wa), some (.ref fl), some (.int (fo : Int)), some (.int (n : Int)), some (.ref (ad (.rm fo n .room))), some (.ref (ad (.rm fo n (.mem who)))), v8] ∧
            (∀ b o, H1 b = some o → b ≠ fl → H2 b = some o) ∧ H2 fl = some (.lst (us.map V.ref)) ∧ TupsAt H2 us (((keysOf S).take i).flatMap (foundAt S who wd) ++ (List.range j).filterMap fun j => atL r m wd (fo, n) (m.since + j)))
          ⟨us, v8, rfl, z1, z2, by rw [List.range_zero, List.filterMap_nil, List.append_nil]; exact z3⟩ ?_ ?_
        · rintro j σ H2 hj ⟨us, v8, rfl, y1, y2, y3⟩
          have sH2 : Same H H2 := fun b o e => y1 b o (sH1 b o e) (ne_of_none e hfl)
          have hix : (m.since : Int) + (j : Int) = ((m.since + j : Nat) : Int) := by omega
          rw [hix]
          have hlt : m.since + j < r.messages.length := by omega
          have hx : r.messages[m.since + j]? = some r.messages[m.since + j] := List.getElem?_eq_getElem hlt
          obtain ⟨dx, hmsg⟩ := R.at_msg hr0' hx
          have htxt := R.at_txt hr0' hx
          have okx := ok.msg _ (List.mem_of_getElem? hx)
          have step2 : (List.range (j + 1)).filterMap (fun j => atL r m wd (fo, n) (m.since + j)) = (List.range j).filterMap (fun j => atL r m wd (fo, n) (m.since + j)) ++ (if (Kcs8.words r.messages[m.since + j].text).contains wd = true then [[fo, n, m.since + j]] else []) := by
            rw [List.range_succ, List.filterMap_append]
            congr 1
            rw [List.filterMap_cons]
            have : atL r m wd (fo, n) (m.since + j) = if (Kcs8.words r.messages[m.since + j].text).contains wd = true then some [fo, n, m.since + j] else none := by
              unfold atL sees
              rw [if_pos (by omega), hx]
              rfl
            by_cases c : (Kcs8.words r.messages[m.since + j].text).contains wd = true
            · rw [if_pos c] at this ⊢
              rw [this]
              rfl
            · rw [if_neg c] at this ⊢
              rw [this]
              rfl
          have y3len := y3.length
          rw [List.length_append] at y3len
          have hfm : ((List.range j).filterMap fun j => atL r m wd (fo, n) (m.since + j)).length ≤ 128 := by
            refine Nat.le_trans (List.length_filterMap_le _ _) ?_
            rw [List.length_range]
            omega
          refine ⟨_, rfl, _, rfl, _, C.room, dr, _, _, rfl, sH2 _ _ hroom, T.c_room, T.n_room_messages, rfl, _, rfl, _, _, _, _, rfl, rfl, SqL.of (sH2 _ _ hmsgs), atI_nat (msgsL_get ad fo n hlt), _, C.msg, dx, _, _, rfl, sH2 _ _ hmsg, T.c_msg, T.n_msg_text, rfl, _, _, rfl, sH2 _ _ htxt, by have := okx.text; omega, fun H3 pw tw s3 hpw e3 t3 => ?_⟩
          refine ⟨.tuple (datL wd), wordsD (Kcs8.words r.messages[m.since + j].text), .tup (SqT.of (s3 _ _ (sH2 _ _ hwa))) (dp_nats wd), .lst (SqL.of e3) t3.dp, shaped_word wd, shaped_words _, _, rfl, ?_⟩
          rw [any_words]
          have y2' := s3 _ _ y2
          have y1' : ∀ b o, H1 b = some o → b ≠ fl → H3 b = some o := fun b o e hb => s3 _ _ (y1 b o e hb)
          refine ite2 (fun c => ?_) (fun c => ?_)
          · refine ⟨_, rfl, .inl ⟨rfl, _, SqL.of y2'⟩, _, rfl, _, rfl, _, rfl, by show 3 ≤ sizeLine; exact line_le (by decide), fun tp htp => ?_⟩
            have ntf : fl ≠ tp := fun z => by rw [← z, y2'] at htp; cases htp
            refine ⟨fl, _, _, rfl, rfl, by rw [upd_ne ntf]; exact y2', line_lt (by rw [List.length_map]; omega), ?_⟩
            refine ⟨us ++ [tp], some (.int ((m.since + j : Nat) : Int)), rfl, fun b o e hb => ?_, by rw [List.map_append]; exact upd_same, ?_⟩
            · rw [upd_ne hb, upd_ne (ne_of_none (y1' b o e hb) htp)]
              exact y1' b o e hb
            · rw [step2, if_pos c, ← List.append_assoc]
              refine (y3.same fun b o e => ?_).snoc ?_
              · have e' := s3 _ _ e
                rw [upd_ne (fun z => by rw [z, y2'] at e'; cases e'), upd_ne (ne_of_none e' htp)]
                exact e'
              · rw [upd_ne ntf.symm]
                exact upd_same
          · refine ⟨us, some (.int ((m.since + j : Nat) : Int)), rfl, y1', y2', ?_⟩
            rw [step2, if_neg c, List.append_nil]
            exact y3.same fun b o e => s3 _ _ e
        · rintro σ H2 ⟨us, v8, rfl, y1, y2, y3⟩
          refine ⟨us, _, _, _, _, _, rfl, y1, y2, ?_⟩
          rw [step, ef]
          exact y3
    · rintro σ H' ⟨us, v4, v5, v6, v7, v8, rfl, z1, z2, z3⟩
      have sHH : Same H H' := fun b o e => z1 b o (sH1 b o e) (ne_of_none e hfl)
      have hl := ht.length
      rw [List.length_map, hl, List.take_length] at z3
      exact ⟨_, rfl, k H' fl us sHH hfl z2 z3⟩
end
end Tr
/-! deeds.py: what is asked first -/
namespace Tr
open PySem PySem.Spec PyProof.Rows L2
open Kcs8 (Abs Member Message roomOf memberOf withRoom withMessage sees)
/-- a refusal by n leaves -/
def Rz (C : Cs) (n : Int) (H : Hp) (E : XK) : Prop := ∀ H' d, Same H H' → H' d = some (.xd [("number", .int n)]) → E (.ref C.refused) (some d) H'
theorem Rz.mono {C : Cs} {n : Int} {H H' : Hp} {E : XK} (r : Rz C n H E) (s : Same H H') : Rz C n H' E := fun H2 d s2 e => r H2 d (s.trans s2) e
theorem passE {P : Program} {w : World} {K : PySem.W.Frag} {mg : Str → Option Value} {base : Heap} {N : List Str} {qual : Str} {sc : Scope} {f : Addr} {cd : Value} {A : Around} {outer : List Env} {s : Shared} {H : Hp} {E : XK} :
    Passes (L2.CX P w) (cxOf (L2.CX P w) P w K mg base N qual sc f cd A outer s H E) E :=
  passes_call (takes_of rfl rfl rfl rfl) (fun _ _ _ _ h => h)
structure DefR (K : PySem.W.Frag) (C : Cs) : Prop where
  ex : ∃ f fd, Fun K "__init__" "Refused.__init__" s_Refused_init f fd ∧ PySem.W.findIn K (.ref C.refused) "__init__" = some (some (.ref f)) ∧ PySem.W.typeIn K (.ref f) = some (.type "function")
def spRefI (C : Cs) : Sp := fun vs H Q _ => ∃ (a : Addr) (v : V), vs = [.ref a, v] ∧ H a = some (exo a C.refused none) ∧ ∀ dx, H dx = none → dx ≠ a → Q .non (upd (upd H dx (exd dx [("number", v)])) a (exo a C.refused (some dx)))
structure CalR (P : Program) (w : World) (K : PySem.W.Frag) (mg : Str → Option Value) (base : Heap) (C : Cs) : Prop where
  ex : ∃ f fd ps, FnOk P w K mg base CX0 1 f fd ps (spRefI C) ∧ PySem.W.findIn K (.ref C.refused) "__init__" = some (some (.ref f)) ∧ PySem.W.typeIn K (.ref f) = some (.type "function") ∧ Binds K fd ps []
def spAsk (C : Cs) : Sp := fun vs H Q E => ∃ (b : Bool) (n : Int), vs = [.bl b, .int n] ∧ (b = true → Q .non H) ∧ (b = false → Rz C n H E)
def spAskPerson (C : Cs) : Sp := fun vs H Q E => ∃ (p : Nat), vs = [.int (p : Int)] ∧ (p < 16 → Q .non H) ∧ (16 ≤ p → Rz C (-22) H E)
def spAskFlag (C : Cs) : Sp := fun vs H Q E => ∃ (p : Nat), vs = [.int (p : Int)] ∧ (p ≤ 1 → Q .non H) ∧ (1 < p → Rz C (-22) H E)
def placeF (ad : Ad) (f k p : Nat) : List (Str × V) := [("room", .ref (ad (.rm f k .room))), ("member", .ref (ad (.rm f k (.mem p))))]
def spPlaceI (C : Cs) : Sp := fun vs H Q E => ∃ (x dx nl : Addr) (F : Hp) (s : Abs) (ad : Ad) (p f k : Nat) (rest : List Nat), vs = [.ref x, .ref (ad .house), .ref nl] ∧ H x = some (.ins C.place dx []) ∧ Rep C F H s ad ∧ H nl = some (.lst (nats (p :: f :: k :: rest))) ∧
  (Kcs8.inRoom s f k p = none → Rz C (-2) H E) ∧ ∀ r m, roomOf s f k = some r → memberOf r p = some m → ∀ H', But x H H' → H' x = some (.ins C.place dx (placeF ad f k p)) → Q .non H'
def spKeeper (C : Cs) : Sp := fun vs H Q E => ∃ (x dx : Addr) (F : Hp) (s : Abs) (ad : Ad) (f k p : Nat) (r : KRoom) (m : Member), vs = [.ref x] ∧ H x = some (.ins C.place dx (placeF ad f k p)) ∧ Rep C F H s ad ∧ roomOf s f k = some r ∧ memberOf r p = some m ∧
  (m.keeper = true → Q .non H) ∧ (m.keeper = false → Rz C (-1) H E)
def spAskThere (C : Cs) : Sp := fun vs H Q E => ∃ (x dx : Addr) (F : Hp) (s : Abs) (ad : Ad) (f k p n : Nat) (r : KRoom) (m : Member), vs = [.ref x, .int (n : Int)] ∧ H x = some (.ins C.place dx (placeF ad f k p)) ∧ Rep C F H s ad ∧ roomOf s f k = some r ∧ memberOf r p = some m ∧
  (there r m n = none → Rz C (-61) H E) ∧ ∀ y, there r m n = some y → Q (.ref (ad (.rm f k (.msg n)))) H
def spAskSeen (C : Cs) : Sp := fun vs H Q E => ∃ (x dx : Addr) (F : Hp) (s : Abs) (ad : Ad) (f k p n : Nat) (r : KRoom) (m : Member), vs = [.ref x, .int (n : Int)] ∧ H x = some (.ins C.place dx (placeF ad f k p)) ∧ Rep C F H s ad ∧ roomOf s f k = some r ∧ memberOf r p = some m ∧
  (sees r m n = none → Rz C (-61) H E) ∧ ∀ y, sees r m n = some y → Q (.ref (ad (.rm f k (.msg n)))) H
theorem cut3 (a b c : V) (l : List V) : cutV (a :: b :: c :: l) none (some 3) = [a, b, c] := by
  have h := HT.sIx_nat (a :: b :: c :: l).length (a :: b :: c :: l).length 3
  have h' : HT.sIx (a :: b :: c :: l).length (a :: b :: c :: l).length (some 3) = 3 := by
    refine h.trans ?_
    simp only [List.length_cons]
    omega
  unfold cutV
  rw [HT.sIx_none, h']
  rfl
section
variable {P : Program} {w : World} {K : PySem.W.Frag} {mg : Str → Option Value} {base : Heap} {C : Cs}
theorem cal_refused (T : Txt K mg C) (D : DefR K C) : CalR P w K mg base C := by
  obtain ⟨f, fd, F, h1, h2⟩ := D.ex
  refine ⟨f, fd, _, F.ok sc_Refused_init (fun vs H Q E h => ?_) (fun cdv A outer s H vs Q E hr h => ?_), h1, h2, F.binds fun _ _ _ _ _ _ us hl => match us, hl with | [_, _], _ => rfl⟩
  · obtain ⟨_, _, rfl, _⟩ := h
    rfl
  · obtain ⟨a, v, rfl, ha, k⟩ := h
    refine ⟨_, pss_one (ps_ost (pv 0) (pv 1)), ?_⟩
    exact ⟨_, rfl, _, rfl, a, C.refused, rfl, T.x_refused, T.n_refused, .inl ⟨ha, fun dx hd hne => k dx hd hne⟩⟩
theorem cal_ask (T : Txt K mg C) (D : Def K mg "ask" s_ask) (R : CalR P w K mg base C) : Cal P w K mg base (L2.CX P w) 3 "ask" (spAsk C) := by
  obtain ⟨f, fd, F, hm⟩ := D.ex
  obtain ⟨fI, fdI, psI, FI, iC, tI, bI⟩ := R.ex
  refine ⟨f, fd, _, F.okX sc_ask (fun vs H Q E h => ?_) (fun cdv A outer s H vs Q E hr h => ?_), hm, F.kp, F.binds fun _ _ _ _ _ _ us hl => match us, hl with | [_, _], _ => rfl⟩
  · obtain ⟨_, _, rfl, _⟩ := h
    rfl
  · obtain ⟨b, n, rfl, k1, k2⟩ := h
    refine ⟨_, pss_one (ps_if (pt_not (pt_val (pv 0))) (pss_one (ps_raise rfl (takes_of rfl rfl rfl rfl) (pmk_oex (x := "Refused") T.x_refused iC tI FI hr bI .nil pass0 (by rfl) T.g_refused (pa_cons (pv 1) pa_nil)))) pss_nil), ?_⟩
    refine ⟨_, rfl, b, rfl, ?_⟩
    cases b with
    | true => exact iteF (k1 rfl)
    | false =>
      refine iteT ?_
      refine ⟨_, rfl, by show 1 ≤ 1000; decide, fun a ha => ?_⟩
      refine ⟨a, .int n, rfl, upd_same, fun dx hdx hne => ⟨rfl, dx, [("number", .int n)], upd_same, by rw [upd_ne hne]; exact upd_same, by rw [upd_ne hne] at hdx; exact hdx, ?_⟩⟩
      rw [upd_ne hne] at hdx
      refine k2 rfl _ dx (fun b o e => ?_) upd_same
      have c1 : b ≠ a := ne_of_none e ha
      have c2 : b ≠ dx := ne_of_none e hdx
      rw [upd_ne c2, del_ne c1, upd_ne c1, upd_ne c2, upd_ne c1]
      exact e
theorem cal_ask_person (T : Txt K mg C) (D : Def K mg "ask_person" s_ask_person) (G : Cal P w K mg base (L2.CX P w) 3 "ask" (spAsk C)) : Cal P w K mg base (L2.CX P w) 4 "ask_person" (spAskPerson C) := by
  obtain ⟨f, fd, F, hm⟩ := D.ex
  refine ⟨f, fd, _, F.okX sc_ask_person (fun vs H Q E h => ?_) (fun cdv A outer s H vs Q E hr h => ?_), hm, F.kp, F.binds fun _ _ _ _ _ _ us hl => match us, hl with | [_], _ => rfl⟩
  · obtain ⟨_, rfl, _⟩ := h
    rfl
  · obtain ⟨p, rfl, k1, k2⟩ := h
    refine ⟨_, pss_one (ps_expr (pe_c G hr passE (pa_cons (pe_cmpR op_lt (pv 0) (pe_n T.k_PEOPLE) (nomark _)) (pa_cons (pe_n T.k_WRONG) pa_nil)))), ?_⟩
    refine ⟨_, rfl, _, _, rfl, rfl, _, _, rfl, fun c => k1 ?_, fun c => k2 ?_⟩
    · have := of_decide_eq_true c
      omega
    · have := of_decide_eq_false c
      omega
theorem cal_ask_flag (T : Txt K mg C) (D : Def K mg "ask_flag" s_ask_flag) (G : Cal P w K mg base (L2.CX P w) 3 "ask" (spAsk C)) : Cal P w K mg base (L2.CX P w) 4 "ask_flag" (spAskFlag C) := by
  obtain ⟨f, fd, F, hm⟩ := D.ex
  refine ⟨f, fd, _, F.okX sc_ask_flag (fun vs H Q E h => ?_) (fun cdv A outer s H vs Q E hr h => ?_), hm, F.kp, F.binds fun _ _ _ _ _ _ us hl => match us, hl with | [_], _ => rfl⟩
  · obtain ⟨_, rfl, _⟩ := h
    rfl
  · obtain ⟨p, rfl, k1, k2⟩ := h
    refine ⟨_, pss_one (ps_expr (pe_c G hr passE (pa_cons (pe_cmpR op_le (pv 0) pe_int (nomark _)) (pa_cons (pe_n T.k_WRONG) pa_nil)))), ?_⟩
    refine ⟨_, rfl, _, _, rfl, rfl, _, _, rfl, fun c => k1 ?_, fun c => k2 ?_⟩
    · have := of_decide_eq_true c
      omega
    · have := of_decide_eq_false c
      omega
theorem mak_place (T : Txt K mg C) (D : DefI K mg "Place" C.place "Place.__init__" s_Place_init) (GR : Cal P w K mg base CX0 1 "room_at" (spRoomAt C)) (GM : Cal P w K mg base CX0 1 "member_of" (spMemberOf C)) (GA : Cal P w K mg base (L2.CX P w) 3 "ask" (spAsk C)) :
    Mak P w K mg base (L2.CX P w) 4 "Place" C.place (spPlaceI C) := by
  obtain ⟨f, fd, F, M, hm⟩ := D.ex
  refine ⟨f, fd, _, F.okX sc_Place_init (fun vs H Q E h => ?_) (fun cdv A outer s H vs Q E hr h => ?_), M, hm, F.binds fun _ _ _ _ _ _ us hl => match us, hl with | [_, _, _], _ => rfl⟩
  · obtain ⟨_, _, _, _, _, _, _, _, _, _, rfl, _⟩ := h
    rfl
  · obtain ⟨x, dx, nl, Fr, S, ad, p, fo, n, rest, rfl, hx, R, hnl, kn, ks⟩ := h
    refine ⟨_, pss_cons (ps_asg (pe_slice sl_list (pv 2) po_none (po_some pe_int)) (pg_lst rfl (pgs_cons (pg_name (i := 3) sc_Place_init.nd rfl (.inl rfl)) (pgs_cons (pg_name (i := 4) sc_Place_init.nd rfl (.inl rfl)) (pgs_cons (pg_name (i := 5) sc_Place_init.nd rfl (.inl rfl)) pgs_nil)))))
      (pss_cons (ps_set (i := 6) sc_Place_init.nd rfl (.inl rfl) (pe_c GR hr pass0 (pa_cons (pv 1) (pa_cons (pv 4) (pa_cons (pv 5) pa_nil)))))
      (pss_cons (ps_set (i := 7) sc_Place_init.nd rfl (.inl rfl) pe_non)
      (pss_cons (ps_if (pt_cmpR op_notN (pv 6) pe_non (nomark _)) (pss_one (ps_set (i := 7) sc_Place_init.nd rfl (.inl rfl) (pe_c GM hr pass0 (pa_cons (pv 6) (pa_cons (pv 3) pa_nil))))) pss_nil)
      (pss_cons (ps_expr (pe_c GA hr passE (pa_cons (pe_cmpR op_notN (pv 7) pe_non (nomark _)) (pa_cons (pe_n T.k_NO_ROOM) pa_nil))))
      (pss_cons (ps_fld (pv 0) (pv 6) rfl) (pss_one (ps_fld (pv 0) (pv 7) rfl))))))), ?_⟩
    refine ⟨_, rfl, _, rfl, nl, _, rfl, SqL.of hnl, fun q hq => ?_⟩
    have sq : Same H (upd H q (.lst (cutV (nats (p :: fo :: n :: rest)) none (some 3)))) := same_new hq
    have e3 : cutV (nats (p :: fo :: n :: rest)) none (some 3) = [.int (p : Int), .int (fo : Int), .int (n : Int)] := cut3 _ _ _ _
    rw [e3] at sq ⊢
    have R1 := R.same sq
    refine ⟨q, _, rfl, SqL.of upd_same, rfl, _, _, rfl, _, _, rfl, _, _, rfl, rfl, ?_⟩
    refine ⟨_, rfl, _, rfl, _, rfl, Fr, S, ad, fo, n, rfl, R1, ?_⟩
    cases hr0 : roomOf S fo n with
    | none =>
      have e : Kcs8.inRoom S fo n p = none := by
        unfold Kcs8.inRoom
        rw [hr0]
        rfl
      refine ⟨_, rfl, rfl, _, rfl, iteF ?_⟩
      refine ⟨_, rfl, rfl, false, -2, rfl, fun z => Bool.noConfusion z, fun _ => (kn e).mono sq⟩
    | some r =>
      refine ⟨_, rfl, rfl, _, rfl, iteT ?_⟩
      refine ⟨_, rfl, _, rfl, Fr, S, ad, fo, n, r, p, rfl, R1, hr0, ?_⟩
      cases hmo : memberOf r p with
      | none =>
        have e : Kcs8.inRoom S fo n p = none := by
          unfold Kcs8.inRoom
          rw [hr0]
          show (memberOf r p).map _ = none
          rw [hmo]
          rfl
        refine ⟨_, rfl, rfl, false, -2, rfl, fun z => Bool.noConfusion z, fun _ => (kn e).mono sq⟩
      | some m =>
        refine ⟨_, rfl, rfl, true, -2, rfl, fun _ => ?_, fun z => Bool.noConfusion z⟩
        refine ⟨_, rfl, _, rfl, x, C.place, dx, _, rfl, sq _ _ hx, T.c_place, T.n_place_room, (by show 0 < 1000; decide), ?_⟩
        refine ⟨_, rfl, _, rfl, x, C.place, dx, _, rfl, upd_same, T.c_place, T.n_place_member, (by show 1 < 1000; decide), ?_⟩
        refine ks r m hr0 hmo _ (fun b o e hb => ?_) upd_same
        rw [upd_ne hb, upd_ne hb]
        exact sq b o e
theorem calM_keeper (T : Txt K mg C) (D : DefM K C.place "ask_keeper" "Place.ask_keeper" s_Place_ask_keeper) (GA : Cal P w K mg base (L2.CX P w) 3 "ask" (spAsk C)) : CalM P w K mg base (L2.CX P w) 4 C.place "ask_keeper" (spKeeper C) := by
  obtain ⟨f, fd, F, M⟩ := D.ex
  refine ⟨f, fd, _, F.okX sc_Place_ask_keeper (fun vs H Q E h => ?_) (fun cdv A outer s H vs Q E hr h => ?_), M, F.binds fun _ _ _ _ _ _ us hl => match us, hl with | [_], _ => rfl⟩
  · obtain ⟨_, _, _, _, _, _, _, _, _, _, rfl, _⟩ := h
    rfl
  · obtain ⟨x, dx, Fr, S, ad, fo, n, p, r, m, rfl, hx, R, hr0, hmo, k1, k2⟩ := h
    refine ⟨_, pss_one (ps_expr (pe_c GA hr passE (pa_cons (pe_fld (pe_fld (pv 0) rfl) rfl) (pa_cons (pe_n T.k_NO_KEEPER) pa_nil)))), ?_⟩
    obtain ⟨dm, hmem⟩ := R.at_mem hr0 hmo
    exact ⟨_, rfl, x, C.place, dx, _, _, rfl, hx, T.c_place, T.n_place_member, rfl, _, C.mem, dm, _, _, rfl, hmem, T.c_mem, T.n_mem_is_keeper, rfl, m.keeper, -1, rfl, k1, k2⟩
theorem calM_there (T : Txt K mg C) (D : DefM K C.place "ask_there" "Place.ask_there" s_Place_ask_there) (GA : Cal P w K mg base (L2.CX P w) 3 "ask" (spAsk C)) (GT : Cal P w K mg base CX0 2 "message_there" (spThere C)) : CalM P w K mg base (L2.CX P w) 4 C.place "ask_there" (spAskThere C) := by
  obtain ⟨f, fd, F, M⟩ := D.ex
  refine ⟨f, fd, _, F.okX sc_Place_ask_there (fun vs H Q E h => ?_) (fun cdv A outer s H vs Q E hr h => ?_), M, F.binds fun _ _ _ _ _ _ us hl => match us, hl with | [_, _], _ => rfl⟩
  · obtain ⟨_, _, _, _, _, _, _, _, _, _, _, rfl, _⟩ := h
    rfl
  · obtain ⟨x, dx, Fr, S, ad, fo, n, p, j, r, m, rfl, hx, R, hr0, hmo, k1, k2⟩ := h
    refine ⟨_, pss_cons (ps_set (i := 2) sc_Place_ask_there.nd rfl (.inl rfl) (pe_c GT hr pass0 (pa_cons (pe_fld (pv 0) rfl) (pa_cons (pe_fld (pv 0) rfl) (pa_cons (pv 1) pa_nil)))))
      (pss_cons (ps_expr (pe_c GA hr passE (pa_cons (pe_cmpR op_notN (pv 2) pe_non (nomark _)) (pa_cons (pe_n T.k_NO_SUCH) pa_nil))))
      (pss_one (ps_ret (pv 2)))), ?_⟩
    refine ⟨_, rfl, x, C.place, dx, _, _, rfl, hx, T.c_place, T.n_place_room, rfl, _, rfl, x, C.place, dx, _, _, rfl, hx, T.c_place, T.n_place_member, rfl, _, rfl, Fr, S, ad, fo, n, r, p, j, m, rfl, R, hr0, hmo, ?_⟩
    cases e : there r m j with
    | none => exact ⟨_, rfl, rfl, false, -61, rfl, fun z => Bool.noConfusion z, fun _ => k1 e⟩
    | some y => exact ⟨_, rfl, rfl, true, -61, rfl, fun _ => ⟨_, rfl, k2 y e⟩, fun z => Bool.noConfusion z⟩
theorem calM_seen (T : Txt K mg C) (D : DefM K C.place "ask_seen" "Place.ask_seen" s_Place_ask_seen) (GA : Cal P w K mg base (L2.CX P w) 3 "ask" (spAsk C)) (GT : Cal P w K mg base CX0 1 "message_seen" (spSeen C)) : CalM P w K mg base (L2.CX P w) 4 C.place "ask_seen" (spAskSeen C) := by
  obtain ⟨f, fd, F, M⟩ := D.ex
  refine ⟨f, fd, _, F.okX sc_Place_ask_seen (fun vs H Q E h => ?_) (fun cdv A outer s H vs Q E hr h => ?_), M, F.binds fun _ _ _ _ _ _ us hl => match us, hl with | [_, _], _ => rfl⟩
  · obtain ⟨_, _, _, _, _, _, _, _, _, _, _, rfl, _⟩ := h
    rfl
  · obtain ⟨x, dx, Fr, S, ad, fo, n, p, j, r, m, rfl, hx, R, hr0, hmo, k1, k2⟩ := h
    refine ⟨_, pss_cons (ps_set (i := 2) sc_Place_ask_seen.nd rfl (.inl rfl) (pe_c GT hr pass0 (pa_cons (pe_fld (pv 0) rfl) (pa_cons (pe_fld (pv 0) rfl) (pa_cons (pv 1) pa_nil)))))
      (pss_cons (ps_expr (pe_c GA hr passE (pa_cons (pe_cmpR op_notN (pv 2) pe_non (nomark _)) (pa_cons (pe_n T.k_NO_SUCH) pa_nil))))
      (pss_one (ps_ret (pv 2)))), ?_⟩
    refine ⟨_, rfl, x, C.place, dx, _, _, rfl, hx, T.c_place, T.n_place_room, rfl, _, rfl, x, C.place, dx, _, _, rfl, hx, T.c_place, T.n_place_member, rfl, _, rfl, Fr, S, ad, fo, n, r, p, j, m, rfl, R, hr0, hmo, ?_⟩
    cases e : sees r m j with
    | none => exact ⟨_, rfl, rfl, false, -61, rfl, fun z => Bool.noConfusion z, fun _ => k1 e⟩
    | some y => exact ⟨_, rfl, rfl, true, -61, rfl, fun _ => ⟨_, rfl, k2 y e⟩, fun z => Bool.noConfusion z⟩
end
end Tr
/-! deeds.py: rooms and people -/
namespace Tr
open PySem PySem.Spec PyProof.Rows L2
open Kcs8 (Abs Member Message roomOf memberOf withRoom withMessage sees)
/-! ### what a deed promises -/
theorem idx_found {c : Kcs8.Call} (h : idx c = 1) : ∃ p b, c = .found p b := by
  cases c <;> first | (exact ⟨_, _, rfl⟩) | (cases h)
theorem idx_invite {c : Kcs8.Call} (h : idx c = 2) : ∃ p f k q, c = .invite p f k q := by
  cases c <;> first | (exact ⟨_, _, _, _, rfl⟩) | (cases h)
theorem idx_join {c : Kcs8.Call} (h : idx c = 3) : ∃ p f k, c = .join p f k := by
  cases c <;> first | (exact ⟨_, _, _, rfl⟩) | (cases h)
theorem idx_leave {c : Kcs8.Call} (h : idx c = 4) : ∃ p f k, c = .leave p f k := by
  cases c <;> first | (exact ⟨_, _, _, rfl⟩) | (cases h)
theorem idx_out {c : Kcs8.Call} (h : idx c = 5) : ∃ p f k q, c = .out p f k q := by
  cases c <;> first | (exact ⟨_, _, _, _, rfl⟩) | (cases h)
theorem idx_lift {c : Kcs8.Call} (h : idx c = 6) : ∃ p f k q, c = .lift p f k q := by
  cases c <;> first | (exact ⟨_, _, _, _, rfl⟩) | (cases h)
theorem idx_past {c : Kcs8.Call} (h : idx c = 7) : ∃ p f k b, c = .past p f k b := by
  cases c <;> first | (exact ⟨_, _, _, _, rfl⟩) | (cases h)
theorem idx_say {c : Kcs8.Call} (h : idx c = 8) : ∃ p f k a t, c = .say p f k a t := by
  cases c <;> first | (exact ⟨_, _, _, _, _, rfl⟩) | (cases h)
theorem idx_change {c : Kcs8.Call} (h : idx c = 9) : ∃ p f k m t, c = .change p f k m t := by
  cases c <;> first | (exact ⟨_, _, _, _, _, rfl⟩) | (cases h)
theorem idx_remove {c : Kcs8.Call} (h : idx c = 10) : ∃ p f k m, c = .remove p f k m := by
  cases c <;> first | (exact ⟨_, _, _, _, rfl⟩) | (cases h)
theorem idx_mark {c : Kcs8.Call} (h : idx c = 11) : ∃ p f k m j, c = .mark p f k m j := by
  cases c <;> first | (exact ⟨_, _, _, _, _, rfl⟩) | (cases h)
theorem idx_seen {c : Kcs8.Call} (h : idx c = 12) : ∃ p f k m, c = .seen p f k m := by
  cases c <;> first | (exact ⟨_, _, _, _, rfl⟩) | (cases h)
theorem idx_read {c : Kcs8.Call} (h : idx c = 13) : ∃ p f k m, c = .read p f k m := by
  cases c <;> first | (exact ⟨_, _, _, _, rfl⟩) | (cases h)
theorem idx_unread {c : Kcs8.Call} (h : idx c = 14) : ∃ p f k, c = .unread p f k := by
  cases c <;> first | (exact ⟨_, _, _, rfl⟩) | (cases h)
theorem idx_rooms {c : Kcs8.Call} (h : idx c = 15) : ∃ p j, c = .rooms p j := by
  cases c <;> first | (exact ⟨_, _, rfl⟩) | (cases h)
theorem idx_people {c : Kcs8.Call} (h : idx c = 16) : ∃ p f k j, c = .people p f k j := by
  cases c <;> first | (exact ⟨_, _, _, _, rfl⟩) | (cases h)
theorem idx_find {c : Kcs8.Call} (h : idx c = 17) : ∃ p w j, c = .find p w j := by
  cases c <;> first | (exact ⟨_, _, _, rfl⟩) | (cases h)
def rowD (c : Kcs8.Call) : List Nat := (rowOf c).getD []
/-- the deed of the call c -/
def DeedAt (C : Cs) (c : Kcs8.Call) : Sp := fun vs H Q E => ∃ (p : Nat) (nl rw_ : Addr) (F : Hp) (s : Abs) (ad : Ad), Kcs8.caller c = some p ∧ p < 16 ∧ vs = [.ref (ad .house), .ref nl, .ref rw_] ∧ Rep C (upd F rw_ (.lst (nats (rowD c)))) H s ad ∧ F rw_ = none ∧
  H nl = some (.lst (nats (numsOf c))) ∧ (rowD c).length ≤ 400 ∧ (∀ n : Int, Kcs8.step s c = (s, .num n) → n < 0 → Rz C n H E) ∧
  ∀ H' p' ad', ad' .house = ad .house → F p' = none → Rep C F H' (Kcs8.step s c).1 ad' → H' p' = some (.lst ((saidTo c s).map V.int)) → Q (.ref p') H'
def Deed (C : Cs) (j : Nat) : Sp := fun vs H Q E => ∃ c, idx c = j ∧ DeedAt C c vs H Q E
theorem Deed.len {C : Cs} {j : Nat} {vs : List V} {H : Hp} {Q : VK} {E : XK} (h : Deed C j vs H Q E) : vs.length = 3 := by
  obtain ⟨_, _, _, _, _, _, _, _, _, _, rfl, _⟩ := h
  rfl
theorem step_fair {s : Abs} {c : Kcs8.Call} {p : Nat} (hc : Kcs8.caller c = some p) (hp : p < 16) (hf : Kcs8.fair c = true) : Kcs8.step s c = Kcs8.does s c := by
  unfold Kcs8.step
  rw [hc]
  show (if Kcs8.PEOPLE ≤ p ∨ Kcs8.fair c = false then _ else _) = _
  rw [if_neg]
  rintro (h | h)
  · have : 16 ≤ p := h
    omega
  · rw [hf] at h
    cases h
theorem step_unfair {s : Abs} {c : Kcs8.Call} {p : Nat} (hc : Kcs8.caller c = some p) (hf : Kcs8.fair c = false) : Kcs8.step s c = (s, .num (-22)) := by
  unfold Kcs8.step
  rw [hc]
  show (if Kcs8.PEOPLE ≤ p ∨ Kcs8.fair c = false then _ else _) = _
  rw [if_pos (.inr hf)]
theorem within_no {s : Abs} {f k p : Nat} {g : KRoom → Member → Abs × Kcs8.Ans} (h : Kcs8.inRoom s f k p = none) : Kcs8.within s f k p g = (s, .num (-2)) := by
  unfold Kcs8.within
  rw [h]
theorem inRoom_some {s : Abs} {f k p : Nat} {r : KRoom} {m : Member} (hr : roomOf s f k = some r) (hm : memberOf r p = some m) : Kcs8.inRoom s f k p = some (r, m) := by
  unfold Kcs8.inRoom
  rw [hr]
  show (memberOf r p).map _ = _
  rw [hm]
  rfl
theorem within_at {s : Abs} {f k p : Nat} {r : KRoom} {m : Member} {g : KRoom → Member → Abs × Kcs8.Ans} (hr : roomOf s f k = some r) (hm : memberOf r p = some m) : Kcs8.within s f k p g = g r m := by
  unfold Kcs8.within
  rw [inRoom_some hr hm]
/-- the answer is one number -/
theorem fin_num {C : Cs} {F H1 : Hp} {s s' : Abs} {ad ad' : Ad} {c : Kcs8.Call} {v : Int} {Q : VK} (kQ : ∀ H' p' ad', ad' .house = ad .house → F p' = none → Rep C F H' (Kcs8.step s c).1 ad' → H' p' = some (.lst ((saidTo c s).map V.int)) → Q (.ref p') H')
    (es : Kcs8.step s c = (s', .num v)) (a' : ad' .house = ad .house) (R' : Rep C F H1 s' ad') : [V.int v].length ≤ sizeLine ∧ ∀ p', H1 p' = none → Q (.ref p') (upd H1 p' (.lst [V.int v])) := by
  refine ⟨by show 1 ≤ sizeLine; exact line_le (by decide), fun p' hp' => kQ _ p' ad' a' (R'.free hp') ?_ ?_⟩
  · rw [es]
    exact R'.same (same_new hp')
  · unfold saidTo
    rw [es]
    exact upd_same
theorem row_off {C : Cs} {F H : Hp} {s : Abs} {ad : Ad} {a : Addr} {o : HO} (R : Rep C (upd F a o) H s ad) (hF : F a = none) : Rep C F H s ad :=
  R.weak fun b u e => by
    rw [upd_ne (fun z => by rw [z, hF] at e; cases e)]
    exact e
theorem nats_at {l : List Nat} {i x : Nat} (h : l[i]? = some x) : atI (nats l) (i : Int) = some (.int (x : Int)) := by
  refine atI_nat ?_
  unfold nats
  rw [List.getElem?_map, h]
  rfl
section
variable {C : Cs} {F H : Hp} {s : Abs} {ad : Ad} {p f k : Nat} {rest : List Nat} {nl : Addr} {σ : L2.St} {Q : VK} {E : XK}
/-- Place(house, numbers): what its __init__ is handed, and what comes of it -/
theorem place_sp {x dx : Addr} {Q : Hp → Prop} (hx : H x = none) (hdx : H dx = none) (R : Rep C F H s ad) (hnl : H nl = some (.lst (nats (p :: f :: k :: rest)))) (kn : Kcs8.inRoom s f k p = none → Rz C (-2) H E)
    (ks : ∀ r m, roomOf s f k = some r → memberOf r p = some m → ∀ H', Same H H' → H' x = some (.ins C.place dx (placeF ad f k p)) → Q H') :
    spPlaceI C [.ref x, .ref (ad .house), .ref nl] (upd (upd H dx (.own x)) x (.ins C.place dx [])) (fun v H2 => v = .non ∧ Q H2) E := by
  have sH : Same H (upd (upd H dx (.own x)) x (.ins C.place dx [])) := same_upd (same_new hdx) hx
  refine ⟨x, dx, nl, F, s, ad, p, f, k, rest, rfl, upd_same, R.same sH, sH _ _ hnl, fun e => (kn e).mono sH, fun r m hr hm H' b e => ⟨rfl, ks r m hr hm H' (fun b' o e' => b b' o (sH _ _ e') (ne_of_none e' hx)) e⟩⟩
end
section
variable {P : Program} {w : World} {K : PySem.W.Frag} {mg : Str → Option Value} {base : Heap} {C : Cs}
/-- the defs that deeds call -/
structure Tools (P : Program) (w : World) (K : PySem.W.Frag) (mg : Str → Option Value) (base : Heap) (C : Cs) : Prop where
  ask : Cal P w K mg base (L2.CX P w) 3 "ask" (spAsk C)
  person : Cal P w K mg base (L2.CX P w) 4 "ask_person" (spAskPerson C)
  flag : Cal P w K mg base (L2.CX P w) 4 "ask_flag" (spAskFlag C)
  place : Mak P w K mg base (L2.CX P w) 4 "Place" C.place (spPlaceI C)
  keeper : CalM P w K mg base (L2.CX P w) 4 C.place "ask_keeper" (spKeeper C)
  there : CalM P w K mg base (L2.CX P w) 4 C.place "ask_there" (spAskThere C)
  seen : CalM P w K mg base (L2.CX P w) 4 C.place "ask_seen" (spAskSeen C)
  roomAt : Cal P w K mg base CX0 1 "room_at" (spRoomAt C)
  memberOf : Cal P w K mg base CX0 1 "member_of" (spMemberOf C)
  isKnown : Cal P w K mg base CX0 2 "is_known" (spIsKnown C)
  takeOut : Cal P w K mg base CX0 2 "take_out" (spTakeOut C)
  join : Cal P w K mg base CX0 3 "join" (spJoin C)
  remove : Cal P w K mg base CX0 1 "remove" (spRemove C)
  turn : Cal P w K mg base CX0 1 "turn_mark" (spTurn C)
  marks : Cal P w K mg base CX0 1 "many_marks" (spMarks C)
  unread : Cal P w K mg base CX0 1 "many_unread" (spUnread C)
  places : Cal P w K mg base CX0 4 "places_of" (spPlaces C)
  allRooms : Cal P w K mg base CX0 1 "all_rooms" (spAllRooms C)
  isText : Cal P w K mg base CX0 1 "is_text" spIsText
  isWord : Cal P w K mg base CX0 3 "is_word" spIsWord
  smallWord : Cal P w K mg base CX0 3 "small_word" spSmallWord
  mkRoom : Mak P w K mg base CX0 1 "Room" C.room (spRoomI C)
  mkMember : Mak P w K mg base CX0 1 "Member" C.mem (spMemberI C)
  mkMessage : Mak P w K mg base CX0 1 "Message" C.msg (spMessageI C)
  mkHouse : Mak P w K mg base CX0 1 "House" C.house (spHouseI C)
theorem cal_invite (T : Txt K mg C) (U : Tools P w K mg base C) (D : Def K mg "do_invite" s_do_invite) : Cal P w K mg base (L2.CX P w) 6 "do_invite" (Deed C 2) := by
  obtain ⟨f, fd, F, hm⟩ := D.ex
  refine ⟨f, fd, _, F.okX sc_do_invite (fun vs H Q E h => h.len) (fun cdv A outer s H vs Q E hr h => ?_), hm, F.kp, F.binds fun _ _ _ _ _ _ us hl => match us, hl with | [_, _, _], _ => rfl⟩
  obtain ⟨c, hj, h⟩ := h
  obtain ⟨p, fo, n, q, rfl⟩ := idx_invite hj
  · obtain ⟨p', nl, rw_, Fr, S, ad, hc, hp, rfl, R, hF, hnl, hlen, kE, kQ⟩ := h
    cases hc
    replace R := row_off R hF
    refine ⟨_, pss_cons (ps_set (i := 3) sc_do_invite.nd rfl (.inl rfl) (pe_ix ix_list (pv 1) pe_int (fun _ _ => rfl)))
      (pss_cons (ps_expr (pe_c U.person hr passE (pa_cons (pv 3) pa_nil)))
      (pss_cons (ps_set (i := 4) sc_do_invite.nd rfl (.inl rfl) (pe_k U.place hr passE (pa_cons (pv 0) (pa_cons (pv 1) pa_nil))))
      (pss_cons (ps_expr (pe_m0 U.keeper T.c_place hr passE (pv 4)))
      (pss_cons (ps_set (i := 5) sc_do_invite.nd rfl (.inl rfl) (pe_fld (pv 4) rfl))
      (pss_cons (ps_expr (pe_c U.ask hr passE (pa_cons (pe_not (pe_c U.isKnown hr pass0 (pa_cons (pv 5) (pa_cons (pv 3) pa_nil)))) (pa_cons (pe_n T.k_ALREADY) pa_nil))))
      (pss_cons (ps_expr (pe_c U.ask hr passE (pa_cons (pe_cmpR op_lt (pe_op op_add (pe_callB call_len_seq (by rfl) T.b_len PySem.boot_len (pa_cons (pe_fld (pv 5) rfl) pa_nil)) (pe_callB call_lenD (by rfl) T.b_len PySem.boot_len (pa_cons (pe_fld (pv 5) rfl) pa_nil))) (pe_n T.k_MOST_PEOPLE) (nomark _)) (pa_cons (pe_n T.k_FULL) pa_nil))))
      (pss_cons (ps_dput (hu_of hr) (pe_fld (pv 5) rfl) (pv 3) pe_bl rfl)
      (pss_one (ps_ret (pe_lst (pa_cons pe_int pa_nil))))))))))), ?_⟩
    refine ⟨_, rfl, nl, _, 3, _, rfl, rfl, SqL.of hnl, nats_at (l := [p, fo, n, q]) (i := 3) rfl, ?_⟩
    refine ⟨_, rfl, q, rfl, fun hq => ?_, fun hq => kE _ (step_unfair rfl (decide_eq_false (by show ¬ q < 16; omega))) (by decide)⟩
    have hfair : Kcs8.fair (.invite p fo n q) = true := decide_eq_true (by show q < 16; exact hq)
    have es := step_fair (s := S) (c := .invite p fo n q) rfl hp hfair
    refine ⟨_, rfl, _, rfl, fun x dx hx hdx hne => place_sp hx hdx R hnl (fun e => kE _ (es.trans (within_no e)) (by decide)) fun r m hr0 hmo H1 s1 e1 => ?_⟩
    have ew : Kcs8.step S (.invite p fo n q) = _ := es.trans (within_at hr0 hmo)
    have R1 := R.same s1
    refine ⟨_, rfl, x, dx, _, rfl, e1, rfl, x, dx, Fr, S, ad, fo, n, p, r, m, rfl, e1, R1, hr0, hmo, fun hk => ?_, fun hk => (kE _ (by rw [ew, if_pos hk]) (by decide)).mono s1⟩
    have hk' : ¬ m.keeper = false := by rw [hk]; exact Bool.noConfusion
    rw [if_neg hk'] at ew
    obtain ⟨dr, hroom⟩ := R1.at_room hr0
    have ok := R.wf.room hr0
    refine ⟨_, rfl, x, C.place, dx, _, _, rfl, e1, T.c_place, T.n_place_room, rfl, ?_⟩
    refine ⟨_, rfl, _, rfl, Fr, S, ad, fo, n, r, q, rfl, R1, hr0, _, rfl, _, -17, rfl, fun hkn => ?_, fun hkn => ?_⟩
    · have hk1 : Kcs8.isIn r q = false := by
        have h0 : (!(Kcs8.isIn r q || r.invited.contains q)) = true := hkn
        simp only [Bool.not_eq_true', Bool.or_eq_false_iff] at h0
        exact h0.1
      have hk2 : r.invited.contains q = false := by
        have h0 : (!(Kcs8.isIn r q || r.invited.contains q)) = true := hkn
        simp only [Bool.not_eq_true', Bool.or_eq_false_iff] at h0
        exact h0.2
      rw [if_neg (by rw [hk1, hk2]; simp)] at ew
      have hq0 : memberOf r q = none := by
        unfold Kcs8.isIn at hk1
        cases e : memberOf r q with
        | none => rfl
        | some _ =>
          rw [e] at hk1
          cases hk1
      have hq1 : q ∉ r.invited := fun z => by
        have : r.invited.contains q = true := by simpa using z
        rw [this] at hk2
        cases hk2
      refine ⟨_, rfl, _, C.room, dr, _, _, rfl, hroom, T.c_room, T.n_room_members, rfl, _, _, rfl, .inl (SqL.of (R1.at_mems hr0)), _, rfl, _, C.room, dr, _, _, rfl, hroom, T.c_room, T.n_room_invited, rfl, _, _, rfl, R1.at_inv hr0, _, _, rfl, rfl, _, _, rfl, rfl, _, -28, rfl, fun hl => ?_, fun hl => ?_⟩
      · have hl' : r.members.length + r.invited.length < 12 := by
          have h0 := of_decide_eq_true hl
          rw [memsL_length] at h0
          have : (invK r.invited).length = r.invited.length := List.length_map _
          rw [this] at h0
          omega
        rw [if_neg (by show ¬ 12 ≤ _; omega)] at ew
        refine ⟨_, rfl, _, C.room, dr, _, _, rfl, hroom, T.c_room, T.n_room_invited, rfl, _, rfl, _, _, rfl, DPut.k (k := Sum.inl (q : Int)) (R1.at_inv hr0) (small1000 (by unfold invK; rw [List.length_map]; omega)), ?_⟩
        rw [putK_inv hq1]
        have R2 := R1.invited hr0 (r.invited ++ [q]) (ok.invite hq hq0 hq1 hl')
        exact fin_num kQ ew rfl R2
      · have hl' : ¬ r.members.length + r.invited.length < 12 := fun z => by
          have h0 := of_decide_eq_false hl
          rw [memsL_length] at h0
          have : (invK r.invited).length = r.invited.length := List.length_map _
          rw [this] at h0
          omega
        rw [if_pos (by show 12 ≤ _; omega)] at ew
        exact (kE _ ew (by decide)).mono s1
    · have h0 : (!(Kcs8.isIn r q || r.invited.contains q)) = false := hkn
      simp only [Bool.not_eq_false', Bool.or_eq_true] at h0
      rw [if_pos h0] at ew
      exact (kE _ ew (by decide)).mono s1
end
end Tr
/-! deeds.py: rooms and people, further -/
namespace Tr
open PySem PySem.Spec PyProof.Rows L2
open Kcs8 (Abs Member Message roomOf memberOf withRoom withMessage sees)
theorem past_eq {b : Nat} (h : b ≤ 1) : V.int (b : Int) = pastV (b == 1) := by
  rcases (by omega : b = 0 ∨ b = 1) with rfl | rfl <;> rfl
section
variable {P : Program} {w : World} {K : PySem.W.Frag} {mg : Str → Option Value} {base : Heap} {C : Cs}
theorem cal_found (T : Txt K mg C) (U : Tools P w K mg base C) (D : Def K mg "do_found" s_do_found) : Cal P w K mg base (L2.CX P w) 6 "do_found" (Deed C 1) := by
  obtain ⟨f, fd, F, hm⟩ := D.ex
  refine ⟨f, fd, _, F.okX sc_do_found (fun vs H Q E h => h.len) (fun cdv A outer s H vs Q E hr h => ?_), hm, F.kp, F.binds fun _ _ _ _ _ _ us hl => match us, hl with | [_, _, _], _ => rfl⟩
  obtain ⟨c, hj, h⟩ := h
  obtain ⟨p, b, rfl⟩ := idx_found hj
  obtain ⟨p', nl, rw_, Fr, S, ad, hc, hp, rfl, R, hF, hnl, hlen, kE, kQ⟩ := h
  cases hc
  replace R := row_off R hF
  refine ⟨_, pss_cons (ps_asg (pv 1) (pg_lst rfl (pgs_cons (pg_name (i := 3) sc_do_found.nd rfl (.inl rfl)) (pgs_cons (pg_name (i := 4) sc_do_found.nd rfl (.inl rfl)) pgs_nil))))
    (pss_cons (ps_expr (pe_c U.flag hr passE (pa_cons (pv 4) pa_nil)))
    (pss_cons (ps_set (i := 5) sc_do_found.nd rfl (.inl rfl) (pe_ix ix_list (pe_fld (pv 0) rfl) (pv 3) (fun _ _ => rfl)))
    (pss_cons (ps_expr (pe_c U.ask hr passE (pa_cons (pe_cmpR op_lt (pe_callB call_len_seq (by rfl) T.b_len PySem.boot_len (pa_cons (pv 5) pa_nil)) (pe_n T.k_MOST_FOUNDED) (nomark _)) (pa_cons (pe_n T.k_FULL) pa_nil))))
    (pss_cons (ps_set (i := 6) sc_do_found.nd rfl (.inl rfl) (pe_k U.mkRoom hr pass0 (pa_cons (pv 4) pa_nil)))
    (pss_cons (ps_expr (pe_bm PySem.F.plainAttrs_list PySem.F.slot_list_append PySem.F.type_list_append mt_append (pe_fld (pv 6) rfl) (pa_cons (pe_k U.mkMember hr pass0 (pa_cons (pv 3) (pa_cons pe_bl (pa_cons pe_int pa_nil)))) pa_nil)))
    (pss_cons (ps_expr (pe_bm PySem.F.plainAttrs_list PySem.F.slot_list_append PySem.F.type_list_append mt_append (pv 5) (pa_cons (pv 6) pa_nil)))
    (pss_one (ps_ret (pe_lst (pa_cons (pe_op op_sub (pe_callB call_len_seq (by rfl) T.b_len PySem.boot_len (pa_cons (pv 5) pa_nil)) pe_int) pa_nil)))))))))), ?_⟩
  refine ⟨_, rfl, nl, _, rfl, SqL.of hnl, rfl, _, _, rfl, _, _, rfl, rfl, ?_⟩
  refine ⟨_, rfl, b, rfl, fun hb => ?_, fun hb => kE _ (step_unfair rfl (decide_eq_false (by show ¬ b ≤ 1; omega))) (by decide)⟩
  have hfair : Kcs8.fair (.found p b) = true := decide_eq_true (by show b ≤ 1; exact hb)
  have es := step_fair (s := S) (c := .found p b) rfl hp hfair
  obtain ⟨dh, hh⟩ := R.at_house
  have hmine := R.at_mine hp
  refine ⟨_, rfl, _, C.house, dh, _, _, rfl, hh, T.c_house, T.n_house_founded, rfl, _, rfl, _, _, _, _, rfl, rfl, SqL.of R.at_fnd, atI_nat (fndL_get ad hp), ?_⟩
  refine ⟨_, rfl, _, _, rfl, .inl (SqL.of hmine), _, _, rfl, rfl, _, -28, rfl, fun hl => ?_, fun hl => ?_⟩
  · have h4 : cnt S p < 4 := by
      have h0 := of_decide_eq_true hl
      rw [mineL_length] at h0
      omega
    have ew : Kcs8.step S (.found p b) = (foundS S p (b == 1), .num (cnt S p)) := es.trans (if_neg (by show ¬ 4 ≤ cnt S p; omega))
    have ep := past_eq hb
    refine ⟨_, rfl, fun x dx hx hdx hne => ⟨x, dx, .int (b : Int), rfl, upd_same, fun H2 ma ia ga b2 hma hia hga e1 e2 e3 nmg ex => ⟨rfl, ?_⟩⟩⟩
    rw [ep] at ex
    have s0 : Same H (upd (upd H dx (.own x)) x (.ins C.room dx [])) := same_upd (same_new hdx) hx
    have s2 : Same H H2 := Same.made hx hdx b2
    have hma' := s0.free hma
    have hia' := s0.free hia
    have hga' := s0.free hga
    refine ⟨_, rfl, x, C.room, dx, _, _, rfl, ex, T.c_room, T.n_room_members, rfl, .inl ⟨rfl, _, SqL.of e1⟩, ?_⟩
    refine ⟨_, rfl, fun y dy hy hdy hne2 => ⟨y, dy, p, true, 0, rfl, upd_same, fun H3 b3 ey => ⟨rfl, ?_⟩⟩⟩
    have s3 : Same H2 H3 := Same.made hy hdy b3
    have hy' := s2.free hy
    refine ⟨ma, [], _, rfl, rfl, s3 _ _ e1, line_lt (by decide), ?_⟩
    have nxm : x ≠ ma := fun z => by rw [z, e1] at ex; cases ex
    have nym : y ≠ ma := fun z => by rw [z, e1] at hy; cases hy
    have nim : ia ≠ ma := fun z => by rw [z, e1] at e2; cases e2
    have nxi : x ≠ ia := fun z => by rw [z, e2] at ex; cases ex
    have nxg : x ≠ ga := fun z => by rw [z, e3] at ex; cases ex
    have nig : ia ≠ ga := fun z => by rw [z, e3] at e2; cases e2
    have nxy : x ≠ y := fun z => by rw [← z, ex] at hy; cases hy
    have nyi : y ≠ ia := fun z => by rw [z, e2] at hy; cases hy
    have nyg : y ≠ ga := fun z => by rw [z, e3] at hy; cases hy
    let F1 : Hp := upd (upd (upd (upd (upd Fr x (.ins C.room dx [("past", pastV (b == 1)), ("members", .ref ma), ("invited", .ref ia), ("messages", .ref ga)])) ma (.lst [V.ref y])) ia (.dK [])) ga (.lst [])) y (.ins C.mem dy (memF ⟨p, true, 0, 0⟩))
    have fy : F1 y = some (.ins C.mem dy (memF ⟨p, true, 0, 0⟩)) := upd_same
    have fg : F1 ga = some (.lst []) := by
      show upd _ y _ ga = _
      rw [upd_ne nyg.symm]
      exact upd_same
    have fi : F1 ia = some (.dK []) := by
      show upd _ y _ ia = _
      rw [upd_ne nyi.symm, upd_ne nig]
      exact upd_same
    have fm : F1 ma = some (.lst [V.ref y]) := by
      show upd _ y _ ma = _
      rw [upd_ne nym.symm, upd_ne nmg, upd_ne nim.symm]
      exact upd_same
    have fx : F1 x = some (.ins C.room dx [("past", pastV (b == 1)), ("members", .ref ma), ("invited", .ref ia), ("messages", .ref ga)]) := by
      show upd _ y _ x = _
      rw [upd_ne nxy, upd_ne nxg, upd_ne nxi, upd_ne nxm]
      exact upd_same
    have fo : ∀ q, q ≠ x → q ≠ ma → q ≠ ia → q ≠ ga → q ≠ y → F1 q = Fr q := fun q n1 n2 n3 n4 n5 => by
      show upd _ y _ q = _
      rw [upd_ne n5, upd_ne n4, upd_ne n3, upd_ne n2, upd_ne n1]
    have sH4 : Same H (upd H3 ma (.lst ([] ++ [V.ref y]))) := same_upd (s2.trans s3) hma'
    have R4 : Rep C F1 (upd H3 ma (.lst ([] ++ [V.ref y]))) S ad := by
      refine R.over (fun q o e => ?_) (fun q u e e' => ⟨sH4 q u e, ?_⟩)
      · by_cases c1 : q = x
        · rw [c1, fx] at e
          cases e
          rw [c1, upd_ne nxm]
          exact s3 _ _ ex
        · by_cases c2 : q = ma
          · rw [c2, fm] at e
            cases e
            rw [c2]
            exact upd_same
          · by_cases c3 : q = ia
            · rw [c3, fi] at e
              cases e
              rw [c3, upd_ne nim]
              exact s3 _ _ e2
            · by_cases c4 : q = ga
              · rw [c4, fg] at e
                cases e
                rw [c4, upd_ne nmg.symm]
                exact s3 _ _ e3
              · by_cases c5 : q = y
                · rw [c5, fy] at e
                  cases e
                  rw [c5, upd_ne nym]
                  exact ey
                · rw [fo q c1 c2 c3 c4 c5] at e
                  exact sH4 q o (R.sub q o e)
      · rw [fo q (ne_of_none e hx) (ne_of_none e hma') (ne_of_none e hia') (ne_of_none e hga') (ne_of_none e hy')]
        exact e'
    obtain ⟨ad5, a5, b5, R5⟩ := R4.found (F := Fr) (fun q o e => by
      have e' := R.sub q o e
      rw [fo q (ne_of_none e' hx) (ne_of_none e' hma') (ne_of_none e' hia') (ne_of_none e' hga') (ne_of_none e' hy')]
      exact e) hp h4 fx (R.free hx) fm (R.free hma') fi (R.free hia') fg (R.free hga') fy (R.free hy') nxy
    refine ⟨_, rfl, .inl ⟨rfl, _, SqL.of (sH4 _ _ hmine)⟩, _, rfl, _, _, _, rfl, rfl, sH4 _ _ hmine, line_lt (by rw [mineL_length]; omega), ?_⟩
    refine ⟨_, rfl, _, _, rfl, .inl (SqL.of upd_same), _, _, rfl, rfl, ?_⟩
    have ev : (((mineL ad p (cnt S p) ++ [V.ref x]).length : Nat) : Int) - 1 = (cnt S p : Int) := by
      rw [List.length_append, mineL_length]
      show ((cnt S p + 1 : Nat) : Int) - 1 = _
      omega
    have fin := fin_num kQ ew a5 R5
    rw [← ev] at fin
    exact fin
  · have h4 : 4 ≤ cnt S p := by
      have h0 := of_decide_eq_false hl
      rw [mineL_length] at h0
      omega
    exact kE _ (es.trans (if_pos (by show 4 ≤ cnt S p; exact h4))) (by decide)
theorem cal_do_join (T : Txt K mg C) (U : Tools P w K mg base C) (D : Def K mg "do_join" s_do_join) : Cal P w K mg base (L2.CX P w) 6 "do_join" (Deed C 3) := by
  obtain ⟨f, fd, F, hm⟩ := D.ex
  refine ⟨f, fd, _, F.okX sc_do_join (fun vs H Q E h => h.len) (fun cdv A outer s H vs Q E hr h => ?_), hm, F.kp, F.binds fun _ _ _ _ _ _ us hl => match us, hl with | [_, _, _], _ => rfl⟩
  obtain ⟨c, hj, h⟩ := h
  obtain ⟨p, fo, n, rfl⟩ := idx_join hj
  obtain ⟨p', nl, rw_, Fr, S, ad, hc, hp, rfl, R, hF, hnl, hlen, kE, kQ⟩ := h
  cases hc
  replace R := row_off R hF
  refine ⟨_, pss_cons (ps_asg (pv 1) (pg_lst rfl (pgs_cons (pg_name (i := 3) sc_do_join.nd rfl (.inl rfl)) (pgs_cons (pg_name (i := 4) sc_do_join.nd rfl (.inl rfl)) (pgs_cons (pg_name (i := 5) sc_do_join.nd rfl (.inl rfl)) pgs_nil)))))
    (pss_cons (ps_set (i := 6) sc_do_join.nd rfl (.inl rfl) (pe_c U.roomAt hr pass0 (pa_cons (pv 0) (pa_cons (pv 4) (pa_cons (pv 5) pa_nil)))))
    (pss_cons (ps_expr (pe_c U.ask hr passE (pa_cons (pe_and (pe_cmpR op_notN (pv 6) pe_non (nomark _)) (pe_one (pe_cmp (pc_din (hu_of hr) (pv 3) (pe_fld (pv 6) rfl))))) (pa_cons (pe_n T.k_NO_ROOM) pa_nil))))
    (pss_cons (ps_expr (pe_c U.join hr pass0 (pa_cons (pv 6) (pa_cons (pv 3) pa_nil))))
    (pss_one (ps_ret (pe_lst (pa_cons pe_int pa_nil))))))), ?_⟩
  have es := step_fair (s := S) (c := .join p fo n) rfl hp rfl
  refine ⟨_, rfl, nl, _, rfl, SqL.of hnl, rfl, _, _, rfl, _, _, rfl, _, _, rfl, rfl, ?_⟩
  refine ⟨_, rfl, _, rfl, _, rfl, Fr, S, ad, fo, n, rfl, R, ?_⟩
  cases hr0 : roomOf S fo n with
  | none =>
    have ew : Kcs8.step S (.join p fo n) = (S, .num (-2)) := by
      rw [es]
      show (match roomOf S fo n with | none => _ | some r => _) = _
      rw [hr0]
    exact ⟨_, rfl, rfl, false, rfl, iteF ⟨false, -2, rfl, fun z => Bool.noConfusion z, fun _ => kE _ ew (by decide)⟩⟩
  | some r =>
    obtain ⟨dr, hroom⟩ := R.at_room hr0
    have ew : Kcs8.step S (.join p fo n) = if r.invited.contains p = false then (S, .num (-2)) else (withRoom S (joinR r p), .num 0) := by
      rw [es]
      show (match roomOf S fo n with | none => _ | some r => _) = _
      rw [hr0]
      rfl
    have e2 : (valV (invK r.invited) (Sum.inl (p : Int))).isSome = r.invited.contains p := by
      rw [valV_inv]
      by_cases h : p ∈ r.invited
      · rw [if_pos h]
        simp [h]
      · rw [if_neg h]
        simp [h]
    refine ⟨_, rfl, rfl, true, rfl, iteT ⟨_, rfl, _, rfl, _, C.room, dr, _, _, rfl, hroom, T.c_room, T.n_room_invited, rfl, _, _, rfl, DGet.k (k := Sum.inl (p : Int)) (R.at_inv hr0), _, -2, rfl, fun hi => ?_, fun hi => ?_⟩⟩
    · rw [e2] at hi
      rw [if_neg (by rw [hi]; exact Bool.noConfusion)] at ew
      refine ⟨_, rfl, _, rfl, Fr, S, ad, fo, n, r, p, rfl, R, hr0, by simpa using hi, fun H2 ad2 a2 R2 => ?_⟩
      exact fin_num kQ ew a2 R2
    · rw [e2] at hi
      rw [if_pos hi] at ew
      exact kE _ ew (by decide)
theorem cal_leave (T : Txt K mg C) (U : Tools P w K mg base C) (D : Def K mg "do_leave" s_do_leave) : Cal P w K mg base (L2.CX P w) 6 "do_leave" (Deed C 4) := by
  obtain ⟨f, fd, F, hm⟩ := D.ex
  refine ⟨f, fd, _, F.okX sc_do_leave (fun vs H Q E h => h.len) (fun cdv A outer s H vs Q E hr h => ?_), hm, F.kp, F.binds fun _ _ _ _ _ _ us hl => match us, hl with | [_, _, _], _ => rfl⟩
  obtain ⟨c, hj, h⟩ := h
  obtain ⟨p, fo, n, rfl⟩ := idx_leave hj
  obtain ⟨p', nl, rw_, Fr, S, ad, hc, hp, rfl, R, hF, hnl, hlen, kE, kQ⟩ := h
  cases hc
  replace R := row_off R hF
  refine ⟨_, pss_cons (ps_expr (pe_c U.takeOut hr pass0 (pa_cons (pe_fld (pe_k U.place hr passE (pa_cons (pv 0) (pa_cons (pv 1) pa_nil))) rfl) (pa_cons (pe_ix ix_list (pv 1) pe_int (fun _ _ => rfl)) pa_nil))))
    (pss_one (ps_ret (pe_lst (pa_cons pe_int pa_nil)))), ?_⟩
  have es := step_fair (s := S) (c := .leave p fo n) rfl hp rfl
  refine ⟨_, rfl, _, rfl, fun x dx hx hdx hne => place_sp hx hdx R hnl (fun e => kE _ (es.trans (within_no e)) (by decide)) fun r m hr0 hmo H1 s1 e1 => ?_⟩
  have ok := R.wf.room hr0
  have hni : p ∉ r.invited := by
    have h0 := ok.dis m (memberOf_some hmo).1
    rw [(memberOf_some hmo).2] at h0
    exact h0
  have eo : outR r p = { r with members := Kcs8.kept (Kcs8.without r.members p) } := by
    have e : r.invited.filter (· != p) = r.invited := List.filter_eq_self.mpr fun b hb => by
      have : b ≠ p := fun z => hni (z ▸ hb)
      simpa using this
    unfold outR
    rw [e]
  have ew : Kcs8.step S (.leave p fo n) = (withRoom S (outR r p), .num 0) := by
    rw [es, eo]
    exact within_at hr0 hmo
  refine ⟨x, C.place, dx, _, _, rfl, e1, T.c_place, T.n_place_room, rfl, ?_⟩
  refine ⟨_, rfl, nl, _, 0, _, rfl, rfl, SqL.of (s1 _ _ hnl), nats_at (l := [p, fo, n]) (i := 0) rfl, ?_⟩
  exact ⟨Fr, S, ad, fo, n, r, p, rfl, R.same s1, hr0, fun H2 ad2 a2 R2 => fin_num kQ ew a2 R2⟩
theorem cal_out (T : Txt K mg C) (U : Tools P w K mg base C) (D : Def K mg "do_out" s_do_out) : Cal P w K mg base (L2.CX P w) 6 "do_out" (Deed C 5) := by
  obtain ⟨f, fd, F, hm⟩ := D.ex
  refine ⟨f, fd, _, F.okX sc_do_out (fun vs H Q E h => h.len) (fun cdv A outer s H vs Q E hr h => ?_), hm, F.kp, F.binds fun _ _ _ _ _ _ us hl => match us, hl with | [_, _, _], _ => rfl⟩
  obtain ⟨c, hj, h⟩ := h
  obtain ⟨p, fo, n, q, rfl⟩ := idx_out hj
  obtain ⟨p', nl, rw_, Fr, S, ad, hc, hp, rfl, R, hF, hnl, hlen, kE, kQ⟩ := h
  cases hc
  replace R := row_off R hF
  refine ⟨_, pss_cons (ps_set (i := 3) sc_do_out.nd rfl (.inl rfl) (pe_ix ix_list (pv 1) pe_int (fun _ _ => rfl)))
    (pss_cons (ps_expr (pe_c U.person hr passE (pa_cons (pv 3) pa_nil)))
    (pss_cons (ps_set (i := 4) sc_do_out.nd rfl (.inl rfl) (pe_k U.place hr passE (pa_cons (pv 0) (pa_cons (pv 1) pa_nil))))
    (pss_cons (ps_expr (pe_m0 U.keeper T.c_place hr passE (pv 4)))
    (pss_cons (ps_expr (pe_c U.ask hr passE (pa_cons (pe_and (pe_cmpR op_ne (pv 3) (pe_ix ix_list (pv 1) pe_int (fun _ _ => rfl)) (nomark _)) (pe_one (pe_c U.isKnown hr pass0 (pa_cons (pe_fld (pv 4) rfl) (pa_cons (pv 3) pa_nil))))) (pa_cons (pe_n T.k_NO_SUCH) pa_nil))))
    (pss_cons (ps_expr (pe_c U.takeOut hr pass0 (pa_cons (pe_fld (pv 4) rfl) (pa_cons (pv 3) pa_nil))))
    (pss_one (ps_ret (pe_lst (pa_cons pe_int pa_nil))))))))), ?_⟩
  refine ⟨_, rfl, nl, _, 3, _, rfl, rfl, SqL.of hnl, nats_at (l := [p, fo, n, q]) (i := 3) rfl, ?_⟩
  refine ⟨_, rfl, q, rfl, fun hq => ?_, fun hq => kE _ (step_unfair rfl (decide_eq_false (by show ¬ q < 16; omega))) (by decide)⟩
  have hfair : Kcs8.fair (.out p fo n q) = true := decide_eq_true (by show q < 16; exact hq)
  have es := step_fair (s := S) (c := .out p fo n q) rfl hp hfair
  refine ⟨_, rfl, _, rfl, fun x dx hx hdx hne => place_sp hx hdx R hnl (fun e => kE _ (es.trans (within_no e)) (by decide)) fun r m hr0 hmo H1 s1 e1 => ?_⟩
  have ew : Kcs8.step S (.out p fo n q) = _ := es.trans (within_at hr0 hmo)
  have R1 := R.same s1
  refine ⟨_, rfl, x, dx, _, rfl, e1, rfl, x, dx, Fr, S, ad, fo, n, p, r, m, rfl, e1, R1, hr0, hmo, fun hk => ?_, fun hk => (kE _ (by rw [ew, if_pos hk]) (by decide)).mono s1⟩
  have hk' : ¬ m.keeper = false := by rw [hk]; exact Bool.noConfusion
  rw [if_neg hk'] at ew
  have bad : (q = p ∨ (Kcs8.isIn r q = false ∧ r.invited.contains q = false)) → Rz C (-61) H1 E := fun h => (kE _ (by rw [ew, if_pos h]) (by decide)).mono s1
  refine ⟨_, rfl, _, rfl, nl, _, 0, _, rfl, rfl, SqL.of (s1 _ _ hnl), nats_at (l := [p, fo, n, q]) (i := 0) rfl, rfl, _, rfl, ite2 (fun c => ?_) (fun c => ?_)⟩
  · have hqp : q ≠ p := fun z => by
      rw [z] at c
      simp at c
    refine ⟨_, rfl, x, C.place, dx, _, _, rfl, e1, T.c_place, T.n_place_room, rfl, _, rfl, Fr, S, ad, fo, n, r, q, rfl, R1, hr0, _, -61, rfl, fun hkn => ?_, fun hkn => ?_⟩
    · have hn : ¬ (q = p ∨ (Kcs8.isIn r q = false ∧ r.invited.contains q = false)) := by
        rintro (z | ⟨z1, z2⟩)
        · exact hqp z
        · rw [z1, z2] at hkn
          cases hkn
      rw [if_neg hn] at ew
      have eo : outR r q = { r with members := Kcs8.without r.members q, invited := r.invited.filter (· != q) } := by
        have ha : ((Kcs8.without r.members q).any fun m => m.keeper) = true := by
          rw [List.any_eq_true]
          refine ⟨m, ?_, hk⟩
          unfold Kcs8.without
          rw [List.mem_filter]
          refine ⟨(memberOf_some hmo).1, ?_⟩
          rw [(memberOf_some hmo).2]
          simpa using hqp.symm
        unfold outR Kcs8.kept
        rw [ha, if_pos rfl]
      refine ⟨_, rfl, x, C.place, dx, _, _, rfl, e1, T.c_place, T.n_place_room, rfl, _, rfl, Fr, S, ad, fo, n, r, q, rfl, R1, hr0, fun H2 ad2 a2 R2 => ?_⟩
      rw [← eo] at ew
      exact fin_num kQ ew a2 R2
    · refine bad (.inr ?_)
      have h0 : (Kcs8.isIn r q || r.invited.contains q) = false := hkn
      rw [Bool.or_eq_false_iff] at h0
      exact h0
  · have hqp : q = p := by
      have c0 : ¬ (!decide (V.int (q : Int) = V.int (p : Int))) = true := c
      rw [decI, Bool.not_eq_true', decide_eq_false_iff_not] at c0
      have := Classical.not_not.mp c0
      omega
    exact ⟨false, -61, rfl, fun z => Bool.noConfusion z, fun _ => bad (.inl hqp)⟩
theorem cal_lift (T : Txt K mg C) (U : Tools P w K mg base C) (D : Def K mg "do_lift" s_do_lift) : Cal P w K mg base (L2.CX P w) 6 "do_lift" (Deed C 6) := by
  obtain ⟨f, fd, F, hm⟩ := D.ex
  refine ⟨f, fd, _, F.okX sc_do_lift (fun vs H Q E h => h.len) (fun cdv A outer s H vs Q E hr h => ?_), hm, F.kp, F.binds fun _ _ _ _ _ _ us hl => match us, hl with | [_, _, _], _ => rfl⟩
  obtain ⟨c, hj, h⟩ := h
  obtain ⟨p, fo, n, q, rfl⟩ := idx_lift hj
  obtain ⟨p', nl, rw_, Fr, S, ad, hc, hp, rfl, R, hF, hnl, hlen, kE, kQ⟩ := h
  cases hc
  replace R := row_off R hF
  refine ⟨_, pss_cons (ps_expr (pe_c U.person hr passE (pa_cons (pe_ix ix_list (pv 1) pe_int (fun _ _ => rfl)) pa_nil)))
    (pss_cons (ps_set (i := 3) sc_do_lift.nd rfl (.inl rfl) (pe_k U.place hr passE (pa_cons (pv 0) (pa_cons (pv 1) pa_nil))))
    (pss_cons (ps_expr (pe_m0 U.keeper T.c_place hr passE (pv 3)))
    (pss_cons (ps_set (i := 4) sc_do_lift.nd rfl (.inl rfl) (pe_c U.memberOf hr pass0 (pa_cons (pe_fld (pv 3) rfl) (pa_cons (pe_ix ix_list (pv 1) pe_int (fun _ _ => rfl)) pa_nil))))
    (pss_cons (ps_expr (pe_c U.ask hr passE (pa_cons (pe_cmpR op_notN (pv 4) pe_non (nomark _)) (pa_cons (pe_n T.k_NO_SUCH) pa_nil))))
    (pss_cons (ps_expr (pe_c U.ask hr passE (pa_cons (pe_not (pe_fld (pv 4) rfl)) (pa_cons (pe_n T.k_ALREADY) pa_nil))))
    (pss_cons (ps_fld (pv 4) pe_bl rfl)
    (pss_one (ps_ret (pe_lst (pa_cons pe_int pa_nil)))))))))), ?_⟩
  refine ⟨_, rfl, nl, _, 3, _, rfl, rfl, SqL.of hnl, nats_at (l := [p, fo, n, q]) (i := 3) rfl, ?_⟩
  refine ⟨q, rfl, fun hq => ?_, fun hq => kE _ (step_unfair rfl (decide_eq_false (by show ¬ q < 16; omega))) (by decide)⟩
  have hfair : Kcs8.fair (.lift p fo n q) = true := decide_eq_true (by show q < 16; exact hq)
  have es := step_fair (s := S) (c := .lift p fo n q) rfl hp hfair
  refine ⟨_, rfl, _, rfl, fun x dx hx hdx hne => place_sp hx hdx R hnl (fun e => kE _ (es.trans (within_no e)) (by decide)) fun r m hr0 hmo H1 s1 e1 => ?_⟩
  have ew : Kcs8.step S (.lift p fo n q) = _ := es.trans (within_at hr0 hmo)
  have R1 := R.same s1
  refine ⟨_, rfl, x, dx, _, rfl, e1, rfl, x, dx, Fr, S, ad, fo, n, p, r, m, rfl, e1, R1, hr0, hmo, fun hk => ?_, fun hk => (kE _ (by rw [ew, if_pos hk]) (by decide)).mono s1⟩
  have hk' : ¬ m.keeper = false := by rw [hk]; exact Bool.noConfusion
  rw [if_neg hk'] at ew
  refine ⟨_, rfl, x, C.place, dx, _, _, rfl, e1, T.c_place, T.n_place_room, rfl, _, rfl, nl, _, 3, _, rfl, rfl, SqL.of (s1 _ _ hnl), nats_at (l := [p, fo, n, q]) (i := 3) rfl, Fr, S, ad, fo, n, r, q, rfl, R1, hr0, ?_⟩
  cases hm2 : memberOf r q with
  | none =>
    rw [hm2] at ew
    exact ⟨_, rfl, rfl, false, -61, rfl, fun z => Bool.noConfusion z, fun _ => (kE _ ew (by decide)).mono s1⟩
  | some m2 =>
    rw [hm2] at ew
    obtain ⟨dm, hmem⟩ := R1.at_mem hr0 hm2
    refine ⟨_, rfl, rfl, true, -61, rfl, fun _ => ?_, fun z => Bool.noConfusion z⟩
    refine ⟨_, rfl, _, C.mem, dm, _, _, rfl, hmem, T.c_mem, T.n_mem_is_keeper, rfl, m2.keeper, rfl, _, -17, rfl, fun hk2 => ?_, fun hk2 => ?_⟩
    · have hk2' : m2.keeper = false := by simpa using hk2
      have ew2 : Kcs8.step S (.lift p fo n q) = (withRoom S (upMem q (fun m => { m with keeper := true }) r), .num 0) := ew.trans (if_neg (by rw [hk2']; exact Bool.noConfusion))
      refine ⟨_, rfl, _, C.mem, dm, _, rfl, hmem, T.c_mem, T.n_mem_is_keeper, (by show 4 < 1000; decide), ?_⟩
      have R2 := R1.upMem hr0 hm2 (fun m => { m with keeper := true }) (fun _ => rfl) (fun _ h => h) dm
      exact fin_num kQ ew2 rfl R2
    · have hk2' : m2.keeper = true := by simpa using hk2
      exact (kE _ (ew.trans (if_pos hk2')) (by decide)).mono s1
theorem cal_past (T : Txt K mg C) (U : Tools P w K mg base C) (D : Def K mg "do_past" s_do_past) : Cal P w K mg base (L2.CX P w) 6 "do_past" (Deed C 7) := by
  obtain ⟨f, fd, F, hm⟩ := D.ex
  refine ⟨f, fd, _, F.okX sc_do_past (fun vs H Q E h => h.len) (fun cdv A outer s H vs Q E hr h => ?_), hm, F.kp, F.binds fun _ _ _ _ _ _ us hl => match us, hl with | [_, _, _], _ => rfl⟩
  obtain ⟨c, hj, h⟩ := h
  obtain ⟨p, fo, n, b, rfl⟩ := idx_past hj
  obtain ⟨p', nl, rw_, Fr, S, ad, hc, hp, rfl, R, hF, hnl, hlen, kE, kQ⟩ := h
  cases hc
  replace R := row_off R hF
  refine ⟨_, pss_cons (ps_expr (pe_c U.flag hr passE (pa_cons (pe_ix ix_list (pv 1) pe_int (fun _ _ => rfl)) pa_nil)))
    (pss_cons (ps_set (i := 3) sc_do_past.nd rfl (.inl rfl) (pe_k U.place hr passE (pa_cons (pv 0) (pa_cons (pv 1) pa_nil))))
    (pss_cons (ps_expr (pe_m0 U.keeper T.c_place hr passE (pv 3)))
    (pss_cons (ps_set (i := 4) sc_do_past.nd rfl (.inl rfl) (pe_fld (pv 3) rfl))
    (pss_cons (ps_fld (pv 4) (pe_ix ix_list (pv 1) pe_int (fun _ _ => rfl)) rfl)
    (pss_one (ps_ret (pe_lst (pa_cons pe_int pa_nil)))))))), ?_⟩
  refine ⟨_, rfl, nl, _, 3, _, rfl, rfl, SqL.of hnl, nats_at (l := [p, fo, n, b]) (i := 3) rfl, ?_⟩
  refine ⟨b, rfl, fun hb => ?_, fun hb => kE _ (step_unfair rfl (decide_eq_false (by show ¬ b ≤ 1; omega))) (by decide)⟩
  have hfair : Kcs8.fair (.past p fo n b) = true := decide_eq_true (by show b ≤ 1; exact hb)
  have es := step_fair (s := S) (c := .past p fo n b) rfl hp hfair
  refine ⟨_, rfl, _, rfl, fun x dx hx hdx hne => place_sp hx hdx R hnl (fun e => kE _ (es.trans (within_no e)) (by decide)) fun r m hr0 hmo H1 s1 e1 => ?_⟩
  have ew : Kcs8.step S (.past p fo n b) = _ := es.trans (within_at hr0 hmo)
  have R1 := R.same s1
  refine ⟨_, rfl, x, dx, _, rfl, e1, rfl, x, dx, Fr, S, ad, fo, n, p, r, m, rfl, e1, R1, hr0, hmo, fun hk => ?_, fun hk => (kE _ (by rw [ew, if_pos hk]) (by decide)).mono s1⟩
  have hk' : ¬ m.keeper = false := by rw [hk]; exact Bool.noConfusion
  rw [if_neg hk'] at ew
  obtain ⟨dr, hroom⟩ := R1.at_room hr0
  refine ⟨_, rfl, x, C.place, dx, _, _, rfl, e1, T.c_place, T.n_place_room, rfl, ?_⟩
  refine ⟨_, rfl, nl, _, 3, _, rfl, rfl, SqL.of (s1 _ _ hnl), nats_at (l := [p, fo, n, b]) (i := 3) rfl, ?_⟩
  refine ⟨_, rfl, _, C.room, dr, _, rfl, hroom, T.c_room, T.n_room_past, (by show 4 < 1000; decide), ?_⟩
  rw [past_eq hb]
  exact fin_num kQ ew rfl (R1.past hr0 (b == 1) dr)
end
end Tr
/-! deeds.py: messages -/
namespace Tr
open PySem PySem.Spec PyProof.Rows L2
open Kcs8 (Abs Member Message roomOf memberOf withRoom withMessage sees)
theorem Rep.lay2 {C : Cs} {F H H1 : Hp} {s : Abs} {ad : Ad} (R : Rep C F H s ad) (k : Same H H1) {p q : Addr} {o u : HO} (hp : H p = none) (hq : H q = none) (h1 : H1 p = some o) (h2 : H1 q = some u) (hne : p ≠ q) : Rep C (upd (upd F p o) q u) H1 s ad :=
  R.over (fun b e he => by
    by_cases c : b = q
    · rw [c, upd_same] at he
      cases he
      rw [c]
      exact h2
    · rw [upd_ne c] at he
      by_cases c2 : b = p
      · rw [c2, upd_same] at he
        cases he
        rw [c2]
        exact h1
      · rw [upd_ne c2] at he
        exact k b e (R.sub b e he)) fun b u e f => ⟨k b u e, by rw [upd_ne (ne_of_none e hq), upd_ne (ne_of_none e hp)]; exact f⟩
theorem there_none {r : KRoom} {m : Member} {n : Nat} (h : there r m n = none) : (sees r m n).any (fun x => !x.gone) = false := by
  unfold there at h
  cases e : sees r m n with
  | none => rfl
  | some x =>
    rw [e] at h
    cases g : x.gone with
    | true => simp [g]
    | false => simp [Option.filter, g] at h
theorem there_some {r : KRoom} {m : Member} {n : Nat} {x : Message} (h : there r m n = some x) : sees r m n = some x ∧ x.gone = false := by
  unfold there at h
  cases e : sees r m n with
  | none =>
    rw [e] at h
    cases h
  | some y =>
    rw [e] at h
    cases g : y.gone with
    | true => simp [Option.filter, g] at h
    | false =>
      have : y = x := by simpa [Option.filter, g] using h
      subst this
      exact ⟨rfl, g⟩
theorem there_gone {r : KRoom} {m : Member} {n : Nat} (h : there r m n = none) : sees r m n = none ∨ ∃ x, sees r m n = some x ∧ x.gone = true := by
  have h0 := there_none h
  cases e : sees r m n with
  | none => exact .inl rfl
  | some x =>
    rw [e] at h0
    refine .inr ⟨x, rfl, ?_⟩
    have h1 : (!x.gone) = false := h0
    simpa using h1
def newM (p : Nat) (t : List Nat) (n : Nat) : Message := ⟨p, t, if n = 0 then none else some (n - 1), 0, false, []⟩
theorem ansN_new (p : Nat) (t : List Nat) (n : Nat) : ansN (newM p t n) = n := by
  unfold ansN newM
  by_cases h : n = 0
  · subst h
    rfl
  · rw [if_neg h]
    show n - 1 + 1 = n
    omega
section
variable {P : Program} {w : World} {K : PySem.W.Frag} {mg : Str → Option Value} {base : Heap} {C : Cs}
theorem cal_say (T : Txt K mg C) (U : Tools P w K mg base C) (D : Def K mg "do_say" s_do_say) : Cal P w K mg base (L2.CX P w) 6 "do_say" (Deed C 8) := by
  obtain ⟨f, fd, F, hm⟩ := D.ex
  refine ⟨f, fd, _, F.okX sc_do_say (fun vs H Q E h => h.len) (fun cdv A outer s H vs Q E hr h => ?_), hm, F.kp, F.binds fun _ _ _ _ _ _ us hl => match us, hl with | [_, _, _], _ => rfl⟩
  obtain ⟨c, hj, h⟩ := h
  obtain ⟨p, fo, n, a, t, rfl⟩ := idx_say hj
  obtain ⟨p', nl, rw_, Fr, S, ad, hc, hp, rfl, R, hF, hnl, hlen, kE, kQ⟩ := h
  cases hc
  replace hlen : t.length ≤ 400 := hlen
  replace R : Rep C (upd Fr rw_ (.lst (nats t))) H S ad := R
  refine ⟨_, pss_cons (ps_set (i := 3) sc_do_say.nd rfl (.inl rfl) (pe_ix ix_list (pv 1) pe_int (fun _ _ => rfl)))
    (pss_cons (ps_expr (pe_c U.ask hr passE (pa_cons (pe_c U.isText hr pass0 (pa_cons (pv 2) pa_nil)) (pa_cons (pe_n T.k_WRONG) pa_nil))))
    (pss_cons (ps_set (i := 4) sc_do_say.nd rfl (.inl rfl) (pe_k U.place hr passE (pa_cons (pv 0) (pa_cons (pv 1) pa_nil))))
    (C8.pss_cut (ps_if (pt_cmpR op_gt (pv 3) pe_int (nomark _)) (pss_one (ps_expr (pe_m U.there T.c_place hr passE (pv 4) (pa_cons (pe_op op_sub (pv 3) pe_int) pa_nil)))) pss_nil)
    (pss_cons (ps_set (i := 5) sc_do_say.nd rfl (.inl rfl) (pe_fld (pe_fld (pv 4) rfl) rfl))
    (pss_cons (ps_expr (pe_c U.ask hr passE (pa_cons (pe_cmpR op_lt (pe_callB call_len_seq (by rfl) T.b_len PySem.boot_len (pa_cons (pv 5) pa_nil)) (pe_n T.k_MOST_MESSAGES) (nomark _)) (pa_cons (pe_n T.k_FULL) pa_nil))))
    (pss_cons (ps_expr (pe_bm PySem.F.plainAttrs_list PySem.F.slot_list_append PySem.F.type_list_append mt_append (pv 5) (pa_cons (pe_k U.mkMessage hr pass0 (pa_cons (pe_ix ix_list (pv 1) pe_int (fun _ _ => rfl)) (pa_cons (pv 2) (pa_cons (pv 3) pa_nil)))) pa_nil)))
    (pss_one (ps_ret (pe_lst (pa_cons (pe_op op_sub (pe_callB call_len_seq (by rfl) T.b_len PySem.boot_len (pa_cons (pv 5) pa_nil)) pe_int) pa_nil)))))))))), ?_⟩
  have hrow : H rw_ = some (.lst (nats t)) := R.sub _ _ upd_same
  refine ⟨_, rfl, nl, _, 3, _, rfl, rfl, SqL.of hnl, nats_at (l := [p, fo, n, a]) (i := 3) rfl, ?_⟩
  refine ⟨_, rfl, rw_, t, rfl, hrow, hlen, fun H1 s1 => ⟨_, -22, rfl, fun ht => ?_, fun ht => (kE _ (step_unfair rfl ht) (by decide)).mono s1⟩⟩
  have es := step_fair (s := S) (c := .say p fo n a t) rfl hp ht
  refine ⟨_, rfl, _, rfl, fun x dx hx hdx hne => place_sp hx hdx (R.same s1) (s1 _ _ hnl) (fun e => (kE _ (es.trans (within_no e)) (by decide)).mono s1) fun r m hr0 hmo H2 s2 e2 => ?_⟩
  have ew : Kcs8.step S (.say p fo n a t) = _ := es.trans (within_at hr0 hmo)
  have sH2 := s1.trans s2
  have R2 := R.same sH2
  have ok := R.wf.room hr0
  obtain ⟨dr, hroom⟩ := R2.at_room hr0
  have hmsgs := R2.at_msgs hr0
  refine ⟨fun σ' H' => σ' = [some (.ref (ad .house)), some (.ref nl), some (.ref rw_), some (.int (a : Int)), some (.ref x), none] ∧ H' = H2 ∧ Kcs8.mayAnswer r m a = true, ?_, ?_⟩
  · refine ⟨_, rfl, _, _, rfl, rfl, _, rfl, ite2 (fun c => ?_) (fun c => ?_)⟩
    · have ha : 0 < a := by
        have := of_decide_eq_true c
        omega
      have e1 : (a : Int) - 1 = ((a - 1 : Nat) : Int) := by omega
      refine ⟨_, rfl, x, dx, _, rfl, e2, rfl, _, rfl, _, _, rfl, rfl, x, dx, _, S, ad, fo, n, p, a - 1, r, m, (by show [V.ref x, V.int ((a : Int) - 1)] = _; rw [e1]), e2, R2, hr0, hmo, fun e => ?_, fun y e => ⟨rfl, rfl, ?_⟩⟩
      · have hmay : Kcs8.mayAnswer r m a = false := by
          unfold Kcs8.mayAnswer
          rw [there_none e]
          have : (a == 0) = false := by simp; omega
          rw [this]
          rfl
        exact (kE _ (ew.trans (if_pos hmay)) (by decide)).mono sH2
      · unfold Kcs8.mayAnswer
        obtain ⟨h1, h2⟩ := there_some e
        rw [h1]
        simp [h2]
    · have ha : a = 0 := by
        have : ¬ (0 : Int) < a := fun z => c (decide_eq_true z)
        omega
      refine ⟨rfl, rfl, ?_⟩
      unfold Kcs8.mayAnswer
      rw [ha]
      rfl
  · rintro σ' H' ⟨rfl, rfl, hmay⟩
    rw [if_neg (by rw [hmay]; exact Bool.noConfusion)] at ew
    refine ⟨_, rfl, x, C.place, dx, _, _, rfl, e2, T.c_place, T.n_place_room, rfl, _, C.room, dr, _, _, rfl, hroom, T.c_room, T.n_room_messages, rfl, ?_⟩
    refine ⟨_, rfl, _, _, rfl, .inl (SqL.of hmsgs), _, _, rfl, rfl, _, -28, rfl, fun hl => ?_, fun hl => ?_⟩
    · have hl' : r.messages.length < 128 := by
        have h0 := of_decide_eq_true hl
        rw [msgsL_length] at h0
        omega
      replace ew := ew.trans (if_neg (by show ¬ 128 ≤ r.messages.length; omega))
      refine ⟨_, rfl, .inl ⟨rfl, _, SqL.of hmsgs⟩, _, rfl, nl, _, 0, _, rfl, rfl, SqL.of (sH2 _ _ hnl), nats_at (l := [p, fo, n, a]) (i := 0) rfl, _, rfl, _, rfl, fun y dy hy hdy hne2 => ?_⟩
      refine ⟨y, dy, rw_, p, a, rfl, upd_same, fun H3 d b3 hd e3 ey => ⟨rfl, ?_⟩⟩
      have s3 : Same H' H3 := Same.made hy hdy b3
      have s0 : Same H' (upd (upd H' dy (.own y)) y (.ins C.msg dy [])) := same_upd (same_new hdy) hy
      have hd' := s0.free hd
      have nyd : y ≠ d := fun z => by rw [z, e3] at ey; cases ey
      have R3 := R2.lay2 s3 hd' hy e3 ey nyd.symm
      have okm : MsgOk (newM p t a) := by
        refine ⟨?_, List.nodup_nil, fun q hq => by cases hq⟩
        show t.length ≤ 256
        have ht' : Kcs8.isText t = true := ht
        unfold Kcs8.isText at ht'
        simp only [Bool.and_eq_true, decide_eq_true_eq] at ht'
        exact ht'.1.2
      have hFn : ∀ q, H' q = none → Fr q = none := fun q e => by
        have := R2.free e
        by_cases c : q = rw_
        · rw [c]
          exact hF
        · rw [upd_ne c] at this
          exact this
      have hrw' : H' rw_ = some (.lst (nats t)) := sH2 _ _ hrow
      have n1 : rw_ ≠ d := ne_of_none hrw' hd'
      have n2 : rw_ ≠ y := ne_of_none hrw' hy
      refine ⟨_, _, _, rfl, rfl, s3 _ _ hmsgs, line_lt (by rw [msgsL_length]; omega), ?_⟩
      obtain ⟨ad4, a4, c4, R4⟩ := R3.say (F := Fr) (fun q o e => by
          have e' : upd Fr rw_ (.lst (nats t)) q = some o := by
            rw [upd_ne (fun z => by rw [z, hF] at e; cases e)]
            exact e
          have e2' := R2.sub q o e'
          rw [upd_ne (ne_of_none e2' hy), upd_ne (ne_of_none e2' hd')]
          exact e') hr0 (x := newM p t a) (a := y) (row := rw_) (d := d) (dx := dy) okm hl'
        (by rw [upd_same, ansN_new]; rfl) (hFn _ hy) (by rw [upd_ne n2, upd_ne n1]; exact upd_same) hF (by rw [upd_ne nyd.symm]; exact upd_same) (hFn _ hd')
      refine ⟨_, rfl, _, _, rfl, .inl (SqL.of upd_same), _, _, rfl, rfl, ?_⟩
      have ev : (((msgsL ad fo n r.messages.length ++ [V.ref y]).length : Nat) : Int) - 1 = (r.messages.length : Int) := by
        rw [List.length_append, msgsL_length]
        show ((r.messages.length + 1 : Nat) : Int) - 1 = _
        omega
      have fin := fin_num kQ ew a4 R4
      rw [← ev] at fin
      exact fin
    · have hl' : 128 ≤ r.messages.length := by
        have h0 := of_decide_eq_false hl
        rw [msgsL_length] at h0
        omega
      exact (kE _ (ew.trans (if_pos hl')) (by decide)).mono sH2
theorem cal_change (T : Txt K mg C) (U : Tools P w K mg base C) (D : Def K mg "do_change" s_do_change) : Cal P w K mg base (L2.CX P w) 6 "do_change" (Deed C 9) := by
  obtain ⟨f, fd, F, hm⟩ := D.ex
  refine ⟨f, fd, _, F.okX sc_do_change (fun vs H Q E h => h.len) (fun cdv A outer s H vs Q E hr h => ?_), hm, F.kp, F.binds fun _ _ _ _ _ _ us hl => match us, hl with | [_, _, _], _ => rfl⟩
  obtain ⟨c, hj, h⟩ := h
  obtain ⟨p, fo, n, a, t, rfl⟩ := idx_change hj
  obtain ⟨p', nl, rw_, Fr, S, ad, hc, hp, rfl, R, hF, hnl, hlen, kE, kQ⟩ := h
  cases hc
  replace hlen : t.length ≤ 400 := hlen
  replace R : Rep C (upd Fr rw_ (.lst (nats t))) H S ad := R
  refine ⟨_, pss_cons (ps_expr (pe_c U.ask hr passE (pa_cons (pe_c U.isText hr pass0 (pa_cons (pv 2) pa_nil)) (pa_cons (pe_n T.k_WRONG) pa_nil))))
    (pss_cons (ps_set (i := 3) sc_do_change.nd rfl (.inl rfl) (pe_m U.there T.c_place hr passE (pe_k U.place hr passE (pa_cons (pv 0) (pa_cons (pv 1) pa_nil))) (pa_cons (pe_ix ix_list (pv 1) pe_int (fun _ _ => rfl)) pa_nil)))
    (pss_cons (ps_expr (pe_c U.ask hr passE (pa_cons (pe_cmpR op_eq (pe_fld (pv 3) rfl) (pe_ix ix_list (pv 1) pe_int (fun _ _ => rfl)) (nomark _)) (pa_cons (pe_n T.k_NO_KEEPER) pa_nil))))
    (pss_cons (ps_expr (pe_c U.ask hr passE (pa_cons (pe_cmpR op_lt (pe_fld (pv 3) rfl) (pe_n T.k_MOST_CHANGES) (nomark _)) (pa_cons (pe_n T.k_FULL) pa_nil))))
    (pss_cons (ps_fld (pv 3) (pv 2) rfl)
    (pss_cons (ps_fldaug (pv 3) pe_int in_add)
    (pss_one (ps_ret (pe_lst (pa_cons pe_int pa_nil))))))))), ?_⟩
  have hrow : H rw_ = some (.lst (nats t)) := R.sub _ _ upd_same
  refine ⟨_, rfl, rw_, t, rfl, hrow, hlen, fun H1 s1 => ⟨_, -22, rfl, fun ht => ?_, fun ht => (kE _ (step_unfair rfl ht) (by decide)).mono s1⟩⟩
  have es := step_fair (s := S) (c := .change p fo n a t) rfl hp ht
  refine ⟨_, rfl, _, rfl, fun x dx hx hdx hne => place_sp hx hdx (R.same s1) (s1 _ _ hnl) (fun e => (kE _ (es.trans (within_no e)) (by decide)).mono s1) fun r m hr0 hmo H2 s2 e2 => ?_⟩
  have ew : Kcs8.step S (.change p fo n a t) = _ := es.trans (within_at hr0 hmo)
  have sH2 := s1.trans s2
  have R2 := R.same sH2
  have ok := R.wf.room hr0
  refine ⟨x, dx, _, rfl, e2, rfl, _, rfl, nl, _, 3, _, rfl, rfl, SqL.of (sH2 _ _ hnl), nats_at (l := [p, fo, n, a]) (i := 3) rfl, x, dx, _, S, ad, fo, n, p, a, r, m, rfl, e2, R2, hr0, hmo, fun e => ?_, fun y e => ?_⟩
  · rcases there_gone e with z | ⟨y, z, zg⟩
    · rw [z] at ew
      exact (kE _ ew (by decide)).mono sH2
    · rw [z] at ew
      exact (kE _ (ew.trans (if_pos zg)) (by decide)).mono sH2
  · obtain ⟨hs, hg⟩ := there_some e
    rw [hs] at ew
    replace ew := ew.trans (if_neg (by rw [hg]; exact Bool.noConfusion))
    have hxm := sees_get hs
    have okx := ok.msg y (List.mem_of_getElem? hxm)
    obtain ⟨dm, hmsg⟩ := R2.at_msg hr0 hxm
    refine ⟨_, rfl, _, C.msg, dm, _, _, rfl, hmsg, T.c_msg, T.n_msg_who, rfl, _, rfl, nl, _, 0, _, rfl, rfl, SqL.of (sH2 _ _ hnl), nats_at (l := [p, fo, n, a]) (i := 0) rfl, rfl, _, -1, rfl, fun hw => ?_, fun hw => ?_⟩
    · have hw' : y.who = p := by
        rw [decI] at hw
        have := of_decide_eq_true hw
        omega
      replace ew := ew.trans (if_neg (by rw [hw']; simp))
      refine ⟨_, rfl, _, C.msg, dm, _, _, rfl, hmsg, T.c_msg, T.n_msg_many_changed, rfl, _, _, rfl, rfl, _, -28, rfl, fun hl => ?_, fun hl => ?_⟩
      · have hl' : ¬ 255 ≤ y.changes := by
          have := of_decide_eq_true hl
          omega
        replace ew := ew.trans (if_neg hl')
        refine ⟨_, rfl, _, rfl, _, C.msg, dm, _, rfl, hmsg, T.c_msg, T.n_msg_text, (by show 6 < 1000; decide), ?_⟩
        have okt : t.length ≤ 256 := by
          have ht' : Kcs8.isText t = true := ht
          unfold Kcs8.isText at ht'
          simp only [Bool.and_eq_true, decide_eq_true_eq] at ht'
          exact ht'.1.2
        obtain ⟨ad3, a3, b3, c3, R3⟩ := R2.moveMsg (F := Fr) (fun q o e => by
            rw [upd_ne (fun z => by rw [z, hF] at e; cases e)]
            exact e) hr0 hxm (x' := { y with text := t }) ⟨okt, okx.nd, okx.lt⟩ (t1 := .txt a) (dx := dm) (po := .lst (nats t)) (.inl rfl) upd_same hF
          (by show (withMessage _ _ _).messages[a]?.map _ = _; rw [set_at hxm]; rfl) rfl (fun z => absurd rfl z) (fun _ => rfl)
        have ep : putF "text" (V.ref rw_) (msgF ad fo n a y) = msgF ad3 fo n a { y with text := t } := by
          rw [putF_text]
          unfold msgF
          rw [c3, b3 _ (by intro z; cases z)]
          rfl
        rw [ep]
        refine ⟨_, rfl, _, C.msg, dm, _, _, rfl, upd_same, T.c_msg, T.n_msg_many_changed, rfl, _, _, rfl, rfl, dm, _, upd_same, (by show 6 < 1000; decide), ?_⟩
        have hr3 := room_self (r' := withMessage r a { y with text := t }) hr0 rfl rfl
        have hx3 : (withMessage r a { y with text := t }).messages[a]? = some { y with text := t } := set_at hxm
        have R4 := R3.setMsg hr3 hx3 (x' := { y with text := t, changes := y.changes + 1 }) ⟨okt, okx.nd, okx.lt⟩ rfl rfl dm
        rw [msg_msg] at R4
        replace R4 := R4.with2 rfl rfl
        have e3 : ad (.rm fo n (.msg a)) = ad3 (.rm fo n (.msg a)) := (b3 _ (by intro z; cases z)).symm
        have e4 : putF "many_changed" (.int ((y.changes : Int) + 1)) (msgF ad3 fo n a { y with text := t }) = msgF ad3 fo n a { y with text := t, changes := y.changes + 1 } := putF_changed ad3 fo n a { y with text := t } (y.changes + 1)
        have fin := fin_num kQ ew a3 R4
        rw [← e3, ← e4] at fin
        exact fin
      · have hl' : 255 ≤ y.changes := by
          have := of_decide_eq_false hl
          omega
        exact (kE _ (ew.trans (if_pos hl')) (by decide)).mono sH2
    · have hw' : y.who ≠ p := fun z => by
        rw [decI, z] at hw
        simp at hw
      exact (kE _ (ew.trans (if_pos hw')) (by decide)).mono sH2
theorem cal_do_remove (T : Txt K mg C) (U : Tools P w K mg base C) (D : Def K mg "do_remove" s_do_remove) : Cal P w K mg base (L2.CX P w) 6 "do_remove" (Deed C 10) := by
  obtain ⟨f, fd, F, hm⟩ := D.ex
  refine ⟨f, fd, _, F.okX sc_do_remove (fun vs H Q E h => h.len) (fun cdv A outer s H vs Q E hr h => ?_), hm, F.kp, F.binds fun _ _ _ _ _ _ us hl => match us, hl with | [_, _, _], _ => rfl⟩
  obtain ⟨c, hj, h⟩ := h
  obtain ⟨p, fo, n, a, rfl⟩ := idx_remove hj
  obtain ⟨p', nl, rw_, Fr, S, ad, hc, hp, rfl, R, hF, hnl, hlen, kE, kQ⟩ := h
  cases hc
  replace R := row_off R hF
  refine ⟨_, pss_cons (ps_set (i := 3) sc_do_remove.nd rfl (.inl rfl) (pe_k U.place hr passE (pa_cons (pv 0) (pa_cons (pv 1) pa_nil))))
    (pss_cons (ps_set (i := 4) sc_do_remove.nd rfl (.inl rfl) (pe_m U.there T.c_place hr passE (pv 3) (pa_cons (pe_ix ix_list (pv 1) pe_int (fun _ _ => rfl)) pa_nil)))
    (pss_cons (ps_expr (pe_c U.ask hr passE (pa_cons (pe_or (pe_cmpR op_eq (pe_fld (pv 4) rfl) (pe_ix ix_list (pv 1) pe_int (fun _ _ => rfl)) (nomark _)) (pe_one (pe_fld (pe_fld (pv 3) rfl) rfl))) (pa_cons (pe_n T.k_NO_KEEPER) pa_nil))))
    (pss_cons (ps_expr (pe_c U.remove hr pass0 (pa_cons (pv 4) pa_nil)))
    (pss_one (ps_ret (pe_lst (pa_cons pe_int pa_nil))))))), ?_⟩
  have es := step_fair (s := S) (c := .remove p fo n a) rfl hp rfl
  refine ⟨_, rfl, _, rfl, fun x dx hx hdx hne => place_sp hx hdx R hnl (fun e => kE _ (es.trans (within_no e)) (by decide)) fun r m hr0 hmo H2 sH2 e2 => ?_⟩
  have ew : Kcs8.step S (.remove p fo n a) = _ := es.trans (within_at hr0 hmo)
  have R2 := R.same sH2
  have ok := R.wf.room hr0
  refine ⟨_, rfl, x, dx, _, rfl, e2, rfl, _, rfl, nl, _, 3, _, rfl, rfl, SqL.of (sH2 _ _ hnl), nats_at (l := [p, fo, n, a]) (i := 3) rfl, x, dx, _, S, ad, fo, n, p, a, r, m, rfl, e2, R2, hr0, hmo, fun e => ?_, fun y e => ?_⟩
  · rcases there_gone e with z | ⟨y, z, zg⟩
    · rw [z] at ew
      exact (kE _ ew (by decide)).mono sH2
    · rw [z] at ew
      exact (kE _ (ew.trans (if_pos zg)) (by decide)).mono sH2
  · obtain ⟨hs, hg⟩ := there_some e
    rw [hs] at ew
    replace ew := ew.trans (if_neg (by rw [hg]; exact Bool.noConfusion))
    have hxm := sees_get hs
    obtain ⟨dm, hmsg⟩ := R2.at_msg hr0 hxm
    obtain ⟨dw, hmem⟩ := R2.at_mem hr0 hmo
    have good : ¬ (y.who ≠ p ∧ m.keeper = false) → Kcs8.step S (.remove p fo n a) = (withRoom S (withMessage r a (goneM y)), .num 0) := fun z => ew.trans (if_neg z)
    refine ⟨_, rfl, _, C.msg, dm, _, _, rfl, hmsg, T.c_msg, T.n_msg_who, rfl, _, rfl, nl, _, 0, _, rfl, rfl, SqL.of (sH2 _ _ hnl), nats_at (l := [p, fo, n, a]) (i := 0) rfl, rfl, _, rfl, ite2 (fun hw => ?_) (fun hw => ?_)⟩
    · have hw' : y.who = p := by
        rw [decI] at hw
        have := of_decide_eq_true hw
        omega
      refine ⟨true, -1, rfl, fun _ => ?_, fun z => Bool.noConfusion z⟩
      refine ⟨_, rfl, Fr, S, ad, fo, n, r, a, y, rfl, R2, hr0, hxm, fun H3 ad3 a3 R3 => ?_⟩
      exact fin_num kQ (good (fun z => z.1 hw')) a3 R3
    · have hw' : y.who ≠ p := fun z => by
        rw [decI, z] at hw
        simp at hw
      refine ⟨_, rfl, x, C.place, dx, _, _, rfl, e2, T.c_place, T.n_place_member, rfl, _, C.mem, dw, _, _, rfl, hmem, T.c_mem, T.n_mem_is_keeper, rfl, m.keeper, -1, rfl, fun hk => ?_, fun hk => (kE _ (ew.trans (if_pos ⟨hw', hk⟩)) (by decide)).mono sH2⟩
      refine ⟨_, rfl, Fr, S, ad, fo, n, r, a, y, rfl, R2, hr0, hxm, fun H3 ad3 a3 R3 => ?_⟩
      exact fin_num kQ (good (fun z => by rw [hk] at z; exact Bool.noConfusion z.2)) a3 R3
theorem cal_mark (T : Txt K mg C) (U : Tools P w K mg base C) (D : Def K mg "do_mark" s_do_mark) : Cal P w K mg base (L2.CX P w) 6 "do_mark" (Deed C 11) := by
  obtain ⟨f, fd, F, hm⟩ := D.ex
  refine ⟨f, fd, _, F.okX sc_do_mark (fun vs H Q E h => h.len) (fun cdv A outer s H vs Q E hr h => ?_), hm, F.kp, F.binds fun _ _ _ _ _ _ us hl => match us, hl with | [_, _, _], _ => rfl⟩
  obtain ⟨c, hj, h⟩ := h
  obtain ⟨p, fo, n, a, kd, rfl⟩ := idx_mark hj
  obtain ⟨p', nl, rw_, Fr, S, ad, hc, hp, rfl, R, hF, hnl, hlen, kE, kQ⟩ := h
  cases hc
  replace R := row_off R hF
  refine ⟨_, pss_cons (ps_set (i := 3) sc_do_mark.nd rfl (.inl rfl) (pe_ix ix_list (pv 1) pe_int (fun _ _ => rfl)))
    (pss_cons (ps_expr (pe_c U.ask hr passE (pa_cons (pe_cmpR op_le (pv 3) (pe_n T.k_MOST_KIND) (nomark _)) (pa_cons (pe_n T.k_WRONG) pa_nil))))
    (pss_cons (ps_set (i := 4) sc_do_mark.nd rfl (.inl rfl) (pe_m U.there T.c_place hr passE (pe_k U.place hr passE (pa_cons (pv 0) (pa_cons (pv 1) pa_nil))) (pa_cons (pe_ix ix_list (pv 1) pe_int (fun _ _ => rfl)) pa_nil)))
    (pss_one (ps_ret (pe_lst (pa_cons (pe_c U.turn hr pass0 (pa_cons (pv 4) (pa_cons (pe_ix ix_list (pv 1) pe_int (fun _ _ => rfl)) (pa_cons (pv 3) pa_nil)))) pa_nil)))))), ?_⟩
  refine ⟨_, rfl, nl, _, 4, _, rfl, rfl, SqL.of hnl, nats_at (l := [p, fo, n, a, kd]) (i := 4) rfl, ?_⟩
  refine ⟨_, rfl, _, _, rfl, rfl, _, -22, rfl, fun hk => ?_, fun hk => kE _ (step_unfair rfl (decide_eq_false (by have := of_decide_eq_false hk; show ¬ kd < 16; omega))) (by decide)⟩
  have hk16 : kd < 16 := by
    have := of_decide_eq_true hk
    omega
  have es := step_fair (s := S) (c := .mark p fo n a kd) rfl hp (decide_eq_true (by show kd < 16; exact hk16))
  refine ⟨_, rfl, _, rfl, fun x dx hx hdx hne => place_sp hx hdx R hnl (fun e => kE _ (es.trans (within_no e)) (by decide)) fun r m hr0 hmo H2 sH2 e2 => ?_⟩
  have ew : Kcs8.step S (.mark p fo n a kd) = _ := es.trans (within_at hr0 hmo)
  have R2 := R.same sH2
  have ok := R.wf.room hr0
  refine ⟨x, dx, _, rfl, e2, rfl, _, rfl, nl, _, 3, _, rfl, rfl, SqL.of (sH2 _ _ hnl), nats_at (l := [p, fo, n, a, kd]) (i := 3) rfl, x, dx, _, S, ad, fo, n, p, a, r, m, rfl, e2, R2, hr0, hmo, fun e => ?_, fun y e => ?_⟩
  · rcases there_gone e with z | ⟨y, z, zg⟩
    · rw [z] at ew
      exact (kE _ ew (by decide)).mono sH2
    · rw [z] at ew
      exact (kE _ (ew.trans (if_pos zg)) (by decide)).mono sH2
  · obtain ⟨hs, hg⟩ := there_some e
    rw [hs] at ew
    replace ew := ew.trans (if_neg (by rw [hg]; exact Bool.noConfusion))
    have hxm := sees_get hs
    refine ⟨_, rfl, _, rfl, nl, _, 0, _, rfl, rfl, SqL.of (sH2 _ _ hnl), nats_at (l := [p, fo, n, a, kd]) (i := 0) rfl, _, rfl, Fr, S, ad, fo, n, r, a, p, kd, y, rfl, R2, hr0, hxm, hp, hk16, fun H3 R3 => ?_⟩
    have ew2 : Kcs8.step S (.mark p fo n a kd) = (withRoom S (withMessage r a (turnM y p kd)), .num (if y.marks.contains (p, kd) then 0 else 1)) := by
      rw [ew]
      unfold turnM
      by_cases c : y.marks.contains (p, kd) = true
      · rw [if_pos c, if_pos c, if_pos c]
      · rw [if_neg c, if_neg c, if_neg c]
    exact fin_num kQ ew2 rfl R3
theorem cal_do_seen (T : Txt K mg C) (U : Tools P w K mg base C) (D : Def K mg "do_seen" s_do_seen) : Cal P w K mg base (L2.CX P w) 6 "do_seen" (Deed C 12) := by
  obtain ⟨f, fd, F, hm⟩ := D.ex
  refine ⟨f, fd, _, F.okX sc_do_seen (fun vs H Q E h => h.len) (fun cdv A outer s H vs Q E hr h => ?_), hm, F.kp, F.binds fun _ _ _ _ _ _ us hl => match us, hl with | [_, _, _], _ => rfl⟩
  obtain ⟨c, hj, h⟩ := h
  obtain ⟨p, fo, n, a, rfl⟩ := idx_seen hj
  obtain ⟨p', nl, rw_, Fr, S, ad, hc, hp, rfl, R, hF, hnl, hlen, kE, kQ⟩ := h
  cases hc
  replace R := row_off R hF
  refine ⟨_, pss_cons (ps_set (i := 3) sc_do_seen.nd rfl (.inl rfl) (pe_k U.place hr passE (pa_cons (pv 0) (pa_cons (pv 1) pa_nil))))
    (pss_cons (ps_expr (pe_m U.seen T.c_place hr passE (pv 3) (pa_cons (pe_ix ix_list (pv 1) pe_int (fun _ _ => rfl)) pa_nil)))
    (pss_cons (ps_set (i := 4) sc_do_seen.nd rfl (.inl rfl) (pe_fld (pv 3) rfl))
    (pss_cons (ps_fld (pv 4) (pe_op op_add (pe_ix ix_list (pv 1) pe_int (fun _ _ => rfl)) pe_int) rfl)
    (pss_one (ps_ret (pe_lst (pa_cons pe_int pa_nil))))))), ?_⟩
  have es := step_fair (s := S) (c := .seen p fo n a) rfl hp rfl
  refine ⟨_, rfl, _, rfl, fun x dx hx hdx hne => place_sp hx hdx R hnl (fun e => kE _ (es.trans (within_no e)) (by decide)) fun r m hr0 hmo H2 sH2 e2 => ?_⟩
  have ew : Kcs8.step S (.seen p fo n a) = _ := es.trans (within_at hr0 hmo)
  have R2 := R.same sH2
  have ok := R.wf.room hr0
  refine ⟨_, rfl, x, dx, _, rfl, e2, rfl, _, rfl, nl, _, 3, _, rfl, rfl, SqL.of (sH2 _ _ hnl), nats_at (l := [p, fo, n, a]) (i := 3) rfl, x, dx, _, S, ad, fo, n, p, a, r, m, rfl, e2, R2, hr0, hmo, fun e => ?_, fun y e => ?_⟩
  · rw [e] at ew
    exact (kE _ ew (by decide)).mono sH2
  · rw [e] at ew
    have ew2 : Kcs8.step S (.seen p fo n a) = (withRoom S (upMem p (fun m => { m with read := a + 1 }) r), .num 0) := ew
    obtain ⟨dw, hmem⟩ := R2.at_mem hr0 hmo
    have hlt := lt_of_get (sees_get e)
    have hml := ok.msgs
    refine ⟨_, rfl, x, C.place, dx, _, _, rfl, e2, T.c_place, T.n_place_member, rfl, ?_⟩
    refine ⟨_, rfl, nl, _, 3, _, rfl, rfl, SqL.of (sH2 _ _ hnl), nats_at (l := [p, fo, n, a]) (i := 3) rfl, _, _, rfl, rfl, ?_⟩
    refine ⟨_, rfl, _, C.mem, dw, _, rfl, hmem, T.c_mem, T.n_mem_behind_read, (by show 4 < 1000; decide), ?_⟩
    have R3 := R2.upMem hr0 hmo (fun m => { m with read := a + 1 }) (fun _ => rfl) (fun _ h => ⟨h.1, by show a + 1 ≤ 128; omega⟩) dw
    exact fin_num kQ ew2 rfl R3
end
end Tr
/-! deeds.py: what is asked -/
namespace Tr
open PySem PySem.Spec PyProof.Rows L2
open Kcs8 (Abs Member Message roomOf memberOf withRoom withMessage sees)
def kthL (ws : List (List Nat)) (k : Nat) : List Int := Kcs8Neutral.told (Kcs8.told ws[k]?)
theorem kthL_none {ws : List (List Nat)} {k : Nat} (h : ws[k]? = none) : kthL ws k = [0] := by
  unfold kthL
  rw [h]
  rfl
theorem kthL_some {ws : List (List Nat)} {k : Nat} {l : List Nat} (h : ws[k]? = some l) : (kthL ws k).map V.int = .int 1 :: nats l := by
  unfold kthL
  rw [h]
  show V.int 1 :: (Kcs8Neutral.nums l).map V.int = _
  unfold Kcs8Neutral.nums nats
  rw [List.map_map]
  rfl
theorem TupsAt.get {H : Hp} : ∀ {ts : List Addr} {ws : List (List Nat)} {i : Nat} {l : List Nat}, TupsAt H ts ws → ws[i]? = some l → ∃ a, (ts.map V.ref)[i]? = some (.ref a) ∧ H a = some (.tup (nats l))
  | _, _, 0, _, .nil, h => by simp at h
  | _, _, i + 1, _, .nil, h => by simp at h
  | _, _, 0, _, .cons h r, e => by
    cases Option.some.inj e
    exact ⟨_, rfl, h⟩
  | _, _, i + 1, _, .cons h r, e => by
    obtain ⟨a, h1, h2⟩ := TupsAt.get (i := i) r e
    exact ⟨a, h1, h2⟩
def spKth : Sp := fun vs H Q _ => ∃ (a : Addr) (k : Nat) (ts : List Addr) (ws : List (List Nat)), vs = [.ref a, .int (k : Int)] ∧ H a = some (.lst (ts.map V.ref)) ∧ TupsAt H ts ws ∧ (∀ l ∈ ws, l.length ≤ 1000) ∧ ∀ H' p, Same H H' → H p = none → H' p = some (.lst ((kthL ws k).map V.int)) → Q (.ref p) H'
/-- what is mine of one room -/
def mineAt (s : Abs) (p : Nat) (fk : Nat × Nat) : List (List Nat) := match roomOf s fk.1 fk.2 with
  | none => []
  | some r => match memberOf r p with
    | some m => [[fk.1, fk.2, if m.keeper then 2 else 1, r.messages.length]]
    | none => if r.invited.contains p then [[fk.1, fk.2, 0, 0]] else []
def mineRow (p : Nat) (r : KRoom) : List Nat := [r.founder, r.number, if Kcs8.keeps r p then 2 else if Kcs8.isIn r p then 1 else 0, if Kcs8.isIn r p then r.messages.length else 0]
theorem mine_eq {s : Abs} (W : WF s) (p : Nat) : (Kcs8.mine s p).map (mineRow p) = (keysOf s).flatMap (mineAt s p) := by
  unfold Kcs8.mine
  rw [inOrder_eq W]
  induction keysOf s with
  | nil => rfl
  | cons fk l ih =>
    rw [List.filterMap_cons, List.flatMap_cons]
    unfold mineAt
    cases e : roomOf s fk.1 fk.2 with
    | none => exact ih
    | some r =>
      obtain ⟨_, h1, h2⟩ := roomOf_some e
      show List.map (mineRow p) (List.filter _ (r :: _)) = (match memberOf r p with | some m => [[fk.1, fk.2, if m.keeper then 2 else 1, r.messages.length]] | none => if r.invited.contains p then [[fk.1, fk.2, 0, 0]] else []) ++ _
      rw [List.filter_cons]
      cases hm : memberOf r p with
      | some m =>
        have h3 : Kcs8.isIn r p = true := by
          unfold Kcs8.isIn
          rw [hm]
          rfl
        have h4 : Kcs8.keeps r p = m.keeper := by
          unfold Kcs8.keeps
          rw [hm]
          rfl
        rw [if_pos (by rw [h3]; rfl), List.map_cons]
        have e1 : mineRow p r = [fk.1, fk.2, if m.keeper then 2 else 1, r.messages.length] := by
          unfold mineRow
          rw [h3, h4, h1, h2]
          rfl
        rw [e1]
        exact congrArg _ ih
      | none =>
        have h3 : Kcs8.isIn r p = false := by
          unfold Kcs8.isIn
          rw [hm]
          rfl
        have h4 : Kcs8.keeps r p = false := by
          unfold Kcs8.keeps
          rw [hm]
          rfl
        have e1 : mineRow p r = [fk.1, fk.2, 0, 0] := by
          unfold mineRow
          rw [h3, h4, h1, h2]
          rfl
        by_cases c : r.invited.contains p = true
        · rw [if_pos (by rw [c, Bool.or_true]), List.map_cons, e1]
          show _ = (if r.invited.contains p = true then _ else _) ++ _
          rw [if_pos c]
          exact congrArg _ ih
        · rw [if_neg (by rw [h3, Bool.false_or]; exact c)]
          show _ = (if r.invited.contains p = true then _ else _) ++ _
          rw [if_neg c]
          exact ih
theorem mineAt_length (s : Abs) (p : Nat) (fk : Nat × Nat) : (mineAt s p fk).length ≤ 1 ∧ ∀ l ∈ mineAt s p fk, l.length = 4 := by
  unfold mineAt
  cases roomOf s fk.1 fk.2 with
  | none => exact ⟨Nat.zero_le _, fun l h => by cases h⟩
  | some r =>
    dsimp only
    cases memberOf r p with
    | some m =>
      refine ⟨Nat.le_refl _, fun l h => ?_⟩
      rw [List.mem_singleton] at h
      subst h
      rfl
    | none =>
      dsimp only
      split
      · refine ⟨Nat.le_refl _, fun l h => ?_⟩
        rw [List.mem_singleton] at h
        subst h
        rfl
      · exact ⟨Nat.zero_le _, fun l h => by cases h⟩
theorem flat_le1 {α : Type} (g : α → List (List Nat)) (h : ∀ a, (g a).length ≤ 1) : ∀ l : List α, (l.flatMap g).length ≤ l.length
  | [] => Nat.le_refl _
  | a :: l => by
    have ih := flat_le1 g h l
    have ha := h a
    rw [List.flatMap_cons, List.length_append, List.length_cons]
    omega
theorem foundL_len (s : Abs) (p : Nat) (wd : List Nat) : ∀ l ∈ foundL s p wd, l.length ≤ 1000 := by
  intro l h
  unfold foundL at h
  rw [List.mem_flatMap] at h
  obtain ⟨fk, _, h⟩ := h
  unfold foundAt at h
  cases e : roomOf s fk.1 fk.2 with
  | none =>
    rw [e] at h
    cases h
  | some r =>
    rw [e] at h
    dsimp only at h
    cases e2 : memberOf r p with
    | none =>
      rw [e2] at h
      cases h
    | some m =>
      rw [e2] at h
      dsimp only at h
      rw [List.mem_filterMap] at h
      obtain ⟨n, _, h⟩ := h
      cases e3 : sees r m n with
      | none =>
        rw [e3] at h
        cases h
      | some x =>
        rw [e3] at h
        replace h : (if (Kcs8.words x.text).contains wd then some [fk.1, fk.2, n] else none) = some l := h
        split at h
        · cases h
          show 3 ≤ 1000
          decide
        · cases h
section
variable {P : Program} {w : World} {K : PySem.W.Frag} {mg : Str → Option Value} {base : Heap} {C : Cs}
theorem fin_kth {C : Cs} {F H1 : Hp} {s : Abs} {ad : Ad} {c : Kcs8.Call} {ws : List (List Nat)} {j : Nat} {Q : VK} (kQ : ∀ H' p' ad', ad' .house = ad .house → F p' = none → Rep C F H' (Kcs8.step s c).1 ad' → H' p' = some (.lst ((saidTo c s).map V.int)) → Q (.ref p') H')
    (es : Kcs8.step s c = (s, Kcs8.told ws[j]?)) {p' : Addr} (hf : F p' = none) (R' : Rep C F H1 s ad) (h : H1 p' = some (.lst ((kthL ws j).map V.int))) : Q (.ref p') H1 := by
  refine kQ _ p' ad rfl hf ?_ ?_
  · rw [es]
    exact R'
  · unfold saidTo
    rw [es]
    exact h
theorem cal_kth (T : Txt K mg C) (D : Def K mg "kth" s_kth) : Cal P w K mg base CX0 1 "kth" spKth := by
  obtain ⟨f, fd, F, hm⟩ := D.ex
  refine ⟨f, fd, _, F.ok sc_kth (fun vs H Q E h => ?_) (fun cdv A outer s H vs Q E hr h => ?_), hm, F.kp, F.binds fun _ _ _ _ _ _ us hl => match us, hl with | [_, _], _ => rfl⟩
  · obtain ⟨_, _, _, _, rfl, _⟩ := h
    rfl
  · obtain ⟨a, k, ts, ws, rfl, ha, ht, hw, kQ⟩ := h
    refine ⟨_, pss_cons (ps_if (pt_cmpR op_ge (pv 1) (pe_callB call_len_seq (by rfl) T.b_len PySem.boot_len (pa_cons (pv 0) pa_nil)) (nomark _)) (pss_one (ps_ret (pe_lst (pa_cons pe_int pa_nil)))) pss_nil)
      (pss_one (ps_ret (pe_op op_cat (pe_lst (pa_cons pe_int pa_nil)) (pe_callTy call_list_of (by rfl) T.b_list PyProof.Rows.boot_list (pa_cons (pe_ix ix_list (pv 0) (pv 1) (fun _ _ => rfl)) pa_nil))))), ?_⟩
    have hl := ht.length
    refine ⟨_, rfl, _, rfl, _, _, rfl, .inl (SqL.of ha), _, _, rfl, rfl, _, rfl, ite2 (fun c => ?_) (fun c => ?_)⟩
    · have c' := of_decide_eq_true c
      rw [List.length_map] at c'
      have e : ws[k]? = none := List.getElem?_eq_none (by omega)
      refine ⟨by show 1 ≤ sizeLine; exact line_le (by decide), fun p hp => kQ _ p (same_new hp) hp ?_⟩
      rw [kthL_none e]
      exact upd_same
    · have c' : ¬ (((ts.map V.ref).length : Nat) : Int) ≤ (k : Int) := fun z => c (decide_eq_true z)
      rw [List.length_map] at c'
      have hk : k < ws.length := by omega
      have e : ws[k]? = some ws[k] := List.getElem?_eq_getElem hk
      obtain ⟨ta, h1, h2⟩ := ht.get e
      have hwl := hw _ (List.mem_of_getElem? e)
      refine ⟨by show 1 ≤ sizeLine; exact line_le (by decide), fun p hp => ?_⟩
      have s1 : Same H (upd H p (.lst [V.int 1])) := same_new hp
      refine ⟨_, rfl, _, rfl, _, _, _, _, rfl, rfl, SqL.of (s1 _ _ ha), atI_nat h1, ta, _, rfl, .inr (SqT.of (s1 _ _ h2)), fun l hl2 => ?_⟩
      have npl : p ≠ l := fun z => by rw [z, ← z, upd_same] at hl2; cases hl2
      refine ⟨p, l, _, _, rfl, rfl, by rw [upd_ne npl]; exact upd_same, upd_same, line_le ?_, fun q hq => kQ _ q (same_upd (same_upd s1 (s1.free hl2)) ?_) ?_ ?_⟩
      · rw [List.length_singleton]
        have : (nats ws[k]).length = ws[k].length := List.length_map _
        omega
      · exact (same_upd s1 (s1.free hl2)).free hq
      · exact (same_upd s1 (s1.free hl2)).free hq
      · rw [kthL_some e]
        exact upd_same
theorem cal_do_read (T : Txt K mg C) (U : Tools P w K mg base C) (D : Def K mg "do_read" s_do_read) : Cal P w K mg base (L2.CX P w) 6 "do_read" (Deed C 13) := by
  obtain ⟨f, fd, F, hm⟩ := D.ex
  refine ⟨f, fd, _, F.okX sc_do_read (fun vs H Q E h => h.len) (fun cdv A outer s H vs Q E hr h => ?_), hm, F.kp, F.binds fun _ _ _ _ _ _ us hl => match us, hl with | [_, _, _], _ => rfl⟩
  obtain ⟨c, hj, h⟩ := h
  obtain ⟨p, fo, n, a, rfl⟩ := idx_read hj
  obtain ⟨p', nl, rw_, Fr, S, ad, hc, hp, rfl, R, hF, hnl, hlen, kE, kQ⟩ := h
  cases hc
  replace R := row_off R hF
  refine ⟨_, pss_cons (ps_set (i := 3) sc_do_read.nd rfl (.inl rfl) (pe_m U.seen T.c_place hr passE (pe_k U.place hr passE (pa_cons (pv 0) (pa_cons (pv 1) pa_nil))) (pa_cons (pe_ix ix_list (pv 1) pe_int (fun _ _ => rfl)) pa_nil)))
    (pss_cons (ps_set (i := 4) sc_do_read.nd rfl (.inl rfl) (pe_op op_cat (pe_lst (pa_cons pe_int pa_nil)) (pe_c U.marks hr pass0 (pa_cons (pv 3) pa_nil))))
    (pss_one (ps_ret (pe_op op_cat (pe_op op_cat (pv 4) (pe_lst (pa_cons (pe_fld (pv 3) rfl) (pa_cons (pe_fld (pv 3) rfl) (pa_cons (pe_fld (pv 3) rfl) (pa_cons (pe_callTy call_int1 (by rfl) T.b_int PyProof.Rows.boot_int (pa_cons (pe_fld (pv 3) rfl) pa_nil)) pa_nil)))))) (pe_fld (pv 3) rfl))))), ?_⟩
  have es := step_fair (s := S) (c := .read p fo n a) rfl hp rfl
  refine ⟨_, rfl, _, rfl, fun x dx hx hdx hne => place_sp hx hdx R hnl (fun e => kE _ (es.trans (within_no e)) (by decide)) fun r m hr0 hmo H2 sH2 e2 => ?_⟩
  have ew : Kcs8.step S (.read p fo n a) = _ := es.trans (within_at hr0 hmo)
  have R2 := R.same sH2
  refine ⟨x, dx, _, rfl, e2, rfl, _, rfl, nl, _, 3, _, rfl, rfl, SqL.of (sH2 _ _ hnl), nats_at (l := [p, fo, n, a]) (i := 3) rfl, x, dx, _, S, ad, fo, n, p, a, r, m, rfl, e2, R2, hr0, hmo, fun e => ?_, fun y e => ?_⟩
  · rw [e] at ew
    exact (kE _ ew (by decide)).mono sH2
  · rw [e] at ew
    replace ew : Kcs8.step S (.read p fo n a) = (S, Kcs8.shown y) := ew
    have hxm := sees_get e
    have okx := (R2.wf.room hr0).msg y (List.mem_of_getElem? hxm)
    have hkl : (nats (kinds y.marks)).length = 16 := by
      unfold nats kinds
      rw [List.length_map, List.length_map, List.length_range]
    have htl : (nats y.text).length ≤ 256 := by
      unfold nats
      rw [List.length_map]
      exact okx.text
    refine ⟨by show 1 ≤ sizeLine; exact line_le (by decide), fun q hq => ⟨_, rfl, Fr, S, ad, fo, n, r, a, y, rfl, R2.same (same_new hq), hr0, hxm, fun H3 ka s3 hka ek => ?_⟩⟩
    refine ⟨q, ka, _, _, rfl, rfl, s3 _ _ upd_same, ek, line_le (by rw [hkl]; decide), fun g hg => ?_⟩
    have s4 : Same H2 (upd H3 g (.lst ([V.int 0] ++ nats (kinds y.marks)))) := same_upd ((same_new hq).trans s3) (((same_new hq).trans s3).free hg)
    have R4 := R2.same s4
    obtain ⟨dm, hmsg⟩ := R4.at_msg hr0 hxm
    refine ⟨_, rfl, _, rfl, _, C.msg, dm, _, _, rfl, hmsg, T.c_msg, T.n_msg_who, rfl, _, rfl, _, C.msg, dm, _, _, rfl, hmsg, T.c_msg, T.n_msg_answered, rfl, _, rfl, _, C.msg, dm, _, _, rfl, hmsg, T.c_msg, T.n_msg_many_changed, rfl, _, rfl, _, C.msg, dm, _, _, rfl, hmsg, T.c_msg, T.n_msg_is_gone, rfl, .inr ⟨y.gone, rfl, by show 4 ≤ sizeLine; exact line_le (by decide), fun l hl => ?_⟩⟩
    have ngl : g ≠ l := fun z => by rw [← z, upd_same] at hl; cases hl
    refine ⟨g, l, _, _, rfl, rfl, by rw [upd_ne ngl]; exact upd_same, upd_same, line_le (by rw [List.length_append, hkl]; show 1 + 16 + 4 ≤ 16777216; decide), fun g2 hg2 => ?_⟩
    generalize hH5 : upd (upd H3 g (.lst ([V.int 0] ++ nats (kinds y.marks)))) l _ = H5 at hg2 ⊢
    have s5 : Same (upd H3 g (.lst ([V.int 0] ++ nats (kinds y.marks)))) H5 := by
      rw [← hH5]
      exact same_new hl
    have s6 := (s4.trans s5).trans (same_new (o := .lst (([V.int 0] ++ nats (kinds y.marks)) ++ [V.int (y.who : Int), V.int (ansN y : Int), V.int (y.changes : Int), V.int (if y.gone = true then 1 else 0)])) hg2)
    have R6 := R2.same s6
    obtain ⟨dm6, hmsg6⟩ := R6.at_msg hr0 hxm
    have htxt6 := R6.at_txt hr0 hxm
    refine ⟨_, rfl, _, C.msg, dm6, _, _, rfl, hmsg6, T.c_msg, T.n_msg_text, rfl, g2, _, _, _, rfl, rfl, upd_same, htxt6, line_le ?_, fun g3 hg3 => ?_⟩
    · rw [List.length_append, List.length_append, hkl]
      show 1 + 16 + 4 + _ ≤ _
      omega
    · refine kQ _ g3 ad rfl (R6.free hg3) ?_ ?_
      · rw [ew]
        exact R6.same (same_new hg3)
      · rw [upd_same]
        unfold saidTo
        rw [ew]
        have eshown : Kcs8.shown y = .message (kinds y.marks) y.who (ansN y) y.changes (if y.gone then 1 else 0) y.text := by
          unfold Kcs8.shown ansN kinds
          cases y.answers <;> rfl
        rw [eshown]
        show _ = some (HO.lst ((0 :: Kcs8Neutral.nums (kinds y.marks ++ [y.who, ansN y, y.changes, if y.gone then 1 else 0] ++ y.text)).map V.int))
        unfold Kcs8Neutral.nums nats
        rw [List.map_cons, List.map_map, List.map_append, List.map_append]
        cases y.gone <;> rfl
theorem cal_do_unread (T : Txt K mg C) (U : Tools P w K mg base C) (D : Def K mg "do_unread" s_do_unread) : Cal P w K mg base (L2.CX P w) 6 "do_unread" (Deed C 14) := by
  obtain ⟨f, fd, F, hm⟩ := D.ex
  refine ⟨f, fd, _, F.okX sc_do_unread (fun vs H Q E h => h.len) (fun cdv A outer s H vs Q E hr h => ?_), hm, F.kp, F.binds fun _ _ _ _ _ _ us hl => match us, hl with | [_, _, _], _ => rfl⟩
  obtain ⟨c, hj, h⟩ := h
  obtain ⟨p, fo, n, rfl⟩ := idx_unread hj
  obtain ⟨p', nl, rw_, Fr, S, ad, hc, hp, rfl, R, hF, hnl, hlen, kE, kQ⟩ := h
  cases hc
  replace R := row_off R hF
  refine ⟨_, pss_cons (ps_set (i := 3) sc_do_unread.nd rfl (.inl rfl) (pe_k U.place hr passE (pa_cons (pv 0) (pa_cons (pv 1) pa_nil))))
    (pss_one (ps_ret (pe_lst (pa_cons (pe_c U.unread hr pass0 (pa_cons (pe_fld (pv 3) rfl) (pa_cons (pe_fld (pv 3) rfl) pa_nil))) pa_nil)))), ?_⟩
  have es := step_fair (s := S) (c := .unread p fo n) rfl hp rfl
  refine ⟨_, rfl, _, rfl, fun x dx hx hdx hne => place_sp hx hdx R hnl (fun e => kE _ (es.trans (within_no e)) (by decide)) fun r m hr0 hmo H2 sH2 e2 => ?_⟩
  have ew : Kcs8.step S (.unread p fo n) = _ := es.trans (within_at hr0 hmo)
  have R2 := R.same sH2
  refine ⟨_, rfl, x, C.place, dx, _, _, rfl, e2, T.c_place, T.n_place_room, rfl, _, rfl, x, C.place, dx, _, _, rfl, e2, T.c_place, T.n_place_member, rfl, Fr, S, ad, fo, n, r, p, m, rfl, R2, hr0, hmo, ?_⟩
  exact fin_num kQ ew rfl R2
theorem cal_do_find (T : Txt K mg C) (U : Tools P w K mg base C) (D : Def K mg "do_find" s_do_find) (G : Cal P w K mg base CX0 1 "kth" spKth) : Cal P w K mg base (L2.CX P w) 6 "do_find" (Deed C 17) := by
  obtain ⟨f, fd, F, hm⟩ := D.ex
  refine ⟨f, fd, _, F.okX sc_do_find (fun vs H Q E h => h.len) (fun cdv A outer s H vs Q E hr h => ?_), hm, F.kp, F.binds fun _ _ _ _ _ _ us hl => match us, hl with | [_, _, _], _ => rfl⟩
  obtain ⟨c, hj, h⟩ := h
  obtain ⟨p, t, j, rfl⟩ := idx_find hj
  obtain ⟨p', nl, rw_, Fr, S, ad, hc, hp, rfl, R, hF, hnl, hlen, kE, kQ⟩ := h
  cases hc
  replace hlen : t.length ≤ 400 := hlen
  have hrow : H rw_ = some (.lst (nats t)) := R.sub _ _ upd_same
  replace R := row_off R hF
  refine ⟨_, pss_cons (ps_expr (pe_c U.ask hr passE (pa_cons (pe_c U.isWord hr pass0 (pa_cons (pv 2) pa_nil)) (pa_cons (pe_n T.k_WRONG) pa_nil))))
    (pss_one (ps_ret (pe_c G hr pass0 (pa_cons (pe_c U.places hr pass0 (pa_cons (pv 0) (pa_cons (pe_ix ix_list (pv 1) pe_int (fun _ _ => rfl)) (pa_cons (pe_c U.smallWord hr pass0 (pa_cons (pv 2) pa_nil)) pa_nil))))
      (pa_cons (pe_ix ix_list (pv 1) pe_int (fun _ _ => rfl)) pa_nil))))), ?_⟩
  refine ⟨_, rfl, rw_, t, rfl, hrow, hlen, fun H1 s1 => ⟨_, -22, rfl, fun ht => ?_, fun ht => (kE _ (step_unfair rfl ht) (by decide)).mono s1⟩⟩
  have es := step_fair (s := S) (c := .find p t j) rfl hp ht
  have ew : Kcs8.step S (.find p t j) = (S, Kcs8.told (foundL S p (t.map Kcs8.small))[j]?) := by
    rw [es, ← found_eq R.wf]
    rfl
  refine ⟨_, rfl, _, rfl, nl, _, 0, _, rfl, rfl, SqL.of (s1 _ _ hnl), nats_at (l := [p, j]) (i := 0) rfl, _, rfl, rw_, t, rfl, s1 _ _ hrow, hlen, fun H2 wa s2 hwa ewa => ?_⟩
  have sH2 := s1.trans s2
  refine ⟨Fr, S, ad, p, wa, _, rfl, R.same sH2, ewa, fun H3 fa ts s3 hfa efa ht3 => ?_⟩
  have sH3 := sH2.trans s3
  refine ⟨_, rfl, nl, _, 1, _, rfl, rfl, SqL.of (sH3 _ _ hnl), nats_at (l := [p, j]) (i := 1) rfl, fa, j, ts, _, rfl, efa, ht3, foundL_len _ _ _, fun H4 q s4 hq eq => ?_⟩
  exact fin_kth kQ ew ((R.same sH3).free hq) (R.same (sH3.trans s4)) eq
theorem cal_do_people (T : Txt K mg C) (U : Tools P w K mg base C) (D : Def K mg "do_people" s_do_people) (G : Cal P w K mg base CX0 1 "kth" spKth) : Cal P w K mg base (L2.CX P w) 6 "do_people" (Deed C 16) := by
  obtain ⟨f, fd, F, hm⟩ := D.ex
  refine ⟨f, fd, _, F.okX sc_do_people (fun vs H Q E h => h.len) (fun cdv A outer s H vs Q E hr h => ?_), hm, F.kp, F.binds fun _ _ _ _ _ _ us hl => match us, hl with | [_, _, _], _ => rfl⟩
  obtain ⟨c, hj, h⟩ := h
  obtain ⟨p, fo, n, j, rfl⟩ := idx_people hj
  obtain ⟨p', nl, rw_, Fr, S, ad, hc, hp, rfl, R, hF, hnl, hlen, kE, kQ⟩ := h
  cases hc
  replace R := row_off R hF
  refine ⟨_, pss_cons (ps_set (i := 3) sc_do_people.nd rfl (.inl rfl) (pe_fld (pe_k U.place hr passE (pa_cons (pv 0) (pa_cons (pv 1) pa_nil))) rfl))
    (pss_one (ps_ret (pe_c G hr pass0 (pa_cons (pe_lc (own := [("member", 4)]) (g := gName 4) (te := tTup (tCons (tFld K (tVar 4) "who") (tCons (tCB _ (tCons (tFld K (tVar 4) "is_keeper") tNil)) tNil))) (by rfl) sc_do_people.nd (pi_list (pe_fld (pv 3) rfl)) (blkOk_by (own := [("member", 4)]) (N := n_do_people) (sc := defScope s_do_people) (by decide +kernel))
        (fun _ _ _ _ _ => pg_name (i := 4) sc_do_people.nd rfl (Or.inl rfl)) (fun _ _ _ _ _ => pts_nil) (fun _ _ _ _ _ => pe_tup (pa_cons (pe_fld (pv 4) rfl) (pa_cons (pe_callTy call_int1 (by rfl) T.b_int PyProof.Rows.boot_int (pa_cons (pe_fld (pv 4) rfl) pa_nil)) pa_nil))))
      (pa_cons (pe_ix ix_list (pv 1) pe_int (fun _ _ => rfl)) pa_nil))))), ?_⟩
  have es := step_fair (s := S) (c := .people p fo n j) rfl hp rfl
  refine ⟨_, rfl, _, rfl, fun x dx hx hdx hne => place_sp hx hdx R hnl (fun e => kE _ (es.trans (within_no e)) (by decide)) fun r m hr0 hmo H2 sH2 e2 => ?_⟩
  have ew : Kcs8.step S (.people p fo n j) = (S, Kcs8.told (r.members.map fun m => [m.who, if m.keeper then 1 else 0])[j]?) := by
    refine (es.trans (within_at hr0 hmo)).trans ?_
    rw [List.getElem?_map]
  have R2 := R.same sH2
  have ok := R2.wf.room hr0
  obtain ⟨dr, hroom⟩ := R2.at_room hr0
  have hmems := R2.at_mems hr0
  refine ⟨x, C.place, dx, _, _, rfl, e2, T.c_place, T.n_place_room, rfl, _, rfl, _, C.room, dr, _, _, rfl, hroom, T.c_room, T.n_room_members, rfl, _, rfl, ⟨_, SqL.of hmems⟩, fun D hD => ?_⟩
  refine lc_list (K := K) (a := ad (.rm fo n .mems)) (xs := memsL ad fo n r.members) (fun i H' => Same H2 H' ∧ ∃ ts : List Addr, H' D = some (.lst (ts.map V.ref)) ∧ TupsAt H' ts ((r.members.take i).map fun m => [m.who, if m.keeper then 1 else 0])) ⟨same_new hD, [], upd_same, .nil⟩ (fun i H' _ z => SqL.of (z.1 _ _ hmems)) ?_ ?_
  · rintro i y H' hi ⟨z1, ts, z2, z3⟩
    obtain ⟨mm, hmi, rfl⟩ := memsL_get hi
    have hmm : mm ∈ r.members := List.mem_of_getElem? hmi
    have hmo' : memberOf r mm.who = some mm := find_who ok.mnd hmm rfl
    obtain ⟨dm, hmem⟩ := R2.at_mem hr0 hmo'
    have hil := lt_of_get hmi
    have hfew := ok.few
    refine ⟨rfl, yes_of (iteT ?_)⟩
    refine ⟨_, rfl, _, C.mem, dm, _, _, rfl, z1 _ _ hmem, T.c_mem, T.n_mem_who, rfl, _, rfl, _, C.mem, dm, _, _, rfl, z1 _ _ hmem, T.c_mem, T.n_mem_is_keeper, rfl, .inr ⟨mm.keeper, rfl, by show 2 ≤ sizeLine; exact line_le (by decide), fun tp htp => ?_⟩⟩
    have nDt : D ≠ tp := fun z => by rw [← z, z2] at htp; cases htp
    have hl := z3.length
    rw [List.length_map, List.length_take] at hl
    refine ⟨_, by rw [upd_ne nDt]; exact z2, line_lt (by rw [List.length_map]; omega), same_upd (same_upd z1 (z1.free htp)) hD, ts ++ [tp], by rw [List.map_append]; exact upd_same, ?_⟩
    rw [take_more hmi, List.map_append]
    refine (z3.same fun b o e => ?_).snoc ?_
    · rw [upd_ne (fun z => by rw [z, z2] at e; cases e), upd_ne (ne_of_none e htp)]
      exact e
    · rw [upd_ne nDt.symm, upd_same]
      show _ = some (HO.tup (nats [mm.who, if mm.keeper then 1 else 0]))
      cases mm.keeper <;> rfl
  · rintro H3 ⟨z1, ts, z2, z3⟩
    rw [memsL_length, List.take_length] at z3
    have sH3 := sH2.trans z1
    refine ⟨_, rfl, nl, _, 3, _, rfl, rfl, SqL.of (sH3 _ _ hnl), nats_at (l := [p, fo, n, j]) (i := 3) rfl, D, j, ts, _, rfl, z2, z3, fun l hl => ?_, fun H4 q s4 hq eq => ?_⟩
    · rw [List.mem_map] at hl
      obtain ⟨mm, _, rfl⟩ := hl
      show 2 ≤ 1000
      decide
    · exact fin_kth kQ ew ((R.same sH3).free hq) (R.same (sH3.trans s4)) eq
end
end Tr
/-! deeds.py: the rooms of somebody -/
namespace Tr
open PySem PySem.Spec PyProof.Rows L2
open Kcs8 (Abs Member Message roomOf memberOf withRoom withMessage sees)
section
variable {P : Program} {w : World} {K : PySem.W.Frag} {mg : Str → Option Value} {base : Heap} {C : Cs}
theorem inv_in (l : List Nat) (p : Nat) : (valV (invK l) (Sum.inl (p : Int))).isSome = l.contains p := by
  rw [valV_inv]
  by_cases h : p ∈ l
  · rw [if_pos h]
    simp [h]
  · rw [if_neg h]
    simp [h]
theorem cal_do_rooms (T : Txt K mg C) (U : Tools P w K mg base C) (D : Def K mg "do_rooms" s_do_rooms) (G : Cal P w K mg base CX0 1 "kth" spKth) : Cal P w K mg base CX0 6 "do_rooms" (Deed C 15) := by
  obtain ⟨f, fd, F, hm⟩ := D.ex
  refine ⟨f, fd, _, F.ok sc_do_rooms (fun vs H Q E h => h.len) (fun cdv A outer s H vs Q E hr h => ?_), hm, F.kp, F.binds fun _ _ _ _ _ _ us hl => match us, hl with | [_, _, _], _ => rfl⟩
  obtain ⟨c, hj, h⟩ := h
  obtain ⟨p, j, rfl⟩ := idx_rooms hj
  obtain ⟨p', nl, rw_, Fr, S, ad, hc, hp, rfl, R, hF, hnl, hlen, kE, kQ⟩ := h
  cases hc
  replace R := row_off R hF
  refine ⟨_, pss_cons (ps_asg (pv 1) (pg_lst rfl (pgs_cons (pg_name (i := 3) sc_do_rooms.nd rfl (.inl rfl)) (pgs_cons (pg_name (i := 4) sc_do_rooms.nd rfl (.inl rfl)) pgs_nil))))
    (pss_cons (ps_set (i := 5) sc_do_rooms.nd rfl (.inl rfl) (pe_lst pa_nil))
    (pss_cons (ps_for PassesOwn.never rfl (pi_list (pe_c U.allRooms hr pass0 (pa_cons (pv 0) pa_nil))) (pg_tup rfl (pgs_cons (pg_name (i := 6) sc_do_rooms.nd rfl (.inl rfl)) (pgs_cons (pg_name (i := 7) sc_do_rooms.nd rfl (.inl rfl)) (pgs_cons (pg_name (i := 8) sc_do_rooms.nd rfl (.inl rfl)) pgs_nil))))
      (pss_cons (ps_set (i := 9) sc_do_rooms.nd rfl (.inl rfl) (pe_c U.memberOf hr pass0 (pa_cons (pv 8) (pa_cons (pv 3) pa_nil))))
      (pss_one (ps_if (pt_cmpR op_notN (pv 9) pe_non (nomark _))
        (pss_one (ps_expr (pe_bm PySem.F.plainAttrs_list PySem.F.slot_list_append PySem.F.type_list_append mt_append (pv 5) (pa_cons (pe_tup (pa_cons (pv 6) (pa_cons (pv 7) (pa_cons (pe_op op_add pe_int (pe_callTy call_int1 (by rfl) T.b_int PyProof.Rows.boot_int (pa_cons (pe_fld (pv 9) rfl) pa_nil)))
          (pa_cons (pe_callB call_len_seq (by rfl) T.b_len PySem.boot_len (pa_cons (pe_fld (pv 8) rfl) pa_nil)) pa_nil))))) pa_nil))))
        (pss_one (ps_if (pt_cmp (pc_din (hu_of hr) (pv 3) (pe_fld (pv 8) rfl)))
          (pss_one (ps_expr (pe_bm PySem.F.plainAttrs_list PySem.F.slot_list_append PySem.F.type_list_append mt_append (pv 5) (pa_cons (pe_tup (pa_cons (pv 6) (pa_cons (pv 7) (pa_cons pe_int (pa_cons pe_int pa_nil))))) pa_nil)))) pss_nil))))))
    (pss_one (ps_ret (pe_c G hr pass0 (pa_cons (pv 5) (pa_cons (pv 4) pa_nil))))))), ?_⟩
  have W := R.wf
  have es := step_fair (s := S) (c := .rooms p j) rfl hp rfl
  have ew : Kcs8.step S (.rooms p j) = (S, Kcs8.told ((keysOf S).flatMap (mineAt S p))[j]?) := by
    rw [es, ← mine_eq W, List.getElem?_map]
    rfl
  have hfl64 := keysOf_length S W
  refine ⟨_, rfl, nl, _, rfl, SqL.of hnl, rfl, _, _, rfl, _, _, rfl, rfl, ?_⟩
  refine ⟨by show 0 ≤ sizeLine; exact Nat.zero_le _, fun fl hfl => ?_⟩
  have R0 : Rep C Fr (upd H fl (.lst [])) S ad := R.same (same_new hfl)
  refine ⟨_, rfl, Fr, S, ad, rfl, R0, fun H1 p1 ts s1 hp1 e1 ht => ?_⟩
  have sH1 : Same H H1 := (same_new hfl).trans s1
  have n1f : p1 ≠ fl := fun z => by rw [z, upd_same] at hp1; cases hp1
  refine ⟨p1, rfl, ⟨_, SqL.of e1⟩, ?_⟩
  refine for_list (K := K) (a := p1) (xs := ts.map V.ref) (fun i σ H' => ∃ (us : List Addr) (v6 v7 v8 v9 : Option V), σ = [some (.ref (ad .house)), some (.ref nl), some (.ref rw_), some (.int (p : Int)), some (.int (j : Int)), some (.ref fl), v6, v7, v8, v9] ∧ (∀ b o, H1 b = some o → b ≠ fl → H' b = some o) ∧
      H' fl = some (.lst (us.map V.ref)) ∧ TupsAt H' us (((keysOf S).take i).flatMap (mineAt S p)))
    ⟨[], none, none, none, none, rfl, fun b o e _ => e, s1 _ _ upd_same, .nil⟩ (fun i σ H' _ z => ?_) ?_ ?_
  · obtain ⟨_, _, _, _, _, _, z, _⟩ := z
    exact SqL.of (z _ _ e1 n1f)
  · rintro i x σ H' hi ⟨us, v6, v7, v8, v9, rfl, z1, z2, z3⟩
    obtain ⟨ta, fk, rfl, hk, hta⟩ := ht.get hi
    obtain ⟨fo, n⟩ := fk
    dsimp only at hta
    have nt : ta ≠ fl := fun z => by
      have := s1 fl _ upd_same
      rw [z, this] at hta
      cases hta
    have sHH : Same H H' := fun b o e => z1 b o (sH1 b o e) (ne_of_none e hfl)
    have step : ((keysOf S).take (i + 1)).flatMap (mineAt S p) = ((keysOf S).take i).flatMap (mineAt S p) ++ mineAt S p (fo, n) := by
      rw [take_more hk, List.flatMap_append]
      show _ ++ (mineAt S p (fo, n) ++ []) = _
      rw [List.append_nil]
    obtain ⟨r, hr0⟩ := Option.isSome_iff_exists.mp ((mem_keysOf W).mp (List.mem_of_getElem? hk))
    have hr0' : roomOf S fo n = some r := hr0
    have ok := W.room hr0'
    have R1 := R.same sHH
    obtain ⟨dr, hroom⟩ := R1.at_room hr0'
    have hmsgs := R1.at_msgs hr0'
    have hsz : us.length ≤ 64 := by
      rw [z3.length]
      refine Nat.le_trans (flat_le1 _ (fun a => (mineAt_length S p a).1) _) ?_
      rw [List.length_take]
      omega
    -- one more
    have more : ∀ (l : List Nat) (tp : Addr) (v9 : Option V), H' tp = none → mineAt S p (fo, n) = [l] → ∃ (us' : List Addr) (v6 v7 v8 v9' : Option V), [some (.ref (ad .house)), some (.ref nl), some (.ref rw_), some (.int (p : Int)), some (.int (j : Int)), some (.ref fl), some (.int (fo : Int)), some (.int (n : Int)), some (.ref (ad (.rm fo n .room))), v9] = [some (.ref (ad .house)), some (.ref nl), some (.ref rw_), some (.int (p : Int)), some (.int (j : Int)), some (.ref fl), v6, v7, v8, v9'] ∧
        (∀ b o, H1 b = some o → b ≠ fl → upd (upd H' tp (.tup (nats l))) fl (.lst (us.map V.ref ++ [V.ref tp])) b = some o) ∧ upd (upd H' tp (.tup (nats l))) fl (.lst (us.map V.ref ++ [V.ref tp])) fl = some (.lst (us'.map V.ref)) ∧ TupsAt (upd (upd H' tp (.tup (nats l))) fl (.lst (us.map V.ref ++ [V.ref tp]))) us' (((keysOf S).take (i + 1)).flatMap (mineAt S p)) := by
      intro l tp v9 htp el
      have ntf : fl ≠ tp := fun z => by rw [← z, z2] at htp; cases htp
      refine ⟨us ++ [tp], _, _, _, _, rfl, fun b o e hb => ?_, by rw [List.map_append]; exact upd_same, ?_⟩
      · rw [upd_ne hb, upd_ne (ne_of_none (z1 b o e hb) htp)]
        exact z1 b o e hb
      · rw [step, el]
        refine (z3.same fun b o e => ?_).snoc ?_
        · rw [upd_ne (fun z => by rw [z, z2] at e; cases e), upd_ne (ne_of_none e htp)]
          exact e
        · rw [upd_ne ntf.symm]
          exact upd_same
    refine ⟨ta, _, rfl, SqT.of (z1 _ _ hta nt), rfl, _, _, rfl, _, _, rfl, _, _, rfl, rfl, ?_⟩
    refine ⟨_, rfl, _, rfl, Fr, S, ad, fo, n, r, p, rfl, R1, hr0', ?_⟩
    cases hmo : memberOf r p with
    | none =>
      refine ⟨_, rfl, rfl, _, rfl, iteF ?_⟩
      refine ⟨_, rfl, _, rfl, _, C.room, dr, _, _, rfl, hroom, T.c_room, T.n_room_invited, rfl, _, _, rfl, DGet.k (k := Sum.inl (p : Int)) (R1.at_inv hr0'), _, rfl, ite2 (fun c => ?_) (fun c => ?_)⟩
      · rw [inv_in] at c
        have el : mineAt S p (fo, n) = [[fo, n, 0, 0]] := by
          unfold mineAt
          rw [hr0]
          show (match memberOf r p with | some m => _ | none => if r.invited.contains p then [[fo, n, 0, 0]] else []) = _
          rw [hmo]
          exact if_pos c
        refine ⟨_, rfl, .inl ⟨rfl, _, SqL.of z2⟩, _, rfl, _, rfl, by show 4 ≤ sizeLine; exact line_le (by decide), fun tp htp => ?_⟩
        have ntf : fl ≠ tp := fun z => by rw [← z, z2] at htp; cases htp
        refine ⟨fl, _, _, rfl, rfl, by rw [upd_ne ntf]; exact z2, line_lt (by rw [List.length_map]; omega), ?_⟩
        exact more [fo, n, 0, 0] tp _ htp el
      · rw [inv_in] at c
        have el : mineAt S p (fo, n) = [] := by
          unfold mineAt
          rw [hr0]
          show (match memberOf r p with | some m => _ | none => if r.invited.contains p then [[fo, n, 0, 0]] else []) = _
          rw [hmo]
          exact if_neg c
        refine ⟨us, _, _, _, _, rfl, z1, z2, ?_⟩
        rw [step, el, List.append_nil]
        exact z3
    | some m =>
      obtain ⟨dm, hmem⟩ := R1.at_mem hr0' hmo
      have el : mineAt S p (fo, n) = [[fo, n, if m.keeper then 2 else 1, r.messages.length]] := by
        unfold mineAt
        rw [hr0]
        show (match memberOf r p with | some m => _ | none => _) = _
        rw [hmo]
      refine ⟨_, rfl, rfl, _, rfl, iteT ?_⟩
      refine ⟨_, rfl, .inl ⟨rfl, _, SqL.of z2⟩, _, rfl, _, rfl, _, rfl, _, C.mem, dm, _, _, rfl, hmem, T.c_mem, T.n_mem_is_keeper, rfl, .inr ⟨m.keeper, rfl, _, _, rfl, rfl, _, rfl, _, C.room, dr, _, _, rfl, hroom, T.c_room, T.n_room_messages, rfl, _, _, rfl, .inl (SqL.of hmsgs), by show 4 ≤ sizeLine; exact line_le (by decide), fun tp htp => ?_⟩⟩
      have ntf : fl ≠ tp := fun z => by rw [← z, z2] at htp; cases htp
      refine ⟨fl, _, _, rfl, rfl, by rw [upd_ne ntf]; exact z2, line_lt (by rw [List.length_map]; omega), ?_⟩
      have h := more _ tp (some (.ref (ad (.rm fo n (.mem p))))) htp el
      have e4 : (nats [fo, n, if m.keeper then 2 else 1, r.messages.length]) = [V.int (fo : Int), V.int (n : Int), V.int (1 + (if m.keeper = true then 1 else 0)), V.int ((msgsL ad fo n r.messages.length).length : Nat)] := by
        rw [msgsL_length]
        cases m.keeper <;> rfl
      rw [e4] at h
      exact h
  · rintro σ H' ⟨us, v6, v7, v8, v9, rfl, z1, z2, z3⟩
    have sHH : Same H H' := fun b o e => z1 b o (sH1 b o e) (ne_of_none e hfl)
    have hl := ht.length
    rw [List.length_map, hl, List.take_length] at z3
    refine ⟨_, rfl, _, rfl, fl, j, us, _, rfl, z2, z3, fun l hl => ?_, fun H4 q s4 hq eq => ?_⟩
    · rw [List.mem_flatMap] at hl
      obtain ⟨fk, _, hl⟩ := hl
      rw [(mineAt_length S p fk).2 l hl]
      decide
    · exact fin_kth kQ ew ((R.same sHH).free hq) (R.same (sHH.trans s4)) eq
end
end Tr
/-! house.py: the street, the tape -/
namespace Tr
open PySem PySem.Spec PyProof.Rows L2
open Kcs8 (Abs Member Message roomOf memberOf withRoom withMessage sees)
def tapeF (nl : Addr) (i : Nat) : List (Str × V) := [("numbers", .ref nl), ("at", .int (i : Int))]
theorem putF_at (nl : Addr) (i : Nat) : putF "at" (V.int ((i : Int) + 1)) (tapeF nl i) = tapeF nl (i + 1) := by
  have : ((i : Int) + 1) = ((i + 1 : Nat) : Int) := by omega
  rw [this]
  rfl
/-- a house that was made between H and H' -/
def FreshHouse (C : Cs) (H H' : Hp) (hh : Addr) : Prop := ∃ (l dh : Addr) (L : List Addr), H hh = none ∧ H' hh = some (.ins C.house dh [("founded", .ref l)]) ∧ H l = none ∧ H' l = some (.lst (L.map V.ref)) ∧ L.length = 16 ∧ L.Nodup ∧ ∀ a ∈ L, H a = none ∧ a ≠ l ∧ H' a = some (.lst [])
theorem FreshHouse.rep {C : Cs} {H H' F : Hp} {hh : Addr} (h : FreshHouse C H H' hh) (hs : ∀ b o, F b = some o → H' b = some o) (hf : ∀ b, H b = none → F b = none) : ∃ ad : Ad, ad .house = hh ∧ Rep C F H' Kcs8.first ad := by
  obtain ⟨l, dh, L, h1, h2, h3, h4, h5, h6, h7⟩ := h
  exact Rep.fresh h5 h6 hs h2 (hf _ h1) h4 (hf _ h3) fun a ha => ⟨(h7 a ha).2.2, hf _ (h7 a ha).1, (h7 a ha).2.1⟩
theorem FreshHouse.later {C : Cs} {H H' H2 : Hp} {hh : Addr} (h : FreshHouse C H H' hh) (k : ∀ b o, H' b = some o → H b = none → H2 b = some o) : FreshHouse C H H2 hh := by
  obtain ⟨l, dh, L, h1, h2, h3, h4, h5, h6, h7⟩ := h
  exact ⟨l, dh, L, h1, k _ _ h2 h1, h3, k _ _ h4 h3, h5, h6, fun a ha => ⟨(h7 a ha).1, (h7 a ha).2.1, k _ _ (h7 a ha).2.2 (h7 a ha).1⟩⟩
/-- House(), its promise met -/
theorem house_sp {C : Cs} {H : Hp} {x dx : Addr} {Q : Hp → Prop} {E : XK} (hx : H x = none) (hdx : H dx = none) (hne : dx ≠ x) (k : ∀ H', Same H H' → FreshHouse C H H' x → Q H') :
    spHouseI C [.ref x] (upd (upd H dx (.own x)) x (.ins C.house dx [])) (fun v H2 => v = .non ∧ Q H2) E := by
  have s0 : Same H (upd (upd H dx (.own x)) x (.ins C.house dx [])) := same_upd (same_new hdx) hx
  refine ⟨x, dx, rfl, upd_same, fun H' l L b1 l1 l2 l3 l4 l5 l6 => ⟨rfl, k H' (Same.made hx hdx b1) ⟨l, dx, L, hx, l6, s0.free l4, l5, l1, l2, fun a ha => ⟨s0.free (l3 a ha).1, (l3 a ha).2.1, (l3 a ha).2.2⟩⟩⟩⟩
def spStreetI (C : Cs) : Sp := fun vs H Q _ => ∃ (x dx : Addr), vs = [.ref x] ∧ H x = some (.ins C.street dx []) ∧ ∀ H' hh, But x H H' → FreshHouse C H H' hh → H' x = some (.ins C.street dx [("house", .ref hh)]) → Q .non H'
def spTapeI (K : PySem.W.Frag) (C : Cs) : Sp := fun vs H Q _ => ∃ (x dx a : Addr) (ns : List Int), vs = [.ref x, .ref a] ∧ H x = some (.ins C.tape dx []) ∧ SqL K H a (ns.map V.int) ∧
  ∀ H' nl, But x H H' → H nl = none → H' nl = some (.lst (ns.map V.int)) → H' x = some (.ins C.tape dx (tapeF nl 0)) → Q .non H'
def spDone (C : Cs) : Sp := fun vs H Q _ => ∃ (x dx nl : Addr) (ns : List Int) (i : Nat), vs = [.ref x] ∧ H x = some (.ins C.tape dx (tapeF nl i)) ∧ H nl = some (.lst (ns.map V.int)) ∧ Q (.bl (decide (ns.length ≤ i))) H
def spOne (C : Cs) : Sp := fun vs H Q _ => ∃ (x dx nl : Addr) (ns : List Int) (i : Nat) (z : Int), vs = [.ref x] ∧ H x = some (.ins C.tape dx (tapeF nl i)) ∧ H nl = some (.lst (ns.map V.int)) ∧ ns[i]? = some z ∧ Q (.int z) (upd H x (.ins C.tape dx (tapeF nl (i + 1))))
def spMany (C : Cs) : Sp := fun vs H Q _ => ∃ (x dx nl : Addr) (ns : List Int) (i m : Nat), vs = [.ref x, .int (m : Int)] ∧ H x = some (.ins C.tape dx (tapeF nl i)) ∧ H nl = some (.lst (ns.map V.int)) ∧ i + m ≤ ns.length ∧ m ≤ 1000 ∧
  ∀ H' p, But x H H' → H p = none → H' x = some (.ins C.tape dx (tapeF nl (i + m))) → H' p = some (.lst (((ns.drop i).take m).map V.int)) → Q (.ref p) H'
def spRow (C : Cs) : Sp := fun vs H Q _ => ∃ (x dx nl : Addr) (ns : List Int) (i m : Nat), vs = [.ref x] ∧ H x = some (.ins C.tape dx (tapeF nl i)) ∧ H nl = some (.lst (ns.map V.int)) ∧ ns[i]? = some (m : Int) ∧ i + 1 + m ≤ ns.length ∧ m ≤ 1000 ∧
  ∀ H' p, But x H H' → H p = none → H' x = some (.ins C.tape dx (tapeF nl (i + 1 + m))) → H' p = some (.lst (((ns.drop (i + 1)).take m).map V.int)) → Q (.ref p) H'
section
variable {P : Program} {w : World} {K : PySem.W.Frag} {mg : Str → Option Value} {base : Heap} {C : Cs}
theorem mak_street (T : Txt K mg C) (D : DefI K mg "Street" C.street "Street.__init__" s_Street_init) (G : Mak P w K mg base CX0 1 "House" C.house (spHouseI C)) : Mak P w K mg base CX0 3 "Street" C.street (spStreetI C) := by
  obtain ⟨f, fd, F, M, hm⟩ := D.ex
  refine ⟨f, fd, _, F.ok sc_Street_init (fun vs H Q E h => ?_) (fun cdv A outer s H vs Q E hr h => ?_), M, hm, F.binds fun _ _ _ _ _ _ us hl => match us, hl with | [_], _ => rfl⟩
  · obtain ⟨x, dx, rfl, _⟩ := h
    rfl
  · obtain ⟨x, dx, rfl, hx, k⟩ := h
    refine ⟨_, pss_one (ps_fld (pv 0) (pe_k0 G hr pass0) rfl), ?_⟩
    refine fun y dy hy hdy hne => house_sp hy hdy hne fun H1 s1 fh => ?_
    refine ⟨_, rfl, x, C.street, dx, _, rfl, s1 _ _ hx, T.c_street, T.n_street_house, (by show 0 < 1000; decide), ?_⟩
    refine k _ y (fun b o e hb => ?_) (fh.later fun b o e hb => ?_) upd_same
    · rw [upd_ne hb]
      exact s1 _ _ e
    · rw [upd_ne (fun z => by rw [z, hx] at hb; cases hb)]
      exact e
theorem mak_tape (T : Txt K mg C) (D : DefI K mg "Tape" C.tape "Tape.__init__" s_Tape_init) : Mak P w K mg base CX0 1 "Tape" C.tape (spTapeI K C) := by
  obtain ⟨f, fd, F, M, hm⟩ := D.ex
  refine ⟨f, fd, _, F.ok sc_Tape_init (fun vs H Q E h => ?_) (fun cdv A outer s H vs Q E hr h => ?_), M, hm, F.binds fun _ _ _ _ _ _ us hl => match us, hl with | [_, _], _ => rfl⟩
  · obtain ⟨x, dx, a, ns, rfl, _⟩ := h
    rfl
  · obtain ⟨x, dx, a, ns, rfl, hx, ha, k⟩ := h
    refine ⟨_, pss_cons (ps_fld (pv 0) (pe_callTy call_list_of (by rfl) T.b_list PyProof.Rows.boot_list (pa_cons (pv 1) pa_nil)) rfl) (pss_one (ps_fld (pv 0) pe_int rfl)), ?_⟩
    refine ⟨_, rfl, a, _, rfl, .inl ha, fun nl hnl => ?_⟩
    have nxl : x ≠ nl := ne_of_none hx hnl
    refine ⟨_, rfl, x, C.tape, dx, _, rfl, by rw [upd_ne nxl]; exact hx, T.c_tape, T.n_tape_numbers, (by show 0 < 1000; decide), ?_⟩
    refine ⟨_, rfl, x, C.tape, dx, _, rfl, upd_same, T.c_tape, T.n_tape_at, (by show 1 < 1000; decide), ?_⟩
    refine k _ nl (fun b o e hb => ?_) hnl ?_ upd_same
    · rw [upd_ne hb, upd_ne hb, upd_ne (ne_of_none e hnl)]
      exact e
    · rw [upd_ne nxl.symm, upd_ne nxl.symm]
      exact upd_same
theorem calM_done (T : Txt K mg C) (D : DefM K C.tape "is_done" "Tape.is_done" s_Tape_is_done) : CalM P w K mg base CX0 1 C.tape "is_done" (spDone C) := by
  obtain ⟨f, fd, F, M⟩ := D.ex
  refine ⟨f, fd, _, F.ok sc_Tape_is_done (fun vs H Q E h => ?_) (fun cdv A outer s H vs Q E hr h => ?_), M, F.binds fun _ _ _ _ _ _ us hl => match us, hl with | [_], _ => rfl⟩
  · obtain ⟨_, _, _, _, _, rfl, _⟩ := h
    rfl
  · obtain ⟨x, dx, nl, ns, i, rfl, hx, hnl, k⟩ := h
    refine ⟨_, pss_one (ps_ret (pe_cmpR op_ge (pe_fld (pv 0) rfl) (pe_callB call_len_seq (by rfl) T.b_len PySem.boot_len (pa_cons (pe_fld (pv 0) rfl) pa_nil)) (nomark _))), ?_⟩
    refine ⟨_, rfl, x, C.tape, dx, _, _, rfl, hx, T.c_tape, T.n_tape_at, rfl, _, rfl, x, C.tape, dx, _, _, rfl, hx, T.c_tape, T.n_tape_numbers, rfl, _, _, rfl, .inl (SqL.of hnl), _, _, rfl, rfl, ?_⟩
    have e : decide ((((ns.map V.int).length : Nat) : Int) ≤ (i : Int)) = decide (ns.length ≤ i) := by
      rw [List.length_map]
      exact decide_eq_decide.mpr (by omega)
    show Q (V.bl (decide ((((ns.map V.int).length : Nat) : Int) ≤ (i : Int)))) H
    rw [e]
    exact k
theorem calM_one (T : Txt K mg C) (D : DefM K C.tape "take_one" "Tape.take_one" s_Tape_take_one) : CalM P w K mg base CX0 1 C.tape "take_one" (spOne C) := by
  obtain ⟨f, fd, F, M⟩ := D.ex
  refine ⟨f, fd, _, F.ok sc_Tape_take_one (fun vs H Q E h => ?_) (fun cdv A outer s H vs Q E hr h => ?_), M, F.binds fun _ _ _ _ _ _ us hl => match us, hl with | [_], _ => rfl⟩
  · obtain ⟨_, _, _, _, _, _, rfl, _⟩ := h
    rfl
  · obtain ⟨x, dx, nl, ns, i, z, rfl, hx, hnl, hz, k⟩ := h
    refine ⟨_, pss_cons (ps_set (i := 1) sc_Tape_take_one.nd rfl (.inl rfl) (pe_ix ix_list (pe_fld (pv 0) rfl) (pe_fld (pv 0) rfl) (fun _ _ => rfl))) (pss_cons (ps_fldaug (pv 0) pe_int in_add) (pss_one (ps_ret (pv 1)))), ?_⟩
    refine ⟨_, rfl, x, C.tape, dx, _, _, rfl, hx, T.c_tape, T.n_tape_numbers, rfl, _, rfl, x, C.tape, dx, _, _, rfl, hx, T.c_tape, T.n_tape_at, rfl, _, _, _, _, rfl, rfl, SqL.of hnl, atI_nat (by rw [List.getElem?_map, hz]; rfl), ?_⟩
    refine ⟨_, rfl, x, C.tape, dx, _, _, rfl, hx, T.c_tape, T.n_tape_at, rfl, _, _, rfl, rfl, dx, _, hx, (by show 2 < 1000; decide), ?_⟩
    refine ⟨_, rfl, ?_⟩
    rw [putF_at]
    exact k
theorem calM_many (T : Txt K mg C) (D : DefM K C.tape "take_many" "Tape.take_many" s_Tape_take_many) (G : CalM P w K mg base CX0 1 C.tape "take_one" (spOne C)) : CalM P w K mg base CX0 2 C.tape "take_many" (spMany C) := by
  obtain ⟨f, fd, F, M⟩ := D.ex
  refine ⟨f, fd, _, F.ok sc_Tape_take_many (fun vs H Q E h => ?_) (fun cdv A outer s H vs Q E hr h => ?_), M, F.binds fun _ _ _ _ _ _ us hl => match us, hl with | [_, _], _ => rfl⟩
  · obtain ⟨_, _, _, _, _, _, rfl, _⟩ := h
    rfl
  · obtain ⟨x, dx, nl, ns, i, m, rfl, hx, hnl, hm1, hm2, k⟩ := h
    refine ⟨_, pss_one (ps_ret (pe_lc (own := [("k", 2)]) (g := gName 2) (by rfl) sc_Tape_take_many.nd (pi_range1 (by rfl) T.b_range (pa_cons (pv 1) pa_nil)) (blkOk_by (own := [("k", 2)]) (N := n_Tape_take_many) (sc := defScope s_Tape_take_many) (by decide +kernel))
        (fun _ _ _ _ _ => pg_name (i := 2) sc_Tape_take_many.nd rfl (Or.inl rfl)) (fun _ _ _ _ _ => pts_nil) (fun _ _ _ _ _ => pe_m0 G T.c_tape hr pass0 (pv 0)))), ?_⟩
    refine ⟨_, rfl, (m : Int), rfl, by omega, by omega, fun D hD => ?_⟩
    rw [Int.toNat_natCast]
    have nDx : D ≠ x := fun z => by rw [z, hx] at hD; cases hD
    refine lc_range (lo := 0) (n := m) (fun j H' => But x H H' ∧ H' x = some (.ins C.tape dx (tapeF nl (i + j))) ∧ H' D = some (.lst (((ns.drop i).take j).map V.int))) ⟨fun b o e _ => same_new hD b o e, by rw [upd_ne nDx.symm]; exact hx, upd_same⟩ ?_ ?_
    · rintro j H' hj ⟨z1, z2, z3⟩
      have hlt : i + j < ns.length := by omega
      have hz : ns[i + j]? = some ns[i + j] := List.getElem?_eq_getElem hlt
      have nln : nl ≠ x := fun z => by rw [z, hx] at hnl; cases hnl
      refine ⟨rfl, yes_of (iteT ?_)⟩
      refine ⟨_, rfl, x, dx, _, rfl, z2, rfl, x, dx, nl, ns, i + j, _, rfl, z2, z1 _ _ hnl nln, hz, ?_⟩
      refine ⟨_, by rw [upd_ne nDx]; exact z3, line_lt ?_, fun b o e hb => ?_, ?_, ?_⟩
      · rw [List.length_map, List.length_take]
        omega
      · rw [upd_ne (ne_of_none e hD), upd_ne hb]
        exact z1 b o e hb
      · rw [upd_ne nDx.symm]
        exact upd_same
      · rw [upd_same, take_more (x := ns[i + j]) (by rw [List.getElem?_drop]; exact hz), List.map_append]
        rfl
    · rintro H' ⟨z1, z2, z3⟩
      exact k H' D z1 hD z2 z3
theorem calM_row (T : Txt K mg C) (D : DefM K C.tape "take_row" "Tape.take_row" s_Tape_take_row) (G : CalM P w K mg base CX0 1 C.tape "take_one" (spOne C)) (GM : CalM P w K mg base CX0 2 C.tape "take_many" (spMany C)) : CalM P w K mg base CX0 3 C.tape "take_row" (spRow C) := by
  obtain ⟨f, fd, F, M⟩ := D.ex
  refine ⟨f, fd, _, F.ok sc_Tape_take_row (fun vs H Q E h => ?_) (fun cdv A outer s H vs Q E hr h => ?_), M, F.binds fun _ _ _ _ _ _ us hl => match us, hl with | [_], _ => rfl⟩
  · obtain ⟨_, _, _, _, _, _, rfl, _⟩ := h
    rfl
  · obtain ⟨x, dx, nl, ns, i, m, rfl, hx, hnl, hz, hm1, hm2, k⟩ := h
    refine ⟨_, pss_one (ps_ret (pe_m GM T.c_tape hr pass0 (pv 0) (pa_cons (pe_m0 G T.c_tape hr pass0 (pv 0)) pa_nil))), ?_⟩
    have nln : nl ≠ x := fun z => by rw [z, hx] at hnl; cases hnl
    refine ⟨_, rfl, x, dx, _, rfl, hx, rfl, _, rfl, x, dx, _, rfl, hx, rfl, x, dx, nl, ns, i, _, rfl, hx, hnl, hz, ?_⟩
    refine ⟨x, dx, nl, ns, i + 1, m, rfl, upd_same, by rw [upd_ne nln]; exact hnl, hm1, hm2, fun H' p b hp e1 e2 => k H' p (fun c o e hc => b c o (by rw [upd_ne hc]; exact e) hc) ?_ e1 e2⟩
    by_cases c : p = x
    · rw [c, upd_same] at hp
      cases hp
    · rw [upd_ne c] at hp
      exact hp
end
end Tr
/-! house.py: one answer -/
namespace Tr
open PySem PySem.Spec PyProof.Rows L2
open Kcs8 (Abs Member Message roomOf memberOf withRoom withMessage sees)
def manyOf : Nat → Nat
  | 1 => 2
  | 3 => 3
  | 4 => 3
  | 11 => 5
  | 14 => 3
  | 15 => 2
  | 17 => 2
  | _ => 4
def hasRow : Nat → Bool
  | 8 => true
  | 9 => true
  | 17 => true
  | _ => false
theorem many_nums {c : Kcs8.Call} (h : 1 ≤ idx c) : (numsOf c).length = manyOf (idx c) := by
  cases c <;> first | rfl | (exact absurd h (by decide))
theorem has_row {c : Kcs8.Call} : hasRow (idx c) = (rowOf c).isSome := by
  cases c <;> rfl
theorem caller_nums {c : Kcs8.Call} (h : 1 ≤ idx c) : ∃ p rest, Kcs8.caller c = some p ∧ numsOf c = p :: rest := by
  cases c <;> first | exact ⟨_, _, rfl, rfl⟩ | (exact absurd h (by decide))
theorem idx_le (c : Kcs8.Call) : idx c ≤ 17 := by
  cases c <;> exact Nat.le_of_ble_eq_true rfl
structure DeedsOk (P : Program) (w : World) (K : PySem.W.Frag) (mg : Str → Option Value) (base : Heap) (C : Cs) : Prop where
  ex : ∃ D : Addr, mg "DEEDS" = some (.ref D) ∧ ∀ j, 1 ≤ j → j ≤ 17 → ∃ t f, KDctI K D (j : Nat) (.ref t) ∧ (∀ H, SqT K H t [.int (manyOf j : Nat), .bl (hasRow j), .ref f]) ∧ HeldX P w K mg base (L2.CX P w) 6 f (Deed C j)
theorem but_same {H H' : Hp} {x : Addr} {o : HO} (b : But x H H') (e : H' x = some o) : Same (upd H x o) H' := fun c u h => by
  by_cases z : c = x
  · rw [z, upd_same] at h
    cases h
    rw [z]
    exact e
  · rw [upd_ne z] at h
    exact b c u h z
theorem upd_upd {H : Hp} {x : Addr} {o u : HO} : upd (upd H x o) x u = upd H x u := by
  funext b
  by_cases z : b = x
  · rw [z, upd_same, upd_same]
  · rw [upd_ne z, upd_ne z, upd_ne z]
theorem nats_ints (l : List Nat) : (intsOf l).map V.int = nats l := by
  unfold intsOf nats
  rw [List.map_map]
  rfl
def spAnswer (C : Cs) : Sp := fun vs H Q _ => ∃ (c : Kcs8.Call) (x dx nl : Addr) (ns : List Int) (i : Nat) (rest : List Int) (F : Hp) (s : Abs) (ad : Ad), vs = [.ref (ad .house), .int (idx c : Int), .ref x] ∧ 1 ≤ idx c ∧ Fine c ∧ Rep C F H s ad ∧ F x = some (.ins C.tape dx (tapeF nl i)) ∧ F nl = some (.lst (ns.map V.int)) ∧
  ns.drop i = (intsOf (numsOf c) ++ rowPart (rowOf c)) ++ rest ∧
  ∀ H' p' ad' F', F' = upd F x (.ins C.tape dx (tapeF nl (i + (intsOf (numsOf c) ++ rowPart (rowOf c)).length))) → ad' .house = ad .house → F' p' = none → Rep C F' H' (Kcs8.step s c).1 ad' → H' p' = some (.lst ((saidTo c s).map V.int)) → Q (.ref p') H'
section
variable {P : Program} {w : World} {K : PySem.W.Frag} {mg : Str → Option Value} {base : Heap} {C : Cs}
def tsRef (C : Cs) : Addr → Value → Option Addr → TS := fun a cls d => tRet (tLst (tCons (tXf a cls d C.refused "number" (tVar 9)) tNil))
theorem refused_told {D : Ends} {σ : L2.St} {H : Hp} {n : Int} (T : Txt K mg C) (hσ : ∀ a, (σ.set 9 (some (V.ref a)))[9]? = some (some (V.ref a)))
    (hq : ∀ H' p, Same H H' → H' p = none → D.rt (.ref p) (upd H' p (.lst [V.int n]))) : Rz C n H (WE (wAs K (.ref C.refused) 9 (tsRef C) (fun _ _ _ _ => False) D) σ) := by
  intro H' d sm hd
  refine ⟨true, T.e_refused, fun _ a0 ha0 => ?_, fun q => Bool.noConfusion q⟩
  exact ⟨_, hσ a0, rfl, rfl, d, _, _, rfl, hd, rfl, by show 1 ≤ sizeLine; exact line_le (by decide), fun p hp => hq H' p sm hp⟩
theorem cal_answer (T : Txt K mg C) (U : Tools P w K mg base C) (D : Def K mg "answer" s_answer) (DD : DeedsOk P w K mg base C) (GM : CalM P w K mg base CX0 2 C.tape "take_many" (spMany C)) (GR : CalM P w K mg base CX0 3 C.tape "take_row" (spRow C)) :
    Cal P w K mg base CX0 8 "answer" (spAnswer C) := by
  obtain ⟨f, fd, F, hm⟩ := D.ex
  obtain ⟨dd, hdd, deeds⟩ := DD.ex
  refine ⟨f, fd, _, F.ok sc_answer (fun vs H Q E h => ?_) (fun cdv A outer s H vs Q E hr h => ?_), hm, F.kp, F.binds fun _ _ _ _ _ _ us hl => match us, hl with | [_, _, _], _ => rfl⟩
  · obtain ⟨_, _, _, _, _, _, _, _, _, _, rfl, _⟩ := h
    rfl
  obtain ⟨c, x, dx, nl, ns, i, rest, Fr, S, ad, rfl, h1, fine, R, hFx, hFl, hns, kQ⟩ := h
  refine ⟨_, pss_cons (ps_asg (pe_ix ix_kdictI (pe_glob (v := .ref dd) rfl hdd rfl) (pv 1) (fun _ _ => rfl)) (pg_tup rfl (pgs_cons (pg_name (i := 3) sc_answer.nd rfl (.inl rfl)) (pgs_cons (pg_name (i := 4) sc_answer.nd rfl (.inl rfl)) (pgs_cons (pg_name (i := 5) sc_answer.nd rfl (.inl rfl)) pgs_nil)))))
    (pss_cons (ps_set (i := 6) sc_answer.nd rfl (.inl rfl) (pe_m GM T.c_tape hr pass0 (pv 2) (pa_cons (pv 3) pa_nil)))
    (pss_cons (ps_set (i := 7) sc_answer.nd rfl (.inl rfl) (pe_lst pa_nil))
    (C8.pss_cut (ps_if (pt_val (pv 4)) (pss_one (ps_set (i := 7) sc_answer.nd rfl (.inl rfl) (pe_m0 GR T.c_tape hr pass0 (pv 2)))) pss_nil)
    (pss_cons (ps_try_as (i := 9) (tb := fun W => tSeq (tDrop (tCallS (spAskPerson C) (WE W) (tCons (tOp (rIxL K) (tVar 6) (tC (.int 0))) tNil))) (tAsg (tCallAX 5 (HeldX P w K mg base (L2.CX P w) 6) (WE W) (tCons (tVar 0) (tCons (tVar 6) (tCons (tVar 7) tNil)))) (gName 8)))
        (ts := tsRef C) (Wout := fun _ _ _ _ => False) rfl rfl sc_answer.nd rfl rfl ⟨rfl, by decide, Or.inl T.g_refused⟩ takes0
        (fun W pn xe tk _ => pss_cons (ps_expr (by exact (pe_cS U.person hr (fun σ => passAt tk σ) (by exact (pa_cons (pe_ix ix_list (pv 6) pe_int (fun _ _ => rfl)) pa_nil)))))
          (pss_one (ps_set (i := 8) sc_answer.nd rfl (.inl rfl) (by exact (pe_callAX (fun _ _ h => h) (hr.mono (by decide)) rfl (.inl rfl) (fun σ => passAt tk σ) (by exact (pa_cons (pv 0) (pa_cons (pv 6) (pa_cons (pv 7) pa_nil)))))))))
        (fun a oe cls d pn hz hf => pss_one (ps_ret (by exact (pe_lst (pa_cons (pe_xf T.f_refused T.n_refused hz hf (pv 9)) pa_nil))))))
    (pss_one (ps_ret (pv 8))))))), ?_⟩
  obtain ⟨t, fj, hk, ht, held⟩ := deeds (idx c) h1 (idx_le c)
  obtain ⟨p, more, hcal, hnum⟩ := caller_nums h1
  have hlenN := many_nums h1
  have hx := R.sub _ _ hFx
  have hnl := R.sub _ _ hFl
  have hx4 : (numsOf c).length ≤ 5 := by
    rw [hlenN]
    unfold manyOf
    split <;> decide
  have hd : ns.length - i = (intsOf (numsOf c) ++ rowPart (rowOf c)).length + rest.length := by
    rw [← List.length_append, ← hns, List.length_drop]
  have hn1 : 1 ≤ (numsOf c).length := by
    rw [hnum]
    exact Nat.succ_le_succ (Nat.zero_le _)
  have hil : (intsOf (numsOf c)).length = (numsOf c).length := List.length_map _
  refine ⟨_, rfl, dd, _, _, rfl, rfl, hk, t, _, rfl, ht H, rfl, _, _, rfl, _, _, rfl, _, _, rfl, rfl, ?_⟩
  refine ⟨_, rfl, x, dx, _, rfl, hx, rfl, _, rfl, x, dx, nl, ns, i, manyOf (idx c), rfl, hx, hnl, ?_, ?_, fun H1 np b1 hnp e1 en => ?_⟩
  · rw [List.length_append, hil] at hd
    omega
  · omega
  have s1 := but_same b1 e1
  have R1 : Rep C (upd Fr x (.ins C.tape dx (tapeF nl (i + manyOf (idx c))))) H1 S ad := (R.fupd hFx).same s1
  replace en : H1 np = some (.lst (nats (numsOf c))) := by
    rw [en, hns, List.append_assoc, ← hlenN, ← hil, List.take_left, nats_ints]
  refine ⟨by show 0 ≤ sizeLine; exact Nat.zero_le _, fun r0 hr0 => ?_⟩
  have nnl : nl ≠ x := fun z => by rw [z, hx] at hnl; cases hnl
  have hnl1 := b1 _ _ hnl nnl
  have n01 : np ≠ r0 := ne_of_none en hr0
  have R2 := R1.same (same_new (o := .lst []) hr0)
  generalize hFe : upd Fr x (.ins C.tape dx (tapeF nl (i + (intsOf (numsOf c) ++ rowPart (rowOf c)).length))) = Fe at kQ
  refine ⟨fun σ' H' => ∃ rw_, σ' = [some (.ref (ad .house)), some (.int (idx c : Int)), some (.ref x), some (.int (manyOf (idx c) : Nat)), some (.bl (hasRow (idx c))), some (.ref fj), some (.ref np), some (.ref rw_), none, none] ∧ H' np = some (.lst (nats (numsOf c))) ∧ Rep C (upd Fe rw_ (.lst (nats (rowD c)))) H' S ad ∧ Fe rw_ = none, ?_, ?_⟩
  · refine ⟨_, rfl, hasRow (idx c), rfl, ite2 (fun cc => ?_) (fun cc => ?_)⟩
    · rw [has_row] at cc
      obtain ⟨g, hg⟩ := Option.isSome_iff_exists.mp cc
      have hgl := (fine.row g hg).1
      have er : rowPart (rowOf c) = (g.length : Int) :: intsOf g := by
        rw [hg]
        rfl
      have erl : (intsOf (numsOf c) ++ rowPart (rowOf c)).length = manyOf (idx c) + 1 + g.length := by
        rw [er, List.length_append, hil, hlenN, List.length_cons]
        show _ + ((g.map _).length + 1) = _
        rw [List.length_map]
        omega
      have hdr : ns.drop (i + manyOf (idx c)) = (g.length : Int) :: (intsOf g ++ rest) := by
        rw [← List.drop_drop, hns, er, List.append_assoc, ← hlenN, ← hil, List.drop_left]
        rfl
      have hz : ns[i + manyOf (idx c)]? = some (g.length : Int) := by
        have := congrArg (fun l => l[0]?) hdr
        simpa [List.getElem?_drop] using this
      have e1' : upd H1 r0 (.lst []) x = some (.ins C.tape dx (tapeF nl (i + manyOf (idx c)))) := by
        rw [upd_ne (ne_of_none e1 hr0)]
        exact e1
      refine ⟨_, rfl, x, dx, _, rfl, e1', rfl, x, dx, nl, ns, i + manyOf (idx c), g.length, rfl, e1', ?_, hz, ?_, ?_, fun H3 rp b3 hrp e3 er3 => ?_⟩
      · rw [upd_ne (ne_of_none hnl1 hr0)]
        exact hnl1
      · rw [erl] at hd
        omega
      · omega
      have s3 := but_same b3 e3
      have hF2 : upd Fr x (.ins C.tape dx (tapeF nl (i + manyOf (idx c)))) x = some (.ins C.tape dx (tapeF nl (i + manyOf (idx c)))) := upd_same
      have R3 := R2.fupd (o' := .ins C.tape dx (tapeF nl (i + manyOf (idx c) + 1 + g.length))) hF2
      rw [upd_upd] at R3
      have eF : upd Fr x (.ins C.tape dx (tapeF nl (i + manyOf (idx c) + 1 + g.length))) = Fe := by
        have ee : i + manyOf (idx c) + 1 + g.length = i + (manyOf (idx c) + 1 + g.length) := by omega
        rw [← hFe, erl, ee]
      rw [eF] at R3
      have nrx : rp ≠ x := fun z => by rw [z, upd_ne (ne_of_none e1 hr0), e1] at hrp; cases hrp
      have hrp' : upd (upd H1 r0 (.lst [])) x (.ins C.tape dx (tapeF nl (i + manyOf (idx c) + 1 + g.length))) rp = none := by
        rw [upd_ne nrx]
        exact hrp
      have er3' : H3 rp = some (.lst (nats (rowD c))) := by
        rw [er3]
        have e5 : ns.drop (i + manyOf (idx c) + 1) = intsOf g ++ rest := by
          rw [← List.drop_drop, hdr]
          rfl
        have e6 : (intsOf g).length = g.length := List.length_map _
        rw [e5, ← e6, List.take_left, nats_ints]
        unfold rowD
        rw [hg]
        rfl
      refine ⟨rp, rfl, ?_, R3.lay s3 hrp' er3', R3.free hrp'⟩
      refine b3 _ _ (by rw [upd_ne n01]; exact en) fun z => ?_
      rw [z] at hnp
      rw [hx] at hnp
      cases hnp
    · rw [has_row] at cc
      have hg : rowOf c = none := by
        cases hh : rowOf c with
        | none => rfl
        | some g =>
          rw [hh] at cc
          exact absurd rfl cc
      have eF : upd Fr x (.ins C.tape dx (tapeF nl (i + manyOf (idx c)))) = Fe := by
        rw [← hFe, hg, List.length_append, hil, hlenN]
        rfl
      have ed : rowD c = [] := by
        unfold rowD
        rw [hg]
        rfl
      rw [eF] at R1
      refine ⟨r0, rfl, by rw [upd_ne n01]; exact en, ?_, R1.free hr0⟩
      rw [ed]
      exact R1.lay (same_new hr0) hr0 upd_same
  · rintro σ' H3 ⟨rw_, rfl, hnp3, R3, hfn⟩
    have hlenR : (rowD c).length ≤ 400 := by
      unfold rowD
      cases hh : rowOf c with
      | none => exact Nat.zero_le _
      | some g => exact (fine.row g hh).1
    have hno : ∀ n : Int, Kcs8.step S c = (S, .num n) → ∀ H' q, Same H3 H' → H' q = none → Q (.ref q) (upd H' q (.lst [V.int n])) := fun n es H' q sm hq => by
      have R4 := (row_off R3 hfn).same sm
      refine kQ _ q ad Fe rfl rfl (R4.free hq) ?_ ?_
      · rw [es]
        exact R4.same (same_new hq)
      · unfold saidTo
        rw [es]
        exact upd_same
    refine ⟨_, rfl, np, _, 0, _, rfl, rfl, SqL.of hnp3, nats_at (i := 0) (by rw [hnum]; rfl), p, rfl, fun hp => ?_, fun hp => ?_⟩
    · refine ⟨fj, Deed C (idx c), rfl, held, _, rfl, _, rfl, _, rfl, c, rfl, p, np, rw_, Fe, S, ad, hcal, hp, rfl, R3, hfn, hnp3, hlenR, fun n es hn => ?_, fun H' p' ad' a' hf' R' e' => ?_⟩
      · exact refused_told T (fun a => rfl) fun H' q sm hq => hno n es H' q sm hq
      · exact ⟨_, rfl, kQ _ p' ad' Fe rfl a' hf' R' e'⟩
    · refine refused_told T (fun a => rfl) fun H' q sm hq => hno _ ?_ H' q sm hq
      unfold Kcs8.step
      rw [hcal]
      show (if Kcs8.PEOPLE ≤ p ∨ Kcs8.fair c = false then _ else _) = _
      rw [if_pos (.inl hp)]
end
end Tr
/-! house.py: all answers -/
namespace Tr
open PySem PySem.Spec PyProof.Rows L2
open Kcs8 (Abs Member Message roomOf memberOf withRoom withMessage sees)
def spAns (K : PySem.W.Frag) : Sp := fun vs H Q _ => ∃ (a : Addr) (ns : List Int), vs = [.ref a] ∧ SqL K H a (ns.map V.int) ∧ PyKcs8.answers_asked ns = true ∧
  ∀ (H' : Hp) (p : Addr), H' p = some (.lst ((PyKcs8.answers ns).map V.int)) → Q (.ref p) H'
theorem idx_zero {c : Kcs8.Call} (h : idx c = 0) : c = .begin_ := by
  cases c <;> first | rfl | (exact absurd h (by show ¬ (_ + 1 = 0); exact Nat.succ_ne_zero _))
theorem out_cons (x : List Int) (l : List (List Int)) : out (x :: l) = (x.length : Int) :: (x ++ out l) := rfl
theorem rep_upd {C : Cs} {F H : Hp} {s : Abs} {ad : Ad} {p : Addr} {o o' u : HO} (R : Rep C F (upd H p o) s ad) (h : F p = some u) : Rep C (upd F p o') (upd (upd H p o) p o') s ad := R.fupd h
section
variable {P : Program} {w : World} {K : PySem.W.Frag} {mg : Str → Option Value} {base : Heap} {C : Cs}
theorem fn_answers {f : Addr} {fd : FuncData} (F : Fun K "answers" "answers" s_answers f fd) (T : Txt K mg C) (U : Tools P w K mg base C) (GS : Mak P w K mg base CX0 3 "Street" C.street (spStreetI C)) (GT : Mak P w K mg base CX0 1 "Tape" C.tape (spTapeI K C))
    (GD : CalM P w K mg base CX0 1 C.tape "is_done" (spDone C)) (GO : CalM P w K mg base CX0 1 C.tape "take_one" (spOne C)) (GA : Cal P w K mg base CX0 8 "answer" (spAnswer C)) :
    FnOk P w K mg base CX0 12 f fd ["calls"] (spAns K) := by
  refine F.ok sc_answers (fun vs H Q E h => ?_) (fun cdv A outer s H vs Q E hr h => ?_)
  · obtain ⟨_, _, rfl, _⟩ := h
    rfl
  obtain ⟨a, ns, rfl, ha, hask, kQ⟩ := h
  obtain ⟨cs, hcs, hans, hfine, hlen⟩ := decode hask
  refine ⟨_, pss_cons (ps_set (i := 1) sc_answers.nd rfl (.inl rfl) (pe_k0 GS hr pass0))
    (pss_cons (ps_set (i := 2) sc_answers.nd rfl (.inl rfl) (pe_k GT hr pass0 (pa_cons (pv 0) pa_nil)))
    (pss_cons (ps_set (i := 3) sc_answers.nd rfl (.inl rfl) (pe_lst pa_nil))
    (pss_cons (ps_while PassesOwn.never (pt_not (pt_val (pe_m0 GD T.c_tape hr pass0 (pv 2))))
      (pss_cons (ps_set (i := 4) sc_answers.nd rfl (.inl rfl) (pe_m0 GO T.c_tape hr pass0 (pv 2)))
      (C8.pss_cut (ps_if (pt_cmpR op_eq (pv 4) (pe_n T.k_BEGIN) (nomark _))
          (pss_cons (ps_fld (pv 1) (pe_k0 U.mkHouse hr pass0) rfl) (pss_one (ps_set (i := 5) sc_answers.nd rfl (.inl rfl) (pe_lst (pa_cons pe_int pa_nil)))))
          (pss_one (ps_set (i := 5) sc_answers.nd rfl (.inl rfl) (pe_c GA hr pass0 (pa_cons (pe_fld (pv 1) rfl) (pa_cons (pv 4) (pa_cons (pv 2) pa_nil)))))))
      (pss_cons (ps_expr (pe_bm PySem.F.plainAttrs_list PySem.F.slot_list_append PySem.F.type_list_append mt_append (pv 3) (pa_cons (pe_callB call_len_seq (by rfl) T.b_len PySem.boot_len (pa_cons (pv 5) pa_nil)) pa_nil)))
      (pss_one (ps_expr (pe_bm PySem.F.plainAttrs_list PySem.F.slot_list_extend PySem.F.type_list_extend mt_extend (pv 3) (pa_cons (pv 5) pa_nil))))))))
    (pss_one (ps_ret (pv 3)))))), ?_⟩
  -- the street, the tape, the list
  refine fun xs ds hxs hds hne => ⟨xs, ds, rfl, upd_same, fun H1 hh b1 fh e1 => ⟨rfl, ?_⟩⟩
  have s0 : Same H (upd (upd H ds (.own xs)) xs (.ins C.street ds [])) := same_upd (same_new hds) hxs
  have s1 : Same H H1 := Same.made hxs hds b1
  obtain ⟨ad0, a0, R0⟩ := FreshHouse.rep (F := upd (fun _ => none) xs (.ins C.street ds [("house", .ref hh)])) fh (fun b o e => by
      by_cases c : b = xs
      · rw [c, upd_same] at e
        cases e
        rw [c]
        exact e1
      · rw [upd_ne c] at e
        cases e) (fun b e => by
      have c : b ≠ xs := fun z => by rw [z, upd_same] at e; cases e
      rw [upd_ne c])
  have ha1 : SqL K H1 a (ns.map V.int) := ha.elim (fun h => .inl (by
      rcases h with h | ⟨o, h⟩
      · exact .inl (s1 _ _ h)
      · exact .inr ⟨o, s1 _ _ h⟩)) .inr
  refine ⟨_, rfl, fun xt dt hxt hdt hne2 => ⟨xt, dt, a, ns, rfl, upd_same, ?_, fun H2 nl b2 hnl e2 e3 => ⟨rfl, ?_⟩⟩⟩
  · have s2 : Same H1 (upd (upd H1 dt (.own xt)) xt (.ins C.tape dt [])) := same_upd (same_new hdt) hxt
    exact ha1.elim (fun h => .inl (by
      rcases h with h | ⟨o, h⟩
      · exact .inl (s2 _ _ h)
      · exact .inr ⟨o, s2 _ _ h⟩)) .inr
  have s2 : Same H1 H2 := Same.made hxt hdt b2
  have s20 : Same H1 (upd (upd H1 dt (.own xt)) xt (.ins C.tape dt [])) := same_upd (same_new hdt) hxt
  have nnt : nl ≠ xt := fun z => by rw [z, e3] at e2; cases e2
  have hnl1 := s20.free hnl
  have R1 := R0.lay2 s2 hxt hnl1 e3 e2 nnt.symm
  refine ⟨by show 0 ≤ sizeLine; exact Nat.zero_le _, fun fl hfl => ?_⟩
  have R2 := R1.lay (same_new (o := .lst []) hfl) hfl upd_same
  have nst : xs ≠ xt := ne_of_none e1 hxt
  have nsn : xs ≠ nl := ne_of_none e1 hnl1
  have nsf : xs ≠ fl := ne_of_none (s2 _ _ e1) hfl
  have ntf : xt ≠ fl := ne_of_none e3 hfl
  have nnf : nl ≠ fl := ne_of_none e2 hfl
  let W : Nat → L2.St → Hp → Prop := fun m σ H' => ∃ (F : Hp) (s : Abs) (ad : Ad) (cs' : List Kcs8.Call) (acc : List Int) (i : Nat) (v4 v5 : Option V), m = ns.length - i ∧ σ = [some (.ref a), some (.ref xs), some (.ref xt), some (.ref fl), v4, v5] ∧ Rep C F H' s ad ∧
    F xs = some (.ins C.street ds [("house", .ref (ad .house))]) ∧ F xt = some (.ins C.tape dt (tapeF nl i)) ∧ F nl = some (.lst (ns.map V.int)) ∧ F fl = some (.lst (acc.map V.int)) ∧ ns.drop i = cs'.flatMap encode ∧ acc ++ out (play s cs') = out (play Kcs8.first cs) ∧ ∀ c ∈ cs', Fine c
  refine ⟨W, ⟨ns.length - 0, ⟨_, _, ad0, cs, [], 0, none, none, rfl, rfl, R2, ?_, ?_, ?_, upd_same, hcs, rfl, hfine⟩⟩, ?_⟩
  · rw [upd_ne nsf, upd_ne nsn, upd_ne nst, a0]
    exact upd_same
  · rw [upd_ne ntf, upd_ne nnt.symm]
    exact upd_same
  · rw [upd_ne nnf]
    exact upd_same
  rintro m σ H3 ⟨F3, S, ad, cs', acc, i, v4, v5, rfl, rfl, R3, fs, ft, fn, ff, hdrop, hacc, hfi⟩
  refine ⟨_, rfl, xt, dt, _, rfl, R3.sub _ _ ft, rfl, xt, dt, nl, ns, i, rfl, R3.sub _ _ ft, R3.sub _ _ fn, decide (ns.length ≤ i), rfl, ?_⟩
  by_cases hd : ns.length ≤ i
  · rw [decide_eq_true hd]
    refine iteF ?_
    have e0 : cs' = [] := by
      rw [List.drop_eq_nil_of_le hd] at hdrop
      cases cs' with
      | nil => rfl
      | cons c l => cases hdrop
    subst e0
    refine ⟨_, rfl, kQ H3 fl ?_⟩
    rw [hans, ← hacc]
    show H3 fl = some (.lst ((acc ++ []).map V.int))
    rw [List.append_nil]
    exact R3.sub _ _ ff
  rw [decide_eq_false hd]
  refine iteT ?_
  cases cs' with
  | nil =>
    exfalso
    have := congrArg List.length hdrop
    rw [List.length_drop] at this
    have h0 : ns.length - i = 0 := this
    omega
  | cons c cs'' =>
  have hdrop1 : ns.drop i = (idx c : Int) :: ((intsOf (numsOf c) ++ rowPart (rowOf c)) ++ cs''.flatMap encode) := hdrop
  have hz : ns[i]? = some (idx c : Int) := by
    have := congrArg (fun l => l[0]?) hdrop1
    simpa [List.getElem?_drop] using this
  have hdrop2 : ns.drop (i + 1) = (intsOf (numsOf c) ++ rowPart (rowOf c)) ++ cs''.flatMap encode := by
    rw [← List.drop_drop, hdrop1]
    rfl
  refine ⟨fun σ' H' => ∃ m', m' < ns.length - i ∧ W m' σ' H', fun _ _ h => h, ?_⟩
  refine ⟨_, rfl, xt, dt, _, rfl, R3.sub _ _ ft, rfl, xt, dt, nl, ns, i, _, rfl, R3.sub _ _ ft, R3.sub _ _ fn, hz, ?_⟩
  have R4 := R3.fupd (o' := .ins C.tape dt (tapeF nl (i + 1))) ft
  have fs4 : upd F3 xt (.ins C.tape dt (tapeF nl (i + 1))) xs = some (.ins C.street ds [("house", .ref (ad .house))]) := by
    rw [upd_ne nst]
    exact fs
  have fn4 : upd F3 xt (.ins C.tape dt (tapeF nl (i + 1))) nl = some (.lst (ns.map V.int)) := by
    rw [upd_ne nnt]
    exact fn
  have ff4 : upd F3 xt (.ins C.tape dt (tapeF nl (i + 1))) fl = some (.lst (acc.map V.int)) := by
    rw [upd_ne ntf.symm]
    exact ff
  have ft4 : upd F3 xt (.ins C.tape dt (tapeF nl (i + 1))) xt = some (.ins C.tape dt (tapeF nl (i + 1))) := upd_same
  generalize hF4 : upd F3 xt (.ins C.tape dt (tapeF nl (i + 1))) = F4 at R4 fs4 fn4 ff4 ft4
  generalize hH4 : upd H3 xt (.ins C.tape dt (tapeF nl (i + 1))) = H4 at R4 ⊢
  have hen : (encode c).length = 1 + (intsOf (numsOf c) ++ rowPart (rowOf c)).length := by
    unfold encode
    rw [List.length_cons]
    omega
  refine ⟨fun σ' H' => ∃ (F : Hp) (ad' : Ad) (tp : Addr), σ' = [some (.ref a), some (.ref xs), some (.ref xt), some (.ref fl), some (.int (idx c : Int)), some (.ref tp)] ∧ Rep C F H' (Kcs8.step S c).1 ad' ∧
    F xs = some (.ins C.street ds [("house", .ref (ad' .house))]) ∧ F xt = some (.ins C.tape dt (tapeF nl (i + (encode c).length))) ∧ F nl = some (.lst (ns.map V.int)) ∧ F fl = some (.lst (acc.map V.int)) ∧ H' tp = some (.lst ((saidTo c S).map V.int)) ∧ tp ≠ fl, ?_, ?_⟩
  · refine ⟨_, rfl, rfl, _, rfl, ?_⟩
    rw [decI]
    refine ite2 (fun cc => ?_) (fun cc => ?_)
    · have hc0 : c = .begin_ := idx_zero (by
        have := of_decide_eq_true cc
        omega)
      subst hc0
      refine fun y dy hy hdy hne3 => house_sp hy hdy hne3 fun H5 s5 fh5 => ?_
      refine ⟨_, rfl, xs, C.street, ds, _, rfl, s5 _ _ (R4.sub _ _ fs4), T.c_street, T.n_street_house, (by show 1 < 1000; decide), ?_⟩
      refine ⟨by show 1 ≤ sizeLine; exact line_le (by decide), fun tp htp => ?_⟩
      have hxs4 := R4.sub _ _ fs4
      have ntx : tp ≠ xs := fun z => by rw [z, upd_same] at htp; cases htp
      rw [upd_ne ntx] at htp
      have F5tp : F4 tp = none := (R4.same s5).free htp
      obtain ⟨ad5, a5, R5⟩ := FreshHouse.rep (F := upd F4 xs (.ins C.street ds [("house", .ref y)])) (H' := upd (upd H5 xs (.ins C.street ds [("house", .ref y)])) tp (.lst [V.int 0])) (fh5.later fun b o e hb => by
          rw [upd_ne (ne_of_none e htp), upd_ne (fun z => by rw [z, hxs4] at hb; cases hb)]
          exact e) (fun b o e => by
          by_cases z : b = xs
          · rw [z, upd_same] at e
            cases e
            rw [z, upd_ne ntx.symm]
            exact upd_same
          · rw [upd_ne z] at e
            have e5 := s5 _ _ (R4.sub _ _ e)
            rw [upd_ne (ne_of_none e5 htp), upd_ne z]
            exact e5) (fun b e => by
          rw [upd_ne (fun z => by rw [z, hxs4] at e; cases e)]
          exact R4.free e)
      refine ⟨_, ad5, tp, rfl, R5, ?_, ?_, ?_, ?_, upd_same, ?_⟩
      · rw [upd_same, a5]
      · rw [upd_ne nst.symm]
        exact ft4
      · rw [upd_ne nsn.symm]
        exact fn4
      · rw [upd_ne nsf.symm]
        exact ff4
      · exact fun z => by rw [z, ff4] at F5tp; cases F5tp
    · have h1 : 1 ≤ idx c := by
        have : ¬ (idx c : Int) = 0 := fun z => cc (decide_eq_true z)
        omega
      refine ⟨_, rfl, xs, C.street, ds, _, _, rfl, R4.sub _ _ fs4, T.c_street, T.n_street_house, rfl, _, rfl, _, rfl, c, xt, dt, nl, ns, i + 1, cs''.flatMap encode, F4, S, ad, rfl, h1, hfi c (List.mem_cons_self ..), R4, ft4, fn4, hdrop2, fun H' p' ad' F' eF a' hf R' e' => ?_⟩
      refine ⟨F', ad', p', rfl, R', ?_, ?_, ?_, ?_, e', fun z => ?_⟩
      · rw [eF, upd_ne nst, a']
        exact fs4
      · have ee : i + (encode c).length = i + 1 + (intsOf (numsOf c) ++ rowPart (rowOf c)).length := by omega
        rw [eF, upd_same, ee]
      · rw [eF, upd_ne nnt]
        exact fn4
      · rw [eF, upd_ne ntf.symm]
        exact ff4
      · rw [eF, z, upd_ne ntf.symm, ff4] at hf
        cases hf
  · rintro σ' H5 ⟨F5, ad5, tp, rfl, R5, g1, g2, g3, g4, g5, g6⟩
    have hacc1 : acc ++ (((saidTo c S).length : Int) :: saidTo c S) ++ out (play (Kcs8.step S c).1 cs'') = out (play Kcs8.first cs) := by
      rw [← hacc]
      show _ = acc ++ out (saidTo c S :: play (Kcs8.step S c).1 cs'')
      rw [out_cons, List.append_assoc]
      rfl
    have hbig : acc.length + (1 + (saidTo c S).length) ≤ 1003000 := by
      have := congrArg List.length hacc1
      rw [List.length_append, List.length_append, List.length_cons] at this
      omega
    have hfl5 := R5.sub _ _ g4
    refine ⟨_, rfl, .inl ⟨rfl, _, SqL.of hfl5⟩, _, rfl, _, _, rfl, .inl (SqL.of g5), fl, _, _, rfl, rfl, hfl5, line_lt (by rw [List.length_map]; omega), ?_⟩
    refine ⟨_, rfl, .inl ⟨rfl, _, SqL.of upd_same⟩, _, rfl, fl, tp, _, _, rfl, rfl, upd_same, by rw [upd_ne g6]; exact g5, line_le (by rw [List.length_append, List.length_map, List.length_map]; show _ + 1 + _ ≤ _; omega), ?_⟩
    have R6 := R5.fupd (o' := .lst (acc.map V.int ++ [V.int (((saidTo c S).map V.int).length : Nat)])) g4
    have R7 := R6.fupd (o' := .lst (acc.map V.int ++ [V.int (((saidTo c S).map V.int).length : Nat)] ++ (saidTo c S).map V.int)) upd_same
    rw [upd_upd] at R7
    refine ⟨ns.length - (i + (encode c).length), ?_, _, _, ad5, cs'', acc ++ (((saidTo c S).length : Int) :: saidTo c S), i + (encode c).length, _, _, rfl, rfl, R7, ?_, ?_, ?_, ?_, ?_, hacc1, fun c' hc' => hfi c' (List.mem_cons_of_mem _ hc')⟩
    · omega
    · rw [upd_ne nsf]
      exact g1
    · rw [upd_ne ntf]
      exact g2
    · rw [upd_ne nnf]
      exact g3
    · rw [upd_same, List.length_map, List.append_assoc, List.map_append, List.map_cons]
      rfl
    · have e7 : encode c ++ cs''.flatMap encode = ns.drop i := hdrop.symm
      rw [← List.drop_drop, ← e7, List.drop_left]
end
end Tr
/-! The defs wired; what the top leaves. -/
namespace Tr
open PySem PySem.Spec PyProof.Rows L2
open Kcs8 (Abs Member Message roomOf memberOf withRoom withMessage sees)
theorem cal_lift0 {P : Program} {w : World} {K : PySem.W.Frag} {mg : Str → Option Value} {base : Heap} {k : Nat} {x : Str} {sp : Sp} (CX : CXT) (c : Cal P w K mg base CX0 k x sp) : Cal P w K mg base CX k x sp := by
  obtain ⟨f, fd, ps, F, h1, h2, h3⟩ := c.ex
  exact ⟨f, fd, ps, lift0 CX F, h1, h2, h3⟩
theorem held_of {P : Program} {w : World} {K : PySem.W.Frag} {mg : Str → Option Value} {base : Heap} {CX : CXT} {k : Nat} {x : Str} {sp : Sp} {f : Addr} (c : Cal P w K mg base CX k x sp) (hm : mg x = some (.ref f)) : HeldX P w K mg base CX k f sp := by
  obtain ⟨g, fd, ps, F, h1, h2, h3⟩ := c.ex
  cases h1.symm.trans hm
  exact ⟨fd, ps, F, h2, h3⟩
theorem exm_self {K : PySem.W.Frag} {S : Addr} (h1 : PySem.W.subIn K (.ref S) (.type "BaseException") = some true) (h2 : PySem.W.isClsIn K S = true) (h3 : PySem.W.typeIn K (.ref S) = some (.type "type")) (h4 : PySem.W.subIn K (.ref S) (.ref S) = some true) :
    PySem.W.exmOne K (.ref S) (.ref S) = some true := by
  have e1 : (PySem.W.subIn K (.ref S) (.type "BaseException") == some true) = true := by rw [h1] <;> rfl
  have e2 : ((PySem.W.clsIn K S).isSome && PySem.W.typeIn K (.ref S) == some (.type "type")) = true := by
    have h2' : (PySem.W.clsIn K S).isSome = true := h2
    rw [h2', h3] <;> rfl
  show (if (PySem.W.subIn K (.ref S) (.type "BaseException") == some true) = true then (if ((PySem.W.clsIn K S).isSome && PySem.W.typeIn K (.ref S) == some (.type "type")) = true then PySem.W.subIn K (.ref S) (.ref S) else none) else none) = some true
  rw [if_pos e1, if_pos e2]
  exact h4
/-- every def but the last -/
structure AllDefs (K : PySem.W.Frag) (mg : Str → Option Value) (C : Cs) : Prop where
  d_is_text : Def K mg "is_text" s_is_text
  d_is_great_letter : Def K mg "is_great_letter" s_is_great_letter
  d_is_of_word : Def K mg "is_of_word" s_is_of_word
  d_small : Def K mg "small" s_small
  d_is_word : Def K mg "is_word" s_is_word
  d_small_word : Def K mg "small_word" s_small_word
  d_words_of : Def K mg "words_of" s_words_of
  d_Message_init : DefI K mg "Message" C.msg "Message.__init__" s_Message_init
  d_Member_init : DefI K mg "Member" C.mem "Member.__init__" s_Member_init
  d_Room_init : DefI K mg "Room" C.room "Room.__init__" s_Room_init
  d_House_init : DefI K mg "House" C.house "House.__init__" s_House_init
  d_room_at : Def K mg "room_at" s_room_at
  d_all_rooms : Def K mg "all_rooms" s_all_rooms
  d_member_of : Def K mg "member_of" s_member_of
  d_is_known : Def K mg "is_known" s_is_known
  d_has_keeper : Def K mg "has_keeper" s_has_keeper
  d_take_out : Def K mg "take_out" s_take_out
  d_join : Def K mg "join" s_join
  d_message_seen : Def K mg "message_seen" s_message_seen
  d_message_there : Def K mg "message_there" s_message_there
  d_remove : Def K mg "remove" s_remove
  d_turn_mark : Def K mg "turn_mark" s_turn_mark
  d_many_marks : Def K mg "many_marks" s_many_marks
  d_many_unread : Def K mg "many_unread" s_many_unread
  d_places_of : Def K mg "places_of" s_places_of
  d_Refused_init : DefR K C
  d_ask : Def K mg "ask" s_ask
  d_ask_person : Def K mg "ask_person" s_ask_person
  d_ask_flag : Def K mg "ask_flag" s_ask_flag
  d_Place_init : DefI K mg "Place" C.place "Place.__init__" s_Place_init
  d_Place_ask_keeper : DefM K C.place "ask_keeper" "Place.ask_keeper" s_Place_ask_keeper
  d_Place_ask_there : DefM K C.place "ask_there" "Place.ask_there" s_Place_ask_there
  d_Place_ask_seen : DefM K C.place "ask_seen" "Place.ask_seen" s_Place_ask_seen
  d_do_found : Def K mg "do_found" s_do_found
  d_do_invite : Def K mg "do_invite" s_do_invite
  d_do_join : Def K mg "do_join" s_do_join
  d_do_leave : Def K mg "do_leave" s_do_leave
  d_do_out : Def K mg "do_out" s_do_out
  d_do_lift : Def K mg "do_lift" s_do_lift
  d_do_past : Def K mg "do_past" s_do_past
  d_do_say : Def K mg "do_say" s_do_say
  d_do_change : Def K mg "do_change" s_do_change
  d_do_remove : Def K mg "do_remove" s_do_remove
  d_do_mark : Def K mg "do_mark" s_do_mark
  d_do_seen : Def K mg "do_seen" s_do_seen
  d_do_read : Def K mg "do_read" s_do_read
  d_do_unread : Def K mg "do_unread" s_do_unread
  d_kth : Def K mg "kth" s_kth
  d_do_rooms : Def K mg "do_rooms" s_do_rooms
  d_do_people : Def K mg "do_people" s_do_people
  d_do_find : Def K mg "do_find" s_do_find
  d_Street_init : DefI K mg "Street" C.street "Street.__init__" s_Street_init
  d_Tape_init : DefI K mg "Tape" C.tape "Tape.__init__" s_Tape_init
  d_Tape_is_done : DefM K C.tape "is_done" "Tape.is_done" s_Tape_is_done
  d_Tape_take_one : DefM K C.tape "take_one" "Tape.take_one" s_Tape_take_one
  d_Tape_take_many : DefM K C.tape "take_many" "Tape.take_many" s_Tape_take_many
  d_Tape_take_row : DefM K C.tape "take_row" "Tape.take_row" s_Tape_take_row
  d_answer : Def K mg "answer" s_answer
def deedName : Nat → Str
  | 1 => "do_found"
  | 2 => "do_invite"
  | 3 => "do_join"
  | 4 => "do_leave"
  | 5 => "do_out"
  | 6 => "do_lift"
  | 7 => "do_past"
  | 8 => "do_say"
  | 9 => "do_change"
  | 10 => "do_remove"
  | 11 => "do_mark"
  | 12 => "do_seen"
  | 13 => "do_read"
  | 14 => "do_unread"
  | 15 => "do_rooms"
  | 16 => "do_people"
  | 17 => "do_find"
  | _ => ""
structure DeedsTab (K : PySem.W.Frag) (mg : Str → Option Value) : Prop where
  ex : ∃ D : Addr, mg "DEEDS" = some (.ref D) ∧ ∀ j, 1 ≤ j → j ≤ 17 → ∃ t f, KDctI K D (j : Nat) (.ref t) ∧ (∀ H, SqT K H t [.int (manyOf j : Nat), .bl (hasRow j), .ref f]) ∧ mg (deedName j) = some (.ref f)
theorem upto17 {Q : Nat → Prop} (h : Q 1 ∧ Q 2 ∧ Q 3 ∧ Q 4 ∧ Q 5 ∧ Q 6 ∧ Q 7 ∧ Q 8 ∧ Q 9 ∧ Q 10 ∧ Q 11 ∧ Q 12 ∧ Q 13 ∧ Q 14 ∧ Q 15 ∧ Q 16 ∧ Q 17) : ∀ j, 1 ≤ j → j ≤ 17 → Q j := by
  intro j h1 h2
  obtain ⟨q1, q2, q3, q4, q5, q6, q7, q8, q9, q10, q11, q12, q13, q14, q15, q16, q17⟩ := h
  rcases (by omega : j = 1 ∨ j = 2 ∨ j = 3 ∨ j = 4 ∨ j = 5 ∨ j = 6 ∨ j = 7 ∨ j = 8 ∨ j = 9 ∨ j = 10 ∨ j = 11 ∨ j = 12 ∨ j = 13 ∨ j = 14 ∨ j = 15 ∨ j = 16 ∨ j = 17) with rfl | rfl | rfl | rfl | rfl | rfl | rfl | rfl | rfl | rfl | rfl | rfl | rfl | rfl | rfl | rfl | rfl
  · exact q1
  · exact q2
  · exact q3
  · exact q4
  · exact q5
  · exact q6
  · exact q7
  · exact q8
  · exact q9
  · exact q10
  · exact q11
  · exact q12
  · exact q13
  · exact q14
  · exact q15
  · exact q16
  · exact q17
section
variable {P : Program} {w : World} {K : PySem.W.Frag} {mg : Str → Option Value} {base : Heap} {C : Cs}
theorem all_ok {f : Addr} {fd : FuncData} (F : Fun K "answers" "answers" s_answers f fd) (T : Txt K mg C) (D : AllDefs K mg C) (DT : DeedsTab K mg) : FnOk P w K mg base CX0 12 f fd ["calls"] (spAns K) := by
  have great := cal_great (P := P) (w := w) (base := base) D.d_is_great_letter
  have ofWord := cal_of_word D.d_is_of_word great
  have small := cal_small T D.d_small great
  have mkMem := mak_member (P := P) (w := w) (base := base) T D.d_Member_init
  have member := cal_member_of (P := P) (w := w) (base := base) T D.d_member_of
  have seen := cal_seen (P := P) (w := w) (base := base) T D.d_message_seen
  have ask := cal_ask (P := P) (w := w) (base := base) T D.d_ask (cal_refused T D.d_Refused_init)
  have roomAt := cal_room_at (P := P) (w := w) (base := base) T D.d_room_at
  have allR := cal_all_rooms (P := P) (w := w) (base := base) T D.d_all_rooms
  have U : Tools P w K mg base C :=
    { ask := ask, person := cal_ask_person T D.d_ask_person ask, flag := cal_ask_flag T D.d_ask_flag ask, place := mak_place T D.d_Place_init roomAt member ask,
      keeper := calM_keeper T D.d_Place_ask_keeper ask, there := calM_there T D.d_Place_ask_there ask (cal_there T D.d_message_there seen), seen := calM_seen T D.d_Place_ask_seen ask seen,
      roomAt := roomAt, memberOf := member, isKnown := cal_is_known T D.d_is_known member, takeOut := cal_take_out T D.d_take_out (cal_has_keeper T D.d_has_keeper),
      join := cal_join T D.d_join mkMem, remove := cal_remove T D.d_remove, turn := cal_turn T D.d_turn_mark, marks := cal_marks T D.d_many_marks, unread := cal_unread T D.d_many_unread,
      places := cal_places T D.d_places_of allR member (cal_words_of T D.d_words_of ofWord small), allRooms := allR, isText := cal_is_text T D.d_is_text, isWord := cal_is_word T D.d_is_word ofWord,
      smallWord := cal_small_word T D.d_small_word small, mkRoom := mak_room T D.d_Room_init, mkMember := mkMem, mkMessage := mak_message T D.d_Message_init, mkHouse := mak_house T D.d_House_init }
  have kth := cal_kth (P := P) (w := w) (base := base) T D.d_kth
  have DD : DeedsOk P w K mg base C := by
    obtain ⟨dd, hdd, tab⟩ := DT.ex
    refine ⟨dd, hdd, upto17 ⟨?_, ?_, ?_, ?_, ?_, ?_, ?_, ?_, ?_, ?_, ?_, ?_, ?_, ?_, ?_, ?_, ?_⟩⟩
    · obtain ⟨t, f, h1, h2, h3⟩ := tab 1 (by decide) (by decide)
      exact ⟨t, f, h1, h2, held_of (cal_found T U D.d_do_found) h3⟩
    · obtain ⟨t, f, h1, h2, h3⟩ := tab 2 (by decide) (by decide)
      exact ⟨t, f, h1, h2, held_of (cal_invite T U D.d_do_invite) h3⟩
    · obtain ⟨t, f, h1, h2, h3⟩ := tab 3 (by decide) (by decide)
      exact ⟨t, f, h1, h2, held_of (cal_do_join T U D.d_do_join) h3⟩
    · obtain ⟨t, f, h1, h2, h3⟩ := tab 4 (by decide) (by decide)
      exact ⟨t, f, h1, h2, held_of (cal_leave T U D.d_do_leave) h3⟩
    · obtain ⟨t, f, h1, h2, h3⟩ := tab 5 (by decide) (by decide)
      exact ⟨t, f, h1, h2, held_of (cal_out T U D.d_do_out) h3⟩
    · obtain ⟨t, f, h1, h2, h3⟩ := tab 6 (by decide) (by decide)
      exact ⟨t, f, h1, h2, held_of (cal_lift T U D.d_do_lift) h3⟩
    · obtain ⟨t, f, h1, h2, h3⟩ := tab 7 (by decide) (by decide)
      exact ⟨t, f, h1, h2, held_of (cal_past T U D.d_do_past) h3⟩
    · obtain ⟨t, f, h1, h2, h3⟩ := tab 8 (by decide) (by decide)
      exact ⟨t, f, h1, h2, held_of (cal_say T U D.d_do_say) h3⟩
    · obtain ⟨t, f, h1, h2, h3⟩ := tab 9 (by decide) (by decide)
      exact ⟨t, f, h1, h2, held_of (cal_change T U D.d_do_change) h3⟩
    · obtain ⟨t, f, h1, h2, h3⟩ := tab 10 (by decide) (by decide)
      exact ⟨t, f, h1, h2, held_of (cal_do_remove T U D.d_do_remove) h3⟩
    · obtain ⟨t, f, h1, h2, h3⟩ := tab 11 (by decide) (by decide)
      exact ⟨t, f, h1, h2, held_of (cal_mark T U D.d_do_mark) h3⟩
    · obtain ⟨t, f, h1, h2, h3⟩ := tab 12 (by decide) (by decide)
      exact ⟨t, f, h1, h2, held_of (cal_do_seen T U D.d_do_seen) h3⟩
    · obtain ⟨t, f, h1, h2, h3⟩ := tab 13 (by decide) (by decide)
      exact ⟨t, f, h1, h2, held_of (cal_do_read T U D.d_do_read) h3⟩
    · obtain ⟨t, f, h1, h2, h3⟩ := tab 14 (by decide) (by decide)
      exact ⟨t, f, h1, h2, held_of (cal_do_unread T U D.d_do_unread) h3⟩
    · obtain ⟨t, f, h1, h2, h3⟩ := tab 15 (by decide) (by decide)
      exact ⟨t, f, h1, h2, held_of (cal_lift0 _ (cal_do_rooms T U D.d_do_rooms kth)) h3⟩
    · obtain ⟨t, f, h1, h2, h3⟩ := tab 16 (by decide) (by decide)
      exact ⟨t, f, h1, h2, held_of (cal_do_people T U D.d_do_people kth) h3⟩
    · obtain ⟨t, f, h1, h2, h3⟩ := tab 17 (by decide) (by decide)
      exact ⟨t, f, h1, h2, held_of (cal_do_find T U D.d_do_find kth) h3⟩
  have one := calM_one (P := P) (w := w) (base := base) T D.d_Tape_take_one
  have manyT := calM_many T D.d_Tape_take_many one
  exact fn_answers F T U (mak_street T D.d_Street_init U.mkHouse) (mak_tape T D.d_Tape_init) (calM_done T D.d_Tape_is_done) one (cal_answer T U D.d_answer DD manyT (calM_row T D.d_Tape_take_row one manyT))
end
theorem all_mk {P : Program} {w : World} {K : PySem.W.Frag} {h : Heap} {mg : Str → Option Value} {fa : Addr} (X : K.In h) (G : h.Ns mainGlobals mg) (hfa : mg "answers" = some (.ref fa))
    {t_MOST_TEXT : Tok}
    {t_MOST_WORD : Tok}
    {t_SMALLER : Tok}
    {t_PEOPLE : Tok}
    {t_MOST_FOUNDED : Tok}
    {t_KINDS : Tok}
    {t_WRONG : Tok}
    {t_NO_ROOM : Tok}
    {t_NO_KEEPER : Tok}
    {t_ALREADY : Tok}
    {t_FULL : Tok}
    {t_NO_SUCH : Tok}
    {t_MOST_PEOPLE : Tok}
    {t_MOST_MESSAGES : Tok}
    {t_MOST_CHANGES : Tok}
    {t_MOST_KIND : Tok}
    {t_BEGIN : Tok}
    {C_msg : Addr}
    {C_mem : Addr}
    {C_room : Addr}
    {C_house : Addr}
    {C_place : Addr}
    {C_street : Addr}
    {C_tape : Addr}
    {C_refused : Addr}
    {nmR qR : Str} {NR : Addr} {bsR : List Value} {snR : List Str} {subR : List Value} {abR : Bool} {colR : Option Bool} {ddR : Option Addr} {mR0 mR1 mR2 mR3 mR5 : Option Value}
    {f_is_text : Addr} {oc_is_text kV_is_text dc_is_text pm_is_text cd_is_text ct_is_text : Value} {od_is_text an_is_text : Option Addr} {sl_is_text : Array (Option Value)}
    {f_is_great_letter : Addr} {oc_is_great_letter kV_is_great_letter dc_is_great_letter pm_is_great_letter cd_is_great_letter ct_is_great_letter : Value} {od_is_great_letter an_is_great_letter : Option Addr} {sl_is_great_letter : Array (Option Value)}
    {f_is_of_word : Addr} {oc_is_of_word kV_is_of_word dc_is_of_word pm_is_of_word cd_is_of_word ct_is_of_word : Value} {od_is_of_word an_is_of_word : Option Addr} {sl_is_of_word : Array (Option Value)}
    {f_small : Addr} {oc_small kV_small dc_small pm_small cd_small ct_small : Value} {od_small an_small : Option Addr} {sl_small : Array (Option Value)}
    {f_is_word : Addr} {oc_is_word kV_is_word dc_is_word pm_is_word cd_is_word ct_is_word : Value} {od_is_word an_is_word : Option Addr} {sl_is_word : Array (Option Value)}
    {f_small_word : Addr} {oc_small_word kV_small_word dc_small_word pm_small_word cd_small_word ct_small_word : Value} {od_small_word an_small_word : Option Addr} {sl_small_word : Array (Option Value)}
    {f_words_of : Addr} {oc_words_of kV_words_of dc_words_of pm_words_of cd_words_of ct_words_of : Value} {od_words_of an_words_of : Option Addr} {sl_words_of : Array (Option Value)}
    {f_Message_init : Addr} {oc_Message_init kV_Message_init dc_Message_init pm_Message_init cd_Message_init ct_Message_init : Value} {od_Message_init an_Message_init : Option Addr} {sl_Message_init : Array (Option Value)}
    {f_Member_init : Addr} {oc_Member_init kV_Member_init dc_Member_init pm_Member_init cd_Member_init ct_Member_init : Value} {od_Member_init an_Member_init : Option Addr} {sl_Member_init : Array (Option Value)}
    {f_Room_init : Addr} {oc_Room_init kV_Room_init dc_Room_init pm_Room_init cd_Room_init ct_Room_init : Value} {od_Room_init an_Room_init : Option Addr} {sl_Room_init : Array (Option Value)}
    {f_House_init : Addr} {oc_House_init kV_House_init dc_House_init pm_House_init cd_House_init ct_House_init : Value} {od_House_init an_House_init : Option Addr} {sl_House_init : Array (Option Value)}
    {f_room_at : Addr} {oc_room_at kV_room_at dc_room_at pm_room_at cd_room_at ct_room_at : Value} {od_room_at an_room_at : Option Addr} {sl_room_at : Array (Option Value)}
    {f_all_rooms : Addr} {oc_all_rooms kV_all_rooms dc_all_rooms pm_all_rooms cd_all_rooms ct_all_rooms : Value} {od_all_rooms an_all_rooms : Option Addr} {sl_all_rooms : Array (Option Value)}
    {f_member_of : Addr} {oc_member_of kV_member_of dc_member_of pm_member_of cd_member_of ct_member_of : Value} {od_member_of an_member_of : Option Addr} {sl_member_of : Array (Option Value)}
    {f_is_known : Addr} {oc_is_known kV_is_known dc_is_known pm_is_known cd_is_known ct_is_known : Value} {od_is_known an_is_known : Option Addr} {sl_is_known : Array (Option Value)}
    {f_has_keeper : Addr} {oc_has_keeper kV_has_keeper dc_has_keeper pm_has_keeper cd_has_keeper ct_has_keeper : Value} {od_has_keeper an_has_keeper : Option Addr} {sl_has_keeper : Array (Option Value)}
    {f_take_out : Addr} {oc_take_out kV_take_out dc_take_out pm_take_out cd_take_out ct_take_out : Value} {od_take_out an_take_out : Option Addr} {sl_take_out : Array (Option Value)}
    {f_join : Addr} {oc_join kV_join dc_join pm_join cd_join ct_join : Value} {od_join an_join : Option Addr} {sl_join : Array (Option Value)}
    {f_message_seen : Addr} {oc_message_seen kV_message_seen dc_message_seen pm_message_seen cd_message_seen ct_message_seen : Value} {od_message_seen an_message_seen : Option Addr} {sl_message_seen : Array (Option Value)}
    {f_message_there : Addr} {oc_message_there kV_message_there dc_message_there pm_message_there cd_message_there ct_message_there : Value} {od_message_there an_message_there : Option Addr} {sl_message_there : Array (Option Value)}
    {f_remove : Addr} {oc_remove kV_remove dc_remove pm_remove cd_remove ct_remove : Value} {od_remove an_remove : Option Addr} {sl_remove : Array (Option Value)}
    {f_turn_mark : Addr} {oc_turn_mark kV_turn_mark dc_turn_mark pm_turn_mark cd_turn_mark ct_turn_mark : Value} {od_turn_mark an_turn_mark : Option Addr} {sl_turn_mark : Array (Option Value)}
    {f_many_marks : Addr} {oc_many_marks kV_many_marks dc_many_marks pm_many_marks cd_many_marks ct_many_marks : Value} {od_many_marks an_many_marks : Option Addr} {sl_many_marks : Array (Option Value)}
    {f_many_unread : Addr} {oc_many_unread kV_many_unread dc_many_unread pm_many_unread cd_many_unread ct_many_unread : Value} {od_many_unread an_many_unread : Option Addr} {sl_many_unread : Array (Option Value)}
    {f_places_of : Addr} {oc_places_of kV_places_of dc_places_of pm_places_of cd_places_of ct_places_of : Value} {od_places_of an_places_of : Option Addr} {sl_places_of : Array (Option Value)}
    {f_Refused_init : Addr} {oc_Refused_init kV_Refused_init dc_Refused_init pm_Refused_init cd_Refused_init ct_Refused_init : Value} {od_Refused_init an_Refused_init : Option Addr} {sl_Refused_init : Array (Option Value)}
    {f_ask : Addr} {oc_ask kV_ask dc_ask pm_ask cd_ask ct_ask : Value} {od_ask an_ask : Option Addr} {sl_ask : Array (Option Value)}
    {f_ask_person : Addr} {oc_ask_person kV_ask_person dc_ask_person pm_ask_person cd_ask_person ct_ask_person : Value} {od_ask_person an_ask_person : Option Addr} {sl_ask_person : Array (Option Value)}
    {f_ask_flag : Addr} {oc_ask_flag kV_ask_flag dc_ask_flag pm_ask_flag cd_ask_flag ct_ask_flag : Value} {od_ask_flag an_ask_flag : Option Addr} {sl_ask_flag : Array (Option Value)}
    {f_Place_init : Addr} {oc_Place_init kV_Place_init dc_Place_init pm_Place_init cd_Place_init ct_Place_init : Value} {od_Place_init an_Place_init : Option Addr} {sl_Place_init : Array (Option Value)}
    {f_Place_ask_keeper : Addr} {oc_Place_ask_keeper kV_Place_ask_keeper dc_Place_ask_keeper pm_Place_ask_keeper cd_Place_ask_keeper ct_Place_ask_keeper : Value} {od_Place_ask_keeper an_Place_ask_keeper : Option Addr} {sl_Place_ask_keeper : Array (Option Value)}
    {f_Place_ask_there : Addr} {oc_Place_ask_there kV_Place_ask_there dc_Place_ask_there pm_Place_ask_there cd_Place_ask_there ct_Place_ask_there : Value} {od_Place_ask_there an_Place_ask_there : Option Addr} {sl_Place_ask_there : Array (Option Value)}
    {f_Place_ask_seen : Addr} {oc_Place_ask_seen kV_Place_ask_seen dc_Place_ask_seen pm_Place_ask_seen cd_Place_ask_seen ct_Place_ask_seen : Value} {od_Place_ask_seen an_Place_ask_seen : Option Addr} {sl_Place_ask_seen : Array (Option Value)}
    {f_do_found : Addr} {oc_do_found kV_do_found dc_do_found pm_do_found cd_do_found ct_do_found : Value} {od_do_found an_do_found : Option Addr} {sl_do_found : Array (Option Value)}
    {f_do_invite : Addr} {oc_do_invite kV_do_invite dc_do_invite pm_do_invite cd_do_invite ct_do_invite : Value} {od_do_invite an_do_invite : Option Addr} {sl_do_invite : Array (Option Value)}
    {f_do_join : Addr} {oc_do_join kV_do_join dc_do_join pm_do_join cd_do_join ct_do_join : Value} {od_do_join an_do_join : Option Addr} {sl_do_join : Array (Option Value)}
    {f_do_leave : Addr} {oc_do_leave kV_do_leave dc_do_leave pm_do_leave cd_do_leave ct_do_leave : Value} {od_do_leave an_do_leave : Option Addr} {sl_do_leave : Array (Option Value)}
    {f_do_out : Addr} {oc_do_out kV_do_out dc_do_out pm_do_out cd_do_out ct_do_out : Value} {od_do_out an_do_out : Option Addr} {sl_do_out : Array (Option Value)}
    {f_do_lift : Addr} {oc_do_lift kV_do_lift dc_do_lift pm_do_lift cd_do_lift ct_do_lift : Value} {od_do_lift an_do_lift : Option Addr} {sl_do_lift : Array (Option Value)}
    {f_do_past : Addr} {oc_do_past kV_do_past dc_do_past pm_do_past cd_do_past ct_do_past : Value} {od_do_past an_do_past : Option Addr} {sl_do_past : Array (Option Value)}
    {f_do_say : Addr} {oc_do_say kV_do_say dc_do_say pm_do_say cd_do_say ct_do_say : Value} {od_do_say an_do_say : Option Addr} {sl_do_say : Array (Option Value)}
    {f_do_change : Addr} {oc_do_change kV_do_change dc_do_change pm_do_change cd_do_change ct_do_change : Value} {od_do_change an_do_change : Option Addr} {sl_do_change : Array (Option Value)}
    {f_do_remove : Addr} {oc_do_remove kV_do_remove dc_do_remove pm_do_remove cd_do_remove ct_do_remove : Value} {od_do_remove an_do_remove : Option Addr} {sl_do_remove : Array (Option Value)}
    {f_do_mark : Addr} {oc_do_mark kV_do_mark dc_do_mark pm_do_mark cd_do_mark ct_do_mark : Value} {od_do_mark an_do_mark : Option Addr} {sl_do_mark : Array (Option Value)}
    {f_do_seen : Addr} {oc_do_seen kV_do_seen dc_do_seen pm_do_seen cd_do_seen ct_do_seen : Value} {od_do_seen an_do_seen : Option Addr} {sl_do_seen : Array (Option Value)}
    {f_do_read : Addr} {oc_do_read kV_do_read dc_do_read pm_do_read cd_do_read ct_do_read : Value} {od_do_read an_do_read : Option Addr} {sl_do_read : Array (Option Value)}
    {f_do_unread : Addr} {oc_do_unread kV_do_unread dc_do_unread pm_do_unread cd_do_unread ct_do_unread : Value} {od_do_unread an_do_unread : Option Addr} {sl_do_unread : Array (Option Value)}
    {f_kth : Addr} {oc_kth kV_kth dc_kth pm_kth cd_kth ct_kth : Value} {od_kth an_kth : Option Addr} {sl_kth : Array (Option Value)}
    {f_do_rooms : Addr} {oc_do_rooms kV_do_rooms dc_do_rooms pm_do_rooms cd_do_rooms ct_do_rooms : Value} {od_do_rooms an_do_rooms : Option Addr} {sl_do_rooms : Array (Option Value)}
    {f_do_people : Addr} {oc_do_people kV_do_people dc_do_people pm_do_people cd_do_people ct_do_people : Value} {od_do_people an_do_people : Option Addr} {sl_do_people : Array (Option Value)}
    {f_do_find : Addr} {oc_do_find kV_do_find dc_do_find pm_do_find cd_do_find ct_do_find : Value} {od_do_find an_do_find : Option Addr} {sl_do_find : Array (Option Value)}
    {f_Street_init : Addr} {oc_Street_init kV_Street_init dc_Street_init pm_Street_init cd_Street_init ct_Street_init : Value} {od_Street_init an_Street_init : Option Addr} {sl_Street_init : Array (Option Value)}
    {f_Tape_init : Addr} {oc_Tape_init kV_Tape_init dc_Tape_init pm_Tape_init cd_Tape_init ct_Tape_init : Value} {od_Tape_init an_Tape_init : Option Addr} {sl_Tape_init : Array (Option Value)}
    {f_Tape_is_done : Addr} {oc_Tape_is_done kV_Tape_is_done dc_Tape_is_done pm_Tape_is_done cd_Tape_is_done ct_Tape_is_done : Value} {od_Tape_is_done an_Tape_is_done : Option Addr} {sl_Tape_is_done : Array (Option Value)}
    {f_Tape_take_one : Addr} {oc_Tape_take_one kV_Tape_take_one dc_Tape_take_one pm_Tape_take_one cd_Tape_take_one ct_Tape_take_one : Value} {od_Tape_take_one an_Tape_take_one : Option Addr} {sl_Tape_take_one : Array (Option Value)}
    {f_Tape_take_many : Addr} {oc_Tape_take_many kV_Tape_take_many dc_Tape_take_many pm_Tape_take_many cd_Tape_take_many ct_Tape_take_many : Value} {od_Tape_take_many an_Tape_take_many : Option Addr} {sl_Tape_take_many : Array (Option Value)}
    {f_Tape_take_row : Addr} {oc_Tape_take_row kV_Tape_take_row dc_Tape_take_row pm_Tape_take_row cd_Tape_take_row ct_Tape_take_row : Value} {od_Tape_take_row an_Tape_take_row : Option Addr} {sl_Tape_take_row : Array (Option Value)}
    {f_answer : Addr} {oc_answer kV_answer dc_answer pm_answer cd_answer ct_answer : Value} {od_answer an_answer : Option Addr} {sl_answer : Array (Option Value)}
    {f_answers : Addr} {oc_answers kV_answers dc_answers pm_answers cd_answers ct_answers : Value} {od_answers an_answers : Option Addr} {sl_answers : Array (Option Value)}
    {fD : Addr} {nD : Nat}
    {h1 : Int} {t1 u1 : Tok} {T1 : Addr} {d1 : Option Addr} {n1 : Nat} {sl1 : Array (Option Value)}
    {h2 : Int} {t2 u2 : Tok} {T2 : Addr} {d2 : Option Addr} {n2 : Nat} {sl2 : Array (Option Value)}
    {h3 : Int} {t3 u3 : Tok} {T3 : Addr} {d3 : Option Addr} {n3 : Nat} {sl3 : Array (Option Value)}
    {h4 : Int} {t4 u4 : Tok} {T4 : Addr} {d4 : Option Addr} {n4 : Nat} {sl4 : Array (Option Value)}
    {h5 : Int} {t5 u5 : Tok} {T5 : Addr} {d5 : Option Addr} {n5 : Nat} {sl5 : Array (Option Value)}
    {h6 : Int} {t6 u6 : Tok} {T6 : Addr} {d6 : Option Addr} {n6 : Nat} {sl6 : Array (Option Value)}
    {h7 : Int} {t7 u7 : Tok} {T7 : Addr} {d7 : Option Addr} {n7 : Nat} {sl7 : Array (Option Value)}
    {h8 : Int} {t8 u8 : Tok} {T8 : Addr} {d8 : Option Addr} {n8 : Nat} {sl8 : Array (Option Value)}
    {h9 : Int} {t9 u9 : Tok} {T9 : Addr} {d9 : Option Addr} {n9 : Nat} {sl9 : Array (Option Value)}
    {h10 : Int} {t10 u10 : Tok} {T10 : Addr} {d10 : Option Addr} {n10 : Nat} {sl10 : Array (Option Value)}
    {h11 : Int} {t11 u11 : Tok} {T11 : Addr} {d11 : Option Addr} {n11 : Nat} {sl11 : Array (Option Value)}
    {h12 : Int} {t12 u12 : Tok} {T12 : Addr} {d12 : Option Addr} {n12 : Nat} {sl12 : Array (Option Value)}
    {h13 : Int} {t13 u13 : Tok} {T13 : Addr} {d13 : Option Addr} {n13 : Nat} {sl13 : Array (Option Value)}
    {h14 : Int} {t14 u14 : Tok} {T14 : Addr} {d14 : Option Addr} {n14 : Nat} {sl14 : Array (Option Value)}
    {h15 : Int} {t15 u15 : Tok} {T15 : Addr} {d15 : Option Addr} {n15 : Nat} {sl15 : Array (Option Value)}
    {h16 : Int} {t16 u16 : Tok} {T16 : Addr} {d16 : Option Addr} {n16 : Nat} {sl16 : Array (Option Value)}
    {h17 : Int} {t17 u17 : Tok} {T17 : Addr} {d17 : Option Addr} {n17 : Nat} {sl17 : Array (Option Value)}
    (z_len : PySem.W.nsIn K mainGlobals "len" = some none)
    (z_range : PySem.W.nsIn K mainGlobals "range" = some none)
    (z_enumerate : PySem.W.nsIn K mainGlobals "enumerate" = some none)
    (z_max : PySem.W.nsIn K mainGlobals "max" = some none)
    (z_int : PySem.W.nsIn K mainGlobals "int" = some none)
    (z_list : PySem.W.nsIn K mainGlobals "list" = some none)
    (z_tuple : PySem.W.nsIn K mainGlobals "tuple" = some none)
    (v_MOST_TEXT : PySem.W.nsIn K mainGlobals "MOST_TEXT" = some (some (.int (256) t_MOST_TEXT)))
    (v_MOST_WORD : PySem.W.nsIn K mainGlobals "MOST_WORD" = some (some (.int (32) t_MOST_WORD)))
    (v_SMALLER : PySem.W.nsIn K mainGlobals "SMALLER" = some (some (.int (32) t_SMALLER)))
    (v_PEOPLE : PySem.W.nsIn K mainGlobals "PEOPLE" = some (some (.int (16) t_PEOPLE)))
    (v_MOST_FOUNDED : PySem.W.nsIn K mainGlobals "MOST_FOUNDED" = some (some (.int (4) t_MOST_FOUNDED)))
    (v_KINDS : PySem.W.nsIn K mainGlobals "KINDS" = some (some (.int (16) t_KINDS)))
    (v_WRONG : PySem.W.nsIn K mainGlobals "WRONG" = some (some (.int (-22) t_WRONG)))
    (v_NO_ROOM : PySem.W.nsIn K mainGlobals "NO_ROOM" = some (some (.int (-2) t_NO_ROOM)))
    (v_NO_KEEPER : PySem.W.nsIn K mainGlobals "NO_KEEPER" = some (some (.int (-1) t_NO_KEEPER)))
    (v_ALREADY : PySem.W.nsIn K mainGlobals "ALREADY" = some (some (.int (-17) t_ALREADY)))
    (v_FULL : PySem.W.nsIn K mainGlobals "FULL" = some (some (.int (-28) t_FULL)))
    (v_NO_SUCH : PySem.W.nsIn K mainGlobals "NO_SUCH" = some (some (.int (-61) t_NO_SUCH)))
    (v_MOST_PEOPLE : PySem.W.nsIn K mainGlobals "MOST_PEOPLE" = some (some (.int (12) t_MOST_PEOPLE)))
    (v_MOST_MESSAGES : PySem.W.nsIn K mainGlobals "MOST_MESSAGES" = some (some (.int (128) t_MOST_MESSAGES)))
    (v_MOST_CHANGES : PySem.W.nsIn K mainGlobals "MOST_CHANGES" = some (some (.int (255) t_MOST_CHANGES)))
    (v_MOST_KIND : PySem.W.nsIn K mainGlobals "MOST_KIND" = some (some (.int (15) t_MOST_KIND)))
    (v_BEGIN : PySem.W.nsIn K mainGlobals "BEGIN" = some (some (.int (0) t_BEGIN)))
    (aC_msg : PySem.W.nsIn K mainGlobals "Message" = some (some (.ref C_msg)))
    (aC_mem : PySem.W.nsIn K mainGlobals "Member" = some (some (.ref C_mem)))
    (aC_room : PySem.W.nsIn K mainGlobals "Room" = some (some (.ref C_room)))
    (aC_house : PySem.W.nsIn K mainGlobals "House" = some (some (.ref C_house)))
    (aC_place : PySem.W.nsIn K mainGlobals "Place" = some (some (.ref C_place)))
    (aC_street : PySem.W.nsIn K mainGlobals "Street" = some (some (.ref C_street)))
    (aC_tape : PySem.W.nsIn K mainGlobals "Tape" = some (some (.ref C_tape)))
    (aC_refused : PySem.W.nsIn K mainGlobals "Refused" = some (some (.ref C_refused)))
    (pg_msg : PySem.W.plainGet K C_msg Str.empty = true)
    (hd_msg : PySem.W.hasDictIn K C_msg = true)
    (po_msg : PySem.W.plainOver K C_msg = true)
    (sa_msg : PySem.W.findIn K (.ref C_msg) "__setattr__" = some (some (.builtin "object.__setattr__")))
    (mk_msg : PySem.W.makesIn K C_msg = true)
    (kc_msg : PySem.W.keepIn K (.ref C_msg) = true)
    (n_msg_who : PySem.W.findIn K (.ref C_msg) "who" = some none)
    (n_msg_text : PySem.W.findIn K (.ref C_msg) "text" = some none)
    (n_msg_answered : PySem.W.findIn K (.ref C_msg) "answered" = some none)
    (n_msg_many_changed : PySem.W.findIn K (.ref C_msg) "many_changed" = some none)
    (n_msg_marks : PySem.W.findIn K (.ref C_msg) "marks" = some none)
    (n_msg_is_gone : PySem.W.findIn K (.ref C_msg) "is_gone" = some none)
    (pg_mem : PySem.W.plainGet K C_mem Str.empty = true)
    (hd_mem : PySem.W.hasDictIn K C_mem = true)
    (po_mem : PySem.W.plainOver K C_mem = true)
    (sa_mem : PySem.W.findIn K (.ref C_mem) "__setattr__" = some (some (.builtin "object.__setattr__")))
    (mk_mem : PySem.W.makesIn K C_mem = true)
    (kc_mem : PySem.W.keepIn K (.ref C_mem) = true)
    (n_mem_who : PySem.W.findIn K (.ref C_mem) "who" = some none)
    (n_mem_is_keeper : PySem.W.findIn K (.ref C_mem) "is_keeper" = some none)
    (n_mem_start : PySem.W.findIn K (.ref C_mem) "start" = some none)
    (n_mem_behind_read : PySem.W.findIn K (.ref C_mem) "behind_read" = some none)
    (pg_room : PySem.W.plainGet K C_room Str.empty = true)
    (hd_room : PySem.W.hasDictIn K C_room = true)
    (po_room : PySem.W.plainOver K C_room = true)
    (sa_room : PySem.W.findIn K (.ref C_room) "__setattr__" = some (some (.builtin "object.__setattr__")))
    (mk_room : PySem.W.makesIn K C_room = true)
    (kc_room : PySem.W.keepIn K (.ref C_room) = true)
    (n_room_past : PySem.W.findIn K (.ref C_room) "past" = some none)
    (n_room_members : PySem.W.findIn K (.ref C_room) "members" = some none)
    (n_room_invited : PySem.W.findIn K (.ref C_room) "invited" = some none)
    (n_room_messages : PySem.W.findIn K (.ref C_room) "messages" = some none)
    (pg_house : PySem.W.plainGet K C_house Str.empty = true)
    (hd_house : PySem.W.hasDictIn K C_house = true)
    (po_house : PySem.W.plainOver K C_house = true)
    (sa_house : PySem.W.findIn K (.ref C_house) "__setattr__" = some (some (.builtin "object.__setattr__")))
    (mk_house : PySem.W.makesIn K C_house = true)
    (kc_house : PySem.W.keepIn K (.ref C_house) = true)
    (n_house_founded : PySem.W.findIn K (.ref C_house) "founded" = some none)
    (pg_place : PySem.W.plainGet K C_place Str.empty = true)
    (hd_place : PySem.W.hasDictIn K C_place = true)
    (po_place : PySem.W.plainOver K C_place = true)
    (sa_place : PySem.W.findIn K (.ref C_place) "__setattr__" = some (some (.builtin "object.__setattr__")))
    (mk_place : PySem.W.makesIn K C_place = true)
    (kc_place : PySem.W.keepIn K (.ref C_place) = true)
    (n_place_room : PySem.W.findIn K (.ref C_place) "room" = some none)
    (n_place_member : PySem.W.findIn K (.ref C_place) "member" = some none)
    (pg_street : PySem.W.plainGet K C_street Str.empty = true)
    (hd_street : PySem.W.hasDictIn K C_street = true)
    (po_street : PySem.W.plainOver K C_street = true)
    (sa_street : PySem.W.findIn K (.ref C_street) "__setattr__" = some (some (.builtin "object.__setattr__")))
    (mk_street : PySem.W.makesIn K C_street = true)
    (kc_street : PySem.W.keepIn K (.ref C_street) = true)
    (n_street_house : PySem.W.findIn K (.ref C_street) "house" = some none)
    (pg_tape : PySem.W.plainGet K C_tape Str.empty = true)
    (hd_tape : PySem.W.hasDictIn K C_tape = true)
    (po_tape : PySem.W.plainOver K C_tape = true)
    (sa_tape : PySem.W.findIn K (.ref C_tape) "__setattr__" = some (some (.builtin "object.__setattr__")))
    (mk_tape : PySem.W.makesIn K C_tape = true)
    (kc_tape : PySem.W.keepIn K (.ref C_tape) = true)
    (n_tape_numbers : PySem.W.findIn K (.ref C_tape) "numbers" = some none)
    (n_tape_at : PySem.W.findIn K (.ref C_tape) "at" = some none)
    (xR : K.lookup C_refused = some (excClassObj nmR qR C_refused NR bsR [.type "ValueError", .type "Exception", .type "BaseException", .type "object"] true snR subR abR colR ddR mR0 mR1 mR2 mR3 mR5 "ValueError.__new__"))
    (saR : PySem.W.findIn K (.ref C_refused) "__setattr__" = some (some (.builtin "object.__setattr__")))
    (gaR : PySem.W.findIn K (.ref C_refused) "__getattribute__" = some (some (.builtin "BaseException.__getattribute__")))
    (ggR : PySem.W.findIn K (.ref C_refused) "__getattr__" = some none)
    (nR : PySem.W.findIn K (.ref C_refused) "number" = some none)
    (kR : PySem.W.keepIn K (.ref C_refused) = true)
    (eR : PySem.W.subIn K (.ref C_refused) (.type "BaseException") = some true)
    (tR : PySem.W.typeIn K (.ref C_refused) = some (.type "type"))
    (hR : PySem.W.hasDictIn K C_refused = true)
    (iR : PySem.W.isClsIn K C_refused = true)
    (sR : PySem.W.subIn K (.ref C_refused) (.ref C_refused) = some true)
    (a_is_text : PySem.W.nsIn K mainGlobals "is_text" = some (some (.ref f_is_text)))
    (l_is_text : K.lookup f_is_text = some ⟨oc_is_text, od_is_text, .func (PySem.W.fnOf "is_text" "is_text" (defArgs s_is_text) (defBody s_is_text) (defScope s_is_text) .none kV_is_text dc_is_text pm_is_text an_is_text cd_is_text ct_is_text), sl_is_text⟩)
    (c_is_text : PySem.W.codeIn K cd_is_text "is_text" = true)
    (k_is_text : PySem.W.keepIn K (.ref f_is_text) = true)
    (a_is_great_letter : PySem.W.nsIn K mainGlobals "is_great_letter" = some (some (.ref f_is_great_letter)))
    (l_is_great_letter : K.lookup f_is_great_letter = some ⟨oc_is_great_letter, od_is_great_letter, .func (PySem.W.fnOf "is_great_letter" "is_great_letter" (defArgs s_is_great_letter) (defBody s_is_great_letter) (defScope s_is_great_letter) .none kV_is_great_letter dc_is_great_letter pm_is_great_letter an_is_great_letter cd_is_great_letter ct_is_great_letter), sl_is_great_letter⟩)
    (c_is_great_letter : PySem.W.codeIn K cd_is_great_letter "is_great_letter" = true)
    (k_is_great_letter : PySem.W.keepIn K (.ref f_is_great_letter) = true)
    (a_is_of_word : PySem.W.nsIn K mainGlobals "is_of_word" = some (some (.ref f_is_of_word)))
    (l_is_of_word : K.lookup f_is_of_word = some ⟨oc_is_of_word, od_is_of_word, .func (PySem.W.fnOf "is_of_word" "is_of_word" (defArgs s_is_of_word) (defBody s_is_of_word) (defScope s_is_of_word) .none kV_is_of_word dc_is_of_word pm_is_of_word an_is_of_word cd_is_of_word ct_is_of_word), sl_is_of_word⟩)
    (c_is_of_word : PySem.W.codeIn K cd_is_of_word "is_of_word" = true)
    (k_is_of_word : PySem.W.keepIn K (.ref f_is_of_word) = true)
    (a_small : PySem.W.nsIn K mainGlobals "small" = some (some (.ref f_small)))
    (l_small : K.lookup f_small = some ⟨oc_small, od_small, .func (PySem.W.fnOf "small" "small" (defArgs s_small) (defBody s_small) (defScope s_small) .none kV_small dc_small pm_small an_small cd_small ct_small), sl_small⟩)
    (c_small : PySem.W.codeIn K cd_small "small" = true)
    (k_small : PySem.W.keepIn K (.ref f_small) = true)
    (a_is_word : PySem.W.nsIn K mainGlobals "is_word" = some (some (.ref f_is_word)))
    (l_is_word : K.lookup f_is_word = some ⟨oc_is_word, od_is_word, .func (PySem.W.fnOf "is_word" "is_word" (defArgs s_is_word) (defBody s_is_word) (defScope s_is_word) .none kV_is_word dc_is_word pm_is_word an_is_word cd_is_word ct_is_word), sl_is_word⟩)
    (c_is_word : PySem.W.codeIn K cd_is_word "is_word" = true)
    (k_is_word : PySem.W.keepIn K (.ref f_is_word) = true)
    (a_small_word : PySem.W.nsIn K mainGlobals "small_word" = some (some (.ref f_small_word)))
    (l_small_word : K.lookup f_small_word = some ⟨oc_small_word, od_small_word, .func (PySem.W.fnOf "small_word" "small_word" (defArgs s_small_word) (defBody s_small_word) (defScope s_small_word) .none kV_small_word dc_small_word pm_small_word an_small_word cd_small_word ct_small_word), sl_small_word⟩)
    (c_small_word : PySem.W.codeIn K cd_small_word "small_word" = true)
    (k_small_word : PySem.W.keepIn K (.ref f_small_word) = true)
    (a_words_of : PySem.W.nsIn K mainGlobals "words_of" = some (some (.ref f_words_of)))
    (l_words_of : K.lookup f_words_of = some ⟨oc_words_of, od_words_of, .func (PySem.W.fnOf "words_of" "words_of" (defArgs s_words_of) (defBody s_words_of) (defScope s_words_of) .none kV_words_of dc_words_of pm_words_of an_words_of cd_words_of ct_words_of), sl_words_of⟩)
    (c_words_of : PySem.W.codeIn K cd_words_of "words_of" = true)
    (k_words_of : PySem.W.keepIn K (.ref f_words_of) = true)
    (a_Message_init : PySem.W.findIn K (.ref C_msg) "__init__" = some (some (.ref f_Message_init)))
    (i_Message_init : PySem.W.isFn K (.ref f_Message_init) = true)
    (l_Message_init : K.lookup f_Message_init = some ⟨oc_Message_init, od_Message_init, .func (PySem.W.fnOf "__init__" "Message.__init__" (defArgs s_Message_init) (defBody s_Message_init) (defScope s_Message_init) .none kV_Message_init dc_Message_init pm_Message_init an_Message_init cd_Message_init ct_Message_init), sl_Message_init⟩)
    (c_Message_init : PySem.W.codeIn K cd_Message_init "Message.__init__" = true)
    (k_Message_init : PySem.W.keepIn K (.ref f_Message_init) = true)
    (a_Member_init : PySem.W.findIn K (.ref C_mem) "__init__" = some (some (.ref f_Member_init)))
    (i_Member_init : PySem.W.isFn K (.ref f_Member_init) = true)
    (l_Member_init : K.lookup f_Member_init = some ⟨oc_Member_init, od_Member_init, .func (PySem.W.fnOf "__init__" "Member.__init__" (defArgs s_Member_init) (defBody s_Member_init) (defScope s_Member_init) .none kV_Member_init dc_Member_init pm_Member_init an_Member_init cd_Member_init ct_Member_init), sl_Member_init⟩)
    (c_Member_init : PySem.W.codeIn K cd_Member_init "Member.__init__" = true)
    (k_Member_init : PySem.W.keepIn K (.ref f_Member_init) = true)
    (a_Room_init : PySem.W.findIn K (.ref C_room) "__init__" = some (some (.ref f_Room_init)))
    (i_Room_init : PySem.W.isFn K (.ref f_Room_init) = true)
    (l_Room_init : K.lookup f_Room_init = some ⟨oc_Room_init, od_Room_init, .func (PySem.W.fnOf "__init__" "Room.__init__" (defArgs s_Room_init) (defBody s_Room_init) (defScope s_Room_init) .none kV_Room_init dc_Room_init pm_Room_init an_Room_init cd_Room_init ct_Room_init), sl_Room_init⟩)
    (c_Room_init : PySem.W.codeIn K cd_Room_init "Room.__init__" = true)
    (k_Room_init : PySem.W.keepIn K (.ref f_Room_init) = true)
    (a_House_init : PySem.W.findIn K (.ref C_house) "__init__" = some (some (.ref f_House_init)))
    (i_House_init : PySem.W.isFn K (.ref f_House_init) = true)
    (l_House_init : K.lookup f_House_init = some ⟨oc_House_init, od_House_init, .func (PySem.W.fnOf "__init__" "House.__init__" (defArgs s_House_init) (defBody s_House_init) (defScope s_House_init) .none kV_House_init dc_House_init pm_House_init an_House_init cd_House_init ct_House_init), sl_House_init⟩)
    (c_House_init : PySem.W.codeIn K cd_House_init "House.__init__" = true)
    (k_House_init : PySem.W.keepIn K (.ref f_House_init) = true)
    (a_room_at : PySem.W.nsIn K mainGlobals "room_at" = some (some (.ref f_room_at)))
    (l_room_at : K.lookup f_room_at = some ⟨oc_room_at, od_room_at, .func (PySem.W.fnOf "room_at" "room_at" (defArgs s_room_at) (defBody s_room_at) (defScope s_room_at) .none kV_room_at dc_room_at pm_room_at an_room_at cd_room_at ct_room_at), sl_room_at⟩)
    (c_room_at : PySem.W.codeIn K cd_room_at "room_at" = true)
    (k_room_at : PySem.W.keepIn K (.ref f_room_at) = true)
    (a_all_rooms : PySem.W.nsIn K mainGlobals "all_rooms" = some (some (.ref f_all_rooms)))
    (l_all_rooms : K.lookup f_all_rooms = some ⟨oc_all_rooms, od_all_rooms, .func (PySem.W.fnOf "all_rooms" "all_rooms" (defArgs s_all_rooms) (defBody s_all_rooms) (defScope s_all_rooms) .none kV_all_rooms dc_all_rooms pm_all_rooms an_all_rooms cd_all_rooms ct_all_rooms), sl_all_rooms⟩)
    (c_all_rooms : PySem.W.codeIn K cd_all_rooms "all_rooms" = true)
    (k_all_rooms : PySem.W.keepIn K (.ref f_all_rooms) = true)
    (a_member_of : PySem.W.nsIn K mainGlobals "member_of" = some (some (.ref f_member_of)))
    (l_member_of : K.lookup f_member_of = some ⟨oc_member_of, od_member_of, .func (PySem.W.fnOf "member_of" "member_of" (defArgs s_member_of) (defBody s_member_of) (defScope s_member_of) .none kV_member_of dc_member_of pm_member_of an_member_of cd_member_of ct_member_of), sl_member_of⟩)
    (c_member_of : PySem.W.codeIn K cd_member_of "member_of" = true)
    (k_member_of : PySem.W.keepIn K (.ref f_member_of) = true)
    (a_is_known : PySem.W.nsIn K mainGlobals "is_known" = some (some (.ref f_is_known)))
    (l_is_known : K.lookup f_is_known = some ⟨oc_is_known, od_is_known, .func (PySem.W.fnOf "is_known" "is_known" (defArgs s_is_known) (defBody s_is_known) (defScope s_is_known) .none kV_is_known dc_is_known pm_is_known an_is_known cd_is_known ct_is_known), sl_is_known⟩)
    (c_is_known : PySem.W.codeIn K cd_is_known "is_known" = true)
    (k_is_known : PySem.W.keepIn K (.ref f_is_known) = true)
    (a_has_keeper : PySem.W.nsIn K mainGlobals "has_keeper" = some (some (.ref f_has_keeper)))
    (l_has_keeper : K.lookup f_has_keeper = some ⟨oc_has_keeper, od_has_keeper, .func (PySem.W.fnOf "has_keeper" "has_keeper" (defArgs s_has_keeper) (defBody s_has_keeper) (defScope s_has_keeper) .none kV_has_keeper dc_has_keeper pm_has_keeper an_has_keeper cd_has_keeper ct_has_keeper), sl_has_keeper⟩)
    (c_has_keeper : PySem.W.codeIn K cd_has_keeper "has_keeper" = true)
    (k_has_keeper : PySem.W.keepIn K (.ref f_has_keeper) = true)
    (a_take_out : PySem.W.nsIn K mainGlobals "take_out" = some (some (.ref f_take_out)))
    (l_take_out : K.lookup f_take_out = some ⟨oc_take_out, od_take_out, .func (PySem.W.fnOf "take_out" "take_out" (defArgs s_take_out) (defBody s_take_out) (defScope s_take_out) .none kV_take_out dc_take_out pm_take_out an_take_out cd_take_out ct_take_out), sl_take_out⟩)
    (c_take_out : PySem.W.codeIn K cd_take_out "take_out" = true)
    (k_take_out : PySem.W.keepIn K (.ref f_take_out) = true)
    (a_join : PySem.W.nsIn K mainGlobals "join" = some (some (.ref f_join)))
    (l_join : K.lookup f_join = some ⟨oc_join, od_join, .func (PySem.W.fnOf "join" "join" (defArgs s_join) (defBody s_join) (defScope s_join) .none kV_join dc_join pm_join an_join cd_join ct_join), sl_join⟩)
    (c_join : PySem.W.codeIn K cd_join "join" = true)
    (k_join : PySem.W.keepIn K (.ref f_join) = true)
    (a_message_seen : PySem.W.nsIn K mainGlobals "message_seen" = some (some (.ref f_message_seen)))
    (l_message_seen : K.lookup f_message_seen = some ⟨oc_message_seen, od_message_seen, .func (PySem.W.fnOf "message_seen" "message_seen" (defArgs s_message_seen) (defBody s_message_seen) (defScope s_message_seen) .none kV_message_seen dc_message_seen pm_message_seen an_message_seen cd_message_seen ct_message_seen), sl_message_seen⟩)
    (c_message_seen : PySem.W.codeIn K cd_message_seen "message_seen" = true)
    (k_message_seen : PySem.W.keepIn K (.ref f_message_seen) = true)
    (a_message_there : PySem.W.nsIn K mainGlobals "message_there" = some (some (.ref f_message_there)))
    (l_message_there : K.lookup f_message_there = some ⟨oc_message_there, od_message_there, .func (PySem.W.fnOf "message_there" "message_there" (defArgs s_message_there) (defBody s_message_there) (defScope s_message_there) .none kV_message_there dc_message_there pm_message_there an_message_there cd_message_there ct_message_there), sl_message_there⟩)
    (c_message_there : PySem.W.codeIn K cd_message_there "message_there" = true)
    (k_message_there : PySem.W.keepIn K (.ref f_message_there) = true)
    (a_remove : PySem.W.nsIn K mainGlobals "remove" = some (some (.ref f_remove)))
    (l_remove : K.lookup f_remove = some ⟨oc_remove, od_remove, .func (PySem.W.fnOf "remove" "remove" (defArgs s_remove) (defBody s_remove) (defScope s_remove) .none kV_remove dc_remove pm_remove an_remove cd_remove ct_remove), sl_remove⟩)
    (c_remove : PySem.W.codeIn K cd_remove "remove" = true)
    (k_remove : PySem.W.keepIn K (.ref f_remove) = true)
    (a_turn_mark : PySem.W.nsIn K mainGlobals "turn_mark" = some (some (.ref f_turn_mark)))
    (l_turn_mark : K.lookup f_turn_mark = some ⟨oc_turn_mark, od_turn_mark, .func (PySem.W.fnOf "turn_mark" "turn_mark" (defArgs s_turn_mark) (defBody s_turn_mark) (defScope s_turn_mark) .none kV_turn_mark dc_turn_mark pm_turn_mark an_turn_mark cd_turn_mark ct_turn_mark), sl_turn_mark⟩)
    (c_turn_mark : PySem.W.codeIn K cd_turn_mark "turn_mark" = true)
    (k_turn_mark : PySem.W.keepIn K (.ref f_turn_mark) = true)
    (a_many_marks : PySem.W.nsIn K mainGlobals "many_marks" = some (some (.ref f_many_marks)))
    (l_many_marks : K.lookup f_many_marks = some ⟨oc_many_marks, od_many_marks, .func (PySem.W.fnOf "many_marks" "many_marks" (defArgs s_many_marks) (defBody s_many_marks) (defScope s_many_marks) .none kV_many_marks dc_many_marks pm_many_marks an_many_marks cd_many_marks ct_many_marks), sl_many_marks⟩)
    (c_many_marks : PySem.W.codeIn K cd_many_marks "many_marks" = true)
    (k_many_marks : PySem.W.keepIn K (.ref f_many_marks) = true)
    (a_many_unread : PySem.W.nsIn K mainGlobals "many_unread" = some (some (.ref f_many_unread)))
    (l_many_unread : K.lookup f_many_unread = some ⟨oc_many_unread, od_many_unread, .func (PySem.W.fnOf "many_unread" "many_unread" (defArgs s_many_unread) (defBody s_many_unread) (defScope s_many_unread) .none kV_many_unread dc_many_unread pm_many_unread an_many_unread cd_many_unread ct_many_unread), sl_many_unread⟩)
    (c_many_unread : PySem.W.codeIn K cd_many_unread "many_unread" = true)
    (k_many_unread : PySem.W.keepIn K (.ref f_many_unread) = true)
    (a_places_of : PySem.W.nsIn K mainGlobals "places_of" = some (some (.ref f_places_of)))
    (l_places_of : K.lookup f_places_of = some ⟨oc_places_of, od_places_of, .func (PySem.W.fnOf "places_of" "places_of" (defArgs s_places_of) (defBody s_places_of) (defScope s_places_of) .none kV_places_of dc_places_of pm_places_of an_places_of cd_places_of ct_places_of), sl_places_of⟩)
    (c_places_of : PySem.W.codeIn K cd_places_of "places_of" = true)
    (k_places_of : PySem.W.keepIn K (.ref f_places_of) = true)
    (a_Refused_init : PySem.W.findIn K (.ref C_refused) "__init__" = some (some (.ref f_Refused_init)))
    (i_Refused_init : PySem.W.typeIn K (.ref f_Refused_init) = some (.type "function"))
    (l_Refused_init : K.lookup f_Refused_init = some ⟨oc_Refused_init, od_Refused_init, .func (PySem.W.fnOf "__init__" "Refused.__init__" (defArgs s_Refused_init) (defBody s_Refused_init) (defScope s_Refused_init) .none kV_Refused_init dc_Refused_init pm_Refused_init an_Refused_init cd_Refused_init ct_Refused_init), sl_Refused_init⟩)
    (c_Refused_init : PySem.W.codeIn K cd_Refused_init "Refused.__init__" = true)
    (k_Refused_init : PySem.W.keepIn K (.ref f_Refused_init) = true)
    (a_ask : PySem.W.nsIn K mainGlobals "ask" = some (some (.ref f_ask)))
    (l_ask : K.lookup f_ask = some ⟨oc_ask, od_ask, .func (PySem.W.fnOf "ask" "ask" (defArgs s_ask) (defBody s_ask) (defScope s_ask) .none kV_ask dc_ask pm_ask an_ask cd_ask ct_ask), sl_ask⟩)
    (c_ask : PySem.W.codeIn K cd_ask "ask" = true)
    (k_ask : PySem.W.keepIn K (.ref f_ask) = true)
    (a_ask_person : PySem.W.nsIn K mainGlobals "ask_person" = some (some (.ref f_ask_person)))
    (l_ask_person : K.lookup f_ask_person = some ⟨oc_ask_person, od_ask_person, .func (PySem.W.fnOf "ask_person" "ask_person" (defArgs s_ask_person) (defBody s_ask_person) (defScope s_ask_person) .none kV_ask_person dc_ask_person pm_ask_person an_ask_person cd_ask_person ct_ask_person), sl_ask_person⟩)
    (c_ask_person : PySem.W.codeIn K cd_ask_person "ask_person" = true)
    (k_ask_person : PySem.W.keepIn K (.ref f_ask_person) = true)
    (a_ask_flag : PySem.W.nsIn K mainGlobals "ask_flag" = some (some (.ref f_ask_flag)))
    (l_ask_flag : K.lookup f_ask_flag = some ⟨oc_ask_flag, od_ask_flag, .func (PySem.W.fnOf "ask_flag" "ask_flag" (defArgs s_ask_flag) (defBody s_ask_flag) (defScope s_ask_flag) .none kV_ask_flag dc_ask_flag pm_ask_flag an_ask_flag cd_ask_flag ct_ask_flag), sl_ask_flag⟩)
    (c_ask_flag : PySem.W.codeIn K cd_ask_flag "ask_flag" = true)
    (k_ask_flag : PySem.W.keepIn K (.ref f_ask_flag) = true)
    (a_Place_init : PySem.W.findIn K (.ref C_place) "__init__" = some (some (.ref f_Place_init)))
    (i_Place_init : PySem.W.isFn K (.ref f_Place_init) = true)
    (l_Place_init : K.lookup f_Place_init = some ⟨oc_Place_init, od_Place_init, .func (PySem.W.fnOf "__init__" "Place.__init__" (defArgs s_Place_init) (defBody s_Place_init) (defScope s_Place_init) .none kV_Place_init dc_Place_init pm_Place_init an_Place_init cd_Place_init ct_Place_init), sl_Place_init⟩)
    (c_Place_init : PySem.W.codeIn K cd_Place_init "Place.__init__" = true)
    (k_Place_init : PySem.W.keepIn K (.ref f_Place_init) = true)
    (a_Place_ask_keeper : PySem.W.findIn K (.ref C_place) "ask_keeper" = some (some (.ref f_Place_ask_keeper)))
    (i_Place_ask_keeper : PySem.W.isFn K (.ref f_Place_ask_keeper) = true)
    (l_Place_ask_keeper : K.lookup f_Place_ask_keeper = some ⟨oc_Place_ask_keeper, od_Place_ask_keeper, .func (PySem.W.fnOf "ask_keeper" "Place.ask_keeper" (defArgs s_Place_ask_keeper) (defBody s_Place_ask_keeper) (defScope s_Place_ask_keeper) .none kV_Place_ask_keeper dc_Place_ask_keeper pm_Place_ask_keeper an_Place_ask_keeper cd_Place_ask_keeper ct_Place_ask_keeper), sl_Place_ask_keeper⟩)
    (c_Place_ask_keeper : PySem.W.codeIn K cd_Place_ask_keeper "Place.ask_keeper" = true)
    (k_Place_ask_keeper : PySem.W.keepIn K (.ref f_Place_ask_keeper) = true)
    (a_Place_ask_there : PySem.W.findIn K (.ref C_place) "ask_there" = some (some (.ref f_Place_ask_there)))
    (i_Place_ask_there : PySem.W.isFn K (.ref f_Place_ask_there) = true)
    (l_Place_ask_there : K.lookup f_Place_ask_there = some ⟨oc_Place_ask_there, od_Place_ask_there, .func (PySem.W.fnOf "ask_there" "Place.ask_there" (defArgs s_Place_ask_there) (defBody s_Place_ask_there) (defScope s_Place_ask_there) .none kV_Place_ask_there dc_Place_ask_there pm_Place_ask_there an_Place_ask_there cd_Place_ask_there ct_Place_ask_there), sl_Place_ask_there⟩)
    (c_Place_ask_there : PySem.W.codeIn K cd_Place_ask_there "Place.ask_there" = true)
    (k_Place_ask_there : PySem.W.keepIn K (.ref f_Place_ask_there) = true)
    (a_Place_ask_seen : PySem.W.findIn K (.ref C_place) "ask_seen" = some (some (.ref f_Place_ask_seen)))
    (i_Place_ask_seen : PySem.W.isFn K (.ref f_Place_ask_seen) = true)
    (l_Place_ask_seen : K.lookup f_Place_ask_seen = some ⟨oc_Place_ask_seen, od_Place_ask_seen, .func (PySem.W.fnOf "ask_seen" "Place.ask_seen" (defArgs s_Place_ask_seen) (defBody s_Place_ask_seen) (defScope s_Place_ask_seen) .none kV_Place_ask_seen dc_Place_ask_seen pm_Place_ask_seen an_Place_ask_seen cd_Place_ask_seen ct_Place_ask_seen), sl_Place_ask_seen⟩)
    (c_Place_ask_seen : PySem.W.codeIn K cd_Place_ask_seen "Place.ask_seen" = true)
    (k_Place_ask_seen : PySem.W.keepIn K (.ref f_Place_ask_seen) = true)
    (a_do_found : PySem.W.nsIn K mainGlobals "do_found" = some (some (.ref f_do_found)))
    (l_do_found : K.lookup f_do_found = some ⟨oc_do_found, od_do_found, .func (PySem.W.fnOf "do_found" "do_found" (defArgs s_do_found) (defBody s_do_found) (defScope s_do_found) .none kV_do_found dc_do_found pm_do_found an_do_found cd_do_found ct_do_found), sl_do_found⟩)
    (c_do_found : PySem.W.codeIn K cd_do_found "do_found" = true)
    (k_do_found : PySem.W.keepIn K (.ref f_do_found) = true)
    (a_do_invite : PySem.W.nsIn K mainGlobals "do_invite" = some (some (.ref f_do_invite)))
    (l_do_invite : K.lookup f_do_invite = some ⟨oc_do_invite, od_do_invite, .func (PySem.W.fnOf "do_invite" "do_invite" (defArgs s_do_invite) (defBody s_do_invite) (defScope s_do_invite) .none kV_do_invite dc_do_invite pm_do_invite an_do_invite cd_do_invite ct_do_invite), sl_do_invite⟩)
    (c_do_invite : PySem.W.codeIn K cd_do_invite "do_invite" = true)
    (k_do_invite : PySem.W.keepIn K (.ref f_do_invite) = true)
    (a_do_join : PySem.W.nsIn K mainGlobals "do_join" = some (some (.ref f_do_join)))
    (l_do_join : K.lookup f_do_join = some ⟨oc_do_join, od_do_join, .func (PySem.W.fnOf "do_join" "do_join" (defArgs s_do_join) (defBody s_do_join) (defScope s_do_join) .none kV_do_join dc_do_join pm_do_join an_do_join cd_do_join ct_do_join), sl_do_join⟩)
    (c_do_join : PySem.W.codeIn K cd_do_join "do_join" = true)
    (k_do_join : PySem.W.keepIn K (.ref f_do_join) = true)
    (a_do_leave : PySem.W.nsIn K mainGlobals "do_leave" = some (some (.ref f_do_leave)))
    (l_do_leave : K.lookup f_do_leave = some ⟨oc_do_leave, od_do_leave, .func (PySem.W.fnOf "do_leave" "do_leave" (defArgs s_do_leave) (defBody s_do_leave) (defScope s_do_leave) .none kV_do_leave dc_do_leave pm_do_leave an_do_leave cd_do_leave ct_do_leave), sl_do_leave⟩)
    (c_do_leave : PySem.W.codeIn K cd_do_leave "do_leave" = true)
    (k_do_leave : PySem.W.keepIn K (.ref f_do_leave) = true)
    (a_do_out : PySem.W.nsIn K mainGlobals "do_out" = some (some (.ref f_do_out)))
    (l_do_out : K.lookup f_do_out = some ⟨oc_do_out, od_do_out, .func (PySem.W.fnOf "do_out" "do_out" (defArgs s_do_out) (defBody s_do_out) (defScope s_do_out) .none kV_do_out dc_do_out pm_do_out an_do_out cd_do_out ct_do_out), sl_do_out⟩)
    (c_do_out : PySem.W.codeIn K cd_do_out "do_out" = true)
    (k_do_out : PySem.W.keepIn K (.ref f_do_out) = true)
    (a_do_lift : PySem.W.nsIn K mainGlobals "do_lift" = some (some (.ref f_do_lift)))
    (l_do_lift : K.lookup f_do_lift = some ⟨oc_do_lift, od_do_lift, .func (PySem.W.fnOf "do_lift" "do_lift" (defArgs s_do_lift) (defBody s_do_lift) (defScope s_do_lift) .none kV_do_lift dc_do_lift pm_do_lift an_do_lift cd_do_lift ct_do_lift), sl_do_lift⟩)
    (c_do_lift : PySem.W.codeIn K cd_do_lift "do_lift" = true)
    (k_do_lift : PySem.W.keepIn K (.ref f_do_lift) = true)
    (a_do_past : PySem.W.nsIn K mainGlobals "do_past" = some (some (.ref f_do_past)))
    (l_do_past : K.lookup f_do_past = some ⟨oc_do_past, od_do_past, .func (PySem.W.fnOf "do_past" "do_past" (defArgs s_do_past) (defBody s_do_past) (defScope s_do_past) .none kV_do_past dc_do_past pm_do_past an_do_past cd_do_past ct_do_past), sl_do_past⟩)
    (c_do_past : PySem.W.codeIn K cd_do_past "do_past" = true)
    (k_do_past : PySem.W.keepIn K (.ref f_do_past) = true)
    (a_do_say : PySem.W.nsIn K mainGlobals "do_say" = some (some (.ref f_do_say)))
    (l_do_say : K.lookup f_do_say = some ⟨oc_do_say, od_do_say, .func (PySem.W.fnOf "do_say" "do_say" (defArgs s_do_say) (defBody s_do_say) (defScope s_do_say) .none kV_do_say dc_do_say pm_do_say an_do_say cd_do_say ct_do_say), sl_do_say⟩)
    (c_do_say : PySem.W.codeIn K cd_do_say "do_say" = true)
    (k_do_say : PySem.W.keepIn K (.ref f_do_say) = true)
    (a_do_change : PySem.W.nsIn K mainGlobals "do_change" = some (some (.ref f_do_change)))
    (l_do_change : K.lookup f_do_change = some ⟨oc_do_change, od_do_change, .func (PySem.W.fnOf "do_change" "do_change" (defArgs s_do_change) (defBody s_do_change) (defScope s_do_change) .none kV_do_change dc_do_change pm_do_change an_do_change cd_do_change ct_do_change), sl_do_change⟩)
    (c_do_change : PySem.W.codeIn K cd_do_change "do_change" = true)
    (k_do_change : PySem.W.keepIn K (.ref f_do_change) = true)
    (a_do_remove : PySem.W.nsIn K mainGlobals "do_remove" = some (some (.ref f_do_remove)))
    (l_do_remove : K.lookup f_do_remove = some ⟨oc_do_remove, od_do_remove, .func (PySem.W.fnOf "do_remove" "do_remove" (defArgs s_do_remove) (defBody s_do_remove) (defScope s_do_remove) .none kV_do_remove dc_do_remove pm_do_remove an_do_remove cd_do_remove ct_do_remove), sl_do_remove⟩)
    (c_do_remove : PySem.W.codeIn K cd_do_remove "do_remove" = true)
    (k_do_remove : PySem.W.keepIn K (.ref f_do_remove) = true)
    (a_do_mark : PySem.W.nsIn K mainGlobals "do_mark" = some (some (.ref f_do_mark)))
    (l_do_mark : K.lookup f_do_mark = some ⟨oc_do_mark, od_do_mark, .func (PySem.W.fnOf "do_mark" "do_mark" (defArgs s_do_mark) (defBody s_do_mark) (defScope s_do_mark) .none kV_do_mark dc_do_mark pm_do_mark an_do_mark cd_do_mark ct_do_mark), sl_do_mark⟩)
    (c_do_mark : PySem.W.codeIn K cd_do_mark "do_mark" = true)
    (k_do_mark : PySem.W.keepIn K (.ref f_do_mark) = true)
    (a_do_seen : PySem.W.nsIn K mainGlobals "do_seen" = some (some (.ref f_do_seen)))
    (l_do_seen : K.lookup f_do_seen = some ⟨oc_do_seen, od_do_seen, .func (PySem.W.fnOf "do_seen" "do_seen" (defArgs s_do_seen) (defBody s_do_seen) (defScope s_do_seen) .none kV_do_seen dc_do_seen pm_do_seen an_do_seen cd_do_seen ct_do_seen), sl_do_seen⟩)
    (c_do_seen : PySem.W.codeIn K cd_do_seen "do_seen" = true)
    (k_do_seen : PySem.W.keepIn K (.ref f_do_seen) = true)
    (a_do_read : PySem.W.nsIn K mainGlobals "do_read" = some (some (.ref f_do_read)))
    (l_do_read : K.lookup f_do_read = some ⟨oc_do_read, od_do_read, .func (PySem.W.fnOf "do_read" "do_read" (defArgs s_do_read) (defBody s_do_read) (defScope s_do_read) .none kV_do_read dc_do_read pm_do_read an_do_read cd_do_read ct_do_read), sl_do_read⟩)
    (c_do_read : PySem.W.codeIn K cd_do_read "do_read" = true)
    (k_do_read : PySem.W.keepIn K (.ref f_do_read) = true)
    (a_do_unread : PySem.W.nsIn K mainGlobals "do_unread" = some (some (.ref f_do_unread)))
    (l_do_unread : K.lookup f_do_unread = some ⟨oc_do_unread, od_do_unread, .func (PySem.W.fnOf "do_unread" "do_unread" (defArgs s_do_unread) (defBody s_do_unread) (defScope s_do_unread) .none kV_do_unread dc_do_unread pm_do_unread an_do_unread cd_do_unread ct_do_unread), sl_do_unread⟩)
    (c_do_unread : PySem.W.codeIn K cd_do_unread "do_unread" = true)
    (k_do_unread : PySem.W.keepIn K (.ref f_do_unread) = true)
    (a_kth : PySem.W.nsIn K mainGlobals "kth" = some (some (.ref f_kth)))
    (l_kth : K.lookup f_kth = some ⟨oc_kth, od_kth, .func (PySem.W.fnOf "kth" "kth" (defArgs s_kth) (defBody s_kth) (defScope s_kth) .none kV_kth dc_kth pm_kth an_kth cd_kth ct_kth), sl_kth⟩)
    (c_kth : PySem.W.codeIn K cd_kth "kth" = true)
    (k_kth : PySem.W.keepIn K (.ref f_kth) = true)
    (a_do_rooms : PySem.W.nsIn K mainGlobals "do_rooms" = some (some (.ref f_do_rooms)))
    (l_do_rooms : K.lookup f_do_rooms = some ⟨oc_do_rooms, od_do_rooms, .func (PySem.W.fnOf "do_rooms" "do_rooms" (defArgs s_do_rooms) (defBody s_do_rooms) (defScope s_do_rooms) .none kV_do_rooms dc_do_rooms pm_do_rooms an_do_rooms cd_do_rooms ct_do_rooms), sl_do_rooms⟩)
    (c_do_rooms : PySem.W.codeIn K cd_do_rooms "do_rooms" = true)
    (k_do_rooms : PySem.W.keepIn K (.ref f_do_rooms) = true)
    (a_do_people : PySem.W.nsIn K mainGlobals "do_people" = some (some (.ref f_do_people)))
    (l_do_people : K.lookup f_do_people = some ⟨oc_do_people, od_do_people, .func (PySem.W.fnOf "do_people" "do_people" (defArgs s_do_people) (defBody s_do_people) (defScope s_do_people) .none kV_do_people dc_do_people pm_do_people an_do_people cd_do_people ct_do_people), sl_do_people⟩)
    (c_do_people : PySem.W.codeIn K cd_do_people "do_people" = true)
    (k_do_people : PySem.W.keepIn K (.ref f_do_people) = true)
    (a_do_find : PySem.W.nsIn K mainGlobals "do_find" = some (some (.ref f_do_find)))
    (l_do_find : K.lookup f_do_find = some ⟨oc_do_find, od_do_find, .func (PySem.W.fnOf "do_find" "do_find" (defArgs s_do_find) (defBody s_do_find) (defScope s_do_find) .none kV_do_find dc_do_find pm_do_find an_do_find cd_do_find ct_do_find), sl_do_find⟩)
    (c_do_find : PySem.W.codeIn K cd_do_find "do_find" = true)
    (k_do_find : PySem.W.keepIn K (.ref f_do_find) = true)
    (a_Street_init : PySem.W.findIn K (.ref C_street) "__init__" = some (some (.ref f_Street_init)))
    (i_Street_init : PySem.W.isFn K (.ref f_Street_init) = true)
    (l_Street_init : K.lookup f_Street_init = some ⟨oc_Street_init, od_Street_init, .func (PySem.W.fnOf "__init__" "Street.__init__" (defArgs s_Street_init) (defBody s_Street_init) (defScope s_Street_init) .none kV_Street_init dc_Street_init pm_Street_init an_Street_init cd_Street_init ct_Street_init), sl_Street_init⟩)
    (c_Street_init : PySem.W.codeIn K cd_Street_init "Street.__init__" = true)
    (k_Street_init : PySem.W.keepIn K (.ref f_Street_init) = true)
    (a_Tape_init : PySem.W.findIn K (.ref C_tape) "__init__" = some (some (.ref f_Tape_init)))
    (i_Tape_init : PySem.W.isFn K (.ref f_Tape_init) = true)
    (l_Tape_init : K.lookup f_Tape_init = some ⟨oc_Tape_init, od_Tape_init, .func (PySem.W.fnOf "__init__" "Tape.__init__" (defArgs s_Tape_init) (defBody s_Tape_init) (defScope s_Tape_init) .none kV_Tape_init dc_Tape_init pm_Tape_init an_Tape_init cd_Tape_init ct_Tape_init), sl_Tape_init⟩)
    (c_Tape_init : PySem.W.codeIn K cd_Tape_init "Tape.__init__" = true)
    (k_Tape_init : PySem.W.keepIn K (.ref f_Tape_init) = true)
    (a_Tape_is_done : PySem.W.findIn K (.ref C_tape) "is_done" = some (some (.ref f_Tape_is_done)))
    (i_Tape_is_done : PySem.W.isFn K (.ref f_Tape_is_done) = true)
    (l_Tape_is_done : K.lookup f_Tape_is_done = some ⟨oc_Tape_is_done, od_Tape_is_done, .func (PySem.W.fnOf "is_done" "Tape.is_done" (defArgs s_Tape_is_done) (defBody s_Tape_is_done) (defScope s_Tape_is_done) .none kV_Tape_is_done dc_Tape_is_done pm_Tape_is_done an_Tape_is_done cd_Tape_is_done ct_Tape_is_done), sl_Tape_is_done⟩)
    (c_Tape_is_done : PySem.W.codeIn K cd_Tape_is_done "Tape.is_done" = true)
    (k_Tape_is_done : PySem.W.keepIn K (.ref f_Tape_is_done) = true)
    (a_Tape_take_one : PySem.W.findIn K (.ref C_tape) "take_one" = some (some (.ref f_Tape_take_one)))
    (i_Tape_take_one : PySem.W.isFn K (.ref f_Tape_take_one) = true)
    (l_Tape_take_one : K.lookup f_Tape_take_one = some ⟨oc_Tape_take_one, od_Tape_take_one, .func (PySem.W.fnOf "take_one" "Tape.take_one" (defArgs s_Tape_take_one) (defBody s_Tape_take_one) (defScope s_Tape_take_one) .none kV_Tape_take_one dc_Tape_take_one pm_Tape_take_one an_Tape_take_one cd_Tape_take_one ct_Tape_take_one), sl_Tape_take_one⟩)
    (c_Tape_take_one : PySem.W.codeIn K cd_Tape_take_one "Tape.take_one" = true)
    (k_Tape_take_one : PySem.W.keepIn K (.ref f_Tape_take_one) = true)
    (a_Tape_take_many : PySem.W.findIn K (.ref C_tape) "take_many" = some (some (.ref f_Tape_take_many)))
    (i_Tape_take_many : PySem.W.isFn K (.ref f_Tape_take_many) = true)
    (l_Tape_take_many : K.lookup f_Tape_take_many = some ⟨oc_Tape_take_many, od_Tape_take_many, .func (PySem.W.fnOf "take_many" "Tape.take_many" (defArgs s_Tape_take_many) (defBody s_Tape_take_many) (defScope s_Tape_take_many) .none kV_Tape_take_many dc_Tape_take_many pm_Tape_take_many an_Tape_take_many cd_Tape_take_many ct_Tape_take_many), sl_Tape_take_many⟩)
    (c_Tape_take_many : PySem.W.codeIn K cd_Tape_take_many "Tape.take_many" = true)
    (k_Tape_take_many : PySem.W.keepIn K (.ref f_Tape_take_many) = true)
    (a_Tape_take_row : PySem.W.findIn K (.ref C_tape) "take_row" = some (some (.ref f_Tape_take_row)))
    (i_Tape_take_row : PySem.W.isFn K (.ref f_Tape_take_row) = true)
    (l_Tape_take_row : K.lookup f_Tape_take_row = some ⟨oc_Tape_take_row, od_Tape_take_row, .func (PySem.W.fnOf "take_row" "Tape.take_row" (defArgs s_Tape_take_row) (defBody s_Tape_take_row) (defScope s_Tape_take_row) .none kV_Tape_take_row dc_Tape_take_row pm_Tape_take_row an_Tape_take_row cd_Tape_take_row ct_Tape_take_row), sl_Tape_take_row⟩)
    (c_Tape_take_row : PySem.W.codeIn K cd_Tape_take_row "Tape.take_row" = true)
    (k_Tape_take_row : PySem.W.keepIn K (.ref f_Tape_take_row) = true)
    (a_answer : PySem.W.nsIn K mainGlobals "answer" = some (some (.ref f_answer)))
    (l_answer : K.lookup f_answer = some ⟨oc_answer, od_answer, .func (PySem.W.fnOf "answer" "answer" (defArgs s_answer) (defBody s_answer) (defScope s_answer) .none kV_answer dc_answer pm_answer an_answer cd_answer ct_answer), sl_answer⟩)
    (c_answer : PySem.W.codeIn K cd_answer "answer" = true)
    (k_answer : PySem.W.keepIn K (.ref f_answer) = true)
    (a_answers : PySem.W.nsIn K mainGlobals "answers" = some (some (.ref f_answers)))
    (l_answers : K.lookup f_answers = some ⟨oc_answers, od_answers, .func (PySem.W.fnOf "answers" "answers" (defArgs s_answers) (defBody s_answers) (defScope s_answers) .none kV_answers dc_answers pm_answers an_answers cd_answers ct_answers), sl_answers⟩)
    (c_answers : PySem.W.codeIn K cd_answers "answers" = true)
    (k_answers : PySem.W.keepIn K (.ref f_answers) = true)
    (aD : PySem.W.nsIn K mainGlobals "DEEDS" = some (some (.ref fD)))
    (lD : K.lookup fD = some ⟨.type "dict", none, .dict #[⟨h1, .int 1 t1, .ref T1⟩, ⟨h2, .int 2 t2, .ref T2⟩, ⟨h3, .int 3 t3, .ref T3⟩, ⟨h4, .int 4 t4, .ref T4⟩, ⟨h5, .int 5 t5, .ref T5⟩, ⟨h6, .int 6 t6, .ref T6⟩, ⟨h7, .int 7 t7, .ref T7⟩, ⟨h8, .int 8 t8, .ref T8⟩, ⟨h9, .int 9 t9, .ref T9⟩, ⟨h10, .int 10 t10, .ref T10⟩, ⟨h11, .int 11 t11, .ref T11⟩, ⟨h12, .int 12 t12, .ref T12⟩, ⟨h13, .int 13 t13, .ref T13⟩, ⟨h14, .int 14 t14, .ref T14⟩, ⟨h15, .int 15 t15, .ref T15⟩, ⟨h16, .int 16 t16, .ref T16⟩, ⟨h17, .int 17 t17, .ref T17⟩] nD, #[]⟩)
    (lT1 : K.lookup T1 = some ⟨.type "tuple", d1, .seq #[.int 2 u1, .bool false, .ref f_do_found] n1, sl1⟩)
    (lT2 : K.lookup T2 = some ⟨.type "tuple", d2, .seq #[.int 4 u2, .bool false, .ref f_do_invite] n2, sl2⟩)
    (lT3 : K.lookup T3 = some ⟨.type "tuple", d3, .seq #[.int 3 u3, .bool false, .ref f_do_join] n3, sl3⟩)
    (lT4 : K.lookup T4 = some ⟨.type "tuple", d4, .seq #[.int 3 u4, .bool false, .ref f_do_leave] n4, sl4⟩)
    (lT5 : K.lookup T5 = some ⟨.type "tuple", d5, .seq #[.int 4 u5, .bool false, .ref f_do_out] n5, sl5⟩)
    (lT6 : K.lookup T6 = some ⟨.type "tuple", d6, .seq #[.int 4 u6, .bool false, .ref f_do_lift] n6, sl6⟩)
    (lT7 : K.lookup T7 = some ⟨.type "tuple", d7, .seq #[.int 4 u7, .bool false, .ref f_do_past] n7, sl7⟩)
    (lT8 : K.lookup T8 = some ⟨.type "tuple", d8, .seq #[.int 4 u8, .bool true, .ref f_do_say] n8, sl8⟩)
    (lT9 : K.lookup T9 = some ⟨.type "tuple", d9, .seq #[.int 4 u9, .bool true, .ref f_do_change] n9, sl9⟩)
    (lT10 : K.lookup T10 = some ⟨.type "tuple", d10, .seq #[.int 4 u10, .bool false, .ref f_do_remove] n10, sl10⟩)
    (lT11 : K.lookup T11 = some ⟨.type "tuple", d11, .seq #[.int 5 u11, .bool false, .ref f_do_mark] n11, sl11⟩)
    (lT12 : K.lookup T12 = some ⟨.type "tuple", d12, .seq #[.int 4 u12, .bool false, .ref f_do_seen] n12, sl12⟩)
    (lT13 : K.lookup T13 = some ⟨.type "tuple", d13, .seq #[.int 4 u13, .bool false, .ref f_do_read] n13, sl13⟩)
    (lT14 : K.lookup T14 = some ⟨.type "tuple", d14, .seq #[.int 3 u14, .bool false, .ref f_do_unread] n14, sl14⟩)
    (lT15 : K.lookup T15 = some ⟨.type "tuple", d15, .seq #[.int 2 u15, .bool false, .ref f_do_rooms] n15, sl15⟩)
    (lT16 : K.lookup T16 = some ⟨.type "tuple", d16, .seq #[.int 4 u16, .bool false, .ref f_do_people] n16, sl16⟩)
    (lT17 : K.lookup T17 = some ⟨.type "tuple", d17, .seq #[.int 2 u17, .bool true, .ref f_do_find] n17, sl17⟩)
    (hh1 : h1 = hashInt 1)
    (hh2 : h2 = hashInt 2)
    (hh3 : h3 = hashInt 3)
    (hh4 : h4 = hashInt 4)
    (hh5 : h5 = hashInt 5)
    (hh6 : h6 = hashInt 6)
    (hh7 : h7 = hashInt 7)
    (hh8 : h8 = hashInt 8)
    (hh9 : h9 = hashInt 9)
    (hh10 : h10 = hashInt 10)
    (hh11 : h11 = hashInt 11)
    (hh12 : h12 = hashInt 12)
    (hh13 : h13 = hashInt 13)
    (hh14 : h14 = hashInt 14)
    (hh15 : h15 = hashInt 15)
    (hh16 : h16 = hashInt 16)
    (hh17 : h17 = hashInt 17)
    : ∃ fd : FuncData, (∀ (s : Shared) (us : List Value), us.length = (["calls"] : List Str).length → BindsTo s fd ⟨us, []⟩ ((["calls"] : List Str).zip us)) ∧ ∀ base : Heap, K.In base → base.Ns mainGlobals mg → FnOk P w K mg base CX0 12 fa fd ["calls"] (spAns K) := by
  have e := hfa.symm.trans (PySem.W.mg_of X G a_answers)
  cases e
  let C : Cs := ⟨C_msg, C_mem, C_room, C_house, C_place, C_street, C_tape, C_refused⟩
  have T : Txt K mg C := {
    b_len := PySem.W.mg_none_of X G z_len,
    b_range := PySem.W.mg_none_of X G z_range,
    b_enumerate := PySem.W.mg_none_of X G z_enumerate,
    b_max := PySem.W.mg_none_of X G z_max,
    b_int := PySem.W.mg_none_of X G z_int,
    b_list := PySem.W.mg_none_of X G z_list,
    b_tuple := PySem.W.mg_none_of X G z_tuple,
    k_MOST_TEXT := ⟨_, PySem.W.mg_of X G v_MOST_TEXT⟩,
    k_MOST_WORD := ⟨_, PySem.W.mg_of X G v_MOST_WORD⟩,
    k_SMALLER := ⟨_, PySem.W.mg_of X G v_SMALLER⟩,
    k_PEOPLE := ⟨_, PySem.W.mg_of X G v_PEOPLE⟩,
    k_MOST_FOUNDED := ⟨_, PySem.W.mg_of X G v_MOST_FOUNDED⟩,
    k_KINDS := ⟨_, PySem.W.mg_of X G v_KINDS⟩,
    k_WRONG := ⟨_, PySem.W.mg_of X G v_WRONG⟩,
    k_NO_ROOM := ⟨_, PySem.W.mg_of X G v_NO_ROOM⟩,
    k_NO_KEEPER := ⟨_, PySem.W.mg_of X G v_NO_KEEPER⟩,
    k_ALREADY := ⟨_, PySem.W.mg_of X G v_ALREADY⟩,
    k_FULL := ⟨_, PySem.W.mg_of X G v_FULL⟩,
    k_NO_SUCH := ⟨_, PySem.W.mg_of X G v_NO_SUCH⟩,
    k_MOST_PEOPLE := ⟨_, PySem.W.mg_of X G v_MOST_PEOPLE⟩,
    k_MOST_MESSAGES := ⟨_, PySem.W.mg_of X G v_MOST_MESSAGES⟩,
    k_MOST_CHANGES := ⟨_, PySem.W.mg_of X G v_MOST_CHANGES⟩,
    k_MOST_KIND := ⟨_, PySem.W.mg_of X G v_MOST_KIND⟩,
    k_BEGIN := ⟨_, PySem.W.mg_of X G v_BEGIN⟩,
    c_msg := ⟨pg_msg, hd_msg, po_msg, sa_msg⟩,
    n_msg_who := n_msg_who,
    n_msg_text := n_msg_text,
    n_msg_answered := n_msg_answered,
    n_msg_many_changed := n_msg_many_changed,
    n_msg_marks := n_msg_marks,
    n_msg_is_gone := n_msg_is_gone,
    c_mem := ⟨pg_mem, hd_mem, po_mem, sa_mem⟩,
    n_mem_who := n_mem_who,
    n_mem_is_keeper := n_mem_is_keeper,
    n_mem_start := n_mem_start,
    n_mem_behind_read := n_mem_behind_read,
    c_room := ⟨pg_room, hd_room, po_room, sa_room⟩,
    n_room_past := n_room_past,
    n_room_members := n_room_members,
    n_room_invited := n_room_invited,
    n_room_messages := n_room_messages,
    c_house := ⟨pg_house, hd_house, po_house, sa_house⟩,
    n_house_founded := n_house_founded,
    c_place := ⟨pg_place, hd_place, po_place, sa_place⟩,
    n_place_room := n_place_room,
    n_place_member := n_place_member,
    c_street := ⟨pg_street, hd_street, po_street, sa_street⟩,
    n_street_house := n_street_house,
    c_tape := ⟨pg_tape, hd_tape, po_tape, sa_tape⟩,
    n_tape_numbers := n_tape_numbers,
    n_tape_at := n_tape_at,
    g_refused := PySem.W.mg_of X G aC_refused,
    x_refused := ⟨⟨_, _, _, _, _, _, _, _, _, _, _, _, _, _, _, xR, by decide +kernel⟩, saR, eR, tR, kR⟩,
    f_refused := ⟨gaR, ggR, eR, hR⟩,
    n_refused := nR,
    e_refused := exm_self eR iR tR sR }
  have D : AllDefs K mg C := {
    d_is_text := ⟨_, _, fun_mk (st := s_is_text) l_is_text c_is_text k_is_text, PySem.W.mg_of X G a_is_text⟩,
    d_is_great_letter := ⟨_, _, fun_mk (st := s_is_great_letter) l_is_great_letter c_is_great_letter k_is_great_letter, PySem.W.mg_of X G a_is_great_letter⟩,
    d_is_of_word := ⟨_, _, fun_mk (st := s_is_of_word) l_is_of_word c_is_of_word k_is_of_word, PySem.W.mg_of X G a_is_of_word⟩,
    d_small := ⟨_, _, fun_mk (st := s_small) l_small c_small k_small, PySem.W.mg_of X G a_small⟩,
    d_is_word := ⟨_, _, fun_mk (st := s_is_word) l_is_word c_is_word k_is_word, PySem.W.mg_of X G a_is_word⟩,
    d_small_word := ⟨_, _, fun_mk (st := s_small_word) l_small_word c_small_word k_small_word, PySem.W.mg_of X G a_small_word⟩,
    d_words_of := ⟨_, _, fun_mk (st := s_words_of) l_words_of c_words_of k_words_of, PySem.W.mg_of X G a_words_of⟩,
    d_Message_init := ⟨_, _, fun_mk (st := s_Message_init) l_Message_init c_Message_init k_Message_init, ⟨mk_msg, a_Message_init, i_Message_init, kc_msg⟩, PySem.W.mg_of X G aC_msg⟩,
    d_Member_init := ⟨_, _, fun_mk (st := s_Member_init) l_Member_init c_Member_init k_Member_init, ⟨mk_mem, a_Member_init, i_Member_init, kc_mem⟩, PySem.W.mg_of X G aC_mem⟩,
    d_Room_init := ⟨_, _, fun_mk (st := s_Room_init) l_Room_init c_Room_init k_Room_init, ⟨mk_room, a_Room_init, i_Room_init, kc_room⟩, PySem.W.mg_of X G aC_room⟩,
    d_House_init := ⟨_, _, fun_mk (st := s_House_init) l_House_init c_House_init k_House_init, ⟨mk_house, a_House_init, i_House_init, kc_house⟩, PySem.W.mg_of X G aC_house⟩,
    d_room_at := ⟨_, _, fun_mk (st := s_room_at) l_room_at c_room_at k_room_at, PySem.W.mg_of X G a_room_at⟩,
    d_all_rooms := ⟨_, _, fun_mk (st := s_all_rooms) l_all_rooms c_all_rooms k_all_rooms, PySem.W.mg_of X G a_all_rooms⟩,
    d_member_of := ⟨_, _, fun_mk (st := s_member_of) l_member_of c_member_of k_member_of, PySem.W.mg_of X G a_member_of⟩,
    d_is_known := ⟨_, _, fun_mk (st := s_is_known) l_is_known c_is_known k_is_known, PySem.W.mg_of X G a_is_known⟩,
    d_has_keeper := ⟨_, _, fun_mk (st := s_has_keeper) l_has_keeper c_has_keeper k_has_keeper, PySem.W.mg_of X G a_has_keeper⟩,
    d_take_out := ⟨_, _, fun_mk (st := s_take_out) l_take_out c_take_out k_take_out, PySem.W.mg_of X G a_take_out⟩,
    d_join := ⟨_, _, fun_mk (st := s_join) l_join c_join k_join, PySem.W.mg_of X G a_join⟩,
    d_message_seen := ⟨_, _, fun_mk (st := s_message_seen) l_message_seen c_message_seen k_message_seen, PySem.W.mg_of X G a_message_seen⟩,
    d_message_there := ⟨_, _, fun_mk (st := s_message_there) l_message_there c_message_there k_message_there, PySem.W.mg_of X G a_message_there⟩,
    d_remove := ⟨_, _, fun_mk (st := s_remove) l_remove c_remove k_remove, PySem.W.mg_of X G a_remove⟩,
    d_turn_mark := ⟨_, _, fun_mk (st := s_turn_mark) l_turn_mark c_turn_mark k_turn_mark, PySem.W.mg_of X G a_turn_mark⟩,
    d_many_marks := ⟨_, _, fun_mk (st := s_many_marks) l_many_marks c_many_marks k_many_marks, PySem.W.mg_of X G a_many_marks⟩,
    d_many_unread := ⟨_, _, fun_mk (st := s_many_unread) l_many_unread c_many_unread k_many_unread, PySem.W.mg_of X G a_many_unread⟩,
    d_places_of := ⟨_, _, fun_mk (st := s_places_of) l_places_of c_places_of k_places_of, PySem.W.mg_of X G a_places_of⟩,
    d_Refused_init := ⟨_, _, fun_mk (st := s_Refused_init) l_Refused_init c_Refused_init k_Refused_init, a_Refused_init, i_Refused_init⟩,
    d_ask := ⟨_, _, fun_mk (st := s_ask) l_ask c_ask k_ask, PySem.W.mg_of X G a_ask⟩,
    d_ask_person := ⟨_, _, fun_mk (st := s_ask_person) l_ask_person c_ask_person k_ask_person, PySem.W.mg_of X G a_ask_person⟩,
    d_ask_flag := ⟨_, _, fun_mk (st := s_ask_flag) l_ask_flag c_ask_flag k_ask_flag, PySem.W.mg_of X G a_ask_flag⟩,
    d_Place_init := ⟨_, _, fun_mk (st := s_Place_init) l_Place_init c_Place_init k_Place_init, ⟨mk_place, a_Place_init, i_Place_init, kc_place⟩, PySem.W.mg_of X G aC_place⟩,
    d_Place_ask_keeper := ⟨_, _, fun_mk (st := s_Place_ask_keeper) l_Place_ask_keeper c_Place_ask_keeper k_Place_ask_keeper, ⟨a_Place_ask_keeper, i_Place_ask_keeper, k_Place_ask_keeper⟩⟩,
    d_Place_ask_there := ⟨_, _, fun_mk (st := s_Place_ask_there) l_Place_ask_there c_Place_ask_there k_Place_ask_there, ⟨a_Place_ask_there, i_Place_ask_there, k_Place_ask_there⟩⟩,
    d_Place_ask_seen := ⟨_, _, fun_mk (st := s_Place_ask_seen) l_Place_ask_seen c_Place_ask_seen k_Place_ask_seen, ⟨a_Place_ask_seen, i_Place_ask_seen, k_Place_ask_seen⟩⟩,
    d_do_found := ⟨_, _, fun_mk (st := s_do_found) l_do_found c_do_found k_do_found, PySem.W.mg_of X G a_do_found⟩,
    d_do_invite := ⟨_, _, fun_mk (st := s_do_invite) l_do_invite c_do_invite k_do_invite, PySem.W.mg_of X G a_do_invite⟩,
    d_do_join := ⟨_, _, fun_mk (st := s_do_join) l_do_join c_do_join k_do_join, PySem.W.mg_of X G a_do_join⟩,
    d_do_leave := ⟨_, _, fun_mk (st := s_do_leave) l_do_leave c_do_leave k_do_leave, PySem.W.mg_of X G a_do_leave⟩,
    d_do_out := ⟨_, _, fun_mk (st := s_do_out) l_do_out c_do_out k_do_out, PySem.W.mg_of X G a_do_out⟩,
    d_do_lift := ⟨_, _, fun_mk (st := s_do_lift) l_do_lift c_do_lift k_do_lift, PySem.W.mg_of X G a_do_lift⟩,
    d_do_past := ⟨_, _, fun_mk (st := s_do_past) l_do_past c_do_past k_do_past, PySem.W.mg_of X G a_do_past⟩,
    d_do_say := ⟨_, _, fun_mk (st := s_do_say) l_do_say c_do_say k_do_say, PySem.W.mg_of X G a_do_say⟩,
    d_do_change := ⟨_, _, fun_mk (st := s_do_change) l_do_change c_do_change k_do_change, PySem.W.mg_of X G a_do_change⟩,
    d_do_remove := ⟨_, _, fun_mk (st := s_do_remove) l_do_remove c_do_remove k_do_remove, PySem.W.mg_of X G a_do_remove⟩,
    d_do_mark := ⟨_, _, fun_mk (st := s_do_mark) l_do_mark c_do_mark k_do_mark, PySem.W.mg_of X G a_do_mark⟩,
    d_do_seen := ⟨_, _, fun_mk (st := s_do_seen) l_do_seen c_do_seen k_do_seen, PySem.W.mg_of X G a_do_seen⟩,
    d_do_read := ⟨_, _, fun_mk (st := s_do_read) l_do_read c_do_read k_do_read, PySem.W.mg_of X G a_do_read⟩,
    d_do_unread := ⟨_, _, fun_mk (st := s_do_unread) l_do_unread c_do_unread k_do_unread, PySem.W.mg_of X G a_do_unread⟩,
    d_kth := ⟨_, _, fun_mk (st := s_kth) l_kth c_kth k_kth, PySem.W.mg_of X G a_kth⟩,
    d_do_rooms := ⟨_, _, fun_mk (st := s_do_rooms) l_do_rooms c_do_rooms k_do_rooms, PySem.W.mg_of X G a_do_rooms⟩,
    d_do_people := ⟨_, _, fun_mk (st := s_do_people) l_do_people c_do_people k_do_people, PySem.W.mg_of X G a_do_people⟩,
    d_do_find := ⟨_, _, fun_mk (st := s_do_find) l_do_find c_do_find k_do_find, PySem.W.mg_of X G a_do_find⟩,
    d_Street_init := ⟨_, _, fun_mk (st := s_Street_init) l_Street_init c_Street_init k_Street_init, ⟨mk_street, a_Street_init, i_Street_init, kc_street⟩, PySem.W.mg_of X G aC_street⟩,
    d_Tape_init := ⟨_, _, fun_mk (st := s_Tape_init) l_Tape_init c_Tape_init k_Tape_init, ⟨mk_tape, a_Tape_init, i_Tape_init, kc_tape⟩, PySem.W.mg_of X G aC_tape⟩,
    d_Tape_is_done := ⟨_, _, fun_mk (st := s_Tape_is_done) l_Tape_is_done c_Tape_is_done k_Tape_is_done, ⟨a_Tape_is_done, i_Tape_is_done, k_Tape_is_done⟩⟩,
    d_Tape_take_one := ⟨_, _, fun_mk (st := s_Tape_take_one) l_Tape_take_one c_Tape_take_one k_Tape_take_one, ⟨a_Tape_take_one, i_Tape_take_one, k_Tape_take_one⟩⟩,
    d_Tape_take_many := ⟨_, _, fun_mk (st := s_Tape_take_many) l_Tape_take_many c_Tape_take_many k_Tape_take_many, ⟨a_Tape_take_many, i_Tape_take_many, k_Tape_take_many⟩⟩,
    d_Tape_take_row := ⟨_, _, fun_mk (st := s_Tape_take_row) l_Tape_take_row c_Tape_take_row k_Tape_take_row, ⟨a_Tape_take_row, i_Tape_take_row, k_Tape_take_row⟩⟩,
    d_answer := ⟨_, _, fun_mk (st := s_answer) l_answer c_answer k_answer, PySem.W.mg_of X G a_answer⟩ }
  have hkeys : ∀ e ∈ (#[⟨h1, .int 1 t1, .ref T1⟩, ⟨h2, .int 2 t2, .ref T2⟩, ⟨h3, .int 3 t3, .ref T3⟩, ⟨h4, .int 4 t4, .ref T4⟩, ⟨h5, .int 5 t5, .ref T5⟩, ⟨h6, .int 6 t6, .ref T6⟩, ⟨h7, .int 7 t7, .ref T7⟩, ⟨h8, .int 8 t8, .ref T8⟩, ⟨h9, .int 9 t9, .ref T9⟩, ⟨h10, .int 10 t10, .ref T10⟩, ⟨h11, .int 11 t11, .ref T11⟩, ⟨h12, .int 12 t12, .ref T12⟩, ⟨h13, .int 13 t13, .ref T13⟩, ⟨h14, .int 14 t14, .ref T14⟩, ⟨h15, .int 15 t15, .ref T15⟩, ⟨h16, .int 16 t16, .ref T16⟩, ⟨h17, .int 17 t17, .ref T17⟩] : Array DictEntry), ∃ (k : Int) (t : Tok), e.key = .int k t ∧ e.hash = hashInt k := by
    intro e he
    simp only [List.mem_toArray, List.mem_cons, List.not_mem_nil, or_false] at he
    rcases he with rfl | rfl | rfl | rfl | rfl | rfl | rfl | rfl | rfl | rfl | rfl | rfl | rfl | rfl | rfl | rfl | rfl
    · exact ⟨_, _, rfl, hh1⟩
    · exact ⟨_, _, rfl, hh2⟩
    · exact ⟨_, _, rfl, hh3⟩
    · exact ⟨_, _, rfl, hh4⟩
    · exact ⟨_, _, rfl, hh5⟩
    · exact ⟨_, _, rfl, hh6⟩
    · exact ⟨_, _, rfl, hh7⟩
    · exact ⟨_, _, rfl, hh8⟩
    · exact ⟨_, _, rfl, hh9⟩
    · exact ⟨_, _, rfl, hh10⟩
    · exact ⟨_, _, rfl, hh11⟩
    · exact ⟨_, _, rfl, hh12⟩
    · exact ⟨_, _, rfl, hh13⟩
    · exact ⟨_, _, rfl, hh14⟩
    · exact ⟨_, _, rfl, hh15⟩
    · exact ⟨_, _, rfl, hh16⟩
    · exact ⟨_, _, rfl, hh17⟩
  have find : ∀ j u, findBy Value.isInt (#[⟨h1, .int 1 t1, .ref T1⟩, ⟨h2, .int 2 t2, .ref T2⟩, ⟨h3, .int 3 t3, .ref T3⟩, ⟨h4, .int 4 t4, .ref T4⟩, ⟨h5, .int 5 t5, .ref T5⟩, ⟨h6, .int 6 t6, .ref T6⟩, ⟨h7, .int 7 t7, .ref T7⟩, ⟨h8, .int 8 t8, .ref T8⟩, ⟨h9, .int 9 t9, .ref T9⟩, ⟨h10, .int 10 t10, .ref T10⟩, ⟨h11, .int 11 t11, .ref T11⟩, ⟨h12, .int 12 t12, .ref T12⟩, ⟨h13, .int 13 t13, .ref T13⟩, ⟨h14, .int 14 t14, .ref T14⟩, ⟨h15, .int 15 t15, .ref T15⟩, ⟨h16, .int 16 t16, .ref T16⟩, ⟨h17, .int 17 t17, .ref T17⟩] : Array DictEntry) j = u ↔ (List.find? (fun e => Value.isInt j e.key) ([⟨h1, .int 1 t1, .ref T1⟩, ⟨h2, .int 2 t2, .ref T2⟩, ⟨h3, .int 3 t3, .ref T3⟩, ⟨h4, .int 4 t4, .ref T4⟩, ⟨h5, .int 5 t5, .ref T5⟩, ⟨h6, .int 6 t6, .ref T6⟩, ⟨h7, .int 7 t7, .ref T7⟩, ⟨h8, .int 8 t8, .ref T8⟩, ⟨h9, .int 9 t9, .ref T9⟩, ⟨h10, .int 10 t10, .ref T10⟩, ⟨h11, .int 11 t11, .ref T11⟩, ⟨h12, .int 12 t12, .ref T12⟩, ⟨h13, .int 13 t13, .ref T13⟩, ⟨h14, .int 14 t14, .ref T14⟩, ⟨h15, .int 15 t15, .ref T15⟩, ⟨h16, .int 16 t16, .ref T16⟩, ⟨h17, .int 17 t17, .ref T17⟩] : List DictEntry)).map (·.val) = u := by
    intro j u
    unfold findBy
    rw [List.find?_toArray]
  have DT : DeedsTab K mg := by
    refine ⟨fD, PySem.W.mg_of X G aD, upto17 ⟨?_, ?_, ?_, ?_, ?_, ?_, ?_, ?_, ?_, ?_, ?_, ?_, ?_, ?_, ?_, ?_, ?_⟩⟩
    · exact ⟨T1, f_do_found, ⟨_, _, _, lD, hkeys, (find _ _).mpr rfl, rfl⟩, fun H => .inr ⟨_, _, _, lT1, rfl, rfl, by show 3 ≤ sizeLine; exact line_le (by decide), .cons ⟨_, rfl⟩ (.cons rfl (.cons rfl .nil))⟩, PySem.W.mg_of X G a_do_found⟩
    · exact ⟨T2, f_do_invite, ⟨_, _, _, lD, hkeys, (find _ _).mpr rfl, rfl⟩, fun H => .inr ⟨_, _, _, lT2, rfl, rfl, by show 3 ≤ sizeLine; exact line_le (by decide), .cons ⟨_, rfl⟩ (.cons rfl (.cons rfl .nil))⟩, PySem.W.mg_of X G a_do_invite⟩
    · exact ⟨T3, f_do_join, ⟨_, _, _, lD, hkeys, (find _ _).mpr rfl, rfl⟩, fun H => .inr ⟨_, _, _, lT3, rfl, rfl, by show 3 ≤ sizeLine; exact line_le (by decide), .cons ⟨_, rfl⟩ (.cons rfl (.cons rfl .nil))⟩, PySem.W.mg_of X G a_do_join⟩
    · exact ⟨T4, f_do_leave, ⟨_, _, _, lD, hkeys, (find _ _).mpr rfl, rfl⟩, fun H => .inr ⟨_, _, _, lT4, rfl, rfl, by show 3 ≤ sizeLine; exact line_le (by decide), .cons ⟨_, rfl⟩ (.cons rfl (.cons rfl .nil))⟩, PySem.W.mg_of X G a_do_leave⟩
    · exact ⟨T5, f_do_out, ⟨_, _, _, lD, hkeys, (find _ _).mpr rfl, rfl⟩, fun H => .inr ⟨_, _, _, lT5, rfl, rfl, by show 3 ≤ sizeLine; exact line_le (by decide), .cons ⟨_, rfl⟩ (.cons rfl (.cons rfl .nil))⟩, PySem.W.mg_of X G a_do_out⟩
    · exact ⟨T6, f_do_lift, ⟨_, _, _, lD, hkeys, (find _ _).mpr rfl, rfl⟩, fun H => .inr ⟨_, _, _, lT6, rfl, rfl, by show 3 ≤ sizeLine; exact line_le (by decide), .cons ⟨_, rfl⟩ (.cons rfl (.cons rfl .nil))⟩, PySem.W.mg_of X G a_do_lift⟩
    · exact ⟨T7, f_do_past, ⟨_, _, _, lD, hkeys, (find _ _).mpr rfl, rfl⟩, fun H => .inr ⟨_, _, _, lT7, rfl, rfl, by show 3 ≤ sizeLine; exact line_le (by decide), .cons ⟨_, rfl⟩ (.cons rfl (.cons rfl .nil))⟩, PySem.W.mg_of X G a_do_past⟩
    · exact ⟨T8, f_do_say, ⟨_, _, _, lD, hkeys, (find _ _).mpr rfl, rfl⟩, fun H => .inr ⟨_, _, _, lT8, rfl, rfl, by show 3 ≤ sizeLine; exact line_le (by decide), .cons ⟨_, rfl⟩ (.cons rfl (.cons rfl .nil))⟩, PySem.W.mg_of X G a_do_say⟩
    · exact ⟨T9, f_do_change, ⟨_, _, _, lD, hkeys, (find _ _).mpr rfl, rfl⟩, fun H => .inr ⟨_, _, _, lT9, rfl, rfl, by show 3 ≤ sizeLine; exact line_le (by decide), .cons ⟨_, rfl⟩ (.cons rfl (.cons rfl .nil))⟩, PySem.W.mg_of X G a_do_change⟩
    · exact ⟨T10, f_do_remove, ⟨_, _, _, lD, hkeys, (find _ _).mpr rfl, rfl⟩, fun H => .inr ⟨_, _, _, lT10, rfl, rfl, by show 3 ≤ sizeLine; exact line_le (by decide), .cons ⟨_, rfl⟩ (.cons rfl (.cons rfl .nil))⟩, PySem.W.mg_of X G a_do_remove⟩
    · exact ⟨T11, f_do_mark, ⟨_, _, _, lD, hkeys, (find _ _).mpr rfl, rfl⟩, fun H => .inr ⟨_, _, _, lT11, rfl, rfl, by show 3 ≤ sizeLine; exact line_le (by decide), .cons ⟨_, rfl⟩ (.cons rfl (.cons rfl .nil))⟩, PySem.W.mg_of X G a_do_mark⟩
    · exact ⟨T12, f_do_seen, ⟨_, _, _, lD, hkeys, (find _ _).mpr rfl, rfl⟩, fun H => .inr ⟨_, _, _, lT12, rfl, rfl, by show 3 ≤ sizeLine; exact line_le (by decide), .cons ⟨_, rfl⟩ (.cons rfl (.cons rfl .nil))⟩, PySem.W.mg_of X G a_do_seen⟩
    · exact ⟨T13, f_do_read, ⟨_, _, _, lD, hkeys, (find _ _).mpr rfl, rfl⟩, fun H => .inr ⟨_, _, _, lT13, rfl, rfl, by show 3 ≤ sizeLine; exact line_le (by decide), .cons ⟨_, rfl⟩ (.cons rfl (.cons rfl .nil))⟩, PySem.W.mg_of X G a_do_read⟩
    · exact ⟨T14, f_do_unread, ⟨_, _, _, lD, hkeys, (find _ _).mpr rfl, rfl⟩, fun H => .inr ⟨_, _, _, lT14, rfl, rfl, by show 3 ≤ sizeLine; exact line_le (by decide), .cons ⟨_, rfl⟩ (.cons rfl (.cons rfl .nil))⟩, PySem.W.mg_of X G a_do_unread⟩
    · exact ⟨T15, f_do_rooms, ⟨_, _, _, lD, hkeys, (find _ _).mpr rfl, rfl⟩, fun H => .inr ⟨_, _, _, lT15, rfl, rfl, by show 3 ≤ sizeLine; exact line_le (by decide), .cons ⟨_, rfl⟩ (.cons rfl (.cons rfl .nil))⟩, PySem.W.mg_of X G a_do_rooms⟩
    · exact ⟨T16, f_do_people, ⟨_, _, _, lD, hkeys, (find _ _).mpr rfl, rfl⟩, fun H => .inr ⟨_, _, _, lT16, rfl, rfl, by show 3 ≤ sizeLine; exact line_le (by decide), .cons ⟨_, rfl⟩ (.cons rfl (.cons rfl .nil))⟩, PySem.W.mg_of X G a_do_people⟩
    · exact ⟨T17, f_do_find, ⟨_, _, _, lD, hkeys, (find _ _).mpr rfl, rfl⟩, fun H => .inr ⟨_, _, _, lT17, rfl, rfl, by show 3 ≤ sizeLine; exact line_le (by decide), .cons ⟨_, rfl⟩ (.cons rfl (.cons rfl .nil))⟩, PySem.W.mg_of X G a_do_find⟩
  exact ⟨PySem.W.fnOf "answers" "answers" (defArgs s_answers) (defBody s_answers) (defScope s_answers) .none kV_answers dc_answers pm_answers an_answers cd_answers ct_answers, fun s us hu => match us, hu with | [_], _ => .of_eq rfl, fun base _ _ => all_ok (fun_mk (st := s_answers) l_answers c_answers k_answers) T D DT⟩
end Tr
open PySem PySem.W PyProof.Rows
set_option maxRecDepth 100000 in
set_option maxHeartbeats 0 in
theorem PySem.Challenge.cw_talkrooms_s01_answers_holds : PySem.Challenge.rw_talkrooms_s01_answers.Holds := by
  w_on; k_headS; (case hw => exact ⟨[.list [.int 0]], by decide +kernel, by decide +kernel⟩)
  k_fillS
  refine L2.walk_specK (r := PySem.Challenge.rw_talkrooms_s01_answers) (k := 12) (CX := L2.CX0) (ps := ["calls"]) (sp := Tr.spAns) (by decide +kernel) rfl rfl ⟨rfl, by decide, by decide⟩ (fun w h Y => PySem.W.kIn_of Y) ?F ?S (fun _ _ _ _ z => z)
  case F =>
    intro w mg fa h Y KX G hmg
    refine' Tr.all_mk KX G hmg ?z_len ?z_range ?z_enumerate ?z_max ?z_int ?z_list ?z_tuple ?v_MOST_TEXT ?v_MOST_WORD ?v_SMALLER ?v_PEOPLE ?v_MOST_FOUNDED ?v_KINDS ?v_WRONG ?v_NO_ROOM ?v_NO_KEEPER ?v_ALREADY ?v_FULL ?v_NO_SUCH ?v_MOST_PEOPLE ?v_MOST_MESSAGES ?v_MOST_CHANGES ?v_MOST_KIND ?v_BEGIN ?aC_msg ?aC_mem ?aC_room ?aC_house ?aC_place ?aC_street ?aC_tape ?aC_refused ?pg_msg ?hd_msg ?po_msg ?sa_msg ?mk_msg ?kc_msg ?n_msg_who ?n_msg_text ?n_msg_answered ?n_msg_many_changed ?n_msg_marks ?n_msg_is_gone ?pg_mem ?hd_mem ?po_mem ?sa_mem ?mk_mem ?kc_mem ?n_mem_who ?n_mem_is_keeper ?n_mem_start ?n_mem_behind_read ?pg_room ?hd_room ?po_room ?sa_room ?mk_room ?kc_room ?n_room_past ?n_room_members ?n_room_invited ?n_room_messages ?pg_house ?hd_house ?po_house ?sa_house ?mk_house ?kc_house ?n_house_founded ?pg_place ?hd_place ?po_place ?sa_place ?mk_place ?kc_place ?n_place_room ?n_place_member ?pg_street ?hd_street ?po_street ?sa_street ?mk_street ?kc_street ?n_street_house ?pg_tape ?hd_tape ?po_tape ?sa_tape ?mk_tape ?kc_tape ?n_tape_numbers ?n_tape_at ?xR ?saR ?gaR ?ggR ?nR ?kR ?eR ?tR ?hR ?iR ?sR ?a_is_text ?l_is_text ?c_is_text ?k_is_text ?a_is_great_letter ?l_is_great_letter ?c_is_great_letter ?k_is_great_letter ?a_is_of_word ?l_is_of_word ?c_is_of_word ?k_is_of_word ?a_small ?l_small ?c_small ?k_small ?a_is_word ?l_is_word ?c_is_word ?k_is_word ?a_small_word ?l_small_word ?c_small_word ?k_small_word ?a_words_of ?l_words_of ?c_words_of ?k_words_of ?a_Message_init ?i_Message_init ?l_Message_init ?c_Message_init ?k_Message_init ?a_Member_init ?i_Member_init ?l_Member_init ?c_Member_init ?k_Member_init ?a_Room_init ?i_Room_init ?l_Room_init ?c_Room_init ?k_Room_init ?a_House_init ?i_House_init ?l_House_init ?c_House_init ?k_House_init ?a_room_at ?l_room_at ?c_room_at ?k_room_at ?a_all_rooms ?l_all_rooms ?c_all_rooms ?k_all_rooms ?a_member_of ?l_member_of ?c_member_of ?k_member_of ?a_is_known ?l_is_known ?c_is_known ?k_is_known ?a_has_keeper ?l_has_keeper ?c_has_keeper ?k_has_keeper ?a_take_out ?l_take_out ?c_take_out ?k_take_out ?a_join ?l_join ?c_join ?k_join ?a_message_seen ?l_message_seen ?c_message_seen ?k_message_seen ?a_message_there ?l_message_there ?c_message_there ?k_message_there ?a_remove ?l_remove ?c_remove ?k_remove ?a_turn_mark ?l_turn_mark ?c_turn_mark ?k_turn_mark ?a_many_marks ?l_many_marks ?c_many_marks ?k_many_marks ?a_many_unread ?l_many_unread ?c_many_unread ?k_many_unread ?a_places_of ?l_places_of ?c_places_of ?k_places_of ?a_Refused_init ?i_Refused_init ?l_Refused_init ?c_Refused_init ?k_Refused_init ?a_ask ?l_ask ?c_ask ?k_ask ?a_ask_person ?l_ask_person ?c_ask_person ?k_ask_person ?a_ask_flag ?l_ask_flag ?c_ask_flag ?k_ask_flag ?a_Place_init ?i_Place_init ?l_Place_init ?c_Place_init ?k_Place_init ?a_Place_ask_keeper ?i_Place_ask_keeper ?l_Place_ask_keeper ?c_Place_ask_keeper ?k_Place_ask_keeper ?a_Place_ask_there ?i_Place_ask_there ?l_Place_ask_there ?c_Place_ask_there ?k_Place_ask_there ?a_Place_ask_seen ?i_Place_ask_seen ?l_Place_ask_seen ?c_Place_ask_seen ?k_Place_ask_seen ?a_do_found ?l_do_found ?c_do_found ?k_do_found ?a_do_invite ?l_do_invite ?c_do_invite ?k_do_invite ?a_do_join ?l_do_join ?c_do_join ?k_do_join ?a_do_leave ?l_do_leave ?c_do_leave ?k_do_leave ?a_do_out ?l_do_out ?c_do_out ?k_do_out ?a_do_lift ?l_do_lift ?c_do_lift ?k_do_lift ?a_do_past ?l_do_past ?c_do_past ?k_do_past ?a_do_say ?l_do_say ?c_do_say ?k_do_say ?a_do_change ?l_do_change ?c_do_change ?k_do_change ?a_do_remove ?l_do_remove ?c_do_remove ?k_do_remove ?a_do_mark ?l_do_mark ?c_do_mark ?k_do_mark ?a_do_seen ?l_do_seen ?c_do_seen ?k_do_seen ?a_do_read ?l_do_read ?c_do_read ?k_do_read ?a_do_unread ?l_do_unread ?c_do_unread ?k_do_unread ?a_kth ?l_kth ?c_kth ?k_kth ?a_do_rooms ?l_do_rooms ?c_do_rooms ?k_do_rooms ?a_do_people ?l_do_people ?c_do_people ?k_do_people ?a_do_find ?l_do_find ?c_do_find ?k_do_find ?a_Street_init ?i_Street_init ?l_Street_init ?c_Street_init ?k_Street_init ?a_Tape_init ?i_Tape_init ?l_Tape_init ?c_Tape_init ?k_Tape_init ?a_Tape_is_done ?i_Tape_is_done ?l_Tape_is_done ?c_Tape_is_done ?k_Tape_is_done ?a_Tape_take_one ?i_Tape_take_one ?l_Tape_take_one ?c_Tape_take_one ?k_Tape_take_one ?a_Tape_take_many ?i_Tape_take_many ?l_Tape_take_many ?c_Tape_take_many ?k_Tape_take_many ?a_Tape_take_row ?i_Tape_take_row ?l_Tape_take_row ?c_Tape_take_row ?k_Tape_take_row ?a_answer ?l_answer ?c_answer ?k_answer ?a_answers ?l_answers ?c_answers ?k_answers ?aD ?lD ?lT1 ?lT2 ?lT3 ?lT4 ?lT5 ?lT6 ?lT7 ?lT8 ?lT9 ?lT10 ?lT11 ?lT12 ?lT13 ?lT14 ?lT15 ?lT16 ?lT17 ?hh1 ?hh2 ?hh3 ?hh4 ?hh5 ?hh6 ?hh7 ?hh8 ?hh9 ?hh10 ?hh11 ?hh12 ?hh13 ?hh14 ?hh15 ?hh16 ?hh17
    (case z_len => k_is)
    (case z_range => k_is)
    (case z_enumerate => k_is)
    (case z_max => k_is)
    (case z_int => k_is)
    (case z_list => k_is)
    (case z_tuple => k_is)
    (case v_MOST_TEXT => k_is)
    (case v_MOST_WORD => k_is)
    (case v_SMALLER => k_is)
    (case v_PEOPLE => k_is)
    (case v_MOST_FOUNDED => k_is)
    (case v_KINDS => k_is)
    (case v_WRONG => k_is)
    (case v_NO_ROOM => k_is)
    (case v_NO_KEEPER => k_is)
    (case v_ALREADY => k_is)
    (case v_FULL => k_is)
    (case v_NO_SUCH => k_is)
    (case v_MOST_PEOPLE => k_is)
    (case v_MOST_MESSAGES => k_is)
    (case v_MOST_CHANGES => k_is)
    (case v_MOST_KIND => k_is)
    (case v_BEGIN => k_is)
    (case aC_msg => k_is)
    (case aC_mem => k_is)
    (case aC_room => k_is)
    (case aC_house => k_is)
    (case aC_place => k_is)
    (case aC_street => k_is)
    (case aC_tape => k_is)
    (case aC_refused => k_is)
    (case pg_msg => k_is)
    (case hd_msg => k_is)
    (case po_msg => k_is)
    (case sa_msg => k_is)
    (case mk_msg => k_is)
    (case kc_msg => k_is)
    (case n_msg_who => k_is)
    (case n_msg_text => k_is)
    (case n_msg_answered => k_is)
    (case n_msg_many_changed => k_is)
    (case n_msg_marks => k_is)
    (case n_msg_is_gone => k_is)
    (case pg_mem => k_is)
    (case hd_mem => k_is)
    (case po_mem => k_is)
    (case sa_mem => k_is)
    (case mk_mem => k_is)
    (case kc_mem => k_is)
    (case n_mem_who => k_is)
    (case n_mem_is_keeper => k_is)
    (case n_mem_start => k_is)
    (case n_mem_behind_read => k_is)
    (case pg_room => k_is)
    (case hd_room => k_is)
    (case po_room => k_is)
    (case sa_room => k_is)
    (case mk_room => k_is)
    (case kc_room => k_is)
    (case n_room_past => k_is)
    (case n_room_members => k_is)
    (case n_room_invited => k_is)
    (case n_room_messages => k_is)
    (case pg_house => k_is)
    (case hd_house => k_is)
    (case po_house => k_is)
    (case sa_house => k_is)
    (case mk_house => k_is)
    (case kc_house => k_is)
    (case n_house_founded => k_is)
    (case pg_place => k_is)
    (case hd_place => k_is)
    (case po_place => k_is)
    (case sa_place => k_is)
    (case mk_place => k_is)
    (case kc_place => k_is)
    (case n_place_room => k_is)
    (case n_place_member => k_is)
    (case pg_street => k_is)
    (case hd_street => k_is)
    (case po_street => k_is)
    (case sa_street => k_is)
    (case mk_street => k_is)
    (case kc_street => k_is)
    (case n_street_house => k_is)
    (case pg_tape => k_is)
    (case hd_tape => k_is)
    (case po_tape => k_is)
    (case sa_tape => k_is)
    (case mk_tape => k_is)
    (case kc_tape => k_is)
    (case n_tape_numbers => k_is)
    (case n_tape_at => k_is)
    (case xR => k_is)
    (case saR => k_is)
    (case gaR => k_is)
    (case ggR => k_is)
    (case nR => k_is)
    (case kR => k_is)
    (case eR => k_is)
    (case tR => k_is)
    (case hR => k_is)
    (case iR => k_is)
    (case sR => first | rfl | k_is)
    (case a_is_text => k_is)
    (case l_is_text => k_is)
    (case c_is_text => k_is)
    (case k_is_text => k_is)
    (case a_is_great_letter => k_is)
    (case l_is_great_letter => k_is)
    (case c_is_great_letter => k_is)
    (case k_is_great_letter => k_is)
    (case a_is_of_word => k_is)
    (case l_is_of_word => k_is)
    (case c_is_of_word => k_is)
    (case k_is_of_word => k_is)
    (case a_small => k_is)
    (case l_small => k_is)
    (case c_small => k_is)
    (case k_small => k_is)
    (case a_is_word => k_is)
    (case l_is_word => k_is)
    (case c_is_word => k_is)
    (case k_is_word => k_is)
    (case a_small_word => k_is)
    (case l_small_word => k_is)
    (case c_small_word => k_is)
    (case k_small_word => k_is)
    (case a_words_of => k_is)
    (case l_words_of => k_is)
    (case c_words_of => k_is)
    (case k_words_of => k_is)
    (case a_Message_init => k_is)
    (case i_Message_init => k_is)
    (case l_Message_init => k_is)
    (case c_Message_init => k_is)
    (case k_Message_init => k_is)
    (case a_Member_init => k_is)
    (case i_Member_init => k_is)
    (case l_Member_init => k_is)
    (case c_Member_init => k_is)
    (case k_Member_init => k_is)
    (case a_Room_init => k_is)
    (case i_Room_init => k_is)
    (case l_Room_init => k_is)
    (case c_Room_init => k_is)
    (case k_Room_init => k_is)
    (case a_House_init => k_is)
    (case i_House_init => k_is)
    (case l_House_init => k_is)
    (case c_House_init => k_is)
    (case k_House_init => k_is)
    (case a_room_at => k_is)
    (case l_room_at => k_is)
    (case c_room_at => k_is)
    (case k_room_at => k_is)
    (case a_all_rooms => k_is)
    (case l_all_rooms => k_is)
    (case c_all_rooms => k_is)
    (case k_all_rooms => k_is)
    (case a_member_of => k_is)
    (case l_member_of => k_is)
    (case c_member_of => k_is)
    (case k_member_of => k_is)
    (case a_is_known => k_is)
    (case l_is_known => k_is)
    (case c_is_known => k_is)
    (case k_is_known => k_is)
    (case a_has_keeper => k_is)
    (case l_has_keeper => k_is)
    (case c_has_keeper => k_is)
    (case k_has_keeper => k_is)
    (case a_take_out => k_is)
    (case l_take_out => k_is)
    (case c_take_out => k_is)
    (case k_take_out => k_is)
    (case a_join => k_is)
    (case l_join => k_is)
    (case c_join => k_is)
    (case k_join => k_is)
    (case a_message_seen => k_is)
    (case l_message_seen => k_is)
    (case c_message_seen => k_is)
    (case k_message_seen => k_is)
    (case a_message_there => k_is)
    (case l_message_there => k_is)
    (case c_message_there => k_is)
    (case k_message_there => k_is)
    (case a_remove => k_is)
    (case l_remove => k_is)
    (case c_remove => k_is)
    (case k_remove => k_is)
    (case a_turn_mark => k_is)
    (case l_turn_mark => k_is)
    (case c_turn_mark => k_is)
    (case k_turn_mark => k_is)
    (case a_many_marks => k_is)
    (case l_many_marks => k_is)
    (case c_many_marks => k_is)
    (case k_many_marks => k_is)
    (case a_many_unread => k_is)
    (case l_many_unread => k_is)
    (case c_many_unread => k_is)
    (case k_many_unread => k_is)
    (case a_places_of => k_is)
    (case l_places_of => k_is)
    (case c_places_of => k_is)
    (case k_places_of => k_is)
    (case a_Refused_init => k_is)
    (case i_Refused_init => k_is)
    (case l_Refused_init => k_is)
    (case c_Refused_init => k_is)
    (case k_Refused_init => k_is)
    (case a_ask => k_is)
    (case l_ask => k_is)
    (case c_ask => k_is)
    (case k_ask => k_is)
    (case a_ask_person => k_is)
    (case l_ask_person => k_is)
    (case c_ask_person => k_is)
    (case k_ask_person => k_is)
    (case a_ask_flag => k_is)
    (case l_ask_flag => k_is)
    (case c_ask_flag => k_is)
    (case k_ask_flag => k_is)
    (case a_Place_init => k_is)
    (case i_Place_init => k_is)
    (case l_Place_init => k_is)
    (case c_Place_init => k_is)
    (case k_Place_init => k_is)
    (case a_Place_ask_keeper => k_is)
    (case i_Place_ask_keeper => k_is)
    (case l_Place_ask_keeper => k_is)
    (case c_Place_ask_keeper => k_is)
    (case k_Place_ask_keeper => k_is)
    (case a_Place_ask_there => k_is)
    (case i_Place_ask_there => k_is)
    (case l_Place_ask_there => k_is)
    (case c_Place_ask_there => k_is)
    (case k_Place_ask_there => k_is)
    (case a_Place_ask_seen => k_is)
    (case i_Place_ask_seen => k_is)
    (case l_Place_ask_seen => k_is)
    (case c_Place_ask_seen => k_is)
    (case k_Place_ask_seen => k_is)
    (case a_do_found => k_is)
    (case l_do_found => k_is)
    (case c_do_found => k_is)
    (case k_do_found => k_is)
    (case a_do_invite => k_is)
    (case l_do_invite => k_is)
    (case c_do_invite => k_is)
    (case k_do_invite => k_is)
    (case a_do_join => k_is)
    (case l_do_join => k_is)
    (case c_do_join => k_is)
    (case k_do_join => k_is)
    (case a_do_leave => k_is)
    (case l_do_leave => k_is)
    (case c_do_leave => k_is)
    (case k_do_leave => k_is)
    (case a_do_out => k_is)
    (case l_do_out => k_is)
    (case c_do_out => k_is)
    (case k_do_out => k_is)
    (case a_do_lift => k_is)
    (case l_do_lift => k_is)
    (case c_do_lift => k_is)
    (case k_do_lift => k_is)
    (case a_do_past => k_is)
    (case l_do_past => k_is)
    (case c_do_past => k_is)
    (case k_do_past => k_is)
    (case a_do_say => k_is)
    (case l_do_say => k_is)
    (case c_do_say => k_is)
    (case k_do_say => k_is)
    (case a_do_change => k_is)
    (case l_do_change => k_is)
    (case c_do_change => k_is)
    (case k_do_change => k_is)
    (case a_do_remove => k_is)
    (case l_do_remove => k_is)
    (case c_do_remove => k_is)
    (case k_do_remove => k_is)
    (case a_do_mark => k_is)
    (case l_do_mark => k_is)
    (case c_do_mark => k_is)
    (case k_do_mark => k_is)
    (case a_do_seen => k_is)
    (case l_do_seen => k_is)
    (case c_do_seen => k_is)
    (case k_do_seen => k_is)
    (case a_do_read => k_is)
    (case l_do_read => k_is)
    (case c_do_read => k_is)
    (case k_do_read => k_is)
    (case a_do_unread => k_is)
    (case l_do_unread => k_is)
    (case c_do_unread => k_is)
    (case k_do_unread => k_is)
    (case a_kth => k_is)
    (case l_kth => k_is)
    (case c_kth => k_is)
    (case k_kth => k_is)
    (case a_do_rooms => k_is)
    (case l_do_rooms => k_is)
    (case c_do_rooms => k_is)
    (case k_do_rooms => k_is)
    (case a_do_people => k_is)
    (case l_do_people => k_is)
    (case c_do_people => k_is)
    (case k_do_people => k_is)
    (case a_do_find => k_is)
    (case l_do_find => k_is)
    (case c_do_find => k_is)
    (case k_do_find => k_is)
    (case a_Street_init => k_is)
    (case i_Street_init => k_is)
    (case l_Street_init => k_is)
    (case c_Street_init => k_is)
    (case k_Street_init => k_is)
    (case a_Tape_init => k_is)
    (case i_Tape_init => k_is)
    (case l_Tape_init => k_is)
    (case c_Tape_init => k_is)
    (case k_Tape_init => k_is)
    (case a_Tape_is_done => k_is)
    (case i_Tape_is_done => k_is)
    (case l_Tape_is_done => k_is)
    (case c_Tape_is_done => k_is)
    (case k_Tape_is_done => k_is)
    (case a_Tape_take_one => k_is)
    (case i_Tape_take_one => k_is)
    (case l_Tape_take_one => k_is)
    (case c_Tape_take_one => k_is)
    (case k_Tape_take_one => k_is)
    (case a_Tape_take_many => k_is)
    (case i_Tape_take_many => k_is)
    (case l_Tape_take_many => k_is)
    (case c_Tape_take_many => k_is)
    (case k_Tape_take_many => k_is)
    (case a_Tape_take_row => k_is)
    (case i_Tape_take_row => k_is)
    (case l_Tape_take_row => k_is)
    (case c_Tape_take_row => k_is)
    (case k_Tape_take_row => k_is)
    (case a_answer => k_is)
    (case l_answer => k_is)
    (case c_answer => k_is)
    (case k_answer => k_is)
    (case a_answers => k_is)
    (case l_answers => k_is)
    (case c_answers => k_is)
    (case k_answers => k_is)
    (case aD => k_is)
    (case lD => k_is)
    (case lT1 => k_is)
    (case lT2 => k_is)
    (case lT3 => k_is)
    (case lT4 => k_is)
    (case lT5 => k_is)
    (case lT6 => k_is)
    (case lT7 => k_is)
    (case lT8 => k_is)
    (case lT9 => k_is)
    (case lT10 => k_is)
    (case lT11 => k_is)
    (case lT12 => k_is)
    (case lT13 => k_is)
    (case lT14 => k_is)
    (case lT15 => k_is)
    (case lT16 => k_is)
    (case lT17 => k_is)
    (case hh1 => first | rfl | decide +kernel)
    (case hh2 => first | rfl | decide +kernel)
    (case hh3 => first | rfl | decide +kernel)
    (case hh4 => first | rfl | decide +kernel)
    (case hh5 => first | rfl | decide +kernel)
    (case hh6 => first | rfl | decide +kernel)
    (case hh7 => first | rfl | decide +kernel)
    (case hh8 => first | rfl | decide +kernel)
    (case hh9 => first | rfl | decide +kernel)
    (case hh10 => first | rfl | decide +kernel)
    (case hh11 => first | rfl | decide +kernel)
    (case hh12 => first | rfl | decide +kernel)
    (case hh13 => first | rfl | decide +kernel)
    (case hh14 => first | rfl | decide +kernel)
    (case hh15 => first | rfl | decide +kernel)
    (case hh16 => first | rfl | decide +kernel)
    (case hh17 => first | rfl | decide +kernel)
  case S =>
    intro K H xs a hO hwi hask hx
    cases hx with
    | cons h1 h2 =>
      cases h2
      cases h1 with
      | lst hs ha =>
        have e := L2.ints_dw a.1 _ ha
        subst e
        exact ⟨_, a.1, rfl, hs, hask, fun H' p hp => .lst (L2.SqL.of hp) (L2.dw_ints _)⟩
