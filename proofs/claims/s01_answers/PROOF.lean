import PyProof.Rows.All
import Wide.All
import OpenK.AllK
import Wide.FinOn
import PyProof.EqAt
import PyProof.EqKinds
import PyProof.TupleCall
import PyProof.Rows.SortShell
import KE.KSortTup
import Open.SpecLaws
import KE.OsGo
import HandS.ForSpec
import HandS.ForMost
import HandS.Flow
import HandS.Evl
import HandS.ExcInit
import HandS.ExcField
import HandS.SortOrd
import PySem.Challenge.RW_drivershours_s01_answers
import PyFlatLaws
set_option Elab.async false
set_option linter.all false
set_option maxRecDepth 100000
set_option maxHeartbeats 4000000
/-! The mirror of the program over plain lists of whole numbers, and the mathematics: it is the specification. -/
namespace Dv
/-! ### the mirror -/
structure S where
  kind : Int
  beg : Int
  fin : Int
structure B where
  minute : Int
  rule : Int
  amount : Int
def S.minutes (s : S) : Int := s.fin - s.beg
def S.isRest (s : S) (n : Int) : Bool := decide (s.kind = 0) && decide (n ≤ s.minutes)
def mx (i j : Int) : Int := if j > i then j else i
def mn (i j : Int) : Int := if j < i then j else i
def modLast {α : Type} (f : α → α) : List α → List α
  | [] => []
  | [x] => [f x]
  | x :: y :: l => x :: modLast f (y :: l)
def addS (st : List S × Int) (x : Int × Int) : List S × Int :=
  (match st.1.getLast? with
    | some l => if l.kind = x.1 then modLast (fun l => ⟨l.kind, l.beg, st.2 + x.2⟩) st.1 else st.1 ++ [⟨x.1, st.2, st.2 + x.2⟩]
    | none => st.1 ++ [⟨x.1, st.2, st.2 + x.2⟩], st.2 + x.2)
def stretchesOf (told : List (Int × Int)) : List S := (told.foldl addS ([], 0)).1
def endOf (l : List S) : Int := match l.getLast? with
  | some s => s.fin
  | none => 0
def workAt (l : List S) : Option Nat := l.findIdx? fun s => !decide (s.kind = 0)
def behindWork (l : List S) : List S := match workAt l with
  | some i => l.drop i
  | none => []
def drvIn (b e : Int) (t : Int) (s : S) : Int := if s.kind = 1 then t + mx 0 (mn s.fin e - mx s.beg b) else t
def drivingIn (l : List S) (b e : Int) : Int := l.foldl (drvIn b e) 0
def inWeek (l : List S) (w : Int) : Int := drivingIn l (w * 10080) ((w + 1) * 10080)
structure Br where
  driving : Int
  part : Bool
  minute : Option Int
  br : List B
def Br.fresh : Br := ⟨0, false, none, []⟩
def Br.close (b : Br) : Br := match b.minute with
  | some m => ⟨b.driving, b.part, b.minute, b.br ++ [⟨m, 1, b.driving - 270⟩]⟩
  | none => b
def Br.takeRest (b : Br) (s : S) : Br :=
  if (s.isRest 45 || (b.part && s.isRest 30)) = true then ⟨0, false, none, b.close.br⟩
  else if s.isRest 15 = true then ⟨b.driving, true, b.minute, b.br⟩ else b
def Br.drive (b : Br) (s : S) : Br :=
  ⟨b.driving + s.minutes, b.part, (match b.minute with
    | none => if b.driving + s.minutes > 270 then some (s.beg + 270 - b.driving) else none
    | some m => some m), b.br⟩
def Br.take (b : Br) (s : S) : Br := if s.isRest 0 = true then b.takeRest s else if s.kind = 1 then b.drive s else b
def breaksOf (l : List S) : Br := l.foldl Br.take Br.fresh
def breakB (l : List S) : List B := (breaksOf l).close.br
structure D where
  beg : Int
  driving : Int
  part : Bool
  rest : Option S
def D.counted (d : D) : Int := match d.rest with
  | none => 0
  | some r => mx 0 (mn r.fin (d.beg + 1440) - r.beg)
def D.state (d : D) (e : Int) : Int :=
  if (d.rest.isNone && decide (e - d.beg ≤ 1440)) = true then 3
  else if d.counted < 540 then 2
  else if d.counted ≥ 660 ∨ d.part = true then 0 else 1
def dayStep (st : List D × Bool) (s : S) : List D × Bool :=
  if s.isRest 0 = true then
    (if st.2 = true then
      (if s.isRest 540 = true then (modLast (fun d => ⟨d.beg, d.driving, d.part || (s.isRest 180 && !s.isRest 540), some s⟩) st.1, false)
      else (modLast (fun d => ⟨d.beg, d.driving, d.part || (s.isRest 180 && !s.isRest 540), d.rest⟩) st.1, true))
    else st)
  else
    (if s.kind = 1 then modLast (fun d => ⟨d.beg, d.driving + s.minutes, d.part, d.rest⟩) (if st.2 = true then st.1 else st.1 ++ [⟨s.beg, 0, false, none⟩])
      else (if st.2 = true then st.1 else st.1 ++ [⟨s.beg, 0, false, none⟩]), true)
def daysOf (l : List S) : List D := ((behindWork l).foldl dayStep ([], false)).1
def drvStep (st : List B × (Int → Int)) (d : D) : List B × (Int → Int) :=
  if d.driving > 540 then
    (if d.driving > 600 then st.1 ++ [⟨d.beg, 2, d.driving - 600⟩]
      else if st.2 (d.beg / 10080) + 1 > 2 then st.1 ++ [⟨d.beg, 2, d.driving - 540⟩] else st.1,
      fun k => if k = d.beg / 10080 then st.2 (d.beg / 10080) + 1 else st.2 k)
  else st
def drvB (ds : List D) : List B := (ds.foldl drvStep ([], fun _ => 0)).1
def restStep (e : Int) (acc : List B) (d : D) : List B := if d.state e = 2 then acc ++ [⟨d.beg + 1440, 3, 540 - d.counted⟩] else acc
def restB (ds : List D) (e : Int) : List B := ds.foldl (restStep e) []
def shortStep (e : Int) (st : List B × Int) (d : D) : List B × Int := match d.rest with
  | none => st
  | some r => if r.isRest 1440 = true then (st.1, 0) else if d.state e = 1 then (if st.2 + 1 > 3 then st.1 ++ [⟨r.beg, 4, 660 - d.counted⟩] else st.1, st.2 + 1) else st
def shortB (ds : List D) (e : Int) : List B := (ds.foldl (shortStep e) ([], 0)).1
def dayB (l : List S) : List B := drvB (daysOf l) ++ restB (daysOf l) (endOf l) ++ shortB (daysOf l) (endOf l)
def weeklyRests (l : List S) : List S := (behindWork l).filter fun s => s.isRest 1440
def isShort (s : S) (e : Int) : Bool := decide (s.minutes < 2700) && decide (s.fin < e)
def lateStep (st : List B × Int) (s : S) : List B × Int := (if s.beg > st.2 then st.1 ++ [⟨st.2, 5, s.beg - st.2⟩] else st.1, s.fin + 8640)
def lateEnd (e : Int) (st : List B × Int) : List B := if e > st.2 then st.1 ++ [⟨st.2, 5, e - st.2⟩] else st.1
def lateB (l : List S) (e : Int) : List B := match behindWork l with
  | [] => []
  | s :: _ => lateEnd e ((weeklyRests l).foldl lateStep ([], s.beg + 8640))
def pairStep (e : Int) (acc : List B) (x : S × S) : List B := if (isShort x.1 e && isShort x.2 e) = true then acc ++ [⟨x.2.beg, 6, 2700 - x.2.minutes⟩] else acc
def pairB (l : List S) (e : Int) : List B := ((weeklyRests l).zip ((weeklyRests l).drop 1)).foldl (pairStep e) []
structure L where
  amount : Int
  deadline : Int
  opn : Bool
def spared (s : S) : Int := if s.minutes ≥ 2700 then s.minutes - 2700 else if s.minutes < 1440 then s.minutes - 540 else 0
def L.pays (l : L) (s : S) : Bool := l.opn && (decide (l.amount ≤ spared s) && decide (s.beg + l.amount ≤ l.deadline))
def makeUp (s : S) : List L → List L
  | [] => []
  | l :: r => if l.pays s = true then ⟨l.amount, l.deadline, false⟩ :: r else l :: makeUp s r
def lackStep (e : Int) (ls : List L) (s : S) : List L :=
  if s.isRest 540 = true then
    (if (s.isRest 1440 && isShort s e) = true then makeUp s ls ++ [⟨2700 - s.minutes, (s.fin / 10080 + 4) * 10080, true⟩] else makeUp s ls)
  else ls
def lacksOf (l : List S) (e : Int) : List L := (behindWork l).foldl (lackStep e) []
def lackBStep (e : Int) (acc : List B) (l : L) : List B := if (l.opn && decide (l.deadline ≤ e)) = true then acc ++ [⟨l.deadline, 7, l.amount⟩] else acc
def lackB (l : List S) (e : Int) : List B := (lacksOf l e).foldl (lackBStep e) []
def calStep (l : List S) (st : List B × Int) (w : Nat) : List B × Int :=
  ((st.1 ++ if inWeek l w > 3360 then [⟨(w : Int) * 10080, 8, inWeek l w - 3360⟩] else []) ++ if inWeek l w + st.2 > 5400 then [⟨(w : Int) * 10080, 9, inWeek l w + st.2 - 5400⟩] else [], inWeek l w)
def calB (l : List S) (e : Int) : List B := ((List.range ((e + 10080 - 1) / 10080).toNat).foldl (calStep l) ([], 0)).1
def weekB (l : List S) : List B := (lateB l (endOf l) ++ pairB l (endOf l) ++ lackB l (endOf l)) ++ calB l (endOf l)
def found (l : List S) : List B := (breakB l ++ dayB l) ++ weekB l
def ltB (a b : B) : Bool := decide (a.minute < b.minute) || (decide (a.minute = b.minute) && (decide (a.rule < b.rule) || (decide (a.rule = b.rule) && decide (a.amount < b.amount))))
end Dv
namespace Dv
/-! ### lists -/
theorem modLast_snoc {α : Type} (f : α → α) : ∀ (l : List α) (x : α), modLast f (l ++ [x]) = l ++ [f x]
  | [], _ => rfl
  | [_], _ => rfl
  | a :: b :: l, x => by
    show a :: modLast f ((b :: l) ++ [x]) = a :: ((b :: l) ++ [f x])
    rw [modLast_snoc f (b :: l) x]
theorem last_snoc {α : Type} (l : List α) (x : α) : (l ++ [x]).getLast? = some x := by simp
/-! ### stretches -/
def toT (x : Nat × Nat) : Int × Int := ((x.1 : Int), (x.2 : Int))
def toS (s : Kg70.Stretch) : S := ⟨(s.kind : Int), (s.from_ : Int), (s.till : Int)⟩
def toB (b : Kg70.Broken) : B := ⟨(b.at_ : Int), (b.rule : Int), (b.minutes : Int)⟩
theorem joined_merge (k a b : Nat) (l : Kg70.Told) : Kg70.joined ((k, a) :: (k, b) :: l) = Kg70.joined ((k, a + b) :: l) := by
  show (match Kg70.joined ((k, b) :: l) with | [] => [(k, a)] | y :: r => if k = y.1 then (k, a + y.2) :: r else (k, a) :: y :: r) = _
  show (match (match Kg70.joined l with | [] => [(k, b)] | y :: r => if k = y.1 then (k, b + y.2) :: r else (k, b) :: y :: r) with | [] => [(k, a)] | y :: r => if k = y.1 then (k, a + y.2) :: r else (k, a) :: y :: r) =
    (match Kg70.joined l with | [] => [(k, a + b)] | y :: r => if k = y.1 then (k, a + b + y.2) :: r else (k, a + b) :: y :: r)
  cases Kg70.joined l with
  | nil => simp
  | cons y r =>
    by_cases h : k = y.1
    · simp [h, Nat.add_assoc]
    · simp [h]
theorem joined_head (x : Nat × Nat) (l : Kg70.Told) : ∃ n r, Kg70.joined (x :: l) = (x.1, n) :: r := by
  show ∃ n r, (match Kg70.joined l with | [] => [x] | y :: r => if x.1 = y.1 then (x.1, x.2 + y.2) :: r else x :: y :: r) = (x.1, n) :: r
  cases Kg70.joined l with
  | nil => exact ⟨x.2, [], rfl⟩
  | cons y r =>
    by_cases h : x.1 = y.1
    · exact ⟨x.2 + y.2, r, by simp [h]⟩
    · exact ⟨x.2, y :: r, by simp [h]⟩
theorem joined_apart (k a : Nat) (x : Nat × Nat) (l : Kg70.Told) (h : k ≠ x.1) : Kg70.joined ((k, a) :: x :: l) = (k, a) :: Kg70.joined (x :: l) := by
  obtain ⟨n, r, e⟩ := joined_head x l
  show (match Kg70.joined (x :: l) with | [] => [(k, a)] | y :: r => if k = y.1 then (k, a + y.2) :: r else (k, a) :: y :: r) = _
  rw [e]
  simp [h]
theorem addS_snoc (init : List S) (s : S) (t : Int) (x : Int × Int) :
    addS (init ++ [s], t) x = if s.kind = x.1 then (init ++ [⟨s.kind, s.beg, t + x.2⟩], t + x.2) else ((init ++ [s]) ++ [⟨x.1, t, t + x.2⟩], t + x.2) := by
  unfold addS
  rw [last_snoc]
  by_cases h : s.kind = x.1
  · simp [h, modLast_snoc]
  · simp [h]
theorem stretches_go : ∀ (l : Kg70.Told) (init : List S) (k b t : Nat), b ≤ t →
    ((l.map toT).foldl addS (init ++ [toS ⟨k, b, t⟩], (t : Int))).1 = init ++ (Kg70.placed b (Kg70.joined ((k, t - b) :: l))).map toS
  | [], init, k, b, t, h => by
    show init ++ [toS ⟨k, b, t⟩] = init ++ [toS ⟨k, b, b + (t - b)⟩]
    rw [Nat.add_sub_cancel' h]
  | x :: l, init, k, b, t, h => by
    show ((l.map toT).foldl addS (addS (init ++ [toS ⟨k, b, t⟩], (t : Int)) (toT x))).1 = _
    rw [addS_snoc]
    obtain ⟨kx, nx⟩ := x
    by_cases e : k = kx
    · subst e
      rw [if_pos (by rfl)]
      have q := stretches_go l init k b (t + nx) (by omega)
      have e2 : ((t + nx : Nat) : Int) = (t : Int) + (nx : Int) := by omega
      rw [joined_merge, show t - b + nx = t + nx - b by omega, ← q]
      show _ = ((l.map toT).foldl addS (init ++ [⟨(k : Int), (b : Int), ((t + nx : Nat) : Int)⟩], ((t + nx : Nat) : Int))).1
      rw [e2]
      rfl
    · rw [if_neg (by show ¬ (k : Int) = (kx : Int); omega), joined_apart _ _ _ _ e]
      have q := stretches_go l (init ++ [toS ⟨k, b, t⟩]) kx t (t + nx) (by omega)
      have e2 : ((t + nx : Nat) : Int) = (t : Int) + (nx : Int) := by omega
      rw [show t + nx - t = nx by omega] at q
      show ((l.map toT).foldl addS ((init ++ [toS ⟨k, b, t⟩]) ++ [⟨(kx : Int), (t : Int), (t : Int) + (nx : Int)⟩], (t : Int) + (nx : Int))).1 = init ++ (toS ⟨k, b, b + (t - b)⟩ :: (Kg70.placed (b + (t - b)) (Kg70.joined ((kx, nx) :: l))).map toS)
      rw [Nat.add_sub_cancel' h, ← e2]
      refine Eq.trans q ?_
      rw [List.append_assoc]
      rfl
theorem stretches_is (l : Kg70.Told) : stretchesOf (l.map toT) = (Kg70.line l).map toS := by
  cases l with
  | nil => rfl
  | cons x l =>
    have q := stretches_go l [] x.1 0 x.2 (Nat.zero_le _)
    have e : addS ([], 0) (toT x) = ([] ++ [toS ⟨x.1, 0, x.2⟩], (x.2 : Int)) := by
      show ([(⟨(x.1 : Int), 0, 0 + (x.2 : Int)⟩ : S)], 0 + (x.2 : Int)) = _
      rw [Int.zero_add]
      rfl
    show ((l.map toT).foldl addS (addS ([], 0) (toT x))).1 = _
    rw [e]
    refine q.trans ?_
    rfl
/-! ### what a line is -/
def Chain : Nat → List Kg70.Stretch → Prop
  | _, [] => True
  | t, s :: l => s.from_ = t ∧ t < s.till ∧ Chain s.till l
def PosT (l : Kg70.Told) : Prop := ∀ x ∈ l, 0 < x.2
theorem joined_pos : ∀ l : Kg70.Told, PosT l → PosT (Kg70.joined l)
  | [], h => h
  | x :: l, h => by
    have ih := joined_pos l fun y hy => h y (List.mem_cons_of_mem _ hy)
    have hx := h x List.mem_cons_self
    show PosT (match Kg70.joined l with | [] => [x] | y :: r => if x.1 = y.1 then (x.1, x.2 + y.2) :: r else x :: y :: r)
    cases e : Kg70.joined l with
    | nil => intro y hy; simp at hy; rw [hy]; exact hx
    | cons y r =>
      rw [e] at ih
      dsimp only
      by_cases c : x.1 = y.1
      · rw [if_pos c]
        intro z hz
        rcases List.mem_cons.mp hz with q | q
        · rw [q]; show 0 < x.2 + y.2; omega
        · exact ih z (List.mem_cons_of_mem _ q)
      · rw [if_neg c]
        intro z hz
        rcases List.mem_cons.mp hz with q | q
        · rw [q]; exact hx
        · exact ih z q
theorem placed_chain : ∀ (l : Kg70.Told) (t : Nat), PosT l → Chain t (Kg70.placed t l)
  | [], _, _ => True.intro
  | x :: l, t, h => by
    have hx := h x List.mem_cons_self
    exact ⟨rfl, by show t < t + x.2; omega, placed_chain l (t + x.2) fun y hy => h y (List.mem_cons_of_mem _ hy)⟩
theorem line_chain {l : Kg70.Told} (h : PosT l) : Chain 0 (Kg70.line l) := placed_chain _ _ (joined_pos l h)
def endN (t : Nat) : List Kg70.Stretch → Nat
  | [] => t
  | s :: l => endN s.till l
theorem placed_end : ∀ (l : Kg70.Told) (t : Nat), endN t (Kg70.placed t l) = t + Kg70.total l
  | [], t => rfl
  | x :: l, t => by
    show endN (t + x.2) (Kg70.placed (t + x.2) l) = t + (x.2 + Kg70.total l)
    rw [placed_end l (t + x.2)]
    omega
theorem joined_total : ∀ l : Kg70.Told, Kg70.total (Kg70.joined l) = Kg70.total l
  | [] => rfl
  | x :: l => by
    have ih := joined_total l
    show Kg70.total (match Kg70.joined l with | [] => [x] | y :: r => if x.1 = y.1 then (x.1, x.2 + y.2) :: r else x :: y :: r) = x.2 + Kg70.total l
    rw [← ih]
    cases e : Kg70.joined l with
    | nil => rfl
    | cons y r =>
      dsimp only
      by_cases c : x.1 = y.1
      · rw [if_pos c]
        show x.2 + y.2 + Kg70.total r = x.2 + (y.2 + Kg70.total r)
        omega
      · rw [if_neg c]
        rfl
theorem line_end (l : Kg70.Told) : endN 0 (Kg70.line l) = Kg70.total l := by
  show endN 0 (Kg70.placed 0 (Kg70.joined l)) = _
  rw [placed_end, joined_total, Nat.zero_add]
theorem endOf_map : ∀ (l : List Kg70.Stretch) (t : Nat), l ≠ [] → endOf (l.map toS) = (endN t l : Int)
  | [], _, h => absurd rfl h
  | [s], _, _ => rfl
  | s :: r :: l, t, _ => by
    have q := endOf_map (r :: l) s.till (by simp)
    show endOf (toS s :: (r :: l).map toS) = _
    refine Eq.trans ?_ q
    show (match (toS s :: toS r :: l.map toS).getLast? with | some s => s.fin | none => 0) = (match (toS r :: l.map toS).getLast? with | some s => s.fin | none => 0)
    rw [List.getLast?_cons_cons]
theorem end_is (l : Kg70.Told) : endOf ((Kg70.line l).map toS) = (Kg70.total l : Int) := by
  by_cases h : Kg70.line l = []
  · have e := line_end l
    rw [h] at e ⊢
    rw [← e]
    rfl
  · rw [endOf_map _ 0 h, line_end]
theorem total_app (l m : Kg70.Told) : Kg70.total (l ++ m) = Kg70.total l + Kg70.total m := by
  unfold Kg70.total
  rw [List.map_append, List.sum_append]
theorem joined_len : ∀ l : Kg70.Told, (Kg70.joined l).length ≤ l.length
  | [] => Nat.le_refl _
  | x :: l => by
    have ih := joined_len l
    show (match Kg70.joined l with | [] => [x] | y :: r => if x.1 = y.1 then (x.1, x.2 + y.2) :: r else x :: y :: r).length ≤ l.length + 1
    cases e : Kg70.joined l with
    | nil => simp
    | cons y r =>
      rw [e, List.length_cons] at ih
      dsimp only
      by_cases c : x.1 = y.1
      · rw [if_pos c, List.length_cons]; omega
      · rw [if_neg c, List.length_cons, List.length_cons]; omega
theorem placed_len : ∀ (l : Kg70.Told) (t : Nat), (Kg70.placed t l).length = l.length
  | [], _ => rfl
  | x :: l, t => by
    show (Kg70.placed (t + x.2) l).length + 1 = l.length + 1
    rw [placed_len l]
theorem line_len (l : Kg70.Told) : (Kg70.line l).length ≤ l.length := by
  show (Kg70.placed 0 (Kg70.joined l)).length ≤ _
  rw [placed_len]
  exact joined_len l
theorem chain_le : ∀ {l : List Kg70.Stretch} {t : Nat}, Chain t l → ∀ s ∈ l, t ≤ s.from_ ∧ s.from_ < s.till ∧ s.till ≤ endN t l
  | [], _, _, s, hs => by cases hs
  | r :: l, t, h, s, hs => by
    obtain ⟨h1, h2, h3⟩ := h
    have mono : ∀ (l : List Kg70.Stretch) (t : Nat), Chain t l → t ≤ endN t l := by
      intro l
      induction l with
      | nil => intro t _; exact Nat.le_refl _
      | cons x l ih =>
        intro t hc
        have := ih x.till hc.2.2
        have := hc.2.1
        show t ≤ endN x.till l
        omega
    rcases List.mem_cons.mp hs with e | e
    · subst e
      have := mono l s.till h3
      exact ⟨by omega, by omega, this⟩
    · have q := chain_le h3 s e
      exact ⟨by omega, q.2.1, q.2.2⟩
end Dv
namespace Dv
theorem dF {p : Prop} [Decidable p] (h : ¬ p) : ¬ (decide p = true) := fun e => h (of_decide_eq_true e)
/-! ### rests -/
theorem toS_long {s : Kg70.Stretch} (h : s.from_ < s.till) : (toS s).minutes = (s.long : Int) := by
  show (s.till : Int) - (s.from_ : Int) = ((s.till - s.from_ : Nat) : Int)
  omega
theorem rest_iff {s : Kg70.Stretch} (h : s.from_ < s.till) (n : Nat) : (toS s).isRest (n : Int) = (decide (s.kind = 0) && decide (n ≤ s.long)) := by
  unfold S.isRest
  rw [toS_long h]
  have e1 : decide ((toS s).kind = 0) = decide (s.kind = 0) := decide_eq_decide.mpr (by show (s.kind : Int) = 0 ↔ _; omega)
  have e2 : decide ((n : Int) ≤ (s.long : Int)) = decide (n ≤ s.long) := decide_eq_decide.mpr (by omega)
  rw [e1, e2]
theorem rest0 {s : Kg70.Stretch} (h : s.from_ < s.till) : (toS s).isRest 0 = decide (s.kind = 0) := by
  have q := rest_iff h 0
  rw [show decide (0 ≤ s.long) = true from decide_eq_true (Nat.zero_le _), Bool.and_true] at q
  exact q
/-! ### breaks -/
structure BrOk (r : Kg70.Run) (b : Br) : Prop where
  dr : b.driving = (r.driven : Int)
  pt : b.part = r.part
  mi : b.minute = r.over.map fun (t : Nat) => (t : Int)
  lo : r.over = none → r.driven ≤ 270
  hi : r.over ≠ none → 270 < r.driven
def stepRun (r : Kg70.Run) (s : Kg70.Stretch) : Kg70.Run :=
  if s.kind = 0 then (if Kg70.BREAK ≤ s.long ∨ (r.part = true ∧ Kg70.SECOND ≤ s.long) then Kg70.fresh else { r with part := r.part || decide (Kg70.FIRST ≤ s.long) })
  else if s.kind = 1 then { r with driven := r.driven + s.long, over := match r.over with
        | some t => some t
        | none => if Kg70.DRIVE < r.driven + s.long then some (s.from_ + (Kg70.DRIVE - r.driven)) else none }
  else r
theorem close_br {r : Kg70.Run} {b : Br} (h : BrOk r b) : b.close.br = b.br ++ r.ends.map toB := by
  unfold Br.close Kg70.Run.ends
  have hm := h.mi
  cases e : r.over with
  | none =>
    rw [e] at hm
    rw [hm]
    exact (List.append_nil _).symm
  | some t =>
    rw [e] at hm
    rw [hm]
    have := h.hi (by rw [e]; simp)
    have hd := h.dr
    show b.br ++ [_] = b.br ++ [toB ⟨1, t, r.driven - Kg70.DRIVE⟩]
    have e2 : b.driving - 270 = ((r.driven - Kg70.DRIVE : Nat) : Int) := by
      rw [hd]
      show _ = ((r.driven - 270 : Nat) : Int)
      omega
    rw [e2]
    rfl
theorem fresh_ok : BrOk Kg70.fresh ⟨0, false, none, l⟩ := ⟨rfl, rfl, rfl, fun _ => Nat.zero_le _, fun h => absurd rfl h⟩
/-- one stretch: what is closed by it, the state behind it -/
def closedBy (r : Kg70.Run) (s : Kg70.Stretch) : List Kg70.Broken :=
  if s.kind = 0 ∧ (Kg70.BREAK ≤ s.long ∨ (r.part = true ∧ Kg70.SECOND ≤ s.long)) then r.ends else []
theorem closed_no {r : Kg70.Run} {s : Kg70.Stretch} (h : ¬ (s.kind = 0 ∧ (Kg70.BREAK ≤ s.long ∨ (r.part = true ∧ Kg70.SECOND ≤ s.long)))) : closedBy r s = [] := if_neg h
theorem closed_yes {r : Kg70.Run} {s : Kg70.Stretch} (h : s.kind = 0 ∧ (Kg70.BREAK ≤ s.long ∨ (r.part = true ∧ Kg70.SECOND ≤ s.long))) : closedBy r s = r.ends := if_pos h
theorem take_ok {r : Kg70.Run} {b : Br} {s : Kg70.Stretch} (h : BrOk r b) (hs : s.from_ < s.till) : BrOk (stepRun r s) (b.take (toS s)) ∧ (b.take (toS s)).br = b.br ++ (closedBy r s).map toB := by
  unfold Br.take stepRun
  rw [rest0 hs]
  by_cases k0 : s.kind = 0
  · rw [if_pos (decide_eq_true k0), if_pos k0]
    unfold Br.takeRest
    have r45 := rest_iff hs 45
    have r30 := rest_iff hs 30
    have r15 := rest_iff hs 15
    rw [show decide (s.kind = 0) = true from decide_eq_true k0, Bool.true_and] at r45 r30 r15
    have c : ((toS s).isRest 45 || (b.part && (toS s).isRest 30)) = decide (Kg70.BREAK ≤ s.long ∨ (r.part = true ∧ Kg70.SECOND ≤ s.long)) := by
      rw [show (toS s).isRest 45 = decide (45 ≤ s.long) from r45, show (toS s).isRest 30 = decide (30 ≤ s.long) from r30, h.pt, Bool.decide_or, Bool.decide_and]
      cases r.part <;> rfl
    rw [c, show (toS s).isRest 15 = decide (15 ≤ s.long) from r15]
    by_cases c1 : Kg70.BREAK ≤ s.long ∨ (r.part = true ∧ Kg70.SECOND ≤ s.long)
    · rw [if_pos (decide_eq_true c1), if_pos c1, closed_yes ⟨k0, c1⟩]
      exact ⟨fresh_ok, close_br h⟩
    · rw [if_neg (dF c1), if_neg c1, closed_no (fun z => c1 z.2)]
      by_cases c2 : 15 ≤ s.long
      · rw [if_pos (decide_eq_true c2)]
        refine ⟨⟨h.dr, ?_, h.mi, h.lo, h.hi⟩, (List.append_nil _).symm⟩
        show true = (r.part || decide (15 ≤ s.long))
        rw [decide_eq_true c2, Bool.or_true]
      · rw [if_neg (dF c2)]
        refine ⟨⟨h.dr, ?_, h.mi, h.lo, h.hi⟩, (List.append_nil _).symm⟩
        show b.part = (r.part || decide (15 ≤ s.long))
        rw [decide_eq_false c2, Bool.or_false]
        exact h.pt
  · rw [if_neg (dF k0), if_neg k0, closed_no (fun z => k0 z.1)]
    by_cases k1 : s.kind = 1
    · rw [if_pos (show (toS s).kind = 1 by show (s.kind : Int) = 1; omega), if_pos k1]
      refine ⟨?_, (List.append_nil _).symm⟩
      unfold Br.drive
      rw [toS_long hs]
      have hd := h.dr
      have hm := h.mi
      cases e : r.over with
      | some t =>
        rw [e] at hm
        rw [hm]
        have := h.hi (by rw [e]; simp)
        refine ⟨?_, h.pt, rfl, fun z => (by cases z), fun _ => ?_⟩
        · show b.driving + (s.long : Int) = ((r.driven + s.long : Nat) : Int)
          omega
        · show 270 < r.driven + s.long
          omega
      | none =>
        rw [e] at hm
        rw [hm]
        have hl := h.lo e
        by_cases c : 270 < r.driven + s.long
        · refine ⟨?_, h.pt, ?_, fun z => ?_, fun _ => ?_⟩
          · show b.driving + (s.long : Int) = ((r.driven + s.long : Nat) : Int)
            omega
          · show (if b.driving + (s.long : Int) > 270 then some ((toS s).beg + 270 - b.driving) else none) = (if 270 < r.driven + s.long then some (s.from_ + (270 - r.driven)) else none).map fun (t : Nat) => (t : Int)
            rw [if_pos c, if_pos (by omega)]
            show some ((s.from_ : Int) + 270 - b.driving) = some ((s.from_ + (270 - r.driven) : Nat) : Int)
            rw [hd]
            exact congrArg some (by omega)
          · exfalso
            have z' : (if 270 < r.driven + s.long then some (s.from_ + (270 - r.driven)) else none) = none := z
            rw [if_pos c] at z'
            cases z'
          · show 270 < r.driven + s.long
            exact c
        · refine ⟨?_, h.pt, ?_, fun z => ?_, fun z => ?_⟩
          · show b.driving + (s.long : Int) = ((r.driven + s.long : Nat) : Int)
            omega
          · show (if b.driving + (s.long : Int) > 270 then some ((toS s).beg + 270 - b.driving) else none) = (if 270 < r.driven + s.long then some (s.from_ + (270 - r.driven)) else none).map fun (t : Nat) => (t : Int)
            rw [if_neg c, if_neg (by omega)]
            rfl
          · show r.driven + s.long ≤ 270
            omega
          · exfalso
            apply z
            show (if 270 < r.driven + s.long then some (s.from_ + (270 - r.driven)) else none) = none
            rw [if_neg c]
    · rw [if_neg (show ¬ (toS s).kind = 1 by show ¬ (s.kind : Int) = 1; omega), if_neg k1]
      exact ⟨h, (List.append_nil _).symm⟩
theorem breaks_cons (r : Kg70.Run) (s : Kg70.Stretch) (l : List Kg70.Stretch) : Kg70.breaks r (s :: l) = closedBy r s ++ Kg70.breaks (stepRun r s) l := by
  show (if s.kind = 0 then _ else _) = _
  unfold stepRun
  by_cases k0 : s.kind = 0
  · rw [if_pos k0, if_pos k0]
    by_cases c1 : Kg70.BREAK ≤ s.long ∨ (r.part = true ∧ Kg70.SECOND ≤ s.long)
    · rw [if_pos c1, if_pos c1, closed_yes ⟨k0, c1⟩]
    · rw [if_neg c1, if_neg c1, closed_no (fun z => c1 z.2), List.nil_append]
  · rw [if_neg k0, if_neg k0, closed_no (fun z => k0 z.1), List.nil_append]
    by_cases k1 : s.kind = 1
    · rw [if_pos k1, if_pos k1]
      rfl
    · rw [if_neg k1, if_neg k1]
theorem lastRun_same : ∀ (l : List Kg70.Stretch) (r q : Kg70.Run), r.driven = q.driven → r.part = q.part → (Kg70.lastRun r l).driven = (l.foldl stepRun q).driven ∧ (Kg70.lastRun r l).part = (l.foldl stepRun q).part
  | [], _, _, h1, h2 => ⟨h1, h2⟩
  | s :: l, r, q, h1, h2 => by
    show (Kg70.lastRun r (s :: l)).driven = (l.foldl stepRun (stepRun q s)).driven ∧ (Kg70.lastRun r (s :: l)).part = (l.foldl stepRun (stepRun q s)).part
    have e : ∃ r', Kg70.lastRun r (s :: l) = Kg70.lastRun r' l ∧ r'.driven = (stepRun q s).driven ∧ r'.part = (stepRun q s).part := by
      show ∃ r', (if s.kind = 0 then _ else _) = Kg70.lastRun r' l ∧ _
      unfold stepRun
      by_cases k0 : s.kind = 0
      · rw [if_pos k0, if_pos k0, h2]
        by_cases c1 : Kg70.BREAK ≤ s.long ∨ (q.part = true ∧ Kg70.SECOND ≤ s.long)
        · rw [if_pos c1, if_pos c1]
          exact ⟨_, rfl, rfl, rfl⟩
        · rw [if_neg c1, if_neg c1]
          exact ⟨_, rfl, h1, rfl⟩
      · rw [if_neg k0, if_neg k0]
        by_cases k1 : s.kind = 1
        · rw [if_pos k1, if_pos k1]
          exact ⟨_, rfl, by show r.driven + s.long = q.driven + s.long; rw [h1], h2⟩
        · rw [if_neg k1, if_neg k1]
          exact ⟨_, rfl, h1, h2⟩
    obtain ⟨r', e, a, b⟩ := e
    rw [e]
    exact lastRun_same l r' (stepRun q s) a b
theorem breaks_go : ∀ (l : List Kg70.Stretch) (r : Kg70.Run) (b : Br), BrOk r b → (∀ s ∈ l, s.from_ < s.till) →
    BrOk (l.foldl stepRun r) ((l.map toS).foldl Br.take b) ∧ ((l.map toS).foldl Br.take b).close.br = b.br ++ (Kg70.breaks r l).map toB
  | [], r, b, h, _ => ⟨h, close_br h⟩
  | s :: l, r, b, h, hs => by
    obtain ⟨h1, h2⟩ := take_ok h (hs s List.mem_cons_self)
    obtain ⟨q1, q2⟩ := breaks_go l (stepRun r s) (b.take (toS s)) h1 fun x hx => hs x (List.mem_cons_of_mem _ hx)
    refine ⟨q1, ?_⟩
    show ((l.map toS).foldl Br.take (b.take (toS s))).close.br = _
    rw [q2, h2, breaks_cons, List.map_append, List.append_assoc]
theorem fresh_brok : BrOk Kg70.fresh Br.fresh := fresh_ok
theorem breakB_is {l : List Kg70.Stretch} (h : ∀ s ∈ l, s.from_ < s.till) : breakB (l.map toS) = (Kg70.breaks Kg70.fresh l).map toB :=
  ((breaks_go l Kg70.fresh Br.fresh fresh_brok h).2).trans (List.nil_append _)
theorem lastRun_is {l : List Kg70.Stretch} (h : ∀ s ∈ l, s.from_ < s.till) : (breaksOf (l.map toS)).driving = ((Kg70.lastRun Kg70.fresh l).driven : Int) ∧ (breaksOf (l.map toS)).part = (Kg70.lastRun Kg70.fresh l).part := by
  have q := (breaks_go l Kg70.fresh Br.fresh fresh_brok h).1
  have e := lastRun_same l Kg70.fresh Kg70.fresh rfl rfl
  rw [e.1, e.2]
  exact ⟨q.dr, q.pt⟩
end Dv
namespace Dv
/-! ### behind the first work -/
theorem workAt_cons (s : S) (l : List S) : workAt (s :: l) = if s.kind = 0 then (workAt l).map (· + 1) else some 0 := by
  unfold workAt
  rw [List.findIdx?_cons]
  by_cases h : s.kind = 0
  · rw [if_pos h, decide_eq_true h]
    rfl
  · rw [if_neg h, decide_eq_false h]
    rfl
theorem behind_rest {s : S} {l : List S} (h : s.kind = 0) : behindWork (s :: l) = behindWork l := by
  unfold behindWork
  rw [workAt_cons, if_pos h]
  cases workAt l <;> rfl
theorem behind_work {s : S} {l : List S} (h : ¬ s.kind = 0) : behindWork (s :: l) = s :: l := by
  unfold behindWork
  rw [workAt_cons, if_neg h]
  rfl
theorem behind_nil : behindWork [] = [] := rfl
theorem toS_kind {s : Kg70.Stretch} : (toS s).kind = 0 ↔ s.kind = 0 := by
  show (s.kind : Int) = 0 ↔ _
  omega
/-- the specification's own rest of the line behind the first work -/
def behN : List Kg70.Stretch → List Kg70.Stretch
  | [] => []
  | s :: l => if s.kind = 0 then behN l else s :: l
theorem behind_is : ∀ l : List Kg70.Stretch, behindWork (l.map toS) = (behN l).map toS
  | [] => rfl
  | s :: l => by
    show behindWork (toS s :: l.map toS) = (if s.kind = 0 then behN l else s :: l).map toS
    by_cases h : s.kind = 0
    · rw [behind_rest (toS_kind.mpr h), if_pos h, behind_is l]
    · rw [behind_work (fun z => h (toS_kind.mp z)), if_neg h]
      rfl
theorem behN_sub : ∀ (l : List Kg70.Stretch), ∀ s ∈ behN l, s ∈ l
  | [], _, h => h
  | x :: l, s, h => by
    have h' : s ∈ (if x.kind = 0 then behN l else x :: l) := h
    by_cases c : x.kind = 0
    · rw [if_pos c] at h'
      exact List.mem_cons_of_mem _ (behN_sub l s h')
    · rw [if_neg c] at h'
      exact h'
theorem behN_len : ∀ (l : List Kg70.Stretch), (behN l).length ≤ l.length
  | [] => Nat.le_refl _
  | x :: l => by
    show (if x.kind = 0 then behN l else x :: l).length ≤ _
    by_cases c : x.kind = 0
    · rw [if_pos c]
      exact Nat.le_succ_of_le (behN_len l)
    · rw [if_neg c]
      exact Nat.le_refl _
/-! ### days -/
def toD (d : Kg70.Day) : D := ⟨(d.from_ : Int), (d.driven : Int), d.part, d.rest.map toS⟩
/-- what a stretch does to the days -/
theorem dayStep_rest_closed {s : Kg70.Stretch} (hs : s.from_ < s.till) (k0 : s.kind = 0) (f : List D) : dayStep (f, false) (toS s) = (f, false) := by
  unfold dayStep
  rw [rest0 hs, if_pos (decide_eq_true k0), if_neg Bool.false_ne_true]
theorem dayStep_rest_open {s : Kg70.Stretch} (hs : s.from_ < s.till) (k0 : s.kind = 0) (f : List D) (d : Kg70.Day) :
    dayStep (f ++ [toD d], true) (toS s) = if Kg70.SHORT ≤ s.long then (f ++ [toD { d with rest := some s }], false) else (f ++ [toD { d with part := d.part || decide (Kg70.PART ≤ s.long) }], true) := by
  unfold dayStep
  have r540 := rest_iff hs 540
  have r180 := rest_iff hs 180
  rw [decide_eq_true k0, Bool.true_and] at r540 r180
  have q540 : (toS s).isRest 540 = decide (540 ≤ s.long) := r540
  have q180 : (toS s).isRest 180 = decide (180 ≤ s.long) := r180
  rw [rest0 hs, if_pos (decide_eq_true k0), if_pos rfl, q540, q180]
  by_cases c : 540 ≤ s.long
  · rw [if_pos (decide_eq_true c), if_pos (show Kg70.SHORT ≤ s.long from c), modLast_snoc, decide_eq_true c]
    show (f ++ [⟨(d.from_ : Int), (d.driven : Int), d.part || (decide (180 ≤ s.long) && !true), some (toS s)⟩], false) = _
    rw [Bool.not_true, Bool.and_false, Bool.or_false]
    rfl
  · rw [if_neg (dF c), if_neg (show ¬ Kg70.SHORT ≤ s.long from c), modLast_snoc, decide_eq_false c]
    show (f ++ [⟨(d.from_ : Int), (d.driven : Int), d.part || (decide (180 ≤ s.long) && !false), d.rest.map toS⟩], true) = _
    rw [Bool.not_false, Bool.and_true]
    rfl
theorem dayStep_work_open {s : Kg70.Stretch} (hs : s.from_ < s.till) (k0 : ¬ s.kind = 0) (f : List D) (d : Kg70.Day) :
    dayStep (f ++ [toD d], true) (toS s) = (f ++ [toD { d with driven := d.driven + (if s.kind = 1 then s.long else 0) }], true) := by
  unfold dayStep
  rw [rest0 hs, if_neg (dF k0), if_pos rfl]
  by_cases c : s.kind = 1
  · rw [if_pos (show (toS s).kind = 1 by show (s.kind : Int) = 1; omega), if_pos c, modLast_snoc, toS_long hs]
    show (f ++ [⟨(d.from_ : Int), (d.driven : Int) + (s.long : Int), d.part, d.rest.map toS⟩], true) = _
    rw [show (d.driven : Int) + (s.long : Int) = ((d.driven + s.long : Nat) : Int) by omega]
    rfl
  · rw [if_neg (show ¬ (toS s).kind = 1 by show ¬ (s.kind : Int) = 1; omega), if_neg c]
    rfl
theorem dayStep_work_closed {s : Kg70.Stretch} (hs : s.from_ < s.till) (k0 : ¬ s.kind = 0) (f : List D) :
    dayStep (f, false) (toS s) = (f ++ [toD ⟨s.from_, if s.kind = 1 then s.long else 0, false, none⟩], true) := by
  unfold dayStep
  rw [rest0 hs, if_neg (dF k0), if_neg Bool.false_ne_true]
  by_cases c : s.kind = 1
  · rw [if_pos (show (toS s).kind = 1 by show (s.kind : Int) = 1; omega), if_pos c, modLast_snoc, toS_long hs]
    show (f ++ [⟨(s.from_ : Int), 0 + (s.long : Int), false, none⟩], true) = _
    rw [Int.zero_add]
    rfl
  · rw [if_neg (show ¬ (toS s).kind = 1 by show ¬ (s.kind : Int) = 1; omega), if_neg c]
    rfl
theorem days_go : ∀ (l : List Kg70.Stretch), (∀ s ∈ l, s.from_ < s.till) →
    (∀ f : List D, ((l.map toS).foldl dayStep (f, false)).1 = f ++ (Kg70.days none l).map toD) ∧
    (∀ (f : List D) (d : Kg70.Day), ((l.map toS).foldl dayStep (f ++ [toD d], true)).1 = f ++ (Kg70.days (some d) l).map toD)
  | [], _ => ⟨fun f => (List.append_nil f).symm, fun f d => rfl⟩
  | s :: l, h => by
    have hs := h s List.mem_cons_self
    obtain ⟨i1, i2⟩ := days_go l fun x hx => h x (List.mem_cons_of_mem _ hx)
    constructor
    · intro f
      show ((l.map toS).foldl dayStep (dayStep (f, false) (toS s))).1 = f ++ (if s.kind = 0 then Kg70.days none l else Kg70.days (some ⟨s.from_, if s.kind = 1 then s.long else 0, false, none⟩) l).map toD
      by_cases k0 : s.kind = 0
      · rw [dayStep_rest_closed hs k0, if_pos k0]
        exact i1 f
      · rw [dayStep_work_closed hs k0, if_neg k0]
        exact i2 f _
    · intro f d
      show ((l.map toS).foldl dayStep (dayStep (f ++ [toD d], true) (toS s))).1 = f ++ (if s.kind = 0 then
      (if Kg70.SHORT ≤ s.long then { d with rest := some s } :: Kg70.days none l else Kg70.days (some { d with part := d.part || decide (Kg70.PART ≤ s.long) }) l)
    else Kg70.days (some { d with driven := d.driven + (if s.kind = 1 then s.long else 0) }) l).map toD
      by_cases k0 : s.kind = 0
      · rw [dayStep_rest_open hs k0, if_pos k0]
        by_cases c : Kg70.SHORT ≤ s.long
        · rw [if_pos c, if_pos c]
          rw [i1, List.append_assoc]
          rfl
        · rw [if_neg c, if_neg c]
          exact i2 f _
      · rw [dayStep_work_open hs k0, if_neg k0]
        exact i2 f _
theorem days_behN : ∀ l : List Kg70.Stretch, Kg70.days none (behN l) = Kg70.days none l
  | [] => rfl
  | s :: l => by
    show Kg70.days none (if s.kind = 0 then behN l else s :: l) = Kg70.days none (s :: l)
    by_cases c : s.kind = 0
    · rw [if_pos c, days_behN l]
      show _ = (if s.kind = 0 then Kg70.days none l else _)
      rw [if_pos c]
    · rw [if_neg c]
theorem days_is {l : List Kg70.Stretch} (h : ∀ s ∈ l, s.from_ < s.till) : daysOf (l.map toS) = (Kg70.days none l).map toD := by
  unfold daysOf
  rw [behind_is, (days_go (behN l) fun s hs => h s (behN_sub l s hs)).1 [], List.nil_append, days_behN]
/-! ### a day's rest -/
theorem counted_is (d : Kg70.Day) : (toD d).counted = (d.had : Int) := by
  unfold D.counted Kg70.Day.had
  cases e : d.rest with
  | none =>
    show (match d.rest.map toS with | none => 0 | some r => mx 0 (mn r.fin ((toD d).beg + 1440) - r.beg)) = _
    rw [e]
    rfl
  | some r =>
    show (match d.rest.map toS with | none => 0 | some r => mx 0 (mn r.fin ((toD d).beg + 1440) - r.beg)) = _
    rw [e]
    show mx 0 (mn (r.till : Int) ((d.from_ : Int) + 1440) - (r.from_ : Int)) = ((min r.till (d.from_ + 1440) - r.from_ : Nat) : Int)
    unfold mx mn
    split <;> split <;> omega
theorem had_none {d : Kg70.Day} (h : d.rest = none) : d.had = 0 := by
  unfold Kg70.Day.had
  rw [h]
theorem state_is (d : Kg70.Day) (e : Nat) : (toD d).state (e : Int) = (d.kind e : Int) := by
  unfold D.state Kg70.Day.kind
  rw [counted_is]
  have en : (toD d).rest.isNone = d.rest.isNone := by
    show (d.rest.map toS).isNone = _
    cases d.rest <;> rfl
  have ep : (toD d).part = d.part := rfl
  have eb : (toD d).beg = (d.from_ : Int) := rfl
  rw [en, ep, eb]
  have L : Kg70.LONG = 660 := rfl
  have S : Kg70.SHORT = 540 := rfl
  have Dd : Kg70.DAY = 1440 := rfl
  rw [L, S, Dd]
  by_cases n : d.rest.isNone = true
  · have h0 := had_none (d := d) (by cases q : d.rest with | none => rfl | some r => rw [q] at n; cases n)
    rw [h0, n]
    rw [if_neg (show ¬ (660 ≤ 0 ∨ (540 ≤ 0 ∧ d.part = true)) by omega), if_neg (show ¬ (540 ≤ 0) by omega)]
    by_cases c : e ≤ d.from_ + 1440
    · rw [if_pos (show (true && decide ((e : Int) - (d.from_ : Int) ≤ 1440)) = true by rw [Bool.true_and]; exact decide_eq_true (by omega)), if_pos ⟨rfl, c⟩]
      rfl
    · rw [if_neg (show ¬ (true && decide ((e : Int) - (d.from_ : Int) ≤ 1440)) = true by rw [Bool.true_and]; exact dF (by omega)), if_pos (show ((0 : Nat) : Int) < 540 by decide), if_neg (fun z => c z.2)]
      rfl
  · rw [if_neg (show ¬ (d.rest.isNone && decide ((e : Int) - (d.from_ : Int) ≤ 1440)) = true by rw [Bool.and_eq_true]; exact fun z => n z.1)]
    by_cases c1 : 540 ≤ d.had
    · rw [if_neg (show ¬ ((d.had : Int) < 540) by omega)]
      by_cases c2 : 660 ≤ d.had ∨ d.part = true
      · rw [if_pos (show (d.had : Int) ≥ 660 ∨ d.part = true from c2.imp (fun z => by omega) id), if_pos (c2.imp id fun z => ⟨c1, z⟩)]
        rfl
      · rw [if_neg (show ¬ ((d.had : Int) ≥ 660 ∨ d.part = true) from fun z => c2 (z.imp (fun z => by omega) id)), if_neg (fun z => c2 (z.imp id fun y => y.2)), if_pos c1]
        rfl
    · rw [if_pos (show (d.had : Int) < 540 by omega), if_neg (fun z => z.elim (fun y => c1 (by omega)) fun y => c1 y.1), if_neg c1, if_neg (fun z => n z.1)]
      rfl
end Dv
namespace Dv
/-! ### folds that append -/
theorem snoc_if {c : Prop} [Decidable c] (acc : List B) (x : B) : (if c then acc ++ [x] else acc) = acc ++ (if c then [x] else []) := by
  split
  · rfl
  · exact (List.append_nil _).symm
theorem toB_mk (r a m : Nat) : toB ⟨r, a, m⟩ = ⟨(a : Int), (r : Int), (m : Int)⟩ := rfl
/-! ### rules 2 to 4, each by itself -/
def twoOf (m : Nat) (d : Kg70.Day) : List Kg70.Broken := if 600 < d.driven then [(⟨2, d.from_, d.driven - 600⟩ : Kg70.Broken)] else if decide (540 < d.driven) = true ∧ 2 ≤ m then [⟨2, d.from_, d.driven - 540⟩] else []
def twoL : Nat × Nat → List Kg70.Day → List Kg70.Broken
  | _, [] => []
  | (w, n), d :: l => twoOf (if d.from_ / Kg70.WEEK = w then n else 0) d ++ twoL (d.from_ / Kg70.WEEK, (if d.from_ / Kg70.WEEK = w then n else 0) + if decide (540 < d.driven) = true then 1 else 0) l
def threeOf (e : Nat) (d : Kg70.Day) : List Kg70.Broken := if d.kind e = 2 then [(⟨3, d.from_ + Kg70.DAY, Kg70.SHORT - d.had⟩ : Kg70.Broken)] else []
def threeL (e : Nat) : List Kg70.Day → List Kg70.Broken
  | [] => []
  | d :: l => threeOf e d ++ threeL e l
def weeklyOf (d : Kg70.Day) : Bool := match d.rest with
  | some r => decide (Kg70.WEEKLY ≤ r.long)
  | none => false
def sOf (e n : Nat) (d : Kg70.Day) : Nat := if d.kind e = 1 ∧ weeklyOf d = false then n + 1 else n
def fourOf (e n : Nat) (d : Kg70.Day) : List Kg70.Broken := if d.kind e = 1 ∧ (weeklyOf d = false ∧ 3 < sOf e n d) then [(⟨4, (d.rest.map Kg70.Stretch.from_).getD 0, Kg70.LONG - d.had⟩ : Kg70.Broken)] else []
def fourL (e : Nat) : Nat → List Kg70.Day → List Kg70.Broken
  | _, [] => []
  | n, d :: l => fourOf e n d ++ fourL e (if weeklyOf d = true then 0 else sOf e n d) l
theorem perDay_perm (e : Nat) : ∀ (l : List Kg70.Day) (p : Nat × Nat) (n : Nat), (Kg70.perDay e p n l).Perm (twoL p l ++ (threeL e l ++ fourL e n l))
  | [], _, _ => List.Perm.refl _
  | d :: l, (w, m), n => by
    have ih := perDay_perm e l (d.from_ / Kg70.WEEK, (if d.from_ / Kg70.WEEK = w then m else 0) + if decide (540 < d.driven) = true then 1 else 0) (if weeklyOf d = true then 0 else sOf e n d)
    show ((twoOf (if d.from_ / Kg70.WEEK = w then m else 0) d ++ (threeOf e d ++ fourOf e n d)) ++ Kg70.perDay e (d.from_ / Kg70.WEEK, (if d.from_ / Kg70.WEEK = w then m else 0) + if decide (540 < d.driven) = true then 1 else 0) (if weeklyOf d = true then 0 else sOf e n d) l).Perm
      ((twoOf (if d.from_ / Kg70.WEEK = w then m else 0) d ++ twoL _ l) ++ ((threeOf e d ++ threeL e l) ++ (fourOf e n d ++ fourL e _ l)))
    refine List.perm_iff_count.mpr fun a => ?_
    have q := List.perm_iff_count.mp ih a
    simp only [List.count_append] at q ⊢
    omega
/-- the days begin one behind another -/
def Later : Nat → List Kg70.Day → Prop
  | _, [] => True
  | t, d :: l => t ≤ d.from_ ∧ Later d.from_ l
theorem Later.mono : ∀ {l : List Kg70.Day} {t u : Nat}, u ≤ t → Later t l → Later u l
  | [], _, _, _, _ => True.intro
  | _ :: _, _, _, h, q => ⟨Nat.le_trans h q.1, q.2⟩
theorem days_later : ∀ (l : List Kg70.Stretch) (t : Nat), Chain t l → Later t (Kg70.days none l) ∧ ∀ d : Kg70.Day, d.from_ ≤ t → Later d.from_ (Kg70.days (some d) l)
  | [], _, _ => ⟨True.intro, fun d _ => ⟨Nat.le_refl _, True.intro⟩⟩
  | s :: l, t, h => by
    obtain ⟨h1, h2, h3⟩ := h
    obtain ⟨i1, i2⟩ := days_later l s.till h3
    constructor
    · show Later t (if s.kind = 0 then Kg70.days none l else Kg70.days (some ⟨s.from_, if s.kind = 1 then s.long else 0, false, none⟩) l)
      by_cases k0 : s.kind = 0
      · rw [if_pos k0]
        exact i1.mono (by omega)
      · rw [if_neg k0]
        exact (i2 ⟨s.from_, _, false, none⟩ (by show s.from_ ≤ s.till; omega)).mono (by show t ≤ s.from_; omega)
    · intro d hd
      show Later d.from_ (if s.kind = 0 then
      (if Kg70.SHORT ≤ s.long then { d with rest := some s } :: Kg70.days none l else Kg70.days (some { d with part := d.part || decide (Kg70.PART ≤ s.long) }) l)
    else Kg70.days (some { d with driven := d.driven + (if s.kind = 1 then s.long else 0) }) l)
      by_cases k0 : s.kind = 0
      · rw [if_pos k0]
        by_cases c : Kg70.SHORT ≤ s.long
        · rw [if_pos c]
          exact ⟨Nat.le_refl _, i1.mono (by show d.from_ ≤ s.till; omega)⟩
        · rw [if_neg c]
          exact i2 { d with part := d.part || decide (Kg70.PART ≤ s.long) } (by show d.from_ ≤ s.till; omega)
      · rw [if_neg k0]
        exact i2 { d with driven := d.driven + (if s.kind = 1 then s.long else 0) } (by show d.from_ ≤ s.till; omega)
structure CntOk (cnt : Int → Int) (w n : Nat) : Prop where
  now : cnt (w : Int) = (n : Int)
  rest : ∀ k : Nat, w < k → cnt (k : Int) = 0
theorem drv_go : ∀ (l : List Kg70.Day) (acc : List B) (cnt : Int → Int) (w n t : Nat), CntOk cnt w n → w ≤ t / Kg70.WEEK → Later t l →
    ((l.map toD).foldl drvStep (acc, cnt)).1 = acc ++ (twoL (w, n) l).map toB
  | [], acc, _, _, _, _, _, _, _ => (List.append_nil acc).symm
  | d :: l, acc, cnt, w, n, t, hc, hw, hl => by
    obtain ⟨h1, h2⟩ := hl
    have hk : w ≤ d.from_ / Kg70.WEEK := Nat.le_trans hw (Nat.div_le_div_right h1)
    have hcnt : cnt ((d.from_ / Kg70.WEEK : Nat) : Int) = ((if d.from_ / Kg70.WEEK = w then n else 0 : Nat) : Int) := by
      by_cases c : d.from_ / Kg70.WEEK = w
      · rw [if_pos c, c]
        exact hc.now
      · rw [if_neg c]
        exact hc.rest _ (by omega)
    have hb : (toD d).beg / 10080 = ((d.from_ / Kg70.WEEK : Nat) : Int) := by
      show (d.from_ : Int) / 10080 = ((d.from_ / 10080 : Nat) : Int)
      omega
    generalize hm : (if d.from_ / Kg70.WEEK = w then n else 0) = m at hcnt
    show ((l.map toD).foldl drvStep (drvStep (acc, cnt) (toD d))).1 = acc ++ (twoOf (if d.from_ / Kg70.WEEK = w then n else 0) d ++ twoL (d.from_ / Kg70.WEEK, (if d.from_ / Kg70.WEEK = w then n else 0) + if decide (540 < d.driven) = true then 1 else 0) l).map toB
    rw [hm, List.map_append, ← List.append_assoc]
    unfold drvStep
    rw [hb]
    have hdr : (toD d).driving = (d.driven : Int) := rfl
    rw [hdr]
    by_cases c : 540 < d.driven
    · rw [if_pos (show (d.driven : Int) > 540 by omega), if_pos (decide_eq_true c)]
      have hc2 : CntOk (fun k => if k = ((d.from_ / Kg70.WEEK : Nat) : Int) then cnt ((d.from_ / Kg70.WEEK : Nat) : Int) + 1 else cnt k) (d.from_ / Kg70.WEEK) (m + 1) := by
        refine ⟨?_, fun k hk2 => ?_⟩
        · show (if ((d.from_ / Kg70.WEEK : Nat) : Int) = ((d.from_ / Kg70.WEEK : Nat) : Int) then cnt ((d.from_ / Kg70.WEEK : Nat) : Int) + 1 else _) = _
          rw [if_pos rfl, hcnt]
          omega
        · show (if (k : Int) = ((d.from_ / Kg70.WEEK : Nat) : Int) then _ else cnt k) = 0
          rw [if_neg (by omega)]
          exact hc.rest k (by omega)
      refine (drv_go l _ _ (d.from_ / Kg70.WEEK) (m + 1) d.from_ hc2 (Nat.le_refl _) h2).trans ?_
      refine congrArg (· ++ _) ?_
      show (if (d.driven : Int) > 600 then acc ++ [⟨(toD d).beg, 2, (d.driven : Int) - 600⟩] else if cnt ((d.from_ / Kg70.WEEK : Nat) : Int) + 1 > 2 then acc ++ [⟨(toD d).beg, 2, (d.driven : Int) - 540⟩] else acc) = acc ++ (twoOf m d).map toB
      rw [hcnt]
      unfold twoOf
      by_cases c6 : 600 < d.driven
      · rw [if_pos (show (d.driven : Int) > 600 by omega), if_pos c6]
        show acc ++ [⟨(d.from_ : Int), 2, (d.driven : Int) - 600⟩] = acc ++ [⟨(d.from_ : Int), 2, ((d.driven - 600 : Nat) : Int)⟩]
        rw [show (d.driven : Int) - 600 = ((d.driven - 600 : Nat) : Int) by omega]
      · rw [if_neg (show ¬ (d.driven : Int) > 600 by omega), if_neg c6]
        by_cases c2 : 2 ≤ m
        · rw [if_pos (show (m : Int) + 1 > 2 by omega), if_pos ⟨decide_eq_true c, c2⟩]
          show acc ++ [⟨(d.from_ : Int), 2, (d.driven : Int) - 540⟩] = acc ++ [⟨(d.from_ : Int), 2, ((d.driven - 540 : Nat) : Int)⟩]
          rw [show (d.driven : Int) - 540 = ((d.driven - 540 : Nat) : Int) by omega]
        · rw [if_neg (show ¬ (m : Int) + 1 > 2 by omega), if_neg (fun z => c2 z.2)]
          exact (List.append_nil _).symm
    · rw [if_neg (show ¬ (d.driven : Int) > 540 by omega), if_neg (dF c)]
      have hc2 : CntOk cnt (d.from_ / Kg70.WEEK) (m + 0) := ⟨hcnt, fun k hk2 => hc.rest k (by omega)⟩
      refine (drv_go l acc cnt (d.from_ / Kg70.WEEK) (m + 0) d.from_ hc2 (Nat.le_refl _) h2).trans ?_
      refine congrArg (· ++ _) ?_
      have e : twoOf m d = [] := by
        unfold twoOf
        rw [if_neg (by omega), if_neg (fun z => c (of_decide_eq_true z.1))]
      rw [e]
      exact (List.append_nil _).symm
theorem drv_is {l : List Kg70.Day} (h : Later 0 l) : drvB (l.map toD) = (twoL (0, 0) l).map toB := by
  refine (drv_go l [] (fun _ => 0) 0 0 0 ⟨rfl, fun _ _ => rfl⟩ (Nat.zero_le _) h).trans ?_
  exact List.nil_append _
theorem rest_go (e : Nat) : ∀ (l : List Kg70.Day) (acc : List B), (l.map toD).foldl (restStep e) acc = acc ++ (threeL e l).map toB
  | [], acc => (List.append_nil acc).symm
  | d :: l, acc => by
    show (l.map toD).foldl (restStep e) (restStep e acc (toD d)) = acc ++ (threeOf e d ++ threeL e l).map toB
    rw [rest_go e l, List.map_append, ← List.append_assoc]
    refine congrArg (· ++ _) ?_
    unfold restStep threeOf
    rw [state_is, counted_is]
    by_cases c : d.kind e = 2
    · rw [if_pos (show (d.kind e : Int) = 2 by omega), if_pos c]
      have hh : d.had < 540 := by
        unfold Kg70.Day.kind at c
        by_cases c1 : Kg70.LONG ≤ d.had ∨ (Kg70.SHORT ≤ d.had ∧ d.part = true)
        · rw [if_pos c1] at c; omega
        · rw [if_neg c1] at c
          by_cases c2 : Kg70.SHORT ≤ d.had
          · rw [if_pos c2] at c; omega
          · exact Nat.lt_of_not_le c2
      show acc ++ [⟨(d.from_ : Int) + 1440, 3, 540 - (d.had : Int)⟩] = acc ++ [⟨((d.from_ + 1440 : Nat) : Int), 3, ((540 - d.had : Nat) : Int)⟩]
      rw [show 540 - (d.had : Int) = ((540 - d.had : Nat) : Int) by omega]
      rfl
    · rw [if_neg (show ¬ (d.kind e : Int) = 2 by omega), if_neg c]
      exact (List.append_nil _).symm
theorem kind1 {d : Kg70.Day} {e : Nat} (c : d.kind e = 1) : 540 ≤ d.had ∧ d.had < 660 := by
  unfold Kg70.Day.kind at c
  by_cases c1 : Kg70.LONG ≤ d.had ∨ (Kg70.SHORT ≤ d.had ∧ d.part = true)
  · rw [if_pos c1] at c; omega
  · rw [if_neg c1] at c
    by_cases c2 : Kg70.SHORT ≤ d.had
    · exact ⟨c2, Nat.lt_of_not_le fun z => c1 (.inl z)⟩
    · rw [if_neg c2] at c
      split at c <;> omega
theorem short_go (e : Nat) : ∀ (l : List Kg70.Day) (acc : List B) (n : Nat), (∀ d ∈ l, ∀ r, d.rest = some r → r.kind = 0 ∧ r.from_ < r.till) →
    ((l.map toD).foldl (shortStep e) (acc, (n : Int))).1 = acc ++ (fourL e n l).map toB
  | [], acc, _, _ => (List.append_nil acc).symm
  | d :: l, acc, n, h => by
    have ht : ∀ x ∈ l, ∀ r, x.rest = some r → r.kind = 0 ∧ r.from_ < r.till := fun x hx => h x (List.mem_cons_of_mem _ hx)
    show ((l.map toD).foldl (shortStep e) (shortStep e (acc, (n : Int)) (toD d))).1 = acc ++ (fourOf e n d ++ fourL e (if weeklyOf d = true then 0 else sOf e n d) l).map toB
    rw [List.map_append, ← List.append_assoc]
    unfold shortStep
    cases er : d.rest with
    | none =>
      have k1 : ¬ d.kind e = 1 := fun z => by
        have := kind1 z
        have := had_none er
        omega
      have ew : weeklyOf d = false := by unfold weeklyOf; rw [er]
      have es : sOf e n d = n := if_neg (fun z => k1 z.1)
      have ef : fourOf e n d = [] := if_neg (fun z => k1 z.1)
      rw [show (toD d).rest = none from congrArg (Option.map toS) er, ef, ew, es, if_neg Bool.false_ne_true]
      refine (short_go e l acc n ht).trans ?_
      rw [List.map_nil, List.append_nil]
    | some r =>
      obtain ⟨hr0, hr1⟩ := h d List.mem_cons_self r er
      rw [show (toD d).rest = some (toS r) from congrArg (Option.map toS) er]
      dsimp only
      have r1440 := rest_iff hr1 1440
      rw [decide_eq_true hr0, Bool.true_and] at r1440
      rw [show (toS r).isRest 1440 = decide (1440 ≤ r.long) from r1440]
      have ew : weeklyOf d = decide (1440 ≤ r.long) := by unfold weeklyOf; rw [er] <;> rfl
      by_cases c : 1440 ≤ r.long
      · rw [if_pos (decide_eq_true c)]
        have ew' : weeklyOf d = true := ew.trans (decide_eq_true c)
        have ef : fourOf e n d = [] := if_neg (fun z => by rw [ew'] at z; cases z.2.1)
        rw [ef, if_pos ew']
        refine (short_go e l acc 0 ht).trans ?_
        rw [List.map_nil, List.append_nil]
      · rw [if_neg (dF c)]
        have ew' : weeklyOf d = false := ew.trans (decide_eq_false c)
        rw [state_is]
        by_cases k1 : d.kind e = 1
        · rw [if_pos (show (d.kind e : Int) = 1 by omega)]
          have es : sOf e n d = n + 1 := if_pos ⟨k1, ew'⟩
          rw [ew', if_neg Bool.false_ne_true, es]
          refine (short_go e l _ (n + 1) ht).trans ?_
          refine congrArg (· ++ _) ?_
          unfold fourOf
          rw [es]
          by_cases c3 : 3 < n + 1
          · rw [if_pos (show (n : Int) + 1 > 3 by omega), if_pos ⟨k1, ew', c3⟩, counted_is]
            have := kind1 k1
            show acc ++ [⟨(r.from_ : Int), 4, 660 - (d.had : Int)⟩] = acc ++ [⟨(((d.rest.map Kg70.Stretch.from_).getD 0 : Nat) : Int), 4, ((660 - d.had : Nat) : Int)⟩]
            rw [er, show 660 - (d.had : Int) = ((660 - d.had : Nat) : Int) by omega]
            rfl
          · rw [if_neg (show ¬ (n : Int) + 1 > 3 by omega), if_neg (fun z => c3 z.2.2)]
            exact (List.append_nil _).symm
        · rw [if_neg (show ¬ (d.kind e : Int) = 1 by omega)]
          have es : sOf e n d = n := if_neg (fun z => k1 z.1)
          have ef : fourOf e n d = [] := if_neg (fun z => k1 z.1)
          rw [ew', if_neg Bool.false_ne_true, es, ef]
          refine (short_go e l acc n ht).trans ?_
          rw [List.map_nil, List.append_nil]
theorem days_rest : ∀ (l : List Kg70.Stretch), (∀ s ∈ l, s.from_ < s.till) →
    (∀ d ∈ Kg70.days none l, ∀ r, d.rest = some r → r.kind = 0 ∧ r.from_ < r.till) ∧ (∀ o : Kg70.Day, o.rest = none → ∀ d ∈ Kg70.days (some o) l, ∀ r, d.rest = some r → r.kind = 0 ∧ r.from_ < r.till)
  | [], _ => by
    refine ⟨fun d hd => (by cases hd), fun o ho d hd r hr => ?_⟩
    have e : d = o := by simpa [Kg70.days] using hd
    rw [e, ho] at hr
    cases hr
  | s :: l, h => by
    have hs := h s List.mem_cons_self
    obtain ⟨i1, i2⟩ := days_rest l fun x hx => h x (List.mem_cons_of_mem _ hx)
    constructor
    · intro d hd
      have hd' : d ∈ (if s.kind = 0 then Kg70.days none l else Kg70.days (some ⟨s.from_, if s.kind = 1 then s.long else 0, false, none⟩) l) := hd
      by_cases k0 : s.kind = 0
      · rw [if_pos k0] at hd'
        exact i1 d hd'
      · rw [if_neg k0] at hd'
        exact i2 _ rfl d hd'
    · intro o ho d hd
      have hd' : d ∈ (if s.kind = 0 then
      (if Kg70.SHORT ≤ s.long then { o with rest := some s } :: Kg70.days none l else Kg70.days (some { o with part := o.part || decide (Kg70.PART ≤ s.long) }) l)
    else Kg70.days (some { o with driven := o.driven + (if s.kind = 1 then s.long else 0) }) l) := hd
      by_cases k0 : s.kind = 0
      · rw [if_pos k0] at hd'
        by_cases c : Kg70.SHORT ≤ s.long
        · rw [if_pos c] at hd'
          rcases List.mem_cons.mp hd' with e | e
          · intro r hr
            rw [e] at hr
            have hr' : some s = some r := hr
            cases hr'
            exact ⟨k0, hs⟩
          · exact i1 d e
        · rw [if_neg c] at hd'
          exact i2 { o with part := o.part || decide (Kg70.PART ≤ s.long) } ho d hd'
      · rw [if_neg k0] at hd'
        exact i2 { o with driven := o.driven + (if s.kind = 1 then s.long else 0) } ho d hd'
theorem dayB_perm {l : List Kg70.Stretch} (hc : Chain 0 l) (e : Nat) (he : endOf (l.map toS) = (e : Int)) : (dayB (l.map toS)).Perm ((Kg70.perDay e (0, 0) 0 (Kg70.days none l)).map toB) := by
  have hp : ∀ s ∈ l, s.from_ < s.till := fun s hs => (chain_le hc s hs).2.1
  unfold dayB
  rw [days_is hp, he, drv_is (days_later l 0 hc).1]
  rw [show restB ((Kg70.days none l).map toD) (e : Int) = (threeL e (Kg70.days none l)).map toB from (rest_go e _ []).trans (List.nil_append _)]
  rw [show shortB ((Kg70.days none l).map toD) (e : Int) = (fourL e 0 (Kg70.days none l)).map toB from (short_go e _ [] 0 (days_rest l hp).1).trans (List.nil_append _)]
  rw [← List.map_append, ← List.map_append, List.append_assoc]
  exact (perDay_perm e _ (0, 0) 0).symm.map toB
end Dv
namespace Dv
/-! ### the first work, what is behind it -/
theorem first_none : ∀ (l : List Kg70.Stretch), Kg70.firstWork l = none → behN l = [] ∧ ∀ s ∈ l, s.kind = 0
  | [], _ => ⟨rfl, fun _ h => by cases h⟩
  | s :: l, h => by
    have h' : ((s :: l).find? fun s => s.kind != 0).map Kg70.Stretch.from_ = none := h
    rw [List.find?_cons] at h'
    by_cases c : s.kind = 0
    · rw [show (s.kind != 0) = false by simp [c]] at h'
      obtain ⟨q1, q2⟩ := first_none l h'
      refine ⟨?_, fun x hx => ?_⟩
      · show (if s.kind = 0 then behN l else s :: l) = []
        rw [if_pos c]
        exact q1
      · rcases List.mem_cons.mp hx with e | e
        · rw [e]; exact c
        · exact q2 x e
    · rw [show (s.kind != 0) = true by simp [c]] at h'
      cases h'
theorem first_some : ∀ (l : List Kg70.Stretch) (w : Nat), Kg70.firstWork l = some w → ∃ s r, behN l = s :: r ∧ s.from_ = w ∧ s.kind ≠ 0
  | [], _, h => by cases h
  | s :: l, w, h => by
    have h' : ((s :: l).find? fun s => s.kind != 0).map Kg70.Stretch.from_ = some w := h
    rw [List.find?_cons] at h'
    by_cases c : s.kind = 0
    · rw [show (s.kind != 0) = false by simp [c]] at h'
      obtain ⟨s', r, q1, q2, q3⟩ := first_some l w h'
      refine ⟨s', r, ?_, q2, q3⟩
      show (if s.kind = 0 then behN l else s :: l) = s' :: r
      rw [if_pos c]
      exact q1
    · rw [show (s.kind != 0) = true by simp [c]] at h'
      refine ⟨s, l, ?_, Option.some.inj h', c⟩
      show (if s.kind = 0 then behN l else s :: l) = s :: l
      rw [if_neg c]
theorem behind_filter : ∀ (l : List Kg70.Stretch) (t : Nat) (s : Kg70.Stretch) (r : List Kg70.Stretch), Chain t l → behN l = s :: r → l.filter (fun x => decide (s.from_ < x.from_)) = r
  | [], _, _, _, _, h => by cases h
  | x :: l, t, s, r, hc, h => by
    obtain ⟨h1, h2, h3⟩ := hc
    have h' : (if x.kind = 0 then behN l else x :: l) = s :: r := h
    by_cases c : x.kind = 0
    · rw [if_pos c] at h'
      have q := behind_filter l x.till s r h3 h'
      have hs : s ∈ l := behN_sub l s (by rw [h']; exact List.mem_cons_self)
      have := chain_le h3 s hs
      rw [List.filter_cons_of_neg (by rw [decide_eq_true_eq]; omega)]
      exact q
    · rw [if_neg c] at h'
      obtain ⟨e1, e2⟩ := List.cons.inj h'
      subst e1 e2
      rw [List.filter_cons_of_neg (by rw [decide_eq_true_eq]; omega)]
      refine List.filter_eq_self.mpr fun y hy => decide_eq_true ?_
      have := chain_le h3 y hy
      omega
/-! ### weekly rests -/
theorem beqN (a b : Nat) : decide (a = b) = (a == b) := by
  by_cases h : a = b
  · simp [h]
  · simp [h]
theorem weeklyN (l : List Kg70.Stretch) (h : ∀ s ∈ l, s.from_ < s.till) : (l.map toS).filter (fun s => s.isRest 1440) = (l.filter fun s => s.kind == 0 && decide (Kg70.WEEKLY ≤ s.long)).map toS := by
  induction l with
  | nil => rfl
  | cons s l ih =>
    have hs := h s List.mem_cons_self
    have q := ih fun x hx => h x (List.mem_cons_of_mem _ hx)
    have e : (toS s).isRest 1440 = (s.kind == 0 && decide (Kg70.WEEKLY ≤ s.long)) := (rest_iff hs 1440).trans (congrArg (· && decide (1440 ≤ s.long)) (beqN s.kind 0))
    rw [List.map_cons, List.filter_cons, List.filter_cons, e, q]
    cases (s.kind == 0 && decide (Kg70.WEEKLY ≤ s.long)) <;> rfl
theorem weekly_is {l : List Kg70.Stretch} (h : ∀ s ∈ l, s.from_ < s.till) {s : Kg70.Stretch} {r : List Kg70.Stretch} (e : behN l = s :: r) (k : s.kind ≠ 0) :
    weeklyRests (l.map toS) = (Kg70.weekly r).map toS := by
  unfold weeklyRests
  rw [behind_is, weeklyN _ fun x hx => h x (behN_sub l x hx), e, List.filter_cons_of_neg (by simp [k])]
  rfl
theorem weekly_filter (l : List Kg70.Stretch) (p : Kg70.Stretch → Bool) : (Kg70.weekly l).filter p = Kg70.weekly (l.filter p) := by
  unfold Kg70.weekly
  rw [List.filter_filter, List.filter_filter]
  exact List.filter_congr fun x _ => Bool.and_comm _ _
/-! ### rule 5 -/
theorem late_go (e : Nat) : ∀ (l : List Kg70.Stretch) (acc : List B) (w : Nat),
    lateEnd (e : Int) ((l.map toS).foldl lateStep (acc, ((w + 6 * Kg70.DAY : Nat) : Int))) = acc ++ (Kg70.sixDays e w l).map toB
  | [], acc, w => by
    show (if (e : Int) > ((w + 8640 : Nat) : Int) then acc ++ [⟨((w + 8640 : Nat) : Int), 5, (e : Int) - ((w + 8640 : Nat) : Int)⟩] else acc) = acc ++ (if w + 8640 < e then [(⟨5, w + 8640, e - (w + 8640)⟩ : Kg70.Broken)] else []).map toB
    by_cases c : w + 8640 < e
    · rw [if_pos (show (e : Int) > ((w + 8640 : Nat) : Int) by omega), if_pos c]
      rw [show (e : Int) - ((w + 8640 : Nat) : Int) = ((e - (w + 8640) : Nat) : Int) by omega]
      rfl
    · rw [if_neg (show ¬ (e : Int) > ((w + 8640 : Nat) : Int) by omega), if_neg c]
      exact (List.append_nil _).symm
  | s :: l, acc, w => by
    show lateEnd (e : Int) ((l.map toS).foldl lateStep (if (s.from_ : Int) > ((w + 8640 : Nat) : Int) then acc ++ [⟨((w + 8640 : Nat) : Int), 5, (s.from_ : Int) - ((w + 8640 : Nat) : Int)⟩] else acc, (s.till : Int) + 8640)) =
      acc ++ ((if w + 8640 < s.from_ then [(⟨5, w + 8640, s.from_ - (w + 8640)⟩ : Kg70.Broken)] else []) ++ Kg70.sixDays e s.till l).map toB
    rw [show (s.till : Int) + 8640 = ((s.till + 6 * Kg70.DAY : Nat) : Int) by show _ = ((s.till + 8640 : Nat) : Int); omega, late_go e l, List.map_append, ← List.append_assoc]
    refine congrArg (· ++ _) ?_
    by_cases c : w + 8640 < s.from_
    · rw [if_pos (show (s.from_ : Int) > ((w + 8640 : Nat) : Int) by omega), if_pos c]
      rw [show (s.from_ : Int) - ((w + 8640 : Nat) : Int) = ((s.from_ - (w + 8640) : Nat) : Int) by omega]
      rfl
    · rw [if_neg (show ¬ (s.from_ : Int) > ((w + 8640 : Nat) : Int) by omega), if_neg c]
      exact (List.append_nil _).symm
theorem late_is {l : List Kg70.Stretch} (h : ∀ s ∈ l, s.from_ < s.till) {s : Kg70.Stretch} {r : List Kg70.Stretch} (q : behN l = s :: r) (k : s.kind ≠ 0) (e : Nat) :
    lateB (l.map toS) (e : Int) = (Kg70.sixDays e s.from_ (Kg70.weekly r)).map toB := by
  unfold lateB
  rw [behind_is, weekly_is h q k, q]
  show lateEnd (e : Int) (((Kg70.weekly r).map toS).foldl lateStep ([], (s.from_ : Int) + 8640)) = _
  rw [show (s.from_ : Int) + 8640 = ((s.from_ + 6 * Kg70.DAY : Nat) : Int) by show _ = ((s.from_ + 8640 : Nat) : Int); omega, late_go]
  exact List.nil_append _
/-! ### rule 6 -/
theorem short_is {s : Kg70.Stretch} (h : s.from_ < s.till) {e : Nat} (he : s.till ≤ e) : isShort (toS s) (e : Int) = (decide (s.long < Kg70.WHOLE) && s.till != e) := by
  unfold isShort
  rw [toS_long h]
  have e1 : decide ((s.long : Int) < 2700) = decide (s.long < Kg70.WHOLE) := decide_eq_decide.mpr (by show _ ↔ s.long < 2700; omega)
  have e2 : decide ((toS s).fin < (e : Int)) = (s.till != e) := by
    show decide ((s.till : Int) < (e : Int)) = (s.till != e)
    by_cases c : s.till = e
    · subst c
      simp
    · rw [decide_eq_true (show (s.till : Int) < (e : Int) by omega)]
      simp [c]
  rw [e1, e2]
theorem pair_go (e : Nat) : ∀ (l : List Kg70.Stretch) (s : Kg70.Stretch) (acc : List B), (∀ x ∈ s :: l, x.from_ < x.till ∧ x.till ≤ e) →
    (((s :: l).map toS).zip (l.map toS)).foldl (pairStep (e : Int)) acc = acc ++ (Kg70.twoShort e (decide (s.long < Kg70.WHOLE) && s.till != e) l).map toB
  | [], s, acc, _ => (List.append_nil acc).symm
  | r :: l, s, acc, h => by
    have hs := h s List.mem_cons_self
    have hr := h r (List.mem_cons_of_mem _ List.mem_cons_self)
    have ih := pair_go e l r (pairStep (e : Int) acc (toS s, toS r)) fun x hx => h x (List.mem_cons_of_mem _ hx)
    show (((r :: l).map toS).zip (l.map toS)).foldl (pairStep (e : Int)) (pairStep (e : Int) acc (toS s, toS r)) = acc ++ ((if ((decide (s.long < Kg70.WHOLE) && s.till != e) && (decide (r.long < Kg70.WHOLE) && r.till != e)) = true then [(⟨6, r.from_, Kg70.WHOLE - r.long⟩ : Kg70.Broken)] else []) ++ Kg70.twoShort e (decide (r.long < Kg70.WHOLE) && r.till != e) l).map toB
    rw [ih, List.map_append, ← List.append_assoc]
    refine congrArg (· ++ _) ?_
    unfold pairStep
    dsimp only
    rw [short_is hs.1 hs.2, short_is hr.1 hr.2]
    by_cases c : ((decide (s.long < Kg70.WHOLE) && s.till != e) && (decide (r.long < Kg70.WHOLE) && r.till != e)) = true
    · rw [if_pos c, if_pos c, toS_long hr.1]
      have c2 := c
      simp only [Bool.and_eq_true, decide_eq_true_eq] at c2
      have : r.long < 2700 := c2.2.1
      show acc ++ [⟨(r.from_ : Int), 6, 2700 - (r.long : Int)⟩] = acc ++ [⟨(r.from_ : Int), 6, ((2700 - r.long : Nat) : Int)⟩]
      rw [show 2700 - (r.long : Int) = ((2700 - r.long : Nat) : Int) by omega]
    · rw [if_neg c, if_neg c]
      exact (List.append_nil _).symm
theorem twoShort_first (e : Nat) (s : Kg70.Stretch) (l : List Kg70.Stretch) : Kg70.twoShort e false (s :: l) = Kg70.twoShort e (decide (s.long < Kg70.WHOLE) && s.till != e) l := by
  show (if (false && (decide (s.long < Kg70.WHOLE) && s.till != e)) = true then _ else []) ++ _ = _
  rw [Bool.false_and, if_neg Bool.false_ne_true, List.nil_append]
theorem pair_all (e : Nat) : ∀ (l : List Kg70.Stretch), (∀ x ∈ l, x.from_ < x.till ∧ x.till ≤ e) → ((l.map toS).zip ((l.map toS).drop 1)).foldl (pairStep (e : Int)) [] = (Kg70.twoShort e false l).map toB
  | [], _ => rfl
  | s :: l, h => by
    rw [twoShort_first]
    exact (pair_go e l s [] h).trans (List.nil_append _)
/-! ### rule 7 -/
def toL (d : Kg70.Debt) : L := ⟨(d.minutes : Int), (d.by_ : Int), true⟩
theorem spared_is {s : Kg70.Stretch} (h : s.from_ < s.till) (h2 : Kg70.SHORT ≤ s.long) : spared (toS s) = (Kg70.spare s : Int) := by
  unfold spared Kg70.spare
  rw [toS_long h]
  have W : Kg70.WHOLE = 2700 := rfl
  have Y : Kg70.WEEKLY = 1440 := rfl
  have Z : Kg70.SHORT = 540 := rfl
  rw [W, Y, Z]
  rw [Z] at h2
  by_cases c : 2700 ≤ s.long
  · rw [if_pos (show (s.long : Int) ≥ 2700 by omega), if_pos c]
    omega
  · rw [if_neg (show ¬ (s.long : Int) ≥ 2700 by omega), if_neg c]
    by_cases c2 : s.long < 1440
    · rw [if_pos (show (s.long : Int) < 1440 by omega), if_pos c2]
      omega
    · rw [if_neg (show ¬ (s.long : Int) < 1440 by omega), if_neg c2]
      rfl
theorem makeUp_is {s : Kg70.Stretch} (h : s.from_ < s.till) (h2 : Kg70.SHORT ≤ s.long) : ∀ (ls : List L) (ds : List Kg70.Debt), ls.filter (·.opn) = ds.map toL →
    (makeUp (toS s) ls).filter (·.opn) = (Kg70.pay s ds).map toL
  | [], ds, q => by
    cases ds with
    | nil => rfl
    | cons d ds => cases q
  | l :: ls, ds, q => by
    unfold makeUp
    by_cases o : l.opn = true
    · rw [List.filter_cons_of_pos o] at q
      cases ds with
      | nil => cases q
      | cons d ds =>
        obtain ⟨e1, e2⟩ := List.cons.inj q
        subst e1
        have ep : (toL d).pays (toS s) = decide (d.minutes ≤ Kg70.spare s ∧ s.from_ + d.minutes ≤ d.by_) := by
          unfold L.pays
          rw [spared_is h h2, Bool.decide_and]
          show (true && (decide ((d.minutes : Int) ≤ (Kg70.spare s : Int)) && decide ((s.from_ : Int) + (d.minutes : Int) ≤ (d.by_ : Int)))) = _
          rw [Bool.true_and]
          have a1 : decide ((d.minutes : Int) ≤ (Kg70.spare s : Int)) = decide (d.minutes ≤ Kg70.spare s) := decide_eq_decide.mpr (by omega)
          have a2 : decide ((s.from_ : Int) + (d.minutes : Int) ≤ (d.by_ : Int)) = decide (s.from_ + d.minutes ≤ d.by_) := decide_eq_decide.mpr (by omega)
          rw [a1, a2]
        rw [ep]
        show _ = (if d.minutes ≤ Kg70.spare s ∧ s.from_ + d.minutes ≤ d.by_ then ds else d :: Kg70.pay s ds).map toL
        by_cases c : d.minutes ≤ Kg70.spare s ∧ s.from_ + d.minutes ≤ d.by_
        · rw [if_pos (decide_eq_true c), if_pos c, List.filter_cons_of_neg (show ¬ (false = true) from Bool.false_ne_true)]
          exact e2
        · rw [if_neg (dF c), if_neg c, List.filter_cons_of_pos (by rfl)]
          rw [makeUp_is h h2 ls ds e2]
          rfl
    · rw [List.filter_cons_of_neg o] at q
      have ep : ¬ l.pays (toS s) = true := by
        unfold L.pays
        rw [Bool.and_eq_true]
        exact fun z => o z.1
      rw [if_neg ep, List.filter_cons_of_neg o]
      exact makeUp_is h h2 ls ds q
theorem lackEnd (e : Nat) : ∀ (ls : List L) (acc : List B), ls.foldl (lackBStep (e : Int)) acc = acc ++ ((ls.filter (·.opn)).filter fun l => decide (l.deadline ≤ (e : Int))).map fun l => ⟨l.deadline, 7, l.amount⟩
  | [], acc => (List.append_nil acc).symm
  | l :: ls, acc => by
    show ls.foldl (lackBStep (e : Int)) (lackBStep (e : Int) acc l) = _
    rw [lackEnd e ls]
    unfold lackBStep
    by_cases o : l.opn = true
    · rw [List.filter_cons_of_pos o, o, Bool.true_and]
      by_cases c : l.deadline ≤ (e : Int)
      · rw [if_pos (decide_eq_true c), List.filter_cons_of_pos (p := fun l : L => decide (l.deadline ≤ (e : Int))) (decide_eq_true c), List.map_cons, List.append_assoc]
        rfl
      · rw [if_neg (dF c), List.filter_cons_of_neg (p := fun l : L => decide (l.deadline ≤ (e : Int))) (dF c)]
    · rw [List.filter_cons_of_neg o, if_neg (by rw [Bool.and_eq_true]; exact fun z => o z.1)]
theorem lack_go (e : Nat) : ∀ (l : List Kg70.Stretch) (ls : List L) (ds : List Kg70.Debt), (∀ s ∈ l, s.from_ < s.till ∧ s.till ≤ e) → ls.filter (·.opn) = ds.map toL →
    ((l.map toS).foldl (lackStep (e : Int)) ls).foldl (lackBStep (e : Int)) [] = (Kg70.debts e ds l).map toB
  | [], ls, ds, _, q => by
    show ls.foldl (lackBStep (e : Int)) [] = ((ds.filter fun d => decide (d.by_ ≤ e)).map fun d => (⟨7, d.by_, d.minutes⟩ : Kg70.Broken)).map toB
    rw [lackEnd, List.nil_append, q, List.filter_map, List.map_map, List.map_map]
    have ef : ((fun l : L => decide (l.deadline ≤ (e : Int))) ∘ toL) = fun d : Kg70.Debt => decide (d.by_ ≤ e) := funext fun d => decide_eq_decide.mpr (by show (d.by_ : Int) ≤ _ ↔ _; omega)
    rw [ef]
    rfl
  | s :: l, ls, ds, h, q => by
    obtain ⟨hs, he⟩ := h s List.mem_cons_self
    have ht : ∀ x ∈ l, x.from_ < x.till ∧ x.till ≤ e := fun x hx => h x (List.mem_cons_of_mem _ hx)
    show ((l.map toS).foldl (lackStep (e : Int)) (lackStep (e : Int) ls (toS s))).foldl (lackBStep (e : Int)) [] = (if s.kind ≠ 0 ∨ s.long < Kg70.SHORT then Kg70.debts e ds l else
      Kg70.debts e (Kg70.pay s ds ++ if Kg70.WEEKLY ≤ s.long ∧ s.long < Kg70.WHOLE ∧ s.till ≠ e then [(⟨Kg70.WHOLE - s.long, (s.till / Kg70.WEEK + 4) * Kg70.WEEK⟩ : Kg70.Debt)] else []) l).map toB
    unfold lackStep
    have r540 : (toS s).isRest 540 = (decide (s.kind = 0) && decide (540 ≤ s.long)) := rest_iff hs 540
    rw [r540, ← Bool.decide_and]
    by_cases c : s.kind = 0 ∧ 540 ≤ s.long
    · rw [if_pos (decide_eq_true c), if_neg (show ¬ (s.kind ≠ 0 ∨ s.long < Kg70.SHORT) by show ¬ (s.kind ≠ 0 ∨ s.long < 540); omega)]
      have mu := makeUp_is hs (show Kg70.SHORT ≤ s.long from c.2) ls ds q
      have r1440 : (toS s).isRest 1440 = (decide (s.kind = 0) && decide (1440 ≤ s.long)) := rest_iff hs 1440
      rw [r1440, decide_eq_true c.1, Bool.true_and, short_is hs he]
      have ec : (decide (1440 ≤ s.long) && (decide (s.long < Kg70.WHOLE) && s.till != e)) = decide (Kg70.WEEKLY ≤ s.long ∧ s.long < Kg70.WHOLE ∧ s.till ≠ e) := by
        rw [Bool.decide_and, Bool.decide_and]
        refine congrArg (_ && ·) (congrArg (_ && ·) ?_)
        by_cases z : s.till = e <;> simp [z]
      rw [ec]
      by_cases c2 : Kg70.WEEKLY ≤ s.long ∧ s.long < Kg70.WHOLE ∧ s.till ≠ e
      · rw [if_pos (decide_eq_true c2), if_pos c2]
        refine lack_go e l _ _ ht ?_
        rw [List.filter_append, List.map_append, mu]
        refine congrArg (_ ++ ·) ?_
        have hw : s.long < 2700 := c2.2.1
        show [(⟨2700 - (toS s).minutes, ((s.till : Int) / 10080 + 4) * 10080, true⟩ : L)] = [(⟨((2700 - s.long : Nat) : Int), (((s.till / 10080 + 4) * 10080 : Nat) : Int), true⟩ : L)]
        rw [toS_long hs, show 2700 - (s.long : Int) = ((2700 - s.long : Nat) : Int) by omega, show ((s.till : Int) / 10080 + 4) * 10080 = (((s.till / 10080 + 4) * 10080 : Nat) : Int) by omega]
      · rw [if_neg (dF c2), if_neg c2, List.append_nil]
        exact lack_go e l _ _ ht mu
    · rw [if_neg (dF c), if_pos (show s.kind ≠ 0 ∨ s.long < Kg70.SHORT by show s.kind ≠ 0 ∨ s.long < 540; omega)]
      exact lack_go e l ls ds ht q
/-! ### rules 8, 9 -/
theorem drv_term (s : Kg70.Stretch) (k : Nat) (t : Int) : drvIn ((k : Int) * 10080) (((k : Int) + 1) * 10080) t (toS s) = t + ((if s.kind = 1 then min s.till ((k + 1) * Kg70.WEEK) - max s.from_ (k * Kg70.WEEK) else 0 : Nat) : Int) := by
  unfold drvIn
  have W : Kg70.WEEK = 10080 := rfl
  rw [W]
  by_cases c : s.kind = 1
  · rw [if_pos (show (toS s).kind = 1 by show (s.kind : Int) = 1; omega), if_pos c]
    show t + mx 0 (mn (s.till : Int) (((k : Int) + 1) * 10080) - mx (s.from_ : Int) ((k : Int) * 10080)) = _
    refine congrArg (t + ·) ?_
    unfold mx mn
    split <;> split <;> split <;> omega
  · rw [if_neg (show ¬ (toS s).kind = 1 by show ¬ (s.kind : Int) = 1; omega), if_neg c]
    exact (Int.add_zero t).symm
theorem inWeek_go (k : Nat) : ∀ (l : List Kg70.Stretch) (t : Int), (l.map toS).foldl (drvIn ((k : Int) * 10080) (((k : Int) + 1) * 10080)) t = t + (Kg70.inWeek l k : Int)
  | [], t => (Int.add_zero t).symm
  | s :: l, t => by
    show (l.map toS).foldl _ (drvIn _ _ t (toS s)) = _
    rw [drv_term, inWeek_go k l, Int.add_assoc, ← Int.natCast_add]
    rfl
theorem inWeek_is (l : List Kg70.Stretch) (k : Nat) : inWeek (l.map toS) (k : Int) = (Kg70.inWeek l k : Int) := (inWeek_go k l 0).trans (Int.zero_add _)
/-- ahead of the first week there is none -/
theorem before_go : ∀ (l : List Kg70.Stretch) (t : Int), (l.map toS).foldl (drvIn (((0 : Int) - 1) * 10080) ((((0 : Int) - 1) + 1) * 10080)) t = t
  | [], t => rfl
  | s :: l, t => by
    show (l.map toS).foldl _ (drvIn _ _ t (toS s)) = _
    have e : drvIn (((0 : Int) - 1) * 10080) ((((0 : Int) - 1) + 1) * 10080) t (toS s) = t := by
      unfold drvIn
      split
      · show t + mx 0 (mn (s.till : Int) ((((0 : Int) - 1) + 1) * 10080) - mx (s.from_ : Int) (((0 : Int) - 1) * 10080)) = t
        unfold mx mn
        split <;> split <;> split <;> omega
      · rfl
    rw [e, before_go l t]
theorem inWeek_before (l : List Kg70.Stretch) (k : Nat) : inWeek (l.map toS) ((k : Int) - 1) = ((if 0 < k then Kg70.inWeek l (k - 1) else 0 : Nat) : Int) := by
  by_cases c : 0 < k
  · rw [if_pos c, ← inWeek_is, show (k : Int) - 1 = ((k - 1 : Nat) : Int) by omega]
  · have k0 : k = 0 := by omega
    subst k0
    rw [if_neg c]
    exact before_go l 0
def calF (l : List Kg70.Stretch) (k : Nat) : List Kg70.Broken := (if 3360 < Kg70.inWeek l k then [(⟨8, k * Kg70.WEEK, Kg70.inWeek l k - 3360⟩ : Kg70.Broken)] else []) ++
    (if 5400 < (if k = 0 then 0 else Kg70.inWeek l (k - 1)) + Kg70.inWeek l k then [(⟨9, k * Kg70.WEEK, (if k = 0 then 0 else Kg70.inWeek l (k - 1)) + Kg70.inWeek l k - 5400⟩ : Kg70.Broken)] else [])
theorem cal_go (l : List Kg70.Stretch) : ∀ n : Nat, (List.range n).foldl (calStep (l.map toS)) ([], 0) = (((List.range n).flatMap (calF l)).map toB, ((if n = 0 then 0 else Kg70.inWeek l (n - 1) : Nat) : Int))
  | 0 => rfl
  | n + 1 => by
    rw [List.range_succ, List.foldl_append, cal_go l n, List.flatMap_append, List.map_append]
    show calStep (l.map toS) _ n = _
    unfold calStep
    rw [inWeek_is]
    rw [if_neg (Nat.succ_ne_zero n), Nat.add_sub_cancel]
    refine congrArg (·, (Kg70.inWeek l n : Int)) ?_
    generalize hb : (if n = 0 then 0 else Kg70.inWeek l (n - 1)) = b
    generalize hh : Kg70.inWeek l n = h
    have eF : [n].flatMap (calF l) = (if 3360 < h then [(⟨8, n * Kg70.WEEK, h - 3360⟩ : Kg70.Broken)] else []) ++ (if 5400 < b + h then [(⟨9, n * Kg70.WEEK, b + h - 5400⟩ : Kg70.Broken)] else []) := by
      rw [List.flatMap_cons, List.flatMap_nil, List.append_nil]
      unfold calF
      rw [hb, hh]
    rw [eF, List.map_append, List.append_assoc]
    refine congrArg (_ ++ ·) ?_
    have W : ((n * Kg70.WEEK : Nat) : Int) = (n : Int) * 10080 := by show ((n * 10080 : Nat) : Int) = _; omega
    have p1 : (if (h : Int) > 3360 then [(⟨(n : Int) * 10080, 8, (h : Int) - 3360⟩ : B)] else []) = (if 3360 < h then [(⟨8, n * Kg70.WEEK, h - 3360⟩ : Kg70.Broken)] else []).map toB := by
      by_cases c : 3360 < h
      · rw [if_pos (show (h : Int) > 3360 by omega), if_pos c, show (h : Int) - 3360 = ((h - 3360 : Nat) : Int) by omega, ← W]
        rfl
      · rw [if_neg (show ¬ (h : Int) > 3360 by omega), if_neg c]
        rfl
    have p2 : (if (h : Int) + (b : Int) > 5400 then [(⟨(n : Int) * 10080, 9, (h : Int) + (b : Int) - 5400⟩ : B)] else []) = (if 5400 < b + h then [(⟨9, n * Kg70.WEEK, b + h - 5400⟩ : Kg70.Broken)] else []).map toB := by
      by_cases c : 5400 < b + h
      · rw [if_pos (show (h : Int) + (b : Int) > 5400 by omega), if_pos c, show (h : Int) + (b : Int) - 5400 = ((b + h - 5400 : Nat) : Int) by omega, ← W]
        rfl
      · rw [if_neg (show ¬ (h : Int) + (b : Int) > 5400 by omega), if_neg c]
        rfl
    rw [p1, p2]
theorem weeks_is (l : List Kg70.Stretch) (e : Nat) : Kg70.weeks l e = (List.range ((e + Kg70.WEEK - 1) / Kg70.WEEK)).flatMap (calF l) := by
  unfold Kg70.weeks
  exact congrArg (fun f => List.flatMap f (List.range ((e + Kg70.WEEK - 1) / Kg70.WEEK))) (funext fun k => by unfold calF; rfl)
theorem calB_def (l : List S) (e : Int) : calB l e = ((List.range ((e + 10080 - 1) / 10080).toNat).foldl (calStep l) ([], 0)).1 := by
  unfold calB
  rfl
theorem weeks_n (e : Nat) : (((e : Int) + 10080 - 1) / 10080).toNat = (e + Kg70.WEEK - 1) / Kg70.WEEK := by
  have W : Kg70.WEEK = 10080 := rfl
  rw [W]
  omega
theorem cal_is (l : List Kg70.Stretch) (e : Nat) : calB (l.map toS) (e : Int) = (Kg70.weeks l e).map toB := by
  rw [weeks_is, calB_def, weeks_n, cal_go]
end Dv
namespace Dv
/-! ### order -/
theorem ltB_iff {a b : B} : ltB a b = true ↔ a.minute < b.minute ∨ (a.minute = b.minute ∧ (a.rule < b.rule ∨ (a.rule = b.rule ∧ a.amount < b.amount))) := by
  unfold ltB
  simp only [Bool.or_eq_true, Bool.and_eq_true, decide_eq_true_eq]
theorem ltB_no {a b : B} : ltB a b = false ↔ ¬ (a.minute < b.minute ∨ (a.minute = b.minute ∧ (a.rule < b.rule ∨ (a.rule = b.rule ∧ a.amount < b.amount)))) := by
  rw [← ltB_iff]
  cases ltB a b <;> simp
theorem ltB_eq {a b : B} (h1 : ltB a b = false) (h2 : ltB b a = false) : a = b := by
  have q1 := ltB_no.mp h1
  have q2 := ltB_no.mp h2
  obtain ⟨a1, a2, a3⟩ := a
  obtain ⟨b1, b2, b3⟩ := b
  have e1 : a1 = b1 := by dsimp only at q1 q2; omega
  have e2 : a2 = b2 := by dsimp only at q1 q2; omega
  have e3 : a3 = b3 := by dsimp only at q1 q2; omega
  rw [e1, e2, e3]
abbrev SrtB (l : List B) : Prop := l.Pairwise fun a b => ltB b a = false
def putB (x : B) : List B → List B
  | [] => [x]
  | y :: l => if ltB x y = true then x :: y :: l else y :: putB x l
def sortB (l : List B) : List B := l.foldl (fun s x => putB x s) []
theorem putB_perm (x : B) : ∀ l : List B, (putB x l).Perm (x :: l)
  | [] => List.Perm.refl _
  | y :: l => by
    unfold putB
    split
    · exact List.Perm.refl _
    · exact ((putB_perm x l).cons y).trans (List.Perm.swap x y l)
theorem putB_srt (x : B) : ∀ l : List B, SrtB l → SrtB (putB x l)
  | [], _ => List.pairwise_singleton _ _
  | y :: l, h => by
    obtain ⟨h1, h2⟩ := List.pairwise_cons.mp h
    unfold putB
    by_cases c : ltB x y = true
    · rw [if_pos c]
      refine List.pairwise_cons.mpr ⟨fun z hz => ?_, h⟩
      have cx := ltB_iff.mp c
      rcases List.mem_cons.mp hz with e | e
      · rw [e]
        refine ltB_no.mpr ?_
        omega
      · have := ltB_no.mp (h1 z e)
        refine ltB_no.mpr ?_
        omega
    · rw [if_neg c]
      refine List.pairwise_cons.mpr ⟨fun z hz => ?_, putB_srt x l h2⟩
      rcases List.mem_cons.mp ((putB_perm x l).mem_iff.mp hz) with e | e
      · rw [e]
        exact Bool.eq_false_iff.mpr c
      · exact h1 z e
theorem sortB_go : ∀ (l acc : List B), SrtB acc → (l.foldl (fun s x => putB x s) acc).Perm (acc ++ l) ∧ SrtB (l.foldl (fun s x => putB x s) acc)
  | [], acc, h => ⟨by rw [List.append_nil]; exact List.Perm.refl _, h⟩
  | x :: l, acc, h => by
    obtain ⟨q1, q2⟩ := sortB_go l (putB x acc) (putB_srt x acc h)
    refine ⟨q1.trans ?_, q2⟩
    exact (((putB_perm x acc).append_right l).trans (List.perm_middle.symm))
theorem sortB_perm (l : List B) : (sortB l).Perm l := (sortB_go l [] List.Pairwise.nil).1
theorem sortB_srt (l : List B) : SrtB (sortB l) := (sortB_go l [] List.Pairwise.nil).2
theorem srt_uniq : ∀ {l m : List B}, SrtB l → SrtB m → l.Perm m → l = m
  | [], m, _, _, h => (List.Perm.eq_nil h.symm).symm
  | x :: l, [], _, _, h => absurd h.length_eq (by simp)
  | x :: l, y :: m, hl, hm, h => by
    have h1 : ltB x y = false := by
      rcases List.mem_cons.mp (h.mem_iff.mp (List.mem_cons_self (a := x) (l := l))) with e | hx
      · rw [e]
        exact ltB_no.mpr (by omega)
      · exact (List.pairwise_cons.mp hm).1 x hx
    have h2 : ltB y x = false := by
      rcases List.mem_cons.mp (h.mem_iff.mpr (List.mem_cons_self (a := y) (l := m))) with e | hy
      · rw [e]
        exact ltB_no.mpr (by omega)
      · exact (List.pairwise_cons.mp hl).1 y hy
    have e := ltB_eq h1 h2
    subst e
    rw [srt_uniq (List.pairwise_cons.mp hl).2 (List.pairwise_cons.mp hm).2 h.cons_inv]
theorem sortB_of {l m : List B} (h : SrtB m) (p : m.Perm l) : m = sortB l := srt_uniq h (sortB_srt l) (p.trans (sortB_perm l).symm)
theorem before_is (a b : Kg70.Broken) : Kg70.before a b = ltB (toB a) (toB b) := by
  unfold Kg70.before ltB
  show _ = (decide ((a.at_ : Int) < (b.at_ : Int)) || (decide ((a.at_ : Int) = (b.at_ : Int)) && (decide ((a.rule : Int) < (b.rule : Int)) || (decide ((a.rule : Int) = (b.rule : Int)) && decide ((a.minutes : Int) < (b.minutes : Int))))))
  rw [show decide ((a.at_ : Int) < (b.at_ : Int)) = decide (a.at_ < b.at_) from decide_eq_decide.mpr (by omega), show decide ((a.at_ : Int) = (b.at_ : Int)) = (a.at_ == b.at_) from (decide_eq_decide.mpr (by omega)).trans (beqN _ _),
    show decide ((a.rule : Int) < (b.rule : Int)) = decide (a.rule < b.rule) from decide_eq_decide.mpr (by omega), show decide ((a.rule : Int) = (b.rule : Int)) = (a.rule == b.rule) from (decide_eq_decide.mpr (by omega)).trans (beqN _ _),
    show decide ((a.minutes : Int) < (b.minutes : Int)) = decide (a.minutes < b.minutes) from decide_eq_decide.mpr (by omega)]
theorem put_is (x : Kg70.Broken) : ∀ l : List Kg70.Broken, (Kg70.put x l).map toB = putB (toB x) (l.map toB)
  | [] => rfl
  | y :: l => by
    show (if Kg70.before x y = true then x :: y :: l else y :: Kg70.put x l).map toB = (if ltB (toB x) (toB y) = true then toB x :: toB y :: l.map toB else toB y :: putB (toB x) (l.map toB))
    rw [before_is, ← put_is x l]
    split <;> rfl
theorem sorted_is (l : List Kg70.Broken) : (Kg70.sorted l).map toB = sortB (l.map toB) := by
  have go : ∀ (l acc : List Kg70.Broken), (l.foldl (fun s x => Kg70.put x s) acc).map toB = (l.map toB).foldl (fun s x => putB x s) (acc.map toB) := by
    intro l
    induction l with
    | nil => intro acc; rfl
    | cons x l ih =>
      intro acc
      show (l.foldl (fun s x => Kg70.put x s) (Kg70.put x acc)).map toB = (l.map toB).foldl (fun s x => putB x s) (putB (toB x) (acc.map toB))
      rw [ih, put_is]
  exact go l []
/-! ### all that is broken -/
def allN (l : List Kg70.Stretch) (e w : Nat) : List Kg70.Broken :=
  Kg70.breaks Kg70.fresh l ++ (Kg70.perDay e (0, 0) 0 (Kg70.days none l) ++ (Kg70.sixDays e w ((Kg70.weekly l).filter fun r => decide (w < r.from_)) ++ (Kg70.twoShort e false ((Kg70.weekly l).filter fun r => decide (w < r.from_)) ++
      (Kg70.debts e [] (l.filter fun r => decide (w < r.from_)) ++ Kg70.weeks l e))))
theorem found_some {l : List Kg70.Stretch} (hc : Chain 0 l) {w : Nat} (hw : Kg70.firstWork l = some w) (he : endOf (l.map toS) = (endN 0 l : Int)) : (found (l.map toS)).Perm ((allN l (endN 0 l) w).map toB) := by
  have hle : ∀ s ∈ l, s.from_ < s.till ∧ s.till ≤ endN 0 l := fun s hs => ⟨(chain_le hc s hs).2.1, (chain_le hc s hs).2.2⟩
  have hp : ∀ s ∈ l, s.from_ < s.till := fun s hs => (hle s hs).1
  generalize endN 0 l = e at he hle ⊢
  obtain ⟨s, r, q, ew, k⟩ := first_some l w hw
  subst ew
  have hr : ∀ x ∈ r, x ∈ l := fun x hx => behN_sub l x (by rw [q]; exact List.mem_cons_of_mem _ hx)
  have ef := behind_filter l 0 s r hc q
  have e1 : breakB (l.map toS) = (Kg70.breaks Kg70.fresh l).map toB := breakB_is hp
  have e3 : lateB (l.map toS) (e : Int) = (Kg70.sixDays e s.from_ (Kg70.weekly r)).map toB := late_is hp q k e
  have e4 : pairB (l.map toS) (e : Int) = (Kg70.twoShort e false (Kg70.weekly r)).map toB := by
    unfold pairB
    rw [weekly_is hp q k]
    exact pair_all e (Kg70.weekly r) fun x hx => hle x (hr x (List.mem_filter.mp hx).1)
  have e5 : lackB (l.map toS) (e : Int) = (Kg70.debts e [] r).map toB := by
    unfold lackB lacksOf
    rw [behind_is, q, lack_go e (s :: r) [] [] (fun x hx => hle x (behN_sub l x (by rw [q]; exact hx))) rfl]
    show (if s.kind ≠ 0 ∨ s.long < Kg70.SHORT then Kg70.debts e [] r else _).map toB = _
    rw [if_pos (Or.inl k)]
  have e6 : calB (l.map toS) (e : Int) = (Kg70.weeks l e).map toB := cal_is l e
  unfold found weekB allN
  rw [he, e1, e3, e4, e5, e6, weekly_filter, ef]
  simp only [List.map_append, List.append_assoc]
  refine List.Perm.append_left _ ?_
  exact List.Perm.append_right _ (dayB_perm hc e he)
theorem breaks_rest : ∀ (l : List Kg70.Stretch) (r : Kg70.Run), r.over = none → (∀ s ∈ l, s.kind = 0) → Kg70.breaks r l = []
  | [], r, h, _ => by
    show r.ends = []
    unfold Kg70.Run.ends
    rw [h]
  | s :: l, r, h, hk => by
    have k0 := hk s List.mem_cons_self
    rw [breaks_cons]
    have e1 : closedBy r s = [] := by
      unfold closedBy
      split
      · unfold Kg70.Run.ends
        rw [h]
      · rfl
    rw [e1, List.nil_append]
    refine breaks_rest l _ ?_ fun x hx => hk x (List.mem_cons_of_mem _ hx)
    unfold stepRun
    rw [if_pos k0]
    split
    · rfl
    · exact h
theorem inWeek_rest (k : Nat) : ∀ (l : List Kg70.Stretch), (∀ s ∈ l, s.kind = 0) → Kg70.inWeek l k = 0
  | [], _ => rfl
  | s :: l, h => by
    have k0 := h s List.mem_cons_self
    show (if s.kind = 1 then _ else 0) + Kg70.inWeek l k = 0
    rw [if_neg (by omega), inWeek_rest k l fun x hx => h x (List.mem_cons_of_mem _ hx)]
theorem weeks_rest {l : List Kg70.Stretch} (h : ∀ s ∈ l, s.kind = 0) (e : Nat) : Kg70.weeks l e = [] := by
  rw [weeks_is]
  refine List.flatMap_eq_nil_iff.mpr fun k _ => ?_
  unfold calF
  rw [inWeek_rest k l h, inWeek_rest (k - 1) l h, ite_self]
  rfl
theorem found_none {l : List Kg70.Stretch} (hc : Chain 0 l) (hw : Kg70.firstWork l = none) (he : endOf (l.map toS) = (endN 0 l : Int)) : found (l.map toS) = [] := by
  have hp : ∀ s ∈ l, s.from_ < s.till := fun s hs => (chain_le hc s hs).2.1
  generalize endN 0 l = e at he
  obtain ⟨q, hk⟩ := first_none l hw
  have e0 : behindWork (l.map toS) = [] := by rw [behind_is, q] <;> rfl
  have ew : weeklyRests (l.map toS) = [] := by unfold weeklyRests; rw [e0] <;> rfl
  have e1 : breakB (l.map toS) = [] := by rw [breakB_is hp, breaks_rest l Kg70.fresh rfl hk] <;> rfl
  have e2 : dayB (l.map toS) = [] := by
    have p := dayB_perm hc e he
    rw [← days_behN, q] at p
    exact List.Perm.eq_nil p
  have e3 : lateB (l.map toS) (e : Int) = [] := by unfold lateB; rw [e0]
  have e4 : pairB (l.map toS) (e : Int) = [] := by unfold pairB; rw [ew] <;> rfl
  have e5 : lackB (l.map toS) (e : Int) = [] := by unfold lackB lacksOf; rw [e0] <;> rfl
  have e6 : calB (l.map toS) (e : Int) = [] := by rw [cal_is, weeks_rest hk] <;> rfl
  unfold found weekB
  rw [he, e1, e2, e3, e4, e5, e6] <;> rfl
/-! ### the answers -/
def mReport (l : List S) : List Int := ((found l).length : Int) :: (sortB (found l)).flatMap fun b => [b.rule, b.minute, b.amount]
def openStep (st : Int × Int) (d : D) : Int × Int := if d.rest.isNone = true then (d.beg, d.driving) else st
def mNow (l : List S) : List Int :=
  [endOf l, (breaksOf l).driving, if (breaksOf l).part = true then 1 else 0, ((daysOf l).foldl openStep (-1, 0)).1, ((daysOf l).foldl openStep (-1, 0)).2, inWeek l (endOf l / 10080),
    inWeek l (endOf l / 10080) + inWeek l (endOf l / 10080 - 1)]
def mDays (l : List S) : List Int := ((daysOf l).length : Int) :: (daysOf l).flatMap fun d => [d.beg, d.driving, d.counted, d.state (endOf l)]
/-- what's told: whole minutes, none too long -/
structure WT (s : Kg70.Told) : Prop where
  few : s.length ≤ 400
  each : ∀ x ∈ s, 0 < x.2 ∧ x.2 ≤ 20000
theorem WT.pos {s : Kg70.Told} (h : WT s) : PosT s := fun x hx => (h.each x hx).1
theorem total_le : ∀ (s : Kg70.Told), (∀ x ∈ s, 0 < x.2 ∧ x.2 ≤ 20000) → Kg70.total s ≤ 20000 * s.length
  | [], _ => Nat.le_refl _
  | x :: s, h => by
    have q := total_le s fun y hy => h y (List.mem_cons_of_mem _ hy)
    have := (h x List.mem_cons_self).2
    show x.2 + Kg70.total s ≤ 20000 * (s.length + 1)
    omega
theorem report_is {s : Kg70.Told} (h : WT s) : mReport (stretchesOf (s.map toT)) = ((Kg70.report s).length : Int) :: Kg70.whole ((Kg70.report s).flatMap fun b => [b.rule, b.at_, b.minutes]) := by
  have hc := line_chain h.pos
  have he : endOf ((Kg70.line s).map toS) = (endN 0 (Kg70.line s) : Int) := by rw [end_is, line_end]
  rw [stretches_is]
  have key : sortB (found ((Kg70.line s).map toS)) = (Kg70.report s).map toB := by
    cases hw : Kg70.firstWork (Kg70.line s) with
    | none =>
      rw [found_none hc hw he]
      unfold Kg70.report
      dsimp only
      rw [hw]
      rfl
    | some w =>
      have p := found_some hc hw he
      rw [line_end] at p
      have e : Kg70.report s = Kg70.sorted (allN (Kg70.line s) (Kg70.total s) w) := by
        unfold Kg70.report
        dsimp only
        rw [hw]
        rfl
      rw [e, sorted_is]
      exact sortB_of (sortB_srt _) ((sortB_perm _).trans p)
  have len : (found ((Kg70.line s).map toS)).length = (Kg70.report s).length := by
    have := (sortB_perm (found ((Kg70.line s).map toS))).length_eq
    rw [key, List.length_map] at this
    exact this.symm
  unfold mReport
  rw [len, key]
  refine congrArg (_ :: ·) ?_
  unfold Kg70.whole
  generalize Kg70.report s = m
  induction m with
  | nil => rfl
  | cons b m ih =>
    rw [List.map_cons, List.flatMap_cons, List.flatMap_cons, List.map_append, ih]
    rfl
/-- all days but the last one are over -/
def Cl : List Kg70.Day → Prop
  | [] => True
  | [_] => True
  | d :: e :: l => d.rest.isNone = false ∧ Cl (e :: l)
theorem Cl.cons {d : Kg70.Day} {l : List Kg70.Day} (h : d.rest.isNone = false) (q : Cl l) : Cl (d :: l) := by
  cases l with
  | nil => exact True.intro
  | cons e l => exact ⟨h, q⟩
theorem days_cl : ∀ (l : List Kg70.Stretch), Cl (Kg70.days none l) ∧ ∀ d : Kg70.Day, Cl (Kg70.days (some d) l)
  | [] => ⟨True.intro, fun _ => True.intro⟩
  | s :: l => by
    obtain ⟨i1, i2⟩ := days_cl l
    constructor
    · show Cl (if s.kind = 0 then Kg70.days none l else Kg70.days (some ⟨s.from_, if s.kind = 1 then s.long else 0, false, none⟩) l)
      split
      · exact i1
      · exact i2 _
    · intro d
      show Cl (if s.kind = 0 then
      (if Kg70.SHORT ≤ s.long then { d with rest := some s } :: Kg70.days none l else Kg70.days (some { d with part := d.part || decide (Kg70.PART ≤ s.long) }) l)
    else Kg70.days (some { d with driven := d.driven + (if s.kind = 1 then s.long else 0) }) l)
      by_cases c : s.kind = 0
      · rw [if_pos c]
        by_cases c2 : Kg70.SHORT ≤ s.long
        · rw [if_pos c2]
          exact Cl.cons rfl i1
        · rw [if_neg c2]
          exact i2 _
      · rw [if_neg c]
        exact i2 _
theorem toD_none (d : Kg70.Day) : (toD d).rest.isNone = d.rest.isNone := by
  show (d.rest.map toS).isNone = _
  cases d.rest <;> rfl
theorem open_fold : ∀ (l : List Kg70.Day) (st : Int × Int), Cl l → (l.map toD).foldl openStep st = match l.getLast? with
    | some x => if x.rest.isNone = true then ((x.from_ : Int), (x.driven : Int)) else st
    | none => st
  | [], _, _ => rfl
  | [d], st, _ => by
    show (if (toD d).rest.isNone = true then ((toD d).beg, (toD d).driving) else st) = (if d.rest.isNone = true then ((d.from_ : Int), (d.driven : Int)) else st)
    rw [toD_none]
    rfl
  | d :: e :: l, st, h => by
    rw [List.getLast?_cons_cons, ← open_fold (e :: l) st h.2]
    show ((e :: l).map toD).foldl openStep (openStep st (toD d)) = _
    unfold openStep
    rw [toD_none, h.1, if_neg Bool.false_ne_true]
theorem now_is {s : Kg70.Told} (h : WT s) : mNow (stretchesOf (s.map toT)) = (Kg70.spec s .now).2.value :: (Kg70.spec s .now).2.out := by
  have hc := line_chain h.pos
  have hp : ∀ x ∈ Kg70.line s, x.from_ < x.till := fun x hx => (chain_le hc x hx).2.1
  unfold mNow
  rw [stretches_is, end_is, days_is hp, open_fold _ _ (days_cl _).1]
  obtain ⟨l1, l2⟩ := lastRun_is hp
  rw [l1, l2]
  have w1 : (Kg70.total s : Int) / 10080 = ((Kg70.total s / Kg70.WEEK : Nat) : Int) := by
    have W : Kg70.WEEK = 10080 := rfl
    rw [W]
    omega
  rw [w1, inWeek_is, inWeek_before]
  show _ = (Kg70.total s : Int) :: (Kg70.whole [(Kg70.lastRun Kg70.fresh (Kg70.line s)).driven, Kg70.truth (Kg70.lastRun Kg70.fresh (Kg70.line s)).part] ++ _)
  generalize Kg70.lastRun Kg70.fresh (Kg70.line s) = r
  generalize Kg70.inWeek (Kg70.line s) (Kg70.total s / Kg70.WEEK) = a
  rw [Int.add_comm (a : Int)]
  generalize ((if 0 < Kg70.total s / Kg70.WEEK then Kg70.inWeek (Kg70.line s) (Kg70.total s / Kg70.WEEK - 1) else 0 : Nat) : Int) = b
  have ht : (if r.part = true then (1 : Int) else 0) = ((Kg70.truth r.part : Nat) : Int) := by
    unfold Kg70.truth
    split <;> rfl
  rw [ht]
  cases (Kg70.days none (Kg70.line s)).getLast? with
  | none => rfl
  | some x =>
    dsimp only
    by_cases hb : x.rest.isNone = true
    · simp only [if_pos hb]
      rfl
    · simp only [if_neg hb]
      rfl
theorem days_ans {s : Kg70.Told} (h : WT s) : mDays (stretchesOf (s.map toT)) = (Kg70.spec s .days).2.value :: (Kg70.spec s .days).2.out := by
  have hc := line_chain h.pos
  have hp : ∀ x ∈ Kg70.line s, x.from_ < x.till := fun x hx => (chain_le hc x hx).2.1
  unfold mDays
  rw [stretches_is, end_is, days_is hp, List.length_map]
  show _ = ((Kg70.days none (Kg70.line s)).length : Int) :: Kg70.whole ((Kg70.days none (Kg70.line s)).flatMap fun d => [d.from_, d.driven, d.had, d.kind (Kg70.total s)])
  refine congrArg (_ :: ·) ?_
  unfold Kg70.whole
  generalize Kg70.days none (Kg70.line s) = m
  induction m with
  | nil => rfl
  | cons b m ih =>
    rw [List.map_cons, List.flatMap_cons, List.flatMap_cons, List.map_append, ih]
    refine congrArg (· ++ _) ?_
    rw [counted_is, state_is]
    rfl
theorem week_ans {s : Kg70.Told} (k : Nat) : inWeek (stretchesOf (s.map toT)) (k : Int) = (Kg70.inWeek (Kg70.line s) k : Int) := by
  rw [stretches_is, inWeek_is]
end Dv
namespace Dv
/-! ### the calls -/
def pairsOf : List Int → List (Int × Int)
  | k :: n :: l => (k, n) :: pairsOf l
  | _ => []
def okT (x : Int × Int) : Bool := (decide (0 ≤ x.1) && decide (x.1 < 3)) && (decide (1 ≤ x.2) && decide (x.2 ≤ 20000))
def mAdd (t : List (Int × Int)) (row : List Int) : Sum Int (List (Int × Int)) :=
  if row.length % 2 = 0 then (if (pairsOf row).all okT = true then (if t.length + (pairsOf row).length ≤ 400 then .inr (t ++ pairsOf row) else .inl (-5)) else .inl (-1)) else .inl (-1)
def mDrop (t : List (Int × Int)) (n : Int) : Sum Int (List (Int × Int)) := if 0 ≤ n ∧ n ≤ (t.length : Int) then .inr (t.take (t.length - n.toNat)) else .inl (-1)
def withEnd : Sum Int (List (Int × Int)) → Sum Int (List (Int × Int) × List Int)
  | .inl r => .inl r
  | .inr t => .inr (t, [endOf (stretchesOf t)])
def mWeek (t : List (Int × Int)) (k : Int) : Sum Int (List (Int × Int) × List Int) := if 0 ≤ k ∧ k ≤ 1000 then .inr (t, [inWeek (stretchesOf t) k]) else .inl (-1)
def mAns (t : List (Int × Int)) (call number : Int) (row : List Int) : Sum Int (List (Int × Int) × List Int) :=
  if call = 1 then .inr ([], [0])
  else if call = 2 then withEnd (mAdd t row)
  else if call = 3 then withEnd (mDrop t number)
  else if call = 4 then .inr (t, mReport (stretchesOf t))
  else if call = 5 then .inr (t, mNow (stretchesOf t))
  else if call = 6 then .inr (t, mDays (stretchesOf t))
  else mWeek t number
def mStep (t : List (Int × Int)) (call number : Int) (row : List Int) : List (Int × Int) × List Int := match mAns t call number row with
  | .inl r => (t, [r])
  | .inr x => x
theorem pairs_len : ∀ row : List Int, (pairsOf row).length = row.length / 2
  | [] => rfl
  | [x] => by
    show 0 = ([x] : List Int).length / 2
    rw [List.length_singleton]
  | k :: n :: l => by
    show (pairsOf l).length + 1 = (l.length + 1 + 1) / 2
    rw [pairs_len l]
    omega
theorem pairs_get : ∀ (row : List Int) (i : Nat), i < row.length / 2 → ∃ a b, row[2 * i]? = some a ∧ row[2 * i + 1]? = some b ∧ (pairsOf row)[i]? = some (a, b)
  | [], i, h => absurd h (by simp)
  | [_], i, h => absurd h (by simp)
  | k :: n :: l, 0, _ => ⟨k, n, rfl, rfl, rfl⟩
  | k :: n :: l, i + 1, h => by
    obtain ⟨a, b, h1, h2, h3⟩ := pairs_get l i (by rw [List.length_cons, List.length_cons] at h; omega)
    exact ⟨a, b, by rw [show 2 * (i + 1) = 2 * i + 1 + 1 by omega]; exact h1, by rw [show 2 * (i + 1) + 1 = 2 * i + 1 + 1 + 1 by omega]; exact h2, h3⟩
theorem ok_within (k n : Int) : okT (k, n) = (Kg70.within k 0 2 && Kg70.within n 1 20000) := by
  unfold okT Kg70.within
  have e1 : decide (k < 3) = decide (k ≤ 2) := decide_eq_decide.mpr (by omega)
  show ((decide (0 ≤ k) && decide (k < 3)) && (decide (1 ≤ n) && decide (n ≤ 20000))) = _
  rw [e1]
theorem within_iff {z lo hi : Int} : Kg70.within z lo hi = true ↔ lo ≤ z ∧ z ≤ hi := by
  unfold Kg70.within
  rw [Bool.and_eq_true, decide_eq_true_eq, decide_eq_true_eq]
theorem toldOf_is : ∀ row : List Int, (row.length % 2 = 0 ∧ (pairsOf row).all okT = true → ∃ r, Kg70.toldOf row = some r ∧ r.map toT = pairsOf row ∧ ∀ x ∈ r, 0 < x.2 ∧ x.2 ≤ 20000) ∧
    (¬ (row.length % 2 = 0 ∧ (pairsOf row).all okT = true) → Kg70.toldOf row = none)
  | [] => ⟨fun _ => ⟨[], rfl, rfl, fun _ h => (by cases h)⟩, fun h => absurd ⟨rfl, rfl⟩ h⟩
  | [x] => ⟨fun h => absurd h.1 (show ¬ 1 % 2 = 0 by decide), fun _ => rfl⟩
  | k :: n :: l => by
    obtain ⟨i1, i2⟩ := toldOf_is l
    have hp : (pairsOf (k :: n :: l)).all okT = (okT (k, n) && (pairsOf l).all okT) := rfl
    have hl : (k :: n :: l).length % 2 = l.length % 2 := by
      rw [List.length_cons, List.length_cons]
      omega
    rw [hp, hl, ok_within]
    show (_ → ∃ r, (if (Kg70.within k 0 2 && Kg70.within n 1 20000) = true then (Kg70.toldOf l).map fun r => (k.toNat, n.toNat) :: r else none) = some r ∧ r.map toT = (k, n) :: pairsOf l ∧ ∀ x ∈ r, 0 < x.2 ∧ x.2 ≤ 20000) ∧
      (_ → (if (Kg70.within k 0 2 && Kg70.within n 1 20000) = true then (Kg70.toldOf l).map fun r => (k.toNat, n.toNat) :: r else none) = none)
    by_cases c : (Kg70.within k 0 2 && Kg70.within n 1 20000) = true
    · rw [if_pos c, c, Bool.true_and]
      rw [Bool.and_eq_true, within_iff, within_iff] at c
      constructor
      · intro h
        obtain ⟨r, e1, e2, e3⟩ := i1 h
        rw [e1]
        refine ⟨(k.toNat, n.toNat) :: r, rfl, ?_, fun x hx => ?_⟩
        · rw [List.map_cons, e2]
          refine congrArg (· :: _) ?_
          show ((k.toNat : Int), (n.toNat : Int)) = (k, n)
          rw [show (k.toNat : Int) = k by omega, show (n.toNat : Int) = n by omega]
        · rcases List.mem_cons.mp hx with e | e
          · rw [e]
            show 0 < n.toNat ∧ n.toNat ≤ 20000
            omega
          · exact e3 x e
      · intro h
        rw [i2 h]
        rfl
    · rw [if_neg c]
      constructor
      · intro h
        rw [Bool.and_eq_true] at h
        exact absurd h.2.1 c
      · intro _
        rfl
/-- a call's number, whole number, row as the program reads them -/
def argOf : List (List Int) → Int × Int × List Int
  | [[2], r] => (2, 0, r)
  | [[3, n]] => (3, n, [])
  | [[7, n]] => (7, n, [])
  | [[p]] => (p, 0, [])
  | _ => (0, 0, [])
inductive Form : List (List Int) → Prop where
  | begin_ : Form [[1]]
  | add (r : List Int) (h : r.length ≤ 400) : Form [[2], r]
  | drop (n : Int) : Form [[3, n]]
  | report : Form [[4]]
  | now : Form [[5]]
  | days : Form [[6]]
  | week (k : Int) : Form [[7, k]]
theorem form_of {c : List (List Int)} (h : Kg70Neutral.asked1 c = true) : Form c := by
  unfold Kg70Neutral.asked1 at h
  split at h
  · exact .begin_
  · rename_i r
    unfold Kg70Neutral.row at h
    rw [Bool.and_eq_true, decide_eq_true_eq] at h
    exact .add _ h.2
  · exact .drop _
  · exact .report
  · exact .now
  · exact .days
  · exact .week _
  · cases h
theorem whole_same (c : List (List Int)) : PyKg70.whole c = c := by
  unfold PyKg70.whole
  split <;> rfl
theorem take_toT (s : Kg70.Told) (n : Nat) : (s.map toT).take n = (s.take n).map toT := (List.map_take).symm
theorem end_T (s : Kg70.Told) : endOf (stretchesOf (s.map toT)) = (Kg70.total s : Int) := by rw [stretches_is, end_is]
theorem WT.take {s : Kg70.Told} (h : WT s) (n : Nat) : WT (s.take n) := ⟨by have := h.few; rw [List.length_take]; omega, fun x hx => h.each x (List.mem_of_mem_take hx)⟩
theorem WT.nil : WT [] := ⟨by decide, fun _ h => (by cases h)⟩
theorem step_is {c : List (List Int)} (f : Form c) {s : Kg70.Told} (h : WT s) :
    mStep (s.map toT) (argOf c).1 (argOf c).2.1 (argOf c).2.2 = ((Kg70Neutral.step s c).1.map toT, (Kg70Neutral.step s c).2) ∧ WT (Kg70Neutral.step s c).1 := by
  cases f with
  | begin_ => exact ⟨rfl, WT.nil⟩
  | add r hr =>
    obtain ⟨i1, i2⟩ := toldOf_is r
    show (match withEnd (mAdd (s.map toT) r) with | .inl r => (s.map toT, [r]) | .inr x => x) = _ ∧ _
    have st : Kg70Neutral.step s [[2], r] = ((Kg70.spec s (.add r)).1, (Kg70.spec s (.add r)).2.value :: (Kg70.spec s (.add r)).2.out) := rfl
    rw [st]
    unfold mAdd Kg70.spec
    dsimp only
    by_cases c : r.length % 2 = 0 ∧ (pairsOf r).all okT = true
    · obtain ⟨m, e1, e2, e3⟩ := i1 c
      rw [if_pos c.1, if_pos c.2, e1, ← e2, List.length_map, List.length_map]
      dsimp only
      have M : Kg70.MOST = 400 := rfl
      rw [M]
      by_cases c2 : s.length + m.length ≤ 400
      · rw [if_pos c2, if_neg (by omega)]
        refine ⟨?_, ?_⟩
        · show (s.map toT ++ m.map toT, [endOf (stretchesOf (s.map toT ++ m.map toT))]) = ((s ++ m).map toT, [(Kg70.total (s ++ m) : Int)])
          rw [← List.map_append, end_T]
        · refine ⟨by show (s ++ m).length ≤ 400; rw [List.length_append]; exact c2, fun x hx => ?_⟩
          rcases List.mem_append.mp hx with e | e
          · exact h.each x e
          · exact e3 x e
      · rw [if_neg c2, if_pos (by omega)]
        exact ⟨rfl, h⟩
    · rw [i2 c]
      dsimp only
      refine ⟨?_, h⟩
      by_cases c1 : r.length % 2 = 0
      · rw [if_pos c1, if_neg (fun z => c ⟨c1, z⟩)]
        rfl
      · rw [if_neg c1]
        rfl
  | drop n =>
    show (match withEnd (mDrop (s.map toT) n) with | .inl r => (s.map toT, [r]) | .inr x => x) = _ ∧ _
    have st : Kg70Neutral.step s [[3, n]] = ((Kg70.spec s (.drop n)).1, (Kg70.spec s (.drop n)).2.value :: (Kg70.spec s (.drop n)).2.out) := rfl
    rw [st]
    unfold mDrop Kg70.spec
    dsimp only
    rw [List.length_map]
    by_cases c : 0 ≤ n ∧ n ≤ (s.length : Int)
    · rw [if_pos c, if_neg (by rw [within_iff.mpr c]; decide)]
      refine ⟨?_, h.take _⟩
      show ((s.map toT).take (s.length - n.toNat), [endOf (stretchesOf ((s.map toT).take (s.length - n.toNat)))]) = _
      rw [take_toT, end_T]
      rfl
    · have cw : Kg70.within n 0 (s.length : Int) = false := Bool.eq_false_iff.mpr fun z => c (within_iff.mp z)
      rw [if_neg c, if_pos cw]
      exact ⟨rfl, h⟩
  | report =>
    refine ⟨?_, h⟩
    show (s.map toT, mReport (stretchesOf (s.map toT))) = _
    rw [report_is h]
    rfl
  | now =>
    refine ⟨?_, h⟩
    show (s.map toT, mNow (stretchesOf (s.map toT))) = _
    rw [now_is h]
    rfl
  | days =>
    refine ⟨?_, h⟩
    show (s.map toT, mDays (stretchesOf (s.map toT))) = _
    rw [days_ans h]
    rfl
  | week k =>
    show (match mWeek (s.map toT) k with | .inl r => (s.map toT, [r]) | .inr x => x) = _ ∧ _
    have st : Kg70Neutral.step s [[7, k]] = ((Kg70.spec s (.week k)).1, (Kg70.spec s (.week k)).2.value :: (Kg70.spec s (.week k)).2.out) := rfl
    rw [st]
    unfold mWeek Kg70.spec
    dsimp only
    by_cases c : 0 ≤ k ∧ k ≤ 1000
    · rw [if_pos c, if_neg (by rw [within_iff.mpr c]; decide)]
      refine ⟨?_, h⟩
      show (s.map toT, [inWeek (stretchesOf (s.map toT)) k]) = (s.map toT, [(Kg70.inWeek (Kg70.line s) k.toNat : Int)])
      have ek : k = (k.toNat : Int) := by omega
      rw [← week_ans k.toNat, ← ek]
    · have cw : Kg70.within k 0 1000 = false := Bool.eq_false_iff.mpr fun z => c (within_iff.mp z)
      rw [if_neg c, if_pos cw]
      exact ⟨rfl, h⟩
/-! ### a list of calls -/
def behind (s : Kg70.Told) (cs : List (List (List Int))) : Kg70.Told := cs.foldl (fun s c => (Kg70Neutral.step s c).1) s
theorem played_app : ∀ (p q : List (List (List Int))) (s : Kg70.Told), PyFlat.played Kg70Neutral.step s (p ++ q) = PyFlat.played Kg70Neutral.step s p ++ PyFlat.played Kg70Neutral.step (behind s p) q
  | [], _, _ => rfl
  | c :: p, q, s => congrArg (_ :: ·) (played_app p q (Kg70Neutral.step s c).1)
theorem told_app (p q : List (List Int)) : PyFlat.told (p ++ q) = PyFlat.told p ++ PyFlat.told q := List.flatMap_append
theorem put_app : ∀ (p q : List (List (List Int))), PyFlat.put (p ++ q) = PyFlat.put p ++ PyFlat.put q
  | [], _ => rfl
  | c :: p, q => by
    show PyFlat.put1 c ++ PyFlat.put (p ++ q) = (PyFlat.put1 c ++ PyFlat.put p) ++ PyFlat.put q
    rw [put_app p q, List.append_assoc]
theorem behind_wt : ∀ (p : List (List (List Int))) (s : Kg70.Told), WT s → (∀ c ∈ p, Form c) → WT (behind s p)
  | [], _, h, _ => h
  | c :: p, _, h, hf => behind_wt p _ (step_is (hf c List.mem_cons_self) h).2 fun x hx => hf x (List.mem_cons_of_mem _ hx)
structure Given (ns : List Int) (cs : List (List (List Int))) : Prop where
  put : ns = PyFlat.put cs
  form : ∀ c ∈ cs, Form c
  ans : PyKg70.answers ns = PyFlat.told (PyFlat.played Kg70Neutral.step [] cs)
  few : (PyKg70.answers ns).length ≤ 10000000
theorem given_of {ns : List Int} (h : PyKg70.answers_asked ns = true) : ∃ cs, Given ns cs := by
  unfold PyKg70.answers_asked at h
  cases e : PyFlat.calls PyKg70.shape ns.length ns with
  | none =>
    rw [e] at h
    cases h
  | some cs =>
    rw [e] at h
    dsimp only at h
    rw [Bool.and_eq_true, Bool.and_eq_true] at h
    have hw : cs.map PyKg70.whole = cs := by
      rw [show PyKg70.whole = id from funext whole_same, List.map_id]
    refine ⟨cs, (PyFlat.put_calls _ _ _ e).1, fun c hc => ?_, ?_, ?_⟩
    · have ha := h.1.2
      rw [hw] at ha
      unfold Kg70Neutral.asked at ha
      rw [Bool.and_eq_true, List.all_eq_true] at ha
      exact form_of (ha.1 c hc)
    · unfold PyKg70.answers PyKg70.calls
      rw [e]
      dsimp only
      rw [hw]
      rfl
    · have hs := h.2
      unfold PyFlat.short at hs
      exact of_decide_eq_true hs
end Dv
/-! ### a def of the text, what it promises: the address hidden -/
namespace Dv
open PySem PySem.Spec PyProof.Rows L2 Evl
structure DefF (K : PySem.W.Frag) (mg : Str → Option Value) (x : Str) (st : Stmt) (ps : List Str) : Prop where
  ex : ∃ f fd, Fun K x x st f fd ∧ mg x = some (.ref f) ∧ Binds K fd ps []
structure DefM (K : PySem.W.Frag) (C : Addr) (m q : Str) (st : Stmt) (ps : List Str) : Prop where
  ex : ∃ f fd, Fun K m q st f fd ∧ Meth K C m f ∧ Binds K fd ps []
structure DefI (K : PySem.W.Frag) (C : Addr) (q : Str) (st : Stmt) (ps : List Str) : Prop where
  ex : ∃ f fd, Fun K "__init__" q st f fd ∧ Mk K C f ∧ Binds K fd ps []
section
variable (P : Program) (w : World) (K : PySem.W.Frag) (mg : Str → Option Value) (base : Heap) (CX : CXT) (k : Nat)
structure CallP (x : Str) (ps : List Str) (sp : Sp) : Prop where
  ex : ∃ f fd, FnOk P w K mg base CX k f fd ps sp ∧ mg x = some (.ref f) ∧ PySem.W.keepIn K (.ref f) = true ∧ Binds K fd ps []
structure MethP (C : Addr) (m : Str) (ps : List Str) (sp : Sp) : Prop where
  ex : ∃ f fd, FnOk P w K mg base CX k f fd ps sp ∧ Meth K C m f ∧ Binds K fd ps []
structure MakeP (C : Addr) (ps : List Str) (sp : Sp) : Prop where
  ex : ∃ f fd, FnOk P w K mg base CX k f fd ps sp ∧ Mk K C f ∧ Binds K fd ps []
end
section
variable {P : Program} {w : World} {K : PySem.W.Frag} {mg : Str → Option Value} {base : Heap} {x m q : Str} {C : Addr} {st : Stmt} {N ps : List Str} {k : Nat} {sp : Sp}
/-- a body and its reading, for a def that lets nothing out -/
abbrev Body (P : Program) (w : World) (K : PySem.W.Frag) (mg : Str → Option Value) (base : Heap) (N : List Str) (q : Str) (st : Stmt) (k : Nat) (sp : Sp) : Prop :=
  ∀ (f : Addr) (cdv : Value) (A : Around) (outer : List Env) (s : Shared) (H : Hp) (vs : List V) (Q : VK) (E : XK), Room k (A.deeper (envOfC q (defScope st) s.heap.objs.size f cdv)) → sp vs H Q E →
    ∃ t, PSs (cxOf CX0 P w K mg base N q (defScope st) f cdv A outer s H E).nox (defBody st) t ∧ t { nx := fun _ H' => Q .non H', rt := Q } (start N vs) H
/-- the same for one that may raise -/
abbrev BodyX (P : Program) (w : World) (K : PySem.W.Frag) (mg : Str → Option Value) (base : Heap) (N : List Str) (q : Str) (st : Stmt) (k : Nat) (sp : Sp) : Prop :=
  ∀ (f : Addr) (cdv : Value) (A : Around) (outer : List Env) (s : Shared) (H : Hp) (vs : List V) (Q : VK) (E : XK), Room k (A.deeper (envOfC q (defScope st) s.heap.objs.size f cdv)) → sp vs H Q E →
    ∃ t, PSs (cxOf (L2.CX P w) P w K mg base N q (defScope st) f cdv A outer s H E) (defBody st) t ∧ t { nx := fun _ H' => Q .non H', rt := Q } (start N vs) H
abbrev Len (sp : Sp) (ps : List Str) : Prop := ∀ vs H Q E, sp vs H Q E → vs.length = ps.length
theorem DefF.ok (D : DefF K mg x st ps) (S : FnScope N ps (defScope st)) (len : Len sp ps) (hb : Body P w K mg base N x st k sp) : CallP P w K mg base CX0 (k + 1) x ps sp := by
  obtain ⟨f, fd, F, hm, b⟩ := D.ex
  exact ⟨f, fd, F.ok S len (hb f), hm, F.kp, b⟩
theorem DefF.okX (D : DefF K mg x st ps) (S : FnScope N ps (defScope st)) (len : Len sp ps) (hb : BodyX P w K mg base N x st k sp) : CallP P w K mg base (L2.CX P w) (k + 1) x ps sp := by
  obtain ⟨f, fd, F, hm, b⟩ := D.ex
  exact ⟨f, fd, F.okX S len (hb f), hm, F.kp, b⟩
theorem DefM.ok (D : DefM K C m q st ps) (S : FnScope N ps (defScope st)) (len : Len sp ps) (hb : Body P w K mg base N q st k sp) : MethP P w K mg base CX0 (k + 1) C m ps sp := by
  obtain ⟨f, fd, F, hm, b⟩ := D.ex
  exact ⟨f, fd, F.ok S len (hb f), hm, b⟩
theorem DefM.okX (D : DefM K C m q st ps) (S : FnScope N ps (defScope st)) (len : Len sp ps) (hb : BodyX P w K mg base N q st k sp) : MethP P w K mg base (L2.CX P w) (k + 1) C m ps sp := by
  obtain ⟨f, fd, F, hm, b⟩ := D.ex
  exact ⟨f, fd, F.okX S len (hb f), hm, b⟩
theorem DefI.ok (D : DefI K C q st ps) (S : FnScope N ps (defScope st)) (len : Len sp ps) (hb : Body P w K mg base N q st k sp) : MakeP P w K mg base CX0 (k + 1) C ps sp := by
  obtain ⟨f, fd, F, hm, b⟩ := D.ex
  exact ⟨f, fd, F.ok S len (hb f), hm, b⟩
end
/-! ### the rules by promises -/
section
variable {X : Cx} {CX : CXT} {k : Nat} {C : Addr} {ps : List Str} {sp : Sp} {E : XK} {x m : Str} {p pos apos : Pos} {e o : Expr} {es : List Expr} {ta : TE} {t : TA}
theorem pe_callP (G : CallP X.prog X.w X.K X.mg X.base CX k x ps sp) (hr : Room k X.A) (hg : Gl X x) (hx : Passes CX X E) (ha : PA X (e :: es) t) (hdb : (x == ("__debug__" : Str)) = false := by decide)
    (he : starEach (e :: es) X.env = (false, eval e X.env) :: starEach es X.env := by rfl) (hpl : (backTo pos (starEach es X.env)).any (·.1) = false := by rfl) :
    PE X (.Call (.Name x p) (e :: es) [] pos) (tCall sp [] E t) := by
  obtain ⟨f, fd, F, hm, hk, b⟩ := G.ex
  exact pe_call F hr hg hm hk b .nil hx ha hdb he hpl
theorem pe_methP {pl : Sem Bool} (he : PE X o ta) (c : Cls X.K C) (G : MethP X.prog X.w X.K X.mg X.base CX k C m ps sp) (hr : Room k X.A) (hx : Passes CX X E) (ha : PA X (e :: es) t)
    (hst : starEach (e :: es) X.env = (false, eval e X.env) :: starEach es X.env := by rfl) (hpl : (backTo pos (starEach es X.env)).any (·.1) = false := by rfl)
    (ht : eval (.Call (.Attribute o m apos) (e :: es) [] pos) X.env = (do
      let ov ← eval o X.env
      standAt apos.atName
      let (f, first) ← holding [ov] (getMethod ov m pl)
      callWith pos f first (backTo pos (starEach (e :: es) X.env)) (backToKw pos (keywordEach [] X.env))) := by rfl) :
    PE X (.Call (.Attribute o m apos) (e :: es) [] pos) (tMeth C m sp [] E ta t) := by
  obtain ⟨f, fd, F, hm, b⟩ := G.ex
  exact pe_meth he c hm F hr b .nil hx ha hst hpl ht
theorem pe_methP0 {pl : Sem Bool} (he : PE X o ta) (c : Cls X.K C) (G : MethP X.prog X.w X.K X.mg X.base CX k C m ps sp) (hr : Room k X.A) (hx : Passes CX X E)
    (ht : eval (.Call (.Attribute o m apos) [] [] pos) X.env = (do
      let ov ← eval o X.env
      standAt apos.atName
      let (f, first) ← holding [ov] (getMethod ov m pl)
      callWith pos f first (backTo pos (starEach [] X.env)) (backToKw pos (keywordEach [] X.env))) := by rfl) :
    PE X (.Call (.Attribute o m apos) [] [] pos) (tMeth C m sp [] E ta tNil) := by
  obtain ⟨f, fd, F, hm, b⟩ := G.ex
  exact pe_meth0 he c hm F hr b .nil hx ht
theorem pe_makeP (G : MakeP X.prog X.w X.K X.mg X.base CX k C ps sp) (hm : X.mg x = some (.ref C)) (hr : Room (k + 1) X.A) (hg : Gl X x) (hx : Passes CX X E) (ha : PA X (e :: es) t) (hdb : (x == ("__debug__" : Str)) = false := by decide)
    (he : starEach (e :: es) X.env = (false, eval e X.env) :: starEach es X.env := by rfl) (hpl : (backTo pos (starEach es X.env)).any (·.1) = false := by rfl) :
    PE X (.Call (.Name x p) (e :: es) [] pos) (tMake C sp [] E t) := by
  obtain ⟨f, fd, F, M, b⟩ := G.ex
  exact pe_make M F hr hg hm b .nil hx ha hdb he hpl
theorem pe_makeP0 (G : MakeP X.prog X.w X.K X.mg X.base CX k C ps sp) (hm : X.mg x = some (.ref C)) (hr : Room (k + 1) X.A) (hg : Gl X x) (hx : Passes CX X E) (hdb : (x == ("__debug__" : Str)) = false := by decide) :
    PE X (.Call (.Name x p) [] [] pos) (tMake C sp [] E tNil) := by
  obtain ⟨f, fd, F, M, b⟩ := G.ex
  exact pe_make0 M F hr hg hm b .nil hx hdb
/-- a module's whole number -/
theorem pe_gi {n : Int} (h : ∃ t, X.mg x = some (.int n t)) (hg : Gl X x) (hdb : (x == ("__debug__" : Str)) = false := by decide) : PE X (.Name x pos) (tC (.int n)) := by
  obtain ⟨t, h⟩ := h
  exact pe_glob hg h ⟨t, rfl⟩ hdb
end
/-! ### what evaluates to what -/
/-- a value with a property -/
def EvP (te : TE) (σ : L2.St) (H : Hp) (R : V → Hp → Prop) : Prop := ∀ H1, Ex H H1 → ∀ Q : VK, (∀ v H2, Ex H1 H2 → R v H2 → Q v H2) → te σ H1 Q
/-- a new object with a property -/
def EvN (te : TE) (σ : L2.St) (H : Hp) (R : Addr → Hp → Prop) : Prop := ∀ H1, Ex H H1 → ∀ Q : VK, (∀ p H2, H1 p = none → Ex H1 H2 → R p H2 → Q (.ref p) H2) → te σ H1 Q
section
variable {K : PySem.W.Frag} {σ : L2.St} {H H' : Hp} {ta tb te : TE} {t u : TT} {x y z v : V} {a C dx : Addr} {fs : List (Str × V)} {f m : Str} {sp : Sp} {E : XK} {dvs vs : List V} {tas : TA} {R : Addr → Hp → Prop}
theorem ev_fld (h : Ev ta σ H (.ref a)) (ho : H a = some (.ins C dx fs)) (hc : Cls K C) (hn : NoAttr K C f) (hl : fs.lookup f = some v) : Ev (tFld K ta f) σ H v := fun H1 e Q q =>
  h H1 e _ fun H2 e2 => ⟨a, C, dx, fs, v, rfl, e2 _ _ (e _ _ ho), hc, hn, hl, q H2 e2⟩
theorem ev_meth (h : Ev ta σ H (.ref a)) (ho : H a = some (.ins C dx fs)) (hm : fs.lookup m = none) (hv : EvA tas σ H vs) (hs : SpV sp (.ref a :: (vs ++ dvs)) H z) : Ev (tMeth C m sp dvs E ta tas) σ H z := fun H1 e Q q =>
  h H1 e _ fun H2 e2 => ⟨a, dx, fs, rfl, e2 _ _ (e _ _ ho), hm, hv H2 (e.trans e2) _ fun H3 e3 => hs H3 ((e.trans e2).trans e3) Q (fun H4 e4 => q H4 ((e2.trans e3).trans e4)) E⟩
def SpN (sp : Sp) (vs : List V) (H : Hp) (R : Addr → Hp → Prop) : Prop := ∀ H1, Ex H H1 → ∀ Q : VK, (∀ p H2, H1 p = none → Ex H1 H2 → R p H2 → Q (.ref p) H2) → ∀ E : XK, sp vs H1 Q E
theorem en_meth (h : Ev ta σ H (.ref a)) (ho : H a = some (.ins C dx fs)) (hm : fs.lookup m = none) (hv : EvA tas σ H vs) (hs : SpN sp (.ref a :: (vs ++ dvs)) H R) : EvN (tMeth C m sp dvs E ta tas) σ H R := fun H1 e Q q =>
  h H1 e _ fun H2 e2 => ⟨a, dx, fs, rfl, e2 _ _ (e _ _ ho), hm, hv H2 (e.trans e2) _ fun H3 e3 => hs H3 ((e.trans e2).trans e3) Q (fun p H4 hp e4 r => q p H4 (fresh_back (e2.trans e3) hp) ((e2.trans e3).trans e4) r) E⟩
theorem en_call (hv : EvA tas σ H vs) (hs : SpN sp (vs ++ dvs) H R) : EvN (tCall sp dvs E tas) σ H R := fun H1 e Q q =>
  hv H1 e _ fun H2 e2 => hs H2 (e.trans e2) Q (fun p H3 hp e3 r => q p H3 (fresh_back e2 hp) (e2.trans e3) r) E
/-- a new instance whose __init__ sets just the fields fs -/
def SpI (sp : Sp) (C : Addr) (vs : List V) (H : Hp) (fs : List (Str × V)) : Prop := ∀ H1, Ex H H1 → ∀ (Q : VK) (x dx : Addr) (E : XK), H1 x = some (.ins C dx []) → Q .non (upd H1 x (.ins C dx fs)) → sp (.ref x :: vs) H1 Q E
theorem en_make {ta : TA} (hv : EvA ta σ H vs) (hs : SpI sp C (vs ++ dvs) H fs) : EvN (tMake C sp dvs E ta) σ H fun x H2 => ∃ dx, H2 x = some (.ins C dx fs) := fun H1 e Q q =>
  hv H1 e _ fun H2 e2 x dx nx nd ne => by
    have e3 : Ex H2 (upd (upd H2 dx (.own x)) x (.ins C dx [])) := fun b o h => by
      rw [upd_ne (ne_of_none h nx), upd_ne (ne_of_none h nd)]
      exact h
    refine hs _ ((e.trans e2).trans e3) _ x dx E upd_same ⟨rfl, ?_⟩
    rw [upd_upd]
    refine q x _ (fresh_back e2 nx) (e2.trans fun b o h => ?_) ⟨dx, upd_same⟩
    rw [upd_ne (ne_of_none h nx), upd_ne (ne_of_none h nd)]
    exact h
theorem ev_eqI {i j : Int} : RV rEq (.int i) (.int j) H (.bl (decide (i = j))) := fun H1 _ Q q => ⟨rfl, by
  have e : decide (V.int i = V.int j) = decide (i = j) := decide_eq_decide.mpr ⟨fun h => V.int.inj h, fun h => h ▸ rfl⟩
  rw [e]
  exact q H1 (Ex.refl H1)⟩
theorem ev_neI {i j : Int} : RV rNe (.int i) (.int j) H (.bl (!decide (i = j))) := fun H1 _ Q q => ⟨rfl, by
  have e : decide (V.int i = V.int j) = decide (i = j) := decide_eq_decide.mpr ⟨fun h => V.int.inj h, fun h => h ▸ rfl⟩
  rw [e]
  exact q H1 (Ex.refl H1)⟩
theorem EvN.mono {R : Addr → Hp → Prop} (e : Ex H H') (h : EvN te σ H R) : EvN te σ H' R := fun H1 a Q q => h H1 (e.trans a) Q q
/-! ### statements -/
variable {D : Ends} {ts tw tz : TS}
theorem s_asgN {i : Nat} (h : EvN te σ H R) (k : ∀ p H1, H p = none → Ex H H1 → R p H1 → D.nx (σ.set i (some (.ref p))) H1) : tAsg te (gName i) D σ H := h H (Ex.refl H) _ fun p H1 hp e r => k p H1 hp e r
theorem q_asgN {i : Nat} (h : EvN te σ H R) (k : ∀ p H1, H p = none → Ex H H1 → R p H1 → tz D (σ.set i (some (.ref p))) H1) : tSeq (tAsg te (gName i)) tz D σ H := h H (Ex.refl H) _ fun p H1 hp e r => k p H1 hp e r
theorem s_retN {D : Ends} (h : EvN te σ H R) (k : ∀ p H1, H p = none → Ex H H1 → R p H1 → D.rt (.ref p) H1) : tRet te D σ H := h H (Ex.refl H) _ fun p H1 hp e r => k p H1 hp e r
/-- xs.append(a new object) -/
theorem s_appN {l : Addr} {xs : List V} (hl : H l = some (.lst xs)) (ha : Ev ta σ H (.ref l)) (h : EvN te σ H R) (hz : xs.length < 100000) (k : ∀ p H1, H p = none → Ex H H1 → R p H1 → D.nx σ (upd H1 l (.lst (xs ++ [.ref p])))) :
    tDrop (tBM K "list" rAppend ta (tCons te tNil)) D σ H := ha H (Ex.refl H) _ fun H1 e1 =>
  ⟨Or.inl ⟨rfl, xs, sq_of (e1 l _ hl)⟩, h H1 e1 _ fun p H2 hp e2 r => ⟨l, xs, .ref p, rfl, rfl, e2 l _ (e1 l _ hl), sz_lt hz, k p H2 (fresh_back e1 hp) (e1.trans e2) r⟩⟩
theorem q_appN {l : Addr} {xs : List V} (hl : H l = some (.lst xs)) (ha : Ev ta σ H (.ref l)) (h : EvN te σ H R) (hz : xs.length < 100000) (k : ∀ p H1, H p = none → Ex H H1 → R p H1 → tz D σ (upd H1 l (.lst (xs ++ [.ref p])))) :
    tSeq (tDrop (tBM K "list" rAppend ta (tCons te tNil))) tz D σ H := s_appN (D := { D with nx := tz D }) hl ha h hz k
/-- self.f = v -/
theorem s_fld (hv : Ev tb σ H v) (h : Ev ta σ H (.ref a)) (ho : H a = some (.ins C dx fs)) (hc : Cls K C) (hn : NoAttr K C f) (hl : fs.length < 1000) (k : ∀ H1, Ex H H1 → D.nx σ (upd H1 a (.ins C dx (putF f v fs)))) : sFld K ta tb f D σ H :=
  hv H (Ex.refl H) _ fun H1 e1 => h H1 e1 _ fun H2 e2 => ⟨a, C, dx, fs, rfl, e2 _ _ (e1 _ _ ho), hc, hn, hl, k H2 (e1.trans e2)⟩
theorem q_fld (hv : Ev tb σ H v) (h : Ev ta σ H (.ref a)) (ho : H a = some (.ins C dx fs)) (hc : Cls K C) (hn : NoAttr K C f) (hl : fs.length < 1000) (k : ∀ H1, Ex H H1 → tz D σ (upd H1 a (.ins C dx (putF f v fs)))) : tSeq (sFld K ta tb f) tz D σ H :=
  s_fld (D := { D with nx := tz D }) hv h ho hc hn hl k
/-- self.f += v, whole numbers -/
theorem s_fldaug {i j : Int} (h : Ev ta σ H (.ref a)) (ho : H a = some (.ins C dx fs)) (hc : Cls K C) (hn : NoAttr K C f) (hk : fs.lookup f = some (.int i)) (hv : Ev tb σ H (.int j)) (hl : fs.length < 1000) (k : ∀ H1, Ex H H1 → D.nx σ (upd H1 a (.ins C dx (putF f (.int (i + j)) fs)))) :
    sFldAug K ta tb rAdd f D σ H :=
  h H (Ex.refl H) _ fun H1 e1 => ⟨a, C, dx, fs, .int i, rfl, e1 _ _ ho, hc, hn, hk, hv H1 e1 _ fun H2 e2 => ⟨i, j, rfl, rfl, dx, fs, e2 _ _ (e1 _ _ ho), hl, k H2 (e1.trans e2)⟩⟩
end
/-! ### lists of objects -/
def All2 {α : Type} (F : Addr → α → Prop) : List Addr → List α → Prop
  | [], [] => True
  | a :: as, x :: xs => F a x ∧ All2 F as xs
  | _, _ => False
section
variable {α : Type} {F G : Addr → α → Prop}
theorem All2.mono (h : ∀ a x, F a x → G a x) : ∀ {as : List Addr} {xs : List α}, All2 F as xs → All2 G as xs
  | [], [], _ => True.intro
  | _ :: _, _ :: _, q => ⟨h _ _ q.1, All2.mono h q.2⟩
  | [], _ :: _, q => q.elim
  | _ :: _, [], q => q.elim
theorem All2.monoM : ∀ {as : List Addr} {xs : List α}, (∀ a x, a ∈ as → F a x → G a x) → All2 F as xs → All2 G as xs
  | [], [], _, _ => True.intro
  | a :: as, _ :: _, h, q => ⟨h _ _ List.mem_cons_self q.1, All2.monoM (fun b x hb => h b x (List.mem_cons_of_mem _ hb)) q.2⟩
  | [], _ :: _, _, q => q.elim
  | _ :: _, [], _, q => q.elim
theorem All2.len : ∀ {as : List Addr} {xs : List α}, All2 F as xs → as.length = xs.length
  | [], [], _ => rfl
  | _ :: _, _ :: _, q => congrArg (· + 1) (All2.len q.2)
  | [], _ :: _, q => q.elim
  | _ :: _, [], q => q.elim
theorem All2.app : ∀ {as bs : List Addr} {xs ys : List α}, All2 F as xs → All2 F bs ys → All2 F (as ++ bs) (xs ++ ys)
  | [], _, [], _, _, r => r
  | _ :: _, _, _ :: _, _, q, r => ⟨q.1, All2.app q.2 r⟩
  | [], _, _ :: _, _, q, _ => q.elim
  | _ :: _, _, [], _, q, _ => q.elim
theorem All2.snoc {as : List Addr} {xs : List α} {a : Addr} {x : α} (q : All2 F as xs) (h : F a x) : All2 F (as ++ [a]) (xs ++ [x]) := q.app ⟨h, True.intro⟩
theorem All2.get : ∀ {as : List Addr} {xs : List α} {i : Nat} {x : α}, All2 F as xs → xs[i]? = some x → ∃ a, as[i]? = some a ∧ F a x
  | [], [], _, _, _, h => by simp at h
  | a :: as, y :: ys, 0, x, q, h => ⟨a, rfl, by
      have e : y = x := Option.some.inj h
      rw [← e]
      exact q.1⟩
  | a :: as, y :: ys, i + 1, x, q, h => by
    obtain ⟨b, h1, h2⟩ := All2.get (i := i) q.2 (by simpa using h)
    exact ⟨b, by simpa using h1, h2⟩
  | [], _ :: _, _, _, q, _ => q.elim
  | _ :: _, [], _, _, q, _ => q.elim
theorem All2.drop : ∀ {as : List Addr} {xs : List α} (n : Nat), All2 F as xs → All2 F (as.drop n) (xs.drop n)
  | _, _, 0, q => q
  | [], [], _ + 1, _ => True.intro
  | _ :: _, _ :: _, n + 1, q => All2.drop n q.2
  | [], _ :: _, _ + 1, q => q.elim
  | _ :: _, [], _ + 1, q => q.elim
theorem All2.take : ∀ {as : List Addr} {xs : List α} (n : Nat), All2 F as xs → All2 F (as.take n) (xs.take n)
  | [], [], 0, _ => True.intro
  | _ :: _, _ :: _, 0, _ => True.intro
  | [], [], _ + 1, _ => True.intro
  | _ :: _, _ :: _, n + 1, q => ⟨q.1, All2.take n q.2⟩
  | [], _ :: _, _, q => q.elim
  | _ :: _, [], _, q => q.elim
/-- the last one apart -/
theorem All2.last {as : List Addr} {xs : List α} {x : α} (q : All2 F as (xs ++ [x])) : ∃ bs b, as = bs ++ [b] ∧ All2 F bs xs ∧ F b x := by
  induction xs generalizing as with
  | nil =>
    match as, q with
    | [b], q => exact ⟨[], b, rfl, True.intro, q.1⟩
    | b :: c :: as, q => exact q.2.elim
  | cons y ys ih =>
    match as, q with
    | a :: as, q =>
      obtain ⟨bs, b, e, h1, h2⟩ := ih q.2
      exact ⟨a :: bs, b, by rw [e] <;> rfl, ⟨q.1, h1⟩, h2⟩
theorem All2.nil_iff {as : List Addr} (q : All2 F as ([] : List α)) : as = [] := by
  match as, q with
  | [], _ => rfl
end
abbrev refs (as : List Addr) : List V := as.map V.ref
theorem refs_snoc (as : List Addr) (a : Addr) : refs (as ++ [a]) = refs as ++ [.ref a] := List.map_append
theorem refs_len (as : List Addr) : (refs as).length = as.length := List.length_map _
/-- a list of objects at p -/
def LO {α : Type} (F : Hp → Addr → α → Prop) (H : Hp) (p : Addr) (xs : List α) : Prop := ∃ as, H p = some (.lst (refs as)) ∧ All2 (F H) as xs
/-- walked: pre is the part gone through -/
theorem for_objsG {α : Type} {F : Hp → Addr → α → Prop} {K : PySem.W.Frag} {a : Addr} {as : List Addr} {xs : List α} {g : TG} {tb : TS} {D : Ends} {σ : L2.St} {H : Hp} (Pv : List α → L2.St → Hp → Prop) (h0 : Pv [] σ H)
    (hl : ∀ pre σ H, Pv pre σ H → SqL K H a (refs as) ∧ All2 (F H) as xs)
    (hs : ∀ pre x post b σ H, xs = pre ++ x :: post → Pv pre σ H → F H b x → g (.ref b) σ H fun σ2 H2 => tb { D with nx := Pv (pre ++ [x]), ct := Pv (pre ++ [x]), bk := D.nx } σ2 H2) (hd : ∀ σ H, Pv xs σ H → D.nx σ H) :
    ∃ W : Nat → Nat → L2.St → Hp → Prop, (∃ m, W 0 m σ H) ∧ ∀ i m σ H, W i m σ H →
      ((Itl K a).stop i H ∧ D.nx σ H) ∨ ((Itl K a).go i H ∧ ∃ N : L2.St → Hp → Prop, (∀ σ' H', N σ' H' → ∃ m', m' < m ∧ W (i + 1) m' σ' H') ∧ ∀ x H', (Itl K a).yld i H x H' → g x σ H' fun σ2 H2 => tb { D with nx := N, ct := N, bk := D.nx } σ2 H2) := by
  have len : as.length = xs.length := (hl [] σ H h0).2.len
  refine for_list (K := K) (a := a) (xs := refs as) (fun i σ H => Pv (xs.take i) σ H) (by rw [List.take_zero]; exact h0) (fun i σ H _ p => (hl _ _ _ p).1) (fun i v σ H hi p => ?_) (fun σ H p => hd σ H ?_)
  · have hil : i < xs.length := by
      have := (List.getElem?_eq_some_iff.mp hi).1
      rw [refs_len, len] at this
      exact this
    have hx : xs[i]? = some xs[i] := List.getElem?_eq_getElem hil
    obtain ⟨b, hb, hF⟩ := (hl _ _ _ p).2.get hx
    have ev : v = .ref b := by
      rw [List.getElem?_map, hb] at hi
      exact (Option.some.inj hi).symm
    subst ev
    have e1 : xs = xs.take i ++ xs[i] :: xs.drop (i + 1) := by
      rw [List.getElem_cons_drop, List.take_append_drop]
    have e2 : xs.take (i + 1) = xs.take i ++ [xs[i]] := by
      rw [List.take_add_one, hx]
      rfl
    rw [e2]
    exact hs _ _ _ b σ H e1 p hF
  · rw [refs_len, len, List.take_length] at p
    exact p
theorem for_objs {α : Type} {F : Hp → Addr → α → Prop} {K : PySem.W.Frag} {a : Addr} {as : List Addr} {xs : List α} {j : Nat} {tb : TS} {D : Ends} {σ : L2.St} {H : Hp} (Pv : List α → L2.St → Hp → Prop) (h0 : Pv [] σ H)
    (hl : ∀ pre σ H, Pv pre σ H → SqL K H a (refs as) ∧ All2 (F H) as xs)
    (hs : ∀ pre x post b σ H, xs = pre ++ x :: post → Pv pre σ H → F H b x → tb { D with nx := Pv (pre ++ [x]), ct := Pv (pre ++ [x]), bk := D.nx } (σ.set j (some (.ref b))) H) (hd : ∀ σ H, Pv xs σ H → D.nx σ H) :
    ∃ W : Nat → Nat → L2.St → Hp → Prop, (∃ m, W 0 m σ H) ∧ ∀ i m σ H, W i m σ H →
      ((Itl K a).stop i H ∧ D.nx σ H) ∨ ((Itl K a).go i H ∧ ∃ N : L2.St → Hp → Prop, (∀ σ' H', N σ' H' → ∃ m', m' < m ∧ W (i + 1) m' σ' H') ∧ ∀ x H', (Itl K a).yld i H x H' → gName j x σ H' fun σ2 H2 => tb { D with nx := N, ct := N, bk := D.nx } σ2 H2) :=
  for_objsG Pv h0 hl hs hd
/-! ### looking fields up -/
theorem lk_here {k : Str} {v : V} {r : List (Str × V)} : List.lookup k ((k, v) :: r) = some v := by
  have e : (k == k) = true := beq_self_eq_true k
  simp only [List.lookup, e]
theorem lk_past {k g : Str} {v : V} {r : List (Str × V)} (h : (k == g) = false) : List.lookup k ((g, v) :: r) = List.lookup k r := by
  simp only [List.lookup, h]
theorem put_here {f : Str} {v x : V} {r : List (Str × V)} : putF f v ((f, x) :: r) = (f, v) :: r := if_pos rfl
theorem put_past {f g : Str} {v x : V} {r : List (Str × V)} (h : ¬ g = f) : putF f v ((g, x) :: r) = (g, x) :: putF f v r := if_neg h
theorem put_nil {f : Str} {v : V} : putF f v [] = [(f, v)] := rfl
/-! ### what lists keep -/
def isLst : HO → Bool
  | .lst _ => true
  | .dK _ => true
  | _ => false
/-- all but lists and dicts is as it was -/
def Kp (H H' : Hp) : Prop := ∀ b o, H b = some o → isLst o = false → H' b = some o
theorem Kp.refl (H : Hp) : Kp H H := fun _ _ h _ => h
theorem Kp.trans {H H1 H2 : Hp} (a : Kp H H1) (b : Kp H1 H2) : Kp H H2 := fun c o h n => b c o (a c o h n) n
theorem Kp.of {H H1 : Hp} (a : Ex H H1) : Kp H H1 := fun c o h _ => a c o h
theorem Kp.lst {H H1 : Hp} {l : Addr} {xs ys : List V} (a : Kp H H1) (h : H l = some (.lst xs)) : Kp H (upd H1 l (.lst ys)) := fun c o hc n => by
  have ne : c ≠ l := fun z => by
    rw [z, h] at hc
    cases hc
    cases n
  rw [upd_ne ne]
  exact a c o hc n
theorem Kp.dk {H H1 : Hp} {l : Addr} {xs ys : List (Key × V)} (a : Kp H H1) (h : H l = some (.dK xs)) : Kp H (upd H1 l (.dK ys)) := fun c o hc n => by
  have ne : c ≠ l := fun z => by
    rw [z, h] at hc
    cases hc
    cases n
  rw [upd_ne ne]
  exact a c o hc n
/-- a list that H does not know may change -/
theorem Ex.upd {H H1 : Hp} {l : Addr} {o : HO} (a : Ex H H1) (h : H l = none) : Ex H (upd H1 l o) := Ex.mut a h
end Dv
/-! ### the text: its defs by places, their names by slots (printed by gen.py) -/
namespace Dv
open PySem PySem.Spec PyProof.Rows L2 Evl
def top (i : Nat) : Stmt := PySem.Challenge.pw_drivershours_s01_answers.main.body.getD i (.Pass ⟨0, 0, 0, 0⟩)
abbrev s_S_init : Stmt := inClass (top 4) 0
abbrev N_S_init : List Str := ["self", "kind", "begin", "end"]
abbrev P_S_init : List Str := ["self", "kind", "begin", "end"]
theorem sc_S_init : FnScope N_S_init P_S_init (defScope s_S_init) := ⟨rfl, rfl, rfl, by decide +kernel, rfl, by decide +kernel, by decide +kernel⟩
abbrev s_S_minutes : Stmt := inClass (top 4) 1
abbrev N_S_minutes : List Str := ["self"]
abbrev P_S_minutes : List Str := ["self"]
theorem sc_S_minutes : FnScope N_S_minutes P_S_minutes (defScope s_S_minutes) := ⟨rfl, rfl, rfl, by decide +kernel, rfl, by decide +kernel, by decide +kernel⟩
abbrev s_S_is_rest : Stmt := inClass (top 4) 2
abbrev N_S_is_rest : List Str := ["self", "least"]
abbrev P_S_is_rest : List Str := ["self", "least"]
theorem sc_S_is_rest : FnScope N_S_is_rest P_S_is_rest (defScope s_S_is_rest) := ⟨rfl, rfl, rfl, by decide +kernel, rfl, by decide +kernel, by decide +kernel⟩
abbrev s_B_init : Stmt := inClass (top 5) 0
abbrev N_B_init : List Str := ["self", "minute", "rule", "amount"]
abbrev P_B_init : List Str := ["self", "minute", "rule", "amount"]
theorem sc_B_init : FnScope N_B_init P_B_init (defScope s_B_init) := ⟨rfl, rfl, rfl, by decide +kernel, rfl, by decide +kernel, by decide +kernel⟩
abbrev s_B_key : Stmt := inClass (top 5) 1
abbrev N_B_key : List Str := ["self"]
abbrev P_B_key : List Str := ["self"]
theorem sc_B_key : FnScope N_B_key P_B_key (defScope s_B_key) := ⟨rfl, rfl, rfl, by decide +kernel, rfl, by decide +kernel, by decide +kernel⟩
abbrev s_stretches_of : Stmt := top 6
abbrev N_stretches_of : List Str := ["told", "found", "at", "kind", "minutes", "last"]
abbrev P_stretches_of : List Str := ["told"]
theorem sc_stretches_of : FnScope N_stretches_of P_stretches_of (defScope s_stretches_of) := ⟨rfl, rfl, rfl, by decide +kernel, rfl, by decide +kernel, by decide +kernel⟩
abbrev s_end_of : Stmt := top 7
abbrev N_end_of : List Str := ["stretches"]
abbrev P_end_of : List Str := ["stretches"]
theorem sc_end_of : FnScope N_end_of P_end_of (defScope s_end_of) := ⟨rfl, rfl, rfl, by decide +kernel, rfl, by decide +kernel, by decide +kernel⟩
abbrev s_first_work : Stmt := top 8
abbrev N_first_work : List Str := ["stretches", "place", "one"]
abbrev P_first_work : List Str := ["stretches"]
theorem sc_first_work : FnScope N_first_work P_first_work (defScope s_first_work) := ⟨rfl, rfl, rfl, by decide +kernel, rfl, by decide +kernel, by decide +kernel⟩
abbrev s_behind_work : Stmt := top 9
abbrev N_behind_work : List Str := ["stretches", "place"]
abbrev P_behind_work : List Str := ["stretches"]
theorem sc_behind_work : FnScope N_behind_work P_behind_work (defScope s_behind_work) := ⟨rfl, rfl, rfl, by decide +kernel, rfl, by decide +kernel, by decide +kernel⟩
abbrev s_driving_in : Stmt := top 10
abbrev N_driving_in : List Str := ["stretches", "begin", "end", "total", "one"]
abbrev P_driving_in : List Str := ["stretches", "begin", "end"]
theorem sc_driving_in : FnScope N_driving_in P_driving_in (defScope s_driving_in) := ⟨rfl, rfl, rfl, by decide +kernel, rfl, by decide +kernel, by decide +kernel⟩
abbrev s_driving_in_week : Stmt := top 11
abbrev N_driving_in_week : List Str := ["stretches", "week"]
abbrev P_driving_in_week : List Str := ["stretches", "week"]
theorem sc_driving_in_week : FnScope N_driving_in_week P_driving_in_week (defScope s_driving_in_week) := ⟨rfl, rfl, rfl, by decide +kernel, rfl, by decide +kernel, by decide +kernel⟩
abbrev s_Br_init : Stmt := inClass (top 18) 0
abbrev N_Br_init : List Str := ["self"]
abbrev P_Br_init : List Str := ["self"]
theorem sc_Br_init : FnScope N_Br_init P_Br_init (defScope s_Br_init) := ⟨rfl, rfl, rfl, by decide +kernel, rfl, by decide +kernel, by decide +kernel⟩
abbrev s_Br_close : Stmt := inClass (top 18) 1
abbrev N_Br_close : List Str := ["self"]
abbrev P_Br_close : List Str := ["self"]
theorem sc_Br_close : FnScope N_Br_close P_Br_close (defScope s_Br_close) := ⟨rfl, rfl, rfl, by decide +kernel, rfl, by decide +kernel, by decide +kernel⟩
abbrev s_Br_take_rest : Stmt := inClass (top 18) 2
abbrev N_Br_take_rest : List Str := ["self", "one"]
abbrev P_Br_take_rest : List Str := ["self", "one"]
theorem sc_Br_take_rest : FnScope N_Br_take_rest P_Br_take_rest (defScope s_Br_take_rest) := ⟨rfl, rfl, rfl, by decide +kernel, rfl, by decide +kernel, by decide +kernel⟩
abbrev s_Br_drive : Stmt := inClass (top 18) 3
abbrev N_Br_drive : List Str := ["self", "one"]
abbrev P_Br_drive : List Str := ["self", "one"]
theorem sc_Br_drive : FnScope N_Br_drive P_Br_drive (defScope s_Br_drive) := ⟨rfl, rfl, rfl, by decide +kernel, rfl, by decide +kernel, by decide +kernel⟩
abbrev s_Br_take : Stmt := inClass (top 18) 4
abbrev N_Br_take : List Str := ["self", "one"]
abbrev P_Br_take : List Str := ["self", "one"]
theorem sc_Br_take : FnScope N_Br_take P_Br_take (defScope s_Br_take) := ⟨rfl, rfl, rfl, by decide +kernel, rfl, by decide +kernel, by decide +kernel⟩
abbrev s_breaks_of : Stmt := top 19
abbrev N_breaks_of : List Str := ["stretches", "found", "one"]
abbrev P_breaks_of : List Str := ["stretches"]
theorem sc_breaks_of : FnScope N_breaks_of P_breaks_of (defScope s_breaks_of) := ⟨rfl, rfl, rfl, by decide +kernel, rfl, by decide +kernel, by decide +kernel⟩
abbrev s_break_breaches : Stmt := top 20
abbrev N_break_breaches : List Str := ["stretches", "found"]
abbrev P_break_breaches : List Str := ["stretches"]
theorem sc_break_breaches : FnScope N_break_breaches P_break_breaches (defScope s_break_breaches) := ⟨rfl, rfl, rfl, by decide +kernel, rfl, by decide +kernel, by decide +kernel⟩
abbrev s_D_init : Stmt := inClass (top 38) 0
abbrev N_D_init : List Str := ["self", "begin"]
abbrev P_D_init : List Str := ["self", "begin"]
theorem sc_D_init : FnScope N_D_init P_D_init (defScope s_D_init) := ⟨rfl, rfl, rfl, by decide +kernel, rfl, by decide +kernel, by decide +kernel⟩
abbrev s_D_counted : Stmt := inClass (top 38) 1
abbrev N_D_counted : List Str := ["self"]
abbrev P_D_counted : List Str := ["self"]
theorem sc_D_counted : FnScope N_D_counted P_D_counted (defScope s_D_counted) := ⟨rfl, rfl, rfl, by decide +kernel, rfl, by decide +kernel, by decide +kernel⟩
abbrev s_D_state : Stmt := inClass (top 38) 2
abbrev N_D_state : List Str := ["self", "end"]
abbrev P_D_state : List Str := ["self", "end"]
theorem sc_D_state : FnScope N_D_state P_D_state (defScope s_D_state) := ⟨rfl, rfl, rfl, by decide +kernel, rfl, by decide +kernel, by decide +kernel⟩
abbrev s_days_of : Stmt := top 39
abbrev N_days_of : List Str := ["stretches", "found", "is_open", "one", "day"]
abbrev P_days_of : List Str := ["stretches"]
theorem sc_days_of : FnScope N_days_of P_days_of (defScope s_days_of) := ⟨rfl, rfl, rfl, by decide +kernel, rfl, by decide +kernel, by decide +kernel⟩
abbrev s_driving_breaches : Stmt := top 40
abbrev N_driving_breaches : List Str := ["days", "found", "long_ones", "day", "week"]
abbrev P_driving_breaches : List Str := ["days"]
theorem sc_driving_breaches : FnScope N_driving_breaches P_driving_breaches (defScope s_driving_breaches) := ⟨rfl, rfl, rfl, by decide +kernel, rfl, by decide +kernel, by decide +kernel⟩
abbrev s_rest_breaches : Stmt := top 41
abbrev N_rest_breaches : List Str := ["days", "end", "found", "day"]
abbrev P_rest_breaches : List Str := ["days", "end"]
theorem sc_rest_breaches : FnScope N_rest_breaches P_rest_breaches (defScope s_rest_breaches) := ⟨rfl, rfl, rfl, by decide +kernel, rfl, by decide +kernel, by decide +kernel⟩
abbrev s_short_breaches : Stmt := top 42
abbrev N_short_breaches : List Str := ["days", "end", "found", "many", "day"]
abbrev P_short_breaches : List Str := ["days", "end"]
theorem sc_short_breaches : FnScope N_short_breaches P_short_breaches (defScope s_short_breaches) := ⟨rfl, rfl, rfl, by decide +kernel, rfl, by decide +kernel, by decide +kernel⟩
abbrev s_day_breaches : Stmt := top 43
abbrev N_day_breaches : List Str := ["stretches", "days", "end"]
abbrev P_day_breaches : List Str := ["stretches"]
theorem sc_day_breaches : FnScope N_day_breaches P_day_breaches (defScope s_day_breaches) := ⟨rfl, rfl, rfl, by decide +kernel, rfl, by decide +kernel, by decide +kernel⟩
abbrev s_L_init : Stmt := inClass (top 52) 0
abbrev N_L_init : List Str := ["self", "amount", "deadline"]
abbrev P_L_init : List Str := ["self", "amount", "deadline"]
theorem sc_L_init : FnScope N_L_init P_L_init (defScope s_L_init) := ⟨rfl, rfl, rfl, by decide +kernel, rfl, by decide +kernel, by decide +kernel⟩
abbrev s_weekly_rests : Stmt := top 53
abbrev N_weekly_rests : List Str := ["stretches", "one"]
abbrev P_weekly_rests : List Str := ["stretches"]
theorem sc_weekly_rests : FnScope N_weekly_rests P_weekly_rests (defScope s_weekly_rests) := ⟨rfl, rfl, rfl, by decide +kernel, rfl, by decide +kernel, by decide +kernel⟩
abbrev s_is_short : Stmt := top 54
abbrev N_is_short : List Str := ["one", "end"]
abbrev P_is_short : List Str := ["one", "end"]
theorem sc_is_short : FnScope N_is_short P_is_short (defScope s_is_short) := ⟨rfl, rfl, rfl, by decide +kernel, rfl, by decide +kernel, by decide +kernel⟩
abbrev s_late_breaches : Stmt := top 55
abbrev N_late_breaches : List Str := ["stretches", "end", "found", "there", "latest", "one"]
abbrev P_late_breaches : List Str := ["stretches", "end"]
theorem sc_late_breaches : FnScope N_late_breaches P_late_breaches (defScope s_late_breaches) := ⟨rfl, rfl, rfl, by decide +kernel, rfl, by decide +kernel, by decide +kernel⟩
abbrev s_pair_breaches : Stmt := top 56
abbrev N_pair_breaches : List Str := ["stretches", "end", "found", "rests", "one", "other"]
abbrev P_pair_breaches : List Str := ["stretches", "end"]
theorem sc_pair_breaches : FnScope N_pair_breaches P_pair_breaches (defScope s_pair_breaches) := ⟨rfl, rfl, rfl, by decide +kernel, rfl, by decide +kernel, by decide +kernel⟩
abbrev s_spared : Stmt := top 57
abbrev N_spared : List Str := ["one"]
abbrev P_spared : List Str := ["one"]
theorem sc_spared : FnScope N_spared P_spared (defScope s_spared) := ⟨rfl, rfl, rfl, by decide +kernel, rfl, by decide +kernel, by decide +kernel⟩
abbrev s_make_up : Stmt := top 58
abbrev N_make_up : List Str := ["lacks", "one", "lack"]
abbrev P_make_up : List Str := ["lacks", "one"]
theorem sc_make_up : FnScope N_make_up P_make_up (defScope s_make_up) := ⟨rfl, rfl, rfl, by decide +kernel, rfl, by decide +kernel, by decide +kernel⟩
abbrev s_lacks_of : Stmt := top 59
abbrev N_lacks_of : List Str := ["stretches", "end", "lacks", "one", "week"]
abbrev P_lacks_of : List Str := ["stretches", "end"]
theorem sc_lacks_of : FnScope N_lacks_of P_lacks_of (defScope s_lacks_of) := ⟨rfl, rfl, rfl, by decide +kernel, rfl, by decide +kernel, by decide +kernel⟩
abbrev s_lack_breaches : Stmt := top 60
abbrev N_lack_breaches : List Str := ["stretches", "end", "found", "lack"]
abbrev P_lack_breaches : List Str := ["stretches", "end"]
theorem sc_lack_breaches : FnScope N_lack_breaches P_lack_breaches (defScope s_lack_breaches) := ⟨rfl, rfl, rfl, by decide +kernel, rfl, by decide +kernel, by decide +kernel⟩
abbrev s_calendar_breaches : Stmt := top 61
abbrev N_calendar_breaches : List Str := ["stretches", "end", "found", "before", "week", "here"]
abbrev P_calendar_breaches : List Str := ["stretches", "end"]
theorem sc_calendar_breaches : FnScope N_calendar_breaches P_calendar_breaches (defScope s_calendar_breaches) := ⟨rfl, rfl, rfl, by decide +kernel, rfl, by decide +kernel, by decide +kernel⟩
abbrev s_week_breaches : Stmt := top 62
abbrev N_week_breaches : List Str := ["stretches", "end", "found"]
abbrev P_week_breaches : List Str := ["stretches"]
theorem sc_week_breaches : FnScope N_week_breaches P_week_breaches (defScope s_week_breaches) := ⟨rfl, rfl, rfl, by decide +kernel, rfl, by decide +kernel, by decide +kernel⟩
abbrev s_R_init : Stmt := inClass (top 73) 0
abbrev N_R_init : List Str := ["self", "refusal"]
abbrev P_R_init : List Str := ["self", "refusal"]
theorem sc_R_init : FnScope N_R_init P_R_init (defScope s_R_init) := ⟨rfl, rfl, rfl, by decide +kernel, rfl, by decide +kernel, by decide +kernel⟩
abbrev s_ask : Stmt := top 74
abbrev N_ask : List Str := ["good", "refusal"]
abbrev P_ask : List Str := ["good", "refusal"]
theorem sc_ask : FnScope N_ask P_ask (defScope s_ask) := ⟨rfl, rfl, rfl, by decide +kernel, rfl, by decide +kernel, by decide +kernel⟩
abbrev s_K_init : Stmt := inClass (top 75) 0
abbrev N_K_init : List Str := ["self"]
abbrev P_K_init : List Str := ["self"]
theorem sc_K_init : FnScope N_K_init P_K_init (defScope s_K_init) := ⟨rfl, rfl, rfl, by decide +kernel, rfl, by decide +kernel, by decide +kernel⟩
abbrev s_K_stretches : Stmt := inClass (top 75) 1
abbrev N_K_stretches : List Str := ["self"]
abbrev P_K_stretches : List Str := ["self"]
theorem sc_K_stretches : FnScope N_K_stretches P_K_stretches (defScope s_K_stretches) := ⟨rfl, rfl, rfl, by decide +kernel, rfl, by decide +kernel, by decide +kernel⟩
abbrev s_K_last_minute : Stmt := inClass (top 75) 2
abbrev N_K_last_minute : List Str := ["self"]
abbrev P_K_last_minute : List Str := ["self"]
theorem sc_K_last_minute : FnScope N_K_last_minute P_K_last_minute (defScope s_K_last_minute) := ⟨rfl, rfl, rfl, by decide +kernel, rfl, by decide +kernel, by decide +kernel⟩
abbrev s_K_forget : Stmt := inClass (top 75) 3
abbrev N_K_forget : List Str := ["self"]
abbrev P_K_forget : List Str := ["self"]
theorem sc_K_forget : FnScope N_K_forget P_K_forget (defScope s_K_forget) := ⟨rfl, rfl, rfl, by decide +kernel, rfl, by decide +kernel, by decide +kernel⟩
abbrev s_K_add : Stmt := inClass (top 75) 4
abbrev N_K_add : List Str := ["self", "row", "more", "k", "kind", "minutes"]
abbrev P_K_add : List Str := ["self", "row"]
theorem sc_K_add : FnScope N_K_add P_K_add (defScope s_K_add) := ⟨rfl, rfl, rfl, by decide +kernel, rfl, by decide +kernel, by decide +kernel⟩
abbrev s_K_drop : Stmt := inClass (top 75) 5
abbrev N_K_drop : List Str := ["self", "n"]
abbrev P_K_drop : List Str := ["self", "n"]
theorem sc_K_drop : FnScope N_K_drop P_K_drop (defScope s_K_drop) := ⟨rfl, rfl, rfl, by decide +kernel, rfl, by decide +kernel, by decide +kernel⟩
abbrev s_K_report : Stmt := inClass (top 75) 6
abbrev N_K_report : List Str := ["self", "stretches", "found", "row", "minute", "rule", "amount", "breach"]
abbrev P_K_report : List Str := ["self"]
theorem sc_K_report : FnScope N_K_report P_K_report (defScope s_K_report) := ⟨rfl, rfl, rfl, by decide +kernel, rfl, by decide +kernel, by decide +kernel⟩
abbrev s_K_now : Stmt := inClass (top 75) 7
abbrev N_K_now : List Str := ["self", "stretches", "end", "breaks", "begin", "driving", "day", "week", "here", "both"]
abbrev P_K_now : List Str := ["self"]
theorem sc_K_now : FnScope N_K_now P_K_now (defScope s_K_now) := ⟨rfl, rfl, rfl, by decide +kernel, rfl, by decide +kernel, by decide +kernel⟩
abbrev s_K_days : Stmt := inClass (top 75) 8
abbrev N_K_days : List Str := ["self", "stretches", "found", "row", "day"]
abbrev P_K_days : List Str := ["self"]
theorem sc_K_days : FnScope N_K_days P_K_days (defScope s_K_days) := ⟨rfl, rfl, rfl, by decide +kernel, rfl, by decide +kernel, by decide +kernel⟩
abbrev s_K_week : Stmt := inClass (top 75) 9
abbrev N_K_week : List Str := ["self", "k"]
abbrev P_K_week : List Str := ["self", "k"]
theorem sc_K_week : FnScope N_K_week P_K_week (defScope s_K_week) := ⟨rfl, rfl, rfl, by decide +kernel, rfl, by decide +kernel, by decide +kernel⟩
abbrev s_K_answer : Stmt := inClass (top 75) 10
abbrev N_K_answer : List Str := ["self", "call", "number", "row"]
abbrev P_K_answer : List Str := ["self", "call", "number", "row"]
theorem sc_K_answer : FnScope N_K_answer P_K_answer (defScope s_K_answer) := ⟨rfl, rfl, rfl, by decide +kernel, rfl, by decide +kernel, by decide +kernel⟩
abbrev s_answered : Stmt := top 76
abbrev N_answered : List Str := ["desk", "call", "number", "row", "error"]
abbrev P_answered : List Str := ["desk", "call", "number", "row"]
theorem sc_answered : FnScope N_answered P_answered (defScope s_answered) := ⟨rfl, rfl, rfl, by decide +kernel, rfl, by decide +kernel, by decide +kernel⟩
abbrev s_answers : Stmt := top 77
abbrev N_answers : List Str := ["calls", "desk", "found", "at", "call", "behind", "number", "row", "there"]
abbrev P_answers : List Str := ["calls"]
theorem sc_answers : FnScope N_answers P_answers (defScope s_answers) := ⟨rfl, rfl, rfl, by decide +kernel, rfl, by decide +kernel, by decide +kernel⟩
/-- the classes' addresses -/
structure Ad where
  cS : Addr
  cB : Addr
  cBr : Addr
  cD : Addr
  cL : Addr
  cR : Addr
  cK : Addr
  wn : Addr
  fR : Addr
/-- what the top has written -/
structure Txt (K : PySem.W.Frag) (mg : Str → Option Value) (a : Ad) : Prop where
  c_REST : ∃ t, mg "REST" = some (.int (0) t)
  c_DRIVING : ∃ t, mg "DRIVING" = some (.int (1) t)
  c_WEEK : ∃ t, mg "WEEK" = some (.int (10080) t)
  c_MOST_DRIVING_breaks : ∃ t, mg "MOST_DRIVING_breaks" = some (.int (270) t)
  c_WHOLE_breaks : ∃ t, mg "WHOLE_breaks" = some (.int (45) t)
  c_FIRST_PART : ∃ t, mg "FIRST_PART" = some (.int (15) t)
  c_SECOND_PART : ∃ t, mg "SECOND_PART" = some (.int (30) t)
  c_RULE : ∃ t, mg "RULE" = some (.int (1) t)
  c_DAY : ∃ t, mg "DAY" = some (.int (1440) t)
  c_ENDING : ∃ t, mg "ENDING" = some (.int (540) t)
  c_FULL : ∃ t, mg "FULL" = some (.int (660) t)
  c_PART : ∃ t, mg "PART" = some (.int (180) t)
  c_LONG_DRIVING : ∃ t, mg "LONG_DRIVING" = some (.int (540) t)
  c_MOST_DRIVING_days : ∃ t, mg "MOST_DRIVING_days" = some (.int (600) t)
  c_MOST_LONG : ∃ t, mg "MOST_LONG" = some (.int (2) t)
  c_MOST_SHORT : ∃ t, mg "MOST_SHORT" = some (.int (3) t)
  c_WEEKLY_days : ∃ t, mg "WEEKLY_days" = some (.int (1440) t)
  c_WHOLE_days : ∃ t, mg "WHOLE_days" = some (.int (0) t)
  c_SHORT : ∃ t, mg "SHORT" = some (.int (1) t)
  c_TOO_SHORT : ∃ t, mg "TOO_SHORT" = some (.int (2) t)
  c_OPEN : ∃ t, mg "OPEN" = some (.int (3) t)
  c_DRIVING_RULE : ∃ t, mg "DRIVING_RULE" = some (.int (2) t)
  c_REST_RULE : ∃ t, mg "REST_RULE" = some (.int (3) t)
  c_SHORT_RULE : ∃ t, mg "SHORT_RULE" = some (.int (4) t)
  c_WEEKLY_weeks : ∃ t, mg "WEEKLY_weeks" = some (.int (1440) t)
  c_WHOLE_weeks : ∃ t, mg "WHOLE_weeks" = some (.int (2700) t)
  c_DAILY : ∃ t, mg "DAILY" = some (.int (540) t)
  c_LATEST : ∃ t, mg "LATEST" = some (.int (8640) t)
  c_WEEKS_TO_MAKE_UP : ∃ t, mg "WEEKS_TO_MAKE_UP" = some (.int (4) t)
  c_MOST_IN_WEEK : ∃ t, mg "MOST_IN_WEEK" = some (.int (3360) t)
  c_MOST_IN_TWO : ∃ t, mg "MOST_IN_TWO" = some (.int (5400) t)
  c_KINDS : ∃ t, mg "KINDS" = some (.int (3) t)
  c_LONGEST : ∃ t, mg "LONGEST" = some (.int (20000) t)
  c_MOST_TOLD : ∃ t, mg "MOST_TOLD" = some (.int (400) t)
  c_LAST_WEEK : ∃ t, mg "LAST_WEEK" = some (.int (1000) t)
  c_WRONG : ∃ t, mg "WRONG" = some (.int (-1) t)
  c_TOO_MANY : ∃ t, mg "TOO_MANY" = some (.int (-5) t)
  c_NONE : ∃ t, mg "NONE" = some (.int (-1) t)
  c_ADD : ∃ t, mg "ADD" = some (.int (2) t)
  b_len : mg "len" = none
  b_enumerate : mg "enumerate" = none
  b_max : mg "max" = none
  b_min : mg "min" = none
  b_range : mg "range" = none
  b_zip : mg "zip" = none
  b_sorted : mg "sorted" = none
  b_int : mg "int" = none
  g_S : mg "Stretch" = some (.ref a.cS)
  cl_S : Cls K a.cS
  na_S_kind : NoAttr K a.cS "kind"
  na_S_begin : NoAttr K a.cS "begin"
  na_S_end : NoAttr K a.cS "end"
  i_S : DefI K a.cS "Stretch.__init__" s_S_init P_S_init
  m_S_minutes : DefM K a.cS "minutes" "Stretch.minutes" s_S_minutes P_S_minutes
  m_S_is_rest : DefM K a.cS "is_rest" "Stretch.is_rest" s_S_is_rest P_S_is_rest
  g_B : mg "Breach" = some (.ref a.cB)
  cl_B : Cls K a.cB
  na_B_minute : NoAttr K a.cB "minute"
  na_B_rule : NoAttr K a.cB "rule"
  na_B_amount : NoAttr K a.cB "amount"
  i_B : DefI K a.cB "Breach.__init__" s_B_init P_B_init
  m_B_key : DefM K a.cB "key" "Breach.key" s_B_key P_B_key
  g_Br : mg "Breaks" = some (.ref a.cBr)
  cl_Br : Cls K a.cBr
  na_Br_driving : NoAttr K a.cBr "driving"
  na_Br_has_part : NoAttr K a.cBr "has_part"
  na_Br_minute : NoAttr K a.cBr "minute"
  na_Br_breaches : NoAttr K a.cBr "breaches"
  i_Br : DefI K a.cBr "Breaks.__init__" s_Br_init P_Br_init
  m_Br_close : DefM K a.cBr "close" "Breaks.close" s_Br_close P_Br_close
  m_Br_take_rest : DefM K a.cBr "take_rest" "Breaks.take_rest" s_Br_take_rest P_Br_take_rest
  m_Br_drive : DefM K a.cBr "drive" "Breaks.drive" s_Br_drive P_Br_drive
  m_Br_take : DefM K a.cBr "take" "Breaks.take" s_Br_take P_Br_take
  g_D : mg "Day" = some (.ref a.cD)
  cl_D : Cls K a.cD
  na_D_begin : NoAttr K a.cD "begin"
  na_D_driving : NoAttr K a.cD "driving"
  na_D_has_part : NoAttr K a.cD "has_part"
  na_D_rest : NoAttr K a.cD "rest"
  i_D : DefI K a.cD "Day.__init__" s_D_init P_D_init
  m_D_counted : DefM K a.cD "counted" "Day.counted" s_D_counted P_D_counted
  m_D_state : DefM K a.cD "state" "Day.state" s_D_state P_D_state
  g_L : mg "Lack" = some (.ref a.cL)
  cl_L : Cls K a.cL
  na_L_amount : NoAttr K a.cL "amount"
  na_L_deadline : NoAttr K a.cL "deadline"
  na_L_is_open : NoAttr K a.cL "is_open"
  i_L : DefI K a.cL "Lack.__init__" s_L_init P_L_init
  g_R : mg "Refused" = some (.ref a.cR)
  g_K : mg "Desk" = some (.ref a.cK)
  cl_K : Cls K a.cK
  na_K_told : NoAttr K a.cK "told"
  i_K : DefI K a.cK "Desk.__init__" s_K_init P_K_init
  m_K_stretches : DefM K a.cK "stretches" "Desk.stretches" s_K_stretches P_K_stretches
  m_K_last_minute : DefM K a.cK "last_minute" "Desk.last_minute" s_K_last_minute P_K_last_minute
  m_K_forget : DefM K a.cK "forget" "Desk.forget" s_K_forget P_K_forget
  m_K_add : DefM K a.cK "add" "Desk.add" s_K_add P_K_add
  m_K_drop : DefM K a.cK "drop" "Desk.drop" s_K_drop P_K_drop
  m_K_report : DefM K a.cK "report" "Desk.report" s_K_report P_K_report
  m_K_now : DefM K a.cK "now" "Desk.now" s_K_now P_K_now
  m_K_days : DefM K a.cK "days" "Desk.days" s_K_days P_K_days
  m_K_week : DefM K a.cK "week" "Desk.week" s_K_week P_K_week
  m_K_answer : DefM K a.cK "answer" "Desk.answer" s_K_answer P_K_answer
  f_stretches_of : DefF K mg "stretches_of" s_stretches_of P_stretches_of
  f_end_of : DefF K mg "end_of" s_end_of P_end_of
  f_first_work : DefF K mg "first_work" s_first_work P_first_work
  f_behind_work : DefF K mg "behind_work" s_behind_work P_behind_work
  f_driving_in : DefF K mg "driving_in" s_driving_in P_driving_in
  f_driving_in_week : DefF K mg "driving_in_week" s_driving_in_week P_driving_in_week
  f_breaks_of : DefF K mg "breaks_of" s_breaks_of P_breaks_of
  f_break_breaches : DefF K mg "break_breaches" s_break_breaches P_break_breaches
  f_days_of : DefF K mg "days_of" s_days_of P_days_of
  f_driving_breaches : DefF K mg "driving_breaches" s_driving_breaches P_driving_breaches
  f_rest_breaches : DefF K mg "rest_breaches" s_rest_breaches P_rest_breaches
  f_short_breaches : DefF K mg "short_breaches" s_short_breaches P_short_breaches
  f_day_breaches : DefF K mg "day_breaches" s_day_breaches P_day_breaches
  f_weekly_rests : DefF K mg "weekly_rests" s_weekly_rests P_weekly_rests
  f_is_short : DefF K mg "is_short" s_is_short P_is_short
  f_late_breaches : DefF K mg "late_breaches" s_late_breaches P_late_breaches
  f_pair_breaches : DefF K mg "pair_breaches" s_pair_breaches P_pair_breaches
  f_spared : DefF K mg "spared" s_spared P_spared
  f_make_up : DefF K mg "make_up" s_make_up P_make_up
  f_lacks_of : DefF K mg "lacks_of" s_lacks_of P_lacks_of
  f_lack_breaches : DefF K mg "lack_breaches" s_lack_breaches P_lack_breaches
  f_calendar_breaches : DefF K mg "calendar_breaches" s_calendar_breaches P_calendar_breaches
  f_week_breaches : DefF K mg "week_breaches" s_week_breaches P_week_breaches
  f_ask : DefF K mg "ask" s_ask P_ask
  f_answered : DefF K mg "answered" s_answered P_answered
  g_WN : mg "WITH_NUMBER" = some (.ref a.wn)
  wn : ∀ H, SqT K H a.wn [.int 3, .int 7]
  ox : OexC K a.cR
  xf : XfC K a.cR
  nr : PySem.W.findIn K (.ref a.cR) "refusal" = some none
  ir : PySem.W.findIn K (.ref a.cR) "__init__" = some (some (.ref a.fR))
  tr : PySem.W.typeIn K (.ref a.fR) = some (.type "function")
  er : PySem.W.exmOne K (.ref a.cR) (.ref a.cR) = some true
  dr : ∃ fd, Fun K "__init__" "Refused.__init__" s_R_init a.fR fd ∧ Binds K fd P_R_init []
end Dv
namespace Dv
open PySem PySem.Spec PyProof.Rows L2 Evl
section
variable {P : Program} {w : World} {K : PySem.W.Frag} {mg : Str → Option Value} {base : Heap} {a : Ad} {σ : L2.St} {H H' : Hp} {ta tb te : TE} {x b : Addr} {E : XK}
/-! ### Stretch -/
def sF (s : S) : List (Str × V) := [("kind", .int s.kind), ("begin", .int s.beg), ("end", .int s.fin)]
def AtS (a : Ad) (H : Hp) (x : Addr) (s : S) : Prop := ∃ dx, H x = some (.ins a.cS dx (sF s))
theorem AtS.kp {s : S} (h : AtS a H x s) (e : Kp H H') : AtS a H' x s := by
  obtain ⟨dx, h⟩ := h
  exact ⟨dx, e _ _ h rfl⟩
theorem AtS.mono {s : S} (h : AtS a H x s) (e : Ex H H') : AtS a H' x s := h.kp (.of e)
theorem sF_kind (s : S) : (sF s).lookup ("kind" : Str) = some (.int s.kind) := lk_here
theorem sF_begin (s : S) : (sF s).lookup ("begin" : Str) = some (.int s.beg) := (lk_past (by decide +kernel)).trans lk_here
theorem sF_end (s : S) : (sF s).lookup ("end" : Str) = some (.int s.fin) := (lk_past (by decide +kernel)).trans ((lk_past (by decide +kernel)).trans lk_here)
theorem sF_minutes (s : S) : (sF s).lookup ("minutes" : Str) = none := (lk_past (by decide +kernel)).trans ((lk_past (by decide +kernel)).trans ((lk_past (by decide +kernel)).trans rfl))
theorem sF_is_rest (s : S) : (sF s).lookup ("is_rest" : Str) = none := (lk_past (by decide +kernel)).trans ((lk_past (by decide +kernel)).trans ((lk_past (by decide +kernel)).trans rfl))
theorem sF_put (s : S) (n : Int) : putF "end" (.int n) (sF s) = sF ⟨s.kind, s.beg, n⟩ := (put_past (by decide +kernel)).trans (congrArg _ ((put_past (by decide +kernel)).trans (congrArg _ put_here)))
theorem sF_new (k b e : Int) : putF "end" (.int e) (putF "begin" (.int b) (putF "kind" (.int k) [])) = sF ⟨k, b, e⟩ := by
  rw [put_nil, put_past (by decide +kernel), put_nil, put_past (by decide +kernel), put_past (by decide +kernel), put_nil]
  rfl
section
variable (T : Txt K mg a)
theorem ev_S_kind {s : S} (T : Txt K mg a) (h : Ev ta σ H (.ref x)) (q : AtS a H x s) : Ev (tFld K ta "kind") σ H (.int s.kind) := by
  obtain ⟨dx, q⟩ := q
  exact ev_fld h q T.cl_S T.na_S_kind (sF_kind s)
theorem ev_S_begin {s : S} (T : Txt K mg a) (h : Ev ta σ H (.ref x)) (q : AtS a H x s) : Ev (tFld K ta "begin") σ H (.int s.beg) := by
  obtain ⟨dx, q⟩ := q
  exact ev_fld h q T.cl_S T.na_S_begin (sF_begin s)
theorem ev_S_end {s : S} (T : Txt K mg a) (h : Ev ta σ H (.ref x)) (q : AtS a H x s) : Ev (tFld K ta "end") σ H (.int s.fin) := by
  obtain ⟨dx, q⟩ := q
  exact ev_fld h q T.cl_S T.na_S_end (sF_end s)
end
def spS_init (a : Ad) : Sp := fun vs H Q _ => ∃ x dx k b e, vs = [.ref x, .int k, .int b, .int e] ∧ H x = some (.ins a.cS dx []) ∧ Q .non (upd H x (.ins a.cS dx (sF ⟨k, b, e⟩)))
theorem ok_S_init (T : Txt K mg a) : MakeP P w K mg base CX0 1 a.cS P_S_init (spS_init a) := by
  refine T.i_S.ok sc_S_init (fun vs H Q E h => ?_) fun f cdv A outer s H vs Q E hr h => ?_
  · obtain ⟨_, _, _, _, _, rfl, _⟩ := h
    rfl
  · obtain ⟨x, dx, k, b, e, rfl, hx, q⟩ := h
    refine ⟨_, (pss_cons (ps_fld (pv 0) (pv 1) rfl)
    (pss_cons (ps_fld (pv 0) (pv 2) rfl)
    (pss_one (ps_fld (pv 0) (pv 3) rfl)))), ?_⟩
    refine ⟨_, rfl, _, rfl, x, a.cS, dx, [], rfl, hx, T.cl_S, T.na_S_kind, (by show 0 < 1000; decide), ?_⟩
    refine ⟨_, rfl, _, rfl, x, a.cS, dx, _, rfl, upd_same, T.cl_S, T.na_S_begin, (by show 1 < 1000; decide), ?_⟩
    refine ⟨_, rfl, _, rfl, x, a.cS, dx, _, rfl, upd_same, T.cl_S, T.na_S_end, (by show 2 < 1000; decide), ?_⟩
    rw [upd_upd, upd_upd, sF_new]
    exact q
theorem spI_S {k b e : Int} : SpI (spS_init a) a.cS [.int k, .int b, .int e] H (sF ⟨k, b, e⟩) := fun H1 _ Q x dx E h q => ⟨x, dx, k, b, e, rfl, h, q⟩
def spS_minutes (a : Ad) : Sp := fun vs H Q _ => ∃ x s, vs = [.ref x] ∧ AtS a H x s ∧ ∀ H1, Ex H H1 → Q (.int s.minutes) H1
theorem ok_S_minutes (T : Txt K mg a) : MethP P w K mg base CX0 1 a.cS "minutes" P_S_minutes (spS_minutes a) := by
  refine T.m_S_minutes.ok sc_S_minutes (fun vs H Q E h => ?_) fun f cdv A outer s H vs Q E hr h => ?_
  · obtain ⟨_, _, rfl, _⟩ := h
    rfl
  · obtain ⟨x, s, rfl, hx, q⟩ := h
    refine ⟨_, (pss_one (ps_ret (pe_op op_sub (pe_fld (pv 0) rfl) (pe_fld (pv 0) rfl)))), ?_⟩
    exact s_ret (ev_op (ev_S_end T (ev_var rfl) hx) (ev_S_begin T (ev_var rfl) hx) rv_I0) q
theorem ev_S_minutes {s : S} (h : Ev ta σ H (.ref x)) (q : AtS a H x s) : Ev (tMeth a.cS "minutes" (spS_minutes a) [] E ta tNil) σ H (.int s.minutes) := by
  obtain ⟨dx, q⟩ := q
  exact ev_meth h q (sF_minutes s) ea_nil fun H1 e Q k E => ⟨x, s, rfl, ⟨dx, e _ _ q⟩, k⟩
def spS_is_rest (a : Ad) : Sp := fun vs H Q _ => ∃ x s n, vs = [.ref x, .int n] ∧ AtS a H x s ∧ ∀ H1, Ex H H1 → Q (.bl (s.isRest n)) H1
theorem ok_S_is_rest (T : Txt K mg a) : MethP P w K mg base CX0 2 a.cS "is_rest" P_S_is_rest (spS_is_rest a) := by
  refine T.m_S_is_rest.ok sc_S_is_rest (fun vs H Q E h => ?_) fun f cdv A outer s H vs Q E hr h => ?_
  · obtain ⟨_, _, _, rfl, _⟩ := h
    rfl
  · obtain ⟨x, s, n, rfl, hx, q⟩ := h
    refine ⟨_, (pss_one (ps_ret (pe_and (pe_cmpR op_eq (pe_fld (pv 0) rfl) (pe_gi T.c_REST rfl) (nomark _)) (pe_one (pe_cmpR op_ge (pe_methP0 (pv 0) T.cl_S (ok_S_minutes T) (hr.mono (by decide)) pass0) (pv 1) (nomark _)))))), ?_⟩
    exact s_ret (ev_andV (ev_op (ev_S_kind T (ev_var rfl) hx) ev_c ev_eqI) fun _ => ev_op (ev_S_minutes (ev_var rfl) hx) (ev_var rfl) rv_I0) q
theorem ev_S_is_rest {s : S} {n : Int} (h : Ev ta σ H (.ref x)) (q : AtS a H x s) (hn : Ev tb σ H (.int n)) : Ev (tMeth a.cS "is_rest" (spS_is_rest a) [] E ta (tCons tb tNil)) σ H (.bl (s.isRest n)) := by
  obtain ⟨dx, q⟩ := q
  exact ev_meth h q (sF_is_rest s) (ea_cons hn ea_nil) fun H1 e Q k E => ⟨x, s, n, rfl, ⟨dx, e _ _ q⟩, k⟩
/-! ### Breach -/
def bF (s : B) : List (Str × V) := [("minute", .int s.minute), ("rule", .int s.rule), ("amount", .int s.amount)]
def AtB (a : Ad) (H : Hp) (x : Addr) (s : B) : Prop := ∃ dx, H x = some (.ins a.cB dx (bF s))
theorem AtB.kp {s : B} (h : AtB a H x s) (e : Kp H H') : AtB a H' x s := by
  obtain ⟨dx, h⟩ := h
  exact ⟨dx, e _ _ h rfl⟩
theorem AtB.mono {s : B} (h : AtB a H x s) (e : Ex H H') : AtB a H' x s := h.kp (.of e)
theorem bF_minute (s : B) : (bF s).lookup ("minute" : Str) = some (.int s.minute) := lk_here
theorem bF_rule (s : B) : (bF s).lookup ("rule" : Str) = some (.int s.rule) := (lk_past (by decide +kernel)).trans lk_here
theorem bF_amount (s : B) : (bF s).lookup ("amount" : Str) = some (.int s.amount) := (lk_past (by decide +kernel)).trans ((lk_past (by decide +kernel)).trans lk_here)
theorem bF_key (s : B) : (bF s).lookup ("key" : Str) = none := (lk_past (by decide +kernel)).trans ((lk_past (by decide +kernel)).trans ((lk_past (by decide +kernel)).trans rfl))
theorem bF_new (k b e : Int) : putF "amount" (.int e) (putF "rule" (.int b) (putF "minute" (.int k) [])) = bF ⟨k, b, e⟩ := by
  rw [put_nil, put_past (by decide +kernel), put_nil, put_past (by decide +kernel), put_past (by decide +kernel), put_nil]
  rfl
def spB_init (a : Ad) : Sp := fun vs H Q _ => ∃ x dx k b e, vs = [.ref x, .int k, .int b, .int e] ∧ H x = some (.ins a.cB dx []) ∧ Q .non (upd H x (.ins a.cB dx (bF ⟨k, b, e⟩)))
theorem ok_B_init (T : Txt K mg a) : MakeP P w K mg base CX0 1 a.cB P_B_init (spB_init a) := by
  refine T.i_B.ok sc_B_init (fun vs H Q E h => ?_) fun f cdv A outer s H vs Q E hr h => ?_
  · obtain ⟨_, _, _, _, _, rfl, _⟩ := h
    rfl
  · obtain ⟨x, dx, k, b, e, rfl, hx, q⟩ := h
    refine ⟨_, (pss_cons (ps_fld (pv 0) (pv 1) rfl)
    (pss_cons (ps_fld (pv 0) (pv 2) rfl)
    (pss_one (ps_fld (pv 0) (pv 3) rfl)))), ?_⟩
    refine ⟨_, rfl, _, rfl, x, a.cB, dx, [], rfl, hx, T.cl_B, T.na_B_minute, (by show 0 < 1000; decide), ?_⟩
    refine ⟨_, rfl, _, rfl, x, a.cB, dx, _, rfl, upd_same, T.cl_B, T.na_B_rule, (by show 1 < 1000; decide), ?_⟩
    refine ⟨_, rfl, _, rfl, x, a.cB, dx, _, rfl, upd_same, T.cl_B, T.na_B_amount, (by show 2 < 1000; decide), ?_⟩
    rw [upd_upd, upd_upd, bF_new]
    exact q
theorem spI_B {k b e : Int} : SpI (spB_init a) a.cB [.int k, .int b, .int e] H (bF ⟨k, b, e⟩) := fun H1 _ Q x dx E h q => ⟨x, dx, k, b, e, rfl, h, q⟩
/-- Breach(..) -/
theorem en_B {k b e : Int} {t1 t2 t3 : TE} (h1 : Ev t1 σ H (.int k)) (h2 : Ev t2 σ H (.int b)) (h3 : Ev t3 σ H (.int e)) : EvN (tMake a.cB (spB_init a) [] E (tCons t1 (tCons t2 (tCons t3 tNil)))) σ H fun p H2 => AtB a H2 p ⟨k, b, e⟩ :=
  en_make (ea_cons h1 (ea_cons h2 (ea_cons h3 ea_nil))) spI_B
def spB_key (a : Ad) : Sp := fun vs H Q _ => ∃ x s, vs = [.ref x] ∧ AtB a H x s ∧ ∀ p H1, H p = none → Ex H H1 → H1 p = some (.tup [.int s.minute, .int s.rule, .int s.amount]) → Q (.ref p) H1
theorem ok_B_key (T : Txt K mg a) : MethP P w K mg base CX0 1 a.cB "key" P_B_key (spB_key a) := by
  refine T.m_B_key.ok sc_B_key (fun vs H Q E h => ?_) fun f cdv A outer s H vs Q E hr h => ?_
  · obtain ⟨_, _, rfl, _⟩ := h
    rfl
  · obtain ⟨x, s, rfl, ⟨dx, hx⟩, q⟩ := h
    refine ⟨_, (pss_one (ps_ret (pe_tup (pa_cons (pe_fld (pv 0) rfl) (pa_cons (pe_fld (pv 0) rfl) (pa_cons (pe_fld (pv 0) rfl) pa_nil)))))), ?_⟩
    exact s_retU (eu_tup (ea_cons (ev_fld (ev_var rfl) hx T.cl_B T.na_B_minute (bF_minute s)) (ea_cons (ev_fld (ev_var rfl) hx T.cl_B T.na_B_rule (bF_rule s)) (ea_cons (ev_fld (ev_var rfl) hx T.cl_B T.na_B_amount (bF_amount s)) ea_nil))) (by show 3 ≤ 100000; decide)) q
end
end Dv
namespace Dv
open PySem PySem.Spec PyProof.Rows L2 Evl
section
variable {P : Program} {w : World} {K : PySem.W.Frag} {mg : Str → Option Value} {base : Heap} {a : Ad} {σ : L2.St} {H H' : Hp} {ta tb te : TE} {x b : Addr} {E : XK}
/-! ### what was told -/
def AtT (H : Hp) (x : Addr) (t : Int × Int) : Prop := H x = some (.tup [.int t.1, .int t.2])
theorem AtT.kp {t : Int × Int} (h : AtT H x t) (e : Kp H H') : AtT H' x t := e _ _ h rfl
theorem AtT.mono {t : Int × Int} (h : AtT H x t) (e : Ex H H') : AtT H' x t := e _ _ h
theorem fold_snoc {α β : Type} (f : β → α → β) (s : β) (l : List α) (x : α) : (l ++ [x]).foldl f s = f (l.foldl f s) x := by
  rw [List.foldl_append]
  rfl
theorem modLast_len {α : Type} (f : α → α) : ∀ l : List α, (modLast f l).length = l.length
  | [] => rfl
  | [_] => rfl
  | x :: y :: l => congrArg (· + 1) (modLast_len f (y :: l))
theorem addS_len (st : List S × Int) (x : Int × Int) : (addS st x).1.length ≤ st.1.length + 1 := by
  unfold addS
  dsimp only
  split
  · split
    · rw [modLast_len]
      exact Nat.le_succ _
    · rw [List.length_append]
      exact Nat.le_refl _
  · rw [List.length_append]
    exact Nat.le_refl _
theorem adds_len : ∀ (l : List (Int × Int)) (st : List S × Int), (l.foldl addS st).1.length ≤ st.1.length + l.length
  | [], _ => Nat.le_refl _
  | x :: l, st => by
    have q := adds_len l (addS st x)
    have r := addS_len st x
    show (l.foldl addS (addS st x)).1.length ≤ st.1.length + (l.length + 1)
    omega
theorem stretches_len (l : List (Int × Int)) : (stretchesOf l).length ≤ l.length := by
  have q := adds_len l ([], 0)
  show (l.foldl addS ([], 0)).1.length ≤ l.length
  rw [show ([] : List S).length = 0 from rfl, Nat.zero_add] at q
  exact q
theorem nil_or_snoc {α : Type} (l : List α) : l = [] ∨ ∃ m x, l = m ++ [x] := by
  cases h : l.getLast? with
  | none => exact .inl (List.getLast?_eq_none_iff.mp h)
  | some x => exact .inr ⟨l.dropLast, x, by
      obtain ⟨ys, e⟩ := List.getLast?_eq_some_iff.mp h
      rw [e, List.dropLast_concat]⟩
/-! ### stretches_of -/
def spStretchesOf (K : PySem.W.Frag) (a : Ad) : Sp := fun vs H Q _ => ∃ (t : Addr) (ts : List Addr) (told : List (Int × Int)), vs = [.ref t] ∧ SqL K H t (refs ts) ∧ All2 (AtT H) ts told ∧ told.length ≤ 400 ∧
  ∀ p H1, H p = none → Ex H H1 → LO (AtS a) H1 p (stretchesOf told) → Q (.ref p) H1
structure StInv (a : Ad) (H0 : Hp) (l : Addr) (as : List Addr) (st : List S × Int) (n : Nat) (H : Hp) : Prop where
  ex : Ex H0 H
  at_ : H l = some (.lst (refs as))
  all : All2 (AtS a H) as st.1
  nd : as.Nodup
  new : ∀ b ∈ as, H0 b = none
  few : as.length ≤ n
theorem ok_stretches_of (T : Txt K mg a) : CallP P w K mg base CX0 3 "stretches_of" P_stretches_of (spStretchesOf K a) := by
  refine T.f_stretches_of.ok sc_stretches_of (fun vs H Q E h => ?_) fun f cdv A outer s H vs Q E hr h => ?_
  · obtain ⟨_, _, _, rfl, _⟩ := h
    rfl
  · obtain ⟨t, ts, told, rfl, ht, hT, hlen, q⟩ := h
    refine ⟨_, (pss_cons (ps_set (i := 1) sc_stretches_of.nd rfl (Or.inl rfl) (pe_lst pa_nil))
    (pss_cons (ps_set (i := 2) sc_stretches_of.nd rfl (Or.inl rfl) pe_int)
    (pss_cons (ps_for PassesOwn.never rfl (pi_list (pv 0)) (pg_tup rfl (pgs_cons (pg_name (i := 3) sc_stretches_of.nd rfl (Or.inl rfl)) (pgs_cons (pg_name (i := 4) sc_stretches_of.nd rfl (Or.inl rfl)) pgs_nil)))
    (pss_cons (ps_if (PW.pt (pw_and (pt_cmpR op_gt (pe_callB call_len_seq (by rfl) T.b_len PySem.boot_len (pa_cons (pv 1) pa_nil)) pe_int (nomark _)) (pw_and1 (pt_cmpR op_eq (pe_fld (pe_ix (r := rIxL K) ix_list (pv 1) (pe_un un_neg pe_int) (fun _ _ => rfl)) rfl) (pv 3) (nomark _))))) (pss_cons (ps_set (i := 5) sc_stretches_of.nd rfl (Or.inl rfl) (pe_ix (r := rIxL K) ix_list (pv 1) (pe_un un_neg pe_int) (fun _ _ => rfl)))
    (pss_one (ps_fld (pv 5) (pe_op op_add (pv 2) (pv 4)) rfl))) (pss_one (ps_expr (pe_bm PySem.F.plainAttrs_list PySem.F.slot_list_append PySem.F.type_list_append mt_append (pv 1) (pa_cons (pe_makeP (ok_S_init T) T.g_S (hr.mono (by decide)) rfl pass0 (pa_cons (pv 3) (pa_cons (pv 2) (pa_cons (pe_op op_add (pv 2) (pv 4)) pa_nil)))) pa_nil)))))
    (pss_one (ps_aug (i := 2) sc_stretches_of.nd rfl (.inl rfl) (pv 4) ip_add))))
    (pss_one (ps_ret (pv 1)))))), ?_⟩
    refine q_asgL (el_lst ea_nil (by show 0 ≤ 100000; decide)) fun l H1 nl e1 hl => ?_
    refine q_asg ev_c fun H2 e2 => ?_
    refine ⟨_, rfl, t, rfl, ⟨_, ex_l (e1.trans e2) ht⟩, for_objsG (F := AtT) (xs := told) (fun pre σ H' => ∃ as v3 v4 v5, σ = [some (.ref t), some (.ref l), some (.int (pre.foldl addS ([], 0)).2), v3, v4, v5] ∧ StInv a H l as (pre.foldl addS ([], 0)) pre.length H')
      ⟨[], none, none, none, rfl, ⟨e1.trans e2, e2 _ _ hl, True.intro, List.nodup_nil, (fun _ h => (by cases h)), Nat.le_refl _⟩⟩ (fun pre σ H' ⟨as, _, _, _, _, I⟩ => ⟨ex_l I.ex ht, hT.mono fun b x h => h.mono I.ex⟩) ?_ ?_⟩
    · rintro pre ⟨k, m⟩ post b σ H3 hsp ⟨as, v3, v4, v5, rfl, I⟩ hb
      have hpre : pre.length < told.length := by rw [hsp, List.length_append, List.length_cons]; omega
      refine ⟨b, [.int k, .int m], rfl, st_of hb, rfl, _, _, rfl, _, _, rfl, rfl, ?_⟩
      have asl : as.length ≤ 400 := by have := I.few; omega
      rcases nil_or_snoc (pre.foldl addS ([], 0)).1 with h0 | ⟨init, last, h0⟩
      · -- the first stretch
        have hall := I.all
        rw [h0] at hall
        have eas := hall.nil_iff
        subst eas
        refine q_if (b := false) (et_is (et_and (b := false) (et_test (ev_op (ev_len (ev_var rfl) (sq_of I.at_)) ev_c rv_I0)) (fun h => absurd h (by decide))) rfl) (fun h => by cases h) fun _ H4 e4 => ?_
        refine s_appN (e4 _ _ I.at_) (ev_var rfl) (en_make (ea_cons (ev_var rfl) (ea_cons (ev_var rfl) (ea_cons (ev_op (ev_var rfl) (ev_var rfl) rv_I0) ea_nil))) spI_S) (by show 0 < 100000; decide) fun p H5 np e5 hp => ?_
        have epl : p ≠ l := fun z => by rw [z, e4 _ _ I.at_] at np; cases np
        refine s_aug rfl (ev_var rfl) fun H6 e6 => ?_
        have nl5 : H l = none := nl
        have hx : Ex H (upd H5 l (.lst (refs [p]))) := Ex.upd ((I.ex.trans e4).trans e5) nl5
        have est : (pre ++ [(k, m)]).foldl addS ([], 0) = ([(⟨k, (pre.foldl addS ([], 0)).2, (pre.foldl addS ([], 0)).2 + m⟩ : S)], (pre.foldl addS ([], 0)).2 + m) := by
          rw [fold_snoc]
          generalize pre.foldl addS ([], 0) = st at h0
          obtain ⟨st1, st2⟩ := st
          dsimp only at h0
          subst h0
          rfl
        refine ⟨[p], _, _, _, by rw [est] <;> rfl, ?_⟩
        rw [est]
        refine ⟨hx.trans e6, e6 _ _ upd_same, ⟨?_, True.intro⟩, (by simp), fun c hc => ?_, ?_⟩
        · obtain ⟨dx, hp⟩ := hp
          refine ⟨dx, e6 _ _ ?_⟩
          rw [upd_ne epl]
          exact hp
        · have ec : c = p := by simpa using hc
          rw [ec]
          exact fresh_back (I.ex.trans e4) np
        · rw [List.length_append]
          show 1 ≤ pre.length + 1
          omega
      · obtain ⟨bs, bl, eas, hbs, hbl⟩ := (show All2 (AtS a H3) as (init ++ [last]) by rw [← h0]; exact I.all).last
        subst eas
        have hat : H3 l = some (.lst (refs bs ++ [.ref bl])) := by rw [← refs_snoc]; exact I.at_
        have est : (pre ++ [(k, m)]).foldl addS ([], 0) = if last.kind = k then (init ++ [⟨last.kind, last.beg, (pre.foldl addS ([], 0)).2 + m⟩], (pre.foldl addS ([], 0)).2 + m) else ((init ++ [last]) ++ [⟨k, (pre.foldl addS ([], 0)).2, (pre.foldl addS ([], 0)).2 + m⟩], (pre.foldl addS ([], 0)).2 + m) := by
          rw [fold_snoc]
          generalize pre.foldl addS ([], 0) = st at h0
          obtain ⟨st1, st2⟩ := st
          dsimp only at h0
          subst h0
          exact addS_snoc init last st2 (k, m)
        have evl : ∀ {H4 : Hp}, Ex H3 H4 → Ev (tOp (rIxL K) (tVar 1) (tUn (rU fun i => .int (-i)) (tC (.int 1)))) [some (.ref t), some (.ref l), some (.int (pre.foldl addS ([], 0)).2), some (.int k), some (.int m), v5] H4 (.ref bl) := fun {H4} e4 =>
          ev_op (ev_var rfl) (ev_un ev_c ru_neg) (rv_ixL (sq_of (e4 _ _ hat)) (atI_last (refs bs) (.ref bl)))
        have nd := List.nodup_append.mp I.nd
        have hne : ∀ c ∈ bs, c ≠ bl := fun c hc => nd.2.2 c hc bl (by simp)
        have nbl : H bl = none := I.new bl (by simp)
        refine q_if (b := decide (last.kind = k)) (et_is (et_and (et_test (ev_op (ev_len (ev_var rfl) (sq_of hat)) ev_c rv_I0)) (fun _ => et_test (ev_op (ev_S_kind T (evl (Ex.refl _)) hbl) (ev_var rfl) ev_eqI))) ?_) (fun hk H4 e4 => ?_) fun hk H4 e4 => ?_
        · rw [show decide ((0 : Int) < ((refs bs ++ [V.ref bl]).length : Int)) = true from decide_eq_true (by rw [List.length_append]; show (0 : Int) < (((refs bs).length + 1 : Nat) : Int); omega), Bool.true_and]
        · have hk' := of_decide_eq_true hk
          rw [if_pos hk'] at est
          refine q_asg (evl e4) fun H5 e5 => ?_
          obtain ⟨dx, hbl⟩ := hbl
          refine s_fld (ev_op (ev_var rfl) (ev_var rfl) rv_I0) (ev_var rfl) (e5 _ _ (e4 _ _ hbl)) T.cl_S T.na_S_end (by show 3 < 1000; decide) fun H6 e6 => ?_
          refine s_aug rfl (ev_var rfl) fun H7 e7 => ?_
          rw [sF_put] at e7
          have e36 : Ex H3 H6 := (e4.trans e5).trans e6
          refine ⟨bs ++ [bl], _, _, _, by rw [est] <;> rfl, ?_⟩
          rw [est]
          have hbs7 : All2 (AtS a H7) bs init := hbs.monoM fun c s hc ⟨dc, h⟩ => ⟨dc, e7 _ _ (by rw [upd_ne (hne c hc)]; exact e36 _ _ h)⟩
          refine ⟨(Ex.upd (I.ex.trans e36) nbl).trans e7, e7 _ _ ?_, All2.snoc hbs7 ⟨dx, e7 _ _ upd_same⟩, I.nd, I.new, ?_⟩
          · have ne : l ≠ bl := fun z => by rw [z, hbl] at hat; cases hat
            rw [upd_ne ne, refs_snoc]
            exact e36 _ _ hat
          · have := I.few
            rw [List.length_append (as := pre)]
            exact Nat.le_succ_of_le this
        · have hk' := of_decide_eq_false hk
          rw [if_neg hk'] at est
          refine s_appN (e4 _ _ hat) (ev_var rfl) (en_make (ea_cons (ev_var rfl) (ea_cons (ev_var rfl) (ea_cons (ev_op (ev_var rfl) (ev_var rfl) rv_I0) ea_nil))) spI_S) ?_ fun p H5 np e5 hp => ?_
          · rw [← refs_snoc, refs_len]
            omega
          have epl : p ≠ l := fun z => by rw [z, e4 _ _ hat] at np; cases np
          have hpn : H p = none := fresh_back (I.ex.trans e4) np
          refine s_aug rfl (ev_var rfl) fun H6 e6 => ?_
          have hx : Ex H (upd H5 l (.lst ((refs bs ++ [.ref bl]) ++ [.ref p]))) := Ex.upd ((I.ex.trans e4).trans e5) nl
          refine ⟨(bs ++ [bl]) ++ [p], _, _, _, by rw [est] <;> rfl, ?_⟩
          rw [est]
          have keep : ∀ c s, AtS a H3 c s → AtS a H6 c s := fun c s hc => ((AtS.mono hc (e4.trans e5)).kp ((Kp.refl H5).lst (e5 _ _ (e4 _ _ hat)))).mono e6
          refine ⟨hx.trans e6, e6 _ _ ?_, All2.snoc (All2.snoc (hbs.mono keep) (keep _ _ hbl)) ?_, ?_, fun c hc => ?_, ?_⟩
          · rw [refs_snoc, refs_snoc]
            exact upd_same
          · obtain ⟨dx, hp⟩ := hp
            refine ⟨dx, e6 _ _ ?_⟩
            rw [upd_ne epl]
            exact hp
          · refine List.nodup_append.mpr ⟨I.nd, (by simp), fun c hc d hd => ?_⟩
            have ed : d = p := by simpa using hd
            rw [ed]
            intro z
            have hcH : ∃ s, AtS a H3 c s := by
              rcases List.mem_append.mp hc with m | m
              · obtain ⟨i, hi, ei⟩ := List.getElem_of_mem m
                have hl2 := hbs.len
                have hi2 : i < init.length := by omega
                obtain ⟨b', hb', hF⟩ := hbs.get (List.getElem?_eq_getElem hi2)
                rw [List.getElem?_eq_getElem hi, ei] at hb'
                rw [Option.some.inj hb']
                exact ⟨_, hF⟩
              · have : c = bl := by simpa using m
                rw [this]
                exact ⟨_, hbl⟩
            obtain ⟨s', dx, hs'⟩ := hcH
            rw [← z, e4 _ _ hs'] at np
            cases np
          · rcases List.mem_append.mp hc with m | m
            · exact I.new c m
            · have : c = p := by simpa using m
              rw [this]
              exact hpn
          · have := I.few
            rw [List.length_append, List.length_append (as := pre)]
            exact Nat.succ_le_succ this
    · rintro σ H3 ⟨as, v3, v4, v5, rfl, I⟩
      refine s_ret (ev_var rfl) fun H4 e4 => ?_
      exact q l H4 nl (I.ex.trans e4) ⟨as, e4 _ _ I.at_, I.all.mono fun c s h => h.mono e4⟩
end
end Dv
namespace Dv
open PySem PySem.Spec PyProof.Rows L2 Evl
/-! ### a list that is filled: all but it stands -/
def But (l : Addr) (H H' : Hp) : Prop := ∀ b o, H b = some o → b ≠ l → H' b = some o
theorem But.refl (l : Addr) (H : Hp) : But l H H := fun _ _ h _ => h
theorem But.of {l : Addr} {H H' : Hp} (e : Ex H H') : But l H H' := fun b o h _ => e b o h
theorem But.trans {l : Addr} {H H1 H2 : Hp} (x : But l H H1) (y : But l H1 H2) : But l H H2 := fun b o h n => y b o (x b o h n) n
theorem But.upd {l : Addr} {H H1 : Hp} {o : HO} (x : But l H H1) : But l H (upd H1 l o) := fun b u h n => by
  rw [upd_ne n]
  exact x b u h n
theorem But.kp {l : Addr} {H H' : Hp} {xs : List V} (x : But l H H') (h : H l = some (.lst xs)) : Kp H H' := fun b o hb n => x b o hb fun z => by
  rw [z, h] at hb
  cases hb
  cases n
theorem But.sq {K : PySem.W.Frag} {l a : Addr} {H H' : Hp} {xs : List V} (x : But l H H') (n : a ≠ l) (h : H a = some (.lst xs)) : SqL K H' a xs := sq_of (x _ _ h n)
/-- what all but lists' changes leave -/
def Stable {α : Type} (F : Hp → Addr → α → Prop) : Prop := ∀ (H H' : Hp) (b : Addr) (x : α), F H b x → Kp H H' → F H' b x
/-- the new list l holds objects that stand for xs; what H0 knew stands -/
structure FB {α : Type} (F : Hp → Addr → α → Prop) (H0 : Hp) (l : Addr) (xs : List α) (H : Hp) : Prop where
  ex : Ex H0 H
  nl : H0 l = none
  lo : ∃ bs, H l = some (.lst (refs bs)) ∧ All2 (F H) bs xs
section
variable {α : Type} {F : Hp → Addr → α → Prop} {K : PySem.W.Frag} {H0 H H' : Hp} {l : Addr} {xs : List α} {x : α} {σ : L2.St} {ta te : TE} {D : Ends} {tz : TS}
theorem FB.start (e : Ex H0 H) (n : H0 l = none) (h : H l = some (.lst [])) : FB F H0 l [] H := ⟨e, n, [], h, True.intro⟩
theorem FB.mono (st : Stable F) (I : FB F H0 l xs H) (e : Ex H H') : FB F H0 l xs H' := by
  obtain ⟨bs, h1, h2⟩ := I.lo
  exact ⟨I.ex.trans e, I.nl, bs, e _ _ h1, h2.mono fun b x h => st _ _ _ _ h (.of e)⟩
theorem FB.lst (I : FB F H0 l xs H) : ∃ bs, H l = some (.lst (refs bs)) := by
  obtain ⟨bs, h1, _⟩ := I.lo
  exact ⟨bs, h1⟩
theorem s_found (st : Stable F) (I : FB F H0 l xs H) (ha : Ev ta σ H (.ref l)) (h : EvN te σ H fun p H2 => F H2 p x) (hz : xs.length < 100000) (k : ∀ H', FB F H0 l (xs ++ [x]) H' → But l H H' → D.nx σ H') :
    tDrop (tBM K "list" rAppend ta (tCons te tNil)) D σ H := by
  obtain ⟨bs, hl, hall⟩ := I.lo
  refine s_appN hl ha h (by rw [refs_len, hall.len]; exact hz) fun p H1 np e1 hp => k _ ?_ (But.upd (.of e1))
  have kp : Kp H1 (upd H1 l (.lst (refs bs ++ [.ref p]))) := (Kp.refl H1).lst (e1 _ _ hl)
  refine ⟨Ex.upd (I.ex.trans e1) I.nl, I.nl, bs ++ [p], ?_, All2.snoc (hall.mono fun b y q => st _ _ _ _ (st _ _ _ _ q (.of e1)) kp) (st _ _ _ _ hp kp)⟩
  rw [upd_same, refs_snoc]
theorem q_found (st : Stable F) (I : FB F H0 l xs H) (ha : Ev ta σ H (.ref l)) (h : EvN te σ H fun p H2 => F H2 p x) (hz : xs.length < 100000) (k : ∀ H', FB F H0 l (xs ++ [x]) H' → But l H H' → tz D σ H') :
    tSeq (tDrop (tBM K "list" rAppend ta (tCons te tNil))) tz D σ H := s_found (D := { D with nx := tz D }) st I ha h hz k
end
/-- walked with places -/
theorem for_enumO {α : Type} {F : Hp → Addr → α → Prop} {K : PySem.W.Frag} {a : Addr} {as : List Addr} {xs : List α} {g : TG} {tb : TS} {D : Ends} {σ : L2.St} {H : Hp} (Pv : Nat → L2.St → Hp → Prop) (h0 : Pv 0 σ H)
    (hl : ∀ i σ H, Pv i σ H → SqL K H a (refs as) ∧ All2 (F H) as xs)
    (hs : ∀ (i : Nat) x b T σ H, xs[i]? = some x → Pv i σ H → F H b x → H T = none → g (.ref T) σ (upd H T (.tup [.int (i : Int), .ref b])) fun σ2 H2 => tb { D with nx := Pv (i + 1), ct := Pv (i + 1), bk := D.nx } σ2 H2) (hd : ∀ σ H, Pv xs.length σ H → D.nx σ H) :
    ∃ W : Nat → Nat → L2.St → Hp → Prop, (∃ m, W 0 m σ H) ∧ ∀ i m σ H, W i m σ H →
      ((Ite K a).stop i H ∧ D.nx σ H) ∨ ((Ite K a).go i H ∧ ∃ N : L2.St → Hp → Prop, (∀ σ' H', N σ' H' → ∃ m', m' < m ∧ W (i + 1) m' σ' H') ∧ ∀ v H', (Ite K a).yld i H v H' → g v σ H' fun σ2 H2 => tb { D with nx := N, ct := N, bk := D.nx } σ2 H2) := by
  refine ⟨fun i m σ H => m = xs.length - i ∧ i ≤ xs.length ∧ Pv i σ H, ⟨xs.length, rfl, Nat.zero_le _, h0⟩, ?_⟩
  rintro i m σ H ⟨rfl, hi, p⟩
  obtain ⟨q, hall⟩ := hl i σ H p
  by_cases hlt : i < xs.length
  · have hx : xs[i]? = some xs[i] := List.getElem?_eq_getElem hlt
    obtain ⟨b, hb, hF⟩ := hall.get hx
    have hr : (refs as)[i]? = some (.ref b) := by rw [List.getElem?_map, hb] <;> rfl
    refine .inr ⟨⟨_, _, q, hr⟩, Pv (i + 1), fun σ' H' p' => ⟨xs.length - (i + 1), by omega, rfl, hlt, p'⟩, fun v H' y => ?_⟩
    obtain ⟨T, x', rfl, hT, rfl, f1⟩ := y
    have ex : x' = .ref b := Option.some.inj ((f1 _ q).symm.trans hr)
    subst ex
    exact hs i _ b T σ H hx p hF hT
  · have e : i = xs.length := by omega
    subst e
    exact .inl ⟨⟨_, q, by rw [refs_len, hall.len]; exact Nat.le_refl _⟩, hd σ H p⟩
/-- each with its next one -/
theorem for_zipO {α : Type} {F : Hp → Addr → α → Prop} {K : PySem.W.Frag} {a b : Addr} {as bs : List Addr} {xs ys : List α} {g : TG} {tb : TS} {D : Ends} {σ : L2.St} {H : Hp} (hle : ys.length ≤ xs.length) (Pv : Nat → L2.St → Hp → Prop) (h0 : Pv 0 σ H)
    (hl : ∀ i σ H, Pv i σ H → (SqL K H a (refs as) ∧ All2 (F H) as xs) ∧ (SqL K H b (refs bs) ∧ All2 (F H) bs ys))
    (hs : ∀ (i : Nat) x y p q T σ H, xs[i]? = some x → ys[i]? = some y → Pv i σ H → F H p x → F H q y → H T = none → g (.ref T) σ (upd H T (.tup [.ref p, .ref q])) fun σ2 H2 => tb { D with nx := Pv (i + 1), ct := Pv (i + 1), bk := D.nx } σ2 H2) (hd : ∀ σ H, Pv ys.length σ H → D.nx σ H) :
    ∃ W : Nat → Nat → L2.St → Hp → Prop, (∃ m, W 0 m σ H) ∧ ∀ i m σ H, W i m σ H →
      ((Itz K a b).stop i H ∧ D.nx σ H) ∨ ((Itz K a b).go i H ∧ ∃ N : L2.St → Hp → Prop, (∀ σ' H', N σ' H' → ∃ m', m' < m ∧ W (i + 1) m' σ' H') ∧ ∀ v H', (Itz K a b).yld i H v H' → g v σ H' fun σ2 H2 => tb { D with nx := N, ct := N, bk := D.nx } σ2 H2) := by
  refine ⟨fun i m σ H => m = ys.length - i ∧ i ≤ ys.length ∧ Pv i σ H, ⟨ys.length, rfl, Nat.zero_le _, h0⟩, ?_⟩
  rintro i m σ H ⟨rfl, hi, p⟩
  obtain ⟨⟨qx, hx⟩, qy, hy⟩ := hl i σ H p
  by_cases hlt : i < ys.length
  · have hlt2 : i < xs.length := by omega
    have ex : xs[i]? = some xs[i] := List.getElem?_eq_getElem hlt2
    have ey : ys[i]? = some ys[i] := List.getElem?_eq_getElem hlt
    obtain ⟨c, hc, hF⟩ := hx.get ex
    obtain ⟨d, hd', hG⟩ := hy.get ey
    have hr : (refs as)[i]? = some (.ref c) := by rw [List.getElem?_map, hc] <;> rfl
    have hr2 : (refs bs)[i]? = some (.ref d) := by rw [List.getElem?_map, hd'] <;> rfl
    refine .inr ⟨⟨_, _, _, _, qx, qy, hr, hr2⟩, Pv (i + 1), fun σ' H' p' => ⟨ys.length - (i + 1), by omega, rfl, hlt, p'⟩, fun v H' y => ?_⟩
    obtain ⟨T, x', y', rfl, hT, rfl, f1, f2⟩ := y
    have e1 : x' = .ref c := Option.some.inj ((f1 _ qx).symm.trans hr)
    have e2 : y' = .ref d := Option.some.inj ((f2 _ qy).symm.trans hr2)
    subst e1 e2
    exact hs i _ _ c d T σ H ex ey p hF hG hT
  · have e : i = ys.length := by omega
    subst e
    exact .inl ⟨⟨_, _, qx, qy, .inr (by rw [refs_len, hy.len]; exact Nat.le_refl _)⟩, hd σ H p⟩
theorem stS (a : Ad) : Stable (AtS a) := fun _ _ _ _ h e => h.kp e
theorem stB (a : Ad) : Stable (AtB a) := fun _ _ _ _ h e => h.kp e
section
variable {P : Program} {w : World} {K : PySem.W.Frag} {mg : Str → Option Value} {base : Heap} {a : Ad} {σ : L2.St} {H H' : Hp} {ta tb te : TE} {x b t : Addr} {E : XK} {ss : List S}
/-! ### a list of stretches that is read -/
def SL (K : PySem.W.Frag) (a : Ad) (H : Hp) (t : Addr) (ss : List S) : Prop := ∃ as, SqL K H t (refs as) ∧ All2 (AtS a H) as ss
theorem SL.mono (h : SL K a H t ss) (e : Ex H H') : SL K a H' t ss := by
  obtain ⟨as, h1, h2⟩ := h
  exact ⟨as, ex_l e h1, h2.mono fun b x q => q.mono e⟩
theorem LO.sl (h : LO (AtS a) H t ss) : SL K a H t ss := by
  obtain ⟨as, h1, h2⟩ := h
  exact ⟨as, sq_of h1, h2⟩
theorem en_stretches_of {ts : List Addr} {told : List (Int × Int)} (h : Ev ta σ H (.ref t)) (h1 : SqL K H t (refs ts)) (h2 : All2 (AtT H) ts told) (h3 : told.length ≤ 400) :
    EvN (tCall (spStretchesOf K a) [] E (tCons ta tNil)) σ H fun p H2 => LO (AtS a) H2 p (stretchesOf told) :=
  en_call (ea_cons h ea_nil) fun H1 e Q q _ => ⟨t, ts, told, rfl, ex_l e h1, h2.mono fun b x r => r.mono e, h3, q⟩
/-! ### end_of -/
def spEndOf (K : PySem.W.Frag) (a : Ad) : Sp := fun vs H Q _ => ∃ t ss, vs = [.ref t] ∧ SL K a H t ss ∧ ∀ H1, Ex H H1 → Q (.int (endOf ss)) H1
theorem ok_end_of (T : Txt K mg a) : CallP P w K mg base CX0 1 "end_of" P_end_of (spEndOf K a) := by
  refine T.f_end_of.ok sc_end_of (fun vs H Q E h => ?_) fun f cdv A outer s H vs Q E hr h => ?_
  · obtain ⟨_, _, rfl, _⟩ := h
    rfl
  · obtain ⟨t, ss, rfl, ⟨as, h1, h2⟩, q⟩ := h
    refine ⟨_, (pss_cons (ps_if (pt_cmpR op_eq (pe_callB call_len_seq (by rfl) T.b_len PySem.boot_len (pa_cons (pv 0) pa_nil)) pe_int (nomark _)) (pss_one (ps_ret pe_int)) pss_nil)
    (pss_one (ps_ret (pe_fld (pe_ix (r := rIxL K) ix_list (pv 0) (pe_un un_neg pe_int) (fun _ _ => rfl)) rfl)))), ?_⟩
    rcases nil_or_snoc ss with e | ⟨m, s, e⟩
    · subst e
      have e := h2.nil_iff
      subst e
      refine q_if (b := true) (et_is (et_test (ev_op (ev_len (ev_var rfl) h1) ev_c ev_eqI)) rfl) (fun _ H1 e1 => ?_) fun h => by cases h
      exact s_ret ev_c fun H2 e2 => q H2 (e1.trans e2)
    · subst e
      obtain ⟨bs, c, e, h3, h4⟩ := h2.last
      subst e
      rw [refs_snoc] at h1
      refine q_if (b := false) (et_is (et_test (ev_op (ev_len (ev_var rfl) h1) ev_c ev_eqI)) (decide_eq_false ?_)) (fun h => by cases h) fun _ H1 e1 => ?_
      · rw [List.length_append]
        show ¬ (((refs bs).length + 1 : Nat) : Int) = 0
        omega
      refine s_ret (ev_S_end T (ev_op (ev_var rfl) (ev_un ev_c ru_neg) (rv_ixL (ex_l e1 h1) (atI_last (refs bs) (.ref c)))) (h4.mono e1)) fun H2 e2 => ?_
      have ee : endOf (m ++ [s]) = s.fin := by
        unfold endOf
        rw [last_snoc]
      rw [← ee]
      exact q H2 (e1.trans e2)
theorem ev_end_of (h : Ev ta σ H (.ref t)) (hs : SL K a H t ss) : Ev (tCall (spEndOf K a) [] E (tCons ta tNil)) σ H (.int (endOf ss)) :=
  ev_call (ea_cons h ea_nil) fun H1 e Q q _ => ⟨t, ss, rfl, hs.mono e, q⟩
/-! ### first_work, behind_work -/
def placeV : Option Nat → V
  | some i => .int (i : Int)
  | none => .non
def spFirstWork (K : PySem.W.Frag) (a : Ad) : Sp := fun vs H Q _ => ∃ t ss, vs = [.ref t] ∧ SL K a H t ss ∧ ∀ H1, Ex H H1 → Q (placeV (workAt ss)) H1
theorem workAt_take : ∀ (ss : List S) (i : Nat) (s : S), ss[i]? = some s → (∀ x ∈ ss.take i, x.kind = 0) → ¬ s.kind = 0 → workAt ss = some i
  | [], i, s, h, _, _ => by simp at h
  | x :: ss, 0, s, h, _, k => by
    have e : x = s := Option.some.inj h
    rw [workAt_cons, if_neg (by rw [e]; exact k)]
  | x :: ss, i + 1, s, h, hk, k => by
    rw [List.take_succ_cons] at hk
    rw [workAt_cons, if_pos (hk x List.mem_cons_self), workAt_take ss i s (by simpa using h) (fun y hy => hk y (List.mem_cons_of_mem _ hy)) k]
    rfl
theorem workAt_none : ∀ (ss : List S), (∀ x ∈ ss, x.kind = 0) → workAt ss = none
  | [], _ => rfl
  | x :: ss, hk => by
    rw [workAt_cons, if_pos (hk x List.mem_cons_self), workAt_none ss fun y hy => hk y (List.mem_cons_of_mem _ hy)]
    rfl
theorem ok_first_work (T : Txt K mg a) : CallP P w K mg base CX0 1 "first_work" P_first_work (spFirstWork K a) := by
  refine T.f_first_work.ok sc_first_work (fun vs H Q E h => ?_) fun f cdv A outer s H vs Q E hr h => ?_
  · obtain ⟨_, _, rfl, _⟩ := h
    rfl
  · obtain ⟨t, ss, rfl, ⟨as, h1, h2⟩, q⟩ := h
    refine ⟨_, (pss_cons (ps_for PassesOwn.never rfl (pi_enum (by rfl) T.b_enumerate (pa_cons (pv 0) pa_nil)) (pg_tup rfl (pgs_cons (pg_name (i := 1) sc_first_work.nd rfl (Or.inl rfl)) (pgs_cons (pg_name (i := 2) sc_first_work.nd rfl (Or.inl rfl)) pgs_nil)))
    (pss_one (ps_if (pt_cmpR op_ne (pe_fld (pv 2) rfl) (pe_gi T.c_REST rfl) (nomark _)) (pss_one (ps_ret (pv 1))) pss_nil)))
    (pss_one (ps_ret pe_non))), ?_⟩
    refine ⟨_, rfl, t, _, rfl, h1, for_enumO (F := AtS a) (as := as) (xs := ss) (fun i σ H' => (∃ v1 v2, σ = [some (.ref t), v1, v2]) ∧ Ex H H' ∧ ∀ x ∈ ss.take i, x.kind = 0) ⟨⟨_, _, rfl⟩, Ex.refl H, fun x hx => by simp at hx⟩
      (fun i σ H' ⟨_, e, _⟩ => ⟨ex_l e h1, h2.mono fun b x r => r.mono e⟩) ?_ ?_⟩
    · rintro i s b T0 σ H1 hi ⟨⟨v1, v2, rfl⟩, e1, hk⟩ hb nT
      have e2 : Ex H1 (upd H1 T0 (.tup [.int (i : Int), .ref b])) := Ex.new nT
      refine ⟨T0, _, rfl, st_of upd_same, rfl, _, _, rfl, _, _, rfl, rfl, ?_⟩
      refine s_if (et_test (ev_op (ev_S_kind T (ev_var rfl) (hb.mono e2)) ev_c ev_neI)) (fun hne H3 e3 => ?_) fun hne H3 e3 => ?_
      · have hne' : ¬ s.kind = 0 := fun z => by rw [decide_eq_true z] at hne; cases hne
        refine s_ret (ev_var rfl) fun H4 e4 => ?_
        have := q H4 (((e1.trans e2).trans e3).trans e4)
        rw [workAt_take ss i s hi hk hne'] at this
        exact this
      · have he' : s.kind = 0 := by
          by_cases z : s.kind = 0
          · exact z
          · rw [decide_eq_false z] at hne
            cases hne
        refine ⟨⟨_, _, rfl⟩, (e1.trans e2).trans e3, fun x hx => ?_⟩
        rw [List.take_add_one, hi] at hx
        rcases List.mem_append.mp hx with m | m
        · exact hk x m
        · have : x = s := by simpa using m
          rw [this]
          exact he'
    · rintro σ H1 ⟨⟨v1, v2, rfl⟩, e1, hk⟩
      rw [List.take_length] at hk
      dsimp only
      refine s_ret ev_c fun H2 e2 => ?_
      have := q H2 (e1.trans e2)
      rw [workAt_none ss hk] at this
      exact this
theorem cut_nat (xs : List V) (i : Nat) (h : i ≤ xs.length) : cutV xs (some (i : Int)) none = xs.drop i := by
  unfold cutV
  rw [show HT.sIx xs.length 0 (some (i : Int)) = min i xs.length from HT.sIx_nat xs.length 0 i, HT.sIx_none, Nat.min_eq_left h]
  exact List.take_of_length_le (by rw [List.length_drop]; exact Nat.le_refl _)
theorem workAt_le {ss : List S} {i : Nat} (h : workAt ss = some i) : i ≤ ss.length := by
  have := List.findIdx?_eq_some_iff_findIdx_eq.mp h
  exact Nat.le_of_lt this.1
def spBehindWork (K : PySem.W.Frag) (a : Ad) : Sp := fun vs H Q _ => ∃ t ss, vs = [.ref t] ∧ SL K a H t ss ∧ ∀ p H1, H p = none → Ex H H1 → LO (AtS a) H1 p (behindWork ss) → Q (.ref p) H1
theorem ok_behind_work (T : Txt K mg a) : CallP P w K mg base CX0 2 "behind_work" P_behind_work (spBehindWork K a) := by
  refine T.f_behind_work.ok sc_behind_work (fun vs H Q E h => ?_) fun f cdv A outer s H vs Q E hr h => ?_
  · obtain ⟨_, _, rfl, _⟩ := h
    rfl
  · obtain ⟨t, ss, rfl, hs, q⟩ := h
    refine ⟨_, (pss_cons (ps_set (i := 1) sc_behind_work.nd rfl (Or.inl rfl) (pe_callP (ok_first_work T) (hr.mono (by decide)) rfl pass0 (pa_cons (pv 0) pa_nil)))
    (pss_cons (ps_if (pt_cmp (pc_isN (pv 1))) (pss_one (ps_ret (pe_lst pa_nil))) pss_nil)
    (pss_one (ps_ret (pe_slice sl_list (pv 0) (po_some (pv 1)) po_none))))), ?_⟩
    refine q_asg (ev_call (ea_cons (ev_var rfl) ea_nil) fun H1 e Q q _ => ⟨t, ss, rfl, hs.mono e, q⟩) fun H1 e1 => ?_
    cases hw : workAt ss with
    | none =>
      refine q_if (b := true) (fun H2 e2 Q k => ⟨_, rfl, true, rfl, k H2 (Ex.refl H2)⟩) (fun _ H2 e2 => ?_) fun h => by cases h
      refine s_retL (el_lst ea_nil (by show 0 ≤ 100000; decide)) fun p H3 np e3 hp => q p H3 (fresh_back (e1.trans e2) np) ((e1.trans e2).trans e3) ?_
      have eb : behindWork ss = [] := by
        unfold behindWork
        rw [hw]
      rw [eb]
      exact ⟨[], hp, True.intro⟩
    | some i =>
      obtain ⟨as, h1, h2⟩ := hs
      refine q_if (b := false) (fun H2 e2 Q k => ⟨_, rfl, false, rfl, k H2 (Ex.refl H2)⟩) (fun h => by cases h) fun _ H2 e2 => ?_
      refine s_retL (el_sl (ev_var rfl) (eo_some (ev_var rfl)) eo_none (ex_l (e1.trans e2) h1)) fun p H3 np e3 hp => q p H3 (fresh_back (e1.trans e2) np) ((e1.trans e2).trans e3) ?_
      have hle : i ≤ (refs as).length := by
        rw [refs_len, h2.len]
        exact workAt_le hw
      rw [cut_nat _ _ hle, ← List.map_drop] at hp
      have eb : behindWork ss = ss.drop i := by
        unfold behindWork
        rw [hw]
      rw [eb]
      exact ⟨as.drop i, hp, (h2.drop i).mono fun b x r => r.mono ((e1.trans e2).trans e3)⟩
theorem en_behind_work (h : Ev ta σ H (.ref t)) (hs : SL K a H t ss) : EvN (tCall (spBehindWork K a) [] E (tCons ta tNil)) σ H fun p H2 => LO (AtS a) H2 p (behindWork ss) :=
  en_call (ea_cons h ea_nil) fun H1 e Q q _ => ⟨t, ss, rfl, hs.mono e, q⟩
/-! ### driving -/
def rMin2 : List V → Hp → VK → Prop := fun xs H Q => ∃ i j, xs = [.int i, .int j] ∧ Q (.int (if j < i then j else i)) H
theorem ev_mx {i j : Int} (ha : Ev ta σ H (.int i)) (hb : Ev tb σ H (.int j)) : Ev (tCB (fun xs H Q => ∃ i j, xs = [.int i, .int j] ∧ Q (.int (if j > i then j else i)) H) (tCons ta (tCons tb tNil))) σ H (.int (mx i j)) := ev_max2 ha hb
theorem ev_mn {i j : Int} (ha : Ev ta σ H (.int i)) (hb : Ev tb σ H (.int j)) : Ev (tCB (fun xs H Q => ∃ i j, xs = [.int i, .int j] ∧ Q (.int (if j < i then j else i)) H) (tCons ta (tCons tb tNil))) σ H (.int (mn i j)) := fun H1 e Q q =>
  ha H1 e _ fun H2 e2 => hb H2 (e.trans e2) _ fun H3 e3 => ⟨i, j, rfl, q H3 (e2.trans e3)⟩
def spDrivingIn (K : PySem.W.Frag) (a : Ad) : Sp := fun vs H Q _ => ∃ t ss b e, vs = [.ref t, .int b, .int e] ∧ SL K a H t ss ∧ ∀ H1, Ex H H1 → Q (.int (drivingIn ss b e)) H1
theorem ok_driving_in (T : Txt K mg a) : CallP P w K mg base CX0 1 "driving_in" P_driving_in (spDrivingIn K a) := by
  refine T.f_driving_in.ok sc_driving_in (fun vs H Q E h => ?_) fun f cdv A outer s H vs Q E hr h => ?_
  · obtain ⟨_, _, _, _, rfl, _⟩ := h
    rfl
  · obtain ⟨t, ss, b, e, rfl, ⟨as, h1, h2⟩, q⟩ := h
    refine ⟨_, (pss_cons (ps_set (i := 3) sc_driving_in.nd rfl (Or.inl rfl) pe_int)
    (pss_cons (ps_for PassesOwn.never rfl (pi_list (pv 0)) (pg_name (i := 4) sc_driving_in.nd rfl (Or.inl rfl))
    (pss_one (ps_if (pt_cmpR op_eq (pe_fld (pv 4) rfl) (pe_gi T.c_DRIVING rfl) (nomark _)) (pss_one (ps_aug (i := 3) sc_driving_in.nd rfl (.inl rfl) (pe_callB (call_max2 rfl) (by rfl) T.b_max (by decide +kernel) (pa_cons pe_int (pa_cons (pe_op op_sub (pe_callB (call_min2 rfl) (by rfl) T.b_min (by decide +kernel) (pa_cons (pe_fld (pv 4) rfl) (pa_cons (pv 2) pa_nil))) (pe_callB (call_max2 rfl) (by rfl) T.b_max (by decide +kernel) (pa_cons (pe_fld (pv 4) rfl) (pa_cons (pv 1) pa_nil)))) pa_nil))) ip_add)) pss_nil)))
    (pss_one (ps_ret (pv 3))))), ?_⟩
    refine q_asg ev_c fun H1 e1 => ?_
    refine ⟨_, rfl, t, rfl, ⟨_, ex_l e1 h1⟩, for_objs (F := AtS a) (as := as) (xs := ss) (fun pre σ H' => (∃ v, σ = [some (.ref t), some (.int b), some (.int e), some (.int (pre.foldl (drvIn b e) 0)), v]) ∧ Ex H H') ⟨⟨_, rfl⟩, e1⟩
      (fun pre σ H' ⟨_, e⟩ => ⟨ex_l e h1, h2.mono fun b x r => r.mono e⟩) ?_ ?_⟩
    · rintro pre s post c σ H2 hsp ⟨⟨v, rfl⟩, e2⟩ hc
      refine s_when (et_test (ev_op (ev_S_kind T (ev_var rfl) hc) (ev_c (v := .int 1)) ev_eqI)) (fun hk H3 e3 => ?_) fun hk H3 e3 => ?_
      · refine s_aug rfl (ev_mx ev_c (ev_op (ev_mn (ev_S_end T (ev_var rfl) (hc.mono e3)) (ev_var rfl)) (ev_mx (ev_S_begin T (ev_var rfl) (hc.mono e3)) (ev_var rfl)) rv_I0)) fun H4 e4 => ⟨⟨some (.ref c), ?_⟩, (e2.trans e3).trans e4⟩
        rw [fold_snoc]
        unfold drvIn
        rw [if_pos (of_decide_eq_true hk)]
        rfl
      · refine ⟨⟨some (.ref c), ?_⟩, e2.trans e3⟩
        rw [fold_snoc]
        unfold drvIn
        rw [if_neg (of_decide_eq_false hk)]
        rfl
    · rintro σ H2 ⟨⟨v, rfl⟩, e2⟩
      exact s_ret (ev_var rfl) fun H3 e3 => q H3 (e2.trans e3)
def spDrivingInWeek (K : PySem.W.Frag) (a : Ad) : Sp := fun vs H Q _ => ∃ t ss k, vs = [.ref t, .int k] ∧ SL K a H t ss ∧ ∀ H1, Ex H H1 → Q (.int (inWeek ss k)) H1
theorem rv_mulC {i : Int} : RV (rI CMul fun i j => .int (i * j)) (.int i) (.int 10080) H (.int (i * 10080)) := rv_I (.inr (by constructor <;> decide))
theorem ok_driving_in_week (T : Txt K mg a) : CallP P w K mg base CX0 2 "driving_in_week" P_driving_in_week (spDrivingInWeek K a) := by
  refine T.f_driving_in_week.ok sc_driving_in_week (fun vs H Q E h => ?_) fun f cdv A outer s H vs Q E hr h => ?_
  · obtain ⟨_, _, _, rfl, _⟩ := h
    rfl
  · obtain ⟨t, ss, k, rfl, hs, q⟩ := h
    refine ⟨_, (pss_one (ps_ret (pe_callP (ok_driving_in T) (hr.mono (by decide)) rfl pass0 (pa_cons (pv 0) (pa_cons (pe_op op_mul (pv 1) (pe_gi T.c_WEEK rfl)) (pa_cons (pe_op op_mul (pe_op op_add (pv 1) pe_int) (pe_gi T.c_WEEK rfl)) pa_nil)))))), ?_⟩
    exact s_ret (ev_call (ea_cons (ev_var rfl) (ea_cons (ev_op (ev_var rfl) ev_c rv_mulC) (ea_cons (ev_op (ev_op (ev_var rfl) ev_c rv_I0) ev_c rv_mulC) ea_nil))) fun H1 e Q q _ => ⟨t, ss, _, _, rfl, hs.mono e, q⟩) q
theorem ev_in_week {k : Int} (h : Ev ta σ H (.ref t)) (hk : Ev tb σ H (.int k)) (hs : SL K a H t ss) : Ev (tCall (spDrivingInWeek K a) [] E (tCons ta (tCons tb tNil))) σ H (.int (inWeek ss k)) :=
  ev_call (ea_cons h (ea_cons hk ea_nil)) fun H1 e Q q _ => ⟨t, ss, k, rfl, hs.mono e, q⟩
end
end Dv
namespace Dv
open PySem PySem.Spec PyProof.Rows L2 Evl
section
variable {K : PySem.W.Frag} {σ : L2.St} {H H' : Hp} {ta tb te : TE} {x b c C dx : Addr} {fs : List (Str × V)} {m : Str} {sp : Sp} {dvs vs : List V} {tas : TA} {E : XK} {D : Ends} {tz : TS}
/-- a method called for what it changes -/
theorem s_methU (h : Ev ta σ H (.ref c)) (ho : H c = some (.ins C dx fs)) (hm : fs.lookup m = none) (hv : EvA tas σ H vs) (hs : ∀ H1, Ex H H1 → sp (.ref c :: (vs ++ dvs)) H1 (fun _ H2 => D.nx σ H2) E) : tDrop (tMeth C m sp dvs E ta tas) D σ H :=
  h H (Ex.refl H) _ fun H1 e1 => ⟨c, dx, fs, rfl, e1 _ _ ho, hm, hv H1 e1 _ fun H2 e2 => hs H2 (e1.trans e2)⟩
theorem q_methU (h : Ev ta σ H (.ref c)) (ho : H c = some (.ins C dx fs)) (hm : fs.lookup m = none) (hv : EvA tas σ H vs) (hs : ∀ H1, Ex H H1 → sp (.ref c :: (vs ++ dvs)) H1 (fun _ H2 => tz D σ H2) E) : tSeq (tDrop (tMeth C m sp dvs E ta tas)) tz D σ H :=
  s_methU (D := { D with nx := tz D }) h ho hm hv hs
/-- all but two stands -/
def But2 (x l : Addr) (H H' : Hp) : Prop := ∀ b o, H b = some o → b ≠ x → b ≠ l → H' b = some o
theorem But2.refl (x l : Addr) (H : Hp) : But2 x l H H := fun _ _ h _ _ => h
theorem But2.of {x l : Addr} (e : Ex H H') : But2 x l H H' := fun b o h _ _ => e b o h
theorem But2.trans {x l : Addr} {H H1 H2 : Hp} (p : But2 x l H H1) (q : But2 x l H1 H2) : But2 x l H H2 := fun b o h n k => q b o (p b o h n k) n k
theorem But2.upd1 {x l : Addr} {H H1 : Hp} {o : HO} (p : But2 x l H H1) : But2 x l H (upd H1 x o) := fun b u h n k => by
  rw [upd_ne n]
  exact p b u h n k
theorem But2.upd2 {x l : Addr} {H H1 : Hp} {o : HO} (p : But2 x l H H1) : But2 x l H (upd H1 l o) := fun b u h n k => by
  rw [upd_ne k]
  exact p b u h n k
theorem But2.ex {x l : Addr} {H0 H H1 : Hp} (p : But2 x l H H1) (e : Ex H0 H) (nx : H0 x = none) (nl : H0 l = none) : Ex H0 H1 := fun b o h => p b o (e b o h) (ne_of_none h nx) (ne_of_none h nl)
end
section
variable {P : Program} {w : World} {K : PySem.W.Frag} {mg : Str → Option Value} {base : Heap} {a : Ad} {σ : L2.St} {H H' : Hp} {ta tb te : TE} {x b t bl : Addr} {E : XK} {ss : List S}
/-! ### Breaks -/
def optV : Option Int → V
  | some i => .int i
  | none => .non
def brF (bl : Addr) (b : Br) : List (Str × V) := [("driving", .int b.driving), ("has_part", .bl b.part), ("minute", optV b.minute), ("breaches", .ref bl)]
theorem brF_driving (b : Br) : (brF bl b).lookup ("driving" : Str) = some (.int b.driving) := lk_here
theorem brF_part (b : Br) : (brF bl b).lookup ("has_part" : Str) = some (.bl b.part) := (lk_past (by decide +kernel)).trans lk_here
theorem brF_minute (b : Br) : (brF bl b).lookup ("minute" : Str) = some (optV b.minute) := (lk_past (by decide +kernel)).trans ((lk_past (by decide +kernel)).trans lk_here)
theorem brF_breaches (b : Br) : (brF bl b).lookup ("breaches" : Str) = some (.ref bl) := (lk_past (by decide +kernel)).trans ((lk_past (by decide +kernel)).trans ((lk_past (by decide +kernel)).trans lk_here))
theorem brF_no {m : Str} (b : Br) (h1 : (m == ("driving" : Str)) = false) (h2 : (m == ("has_part" : Str)) = false) (h3 : (m == ("minute" : Str)) = false) (h4 : (m == ("breaches" : Str)) = false) : (brF bl b).lookup m = none :=
  (lk_past h1).trans ((lk_past h2).trans ((lk_past h3).trans ((lk_past h4).trans rfl)))
theorem brF_close (b : Br) : (brF bl b).lookup ("close" : Str) = none := brF_no b (by decide +kernel) (by decide +kernel) (by decide +kernel) (by decide +kernel)
theorem brF_take_rest (b : Br) : (brF bl b).lookup ("take_rest" : Str) = none := brF_no b (by decide +kernel) (by decide +kernel) (by decide +kernel) (by decide +kernel)
theorem brF_drive (b : Br) : (brF bl b).lookup ("drive" : Str) = none := brF_no b (by decide +kernel) (by decide +kernel) (by decide +kernel) (by decide +kernel)
theorem brF_take (b : Br) : (brF bl b).lookup ("take" : Str) = none := brF_no b (by decide +kernel) (by decide +kernel) (by decide +kernel) (by decide +kernel)
theorem brF_pdriving (b : Br) (n : Int) : putF "driving" (.int n) (brF bl b) = brF bl ⟨n, b.part, b.minute, b.br⟩ := put_here
theorem brF_ppart (b : Br) (n : Bool) : putF "has_part" (.bl n) (brF bl b) = brF bl ⟨b.driving, n, b.minute, b.br⟩ := (put_past (by decide +kernel)).trans (congrArg _ put_here)
theorem brF_pminute (b : Br) (n : Option Int) : putF "minute" (optV n) (brF bl b) = brF bl ⟨b.driving, b.part, n, b.br⟩ := (put_past (by decide +kernel)).trans (congrArg _ ((put_past (by decide +kernel)).trans (congrArg _ put_here)))
theorem brF_new : putF "breaches" (.ref bl) (putF "minute" .non (putF "has_part" (.bl false) (putF "driving" (.int 0) []))) = brF bl Br.fresh := by
  have a1 : putF "has_part" (.bl false) (putF "driving" (.int 0) []) = ([("driving", .int 0), ("has_part", .bl false)] : List (Str × V)) := put_past (by decide +kernel)
  have a2 : putF "minute" .non ([("driving", .int 0), ("has_part", .bl false)] : List (Str × V)) = ([("driving", .int 0), ("has_part", .bl false), ("minute", .non)] : List (Str × V)) := (put_past (by decide +kernel)).trans (congrArg _ (put_past (by decide +kernel)))
  rw [a1, a2]
  exact (put_past (by decide +kernel)).trans (congrArg _ ((put_past (by decide +kernel)).trans (congrArg _ (put_past (by decide +kernel)))))
structure AtBr (a : Ad) (H : Hp) (x bl : Addr) (b : Br) : Prop where
  obj : ∃ dx, H x = some (.ins a.cBr dx (brF bl b))
  lo : LO (AtB a) H bl b.br
theorem LO.mono {α : Type} {F : Hp → Addr → α → Prop} (st : Stable F) {p : Addr} {xs : List α} (h : LO F H p xs) (e : Ex H H') : LO F H' p xs := by
  obtain ⟨as, h1, h2⟩ := h
  exact ⟨as, e _ _ h1, h2.mono fun b x q => st _ _ _ _ q (.of e)⟩
theorem AtBr.mono {b : Br} (h : AtBr a H x bl b) (e : Ex H H') : AtBr a H' x bl b := by
  obtain ⟨⟨dx, h1⟩, h2⟩ := h
  exact ⟨⟨dx, e _ _ h1⟩, h2.mono (stB a) e⟩
/-- the instance's own fields change -/
theorem AtBr.put {b b' : Br} {dx : Addr} (h : AtBr a H x bl b) (e : b'.br = b.br) : AtBr a (upd H x (.ins a.cBr dx (brF bl b'))) x bl b' := by
  obtain ⟨⟨dx', h1⟩, as, h2, h3⟩ := h
  have ne : bl ≠ x := fun z => by rw [z, h1] at h2; cases h2
  refine ⟨⟨dx, upd_same⟩, as, (by rw [upd_ne ne]; exact h2), ?_⟩
  rw [e]
  refine h3.mono fun c y ⟨d, hc⟩ => ⟨d, ?_⟩
  have ne2 : c ≠ x := fun z => by
    rw [z, h1] at hc
    have q := HO.ins.inj (Option.some.inj hc)
    have q2 := q.2.2
    have q3 := congrArg List.length q2
    exact absurd q3 (by show ¬ 4 = 3; decide)
  rw [upd_ne ne2]
  exact hc
def spBr_init (a : Ad) : Sp := fun vs H Q _ => ∃ x dx, vs = [.ref x] ∧ H x = some (.ins a.cBr dx []) ∧ ∀ bl H1, H bl = none → AtBr a H1 x bl Br.fresh → (∀ c o, H c = some o → c ≠ x → H1 c = some o) → Q .non H1
theorem ok_Br_init (T : Txt K mg a) : MakeP P w K mg base CX0 1 a.cBr P_Br_init (spBr_init a) := by
  refine T.i_Br.ok sc_Br_init (fun vs H Q E h => ?_) fun f cdv A outer s H vs Q E hr h => ?_
  · obtain ⟨_, _, rfl, _⟩ := h
    rfl
  · obtain ⟨x, dx, rfl, hx, q⟩ := h
    refine ⟨_, (pss_cons (ps_fld (pv 0) pe_int rfl)
    (pss_cons (ps_fld (pv 0) pe_bl rfl)
    (pss_cons (ps_fld (pv 0) pe_non rfl)
    (pss_one (ps_fld (pv 0) (pe_lst pa_nil) rfl))))), ?_⟩
    refine ⟨_, rfl, x, a.cBr, dx, [], rfl, hx, T.cl_Br, T.na_Br_driving, (by show 0 < 1000; decide), ?_⟩
    refine ⟨_, rfl, x, a.cBr, dx, _, rfl, upd_same, T.cl_Br, T.na_Br_has_part, (by show 1 < 1000; decide), ?_⟩
    refine ⟨_, rfl, x, a.cBr, dx, _, rfl, upd_same, T.cl_Br, T.na_Br_minute, (by show 2 < 1000; decide), ?_⟩
    refine ⟨Nat.zero_le _, fun bl nb => ?_⟩
    have nx : x ≠ bl := fun z => by rw [← z, upd_same] at nb; cases nb
    refine ⟨_, rfl, x, a.cBr, dx, putF "minute" .non (putF "has_part" (.bl false) (putF "driving" (.int 0) [])), rfl, ?_, T.cl_Br, T.na_Br_breaches, (by show 3 < 1000; decide), ?_⟩
    · rw [upd_ne nx, upd_same]
    · have nbH : H bl = none := by
        rw [upd_upd, upd_upd, upd_ne nx.symm] at nb
        exact nb
      refine q bl _ nbH ⟨⟨dx, by rw [upd_same, brF_new]⟩, [], ?_, True.intro⟩ fun c o hc n => ?_
      · rw [upd_ne nx.symm, upd_same]
        rfl
      · rw [upd_ne n, upd_ne (ne_of_none hc nbH), upd_ne n, upd_ne n, upd_ne n]
        exact hc
def spBr_close (a : Ad) : Sp := fun vs H Q _ => ∃ x bl b, vs = [.ref x] ∧ AtBr a H x bl b ∧ b.br.length < 1000 ∧ ∀ H1, AtBr a H1 x bl b.close → But2 x bl H H1 → Q .non H1
theorem ok_Br_close (T : Txt K mg a) : MethP P w K mg base CX0 3 a.cBr "close" P_Br_close (spBr_close a) := by
  refine T.m_Br_close.ok sc_Br_close (fun vs H Q E h => ?_) fun f cdv A outer s H vs Q E hr h => ?_
  · obtain ⟨_, _, _, rfl, _⟩ := h
    rfl
  · obtain ⟨x, bl, b, rfl, hb, hl, q⟩ := h
    refine ⟨_, (pss_one (ps_if (pt_cmp (pc_notN (pe_fld (pv 0) rfl))) (pss_one (ps_expr (pe_bm PySem.F.plainAttrs_list PySem.F.slot_list_append PySem.F.type_list_append mt_append (pe_fld (pv 0) rfl) (pa_cons (pe_makeP (ok_B_init T) T.g_B (hr.mono (by decide)) rfl pass0 (pa_cons (pe_fld (pv 0) rfl) (pa_cons (pe_gi T.c_RULE rfl) (pa_cons (pe_op op_sub (pe_fld (pv 0) rfl) (pe_gi T.c_MOST_DRIVING_breaks rfl)) pa_nil)))) pa_nil)))) pss_nil)), ?_⟩
    obtain ⟨⟨dx, h1⟩, h2⟩ := id hb
    cases em : b.minute with
    | none =>
      have hm : (brF bl b).lookup ("minute" : Str) = some .non := (brF_minute b).trans (by rw [em]; rfl)
      refine s_when (b := false) (fun H2 e2 Q k => ⟨_, rfl, x, a.cBr, dx, _, .non, rfl, e2 _ _ h1, T.cl_Br, T.na_Br_minute, hm, false, rfl, k H2 (Ex.refl _)⟩) (fun h => by cases h) fun _ H2 e2 => q H2 ?_ (.of e2)
      have ec : b.close = b := by unfold Br.close; rw [em]
      rw [ec]
      exact hb.mono e2
    | some m =>
      have hm : (brF bl b).lookup ("minute" : Str) = some (.int m) := (brF_minute b).trans (by rw [em]; rfl)
      refine s_when (b := true) (fun H2 e2 Q k => ⟨_, rfl, x, a.cBr, dx, _, .int m, rfl, e2 _ _ h1, T.cl_Br, T.na_Br_minute, hm, true, rfl, k H2 (Ex.refl _)⟩) (fun _ H2 e2 => ?_) (fun h => by cases h)
      obtain ⟨as, h2, h3⟩ := h2
      have h1' := e2 _ _ h1
      have h2' := e2 _ _ h2
      refine s_appN h2' (ev_fld (ev_var rfl) h1' T.cl_Br T.na_Br_breaches (brF_breaches b)) (en_B (a := a) (k := m) (b := 1) (e := b.driving - 270) (ev_fld (ev_var rfl) h1' T.cl_Br T.na_Br_minute hm) ev_c (ev_op (ev_fld (ev_var rfl) h1' T.cl_Br T.na_Br_driving (brF_driving b)) ev_c rv_I0)) ?_ fun p H3 np e3 hp => ?_
      · rw [refs_len, h3.len]
        omega
      · have ec : b.close = ⟨b.driving, b.part, b.minute, b.br ++ [⟨m, 1, b.driving - 270⟩]⟩ := by unfold Br.close; rw [em]
        have kp : Kp H (upd H3 bl (.lst (refs as ++ [.ref p]))) := (Kp.of (e2.trans e3)).lst h2
        have kp3 : Kp H3 (upd H3 bl (.lst (refs as ++ [.ref p]))) := (Kp.refl H3).lst (e3 _ _ h2')
        refine q _ ?_ (But2.upd2 (.of (e2.trans e3)))
        rw [ec]
        refine ⟨⟨dx, kp _ _ h1 rfl⟩, as ++ [p], ?_, All2.snoc (h3.mono fun c y r => r.kp kp) (hp.kp kp3)⟩
        rw [upd_same, refs_snoc]
theorem close_len (b : Br) : b.close.br.length ≤ b.br.length + 1 := by
  unfold Br.close
  split
  · rw [List.length_append]
    exact Nat.le_refl _
  · exact Nat.le_succ _
def spBr_take_rest (a : Ad) : Sp := fun vs H Q _ => ∃ x bl b y s, vs = [.ref x, .ref y] ∧ AtBr a H x bl b ∧ AtS a H y s ∧ b.br.length < 1000 ∧ ∀ H1, AtBr a H1 x bl (b.takeRest s) → But2 x bl H H1 → Q .non H1
theorem S_ne_Br {s : S} {b : Br} {y : Addr} (h : AtS a H y s) (g : AtBr a H x bl b) : y ≠ x ∧ y ≠ bl := by
  obtain ⟨dx, h⟩ := h
  obtain ⟨⟨d, g⟩, as, g2, _⟩ := g
  refine ⟨fun z => ?_, fun z => ?_⟩
  · rw [z, g] at h
    have q := HO.ins.inj (Option.some.inj h)
    exact absurd (congrArg List.length q.2.2) (by show ¬ 4 = 3; decide)
  · rw [z, g2] at h
    cases h
theorem ok_Br_take_rest (T : Txt K mg a) : MethP P w K mg base CX0 4 a.cBr "take_rest" P_Br_take_rest (spBr_take_rest a) := by
  refine T.m_Br_take_rest.ok sc_Br_take_rest (fun vs H Q E h => ?_) fun f cdv A outer s H vs Q E hr h => ?_
  · obtain ⟨_, _, _, _, _, rfl, _⟩ := h
    rfl
  · obtain ⟨x, bl, b, y, s, rfl, hb, hy, hl, q⟩ := h
    refine ⟨_, (pss_one (ps_if (PW.pt (pw_or (pt_val (pe_methP (pv 1) T.cl_S (ok_S_is_rest T) (hr.mono (by decide)) pass0 (pa_cons (pe_gi T.c_WHOLE_breaks rfl) pa_nil))) (pw_or1 (PW.pt (pw_and (pt_val (pe_fld (pv 0) rfl)) (pw_and1 (pt_val (pe_methP (pv 1) T.cl_S (ok_S_is_rest T) (hr.mono (by decide)) pass0 (pa_cons (pe_gi T.c_SECOND_PART rfl) pa_nil))))))))) (pss_cons (ps_expr (pe_methP0 (pv 0) T.cl_Br (ok_Br_close T) (hr.mono (by decide)) pass0))
    (pss_cons (ps_fld (pv 0) pe_int rfl)
    (pss_cons (ps_fld (pv 0) pe_bl rfl)
    (pss_one (ps_fld (pv 0) pe_non rfl))))) (pss_one (ps_if (pt_val (pe_methP (pv 1) T.cl_S (ok_S_is_rest T) (hr.mono (by decide)) pass0 (pa_cons (pe_gi T.c_FIRST_PART rfl) pa_nil))) (pss_one (ps_fld (pv 0) pe_bl rfl)) pss_nil)))), ?_⟩
    obtain ⟨⟨dx, h1⟩, h2⟩ := id hb
    refine s_if (et_or (et_B (ev_S_is_rest (ev_var rfl) hy ev_c)) fun _ => et_and (et_B (ev_fld (ev_var rfl) h1 T.cl_Br T.na_Br_has_part (brF_part b))) fun _ => et_B (ev_S_is_rest (ev_var rfl) hy ev_c)) (fun hc H1 e1 => ?_) fun hc H1 e1 => ?_
    · refine q_methU (ev_var rfl) (e1 _ _ h1) (brF_close b) ea_nil fun H2 e2 => ⟨x, bl, b, rfl, hb.mono (e1.trans e2), hl, fun H3 hb3 k3 => ?_⟩
      obtain ⟨⟨dx3, h3⟩, _⟩ := id hb3
      refine q_fld ev_c (ev_var rfl) h3 T.cl_Br T.na_Br_driving (by show 4 < 1000; decide) fun H4 e4 => ?_
      rw [brF_pdriving]
      have hb4 := (hb3.mono e4).put (dx := dx3) (b' := ⟨0, b.close.part, b.close.minute, b.close.br⟩) rfl
      refine q_fld ev_c (ev_var rfl) upd_same T.cl_Br T.na_Br_has_part (by show 4 < 1000; decide) fun H5 e5 => ?_
      rw [brF_ppart]
      have hb5 := (hb4.mono e5).put (dx := dx3) (b' := ⟨0, false, b.close.minute, b.close.br⟩) rfl
      refine s_fld (v := optV none) ev_c (ev_var rfl) upd_same T.cl_Br T.na_Br_minute (by show 4 < 1000; decide) fun H6 e6 => ?_
      rw [brF_pminute]
      have hb6 := (hb5.mono e6).put (dx := dx3) (b' := ⟨0, false, none, b.close.br⟩) rfl
      refine q _ ?_ (But2.upd1 (((But2.upd1 ((((But2.of (e1.trans e2)).trans k3).trans (.of e4)))).trans (.of e5)).upd1.trans (.of e6)))
      unfold Br.takeRest
      rw [if_pos hc]
      exact hb6
    · refine s_when (et_B (ev_S_is_rest (ev_var rfl) (hy.mono e1) ev_c)) (fun hc2 H2 e2 => ?_) fun hc2 H2 e2 => ?_
      · refine s_fld ev_c (ev_var rfl) (e2 _ _ (e1 _ _ h1)) T.cl_Br T.na_Br_has_part (by show 4 < 1000; decide) fun H3 e3 => ?_
        rw [brF_ppart]
        refine q _ ?_ (But2.upd1 (.of ((e1.trans e2).trans e3)))
        unfold Br.takeRest
        rw [if_neg (by rw [hc]; exact Bool.false_ne_true), if_pos hc2]
        exact (hb.mono ((e1.trans e2).trans e3)).put rfl
      · refine q _ ?_ (.of (e1.trans e2))
        unfold Br.takeRest
        rw [if_neg (by rw [hc]; exact Bool.false_ne_true), if_neg (by rw [hc2]; exact Bool.false_ne_true)]
        exact hb.mono (e1.trans e2)
def spBr_drive (a : Ad) : Sp := fun vs H Q _ => ∃ x bl b y s, vs = [.ref x, .ref y] ∧ AtBr a H x bl b ∧ AtS a H y s ∧ ∀ H1, AtBr a H1 x bl (b.drive s) → But2 x bl H H1 → Q .non H1
theorem ok_Br_drive (T : Txt K mg a) : MethP P w K mg base CX0 2 a.cBr "drive" P_Br_drive (spBr_drive a) := by
  refine T.m_Br_drive.ok sc_Br_drive (fun vs H Q E h => ?_) fun f cdv A outer s H vs Q E hr h => ?_
  · obtain ⟨_, _, _, _, _, rfl, _⟩ := h
    rfl
  · obtain ⟨x, bl, b, y, s, rfl, hb, hy, q⟩ := h
    refine ⟨_, (pss_cons (ps_if (PW.pt (pw_and (pt_cmp (pc_isN (pe_fld (pv 0) rfl))) (pw_and1 (pt_cmpR op_gt (pe_op op_add (pe_fld (pv 0) rfl) (pe_methP0 (pv 1) T.cl_S (ok_S_minutes T) (hr.mono (by decide)) pass0)) (pe_gi T.c_MOST_DRIVING_breaks rfl) (nomark _))))) (pss_one (ps_fld (pv 0) (pe_op op_sub (pe_op op_add (pe_fld (pv 1) rfl) (pe_gi T.c_MOST_DRIVING_breaks rfl)) (pe_fld (pv 0) rfl)) rfl)) pss_nil)
    (pss_one (ps_fldaug (pv 0) (pe_methP0 (pv 1) T.cl_S (ok_S_minutes T) (hr.mono (by decide)) pass0) in_add))), ?_⟩
    obtain ⟨⟨dx, h1⟩, h2⟩ := id hb
    have tail : ∀ {H1 : Hp} {b1 : Br}, AtBr a H1 x bl b1 → b1.driving = b.driving → (⟨b.driving + s.minutes, b1.part, b1.minute, b1.br⟩ : Br) = b.drive s → But2 x bl H H1 →
        sFldAug K (tVar 0) (tMeth a.cS "minutes" (spS_minutes a) [] E0 (tVar 1) tNil) rAdd "driving" { nx := fun _ H' => Q .non H', rt := Q } (start N_Br_drive [.ref x, .ref y]) H1 := fun {H1 b1} hb1 ed eb k1 => by
      obtain ⟨⟨dx1, g1⟩, _⟩ := id hb1
      obtain ⟨n1, n2⟩ := S_ne_Br hy hb
      obtain ⟨dy, hy'⟩ := hy
      refine s_fldaug (i := b.driving) (j := s.minutes) (ev_var rfl) g1 T.cl_Br T.na_Br_driving (by rw [← ed]; exact brF_driving b1) (ev_S_minutes (ev_var rfl) ⟨dy, k1 _ _ hy' n1 n2⟩) (by show 4 < 1000; decide) fun H2 e2 => ?_
      rw [brF_pdriving, eb]
      refine q _ ?_ (But2.upd1 (k1.trans (.of e2)))
      exact (hb1.mono e2).put (by rw [← eb])
    cases em : b.minute with
    | some m =>
      have hm : (brF bl b).lookup ("minute" : Str) = some (.int m) := (brF_minute b).trans (by rw [em]; rfl)
      refine q_when (b := false) (et_and (a := false) (b := false) (fun H2 e2 Q k => ⟨_, rfl, x, a.cBr, dx, _, .int m, rfl, e2 _ _ h1, T.cl_Br, T.na_Br_minute, hm, false, rfl, k H2 (Ex.refl _)⟩) (fun h => by cases h)) (fun h => by cases h) fun _ H1 e1 => ?_
      refine tail (hb.mono e1) rfl ?_ (.of e1)
      unfold Br.drive
      rw [em]
    | none =>
      have hm : (brF bl b).lookup ("minute" : Str) = some .non := (brF_minute b).trans (by rw [em]; rfl)
      refine q_when (b := decide (270 < b.driving + s.minutes)) (et_is (et_and (a := true) (fun H2 e2 Q k => ⟨_, rfl, x, a.cBr, dx, _, .non, rfl, e2 _ _ h1, T.cl_Br, T.na_Br_minute, hm, true, rfl, k H2 (Ex.refl _)⟩)
        (fun _ => et_test (ev_op (ev_op (ev_fld (ev_var rfl) h1 T.cl_Br T.na_Br_driving (brF_driving b)) (ev_S_minutes (ev_var rfl) hy) rv_I0) ev_c rv_I0))) (Bool.true_and _)) (fun hc H1 e1 => ?_) fun hc H1 e1 => ?_
      · refine s_fld (v := optV (some (s.beg + 270 - b.driving))) (ev_op (ev_op (ev_S_begin T (ev_var rfl) (hy.mono e1)) ev_c rv_I0) (ev_fld (ev_var rfl) (e1 _ _ h1) T.cl_Br T.na_Br_driving (brF_driving b)) rv_I0) (ev_var rfl) (e1 _ _ h1) T.cl_Br T.na_Br_minute (by show 4 < 1000; decide) fun H2 e2 => ?_
        rw [brF_pminute]
        refine tail ((hb.mono (e1.trans e2)).put rfl) rfl ?_ (But2.upd1 (.of (e1.trans e2)))
        unfold Br.drive
        rw [em]
        dsimp only
        rw [if_pos (of_decide_eq_true hc)]
      · refine tail (hb.mono e1) rfl ?_ (.of e1)
        unfold Br.drive
        rw [em]
        dsimp only
        rw [if_neg (of_decide_eq_false hc)]
def spBr_take (a : Ad) : Sp := fun vs H Q _ => ∃ x bl b y s, vs = [.ref x, .ref y] ∧ AtBr a H x bl b ∧ AtS a H y s ∧ b.br.length < 1000 ∧ ∀ H1, AtBr a H1 x bl (b.take s) → But2 x bl H H1 → Q .non H1
theorem ok_Br_take (T : Txt K mg a) : MethP P w K mg base CX0 5 a.cBr "take" P_Br_take (spBr_take a) := by
  refine T.m_Br_take.ok sc_Br_take (fun vs H Q E h => ?_) fun f cdv A outer s H vs Q E hr h => ?_
  · obtain ⟨_, _, _, _, _, rfl, _⟩ := h
    rfl
  · obtain ⟨x, bl, b, y, s, rfl, hb, hy, hl, q⟩ := h
    refine ⟨_, (pss_one (ps_if (pt_val (pe_methP (pv 1) T.cl_S (ok_S_is_rest T) (hr.mono (by decide)) pass0 (pa_cons pe_int pa_nil))) (pss_one (ps_expr (pe_methP (pv 0) T.cl_Br (ok_Br_take_rest T) (hr.mono (by decide)) pass0 (pa_cons (pv 1) pa_nil)))) (pss_one (ps_if (pt_cmpR op_eq (pe_fld (pv 1) rfl) (pe_gi T.c_DRIVING rfl) (nomark _)) (pss_one (ps_expr (pe_methP (pv 0) T.cl_Br (ok_Br_drive T) (hr.mono (by decide)) pass0 (pa_cons (pv 1) pa_nil)))) pss_nil)))), ?_⟩
    obtain ⟨⟨dx, h1⟩, h2⟩ := id hb
    refine s_if (et_B (ev_S_is_rest (ev_var rfl) hy ev_c)) (fun hc H1 e1 => ?_) fun hc H1 e1 => ?_
    · refine s_methU (ev_var rfl) (e1 _ _ h1) (brF_take_rest b) (ea_cons (ev_var rfl) ea_nil) fun H2 e2 => ⟨x, bl, b, y, s, rfl, hb.mono (e1.trans e2), hy.mono (e1.trans e2), hl, fun H3 hb3 k3 => q H3 ?_ ((But2.of (e1.trans e2)).trans k3)⟩
      unfold Br.take
      rw [if_pos hc]
      exact hb3
    · refine s_when (et_test (ev_op (ev_S_kind T (ev_var rfl) (hy.mono e1)) (ev_c (v := .int 1)) ev_eqI)) (fun hc2 H2 e2 => ?_) fun hc2 H2 e2 => ?_
      · refine s_methU (ev_var rfl) (e2 _ _ (e1 _ _ h1)) (brF_drive b) (ea_cons (ev_var rfl) ea_nil) fun H3 e3 => ⟨x, bl, b, y, s, rfl, hb.mono ((e1.trans e2).trans e3), hy.mono ((e1.trans e2).trans e3), fun H4 hb4 k4 => q H4 ?_ ((But2.of ((e1.trans e2).trans e3)).trans k4)⟩
        unfold Br.take
        rw [if_neg (by rw [hc]; exact Bool.false_ne_true), if_pos (of_decide_eq_true hc2)]
        exact hb4
      · refine q H2 ?_ (.of (e1.trans e2))
        unfold Br.take
        rw [if_neg (by rw [hc]; exact Bool.false_ne_true), if_neg (of_decide_eq_false hc2)]
        exact hb.mono (e1.trans e2)
theorem take_len (b : Br) (s : S) : (b.take s).br.length ≤ b.br.length + 1 := by
  unfold Br.take
  split
  · unfold Br.takeRest
    split
    · exact close_len b
    · split
      · exact Nat.le_succ _
      · exact Nat.le_succ _
  · split
    · exact Nat.le_succ _
    · exact Nat.le_succ _
theorem takes_len : ∀ (l : List S) (b : Br), (l.foldl Br.take b).br.length ≤ b.br.length + l.length
  | [], _ => Nat.le_refl _
  | s :: l, b => by
    have q := takes_len l (b.take s)
    have r := take_len b s
    show (l.foldl Br.take (b.take s)).br.length ≤ b.br.length + (l.length + 1)
    omega
def spBreaksOf (K : PySem.W.Frag) (a : Ad) : Sp := fun vs H Q _ => ∃ t ss, vs = [.ref t] ∧ SL K a H t ss ∧ ss.length ≤ 400 ∧ ∀ x bl H1, H x = none → H bl = none → Ex H H1 → AtBr a H1 x bl (breaksOf ss) → Q (.ref x) H1
theorem ok_breaks_of (T : Txt K mg a) : CallP P w K mg base CX0 6 "breaks_of" P_breaks_of (spBreaksOf K a) := by
  refine T.f_breaks_of.ok sc_breaks_of (fun vs H Q E h => ?_) fun f cdv A outer s H vs Q E hr h => ?_
  · obtain ⟨_, _, rfl, _⟩ := h
    rfl
  · obtain ⟨t, ss, rfl, ⟨as, h1, h2⟩, hl, q⟩ := h
    refine ⟨_, (pss_cons (ps_set (i := 1) sc_breaks_of.nd rfl (Or.inl rfl) (pe_makeP0 (ok_Br_init T) T.g_Br (hr.mono (by decide)) rfl pass0))
    (pss_cons (ps_for PassesOwn.never rfl (pi_list (pv 0)) (pg_name (i := 2) sc_breaks_of.nd rfl (Or.inl rfl))
    (pss_one (ps_expr (pe_methP (pv 1) T.cl_Br (ok_Br_take T) (hr.mono (by decide)) pass0 (pa_cons (pv 2) pa_nil)))))
    (pss_one (ps_ret (pv 1))))), ?_⟩
    intro x dx nx nd ne
    refine ⟨x, dx, rfl, upd_same, fun bl H1 nb hb k1 => ⟨rfl, ?_⟩⟩
    have nxb : bl ≠ x := fun z => by rw [z, upd_same] at nb; cases nb
    have nbH : H bl = none := by
      rw [upd_ne nxb] at nb
      by_cases z : bl = dx
      · rw [z]; exact nd
      · rw [upd_ne z] at nb
        exact nb
    have e1 : Ex H H1 := fun c o hc => k1 c o (by rw [upd_ne (ne_of_none hc nx), upd_ne (ne_of_none hc nd)]; exact hc) (ne_of_none hc nx)
    refine ⟨_, rfl, t, rfl, ⟨_, ex_l e1 h1⟩, for_objs (F := AtS a) (as := as) (xs := ss) (fun pre σ H' => (∃ v, σ = [some (.ref t), some (.ref x), v]) ∧ Ex H H' ∧ AtBr a H' x bl (pre.foldl Br.take Br.fresh)) ⟨⟨_, rfl⟩, e1, hb⟩
      (fun pre σ H' ⟨_, e, _⟩ => ⟨ex_l e h1, h2.mono fun b x r => r.mono e⟩) ?_ ?_⟩
    · rintro pre s post c σ H2 hsp ⟨⟨v, rfl⟩, e2, hb2⟩ hc
      obtain ⟨⟨dx2, g2⟩, _⟩ := id hb2
      have hpre : pre.length < ss.length := by rw [hsp, List.length_append, List.length_cons]; omega
      have hbl := takes_len pre Br.fresh
      have hb0 : Br.fresh.br.length = 0 := rfl
      refine s_methU (ev_var rfl) g2 (brF_take _) (ea_cons (ev_var rfl) ea_nil) fun H3 e3 => ⟨x, bl, _, c, s, rfl, hb2.mono e3, hc.mono e3, by omega, fun H4 hb4 k4 => ⟨⟨some (.ref c), rfl⟩, ?_, ?_⟩⟩
      · exact k4.ex (e2.trans e3) nx nbH
      · rw [fold_snoc]
        exact hb4
    · rintro σ H2 ⟨⟨v, rfl⟩, e2, hb2⟩
      exact s_ret (ev_var rfl) fun H3 e3 => q x bl H3 nx nbH (e2.trans e3) (hb2.mono e3)
def spBreakB (K : PySem.W.Frag) (a : Ad) : Sp := fun vs H Q _ => ∃ t ss, vs = [.ref t] ∧ SL K a H t ss ∧ ss.length ≤ 400 ∧ ∀ p H1, H p = none → Ex H H1 → LO (AtB a) H1 p (breakB ss) → Q (.ref p) H1
theorem ok_break_breaches (T : Txt K mg a) : CallP P w K mg base CX0 7 "break_breaches" P_break_breaches (spBreakB K a) := by
  refine T.f_break_breaches.ok sc_break_breaches (fun vs H Q E h => ?_) fun f cdv A outer s H vs Q E hr h => ?_
  · obtain ⟨_, _, rfl, _⟩ := h
    rfl
  · obtain ⟨t, ss, rfl, hs, hl, q⟩ := h
    refine ⟨_, (pss_cons (ps_set (i := 1) sc_break_breaches.nd rfl (Or.inl rfl) (pe_callP (ok_breaks_of T) (hr.mono (by decide)) rfl pass0 (pa_cons (pv 0) pa_nil)))
    (pss_cons (ps_expr (pe_methP0 (pv 1) T.cl_Br (ok_Br_close T) (hr.mono (by decide)) pass0))
    (pss_one (ps_ret (pe_fld (pv 1) rfl))))), ?_⟩
    refine ⟨_, rfl, t, ss, rfl, hs, hl, fun x bl H1 nx nb e1 hb => ?_⟩
    obtain ⟨⟨dx, g⟩, _⟩ := id hb
    have hbl := takes_len ss Br.fresh
    have hb0 : Br.fresh.br.length = 0 := rfl
    refine q_methU (ev_var rfl) g (brF_close _) ea_nil fun H2 e2 => ⟨x, bl, _, rfl, hb.mono e2, by show (ss.foldl Br.take Br.fresh).br.length < 1000; omega, fun H3 hb3 k3 => ?_⟩
    obtain ⟨⟨dx3, g3⟩, g4⟩ := id hb3
    exact s_ret (ev_fld (ev_var rfl) g3 T.cl_Br T.na_Br_breaches (brF_breaches _)) fun H4 e4 => q bl H4 nb ((k3.ex (e1.trans e2) nx nb).trans e4) (g4.mono (stB a) e4)
end
end Dv
namespace Dv
open PySem PySem.Spec PyProof.Rows L2 Evl
section
variable {P : Program} {w : World} {K : PySem.W.Frag} {mg : Str → Option Value} {base : Heap} {a : Ad} {σ : L2.St} {H H' : Hp} {ta tb te : TE} {x b t l : Addr} {E : XK} {ss : List S} {r : V} {v : V}
theorem ev_isN (h : Ev ta σ H v) : Ev (tIsN ta) σ H (.bl (decide (v = .non))) := fun H1 e Q q => h H1 e _ fun H2 e2 => q H2 e2
theorem ev_notN (h : Ev ta σ H v) : Ev (tNotN ta) σ H (.bl (!decide (v = .non))) := fun H1 e Q q => h H1 e _ fun H2 e2 => q H2 e2
/-! ### Day -/
def dayF (d : D) (r : V) : List (Str × V) := [("begin", .int d.beg), ("driving", .int d.driving), ("has_part", .bl d.part), ("rest", r)]
def RestAt (a : Ad) (H : Hp) (r : V) : Option S → Prop
  | none => r = .non
  | some s => ∃ b, r = .ref b ∧ AtS a H b s
theorem RestAt.imp (h : ∀ b s, AtS a H b s → AtS a H' b s) : ∀ {o : Option S}, RestAt a H r o → RestAt a H' r o
  | none, q => q
  | some s, ⟨b, e, q⟩ => ⟨b, e, h b s q⟩
def AtD (a : Ad) (H : Hp) (x : Addr) (d : D) : Prop := ∃ dx r, H x = some (.ins a.cD dx (dayF d r)) ∧ RestAt a H r d.rest
theorem AtD.kp {d : D} (h : AtD a H x d) (e : Kp H H') : AtD a H' x d := by
  obtain ⟨dx, r, h, q⟩ := h
  exact ⟨dx, r, e _ _ h rfl, q.imp fun b s h => h.kp e⟩
theorem AtD.mono {d : D} (h : AtD a H x d) (e : Ex H H') : AtD a H' x d := h.kp (.of e)
theorem stD (a : Ad) : Stable (AtD a) := fun _ _ _ _ h e => h.kp e
theorem dayF_begin (d : D) : (dayF d r).lookup ("begin" : Str) = some (.int d.beg) := lk_here
theorem dayF_driving (d : D) : (dayF d r).lookup ("driving" : Str) = some (.int d.driving) := (lk_past (by decide +kernel)).trans lk_here
theorem dayF_part (d : D) : (dayF d r).lookup ("has_part" : Str) = some (.bl d.part) := (lk_past (by decide +kernel)).trans ((lk_past (by decide +kernel)).trans lk_here)
theorem dayF_rest (d : D) : (dayF d r).lookup ("rest" : Str) = some r := (lk_past (by decide +kernel)).trans ((lk_past (by decide +kernel)).trans ((lk_past (by decide +kernel)).trans lk_here))
theorem dayF_no {m : Str} (d : D) (h1 : (m == ("begin" : Str)) = false) (h2 : (m == ("driving" : Str)) = false) (h3 : (m == ("has_part" : Str)) = false) (h4 : (m == ("rest" : Str)) = false) : (dayF d r).lookup m = none :=
  (lk_past h1).trans ((lk_past h2).trans ((lk_past h3).trans ((lk_past h4).trans rfl)))
theorem dayF_counted (d : D) : (dayF d r).lookup ("counted" : Str) = none := dayF_no d (by decide +kernel) (by decide +kernel) (by decide +kernel) (by decide +kernel)
theorem dayF_state (d : D) : (dayF d r).lookup ("state" : Str) = none := dayF_no d (by decide +kernel) (by decide +kernel) (by decide +kernel) (by decide +kernel)
theorem dayF_pdriving (d : D) (n : Int) : putF "driving" (.int n) (dayF d r) = dayF ⟨d.beg, n, d.part, d.rest⟩ r := (put_past (by decide +kernel)).trans (congrArg _ put_here)
theorem dayF_ppart (d : D) (n : Bool) : putF "has_part" (.bl n) (dayF d r) = dayF ⟨d.beg, d.driving, n, d.rest⟩ r := (put_past (by decide +kernel)).trans (congrArg _ ((put_past (by decide +kernel)).trans (congrArg _ put_here)))
theorem dayF_prest (d : D) (o : Option S) (y : V) : putF "rest" y (dayF d r) = dayF ⟨d.beg, d.driving, d.part, o⟩ y := (put_past (by decide +kernel)).trans (congrArg _ ((put_past (by decide +kernel)).trans (congrArg _ ((put_past (by decide +kernel)).trans (congrArg _ put_here)))))
theorem dayF_new (n : Int) : putF "rest" .non (putF "has_part" (.bl false) (putF "driving" (.int 0) (putF "begin" (.int n) []))) = dayF ⟨n, 0, false, none⟩ .non := by
  have a1 : putF "driving" (.int 0) (putF "begin" (.int n) []) = ([("begin", .int n), ("driving", .int 0)] : List (Str × V)) := put_past (by decide +kernel)
  have a2 : putF "has_part" (.bl false) ([("begin", .int n), ("driving", .int 0)] : List (Str × V)) = ([("begin", .int n), ("driving", .int 0), ("has_part", .bl false)] : List (Str × V)) := (put_past (by decide +kernel)).trans (congrArg _ (put_past (by decide +kernel)))
  rw [a1, a2]
  exact (put_past (by decide +kernel)).trans (congrArg _ ((put_past (by decide +kernel)).trans (congrArg _ (put_past (by decide +kernel)))))
def spD_init (a : Ad) : Sp := fun vs H Q _ => ∃ x dx n, vs = [.ref x, .int n] ∧ H x = some (.ins a.cD dx []) ∧ Q .non (upd H x (.ins a.cD dx (dayF ⟨n, 0, false, none⟩ .non)))
theorem ok_D_init (T : Txt K mg a) : MakeP P w K mg base CX0 1 a.cD P_D_init (spD_init a) := by
  refine T.i_D.ok sc_D_init (fun vs H Q E h => ?_) fun f cdv A outer s H vs Q E hr h => ?_
  · obtain ⟨_, _, _, rfl, _⟩ := h
    rfl
  · obtain ⟨x, dx, n, rfl, hx, q⟩ := h
    refine ⟨_, (pss_cons (ps_fld (pv 0) (pv 1) rfl)
    (pss_cons (ps_fld (pv 0) pe_int rfl)
    (pss_cons (ps_fld (pv 0) pe_bl rfl)
    (pss_one (ps_fld (pv 0) pe_non rfl))))), ?_⟩
    refine ⟨_, rfl, _, rfl, x, a.cD, dx, [], rfl, hx, T.cl_D, T.na_D_begin, (by show 0 < 1000; decide), ?_⟩
    refine ⟨_, rfl, x, a.cD, dx, _, rfl, upd_same, T.cl_D, T.na_D_driving, (by show 1 < 1000; decide), ?_⟩
    refine ⟨_, rfl, x, a.cD, dx, _, rfl, upd_same, T.cl_D, T.na_D_has_part, (by show 2 < 1000; decide), ?_⟩
    refine ⟨_, rfl, x, a.cD, dx, _, rfl, upd_same, T.cl_D, T.na_D_rest, (by show 3 < 1000; decide), ?_⟩
    rw [upd_upd, upd_upd, upd_upd, dayF_new]
    exact q
theorem spI_D {n : Int} : SpI (spD_init a) a.cD [.int n] H (dayF ⟨n, 0, false, none⟩ .non) := fun H1 _ Q x dx E h q => ⟨x, dx, n, rfl, h, q⟩
theorem en_D {n : Int} {t1 : TE} (h1 : Ev t1 σ H (.int n)) : EvN (tMake a.cD (spD_init a) [] E (tCons t1 tNil)) σ H fun p H2 => AtD a H2 p ⟨n, 0, false, none⟩ := fun H1 e Q q =>
  en_make (ea_cons h1 ea_nil) spI_D H1 e Q fun p H2 np e2 ⟨dx, hp⟩ => q p H2 np e2 ⟨dx, .non, hp, rfl⟩
theorem ev_D_begin {d : D} (T : Txt K mg a) (h : Ev ta σ H (.ref x)) (q : AtD a H x d) : Ev (tFld K ta "begin") σ H (.int d.beg) := by
  obtain ⟨dx, r, q, _⟩ := q
  exact ev_fld h q T.cl_D T.na_D_begin (dayF_begin d)
theorem ev_D_driving {d : D} (T : Txt K mg a) (h : Ev ta σ H (.ref x)) (q : AtD a H x d) : Ev (tFld K ta "driving") σ H (.int d.driving) := by
  obtain ⟨dx, r, q, _⟩ := q
  exact ev_fld h q T.cl_D T.na_D_driving (dayF_driving d)
theorem ev_D_part {d : D} (T : Txt K mg a) (h : Ev ta σ H (.ref x)) (q : AtD a H x d) : Ev (tFld K ta "has_part") σ H (.bl d.part) := by
  obtain ⟨dx, r, q, _⟩ := q
  exact ev_fld h q T.cl_D T.na_D_has_part (dayF_part d)
theorem isN_rest {o : Option S} (h : RestAt a H r o) : decide (r = .non) = o.isNone := by
  cases o with
  | none =>
    have e : r = .non := h
    rw [e] <;> rfl
  | some s =>
    obtain ⟨b, e, _⟩ := h
    rw [e] <;> rfl
/-- day.rest is None -/
theorem ev_D_none {d : D} (T : Txt K mg a) (h : Ev ta σ H (.ref x)) (q : AtD a H x d) : Ev (tIsN (tFld K ta "rest")) σ H (.bl d.rest.isNone) := by
  obtain ⟨dx, r, q, hr⟩ := q
  rw [← isN_rest hr]
  exact ev_isN (ev_fld h q T.cl_D T.na_D_rest (dayF_rest d))
theorem ev_D_notnone {d : D} (T : Txt K mg a) (h : Ev ta σ H (.ref x)) (q : AtD a H x d) : Ev (tNotN (tFld K ta "rest")) σ H (.bl (!d.rest.isNone)) := by
  obtain ⟨dx, r, q, hr⟩ := q
  rw [← isN_rest hr]
  exact ev_notN (ev_fld h q T.cl_D T.na_D_rest (dayF_rest d))
/-- day.rest, where there is one -/
theorem ev_D_rest {d : D} {s : S} (T : Txt K mg a) (h : Ev ta σ H (.ref x)) (q : AtD a H x d) (hs : d.rest = some s) : ∃ y, AtS a H y s ∧ Ev (tFld K ta "rest") σ H (.ref y) := by
  obtain ⟨dx, r, q, hr⟩ := q
  have hr' : RestAt a H r (some s) := by rw [← hs]; exact hr
  obtain ⟨y, e, hy⟩ := hr'
  subst e
  exact ⟨y, hy, ev_fld h q T.cl_D T.na_D_rest (dayF_rest d)⟩
def spD_counted (a : Ad) : Sp := fun vs H Q _ => ∃ x d, vs = [.ref x] ∧ AtD a H x d ∧ ∀ H1, Ex H H1 → Q (.int d.counted) H1
theorem ok_D_counted (T : Txt K mg a) : MethP P w K mg base CX0 1 a.cD "counted" P_D_counted (spD_counted a) := by
  refine T.m_D_counted.ok sc_D_counted (fun vs H Q E h => ?_) fun f cdv A outer s H vs Q E hr h => ?_
  · obtain ⟨_, _, rfl, _⟩ := h
    rfl
  · obtain ⟨x, d, rfl, hx, q⟩ := h
    refine ⟨_, (pss_cons (ps_if (pt_cmp (pc_isN (pe_fld (pv 0) rfl))) (pss_one (ps_ret pe_int)) pss_nil)
    (pss_one (ps_ret (pe_callB (call_max2 rfl) (by rfl) T.b_max (by decide +kernel) (pa_cons pe_int (pa_cons (pe_op op_sub (pe_callB (call_min2 rfl) (by rfl) T.b_min (by decide +kernel) (pa_cons (pe_fld (pe_fld (pv 0) rfl) rfl) (pa_cons (pe_op op_add (pe_fld (pv 0) rfl) (pe_gi T.c_DAY rfl)) pa_nil))) (pe_fld (pe_fld (pv 0) rfl) rfl)) pa_nil)))))), ?_⟩
    refine q_when (et_B (ev_D_none T (ev_var rfl) hx)) (fun hc H1 e1 => ?_) fun hc H1 e1 => ?_
    · refine s_ret ev_c fun H2 e2 => ?_
      have ec : d.counted = 0 := by
        unfold D.counted
        rw [Option.isNone_iff_eq_none.mp hc]
      rw [← ec]
      exact q H2 (e1.trans e2)
    · cases es : d.rest with
      | none => rw [es] at hc; cases hc
      | some s =>
        obtain ⟨y, hy, ev⟩ := ev_D_rest (ta := tVar 0) (σ := start N_D_counted [.ref x]) T (ev_var rfl) (hx.mono e1) es
        refine s_ret (ev_mx ev_c (ev_op (ev_mn (ev_S_end T ev hy) (ev_op (ev_D_begin T (ev_var rfl) (hx.mono e1)) ev_c rv_I0)) (ev_S_begin T ev hy) rv_I0)) fun H2 e2 => ?_
        have ec : d.counted = mx 0 (mn s.fin (d.beg + 1440) - s.beg) := by
          unfold D.counted
          rw [es]
        rw [← ec]
        exact q H2 (e1.trans e2)
theorem ev_D_counted {d : D} (h : Ev ta σ H (.ref x)) (q : AtD a H x d) : Ev (tMeth a.cD "counted" (spD_counted a) [] E ta tNil) σ H (.int d.counted) := by
  obtain ⟨dx, r, g, hr⟩ := id q
  exact ev_meth h g (dayF_counted d) ea_nil fun H1 e Q k E => ⟨x, d, rfl, q.mono e, k⟩
def spD_state (a : Ad) : Sp := fun vs H Q _ => ∃ x d e, vs = [.ref x, .int e] ∧ AtD a H x d ∧ ∀ H1, Ex H H1 → Q (.int (d.state e)) H1
theorem ok_D_state (T : Txt K mg a) : MethP P w K mg base CX0 2 a.cD "state" P_D_state (spD_state a) := by
  refine T.m_D_state.ok sc_D_state (fun vs H Q E h => ?_) fun f cdv A outer s H vs Q E hr h => ?_
  · obtain ⟨_, _, _, rfl, _⟩ := h
    rfl
  · obtain ⟨x, d, e, rfl, hx, q⟩ := h
    refine ⟨_, (pss_cons (ps_if (PW.pt (pw_and (pt_cmp (pc_isN (pe_fld (pv 0) rfl))) (pw_and1 (pt_cmpR op_le (pe_op op_sub (pv 1) (pe_fld (pv 0) rfl)) (pe_gi T.c_DAY rfl) (nomark _))))) (pss_one (ps_ret (pe_gi T.c_OPEN rfl))) pss_nil)
    (pss_cons (ps_if (pt_cmpR op_lt (pe_methP0 (pv 0) T.cl_D (ok_D_counted T) (hr.mono (by decide)) pass0) (pe_gi T.c_ENDING rfl) (nomark _)) (pss_one (ps_ret (pe_gi T.c_TOO_SHORT rfl))) pss_nil)
    (pss_cons (ps_if (PW.pt (pw_or (pt_cmpR op_ge (pe_methP0 (pv 0) T.cl_D (ok_D_counted T) (hr.mono (by decide)) pass0) (pe_gi T.c_FULL rfl) (nomark _)) (pw_or1 (pt_val (pe_fld (pv 0) rfl))))) (pss_one (ps_ret (pe_gi T.c_WHOLE_days rfl))) pss_nil)
    (pss_one (ps_ret (pe_gi T.c_SHORT rfl)))))), ?_⟩
    unfold D.state at q
    refine q_when (et_and (et_B (ev_D_none T (ev_var rfl) hx)) fun _ => et_test (ev_op (ev_op (ev_var rfl) (ev_D_begin T (ev_var rfl) hx) rv_I0) ev_c rv_I0)) (fun hc H1 e1 => ?_) fun hc H1 e1 => ?_
    · rw [if_pos hc] at q
      exact s_ret ev_c fun H2 e2 => q H2 (e1.trans e2)
    · rw [if_neg (by rw [hc]; exact Bool.false_ne_true)] at q
      refine q_when (et_test (ev_op (ev_D_counted (ev_var rfl) (hx.mono e1)) ev_c rv_I0)) (fun hc2 H2 e2 => ?_) fun hc2 H2 e2 => ?_
      · rw [if_pos (of_decide_eq_true hc2)] at q
        exact s_ret ev_c fun H3 e3 => q H3 ((e1.trans e2).trans e3)
      · rw [if_neg (of_decide_eq_false hc2)] at q
        have hx2 := hx.mono (e1.trans e2)
        refine q_when (et_or (et_test (ev_op (ev_D_counted (ev_var rfl) hx2) ev_c rv_I0)) fun _ => et_B (ev_D_part T (ev_var rfl) hx2)) (fun hc3 H3 e3 => ?_) fun hc3 H3 e3 => ?_
        · rw [Bool.or_eq_true, decide_eq_true_eq] at hc3
          rw [if_pos hc3] at q
          exact s_ret ev_c fun H4 e4 => q H4 (((e1.trans e2).trans e3).trans e4)
        · rw [Bool.or_eq_false_iff, decide_eq_false_iff_not] at hc3
          rw [if_neg (show ¬ (d.counted ≥ 660 ∨ d.part = true) from fun z => z.elim hc3.1 fun y => by rw [hc3.2] at y; cases y)] at q
          exact s_ret ev_c fun H4 e4 => q H4 (((e1.trans e2).trans e3).trans e4)
theorem ev_D_state {d : D} {n : Int} (h : Ev ta σ H (.ref x)) (q : AtD a H x d) (hn : Ev tb σ H (.int n)) : Ev (tMeth a.cD "state" (spD_state a) [] E ta (tCons tb tNil)) σ H (.int (d.state n)) := by
  obtain ⟨dx, r, g, hr⟩ := id q
  exact ev_meth h g (dayF_state d) (ea_cons hn ea_nil) fun H1 e Q k E => ⟨x, d, n, rfl, q.mono e, k⟩
/-! ### days_of -/
structure DyInv (a : Ad) (H0 : Hp) (l p : Addr) (ps : List Addr) (H1 : Hp) (as : List Addr) (ds : List D) (n : Nat) (H : Hp) : Prop where
  ex : Ex H0 H
  at_ : H l = some (.lst (refs as))
  all : All2 (AtD a H) as ds
  nd : as.Nodup
  new : ∀ b ∈ as, H0 b = none
  few : ds.length ≤ n
  keepS : ∀ b s, AtS a H1 b s → AtS a H b s
  lp : H p = some (.lst (refs ps))
section
variable {H0 H1 : Hp} {p : Addr} {ps as : List Addr} {ds : List D} {n : Nat}
theorem DyInv.mono (I : DyInv a H0 l p ps H1 as ds n H) (e : Ex H H') : DyInv a H0 l p ps H1 as ds n H' :=
  ⟨I.ex.trans e, e _ _ I.at_, I.all.mono fun b d h => h.mono e, I.nd, I.new, I.few, fun b s h => (I.keepS b s h).mono e, e _ _ I.lp⟩
theorem All2.mem {α : Type} {F : Addr → α → Prop} : ∀ {as : List Addr} {xs : List α}, All2 F as xs → ∀ a ∈ as, ∃ x, F a x
  | [], [], _, a, h => by cases h
  | b :: as, y :: ys, q, a, h => by
    rcases List.mem_cons.mp h with e | e
    · rw [e]; exact ⟨y, q.1⟩
    · exact All2.mem q.2 a e
  | [], _ :: _, q, _, _ => q.elim
  | _ :: _, [], q, _, _ => q.elim
theorem DyInv.app (I : DyInv a H0 l p ps H1 as ds n H) (nl : H0 l = none) (npl : p ≠ l) {H2 : Hp} {q : Addr} {d : D} (e : Ex H H2) (nq : H q = none) (hq : AtD a H2 q d) :
    DyInv a H0 l p ps H1 (as ++ [q]) (ds ++ [d]) (n + 1) (upd H2 l (.lst (refs as ++ [.ref q]))) := by
  have kp : Kp H2 (upd H2 l (.lst (refs as ++ [.ref q]))) := (Kp.refl H2).lst (e _ _ I.at_)
  refine ⟨Ex.upd (I.ex.trans e) nl, (by rw [upd_same, refs_snoc]), All2.snoc (I.all.mono fun b d h => (h.mono e).kp kp) (hq.kp kp), ?_, fun b hb => ?_, ?_, fun b s h => ((I.keepS b s h).mono e).kp kp, ?_⟩
  · refine List.nodup_append.mpr ⟨I.nd, (by simp), fun c hc d hd z => ?_⟩
    have ed : d = q := by simpa using hd
    rw [ed] at z
    obtain ⟨d2, dx, r, hc2, _⟩ := All2.mem I.all c hc
    rw [z, nq] at hc2
    cases hc2
  · rcases List.mem_append.mp hb with m | m
    · exact I.new b m
    · have e2 : b = q := by simpa using m
      rw [e2]
      exact fresh_back I.ex nq
  · have := I.few
    rw [List.length_append]
    show ds.length + 1 ≤ n + 1
    omega
  · rw [upd_ne npl]
    exact e _ _ I.lp
theorem DyInv.last (I : DyInv a H0 l p ps H1 as (ds ++ [d]) n H) : ∃ bs b, as = bs ++ [b] ∧ AtD a H b d ∧ atI (refs as) (-1) = some (.ref b) := by
  obtain ⟨bs, b, e, h1, h2⟩ := I.all.last
  refine ⟨bs, b, e, h2, ?_⟩
  rw [e, refs_snoc]
  exact atI_last _ _
theorem DyInv.put {bs : List Addr} {d d' : D} {dx dx' : Addr} {r r' : V} (I : DyInv a H0 l p ps H1 (bs ++ [b]) (ds ++ [d]) n H) (hb : H b = some (.ins a.cD dx (dayF d r))) (hr : RestAt a H r' d'.rest) :
    DyInv a H0 l p ps H1 (bs ++ [b]) (ds ++ [d']) n (upd H b (.ins a.cD dx' (dayF d' r'))) := by
  obtain ⟨bs', b', e, h1, h2⟩ := I.all.last
  obtain ⟨e1, e2⟩ := List.append_inj' e rfl
  have e3 : b = b' := by simpa using e2
  subst e1 e3
  have nd := List.nodup_append.mp I.nd
  have ks : ∀ c s, AtS a H c s → AtS a (upd H b (.ins a.cD dx' (dayF d' r'))) c s := fun c s ⟨dc, h⟩ => ⟨dc, by
    have ne : c ≠ b := fun z => by
      rw [z, hb] at h
      exact absurd (congrArg List.length (HO.ins.inj (Option.some.inj h)).2.2) (by show ¬ 4 = 3; decide)
    rw [upd_ne ne]
    exact h⟩
  have nlb : l ≠ b := fun z => by have q := I.at_; rw [z, hb] at q; cases q
  have npb : p ≠ b := fun z => by have q := I.lp; rw [z, hb] at q; cases q
  refine ⟨Ex.upd I.ex (I.new b (by simp)), (by rw [upd_ne nlb]; exact I.at_), All2.snoc (h1.monoM fun c d2 hc ⟨dc, rc, g1, g2⟩ => ?_) ⟨dx', r', upd_same, hr.imp ks⟩, I.nd, I.new, ?_, fun c s h => ks c s (I.keepS c s h), (by rw [upd_ne npb]; exact I.lp)⟩
  · have := I.few
    rw [List.length_append] at this ⊢
    exact this
  · have ne : c ≠ b := nd.2.2 c hc b (by simp)
    exact ⟨dc, rc, (by rw [upd_ne ne]; exact g1), g2.imp ks⟩
end
def spDaysOf (K : PySem.W.Frag) (a : Ad) : Sp := fun vs H Q _ => ∃ t ss, vs = [.ref t] ∧ SL K a H t ss ∧ ss.length ≤ 400 ∧ ∀ p H1, H p = none → Ex H H1 → LO (AtD a) H1 p (daysOf ss) → Q (.ref p) H1
theorem behind_len (ss : List S) : (behindWork ss).length ≤ ss.length := by
  unfold behindWork
  split
  · rw [List.length_drop]
    exact Nat.sub_le _ _
  · exact Nat.zero_le _
theorem dayStep_open {st : List D × Bool} {s : S} (h : st.2 = true → st.1 ≠ []) : (dayStep st s).2 = true → (dayStep st s).1 ≠ [] := by
  have hm : ∀ (f : D → D) (l : List D), l ≠ [] → modLast f l ≠ [] := fun f l n z => by
    have q := modLast_len f l
    rw [z] at q
    exact n (List.eq_nil_of_length_eq_zero q.symm)
  unfold dayStep
  by_cases c : s.isRest 0 = true
  · rw [if_pos c]
    by_cases o : st.2 = true
    · rw [if_pos o]
      by_cases c2 : s.isRest 540 = true
      · rw [if_pos c2]
        intro z
        cases z
      · rw [if_neg c2]
        intro _
        exact hm _ _ (h o)
    · rw [if_neg o]
      exact fun z => absurd z o
  · rw [if_neg c]
    intro _
    have hne : (if st.2 = true then st.1 else st.1 ++ [(⟨s.beg, 0, false, none⟩ : D)]) ≠ [] := by
      by_cases o : st.2 = true
      · rw [if_pos o]
        exact h o
      · rw [if_neg o]
        simp
    show (if s.kind = 1 then _ else _) ≠ []
    split
    · exact hm _ _ hne
    · exact hne
theorem ok_days_of (T : Txt K mg a) : CallP P w K mg base CX0 3 "days_of" P_days_of (spDaysOf K a) := by
  refine T.f_days_of.ok sc_days_of (fun vs H Q E h => ?_) fun f cdv A outer s H vs Q E hr h => ?_
  · obtain ⟨_, _, rfl, _⟩ := h
    rfl
  · obtain ⟨t, ss, rfl, hs, hlen, q⟩ := h
    refine ⟨_, (pss_cons (ps_set (i := 1) sc_days_of.nd rfl (Or.inl rfl) (pe_lst pa_nil))
    (pss_cons (ps_set (i := 2) sc_days_of.nd rfl (Or.inl rfl) pe_bl)
    (pss_cons (ps_for PassesOwn.never rfl (pi_list (pe_callP (ok_behind_work T) (hr.mono (by decide)) rfl pass0 (pa_cons (pv 0) pa_nil))) (pg_name (i := 3) sc_days_of.nd rfl (Or.inl rfl))
    (pss_one (ps_if (pt_val (pe_methP (pv 3) T.cl_S (ok_S_is_rest T) (hr.mono (by decide)) pass0 (pa_cons pe_int pa_nil))) (pss_one (ps_if (pt_val (pv 2)) (pss_cons (ps_set (i := 4) sc_days_of.nd rfl (Or.inl rfl) (pe_ix (r := rIxL K) ix_list (pv 1) (pe_un un_neg pe_int) (fun _ _ => rfl)))
    (pss_cons (ps_fld (pv 4) (pe_or (pe_fld (pv 4) rfl) (pe_one (pe_and (pe_methP (pv 3) T.cl_S (ok_S_is_rest T) (hr.mono (by decide)) pass0 (pa_cons (pe_gi T.c_PART rfl) pa_nil)) (pe_one (pe_not (pe_methP (pv 3) T.cl_S (ok_S_is_rest T) (hr.mono (by decide)) pass0 (pa_cons (pe_gi T.c_ENDING rfl) pa_nil))))))) rfl)
    (pss_one (ps_if (pt_val (pe_methP (pv 3) T.cl_S (ok_S_is_rest T) (hr.mono (by decide)) pass0 (pa_cons (pe_gi T.c_ENDING rfl) pa_nil))) (pss_cons (ps_fld (pv 4) (pv 3) rfl)
    (pss_one (ps_set (i := 2) sc_days_of.nd rfl (Or.inl rfl) pe_bl))) pss_nil)))) pss_nil)) (pss_cons (ps_if (pt_not (pt_val (pv 2))) (pss_cons (ps_expr (pe_bm PySem.F.plainAttrs_list PySem.F.slot_list_append PySem.F.type_list_append mt_append (pv 1) (pa_cons (pe_makeP (ok_D_init T) T.g_D (hr.mono (by decide)) rfl pass0 (pa_cons (pe_fld (pv 3) rfl) pa_nil)) pa_nil)))
    (pss_one (ps_set (i := 2) sc_days_of.nd rfl (Or.inl rfl) pe_bl))) pss_nil)
    (pss_one (ps_if (pt_cmpR op_eq (pe_fld (pv 3) rfl) (pe_gi T.c_DRIVING rfl) (nomark _)) (pss_cons (ps_set (i := 4) sc_days_of.nd rfl (Or.inl rfl) (pe_ix (r := rIxL K) ix_list (pv 1) (pe_un un_neg pe_int) (fun _ _ => rfl)))
    (pss_one (ps_fldaug (pv 4) (pe_methP0 (pv 3) T.cl_S (ok_S_minutes T) (hr.mono (by decide)) pass0) in_add))) pss_nil))))))
    (pss_one (ps_ret (pv 1)))))), ?_⟩
    refine q_asgL (el_lst ea_nil (by show 0 ≤ 100000; decide)) fun l H1 nl e1 hl => ?_
    refine q_asg ev_c fun H2 e2 => ?_
    refine en_behind_work (E := E0) (ta := tVar 0) (σ := [some (.ref t), some (.ref l), some (.bl false), none, none]) (ev_var rfl) (hs.mono (e1.trans e2)) H2 (Ex.refl _) _ fun p H3 np e3 hp => ?_
    obtain ⟨ps, hp1, hp2⟩ := hp
    have npl : p ≠ l := fun z => by rw [z, e2 _ _ hl] at np; cases np
    have hbl := behind_len ss
    refine ⟨p, rfl, ⟨_, sq_of hp1⟩, for_objs (F := AtS a) (as := ps) (xs := behindWork ss) (fun pre σ H' => ∃ as v3 v4, σ = [some (.ref t), some (.ref l), some (.bl (pre.foldl dayStep ([], false)).2), v3, v4] ∧ DyInv a H l p ps H3 as (pre.foldl dayStep ([], false)).1 pre.length H' ∧ ((pre.foldl dayStep ([], false)).2 = true → (pre.foldl dayStep ([], false)).1 ≠ []))
      ⟨[], none, none, rfl, ⟨(e1.trans e2).trans e3, e3 _ _ (e2 _ _ hl), True.intro, List.nodup_nil, (fun _ h => (by cases h)), Nat.le_refl _, fun b s h => h, hp1⟩, fun z => (by cases z)⟩
      (fun pre σ H' ⟨_, _, _, _, I, _⟩ => ⟨sq_of I.lp, hp2.mono fun b s h => I.keepS b s h⟩) ?_ ?_⟩
    · rintro pre one post c σ H4 hsp ⟨as, v3, v4, rfl, I, hop⟩ hc
      have hpre : pre.length < ss.length := by
        have := congrArg List.length hsp
        rw [List.length_append, List.length_cons] at this
        omega
      have hop2 := dayStep_open (s := one) hop
      have el : (pre ++ [one]).length = pre.length + 1 := by rw [List.length_append] <;> rfl
      rw [← fold_snoc dayStep] at hop2
      have est : (pre ++ [one]).foldl dayStep ([], false) = dayStep (pre.foldl dayStep ([], false)) one := fold_snoc _ _ _ _
      generalize (pre ++ [one]).foldl dayStep ([], false) = st' at est hop2 ⊢
      rw [el]
      generalize hst : pre.foldl dayStep ([], false) = st at est I hop
      obtain ⟨fs, op⟩ := st
      dsimp only at I hop
      unfold dayStep at est
      refine s_if (et_B (ev_S_is_rest (ev_var rfl) hc ev_c)) (fun hr0 H5 e5 => ?_) fun hr0 H5 e5 => ?_
      · rw [if_pos hr0] at est
        refine s_when (et_B (ev_var rfl)) (fun ho H6 e6 => ?_) fun ho H6 e6 => ?_
        · -- a rest within a day
          have ho' : op = true := ho
          subst ho'
          rw [if_pos rfl] at est
          rcases nil_or_snoc fs with h0 | ⟨init, d, h0⟩
          · exact absurd h0 (hop rfl)
          subst h0
          have I6 := I.mono (e5.trans e6)
          have hc6 := hc.mono (e5.trans e6)
          obtain ⟨bs, b, eas, hb, hat⟩ := I6.last
          subst eas
          refine q_asg (ev_op (ev_var rfl) (ev_un ev_c ru_neg) (rv_ixL (sq_of I6.at_) hat)) fun H7 e7 => ?_
          have I7 := I6.mono e7
          obtain ⟨dx, r, hb, hrest⟩ := AtD.mono hb e7
          have hc7 := hc6.mono e7
          refine q_fld (ev_orV (ev_fld (ev_var rfl) hb T.cl_D T.na_D_has_part (dayF_part d)) fun _ => ev_andV (ev_S_is_rest (ev_var rfl) hc7 ev_c) fun _ => ev_notV (ev_S_is_rest (ev_var rfl) hc7 ev_c)) (ev_var rfl) hb T.cl_D T.na_D_has_part (by show 4 < 1000; decide) fun H8 e8 => ?_
          rw [dayF_ppart]
          have I8 := (I7.mono e8).put (d' := ⟨d.beg, d.driving, d.part || (one.isRest 180 && !one.isRest 540), d.rest⟩) (dx' := dx) (r' := r) (e8 _ _ hb) (hrest.imp fun b s h => h.mono e8)
          have hc8 : AtS a (upd H8 b (.ins a.cD dx (dayF ⟨d.beg, d.driving, d.part || (one.isRest 180 && !one.isRest 540), d.rest⟩ r))) c one := by
            obtain ⟨dc, hc7⟩ := hc7
            refine ⟨dc, ?_⟩
            have ne : c ≠ b := fun z => by
              rw [z, hb] at hc7
              exact absurd (congrArg List.length (HO.ins.inj (Option.some.inj hc7)).2.2) (by show ¬ 4 = 3; decide)
            rw [upd_ne ne]
            exact e8 _ _ hc7
          refine s_when (et_B (ev_S_is_rest (ev_var rfl) hc8 ev_c)) (fun hr5 H9 e9 => ?_) fun hr5 H9 e9 => ?_
          · rw [if_pos hr5, modLast_snoc] at est
            refine q_fld (ev_var rfl) (ev_var rfl) (e9 _ _ upd_same) T.cl_D T.na_D_rest (by show 4 < 1000; decide) fun H10 e10 => ?_
            rw [dayF_prest _ (some one)]
            have I10 := (I8.mono (e9.trans e10)).put (d' := ⟨d.beg, d.driving, d.part || (one.isRest 180 && !one.isRest 540), some one⟩) (dx' := dx) (r' := .ref c) (e10 _ _ (e9 _ _ upd_same)) ⟨c, rfl, hc8.mono (e9.trans e10)⟩
            refine s_asg ev_c fun H11 e11 => ?_
            subst est
            exact ⟨_, _, _, rfl, ⟨(I10.mono e11).ex, (I10.mono e11).at_, (I10.mono e11).all, I10.nd, I10.new, Nat.le_succ_of_le I10.few, (I10.mono e11).keepS, (I10.mono e11).lp⟩, hop2⟩
          · rw [if_neg (by rw [hr5]; exact Bool.false_ne_true), modLast_snoc] at est
            subst est
            have I9 := I8.mono e9
            exact ⟨_, _, _, rfl, ⟨I9.ex, I9.at_, I9.all, I9.nd, I9.new, Nat.le_succ_of_le I9.few, I9.keepS, I9.lp⟩, hop2⟩
        · have ho' : op = false := ho
          subst ho'
          rw [if_neg Bool.false_ne_true] at est
          subst est
          have I6 := I.mono (e5.trans e6)
          exact ⟨_, _, _, rfl, ⟨I6.ex, I6.at_, I6.all, I6.nd, I6.new, Nat.le_succ_of_le I6.few, I6.keepS, I6.lp⟩, hop2⟩
      · rw [if_neg (by rw [hr0]; exact Bool.false_ne_true)] at est
        -- the work behind: from an open day
        have work : ∀ (as2 : List Addr) (init : List D) (d : D) (v5 : Option V) (H6 : Hp), DyInv a H l p ps H3 as2 (init ++ [d]) (pre.length + 1) H6 → AtS a H6 c one → (st' = if one.kind = 1 then (init ++ [⟨d.beg, d.driving + one.minutes, d.part, d.rest⟩], true) else (init ++ [d], true)) →
            tIfS (tTest (tOp rEq (tFld K (tVar 3) "kind") (tC (.int 1)))) (tSeq (tAsg (tOp (rIxL K) (tVar 1) (tUn (rU fun i => .int (-i)) (tC (.int 1)))) (gName 4)) (sFldAug K (tVar 4) (tMeth a.cS "minutes" (spS_minutes a) [] E0 (tVar 3) tNil) rAdd "driving")) tNext
              { nx := fun σ H' => ∃ as v3 v4, σ = [some (.ref t), some (.ref l), some (.bl st'.2), v3, v4] ∧ DyInv a H l p ps H3 as st'.1 (pre.length + 1) H' ∧ (st'.2 = true → st'.1 ≠ []), rt := Q, bk := tRet (tVar 1) { nx := fun _ H' => Q .non H', rt := Q }, ct := fun σ H' => ∃ as v3 v4, σ = [some (.ref t), some (.ref l), some (.bl st'.2), v3, v4] ∧ DyInv a H l p ps H3 as st'.1 (pre.length + 1) H' ∧ (st'.2 = true → st'.1 ≠ []) }
              [some (.ref t), some (.ref l), some (.bl true), some (.ref c), v5] H6 := fun as2 init d v5 H6 I6 hc6 est2 => by
          refine s_when (et_test (ev_op (ev_S_kind T (ev_var rfl) hc6) ev_c ev_eqI)) (fun hk H7 e7 => ?_) fun hk H7 e7 => ?_
          · rw [if_pos (of_decide_eq_true hk)] at est2
            have I7 := I6.mono e7
            obtain ⟨bs, b, eas, hb, hat⟩ := I7.last
            subst eas
            refine q_asg (ev_op (ev_var rfl) (ev_un ev_c ru_neg) (rv_ixL (sq_of I7.at_) hat)) fun H8 e8 => ?_
            obtain ⟨dx, r, hb, hrest⟩ := AtD.mono hb e8
            refine s_fldaug (i := d.driving) (j := one.minutes) (ev_var rfl) hb T.cl_D T.na_D_driving (dayF_driving d) (ev_S_minutes (ev_var rfl) (hc6.mono (e7.trans e8))) (by show 4 < 1000; decide) fun H9 e9 => ?_
            rw [dayF_pdriving]
            have I9 := (I7.mono (e8.trans e9)).put (d' := ⟨d.beg, d.driving + one.minutes, d.part, d.rest⟩) (dx' := dx) (r' := r) (e9 _ _ hb) (hrest.imp fun b s h => h.mono e9)
            subst est2
            exact ⟨_, _, _, rfl, I9, hop2⟩
          · rw [if_neg (of_decide_eq_false hk)] at est2
            subst est2
            exact ⟨_, _, _, rfl, I6.mono e7, hop2⟩
        refine q_when (et_not (et_B (ev_var rfl))) (fun ho H6 e6 => ?_) fun ho H6 e6 => ?_
        · have ho' : op = false := by cases op with | false => rfl | true => cases ho
          subst ho'
          rw [if_neg Bool.false_ne_true] at est
          have I6 := I.mono (e5.trans e6)
          have hc6 := hc.mono (e5.trans e6)
          refine q_appN I6.at_ (ev_var rfl) (en_D (a := a) (n := one.beg) (ev_S_begin T (ev_var rfl) hc6)) ?_ fun y H7 ny e7 hy => ?_
          · have := I.few
            have h2 := I.all.len
            rw [refs_len]
            omega
          have I7 := I6.app nl npl e7 ny hy
          refine s_asg ev_c fun H8 e8 => ?_
          refine work _ fs _ _ _ (I7.mono e8) (((hc6.mono e7).kp ((Kp.refl H7).lst (e7 _ _ I6.at_))).mono e8) ?_
          rw [est, modLast_snoc]
          split <;> rfl
        · have ho' : op = true := by cases op with | true => rfl | false => cases ho
          subst ho'
          rw [if_pos rfl] at est
          rcases nil_or_snoc fs with h0 | ⟨init, d, h0⟩
          · exact absurd h0 (hop rfl)
          subst h0
          have I6 := I.mono (e5.trans e6)
          refine work _ init d _ _ ⟨I6.ex, I6.at_, I6.all, I6.nd, I6.new, Nat.le_succ_of_le I6.few, I6.keepS, I6.lp⟩ (hc.mono (e5.trans e6)) ?_
          rw [est, modLast_snoc]
          split <;> rfl
    · rintro σ H4 ⟨as, v3, v4, rfl, I, _⟩
      exact s_ret (ev_var rfl) fun H5 e5 => q l H5 nl (I.ex.trans e5) ⟨as, e5 _ _ I.at_, I.all.mono fun b d h => h.mono e5⟩
end
end Dv
namespace Dv
open PySem PySem.Spec PyProof.Rows L2 Evl
section
variable {P : Program} {w : World} {K : PySem.W.Frag} {mg : Str → Option Value} {base : Heap} {a : Ad} {σ : L2.St} {H H' : Hp} {ta tb te tx td ty tv : TE} {x b t l : Addr} {E : XK} {ss : List S} {z v : V} {D : Ends} {tz : TS} {kvs : List (Key × V)} {k : Int}
/-! ### dicts -/
theorem ev_dget2 (h : Ev td σ H (.ref x)) (hk : Ev ty σ H (.int k)) (hz : Ev tx σ H z) (hd : H x = some (.dK kvs)) : Ev (tDGet2 td ty tx) σ H ((valV kvs (.inl k)).getD z) := fun H1 e Q q =>
  h H1 e _ fun H2 e2 => ⟨x, rfl, .inl ⟨kvs, .inl (e2 _ _ (e _ _ hd))⟩, hk H2 (e.trans e2) _ fun H3 e3 => hz H3 ((e.trans e2).trans e3) _ fun H4 e4 =>
    ⟨_, DGet.k (k := .inl k) (e4 _ _ (e3 _ _ (e2 _ _ (e _ _ hd)))), q H4 ((e2.trans e3).trans e4)⟩⟩
theorem ev_dget (h : Ev td σ H (.ref x)) (hk : Ev ty σ H (.int k)) (hd : H x = some (.dK kvs)) (hv : valV kvs (.inl k) = some v) : Ev (tDGet td ty) σ H v := fun H1 e Q q =>
  h H1 e _ fun H2 e2 => hk H2 (e.trans e2) _ fun H3 e3 => ⟨x, v, rfl, by rw [← hv]; exact DGet.k (k := .inl k) (e3 _ _ (e2 _ _ (e _ _ hd))), q H3 (e2.trans e3)⟩
theorem s_dput (hv : Ev tv σ H v) (h : Ev td σ H (.ref x)) (hk : Ev ty σ H (.int k)) (hd : H x = some (.dK kvs)) (hl : kvs.length < 100000) (c : ∀ H1, Ex H H1 → D.nx σ (upd H1 x (.dK (putK kvs (.inl k) v)))) : sDPut td ty tv D σ H :=
  hv H (Ex.refl H) _ fun H1 e1 => h H1 e1 _ fun H2 e2 => hk H2 (e1.trans e2) _ fun H3 e3 => ⟨x, _, rfl, DPut.k (k := .inl k) (e3 _ _ (e2 _ _ (e1 _ _ hd))) (sz_lt hl), c H3 ((e1.trans e2).trans e3)⟩
theorem q_dput (hv : Ev tv σ H v) (h : Ev td σ H (.ref x)) (hk : Ev ty σ H (.int k)) (hd : H x = some (.dK kvs)) (hl : kvs.length < 100000) (c : ∀ H1, Ex H H1 → tz D σ (upd H1 x (.dK (putK kvs (.inl k) v)))) : tSeq (sDPut td ty tv) tz D σ H :=
  s_dput (D := { D with nx := tz D }) hv h hk hd hl c
theorem putK_len (kvs : List (Key × V)) (j : Key) (v : V) : (putK kvs j v).length ≤ kvs.length + 1 := by
  unfold putK
  split
  · rw [List.length_map]
    exact Nat.le_succ _
  · rw [List.length_append]
    exact Nat.le_refl _
theorem rv_divC {i : Int} : RV (rI CDiv fun i j => .int (i / j)) (.int i) (.int 10080) H (.int (i / 10080)) := rv_I ⟨by decide, by decide⟩
/-! ### lists put together -/
theorem en_cat {α : Type} {F : Hp → Addr → α → Prop} {xs ys : List α} (st : Stable F) (hA : EvN ta σ H fun p H2 => LO F H2 p xs) (hB : EvN tb σ H fun p H2 => LO F H2 p ys) (hz : xs.length + ys.length ≤ 100000) : EvN (tOp rCat ta tb) σ H fun p H2 => LO F H2 p (xs ++ ys) := fun H1 e Q q =>
  hA H1 e _ fun p H2 np e2 ⟨as, h1, h2⟩ => hB H2 (e.trans e2) _ fun r H3 nr e3 ⟨bs, g1, g2⟩ => ⟨p, r, _, _, rfl, rfl, e3 _ _ h1, g1, by
    rw [refs_len, refs_len, h2.len, g2.len]
    exact sz_of hz, fun u nu => q u _ (fresh_back (e2.trans e3) nu) ((e2.trans e3).trans (Ex.new nu)) ⟨as ++ bs, by rw [upd_same]; exact congrArg (fun l => some (HO.lst l)) List.map_append.symm,
      All2.app ((h2.mono fun b x h => st _ _ _ _ h (.of e3)).mono fun b x h => st _ _ _ _ h (.of (Ex.new nu))) (g2.mono fun b x h => st _ _ _ _ h (.of (Ex.new nu)))⟩⟩
/-! ### a list of days that is read -/
def DL (K : PySem.W.Frag) (a : Ad) (H : Hp) (t : Addr) (ds : List Dv.D) : Prop := ∃ as, SqL K H t (refs as) ∧ All2 (AtD a H) as ds
theorem DL.mono {ds : List Dv.D} (h : DL K a H t ds) (e : Ex H H') : DL K a H' t ds := by
  obtain ⟨as, h1, h2⟩ := h
  exact ⟨as, ex_l e h1, h2.mono fun b x q => q.mono e⟩
theorem LO.dl {ds : List Dv.D} (h : LO (AtD a) H t ds) : DL K a H t ds := by
  obtain ⟨as, h1, h2⟩ := h
  exact ⟨as, sq_of h1, h2⟩
theorem modL_one {α : Type} (f : α → α) : ∀ l : List α, (modLast f l).length = l.length := modLast_len f
theorem drvStep_len (st : List B × (Int → Int)) (d : Dv.D) : (drvStep st d).1.length ≤ st.1.length + 1 := by
  unfold drvStep
  split
  · show (if _ then _ else _ : List B).length ≤ _
    split
    · rw [List.length_append]; exact Nat.le_refl _
    · split
      · rw [List.length_append]; exact Nat.le_refl _
      · exact Nat.le_succ _
  · exact Nat.le_succ _
theorem fold_len {α β : Type} (f : β → α → β) (m : β → Nat) (n : Nat) (h : ∀ b x, m (f b x) ≤ m b + n) : ∀ (l : List α) (b : β), m (l.foldl f b) ≤ m b + n * l.length
  | [], b => Nat.le_refl _
  | x :: l, b => by
    have q := fold_len f m n h l (f b x)
    have r := h b x
    show m (l.foldl f (f b x)) ≤ m b + n * (l.length + 1)
    rw [Nat.mul_add, Nat.mul_one]
    omega
theorem drvB_len (ds : List Dv.D) : (drvB ds).length ≤ ds.length := by
  have q := fold_len drvStep (fun st => st.1.length) 1 drvStep_len ds ([], fun _ => 0)
  try dsimp only at q
  show (ds.foldl drvStep ([], fun _ => 0)).1.length ≤ _
  rw [show ([] : List B).length = 0 from rfl] at q
  omega
def spDrvB (K : PySem.W.Frag) (a : Ad) : Sp := fun vs H Q _ => ∃ t ds, vs = [.ref t] ∧ DL K a H t ds ∧ ds.length ≤ 400 ∧ ∀ p H1, H p = none → Ex H H1 → LO (AtB a) H1 p (drvB ds) → Q (.ref p) H1
theorem FB.dk {α : Type} {F : Hp → Addr → α → Prop} {H0 : Hp} {xs : List α} {dd : Addr} {kvs' : List (Key × V)} (st : Stable F) (I : FB F H0 l xs H) (hd : H dd = some (.dK kvs)) (nd : H0 dd = none) : FB F H0 l xs (upd H dd (.dK kvs')) := by
  obtain ⟨bs, h1, h2⟩ := I.lo
  have kp : Kp H (upd H dd (.dK kvs')) := (Kp.refl H).dk hd
  have ne : l ≠ dd := fun z => by rw [z, hd] at h1; cases h1
  exact ⟨Ex.upd I.ex nd, I.nl, bs, (by rw [upd_ne ne]; exact h1), h2.mono fun b x h => st _ _ _ _ h kp⟩
theorem ok_driving_breaches (T : Txt K mg a) : CallP P w K mg base CX0 3 "driving_breaches" P_driving_breaches (spDrvB K a) := by
  refine T.f_driving_breaches.ok sc_driving_breaches (fun vs H Q E h => ?_) fun f cdv A outer s H vs Q E hr h => ?_
  · obtain ⟨_, _, rfl, _⟩ := h
    rfl
  · obtain ⟨t, ds, rfl, ⟨as, h1, h2⟩, hlen, q⟩ := h
    refine ⟨_, (pss_cons (ps_set (i := 1) sc_driving_breaches.nd rfl (Or.inl rfl) (pe_lst pa_nil))
    (pss_cons (ps_set (i := 2) sc_driving_breaches.nd rfl (Or.inl rfl) pe_dnewK)
    (pss_cons (ps_for PassesOwn.never rfl (pi_list (pv 0)) (pg_name (i := 3) sc_driving_breaches.nd rfl (Or.inl rfl))
    (pss_one (ps_if (pt_cmpR op_gt (pe_fld (pv 3) rfl) (pe_gi T.c_LONG_DRIVING rfl) (nomark _)) (pss_cons (ps_set (i := 4) sc_driving_breaches.nd rfl (Or.inl rfl) (pe_op op_fdiv (pe_fld (pv 3) rfl) (pe_gi T.c_WEEK rfl)))
    (pss_cons (ps_dput (hu_of hr) (pv 2) (pv 4) (pe_op op_add (pe_dget2 (hu_of hr) (pv 2) (pv 4) pe_int ⟨rfl, rfl, rfl, rfl⟩) pe_int) rfl)
    (pss_one (ps_if (pt_cmpR op_gt (pe_fld (pv 3) rfl) (pe_gi T.c_MOST_DRIVING_days rfl) (nomark _)) (pss_one (ps_expr (pe_bm PySem.F.plainAttrs_list PySem.F.slot_list_append PySem.F.type_list_append mt_append (pv 1) (pa_cons (pe_makeP (ok_B_init T) T.g_B (hr.mono (by decide)) rfl pass0 (pa_cons (pe_fld (pv 3) rfl) (pa_cons (pe_gi T.c_DRIVING_RULE rfl) (pa_cons (pe_op op_sub (pe_fld (pv 3) rfl) (pe_gi T.c_MOST_DRIVING_days rfl)) pa_nil)))) pa_nil)))) (pss_one (ps_if (pt_cmpR op_gt (pe_dget (hu_of hr) (pv 2) (pv 4) (fun _ _ => rfl)) (pe_gi T.c_MOST_LONG rfl) (nomark _)) (pss_one (ps_expr (pe_bm PySem.F.plainAttrs_list PySem.F.slot_list_append PySem.F.type_list_append mt_append (pv 1) (pa_cons (pe_makeP (ok_B_init T) T.g_B (hr.mono (by decide)) rfl pass0 (pa_cons (pe_fld (pv 3) rfl) (pa_cons (pe_gi T.c_DRIVING_RULE rfl) (pa_cons (pe_op op_sub (pe_fld (pv 3) rfl) (pe_gi T.c_LONG_DRIVING rfl)) pa_nil)))) pa_nil)))) pss_nil)))))) pss_nil)))
    (pss_one (ps_ret (pv 1)))))), ?_⟩
    refine q_asgL (el_lst ea_nil (by show 0 ≤ 100000; decide)) fun l H1 nl e1 hl => ?_
    intro dd nd
    have ndH : H dd = none := fresh_back e1 nd
    have e2 : Ex H1 (upd H1 dd (.dK [])) := Ex.new nd
    have hld : dd ≠ l := fun z => by rw [z, hl] at nd; cases nd
    refine ⟨_, rfl, t, rfl, ⟨_, ex_l (e1.trans e2) h1⟩, for_objs (F := AtD a) (as := as) (xs := ds) (fun pre σ H' => (∃ v3 v4, σ = [some (.ref t), some (.ref l), some (.ref dd), v3, v4]) ∧ FB (AtB a) H l (pre.foldl drvStep ([], fun _ => 0)).1 H' ∧ (pre.foldl drvStep ([], fun _ => 0)).1.length ≤ pre.length ∧
      ∃ kvs, H' dd = some (.dK kvs) ∧ kvs.length ≤ pre.length ∧ ∀ j : Int, (valV kvs (.inl j)).getD (.int 0) = .int ((pre.foldl drvStep ([], fun _ => 0)).2 j))
      ⟨⟨_, _, rfl⟩, FB.start (e1.trans e2) nl (e2 _ _ hl), Nat.le_refl _, [], upd_same, Nat.le_refl _, fun _ => rfl⟩ (fun pre σ H' ⟨_, I, _⟩ => ⟨ex_l I.ex h1, h2.mono fun b x r => r.mono I.ex⟩) ?_ ?_⟩
    · rintro pre d post c σ H3 hsp ⟨⟨v3, v4, rfl⟩, I, hfl, kvs, hd, hkl, hv⟩ hc
      have hpre : pre.length < ds.length := by rw [hsp, List.length_append, List.length_cons]; omega
      have el : (pre ++ [d]).length = pre.length + 1 := by rw [List.length_append] <;> rfl
      have est : (pre ++ [d]).foldl drvStep ([], fun _ => 0) = drvStep (pre.foldl drvStep ([], fun _ => 0)) d := fold_snoc _ _ _ _
      generalize (pre ++ [d]).foldl drvStep ([], fun _ => 0) = st' at est ⊢
      generalize pre.foldl drvStep ([], fun _ => 0) = st at est I hfl hv
      have hfl' : st'.1.length ≤ pre.length + 1 := by rw [est]; have := drvStep_len st d; omega
      rw [el]
      unfold drvStep at est
      refine s_when (et_test (ev_op (ev_D_driving T (ev_var rfl) hc) ev_c rv_I0)) (fun h5 H4 e4 => ?_) fun h5 H4 e4 => ?_
      · rw [if_pos (show d.driving > 540 from of_decide_eq_true h5)] at est
        refine q_asg (ev_op (ev_D_begin T (ev_var rfl) (hc.mono e4)) ev_c rv_divC) fun H5 e5 => ?_
        have e45 := e4.trans e5
        have hd5 := e45 _ _ hd
        have hval := hv (d.beg / 10080)
        have hc5 := hc.mono e45
        refine q_dput (v := .int (st.2 (d.beg / 10080) + 1)) (ev_op (y := .int 1) (ev_is (ev_dget2 (ev_var rfl) (ev_var rfl) ev_c hd5) hval) ev_c rv_I0) (ev_var rfl) (ev_var rfl) hd5 (by omega) fun H6 e6 => ?_
        have I6 : FB (AtB a) H l st.1 (upd H6 dd (.dK (putK kvs (.inl (d.beg / 10080)) (.int (st.2 (d.beg / 10080) + 1))))) := (I.mono (stB a) (e45.trans e6)).dk (stB a) (e6 _ _ hd5) ndH
        have kp6 : Kp H6 (upd H6 dd (.dK (putK kvs (.inl (d.beg / 10080)) (.int (st.2 (d.beg / 10080) + 1))))) := (Kp.refl H6).dk (e6 _ _ hd5)
        have hc6 := (hc5.mono e6).kp kp6
        have hput : ∀ j : Key, valV (putK kvs (.inl (d.beg / 10080)) (.int (st.2 (d.beg / 10080) + 1))) j = if j = .inl (d.beg / 10080) then some (.int (st.2 (d.beg / 10080) + 1)) else valV kvs j := fun j => valV_put kvs _ j _
        have hcnt : ∀ j : Int, (valV (putK kvs (.inl (d.beg / 10080)) (.int (st.2 (d.beg / 10080) + 1))) (.inl j)).getD (.int 0) = .int (if j = d.beg / 10080 then st.2 (d.beg / 10080) + 1 else st.2 j) := fun j => by
          rw [hput]
          by_cases c : j = d.beg / 10080
          · subst c
            rw [if_pos rfl, if_pos rfl]
            rfl
          · rw [if_neg (fun z => c (Sum.inl.inj z)), if_neg c]
            exact hv j
        have hkl' : (putK kvs (.inl (d.beg / 10080)) (.int (st.2 (d.beg / 10080) + 1))).length ≤ pre.length + 1 := by
          have := putK_len kvs (.inl (d.beg / 10080)) (.int (st.2 (d.beg / 10080) + 1))
          omega
        refine s_if (et_test (ev_op (ev_D_driving T (ev_var rfl) hc6) ev_c rv_I0)) (fun h6 H7 e7 => ?_) fun h6 H7 e7 => ?_
        · rw [if_pos (show d.driving > 600 from of_decide_eq_true h6)] at est
          have hc7 := hc6.mono e7
          refine s_found (x := (⟨d.beg, 2, d.driving - 600⟩ : B)) (stB a) (I6.mono (stB a) e7) (ev_var rfl) (en_B (ev_D_begin T (ev_var rfl) hc7) ev_c (ev_op (ev_D_driving T (ev_var rfl) hc7) ev_c rv_I0)) (by omega) fun H8 I8 b8 => ?_
          subst est
          exact ⟨⟨_, _, rfl⟩, I8, hfl', _, b8 _ _ (e7 _ _ upd_same) hld, hkl', hcnt⟩
        · rw [if_neg (show ¬ d.driving > 600 from of_decide_eq_false h6)] at est
          have hget : valV (putK kvs (.inl (d.beg / 10080)) (.int (st.2 (d.beg / 10080) + 1))) (.inl (d.beg / 10080)) = some (.int (st.2 (d.beg / 10080) + 1)) := by
            rw [hput, if_pos rfl]
          refine s_when (et_test (ev_op (ev_dget (ev_var rfl) (ev_var rfl) (e7 _ _ upd_same) hget) ev_c rv_I0)) (fun h7 H8 e8 => ?_) fun h7 H8 e8 => ?_
          · rw [if_pos (show st.2 (d.beg / 10080) + 1 > 2 from of_decide_eq_true h7)] at est
            have hc8 := hc6.mono (e7.trans e8)
            refine s_found (x := (⟨d.beg, 2, d.driving - 540⟩ : B)) (stB a) (I6.mono (stB a) (e7.trans e8)) (ev_var rfl) (en_B (ev_D_begin T (ev_var rfl) hc8) ev_c (ev_op (ev_D_driving T (ev_var rfl) hc8) ev_c rv_I0)) (by omega) fun H9 I9 b9 => ?_
            subst est
            exact ⟨⟨_, _, rfl⟩, I9, hfl', _, b9 _ _ (e8 _ _ (e7 _ _ upd_same)) hld, hkl', hcnt⟩
          · rw [if_neg (show ¬ st.2 (d.beg / 10080) + 1 > 2 from of_decide_eq_false h7)] at est
            subst est
            exact ⟨⟨_, _, rfl⟩, I6.mono (stB a) (e7.trans e8), hfl', _, e8 _ _ (e7 _ _ upd_same), hkl', hcnt⟩
      · rw [if_neg (show ¬ d.driving > 540 from of_decide_eq_false h5)] at est
        subst est
        exact ⟨⟨_, _, rfl⟩, I.mono (stB a) e4, hfl', kvs, e4 _ _ hd, Nat.le_succ_of_le hkl, hv⟩
    · rintro σ H3 ⟨⟨v3, v4, rfl⟩, I, _⟩
      refine s_ret (ev_var rfl) fun H4 e4 => ?_
      exact q l H4 nl (I.ex.trans e4) (I.mono (stB a) e4).lo
/-! ### rules 3, 4 -/
theorem restStep_len (e : Int) (acc : List B) (d : Dv.D) : (restStep e acc d).length ≤ acc.length + 1 := by
  unfold restStep
  split
  · rw [List.length_append]; exact Nat.le_refl _
  · exact Nat.le_succ _
theorem restB_len (ds : List Dv.D) (e : Int) : (restB ds e).length ≤ ds.length := by
  have q := fold_len (restStep e) (fun st => st.length) 1 (restStep_len e) ds []
  try dsimp only at q
  rw [show ([] : List B).length = 0 from rfl] at q
  show (ds.foldl (restStep e) []).length ≤ _
  omega
def spRestB (K : PySem.W.Frag) (a : Ad) : Sp := fun vs H Q _ => ∃ t ds e, vs = [.ref t, .int e] ∧ DL K a H t ds ∧ ds.length ≤ 400 ∧ ∀ p H1, H p = none → Ex H H1 → LO (AtB a) H1 p (restB ds e) → Q (.ref p) H1
theorem ok_rest_breaches (T : Txt K mg a) : CallP P w K mg base CX0 3 "rest_breaches" P_rest_breaches (spRestB K a) := by
  refine T.f_rest_breaches.ok sc_rest_breaches (fun vs H Q E h => ?_) fun f cdv A outer s H vs Q E hr h => ?_
  · obtain ⟨_, _, _, rfl, _⟩ := h
    rfl
  · obtain ⟨t, ds, e, rfl, ⟨as, h1, h2⟩, hlen, q⟩ := h
    refine ⟨_, (pss_cons (ps_set (i := 2) sc_rest_breaches.nd rfl (Or.inl rfl) (pe_lst pa_nil))
    (pss_cons (ps_for PassesOwn.never rfl (pi_list (pv 0)) (pg_name (i := 3) sc_rest_breaches.nd rfl (Or.inl rfl))
    (pss_one (ps_if (pt_cmpR op_eq (pe_methP (pv 3) T.cl_D (ok_D_state T) (hr.mono (by decide)) pass0 (pa_cons (pv 1) pa_nil)) (pe_gi T.c_TOO_SHORT rfl) (nomark _)) (pss_one (ps_expr (pe_bm PySem.F.plainAttrs_list PySem.F.slot_list_append PySem.F.type_list_append mt_append (pv 2) (pa_cons (pe_makeP (ok_B_init T) T.g_B (hr.mono (by decide)) rfl pass0 (pa_cons (pe_op op_add (pe_fld (pv 3) rfl) (pe_gi T.c_DAY rfl)) (pa_cons (pe_gi T.c_REST_RULE rfl) (pa_cons (pe_op op_sub (pe_gi T.c_ENDING rfl) (pe_methP0 (pv 3) T.cl_D (ok_D_counted T) (hr.mono (by decide)) pass0)) pa_nil)))) pa_nil)))) pss_nil)))
    (pss_one (ps_ret (pv 2))))), ?_⟩
    refine q_asgL (el_lst ea_nil (by show 0 ≤ 100000; decide)) fun l H1 nl e1 hl => ?_
    refine ⟨_, rfl, t, rfl, ⟨_, ex_l e1 h1⟩, for_objs (F := AtD a) (as := as) (xs := ds) (fun pre σ H' => (∃ v, σ = [some (.ref t), some (.int e), some (.ref l), v]) ∧ FB (AtB a) H l (pre.foldl (restStep e) []) H')
      ⟨⟨_, rfl⟩, FB.start e1 nl hl⟩ (fun pre σ H' ⟨_, I⟩ => ⟨ex_l I.ex h1, h2.mono fun b x r => r.mono I.ex⟩) ?_ ?_⟩
    · rintro pre d post c σ H3 hsp ⟨⟨v, rfl⟩, I⟩ hc
      have hpre : pre.length < ds.length := by rw [hsp, List.length_append, List.length_cons]; omega
      have hfl : (pre.foldl (restStep e) []).length ≤ pre.length := restB_len pre e
      have est : (pre ++ [d]).foldl (restStep e) [] = if d.state e = 2 then pre.foldl (restStep e) [] ++ [⟨d.beg + 1440, 3, 540 - d.counted⟩] else pre.foldl (restStep e) [] := fold_snoc _ _ _ _
      refine s_when (et_test (ev_op (ev_D_state (ev_var rfl) hc (ev_var rfl)) (ev_c (v := .int 2)) ev_eqI)) (fun h5 H4 e4 => ?_) fun h5 H4 e4 => ?_
      · rw [if_pos (of_decide_eq_true h5)] at est
        have hc4 := hc.mono e4
        refine s_found (x := (⟨d.beg + 1440, 3, 540 - d.counted⟩ : B)) (stB a) (I.mono (stB a) e4) (ev_var rfl) (en_B (ev_op (ev_D_begin T (ev_var rfl) hc4) ev_c rv_I0) ev_c (ev_op ev_c (ev_D_counted (ev_var rfl) hc4) rv_I0)) (by show (pre.foldl (restStep e) []).length < 100000; omega) fun H5 I5 b5 => ⟨⟨_, rfl⟩, ?_⟩
        rw [est]
        exact I5
      · rw [if_neg (of_decide_eq_false h5)] at est
        refine ⟨⟨_, rfl⟩, ?_⟩
        rw [est]
        exact I.mono (stB a) e4
    · rintro σ H3 ⟨⟨v, rfl⟩, I⟩
      exact s_ret (ev_var rfl) fun H4 e4 => q l H4 nl (I.ex.trans e4) (I.mono (stB a) e4).lo
theorem shortStep_len (e : Int) (st : List B × Int) (d : Dv.D) : (shortStep e st d).1.length ≤ st.1.length + 1 := by
  unfold shortStep
  split
  · exact Nat.le_succ _
  · split
    · exact Nat.le_succ _
    · split
      · show (if _ then _ else _ : List B).length ≤ _
        split
        · rw [List.length_append]; exact Nat.le_refl _
        · exact Nat.le_succ _
      · exact Nat.le_succ _
theorem shortB_len (ds : List Dv.D) (e : Int) : (shortB ds e).length ≤ ds.length := by
  have q := fold_len (shortStep e) (fun st => st.1.length) 1 (shortStep_len e) ds ([], 0)
  try dsimp only at q
  rw [show ([] : List B).length = 0 from rfl] at q
  show (ds.foldl (shortStep e) ([], 0)).1.length ≤ _
  omega
def spShortB (K : PySem.W.Frag) (a : Ad) : Sp := fun vs H Q _ => ∃ t ds e, vs = [.ref t, .int e] ∧ DL K a H t ds ∧ ds.length ≤ 400 ∧ ∀ p H1, H p = none → Ex H H1 → LO (AtB a) H1 p (shortB ds e) → Q (.ref p) H1
theorem ok_short_breaches (T : Txt K mg a) : CallP P w K mg base CX0 3 "short_breaches" P_short_breaches (spShortB K a) := by
  refine T.f_short_breaches.ok sc_short_breaches (fun vs H Q E h => ?_) fun f cdv A outer s H vs Q E hr h => ?_
  · obtain ⟨_, _, _, rfl, _⟩ := h
    rfl
  · obtain ⟨t, ds, e, rfl, ⟨as, h1, h2⟩, hlen, q⟩ := h
    refine ⟨_, (pss_cons (ps_set (i := 2) sc_short_breaches.nd rfl (Or.inl rfl) (pe_lst pa_nil))
    (pss_cons (ps_set (i := 3) sc_short_breaches.nd rfl (Or.inl rfl) pe_int)
    (pss_cons (ps_for PassesOwn.never rfl (pi_list (pv 0)) (pg_name (i := 4) sc_short_breaches.nd rfl (Or.inl rfl))
    (pss_one (ps_if (pt_cmp (pc_notN (pe_fld (pv 4) rfl))) (pss_one (ps_if (pt_val (pe_methP (pe_fld (pv 4) rfl) T.cl_S (ok_S_is_rest T) (hr.mono (by decide)) pass0 (pa_cons (pe_gi T.c_WEEKLY_days rfl) pa_nil))) (pss_one (ps_set (i := 3) sc_short_breaches.nd rfl (Or.inl rfl) pe_int)) (pss_one (ps_if (pt_cmpR op_eq (pe_methP (pv 4) T.cl_D (ok_D_state T) (hr.mono (by decide)) pass0 (pa_cons (pv 1) pa_nil)) (pe_gi T.c_SHORT rfl) (nomark _)) (pss_cons (ps_aug (i := 3) sc_short_breaches.nd rfl (.inl rfl) pe_int ip_add)
    (pss_one (ps_if (pt_cmpR op_gt (pv 3) (pe_gi T.c_MOST_SHORT rfl) (nomark _)) (pss_one (ps_expr (pe_bm PySem.F.plainAttrs_list PySem.F.slot_list_append PySem.F.type_list_append mt_append (pv 2) (pa_cons (pe_makeP (ok_B_init T) T.g_B (hr.mono (by decide)) rfl pass0 (pa_cons (pe_fld (pe_fld (pv 4) rfl) rfl) (pa_cons (pe_gi T.c_SHORT_RULE rfl) (pa_cons (pe_op op_sub (pe_gi T.c_FULL rfl) (pe_methP0 (pv 4) T.cl_D (ok_D_counted T) (hr.mono (by decide)) pass0)) pa_nil)))) pa_nil)))) pss_nil))) pss_nil)))) pss_nil)))
    (pss_one (ps_ret (pv 2)))))), ?_⟩
    refine q_asgL (el_lst ea_nil (by show 0 ≤ 100000; decide)) fun l H1 nl e1 hl => ?_
    refine q_asg ev_c fun H2 e2 => ?_
    refine ⟨_, rfl, t, rfl, ⟨_, ex_l (e1.trans e2) h1⟩, for_objs (F := AtD a) (as := as) (xs := ds) (fun pre σ H' => (∃ v, σ = [some (.ref t), some (.int e), some (.ref l), some (.int (pre.foldl (shortStep e) ([], 0)).2), v]) ∧ FB (AtB a) H l (pre.foldl (shortStep e) ([], 0)).1 H')
      ⟨⟨_, rfl⟩, FB.start (e1.trans e2) nl (e2 _ _ hl)⟩ (fun pre σ H' ⟨_, I⟩ => ⟨ex_l I.ex h1, h2.mono fun b x r => r.mono I.ex⟩) ?_ ?_⟩
    · rintro pre d post c σ H3 hsp ⟨⟨v, rfl⟩, I⟩ hc
      have hpre : pre.length < ds.length := by rw [hsp, List.length_append, List.length_cons]; omega
      have hfl : (pre.foldl (shortStep e) ([], 0)).1.length ≤ pre.length := shortB_len pre e
      have est : (pre ++ [d]).foldl (shortStep e) ([], 0) = shortStep e (pre.foldl (shortStep e) ([], 0)) d := fold_snoc _ _ _ _
      generalize (pre ++ [d]).foldl (shortStep e) ([], 0) = st' at est ⊢
      generalize pre.foldl (shortStep e) ([], 0) = st at est I hfl ⊢
      unfold shortStep at est
      refine s_when (et_B (ev_D_notnone T (ev_var rfl) hc)) (fun h5 H4 e4 => ?_) fun h5 H4 e4 => ?_
      · cases er : d.rest with
        | none => rw [er] at h5; cases h5
        | some r =>
          rw [er] at est
          dsimp only at est
          have hc4 := hc.mono e4
          obtain ⟨y, hy, ev⟩ := ev_D_rest (ta := tVar 4) (σ := [some (.ref t), some (.int e), some (.ref l), some (.int st.2), some (.ref c)]) T (ev_var rfl) hc4 er
          refine s_if (et_B (ev_S_is_rest ev hy ev_c)) (fun h6 H5 e5 => ?_) fun h6 H5 e5 => ?_
          · rw [if_pos h6] at est
            refine s_asg ev_c fun H6 e6 => ?_
            subst est
            exact ⟨⟨_, rfl⟩, I.mono (stB a) ((e4.trans e5).trans e6)⟩
          · rw [if_neg (by rw [h6]; exact Bool.false_ne_true)] at est
            have hc5 := hc4.mono e5
            refine s_when (et_test (ev_op (ev_D_state (ev_var rfl) hc5 (ev_var rfl)) (ev_c (v := .int 1)) ev_eqI)) (fun h7 H6 e6 => ?_) fun h7 H6 e6 => ?_
            · rw [if_pos (of_decide_eq_true h7)] at est
              refine q_aug rfl ev_c fun H7 e7 => ?_
              refine s_when (et_test (ev_op (ev_var rfl) ev_c rv_I0)) (fun h8 H8 e8 => ?_) fun h8 H8 e8 => ?_
              · rw [if_pos (show st.2 + 1 > 3 from of_decide_eq_true h8)] at est
                have e48 := ((e5.trans e6).trans e7).trans e8
                have hc8 := hc4.mono e48
                obtain ⟨y8, hy8, ev8⟩ := ev_D_rest (ta := tVar 4) (σ := [some (.ref t), some (.int e), some (.ref l), some (.int (st.2 + 1)), some (.ref c)]) T (ev_var rfl) hc8 er
                refine s_found (x := (⟨r.beg, 4, 660 - d.counted⟩ : B)) (stB a) (I.mono (stB a) (e4.trans e48)) (ev_var rfl) (en_B (ev_S_begin T ev8 hy8) ev_c (ev_op ev_c (ev_D_counted (ev_var rfl) hc8) rv_I0)) (by omega) fun H9 I9 b9 => ?_
                subst est
                exact ⟨⟨_, rfl⟩, I9⟩
              · rw [if_neg (show ¬ st.2 + 1 > 3 from of_decide_eq_false h8)] at est
                subst est
                exact ⟨⟨_, rfl⟩, I.mono (stB a) (e4.trans (((e5.trans e6).trans e7).trans e8))⟩
            · rw [if_neg (of_decide_eq_false h7)] at est
              subst est
              exact ⟨⟨_, rfl⟩, I.mono (stB a) ((e4.trans e5).trans e6)⟩
      · cases er : d.rest with
        | none =>
          rw [er] at est
          dsimp only at est
          subst est
          exact ⟨⟨_, rfl⟩, I.mono (stB a) e4⟩
        | some r => rw [er] at h5; cases h5
    · rintro σ H3 ⟨⟨v, rfl⟩, I⟩
      exact s_ret (ev_var rfl) fun H4 e4 => q l H4 nl (I.ex.trans e4) (I.mono (stB a) e4).lo
/-! ### rules 2 to 4 together -/
theorem dayStep_len (st : List Dv.D × Bool) (s : S) : (dayStep st s).1.length ≤ st.1.length + 1 := by
  unfold dayStep
  split
  · split
    · split
      · show (modLast _ _).length ≤ _
        rw [modLast_len]; exact Nat.le_succ _
      · show (modLast _ _).length ≤ _
        rw [modLast_len]; exact Nat.le_succ _
    · exact Nat.le_succ _
  · have h : (if st.2 = true then st.1 else st.1 ++ [(⟨s.beg, 0, false, none⟩ : Dv.D)]).length ≤ st.1.length + 1 := by
      split
      · exact Nat.le_succ _
      · rw [List.length_append]; exact Nat.le_refl _
    show (if s.kind = 1 then _ else _ : List Dv.D).length ≤ _
    split
    · rw [modLast_len]; exact h
    · exact h
theorem daysOf_len (ss : List S) : (daysOf ss).length ≤ ss.length := by
  have q := fold_len dayStep (fun st => st.1.length) 1 dayStep_len (behindWork ss) ([], false)
  have r := behind_len ss
  try dsimp only at q
  rw [show ([] : List Dv.D).length = 0 from rfl] at q
  show ((behindWork ss).foldl dayStep ([], false)).1.length ≤ _
  omega
theorem en_days_of (h : Ev ta σ H (.ref t)) (hs : SL K a H t ss) (hl : ss.length ≤ 400) : EvN (tCall (spDaysOf K a) [] E (tCons ta tNil)) σ H fun p H2 => LO (AtD a) H2 p (daysOf ss) :=
  en_call (ea_cons h ea_nil) fun H1 e Q q _ => ⟨t, ss, rfl, hs.mono e, hl, q⟩
def spDayB (K : PySem.W.Frag) (a : Ad) : Sp := fun vs H Q _ => ∃ t ss, vs = [.ref t] ∧ SL K a H t ss ∧ ss.length ≤ 400 ∧ ∀ p H1, H p = none → Ex H H1 → LO (AtB a) H1 p (dayB ss) → Q (.ref p) H1
theorem ok_day_breaches (T : Txt K mg a) : CallP P w K mg base CX0 4 "day_breaches" P_day_breaches (spDayB K a) := by
  refine T.f_day_breaches.ok sc_day_breaches (fun vs H Q E h => ?_) fun f cdv A outer s H vs Q E hr h => ?_
  · obtain ⟨_, _, rfl, _⟩ := h
    rfl
  · obtain ⟨t, ss, rfl, hs, hl, q⟩ := h
    refine ⟨_, (pss_cons (ps_set (i := 1) sc_day_breaches.nd rfl (Or.inl rfl) (pe_callP (ok_days_of T) (hr.mono (by decide)) rfl pass0 (pa_cons (pv 0) pa_nil)))
    (pss_cons (ps_set (i := 2) sc_day_breaches.nd rfl (Or.inl rfl) (pe_callP (ok_end_of T) (hr.mono (by decide)) rfl pass0 (pa_cons (pv 0) pa_nil)))
    (pss_one (ps_ret (pe_op op_cat (pe_op op_cat (pe_callP (ok_driving_breaches T) (hr.mono (by decide)) rfl pass0 (pa_cons (pv 1) pa_nil)) (pe_callP (ok_rest_breaches T) (hr.mono (by decide)) rfl pass0 (pa_cons (pv 1) (pa_cons (pv 2) pa_nil)))) (pe_callP (ok_short_breaches T) (hr.mono (by decide)) rfl pass0 (pa_cons (pv 1) (pa_cons (pv 2) pa_nil)))))))), ?_⟩
    refine q_asgN (en_days_of (ev_var rfl) hs hl) fun p H1 np e1 hp => ?_
    refine q_asg (ev_end_of (ev_var rfl) (hs.mono e1)) fun H2 e2 => ?_
    have hd : DL K a H2 p (daysOf ss) := (LO.mono (stD a) hp e2).dl
    have hdl : (daysOf ss).length ≤ 400 := Nat.le_trans (daysOf_len ss) hl
    have l1 := drvB_len (daysOf ss)
    have l2 := restB_len (daysOf ss) (endOf ss)
    have l3 := shortB_len (daysOf ss) (endOf ss)
    refine s_retN (en_cat (stB a) (en_cat (stB a) (xs := drvB (daysOf ss)) (ys := restB (daysOf ss) (endOf ss)) ?_ ?_ (by omega)) (ys := shortB (daysOf ss) (endOf ss)) ?_ (by rw [List.length_append]; omega)) fun r H3 nr e3 hr3 => q r H3 (fresh_back (e1.trans e2) nr) ((e1.trans e2).trans e3) hr3
    · exact en_call (ea_cons (ev_var rfl) ea_nil) fun H1 e Q q _ => ⟨p, _, rfl, hd.mono e, hdl, q⟩
    · exact en_call (ea_cons (ev_var rfl) (ea_cons (ev_var rfl) ea_nil)) fun H1 e Q q _ => ⟨p, _, _, rfl, hd.mono e, hdl, q⟩
    · exact en_call (ea_cons (ev_var rfl) (ea_cons (ev_var rfl) ea_nil)) fun H1 e Q q _ => ⟨p, _, _, rfl, hd.mono e, hdl, q⟩
theorem dayB_len (ss : List S) : (dayB ss).length ≤ 3 * ss.length := by
  have l0 := daysOf_len ss
  have l1 := drvB_len (daysOf ss)
  have l2 := restB_len (daysOf ss) (endOf ss)
  have l3 := shortB_len (daysOf ss) (endOf ss)
  unfold dayB
  rw [List.length_append, List.length_append]
  omega
end
end Dv
namespace Dv
open PySem PySem.Spec PyProof.Rows L2 Evl
/-- a comprehension over objects: pre is the part gone through -/
theorem lc_objs {α : Type} {F : Hp → Addr → α → Prop} {K : PySem.W.Frag} {a : Addr} {as : List Addr} {xs : List α} {g : TG} {tt : TT} {te : TE} {vs : List Nat} {σ : L2.St} {H1 : Hp} {D : Addr} {Qd : Hp → Prop} (Pv : List α → Hp → Prop) (h0 : Pv [] (upd H1 D (.lst [])))
    (hl : ∀ pre H, Pv pre H → SqL K H a (refs as) ∧ All2 (F H) as xs)
    (hs : ∀ pre x post b H, xs = pre ++ x :: post → Pv pre H → F H b x → g (.ref b) (wipe σ vs) H fun σ2 H2 => wipe σ2 vs = wipe σ vs ∧ tt σ2 H2 fun b H3 =>
      if b = true then te σ2 H3 fun y H4 => ∃ acc, H4 D = some (.lst acc) ∧ acc.length < sizeLine ∧ Pv (pre ++ [x]) (upd H4 D (.lst (acc ++ [y]))) else Pv (pre ++ [x]) H3) (hd : ∀ H, Pv xs H → Qd H) :
    ∃ W : Nat → Nat → Hp → Prop, (∃ m, W 0 m (upd H1 D (.lst []))) ∧ ∀ i m H, W i m H →
      ((Itl K a).stop i H ∧ Qd H) ∨ ((Itl K a).go i H ∧ ∃ Nx : Hp → Prop, (∀ H', Nx H' → ∃ m', m' < m ∧ W (i + 1) m' H') ∧ ∀ x H', (Itl K a).yld i H x H' → g x (wipe σ vs) H' fun σ2 H2 => wipe σ2 vs = wipe σ vs ∧ tt σ2 H2 fun b H3 =>
        if b = true then te σ2 H3 fun y H4 => ∃ acc, H4 D = some (.lst acc) ∧ acc.length < sizeLine ∧ Nx (upd H4 D (.lst (acc ++ [y]))) else Nx H3) := by
  have len : as.length = xs.length := (hl [] _ h0).2.len
  refine lc_list (K := K) (a := a) (xs := refs as) (fun i H => Pv (xs.take i) H) (by rw [List.take_zero]; exact h0) (fun i H _ p => (hl _ _ p).1) (fun i v H hi p => ?_) (fun H p => hd H ?_)
  · have hil : i < xs.length := by
      have := (List.getElem?_eq_some_iff.mp hi).1
      rw [refs_len, len] at this
      exact this
    have hx : xs[i]? = some xs[i] := List.getElem?_eq_getElem hil
    obtain ⟨b, hb, hF⟩ := (hl _ _ p).2.get hx
    have ev : v = .ref b := by
      rw [List.getElem?_map, hb] at hi
      exact (Option.some.inj hi).symm
    subst ev
    have e1 : xs = xs.take i ++ xs[i] :: xs.drop (i + 1) := by
      rw [List.getElem_cons_drop, List.take_append_drop]
    have e2 : xs.take (i + 1) = xs.take i ++ [xs[i]] := by
      rw [List.take_add_one, hx]
      rfl
    rw [e2]
    exact hs _ _ _ b H e1 p hF
  · rw [refs_len, len, List.take_length] at p
    exact p
section
variable {P : Program} {w : World} {K : PySem.W.Frag} {mg : Str → Option Value} {base : Heap} {a : Ad} {σ : L2.St} {H H' : Hp} {ta tb te tx td ty tv : TE} {x b t l : Addr} {E : XK} {ss : List S}
/-! ### weekly rests -/
def spWeekly (K : PySem.W.Frag) (a : Ad) : Sp := fun vs H Q _ => ∃ t ss, vs = [.ref t] ∧ SL K a H t ss ∧ ss.length ≤ 400 ∧ ∀ p H1, H p = none → Ex H H1 → LO (AtS a) H1 p (weeklyRests ss) → Q (.ref p) H1
theorem ok_weekly_rests (T : Txt K mg a) : CallP P w K mg base CX0 3 "weekly_rests" P_weekly_rests (spWeekly K a) := by
  refine T.f_weekly_rests.ok sc_weekly_rests (fun vs H Q E h => ?_) fun f cdv A outer s H vs Q E hr h => ?_
  · obtain ⟨_, _, rfl, _⟩ := h
    rfl
  · obtain ⟨t, ss, rfl, hs, hl, q⟩ := h
    refine ⟨_, (pss_one (ps_ret (pe_lc (own := [("one", 1)]) (g := gName 1) rfl sc_weekly_rests.nd (pi_list (pe_callP (ok_behind_work T) (hr.mono (by decide)) rfl pass0 (pa_cons (pv 0) pa_nil))) (blkOk_by (own := [("one", 1)]) (N := N_weekly_rests) (sc := defScope s_weekly_rests) (by decide +kernel)) (fun _ _ _ _ _ => pg_name (i := 1) sc_weekly_rests.nd rfl (Or.inl rfl)) (fun _ _ _ _ _ => (pts_one (pt_val (pe_methP (pv 1) T.cl_S (ok_S_is_rest T) (hr.mono (by decide)) pass0 (pa_cons (pe_gi T.c_WEEKLY_weeks rfl) pa_nil))))) (fun _ _ _ _ _ => (pv 1))))), ?_⟩
    refine en_behind_work (E := E0) (ta := tVar 0) (σ := [some (.ref t), none]) (ev_var rfl) hs H (Ex.refl _) _ fun p H1 np e1 hp => ?_
    obtain ⟨ps, hp1, hp2⟩ := hp
    have hbl := behind_len ss
    refine ⟨p, rfl, ⟨_, sq_of hp1⟩, fun L nL => ?_⟩
    have nLH : H L = none := fresh_back e1 nL
    have e2 : Ex H1 (upd H1 L (.lst [])) := Ex.new nL
    have npL : p ≠ L := fun z => by rw [← z, hp1] at nL; cases nL
    refine lc_objs (F := AtS a) (as := ps) (xs := behindWork ss) (fun pre H' => FB (AtS a) H L (pre.filter fun s => s.isRest 1440) H' ∧ But L H1 H') ⟨FB.start (e1.trans e2) nLH upd_same, .of e2⟩
      (fun pre H' ⟨I, bt⟩ => ⟨bt.sq npL hp1, hp2.mono fun b s ⟨d, h⟩ => ⟨d, bt _ _ h fun z => by rw [z, nL] at h; cases h⟩⟩) ?_ ?_
    · rintro pre one post c H3 hsp ⟨I, bt⟩ hc
      have hpre : pre.length < ss.length := by
        have := congrArg List.length hsp
        rw [List.length_append, List.length_cons] at this
        omega
      have hfl : (pre.filter fun s => s.isRest 1440).length ≤ pre.length := List.length_filter_le _ _
      refine ⟨rfl, ?_⟩
      refine et_B (ev_S_is_rest (ev_var rfl) hc (ev_c (v := .int 1440))) H3 (Ex.refl _) _ fun H4 e4 => ?_
      obtain ⟨bs, hb1, hb2⟩ := I.lo
      cases hq : one.isRest 1440 with
      | true =>
        refine ⟨_, rfl, refs bs, e4 _ _ hb1, ?_, ?_, ?_⟩
        · rw [refs_len, hb2.len]
          exact sz_lt (by omega)
        · have kp : Kp H3 (upd H4 L (.lst (refs bs ++ [.ref c]))) := (Kp.of e4).lst hb1
          rw [List.filter_append, List.filter_cons_of_pos (p := fun s : S => s.isRest 1440) hq, List.filter_nil]
          exact ⟨Ex.upd (I.ex.trans e4) nLH, nLH, bs ++ [c], (by rw [upd_same, refs_snoc]), All2.snoc (hb2.mono fun b s h => h.kp kp) (hc.kp kp)⟩
        · exact (bt.trans (.of e4)).upd
      | false =>
        show FB (AtS a) H L ((pre ++ [one]).filter fun s => s.isRest 1440) H4 ∧ But L H1 H4
        rw [List.filter_append, List.filter_cons_of_neg (p := fun s : S => s.isRest 1440) (by rw [hq]; exact Bool.false_ne_true), List.filter_nil, List.append_nil]
        exact ⟨I.mono (stS a) e4, bt.trans (.of e4)⟩
    · rintro H3 ⟨I, bt⟩
      exact q L H3 nLH I.ex I.lo
theorem en_weekly (h : Ev ta σ H (.ref t)) (hs : SL K a H t ss) (hl : ss.length ≤ 400) : EvN (tCall (spWeekly K a) [] E (tCons ta tNil)) σ H fun p H2 => LO (AtS a) H2 p (weeklyRests ss) :=
  en_call (ea_cons h ea_nil) fun H1 e Q q _ => ⟨t, ss, rfl, hs.mono e, hl, q⟩
theorem weekly_len (ss : List S) : (weeklyRests ss).length ≤ ss.length := Nat.le_trans (List.length_filter_le _ _) (behind_len ss)
def spIsShort (K : PySem.W.Frag) (a : Ad) : Sp := fun vs H Q _ => ∃ x s e, vs = [.ref x, .int e] ∧ AtS a H x s ∧ ∀ H1, Ex H H1 → Q (.bl (isShort s e)) H1
theorem ok_is_short (T : Txt K mg a) : CallP P w K mg base CX0 2 "is_short" P_is_short (spIsShort K a) := by
  refine T.f_is_short.ok sc_is_short (fun vs H Q E h => ?_) fun f cdv A outer s H vs Q E hr h => ?_
  · obtain ⟨_, _, _, rfl, _⟩ := h
    rfl
  · obtain ⟨x, s, e, rfl, hx, q⟩ := h
    refine ⟨_, (pss_one (ps_ret (pe_and (pe_cmpR op_lt (pe_methP0 (pv 0) T.cl_S (ok_S_minutes T) (hr.mono (by decide)) pass0) (pe_gi T.c_WHOLE_weeks rfl) (nomark _)) (pe_one (pe_cmpR op_lt (pe_fld (pv 0) rfl) (pv 1) (nomark _)))))), ?_⟩
    exact s_ret (ev_andV (ev_op (ev_S_minutes (ev_var rfl) hx) ev_c rv_I0) fun _ => ev_op (ev_S_end T (ev_var rfl) hx) (ev_var rfl) rv_I0) q
theorem ev_is_short {s : S} {e : Int} (h : Ev ta σ H (.ref x)) (he : Ev tb σ H (.int e)) (q : AtS a H x s) : Ev (tCall (spIsShort K a) [] E (tCons ta (tCons tb tNil))) σ H (.bl (isShort s e)) :=
  ev_call (ea_cons h (ea_cons he ea_nil)) fun H1 e' Q k _ => ⟨x, s, e, rfl, q.mono e', k⟩
/-! ### rule 5 -/
theorem lateStep_len (st : List B × Int) (s : S) : (lateStep st s).1.length ≤ st.1.length + 1 := by
  unfold lateStep
  show (if _ then _ else _ : List B).length ≤ _
  split
  · rw [List.length_append]; exact Nat.le_refl _
  · exact Nat.le_succ _
theorem lates_len (l : List S) (n : Int) : (l.foldl lateStep ([], n)).1.length ≤ l.length := by
  have q := fold_len lateStep (fun st => st.1.length) 1 lateStep_len l ([], n)
  try dsimp only at q
  rw [show ([] : List B).length = 0 from rfl] at q
  omega
theorem lateB_len (l : List S) (e : Int) : (lateB l e).length ≤ l.length + 1 := by
  unfold lateB
  split
  · exact Nat.zero_le _
  · rename_i s r _
    have q := lates_len (weeklyRests l) (s.beg + 8640)
    have w := weekly_len l
    unfold lateEnd
    split
    · rw [List.length_append]
      show _ + 1 ≤ _
      omega
    · omega
def spLateB (K : PySem.W.Frag) (a : Ad) : Sp := fun vs H Q _ => ∃ t ss e, vs = [.ref t, .int e] ∧ SL K a H t ss ∧ ss.length ≤ 400 ∧ ∀ p H1, H p = none → Ex H H1 → LO (AtB a) H1 p (lateB ss e) → Q (.ref p) H1
theorem ok_late_breaches (T : Txt K mg a) : CallP P w K mg base CX0 4 "late_breaches" P_late_breaches (spLateB K a) := by
  refine T.f_late_breaches.ok sc_late_breaches (fun vs H Q E h => ?_) fun f cdv A outer s H vs Q E hr h => ?_
  · obtain ⟨_, _, _, rfl, _⟩ := h
    rfl
  · obtain ⟨t, ss, e, rfl, hs, hl, q⟩ := h
    refine ⟨_, (pss_cons (ps_set (i := 2) sc_late_breaches.nd rfl (Or.inl rfl) (pe_lst pa_nil))
    (pss_cons (ps_set (i := 3) sc_late_breaches.nd rfl (Or.inl rfl) (pe_callP (ok_behind_work T) (hr.mono (by decide)) rfl pass0 (pa_cons (pv 0) pa_nil)))
    (pss_cons (ps_if (pt_cmpR op_eq (pe_callB call_len_seq (by rfl) T.b_len PySem.boot_len (pa_cons (pv 3) pa_nil)) pe_int (nomark _)) (pss_one (ps_ret (pe_lst pa_nil))) pss_nil)
    (pss_cons (ps_set (i := 4) sc_late_breaches.nd rfl (Or.inl rfl) (pe_op op_add (pe_fld (pe_ix (r := rIxL K) ix_list (pv 3) pe_int (fun _ _ => rfl)) rfl) (pe_gi T.c_LATEST rfl)))
    (pss_cons (ps_for PassesOwn.never rfl (pi_list (pe_callP (ok_weekly_rests T) (hr.mono (by decide)) rfl pass0 (pa_cons (pv 0) pa_nil))) (pg_name (i := 5) sc_late_breaches.nd rfl (Or.inl rfl))
    (pss_cons (ps_if (pt_cmpR op_gt (pe_fld (pv 5) rfl) (pv 4) (nomark _)) (pss_one (ps_expr (pe_bm PySem.F.plainAttrs_list PySem.F.slot_list_append PySem.F.type_list_append mt_append (pv 2) (pa_cons (pe_makeP (ok_B_init T) T.g_B (hr.mono (by decide)) rfl pass0 (pa_cons (pv 4) (pa_cons pe_int (pa_cons (pe_op op_sub (pe_fld (pv 5) rfl) (pv 4)) pa_nil)))) pa_nil)))) pss_nil)
    (pss_one (ps_set (i := 4) sc_late_breaches.nd rfl (Or.inl rfl) (pe_op op_add (pe_fld (pv 5) rfl) (pe_gi T.c_LATEST rfl))))))
    (pss_cons (ps_if (pt_cmpR op_gt (pv 1) (pv 4) (nomark _)) (pss_one (ps_expr (pe_bm PySem.F.plainAttrs_list PySem.F.slot_list_append PySem.F.type_list_append mt_append (pv 2) (pa_cons (pe_makeP (ok_B_init T) T.g_B (hr.mono (by decide)) rfl pass0 (pa_cons (pv 4) (pa_cons pe_int (pa_cons (pe_op op_sub (pv 1) (pv 4)) pa_nil)))) pa_nil)))) pss_nil)
    (pss_one (ps_ret (pv 2))))))))), ?_⟩
    refine q_asgL (el_lst ea_nil (by show 0 ≤ 100000; decide)) fun l H1 nl e1 hl1 => ?_
    refine q_asgN (en_behind_work (ev_var rfl) (hs.mono e1)) fun y H2 ny e2 hy => ?_
    obtain ⟨ys, hy1, hy2⟩ := hy
    unfold lateB at q
    cases hb : behindWork ss with
    | nil =>
      rw [hb] at hy2 q
      have eys := hy2.nil_iff
      subst eys
      refine q_when (b := true) (et_is (et_test (ev_op (ev_len (ev_var rfl) (sq_of hy1)) ev_c ev_eqI)) rfl) (fun _ H3 e3 => ?_) fun h => by cases h
      exact s_retL (el_lst ea_nil (by show 0 ≤ 100000; decide)) fun p H4 np e4 hp => q p H4 (fresh_back ((e1.trans e2).trans e3) np) (((e1.trans e2).trans e3).trans e4) ⟨[], hp, True.intro⟩
    | cons s0 r0 =>
      rw [hb] at hy2 q
      dsimp only at q
      obtain ⟨y0, ys', eys⟩ : ∃ y0 ys', ys = y0 :: ys' := by
        cases ys with
        | nil => exact hy2.elim
        | cons y0 ys' => exact ⟨y0, ys', rfl⟩
      subst eys
      refine q_when (b := false) (et_is (et_test (ev_op (ev_len (ev_var rfl) (sq_of hy1)) ev_c ev_eqI)) (decide_eq_false ?_)) (fun h => by cases h) fun _ H3 e3 => ?_
      · show ¬ (((refs ys').length + 1 : Nat) : Int) = 0
        omega
      refine q_asg (ev_op (ev_S_begin T (ev_op (ev_var rfl) ev_c (rv_ixL (sq_of (e3 _ _ hy1)) (atI_nat (j := 0) rfl))) (hy2.1.mono e3)) ev_c rv_I0) fun H4 e4 => ?_
      have e14 := ((e1.trans e2).trans e3).trans e4
      refine en_weekly (E := E0) (ta := tVar 0) (σ := [some (.ref t), some (.int e), some (.ref l), some (.ref y), some (.int (s0.beg + 8640)), none]) (ev_var rfl) (hs.mono e14) hl H4 (Ex.refl _) _ fun p H5 np e5 hp => ?_
      obtain ⟨ps, hp1, hp2⟩ := hp
      have hl5 : H5 l = some (.lst []) := e5 _ _ (e4 _ _ (e3 _ _ (e2 _ _ hl1)))
      have npl : p ≠ l := fun z => by rw [z, e4 _ _ (e3 _ _ (e2 _ _ hl1))] at np; cases np
      have hw := weekly_len ss
      refine ⟨p, rfl, ⟨_, sq_of hp1⟩, for_objs (F := AtS a) (as := ps) (xs := weeklyRests ss) (fun pre σ H' => (∃ v, σ = [some (.ref t), some (.int e), some (.ref l), some (.ref y), some (.int (pre.foldl lateStep ([], s0.beg + 8640)).2), v]) ∧ FB (AtB a) H l (pre.foldl lateStep ([], s0.beg + 8640)).1 H' ∧ But l H5 H')
        ⟨⟨_, rfl⟩, FB.start (e14.trans e5) nl hl5, But.refl _ _⟩ (fun pre σ H' ⟨_, I, bt⟩ => ⟨bt.sq npl hp1, hp2.mono fun b s h => h.kp (bt.kp hl5)⟩) ?_ ?_⟩
      · rintro pre one post c σ H6 hsp ⟨⟨v, rfl⟩, I, bt⟩ hc
        have hpre : pre.length < (weeklyRests ss).length := by rw [hsp, List.length_append, List.length_cons]; omega
        have hfl := lates_len pre (s0.beg + 8640)
        have est : (pre ++ [one]).foldl lateStep ([], s0.beg + 8640) = lateStep (pre.foldl lateStep ([], s0.beg + 8640)) one := fold_snoc _ _ _ _
        generalize (pre ++ [one]).foldl lateStep ([], s0.beg + 8640) = st' at est ⊢
        generalize pre.foldl lateStep ([], s0.beg + 8640) = st at est I hfl ⊢
        unfold lateStep at est
        refine q_when (et_test (ev_op (ev_S_begin T (ev_var rfl) hc) (ev_var rfl) rv_I0)) (fun h5 H7 e7 => ?_) fun h5 H7 e7 => ?_
        · rw [if_pos (show one.beg > st.2 from of_decide_eq_true h5)] at est
          have hc7 := hc.mono e7
          refine s_found (x := (⟨st.2, 5, one.beg - st.2⟩ : B)) (stB a) (I.mono (stB a) e7) (ev_var rfl) (en_B (ev_var rfl) ev_c (ev_op (ev_S_begin T (ev_var rfl) hc7) (ev_var rfl) rv_I0)) (by omega) fun H8 I8 b8 => ?_
          obtain ⟨bs7, hb7, _⟩ := (I.mono (stB a) e7).lo
          refine s_asg (ev_op (ev_S_end T (ev_var rfl) (hc7.kp (b8.kp hb7))) ev_c rv_I0) fun H9 e9 => ?_
          subst est
          exact ⟨⟨_, rfl⟩, I8.mono (stB a) e9, ((bt.trans (.of e7)).trans b8).trans (.of e9)⟩
        · rw [if_neg (show ¬ one.beg > st.2 from of_decide_eq_false h5)] at est
          refine s_asg (ev_op (ev_S_end T (ev_var rfl) (hc.mono e7)) ev_c rv_I0) fun H9 e9 => ?_
          subst est
          exact ⟨⟨_, rfl⟩, I.mono (stB a) (e7.trans e9), (bt.trans (.of e7)).trans (.of e9)⟩
      · rintro σ H6 ⟨⟨v, rfl⟩, I, bt⟩
        have hfl := lates_len (weeklyRests ss) (s0.beg + 8640)
        generalize (weeklyRests ss).foldl lateStep ([], s0.beg + 8640) = st at I q hfl ⊢
        unfold lateEnd at q
        refine q_when (et_test (ev_op (ev_var rfl) (ev_var rfl) rv_I0)) (fun h5 H7 e7 => ?_) fun h5 H7 e7 => ?_
        · rw [if_pos (show e > st.2 from of_decide_eq_true h5)] at q
          refine s_found (x := (⟨st.2, 5, e - st.2⟩ : B)) (stB a) (I.mono (stB a) e7) (ev_var rfl) (en_B (ev_var rfl) ev_c (ev_op (ev_var rfl) (ev_var rfl) rv_I0)) (by omega) fun H8 I8 b8 => ?_
          exact s_ret (ev_var rfl) fun H9 e9 => q l H9 nl (I8.ex.trans e9) (I8.mono (stB a) e9).lo
        · rw [if_neg (show ¬ e > st.2 from of_decide_eq_false h5)] at q
          exact s_ret (ev_var rfl) fun H9 e9 => q l H9 nl ((I.ex.trans e7).trans e9) (I.mono (stB a) (e7.trans e9)).lo
/-! ### rule 6 -/
theorem cut1 (xs : List V) : cutV xs (some 1) none = xs.drop 1 := by
  cases xs with
  | nil => rfl
  | cons x r => exact cut_nat (x :: r) 1 (by rw [List.length_cons]; omega)
theorem pairStep_len (e : Int) (acc : List B) (x : S × S) : (pairStep e acc x).length ≤ acc.length + 1 := by
  unfold pairStep
  split
  · rw [List.length_append]; exact Nat.le_refl _
  · exact Nat.le_succ _
theorem pairs_lenB (l : List (S × S)) (e : Int) : (l.foldl (pairStep e) []).length ≤ l.length := by
  have q := fold_len (pairStep e) (fun st => st.length) 1 (pairStep_len e) l []
  try dsimp only at q
  rw [show ([] : List B).length = 0 from rfl] at q
  omega
theorem pairB_len (l : List S) (e : Int) : (pairB l e).length ≤ l.length := by
  unfold pairB
  have q := pairs_lenB ((weeklyRests l).zip ((weeklyRests l).drop 1)) e
  have w := weekly_len l
  rw [List.length_zip, List.length_drop] at q
  omega
def spPairB (K : PySem.W.Frag) (a : Ad) : Sp := fun vs H Q _ => ∃ t ss e, vs = [.ref t, .int e] ∧ SL K a H t ss ∧ ss.length ≤ 400 ∧ ∀ p H1, H p = none → Ex H H1 → LO (AtB a) H1 p (pairB ss e) → Q (.ref p) H1
theorem ok_pair_breaches (T : Txt K mg a) : CallP P w K mg base CX0 4 "pair_breaches" P_pair_breaches (spPairB K a) := by
  refine T.f_pair_breaches.ok sc_pair_breaches (fun vs H Q E h => ?_) fun f cdv A outer s H vs Q E hr h => ?_
  · obtain ⟨_, _, _, rfl, _⟩ := h
    rfl
  · obtain ⟨t, ss, e, rfl, hs, hl, q⟩ := h
    refine ⟨_, (pss_cons (ps_set (i := 2) sc_pair_breaches.nd rfl (Or.inl rfl) (pe_lst pa_nil))
    (pss_cons (ps_set (i := 3) sc_pair_breaches.nd rfl (Or.inl rfl) (pe_callP (ok_weekly_rests T) (hr.mono (by decide)) rfl pass0 (pa_cons (pv 0) pa_nil)))
    (pss_cons (ps_for PassesOwn.never rfl (pi_zip (by rfl) T.b_zip (pa_cons (pv 3) (pa_cons (pe_slice sl_list (pv 3) (po_some pe_int) po_none) pa_nil))) (pg_tup rfl (pgs_cons (pg_name (i := 4) sc_pair_breaches.nd rfl (Or.inl rfl)) (pgs_cons (pg_name (i := 5) sc_pair_breaches.nd rfl (Or.inl rfl)) pgs_nil)))
    (pss_one (ps_if (PW.pt (pw_and (pt_val (pe_callP (ok_is_short T) (hr.mono (by decide)) rfl pass0 (pa_cons (pv 4) (pa_cons (pv 1) pa_nil)))) (pw_and1 (pt_val (pe_callP (ok_is_short T) (hr.mono (by decide)) rfl pass0 (pa_cons (pv 5) (pa_cons (pv 1) pa_nil))))))) (pss_one (ps_expr (pe_bm PySem.F.plainAttrs_list PySem.F.slot_list_append PySem.F.type_list_append mt_append (pv 2) (pa_cons (pe_makeP (ok_B_init T) T.g_B (hr.mono (by decide)) rfl pass0 (pa_cons (pe_fld (pv 5) rfl) (pa_cons pe_int (pa_cons (pe_op op_sub (pe_gi T.c_WHOLE_weeks rfl) (pe_methP0 (pv 5) T.cl_S (ok_S_minutes T) (hr.mono (by decide)) pass0)) pa_nil)))) pa_nil)))) pss_nil)))
    (pss_one (ps_ret (pv 2)))))), ?_⟩
    refine q_asgL (el_lst ea_nil (by show 0 ≤ 100000; decide)) fun l H1 nl e1 hl1 => ?_
    refine q_asgN (en_weekly (ev_var rfl) (hs.mono e1) hl) fun p H2 np e2 hp => ?_
    obtain ⟨ps, hp1, hp2⟩ := hp
    have npl : p ≠ l := fun z => by rw [z, hl1] at np; cases np
    refine ⟨.ref p, rfl, .ref p, rfl, 1, rfl, p, _, rfl, sq_of hp1, fun r nr => ?_⟩
    have e4 : Ex H2 (upd H2 r (.lst (cutV (refs ps) (some 1) none))) := Ex.new nr
    have hr4 : (upd H2 r (.lst (cutV (refs ps) (some 1) none))) r = some (.lst (refs (ps.drop 1))) := by rw [upd_same, cut1, ← List.map_drop]
    have hl3 : H2 l = some (.lst []) := e2 _ _ hl1
    have nrl : r ≠ l := fun z => by rw [z, hl3] at nr; cases nr
    show ∃ a b xs ys, [V.ref p, V.ref r] = [.ref a, .ref b] ∧ _
    generalize upd H2 r (.lst (cutV (refs ps) (some 1) none)) = H4 at e4 hr4 ⊢
    have e14 := (e1.trans e2).trans e4
    have hl4 := e4 _ _ hl3
    have hp4 := e4 _ _ hp1
    have hall : All2 (AtS a H4) ps (weeklyRests ss) := hp2.mono fun b s h => h.mono e4
    have hw := weekly_len ss
    refine ⟨p, r, _, _, rfl, sq_of hp4, sq_of hr4, for_zipO (F := AtS a) (as := ps) (bs := ps.drop 1) (xs := weeklyRests ss) (ys := (weeklyRests ss).drop 1) (by rw [List.length_drop]; omega)
      (fun i σ H' => (∃ v4 v5, σ = [some (.ref t), some (.int e), some (.ref l), some (.ref p), v4, v5]) ∧ FB (AtB a) H l ((((weeklyRests ss).zip ((weeklyRests ss).drop 1)).take i).foldl (pairStep e) []) H' ∧ But l H4 H')
      ⟨⟨_, _, rfl⟩, FB.start e14 nl hl4, But.refl _ _⟩ (fun i σ H' ⟨_, I, bt⟩ => ⟨⟨bt.sq npl hp4, hall.mono fun b s h => h.kp (bt.kp hl4)⟩, bt.sq nrl hr4, (hall.drop 1).mono fun b s h => h.kp (bt.kp hl4)⟩) ?_ ?_⟩
    · rintro i one other c d T0 σ H5 hi hi2 ⟨⟨v4, v5, rfl⟩, I, bt⟩ hc hd nT
      have eT : Ex H5 (upd H5 T0 (.tup [.ref c, .ref d])) := Ex.new nT
      refine ⟨T0, _, rfl, st_of upd_same, rfl, _, _, rfl, _, _, rfl, rfl, ?_⟩
      have hz : ((weeklyRests ss).zip ((weeklyRests ss).drop 1))[i]? = some (one, other) := by
        rw [List.getElem?_zip_eq_some]
        exact ⟨hi, hi2⟩
      have est : ((((weeklyRests ss).zip ((weeklyRests ss).drop 1)).take (i + 1)).foldl (pairStep e) []) = if (isShort one e && isShort other e) = true then (((weeklyRests ss).zip ((weeklyRests ss).drop 1)).take i).foldl (pairStep e) [] ++ [⟨other.beg, 6, 2700 - other.minutes⟩] else (((weeklyRests ss).zip ((weeklyRests ss).drop 1)).take i).foldl (pairStep e) [] := by
        rw [List.take_add_one, hz]
        exact fold_snoc _ _ _ _
      have hfl := pairs_lenB (((weeklyRests ss).zip ((weeklyRests ss).drop 1)).take i) e
      have hzl : (((weeklyRests ss).zip ((weeklyRests ss).drop 1)).take i).length ≤ 400 := by
        rw [List.length_take, List.length_zip]
        omega
      have I5 := I.mono (stB a) eT
      have hc5 := hc.mono eT
      have hd5 := hd.mono eT
      refine s_when (et_and (et_B (ev_is_short (ev_var rfl) (ev_var rfl) hc5)) fun _ => et_B (ev_is_short (ev_var rfl) (ev_var rfl) hd5)) (fun h5 H7 e7 => ?_) fun h5 H7 e7 => ?_
      · rw [if_pos h5] at est
        have hd7 := hd5.mono e7
        refine s_found (x := (⟨other.beg, 6, 2700 - other.minutes⟩ : B)) (stB a) (I5.mono (stB a) e7) (ev_var rfl) (en_B (ev_S_begin T (ev_var rfl) hd7) ev_c (ev_op ev_c (ev_S_minutes (ev_var rfl) hd7) rv_I0)) (by omega) fun H8 I8 b8 => ?_
        refine ⟨⟨_, _, rfl⟩, ?_, (bt.trans (.of (eT.trans e7))).trans b8⟩
        rw [est]
        exact I8
      · rw [if_neg (by rw [h5]; exact Bool.false_ne_true)] at est
        refine ⟨⟨_, _, rfl⟩, ?_, bt.trans (.of (eT.trans e7))⟩
        rw [est]
        exact I5.mono (stB a) e7
    · rintro σ H5 ⟨⟨v4, v5, rfl⟩, I, bt⟩
      have ez : (((weeklyRests ss).zip ((weeklyRests ss).drop 1)).take ((weeklyRests ss).drop 1).length) = (weeklyRests ss).zip ((weeklyRests ss).drop 1) := List.take_of_length_le (by
        rw [List.length_zip]
        omega)
      rw [ez] at I
      exact s_ret (ev_var rfl) fun H6 e6 => q l H6 nl (I.ex.trans e6) (I.mono (stB a) e6).lo
end
end Dv
namespace Dv
open PySem PySem.Spec PyProof.Rows L2 Evl
section
variable {P : Program} {w : World} {K : PySem.W.Frag} {mg : Str → Option Value} {base : Heap} {a : Ad} {σ : L2.St} {H H' : Hp} {ta tb te tx td ty tv : TE} {x b t l : Addr} {E : XK} {ss : List S}
/-! ### Lack -/
def lackF (l : L) : List (Str × V) := [("amount", .int l.amount), ("deadline", .int l.deadline), ("is_open", .bl l.opn)]
def AtL (a : Ad) (H : Hp) (x : Addr) (l : L) : Prop := ∃ dx, H x = some (.ins a.cL dx (lackF l))
theorem AtL.kp {l : L} (h : AtL a H x l) (e : Kp H H') : AtL a H' x l := by
  obtain ⟨dx, h⟩ := h
  exact ⟨dx, e _ _ h rfl⟩
theorem AtL.mono {l : L} (h : AtL a H x l) (e : Ex H H') : AtL a H' x l := h.kp (.of e)
theorem stL (a : Ad) : Stable (AtL a) := fun _ _ _ _ h e => h.kp e
theorem lackF_amount (s : L) : (lackF s).lookup ("amount" : Str) = some (.int s.amount) := lk_here
theorem lackF_deadline (s : L) : (lackF s).lookup ("deadline" : Str) = some (.int s.deadline) := (lk_past (by decide +kernel)).trans lk_here
theorem lackF_open (s : L) : (lackF s).lookup ("is_open" : Str) = some (.bl s.opn) := (lk_past (by decide +kernel)).trans ((lk_past (by decide +kernel)).trans lk_here)
theorem lackF_put (s : L) (n : Bool) : putF "is_open" (.bl n) (lackF s) = lackF ⟨s.amount, s.deadline, n⟩ := (put_past (by decide +kernel)).trans (congrArg _ ((put_past (by decide +kernel)).trans (congrArg _ put_here)))
theorem lackF_new (k b : Int) : putF "is_open" (.bl true) (putF "deadline" (.int b) (putF "amount" (.int k) [])) = lackF ⟨k, b, true⟩ := by
  rw [put_nil, put_past (by decide +kernel), put_nil, put_past (by decide +kernel), put_past (by decide +kernel), put_nil]
  rfl
theorem S_ne_L {s : S} {l : L} {y : Addr} (h : AtS a H y s) (g : AtL a H x l) : y ≠ x := fun z => by
  obtain ⟨dx, h⟩ := h
  obtain ⟨d, g⟩ := g
  rw [z, g] at h
  have q := (HO.ins.inj (Option.some.inj h)).2.2
  have q2 : ("amount" : Str) = "kind" := (Prod.mk.inj (List.cons.inj q).1).1
  exact absurd q2 (by decide +kernel)
theorem ev_L_amount {s : L} (T : Txt K mg a) (h : Ev ta σ H (.ref x)) (q : AtL a H x s) : Ev (tFld K ta "amount") σ H (.int s.amount) := by
  obtain ⟨dx, q⟩ := q
  exact ev_fld h q T.cl_L T.na_L_amount (lackF_amount s)
theorem ev_L_deadline {s : L} (T : Txt K mg a) (h : Ev ta σ H (.ref x)) (q : AtL a H x s) : Ev (tFld K ta "deadline") σ H (.int s.deadline) := by
  obtain ⟨dx, q⟩ := q
  exact ev_fld h q T.cl_L T.na_L_deadline (lackF_deadline s)
theorem ev_L_open {s : L} (T : Txt K mg a) (h : Ev ta σ H (.ref x)) (q : AtL a H x s) : Ev (tFld K ta "is_open") σ H (.bl s.opn) := by
  obtain ⟨dx, q⟩ := q
  exact ev_fld h q T.cl_L T.na_L_is_open (lackF_open s)
def spL_init (a : Ad) : Sp := fun vs H Q _ => ∃ x dx k b, vs = [.ref x, .int k, .int b] ∧ H x = some (.ins a.cL dx []) ∧ Q .non (upd H x (.ins a.cL dx (lackF ⟨k, b, true⟩)))
theorem ok_L_init (T : Txt K mg a) : MakeP P w K mg base CX0 1 a.cL P_L_init (spL_init a) := by
  refine T.i_L.ok sc_L_init (fun vs H Q E h => ?_) fun f cdv A outer s H vs Q E hr h => ?_
  · obtain ⟨_, _, _, _, rfl, _⟩ := h
    rfl
  · obtain ⟨x, dx, k, b, rfl, hx, q⟩ := h
    refine ⟨_, (pss_cons (ps_fld (pv 0) (pv 1) rfl)
    (pss_cons (ps_fld (pv 0) (pv 2) rfl)
    (pss_one (ps_fld (pv 0) pe_bl rfl)))), ?_⟩
    refine ⟨_, rfl, _, rfl, x, a.cL, dx, [], rfl, hx, T.cl_L, T.na_L_amount, (by show 0 < 1000; decide), ?_⟩
    refine ⟨_, rfl, _, rfl, x, a.cL, dx, _, rfl, upd_same, T.cl_L, T.na_L_deadline, (by show 1 < 1000; decide), ?_⟩
    refine ⟨_, rfl, x, a.cL, dx, _, rfl, upd_same, T.cl_L, T.na_L_is_open, (by show 2 < 1000; decide), ?_⟩
    rw [upd_upd, upd_upd, lackF_new]
    exact q
theorem spI_L {k b : Int} : SpI (spL_init a) a.cL [.int k, .int b] H (lackF ⟨k, b, true⟩) := fun H1 _ Q x dx E h q => ⟨x, dx, k, b, rfl, h, q⟩
theorem en_L {k b : Int} {t1 t2 : TE} (h1 : Ev t1 σ H (.int k)) (h2 : Ev t2 σ H (.int b)) : EvN (tMake a.cL (spL_init a) [] E (tCons t1 (tCons t2 tNil))) σ H fun p H2 => AtL a H2 p ⟨k, b, true⟩ :=
  en_make (ea_cons h1 (ea_cons h2 ea_nil)) spI_L
/-! ### rule 7 -/
def spSpared (K : PySem.W.Frag) (a : Ad) : Sp := fun vs H Q _ => ∃ x s, vs = [.ref x] ∧ AtS a H x s ∧ ∀ H1, Ex H H1 → Q (.int (spared s)) H1
theorem ok_spared (T : Txt K mg a) : CallP P w K mg base CX0 2 "spared" P_spared (spSpared K a) := by
  refine T.f_spared.ok sc_spared (fun vs H Q E h => ?_) fun f cdv A outer s H vs Q E hr h => ?_
  · obtain ⟨_, _, rfl, _⟩ := h
    rfl
  · obtain ⟨x, s, rfl, hx, q⟩ := h
    refine ⟨_, (pss_cons (ps_if (pt_cmpR op_ge (pe_methP0 (pv 0) T.cl_S (ok_S_minutes T) (hr.mono (by decide)) pass0) (pe_gi T.c_WHOLE_weeks rfl) (nomark _)) (pss_one (ps_ret (pe_op op_sub (pe_methP0 (pv 0) T.cl_S (ok_S_minutes T) (hr.mono (by decide)) pass0) (pe_gi T.c_WHOLE_weeks rfl)))) pss_nil)
    (pss_cons (ps_if (pt_cmpR op_lt (pe_methP0 (pv 0) T.cl_S (ok_S_minutes T) (hr.mono (by decide)) pass0) (pe_gi T.c_WEEKLY_weeks rfl) (nomark _)) (pss_one (ps_ret (pe_op op_sub (pe_methP0 (pv 0) T.cl_S (ok_S_minutes T) (hr.mono (by decide)) pass0) (pe_gi T.c_DAILY rfl)))) pss_nil)
    (pss_one (ps_ret pe_int)))), ?_⟩
    unfold spared at q
    refine q_when (et_test (ev_op (ev_S_minutes (ev_var rfl) hx) ev_c rv_I0)) (fun hc H1 e1 => ?_) fun hc H1 e1 => ?_
    · rw [if_pos (show s.minutes ≥ 2700 from of_decide_eq_true hc)] at q
      exact s_ret (ev_op (ev_S_minutes (ev_var rfl) (hx.mono e1)) ev_c rv_I0) fun H2 e2 => q H2 (e1.trans e2)
    · rw [if_neg (show ¬ s.minutes ≥ 2700 from of_decide_eq_false hc)] at q
      refine q_when (et_test (ev_op (ev_S_minutes (ev_var rfl) (hx.mono e1)) ev_c rv_I0)) (fun hc2 H2 e2 => ?_) fun hc2 H2 e2 => ?_
      · rw [if_pos (of_decide_eq_true hc2)] at q
        exact s_ret (ev_op (ev_S_minutes (ev_var rfl) (hx.mono (e1.trans e2))) ev_c rv_I0) fun H3 e3 => q H3 ((e1.trans e2).trans e3)
      · rw [if_neg (of_decide_eq_false hc2)] at q
        exact s_ret ev_c fun H3 e3 => q H3 ((e1.trans e2).trans e3)
theorem ev_spared {s : S} (h : Ev ta σ H (.ref x)) (q : AtS a H x s) : Ev (tCall (spSpared K a) [] E (tCons ta tNil)) σ H (.int (spared s)) :=
  ev_call (ea_cons h ea_nil) fun H1 e' Q k _ => ⟨x, s, rfl, q.mono e', k⟩
theorem makeUp_hit (s : S) : ∀ (pre : List L) (x : L) (post : List L), (∀ y ∈ pre, y.pays s = false) → x.pays s = true → makeUp s (pre ++ x :: post) = pre ++ ⟨x.amount, x.deadline, false⟩ :: post
  | [], x, post, _, h => if_pos h
  | y :: pre, x, post, hp, h => by
    show (if y.pays s = true then _ else y :: makeUp s (pre ++ x :: post)) = _
    rw [if_neg (by rw [hp y List.mem_cons_self]; exact Bool.false_ne_true), makeUp_hit s pre x post (fun z hz => hp z (List.mem_cons_of_mem _ hz)) h]
    rfl
theorem makeUp_miss (s : S) : ∀ (pre : List L), (∀ y ∈ pre, y.pays s = false) → makeUp s pre = pre
  | [], _ => rfl
  | y :: pre, hp => by
    show (if y.pays s = true then _ else y :: makeUp s pre) = _
    rw [if_neg (by rw [hp y List.mem_cons_self]; exact Bool.false_ne_true), makeUp_miss s pre fun z hz => hp z (List.mem_cons_of_mem _ hz)]
theorem makeUp_len (s : S) : ∀ (ls : List L), (makeUp s ls).length = ls.length
  | [] => rfl
  | y :: ls => by
    unfold makeUp
    split
    · rfl
    · exact congrArg (· + 1) (makeUp_len s ls)
/-- walked, the place in the list of addresses told too -/
theorem for_objsI {α : Type} {F : Hp → Addr → α → Prop} {K : PySem.W.Frag} {a : Addr} {as : List Addr} {xs : List α} {g : TG} {tb : TS} {D : Ends} {σ : L2.St} {H : Hp} (Pv : List α → L2.St → Hp → Prop) (h0 : Pv [] σ H)
    (hl : ∀ pre σ H, Pv pre σ H → SqL K H a (refs as) ∧ All2 (F H) as xs)
    (hs : ∀ pre x post as1 b as2 σ H, xs = pre ++ x :: post → as = as1 ++ b :: as2 → Pv pre σ H → All2 (F H) as1 pre → F H b x → All2 (F H) as2 post → g (.ref b) σ H fun σ2 H2 => tb { D with nx := Pv (pre ++ [x]), ct := Pv (pre ++ [x]), bk := D.nx } σ2 H2) (hd : ∀ σ H, Pv xs σ H → D.nx σ H) :
    ∃ W : Nat → Nat → L2.St → Hp → Prop, (∃ m, W 0 m σ H) ∧ ∀ i m σ H, W i m σ H →
      ((Itl K a).stop i H ∧ D.nx σ H) ∨ ((Itl K a).go i H ∧ ∃ N : L2.St → Hp → Prop, (∀ σ' H', N σ' H' → ∃ m', m' < m ∧ W (i + 1) m' σ' H') ∧ ∀ x H', (Itl K a).yld i H x H' → g x σ H' fun σ2 H2 => tb { D with nx := N, ct := N, bk := D.nx } σ2 H2) := by
  have len : as.length = xs.length := (hl [] σ H h0).2.len
  refine for_list (K := K) (a := a) (xs := refs as) (fun i σ H => Pv (xs.take i) σ H) (by rw [List.take_zero]; exact h0) (fun i σ H _ p => (hl _ _ _ p).1) (fun i v σ H hi p => ?_) (fun σ H p => hd σ H ?_)
  · have hil : i < xs.length := by
      have := (List.getElem?_eq_some_iff.mp hi).1
      rw [refs_len, len] at this
      exact this
    have hx : xs[i]? = some xs[i] := List.getElem?_eq_getElem hil
    have hall := (hl _ _ _ p).2
    obtain ⟨b, hb, hF⟩ := hall.get hx
    have ev : v = .ref b := by
      rw [List.getElem?_map, hb] at hi
      exact (Option.some.inj hi).symm
    subst ev
    have e1 : xs = xs.take i ++ xs[i] :: xs.drop (i + 1) := by
      rw [List.getElem_cons_drop, List.take_append_drop]
    have e2 : xs.take (i + 1) = xs.take i ++ [xs[i]] := by
      rw [List.take_add_one, hx]
      rfl
    have hia : i < as.length := by omega
    have eb : as[i] = b := by
      rw [List.getElem?_eq_getElem hia] at hb
      exact Option.some.inj hb
    have e3 : as = as.take i ++ b :: as.drop (i + 1) := by
      rw [← eb, List.getElem_cons_drop, List.take_append_drop]
    rw [e2]
    exact hs _ _ _ _ b _ σ H e1 e3 p (hall.take i) hF (hall.drop (i + 1))
  · rw [refs_len, len, List.take_length] at p
    exact p
def spMakeUp (K : PySem.W.Frag) (a : Ad) : Sp := fun vs H Q _ => ∃ (p y : Addr) (as : List Addr) (ls : List L) (s : S), vs = [.ref p, .ref y] ∧ H p = some (.lst (refs as)) ∧ All2 (AtL a H) as ls ∧ as.Nodup ∧ AtS a H y s ∧
  ∀ H1, H1 p = some (.lst (refs as)) → All2 (AtL a H1) as (makeUp s ls) → (∀ c o, H c = some o → c ∉ as → H1 c = some o) → Q .non H1
theorem ok_make_up (T : Txt K mg a) : CallP P w K mg base CX0 3 "make_up" P_make_up (spMakeUp K a) := by
  refine T.f_make_up.ok sc_make_up (fun vs H Q E h => ?_) fun f cdv A outer s H vs Q E hr h => ?_
  · obtain ⟨_, _, _, _, _, rfl, _⟩ := h
    rfl
  · obtain ⟨p, y, as, ls, s, rfl, hp, hall, nd, hy, q⟩ := h
    refine ⟨_, (pss_one (ps_for PassesOwn.never rfl (pi_list (pv 0)) (pg_name (i := 2) sc_make_up.nd rfl (Or.inl rfl))
    (pss_one (ps_if (PW.pt (pw_and (pt_val (pe_fld (pv 2) rfl)) (pw_and (pt_cmpR op_le (pe_fld (pv 2) rfl) (pe_callP (ok_spared T) (hr.mono (by decide)) rfl pass0 (pa_cons (pv 1) pa_nil)) (nomark _)) (pw_and1 (pt_cmpR op_le (pe_op op_add (pe_fld (pv 1) rfl) (pe_fld (pv 2) rfl)) (pe_fld (pv 2) rfl) (nomark _)))))) (pss_cons (ps_fld (pv 2) pe_bl rfl)
    (pss_one ps_retN)) pss_nil)))), ?_⟩
    refine ⟨_, rfl, p, rfl, ⟨_, sq_of hp⟩, for_objsI (F := AtL a) (as := as) (xs := ls) (fun pre σ H' => (∃ v, σ = [some (.ref p), some (.ref y), v]) ∧ Ex H H' ∧ ∀ z ∈ pre, z.pays s = false) ⟨⟨_, rfl⟩, Ex.refl H, fun z hz => by cases hz⟩
      (fun pre σ H' ⟨_, e, _⟩ => ⟨sq_of (e _ _ hp), hall.mono fun b l h => h.mono e⟩) ?_ ?_⟩
    · rintro pre lk post as1 b as2 σ H1 hsp hsa ⟨⟨v, rfl⟩, e1, hpre⟩ h1 hb h2
      have hy1 := hy.mono e1
      refine s_when (b := lk.pays s) (et_and (et_B (ev_L_open T (ev_var rfl) hb)) fun _ => et_and (et_test (ev_op (ev_L_amount T (ev_var rfl) hb) (ev_spared (ev_var rfl) hy1) rv_I0)) fun _ => et_test (ev_op (ev_op (ev_S_begin T (ev_var rfl) hy1) (ev_L_amount T (ev_var rfl) hb) rv_I0) (ev_L_deadline T (ev_var rfl) hb) rv_I0)) (fun hc H2 e2 => ?_) fun hc H2 e2 => ?_
      · obtain ⟨dx, hb⟩ := hb
        refine q_fld ev_c (ev_var rfl) (e2 _ _ hb) T.cl_L T.na_L_is_open (by show 3 < 1000; decide) fun H3 e3 => ?_
        rw [lackF_put]
        rw [hsa] at nd
        obtain ⟨nd1, nd2, nd3⟩ := List.nodup_append.mp nd
        obtain ⟨nd4, nd5⟩ := List.nodup_cons.mp nd2
        have e13 := (e1.trans e2).trans e3
        refine q _ ?_ ?_ fun c o hc hn => ?_
        · have ne : p ≠ b := fun z => by
            have g := (e1 _ _ hp)
            rw [z, hb] at g
            cases g
          rw [upd_ne ne]
          exact e13 _ _ hp
        · rw [hsp, makeUp_hit s pre lk post hpre hc, hsa]
          refine All2.app (h1.monoM fun c l2 hc ⟨dc, hl⟩ => ⟨dc, ?_⟩) ⟨⟨dx, upd_same⟩, h2.monoM fun c l2 hc ⟨dc, hl⟩ => ⟨dc, ?_⟩⟩
          · rw [upd_ne (nd3 c hc b List.mem_cons_self)]
            exact (e2.trans e3) _ _ hl
          · rw [upd_ne (fun z => nd4 (by rw [← z]; exact hc))]
            exact (e2.trans e3) _ _ hl
        · have ne : c ≠ b := fun z => hn (by rw [z, hsa]; simp)
          rw [upd_ne ne]
          exact e13 _ _ hc
      · refine ⟨⟨_, rfl⟩, e1.trans e2, fun z hz => ?_⟩
        rcases List.mem_append.mp hz with m | m
        · exact hpre z m
        · have ez : z = lk := by simpa using m
          rw [ez]
          exact hc
    · rintro σ H1 ⟨⟨v, rfl⟩, e1, hpre⟩
      refine q H1 (e1 _ _ hp) ?_ fun c o hc _ => e1 _ _ hc
      rw [makeUp_miss s ls hpre]
      exact hall.mono fun b l h => h.mono e1
structure LkInv (a : Ad) (H0 : Hp) (l p : Addr) (ps : List Addr) (H1 : Hp) (as : List Addr) (ls : List L) (H : Hp) : Prop where
  ex : Ex H0 H
  at_ : H l = some (.lst (refs as))
  all : All2 (AtL a H) as ls
  nd : as.Nodup
  new : ∀ b ∈ as, H0 b = none
  keepS : ∀ b s, AtS a H1 b s → AtS a H b s
  lp : H p = some (.lst (refs ps))
section
variable {H0 H1 : Hp} {p : Addr} {ps as : List Addr} {ls : List L}
theorem LkInv.mono (I : LkInv a H0 l p ps H1 as ls H) (e : Ex H H') : LkInv a H0 l p ps H1 as ls H' :=
  ⟨I.ex.trans e, e _ _ I.at_, I.all.mono fun b d h => h.mono e, I.nd, I.new, fun b s h => (I.keepS b s h).mono e, e _ _ I.lp⟩
theorem LkInv.app (I : LkInv a H0 l p ps H1 as ls H) (nl : H0 l = none) (npl : p ≠ l) {H2 : Hp} {q : Addr} {d : L} (e : Ex H H2) (nq : H q = none) (hq : AtL a H2 q d) :
    LkInv a H0 l p ps H1 (as ++ [q]) (ls ++ [d]) (upd H2 l (.lst (refs as ++ [.ref q]))) := by
  have kp : Kp H2 (upd H2 l (.lst (refs as ++ [.ref q]))) := (Kp.refl H2).lst (e _ _ I.at_)
  refine ⟨Ex.upd (I.ex.trans e) nl, (by rw [upd_same, refs_snoc]), All2.snoc (I.all.mono fun b d h => (h.mono e).kp kp) (hq.kp kp), ?_, fun b hb => ?_, fun b s h => ((I.keepS b s h).mono e).kp kp, ?_⟩
  · refine List.nodup_append.mpr ⟨I.nd, (by simp), fun c hc d hd z => ?_⟩
    have ed : d = q := by simpa using hd
    rw [ed] at z
    obtain ⟨d2, dx, hc2⟩ := All2.mem I.all c hc
    rw [z, nq] at hc2
    cases hc2
  · rcases List.mem_append.mp hb with m | m
    · exact I.new b m
    · have e2 : b = q := by simpa using m
      rw [e2]
      exact fresh_back I.ex nq
  · rw [upd_ne npl]
    exact e _ _ I.lp
/-- the lacks themselves have changed -/
theorem LkInv.turn {ls' : List L} (I : LkInv a H0 l p ps H1 as ls H) (h1 : H' l = some (.lst (refs as))) (h2 : All2 (AtL a H') as ls') (k : ∀ c o, H c = some o → c ∉ as → H' c = some o) : LkInv a H0 l p ps H1 as ls' H' := by
  refine ⟨fun c o h => k c o (I.ex c o h) fun m => ?_, h1, h2, I.nd, I.new, fun b s h => ?_, k _ _ I.lp fun m => ?_⟩
  · rw [I.new c m] at h
    cases h
  · have hb := I.keepS b s h
    obtain ⟨d, hb'⟩ := id hb
    refine ⟨d, k _ _ hb' fun m => ?_⟩
    obtain ⟨l2, hl2⟩ := All2.mem I.all b m
    exact S_ne_L hb hl2 rfl
  · obtain ⟨l2, dx, hl2⟩ := All2.mem I.all p m
    rw [I.lp] at hl2
    cases hl2
end
theorem lackStep_len (e : Int) (ls : List L) (s : S) : (lackStep e ls s).length ≤ ls.length + 1 := by
  unfold lackStep
  split
  · split
    · rw [List.length_append, makeUp_len]; exact Nat.le_refl _
    · rw [makeUp_len]; exact Nat.le_succ _
  · exact Nat.le_succ _
theorem lacks_len (l : List S) (e : Int) : (l.foldl (lackStep e) []).length ≤ l.length := by
  have q := fold_len (lackStep e) (fun st => st.length) 1 (lackStep_len e) l []
  try dsimp only at q
  rw [show ([] : List L).length = 0 from rfl] at q
  omega
theorem lacksOf_len (l : List S) (e : Int) : (lacksOf l e).length ≤ l.length := Nat.le_trans (lacks_len _ e) (behind_len l)
def spLacksOf (K : PySem.W.Frag) (a : Ad) : Sp := fun vs H Q _ => ∃ t ss e, vs = [.ref t, .int e] ∧ SL K a H t ss ∧ ss.length ≤ 400 ∧ ∀ p H1, H p = none → Ex H H1 → LO (AtL a) H1 p (lacksOf ss e) → Q (.ref p) H1
theorem ok_lacks_of (T : Txt K mg a) : CallP P w K mg base CX0 4 "lacks_of" P_lacks_of (spLacksOf K a) := by
  refine T.f_lacks_of.ok sc_lacks_of (fun vs H Q E h => ?_) fun f cdv A outer s H vs Q E hr h => ?_
  · obtain ⟨_, _, _, rfl, _⟩ := h
    rfl
  · obtain ⟨t, ss, e, rfl, hs, hlen, q⟩ := h
    refine ⟨_, (pss_cons (ps_set (i := 2) sc_lacks_of.nd rfl (Or.inl rfl) (pe_lst pa_nil))
    (pss_cons (ps_for PassesOwn.never rfl (pi_list (pe_callP (ok_behind_work T) (hr.mono (by decide)) rfl pass0 (pa_cons (pv 0) pa_nil))) (pg_name (i := 3) sc_lacks_of.nd rfl (Or.inl rfl))
    (pss_one (ps_if (pt_val (pe_methP (pv 3) T.cl_S (ok_S_is_rest T) (hr.mono (by decide)) pass0 (pa_cons (pe_gi T.c_DAILY rfl) pa_nil))) (pss_cons (ps_expr (pe_callP (ok_make_up T) (hr.mono (by decide)) rfl pass0 (pa_cons (pv 2) (pa_cons (pv 3) pa_nil))))
    (pss_one (ps_if (PW.pt (pw_and (pt_val (pe_methP (pv 3) T.cl_S (ok_S_is_rest T) (hr.mono (by decide)) pass0 (pa_cons (pe_gi T.c_WEEKLY_weeks rfl) pa_nil))) (pw_and1 (pt_val (pe_callP (ok_is_short T) (hr.mono (by decide)) rfl pass0 (pa_cons (pv 3) (pa_cons (pv 1) pa_nil))))))) (pss_cons (ps_set (i := 4) sc_lacks_of.nd rfl (Or.inl rfl) (pe_op op_fdiv (pe_fld (pv 3) rfl) (pe_gi T.c_WEEK rfl)))
    (pss_one (ps_expr (pe_bm PySem.F.plainAttrs_list PySem.F.slot_list_append PySem.F.type_list_append mt_append (pv 2) (pa_cons (pe_makeP (ok_L_init T) T.g_L (hr.mono (by decide)) rfl pass0 (pa_cons (pe_op op_sub (pe_gi T.c_WHOLE_weeks rfl) (pe_methP0 (pv 3) T.cl_S (ok_S_minutes T) (hr.mono (by decide)) pass0)) (pa_cons (pe_op op_mul (pe_op op_add (pv 4) (pe_gi T.c_WEEKS_TO_MAKE_UP rfl)) (pe_gi T.c_WEEK rfl)) pa_nil))) pa_nil))))) pss_nil))) pss_nil)))
    (pss_one (ps_ret (pv 2))))), ?_⟩
    refine q_asgL (el_lst ea_nil (by show 0 ≤ 100000; decide)) fun l H1 nl e1 hl => ?_
    refine en_behind_work (E := E0) (ta := tVar 0) (σ := [some (.ref t), some (.int e), some (.ref l), none, none]) (ev_var rfl) (hs.mono e1) H1 (Ex.refl _) _ fun p H3 np e3 hp => ?_
    obtain ⟨ps, hp1, hp2⟩ := hp
    have npl : p ≠ l := fun z => by rw [z, hl] at np; cases np
    have hbl := behind_len ss
    refine ⟨p, rfl, ⟨_, sq_of hp1⟩, for_objs (F := AtS a) (as := ps) (xs := behindWork ss) (fun pre σ H' => ∃ as v3 v4, σ = [some (.ref t), some (.int e), some (.ref l), v3, v4] ∧ LkInv a H l p ps H3 as (pre.foldl (lackStep e) []) H')
      ⟨[], none, none, rfl, ⟨e1.trans e3, e3 _ _ hl, True.intro, List.nodup_nil, (fun _ h => (by cases h)), fun b s h => h, hp1⟩⟩
      (fun pre σ H' ⟨_, _, _, _, I⟩ => ⟨sq_of I.lp, hp2.mono fun b s h => I.keepS b s h⟩) ?_ ?_⟩
    · rintro pre one post c σ H4 hsp ⟨as, v3, v4, rfl, I⟩ hc
      have hpre : pre.length < ss.length := by
        have := congrArg List.length hsp
        rw [List.length_append, List.length_cons] at this
        omega
      have hll := lacks_len pre e
      have est : (pre ++ [one]).foldl (lackStep e) [] = lackStep e (pre.foldl (lackStep e) []) one := fold_snoc _ _ _ _
      generalize (pre ++ [one]).foldl (lackStep e) [] = st' at est ⊢
      generalize pre.foldl (lackStep e) [] = st at est I hll
      unfold lackStep at est
      refine s_when (et_B (ev_S_is_rest (ev_var rfl) hc ev_c)) (fun h5 H5 e5 => ?_) fun h5 H5 e5 => ?_
      · rw [if_pos h5] at est
        have I5 := I.mono e5
        have hc5 := hc.mono e5
        refine ⟨_, rfl, _, rfl, l, c, as, st, one, rfl, I5.at_, I5.all, I5.nd, hc5, fun H6 g1 g2 g3 => ?_⟩
        have I6 := I5.turn g1 g2 g3
        have hc6 : AtS a H6 c one := by
          obtain ⟨d, hc5⟩ := hc5
          refine ⟨d, g3 _ _ hc5 fun m => ?_⟩
          obtain ⟨l2, hl2⟩ := All2.mem I5.all c m
          exact S_ne_L ⟨d, hc5⟩ hl2 rfl
        refine s_when (et_and (et_B (ev_S_is_rest (ev_var rfl) hc6 ev_c)) fun _ => et_B (ev_is_short (ev_var rfl) (ev_var rfl) hc6)) (fun h6 H7 e7 => ?_) fun h6 H7 e7 => ?_
        · rw [if_pos h6] at est
          refine q_asg (ev_op (ev_S_end T (ev_var rfl) (hc6.mono e7)) ev_c rv_divC) fun H8 e8 => ?_
          have I8 := I6.mono (e7.trans e8)
          have hc8 := hc6.mono (e7.trans e8)
          refine s_appN I8.at_ (ev_var rfl) (en_L (a := a) (k := 2700 - one.minutes) (b := (one.fin / 10080 + 4) * 10080) (ev_op ev_c (ev_S_minutes (ev_var rfl) hc8) rv_I0) (ev_op (ev_op (ev_var rfl) ev_c rv_I0) ev_c rv_mulC)) ?_ fun y H9 ny e9 hy => ?_
          · rw [refs_len, I8.all.len, makeUp_len]
            omega
          · subst est
            exact ⟨_, _, _, rfl, I8.app nl npl e9 ny hy⟩
        · rw [if_neg (by rw [h6]; exact Bool.false_ne_true)] at est
          subst est
          exact ⟨_, _, _, rfl, I6.mono e7⟩
      · rw [if_neg (by rw [h5]; exact Bool.false_ne_true)] at est
        subst est
        exact ⟨_, _, _, rfl, I.mono e5⟩
    · rintro σ H4 ⟨as, v3, v4, rfl, I⟩
      exact s_ret (ev_var rfl) fun H5 e5 => q l H5 nl (I.ex.trans e5) ⟨as, e5 _ _ I.at_, I.all.mono fun b d h => h.mono e5⟩
theorem lackBStep_len (e : Int) (acc : List B) (x : L) : (lackBStep e acc x).length ≤ acc.length + 1 := by
  unfold lackBStep
  split
  · rw [List.length_append]; exact Nat.le_refl _
  · exact Nat.le_succ _
theorem lackBs_len (l : List L) (e : Int) : (l.foldl (lackBStep e) []).length ≤ l.length := by
  have q := fold_len (lackBStep e) (fun st => st.length) 1 (lackBStep_len e) l []
  try dsimp only at q
  rw [show ([] : List B).length = 0 from rfl] at q
  omega
theorem lackB_len (l : List S) (e : Int) : (lackB l e).length ≤ l.length := Nat.le_trans (lackBs_len _ e) (lacksOf_len l e)
def spLackB (K : PySem.W.Frag) (a : Ad) : Sp := fun vs H Q _ => ∃ t ss e, vs = [.ref t, .int e] ∧ SL K a H t ss ∧ ss.length ≤ 400 ∧ ∀ p H1, H p = none → Ex H H1 → LO (AtB a) H1 p (lackB ss e) → Q (.ref p) H1
theorem ok_lack_breaches (T : Txt K mg a) : CallP P w K mg base CX0 5 "lack_breaches" P_lack_breaches (spLackB K a) := by
  refine T.f_lack_breaches.ok sc_lack_breaches (fun vs H Q E h => ?_) fun f cdv A outer s H vs Q E hr h => ?_
  · obtain ⟨_, _, _, rfl, _⟩ := h
    rfl
  · obtain ⟨t, ss, e, rfl, hs, hl, q⟩ := h
    refine ⟨_, (pss_cons (ps_set (i := 2) sc_lack_breaches.nd rfl (Or.inl rfl) (pe_lst pa_nil))
    (pss_cons (ps_for PassesOwn.never rfl (pi_list (pe_callP (ok_lacks_of T) (hr.mono (by decide)) rfl pass0 (pa_cons (pv 0) (pa_cons (pv 1) pa_nil)))) (pg_name (i := 3) sc_lack_breaches.nd rfl (Or.inl rfl))
    (pss_one (ps_if (PW.pt (pw_and (pt_val (pe_fld (pv 3) rfl)) (pw_and1 (pt_cmpR op_le (pe_fld (pv 3) rfl) (pv 1) (nomark _))))) (pss_one (ps_expr (pe_bm PySem.F.plainAttrs_list PySem.F.slot_list_append PySem.F.type_list_append mt_append (pv 2) (pa_cons (pe_makeP (ok_B_init T) T.g_B (hr.mono (by decide)) rfl pass0 (pa_cons (pe_fld (pv 3) rfl) (pa_cons pe_int (pa_cons (pe_fld (pv 3) rfl) pa_nil)))) pa_nil)))) pss_nil)))
    (pss_one (ps_ret (pv 2))))), ?_⟩
    refine q_asgL (el_lst ea_nil (by show 0 ≤ 100000; decide)) fun l H1 nl e1 hl1 => ?_
    refine ⟨_, rfl, _, rfl, t, ss, e, rfl, hs.mono e1, hl, fun p H2 np e2 hp => ?_⟩
    obtain ⟨ps, hp1, hp2⟩ := hp
    have hl2 := e2 _ _ hl1
    have npl : p ≠ l := fun z => by rw [z, hl1] at np; cases np
    have hw := lacksOf_len ss e
    refine ⟨p, rfl, ⟨_, sq_of hp1⟩, for_objs (F := AtL a) (as := ps) (xs := lacksOf ss e) (fun pre σ H' => (∃ v, σ = [some (.ref t), some (.int e), some (.ref l), v]) ∧ FB (AtB a) H l (pre.foldl (lackBStep e) []) H' ∧ But l H2 H')
      ⟨⟨_, rfl⟩, FB.start (e1.trans e2) nl hl2, But.refl _ _⟩ (fun pre σ H' ⟨_, I, bt⟩ => ⟨bt.sq npl hp1, hp2.mono fun b s h => h.kp (bt.kp hl2)⟩) ?_ ?_⟩
    · rintro pre lk post c σ H3 hsp ⟨⟨v, rfl⟩, I, bt⟩ hc
      have hpre : pre.length < (lacksOf ss e).length := by rw [hsp, List.length_append, List.length_cons]; omega
      have hfl := lackBs_len pre e
      have est : (pre ++ [lk]).foldl (lackBStep e) [] = if (lk.opn && decide (lk.deadline ≤ e)) = true then pre.foldl (lackBStep e) [] ++ [⟨lk.deadline, 7, lk.amount⟩] else pre.foldl (lackBStep e) [] := fold_snoc _ _ _ _
      refine s_when (et_and (et_B (ev_L_open T (ev_var rfl) hc)) fun _ => et_test (ev_op (ev_L_deadline T (ev_var rfl) hc) (ev_var rfl) rv_I0)) (fun h5 H4 e4 => ?_) fun h5 H4 e4 => ?_
      · rw [if_pos h5] at est
        have hc4 := hc.mono e4
        refine s_found (x := (⟨lk.deadline, 7, lk.amount⟩ : B)) (stB a) (I.mono (stB a) e4) (ev_var rfl) (en_B (ev_L_deadline T (ev_var rfl) hc4) ev_c (ev_L_amount T (ev_var rfl) hc4)) (by omega) fun H5 I5 b5 => ?_
        rw [est]
        exact ⟨⟨_, rfl⟩, I5, (bt.trans (.of e4)).trans b5⟩
      · rw [if_neg (by rw [h5]; exact Bool.false_ne_true)] at est
        rw [est]
        exact ⟨⟨_, rfl⟩, I.mono (stB a) e4, bt.trans (.of e4)⟩
    · rintro σ H3 ⟨⟨v, rfl⟩, I, bt⟩
      exact s_ret (ev_var rfl) fun H4 e4 => q l H4 nl (I.ex.trans e4) (I.mono (stB a) e4).lo
/-! ### rules 8, 9 -/
/-- if c: found.append(..), then what follows, once -/
theorem q_whenFound {α : Type} {F : Hp → Addr → α → Prop} {H0 : Hp} {xs : List α} {x : α} {D : Ends} {tz : TS} {tt : TT} {b : Bool} (st : Stable F) (I : FB F H0 l xs H) (h : EvT tt σ H b) (ha : ∀ H1, Ex H H1 → Ev ta σ H1 (.ref l)) (hn : b = true → ∀ H1, Ex H H1 → EvN te σ H1 fun p H2 => F H2 p x) (hz : xs.length < 100000)
    (k : ∀ H', FB F H0 l (xs ++ if b = true then [x] else []) H' → But l H H' → tz D σ H') : tSeq (tIfS tt (tDrop (tBM K "list" rAppend ta (tCons te tNil))) tNext) tz D σ H := by
  refine q_when h (fun hb H1 e1 => ?_) fun hb H1 e1 => ?_
  · refine s_found st (I.mono st e1) (ha H1 e1) (hn hb H1 e1) hz fun H2 I2 b2 => k H2 ?_ ((But.of e1).trans b2)
    rw [if_pos hb]
    exact I2
  · refine k H1 ?_ (.of e1)
    rw [if_neg (by rw [hb]; exact Bool.false_ne_true), List.append_nil]
    exact I.mono st e1
theorem calStep_len (l : List S) (st : List B × Int) (k : Nat) : (calStep l st k).1.length ≤ st.1.length + 2 := by
  unfold calStep
  show (_ ++ _ : List B).length ≤ _
  rw [List.length_append, List.length_append]
  have h1 : (if inWeek l k > 3360 then [(⟨(k : Int) * 10080, 8, inWeek l k - 3360⟩ : B)] else []).length ≤ 1 := by
    split
    · exact Nat.le_refl _
    · exact Nat.zero_le _
  have h2 : (if inWeek l k + st.2 > 5400 then [(⟨(k : Int) * 10080, 9, inWeek l k + st.2 - 5400⟩ : B)] else []).length ≤ 1 := by
    split
    · exact Nat.le_refl _
    · exact Nat.zero_le _
  omega
theorem cals_len (l : List S) (n : Nat) : ((List.range n).foldl (calStep l) ([], 0)).1.length ≤ 2 * n := by
  have q := fold_len (calStep l) (fun st => st.1.length) 2 (calStep_len l) (List.range n) ([], 0)
  try dsimp only at q
  rw [show ([] : List B).length = 0 from rfl, List.length_range] at q
  omega
theorem calB_len (l : List S) (e : Int) (h : 0 ≤ e ∧ e ≤ 8000000) : (calB l e).length ≤ 1600 := by
  have q := cals_len l ((e + 10080 - 1) / 10080).toNat
  unfold calB
  omega
def spCalB (K : PySem.W.Frag) (a : Ad) : Sp := fun vs H Q _ => ∃ t ss e, vs = [.ref t, .int e] ∧ SL K a H t ss ∧ (0 ≤ e ∧ e ≤ 8000000) ∧ ∀ p H1, H p = none → Ex H H1 → LO (AtB a) H1 p (calB ss e) → Q (.ref p) H1
theorem ok_calendar_breaches (T : Txt K mg a) : CallP P w K mg base CX0 3 "calendar_breaches" P_calendar_breaches (spCalB K a) := by
  refine T.f_calendar_breaches.ok sc_calendar_breaches (fun vs H Q E h => ?_) fun f cdv A outer s H vs Q E hr h => ?_
  · obtain ⟨_, _, _, rfl, _⟩ := h
    rfl
  · obtain ⟨t, ss, e, rfl, hs, he, q⟩ := h
    refine ⟨_, (pss_cons (ps_set (i := 2) sc_calendar_breaches.nd rfl (Or.inl rfl) (pe_lst pa_nil))
    (pss_cons (ps_set (i := 3) sc_calendar_breaches.nd rfl (Or.inl rfl) pe_int)
    (pss_cons (ps_for PassesOwn.never rfl (pi_range1 rfl T.b_range (pa_cons (pe_op op_fdiv (pe_op op_sub (pe_op op_add (pv 1) (pe_gi T.c_WEEK rfl)) pe_int) (pe_gi T.c_WEEK rfl)) pa_nil)) (pg_name (i := 4) sc_calendar_breaches.nd rfl (Or.inl rfl))
    (pss_cons (ps_set (i := 5) sc_calendar_breaches.nd rfl (Or.inl rfl) (pe_callP (ok_driving_in_week T) (hr.mono (by decide)) rfl pass0 (pa_cons (pv 0) (pa_cons (pv 4) pa_nil))))
    (pss_cons (ps_if (pt_cmpR op_gt (pv 5) (pe_gi T.c_MOST_IN_WEEK rfl) (nomark _)) (pss_one (ps_expr (pe_bm PySem.F.plainAttrs_list PySem.F.slot_list_append PySem.F.type_list_append mt_append (pv 2) (pa_cons (pe_makeP (ok_B_init T) T.g_B (hr.mono (by decide)) rfl pass0 (pa_cons (pe_op op_mul (pv 4) (pe_gi T.c_WEEK rfl)) (pa_cons pe_int (pa_cons (pe_op op_sub (pv 5) (pe_gi T.c_MOST_IN_WEEK rfl)) pa_nil)))) pa_nil)))) pss_nil)
    (pss_cons (ps_if (pt_cmpR op_gt (pe_op op_add (pv 5) (pv 3)) (pe_gi T.c_MOST_IN_TWO rfl) (nomark _)) (pss_one (ps_expr (pe_bm PySem.F.plainAttrs_list PySem.F.slot_list_append PySem.F.type_list_append mt_append (pv 2) (pa_cons (pe_makeP (ok_B_init T) T.g_B (hr.mono (by decide)) rfl pass0 (pa_cons (pe_op op_mul (pv 4) (pe_gi T.c_WEEK rfl)) (pa_cons pe_int (pa_cons (pe_op op_sub (pe_op op_add (pv 5) (pv 3)) (pe_gi T.c_MOST_IN_TWO rfl)) pa_nil)))) pa_nil)))) pss_nil)
    (pss_one (ps_set (i := 3) sc_calendar_breaches.nd rfl (Or.inl rfl) (pv 5)))))))
    (pss_one (ps_ret (pv 2)))))), ?_⟩
    refine q_asgL (el_lst ea_nil (by show 0 ≤ 100000; decide)) fun l H1 nl e1 hl1 => ?_
    refine q_asg ev_c fun H2 e2 => ?_
    have hn : 0 ≤ (e + 10080 - 1) / 10080 ∧ (e + 10080 - 1) / 10080 ≤ 100000 := by omega
    refine q_forR1 (n := (e + 10080 - 1) / 10080) (ea_cons (ev_op (ev_op (ev_op (ev_var rfl) ev_c rv_I0) ev_c rv_I0) ev_c rv_divC) ea_nil) hn (fun i σ H' => (∃ v4 v5, σ = [some (.ref t), some (.int e), some (.ref l), some (.int ((List.range i).foldl (calStep ss) ([], 0)).2), v4, v5]) ∧ FB (AtB a) H l ((List.range i).foldl (calStep ss) ([], 0)).1 H')
      (fun H3 e3 => ⟨⟨_, _, rfl⟩, FB.start ((e1.trans e2).trans e3) nl (e3 _ _ (e2 _ _ hl1))⟩) ?_ ?_
    · rintro i σ H3 hi ⟨⟨v4, v5, rfl⟩, I⟩
      have hfl := cals_len ss i
      have hib : i ≤ 1000 := by omega
      have est : (List.range (i + 1)).foldl (calStep ss) ([], 0) = calStep ss ((List.range i).foldl (calStep ss) ([], 0)) i := by
        rw [List.range_succ]
        exact fold_snoc _ _ _ _
      rw [est]
      generalize (List.range i).foldl (calStep ss) ([], 0) = st at I hfl ⊢
      unfold calStep
      have hs3 := hs.mono I.ex
      refine q_asg (ev_in_week (ev_var rfl) (ev_var rfl) hs3) fun H4 e4 => ?_
      refine q_whenFound (x := (⟨(i : Int) * 10080, 8, inWeek ss i - 3360⟩ : B)) (b := decide (inWeek ss i > 3360)) (stB a) (I.mono (stB a) e4) (et_test (ev_op (ev_var rfl) ev_c rv_I0)) (fun H5 e5 => ev_var rfl) (fun _ H5 e5 => en_B (ev_op (ev_var rfl) ev_c rv_mulC) ev_c (ev_op (ev_var rfl) ev_c rv_I0)) (by omega) fun H5 I5 _ => ?_
      refine q_whenFound (x := (⟨(i : Int) * 10080, 9, inWeek ss i + st.2 - 5400⟩ : B)) (b := decide (inWeek ss i + st.2 > 5400)) (stB a) I5 (et_test (ev_op (ev_op (ev_var rfl) (ev_var rfl) rv_I0) ev_c rv_I0)) (fun H5 e5 => ev_var rfl) (fun _ H5 e5 => en_B (ev_op (ev_var rfl) ev_c rv_mulC) ev_c (ev_op (ev_op (ev_var rfl) (ev_var rfl) rv_I0) ev_c rv_I0)) ?_ fun H6 I6 _ => ?_
      · rw [List.length_append]
        have h1 : (if decide (inWeek ss i > 3360) = true then [(⟨(i : Int) * 10080, 8, inWeek ss i - 3360⟩ : B)] else []).length ≤ 1 := by
          split
          · exact Nat.le_refl _
          · exact Nat.zero_le _
        omega
      refine s_asg (ev_var rfl) fun H7 e7 => ⟨⟨_, _, rfl⟩, ?_⟩
      have I7 := I6.mono (stB a) e7
      simp only [decide_eq_true_eq] at I7
      exact I7
    · rintro σ H3 ⟨⟨v4, v5, rfl⟩, I⟩
      exact s_ret (ev_var rfl) fun H4 e4 => q l H4 nl (I.ex.trans e4) (I.mono (stB a) e4).lo
theorem en_catV {α : Type} {F : Hp → Addr → α → Prop} {p : Addr} {xs ys : List α} (st : Stable F) (h : Ev ta σ H (.ref p)) (hp : LO F H p xs) (hB : EvN tb σ H fun p H2 => LO F H2 p ys) (hz : xs.length + ys.length ≤ 100000) : EvN (tOp rCat ta tb) σ H fun p H2 => LO F H2 p (xs ++ ys) := fun H1 e Q q =>
  h H1 e _ fun H2 e2 => hB H2 (e.trans e2) _ fun r H3 nr e3 ⟨bs, g1, g2⟩ => by
    obtain ⟨as, h1, h2⟩ := hp
    have e03 := (e.trans e2).trans e3
    refine ⟨p, r, _, _, rfl, rfl, e03 _ _ h1, g1, by rw [refs_len, refs_len, h2.len, g2.len]; exact sz_of hz, fun u nu => q u _ (fresh_back (e2.trans e3) nu) ((e2.trans e3).trans (Ex.new nu)) ⟨as ++ bs, by rw [upd_same]; exact congrArg (fun l => some (HO.lst l)) List.map_append.symm, ?_⟩⟩
    exact All2.app ((h2.mono fun b x h => st _ _ _ _ h (.of e03)).mono fun b x h => st _ _ _ _ h (.of (Ex.new nu))) (g2.mono fun b x h => st _ _ _ _ h (.of (Ex.new nu)))
/-! ### rules 5 to 9 together -/
def spWeekB (K : PySem.W.Frag) (a : Ad) : Sp := fun vs H Q _ => ∃ t ss, vs = [.ref t] ∧ SL K a H t ss ∧ ss.length ≤ 400 ∧ (0 ≤ endOf ss ∧ endOf ss ≤ 8000000) ∧ ∀ p H1, H p = none → Ex H H1 → LO (AtB a) H1 p (weekB ss) → Q (.ref p) H1
theorem ok_week_breaches (T : Txt K mg a) : CallP P w K mg base CX0 6 "week_breaches" P_week_breaches (spWeekB K a) := by
  refine T.f_week_breaches.ok sc_week_breaches (fun vs H Q E h => ?_) fun f cdv A outer s H vs Q E hr h => ?_
  · obtain ⟨_, _, rfl, _⟩ := h
    rfl
  · obtain ⟨t, ss, rfl, hs, hl, he, q⟩ := h
    refine ⟨_, (pss_cons (ps_set (i := 1) sc_week_breaches.nd rfl (Or.inl rfl) (pe_callP (ok_end_of T) (hr.mono (by decide)) rfl pass0 (pa_cons (pv 0) pa_nil)))
    (pss_cons (ps_set (i := 2) sc_week_breaches.nd rfl (Or.inl rfl) (pe_op op_cat (pe_op op_cat (pe_callP (ok_late_breaches T) (hr.mono (by decide)) rfl pass0 (pa_cons (pv 0) (pa_cons (pv 1) pa_nil))) (pe_callP (ok_pair_breaches T) (hr.mono (by decide)) rfl pass0 (pa_cons (pv 0) (pa_cons (pv 1) pa_nil)))) (pe_callP (ok_lack_breaches T) (hr.mono (by decide)) rfl pass0 (pa_cons (pv 0) (pa_cons (pv 1) pa_nil)))))
    (pss_one (ps_ret (pe_op op_cat (pv 2) (pe_callP (ok_calendar_breaches T) (hr.mono (by decide)) rfl pass0 (pa_cons (pv 0) (pa_cons (pv 1) pa_nil)))))))), ?_⟩
    refine q_asg (ev_end_of (ev_var rfl) hs) fun H1 e1 => ?_
    have l1 := lateB_len ss (endOf ss)
    have l2 := pairB_len ss (endOf ss)
    have l3 := lackB_len ss (endOf ss)
    have l4 := calB_len ss (endOf ss) he
    have hs1 := hs.mono e1
    refine q_asgN (en_cat (stB a) (en_cat (stB a) (xs := lateB ss (endOf ss)) (ys := pairB ss (endOf ss)) ?_ ?_ (by omega)) (ys := lackB ss (endOf ss)) ?_ (by rw [List.length_append]; omega)) fun p H2 np e2 hp => ?_
    · exact en_call (ea_cons (ev_var rfl) (ea_cons (ev_var rfl) ea_nil)) fun H1 e Q q _ => ⟨t, ss, _, rfl, hs1.mono e, hl, q⟩
    · exact en_call (ea_cons (ev_var rfl) (ea_cons (ev_var rfl) ea_nil)) fun H1 e Q q _ => ⟨t, ss, _, rfl, hs1.mono e, hl, q⟩
    · exact en_call (ea_cons (ev_var rfl) (ea_cons (ev_var rfl) ea_nil)) fun H1 e Q q _ => ⟨t, ss, _, rfl, hs1.mono e, hl, q⟩
    · refine s_retN (en_catV (stB a) (xs := lateB ss (endOf ss) ++ pairB ss (endOf ss) ++ lackB ss (endOf ss)) (ys := calB ss (endOf ss)) (ev_var rfl) hp ?_ (by rw [List.length_append, List.length_append]; omega)) fun r H3 nr e3 hr3 => q r H3 (fresh_back (e1.trans e2) nr) ((e1.trans e2).trans e3) hr3
      exact en_call (ea_cons (ev_var rfl) (ea_cons (ev_var rfl) ea_nil)) fun H1 e Q q _ => ⟨t, ss, _, rfl, (hs1.mono e2).mono e, he, q⟩
theorem weekB_len (ss : List S) (he : 0 ≤ endOf ss ∧ endOf ss ≤ 8000000) : (weekB ss).length ≤ 3 * ss.length + 1601 := by
  have l1 := lateB_len ss (endOf ss)
  have l2 := pairB_len ss (endOf ss)
  have l3 := lackB_len ss (endOf ss)
  have l4 := calB_len ss (endOf ss) he
  unfold weekB
  rw [List.length_append, List.length_append, List.length_append]
  omega
end
end Dv
namespace Dv
open PySem PySem.Spec PyProof.Rows L2 Evl
/-! ### sorted of triples of whole numbers, any number of them -/
/-- v is a tuple of the three numbers -/
def Trip (h : Heap) (v : Value) (b : B) : Prop := ∃ c o t u z n, v = .ref c ∧ h.get? c = some o ∧ o.cls = .type "tuple" ∧ o.data = .seq #[.int b.minute t, .int b.rule u, .int b.amount z] n
theorem Trip.stays {h h' : Heap} {v : Value} {b : B} (p : Trip h v b) (k : ∀ c o, h.get? c = some o → o.cls = .type "tuple" → h'.get? c = some o) : Trip h' v b := by
  obtain ⟨c, o, t, u, z, n, e, ho, hc, hd⟩ := p
  exact ⟨c, o, t, u, z, n, e, k c o ho hc, hc, hd⟩
theorem ltB_swo (k : Value → B) : SrtO.Swo fun v u => ltB (k v) (k u) := by
  refine ⟨fun x y h => ?_, fun x y z h1 h2 => ?_⟩
  · have q := ltB_iff.mp h
    exact ltB_no.mpr (by omega)
  · have p := ltB_no.mp h1
    have q := ltB_no.mp h2
    exact ltB_no.mpr (by omega)
section
variable {prog : Program} {w : World} {A : Around} {E : Value → Shared → Prop} {s : Shared}
theorem trip_cmp {vs : List Value} {k : Value → B} (hp : ∀ v ∈ vs, Trip s.heap v (k v)) : SrtO.Cmp prog w A s (tuples' true) (fun p => p.1 ∈ vs) (SrtO.lt2 fun v u => ltB (k v) (k u)) := by
  intro p q hm hm'
  have h1 := hp _ hm
  have h2 := hp _ hm'
  show wpAny (model prog w) A (keyLt' (tuples' true) p.1 q.1) (fun r s' => s' = s ∧ r = ltB (k p.1) (k q.1)) (fun _ _ => False) s
  generalize k p.1 = b at h1 ⊢
  generalize k q.1 = c at h2 ⊢
  obtain ⟨x, y, z⟩ := b
  obtain ⟨x', y', z'⟩ := c
  obtain ⟨d, o, t, u, v, n, e, ho, hc, hd⟩ := h1
  obtain ⟨d', o', t', u', v', n', e', ho', hc', hd'⟩ := h2
  dsimp only at hd hd'
  rw [e, e']
  refine PySem.W.kat_lt ho hd ho' hd' ?_
  show PySem.W.KatLex prog w A true (decide (3 < 3)) _ [(.int x t, .int x' t'), (.int y u, .int y' u'), (.int z v, .int z' v')] 0 s
  refine PySem.W.kat_cons (SeqAt.EqAt.int_int x t x' t' prog w _ _ (PySem.W.kat_go (fun e1 => ?_) fun e1 => ?_))
  · have ex : x = x' := by simpa using e1
    refine PySem.W.kat_yes (PySem.W.kat_cons (SeqAt.EqAt.int_int y u y' u' prog w _ _ (PySem.W.kat_go (fun e2 => ?_) fun e2 => ?_)))
    · have ey : y = y' := by simpa using e2
      refine PySem.W.kat_yes (PySem.W.kat_cons (SeqAt.EqAt.int_int z v z' v' prog w _ _ (PySem.W.kat_go (fun e3 => ?_) fun e3 => ?_)))
      · have ez : z = z' := by simpa using e3
        refine PySem.W.kat_yes (PySem.W.kat_nil ⟨rfl, ?_⟩)
        exact (ltB_no.mpr (by dsimp only; omega)).symm
      · have q3 : ltB ⟨x, y, z⟩ ⟨x', y', z'⟩ = decide (z < z') := by
          unfold ltB
          subst ex ey
          simp
        refine PySem.W.kat_no (PySem.W.kat_one _ _ (PyProof.Rows.lt_int ?_))
        exact (show s = s ∧ decide (z < z') = ltB ⟨x, y, z⟩ ⟨x', y', z'⟩ from ⟨rfl, q3.symm⟩)
    · have ny : ¬ y = y' := by simpa using e2
      have q3 : ltB ⟨x, y, z⟩ ⟨x', y', z'⟩ = decide (y < y') := by
        unfold ltB
        subst ex
        simp [ny]
      refine PySem.W.kat_no (PySem.W.kat_one _ _ (PyProof.Rows.lt_int ?_))
      exact (show s = s ∧ decide (y < y') = ltB ⟨x, y, z⟩ ⟨x', y', z'⟩ from ⟨rfl, q3.symm⟩)
  · have nx : ¬ x = x' := by simpa using e1
    have q3 : ltB ⟨x, y, z⟩ ⟨x', y', z'⟩ = decide (x < x') := by
      unfold ltB
      simp [nx]
    exact PySem.W.kat_no (PyProof.Rows.oneLt_int ⟨rfl, q3.symm⟩)
theorem trip_firsts {h : Heap} : ∀ {vs : List Value}, (∀ v ∈ vs, ∃ b, Trip h v b) → ∃ fs : List Value, PySem.W.KatTups h vs fs ∧ fs.length = vs.length ∧ ∀ f ∈ fs, ∃ x t, f = Value.int x t
  | [], _ => ⟨[], .nil, rfl, fun f hf => absurd hf List.not_mem_nil⟩
  | v :: vs, hp => by
    obtain ⟨fs, g1, g2, g3⟩ := trip_firsts (vs := vs) fun u hu => hp u (List.mem_cons_of_mem _ hu)
    obtain ⟨b, c, o, t, u, z, n, e, ho, hc, hd⟩ := hp v List.mem_cons_self
    subst e
    refine ⟨.int b.minute t :: fs, .cons ho hc hd rfl g1, congrArg (· + 1) g2, fun f hf => ?_⟩
    rcases List.mem_cons.mp hf with r | r
    · exact ⟨_, _, r⟩
    · exact g3 f r
theorem trips_sortable {a : Addr} {vs : List Value} {k : Value → B} (h0 : 0 < vs.length) (hp : ∀ v ∈ vs, Trip s.heap v (k v)) (ha : ∀ o, s.heap.get? a = some o → o.cls ≠ .type "tuple") : SrtO.SortableO prog w A s a vs fun v u => ltB (k v) (k u) := by
  intro h' keep
  have hp' : ∀ v ∈ vs, Trip h' v (k v) := fun v hm => (hp v hm).stays fun b o e c => keep b o (fun z => ha o (by rw [← z]; exact e) c) e
  obtain ⟨fs, g1, g2, g3⟩ := trip_firsts fun v hm => ⟨_, hp' v hm⟩
  refine ⟨tuples' true, fun Q E hq => ?_, trip_cmp hp'⟩
  refine PySem.W.kat_kind (T := .type "int") g1 (by omega) (fun f hm => ?_) (by rfl) ?_
  · obtain ⟨x, t, e⟩ := g3 f hm
    rw [e]
    exact PySem.W.Looks.now
  · have ne : (Value.type "int" != Value.type "tuple") = true := by decide +kernel
    rw [ne]
    exact hq
end
/-! as a rule -/
def AtK (H : Hp) (t : Addr) (b : B) : Prop := H t = some (.tup [.int b.minute, .int b.rule, .int b.amount])
theorem stK : Stable AtK := fun _ _ _ _ h e => e _ _ h rfl
def keyAt (H : Hp) (t : Addr) : B := match H t with
  | some (.tup [.int x, .int y, .int z]) => ⟨x, y, z⟩
  | _ => ⟨0, 0, 0⟩
theorem keyAt_of {H : Hp} {t : Addr} {b : B} (h : AtK H t b) : keyAt H t = b := by
  unfold keyAt
  have h' : H t = some (.tup [.int b.minute, .int b.rule, .int b.amount]) := h
  rw [h']
theorem keys_map {H : Hp} : ∀ {ts : List Addr} {bs : List B}, All2 (AtK H) ts bs → bs = ts.map (keyAt H) ∧ ∀ t ∈ ts, AtK H t (keyAt H t)
  | [], [], _ => ⟨rfl, fun _ h => absurd h List.not_mem_nil⟩
  | t :: ts, b :: bs, q => by
    obtain ⟨e, m⟩ := keys_map q.2
    have eb := keyAt_of q.1
    refine ⟨?_, fun u hu => ?_⟩
    · rw [List.map_cons, eb, ← e]
    · rcases List.mem_cons.mp hu with r | r
      · rw [r, eb]
        exact q.1
      · exact m u r
  | [], _ :: _, q => q.elim
  | _ :: _, [], q => q.elim
theorem All2.of_map {H : Hp} : ∀ (ts : List Addr), (∀ t ∈ ts, AtK H t (keyAt H t)) → All2 (AtK H) ts (ts.map (keyAt H))
  | [], _ => True.intro
  | t :: ts, h => ⟨h t List.mem_cons_self, All2.of_map ts fun u hu => h u (List.mem_cons_of_mem _ hu)⟩
def unref : Value → Addr
  | .ref c => c
  | _ => 0
theorem vals_refs : ∀ {ts : List Addr} {us : List Value}, Vals (refs ts) us → us = ts.map Value.ref
  | [], _, .nil => rfl
  | t :: ts, _, .cons r q => by
    have e : _ = Value.ref t := r
    rw [e, vals_refs q]
    rfl
theorem refs_vals : ∀ (ts : List Addr), Vals (refs ts) (ts.map Value.ref)
  | [] => .nil
  | _ :: ts => .cons rfl (refs_vals ts)
/-- sorted(ts): a new list of the same tuples, in order -/
def rSortedB (K : PySem.W.Frag) : List V → Hp → VK → Prop := fun vs H Q => ∃ (c : Addr) (ts : List Addr) (bs : List B), vs = [.ref c] ∧ SqL K H c (refs ts) ∧ All2 (AtK H) ts bs ∧
  ∀ us p, All2 (AtK H) us (sortB bs) → H p = none → Q (.ref p) (upd H p (.lst (refs us)))
theorem cr_sortedB {X : Cx} : CallR X (.builtin "sorted") (rSortedB X.K) := by
  intro pins s σ H vs us Q I r h
  obtain ⟨c, ts, bs, e, hs, hb, q⟩ := h
  subst e
  obtain ⟨its, rv, hl, hz⟩ := I.list hs
  have eits := vals_refs rv
  subst eits
  obtain ⟨u, eu, ru⟩ := vals1 r
  subst eu
  have ru' : u = Value.ref c := ru
  subst ru'
  obtain ⟨eb, hk⟩ := keys_map hb
  rw [refs_len] at hz
  have hlen : (ts.map Value.ref).length = ts.length := List.length_map _
  have htr : ∀ v ∈ ts.map Value.ref, Trip s.heap v (keyAt H (unref v)) := fun v hv => by
    obtain ⟨t, ht, ev⟩ := List.mem_map.mp hv
    subst ev
    have ho : ObjOk X.prog X.w H s.heap t (.tup [.int (keyAt H t).minute, .int (keyAt H t).rule, .int (keyAt H t).amount]) := I.hok _ _ (hk t ht)
    obtain ⟨_, its2, r2, o, ho, hc, n, hd⟩ := ho
    obtain ⟨u1, u2, eu, r1, r2⟩ : ∃ u1 us, its2 = u1 :: us ∧ RelV (.int (keyAt H t).minute) u1 ∧ Vals [.int (keyAt H t).rule, .int (keyAt H t).amount] us := by
      cases r2 with
      | cons p q => exact ⟨_, _, rfl, p, q⟩
    obtain ⟨v2, v3, ev, s2, s3⟩ := vals2 r2
    subst eu ev
    obtain ⟨t1, e1⟩ := r1
    obtain ⟨t2, e2⟩ := s2
    obtain ⟨t3, e3⟩ := s3
    subst e1 e2 e3
    exact ⟨t, o, t1, t2, t3, n, rfl, ho, hc, hd⟩
  refine SrtO.sorted_ord (ltB_swo fun v => keyAt H (unref v)) hl.isList (by rw [hlen]; exact hz) (fun h2 h₁ d hd kk => ?_) fun out o1 o2 => ?_
  · refine trips_sortable (s := { s with heap := h₁ }) (by omega) (fun v hm => (htr v hm).stays fun b o e _ => (kk b o e).2) fun o eo hc => ?_
    have e2 := eo.symm.trans hd
    cases e2
    exact absurd (Value.type.inj hc) (by decide)
  · -- the new list's tuples
    have hall : ∀ v ∈ out, ∃ t ∈ ts, v = Value.ref t := fun v hv => by
      obtain ⟨t, ht, ev⟩ := List.mem_map.mp (o2.perm.mem_iff.mp hv)
      exact ⟨t, ht, ev.symm⟩
    have eout : out = (out.map unref).map Value.ref := by
      have e2 : out.map (Value.ref ∘ unref) = out.map id := List.map_congr_left fun v hv => by
        obtain ⟨t, _, ev⟩ := hall v hv
        rw [ev]
        rfl
      rw [List.map_map, e2, List.map_id]
    have ets : (ts.map Value.ref).map unref = ts := by
      have e2 : ts.map (unref ∘ Value.ref) = ts.map id := List.map_congr_left fun t _ => rfl
      rw [List.map_map, e2, List.map_id]
    have hperm : (out.map unref).Perm ts := by
      have p := o2.perm.map unref
      rw [ets] at p
      exact p
    have hsort : SrtB ((out.map unref).map (keyAt H)) := by
      rw [List.map_map]
      exact List.pairwise_map.mpr o1
    have hbs : (out.map unref).map (keyAt H) = sortB bs := sortB_of hsort (by rw [eb]; exact hperm.map (keyAt H))
    have hus : All2 (AtK H) (out.map unref) (sortB bs) := by
      rw [← hbs]
      exact All2.of_map _ fun t ht => hk t (hperm.mem_iff.mp ht)
    have hsz : (refs (out.map unref)).length ≤ sizeLine := by
      rw [refs_len, hperm.length_eq]
      exact hz
    obtain ⟨n, hn⟩ := PyProof.Rows.sortedAll_at s.heap (ts.map Value.ref) out.toArray
    refine ⟨.ref (s.heap.objs.size + 1), upd H (s.heap.objs.size + 1) (.lst (refs (out.map unref))), I.laid (t' := s.toks) (fun b o e => PyProof.Rows.sortedAll_old e) (Nat.le_succ _) ⟨hsz, out, n, ?_, hn⟩, rfl, q _ _ hus (I.hok.fresh (Nat.le_succ _))⟩
    have hv := refs_vals (out.map unref)
    rw [← eout] at hv
    exact hv
end Dv
namespace Dv
open PySem PySem.Spec PyProof.Rows L2 Evl
section
variable {P : Program} {w : World} {K : PySem.W.Frag} {mg : Str → Option Value} {base : Heap} {a : Ad} {σ : L2.St} {H H' : Hp} {ta tb te tx td ty tv : TE} {x b t l : Addr} {E : XK} {ss : List S}
/-! ### Refused, ask -/
def spR_init (a : Ad) : Sp := fun vs H Q _ => ∃ x r, vs = [.ref x, .int r] ∧ H x = some (exo x a.cR none) ∧ ∀ d, H d = none → d ≠ x → Q .non (upd (upd H d (exd d [("refusal", .int r)])) x (exo x a.cR (some d)))
theorem ok_R_init (T : Txt K mg a) : ∃ fd, FnOk P w K mg base CX0 1 a.fR fd P_R_init (spR_init a) ∧ Binds K fd P_R_init [] := by
  obtain ⟨fd, F, hb⟩ := T.dr
  refine ⟨fd, F.ok sc_R_init (fun vs H Q E h => ?_) (fun cdv A outer s H vs Q E hr h => ?_), hb⟩
  · obtain ⟨_, _, rfl, _⟩ := h
    rfl
  · obtain ⟨x, r, rfl, hx, q⟩ := h
    refine ⟨_, (pss_one (ps_ost (pv 0) (pv 1))), ?_⟩
    exact ⟨_, rfl, _, rfl, x, a.cR, rfl, T.ox, T.nr, .inl ⟨hx, fun d nd ne => q d nd ne⟩⟩
/-- how a refusal is raised: its own dict tells the number -/
def Says (a : Ad) (H : Hp) (E : XK) (r : Int) : Prop := ∀ d H1, Ex H H1 → H1 d = some (.xd [("refusal", .int r)]) → E (.ref a.cR) (some d) H1
theorem Says.mono {r : Int} (h : Says a H E r) (e : Ex H H') : Says a H' E r := fun d H1 e1 hd => h d H1 (e.trans e1) hd
def spAsk (a : Ad) : Sp := fun vs H Q E => ∃ (good : Bool) (r : Int), vs = [.bl good, .int r] ∧ (good = true → ∀ H1, Ex H H1 → Q .non H1) ∧ (good = false → Says a H E r)
theorem ok_ask (T : Txt K mg a) : CallP P w K mg base (L2.CX P w) 3 "ask" P_ask (spAsk a) := by
  refine T.f_ask.okX sc_ask (fun vs H Q E h => ?_) fun f cdv A outer s H vs Q E hr h => ?_
  · obtain ⟨_, _, rfl, _⟩ := h
    rfl
  · obtain ⟨good, r, rfl, q1, q2⟩ := h
    obtain ⟨fd, GR, bR⟩ := ok_R_init (P := P) (w := w) (base := base) T
    refine ⟨_, (pss_one (ps_if (pt_not (pt_val (pv 0))) (pss_one (ps_raise rfl (takes_of rfl rfl rfl rfl) (pmk_oex T.ox T.ir T.tr GR hr bR .nil pass0 rfl T.g_R (pa_cons (pv 1) pa_nil)))) pss_nil)), ?_⟩
    refine ⟨_, rfl, good, rfl, ?_⟩
    cases good with
    | true => exact q1 rfl H (Ex.refl H)
    | false =>
      refine ⟨_, rfl, (by show 1 ≤ 1000; decide), fun x nx => ⟨x, r, rfl, upd_same, fun d nd ne => ⟨rfl, d, [("refusal", .int r)], upd_same, ?_, ?_, ?_⟩⟩⟩
      · rw [upd_ne ne, upd_same]
      · rw [upd_ne ne] at nd
        exact nd
      · rw [upd_ne ne] at nd
        refine q2 rfl d _ (fun c o hc => ?_) upd_same
        have n1 : c ≠ d := ne_of_none hc nd
        have n2 : c ≠ x := ne_of_none hc nx
        rw [upd_ne n1, del_ne n2, upd_ne n2, upd_ne n1, upd_ne n2]
        exact hc
/-- ask(good, refusal) as a statement -/
theorem r_ask {good : Bool} {r : Int} {D : Ends} (h1 : Ev ta σ H (.bl good)) (h2 : Ev tb σ H (.int r)) (k1 : good = true → ∀ H1, Ex H H1 → D.nx σ H1) (k2 : good = false → Says a H E r) :
    tDrop (tCall (spAsk a) [] E (tCons ta (tCons tb tNil))) D σ H := by
  show tCons ta (tCons tb tNil) σ H (fun vs H1 => spAsk a (vs ++ []) H1 (fun _ H2 => D.nx σ H2) E)
  exact ea_cons h1 (ea_cons h2 ea_nil) H (Ex.refl H) _ fun H1 e1 => ⟨good, r, rfl, fun hg H2 e2 => k1 hg H2 (e1.trans e2), fun hg => (k2 hg).mono e1⟩
theorem r_askq {good : Bool} {r : Int} {D : Ends} {tz : TS} (h1 : Ev ta σ H (.bl good)) (h2 : Ev tb σ H (.int r)) (k1 : good = true → ∀ H1, Ex H H1 → tz D σ H1) (k2 : good = false → Says a H E r) :
    tSeq (tDrop (tCall (spAsk a) [] E (tCons ta (tCons tb tNil)))) tz D σ H := r_ask (D := { D with nx := tz D }) h1 h2 k1 k2
/-! ### Desk -/
def deskF (tl : Addr) : List (Str × V) := [("told", .ref tl)]
structure AtDk (a : Ad) (H : Hp) (x tl : Addr) (told : List (Int × Int)) : Prop where
  obj : ∃ dx, H x = some (.ins a.cK dx (deskF tl))
  lst : ∃ ts, H tl = some (.lst (refs ts)) ∧ All2 (AtT H) ts told
theorem AtDk.mono {tl : Addr} {told : List (Int × Int)} (h : AtDk a H x tl told) (e : Ex H H') : AtDk a H' x tl told := by
  obtain ⟨⟨dx, h1⟩, ts, h2, h3⟩ := h
  exact ⟨⟨dx, e _ _ h1⟩, ts, e _ _ h2, h3.mono fun b t q => q.mono e⟩
theorem deskF_told {tl : Addr} : (deskF tl).lookup ("told" : Str) = some (.ref tl) := lk_here
theorem deskF_no {tl : Addr} {m : Str} (h : (m == ("told" : Str)) = false) : (deskF tl).lookup m = none := (lk_past h).trans rfl
theorem deskF_put {tl tl' : Addr} : putF "told" (.ref tl') (deskF tl) = deskF tl' := put_here
theorem ev_told {tl : Addr} {told : List (Int × Int)} (T : Txt K mg a) (h : Ev ta σ H (.ref x)) (q : AtDk a H x tl told) : Ev (tFld K ta "told") σ H (.ref tl) := by
  obtain ⟨⟨dx, h1⟩, _⟩ := q
  exact ev_fld h h1 T.cl_K T.na_K_told deskF_told
def spK_init (a : Ad) : Sp := fun vs H Q _ => ∃ x dx, vs = [.ref x] ∧ H x = some (.ins a.cK dx []) ∧ ∀ tl H1, H tl = none → AtDk a H1 x tl [] → (∀ c o, H c = some o → c ≠ x → H1 c = some o) → Q .non H1
theorem ok_K_init (T : Txt K mg a) : MakeP P w K mg base CX0 1 a.cK P_K_init (spK_init a) := by
  refine T.i_K.ok sc_K_init (fun vs H Q E h => ?_) fun f cdv A outer s H vs Q E hr h => ?_
  · obtain ⟨_, _, rfl, _⟩ := h
    rfl
  · obtain ⟨x, dx, rfl, hx, q⟩ := h
    refine ⟨_, (pss_one (ps_fld (pv 0) (pe_lst pa_nil) rfl)), ?_⟩
    refine ⟨Nat.zero_le _, fun tl nt => ?_⟩
    have nx : x ≠ tl := fun z => by rw [← z, hx] at nt; cases nt
    refine ⟨_, rfl, x, a.cK, dx, [], rfl, ?_, T.cl_K, T.na_K_told, (by show 0 < 1000; decide), ?_⟩
    · rw [upd_ne nx]
      exact hx
    · refine q tl _ nt ⟨⟨dx, upd_same⟩, [], ?_, True.intro⟩ fun c o hc n => ?_
      · rw [upd_ne nx.symm, upd_same]
        rfl
      · rw [upd_ne n, upd_ne (ne_of_none hc nt)]
        exact hc
def spK_stretches (a : Ad) : Sp := fun vs H Q _ => ∃ x tl told, vs = [.ref x] ∧ AtDk a H x tl told ∧ told.length ≤ 400 ∧ ∀ p H1, H p = none → Ex H H1 → LO (AtS a) H1 p (stretchesOf told) → Q (.ref p) H1
theorem ok_K_stretches (T : Txt K mg a) : MethP P w K mg base CX0 4 a.cK "stretches" P_K_stretches (spK_stretches a) := by
  refine T.m_K_stretches.ok sc_K_stretches (fun vs H Q E h => ?_) fun f cdv A outer s H vs Q E hr h => ?_
  · obtain ⟨_, _, _, rfl, _⟩ := h
    rfl
  · obtain ⟨x, tl, told, rfl, hx, hl, q⟩ := h
    refine ⟨_, (pss_one (ps_ret (pe_callP (ok_stretches_of T) (hr.mono (by decide)) rfl pass0 (pa_cons (pe_fld (pv 0) rfl) pa_nil)))), ?_⟩
    obtain ⟨⟨dx, h1⟩, ts, h2, h3⟩ := id hx
    exact s_retN (en_stretches_of (ev_told T (ev_var rfl) hx) (sq_of h2) h3 hl) fun p H1 np e1 hp => q p H1 np e1 hp
theorem en_K_stretches {tl : Addr} {told : List (Int × Int)} (h : Ev ta σ H (.ref x)) (q : AtDk a H x tl told) (hl : told.length ≤ 400) : EvN (tMeth a.cK "stretches" (spK_stretches a) [] E ta tNil) σ H fun p H2 => LO (AtS a) H2 p (stretchesOf told) := by
  obtain ⟨⟨dx, h1⟩, _⟩ := id q
  exact en_meth h h1 (deskF_no (by decide +kernel)) ea_nil fun H1 e Q k E => ⟨x, tl, told, rfl, q.mono e, hl, k⟩
def spK_last (a : Ad) : Sp := fun vs H Q _ => ∃ x tl told, vs = [.ref x] ∧ AtDk a H x tl told ∧ told.length ≤ 400 ∧ ∀ H1, Ex H H1 → Q (.int (endOf (stretchesOf told))) H1
theorem ok_K_last_minute (T : Txt K mg a) : MethP P w K mg base CX0 5 a.cK "last_minute" P_K_last_minute (spK_last a) := by
  refine T.m_K_last_minute.ok sc_K_last_minute (fun vs H Q E h => ?_) fun f cdv A outer s H vs Q E hr h => ?_
  · obtain ⟨_, _, _, rfl, _⟩ := h
    rfl
  · obtain ⟨x, tl, told, rfl, hx, hl, q⟩ := h
    refine ⟨_, (pss_one (ps_ret (pe_callP (ok_end_of T) (hr.mono (by decide)) rfl pass0 (pa_cons (pe_methP0 (pv 0) T.cl_K (ok_K_stretches T) (hr.mono (by decide)) pass0) pa_nil)))), ?_⟩
    refine en_K_stretches (E := E0) (ta := tVar 0) (σ := [some (.ref x)]) (ev_var rfl) hx hl H (Ex.refl H) _ fun p H1 np e1 hp => ?_
    exact ⟨p, _, rfl, hp.sl, fun H2 e2 => q H2 (e1.trans e2)⟩
theorem ev_K_last {tl : Addr} {told : List (Int × Int)} (h : Ev ta σ H (.ref x)) (q : AtDk a H x tl told) (hl : told.length ≤ 400) : Ev (tMeth a.cK "last_minute" (spK_last a) [] E ta tNil) σ H (.int (endOf (stretchesOf told))) := by
  obtain ⟨⟨dx, h1⟩, _⟩ := id q
  exact ev_meth h h1 (deskF_no (by decide +kernel)) ea_nil fun H1 e Q k E => ⟨x, tl, told, rfl, q.mono e, hl, k⟩
/-- what a call leaves: the desk with what's told then, a new list of numbers -/
def Gives (a : Ad) (H : Hp) (x : Addr) (told : List (Int × Int)) (out : List Int) (Q : VK) : Prop := ∀ p tl H1, H p = none → p ≠ x → (H tl = none ∨ ∃ dx, H x = some (.ins a.cK dx (deskF tl))) → AtDk a H1 x tl told → But x H H1 → H1 p = some (.lst (out.map V.int)) → Q (.ref p) H1
def spK_forget (a : Ad) : Sp := fun vs H Q _ => ∃ x tl told, vs = [.ref x] ∧ AtDk a H x tl told ∧ Gives a H x [] [0] Q
theorem ok_K_forget (T : Txt K mg a) : MethP P w K mg base CX0 1 a.cK "forget" P_K_forget (spK_forget a) := by
  refine T.m_K_forget.ok sc_K_forget (fun vs H Q E h => ?_) fun f cdv A outer s H vs Q E hr h => ?_
  · obtain ⟨_, _, _, rfl, _⟩ := h
    rfl
  · obtain ⟨x, tl, told, rfl, hx, q⟩ := h
    refine ⟨_, (pss_cons (ps_fld (pv 0) (pe_lst pa_nil) rfl)
    (pss_one (ps_ret (pe_lst (pa_cons pe_int pa_nil))))), ?_⟩
    obtain ⟨⟨dx, h1⟩, _⟩ := id hx
    refine ⟨Nat.zero_le _, fun t nt => ?_⟩
    have nx : x ≠ t := fun z => by rw [← z, h1] at nt; cases nt
    refine ⟨_, rfl, x, a.cK, dx, _, rfl, (by rw [upd_ne nx]; exact h1), T.cl_K, T.na_K_told, (by show 1 < 1000; decide), ?_⟩
    rw [deskF_put]
    have e1 : Ex H (upd H t (.lst [])) := Ex.new nt
    have hd : AtDk a (upd (upd H t (.lst [])) x (.ins a.cK dx (deskF t))) x t [] := ⟨⟨dx, upd_same⟩, [], by rw [upd_ne nx.symm, upd_same] <;> rfl, True.intro⟩
    refine s_retL (σ := [some (.ref x)]) (xs := [.int 0]) (el_lst (ea_cons ev_c ea_nil) (by show 1 ≤ 100000; decide)) fun p H2 np e2 hp => ?_
    have npx : p ≠ x := fun z => by rw [z, upd_same] at np; cases np
    have npH : H p = none := by
      rw [upd_ne npx] at np
      by_cases z : p = t
      · rw [z]; exact nt
      · rw [upd_ne z] at np
        exact np
    exact q p t H2 npH npx (.inl nt) (hd.mono e2) (((But.of e1).upd).trans (.of e2)) hp
/-! ### add -/
theorem atI_row {row : List Int} {i : Nat} {n : Int} {z : Int} (e : z = (i : Int)) (h : row[i]? = some n) : atI (row.map V.int) z = some (.int n) := by
  rw [e]
  refine atI_nat ?_
  rw [List.getElem?_map, h]
  rfl
def outcome (a : Ad) (H : Hp) (x : Addr) (told : List (Int × Int)) (r : Sum Int (List (Int × Int) × List Int)) (Q : VK) (E : XK) : Prop := match r with
  | .inl n => Says a H E n
  | .inr (t, out) => Gives a H x t out Q
def spK_add (K : PySem.W.Frag) (a : Ad) : Sp := fun vs H Q E => ∃ x r tl told row, vs = [.ref x, .ref r] ∧ AtDk a H x tl told ∧ SqL K H r (row.map V.int) ∧ told.length ≤ 400 ∧ row.length ≤ 400 ∧ outcome a H x told (withEnd (mAdd told row)) Q E
/-- the desk with another list -/
theorem store_told {tl tl' : Addr} {told told' : List (Int × Int)} {dx : Addr} (h : AtDk a H x tl told) (hn : ∃ ts, H tl' = some (.lst (refs ts)) ∧ All2 (AtT H) ts told') : AtDk a (upd H x (.ins a.cK dx (deskF tl'))) x tl' told' := by
  obtain ⟨⟨d, h1⟩, _⟩ := h
  obtain ⟨ts, h2, h3⟩ := hn
  have ne : tl' ≠ x := fun z => by rw [z, h1] at h2; cases h2
  refine ⟨⟨dx, upd_same⟩, ts, (by rw [upd_ne ne]; exact h2), h3.mono fun b t q => ?_⟩
  have ne2 : b ≠ x := fun z => by
    have q' : H b = some (.tup [.int t.1, .int t.2]) := q
    rw [z, h1] at q'
    cases q'
  show (upd H x _) b = _
  rw [upd_ne ne2]
  exact q
theorem rgc2 (n : Nat) (h : n ≤ 400) (h2 : n % 2 = 0) : RgC 0 (n : Int) 2 (n / 2) := by
  have e : Builtin.Range.rangeSize 0 (n : Int) 2 = ((n / 2 : Nat) : Int) := by
    unfold Builtin.Range.rangeSize
    rw [if_pos (show (2 : Int) > 0 by decide)]
    split <;> omega
  have f1 : ∀ z : Int, -1000 ≤ z → z ≤ 1000 → Builtin.Range.rangeFitsLong z = true := fun z a b => by
    unfold Builtin.Range.rangeFitsLong
    rw [Bool.and_eq_true, decide_eq_true_eq, decide_eq_true_eq]
    constructor <;> omega
  refine ⟨by decide, by decide, ?_, e⟩
  unfold Builtin.Range.small
  rw [e, f1 0 (by omega) (by omega), f1 (n : Int) (by omega) (by omega), f1 2 (by omega) (by omega), f1 ((n / 2 : Nat) : Int) (by omega) (by omega), if_pos (show (2 : Int) > 0 by decide), f1 ((n : Int) + (2 - 1)) (by omega) (by omega), Bool.or_true]
  rfl
theorem q_fldN {R : Addr → Hp → Prop} {C dx : Addr} {fs : List (Str × V)} {f : Str} {D : Ends} {tz : TS} (hv : EvN tb σ H R) (h : Ev ta σ H (.ref b)) (ho : H b = some (.ins C dx fs)) (hc : Cls K C) (hn : NoAttr K C f) (hl : fs.length < 1000)
    (k : ∀ p H1, H p = none → Ex H H1 → R p H1 → tz D σ (upd H1 b (.ins C dx (putF f (.ref p) fs)))) (st : ∀ p H1 H2, Ex H1 H2 → R p H1 → R p H2) : tSeq (sFld K ta tb f) tz D σ H :=
  hv H (Ex.refl H) _ fun p H1 hp e1 r => h H1 e1 _ fun H2 e2 => ⟨b, C, dx, fs, rfl, e2 _ _ (e1 _ _ ho), hc, hn, hl, k p H2 hp (e1.trans e2) (st _ _ _ e2 r)⟩
theorem en_catVV {α : Type} {F : Hp → Addr → α → Prop} {p r : Addr} {xs ys : List α} (st : Stable F) (h : Ev ta σ H (.ref p)) (hp : LO F H p xs) (h2 : Ev tb σ H (.ref r)) (hr : LO F H r ys) (hz : xs.length + ys.length ≤ 100000) : EvN (tOp rCat ta tb) σ H fun p H2 => LO F H2 p (xs ++ ys) := fun H1 e Q q =>
  h H1 e _ fun H2 e2 => h2 H2 (e.trans e2) _ fun H3 e3 => by
    obtain ⟨as, h1, h2⟩ := hp
    obtain ⟨bs, g1, g2⟩ := hr
    have e03 := (e.trans e2).trans e3
    refine ⟨p, r, _, _, rfl, rfl, e03 _ _ h1, e03 _ _ g1, by rw [refs_len, refs_len, h2.len, g2.len]; exact sz_of hz, fun u nu => q u _ (fresh_back (e2.trans e3) nu) ((e2.trans e3).trans (Ex.new nu)) ⟨as ++ bs, by rw [upd_same]; exact congrArg (fun l => some (HO.lst l)) List.map_append.symm, ?_⟩⟩
    exact All2.app ((h2.mono fun b x h => st _ _ _ _ h (.of e03)).mono fun b x h => st _ _ _ _ h (.of (Ex.new nu))) ((g2.mono fun b x h => st _ _ _ _ h (.of e03)).mono fun b x h => st _ _ _ _ h (.of (Ex.new nu)))
theorem stT : Stable AtT := fun _ _ _ _ h e => h.kp e
/-- the end of add and of drop -/
theorem q_end {tl : Addr} {told told' : List (Int × Int)} {D : Ends} {H0 : Hp} (T : Txt K mg a) (h0 : σ[0]? = some (some (.ref x))) (hx : AtDk a H x tl told) (e0 : Ex H0 H) (hv : EvN tb σ H fun p H2 => LO AtT H2 p told') (hl : told'.length ≤ 400) (q : Gives a H0 x told' [endOf (stretchesOf told')] D.rt) :
    tSeq (sFld K (tVar 0) tb "told") (tRet (tLst (tCons (tMeth a.cK "last_minute" (spK_last a) [] E0 (tVar 0) tNil) tNil))) D σ H := by
  obtain ⟨⟨dx, h1⟩, ts, h2, h3⟩ := id hx
  refine q_fldN hv (ev_var h0) h1 T.cl_K T.na_K_told (by show 1 < 1000; decide) (fun p H1 np e1 hp => ?_) fun p H1 H2 e h => LO.mono stT h e
  rw [deskF_put]
  obtain ⟨bs, b1, b2⟩ := hp
  have hd : AtDk a (upd H1 x (.ins a.cK dx (deskF p))) x p told' := store_told (hx.mono e1) ⟨bs, b1, b2⟩
  refine s_retL (xs := [.int (endOf (stretchesOf told'))]) (el_lst (ea_cons (ev_K_last (ev_var h0) hd hl) ea_nil) (by show 1 ≤ 100000; decide)) fun u H2 nu e2 hu => ?_
  have nux : u ≠ x := fun z => by rw [z, upd_same] at nu; cases nu
  rw [upd_ne nux] at nu
  have e01 := e0.trans e1
  exact q u p H2 (fresh_back e01 nu) nux (.inl (fresh_back e0 np)) (hd.mono e2) (((But.of e01).upd).trans (.of e2)) hu
/-- a comprehension over a range by steps -/
theorem lc_steps {lo c : Int} {n : Nat} {g : TG} {te : TE} {vs : List Nat} {σ : L2.St} {H1 : Hp} {D : Addr} {Qd : Hp → Prop} (Pv : Nat → Hp → Prop) (h0 : Pv 0 (upd H1 D (.lst [])))
    (hs : ∀ i H, i < n → Pv i H → g (.int (lo + (i : Nat) * c)) (wipe σ vs) H fun σ2 H2 => wipe σ2 vs = wipe σ vs ∧ te σ2 H2 fun y H4 => ∃ acc, H4 D = some (.lst acc) ∧ acc.length < sizeLine ∧ Pv (i + 1) (upd H4 D (.lst (acc ++ [y])))) (hd : ∀ H, Pv n H → Qd H) :
    ∃ W : Nat → Nat → Hp → Prop, (∃ m, W 0 m (upd H1 D (.lst []))) ∧ ∀ i m H, W i m H →
      ((Itc lo c n).stop i H ∧ Qd H) ∨ ((Itc lo c n).go i H ∧ ∃ Nx : Hp → Prop, (∀ H', Nx H' → ∃ m', m' < m ∧ W (i + 1) m' H') ∧ ∀ x H', (Itc lo c n).yld i H x H' → g x (wipe σ vs) H' fun σ2 H2 => wipe σ2 vs = wipe σ vs ∧ tYes σ2 H2 fun b H3 =>
        if b = true then te σ2 H3 fun y H4 => ∃ acc, H4 D = some (.lst acc) ∧ acc.length < sizeLine ∧ Nx (upd H4 D (.lst (acc ++ [y]))) else Nx H3) := by
  refine ⟨fun i m H => m = n - i ∧ i ≤ n ∧ Pv i H, ⟨n, rfl, Nat.zero_le _, h0⟩, fun i m H ⟨em, hi, p⟩ => ?_⟩
  subst em
  by_cases hlt : i < n
  · refine .inr ⟨hlt, Pv (i + 1), fun H' p' => ⟨n - (i + 1), by omega, rfl, hlt, p'⟩, fun x H' ⟨e1, e2⟩ => ?_⟩
    subst e1 e2
    exact hs i _ hlt p
  · have e : i = n := by omega
    subst e
    exact .inl ⟨Nat.le_refl _, hd H p⟩
theorem ev_chainI {p q : Int → Int → Bool} {i j k : Int} {tc : TE} (h1 : Ev ta σ H (.int i)) (h2 : Ev tb σ H (.int j)) (h3 : Ev tc σ H (.int k)) :
    Ev (tChain (rI0 fun i j => .bl (p i j)) (rI0 fun i j => .bl (q i j)) ta tb tc) σ H (.bl (p i j && q j k)) := fun H1 e Q c =>
  h1 H1 e _ fun H2 e2 => h2 H2 (e.trans e2) _ fun H3 e3 => ⟨i, j, rfl, rfl, p i j, rfl, by
    revert c
    cases p i j with
    | true => exact fun c => h3 H3 ((e.trans e2).trans e3) _ fun H4 e4 => ⟨j, k, rfl, rfl, c H4 ((e2.trans e3).trans e4)⟩
    | false => exact fun c => c H3 (e2.trans e3)⟩
theorem ok_K_add (T : Txt K mg a) : MethP P w K mg base (L2.CX P w) 6 a.cK "add" P_K_add (spK_add K a) := by
  refine T.m_K_add.okX sc_K_add (fun vs H Q E h => ?_) fun f cdv A outer s H vs Q E hr h => ?_
  · obtain ⟨_, _, _, _, _, rfl, _⟩ := h
    rfl
  · obtain ⟨x, r, tl, told, row, rfl, hx, hrow, htl, hrl, q⟩ := h
    refine ⟨_, (pss_cons (ps_expr (pe_callP (ok_ask T) (hr.mono (by decide)) rfl (passes_call (takes_of rfl rfl rfl rfl) fun _ _ _ _ h => h) (pa_cons (pe_cmpR op_eq (pe_op op_mod (pe_callB call_len_seq (by rfl) T.b_len PySem.boot_len (pa_cons (pv 1) pa_nil)) pe_int) pe_int (nomark _)) (pa_cons (pe_gi T.c_WRONG rfl) pa_nil))))
    (pss_cons (ps_setLc (i := 2) (own := [("k", 3)]) (g := gName 3) rfl sc_K_add.nd rfl rfl (sw_true rfl rfl rfl (by decide +kernel)) (pi_range3 rfl T.b_range (pa_cons pe_int (pa_cons (pe_callB call_len_seq (by rfl) T.b_len PySem.boot_len (pa_cons (pv 1) pa_nil)) (pa_cons pe_int pa_nil)))) (blkOk_by (own := [("k", 3)]) (N := N_K_add) (sc := defScope s_K_add) (by decide +kernel)) (fun _ _ _ _ _ => pg_name (i := 3) sc_K_add.nd rfl (Or.inl rfl)) (fun _ _ _ _ _ => pts_nil) (fun _ _ _ _ _ => (pe_tup (pa_cons (pe_ix (r := rIxL K) ix_list (pv 1) (pv 3) (fun _ _ => rfl)) (pa_cons (pe_ix (r := rIxL K) ix_list (pv 1) (pe_op op_add (pv 3) pe_int) (fun _ _ => rfl)) pa_nil)))))
    (pss_cons (ps_for (passes_of rfl) rfl (pi_list (pv 2)) (pg_tup rfl (pgs_cons (pg_name (i := 4) sc_K_add.nd rfl (Or.inl rfl)) (pgs_cons (pg_name (i := 5) sc_K_add.nd rfl (Or.inl rfl)) pgs_nil)))
    (pss_one (ps_expr (pe_callP (ok_ask T) (hr.mono (by decide)) rfl (passes_call (takes_of rfl rfl rfl rfl) fun _ _ _ _ h => h) (pa_cons (pe_and (pe_chain op_le op_lt pe_int (pv 4) (pe_gi T.c_KINDS rfl)) (pe_one (pe_chain op_le op_le pe_int (pv 5) (pe_gi T.c_LONGEST rfl)))) (pa_cons (pe_gi T.c_WRONG rfl) pa_nil))))))
    (pss_cons (ps_expr (pe_callP (ok_ask T) (hr.mono (by decide)) rfl (passes_call (takes_of rfl rfl rfl rfl) fun _ _ _ _ h => h) (pa_cons (pe_cmpR op_le (pe_op op_add (pe_callB call_len_seq (by rfl) T.b_len PySem.boot_len (pa_cons (pe_fld (pv 0) rfl) pa_nil)) (pe_callB call_len_seq (by rfl) T.b_len PySem.boot_len (pa_cons (pv 2) pa_nil))) (pe_gi T.c_MOST_TOLD rfl) (nomark _)) (pa_cons (pe_gi T.c_TOO_MANY rfl) pa_nil))))
    (pss_cons (ps_fld (pv 0) (pe_op op_cat (pe_fld (pv 0) rfl) (pv 2)) rfl)
    (pss_one (ps_ret (pe_lst (pa_cons (pe_methP0 (pv 0) T.cl_K (ok_K_last_minute T) (hr.mono (by decide)) pass0) pa_nil))))))))), ?_⟩
    unfold mAdd at q
    refine r_askq (good := decide (row.length % 2 = 0)) (ev_is (ev_op (ev_op (ev_len (ev_var rfl) hrow) (ev_c (v := .int 2)) (rv_I (C := fun _ j => 0 < j) (g := fun i j => .int (i % j)) (by decide))) ev_c ev_eqI) ?_) ev_c (fun hg H1 e1 => ?_) fun hg => ?_
    · rw [List.length_map]
      exact congrArg V.bl (decide_eq_decide.mpr (by omega))
    · have hg' := of_decide_eq_true hg
      rw [if_pos hg'] at q
      have hrow1 := ex_l e1 hrow
      have hpl := pairs_len row
      refine ⟨_, rfl, r, _, rfl, .inl hrow1, 0, _, 2, row.length / 2, rfl, by rw [List.length_map]; exact rgc2 _ hrl hg', fun L nL => ?_⟩
      have nLH : H L = none := fresh_back e1 nL
      have e3 : Ex H1 (upd H1 L (.lst [])) := Ex.new nL
      refine lc_steps (fun i H' => FB AtT H L ((pairsOf row).take i) H') (FB.start (e1.trans e3) nLH upd_same) (fun i H4 hi I => ?_) fun H4 I => ?_
      · obtain ⟨m, n, g1, g2, g3⟩ := pairs_get row i hi
        obtain ⟨bs, hb1, hb2⟩ := I.lo
        have hrow4 := ex_l I.ex hrow
        refine ⟨rfl, ?_⟩
        have hev : EvU (tTup (tCons (tOp (rIxL K) (tVar 1) (tVar 3)) (tCons (tOp (rIxL K) (tVar 1) (tOp (rI0 fun i j => .int (i + j)) (tVar 3) (tC (.int 1)))) tNil))) [some (.ref x), some (.ref r), none, some (.int (0 + (i : Nat) * 2)), none, none] H4 [.int m, .int n] :=
          eu_tup (ea_cons (ev_op (ev_var rfl) (ev_var rfl) (rv_ixL hrow4 (atI_row (i := 2 * i) (by omega) g1))) (ea_cons (ev_op (ev_var rfl) (ev_op (ev_var rfl) ev_c rv_I0) (rv_ixL hrow4 (atI_row (i := 2 * i + 1) (by omega) g2))) ea_nil)) (by show 2 ≤ 100000; decide)
        refine hev H4 (Ex.refl _) _ fun t H5 nt e5 ht => ?_
        · have ntL : t ≠ L := fun z => by rw [z, hb1] at nt; cases nt
          have kp : Kp H4 (upd H5 L (.lst (refs bs ++ [.ref t]))) := (Kp.of e5).lst hb1
          refine ⟨refs bs, e5 _ _ hb1, ?_, Ex.upd (I.ex.trans e5) nLH, nLH, bs ++ [t], by rw [upd_same, refs_snoc], ?_⟩
          · rw [refs_len, hb2.len, List.length_take]
            exact sz_lt (by omega)
          · rw [List.take_add_one, g3]
            refine All2.snoc (hb2.mono fun b y h => h.kp kp) ?_
            show upd H5 L _ t = _
            rw [upd_ne ntL]
            exact ht
      · have et : (pairsOf row).take (row.length / 2) = pairsOf row := List.take_of_length_le (by omega)
        rw [et] at I
        obtain ⟨bs, hb1, hb2⟩ := I.lo
        refine ⟨_, rfl, L, rfl, ⟨_, sq_of hb1⟩, for_objsG (F := AtT) (as := bs) (xs := pairsOf row) (fun pre σ H' => (∃ v4 v5, σ = [some (.ref x), some (.ref r), some (.ref L), none, v4, v5]) ∧ Ex H4 H' ∧ pre.all okT = true) ⟨⟨_, _, rfl⟩, Ex.refl _, rfl⟩
          (fun pre σ H' ⟨_, e, _⟩ => ⟨sq_of (e _ _ hb1), hb2.mono fun b y h => h.mono e⟩) ?_ ?_⟩
        · rintro pre ⟨m, n⟩ post b σ H5 hsp ⟨⟨v4, v5, rfl⟩, e5, hok⟩ hb
          refine ⟨b, _, rfl, st_of hb, rfl, _, _, rfl, _, _, rfl, rfl, ?_⟩
          refine r_ask (good := okT (m, n)) (ev_andV (ev_chainI (p := fun i j => decide (i ≤ j)) (q := fun i j => decide (i < j)) ev_c (ev_var rfl) ev_c) fun _ => ev_chainI (p := fun i j => decide (i ≤ j)) (q := fun i j => decide (i ≤ j)) ev_c (ev_var rfl) ev_c) ev_c (fun hg2 H6 e6 => ⟨⟨_, _, rfl⟩, e5.trans e6, ?_⟩) fun hg2 => ?_
          · rw [List.all_append, hok, List.all_cons, hg2]
            rfl
          · have hno : ¬ (pairsOf row).all okT = true := fun z => by
              rw [hsp, List.all_append, List.all_cons, hg2, Bool.false_and, Bool.and_false] at z
              cases z
            rw [if_neg hno] at q
            exact Says.mono q (I.ex.trans e5)
        · rintro σ H5 ⟨⟨v4, v5, rfl⟩, e5, hok⟩
          rw [if_pos hok] at q
          have e05 := I.ex.trans e5
          have hx5 := hx.mono e05
          obtain ⟨⟨dx, h1⟩, ts, h2, h3⟩ := id hx5
          have hb15 := e5 _ _ hb1
          refine r_askq (good := decide (told.length + (pairsOf row).length ≤ 400)) (ev_is (ev_op (ev_op (ev_len (ev_told T (ev_var rfl) hx5) (sq_of h2)) (ev_len (ev_var rfl) (sq_of hb15)) rv_I0) ev_c rv_I0) ?_) ev_c (fun hg2 H6 e6 => ?_) fun hg2 => ?_
          · rw [refs_len, refs_len, h3.len, hb2.len]
            exact congrArg V.bl (decide_eq_decide.mpr (by omega))
          · have hg2' := of_decide_eq_true hg2
            rw [if_pos hg2'] at q
            have hx6 := hx5.mono e6
            have hL6 : LO AtT H6 L (pairsOf row) := LO.mono stT ⟨bs, hb15, hb2.mono fun b y h => h.mono e5⟩ e6
            have ht6 : LO AtT H6 tl told := LO.mono stT ⟨ts, h2, h3⟩ e6
            exact q_end T rfl hx6 (e05.trans e6) (en_catVV stT (ev_told T (ev_var rfl) hx6) ht6 (ev_var rfl) hL6 (by omega)) (by rw [List.length_append]; exact hg2') q
          · rw [if_neg (of_decide_eq_false hg2)] at q
            exact Says.mono q e05
    · rw [if_neg (of_decide_eq_false hg)] at q
      exact q
/-! ### drop -/
def spK_drop (a : Ad) : Sp := fun vs H Q E => ∃ x tl told n, vs = [.ref x, .int n] ∧ AtDk a H x tl told ∧ told.length ≤ 400 ∧ outcome a H x told (withEnd (mDrop told n)) Q E
theorem cut_take (xs : List V) (k : Nat) (h : k ≤ xs.length) : cutV xs none (some (k : Int)) = xs.take k := by
  unfold cutV
  have e1 : HT.sIx xs.length 0 none = 0 := rfl
  have e2 : HT.sIx xs.length xs.length (some (k : Int)) = k := by
    rw [HT.sIx_nat]
    omega
  rw [e1, e2]
  rfl
theorem ok_K_drop (T : Txt K mg a) : MethP P w K mg base (L2.CX P w) 6 a.cK "drop" P_K_drop (spK_drop a) := by
  refine T.m_K_drop.okX sc_K_drop (fun vs H Q E h => ?_) fun f cdv A outer s H vs Q E hr h => ?_
  · obtain ⟨_, _, _, _, rfl, _⟩ := h
    rfl
  · obtain ⟨x, tl, told, n, rfl, hx, htl, q⟩ := h
    refine ⟨_, (pss_cons (ps_expr (pe_callP (ok_ask T) (hr.mono (by decide)) rfl (passes_call (takes_of rfl rfl rfl rfl) fun _ _ _ _ h => h) (pa_cons (pe_chain op_le op_le pe_int (pv 1) (pe_callB call_len_seq (by rfl) T.b_len PySem.boot_len (pa_cons (pe_fld (pv 0) rfl) pa_nil))) (pa_cons (pe_gi T.c_WRONG rfl) pa_nil))))
    (pss_cons (ps_fld (pv 0) (pe_slice sl_list (pe_fld (pv 0) rfl) po_none (po_some (pe_op op_sub (pe_callB call_len_seq (by rfl) T.b_len PySem.boot_len (pa_cons (pe_fld (pv 0) rfl) pa_nil)) (pv 1)))) rfl)
    (pss_one (ps_ret (pe_lst (pa_cons (pe_methP0 (pv 0) T.cl_K (ok_K_last_minute T) (hr.mono (by decide)) pass0) pa_nil)))))), ?_⟩
    unfold mDrop at q
    obtain ⟨⟨dx, h1⟩, ts, h2, h3⟩ := id hx
    have hlen := h3.len
    refine r_askq (good := decide (0 ≤ n) && decide (n ≤ (told.length : Int))) (ev_is (ev_chainI (p := fun i j => decide (i ≤ j)) (q := fun i j => decide (i ≤ j)) ev_c (ev_var rfl) (ev_len (ev_told T (ev_var rfl) hx) (sq_of h2))) ?_) ev_c (fun hg H1 e1 => ?_) fun hg => ?_
    · rw [refs_len, hlen]
    · rw [Bool.and_eq_true, decide_eq_true_eq, decide_eq_true_eq] at hg
      rw [if_pos hg] at q
      have hx1 := hx.mono e1
      have h21 := e1 _ _ h2
      have ek : (((refs ts).length : Nat) : Int) - n = ((told.length - n.toNat : Nat) : Int) := by
        rw [refs_len, hlen]
        omega
      refine q_end T rfl hx1 e1 (fun H2 e2 Q q => ?_) (by rw [List.length_take]; omega) q
      refine el_sl (ev_told T (ev_var rfl) hx1) eo_none (eo_some (ev_is (ev_op (ev_len (ev_told T (ev_var rfl) hx1) (sq_of h21)) (ev_var rfl) rv_I0) (congrArg V.int ek))) (sq_of h21) H2 e2 Q fun p H3 np e3 hp => ?_
      rw [cut_take _ _ (by rw [refs_len, hlen]; omega)] at hp
      refine q p H3 np e3 ⟨ts.take (told.length - n.toNat), by rw [hp]; exact congrArg (fun l => some (HO.lst l)) List.map_take.symm, ?_⟩
      exact (All2.take _ h3).mono fun b t h => stT _ _ _ _ h (.of ((e1.trans e2).trans e3))
    · have hno : ¬ (0 ≤ n ∧ n ≤ (told.length : Int)) := fun z => by
        rw [decide_eq_true z.1, decide_eq_true z.2] at hg
        cases hg
      rw [if_neg hno] at q
      exact q
def spK_week (K : PySem.W.Frag) (a : Ad) : Sp := fun vs H Q E => ∃ x tl told k, vs = [.ref x, .int k] ∧ AtDk a H x tl told ∧ told.length ≤ 400 ∧ outcome a H x told (mWeek told k) Q E
/-- a new list alone is answered -/
theorem Gives.one {tl p : Addr} {told : List (Int × Int)} {out : List Int} {Q : VK} {H1 : Hp} (q : Gives a H x told out Q) (hx : AtDk a H x tl told) (np : H p = none) (e : Ex H H1) (hp : H1 p = some (.lst (out.map V.int))) : Q (.ref p) H1 := by
  obtain ⟨⟨dx, h1⟩, _⟩ := id hx
  exact q p tl H1 np (fun z => by rw [z, h1] at np; cases np) (.inr ⟨dx, h1⟩) (hx.mono e) (.of e) hp
theorem ok_K_week (T : Txt K mg a) : MethP P w K mg base (L2.CX P w) 5 a.cK "week" P_K_week (spK_week K a) := by
  refine T.m_K_week.okX sc_K_week (fun vs H Q E h => ?_) fun f cdv A outer s H vs Q E hr h => ?_
  · obtain ⟨_, _, _, _, rfl, _⟩ := h
    rfl
  · obtain ⟨x, tl, told, k, rfl, hx, htl, q⟩ := h
    refine ⟨_, (pss_cons (ps_expr (pe_callP (ok_ask T) (hr.mono (by decide)) rfl (passes_call (takes_of rfl rfl rfl rfl) fun _ _ _ _ h => h) (pa_cons (pe_chain op_le op_le pe_int (pv 1) (pe_gi T.c_LAST_WEEK rfl)) (pa_cons (pe_gi T.c_WRONG rfl) pa_nil))))
    (pss_one (ps_ret (pe_lst (pa_cons (pe_callP (ok_driving_in_week T) (hr.mono (by decide)) rfl pass0 (pa_cons (pe_methP0 (pv 0) T.cl_K (ok_K_stretches T) (hr.mono (by decide)) pass0) (pa_cons (pv 1) pa_nil))) pa_nil))))), ?_⟩
    unfold mWeek at q
    refine r_askq (good := decide (0 ≤ k) && decide (k ≤ 1000)) (ev_chainI (p := fun i j => decide (i ≤ j)) (q := fun i j => decide (i ≤ j)) ev_c (ev_var rfl) ev_c) ev_c (fun hg H1 e1 => ?_) fun hg => ?_
    · rw [Bool.and_eq_true, decide_eq_true_eq, decide_eq_true_eq] at hg
      rw [if_pos hg] at q
      refine en_K_stretches (E := E0) (ta := tVar 0) (σ := [some (.ref x), some (.int k)]) (ev_var rfl) (hx.mono e1) htl H1 (Ex.refl H1) _ fun p H2 np e2 hp => ?_
      refine ⟨_, rfl, p, _, k, rfl, hp.sl, fun H3 e3 => ⟨sz_of (by show 1 ≤ 100000; decide), fun u nu => ?_⟩⟩
      have e03 := (e1.trans e2).trans e3
      exact Gives.one q hx (fresh_back e03 nu) (e03.trans (Ex.new nu)) upd_same
    · have hno : ¬ (0 ≤ k ∧ k ≤ 1000) := fun z => by
        rw [decide_eq_true z.1, decide_eq_true z.2] at hg
        cases hg
      rw [if_neg hno] at q
      exact q
end
end Dv
namespace Dv
open PySem PySem.Spec PyProof.Rows L2 Evl
section
variable {P : Program} {w : World} {K : PySem.W.Frag} {mg : Str → Option Value} {base : Heap} {a : Ad} {σ : L2.St} {H H' : Hp} {ta tb te tx td ty tv : TE} {x b t l : Addr} {E : XK} {ss : List S}
/-! ### a row that is made longer -/
theorem s_ext {l : Addr} {xs zs : List V} {D : Ends} (hl : H l = some (.lst xs)) (ha : Ev ta σ H (.ref l)) (h : EvL te σ H zs) (hz : xs.length + zs.length ≤ 100000) (k : ∀ H1, Ex H H1 → D.nx σ (upd H1 l (.lst (xs ++ zs)))) :
    tDrop (tBM K "list" rExtend ta (tCons te tNil)) D σ H := ha H (Ex.refl H) _ fun H1 e1 =>
  ⟨Or.inl ⟨rfl, xs, sq_of (e1 l _ hl)⟩, h H1 e1 _ fun p H2 hp e2 r => ⟨l, p, xs, zs, rfl, rfl, e2 l _ (e1 l _ hl), r, sz_of hz, k H2 (e1.trans e2)⟩⟩
theorem LO.but {α : Type} {F : Hp → Addr → α → Prop} (st : Stable F) {p : Addr} {xs : List α} {ys : List V} (h : LO F H p xs) (bt : But l H H') (hl : H l = some (.lst ys)) (n : p ≠ l) : LO F H' p xs := by
  obtain ⟨as, h1, h2⟩ := h
  exact ⟨as, bt _ _ h1 n, h2.mono fun b x q => st _ _ _ _ q (bt.kp hl)⟩
theorem ne_lst {p : Addr} {o : HO} (h : H p = some o) (n : H l = none) : p ≠ l := fun z => by rw [z, n] at h; cases h
/-- the row that is being filled: its numbers so far -/
structure Row (H0 H1 : Hp) (l : Addr) (out : List Int) (H : Hp) : Prop where
  ex : Ex H0 H
  nl : H0 l = none
  bt : But l H1 H
  at_ : H l = some (.lst (out.map V.int))
theorem Row.start {H0 H1 : Hp} {out : List Int} (e : Ex H0 H1) (n : H0 l = none) (h : H1 l = some (.lst (out.map V.int))) : Row H0 H1 l out H1 := ⟨e, n, But.refl _ _, h⟩
theorem Row.mono {H0 H1 : Hp} {out : List Int} (r : Row H0 H1 l out H) (e : Ex H H') : Row H0 H1 l out H' := ⟨r.ex.trans e, r.nl, r.bt.trans (.of e), e _ _ r.at_⟩
theorem s_row {H0 H1 : Hp} {out zs : List Int} {D : Ends} (r : Row H0 H1 l out H) (ha : Ev ta σ H (.ref l)) (h : EvL te σ H (zs.map V.int)) (hz : out.length + zs.length ≤ 100000) (k : ∀ H', Row H0 H1 l (out ++ zs) H' → D.nx σ H') : tDrop (tBM K "list" rExtend ta (tCons te tNil)) D σ H :=
  s_ext r.at_ ha h (by rw [List.length_map, List.length_map]; exact hz) fun H2 e => k _ ⟨Ex.upd (r.ex.trans e) r.nl, r.nl, (r.bt.trans (.of e)).upd, by rw [upd_same, List.map_append]⟩
/-! ### days -/
def spK_days (a : Ad) : Sp := fun vs H Q _ => ∃ x tl told, vs = [.ref x] ∧ AtDk a H x tl told ∧ told.length ≤ 400 ∧ Gives a H x told (mDays (stretchesOf told)) Q
theorem flat_len {α : Type} (f : α → List Int) (c : Nat) (h : ∀ x, (f x).length = c) : ∀ l : List α, (l.flatMap f).length = c * l.length
  | [] => rfl
  | x :: l => by
    rw [List.flatMap_cons, List.length_append, h, flat_len f c h l, List.length_cons, Nat.mul_succ]
    omega
theorem ok_K_days (T : Txt K mg a) : MethP P w K mg base CX0 5 a.cK "days" P_K_days (spK_days a) := by
  refine T.m_K_days.ok sc_K_days (fun vs H Q E h => ?_) fun f cdv A outer s H vs Q E hr h => ?_
  · obtain ⟨_, _, _, rfl, _⟩ := h
    rfl
  · obtain ⟨x, tl, told, rfl, hx, htl, q⟩ := h
    refine ⟨_, (pss_cons (ps_set (i := 1) sc_K_days.nd rfl (Or.inl rfl) (pe_methP0 (pv 0) T.cl_K (ok_K_stretches T) (hr.mono (by decide)) pass0))
    (pss_cons (ps_set (i := 2) sc_K_days.nd rfl (Or.inl rfl) (pe_callP (ok_days_of T) (hr.mono (by decide)) rfl pass0 (pa_cons (pv 1) pa_nil)))
    (pss_cons (ps_set (i := 3) sc_K_days.nd rfl (Or.inl rfl) (pe_lst (pa_cons (pe_callB call_len_seq (by rfl) T.b_len PySem.boot_len (pa_cons (pv 2) pa_nil)) pa_nil)))
    (pss_cons (ps_for PassesOwn.never rfl (pi_list (pv 2)) (pg_name (i := 4) sc_K_days.nd rfl (Or.inl rfl))
    (pss_one (ps_expr (pe_bm PySem.F.plainAttrs_list PySem.F.slot_list_extend PySem.F.type_list_extend mt_extend (pv 3) (pa_cons (pe_lst (pa_cons (pe_fld (pv 4) rfl) (pa_cons (pe_fld (pv 4) rfl) (pa_cons (pe_methP0 (pv 4) T.cl_D (ok_D_counted T) (hr.mono (by decide)) pass0) (pa_cons (pe_methP (pv 4) T.cl_D (ok_D_state T) (hr.mono (by decide)) pass0 (pa_cons (pe_callP (ok_end_of T) (hr.mono (by decide)) rfl pass0 (pa_cons (pv 1) pa_nil)) pa_nil)) pa_nil))))) pa_nil)))))
    (pss_one (ps_ret (pv 3))))))), ?_⟩
    have hsl := Nat.le_trans (stretches_len told) htl
    have hdl := daysOf_len (stretchesOf told)
    refine q_asgN (en_K_stretches (ev_var rfl) hx htl) fun p1 H1 n1 e1 g1 => ?_
    unfold mDays at q
    generalize stretchesOf told = ss at q hsl hdl g1
    refine q_asgN (en_days_of (ev_var rfl) g1.sl hsl) fun p2 H2 n2 e2 g2 => ?_
    obtain ⟨ds, g21, g22⟩ := id g2
    refine q_asgL (el_lst (ea_cons (ev_is (ev_len (ev_var rfl) (sq_of g21)) (congrArg V.int (congrArg Nat.cast ((refs_len _).trans g22.len)))) ea_nil) (by show 1 ≤ 100000; decide)) fun l H3 n3 e3 g3 => ?_
    have e02 := e1.trans e2
    have e03 := e02.trans e3
    have g13 : LO (AtS a) H3 p1 ss := LO.mono (stS a) g1 (e2.trans e3)
    have g23 : LO (AtD a) H3 p2 (daysOf ss) := LO.mono (stD a) g2 e3
    have nlH : H l = none := fresh_back e02 n3
    have m1 : p1 ≠ l := by
      obtain ⟨as, h1, _⟩ := g1
      exact ne_lst h1 (fresh_back e2 n3)
    have m2 : p2 ≠ l := ne_lst g21 n3
    refine ⟨_, rfl, p2, rfl, ⟨_, sq_of (e3 _ _ g21)⟩, for_objsG (F := AtD a) (as := ds) (xs := daysOf ss) (fun pre σ H' => (∃ v, σ = [some (.ref x), some (.ref p1), some (.ref p2), some (.ref l), v]) ∧ Row H H3 l (((daysOf ss).length : Int) :: pre.flatMap fun d => [d.beg, d.driving, d.counted, d.state (endOf ss)]) H')
      ⟨⟨_, rfl⟩, Row.start e03 nlH g3⟩ (fun pre σ H' ⟨_, r⟩ => ⟨r.bt.sq m2 (e3 _ _ g21), (g22.mono fun b d h => h.mono e3).mono fun b d h => h.kp (r.bt.kp g3)⟩) ?_ ?_⟩
    · rintro pre d post c σ H4 hsp ⟨⟨v, rfl⟩, r⟩ hd
      have hs4 : SL K a H4 p1 ss := (LO.but (stS a) g13 r.bt g3 m1).sl
      have hpre : pre.length < (daysOf ss).length := by
        have := congrArg List.length hsp
        rw [List.length_append, List.length_cons] at this
        omega
      have hfl := flat_len (fun d : Dv.D => [d.beg, d.driving, d.counted, d.state (endOf ss)]) 4 (fun _ => rfl) pre
      refine s_row r (ev_var rfl) (zs := [d.beg, d.driving, d.counted, d.state (endOf ss)]) (el_lst (ea_cons (ev_D_begin T (ev_var rfl) hd) (ea_cons (ev_D_driving T (ev_var rfl) hd) (ea_cons (ev_D_counted (ev_var rfl) hd) (ea_cons (ev_D_state (ev_var rfl) hd (ev_end_of (ev_var rfl) hs4)) ea_nil)))) (by show 4 ≤ 100000; decide)) ?_ fun H5 r5 => ⟨⟨_, rfl⟩, ?_⟩
      · rw [List.length_cons, hfl]
        show 4 * pre.length + 1 + 4 ≤ 100000
        omega
      · rw [List.flatMap_append, List.flatMap_cons, List.flatMap_nil, List.append_nil]
        exact r5
    · rintro σ H4 ⟨⟨v, rfl⟩, r⟩
      exact s_ret (ev_var rfl) fun H5 e5 => Gives.one q hx nlH (r.ex.trans e5) (e5 _ _ r.at_)
/-! ### now -/
def spK_now (a : Ad) : Sp := fun vs H Q _ => ∃ x tl told, vs = [.ref x] ∧ AtDk a H x tl told ∧ told.length ≤ 400 ∧ Gives a H x told (mNow (stretchesOf told)) Q
theorem ev_Br_driving {bl : Addr} {b : Br} (T : Txt K mg a) (h : Ev ta σ H (.ref x)) (q : AtBr a H x bl b) : Ev (tFld K ta "driving") σ H (.int b.driving) := by
  obtain ⟨⟨dx, h1⟩, _⟩ := q
  exact ev_fld h h1 T.cl_Br T.na_Br_driving (brF_driving b)
theorem ev_Br_part {bl : Addr} {b : Br} (T : Txt K mg a) (h : Ev ta σ H (.ref x)) (q : AtBr a H x bl b) : Ev (tFld K ta "has_part") σ H (.bl b.part) := by
  obtain ⟨⟨dx, h1⟩, _⟩ := q
  exact ev_fld h h1 T.cl_Br T.na_Br_has_part (brF_part b)
theorem ev_intB {k : Bool} (h : Ev ta σ H (.bl k)) : Ev (tCB (fun xs H Q => (∃ i, xs = [.int i] ∧ Q (.int i) H) ∨ ∃ k, xs = [.bl k] ∧ Q (.int (if k then 1 else 0)) H) (tCons ta tNil)) σ H (.int (if k = true then 1 else 0)) := fun H1 e Q q =>
  h H1 e _ fun H2 e2 => .inr ⟨k, rfl, q H2 e2⟩
theorem ok_K_now (T : Txt K mg a) : MethP P w K mg base CX0 7 a.cK "now" P_K_now (spK_now a) := by
  refine T.m_K_now.ok sc_K_now (fun vs H Q E h => ?_) fun f cdv A outer s H vs Q E hr h => ?_
  · obtain ⟨_, _, _, rfl, _⟩ := h
    rfl
  · obtain ⟨x, tl, told, rfl, hx, htl, q⟩ := h
    refine ⟨_, (pss_cons (ps_set (i := 1) sc_K_now.nd rfl (Or.inl rfl) (pe_methP0 (pv 0) T.cl_K (ok_K_stretches T) (hr.mono (by decide)) pass0))
    (pss_cons (ps_set (i := 2) sc_K_now.nd rfl (Or.inl rfl) (pe_callP (ok_end_of T) (hr.mono (by decide)) rfl pass0 (pa_cons (pv 1) pa_nil)))
    (pss_cons (ps_set (i := 3) sc_K_now.nd rfl (Or.inl rfl) (pe_callP (ok_breaks_of T) (hr.mono (by decide)) rfl pass0 (pa_cons (pv 1) pa_nil)))
    (pss_cons (ps_set (i := 4) sc_K_now.nd rfl (Or.inl rfl) (pe_gi T.c_NONE rfl))
    (pss_cons (ps_set (i := 5) sc_K_now.nd rfl (Or.inl rfl) pe_int)
    (pss_cons (ps_for PassesOwn.never rfl (pi_list (pe_callP (ok_days_of T) (hr.mono (by decide)) rfl pass0 (pa_cons (pv 1) pa_nil))) (pg_name (i := 6) sc_K_now.nd rfl (Or.inl rfl))
    (pss_one (ps_if (pt_cmp (pc_isN (pe_fld (pv 6) rfl))) (pss_cons (ps_set (i := 4) sc_K_now.nd rfl (Or.inl rfl) (pe_fld (pv 6) rfl))
    (pss_one (ps_set (i := 5) sc_K_now.nd rfl (Or.inl rfl) (pe_fld (pv 6) rfl)))) pss_nil)))
    (pss_cons (ps_set (i := 7) sc_K_now.nd rfl (Or.inl rfl) (pe_op op_fdiv (pv 2) (pe_gi T.c_WEEK rfl)))
    (pss_cons (ps_set (i := 8) sc_K_now.nd rfl (Or.inl rfl) (pe_callP (ok_driving_in_week T) (hr.mono (by decide)) rfl pass0 (pa_cons (pv 1) (pa_cons (pv 7) pa_nil))))
    (pss_cons (ps_set (i := 9) sc_K_now.nd rfl (Or.inl rfl) (pe_op op_add (pv 8) (pe_callP (ok_driving_in_week T) (hr.mono (by decide)) rfl pass0 (pa_cons (pv 1) (pa_cons (pe_op op_sub (pv 7) pe_int) pa_nil)))))
    (pss_one (ps_ret (pe_lst (pa_cons (pv 2) (pa_cons (pe_fld (pv 3) rfl) (pa_cons (pe_callTy call_int1 (by rfl) T.b_int (by decide +kernel) (pa_cons (pe_fld (pv 3) rfl) pa_nil)) (pa_cons (pv 4) (pa_cons (pv 5) (pa_cons (pv 8) (pa_cons (pv 9) pa_nil))))))))))))))))))), ?_⟩
    have hsl := Nat.le_trans (stretches_len told) htl
    refine q_asgN (en_K_stretches (ev_var rfl) hx htl) fun p1 H1 n1 e1 g1 => ?_
    unfold mNow at q
    generalize stretchesOf told = ss at q hsl g1
    have gs := g1.sl (K := K)
    refine q_asg (ev_end_of (ev_var rfl) gs) fun H2 e2 => ?_
    refine ⟨_, rfl, p1, ss, rfl, gs.mono e2, hsl, fun p3 bl H3 n3 nb e3 gb => ?_⟩
    have e13 := e2.trans e3
    refine q_asg ev_c fun H4 e4 => q_asg ev_c fun H5 e5 => ?_
    have e15 := (e13.trans e4).trans e5
    have gb5 := (gb.mono e4).mono e5
    refine en_days_of (E := E0) (ta := tVar 1) (σ := [some (.ref x), some (.ref p1), some (.int (endOf ss)), some (.ref p3), some (.int (-1)), some (.int 0), none, none, none, none]) (ev_var rfl) (gs.mono e15) hsl H5 (Ex.refl H5) _ fun p6 H6 n6 e6 g6 => ?_
    obtain ⟨ds, g61, g62⟩ := g6
    refine ⟨p6, rfl, ⟨_, sq_of g61⟩, for_objsG (F := AtD a) (as := ds) (xs := daysOf ss) (fun pre σ H' => (∃ v, σ = [some (.ref x), some (.ref p1), some (.int (endOf ss)), some (.ref p3), some (.int (pre.foldl openStep (-1, 0)).1), some (.int (pre.foldl openStep (-1, 0)).2), v, none, none, none]) ∧ Ex H6 H')
      ⟨⟨_, rfl⟩, Ex.refl _⟩ (fun pre σ H' ⟨_, e⟩ => ⟨sq_of (e _ _ g61), g62.mono fun b d h => h.mono e⟩) ?_ ?_⟩
    · rintro pre d post c σ H7 hsp ⟨⟨v, rfl⟩, e7⟩ hd
      rw [fold_snoc openStep]
      generalize pre.foldl openStep (-1, 0) = st
      unfold openStep
      refine s_when (et_test (ev_D_none T (ev_var rfl) hd)) (fun hn H8 e8 => ?_) fun hn H8 e8 => ?_
      · rw [if_pos hn]
        have hd8 := hd.mono e8
        exact q_asg (ev_D_begin T (ev_var rfl) hd8) fun H9 e9 => s_asg (ev_D_driving T (ev_var rfl) (hd8.mono e9)) fun H10 e10 => ⟨⟨_, rfl⟩, ((e7.trans e8).trans e9).trans e10⟩
      · rw [if_neg (by rw [hn]; exact Bool.false_ne_true)]
        exact ⟨⟨_, rfl⟩, e7.trans e8⟩
    · rintro σ H7 ⟨⟨v, rfl⟩, e7⟩
      generalize (daysOf ss).foldl openStep (-1, 0) = st at q
      have e17 := (e15.trans e6).trans e7
      have gs7 := gs.mono e17
      refine q_asg (ev_op (ev_var rfl) ev_c rv_divC) fun H8 e8 => ?_
      refine q_asg (ev_in_week (ev_var rfl) (ev_var rfl) (gs7.mono e8)) fun H9 e9 => ?_
      refine q_asg (ev_op (ev_var rfl) (ev_in_week (ev_var rfl) (ev_op (ev_var rfl) ev_c rv_I0) ((gs7.mono e8).mono e9)) rv_I0) fun H10 e10 => ?_
      have e710 := (e8.trans e9).trans e10
      have gb10 := ((gb5.mono e6).mono e7).mono e710
      refine s_retL (xs := [endOf ss, (breaksOf ss).driving, if (breaksOf ss).part = true then 1 else 0, st.1, st.2, inWeek ss (endOf ss / 10080), inWeek ss (endOf ss / 10080) + inWeek ss (endOf ss / 10080 - 1)].map V.int) (el_lst (ea_cons (ev_var rfl) (ea_cons (ev_Br_driving T (ev_var rfl) gb10) (ea_cons (ev_intB (ev_Br_part T (ev_var rfl) gb10)) (ea_cons (ev_var rfl) (ea_cons (ev_var rfl) (ea_cons (ev_var rfl) (ea_cons (ev_var rfl) ea_nil))))))) (by show 7 ≤ 100000; decide)) fun u H11 nu e11 hu => ?_
      have e010 := (e1.trans e17).trans e710
      exact Gives.one q hx (fresh_back e010 nu) (e010.trans e11) hu
/-! ### report -/
def spK_report (a : Ad) : Sp := fun vs H Q _ => ∃ x tl told, vs = [.ref x] ∧ AtDk a H x tl told ∧ told.length ≤ 400 ∧ (0 ≤ endOf (stretchesOf told) ∧ endOf (stretchesOf told) ≤ 8000000) ∧ Gives a H x told (mReport (stretchesOf told)) Q
theorem breakB_len (l : List S) : (breakB l).length ≤ l.length + 1 := by
  have q := takes_len l Br.fresh
  have r := close_len (breaksOf l)
  have z : Br.fresh.br.length = 0 := rfl
  unfold breakB
  unfold breaksOf at r ⊢
  omega
theorem found_len (l : List S) (hl : l.length ≤ 400) (he : 0 ≤ endOf l ∧ endOf l ≤ 8000000) : (found l).length ≤ 5000 := by
  have q1 := breakB_len l
  have q2 := dayB_len l
  have q3 := weekB_len l he
  unfold found
  rw [List.length_append, List.length_append]
  omega
theorem sortB_len (l : List B) : (sortB l).length = l.length := (sortB_perm l).length_eq
theorem en_B_key {s : B} (h : Ev ta σ H (.ref x)) (q : AtB a H x s) : EvN (tMeth a.cB "key" (spB_key a) [] E ta tNil) σ H fun p H2 => AtK H2 p s := by
  obtain ⟨dx, g⟩ := id q
  exact en_meth h g (bF_key s) ea_nil fun H1 e Q k E => ⟨x, s, rfl, q.mono e, fun p H2 np e2 hp => k p H2 np e2 hp⟩
theorem ok_K_report (T : Txt K mg a) : MethP P w K mg base CX0 8 a.cK "report" P_K_report (spK_report a) := by
  refine T.m_K_report.ok sc_K_report (fun vs H Q E h => ?_) fun f cdv A outer s H vs Q E hr h => ?_
  · obtain ⟨_, _, _, rfl, _⟩ := h
    rfl
  · obtain ⟨x, tl, told, rfl, hx, htl, he, q⟩ := h
    refine ⟨_, (pss_cons (ps_set (i := 1) sc_K_report.nd rfl (Or.inl rfl) (pe_methP0 (pv 0) T.cl_K (ok_K_stretches T) (hr.mono (by decide)) pass0))
    (pss_cons (ps_set (i := 2) sc_K_report.nd rfl (Or.inl rfl) (pe_op op_cat (pe_op op_cat (pe_callP (ok_break_breaches T) (hr.mono (by decide)) rfl pass0 (pa_cons (pv 1) pa_nil)) (pe_callP (ok_day_breaches T) (hr.mono (by decide)) rfl pass0 (pa_cons (pv 1) pa_nil))) (pe_callP (ok_week_breaches T) (hr.mono (by decide)) rfl pass0 (pa_cons (pv 1) pa_nil))))
    (pss_cons (ps_set (i := 3) sc_K_report.nd rfl (Or.inl rfl) (pe_lst (pa_cons (pe_callB call_len_seq (by rfl) T.b_len PySem.boot_len (pa_cons (pv 2) pa_nil)) pa_nil)))
    (pss_cons (ps_for PassesOwn.never rfl (pi_list (pe_callB cr_sortedB (by rfl) T.b_sorted (by decide +kernel) (pa_cons (pe_lc (own := [("breach", 7)]) (g := gName 7) rfl sc_K_report.nd (pi_list (pv 2)) (blkOk_by (own := [("breach", 7)]) (N := N_K_report) (sc := defScope s_K_report) (by decide +kernel)) (fun _ _ _ _ _ => pg_name (i := 7) sc_K_report.nd rfl (Or.inl rfl)) (fun _ _ _ _ _ => pts_nil) (fun _ _ _ _ _ => (pe_methP0 (pv 7) T.cl_B (ok_B_key T) (hr.mono (by decide)) pass0))) pa_nil))) (pg_tup rfl (pgs_cons (pg_name (i := 4) sc_K_report.nd rfl (Or.inl rfl)) (pgs_cons (pg_name (i := 5) sc_K_report.nd rfl (Or.inl rfl)) (pgs_cons (pg_name (i := 6) sc_K_report.nd rfl (Or.inl rfl)) pgs_nil))))
    (pss_one (ps_expr (pe_bm PySem.F.plainAttrs_list PySem.F.slot_list_extend PySem.F.type_list_extend mt_extend (pv 3) (pa_cons (pe_lst (pa_cons (pv 5) (pa_cons (pv 4) (pa_cons (pv 6) pa_nil)))) pa_nil)))))
    (pss_one (ps_ret (pv 3))))))), ?_⟩
    have hsl := Nat.le_trans (stretches_len told) htl
    refine q_asgN (en_K_stretches (ev_var rfl) hx htl) fun p1 H1 n1 e1 g1 => ?_
    unfold mReport at q
    generalize stretchesOf told = ss at q hsl g1 he
    have gs := g1.sl (K := K)
    have q1 := breakB_len ss
    have q2 := dayB_len ss
    have q3 := weekB_len ss he
    have hfl := found_len ss hsl he
    refine q_asgN (R := fun p H2 => LO (AtB a) H2 p (found ss)) (en_cat (stB a) (en_cat (stB a) (xs := breakB ss) (ys := dayB ss) ?_ ?_ (by omega)) (ys := weekB ss) ?_ (by rw [List.length_append]; omega)) fun p2 H2 n2 e2 g2 => ?_
    · exact en_call (ea_cons (ev_var rfl) ea_nil) fun H1 e Q q _ => ⟨p1, ss, rfl, gs.mono e, hsl, q⟩
    · exact en_call (ea_cons (ev_var rfl) ea_nil) fun H1 e Q q _ => ⟨p1, ss, rfl, gs.mono e, hsl, q⟩
    · exact en_call (ea_cons (ev_var rfl) ea_nil) fun H1 e Q q _ => ⟨p1, ss, rfl, gs.mono e, hsl, he, q⟩
    generalize found ss = fs at q hfl g2
    obtain ⟨bs, g21, g22⟩ := id g2
    refine q_asgL (el_lst (ea_cons (ev_is (ev_len (ev_var rfl) (sq_of g21)) (congrArg V.int (congrArg Nat.cast ((refs_len _).trans g22.len)))) ea_nil) (by show 1 ≤ 100000; decide)) fun l H3 n3 e3 g3 => ?_
    have e02 := e1.trans e2
    have e03 := e02.trans e3
    have nlH : H l = none := fresh_back e02 n3
    have g23 : LO (AtB a) H3 p2 fs := LO.mono (stB a) g2 e3
    refine ⟨_, rfl, p2, rfl, ⟨_, sq_of (e3 _ _ g21)⟩, fun L nL => ?_⟩
    have nLH : H L = none := fresh_back e03 nL
    have eL : Ex H3 (upd H3 L (.lst [])) := Ex.new nL
    have m2 : p2 ≠ L := ne_lst (e3 _ _ g21) nL
    have ml : l ≠ L := ne_lst g3 nL
    refine lc_objs (F := AtB a) (as := bs) (xs := fs) (fun pre H' => FB AtK H L pre H' ∧ But L H3 H') ⟨FB.start (e03.trans eL) nLH upd_same, .of eL⟩
      (fun pre H' ⟨I, bt⟩ => ⟨bt.sq m2 (e3 _ _ g21), g22.mono fun b s ⟨d, h⟩ => ⟨d, bt _ _ (e3 _ _ h) fun z => by have h' := e3 _ _ h; rw [z, nL] at h'; cases h'⟩⟩) ?_ ?_
    · rintro pre one post c H4 hsp ⟨I, bt⟩ hc
      have hpre : pre.length < fs.length := by
        have := congrArg List.length hsp
        rw [List.length_append, List.length_cons] at this
        omega
      obtain ⟨ts, t1, t2⟩ := I.lo
      refine ⟨rfl, ?_⟩
      refine en_B_key (E := E0) (ta := tVar 7) (σ := [some (.ref x), some (.ref p1), some (.ref p2), some (.ref l), none, none, none, some (.ref c)]) (ev_var rfl) hc H4 (Ex.refl _) _ fun u H5 nu e5 hu => ?_
      have nuL : u ≠ L := fun z => by rw [z, t1] at nu; cases nu
      have kp : Kp H4 (upd H5 L (.lst (refs ts ++ [.ref u]))) := (Kp.of e5).lst t1
      refine ⟨refs ts, e5 _ _ t1, ?_, ⟨Ex.upd (I.ex.trans e5) nLH, nLH, ts ++ [u], (by rw [upd_same, refs_snoc]), All2.snoc (t2.mono fun b s h => stK _ _ _ _ h kp) ?_⟩, (bt.trans (.of e5)).upd⟩
      · rw [refs_len, t2.len]
        exact sz_lt (by omega)
      · show upd H5 L _ u = _
        rw [upd_ne nuL]
        exact hu
    · rintro H4 ⟨I, bt⟩
      obtain ⟨ts, t1, t2⟩ := I.lo
      refine ⟨L, ts, fs, rfl, sq_of t1, t2, fun us p hus np => ?_⟩
      have e45 : Ex H4 (upd H4 p (.lst (refs us))) := Ex.new np
      have hul := sortB_len fs
      have hp5 : (upd H4 p (.lst (refs us))) p = some (.lst (refs us)) := upd_same
      have hu5 : All2 (AtK (upd H4 p (.lst (refs us)))) us (sortB fs) := hus.mono fun b s h => stK _ _ _ _ h (.of e45)
      have hl5 : (upd H4 p (.lst (refs us))) l = some (.lst [.int fs.length]) := e45 _ _ (bt _ _ g3 ml)
      have mp : p ≠ l := fun z => by rw [z, bt _ _ g3 ml] at np; cases np
      have e05 : Ex H (upd H4 p (.lst (refs us))) := I.ex.trans e45
      generalize upd H4 p (.lst (refs us)) = H5 at e45 hp5 hu5 hl5 e05
      refine ⟨p, rfl, ⟨_, sq_of hp5⟩, for_objsG (F := AtK) (as := us) (xs := sortB fs) (fun pre σ H' => (∃ v4 v5 v6, σ = [some (.ref x), some (.ref p1), some (.ref p2), some (.ref l), v4, v5, v6, none]) ∧ Row H H5 l ((fs.length : Int) :: pre.flatMap fun b => [b.rule, b.minute, b.amount]) H')
        ⟨⟨_, _, _, rfl⟩, Row.start e05 nlH hl5⟩ (fun pre σ H' ⟨_, r⟩ => ⟨r.bt.sq mp hp5, hu5.mono fun b s h => stK _ _ _ _ h (r.bt.kp hl5)⟩) ?_ ?_⟩
      · rintro pre d post c σ H6 hsp ⟨⟨v4, v5, v6, rfl⟩, r⟩ hd
        have hpre : pre.length < (sortB fs).length := by
          have := congrArg List.length hsp
          rw [List.length_append, List.length_cons] at this
          omega
        have hfl2 := flat_len (fun b : Dv.B => [b.rule, b.minute, b.amount]) 3 (fun _ => rfl) pre
        refine ⟨c, _, rfl, st_of hd, rfl, _, _, rfl, _, _, rfl, _, _, rfl, rfl, ?_⟩
        refine s_row r (ev_var rfl) (zs := [d.rule, d.minute, d.amount]) (el_lst (ea_cons (ev_var rfl) (ea_cons (ev_var rfl) (ea_cons (ev_var rfl) ea_nil))) (by show 3 ≤ 100000; decide)) ?_ fun H7 r7 => ⟨⟨_, _, _, rfl⟩, ?_⟩
        · rw [List.length_cons, hfl2]
          show 3 * pre.length + 1 + 3 ≤ 100000
          omega
        · rw [List.flatMap_append, List.flatMap_cons, List.flatMap_nil, List.append_nil]
          exact r7
      · rintro σ H6 ⟨⟨v4, v5, v6, rfl⟩, r⟩
        exact s_ret (ev_var rfl) fun H7 e7 => Gives.one q hx nlH (r.ex.trans e7) (e7 _ _ r.at_)
end
end Dv
namespace Dv
open PySem PySem.Spec PyProof.Rows L2 Evl
/-- o.m(e, ..) within a try -/
def tMethS (C : Addr) (m : Str) (sp : Sp) (E : L2.St → XK) (ta : TE) (t : TA) : TE := fun σ H Q => ta σ H fun x H1 => ∃ a dx fs, x = .ref a ∧ H1 a = some (.ins C dx fs) ∧ fs.lookup m = none ∧ t σ H1 fun vs H2 => sp (x :: vs) H2 Q (E σ)
theorem pe_methPS {X : Cx} {CX : CXT} {k : Nat} {C : Addr} {ps : List Str} {sp : Sp} {E : L2.St → XK} {m : Str} {pos apos : Pos} {e o : Expr} {es : List Expr} {ta : TE} {t : TA} {pl : Sem Bool} (he : PE X o ta) (c : Cls X.K C) (G : MethP X.prog X.w X.K X.mg X.base CX k C m ps sp)
    (hr : Room k X.A) (hx : ∀ σ, PassesAt CX X σ (E σ)) (ha : PA X (e :: es) t)
    (hst : starEach (e :: es) X.env = (false, eval e X.env) :: starEach es X.env := by rfl) (hpl : (backTo pos (starEach es X.env)).any (·.1) = false := by rfl)
    (ht : eval (.Call (.Attribute o m apos) (e :: es) [] pos) X.env = (do
      let ov ← eval o X.env
      standAt apos.atName
      let (f, first) ← holding [ov] (getMethod ov m pl)
      callWith pos f first (backTo pos (starEach (e :: es) X.env)) (backToKw pos (keywordEach [] X.env))) := by rfl) :
    PE X (.Call (.Attribute o m apos) (e :: es) [] pos) (tMethS C m sp E ta t) := by
  obtain ⟨f, fd, F, hm, hb⟩ := G.ex
  refine ⟨fun pins s σ H Q I h => ?_⟩
  refine PySem.W.methodCall_KW (pl := pl) (thn (he.run pins s σ H _ I h) fun u s1 ⟨x, H1, I1, rx, a, dx, fs, ex, ea, l, q⟩ => ?_) ht
  subst ex
  obtain rfl : u = Value.ref a := rx
  refine getmeth_ok I1 ea c hm l ?_
  refine PySem.W.callWith_K (first := [.ref a]) (h₀ := X.base) I.ok.mod.kin hm.kp (thn (ha.run pos pins s1 σ H1 _ I1 q) fun us s2 ⟨vs, H2, I2, r, q2⟩ => ⟨I2.kIn, ?_⟩) hst hpl
  exact run_fnS (us := .ref a :: us) (vs := .ref a :: vs) F hr hb (hx σ) I2 (.cons rfl r) q2
section
variable {P : Program} {w : World} {K : PySem.W.Frag} {mg : Str → Option Value} {base : Heap} {a : Ad} {σ : L2.St} {H H' : Hp} {ta tb te tx td ty tv : TE} {x b t l : Addr} {E : XK} {ss : List S}
theorem Gives.mono {told : List (Int × Int)} {out : List Int} {Q : VK} {o : HO} (q : Gives a H x told out Q) (e : Ex H H') (h : H x = some o) : Gives a H' x told out Q := fun p tl H1 np npx ht hd bt hp =>
  q p tl H1 (fresh_back e np) npx (ht.imp (fresh_back e) fun ⟨dx, g⟩ => ⟨dx, by have g2 := e _ _ h; rw [g] at g2; rw [h, g2]⟩) hd ((But.of e).trans bt) hp
theorem outcome.mono {told : List (Int × Int)} {r : Sum Int (List (Int × Int) × List Int)} {Q : VK} {o : HO} (q : outcome a H x told r Q E) (e : Ex H H') (h : H x = some o) : outcome a H' x told r Q E := by
  cases r with
  | inl n => exact Says.mono q e
  | inr u => exact Gives.mono (told := u.1) (out := u.2) q e h
structure Fine (told : List (Int × Int)) : Prop where
  few : told.length ≤ 400
  lo : 0 ≤ endOf (stretchesOf told)
  hi : endOf (stretchesOf told) ≤ 8000000
def spK_answer (K : PySem.W.Frag) (a : Ad) : Sp := fun vs H Q E => ∃ x r tl told row call number, vs = [.ref x, .int call, .int number, .ref r] ∧ AtDk a H x tl told ∧ Fine told ∧ SqL K H r (row.map V.int) ∧ row.length ≤ 400 ∧ outcome a H x told (mAns told call number row) Q E
theorem ok_K_answer (T : Txt K mg a) : MethP P w K mg base (L2.CX P w) 9 a.cK "answer" P_K_answer (spK_answer K a) := by
  refine T.m_K_answer.okX sc_K_answer (fun vs H Q E h => ?_) fun f cdv A outer s H vs Q E hr h => ?_
  · obtain ⟨_, _, _, _, _, _, _, rfl, _⟩ := h
    rfl
  · obtain ⟨x, r, tl, told, row, call, number, rfl, hx, hf, hrow, hrl, q⟩ := h
    refine ⟨_, (pss_cons (ps_if (pt_cmpR op_eq (pv 1) pe_int (nomark _)) (pss_one (ps_ret (pe_methP0 (pv 0) T.cl_K (ok_K_forget T) (hr.mono (by decide)) pass0))) pss_nil)
    (pss_cons (ps_if (pt_cmpR op_eq (pv 1) (pe_gi T.c_ADD rfl) (nomark _)) (pss_one (ps_ret (pe_methP (pv 0) T.cl_K (ok_K_add T) (hr.mono (by decide)) (passes_call (takes_of rfl rfl rfl rfl) fun _ _ _ _ h => h) (pa_cons (pv 3) pa_nil)))) pss_nil)
    (pss_cons (ps_if (pt_cmpR op_eq (pv 1) pe_int (nomark _)) (pss_one (ps_ret (pe_methP (pv 0) T.cl_K (ok_K_drop T) (hr.mono (by decide)) (passes_call (takes_of rfl rfl rfl rfl) fun _ _ _ _ h => h) (pa_cons (pv 2) pa_nil)))) pss_nil)
    (pss_cons (ps_if (pt_cmpR op_eq (pv 1) pe_int (nomark _)) (pss_one (ps_ret (pe_methP0 (pv 0) T.cl_K (ok_K_report T) (hr.mono (by decide)) pass0))) pss_nil)
    (pss_cons (ps_if (pt_cmpR op_eq (pv 1) pe_int (nomark _)) (pss_one (ps_ret (pe_methP0 (pv 0) T.cl_K (ok_K_now T) (hr.mono (by decide)) pass0))) pss_nil)
    (pss_cons (ps_if (pt_cmpR op_eq (pv 1) pe_int (nomark _)) (pss_one (ps_ret (pe_methP0 (pv 0) T.cl_K (ok_K_days T) (hr.mono (by decide)) pass0))) pss_nil)
    (pss_one (ps_ret (pe_methP (pv 0) T.cl_K (ok_K_week T) (hr.mono (by decide)) (passes_call (takes_of rfl rfl rfl rfl) fun _ _ _ _ h => h) (pa_cons (pv 2) pa_nil)))))))))), ?_⟩
    unfold mAns at q
    obtain ⟨⟨dx, h1⟩, _⟩ := id hx
    refine q_when (et_test (ev_op (ev_var rfl) (ev_c (v := .int 1)) ev_eqI)) (fun hc H1 e1 => ?_) fun hc H1 e1 => ?_
    · rw [if_pos (of_decide_eq_true hc)] at q
      exact ⟨_, rfl, x, dx, _, rfl, e1 _ _ h1, deskF_no (by decide +kernel), x, tl, told, rfl, hx.mono e1, Gives.mono q e1 h1⟩
    rw [if_neg (of_decide_eq_false hc)] at q
    have hx1 := hx.mono e1
    replace hrow := ex_l e1 hrow
    replace q := outcome.mono q e1 h1
    replace h1 := e1 _ _ h1
    clear hc
    refine q_when (et_test (ev_op (ev_var rfl) (ev_c (v := .int 2)) ev_eqI)) (fun hc H2 e2 => ?_) fun hc H2 e2 => ?_
    · rw [if_pos (of_decide_eq_true hc)] at q
      exact ⟨_, rfl, x, dx, _, rfl, e2 _ _ h1, deskF_no (by decide +kernel), _, rfl, x, r, tl, told, row, rfl, hx1.mono e2, ex_l e2 hrow, hf.few, hrl, outcome.mono q e2 h1⟩
    rw [if_neg (of_decide_eq_false hc)] at q
    replace hx1 := hx1.mono e2
    replace q := outcome.mono q e2 h1
    replace h1 := e2 _ _ h1
    clear hc
    refine q_when (et_test (ev_op (ev_var rfl) (ev_c (v := .int 3)) ev_eqI)) (fun hc H3 e3 => ?_) fun hc H3 e3 => ?_
    · rw [if_pos (of_decide_eq_true hc)] at q
      exact ⟨_, rfl, x, dx, _, rfl, e3 _ _ h1, deskF_no (by decide +kernel), _, rfl, x, tl, told, number, rfl, hx1.mono e3, hf.few, outcome.mono q e3 h1⟩
    rw [if_neg (of_decide_eq_false hc)] at q
    replace hx1 := hx1.mono e3
    replace q := outcome.mono q e3 h1
    replace h1 := e3 _ _ h1
    clear hc
    refine q_when (et_test (ev_op (ev_var rfl) (ev_c (v := .int 4)) ev_eqI)) (fun hc H4 e4 => ?_) fun hc H4 e4 => ?_
    · rw [if_pos (of_decide_eq_true hc)] at q
      exact ⟨_, rfl, x, dx, _, rfl, e4 _ _ h1, deskF_no (by decide +kernel), x, tl, told, rfl, hx1.mono e4, hf.few, ⟨hf.lo, hf.hi⟩, Gives.mono q e4 h1⟩
    rw [if_neg (of_decide_eq_false hc)] at q
    replace hx1 := hx1.mono e4
    replace q := outcome.mono q e4 h1
    replace h1 := e4 _ _ h1
    clear hc
    refine q_when (et_test (ev_op (ev_var rfl) (ev_c (v := .int 5)) ev_eqI)) (fun hc H5 e5 => ?_) fun hc H5 e5 => ?_
    · rw [if_pos (of_decide_eq_true hc)] at q
      exact ⟨_, rfl, x, dx, _, rfl, e5 _ _ h1, deskF_no (by decide +kernel), x, tl, told, rfl, hx1.mono e5, hf.few, Gives.mono q e5 h1⟩
    rw [if_neg (of_decide_eq_false hc)] at q
    replace hx1 := hx1.mono e5
    replace q := outcome.mono q e5 h1
    replace h1 := e5 _ _ h1
    clear hc
    refine q_when (et_test (ev_op (ev_var rfl) (ev_c (v := .int 6)) ev_eqI)) (fun hc H6 e6 => ?_) fun hc H6 e6 => ?_
    · rw [if_pos (of_decide_eq_true hc)] at q
      exact ⟨_, rfl, x, dx, _, rfl, e6 _ _ h1, deskF_no (by decide +kernel), x, tl, told, rfl, hx1.mono e6, hf.few, Gives.mono q e6 h1⟩
    rw [if_neg (of_decide_eq_false hc)] at q
    exact ⟨_, rfl, x, dx, _, rfl, e6 _ _ h1, deskF_no (by decide +kernel), _, rfl, x, tl, told, number, rfl, hx1.mono e6, hf.few, outcome.mono q e6 h1⟩
/-! ### answered -/
def spAnswered (K : PySem.W.Frag) (a : Ad) : Sp := fun vs H Q _ => ∃ x r tl told row call number, vs = [.ref x, .int call, .int number, .ref r] ∧ AtDk a H x tl told ∧ Fine told ∧ SqL K H r (row.map V.int) ∧ row.length ≤ 400 ∧ Gives a H x (mStep told call number row).1 (mStep told call number row).2 Q
theorem ok_answered (T : Txt K mg a) : CallP P w K mg base CX0 10 "answered" P_answered (spAnswered K a) := by
  refine T.f_answered.ok sc_answered (fun vs H Q E h => ?_) fun f cdv A outer s H vs Q E hr h => ?_
  · obtain ⟨_, _, _, _, _, _, _, rfl, _⟩ := h
    rfl
  · obtain ⟨x, r, tl, told, row, call, number, rfl, hx, hf, hrow, hrl, q⟩ := h
    refine ⟨_, (pss_one (ps_try_as (i := 4) (tb := fun W => tRet (tMethS a.cK "answer" (spK_answer K a) (WE W) (tVar 0) (tCons (tVar 1) (tCons (tVar 2) (tCons (tVar 3) tNil))))) (ts := fun a0 cls d => tRet (tLst (tCons (tXf a0 cls d a.cR "refusal" (tVar 4)) tNil))) (Wout := fun _ _ _ _ => False) rfl rfl sc_answered.nd rfl rfl ⟨rfl, by decide, Or.inl T.g_R⟩ takes0
      (fun W pn xe tk _ => pss_one (ps_ret (by exact (pe_methPS (pv 0) T.cl_K (ok_K_answer T) (hr.mono (by decide)) (fun σ => passAt tk σ) (by exact (pa_cons (pv 1) (pa_cons (pv 2) (pa_cons (pv 3) pa_nil))))))))
      (fun a oe cls d pn hz hf => pss_one (ps_ret (by exact (pe_lst (pa_cons (pe_xf T.xf T.nr hz hf (pv 4)) pa_nil))))))), ?_⟩
    obtain ⟨⟨dx, h1⟩, _⟩ := id hx
    refine ⟨_, rfl, x, dx, _, rfl, h1, deskF_no (by decide +kernel), _, rfl, _, rfl, _, rfl, x, r, tl, told, row, call, number, rfl, hx, hf, hrow, hrl, ?_⟩
    unfold mStep at q
    cases hm : mAns told call number row with
    | inl n =>
      rw [hm] at q
      intro d H1 e1 hd
      refine ⟨true, T.er, fun _ a0 _ => ?_, fun q => Bool.noConfusion q⟩
      refine ⟨_, rfl, rfl, rfl, d, _, _, rfl, hd, lk_here, sz_of (by show 1 ≤ 100000; decide), fun u nu => ?_⟩
      exact Gives.one (tl := tl) (told := told) (out := [n]) q hx (fresh_back e1 nu) (e1.trans (Ex.new nu)) upd_same
    | inr u =>
      rw [hm] at q
      exact q
end
end Dv
namespace Dv
open PySem PySem.Spec PyProof.Rows L2 Evl
/-! ### a call's numbers -/
inductive Shape (c : List (List Int)) : Prop where
  | num (p n : Int) (e : PyFlat.put1 c = [p, n]) (i : inV (.int p) [.int 3, .int 7] = true) (g : argOf c = (p, n, []))
  | row (r : List Int) (e : PyFlat.put1 c = 2 :: (r.length : Int) :: r) (h : r.length ≤ 400) (g : argOf c = (2, 0, r))
  | one (p : Int) (e : PyFlat.put1 c = [p]) (i : inV (.int p) [.int 3, .int 7] = false) (n : ¬ p = 2) (g : argOf c = (p, 0, []))
theorem shape_of {c : List (List Int)} (f : Form c) : Shape c := by
  cases f with
  | begin_ => exact .one 1 rfl (by decide) (by decide) rfl
  | add r h => exact .row r (by show [2] ++ ((r.length : Int) :: (r ++ [])) = _; rw [List.append_nil]; rfl) h rfl
  | drop n => exact .num 3 n rfl (by decide) rfl
  | report => exact .one 4 rfl (by decide) (by decide) rfl
  | now => exact .one 5 rfl (by decide) (by decide) rfl
  | days => exact .one 6 rfl (by decide) (by decide) rfl
  | week k => exact .num 7 k rfl (by decide) rfl
theorem put1_pos {c : List (List Int)} (f : Form c) : 0 < (PyFlat.put1 c).length := by
  cases shape_of f with
  | num p n e _ _ => rw [e]; exact Nat.succ_pos _
  | row r e _ _ => rw [e]; exact Nat.succ_pos _
  | one p e _ _ _ => rw [e]; exact Nat.succ_pos _
theorem get_mid {A B C : List Int} (i : Nat) (z : Int) (h : B[i]? = some z) : (A ++ (B ++ C))[A.length + i]? = some z := by
  rw [List.getElem?_append_right (by omega), Nat.add_sub_cancel_left, List.getElem?_append_left (List.getElem?_eq_some_iff.mp h).1]
  exact h
theorem cut_mid (A r B : List V) : cutV (A ++ r ++ B) (some (A.length : Int)) (some ((A.length + r.length : Nat) : Int)) = r := by
  unfold cutV
  rw [HT.sIx_nat, HT.sIx_nat, List.length_append, List.length_append, Nat.min_eq_left (by omega), Nat.min_eq_left (by omega), Nat.add_sub_cancel_left, List.append_assoc, List.drop_left, List.take_left]
theorem fine_of {s : Kg70.Told} (h : WT s) : Fine (s.map toT) := by
  have e := end_T s
  have q := total_le s h.each
  have f := h.few
  exact ⟨by rw [List.length_map]; exact f, by rw [e]; omega, by rw [e]; omega⟩
section
variable {P : Program} {w : World} {K : PySem.W.Frag} {mg : Str → Option Value} {base : Heap} {a : Ad} {σ : L2.St} {H H' : Hp} {ta tb te tx td ty tv : TE} {x b t l : Addr} {E : XK} {ss : List S} {D : Ends} {tz tu tw ts : TS} {tt : TT}
theorem q_appZ {l : Addr} {xs : List V} {v : V} (hl : H l = some (.lst xs)) (ha : Ev ta σ H (.ref l)) (h : Ev te σ H v) (hz : xs.length < sizeLine) (k : ∀ H1, Ex H H1 → tz D σ (upd H1 l (.lst (xs ++ [v])))) :
    tSeq (tDrop (tBM K "list" rAppend ta (tCons te tNil))) tz D σ H := ha H (Ex.refl H) _ fun H1 e1 =>
  ⟨Or.inl ⟨rfl, xs, sq_of (e1 l _ hl)⟩, h H1 e1 _ fun H2 e2 => ⟨l, xs, v, rfl, rfl, e2 l _ (e1 l _ hl), hz, k H2 (e1.trans e2)⟩⟩
theorem s_extV {l p : Addr} {xs zs : List V} (hl : H l = some (.lst xs)) (ha : Ev ta σ H (.ref l)) (h : Ev te σ H (.ref p)) (hp : H p = some (.lst zs)) (hz : xs.length + zs.length ≤ sizeLine) (k : ∀ H1, Ex H H1 → D.nx σ (upd H1 l (.lst (xs ++ zs)))) :
    tDrop (tBM K "list" rExtend ta (tCons te tNil)) D σ H := ha H (Ex.refl H) _ fun H1 e1 =>
  ⟨Or.inl ⟨rfl, xs, sq_of (e1 l _ hl)⟩, h H1 e1 _ fun H2 e2 => ⟨l, p, xs, zs, rfl, rfl, e2 l _ (e1 l _ hl), e2 _ _ (e1 _ _ hp), hz, k H2 (e1.trans e2)⟩⟩
/-- an if whose ends meet at M -/
theorem q_ifJ {b : Bool} (M : L2.St → Hp → Prop) (k : ∀ σ' H', M σ' H' → tz D σ' H') (h : EvT tt σ H b) (h1 : b = true → ∀ H1, Ex H H1 → ∀ D' : Ends, (∀ σ' H', M σ' H' → D'.nx σ' H') → tu D' σ H1)
    (h2 : b = false → ∀ H1, Ex H H1 → ∀ D' : Ends, (∀ σ' H', M σ' H' → D'.nx σ' H') → tw D' σ H1) : tSeq (tIfS tt tu tw) tz D σ H :=
  s_if (D := { D with nx := tz D }) h (fun hb H1 e => h1 hb H1 e _ k) fun hb H1 e => h2 hb H1 e _ k
def spAnswers (K : PySem.W.Frag) : Sp := fun vs H Q _ => ∃ t ns, vs = [.ref t] ∧ SqL K H t (ns.map V.int) ∧ (∃ cs, Given ns cs) ∧ ∀ H' p, H' p = some (.lst ((PyKg70.answers ns).map V.int)) → Q (.ref p) H'
/-- how it stands behind the calls pre -/
structure At (a : Ad) (H0 : Hp) (x F : Addr) (pre : List (List (List Int))) (H : Hp) : Prop where
  ex : Ex H0 H
  nx : H0 x = none
  nF : H0 F = none
  ne : x ≠ F
  dk : ∃ tl, AtDk a H x tl ((behind [] pre).map toT) ∧ tl ≠ F
  fo : H F = some (.lst ((PyFlat.told (PyFlat.played Kg70Neutral.step [] pre)).map V.int))
theorem At.mono {H0 : Hp} {F : Addr} {pre : List (List (List Int))} (h : At a H0 x F pre H) (e : Ex H H') : At a H0 x F pre H' := by
  obtain ⟨tl, h1, h2⟩ := h.dk
  exact ⟨h.ex.trans e, h.nx, h.nF, h.ne, ⟨tl, h1.mono e, h2⟩, e _ _ h.fo⟩
theorem AtDk.updF {F tl : Addr} {told : List (Int × Int)} {xs ys : List V} (h : AtDk a H x tl told) (hF : H F = some (.lst xs)) (n1 : x ≠ F) (n2 : tl ≠ F) : AtDk a (upd H F (.lst ys)) x tl told := by
  obtain ⟨⟨dx, h1⟩, ts, h2, h3⟩ := h
  refine ⟨⟨dx, by rw [upd_ne n1]; exact h1⟩, ts, (by rw [upd_ne n2]; exact h2), h3.mono fun b t q => stT _ _ _ _ q ((Kp.refl H).lst hF)⟩
theorem len_answers : Len (spAnswers K) P_answers := fun vs H Q E h => by
  obtain ⟨_, _, rfl, _⟩ := h
  rfl
theorem body_answers (T : Txt K mg a) : Body P w K mg base N_answers "answers" s_answers 10 (spAnswers K) := by
  intro f cdv A outer s H vs Q E hr h
  · obtain ⟨t, ns, rfl, ht, ⟨cs, G⟩, q⟩ := h
    refine ⟨_, (pss_cons (ps_set (i := 1) sc_answers.nd rfl (Or.inl rfl) (pe_makeP0 (ok_K_init T) T.g_K (hr.mono (by decide)) rfl pass0))
    (pss_cons (ps_set (i := 2) sc_answers.nd rfl (Or.inl rfl) (pe_lst pa_nil))
    (pss_cons (ps_set (i := 3) sc_answers.nd rfl (Or.inl rfl) pe_int)
    (pss_cons (ps_while PassesOwn.never (pt_cmpR op_lt (pv 3) (pe_callB call_len_seq (by rfl) T.b_len PySem.boot_len (pa_cons (pv 0) pa_nil)) (nomark _))
    (pss_cons (ps_set (i := 4) sc_answers.nd rfl (Or.inl rfl) (pe_ix (r := rIxL K) ix_list (pv 0) (pv 3) (fun _ _ => rfl)))
    (pss_cons (ps_set (i := 5) sc_answers.nd rfl (Or.inl rfl) (pe_op op_add (pv 3) pe_int))
    (pss_cons (ps_set (i := 6) sc_answers.nd rfl (Or.inl rfl) pe_int)
    (pss_cons (ps_set (i := 7) sc_answers.nd rfl (Or.inl rfl) (pe_lst pa_nil))
    (pss_cons (ps_if (pt_cmpR op_in_seq (pv 4) (pe_glob (v := .ref a.wn) rfl T.g_WN rfl) rfl) (pss_cons (ps_set (i := 6) sc_answers.nd rfl (Or.inl rfl) (pe_ix (r := rIxL K) ix_list (pv 0) (pv 5) (fun _ _ => rfl)))
    (pss_one (ps_aug (i := 5) sc_answers.nd rfl (.inl rfl) pe_int ip_add))) (pss_one (ps_if (pt_cmpR op_eq (pv 4) (pe_gi T.c_ADD rfl) (nomark _)) (pss_cons (ps_set (i := 7) sc_answers.nd rfl (Or.inl rfl) (pe_slice sl_list (pv 0) (po_some (pe_op op_add (pv 5) pe_int)) (po_some (pe_op op_add (pe_op op_add (pv 5) pe_int) (pe_ix (r := rIxL K) ix_list (pv 0) (pv 5) (fun _ _ => rfl))))))
    (pss_one (ps_aug (i := 5) sc_answers.nd rfl (.inl rfl) (pe_op op_add pe_int (pe_ix (r := rIxL K) ix_list (pv 0) (pv 5) (fun _ _ => rfl))) ip_add))) pss_nil)))
    (pss_cons (ps_set (i := 3) sc_answers.nd rfl (Or.inl rfl) (pv 5))
    (pss_cons (ps_set (i := 8) sc_answers.nd rfl (Or.inl rfl) (pe_callP (ok_answered T) (hr.mono (by decide)) rfl pass0 (pa_cons (pv 1) (pa_cons (pv 4) (pa_cons (pv 6) (pa_cons (pv 7) pa_nil))))))
    (pss_cons (ps_expr (pe_bm PySem.F.plainAttrs_list PySem.F.slot_list_append PySem.F.type_list_append mt_append (pv 2) (pa_cons (pe_callB call_len_seq (by rfl) T.b_len PySem.boot_len (pa_cons (pv 8) pa_nil)) pa_nil)))
    (pss_one (ps_expr (pe_bm PySem.F.plainAttrs_list PySem.F.slot_list_extend PySem.F.type_list_extend mt_extend (pv 2) (pa_cons (pv 8) pa_nil)))))))))))))
    (pss_one (ps_ret (pv 2))))))), ?_⟩
    refine fun x dx nx nd ne => ⟨x, dx, rfl, upd_same, fun tl H1 nt hd keep => ⟨rfl, ?_⟩⟩
    have e1 : Ex H H1 := fun c o hc => keep c o (by rw [upd_ne (ne_of_none hc nx), upd_ne (ne_of_none hc nd)]; exact hc) (ne_of_none hc nx)
    have nxt : x ≠ tl := ne_lst (upd_same (a := x)) nt
    refine q_asgL (el_lst ea_nil (by show 0 ≤ 100000; decide)) fun F H2 nF e2 hF => ?_
    refine q_asg ev_c fun H3 e3 => ?_
    have nFH : H F = none := fresh_back e1 nF
    obtain ⟨⟨dx1, hd1⟩, ts1, hd2, hd3⟩ := id hd
    have hxF : x ≠ F := ne_lst hd1 nF
    have htF : tl ≠ F := ne_lst hd2 nF
    have A0 : At a H x F [] H3 := ⟨(e1.trans e2).trans e3, nx, nFH, hxF, ⟨tl, (hd.mono e2).mono e3, htF⟩, e3 _ _ hF⟩
    have hall : ∀ pre post : List (List (List Int)), cs = pre ++ post → (PyFlat.told (PyFlat.played Kg70Neutral.step [] pre)).length ≤ 10000000 := fun pre post e => by
      have h := G.few
      rw [G.ans, e, played_app, told_app, List.length_append] at h
      omega
    refine q_while (fun m σ' H' => ∃ pre post v4 v5 v6 v7 v8, cs = pre ++ post ∧ m = post.length ∧ σ' = [some (.ref t), some (.ref x), some (.ref F), some (.int ((PyFlat.put pre).length : Int)), v4, v5, v6, v7, v8] ∧ At a H x F pre H')
      cs.length ⟨[], cs, none, none, none, none, none, rfl, rfl, rfl, A0⟩ ?_
    rintro m σ H4 ⟨pre, post, v4, v5, v6, v7, v8, hsp, rfl, rfl, hat⟩
    have ht4 := ex_l hat.ex ht
    have hns : ns = PyFlat.put pre ++ PyFlat.put post := by rw [G.put, hsp, put_app]
    refine ⟨decide ((PyFlat.put pre).length < ns.length), et_test (ev_is (ev_op (ev_var rfl) (ev_len (ev_var rfl) ht4) rv_I0) ?_), fun hb H5 e5 => ?_, fun hb H5 e5 => ?_⟩
    · rw [List.length_map]
      exact congrArg V.bl (decide_eq_decide.mpr (by omega))
    · cases post with
      | nil =>
        exfalso
        have hb' := of_decide_eq_true hb
        rw [hns] at hb'
        have z : PyFlat.put ([] : List (List (List Int))) = [] := rfl
        rw [z, List.append_nil] at hb'
        exact Nat.lt_irrefl _ hb'
      | cons c post =>
        have hc : Form c := G.form c (by rw [hsp]; exact List.mem_append_right _ List.mem_cons_self)
        have hwt : WT (behind [] pre) := behind_wt pre [] WT.nil fun y hy => G.form y (by rw [hsp]; exact List.mem_append_left _ hy)
        have hns2 : ns = PyFlat.put pre ++ (PyFlat.put1 c ++ PyFlat.put post) := hns
        have hsp2 : cs = (pre ++ [c]) ++ post := by rw [hsp, List.append_assoc]; rfl
        have eput : PyFlat.put (pre ++ [c]) = PyFlat.put pre ++ PyFlat.put1 c := by
          rw [put_app]
          show PyFlat.put pre ++ (PyFlat.put1 c ++ []) = _
          rw [List.append_nil]
        have hat5 := hat.mono e5
        have ht5 := ex_l e5 ht4
        refine ⟨fun σ' H' => ∃ v4 v5 v6 v7 v8, σ' = [some (.ref t), some (.ref x), some (.ref F), some (.int ((PyFlat.put (pre ++ [c])).length : Int)), v4, v5, v6, v7, v8] ∧ At a H x F (pre ++ [c]) H',
          fun σ2 H2 ⟨v4, v5, v6, v7, v8, e, h⟩ => ⟨post.length, Nat.lt_succ_self _, pre ++ [c], post, v4, v5, v6, v7, v8, hsp2, rfl, e, h⟩, ?_⟩
        have step := step_is hc hwt
        have hget : ∀ (i : Nat) (z : Int) (y : Int), (PyFlat.put1 c)[i]? = some z → y = ((PyFlat.put pre).length : Int) + (i : Nat) → atI (ns.map V.int) y = some (.int z) := fun i z y h e =>
          atI_row (i := (PyFlat.put pre).length + i) (by omega) (by rw [hns2]; exact get_mid i z h)
        obtain ⟨call, hcall⟩ : ∃ call, (PyFlat.put1 c)[0]? = some call ∧ (argOf c).1 = call := by
          cases shape_of hc with
          | num p n e _ g => exact ⟨p, by rw [e]; rfl, by rw [g]⟩
          | row r e _ g => exact ⟨2, by rw [e]; rfl, by rw [g]⟩
          | one p e _ _ g => exact ⟨p, by rw [e]; rfl, by rw [g]⟩
        refine q_asg (ev_op (ev_var rfl) (ev_var rfl) (rv_ixL ht5 (hget 0 call _ hcall.1 (by omega)))) fun H6 e6 => ?_
        refine q_asg (ev_op (ev_var rfl) ev_c rv_I0) fun H7 e7 => ?_
        refine q_asg ev_c fun H8 e8 => ?_
        refine q_asgL (el_lst ea_nil (by show 0 ≤ 100000; decide)) fun r9 H9 n9 e9 g9 => ?_
        have e59 := ((e6.trans e7).trans e8).trans e9
        have hat9 := hat5.mono e59
        have ht9 := ex_l e59 ht5
        refine q_ifJ (M := fun σ' H' => ∃ r, σ' = [some (.ref t), some (.ref x), some (.ref F), some (.int ((PyFlat.put pre).length : Int)), some (.int call), some (.int ((PyFlat.put (pre ++ [c])).length : Int)), some (.int (argOf c).2.1), some (.ref r), v8] ∧ Ex H9 H' ∧ H' r = some (.lst ((argOf c).2.2.map V.int)) ∧ (argOf c).2.2.length ≤ 400)
          ?_ (et_test (ev_op (ev_var rfl) ev_c (rv_isT (T.wn _) rfl rfl))) (fun hi H10 e10 D' kD => ?_) fun hi H10 e10 D' kD => ?_
        · rintro σ H10 ⟨r, rfl, e10, hr10, hrl⟩
          have hat10 := hat9.mono e10
          refine q_asg (ev_var rfl) fun H11 e11 => ?_
          have hat11 := hat10.mono e11
          obtain ⟨tl5, hdk, htF5⟩ := hat11.dk
          refine ⟨_, rfl, _, rfl, _, rfl, _, rfl, x, r, tl5, _, (argOf c).2.2, call, (argOf c).2.1, rfl, hdk, fine_of hwt, sq_of (e11 _ _ hr10), hrl, fun p tl2 H12 np npx ht2 hd2 bt hp => ?_⟩
          rw [← hcall.2, step.1] at hd2 hp
          have eplay : PyFlat.told (PyFlat.played Kg70Neutral.step [] (pre ++ [c])) = PyFlat.told (PyFlat.played Kg70Neutral.step [] pre) ++ (((Kg70Neutral.step (behind [] pre) c).2.length : Int) :: (Kg70Neutral.step (behind [] pre) c).2) := by
            rw [played_app, told_app]
            refine congrArg _ ?_
            show (((Kg70Neutral.step (behind [] pre) c).2.length : Int) :: (Kg70Neutral.step (behind [] pre) c).2) ++ [] = _
            rw [List.append_nil]
          have ebeh : behind [] (pre ++ [c]) = (Kg70Neutral.step (behind [] pre) c).1 := by
            unfold behind
            rw [List.foldl_append]
            rfl
          have hlen := hall _ _ hsp2
          rw [eplay, List.length_append, List.length_cons] at hlen
          have hd2' : AtDk a H12 x tl2 ((Kg70Neutral.step (behind [] pre) c).1.map toT) := hd2
          have hp' : H12 p = some (.lst ((Kg70Neutral.step (behind [] pre) c).2.map V.int)) := hp
          clear hd2 hp
          rw [← ebeh] at hd2'
          have hFo := hat11.fo
          have hF12 := bt _ _ hFo hxF.symm
          have npF : p ≠ F := fun z => by rw [z, hFo] at np; cases np
          have ntF : tl2 ≠ F := by
            rcases ht2 with z | ⟨dz, z⟩
            · exact fun y => by rw [y, hFo] at z; cases z
            · obtain ⟨⟨dy, y⟩, _⟩ := hdk
              rw [y] at z
              have e2 : tl5 = tl2 := by
                unfold deskF at z
                injection z with z
                injection z with _ _ z
                injection z with z _
                injection z with _ z
                injection z
              rw [← e2]
              exact htF5
          have ex12 : Ex H H12 := fun b o hb => bt b o (hat11.ex b o hb) (ne_of_none hb nx)
          have es : sizeLine = 16777216 := rfl
          refine q_appZ hF12 (ev_var rfl) (ev_len (ev_var rfl) (sq_of hp')) (by rw [List.length_map, es]; omega) fun H13 e13 => ?_
          have hp13 : (upd H13 F (.lst ((PyFlat.told (PyFlat.played Kg70Neutral.step [] pre)).map V.int ++ [.int ((Kg70Neutral.step (behind [] pre) c).2.map V.int).length]))) p = some (.lst ((Kg70Neutral.step (behind [] pre) c).2.map V.int)) := by
            rw [upd_ne npF]
            exact e13 _ _ hp'
          refine s_extV (l := F) upd_same (ev_var rfl) (ev_var rfl) hp13 (by rw [List.length_append, List.length_map, List.length_map, es]; show _ + 1 + _ ≤ _; omega) fun H14 e14 => ?_
          have hdk13 := (hd2'.mono e13).updF (ys := (PyFlat.told (PyFlat.played Kg70Neutral.step [] pre)).map V.int ++ [.int ((Kg70Neutral.step (behind [] pre) c).2.map V.int).length]) (e13 _ _ hF12) hxF ntF
          refine ⟨_, _, _, _, _, rfl, Ex.upd ((Ex.upd (ex12.trans e13) nFH).trans e14) nFH, nx, nFH, hxF, ⟨tl2, (hdk13.mono e14).updF (e14 _ _ upd_same) hxF ntF, ntF⟩, ?_⟩
          rw [upd_same, eplay, List.map_append, List.map_cons, List.append_assoc, List.length_map]
          rfl
        · cases shape_of hc with
          | num p n e i g =>
            have ec : call = p := by rw [← hcall.2, g]
            subst ec
            have el : ((PyFlat.put (pre ++ [c])).length : Int) = ((PyFlat.put pre).length : Int) + 1 + 1 := by
              rw [eput, List.length_append, e]
              show (((PyFlat.put pre).length + 2 : Nat) : Int) = _
              omega
            refine q_asg (ev_op (ev_var rfl) (ev_var rfl) (rv_ixL (ex_l e10 ht9) (hget 1 n _ (by rw [e]; rfl) (by omega)))) fun H11 e11 => s_aug rfl ev_c fun H12 e12 => kD _ _ ⟨r9, ?_, (e10.trans e11).trans e12, ?_, ?_⟩
            · rw [el, g]
              rfl
            · rw [g]
              exact e12 _ _ (e11 _ _ (e10 _ _ g9))
            · rw [g]
              exact Nat.zero_le _
          | row r e h g =>
            have ec : call = 2 := by rw [← hcall.2, g]
            subst ec
            exact absurd hi (by decide)
          | one p e i n g =>
            have ec : call = p := by rw [← hcall.2, g]
            subst ec
            rw [i] at hi
            cases hi
        · refine s_if (et_test (ev_op (ev_var rfl) (ev_c (v := .int 2)) ev_eqI)) (fun hk H11 e11 => ?_) fun hk H11 e11 => ?_
          · have hk' := of_decide_eq_true hk
            have ht11 := ex_l (e10.trans e11) ht9
            cases shape_of hc with
            | num p n e i g =>
              have ec : call = p := by rw [← hcall.2, g]
              subst ec
              rw [i] at hi
              cases hi
            | row r e h g =>
              have ec : call = 2 := by rw [← hcall.2, g]
              subst ec
              have el : ((PyFlat.put (pre ++ [c])).length : Int) = ((PyFlat.put pre).length : Int) + 1 + (1 + (r.length : Int)) := by
                rw [eput, List.length_append, e]
                show (((PyFlat.put pre).length + (r.length + 1 + 1) : Nat) : Int) = _
                omega
              have hix : ∀ H', Ex H11 H' → RV (rIxL K) (.ref t) (.int (((PyFlat.put pre).length : Int) + 1)) H' (.int r.length) := fun H' e' => rv_ixL (ex_l e' ht11) (hget 1 r.length _ (by rw [e]; rfl) (by omega))
              refine q_asgL (xs := r.map V.int) (fun H12 e12 Q q => ?_) fun r2 H12 n12 e12 g12 => s_aug rfl (ev_op ev_c (ev_op (ev_var rfl) (ev_var rfl) (hix _ e12)) rv_I0) fun H13 e13 => kD _ _ ⟨r2, ?_, ((e10.trans e11).trans e12).trans e13, ?_, ?_⟩
              · have ecut : cutV (ns.map V.int) (some (((PyFlat.put pre).length + 2 : Nat) : Int)) (some (((PyFlat.put pre).length + 2 + r.length : Nat) : Int)) = r.map V.int := by
                  have h := cut_mid ((PyFlat.put pre ++ [2, (r.length : Int)]).map V.int) (r.map V.int) ((PyFlat.put post).map V.int)
                  have el2 : (PyFlat.put pre ++ [2, (r.length : Int)]).map V.int ++ r.map V.int ++ (PyFlat.put post).map V.int = ns.map V.int := by
                    rw [hns2, e, ← List.map_append, ← List.map_append, List.append_assoc, List.append_assoc]
                    rfl
                  have el3 : ((PyFlat.put pre ++ [2, (r.length : Int)]).map V.int).length = (PyFlat.put pre).length + 2 := by
                    rw [List.length_map, List.length_append]
                    rfl
                  rw [el2, el3, List.length_map] at h
                  exact h
                refine el_sl (lo := some (((PyFlat.put pre).length + 2 : Nat) : Int)) (hi := some (((PyFlat.put pre).length + 2 + r.length : Nat) : Int)) (ev_var rfl) (eo_some (ev_is (ev_op (ev_var rfl) ev_c rv_I0) (congrArg V.int (by omega)))) (eo_some (ev_is (ev_op (ev_op (ev_var rfl) ev_c rv_I0) (ev_op (ev_var rfl) (ev_var rfl) (hix _ (Ex.refl _))) rv_I0) (congrArg V.int (by omega)))) ht11 H12 e12 Q fun p H13 np e13 hp => ?_
                rw [ecut] at hp
                exact q p H13 np e13 hp
              · rw [el, g]
                rfl
              · rw [g]
                exact e13 _ _ g12
              · rw [g]
                exact h
            | one p e i n g =>
              have ec : call = p := by rw [← hcall.2, g]
              exact absurd (ec.symm.trans hk') n
          · have hk' := of_decide_eq_false hk
            cases shape_of hc with
            | num p n e i g =>
              have ec : call = p := by rw [← hcall.2, g]
              subst ec
              rw [i] at hi
              cases hi
            | row r e h g =>
              exact absurd (by rw [← hcall.2, g]) hk'
            | one p e i n g =>
              refine kD _ _ ⟨r9, ?_, e10.trans e11, ?_, ?_⟩
              · have el : ((PyFlat.put (pre ++ [c])).length : Int) = ((PyFlat.put pre).length : Int) + 1 := by
                  rw [eput, List.length_append, e]
                  rfl
                rw [el, g]
                rfl
              · rw [g]
                exact e11 _ _ (e10 _ _ g9)
              · rw [g]
                exact Nat.zero_le _
    · cases post with
      | cons c post =>
        exfalso
        have hb' := of_decide_eq_false hb
        have hc : Form c := G.form c (by rw [hsp]; exact List.mem_append_right _ List.mem_cons_self)
        have hp := put1_pos hc
        have z : PyFlat.put (c :: post) = PyFlat.put1 c ++ PyFlat.put post := rfl
        rw [hns, z, List.length_append, List.length_append] at hb'
        omega
      | nil =>
        rw [List.append_nil] at hsp
        subst hsp
        refine s_ret (ev_var rfl) fun H6 e6 => q H6 F ?_
        rw [G.ans]
        exact e6 _ _ (e5 _ _ hat.fo)
end
end Dv
namespace Dv
open PySem PySem.Spec PyProof.Rows L2 Evl
/-! ### what the top has written, fact by fact (printed by gen.py) -/
section
variable {K : PySem.W.Frag} {h : Heap} {mg : Str → Option Value}
theorem bi_S_init {f : Addr} {fd : FuncData} {x q : Str} (F : Fun K x q s_S_init f fd) : Binds K fd P_S_init [] := F.binds (ps := P_S_init) fun _ _ _ _ _ _ us hl => match us, hl with | [_, _, _, _], _ => rfl
theorem mk_S_init {C : Addr} {f : Addr} {od an : Option Addr} {sl : Array (Option Value)} {oc kV dc pm cd ct : Value} (m : PySem.W.makesIn K C = true) (kc : PySem.W.keepIn K (.ref C) = true) (a : PySem.W.findIn K (.ref C) "__init__" = some (some (.ref f))) (i : PySem.W.isFn K (.ref f) = true) (l : K.lookup f = some ⟨oc, od, .func (PySem.W.fnOf "__init__" "Stretch.__init__" (defArgs s_S_init) (defBody s_S_init) (defScope s_S_init) .none kV dc pm an cd ct), sl⟩) (c : PySem.W.codeIn K cd "Stretch.__init__" = true) (k : PySem.W.keepIn K (.ref f) = true) : DefI K C "Stretch.__init__" s_S_init P_S_init := ⟨f, _, fun_mk (st := s_S_init) l c k, ⟨m, a, i, kc⟩, bi_S_init (fun_mk (st := s_S_init) l c k)⟩
theorem bi_S_minutes {f : Addr} {fd : FuncData} {x q : Str} (F : Fun K x q s_S_minutes f fd) : Binds K fd P_S_minutes [] := F.binds (ps := P_S_minutes) fun _ _ _ _ _ _ us hl => match us, hl with | [_], _ => rfl
theorem mk_S_minutes {C : Addr} {f : Addr} {od an : Option Addr} {sl : Array (Option Value)} {oc kV dc pm cd ct : Value} (a : PySem.W.findIn K (.ref C) "minutes" = some (some (.ref f))) (i : PySem.W.isFn K (.ref f) = true) (l : K.lookup f = some ⟨oc, od, .func (PySem.W.fnOf "minutes" "Stretch.minutes" (defArgs s_S_minutes) (defBody s_S_minutes) (defScope s_S_minutes) .none kV dc pm an cd ct), sl⟩) (c : PySem.W.codeIn K cd "Stretch.minutes" = true) (k : PySem.W.keepIn K (.ref f) = true) : DefM K C "minutes" "Stretch.minutes" s_S_minutes P_S_minutes := ⟨f, _, fun_mk (st := s_S_minutes) l c k, ⟨a, i, k⟩, bi_S_minutes (fun_mk (st := s_S_minutes) l c k)⟩
theorem bi_S_is_rest {f : Addr} {fd : FuncData} {x q : Str} (F : Fun K x q s_S_is_rest f fd) : Binds K fd P_S_is_rest [] := F.binds (ps := P_S_is_rest) fun _ _ _ _ _ _ us hl => match us, hl with | [_, _], _ => rfl
theorem mk_S_is_rest {C : Addr} {f : Addr} {od an : Option Addr} {sl : Array (Option Value)} {oc kV dc pm cd ct : Value} (a : PySem.W.findIn K (.ref C) "is_rest" = some (some (.ref f))) (i : PySem.W.isFn K (.ref f) = true) (l : K.lookup f = some ⟨oc, od, .func (PySem.W.fnOf "is_rest" "Stretch.is_rest" (defArgs s_S_is_rest) (defBody s_S_is_rest) (defScope s_S_is_rest) .none kV dc pm an cd ct), sl⟩) (c : PySem.W.codeIn K cd "Stretch.is_rest" = true) (k : PySem.W.keepIn K (.ref f) = true) : DefM K C "is_rest" "Stretch.is_rest" s_S_is_rest P_S_is_rest := ⟨f, _, fun_mk (st := s_S_is_rest) l c k, ⟨a, i, k⟩, bi_S_is_rest (fun_mk (st := s_S_is_rest) l c k)⟩
theorem bi_B_init {f : Addr} {fd : FuncData} {x q : Str} (F : Fun K x q s_B_init f fd) : Binds K fd P_B_init [] := F.binds (ps := P_B_init) fun _ _ _ _ _ _ us hl => match us, hl with | [_, _, _, _], _ => rfl
theorem mk_B_init {C : Addr} {f : Addr} {od an : Option Addr} {sl : Array (Option Value)} {oc kV dc pm cd ct : Value} (m : PySem.W.makesIn K C = true) (kc : PySem.W.keepIn K (.ref C) = true) (a : PySem.W.findIn K (.ref C) "__init__" = some (some (.ref f))) (i : PySem.W.isFn K (.ref f) = true) (l : K.lookup f = some ⟨oc, od, .func (PySem.W.fnOf "__init__" "Breach.__init__" (defArgs s_B_init) (defBody s_B_init) (defScope s_B_init) .none kV dc pm an cd ct), sl⟩) (c : PySem.W.codeIn K cd "Breach.__init__" = true) (k : PySem.W.keepIn K (.ref f) = true) : DefI K C "Breach.__init__" s_B_init P_B_init := ⟨f, _, fun_mk (st := s_B_init) l c k, ⟨m, a, i, kc⟩, bi_B_init (fun_mk (st := s_B_init) l c k)⟩
theorem bi_B_key {f : Addr} {fd : FuncData} {x q : Str} (F : Fun K x q s_B_key f fd) : Binds K fd P_B_key [] := F.binds (ps := P_B_key) fun _ _ _ _ _ _ us hl => match us, hl with | [_], _ => rfl
theorem mk_B_key {C : Addr} {f : Addr} {od an : Option Addr} {sl : Array (Option Value)} {oc kV dc pm cd ct : Value} (a : PySem.W.findIn K (.ref C) "key" = some (some (.ref f))) (i : PySem.W.isFn K (.ref f) = true) (l : K.lookup f = some ⟨oc, od, .func (PySem.W.fnOf "key" "Breach.key" (defArgs s_B_key) (defBody s_B_key) (defScope s_B_key) .none kV dc pm an cd ct), sl⟩) (c : PySem.W.codeIn K cd "Breach.key" = true) (k : PySem.W.keepIn K (.ref f) = true) : DefM K C "key" "Breach.key" s_B_key P_B_key := ⟨f, _, fun_mk (st := s_B_key) l c k, ⟨a, i, k⟩, bi_B_key (fun_mk (st := s_B_key) l c k)⟩
theorem bi_stretches_of {f : Addr} {fd : FuncData} {x q : Str} (F : Fun K x q s_stretches_of f fd) : Binds K fd P_stretches_of [] := F.binds (ps := P_stretches_of) fun _ _ _ _ _ _ us hl => match us, hl with | [_], _ => rfl
theorem mk_stretches_of {f : Addr} {od an : Option Addr} {sl : Array (Option Value)} {oc kV dc pm cd ct : Value} (X : K.In h) (G : h.Ns mainGlobals mg) (a : PySem.W.nsIn K mainGlobals "stretches_of" = some (some (.ref f))) (l : K.lookup f = some ⟨oc, od, .func (PySem.W.fnOf "stretches_of" "stretches_of" (defArgs s_stretches_of) (defBody s_stretches_of) (defScope s_stretches_of) .none kV dc pm an cd ct), sl⟩) (c : PySem.W.codeIn K cd "stretches_of" = true) (k : PySem.W.keepIn K (.ref f) = true) : DefF K mg "stretches_of" s_stretches_of P_stretches_of := ⟨f, _, fun_mk (st := s_stretches_of) l c k, PySem.W.mg_of X G a, bi_stretches_of (fun_mk (st := s_stretches_of) l c k)⟩
theorem bi_end_of {f : Addr} {fd : FuncData} {x q : Str} (F : Fun K x q s_end_of f fd) : Binds K fd P_end_of [] := F.binds (ps := P_end_of) fun _ _ _ _ _ _ us hl => match us, hl with | [_], _ => rfl
theorem mk_end_of {f : Addr} {od an : Option Addr} {sl : Array (Option Value)} {oc kV dc pm cd ct : Value} (X : K.In h) (G : h.Ns mainGlobals mg) (a : PySem.W.nsIn K mainGlobals "end_of" = some (some (.ref f))) (l : K.lookup f = some ⟨oc, od, .func (PySem.W.fnOf "end_of" "end_of" (defArgs s_end_of) (defBody s_end_of) (defScope s_end_of) .none kV dc pm an cd ct), sl⟩) (c : PySem.W.codeIn K cd "end_of" = true) (k : PySem.W.keepIn K (.ref f) = true) : DefF K mg "end_of" s_end_of P_end_of := ⟨f, _, fun_mk (st := s_end_of) l c k, PySem.W.mg_of X G a, bi_end_of (fun_mk (st := s_end_of) l c k)⟩
theorem bi_first_work {f : Addr} {fd : FuncData} {x q : Str} (F : Fun K x q s_first_work f fd) : Binds K fd P_first_work [] := F.binds (ps := P_first_work) fun _ _ _ _ _ _ us hl => match us, hl with | [_], _ => rfl
theorem mk_first_work {f : Addr} {od an : Option Addr} {sl : Array (Option Value)} {oc kV dc pm cd ct : Value} (X : K.In h) (G : h.Ns mainGlobals mg) (a : PySem.W.nsIn K mainGlobals "first_work" = some (some (.ref f))) (l : K.lookup f = some ⟨oc, od, .func (PySem.W.fnOf "first_work" "first_work" (defArgs s_first_work) (defBody s_first_work) (defScope s_first_work) .none kV dc pm an cd ct), sl⟩) (c : PySem.W.codeIn K cd "first_work" = true) (k : PySem.W.keepIn K (.ref f) = true) : DefF K mg "first_work" s_first_work P_first_work := ⟨f, _, fun_mk (st := s_first_work) l c k, PySem.W.mg_of X G a, bi_first_work (fun_mk (st := s_first_work) l c k)⟩
theorem bi_behind_work {f : Addr} {fd : FuncData} {x q : Str} (F : Fun K x q s_behind_work f fd) : Binds K fd P_behind_work [] := F.binds (ps := P_behind_work) fun _ _ _ _ _ _ us hl => match us, hl with | [_], _ => rfl
theorem mk_behind_work {f : Addr} {od an : Option Addr} {sl : Array (Option Value)} {oc kV dc pm cd ct : Value} (X : K.In h) (G : h.Ns mainGlobals mg) (a : PySem.W.nsIn K mainGlobals "behind_work" = some (some (.ref f))) (l : K.lookup f = some ⟨oc, od, .func (PySem.W.fnOf "behind_work" "behind_work" (defArgs s_behind_work) (defBody s_behind_work) (defScope s_behind_work) .none kV dc pm an cd ct), sl⟩) (c : PySem.W.codeIn K cd "behind_work" = true) (k : PySem.W.keepIn K (.ref f) = true) : DefF K mg "behind_work" s_behind_work P_behind_work := ⟨f, _, fun_mk (st := s_behind_work) l c k, PySem.W.mg_of X G a, bi_behind_work (fun_mk (st := s_behind_work) l c k)⟩
theorem bi_driving_in {f : Addr} {fd : FuncData} {x q : Str} (F : Fun K x q s_driving_in f fd) : Binds K fd P_driving_in [] := F.binds (ps := P_driving_in) fun _ _ _ _ _ _ us hl => match us, hl with | [_, _, _], _ => rfl
theorem mk_driving_in {f : Addr} {od an : Option Addr} {sl : Array (Option Value)} {oc kV dc pm cd ct : Value} (X : K.In h) (G : h.Ns mainGlobals mg) (a : PySem.W.nsIn K mainGlobals "driving_in" = some (some (.ref f))) (l : K.lookup f = some ⟨oc, od, .func (PySem.W.fnOf "driving_in" "driving_in" (defArgs s_driving_in) (defBody s_driving_in) (defScope s_driving_in) .none kV dc pm an cd ct), sl⟩) (c : PySem.W.codeIn K cd "driving_in" = true) (k : PySem.W.keepIn K (.ref f) = true) : DefF K mg "driving_in" s_driving_in P_driving_in := ⟨f, _, fun_mk (st := s_driving_in) l c k, PySem.W.mg_of X G a, bi_driving_in (fun_mk (st := s_driving_in) l c k)⟩
theorem bi_driving_in_week {f : Addr} {fd : FuncData} {x q : Str} (F : Fun K x q s_driving_in_week f fd) : Binds K fd P_driving_in_week [] := F.binds (ps := P_driving_in_week) fun _ _ _ _ _ _ us hl => match us, hl with | [_, _], _ => rfl
theorem mk_driving_in_week {f : Addr} {od an : Option Addr} {sl : Array (Option Value)} {oc kV dc pm cd ct : Value} (X : K.In h) (G : h.Ns mainGlobals mg) (a : PySem.W.nsIn K mainGlobals "driving_in_week" = some (some (.ref f))) (l : K.lookup f = some ⟨oc, od, .func (PySem.W.fnOf "driving_in_week" "driving_in_week" (defArgs s_driving_in_week) (defBody s_driving_in_week) (defScope s_driving_in_week) .none kV dc pm an cd ct), sl⟩) (c : PySem.W.codeIn K cd "driving_in_week" = true) (k : PySem.W.keepIn K (.ref f) = true) : DefF K mg "driving_in_week" s_driving_in_week P_driving_in_week := ⟨f, _, fun_mk (st := s_driving_in_week) l c k, PySem.W.mg_of X G a, bi_driving_in_week (fun_mk (st := s_driving_in_week) l c k)⟩
theorem bi_Br_init {f : Addr} {fd : FuncData} {x q : Str} (F : Fun K x q s_Br_init f fd) : Binds K fd P_Br_init [] := F.binds (ps := P_Br_init) fun _ _ _ _ _ _ us hl => match us, hl with | [_], _ => rfl
theorem mk_Br_init {C : Addr} {f : Addr} {od an : Option Addr} {sl : Array (Option Value)} {oc kV dc pm cd ct : Value} (m : PySem.W.makesIn K C = true) (kc : PySem.W.keepIn K (.ref C) = true) (a : PySem.W.findIn K (.ref C) "__init__" = some (some (.ref f))) (i : PySem.W.isFn K (.ref f) = true) (l : K.lookup f = some ⟨oc, od, .func (PySem.W.fnOf "__init__" "Breaks.__init__" (defArgs s_Br_init) (defBody s_Br_init) (defScope s_Br_init) .none kV dc pm an cd ct), sl⟩) (c : PySem.W.codeIn K cd "Breaks.__init__" = true) (k : PySem.W.keepIn K (.ref f) = true) : DefI K C "Breaks.__init__" s_Br_init P_Br_init := ⟨f, _, fun_mk (st := s_Br_init) l c k, ⟨m, a, i, kc⟩, bi_Br_init (fun_mk (st := s_Br_init) l c k)⟩
theorem bi_Br_close {f : Addr} {fd : FuncData} {x q : Str} (F : Fun K x q s_Br_close f fd) : Binds K fd P_Br_close [] := F.binds (ps := P_Br_close) fun _ _ _ _ _ _ us hl => match us, hl with | [_], _ => rfl
theorem mk_Br_close {C : Addr} {f : Addr} {od an : Option Addr} {sl : Array (Option Value)} {oc kV dc pm cd ct : Value} (a : PySem.W.findIn K (.ref C) "close" = some (some (.ref f))) (i : PySem.W.isFn K (.ref f) = true) (l : K.lookup f = some ⟨oc, od, .func (PySem.W.fnOf "close" "Breaks.close" (defArgs s_Br_close) (defBody s_Br_close) (defScope s_Br_close) .none kV dc pm an cd ct), sl⟩) (c : PySem.W.codeIn K cd "Breaks.close" = true) (k : PySem.W.keepIn K (.ref f) = true) : DefM K C "close" "Breaks.close" s_Br_close P_Br_close := ⟨f, _, fun_mk (st := s_Br_close) l c k, ⟨a, i, k⟩, bi_Br_close (fun_mk (st := s_Br_close) l c k)⟩
theorem bi_Br_take_rest {f : Addr} {fd : FuncData} {x q : Str} (F : Fun K x q s_Br_take_rest f fd) : Binds K fd P_Br_take_rest [] := F.binds (ps := P_Br_take_rest) fun _ _ _ _ _ _ us hl => match us, hl with | [_, _], _ => rfl
theorem mk_Br_take_rest {C : Addr} {f : Addr} {od an : Option Addr} {sl : Array (Option Value)} {oc kV dc pm cd ct : Value} (a : PySem.W.findIn K (.ref C) "take_rest" = some (some (.ref f))) (i : PySem.W.isFn K (.ref f) = true) (l : K.lookup f = some ⟨oc, od, .func (PySem.W.fnOf "take_rest" "Breaks.take_rest" (defArgs s_Br_take_rest) (defBody s_Br_take_rest) (defScope s_Br_take_rest) .none kV dc pm an cd ct), sl⟩) (c : PySem.W.codeIn K cd "Breaks.take_rest" = true) (k : PySem.W.keepIn K (.ref f) = true) : DefM K C "take_rest" "Breaks.take_rest" s_Br_take_rest P_Br_take_rest := ⟨f, _, fun_mk (st := s_Br_take_rest) l c k, ⟨a, i, k⟩, bi_Br_take_rest (fun_mk (st := s_Br_take_rest) l c k)⟩
theorem bi_Br_drive {f : Addr} {fd : FuncData} {x q : Str} (F : Fun K x q s_Br_drive f fd) : Binds K fd P_Br_drive [] := F.binds (ps := P_Br_drive) fun _ _ _ _ _ _ us hl => match us, hl with | [_, _], _ => rfl
theorem mk_Br_drive {C : Addr} {f : Addr} {od an : Option Addr} {sl : Array (Option Value)} {oc kV dc pm cd ct : Value} (a : PySem.W.findIn K (.ref C) "drive" = some (some (.ref f))) (i : PySem.W.isFn K (.ref f) = true) (l : K.lookup f = some ⟨oc, od, .func (PySem.W.fnOf "drive" "Breaks.drive" (defArgs s_Br_drive) (defBody s_Br_drive) (defScope s_Br_drive) .none kV dc pm an cd ct), sl⟩) (c : PySem.W.codeIn K cd "Breaks.drive" = true) (k : PySem.W.keepIn K (.ref f) = true) : DefM K C "drive" "Breaks.drive" s_Br_drive P_Br_drive := ⟨f, _, fun_mk (st := s_Br_drive) l c k, ⟨a, i, k⟩, bi_Br_drive (fun_mk (st := s_Br_drive) l c k)⟩
theorem bi_Br_take {f : Addr} {fd : FuncData} {x q : Str} (F : Fun K x q s_Br_take f fd) : Binds K fd P_Br_take [] := F.binds (ps := P_Br_take) fun _ _ _ _ _ _ us hl => match us, hl with | [_, _], _ => rfl
theorem mk_Br_take {C : Addr} {f : Addr} {od an : Option Addr} {sl : Array (Option Value)} {oc kV dc pm cd ct : Value} (a : PySem.W.findIn K (.ref C) "take" = some (some (.ref f))) (i : PySem.W.isFn K (.ref f) = true) (l : K.lookup f = some ⟨oc, od, .func (PySem.W.fnOf "take" "Breaks.take" (defArgs s_Br_take) (defBody s_Br_take) (defScope s_Br_take) .none kV dc pm an cd ct), sl⟩) (c : PySem.W.codeIn K cd "Breaks.take" = true) (k : PySem.W.keepIn K (.ref f) = true) : DefM K C "take" "Breaks.take" s_Br_take P_Br_take := ⟨f, _, fun_mk (st := s_Br_take) l c k, ⟨a, i, k⟩, bi_Br_take (fun_mk (st := s_Br_take) l c k)⟩
theorem bi_breaks_of {f : Addr} {fd : FuncData} {x q : Str} (F : Fun K x q s_breaks_of f fd) : Binds K fd P_breaks_of [] := F.binds (ps := P_breaks_of) fun _ _ _ _ _ _ us hl => match us, hl with | [_], _ => rfl
theorem mk_breaks_of {f : Addr} {od an : Option Addr} {sl : Array (Option Value)} {oc kV dc pm cd ct : Value} (X : K.In h) (G : h.Ns mainGlobals mg) (a : PySem.W.nsIn K mainGlobals "breaks_of" = some (some (.ref f))) (l : K.lookup f = some ⟨oc, od, .func (PySem.W.fnOf "breaks_of" "breaks_of" (defArgs s_breaks_of) (defBody s_breaks_of) (defScope s_breaks_of) .none kV dc pm an cd ct), sl⟩) (c : PySem.W.codeIn K cd "breaks_of" = true) (k : PySem.W.keepIn K (.ref f) = true) : DefF K mg "breaks_of" s_breaks_of P_breaks_of := ⟨f, _, fun_mk (st := s_breaks_of) l c k, PySem.W.mg_of X G a, bi_breaks_of (fun_mk (st := s_breaks_of) l c k)⟩
theorem bi_break_breaches {f : Addr} {fd : FuncData} {x q : Str} (F : Fun K x q s_break_breaches f fd) : Binds K fd P_break_breaches [] := F.binds (ps := P_break_breaches) fun _ _ _ _ _ _ us hl => match us, hl with | [_], _ => rfl
theorem mk_break_breaches {f : Addr} {od an : Option Addr} {sl : Array (Option Value)} {oc kV dc pm cd ct : Value} (X : K.In h) (G : h.Ns mainGlobals mg) (a : PySem.W.nsIn K mainGlobals "break_breaches" = some (some (.ref f))) (l : K.lookup f = some ⟨oc, od, .func (PySem.W.fnOf "break_breaches" "break_breaches" (defArgs s_break_breaches) (defBody s_break_breaches) (defScope s_break_breaches) .none kV dc pm an cd ct), sl⟩) (c : PySem.W.codeIn K cd "break_breaches" = true) (k : PySem.W.keepIn K (.ref f) = true) : DefF K mg "break_breaches" s_break_breaches P_break_breaches := ⟨f, _, fun_mk (st := s_break_breaches) l c k, PySem.W.mg_of X G a, bi_break_breaches (fun_mk (st := s_break_breaches) l c k)⟩
theorem bi_D_init {f : Addr} {fd : FuncData} {x q : Str} (F : Fun K x q s_D_init f fd) : Binds K fd P_D_init [] := F.binds (ps := P_D_init) fun _ _ _ _ _ _ us hl => match us, hl with | [_, _], _ => rfl
theorem mk_D_init {C : Addr} {f : Addr} {od an : Option Addr} {sl : Array (Option Value)} {oc kV dc pm cd ct : Value} (m : PySem.W.makesIn K C = true) (kc : PySem.W.keepIn K (.ref C) = true) (a : PySem.W.findIn K (.ref C) "__init__" = some (some (.ref f))) (i : PySem.W.isFn K (.ref f) = true) (l : K.lookup f = some ⟨oc, od, .func (PySem.W.fnOf "__init__" "Day.__init__" (defArgs s_D_init) (defBody s_D_init) (defScope s_D_init) .none kV dc pm an cd ct), sl⟩) (c : PySem.W.codeIn K cd "Day.__init__" = true) (k : PySem.W.keepIn K (.ref f) = true) : DefI K C "Day.__init__" s_D_init P_D_init := ⟨f, _, fun_mk (st := s_D_init) l c k, ⟨m, a, i, kc⟩, bi_D_init (fun_mk (st := s_D_init) l c k)⟩
theorem bi_D_counted {f : Addr} {fd : FuncData} {x q : Str} (F : Fun K x q s_D_counted f fd) : Binds K fd P_D_counted [] := F.binds (ps := P_D_counted) fun _ _ _ _ _ _ us hl => match us, hl with | [_], _ => rfl
theorem mk_D_counted {C : Addr} {f : Addr} {od an : Option Addr} {sl : Array (Option Value)} {oc kV dc pm cd ct : Value} (a : PySem.W.findIn K (.ref C) "counted" = some (some (.ref f))) (i : PySem.W.isFn K (.ref f) = true) (l : K.lookup f = some ⟨oc, od, .func (PySem.W.fnOf "counted" "Day.counted" (defArgs s_D_counted) (defBody s_D_counted) (defScope s_D_counted) .none kV dc pm an cd ct), sl⟩) (c : PySem.W.codeIn K cd "Day.counted" = true) (k : PySem.W.keepIn K (.ref f) = true) : DefM K C "counted" "Day.counted" s_D_counted P_D_counted := ⟨f, _, fun_mk (st := s_D_counted) l c k, ⟨a, i, k⟩, bi_D_counted (fun_mk (st := s_D_counted) l c k)⟩
theorem bi_D_state {f : Addr} {fd : FuncData} {x q : Str} (F : Fun K x q s_D_state f fd) : Binds K fd P_D_state [] := F.binds (ps := P_D_state) fun _ _ _ _ _ _ us hl => match us, hl with | [_, _], _ => rfl
theorem mk_D_state {C : Addr} {f : Addr} {od an : Option Addr} {sl : Array (Option Value)} {oc kV dc pm cd ct : Value} (a : PySem.W.findIn K (.ref C) "state" = some (some (.ref f))) (i : PySem.W.isFn K (.ref f) = true) (l : K.lookup f = some ⟨oc, od, .func (PySem.W.fnOf "state" "Day.state" (defArgs s_D_state) (defBody s_D_state) (defScope s_D_state) .none kV dc pm an cd ct), sl⟩) (c : PySem.W.codeIn K cd "Day.state" = true) (k : PySem.W.keepIn K (.ref f) = true) : DefM K C "state" "Day.state" s_D_state P_D_state := ⟨f, _, fun_mk (st := s_D_state) l c k, ⟨a, i, k⟩, bi_D_state (fun_mk (st := s_D_state) l c k)⟩
theorem bi_days_of {f : Addr} {fd : FuncData} {x q : Str} (F : Fun K x q s_days_of f fd) : Binds K fd P_days_of [] := F.binds (ps := P_days_of) fun _ _ _ _ _ _ us hl => match us, hl with | [_], _ => rfl
theorem mk_days_of {f : Addr} {od an : Option Addr} {sl : Array (Option Value)} {oc kV dc pm cd ct : Value} (X : K.In h) (G : h.Ns mainGlobals mg) (a : PySem.W.nsIn K mainGlobals "days_of" = some (some (.ref f))) (l : K.lookup f = some ⟨oc, od, .func (PySem.W.fnOf "days_of" "days_of" (defArgs s_days_of) (defBody s_days_of) (defScope s_days_of) .none kV dc pm an cd ct), sl⟩) (c : PySem.W.codeIn K cd "days_of" = true) (k : PySem.W.keepIn K (.ref f) = true) : DefF K mg "days_of" s_days_of P_days_of := ⟨f, _, fun_mk (st := s_days_of) l c k, PySem.W.mg_of X G a, bi_days_of (fun_mk (st := s_days_of) l c k)⟩
theorem bi_driving_breaches {f : Addr} {fd : FuncData} {x q : Str} (F : Fun K x q s_driving_breaches f fd) : Binds K fd P_driving_breaches [] := F.binds (ps := P_driving_breaches) fun _ _ _ _ _ _ us hl => match us, hl with | [_], _ => rfl
theorem mk_driving_breaches {f : Addr} {od an : Option Addr} {sl : Array (Option Value)} {oc kV dc pm cd ct : Value} (X : K.In h) (G : h.Ns mainGlobals mg) (a : PySem.W.nsIn K mainGlobals "driving_breaches" = some (some (.ref f))) (l : K.lookup f = some ⟨oc, od, .func (PySem.W.fnOf "driving_breaches" "driving_breaches" (defArgs s_driving_breaches) (defBody s_driving_breaches) (defScope s_driving_breaches) .none kV dc pm an cd ct), sl⟩) (c : PySem.W.codeIn K cd "driving_breaches" = true) (k : PySem.W.keepIn K (.ref f) = true) : DefF K mg "driving_breaches" s_driving_breaches P_driving_breaches := ⟨f, _, fun_mk (st := s_driving_breaches) l c k, PySem.W.mg_of X G a, bi_driving_breaches (fun_mk (st := s_driving_breaches) l c k)⟩
theorem bi_rest_breaches {f : Addr} {fd : FuncData} {x q : Str} (F : Fun K x q s_rest_breaches f fd) : Binds K fd P_rest_breaches [] := F.binds (ps := P_rest_breaches) fun _ _ _ _ _ _ us hl => match us, hl with | [_, _], _ => rfl
theorem mk_rest_breaches {f : Addr} {od an : Option Addr} {sl : Array (Option Value)} {oc kV dc pm cd ct : Value} (X : K.In h) (G : h.Ns mainGlobals mg) (a : PySem.W.nsIn K mainGlobals "rest_breaches" = some (some (.ref f))) (l : K.lookup f = some ⟨oc, od, .func (PySem.W.fnOf "rest_breaches" "rest_breaches" (defArgs s_rest_breaches) (defBody s_rest_breaches) (defScope s_rest_breaches) .none kV dc pm an cd ct), sl⟩) (c : PySem.W.codeIn K cd "rest_breaches" = true) (k : PySem.W.keepIn K (.ref f) = true) : DefF K mg "rest_breaches" s_rest_breaches P_rest_breaches := ⟨f, _, fun_mk (st := s_rest_breaches) l c k, PySem.W.mg_of X G a, bi_rest_breaches (fun_mk (st := s_rest_breaches) l c k)⟩
theorem bi_short_breaches {f : Addr} {fd : FuncData} {x q : Str} (F : Fun K x q s_short_breaches f fd) : Binds K fd P_short_breaches [] := F.binds (ps := P_short_breaches) fun _ _ _ _ _ _ us hl => match us, hl with | [_, _], _ => rfl
theorem mk_short_breaches {f : Addr} {od an : Option Addr} {sl : Array (Option Value)} {oc kV dc pm cd ct : Value} (X : K.In h) (G : h.Ns mainGlobals mg) (a : PySem.W.nsIn K mainGlobals "short_breaches" = some (some (.ref f))) (l : K.lookup f = some ⟨oc, od, .func (PySem.W.fnOf "short_breaches" "short_breaches" (defArgs s_short_breaches) (defBody s_short_breaches) (defScope s_short_breaches) .none kV dc pm an cd ct), sl⟩) (c : PySem.W.codeIn K cd "short_breaches" = true) (k : PySem.W.keepIn K (.ref f) = true) : DefF K mg "short_breaches" s_short_breaches P_short_breaches := ⟨f, _, fun_mk (st := s_short_breaches) l c k, PySem.W.mg_of X G a, bi_short_breaches (fun_mk (st := s_short_breaches) l c k)⟩
theorem bi_day_breaches {f : Addr} {fd : FuncData} {x q : Str} (F : Fun K x q s_day_breaches f fd) : Binds K fd P_day_breaches [] := F.binds (ps := P_day_breaches) fun _ _ _ _ _ _ us hl => match us, hl with | [_], _ => rfl
theorem mk_day_breaches {f : Addr} {od an : Option Addr} {sl : Array (Option Value)} {oc kV dc pm cd ct : Value} (X : K.In h) (G : h.Ns mainGlobals mg) (a : PySem.W.nsIn K mainGlobals "day_breaches" = some (some (.ref f))) (l : K.lookup f = some ⟨oc, od, .func (PySem.W.fnOf "day_breaches" "day_breaches" (defArgs s_day_breaches) (defBody s_day_breaches) (defScope s_day_breaches) .none kV dc pm an cd ct), sl⟩) (c : PySem.W.codeIn K cd "day_breaches" = true) (k : PySem.W.keepIn K (.ref f) = true) : DefF K mg "day_breaches" s_day_breaches P_day_breaches := ⟨f, _, fun_mk (st := s_day_breaches) l c k, PySem.W.mg_of X G a, bi_day_breaches (fun_mk (st := s_day_breaches) l c k)⟩
theorem bi_L_init {f : Addr} {fd : FuncData} {x q : Str} (F : Fun K x q s_L_init f fd) : Binds K fd P_L_init [] := F.binds (ps := P_L_init) fun _ _ _ _ _ _ us hl => match us, hl with | [_, _, _], _ => rfl
theorem mk_L_init {C : Addr} {f : Addr} {od an : Option Addr} {sl : Array (Option Value)} {oc kV dc pm cd ct : Value} (m : PySem.W.makesIn K C = true) (kc : PySem.W.keepIn K (.ref C) = true) (a : PySem.W.findIn K (.ref C) "__init__" = some (some (.ref f))) (i : PySem.W.isFn K (.ref f) = true) (l : K.lookup f = some ⟨oc, od, .func (PySem.W.fnOf "__init__" "Lack.__init__" (defArgs s_L_init) (defBody s_L_init) (defScope s_L_init) .none kV dc pm an cd ct), sl⟩) (c : PySem.W.codeIn K cd "Lack.__init__" = true) (k : PySem.W.keepIn K (.ref f) = true) : DefI K C "Lack.__init__" s_L_init P_L_init := ⟨f, _, fun_mk (st := s_L_init) l c k, ⟨m, a, i, kc⟩, bi_L_init (fun_mk (st := s_L_init) l c k)⟩
theorem bi_weekly_rests {f : Addr} {fd : FuncData} {x q : Str} (F : Fun K x q s_weekly_rests f fd) : Binds K fd P_weekly_rests [] := F.binds (ps := P_weekly_rests) fun _ _ _ _ _ _ us hl => match us, hl with | [_], _ => rfl
theorem mk_weekly_rests {f : Addr} {od an : Option Addr} {sl : Array (Option Value)} {oc kV dc pm cd ct : Value} (X : K.In h) (G : h.Ns mainGlobals mg) (a : PySem.W.nsIn K mainGlobals "weekly_rests" = some (some (.ref f))) (l : K.lookup f = some ⟨oc, od, .func (PySem.W.fnOf "weekly_rests" "weekly_rests" (defArgs s_weekly_rests) (defBody s_weekly_rests) (defScope s_weekly_rests) .none kV dc pm an cd ct), sl⟩) (c : PySem.W.codeIn K cd "weekly_rests" = true) (k : PySem.W.keepIn K (.ref f) = true) : DefF K mg "weekly_rests" s_weekly_rests P_weekly_rests := ⟨f, _, fun_mk (st := s_weekly_rests) l c k, PySem.W.mg_of X G a, bi_weekly_rests (fun_mk (st := s_weekly_rests) l c k)⟩
theorem bi_is_short {f : Addr} {fd : FuncData} {x q : Str} (F : Fun K x q s_is_short f fd) : Binds K fd P_is_short [] := F.binds (ps := P_is_short) fun _ _ _ _ _ _ us hl => match us, hl with | [_, _], _ => rfl
theorem mk_is_short {f : Addr} {od an : Option Addr} {sl : Array (Option Value)} {oc kV dc pm cd ct : Value} (X : K.In h) (G : h.Ns mainGlobals mg) (a : PySem.W.nsIn K mainGlobals "is_short" = some (some (.ref f))) (l : K.lookup f = some ⟨oc, od, .func (PySem.W.fnOf "is_short" "is_short" (defArgs s_is_short) (defBody s_is_short) (defScope s_is_short) .none kV dc pm an cd ct), sl⟩) (c : PySem.W.codeIn K cd "is_short" = true) (k : PySem.W.keepIn K (.ref f) = true) : DefF K mg "is_short" s_is_short P_is_short := ⟨f, _, fun_mk (st := s_is_short) l c k, PySem.W.mg_of X G a, bi_is_short (fun_mk (st := s_is_short) l c k)⟩
theorem bi_late_breaches {f : Addr} {fd : FuncData} {x q : Str} (F : Fun K x q s_late_breaches f fd) : Binds K fd P_late_breaches [] := F.binds (ps := P_late_breaches) fun _ _ _ _ _ _ us hl => match us, hl with | [_, _], _ => rfl
theorem mk_late_breaches {f : Addr} {od an : Option Addr} {sl : Array (Option Value)} {oc kV dc pm cd ct : Value} (X : K.In h) (G : h.Ns mainGlobals mg) (a : PySem.W.nsIn K mainGlobals "late_breaches" = some (some (.ref f))) (l : K.lookup f = some ⟨oc, od, .func (PySem.W.fnOf "late_breaches" "late_breaches" (defArgs s_late_breaches) (defBody s_late_breaches) (defScope s_late_breaches) .none kV dc pm an cd ct), sl⟩) (c : PySem.W.codeIn K cd "late_breaches" = true) (k : PySem.W.keepIn K (.ref f) = true) : DefF K mg "late_breaches" s_late_breaches P_late_breaches := ⟨f, _, fun_mk (st := s_late_breaches) l c k, PySem.W.mg_of X G a, bi_late_breaches (fun_mk (st := s_late_breaches) l c k)⟩
theorem bi_pair_breaches {f : Addr} {fd : FuncData} {x q : Str} (F : Fun K x q s_pair_breaches f fd) : Binds K fd P_pair_breaches [] := F.binds (ps := P_pair_breaches) fun _ _ _ _ _ _ us hl => match us, hl with | [_, _], _ => rfl
theorem mk_pair_breaches {f : Addr} {od an : Option Addr} {sl : Array (Option Value)} {oc kV dc pm cd ct : Value} (X : K.In h) (G : h.Ns mainGlobals mg) (a : PySem.W.nsIn K mainGlobals "pair_breaches" = some (some (.ref f))) (l : K.lookup f = some ⟨oc, od, .func (PySem.W.fnOf "pair_breaches" "pair_breaches" (defArgs s_pair_breaches) (defBody s_pair_breaches) (defScope s_pair_breaches) .none kV dc pm an cd ct), sl⟩) (c : PySem.W.codeIn K cd "pair_breaches" = true) (k : PySem.W.keepIn K (.ref f) = true) : DefF K mg "pair_breaches" s_pair_breaches P_pair_breaches := ⟨f, _, fun_mk (st := s_pair_breaches) l c k, PySem.W.mg_of X G a, bi_pair_breaches (fun_mk (st := s_pair_breaches) l c k)⟩
theorem bi_spared {f : Addr} {fd : FuncData} {x q : Str} (F : Fun K x q s_spared f fd) : Binds K fd P_spared [] := F.binds (ps := P_spared) fun _ _ _ _ _ _ us hl => match us, hl with | [_], _ => rfl
theorem mk_spared {f : Addr} {od an : Option Addr} {sl : Array (Option Value)} {oc kV dc pm cd ct : Value} (X : K.In h) (G : h.Ns mainGlobals mg) (a : PySem.W.nsIn K mainGlobals "spared" = some (some (.ref f))) (l : K.lookup f = some ⟨oc, od, .func (PySem.W.fnOf "spared" "spared" (defArgs s_spared) (defBody s_spared) (defScope s_spared) .none kV dc pm an cd ct), sl⟩) (c : PySem.W.codeIn K cd "spared" = true) (k : PySem.W.keepIn K (.ref f) = true) : DefF K mg "spared" s_spared P_spared := ⟨f, _, fun_mk (st := s_spared) l c k, PySem.W.mg_of X G a, bi_spared (fun_mk (st := s_spared) l c k)⟩
theorem bi_make_up {f : Addr} {fd : FuncData} {x q : Str} (F : Fun K x q s_make_up f fd) : Binds K fd P_make_up [] := F.binds (ps := P_make_up) fun _ _ _ _ _ _ us hl => match us, hl with | [_, _], _ => rfl
theorem mk_make_up {f : Addr} {od an : Option Addr} {sl : Array (Option Value)} {oc kV dc pm cd ct : Value} (X : K.In h) (G : h.Ns mainGlobals mg) (a : PySem.W.nsIn K mainGlobals "make_up" = some (some (.ref f))) (l : K.lookup f = some ⟨oc, od, .func (PySem.W.fnOf "make_up" "make_up" (defArgs s_make_up) (defBody s_make_up) (defScope s_make_up) .none kV dc pm an cd ct), sl⟩) (c : PySem.W.codeIn K cd "make_up" = true) (k : PySem.W.keepIn K (.ref f) = true) : DefF K mg "make_up" s_make_up P_make_up := ⟨f, _, fun_mk (st := s_make_up) l c k, PySem.W.mg_of X G a, bi_make_up (fun_mk (st := s_make_up) l c k)⟩
theorem bi_lacks_of {f : Addr} {fd : FuncData} {x q : Str} (F : Fun K x q s_lacks_of f fd) : Binds K fd P_lacks_of [] := F.binds (ps := P_lacks_of) fun _ _ _ _ _ _ us hl => match us, hl with | [_, _], _ => rfl
theorem mk_lacks_of {f : Addr} {od an : Option Addr} {sl : Array (Option Value)} {oc kV dc pm cd ct : Value} (X : K.In h) (G : h.Ns mainGlobals mg) (a : PySem.W.nsIn K mainGlobals "lacks_of" = some (some (.ref f))) (l : K.lookup f = some ⟨oc, od, .func (PySem.W.fnOf "lacks_of" "lacks_of" (defArgs s_lacks_of) (defBody s_lacks_of) (defScope s_lacks_of) .none kV dc pm an cd ct), sl⟩) (c : PySem.W.codeIn K cd "lacks_of" = true) (k : PySem.W.keepIn K (.ref f) = true) : DefF K mg "lacks_of" s_lacks_of P_lacks_of := ⟨f, _, fun_mk (st := s_lacks_of) l c k, PySem.W.mg_of X G a, bi_lacks_of (fun_mk (st := s_lacks_of) l c k)⟩
theorem bi_lack_breaches {f : Addr} {fd : FuncData} {x q : Str} (F : Fun K x q s_lack_breaches f fd) : Binds K fd P_lack_breaches [] := F.binds (ps := P_lack_breaches) fun _ _ _ _ _ _ us hl => match us, hl with | [_, _], _ => rfl
theorem mk_lack_breaches {f : Addr} {od an : Option Addr} {sl : Array (Option Value)} {oc kV dc pm cd ct : Value} (X : K.In h) (G : h.Ns mainGlobals mg) (a : PySem.W.nsIn K mainGlobals "lack_breaches" = some (some (.ref f))) (l : K.lookup f = some ⟨oc, od, .func (PySem.W.fnOf "lack_breaches" "lack_breaches" (defArgs s_lack_breaches) (defBody s_lack_breaches) (defScope s_lack_breaches) .none kV dc pm an cd ct), sl⟩) (c : PySem.W.codeIn K cd "lack_breaches" = true) (k : PySem.W.keepIn K (.ref f) = true) : DefF K mg "lack_breaches" s_lack_breaches P_lack_breaches := ⟨f, _, fun_mk (st := s_lack_breaches) l c k, PySem.W.mg_of X G a, bi_lack_breaches (fun_mk (st := s_lack_breaches) l c k)⟩
theorem bi_calendar_breaches {f : Addr} {fd : FuncData} {x q : Str} (F : Fun K x q s_calendar_breaches f fd) : Binds K fd P_calendar_breaches [] := F.binds (ps := P_calendar_breaches) fun _ _ _ _ _ _ us hl => match us, hl with | [_, _], _ => rfl
theorem mk_calendar_breaches {f : Addr} {od an : Option Addr} {sl : Array (Option Value)} {oc kV dc pm cd ct : Value} (X : K.In h) (G : h.Ns mainGlobals mg) (a : PySem.W.nsIn K mainGlobals "calendar_breaches" = some (some (.ref f))) (l : K.lookup f = some ⟨oc, od, .func (PySem.W.fnOf "calendar_breaches" "calendar_breaches" (defArgs s_calendar_breaches) (defBody s_calendar_breaches) (defScope s_calendar_breaches) .none kV dc pm an cd ct), sl⟩) (c : PySem.W.codeIn K cd "calendar_breaches" = true) (k : PySem.W.keepIn K (.ref f) = true) : DefF K mg "calendar_breaches" s_calendar_breaches P_calendar_breaches := ⟨f, _, fun_mk (st := s_calendar_breaches) l c k, PySem.W.mg_of X G a, bi_calendar_breaches (fun_mk (st := s_calendar_breaches) l c k)⟩
theorem bi_week_breaches {f : Addr} {fd : FuncData} {x q : Str} (F : Fun K x q s_week_breaches f fd) : Binds K fd P_week_breaches [] := F.binds (ps := P_week_breaches) fun _ _ _ _ _ _ us hl => match us, hl with | [_], _ => rfl
theorem mk_week_breaches {f : Addr} {od an : Option Addr} {sl : Array (Option Value)} {oc kV dc pm cd ct : Value} (X : K.In h) (G : h.Ns mainGlobals mg) (a : PySem.W.nsIn K mainGlobals "week_breaches" = some (some (.ref f))) (l : K.lookup f = some ⟨oc, od, .func (PySem.W.fnOf "week_breaches" "week_breaches" (defArgs s_week_breaches) (defBody s_week_breaches) (defScope s_week_breaches) .none kV dc pm an cd ct), sl⟩) (c : PySem.W.codeIn K cd "week_breaches" = true) (k : PySem.W.keepIn K (.ref f) = true) : DefF K mg "week_breaches" s_week_breaches P_week_breaches := ⟨f, _, fun_mk (st := s_week_breaches) l c k, PySem.W.mg_of X G a, bi_week_breaches (fun_mk (st := s_week_breaches) l c k)⟩
theorem bi_R_init {f : Addr} {fd : FuncData} {x q : Str} (F : Fun K x q s_R_init f fd) : Binds K fd P_R_init [] := F.binds (ps := P_R_init) fun _ _ _ _ _ _ us hl => match us, hl with | [_, _], _ => rfl
theorem mk_R_init {f : Addr} {od an : Option Addr} {sl : Array (Option Value)} {oc kV dc pm cd ct : Value} (l : K.lookup f = some ⟨oc, od, .func (PySem.W.fnOf "__init__" "Refused.__init__" (defArgs s_R_init) (defBody s_R_init) (defScope s_R_init) .none kV dc pm an cd ct), sl⟩) (c : PySem.W.codeIn K cd "Refused.__init__" = true) (k : PySem.W.keepIn K (.ref f) = true) : ∃ fd, Fun K "__init__" "Refused.__init__" s_R_init f fd ∧ Binds K fd P_R_init [] := ⟨_, fun_mk (st := s_R_init) l c k, bi_R_init (fun_mk (st := s_R_init) l c k)⟩
theorem bi_ask {f : Addr} {fd : FuncData} {x q : Str} (F : Fun K x q s_ask f fd) : Binds K fd P_ask [] := F.binds (ps := P_ask) fun _ _ _ _ _ _ us hl => match us, hl with | [_, _], _ => rfl
theorem mk_ask {f : Addr} {od an : Option Addr} {sl : Array (Option Value)} {oc kV dc pm cd ct : Value} (X : K.In h) (G : h.Ns mainGlobals mg) (a : PySem.W.nsIn K mainGlobals "ask" = some (some (.ref f))) (l : K.lookup f = some ⟨oc, od, .func (PySem.W.fnOf "ask" "ask" (defArgs s_ask) (defBody s_ask) (defScope s_ask) .none kV dc pm an cd ct), sl⟩) (c : PySem.W.codeIn K cd "ask" = true) (k : PySem.W.keepIn K (.ref f) = true) : DefF K mg "ask" s_ask P_ask := ⟨f, _, fun_mk (st := s_ask) l c k, PySem.W.mg_of X G a, bi_ask (fun_mk (st := s_ask) l c k)⟩
theorem bi_K_init {f : Addr} {fd : FuncData} {x q : Str} (F : Fun K x q s_K_init f fd) : Binds K fd P_K_init [] := F.binds (ps := P_K_init) fun _ _ _ _ _ _ us hl => match us, hl with | [_], _ => rfl
theorem mk_K_init {C : Addr} {f : Addr} {od an : Option Addr} {sl : Array (Option Value)} {oc kV dc pm cd ct : Value} (m : PySem.W.makesIn K C = true) (kc : PySem.W.keepIn K (.ref C) = true) (a : PySem.W.findIn K (.ref C) "__init__" = some (some (.ref f))) (i : PySem.W.isFn K (.ref f) = true) (l : K.lookup f = some ⟨oc, od, .func (PySem.W.fnOf "__init__" "Desk.__init__" (defArgs s_K_init) (defBody s_K_init) (defScope s_K_init) .none kV dc pm an cd ct), sl⟩) (c : PySem.W.codeIn K cd "Desk.__init__" = true) (k : PySem.W.keepIn K (.ref f) = true) : DefI K C "Desk.__init__" s_K_init P_K_init := ⟨f, _, fun_mk (st := s_K_init) l c k, ⟨m, a, i, kc⟩, bi_K_init (fun_mk (st := s_K_init) l c k)⟩
theorem bi_K_stretches {f : Addr} {fd : FuncData} {x q : Str} (F : Fun K x q s_K_stretches f fd) : Binds K fd P_K_stretches [] := F.binds (ps := P_K_stretches) fun _ _ _ _ _ _ us hl => match us, hl with | [_], _ => rfl
theorem mk_K_stretches {C : Addr} {f : Addr} {od an : Option Addr} {sl : Array (Option Value)} {oc kV dc pm cd ct : Value} (a : PySem.W.findIn K (.ref C) "stretches" = some (some (.ref f))) (i : PySem.W.isFn K (.ref f) = true) (l : K.lookup f = some ⟨oc, od, .func (PySem.W.fnOf "stretches" "Desk.stretches" (defArgs s_K_stretches) (defBody s_K_stretches) (defScope s_K_stretches) .none kV dc pm an cd ct), sl⟩) (c : PySem.W.codeIn K cd "Desk.stretches" = true) (k : PySem.W.keepIn K (.ref f) = true) : DefM K C "stretches" "Desk.stretches" s_K_stretches P_K_stretches := ⟨f, _, fun_mk (st := s_K_stretches) l c k, ⟨a, i, k⟩, bi_K_stretches (fun_mk (st := s_K_stretches) l c k)⟩
theorem bi_K_last_minute {f : Addr} {fd : FuncData} {x q : Str} (F : Fun K x q s_K_last_minute f fd) : Binds K fd P_K_last_minute [] := F.binds (ps := P_K_last_minute) fun _ _ _ _ _ _ us hl => match us, hl with | [_], _ => rfl
theorem mk_K_last_minute {C : Addr} {f : Addr} {od an : Option Addr} {sl : Array (Option Value)} {oc kV dc pm cd ct : Value} (a : PySem.W.findIn K (.ref C) "last_minute" = some (some (.ref f))) (i : PySem.W.isFn K (.ref f) = true) (l : K.lookup f = some ⟨oc, od, .func (PySem.W.fnOf "last_minute" "Desk.last_minute" (defArgs s_K_last_minute) (defBody s_K_last_minute) (defScope s_K_last_minute) .none kV dc pm an cd ct), sl⟩) (c : PySem.W.codeIn K cd "Desk.last_minute" = true) (k : PySem.W.keepIn K (.ref f) = true) : DefM K C "last_minute" "Desk.last_minute" s_K_last_minute P_K_last_minute := ⟨f, _, fun_mk (st := s_K_last_minute) l c k, ⟨a, i, k⟩, bi_K_last_minute (fun_mk (st := s_K_last_minute) l c k)⟩
theorem bi_K_forget {f : Addr} {fd : FuncData} {x q : Str} (F : Fun K x q s_K_forget f fd) : Binds K fd P_K_forget [] := F.binds (ps := P_K_forget) fun _ _ _ _ _ _ us hl => match us, hl with | [_], _ => rfl
theorem mk_K_forget {C : Addr} {f : Addr} {od an : Option Addr} {sl : Array (Option Value)} {oc kV dc pm cd ct : Value} (a : PySem.W.findIn K (.ref C) "forget" = some (some (.ref f))) (i : PySem.W.isFn K (.ref f) = true) (l : K.lookup f = some ⟨oc, od, .func (PySem.W.fnOf "forget" "Desk.forget" (defArgs s_K_forget) (defBody s_K_forget) (defScope s_K_forget) .none kV dc pm an cd ct), sl⟩) (c : PySem.W.codeIn K cd "Desk.forget" = true) (k : PySem.W.keepIn K (.ref f) = true) : DefM K C "forget" "Desk.forget" s_K_forget P_K_forget := ⟨f, _, fun_mk (st := s_K_forget) l c k, ⟨a, i, k⟩, bi_K_forget (fun_mk (st := s_K_forget) l c k)⟩
theorem bi_K_add {f : Addr} {fd : FuncData} {x q : Str} (F : Fun K x q s_K_add f fd) : Binds K fd P_K_add [] := F.binds (ps := P_K_add) fun _ _ _ _ _ _ us hl => match us, hl with | [_, _], _ => rfl
theorem mk_K_add {C : Addr} {f : Addr} {od an : Option Addr} {sl : Array (Option Value)} {oc kV dc pm cd ct : Value} (a : PySem.W.findIn K (.ref C) "add" = some (some (.ref f))) (i : PySem.W.isFn K (.ref f) = true) (l : K.lookup f = some ⟨oc, od, .func (PySem.W.fnOf "add" "Desk.add" (defArgs s_K_add) (defBody s_K_add) (defScope s_K_add) .none kV dc pm an cd ct), sl⟩) (c : PySem.W.codeIn K cd "Desk.add" = true) (k : PySem.W.keepIn K (.ref f) = true) : DefM K C "add" "Desk.add" s_K_add P_K_add := ⟨f, _, fun_mk (st := s_K_add) l c k, ⟨a, i, k⟩, bi_K_add (fun_mk (st := s_K_add) l c k)⟩
theorem bi_K_drop {f : Addr} {fd : FuncData} {x q : Str} (F : Fun K x q s_K_drop f fd) : Binds K fd P_K_drop [] := F.binds (ps := P_K_drop) fun _ _ _ _ _ _ us hl => match us, hl with | [_, _], _ => rfl
theorem mk_K_drop {C : Addr} {f : Addr} {od an : Option Addr} {sl : Array (Option Value)} {oc kV dc pm cd ct : Value} (a : PySem.W.findIn K (.ref C) "drop" = some (some (.ref f))) (i : PySem.W.isFn K (.ref f) = true) (l : K.lookup f = some ⟨oc, od, .func (PySem.W.fnOf "drop" "Desk.drop" (defArgs s_K_drop) (defBody s_K_drop) (defScope s_K_drop) .none kV dc pm an cd ct), sl⟩) (c : PySem.W.codeIn K cd "Desk.drop" = true) (k : PySem.W.keepIn K (.ref f) = true) : DefM K C "drop" "Desk.drop" s_K_drop P_K_drop := ⟨f, _, fun_mk (st := s_K_drop) l c k, ⟨a, i, k⟩, bi_K_drop (fun_mk (st := s_K_drop) l c k)⟩
theorem bi_K_report {f : Addr} {fd : FuncData} {x q : Str} (F : Fun K x q s_K_report f fd) : Binds K fd P_K_report [] := F.binds (ps := P_K_report) fun _ _ _ _ _ _ us hl => match us, hl with | [_], _ => rfl
theorem mk_K_report {C : Addr} {f : Addr} {od an : Option Addr} {sl : Array (Option Value)} {oc kV dc pm cd ct : Value} (a : PySem.W.findIn K (.ref C) "report" = some (some (.ref f))) (i : PySem.W.isFn K (.ref f) = true) (l : K.lookup f = some ⟨oc, od, .func (PySem.W.fnOf "report" "Desk.report" (defArgs s_K_report) (defBody s_K_report) (defScope s_K_report) .none kV dc pm an cd ct), sl⟩) (c : PySem.W.codeIn K cd "Desk.report" = true) (k : PySem.W.keepIn K (.ref f) = true) : DefM K C "report" "Desk.report" s_K_report P_K_report := ⟨f, _, fun_mk (st := s_K_report) l c k, ⟨a, i, k⟩, bi_K_report (fun_mk (st := s_K_report) l c k)⟩
theorem bi_K_now {f : Addr} {fd : FuncData} {x q : Str} (F : Fun K x q s_K_now f fd) : Binds K fd P_K_now [] := F.binds (ps := P_K_now) fun _ _ _ _ _ _ us hl => match us, hl with | [_], _ => rfl
theorem mk_K_now {C : Addr} {f : Addr} {od an : Option Addr} {sl : Array (Option Value)} {oc kV dc pm cd ct : Value} (a : PySem.W.findIn K (.ref C) "now" = some (some (.ref f))) (i : PySem.W.isFn K (.ref f) = true) (l : K.lookup f = some ⟨oc, od, .func (PySem.W.fnOf "now" "Desk.now" (defArgs s_K_now) (defBody s_K_now) (defScope s_K_now) .none kV dc pm an cd ct), sl⟩) (c : PySem.W.codeIn K cd "Desk.now" = true) (k : PySem.W.keepIn K (.ref f) = true) : DefM K C "now" "Desk.now" s_K_now P_K_now := ⟨f, _, fun_mk (st := s_K_now) l c k, ⟨a, i, k⟩, bi_K_now (fun_mk (st := s_K_now) l c k)⟩
theorem bi_K_days {f : Addr} {fd : FuncData} {x q : Str} (F : Fun K x q s_K_days f fd) : Binds K fd P_K_days [] := F.binds (ps := P_K_days) fun _ _ _ _ _ _ us hl => match us, hl with | [_], _ => rfl
theorem mk_K_days {C : Addr} {f : Addr} {od an : Option Addr} {sl : Array (Option Value)} {oc kV dc pm cd ct : Value} (a : PySem.W.findIn K (.ref C) "days" = some (some (.ref f))) (i : PySem.W.isFn K (.ref f) = true) (l : K.lookup f = some ⟨oc, od, .func (PySem.W.fnOf "days" "Desk.days" (defArgs s_K_days) (defBody s_K_days) (defScope s_K_days) .none kV dc pm an cd ct), sl⟩) (c : PySem.W.codeIn K cd "Desk.days" = true) (k : PySem.W.keepIn K (.ref f) = true) : DefM K C "days" "Desk.days" s_K_days P_K_days := ⟨f, _, fun_mk (st := s_K_days) l c k, ⟨a, i, k⟩, bi_K_days (fun_mk (st := s_K_days) l c k)⟩
theorem bi_K_week {f : Addr} {fd : FuncData} {x q : Str} (F : Fun K x q s_K_week f fd) : Binds K fd P_K_week [] := F.binds (ps := P_K_week) fun _ _ _ _ _ _ us hl => match us, hl with | [_, _], _ => rfl
theorem mk_K_week {C : Addr} {f : Addr} {od an : Option Addr} {sl : Array (Option Value)} {oc kV dc pm cd ct : Value} (a : PySem.W.findIn K (.ref C) "week" = some (some (.ref f))) (i : PySem.W.isFn K (.ref f) = true) (l : K.lookup f = some ⟨oc, od, .func (PySem.W.fnOf "week" "Desk.week" (defArgs s_K_week) (defBody s_K_week) (defScope s_K_week) .none kV dc pm an cd ct), sl⟩) (c : PySem.W.codeIn K cd "Desk.week" = true) (k : PySem.W.keepIn K (.ref f) = true) : DefM K C "week" "Desk.week" s_K_week P_K_week := ⟨f, _, fun_mk (st := s_K_week) l c k, ⟨a, i, k⟩, bi_K_week (fun_mk (st := s_K_week) l c k)⟩
theorem bi_K_answer {f : Addr} {fd : FuncData} {x q : Str} (F : Fun K x q s_K_answer f fd) : Binds K fd P_K_answer [] := F.binds (ps := P_K_answer) fun _ _ _ _ _ _ us hl => match us, hl with | [_, _, _, _], _ => rfl
theorem mk_K_answer {C : Addr} {f : Addr} {od an : Option Addr} {sl : Array (Option Value)} {oc kV dc pm cd ct : Value} (a : PySem.W.findIn K (.ref C) "answer" = some (some (.ref f))) (i : PySem.W.isFn K (.ref f) = true) (l : K.lookup f = some ⟨oc, od, .func (PySem.W.fnOf "answer" "Desk.answer" (defArgs s_K_answer) (defBody s_K_answer) (defScope s_K_answer) .none kV dc pm an cd ct), sl⟩) (c : PySem.W.codeIn K cd "Desk.answer" = true) (k : PySem.W.keepIn K (.ref f) = true) : DefM K C "answer" "Desk.answer" s_K_answer P_K_answer := ⟨f, _, fun_mk (st := s_K_answer) l c k, ⟨a, i, k⟩, bi_K_answer (fun_mk (st := s_K_answer) l c k)⟩
theorem bi_answered {f : Addr} {fd : FuncData} {x q : Str} (F : Fun K x q s_answered f fd) : Binds K fd P_answered [] := F.binds (ps := P_answered) fun _ _ _ _ _ _ us hl => match us, hl with | [_, _, _, _], _ => rfl
theorem mk_answered {f : Addr} {od an : Option Addr} {sl : Array (Option Value)} {oc kV dc pm cd ct : Value} (X : K.In h) (G : h.Ns mainGlobals mg) (a : PySem.W.nsIn K mainGlobals "answered" = some (some (.ref f))) (l : K.lookup f = some ⟨oc, od, .func (PySem.W.fnOf "answered" "answered" (defArgs s_answered) (defBody s_answered) (defScope s_answered) .none kV dc pm an cd ct), sl⟩) (c : PySem.W.codeIn K cd "answered" = true) (k : PySem.W.keepIn K (.ref f) = true) : DefF K mg "answered" s_answered P_answered := ⟨f, _, fun_mk (st := s_answered) l c k, PySem.W.mg_of X G a, bi_answered (fun_mk (st := s_answered) l c k)⟩
theorem bi_answers {f : Addr} {fd : FuncData} {x q : Str} (F : Fun K x q s_answers f fd) : Binds K fd P_answers [] := F.binds (ps := P_answers) fun _ _ _ _ _ _ us hl => match us, hl with | [_], _ => rfl
theorem na_mk {C : Addr} {f : Str} (h : PySem.W.findIn K (.ref C) f = some none) : NoAttr K C f := h
theorem wn_mk {b : Addr} {d : Option Addr} {sl : Array (Option Value)} {t u : Tok} {n : Nat} (l : K.lookup b = some ⟨.type "tuple", d, .seq #[.int 3 t, .int 7 u] n, sl⟩) : ∀ H, SqT K H b [.int 3, .int 7] := fun _ =>
  .inr ⟨_, _, _, l, rfl, rfl, sz_of (by show 2 ≤ 100000; decide), .cons ⟨_, rfl⟩ (.cons ⟨_, rfl⟩ .nil)⟩
theorem ox_mk {C N : Addr} {nm q : Str} {bs : List Value} {sn : List Str} {sub : List Value} {ab : Bool} {col : Option Bool} {dd : Option Addr} {m0 m1 m2 m3 m5 : Option Value}
    (xL : K.lookup C = some (excClassObj nm q C N bs [.type "ValueError", .type "Exception", .type "BaseException", .type "object"] true sn sub ab col dd m0 m1 m2 m3 m5 "ValueError.__new__"))
    (sa : PySem.W.findIn K (.ref C) "__setattr__" = some (some (.builtin "object.__setattr__"))) (eC : PySem.W.subIn K (.ref C) (.type "BaseException") = some true) (tC : PySem.W.typeIn K (.ref C) = some (.type "type")) (kC : PySem.W.keepIn K (.ref C) = true) : OexC K C :=
  ⟨⟨nm, q, N, bs, _, sn, sub, ab, col, dd, m0, m1, m2, m3, m5, xL, by decide +kernel⟩, sa, eC, tC, kC⟩
/-- an error of the class at S is what «except S» names -/
theorem exm_self {S : Addr} (h1 : PySem.W.subIn K (.ref S) (.type "BaseException") = some true) (h2 : PySem.W.isClsIn K S = true) (h3 : PySem.W.typeIn K (.ref S) = some (.type "type")) (h4 : PySem.W.subIn K (.ref S) (.ref S) = some true) :
    PySem.W.exmOne K (.ref S) (.ref S) = some true := by
  have e1 : (PySem.W.subIn K (.ref S) (.type "BaseException") == some true) = true := by rw [h1] <;> rfl
  have e2 : ((PySem.W.clsIn K S).isSome && PySem.W.typeIn K (.ref S) == some (.type "type")) = true := by
    have h2' : (PySem.W.clsIn K S).isSome = true := h2
    rw [h2', h3] <;> rfl
  show (if (PySem.W.subIn K (.ref S) (.type "BaseException") == some true) = true then (if ((PySem.W.clsIn K S).isSome && PySem.W.typeIn K (.ref S) == some (.type "type")) = true then PySem.W.subIn K (.ref S) (.ref S) else none) else none) = some true
  rw [if_pos e1, if_pos e2]
  exact h4
theorem all_mk {P : Program} {w : World} {a : Ad} {fa f : Addr} {od an : Option Addr} {sl : Array (Option Value)} {oc kV dc pm cd ct : Value} (X : K.In h) (G : h.Ns mainGlobals mg) (hfa : mg "answers" = some (.ref fa)) (a1 : PySem.W.nsIn K mainGlobals "answers" = some (some (.ref f)))
    (l : K.lookup f = some ⟨oc, od, .func (PySem.W.fnOf "answers" "answers" (defArgs s_answers) (defBody s_answers) (defScope s_answers) .none kV dc pm an cd ct), sl⟩) (c : PySem.W.codeIn K cd "answers" = true) (k : PySem.W.keepIn K (.ref f) = true) (T : Txt K mg a) :
    ∃ fd : FuncData, (∀ (s : Shared) (us : List Value), us.length = (["calls"] : List Str).length → BindsTo s fd ⟨us, []⟩ ((["calls"] : List Str).zip us)) ∧ ∀ base : Heap, K.In base → base.Ns mainGlobals mg → FnOk P w K mg base CX0 11 fa fd ["calls"] (spAnswers K) := by
  have e := hfa.symm.trans (PySem.W.mg_of X G a1)
  cases e
  exact ⟨PySem.W.fnOf "answers" "answers" (defArgs s_answers) (defBody s_answers) (defScope s_answers) .none kV dc pm an cd ct, fun s us hu => match us, hu with | [_], _ => .of_eq rfl,
    fun base _ _ => (fun_mk (st := s_answers) l c k).ok sc_answers len_answers (body_answers T fa)⟩
theorem ci_mk {n : Str} {v : Int} {t : Tok} (X : K.In h) (G : h.Ns mainGlobals mg) (a : PySem.W.nsIn K mainGlobals n = some (some (.int v t))) : ∃ t, mg n = some (.int v t) := ⟨t, PySem.W.mg_of X G a⟩
theorem txt_mk {cS cB cBr cD cL cR cK wn fR : Addr}
    (h_c_REST : ∃ t, mg "REST" = some (.int (0) t))
    (h_c_DRIVING : ∃ t, mg "DRIVING" = some (.int (1) t))
    (h_c_WEEK : ∃ t, mg "WEEK" = some (.int (10080) t))
    (h_c_MOST_DRIVING_breaks : ∃ t, mg "MOST_DRIVING_breaks" = some (.int (270) t))
    (h_c_WHOLE_breaks : ∃ t, mg "WHOLE_breaks" = some (.int (45) t))
    (h_c_FIRST_PART : ∃ t, mg "FIRST_PART" = some (.int (15) t))
    (h_c_SECOND_PART : ∃ t, mg "SECOND_PART" = some (.int (30) t))
    (h_c_RULE : ∃ t, mg "RULE" = some (.int (1) t))
    (h_c_DAY : ∃ t, mg "DAY" = some (.int (1440) t))
    (h_c_ENDING : ∃ t, mg "ENDING" = some (.int (540) t))
    (h_c_FULL : ∃ t, mg "FULL" = some (.int (660) t))
    (h_c_PART : ∃ t, mg "PART" = some (.int (180) t))
    (h_c_LONG_DRIVING : ∃ t, mg "LONG_DRIVING" = some (.int (540) t))
    (h_c_MOST_DRIVING_days : ∃ t, mg "MOST_DRIVING_days" = some (.int (600) t))
    (h_c_MOST_LONG : ∃ t, mg "MOST_LONG" = some (.int (2) t))
    (h_c_MOST_SHORT : ∃ t, mg "MOST_SHORT" = some (.int (3) t))
    (h_c_WEEKLY_days : ∃ t, mg "WEEKLY_days" = some (.int (1440) t))
    (h_c_WHOLE_days : ∃ t, mg "WHOLE_days" = some (.int (0) t))
    (h_c_SHORT : ∃ t, mg "SHORT" = some (.int (1) t))
    (h_c_TOO_SHORT : ∃ t, mg "TOO_SHORT" = some (.int (2) t))
    (h_c_OPEN : ∃ t, mg "OPEN" = some (.int (3) t))
    (h_c_DRIVING_RULE : ∃ t, mg "DRIVING_RULE" = some (.int (2) t))
    (h_c_REST_RULE : ∃ t, mg "REST_RULE" = some (.int (3) t))
    (h_c_SHORT_RULE : ∃ t, mg "SHORT_RULE" = some (.int (4) t))
    (h_c_WEEKLY_weeks : ∃ t, mg "WEEKLY_weeks" = some (.int (1440) t))
    (h_c_WHOLE_weeks : ∃ t, mg "WHOLE_weeks" = some (.int (2700) t))
    (h_c_DAILY : ∃ t, mg "DAILY" = some (.int (540) t))
    (h_c_LATEST : ∃ t, mg "LATEST" = some (.int (8640) t))
    (h_c_WEEKS_TO_MAKE_UP : ∃ t, mg "WEEKS_TO_MAKE_UP" = some (.int (4) t))
    (h_c_MOST_IN_WEEK : ∃ t, mg "MOST_IN_WEEK" = some (.int (3360) t))
    (h_c_MOST_IN_TWO : ∃ t, mg "MOST_IN_TWO" = some (.int (5400) t))
    (h_c_KINDS : ∃ t, mg "KINDS" = some (.int (3) t))
    (h_c_LONGEST : ∃ t, mg "LONGEST" = some (.int (20000) t))
    (h_c_MOST_TOLD : ∃ t, mg "MOST_TOLD" = some (.int (400) t))
    (h_c_LAST_WEEK : ∃ t, mg "LAST_WEEK" = some (.int (1000) t))
    (h_c_WRONG : ∃ t, mg "WRONG" = some (.int (-1) t))
    (h_c_TOO_MANY : ∃ t, mg "TOO_MANY" = some (.int (-5) t))
    (h_c_NONE : ∃ t, mg "NONE" = some (.int (-1) t))
    (h_c_ADD : ∃ t, mg "ADD" = some (.int (2) t))
    (h_b_len : mg "len" = none)
    (h_b_enumerate : mg "enumerate" = none)
    (h_b_max : mg "max" = none)
    (h_b_min : mg "min" = none)
    (h_b_range : mg "range" = none)
    (h_b_zip : mg "zip" = none)
    (h_b_sorted : mg "sorted" = none)
    (h_b_int : mg "int" = none)
    (h_g_S : mg "Stretch" = some (.ref cS))
    (h_cl_S : Cls K cS)
    (h_na_S_kind : NoAttr K cS "kind")
    (h_na_S_begin : NoAttr K cS "begin")
    (h_na_S_end : NoAttr K cS "end")
    (h_i_S : DefI K cS "Stretch.__init__" s_S_init P_S_init)
    (h_m_S_minutes : DefM K cS "minutes" "Stretch.minutes" s_S_minutes P_S_minutes)
    (h_m_S_is_rest : DefM K cS "is_rest" "Stretch.is_rest" s_S_is_rest P_S_is_rest)
    (h_g_B : mg "Breach" = some (.ref cB))
    (h_cl_B : Cls K cB)
    (h_na_B_minute : NoAttr K cB "minute")
    (h_na_B_rule : NoAttr K cB "rule")
    (h_na_B_amount : NoAttr K cB "amount")
    (h_i_B : DefI K cB "Breach.__init__" s_B_init P_B_init)
    (h_m_B_key : DefM K cB "key" "Breach.key" s_B_key P_B_key)
    (h_g_Br : mg "Breaks" = some (.ref cBr))
    (h_cl_Br : Cls K cBr)
    (h_na_Br_driving : NoAttr K cBr "driving")
    (h_na_Br_has_part : NoAttr K cBr "has_part")
    (h_na_Br_minute : NoAttr K cBr "minute")
    (h_na_Br_breaches : NoAttr K cBr "breaches")
    (h_i_Br : DefI K cBr "Breaks.__init__" s_Br_init P_Br_init)
    (h_m_Br_close : DefM K cBr "close" "Breaks.close" s_Br_close P_Br_close)
    (h_m_Br_take_rest : DefM K cBr "take_rest" "Breaks.take_rest" s_Br_take_rest P_Br_take_rest)
    (h_m_Br_drive : DefM K cBr "drive" "Breaks.drive" s_Br_drive P_Br_drive)
    (h_m_Br_take : DefM K cBr "take" "Breaks.take" s_Br_take P_Br_take)
    (h_g_D : mg "Day" = some (.ref cD))
    (h_cl_D : Cls K cD)
    (h_na_D_begin : NoAttr K cD "begin")
    (h_na_D_driving : NoAttr K cD "driving")
    (h_na_D_has_part : NoAttr K cD "has_part")
    (h_na_D_rest : NoAttr K cD "rest")
    (h_i_D : DefI K cD "Day.__init__" s_D_init P_D_init)
    (h_m_D_counted : DefM K cD "counted" "Day.counted" s_D_counted P_D_counted)
    (h_m_D_state : DefM K cD "state" "Day.state" s_D_state P_D_state)
    (h_g_L : mg "Lack" = some (.ref cL))
    (h_cl_L : Cls K cL)
    (h_na_L_amount : NoAttr K cL "amount")
    (h_na_L_deadline : NoAttr K cL "deadline")
    (h_na_L_is_open : NoAttr K cL "is_open")
    (h_i_L : DefI K cL "Lack.__init__" s_L_init P_L_init)
    (h_g_R : mg "Refused" = some (.ref cR))
    (h_g_K : mg "Desk" = some (.ref cK))
    (h_cl_K : Cls K cK)
    (h_na_K_told : NoAttr K cK "told")
    (h_i_K : DefI K cK "Desk.__init__" s_K_init P_K_init)
    (h_m_K_stretches : DefM K cK "stretches" "Desk.stretches" s_K_stretches P_K_stretches)
    (h_m_K_last_minute : DefM K cK "last_minute" "Desk.last_minute" s_K_last_minute P_K_last_minute)
    (h_m_K_forget : DefM K cK "forget" "Desk.forget" s_K_forget P_K_forget)
    (h_m_K_add : DefM K cK "add" "Desk.add" s_K_add P_K_add)
    (h_m_K_drop : DefM K cK "drop" "Desk.drop" s_K_drop P_K_drop)
    (h_m_K_report : DefM K cK "report" "Desk.report" s_K_report P_K_report)
    (h_m_K_now : DefM K cK "now" "Desk.now" s_K_now P_K_now)
    (h_m_K_days : DefM K cK "days" "Desk.days" s_K_days P_K_days)
    (h_m_K_week : DefM K cK "week" "Desk.week" s_K_week P_K_week)
    (h_m_K_answer : DefM K cK "answer" "Desk.answer" s_K_answer P_K_answer)
    (h_f_stretches_of : DefF K mg "stretches_of" s_stretches_of P_stretches_of)
    (h_f_end_of : DefF K mg "end_of" s_end_of P_end_of)
    (h_f_first_work : DefF K mg "first_work" s_first_work P_first_work)
    (h_f_behind_work : DefF K mg "behind_work" s_behind_work P_behind_work)
    (h_f_driving_in : DefF K mg "driving_in" s_driving_in P_driving_in)
    (h_f_driving_in_week : DefF K mg "driving_in_week" s_driving_in_week P_driving_in_week)
    (h_f_breaks_of : DefF K mg "breaks_of" s_breaks_of P_breaks_of)
    (h_f_break_breaches : DefF K mg "break_breaches" s_break_breaches P_break_breaches)
    (h_f_days_of : DefF K mg "days_of" s_days_of P_days_of)
    (h_f_driving_breaches : DefF K mg "driving_breaches" s_driving_breaches P_driving_breaches)
    (h_f_rest_breaches : DefF K mg "rest_breaches" s_rest_breaches P_rest_breaches)
    (h_f_short_breaches : DefF K mg "short_breaches" s_short_breaches P_short_breaches)
    (h_f_day_breaches : DefF K mg "day_breaches" s_day_breaches P_day_breaches)
    (h_f_weekly_rests : DefF K mg "weekly_rests" s_weekly_rests P_weekly_rests)
    (h_f_is_short : DefF K mg "is_short" s_is_short P_is_short)
    (h_f_late_breaches : DefF K mg "late_breaches" s_late_breaches P_late_breaches)
    (h_f_pair_breaches : DefF K mg "pair_breaches" s_pair_breaches P_pair_breaches)
    (h_f_spared : DefF K mg "spared" s_spared P_spared)
    (h_f_make_up : DefF K mg "make_up" s_make_up P_make_up)
    (h_f_lacks_of : DefF K mg "lacks_of" s_lacks_of P_lacks_of)
    (h_f_lack_breaches : DefF K mg "lack_breaches" s_lack_breaches P_lack_breaches)
    (h_f_calendar_breaches : DefF K mg "calendar_breaches" s_calendar_breaches P_calendar_breaches)
    (h_f_week_breaches : DefF K mg "week_breaches" s_week_breaches P_week_breaches)
    (h_f_ask : DefF K mg "ask" s_ask P_ask)
    (h_f_answered : DefF K mg "answered" s_answered P_answered)
    (h_g_WN : mg "WITH_NUMBER" = some (.ref wn))
    (h_wn : ∀ H, SqT K H wn [.int 3, .int 7])
    (h_ox : OexC K cR)
    (h_xf : XfC K cR)
    (h_nr : PySem.W.findIn K (.ref cR) "refusal" = some none)
    (h_ir : PySem.W.findIn K (.ref cR) "__init__" = some (some (.ref fR)))
    (h_tr : PySem.W.typeIn K (.ref fR) = some (.type "function"))
    (h_er : PySem.W.exmOne K (.ref cR) (.ref cR) = some true)
    (h_dr : ∃ fd, Fun K "__init__" "Refused.__init__" s_R_init fR fd ∧ Binds K fd P_R_init []) : Txt K mg ⟨cS, cB, cBr, cD, cL, cR, cK, wn, fR⟩ :=
  { c_REST := h_c_REST, c_DRIVING := h_c_DRIVING, c_WEEK := h_c_WEEK, c_MOST_DRIVING_breaks := h_c_MOST_DRIVING_breaks, c_WHOLE_breaks := h_c_WHOLE_breaks, c_FIRST_PART := h_c_FIRST_PART, c_SECOND_PART := h_c_SECOND_PART, c_RULE := h_c_RULE, c_DAY := h_c_DAY, c_ENDING := h_c_ENDING, c_FULL := h_c_FULL, c_PART := h_c_PART, c_LONG_DRIVING := h_c_LONG_DRIVING, c_MOST_DRIVING_days := h_c_MOST_DRIVING_days, c_MOST_LONG := h_c_MOST_LONG, c_MOST_SHORT := h_c_MOST_SHORT, c_WEEKLY_days := h_c_WEEKLY_days, c_WHOLE_days := h_c_WHOLE_days, c_SHORT := h_c_SHORT, c_TOO_SHORT := h_c_TOO_SHORT, c_OPEN := h_c_OPEN, c_DRIVING_RULE := h_c_DRIVING_RULE, c_REST_RULE := h_c_REST_RULE, c_SHORT_RULE := h_c_SHORT_RULE, c_WEEKLY_weeks := h_c_WEEKLY_weeks, c_WHOLE_weeks := h_c_WHOLE_weeks, c_DAILY := h_c_DAILY, c_LATEST := h_c_LATEST, c_WEEKS_TO_MAKE_UP := h_c_WEEKS_TO_MAKE_UP, c_MOST_IN_WEEK := h_c_MOST_IN_WEEK, c_MOST_IN_TWO := h_c_MOST_IN_TWO, c_KINDS := h_c_KINDS, c_LONGEST := h_c_LONGEST, c_MOST_TOLD := h_c_MOST_TOLD, c_LAST_WEEK := h_c_LAST_WEEK, c_WRONG := h_c_WRONG, c_TOO_MANY := h_c_TOO_MANY, c_NONE := h_c_NONE, c_ADD := h_c_ADD, b_len := h_b_len, b_enumerate := h_b_enumerate, b_max := h_b_max, b_min := h_b_min, b_range := h_b_range, b_zip := h_b_zip, b_sorted := h_b_sorted, b_int := h_b_int, g_S := h_g_S, cl_S := h_cl_S, na_S_kind := h_na_S_kind, na_S_begin := h_na_S_begin, na_S_end := h_na_S_end, i_S := h_i_S, m_S_minutes := h_m_S_minutes, m_S_is_rest := h_m_S_is_rest, g_B := h_g_B, cl_B := h_cl_B, na_B_minute := h_na_B_minute, na_B_rule := h_na_B_rule, na_B_amount := h_na_B_amount, i_B := h_i_B, m_B_key := h_m_B_key, g_Br := h_g_Br, cl_Br := h_cl_Br, na_Br_driving := h_na_Br_driving, na_Br_has_part := h_na_Br_has_part, na_Br_minute := h_na_Br_minute, na_Br_breaches := h_na_Br_breaches, i_Br := h_i_Br, m_Br_close := h_m_Br_close, m_Br_take_rest := h_m_Br_take_rest, m_Br_drive := h_m_Br_drive, m_Br_take := h_m_Br_take, g_D := h_g_D, cl_D := h_cl_D, na_D_begin := h_na_D_begin, na_D_driving := h_na_D_driving, na_D_has_part := h_na_D_has_part, na_D_rest := h_na_D_rest, i_D := h_i_D, m_D_counted := h_m_D_counted, m_D_state := h_m_D_state, g_L := h_g_L, cl_L := h_cl_L, na_L_amount := h_na_L_amount, na_L_deadline := h_na_L_deadline, na_L_is_open := h_na_L_is_open, i_L := h_i_L, g_R := h_g_R, g_K := h_g_K, cl_K := h_cl_K, na_K_told := h_na_K_told, i_K := h_i_K, m_K_stretches := h_m_K_stretches, m_K_last_minute := h_m_K_last_minute, m_K_forget := h_m_K_forget, m_K_add := h_m_K_add, m_K_drop := h_m_K_drop, m_K_report := h_m_K_report, m_K_now := h_m_K_now, m_K_days := h_m_K_days, m_K_week := h_m_K_week, m_K_answer := h_m_K_answer, f_stretches_of := h_f_stretches_of, f_end_of := h_f_end_of, f_first_work := h_f_first_work, f_behind_work := h_f_behind_work, f_driving_in := h_f_driving_in, f_driving_in_week := h_f_driving_in_week, f_breaks_of := h_f_breaks_of, f_break_breaches := h_f_break_breaches, f_days_of := h_f_days_of, f_driving_breaches := h_f_driving_breaches, f_rest_breaches := h_f_rest_breaches, f_short_breaches := h_f_short_breaches, f_day_breaches := h_f_day_breaches, f_weekly_rests := h_f_weekly_rests, f_is_short := h_f_is_short, f_late_breaches := h_f_late_breaches, f_pair_breaches := h_f_pair_breaches, f_spared := h_f_spared, f_make_up := h_f_make_up, f_lacks_of := h_f_lacks_of, f_lack_breaches := h_f_lack_breaches, f_calendar_breaches := h_f_calendar_breaches, f_week_breaches := h_f_week_breaches, f_ask := h_f_ask, f_answered := h_f_answered, g_WN := h_g_WN, wn := h_wn, ox := h_ox, xf := h_xf, nr := h_nr, ir := h_ir, tr := h_tr, er := h_er, dr := h_dr }
end
end Dv
open PySem PySem.W PyProof.Rows
set_option maxRecDepth 100000 in
set_option maxHeartbeats 8000000 in
theorem PySem.Challenge.cw_drivershours_s01_answers_holds : PySem.Challenge.rw_drivershours_s01_answers.Holds := by
  w_on; k_headS; (case hw => exact ⟨[.list [.int 1]], by decide +kernel, by decide +kernel⟩)
  k_fillS
  refine L2.walk_specK (r := PySem.Challenge.rw_drivershours_s01_answers) (k := 11) (CX := L2.CX0) (ps := ["calls"]) (sp := Dv.spAnswers) (by decide +kernel) rfl rfl ⟨rfl, by decide, by decide⟩ (fun w h Y => PySem.W.kIn_of Y) ?F ?S (fun _ _ _ _ z => z)
  case F =>
    intro w mg fa h Y KX G hmg
    refine' Dv.all_mk KX G hmg ?xAa ?xAl ?xAc ?xAk (Dv.txt_mk
      (h_c_REST := Dv.ci_mk KX G ?xc_REST)
      (h_c_DRIVING := Dv.ci_mk KX G ?xc_DRIVING)
      (h_c_WEEK := Dv.ci_mk KX G ?xc_WEEK)
      (h_c_MOST_DRIVING_breaks := Dv.ci_mk KX G ?xc_MOST_DRIVING_breaks)
      (h_c_WHOLE_breaks := Dv.ci_mk KX G ?xc_WHOLE_breaks)
      (h_c_FIRST_PART := Dv.ci_mk KX G ?xc_FIRST_PART)
      (h_c_SECOND_PART := Dv.ci_mk KX G ?xc_SECOND_PART)
      (h_c_RULE := Dv.ci_mk KX G ?xc_RULE)
      (h_c_DAY := Dv.ci_mk KX G ?xc_DAY)
      (h_c_ENDING := Dv.ci_mk KX G ?xc_ENDING)
      (h_c_FULL := Dv.ci_mk KX G ?xc_FULL)
      (h_c_PART := Dv.ci_mk KX G ?xc_PART)
      (h_c_LONG_DRIVING := Dv.ci_mk KX G ?xc_LONG_DRIVING)
      (h_c_MOST_DRIVING_days := Dv.ci_mk KX G ?xc_MOST_DRIVING_days)
      (h_c_MOST_LONG := Dv.ci_mk KX G ?xc_MOST_LONG)
      (h_c_MOST_SHORT := Dv.ci_mk KX G ?xc_MOST_SHORT)
      (h_c_WEEKLY_days := Dv.ci_mk KX G ?xc_WEEKLY_days)
      (h_c_WHOLE_days := Dv.ci_mk KX G ?xc_WHOLE_days)
      (h_c_SHORT := Dv.ci_mk KX G ?xc_SHORT)
      (h_c_TOO_SHORT := Dv.ci_mk KX G ?xc_TOO_SHORT)
      (h_c_OPEN := Dv.ci_mk KX G ?xc_OPEN)
      (h_c_DRIVING_RULE := Dv.ci_mk KX G ?xc_DRIVING_RULE)
      (h_c_REST_RULE := Dv.ci_mk KX G ?xc_REST_RULE)
      (h_c_SHORT_RULE := Dv.ci_mk KX G ?xc_SHORT_RULE)
      (h_c_WEEKLY_weeks := Dv.ci_mk KX G ?xc_WEEKLY_weeks)
      (h_c_WHOLE_weeks := Dv.ci_mk KX G ?xc_WHOLE_weeks)
      (h_c_DAILY := Dv.ci_mk KX G ?xc_DAILY)
      (h_c_LATEST := Dv.ci_mk KX G ?xc_LATEST)
      (h_c_WEEKS_TO_MAKE_UP := Dv.ci_mk KX G ?xc_WEEKS_TO_MAKE_UP)
      (h_c_MOST_IN_WEEK := Dv.ci_mk KX G ?xc_MOST_IN_WEEK)
      (h_c_MOST_IN_TWO := Dv.ci_mk KX G ?xc_MOST_IN_TWO)
      (h_c_KINDS := Dv.ci_mk KX G ?xc_KINDS)
      (h_c_LONGEST := Dv.ci_mk KX G ?xc_LONGEST)
      (h_c_MOST_TOLD := Dv.ci_mk KX G ?xc_MOST_TOLD)
      (h_c_LAST_WEEK := Dv.ci_mk KX G ?xc_LAST_WEEK)
      (h_c_WRONG := Dv.ci_mk KX G ?xc_WRONG)
      (h_c_TOO_MANY := Dv.ci_mk KX G ?xc_TOO_MANY)
      (h_c_NONE := Dv.ci_mk KX G ?xc_NONE)
      (h_c_ADD := Dv.ci_mk KX G ?xc_ADD)
      (h_b_len := mg_none_of KX G ?xb_len)
      (h_b_enumerate := mg_none_of KX G ?xb_enumerate)
      (h_b_max := mg_none_of KX G ?xb_max)
      (h_b_min := mg_none_of KX G ?xb_min)
      (h_b_range := mg_none_of KX G ?xb_range)
      (h_b_zip := mg_none_of KX G ?xb_zip)
      (h_b_sorted := mg_none_of KX G ?xb_sorted)
      (h_b_int := mg_none_of KX G ?xb_int)
      (h_g_S := mg_of KX G ?xg_S)
      (h_cl_S := ⟨?xpg_S, ?xhd_S, ?xpo_S, ?xsa_S⟩)
      (h_na_S_kind := Dv.na_mk ?xn_S_kind)
      (h_na_S_begin := Dv.na_mk ?xn_S_begin)
      (h_na_S_end := Dv.na_mk ?xn_S_end)
      (h_i_S := Dv.mk_S_init ?xm_S_init ?xq_S_init ?xa_S_init ?xi_S_init ?xl_S_init ?xc_S_init ?xk_S_init)
      (h_m_S_minutes := Dv.mk_S_minutes ?xa_S_minutes ?xi_S_minutes ?xl_S_minutes ?xc_S_minutes ?xk_S_minutes)
      (h_m_S_is_rest := Dv.mk_S_is_rest ?xa_S_is_rest ?xi_S_is_rest ?xl_S_is_rest ?xc_S_is_rest ?xk_S_is_rest)
      (h_g_B := mg_of KX G ?xg_B)
      (h_cl_B := ⟨?xpg_B, ?xhd_B, ?xpo_B, ?xsa_B⟩)
      (h_na_B_minute := Dv.na_mk ?xn_B_minute)
      (h_na_B_rule := Dv.na_mk ?xn_B_rule)
      (h_na_B_amount := Dv.na_mk ?xn_B_amount)
      (h_i_B := Dv.mk_B_init ?xm_B_init ?xq_B_init ?xa_B_init ?xi_B_init ?xl_B_init ?xc_B_init ?xk_B_init)
      (h_m_B_key := Dv.mk_B_key ?xa_B_key ?xi_B_key ?xl_B_key ?xc_B_key ?xk_B_key)
      (h_g_Br := mg_of KX G ?xg_Br)
      (h_cl_Br := ⟨?xpg_Br, ?xhd_Br, ?xpo_Br, ?xsa_Br⟩)
      (h_na_Br_driving := Dv.na_mk ?xn_Br_driving)
      (h_na_Br_has_part := Dv.na_mk ?xn_Br_has_part)
      (h_na_Br_minute := Dv.na_mk ?xn_Br_minute)
      (h_na_Br_breaches := Dv.na_mk ?xn_Br_breaches)
      (h_i_Br := Dv.mk_Br_init ?xm_Br_init ?xq_Br_init ?xa_Br_init ?xi_Br_init ?xl_Br_init ?xc_Br_init ?xk_Br_init)
      (h_m_Br_close := Dv.mk_Br_close ?xa_Br_close ?xi_Br_close ?xl_Br_close ?xc_Br_close ?xk_Br_close)
      (h_m_Br_take_rest := Dv.mk_Br_take_rest ?xa_Br_take_rest ?xi_Br_take_rest ?xl_Br_take_rest ?xc_Br_take_rest ?xk_Br_take_rest)
      (h_m_Br_drive := Dv.mk_Br_drive ?xa_Br_drive ?xi_Br_drive ?xl_Br_drive ?xc_Br_drive ?xk_Br_drive)
      (h_m_Br_take := Dv.mk_Br_take ?xa_Br_take ?xi_Br_take ?xl_Br_take ?xc_Br_take ?xk_Br_take)
      (h_g_D := mg_of KX G ?xg_D)
      (h_cl_D := ⟨?xpg_D, ?xhd_D, ?xpo_D, ?xsa_D⟩)
      (h_na_D_begin := Dv.na_mk ?xn_D_begin)
      (h_na_D_driving := Dv.na_mk ?xn_D_driving)
      (h_na_D_has_part := Dv.na_mk ?xn_D_has_part)
      (h_na_D_rest := Dv.na_mk ?xn_D_rest)
      (h_i_D := Dv.mk_D_init ?xm_D_init ?xq_D_init ?xa_D_init ?xi_D_init ?xl_D_init ?xc_D_init ?xk_D_init)
      (h_m_D_counted := Dv.mk_D_counted ?xa_D_counted ?xi_D_counted ?xl_D_counted ?xc_D_counted ?xk_D_counted)
      (h_m_D_state := Dv.mk_D_state ?xa_D_state ?xi_D_state ?xl_D_state ?xc_D_state ?xk_D_state)
      (h_g_L := mg_of KX G ?xg_L)
      (h_cl_L := ⟨?xpg_L, ?xhd_L, ?xpo_L, ?xsa_L⟩)
      (h_na_L_amount := Dv.na_mk ?xn_L_amount)
      (h_na_L_deadline := Dv.na_mk ?xn_L_deadline)
      (h_na_L_is_open := Dv.na_mk ?xn_L_is_open)
      (h_i_L := Dv.mk_L_init ?xm_L_init ?xq_L_init ?xa_L_init ?xi_L_init ?xl_L_init ?xc_L_init ?xk_L_init)
      (h_g_R := mg_of KX G ?xg_R)
      (h_g_K := mg_of KX G ?xg_K)
      (h_cl_K := ⟨?xpg_K, ?xhd_K, ?xpo_K, ?xsa_K⟩)
      (h_na_K_told := Dv.na_mk ?xn_K_told)
      (h_i_K := Dv.mk_K_init ?xm_K_init ?xq_K_init ?xa_K_init ?xi_K_init ?xl_K_init ?xc_K_init ?xk_K_init)
      (h_m_K_stretches := Dv.mk_K_stretches ?xa_K_stretches ?xi_K_stretches ?xl_K_stretches ?xc_K_stretches ?xk_K_stretches)
      (h_m_K_last_minute := Dv.mk_K_last_minute ?xa_K_last_minute ?xi_K_last_minute ?xl_K_last_minute ?xc_K_last_minute ?xk_K_last_minute)
      (h_m_K_forget := Dv.mk_K_forget ?xa_K_forget ?xi_K_forget ?xl_K_forget ?xc_K_forget ?xk_K_forget)
      (h_m_K_add := Dv.mk_K_add ?xa_K_add ?xi_K_add ?xl_K_add ?xc_K_add ?xk_K_add)
      (h_m_K_drop := Dv.mk_K_drop ?xa_K_drop ?xi_K_drop ?xl_K_drop ?xc_K_drop ?xk_K_drop)
      (h_m_K_report := Dv.mk_K_report ?xa_K_report ?xi_K_report ?xl_K_report ?xc_K_report ?xk_K_report)
      (h_m_K_now := Dv.mk_K_now ?xa_K_now ?xi_K_now ?xl_K_now ?xc_K_now ?xk_K_now)
      (h_m_K_days := Dv.mk_K_days ?xa_K_days ?xi_K_days ?xl_K_days ?xc_K_days ?xk_K_days)
      (h_m_K_week := Dv.mk_K_week ?xa_K_week ?xi_K_week ?xl_K_week ?xc_K_week ?xk_K_week)
      (h_m_K_answer := Dv.mk_K_answer ?xa_K_answer ?xi_K_answer ?xl_K_answer ?xc_K_answer ?xk_K_answer)
      (h_f_stretches_of := Dv.mk_stretches_of KX G ?xa_stretches_of ?xl_stretches_of ?xc_stretches_of ?xk_stretches_of)
      (h_f_end_of := Dv.mk_end_of KX G ?xa_end_of ?xl_end_of ?xc_end_of ?xk_end_of)
      (h_f_first_work := Dv.mk_first_work KX G ?xa_first_work ?xl_first_work ?xc_first_work ?xk_first_work)
      (h_f_behind_work := Dv.mk_behind_work KX G ?xa_behind_work ?xl_behind_work ?xc_behind_work ?xk_behind_work)
      (h_f_driving_in := Dv.mk_driving_in KX G ?xa_driving_in ?xl_driving_in ?xc_driving_in ?xk_driving_in)
      (h_f_driving_in_week := Dv.mk_driving_in_week KX G ?xa_driving_in_week ?xl_driving_in_week ?xc_driving_in_week ?xk_driving_in_week)
      (h_f_breaks_of := Dv.mk_breaks_of KX G ?xa_breaks_of ?xl_breaks_of ?xc_breaks_of ?xk_breaks_of)
      (h_f_break_breaches := Dv.mk_break_breaches KX G ?xa_break_breaches ?xl_break_breaches ?xc_break_breaches ?xk_break_breaches)
      (h_f_days_of := Dv.mk_days_of KX G ?xa_days_of ?xl_days_of ?xc_days_of ?xk_days_of)
      (h_f_driving_breaches := Dv.mk_driving_breaches KX G ?xa_driving_breaches ?xl_driving_breaches ?xc_driving_breaches ?xk_driving_breaches)
      (h_f_rest_breaches := Dv.mk_rest_breaches KX G ?xa_rest_breaches ?xl_rest_breaches ?xc_rest_breaches ?xk_rest_breaches)
      (h_f_short_breaches := Dv.mk_short_breaches KX G ?xa_short_breaches ?xl_short_breaches ?xc_short_breaches ?xk_short_breaches)
      (h_f_day_breaches := Dv.mk_day_breaches KX G ?xa_day_breaches ?xl_day_breaches ?xc_day_breaches ?xk_day_breaches)
      (h_f_weekly_rests := Dv.mk_weekly_rests KX G ?xa_weekly_rests ?xl_weekly_rests ?xc_weekly_rests ?xk_weekly_rests)
      (h_f_is_short := Dv.mk_is_short KX G ?xa_is_short ?xl_is_short ?xc_is_short ?xk_is_short)
      (h_f_late_breaches := Dv.mk_late_breaches KX G ?xa_late_breaches ?xl_late_breaches ?xc_late_breaches ?xk_late_breaches)
      (h_f_pair_breaches := Dv.mk_pair_breaches KX G ?xa_pair_breaches ?xl_pair_breaches ?xc_pair_breaches ?xk_pair_breaches)
      (h_f_spared := Dv.mk_spared KX G ?xa_spared ?xl_spared ?xc_spared ?xk_spared)
      (h_f_make_up := Dv.mk_make_up KX G ?xa_make_up ?xl_make_up ?xc_make_up ?xk_make_up)
      (h_f_lacks_of := Dv.mk_lacks_of KX G ?xa_lacks_of ?xl_lacks_of ?xc_lacks_of ?xk_lacks_of)
      (h_f_lack_breaches := Dv.mk_lack_breaches KX G ?xa_lack_breaches ?xl_lack_breaches ?xc_lack_breaches ?xk_lack_breaches)
      (h_f_calendar_breaches := Dv.mk_calendar_breaches KX G ?xa_calendar_breaches ?xl_calendar_breaches ?xc_calendar_breaches ?xk_calendar_breaches)
      (h_f_week_breaches := Dv.mk_week_breaches KX G ?xa_week_breaches ?xl_week_breaches ?xc_week_breaches ?xk_week_breaches)
      (h_f_ask := Dv.mk_ask KX G ?xa_ask ?xl_ask ?xc_ask ?xk_ask)
      (h_f_answered := Dv.mk_answered KX G ?xa_answered ?xl_answered ?xc_answered ?xk_answered)
      (h_g_WN := mg_of KX G ?xg_WN)
      (h_wn := Dv.wn_mk ?xl_WN)
      (h_ox := Dv.ox_mk ?xrL ?xrsa ?xreC ?xrtC ?xrkC)
      (h_xf := ⟨?xfga, ?xfgg, ?xfeC, ?xfhC⟩)
      (h_nr := ?xnr)
      (h_ir := ?xir)
      (h_tr := ?xtr)
      (h_er := Dv.exm_self ?xee ?xei ?xet ?xes)
      (h_dr := Dv.mk_R_init ?xdl ?xdc ?xdk))
    (case xAa => k_is); (case xAl => k_is); (case xAc => k_is); (case xAk => k_is)
    (case xc_REST => k_is); (case xc_DRIVING => k_is); (case xc_WEEK => k_is); (case xc_MOST_DRIVING_breaks => k_is)
    (case xc_WHOLE_breaks => k_is); (case xc_FIRST_PART => k_is); (case xc_SECOND_PART => k_is); (case xc_RULE => k_is)
    (case xc_DAY => k_is); (case xc_ENDING => k_is); (case xc_FULL => k_is); (case xc_PART => k_is)
    (case xc_LONG_DRIVING => k_is); (case xc_MOST_DRIVING_days => k_is); (case xc_MOST_LONG => k_is); (case xc_MOST_SHORT => k_is)
    (case xc_WEEKLY_days => k_is); (case xc_WHOLE_days => k_is); (case xc_SHORT => k_is); (case xc_TOO_SHORT => k_is)
    (case xc_OPEN => k_is); (case xc_DRIVING_RULE => k_is); (case xc_REST_RULE => k_is); (case xc_SHORT_RULE => k_is)
    (case xc_WEEKLY_weeks => k_is); (case xc_WHOLE_weeks => k_is); (case xc_DAILY => k_is); (case xc_LATEST => k_is)
    (case xc_WEEKS_TO_MAKE_UP => k_is); (case xc_MOST_IN_WEEK => k_is); (case xc_MOST_IN_TWO => k_is); (case xc_KINDS => k_is)
    (case xc_LONGEST => k_is); (case xc_MOST_TOLD => k_is); (case xc_LAST_WEEK => k_is); (case xc_WRONG => k_is)
    (case xc_TOO_MANY => k_is); (case xc_NONE => k_is); (case xc_ADD => k_is); (case xb_len => k_is)
    (case xb_enumerate => k_is); (case xb_max => k_is); (case xb_min => k_is); (case xb_range => k_is)
    (case xb_zip => k_is); (case xb_sorted => k_is); (case xb_int => k_is); (case xg_S => k_is)
    (case xpg_S => k_is); (case xhd_S => k_is); (case xpo_S => k_is); (case xsa_S => k_is)
    (case xn_S_kind => k_is); (case xn_S_begin => k_is); (case xn_S_end => k_is); (case xm_S_init => k_is)
    (case xq_S_init => k_is); (case xa_S_init => k_is); (case xi_S_init => k_is); (case xl_S_init => k_is)
    (case xc_S_init => k_is); (case xk_S_init => k_is); (case xa_S_minutes => k_is); (case xi_S_minutes => k_is)
    (case xl_S_minutes => k_is); (case xc_S_minutes => k_is); (case xk_S_minutes => k_is); (case xa_S_is_rest => k_is)
    (case xi_S_is_rest => k_is); (case xl_S_is_rest => k_is); (case xc_S_is_rest => k_is); (case xk_S_is_rest => k_is)
    (case xg_B => k_is); (case xpg_B => k_is); (case xhd_B => k_is); (case xpo_B => k_is)
    (case xsa_B => k_is); (case xn_B_minute => k_is); (case xn_B_rule => k_is); (case xn_B_amount => k_is)
    (case xm_B_init => k_is); (case xq_B_init => k_is); (case xa_B_init => k_is); (case xi_B_init => k_is)
    (case xl_B_init => k_is); (case xc_B_init => k_is); (case xk_B_init => k_is); (case xa_B_key => k_is)
    (case xi_B_key => k_is); (case xl_B_key => k_is); (case xc_B_key => k_is); (case xk_B_key => k_is)
    (case xg_Br => k_is); (case xpg_Br => k_is); (case xhd_Br => k_is); (case xpo_Br => k_is)
    (case xsa_Br => k_is); (case xn_Br_driving => k_is); (case xn_Br_has_part => k_is); (case xn_Br_minute => k_is)
    (case xn_Br_breaches => k_is); (case xm_Br_init => k_is); (case xq_Br_init => k_is); (case xa_Br_init => k_is)
    (case xi_Br_init => k_is); (case xl_Br_init => k_is); (case xc_Br_init => k_is); (case xk_Br_init => k_is)
    (case xa_Br_close => k_is); (case xi_Br_close => k_is); (case xl_Br_close => k_is); (case xc_Br_close => k_is)
    (case xk_Br_close => k_is); (case xa_Br_take_rest => k_is); (case xi_Br_take_rest => k_is); (case xl_Br_take_rest => k_is)
    (case xc_Br_take_rest => k_is); (case xk_Br_take_rest => k_is); (case xa_Br_drive => k_is); (case xi_Br_drive => k_is)
    (case xl_Br_drive => k_is); (case xc_Br_drive => k_is); (case xk_Br_drive => k_is); (case xa_Br_take => k_is)
    (case xi_Br_take => k_is); (case xl_Br_take => k_is); (case xc_Br_take => k_is); (case xk_Br_take => k_is)
    (case xg_D => k_is); (case xpg_D => k_is); (case xhd_D => k_is); (case xpo_D => k_is)
    (case xsa_D => k_is); (case xn_D_begin => k_is); (case xn_D_driving => k_is); (case xn_D_has_part => k_is)
    (case xn_D_rest => k_is); (case xm_D_init => k_is); (case xq_D_init => k_is); (case xa_D_init => k_is)
    (case xi_D_init => k_is); (case xl_D_init => k_is); (case xc_D_init => k_is); (case xk_D_init => k_is)
    (case xa_D_counted => k_is); (case xi_D_counted => k_is); (case xl_D_counted => k_is); (case xc_D_counted => k_is)
    (case xk_D_counted => k_is); (case xa_D_state => k_is); (case xi_D_state => k_is); (case xl_D_state => k_is)
    (case xc_D_state => k_is); (case xk_D_state => k_is); (case xg_L => k_is); (case xpg_L => k_is)
    (case xhd_L => k_is); (case xpo_L => k_is); (case xsa_L => k_is); (case xn_L_amount => k_is)
    (case xn_L_deadline => k_is); (case xn_L_is_open => k_is); (case xm_L_init => k_is); (case xq_L_init => k_is)
    (case xa_L_init => k_is); (case xi_L_init => k_is); (case xl_L_init => k_is); (case xc_L_init => k_is)
    (case xk_L_init => k_is); (case xg_R => k_is); (case xg_K => k_is); (case xpg_K => k_is)
    (case xhd_K => k_is); (case xpo_K => k_is); (case xsa_K => k_is); (case xn_K_told => k_is)
    (case xm_K_init => k_is); (case xq_K_init => k_is); (case xa_K_init => k_is); (case xi_K_init => k_is)
    (case xl_K_init => k_is); (case xc_K_init => k_is); (case xk_K_init => k_is); (case xa_K_stretches => k_is)
    (case xi_K_stretches => k_is); (case xl_K_stretches => k_is); (case xc_K_stretches => k_is); (case xk_K_stretches => k_is)
    (case xa_K_last_minute => k_is); (case xi_K_last_minute => k_is); (case xl_K_last_minute => k_is); (case xc_K_last_minute => k_is)
    (case xk_K_last_minute => k_is); (case xa_K_forget => k_is); (case xi_K_forget => k_is); (case xl_K_forget => k_is)
    (case xc_K_forget => k_is); (case xk_K_forget => k_is); (case xa_K_add => k_is); (case xi_K_add => k_is)
    (case xl_K_add => k_is); (case xc_K_add => k_is); (case xk_K_add => k_is); (case xa_K_drop => k_is)
    (case xi_K_drop => k_is); (case xl_K_drop => k_is); (case xc_K_drop => k_is); (case xk_K_drop => k_is)
    (case xa_K_report => k_is); (case xi_K_report => k_is); (case xl_K_report => k_is); (case xc_K_report => k_is)
    (case xk_K_report => k_is); (case xa_K_now => k_is); (case xi_K_now => k_is); (case xl_K_now => k_is)
    (case xc_K_now => k_is); (case xk_K_now => k_is); (case xa_K_days => k_is); (case xi_K_days => k_is)
    (case xl_K_days => k_is); (case xc_K_days => k_is); (case xk_K_days => k_is); (case xa_K_week => k_is)
    (case xi_K_week => k_is); (case xl_K_week => k_is); (case xc_K_week => k_is); (case xk_K_week => k_is)
    (case xa_K_answer => k_is); (case xi_K_answer => k_is); (case xl_K_answer => k_is); (case xc_K_answer => k_is)
    (case xk_K_answer => k_is); (case xa_stretches_of => k_is); (case xl_stretches_of => k_is); (case xc_stretches_of => k_is)
    (case xk_stretches_of => k_is); (case xa_end_of => k_is); (case xl_end_of => k_is); (case xc_end_of => k_is)
    (case xk_end_of => k_is); (case xa_first_work => k_is); (case xl_first_work => k_is); (case xc_first_work => k_is)
    (case xk_first_work => k_is); (case xa_behind_work => k_is); (case xl_behind_work => k_is); (case xc_behind_work => k_is)
    (case xk_behind_work => k_is); (case xa_driving_in => k_is); (case xl_driving_in => k_is); (case xc_driving_in => k_is)
    (case xk_driving_in => k_is); (case xa_driving_in_week => k_is); (case xl_driving_in_week => k_is); (case xc_driving_in_week => k_is)
    (case xk_driving_in_week => k_is); (case xa_breaks_of => k_is); (case xl_breaks_of => k_is); (case xc_breaks_of => k_is)
    (case xk_breaks_of => k_is); (case xa_break_breaches => k_is); (case xl_break_breaches => k_is); (case xc_break_breaches => k_is)
    (case xk_break_breaches => k_is); (case xa_days_of => k_is); (case xl_days_of => k_is); (case xc_days_of => k_is)
    (case xk_days_of => k_is); (case xa_driving_breaches => k_is); (case xl_driving_breaches => k_is); (case xc_driving_breaches => k_is)
    (case xk_driving_breaches => k_is); (case xa_rest_breaches => k_is); (case xl_rest_breaches => k_is); (case xc_rest_breaches => k_is)
    (case xk_rest_breaches => k_is); (case xa_short_breaches => k_is); (case xl_short_breaches => k_is); (case xc_short_breaches => k_is)
    (case xk_short_breaches => k_is); (case xa_day_breaches => k_is); (case xl_day_breaches => k_is); (case xc_day_breaches => k_is)
    (case xk_day_breaches => k_is); (case xa_weekly_rests => k_is); (case xl_weekly_rests => k_is); (case xc_weekly_rests => k_is)
    (case xk_weekly_rests => k_is); (case xa_is_short => k_is); (case xl_is_short => k_is); (case xc_is_short => k_is)
    (case xk_is_short => k_is); (case xa_late_breaches => k_is); (case xl_late_breaches => k_is); (case xc_late_breaches => k_is)
    (case xk_late_breaches => k_is); (case xa_pair_breaches => k_is); (case xl_pair_breaches => k_is); (case xc_pair_breaches => k_is)
    (case xk_pair_breaches => k_is); (case xa_spared => k_is); (case xl_spared => k_is); (case xc_spared => k_is)
    (case xk_spared => k_is); (case xa_make_up => k_is); (case xl_make_up => k_is); (case xc_make_up => k_is)
    (case xk_make_up => k_is); (case xa_lacks_of => k_is); (case xl_lacks_of => k_is); (case xc_lacks_of => k_is)
    (case xk_lacks_of => k_is); (case xa_lack_breaches => k_is); (case xl_lack_breaches => k_is); (case xc_lack_breaches => k_is)
    (case xk_lack_breaches => k_is); (case xa_calendar_breaches => k_is); (case xl_calendar_breaches => k_is); (case xc_calendar_breaches => k_is)
    (case xk_calendar_breaches => k_is); (case xa_week_breaches => k_is); (case xl_week_breaches => k_is); (case xc_week_breaches => k_is)
    (case xk_week_breaches => k_is); (case xa_ask => k_is); (case xl_ask => k_is); (case xc_ask => k_is)
    (case xk_ask => k_is); (case xa_answered => k_is); (case xl_answered => k_is); (case xc_answered => k_is)
    (case xk_answered => k_is); (case xg_WN => k_is); (case xl_WN => k_is); (case xrL => k_is)
    (case xrsa => k_is); (case xreC => k_is); (case xrtC => k_is); (case xrkC => k_is)
    (case xfga => k_is); (case xfgg => k_is); (case xfeC => k_is); (case xfhC => k_is)
    (case xnr => k_is); (case xir => k_is); (case xtr => k_is); (case xee => k_is)
    (case xei => k_is); (case xet => k_is); (case xes => first | rfl | k_is); (case xdl => k_is)
    (case xdc => k_is); (case xdk => k_is)
  case S =>
    intro K H xs a hO hwi hask hx
    cases hx with
    | cons h1 h2 =>
      cases h2
      cases h1 with
      | lst hs ha =>
        have e := L2.ints_dw a.1 _ ha
        subst e
        exact ⟨_, a.1, rfl, hs, Dv.given_of hask, fun H' p hp => .lst (L2.SqL.of hp) (L2.dw_ints _)⟩
