import PyProof.Rows.All
import PySem.Challenge.RW_orrery_k60_whole_order_of_edits
import PySem.Str
import Wide.All
import OpenK.AllK
import Wide.FinOn
import HandS.ForExc
import HandS.Comp
import HandS.More
import HandS.Defaults
import HandS.HeadHook1
import HandS.HeadHook2
import HandS.HeadHook3
import HandS.CallLocal
import HandS.Iter
import HandS.Text
import KE.KExcSuper
import HandS.ExcField
set_option Elab.async false
set_option linter.all false
set_option maxRecDepth 100000
set_option maxHeartbeats 4000000
/-! The plain law: contents that edits make, taken apart into their things and built again in any order, are the same contents. No program in sight. -/
namespace Ka
open PySem

abbrev Box := List (Int × Int)
structure BurnM where
  b : Int
  e : Int
  push : Box
  deriving DecidableEq
structure SightM where
  t : Int
  place : Box
  deriving DecidableEq
structure CraftM where
  name : Str
  start : Int
  place : Box
  speed : Box
  drift : Int
  burns : List BurnM
  sights : List SightM
  deriving DecidableEq
structure SiteM where
  name : Str
  place : List Int
  deriving DecidableEq
structure BodyM where
  mu : Int
  obl : Int
  turn : List Int
  deriving DecidableEq
structure ContM where
  body : BodyM
  stride : Int
  fine : Int
  crafts : List CraftM
  sites : List SiteM
inductive EditM where
  | setBody (b : BodyM)
  | setStride (n : Int)
  | setFine (n : Int)
  | addCraft (c : CraftM)
  | dropCraft (n : Str)
  | addSite (s : SiteM)
  | dropSite (n : Str)
  | setDrift (n : Str) (d : Int)
  | addBurn (n : Str) (b : BurnM)
  | dropBurn (n : Str) (t : Int)
  | addSight (n : Str) (s : SightM)
  | dropSight (n : Str) (t : Int)
  deriving DecidableEq
inductive ErrM where
  | noCraft (n : Str)
  | noSite (n : Str)
  | before
  | overlap
  | many
  | noBurn
  | noSight

/-! ### rows in order -/
def nlt (a b : Str) : Bool := decide (a.cps.toList < b.cps.toList)
def put {α : Type} (lt : α → α → Bool) (l : List α) (x : α) : List α := (l.filter (fun r => lt r x) ++ [x]) ++ l.filter (fun r => lt x r)
theorem nlt_irrefl (a : Str) : nlt a a = false := decide_eq_false (List.lt_irrefl _)
theorem nlt_trans {a b c : Str} (h1 : nlt a b = true) (h2 : nlt b c = true) : nlt a c = true :=
  decide_eq_true (List.lt_trans (of_decide_eq_true h1) (of_decide_eq_true h2))
/-- a strict order by a key -/
structure Ord {α : Type} (lt : α → α → Bool) : Prop where
  ir : ∀ a, lt a a = false
  tr : ∀ a b c, lt a b = true → lt b c = true → lt a c = true
theorem Ord.asym {α : Type} {lt : α → α → Bool} (o : Ord lt) {a b : α} (h : lt a b = true) : lt b a = false := by
  cases e : lt b a with
  | false => rfl
  | true =>
    have := o.tr a b a h e
    rw [o.ir] at this
    cases this

def ltC (a b : CraftM) : Bool := nlt a.name b.name
def ltS (a b : SiteM) : Bool := nlt a.name b.name
def ltB (a b : BurnM) : Bool := decide (a.b < b.b)
def ltG (a b : SightM) : Bool := decide (a.t < b.t)
theorem ordC : Ord ltC := ⟨fun a => nlt_irrefl _, fun a b c h1 h2 => nlt_trans h1 h2⟩
theorem ordS : Ord ltS := ⟨fun a => nlt_irrefl _, fun a b c h1 h2 => nlt_trans h1 h2⟩
theorem ordB : Ord ltB := ⟨fun a => decide_eq_false (Int.lt_irrefl _), fun a b c h1 h2 => decide_eq_true (Int.lt_trans (of_decide_eq_true h1) (of_decide_eq_true h2))⟩
theorem ordG : Ord ltG := ⟨fun a => decide_eq_false (Int.lt_irrefl _), fun a b c h1 h2 => decide_eq_true (Int.lt_trans (of_decide_eq_true h1) (of_decide_eq_true h2))⟩
abbrev Srt {α : Type} (lt : α → α → Bool) (l : List α) : Prop := l.Pairwise (fun a b => lt a b = true)

section
variable {α : Type} {lt : α → α → Bool}
theorem mem_put {l : List α} {x y : α} (h : y ∈ put lt l x) : y = x ∨ y ∈ l := by
  unfold put at h
  simp only [List.mem_append, List.mem_filter, List.mem_singleton] at h
  rcases h with (h | h) | h
  · exact .inr h.1
  · exact .inl h
  · exact .inr h.1
theorem put_srt (o : Ord lt) {l : List α} (x : α) (h : Srt lt l) : Srt lt (put lt l x) := by
  unfold put
  refine List.pairwise_append.mpr ⟨List.pairwise_append.mpr ⟨h.filter _, List.pairwise_singleton _ _, ?_⟩, h.filter _, ?_⟩
  · intro a ha b hb
    rw [List.mem_singleton] at hb
    subst hb
    exact (List.mem_filter.mp ha).2
  · intro a ha b hb
    have hb2 := (List.mem_filter.mp hb).2
    rcases List.mem_append.mp ha with ha | ha
    · exact o.tr _ _ _ (List.mem_filter.mp ha).2 hb2
    · rw [List.mem_singleton] at ha
      subst ha
      exact hb2
theorem two_len {p q : α → Bool} (d : ∀ x, p x = true → q x = true → False) : ∀ l : List α, (l.filter p).length + (l.filter q).length ≤ l.length
  | [] => Nat.le_refl _
  | a :: l => by
    have ih := two_len d l
    cases hp : p a with
    | true =>
      have hq : q a = false := by
        cases e : q a with
        | false => rfl
        | true => exact (d a hp e).elim
      rw [List.filter_cons, List.filter_cons, hp, hq]
      simp only [if_true, Bool.false_eq_true, if_false, List.length_cons]
      omega
    | false =>
      cases hq : q a with
      | true =>
        rw [List.filter_cons, List.filter_cons, hp, hq]
        simp only [if_true, Bool.false_eq_true, if_false, List.length_cons]
        omega
      | false =>
        rw [List.filter_cons, List.filter_cons, hp, hq]
        simp only [Bool.false_eq_true, if_false, List.length_cons]
        omega
theorem two_len1 {p q : α → Bool} (d : ∀ x, p x = true → q x = true → False) {y : α} (hp : p y = false) (hq : q y = false) : ∀ l : List α, y ∈ l → (l.filter p).length + (l.filter q).length + 1 ≤ l.length
  | [], h => by cases h
  | a :: l, h => by
    rcases List.mem_cons.mp h with e | h
    · subst e
      have ih := two_len d l
      rw [List.filter_cons, List.filter_cons, hp, hq]
      simp only [Bool.false_eq_true, if_false, List.length_cons]
      omega
    · have ih := two_len1 d hp hq l h
      cases hp' : p a with
      | true =>
        have hq' : q a = false := by
          cases e : q a with
          | false => rfl
          | true => exact (d a hp' e).elim
        rw [List.filter_cons, List.filter_cons, hp', hq']
        simp only [if_true, Bool.false_eq_true, if_false, List.length_cons]
        omega
      | false =>
        cases hq' : q a with
        | true =>
          rw [List.filter_cons, List.filter_cons, hp', hq']
          simp only [if_true, Bool.false_eq_true, if_false, List.length_cons]
          omega
        | false =>
          rw [List.filter_cons, List.filter_cons, hp', hq']
          simp only [Bool.false_eq_true, if_false, List.length_cons]
          omega
theorem put_disj (o : Ord lt) (x : α) : ∀ r, lt r x = true → lt x r = true → False := fun r h1 h2 => by
  have := o.asym h1
  rw [h2] at this
  cases this
theorem put_len (o : Ord lt) (l : List α) (x : α) : (put lt l x).length ≤ l.length + 1 := by
  have : (l.filter (fun r => lt r x)).length + (l.filter (fun r => lt x r)).length ≤ l.length := two_len (put_disj o x) l
  unfold put
  rw [List.length_append, List.length_append, List.length_singleton]
  omega
theorem put_len1 (o : Ord lt) {l : List α} {x y : α} (h : y ∈ l) (h1 : lt y x = false) (h2 : lt x y = false) : (put lt l x).length ≤ l.length := by
  have : (l.filter (fun r => lt r x)).length + (l.filter (fun r => lt x r)).length + 1 ≤ l.length := two_len1 (put_disj o x) h1 h2 l h
  unfold put
  rw [List.length_append, List.length_append, List.length_singleton]
  omega
/-- in a sorted list what stands ahead of an item is below it, what stands behind above -/
theorem srt_split {l : List α} {x : α} (h : Srt lt l) (hx : x ∈ l) : ∃ l1 l2, l = l1 ++ x :: l2 ∧ (∀ y ∈ l1, lt y x = true) ∧ ∀ y ∈ l2, lt x y = true := by
  obtain ⟨l1, l2, e⟩ := List.append_of_mem hx
  subst e
  refine ⟨l1, l2, rfl, fun y hy => ?_, fun y hy => ?_⟩
  · exact (List.pairwise_append.mp h).2.2 y hy x (List.mem_cons_self ..)
  · exact (List.pairwise_cons.mp (List.pairwise_append.mp h).2.1).1 y hy
theorem filter_all {p : α → Bool} {l : List α} (h : ∀ y ∈ l, p y = true) : l.filter p = l := List.filter_eq_self.mpr h
theorem filter_none {p : α → Bool} {l : List α} (h : ∀ y ∈ l, p y = false) : l.filter p = [] := List.filter_eq_nil_iff.mpr fun y hy e => by
  rw [h y hy] at e
  cases e
/-- an item of a sorted list put into a part of it -/
theorem put_part (o : Ord lt) [DecidableEq α] {l : List α} {x : α} (h : Srt lt l) (hx : x ∈ l) (P : α → Bool) : put lt (l.filter P) x = l.filter (fun y => P y || decide (y = x)) := by
  obtain ⟨l1, l2, rfl, h1, h2⟩ := srt_split h hx
  have n1 : ∀ y ∈ l1, y ≠ x := fun y hy e => by
    have := h1 y hy
    rw [e, o.ir] at this
    cases this
  have n2 : ∀ y ∈ l2, y ≠ x := fun y hy e => by
    have := h2 y hy
    rw [e, o.ir] at this
    cases this
  have a1 : ((l1 ++ x :: l2).filter P).filter (fun r => lt r x) = l1.filter P := by
    rw [List.filter_append, List.filter_append, filter_all (l := l1.filter P) fun y hy => h1 y (List.mem_filter.mp hy).1, filter_none (l := (x :: l2).filter P) fun y hy => ?_, List.append_nil]
    rcases List.mem_cons.mp (List.mem_filter.mp hy).1 with e | hy2
    · rw [e]
      exact o.ir x
    · exact o.asym (h2 y hy2)
  have a2 : ((l1 ++ x :: l2).filter P).filter (fun r => lt x r) = l2.filter P := by
    rw [List.filter_append, List.filter_append, filter_none (l := l1.filter P) fun y hy => o.asym (h1 y (List.mem_filter.mp hy).1), List.nil_append]
    cases hP : P x with
    | true =>
      rw [List.filter_cons, hP, if_pos rfl, List.filter_cons, o.ir, if_neg Bool.false_ne_true]
      exact filter_all fun y hy => h2 y (List.mem_filter.mp hy).1
    | false =>
      rw [List.filter_cons, hP, if_neg Bool.false_ne_true]
      exact filter_all fun y hy => h2 y (List.mem_filter.mp hy).1
  have b1 : l1.filter (fun y => P y || decide (y = x)) = l1.filter P := List.filter_congr fun y hy => by rw [decide_eq_false (n1 y hy), Bool.or_false]
  have b2 : l2.filter (fun y => P y || decide (y = x)) = l2.filter P := List.filter_congr fun y hy => by rw [decide_eq_false (n2 y hy), Bool.or_false]
  unfold put
  rw [a1, a2, List.filter_append, List.filter_cons, b1, b2, decide_eq_true rfl, Bool.or_true, if_pos rfl, List.append_assoc]
  rfl
/-- an item of a sorted list replaced -/
theorem put_over {β : Type} {lu : β → β → Bool} (o : Ord lt) [DecidableEq α] {l : List α} {x : α} (h : Srt lt l) (hx : x ∈ l) (f : α → β) (y : β) (k1 : ∀ z, lu (f z) y = lt z x) (k2 : ∀ z, lu y (f z) = lt x z) :
    put lu (l.map f) y = l.map (fun z => if z = x then y else f z) := by
  obtain ⟨l1, l2, rfl, h1, h2⟩ := srt_split h hx
  have n1 : ∀ z ∈ l1, z ≠ x := fun z hz e => by
    have := h1 z hz
    rw [e, o.ir] at this
    cases this
  have n2 : ∀ z ∈ l2, z ≠ x := fun z hz e => by
    have := h2 z hz
    rw [e, o.ir] at this
    cases this
  have a1 : ((l1 ++ x :: l2).map f).filter (fun r => lu r y) = l1.map f := by
    rw [List.filter_map, List.filter_append, filter_all (l := l1), filter_none (l := x :: l2), List.append_nil]
    · intro z hz
      show lu (f z) y = false
      rw [k1]
      rcases List.mem_cons.mp hz with e | hz
      · rw [e]
        exact o.ir x
      · exact o.asym (h2 z hz)
    · intro z hz
      show lu (f z) y = true
      rw [k1]
      exact h1 z hz
  have a2 : ((l1 ++ x :: l2).map f).filter (fun r => lu y r) = l2.map f := by
    rw [List.filter_map, List.filter_append, filter_none (l := l1), List.nil_append, List.filter_cons, if_neg, filter_all (l := l2)]
    · intro z hz
      show lu y (f z) = true
      rw [k2]
      exact h2 z hz
    · show ¬ lu y (f x) = true
      rw [k2, o.ir]
      exact Bool.false_ne_true
    · intro z hz
      show lu y (f z) = false
      rw [k2]
      exact o.asym (h1 z hz)
  unfold put
  rw [a1, a2, List.map_append, List.map_cons, if_pos rfl, List.append_assoc]
  have b1 : l1.map (fun z => if z = x then y else f z) = l1.map f := List.map_congr_left fun z hz => if_neg (n1 z hz)
  have b2 : l2.map (fun z => if z = x then y else f z) = l2.map f := List.map_congr_left fun z hz => if_neg (n2 z hz)
  rw [b1, b2]
  rfl
theorem put_map {β : Type} {lu : β → β → Bool} (f : α → β) (k : ∀ a b, lu (f a) (f b) = lt a b) (l : List α) (x : α) : put lu (l.map f) (f x) = (put lt l x).map f := by
  unfold put
  rw [List.map_append, List.map_append, List.filter_map, List.filter_map]
  have e1 : ((fun r => lu r (f x)) ∘ f) = fun r => lt r x := funext fun r => k r x
  have e2 : ((fun r => lu (f x) r) ∘ f) = fun r => lt x r := funext fun r => k x r
  rw [e1, e2]
  rfl
end
end Ka
/-! The plain law, second part: the edits, what they keep, the rebuilding. -/
namespace Ka
open PySem

def alphabet : Str := "abcdefghijklmnopqrstuvwxyz0123456789_"
def NameOk (s : Str) : Prop := 1 ≤ s.length ∧ s.length ≤ 12 ∧ ∀ c ∈ s.cps.toList, c ∈ alphabet.cps.toList
def BoxOk (m : Int) (b : Box) : Prop := ∀ p ∈ b, -m ≤ p.1 ∧ p.1 ≤ p.2 ∧ p.2 ≤ m
structure CraftOk (c : CraftM) : Prop where
  name : NameOk c.name
  st : 0 ≤ c.start ∧ c.start ≤ 100000
  pl : BoxOk 1000000000000000 c.place
  sp : BoxOk 1000000000000000 c.speed
  dr : 0 ≤ c.drift ∧ c.drift ≤ 1000000000000

/-! ### the edits -/
def findC (l : List CraftM) (n : Str) : Option CraftM := l.find? (fun c => decide (c.name = n))
def findS (l : List SiteM) (n : Str) : Option SiteM := l.find? (fun c => decide (c.name = n))
def strip (c : CraftM) : CraftM := { c with burns := [], sights := [] }
def withB (c : CraftM) (d : Int) (bs : List BurnM) (ss : List SightM) : CraftM := { c with drift := d, burns := bs, sights := ss }
def withC (c : ContM) (cs : List CraftM) : ContM := { c with crafts := cs }
def withS (c : ContM) (ss : List SiteM) : ContM := { c with sites := ss }
def changed (c : ContM) (cr : CraftM) (d : Int) (bs : List BurnM) (ss : List SightM) : ContM := withC c (put ltC c.crafts (withB cr d bs ss))
def otherB (cr : CraftM) (t : Int) : List BurnM := cr.burns.filter (fun o => !decide (o.b = t))
def otherG (cr : CraftM) (t : Int) : List SightM := cr.sights.filter (fun o => !decide (o.t = t))
def clash (o b : BurnM) : Bool := decide (o.b < b.e) && decide (b.b < o.e)

def addCraftM (c : ContM) (cr : CraftM) : Except ErrM ContM :=
  if findC c.crafts cr.name = none ∧ 20 ≤ c.crafts.length then .error .many else .ok (withC c (put ltC c.crafts (strip cr)))
def dropCraftM (c : ContM) (n : Str) : Except ErrM ContM := match findC c.crafts n with
  | none => .error (.noCraft n)
  | some _ => .ok (withC c (c.crafts.filter (fun r => !decide (r.name = n))))
def setDriftM (c : ContM) (n : Str) (d : Int) : Except ErrM ContM := match findC c.crafts n with
  | none => .error (.noCraft n)
  | some cr => .ok (changed c cr d cr.burns cr.sights)
def addBurnM (c : ContM) (n : Str) (b : BurnM) : Except ErrM ContM := match findC c.crafts n with
  | none => .error (.noCraft n)
  | some cr => if b.b < cr.start then .error .before else
    if (otherB cr b.b).any (fun o => clash o b) = true then .error .overlap else
    if 20 ≤ (otherB cr b.b).length then .error .many else .ok (changed c cr cr.drift (put ltB (otherB cr b.b) b) cr.sights)
def dropBurnM (c : ContM) (n : Str) (t : Int) : Except ErrM ContM := match findC c.crafts n with
  | none => .error (.noCraft n)
  | some cr => if (otherB cr t).length = cr.burns.length then .error .noBurn else .ok (changed c cr cr.drift (otherB cr t) cr.sights)
def addSightM (c : ContM) (n : Str) (s : SightM) : Except ErrM ContM := match findC c.crafts n with
  | none => .error (.noCraft n)
  | some cr => if s.t < cr.start then .error .before else
    if 20 ≤ (otherG cr s.t).length then .error .many else .ok (changed c cr cr.drift cr.burns (put ltG (otherG cr s.t) s))
def dropSightM (c : ContM) (n : Str) (t : Int) : Except ErrM ContM := match findC c.crafts n with
  | none => .error (.noCraft n)
  | some cr => if (otherG cr t).length = cr.sights.length then .error .noSight else .ok (changed c cr cr.drift cr.burns (otherG cr t))
def addSiteM (c : ContM) (s : SiteM) : Except ErrM ContM :=
  if findS c.sites s.name = none ∧ 10 ≤ c.sites.length then .error .many else .ok (withS c (put ltS c.sites s))
def dropSiteM (c : ContM) (n : Str) : Except ErrM ContM := match findS c.sites n with
  | none => .error (.noSite n)
  | some _ => .ok (withS c (c.sites.filter (fun r => !decide (r.name = n))))
def applyE (c : ContM) : EditM → Except ErrM ContM
  | .setBody b => .ok { c with body := b }
  | .setStride n => .ok { c with stride := n }
  | .setFine n => .ok { c with fine := n }
  | .addCraft cr => addCraftM c cr
  | .dropCraft n => dropCraftM c n
  | .addSite s => addSiteM c s
  | .dropSite n => dropSiteM c n
  | .setDrift n d => setDriftM c n d
  | .addBurn n b => addBurnM c n b
  | .dropBurn n t => dropBurnM c n t
  | .addSight n s => addSightM c n s
  | .dropSight n t => dropSightM c n t
def EditOk : EditM → Prop
  | .setStride n => 1 ≤ n ∧ n ≤ 1000
  | .setFine n => 0 ≤ n ∧ n ≤ 6
  | .addCraft cr => CraftOk cr
  | .addSite s => NameOk s.name
  | .setDrift _ d => 0 ≤ d ∧ d ≤ 1000000000000
  | _ => True

/-! ### what holds of all contents that edits make -/
structure WFC (c : CraftM) : Prop where
  ok : CraftOk c
  bs : Srt ltB c.burns
  bd : ∀ x ∈ c.burns, ∀ y ∈ c.burns, x.b ≠ y.b → clash x y = false
  bt : ∀ x ∈ c.burns, c.start ≤ x.b
  bl : c.burns.length ≤ 20
  gs : Srt ltG c.sights
  gt : ∀ x ∈ c.sights, c.start ≤ x.t
  gl : c.sights.length ≤ 20
structure WF (c : ContM) : Prop where
  st : 1 ≤ c.stride ∧ c.stride ≤ 1000
  fi : 0 ≤ c.fine ∧ c.fine ≤ 6
  cs : Srt ltC c.crafts
  cl : c.crafts.length ≤ 20
  cw : ∀ x ∈ c.crafts, WFC x
  ss : Srt ltS c.sites
  sl : c.sites.length ≤ 10
  sn : ∀ x ∈ c.sites, NameOk x.name
theorem findC_some {l : List CraftM} {n : Str} {cr : CraftM} (h : findC l n = some cr) : cr ∈ l ∧ cr.name = n := by
  unfold findC at h
  have h2 := List.find?_some h
  exact ⟨List.mem_of_find?_eq_some h, of_decide_eq_true h2⟩
theorem findC_none {l : List CraftM} {n : Str} (h : findC l n = none) : ∀ x ∈ l, x.name ≠ n := fun x hx e => by
  unfold findC at h
  exact List.find?_eq_none.mp h x hx (decide_eq_true e)
theorem findS_some {l : List SiteM} {n : Str} {cr : SiteM} (h : findS l n = some cr) : cr ∈ l ∧ cr.name = n := by
  unfold findS at h
  have h2 := List.find?_some h
  exact ⟨List.mem_of_find?_eq_some h, of_decide_eq_true h2⟩
theorem findS_none {l : List SiteM} {n : Str} (h : findS l n = none) : ∀ x ∈ l, x.name ≠ n := fun x hx e => by
  unfold findS at h
  exact List.find?_eq_none.mp h x hx (decide_eq_true e)
theorem clash_comm (x y : BurnM) : clash x y = clash y x := by
  unfold clash
  exact Bool.and_comm _ _
theorem strip_ok {c : CraftM} (h : CraftOk c) : WFC (strip c) :=
  ⟨⟨h.name, h.st, h.pl, h.sp, h.dr⟩, List.Pairwise.nil, (fun x hx => by cases hx), (fun x hx => by cases hx), Nat.zero_le _, List.Pairwise.nil, (fun x hx => by cases hx), Nat.zero_le _⟩
theorem wf_changed {c : ContM} (w : WF c) {cr : CraftM} (h : cr ∈ c.crafts) {d : Int} {bs : List BurnM} {ss : List SightM} (n : WFC (withB cr d bs ss)) : WF (changed c cr d bs ss) := by
  refine ⟨w.st, w.fi, put_srt ordC _ w.cs, ?_, fun x hx => ?_, w.ss, w.sl, w.sn⟩
  · exact Nat.le_trans (put_len1 ordC h (nlt_irrefl _) (nlt_irrefl _)) w.cl
  · rcases mem_put hx with e | hx
    · rw [e]
      exact n
    · exact w.cw x hx
theorem filt_srt {α : Type} {lt : α → α → Bool} {l : List α} (p : α → Bool) (h : Srt lt l) : Srt lt (l.filter p) := List.Pairwise.filter p h
theorem wf_apply {c c' : ContM} {e : EditM} (w : WF c) (ok : EditOk e) (h : applyE c e = .ok c') : WF c' := by
  cases e with
  | setBody b =>
    cases h
    exact ⟨w.st, w.fi, w.cs, w.cl, w.cw, w.ss, w.sl, w.sn⟩
  | setStride n =>
    cases h
    exact ⟨ok, w.fi, w.cs, w.cl, w.cw, w.ss, w.sl, w.sn⟩
  | setFine n =>
    cases h
    exact ⟨w.st, ok, w.cs, w.cl, w.cw, w.ss, w.sl, w.sn⟩
  | addCraft cr =>
    have h : addCraftM c cr = .ok c' := h
    unfold addCraftM at h
    split at h
    · cases h
    · rename_i q
      cases h
      refine ⟨w.st, w.fi, put_srt ordC _ w.cs, ?_, fun x hx => ?_, w.ss, w.sl, w.sn⟩
      · show (put ltC c.crafts (strip cr)).length ≤ 20
        cases f : findC c.crafts cr.name with
        | none =>
          have l1 := put_len ordC c.crafts (strip cr)
          have l2 : ¬ 20 ≤ c.crafts.length := fun z => q ⟨f, z⟩
          omega
        | some y =>
          obtain ⟨y1, y2⟩ := findC_some f
          refine Nat.le_trans (put_len1 ordC y1 ?_ ?_) w.cl
          · show nlt y.name cr.name = false
            rw [y2]
            exact nlt_irrefl _
          · show nlt cr.name y.name = false
            rw [y2]
            exact nlt_irrefl _
      · rcases mem_put hx with e | hx
        · rw [e]
          exact strip_ok ok
        · exact w.cw x hx
  | dropCraft n =>
    have h : dropCraftM c n = .ok c' := h
    unfold dropCraftM at h
    split at h
    · cases h
    · cases h
      exact ⟨w.st, w.fi, filt_srt _ w.cs, Nat.le_trans (List.length_filter_le _ _) w.cl, fun x hx => w.cw x (List.mem_filter.mp hx).1, w.ss, w.sl, w.sn⟩
  | addSite s =>
    have h : addSiteM c s = .ok c' := h
    unfold addSiteM at h
    split at h
    · cases h
    · rename_i q
      cases h
      refine ⟨w.st, w.fi, w.cs, w.cl, w.cw, put_srt ordS _ w.ss, ?_, fun x hx => ?_⟩
      rotate_left
      · rcases mem_put hx with e | hx
        · rw [e]
          exact ok
        · exact w.sn x hx
      show (put ltS c.sites s).length ≤ 10
      cases f : findS c.sites s.name with
      | none =>
        have l1 := put_len ordS c.sites s
        have l2 : ¬ 10 ≤ c.sites.length := fun z => q ⟨f, z⟩
        omega
      | some y =>
        obtain ⟨y1, y2⟩ := findS_some f
        refine Nat.le_trans (put_len1 ordS y1 ?_ ?_) w.sl
        · show nlt y.name s.name = false
          rw [y2]
          exact nlt_irrefl _
        · show nlt s.name y.name = false
          rw [y2]
          exact nlt_irrefl _
  | dropSite n =>
    have h : dropSiteM c n = .ok c' := h
    unfold dropSiteM at h
    split at h
    · cases h
    · cases h
      exact ⟨w.st, w.fi, w.cs, w.cl, w.cw, filt_srt _ w.ss, Nat.le_trans (List.length_filter_le _ _) w.sl, fun x hx => w.sn x (List.mem_filter.mp hx).1⟩
  | setDrift n d =>
    have h : setDriftM c n d = .ok c' := h
    unfold setDriftM at h
    split at h
    · cases h
    · rename_i cr f
      cases h
      obtain ⟨hm, _⟩ := findC_some f
      have wc := w.cw cr hm
      exact wf_changed w hm ⟨⟨wc.ok.name, wc.ok.st, wc.ok.pl, wc.ok.sp, ok⟩, wc.bs, wc.bd, wc.bt, wc.bl, wc.gs, wc.gt, wc.gl⟩
  | addBurn n b =>
    have h : addBurnM c n b = .ok c' := h
    unfold addBurnM at h
    split at h
    · cases h
    · rename_i cr f
      obtain ⟨hm, _⟩ := findC_some f
      have wc := w.cw cr hm
      split at h
      · cases h
      · rename_i q1
        split at h
        · cases h
        · rename_i q2
          split at h
          · cases h
          · rename_i q3
            cases h
            have o : ∀ x ∈ otherB cr b.b, clash x b = false := fun x hx => by
              cases e : clash x b with
              | false => rfl
              | true => exact (q2 (List.any_eq_true.mpr ⟨x, hx, e⟩)).elim
            have om : ∀ x ∈ otherB cr b.b, x ∈ cr.burns := fun x hx => (List.mem_filter.mp hx).1
            refine wf_changed w hm ⟨⟨wc.ok.name, wc.ok.st, wc.ok.pl, wc.ok.sp, wc.ok.dr⟩, put_srt ordB _ (filt_srt _ wc.bs), fun x hx y hy ne => ?_, fun x hx => ?_, ?_, wc.gs, wc.gt, wc.gl⟩
            · rcases mem_put hx with ex | hx
              · rcases mem_put hy with ey | hy
                · exact (ne (by rw [ex, ey])).elim
                · rw [ex, clash_comm]
                  exact o y hy
              · rcases mem_put hy with ey | hy
                · rw [ey]
                  exact o x hx
                · exact wc.bd x (om x hx) y (om y hy) ne
            · rcases mem_put hx with ex | hx
              · rw [ex]
                exact Int.not_lt.mp q1
              · exact wc.bt x (om x hx)
            · have l1 := put_len ordB (otherB cr b.b) b
              show (put ltB (otherB cr b.b) b).length ≤ 20
              omega
  | dropBurn n t =>
    have h : dropBurnM c n t = .ok c' := h
    unfold dropBurnM at h
    split at h
    · cases h
    · rename_i cr f
      obtain ⟨hm, _⟩ := findC_some f
      have wc := w.cw cr hm
      split at h
      · cases h
      · cases h
        have om : ∀ x ∈ otherB cr t, x ∈ cr.burns := fun x hx => (List.mem_filter.mp hx).1
        exact wf_changed w hm ⟨⟨wc.ok.name, wc.ok.st, wc.ok.pl, wc.ok.sp, wc.ok.dr⟩, filt_srt _ wc.bs, fun x hx y hy ne => wc.bd x (om x hx) y (om y hy) ne, fun x hx => wc.bt x (om x hx),
          Nat.le_trans (List.length_filter_le _ _) wc.bl, wc.gs, wc.gt, wc.gl⟩
  | addSight n s =>
    have h : addSightM c n s = .ok c' := h
    unfold addSightM at h
    split at h
    · cases h
    · rename_i cr f
      obtain ⟨hm, _⟩ := findC_some f
      have wc := w.cw cr hm
      split at h
      · cases h
      · rename_i q1
        split at h
        · cases h
        · rename_i q3
          cases h
          refine wf_changed w hm ⟨⟨wc.ok.name, wc.ok.st, wc.ok.pl, wc.ok.sp, wc.ok.dr⟩, wc.bs, wc.bd, wc.bt, wc.bl, put_srt ordG _ (filt_srt _ wc.gs), fun x hx => ?_, ?_⟩
          · rcases mem_put hx with ex | hx
            · rw [ex]
              exact Int.not_lt.mp q1
            · exact wc.gt x (List.mem_filter.mp hx).1
          · have l1 := put_len ordG (otherG cr s.t) s
            show (put ltG (otherG cr s.t) s).length ≤ 20
            omega
  | dropSight n t =>
    have h : dropSightM c n t = .ok c' := h
    unfold dropSightM at h
    split at h
    · cases h
    · rename_i cr f
      obtain ⟨hm, _⟩ := findC_some f
      have wc := w.cw cr hm
      split at h
      · cases h
      · cases h
        exact wf_changed w hm ⟨⟨wc.ok.name, wc.ok.st, wc.ok.pl, wc.ok.sp, wc.ok.dr⟩, wc.bs, wc.bd, wc.bt, wc.bl, filt_srt _ wc.gs, fun x hx => wc.gt x (List.mem_filter.mp hx).1,
          Nat.le_trans (List.length_filter_le _ _) wc.gl⟩

/-! ### the rebuilding -/
def things1 (c : ContM) : List EditM := c.crafts.map EditM.addCraft
def thingsC (cr : CraftM) : List EditM := cr.burns.map (EditM.addBurn cr.name) ++ cr.sights.map (EditM.addSight cr.name)
def things2 (c : ContM) : List EditM := c.sites.map EditM.addSite ++ c.crafts.flatMap thingsC
def empty (c : ContM) : ContM := ⟨c.body, c.stride, c.fine, [], []⟩
/-- the crafts, bare, of which P tells -/
def part1 (c : ContM) (P : EditM → Bool) : ContM := ⟨c.body, c.stride, c.fine, (c.crafts.filter (fun x => P (.addCraft x))).map strip, []⟩
def partC (P : EditM → Bool) (x : CraftM) : CraftM := { x with burns := x.burns.filter (fun b => P (.addBurn x.name b)), sights := x.sights.filter (fun s => P (.addSight x.name s)) }
/-- all crafts, with those of their things, and those sites, of which P tells -/
def part2 (c : ContM) (P : EditM → Bool) : ContM := ⟨c.body, c.stride, c.fine, c.crafts.map (partC P), c.sites.filter (fun x => P (.addSite x))⟩
theorem lt_name {l : List CraftM} (h : Srt ltC l) {x y : CraftM} (hx : x ∈ l) (hy : y ∈ l) (e : x.name = y.name) : x = y := by
  obtain ⟨l1, l2, rfl, h1, h2⟩ := srt_split h hx
  rcases List.mem_append.mp hy with hy | hy
  · have q : nlt y.name x.name = true := h1 y hy
    rw [e, nlt_irrefl] at q
    cases q
  · rcases List.mem_cons.mp hy with hy | hy
    · exact hy.symm
    · have q : nlt x.name y.name = true := h2 y hy
      rw [e, nlt_irrefl] at q
      cases q
theorem step1 {c : ContM} (w : WF c) (P : EditM → Bool) {e : EditM} (h : e ∈ things1 c) : applyE (part1 c P) e = .ok (part1 c (fun x => P x || decide (x = e))) := by
  obtain ⟨cr, hc, rfl⟩ := List.mem_map.mp h
  show addCraftM (part1 c P) cr = _
  unfold addCraftM
  have hn : ¬ (findC (part1 c P).crafts cr.name = none ∧ 20 ≤ (part1 c P).crafts.length) := by
    rintro ⟨f, l⟩
    have l2 : (part1 c P).crafts.length = (c.crafts.filter (fun x => P (.addCraft x))).length := List.length_map _
    have l3 : (c.crafts.filter (fun x => P (.addCraft x))).length + 0 + 1 ≤ c.crafts.length := by
      have z : P (.addCraft cr) = false := by
        cases q : P (.addCraft cr) with
        | false => rfl
        | true => exact (findC_none f (strip cr) (List.mem_map.mpr ⟨cr, List.mem_filter.mpr ⟨hc, q⟩, rfl⟩) rfl).elim
      have y := two_len1 (p := fun x => P (.addCraft x)) (q := fun _ => false) (fun _ _ q => by cases q) z rfl c.crafts hc
      omega
    have := w.cl
    omega
  rw [if_neg hn]
  congr 1
  unfold withC part1
  congr 1
  show put ltC ((c.crafts.filter (fun x => P (.addCraft x))).map strip) (strip cr) = _
  rw [put_map strip (lt := ltC) (fun _ _ => rfl), put_part ordC w.cs hc]
  congr 1
  refine List.filter_congr fun x _ => ?_
  congr 1
  exact decide_eq_decide.mpr ⟨fun q => by rw [q], fun q => by cases q; rfl⟩
theorem findC_part {c : ContM} (w : WF c) (P : EditM → Bool) {cr : CraftM} (h : cr ∈ c.crafts) : findC (part2 c P).crafts cr.name = some (partC P cr) := by
  cases f : findC (part2 c P).crafts cr.name with
  | none => exact (findC_none f (partC P cr) (List.mem_map.mpr ⟨cr, h, rfl⟩) rfl).elim
  | some y =>
    obtain ⟨hy, e⟩ := findC_some f
    obtain ⟨z, hz, rfl⟩ := List.mem_map.mp hy
    have e2 : z.name = cr.name := e
    rw [lt_name w.cs hz h e2]
theorem over_part {c : ContM} (w : WF c) (P P' : EditM → Bool) {cr y : CraftM} (h : cr ∈ c.crafts) (hn : y.name = cr.name) (e1 : y = partC P' cr) (e2 : ∀ x ∈ c.crafts, x ≠ cr → partC P' x = partC P x) :
    put ltC (part2 c P).crafts y = (part2 c P').crafts := by
  show put ltC (c.crafts.map (partC P)) y = c.crafts.map (partC P')
  rw [put_over ordC w.cs h (partC P) y (fun z => by show nlt z.name y.name = nlt z.name cr.name; rw [hn]) (fun z => by show nlt y.name z.name = nlt cr.name z.name; rw [hn])]
  refine List.map_congr_left fun z hz => ?_
  split
  · rename_i q
    rw [q, e1]
  · rename_i q
    exact (e2 z hz q).symm
theorem put_other {l : List BurnM} {b : BurnM} : put ltB (l.filter (fun o => !decide (o.b = b.b))) b = put ltB l b := by
  unfold put
  rw [List.filter_filter, List.filter_filter]
  congr 1
  · congr 1
    refine List.filter_congr fun x _ => ?_
    cases q : ltB x b with
    | false => rfl
    | true =>
      have : x.b < b.b := of_decide_eq_true q
      have n : ¬ x.b = b.b := by omega
      rw [decide_eq_false n] <;> rfl
  · refine List.filter_congr fun x _ => ?_
    cases q : ltB b x with
    | false => rfl
    | true =>
      have : b.b < x.b := of_decide_eq_true q
      have n : ¬ x.b = b.b := by omega
      rw [decide_eq_false n] <;> rfl
theorem put_otherG {l : List SightM} {b : SightM} : put ltG (l.filter (fun o => !decide (o.t = b.t))) b = put ltG l b := by
  unfold put
  rw [List.filter_filter, List.filter_filter]
  congr 1
  · congr 1
    refine List.filter_congr fun x _ => ?_
    cases q : ltG x b with
    | false => rfl
    | true =>
      have : x.t < b.t := of_decide_eq_true q
      have n : ¬ x.t = b.t := by omega
      rw [decide_eq_false n] <;> rfl
  · refine List.filter_congr fun x _ => ?_
    cases q : ltG b x with
    | false => rfl
    | true =>
      have : b.t < x.t := of_decide_eq_true q
      have n : ¬ x.t = b.t := by omega
      rw [decide_eq_false n] <;> rfl
theorem dec_ne {e x : EditM} {P : EditM → Bool} (h : x ≠ e) : (P x || decide (x = e)) = P x := by rw [decide_eq_false h, Bool.or_false]
theorem len_other {α : Type} {p q : α → Bool} {l : List α} {y : α} (hy : y ∈ l) (h : p y = false) : ((l.filter q).filter p).length + 1 ≤ l.length := by
  have a := two_len1 (p := fun x => p x && q x) (q := fun _ => false) (fun _ _ z => by cases z) (by show (p y && q y) = false; rw [h]; rfl) rfl l hy
  rw [List.filter_filter]
  omega
theorem step2 {c : ContM} (w : WF c) (P : EditM → Bool) {e : EditM} (h : e ∈ things2 c) : applyE (part2 c P) e = .ok (part2 c (fun x => P x || decide (x = e))) := by
  rcases List.mem_append.mp h with h | h
  · obtain ⟨s, hs, rfl⟩ := List.mem_map.mp h
    show addSiteM (part2 c P) s = _
    unfold addSiteM
    have hn : ¬ (findS (part2 c P).sites s.name = none ∧ 10 ≤ (part2 c P).sites.length) := by
      rintro ⟨f, l⟩
      have l2 : (part2 c P).sites.length = (c.sites.filter (fun x => P (.addSite x))).length := rfl
      have l3 : (c.sites.filter (fun x => P (.addSite x))).length + 0 + 1 ≤ c.sites.length := by
        have z : P (.addSite s) = false := by
          cases q : P (.addSite s) with
          | false => rfl
          | true => exact (findS_none f s (List.mem_filter.mpr ⟨hs, q⟩) rfl).elim
        have y := two_len1 (p := fun x => P (.addSite x)) (q := fun _ => false) (fun _ _ q => by cases q) z rfl c.sites hs
        omega
      have := w.sl
      omega
    rw [if_neg hn]
    congr 1
    unfold withS part2
    congr 1
    · refine List.map_congr_left fun x _ => ?_
      unfold partC
      congr 1
      · exact List.filter_congr fun b _ => (dec_ne (fun q => by cases q)).symm
      · exact List.filter_congr fun b _ => (dec_ne (fun q => by cases q)).symm
    · show put ltS (c.sites.filter (fun x => P (.addSite x))) s = _
      rw [put_part ordS w.ss hs]
      refine List.filter_congr fun x _ => ?_
      congr 1
      exact decide_eq_decide.mpr ⟨fun q => by rw [q], fun q => by cases q; rfl⟩
  · obtain ⟨cr, hc, h⟩ := List.mem_flatMap.mp h
    have wc := w.cw cr hc
    rcases List.mem_append.mp h with h | h
    · obtain ⟨b, hb, rfl⟩ := List.mem_map.mp h
      show addBurnM (part2 c P) cr.name b = _
      unfold addBurnM
      rw [findC_part w P hc]
      have q1 : ¬ b.b < (partC P cr).start := Int.not_lt.mpr (wc.bt b hb)
      have om : ∀ x ∈ otherB (partC P cr) b.b, x ∈ cr.burns ∧ x.b ≠ b.b := fun x hx => by
        obtain ⟨h1, h2⟩ := List.mem_filter.mp hx
        refine ⟨(List.mem_filter.mp h1).1, fun z => ?_⟩
        rw [decide_eq_true z] at h2
        cases h2
      have q2 : ¬ (otherB (partC P cr) b.b).any (fun o => clash o b) = true := fun z => by
        obtain ⟨x, hx, hz⟩ := List.any_eq_true.mp z
        obtain ⟨x1, x2⟩ := om x hx
        rw [wc.bd x x1 b hb x2] at hz
        cases hz
      have q3 : ¬ 20 ≤ (otherB (partC P cr) b.b).length := by
        have z : (otherB (partC P cr) b.b).length + 1 ≤ cr.burns.length := len_other hb (by show (!decide (b.b = b.b)) = false; rw [decide_eq_true rfl]; rfl)
        have := wc.bl
        omega
      show (if b.b < (partC P cr).start then _ else _) = _
      rw [if_neg q1, if_neg q2, if_neg q3]
      congr 1
      have nb : put ltB (otherB (partC P cr) b.b) b = cr.burns.filter (fun x => P (.addBurn cr.name x) || decide (EditM.addBurn cr.name x = .addBurn cr.name b)) := by
        have z : put ltB (otherB (partC P cr) b.b) b = put ltB (cr.burns.filter (fun x => P (.addBurn cr.name x))) b := put_other
        rw [z, put_part ordB wc.bs hb]
        refine List.filter_congr fun x _ => ?_
        congr 1
        exact decide_eq_decide.mpr ⟨fun q => by rw [q], fun q => by cases q; rfl⟩
      have ec := over_part w P (fun x => P x || decide (x = .addBurn cr.name b)) hc (y := withB (partC P cr) (partC P cr).drift (put ltB (otherB (partC P cr) b.b) b) (partC P cr).sights) rfl
        (by
          unfold withB
          rw [nb]
          unfold partC
          congr 1
          exact List.filter_congr fun g _ => (dec_ne (fun q => by cases q)).symm)
        (fun x hx ne => by
          unfold partC
          congr 1
          · exact List.filter_congr fun g _ => dec_ne (fun q => by
              injection q with q1 q2
              exact ne (lt_name w.cs hx hc q1))
          · exact List.filter_congr fun g _ => dec_ne (fun q => by cases q))
      unfold changed withC
      rw [ec]
      unfold part2
      congr 1
      exact List.filter_congr fun g _ => (dec_ne (fun q => by cases q)).symm
    · obtain ⟨b, hb, rfl⟩ := List.mem_map.mp h
      show addSightM (part2 c P) cr.name b = _
      unfold addSightM
      rw [findC_part w P hc]
      have q1 : ¬ b.t < (partC P cr).start := Int.not_lt.mpr (wc.gt b hb)
      have q3 : ¬ 20 ≤ (otherG (partC P cr) b.t).length := by
        have z : (otherG (partC P cr) b.t).length + 1 ≤ cr.sights.length := len_other hb (by show (!decide (b.t = b.t)) = false; rw [decide_eq_true rfl]; rfl)
        have := wc.gl
        omega
      show (if b.t < (partC P cr).start then _ else _) = _
      rw [if_neg q1, if_neg q3]
      congr 1
      have nb : put ltG (otherG (partC P cr) b.t) b = cr.sights.filter (fun x => P (.addSight cr.name x) || decide (EditM.addSight cr.name x = .addSight cr.name b)) := by
        have z : put ltG (otherG (partC P cr) b.t) b = put ltG (cr.sights.filter (fun x => P (.addSight cr.name x))) b := put_otherG
        rw [z, put_part ordG wc.gs hb]
        refine List.filter_congr fun x _ => ?_
        congr 1
        exact decide_eq_decide.mpr ⟨fun q => by rw [q], fun q => by cases q; rfl⟩
      have ec := over_part w P (fun x => P x || decide (x = .addSight cr.name b)) hc (y := withB (partC P cr) (partC P cr).drift (partC P cr).burns (put ltG (otherG (partC P cr) b.t) b)) rfl
        (by
          unfold withB
          rw [nb]
          unfold partC
          congr 1
          exact List.filter_congr fun g _ => (dec_ne (fun q => by cases q)).symm)
        (fun x hx ne => by
          unfold partC
          congr 1
          · exact List.filter_congr fun g _ => dec_ne (fun q => by cases q)
          · exact List.filter_congr fun g _ => dec_ne (fun q => by
              injection q with q1 q2
              exact ne (lt_name w.cs hx hc q1)))
      unfold changed withC
      rw [ec]
      unfold part2
      congr 1
      exact List.filter_congr fun g _ => (dec_ne (fun q => by cases q)).symm
theorem part1_none (c : ContM) : part1 c (fun _ => false) = empty c := by
  unfold part1 empty
  rw [filter_none (fun _ _ => rfl)]
  rfl
theorem part1_all {c : ContM} {P : EditM → Bool} (h : ∀ e ∈ things1 c, P e = true) : part1 c P = part2 c (fun _ => false) := by
  unfold part1 part2
  rw [filter_all (fun x hx => h _ (List.mem_map.mpr ⟨x, hx, rfl⟩)), filter_none (l := c.sites) (fun _ _ => rfl)]
  congr 1
  refine List.map_congr_left fun x _ => ?_
  unfold strip partC
  rw [filter_none (l := x.burns) (fun _ _ => rfl), filter_none (l := x.sights) (fun _ _ => rfl)]
theorem part2_all {c : ContM} {P : EditM → Bool} (h : ∀ e ∈ things2 c, P e = true) : part2 c P = c := by
  obtain ⟨bo, st, fi, cs, ss⟩ := c
  unfold part2
  congr 1
  · show cs.map (partC P) = cs
    have e : ∀ x ∈ cs, partC P x = x := fun x hx => by
      have hx' : ∀ e ∈ thingsC x, P e = true := fun e he => h e (List.mem_append_right _ (List.mem_flatMap.mpr ⟨x, hx, he⟩))
      unfold partC
      rw [filter_all (l := x.burns) (fun b hb => hx' _ (List.mem_append_left _ (List.mem_map.mpr ⟨b, hb, rfl⟩))), filter_all (l := x.sights) (fun b hb => hx' _ (List.mem_append_right _ (List.mem_map.mpr ⟨b, hb, rfl⟩)))]
    rw [List.map_congr_left e, List.map_id']
  · exact filter_all fun s hs => h _ (List.mem_append_left _ (List.mem_map.mpr ⟨s, hs, rfl⟩))
theorem take_snoc {α : Type} : ∀ {l : List α} {i : Nat} {x : α}, l[i]? = some x → l.take (i + 1) = l.take i ++ [x]
  | [], i, x, h => by simp at h
  | a :: l, 0, x, h => by
    have e : a = x := Option.some.inj h
    subst e
    rfl
  | a :: l, i + 1, x, h => by
    have ih := take_snoc (l := l) (i := i) (x := x) h
    show a :: l.take (i + 1) = a :: l.take i ++ [x]
    rw [ih]
    rfl
theorem taken_more {l : List EditM} {i : Nat} {x : EditM} (h : l[i]? = some x) : (fun e => decide (e ∈ l.take i) || decide (e = x)) = fun e => decide (e ∈ l.take (i + 1)) := by
  funext e
  rw [take_snoc h]
  cases q : decide (e ∈ l.take i) with
  | true =>
    have : e ∈ l.take i := of_decide_eq_true q
    rw [decide_eq_true (List.mem_append_left _ this)] <;> rfl
  | false =>
    have n : ¬ e ∈ l.take i := of_decide_eq_false q
    rw [Bool.false_or]
    exact decide_eq_decide.mpr ⟨fun z => List.mem_append_right _ (List.mem_singleton.mpr z), fun z => (List.mem_append.mp z).elim (fun y => (n y).elim) fun y => List.mem_singleton.mp y⟩
/-- behind i of the edits e1, then e2 -/
def state (c : ContM) (e1 e2 : List EditM) (i : Nat) : ContM := if i < e1.length then part1 c (fun e => decide (e ∈ e1.take i)) else part2 c (fun e => decide (e ∈ e2.take (i - e1.length)))
theorem state_zero {c : ContM} {e1 e2 : List EditM} (h1 : ∀ e, e ∈ e1 ↔ e ∈ things1 c) : state c e1 e2 0 = empty c := by
  unfold state
  split
  · have e : (fun e => decide (e ∈ e1.take 0)) = fun _ : EditM => false := by
      funext e
      rw [List.take_zero]
      rfl
    rw [e]
    exact part1_none c
  · rename_i q
    have l0 : e1 = [] := List.length_eq_zero_iff.mp (by omega)
    have e : (fun e => decide (e ∈ e2.take (0 - e1.length))) = fun _ : EditM => false := by
      funext e
      rw [Nat.zero_sub, List.take_zero]
      rfl
    rw [e, ← part1_all (P := fun _ => false) fun x hx => ?_]
    · exact part1_none c
    · have := (h1 x).mpr hx
      rw [l0] at this
      cases this
theorem state_step {c : ContM} {e1 e2 : List EditM} (w : WF c) (h1 : ∀ e, e ∈ e1 ↔ e ∈ things1 c) (h2 : ∀ e, e ∈ e2 ↔ e ∈ things2 c) {i : Nat} {e : EditM} (h : (e1 ++ e2)[i]? = some e) :
    applyE (state c e1 e2 i) e = .ok (state c e1 e2 (i + 1)) := by
  unfold state
  by_cases q : i < e1.length
  · rw [if_pos q]
    rw [List.getElem?_append_left q] at h
    rw [step1 w _ ((h1 e).mp (List.mem_of_getElem? h)), taken_more h]
    by_cases q2 : i + 1 < e1.length
    · rw [if_pos q2]
    · rw [if_neg q2]
      have l1 : i + 1 = e1.length := by omega
      have e0 : (fun e => decide (e ∈ e2.take (i + 1 - e1.length))) = fun _ : EditM => false := by
        funext e
        rw [l1, Nat.sub_self, List.take_zero]
        rfl
      rw [e0]
      congr 1
      refine part1_all fun x hx => decide_eq_true ?_
      rw [l1, List.take_length]
      exact (h1 x).mpr hx
  · rw [if_neg q, if_neg (by omega)]
    rw [List.getElem?_append_right (by omega)] at h
    rw [step2 w _ ((h2 e).mp (List.mem_of_getElem? h)), taken_more h]
    have e0 : i - e1.length + 1 = i + 1 - e1.length := by omega
    rw [e0]
theorem state_last {c : ContM} {e1 e2 : List EditM} (h2 : ∀ e, e ∈ e2 ↔ e ∈ things2 c) : state c e1 e2 (e1 ++ e2).length = c := by
  unfold state
  rw [if_neg (by rw [List.length_append]; omega)]
  refine part2_all fun e he => decide_eq_true ?_
  rw [List.length_append, Nat.add_sub_cancel_left, List.take_length]
  exact (h2 e).mpr he
theorem things1_ok {c : ContM} (w : WF c) : ∀ e ∈ things1 c, EditOk e := fun e he => by
  obtain ⟨x, hx, rfl⟩ := List.mem_map.mp he
  exact (w.cw x hx).ok
theorem things2_ok {c : ContM} (w : WF c) : ∀ e ∈ things2 c, EditOk e := fun e he => by
  rcases List.mem_append.mp he with he | he
  · obtain ⟨x, hx, rfl⟩ := List.mem_map.mp he
    exact w.sn x hx
  · obtain ⟨x, hx, he⟩ := List.mem_flatMap.mp he
    rcases List.mem_append.mp he with he | he
    · obtain ⟨y, hy, rfl⟩ := List.mem_map.mp he
      trivial
    · obtain ⟨y, hy, rfl⟩ := List.mem_map.mp he
      trivial
theorem empty_wf {c : ContM} (w : WF c) : WF (empty c) :=
  ⟨w.st, w.fi, List.Pairwise.nil, Nat.zero_le _, (fun x hx => by cases hx), List.Pairwise.nil, Nat.zero_le _, fun x hx => by cases hx⟩
theorem state_wf {c : ContM} {e1 e2 : List EditM} (w : WF c) (h1 : ∀ e, e ∈ e1 ↔ e ∈ things1 c) (h2 : ∀ e, e ∈ e2 ↔ e ∈ things2 c) : ∀ i, i ≤ (e1 ++ e2).length → WF (state c e1 e2 i)
  | 0, _ => by
    rw [state_zero h1]
    exact empty_wf w
  | i + 1, hi => by
    have h : (e1 ++ e2)[i]? = some (e1 ++ e2)[i] := List.getElem?_eq_getElem (by omega)
    refine wf_apply (state_wf w h1 h2 i (by omega)) ?_ (state_step w h1 h2 h)
    rcases List.mem_append.mp (List.mem_of_getElem? h) with he | he
    · exact things1_ok w _ ((h1 _).mp he)
    · exact things2_ok w _ ((h2 _).mp he)
end Ka
/-! The text by places; the defs as data; the facts asked of what the top has written. -/
namespace Ka
open PySem PySem.Spec PyProof.Rows L2
def top (i : Nat) : Stmt := PySem.Challenge.pw_orrery_k60_whole_order_of_edits.main.body.getD i (.Pass ⟨0, 0, 0, 0⟩)
abbrev s_BadArgument_init : Stmt := inClass (top 2) 0
abbrev s_NoSuchCraft_init : Stmt := inClass (top 3) 0
abbrev s_NoSuchSite_init : Stmt := inClass (top 4) 0
abbrev s_find_named : Stmt := top 11
abbrev s_put_named : Stmt := top 12
abbrev s_drop_named : Stmt := top 13
abbrev s_craft_of : Stmt := top 14
abbrev s_site_of : Stmt := top 15
abbrev s_check : Stmt := top 20
abbrev s_is_name : Stmt := top 21
abbrev s_is_tick : Stmt := top 22
abbrev s_is_box : Stmt := top 23
abbrev s_Body_init : Stmt := inClass (top 24) 0
abbrev s_Burn_init : Stmt := inClass (top 25) 0
abbrev s_Sighting_init : Stmt := inClass (top 26) 0
abbrev s_Craft_init : Stmt := inClass (top 27) 0
abbrev s_Site_init : Stmt := inClass (top 28) 0
abbrev s_Contents_init : Stmt := inClass (top 29) 0
abbrev s_craft_data : Stmt := top 30
abbrev s_body_data : Stmt := top 31
abbrev s_contents_data : Stmt := top 32
abbrev s_with_crafts : Stmt := top 37
abbrev s_with_sites : Stmt := top 38
abbrev s_changed_craft : Stmt := top 39
abbrev s_add_craft : Stmt := top 40
abbrev s_drop_craft : Stmt := top 41
abbrev s_set_drift : Stmt := top 42
abbrev s_add_burn : Stmt := top 43
abbrev s_drop_burn : Stmt := top 44
abbrev s_add_sighting : Stmt := top 45
abbrev s_drop_sighting : Stmt := top 46
abbrev s_add_site : Stmt := top 47
abbrev s_drop_site : Stmt := top 48
abbrev s_set_body : Stmt := top 49
abbrev s_set_stride : Stmt := top 50
abbrev s_set_fineness : Stmt := top 51
abbrev s_apply_edit : Stmt := top 54
abbrev s_law_row : Stmt := top 56
abbrev s_law_edit_error : Stmt := top 57
abbrev s_law_wide : Stmt := top 58
abbrev s_law_drawn_edit : Stmt := top 59
abbrev s_law_edited : Stmt := top 60
abbrev s_law_things : Stmt := top 61
abbrev s_law_shuffled : Stmt := top 62
abbrev s_law : Stmt := top 63
def d_find_named : He.DefD := ⟨("find_named", none), "find_named", "find_named", defArgs s_find_named, defBody s_find_named, defScope s_find_named, [], []⟩
def d_put_named : He.DefD := ⟨("put_named", none), "put_named", "put_named", defArgs s_put_named, defBody s_put_named, defScope s_put_named, [], []⟩
def d_drop_named : He.DefD := ⟨("drop_named", none), "drop_named", "drop_named", defArgs s_drop_named, defBody s_drop_named, defScope s_drop_named, [], []⟩
def d_craft_of : He.DefD := ⟨("craft_of", none), "craft_of", "craft_of", defArgs s_craft_of, defBody s_craft_of, defScope s_craft_of, [], []⟩
def d_site_of : He.DefD := ⟨("site_of", none), "site_of", "site_of", defArgs s_site_of, defBody s_site_of, defScope s_site_of, [], []⟩
def d_check : He.DefD := ⟨("check", none), "check", "check", defArgs s_check, defBody s_check, defScope s_check, [], []⟩
def d_is_name : He.DefD := ⟨("is_name", none), "is_name", "is_name", defArgs s_is_name, defBody s_is_name, defScope s_is_name, [], []⟩
def d_is_tick : He.DefD := ⟨("is_tick", none), "is_tick", "is_tick", defArgs s_is_tick, defBody s_is_tick, defScope s_is_tick, [], []⟩
def d_is_box : He.DefD := ⟨("is_box", none), "is_box", "is_box", defArgs s_is_box, defBody s_is_box, defScope s_is_box, [], []⟩
def d_Body_init : He.DefD := ⟨("Body", some "__init__"), "__init__", "Body.__init__", defArgs s_Body_init, defBody s_Body_init, defScope s_Body_init, [], []⟩
def d_Burn_init : He.DefD := ⟨("Burn", some "__init__"), "__init__", "Burn.__init__", defArgs s_Burn_init, defBody s_Burn_init, defScope s_Burn_init, [], []⟩
def d_Sighting_init : He.DefD := ⟨("Sighting", some "__init__"), "__init__", "Sighting.__init__", defArgs s_Sighting_init, defBody s_Sighting_init, defScope s_Sighting_init, [], []⟩
def d_Craft_init : He.DefD := ⟨("Craft", some "__init__"), "__init__", "Craft.__init__", defArgs s_Craft_init, defBody s_Craft_init, defScope s_Craft_init, [.adr (He.dflAt ("Craft", some "__init__") 0), .adr (He.dflAt ("Craft", some "__init__") 1)], []⟩
def d_Site_init : He.DefD := ⟨("Site", some "__init__"), "__init__", "Site.__init__", defArgs s_Site_init, defBody s_Site_init, defScope s_Site_init, [], []⟩
def d_Contents_init : He.DefD := ⟨("Contents", some "__init__"), "__init__", "Contents.__init__", defArgs s_Contents_init, defBody s_Contents_init, defScope s_Contents_init, [.adr (He.dflAt ("Contents", some "__init__") 0), .adr (He.dflAt ("Contents", some "__init__") 1)], []⟩
def d_craft_data : He.DefD := ⟨("craft_data", none), "craft_data", "craft_data", defArgs s_craft_data, defBody s_craft_data, defScope s_craft_data, [], []⟩
def d_body_data : He.DefD := ⟨("body_data", none), "body_data", "body_data", defArgs s_body_data, defBody s_body_data, defScope s_body_data, [], []⟩
def d_contents_data : He.DefD := ⟨("contents_data", none), "contents_data", "contents_data", defArgs s_contents_data, defBody s_contents_data, defScope s_contents_data, [], []⟩
def d_with_crafts : He.DefD := ⟨("with_crafts", none), "with_crafts", "with_crafts", defArgs s_with_crafts, defBody s_with_crafts, defScope s_with_crafts, [], []⟩
def d_with_sites : He.DefD := ⟨("with_sites", none), "with_sites", "with_sites", defArgs s_with_sites, defBody s_with_sites, defScope s_with_sites, [], []⟩
def d_changed_craft : He.DefD := ⟨("changed_craft", none), "changed_craft", "changed_craft", defArgs s_changed_craft, defBody s_changed_craft, defScope s_changed_craft, [], []⟩
def d_add_craft : He.DefD := ⟨("add_craft", none), "add_craft", "add_craft", defArgs s_add_craft, defBody s_add_craft, defScope s_add_craft, [], []⟩
def d_drop_craft : He.DefD := ⟨("drop_craft", none), "drop_craft", "drop_craft", defArgs s_drop_craft, defBody s_drop_craft, defScope s_drop_craft, [], []⟩
def d_set_drift : He.DefD := ⟨("set_drift", none), "set_drift", "set_drift", defArgs s_set_drift, defBody s_set_drift, defScope s_set_drift, [], []⟩
def d_add_burn : He.DefD := ⟨("add_burn", none), "add_burn", "add_burn", defArgs s_add_burn, defBody s_add_burn, defScope s_add_burn, [], []⟩
def d_drop_burn : He.DefD := ⟨("drop_burn", none), "drop_burn", "drop_burn", defArgs s_drop_burn, defBody s_drop_burn, defScope s_drop_burn, [], []⟩
def d_add_sighting : He.DefD := ⟨("add_sighting", none), "add_sighting", "add_sighting", defArgs s_add_sighting, defBody s_add_sighting, defScope s_add_sighting, [], []⟩
def d_drop_sighting : He.DefD := ⟨("drop_sighting", none), "drop_sighting", "drop_sighting", defArgs s_drop_sighting, defBody s_drop_sighting, defScope s_drop_sighting, [], []⟩
def d_add_site : He.DefD := ⟨("add_site", none), "add_site", "add_site", defArgs s_add_site, defBody s_add_site, defScope s_add_site, [], []⟩
def d_drop_site : He.DefD := ⟨("drop_site", none), "drop_site", "drop_site", defArgs s_drop_site, defBody s_drop_site, defScope s_drop_site, [], []⟩
def d_set_body : He.DefD := ⟨("set_body", none), "set_body", "set_body", defArgs s_set_body, defBody s_set_body, defScope s_set_body, [], []⟩
def d_set_stride : He.DefD := ⟨("set_stride", none), "set_stride", "set_stride", defArgs s_set_stride, defBody s_set_stride, defScope s_set_stride, [], []⟩
def d_set_fineness : He.DefD := ⟨("set_fineness", none), "set_fineness", "set_fineness", defArgs s_set_fineness, defBody s_set_fineness, defScope s_set_fineness, [], []⟩
def d_apply_edit : He.DefD := ⟨("apply_edit", none), "apply_edit", "apply_edit", defArgs s_apply_edit, defBody s_apply_edit, defScope s_apply_edit, [], []⟩
def d_law_row : He.DefD := ⟨("_law_row", none), "_law_row", "_law_row", defArgs s_law_row, defBody s_law_row, defScope s_law_row, [], []⟩
def d_law_edit_error : He.DefD := ⟨("_law_edit_error", none), "_law_edit_error", "_law_edit_error", defArgs s_law_edit_error, defBody s_law_edit_error, defScope s_law_edit_error, [], []⟩
def d_law_wide : He.DefD := ⟨("_law_wide", none), "_law_wide", "_law_wide", defArgs s_law_wide, defBody s_law_wide, defScope s_law_wide, [], []⟩
def d_law_drawn_edit : He.DefD := ⟨("_law_drawn_edit", none), "_law_drawn_edit", "_law_drawn_edit", defArgs s_law_drawn_edit, defBody s_law_drawn_edit, defScope s_law_drawn_edit, [], []⟩
def d_law_edited : He.DefD := ⟨("_law_edited", none), "_law_edited", "_law_edited", defArgs s_law_edited, defBody s_law_edited, defScope s_law_edited, [], []⟩
def d_law_things : He.DefD := ⟨("_law_things", none), "_law_things", "_law_things", defArgs s_law_things, defBody s_law_things, defScope s_law_things, [], []⟩
def d_law_shuffled : He.DefD := ⟨("_law_shuffled", none), "_law_shuffled", "_law_shuffled", defArgs s_law_shuffled, defBody s_law_shuffled, defScope s_law_shuffled, [], []⟩
def d_law : He.DefD := ⟨("law", none), "law", "law", defArgs s_law, defBody s_law, defScope s_law, [], []⟩
def fnA : List He.DefD := [d_find_named, d_put_named, d_drop_named, d_craft_of, d_site_of, d_check, d_is_name, d_is_tick, d_is_box, d_Body_init, d_Burn_init, d_Sighting_init, d_Craft_init, d_Site_init, d_Contents_init, d_craft_data, d_body_data, d_contents_data, d_with_crafts, d_with_sites, d_changed_craft]
def fnB : List He.DefD := [d_add_craft, d_drop_craft, d_set_drift, d_add_burn, d_drop_burn, d_add_sighting, d_drop_sighting, d_add_site, d_drop_site, d_set_body, d_set_stride, d_set_fineness, d_apply_edit, d_law_row, d_law_edit_error, d_law_wide, d_law_drawn_edit, d_law_edited, d_law_things, d_law_shuffled, d_law]
def fn : List He.DefD := fnA ++ fnB
def gloNames : List Str := ["NoSuchCraft", "NoSuchSite", "BadArgument", "TooMany", "BeforeStart", "BurnsOverlap", "NoSuchBurn", "NoSuchSighting", "Body", "Burn", "Sighting", "Craft", "Site", "Contents", "ONE", "TWO", "find_named", "put_named", "drop_named", "craft_of", "site_of", "check", "is_name", "is_tick", "is_box", "craft_data", "body_data", "contents_data", "with_crafts", "with_sites", "changed_craft", "add_craft"]
def gloNames2 : List Str := ["drop_craft", "set_drift", "add_burn", "drop_burn", "add_sighting", "drop_sighting", "add_site", "drop_site", "set_body", "set_stride", "set_fineness", "apply_edit", "_law_row", "_law_edit_error", "_law_wide", "_law_drawn_edit", "_law_edited", "_law_things", "_law_shuffled", "law"]
def faA : List He.Fa := [.free "len", .free "tuple", .free "list", .free "int", .free "max", .free "min", .free "range", .free "super", .int "MOST" 1000000000000000, .int "MOST_DRIFT" 1000000000000, .int "LAST_TICK" 100000, .int "MOST_CRAFT" 20, .int "MOST_SITES" 10, .int "MOST_OF_CRAFT" 20, .cls "Body", .mkr "Body", .cls "Burn", .mkr "Burn", .cls "Sighting", .mkr "Sighting", .cls "Craft", .mkr "Craft", .cls "Site", .mkr "Site", .cls "Contents", .mkr "Contents"]
def faB : List He.Fa := [.noat "Body" "mu", .noat "Body" "oblateness", .noat "Body" "turn", .noat "Burn" "begin", .noat "Burn" "end", .noat "Burn" "push", .noat "Sighting" "at", .noat "Sighting" "place", .noat "Craft" "name", .noat "Craft" "start", .noat "Craft" "place", .noat "Craft" "speed", .noat "Craft" "drift", .noat "Craft" "burns", .noat "Craft" "sightings", .noat "Site" "name", .noat "Site" "place", .noat "Contents" "body", .noat "Contents" "stride", .noat "Contents" "fineness", .noat "Contents" "crafts", .noat "Contents" "sites", .exc "TooMany", .exc "BeforeStart", .exc "BurnsOverlap", .exc "NoSuchBurn", .exc "NoSuchSighting"]
def faC : List He.Fa := [.exm "NoSuchCraft" "NoSuchCraft" true, .exm "NoSuchSite" "NoSuchCraft" false, .exm "NoSuchSite" "NoSuchSite" true, .exm "BeforeStart" "NoSuchCraft" false, .exm "BeforeStart" "NoSuchSite" false, .exm "BeforeStart" "BadArgument" false, .exm "BeforeStart" "BeforeStart" true, .exm "BurnsOverlap" "NoSuchCraft" false, .exm "BurnsOverlap" "NoSuchSite" false, .exm "BurnsOverlap" "BadArgument" false, .exm "BurnsOverlap" "BeforeStart" false, .exm "BurnsOverlap" "BurnsOverlap" true, .exm "TooMany" "NoSuchCraft" false, .exm "TooMany" "NoSuchSite" false, .exm "TooMany" "BadArgument" false, .exm "TooMany" "BeforeStart" false, .exm "TooMany" "BurnsOverlap" false, .exm "TooMany" "TooMany" true, .exm "NoSuchBurn" "NoSuchCraft" false, .exm "NoSuchBurn" "NoSuchSite" false, .exm "NoSuchBurn" "BadArgument" false, .exm "NoSuchBurn" "BeforeStart" false, .exm "NoSuchBurn" "BurnsOverlap" false, .exm "NoSuchBurn" "TooMany" false, .exm "NoSuchBurn" "NoSuchBurn" true, .exm "NoSuchSighting" "NoSuchCraft" false, .exm "NoSuchSighting" "NoSuchSite" false, .exm "NoSuchSighting" "BadArgument" false, .exm "NoSuchSighting" "BeforeStart" false, .exm "NoSuchSighting" "BurnsOverlap" false, .exm "NoSuchSighting" "TooMany" false, .exm "NoSuchSighting" "NoSuchBurn" false, .exm "NoSuchSighting" "NoSuchSighting" true]
def fa : List He.Fa := gloNames.map .glo ++ gloNames2.map .glo ++ faA ++ faB ++ faC
def ts : List He.Tab := [((fun K => He.ga K "ONE"), ["set body", "set stride", "set fineness", "add craft", "drop craft", "add site", "drop site"]), ((fun K => He.ga K "TWO"), ["set drift", "add burn", "drop burn", "add sighting", "drop sighting"])]
end Ka
/-! The facts of the top, one by one. -/
namespace Ka
open PySem PySem.Spec PyProof.Rows L2
structure Txt (w : World) (K : PySem.W.Frag) (mg : Str → Option Value) : Prop where
  facts : (fa.all fun f => f.ok K) = true
  defs : (fn.map fun d => He.fnW K d.at_) = fn.map He.DefD.val
  oks : (fn.all fun d => d.ok K) = true
  tabs : (ts.map fun t => He.dicW K (t.1 K)) = ts.map fun t => some (He.keysIn w.params t.2)
  ns : ∃ h : Heap, K.In h ∧ h.Ns mainGlobals mg
section
variable {w : World} {K : PySem.W.Frag} {mg : Str → Option Value}
theorem Txt.fact (T : Txt w K mg) (i : Nat) {f : He.Fa} (h : fa[i]? = some f) : f.ok K = true := List.all_eq_true.mp T.facts f (List.mem_of_getElem? h)
theorem Txt.def_ (T : Txt w K mg) (i : Nat) {d : He.DefD} (h : fn[i]? = some d) : ∃ fd, FunD K d.name d.qual d.params d.body d.scope (d.dvs K) (d.kws K) (He.fAd K d.at_) fd := by
  have e2 : (fn.map fun d => He.fnW K d.at_)[i]? = (fn.map He.DefD.val)[i]? := by rw [T.defs]
  rw [List.getElem?_map, List.getElem?_map, h] at e2
  exact He.DefD.funD (Option.some.inj e2) (List.all_eq_true.mp T.oks d (List.mem_of_getElem? h))
theorem Txt.tab (T : Txt w K mg) (i : Nat) {t : He.Tab} (h : ts[i]? = some t) : ∃ es n, KDict K w (t.1 K) es n := by
  have e2 : (ts.map fun t => He.dicW K (t.1 K))[i]? = (ts.map fun t => some (He.keysIn w.params t.2))[i]? := by rw [T.tabs]
  rw [List.getElem?_map, List.getElem?_map, h] at e2
  exact He.dicW_ok (Option.some.inj e2)
theorem Txt.g_NoSuchCraft (T : Txt w K mg) : mg "NoSuchCraft" = some (.ref (He.ga K "NoSuchCraft")) := by
  obtain ⟨h, X, G⟩ := T.ns
  exact He.glo_ok X G (T.fact 0 (f := .glo "NoSuchCraft") rfl)
theorem Txt.g_NoSuchSite (T : Txt w K mg) : mg "NoSuchSite" = some (.ref (He.ga K "NoSuchSite")) := by
  obtain ⟨h, X, G⟩ := T.ns
  exact He.glo_ok X G (T.fact 1 (f := .glo "NoSuchSite") rfl)
theorem Txt.g_BadArgument (T : Txt w K mg) : mg "BadArgument" = some (.ref (He.ga K "BadArgument")) := by
  obtain ⟨h, X, G⟩ := T.ns
  exact He.glo_ok X G (T.fact 2 (f := .glo "BadArgument") rfl)
theorem Txt.g_TooMany (T : Txt w K mg) : mg "TooMany" = some (.ref (He.ga K "TooMany")) := by
  obtain ⟨h, X, G⟩ := T.ns
  exact He.glo_ok X G (T.fact 3 (f := .glo "TooMany") rfl)
theorem Txt.g_BeforeStart (T : Txt w K mg) : mg "BeforeStart" = some (.ref (He.ga K "BeforeStart")) := by
  obtain ⟨h, X, G⟩ := T.ns
  exact He.glo_ok X G (T.fact 4 (f := .glo "BeforeStart") rfl)
theorem Txt.g_BurnsOverlap (T : Txt w K mg) : mg "BurnsOverlap" = some (.ref (He.ga K "BurnsOverlap")) := by
  obtain ⟨h, X, G⟩ := T.ns
  exact He.glo_ok X G (T.fact 5 (f := .glo "BurnsOverlap") rfl)
theorem Txt.g_NoSuchBurn (T : Txt w K mg) : mg "NoSuchBurn" = some (.ref (He.ga K "NoSuchBurn")) := by
  obtain ⟨h, X, G⟩ := T.ns
  exact He.glo_ok X G (T.fact 6 (f := .glo "NoSuchBurn") rfl)
theorem Txt.g_NoSuchSighting (T : Txt w K mg) : mg "NoSuchSighting" = some (.ref (He.ga K "NoSuchSighting")) := by
  obtain ⟨h, X, G⟩ := T.ns
  exact He.glo_ok X G (T.fact 7 (f := .glo "NoSuchSighting") rfl)
theorem Txt.g_Body (T : Txt w K mg) : mg "Body" = some (.ref (He.ga K "Body")) := by
  obtain ⟨h, X, G⟩ := T.ns
  exact He.glo_ok X G (T.fact 8 (f := .glo "Body") rfl)
theorem Txt.g_Burn (T : Txt w K mg) : mg "Burn" = some (.ref (He.ga K "Burn")) := by
  obtain ⟨h, X, G⟩ := T.ns
  exact He.glo_ok X G (T.fact 9 (f := .glo "Burn") rfl)
theorem Txt.g_Sighting (T : Txt w K mg) : mg "Sighting" = some (.ref (He.ga K "Sighting")) := by
  obtain ⟨h, X, G⟩ := T.ns
  exact He.glo_ok X G (T.fact 10 (f := .glo "Sighting") rfl)
theorem Txt.g_Craft (T : Txt w K mg) : mg "Craft" = some (.ref (He.ga K "Craft")) := by
  obtain ⟨h, X, G⟩ := T.ns
  exact He.glo_ok X G (T.fact 11 (f := .glo "Craft") rfl)
theorem Txt.g_Site (T : Txt w K mg) : mg "Site" = some (.ref (He.ga K "Site")) := by
  obtain ⟨h, X, G⟩ := T.ns
  exact He.glo_ok X G (T.fact 12 (f := .glo "Site") rfl)
theorem Txt.g_Contents (T : Txt w K mg) : mg "Contents" = some (.ref (He.ga K "Contents")) := by
  obtain ⟨h, X, G⟩ := T.ns
  exact He.glo_ok X G (T.fact 13 (f := .glo "Contents") rfl)
theorem Txt.g_ONE (T : Txt w K mg) : mg "ONE" = some (.ref (He.ga K "ONE")) := by
  obtain ⟨h, X, G⟩ := T.ns
  exact He.glo_ok X G (T.fact 14 (f := .glo "ONE") rfl)
theorem Txt.g_TWO (T : Txt w K mg) : mg "TWO" = some (.ref (He.ga K "TWO")) := by
  obtain ⟨h, X, G⟩ := T.ns
  exact He.glo_ok X G (T.fact 15 (f := .glo "TWO") rfl)
theorem Txt.g_find_named (T : Txt w K mg) : mg "find_named" = some (.ref (He.ga K "find_named")) := by
  obtain ⟨h, X, G⟩ := T.ns
  exact He.glo_ok X G (T.fact 16 (f := .glo "find_named") rfl)
theorem Txt.g_put_named (T : Txt w K mg) : mg "put_named" = some (.ref (He.ga K "put_named")) := by
  obtain ⟨h, X, G⟩ := T.ns
  exact He.glo_ok X G (T.fact 17 (f := .glo "put_named") rfl)
theorem Txt.g_drop_named (T : Txt w K mg) : mg "drop_named" = some (.ref (He.ga K "drop_named")) := by
  obtain ⟨h, X, G⟩ := T.ns
  exact He.glo_ok X G (T.fact 18 (f := .glo "drop_named") rfl)
theorem Txt.g_craft_of (T : Txt w K mg) : mg "craft_of" = some (.ref (He.ga K "craft_of")) := by
  obtain ⟨h, X, G⟩ := T.ns
  exact He.glo_ok X G (T.fact 19 (f := .glo "craft_of") rfl)
theorem Txt.g_site_of (T : Txt w K mg) : mg "site_of" = some (.ref (He.ga K "site_of")) := by
  obtain ⟨h, X, G⟩ := T.ns
  exact He.glo_ok X G (T.fact 20 (f := .glo "site_of") rfl)
theorem Txt.g_check (T : Txt w K mg) : mg "check" = some (.ref (He.ga K "check")) := by
  obtain ⟨h, X, G⟩ := T.ns
  exact He.glo_ok X G (T.fact 21 (f := .glo "check") rfl)
theorem Txt.g_is_name (T : Txt w K mg) : mg "is_name" = some (.ref (He.ga K "is_name")) := by
  obtain ⟨h, X, G⟩ := T.ns
  exact He.glo_ok X G (T.fact 22 (f := .glo "is_name") rfl)
theorem Txt.g_is_tick (T : Txt w K mg) : mg "is_tick" = some (.ref (He.ga K "is_tick")) := by
  obtain ⟨h, X, G⟩ := T.ns
  exact He.glo_ok X G (T.fact 23 (f := .glo "is_tick") rfl)
theorem Txt.g_is_box (T : Txt w K mg) : mg "is_box" = some (.ref (He.ga K "is_box")) := by
  obtain ⟨h, X, G⟩ := T.ns
  exact He.glo_ok X G (T.fact 24 (f := .glo "is_box") rfl)
theorem Txt.g_craft_data (T : Txt w K mg) : mg "craft_data" = some (.ref (He.ga K "craft_data")) := by
  obtain ⟨h, X, G⟩ := T.ns
  exact He.glo_ok X G (T.fact 25 (f := .glo "craft_data") rfl)
theorem Txt.g_body_data (T : Txt w K mg) : mg "body_data" = some (.ref (He.ga K "body_data")) := by
  obtain ⟨h, X, G⟩ := T.ns
  exact He.glo_ok X G (T.fact 26 (f := .glo "body_data") rfl)
theorem Txt.g_contents_data (T : Txt w K mg) : mg "contents_data" = some (.ref (He.ga K "contents_data")) := by
  obtain ⟨h, X, G⟩ := T.ns
  exact He.glo_ok X G (T.fact 27 (f := .glo "contents_data") rfl)
theorem Txt.g_with_crafts (T : Txt w K mg) : mg "with_crafts" = some (.ref (He.ga K "with_crafts")) := by
  obtain ⟨h, X, G⟩ := T.ns
  exact He.glo_ok X G (T.fact 28 (f := .glo "with_crafts") rfl)
theorem Txt.g_with_sites (T : Txt w K mg) : mg "with_sites" = some (.ref (He.ga K "with_sites")) := by
  obtain ⟨h, X, G⟩ := T.ns
  exact He.glo_ok X G (T.fact 29 (f := .glo "with_sites") rfl)
theorem Txt.g_changed_craft (T : Txt w K mg) : mg "changed_craft" = some (.ref (He.ga K "changed_craft")) := by
  obtain ⟨h, X, G⟩ := T.ns
  exact He.glo_ok X G (T.fact 30 (f := .glo "changed_craft") rfl)
theorem Txt.g_add_craft (T : Txt w K mg) : mg "add_craft" = some (.ref (He.ga K "add_craft")) := by
  obtain ⟨h, X, G⟩ := T.ns
  exact He.glo_ok X G (T.fact 31 (f := .glo "add_craft") rfl)
theorem Txt.g_drop_craft (T : Txt w K mg) : mg "drop_craft" = some (.ref (He.ga K "drop_craft")) := by
  obtain ⟨h, X, G⟩ := T.ns
  exact He.glo_ok X G (T.fact 32 (f := .glo "drop_craft") rfl)
theorem Txt.g_set_drift (T : Txt w K mg) : mg "set_drift" = some (.ref (He.ga K "set_drift")) := by
  obtain ⟨h, X, G⟩ := T.ns
  exact He.glo_ok X G (T.fact 33 (f := .glo "set_drift") rfl)
theorem Txt.g_add_burn (T : Txt w K mg) : mg "add_burn" = some (.ref (He.ga K "add_burn")) := by
  obtain ⟨h, X, G⟩ := T.ns
  exact He.glo_ok X G (T.fact 34 (f := .glo "add_burn") rfl)
theorem Txt.g_drop_burn (T : Txt w K mg) : mg "drop_burn" = some (.ref (He.ga K "drop_burn")) := by
  obtain ⟨h, X, G⟩ := T.ns
  exact He.glo_ok X G (T.fact 35 (f := .glo "drop_burn") rfl)
theorem Txt.g_add_sighting (T : Txt w K mg) : mg "add_sighting" = some (.ref (He.ga K "add_sighting")) := by
  obtain ⟨h, X, G⟩ := T.ns
  exact He.glo_ok X G (T.fact 36 (f := .glo "add_sighting") rfl)
theorem Txt.g_drop_sighting (T : Txt w K mg) : mg "drop_sighting" = some (.ref (He.ga K "drop_sighting")) := by
  obtain ⟨h, X, G⟩ := T.ns
  exact He.glo_ok X G (T.fact 37 (f := .glo "drop_sighting") rfl)
theorem Txt.g_add_site (T : Txt w K mg) : mg "add_site" = some (.ref (He.ga K "add_site")) := by
  obtain ⟨h, X, G⟩ := T.ns
  exact He.glo_ok X G (T.fact 38 (f := .glo "add_site") rfl)
theorem Txt.g_drop_site (T : Txt w K mg) : mg "drop_site" = some (.ref (He.ga K "drop_site")) := by
  obtain ⟨h, X, G⟩ := T.ns
  exact He.glo_ok X G (T.fact 39 (f := .glo "drop_site") rfl)
theorem Txt.g_set_body (T : Txt w K mg) : mg "set_body" = some (.ref (He.ga K "set_body")) := by
  obtain ⟨h, X, G⟩ := T.ns
  exact He.glo_ok X G (T.fact 40 (f := .glo "set_body") rfl)
theorem Txt.g_set_stride (T : Txt w K mg) : mg "set_stride" = some (.ref (He.ga K "set_stride")) := by
  obtain ⟨h, X, G⟩ := T.ns
  exact He.glo_ok X G (T.fact 41 (f := .glo "set_stride") rfl)
theorem Txt.g_set_fineness (T : Txt w K mg) : mg "set_fineness" = some (.ref (He.ga K "set_fineness")) := by
  obtain ⟨h, X, G⟩ := T.ns
  exact He.glo_ok X G (T.fact 42 (f := .glo "set_fineness") rfl)
theorem Txt.g_apply_edit (T : Txt w K mg) : mg "apply_edit" = some (.ref (He.ga K "apply_edit")) := by
  obtain ⟨h, X, G⟩ := T.ns
  exact He.glo_ok X G (T.fact 43 (f := .glo "apply_edit") rfl)
theorem Txt.g_law_row (T : Txt w K mg) : mg "_law_row" = some (.ref (He.ga K "_law_row")) := by
  obtain ⟨h, X, G⟩ := T.ns
  exact He.glo_ok X G (T.fact 44 (f := .glo "_law_row") rfl)
theorem Txt.g_law_edit_error (T : Txt w K mg) : mg "_law_edit_error" = some (.ref (He.ga K "_law_edit_error")) := by
  obtain ⟨h, X, G⟩ := T.ns
  exact He.glo_ok X G (T.fact 45 (f := .glo "_law_edit_error") rfl)
theorem Txt.g_law_wide (T : Txt w K mg) : mg "_law_wide" = some (.ref (He.ga K "_law_wide")) := by
  obtain ⟨h, X, G⟩ := T.ns
  exact He.glo_ok X G (T.fact 46 (f := .glo "_law_wide") rfl)
theorem Txt.g_law_drawn_edit (T : Txt w K mg) : mg "_law_drawn_edit" = some (.ref (He.ga K "_law_drawn_edit")) := by
  obtain ⟨h, X, G⟩ := T.ns
  exact He.glo_ok X G (T.fact 47 (f := .glo "_law_drawn_edit") rfl)
theorem Txt.g_law_edited (T : Txt w K mg) : mg "_law_edited" = some (.ref (He.ga K "_law_edited")) := by
  obtain ⟨h, X, G⟩ := T.ns
  exact He.glo_ok X G (T.fact 48 (f := .glo "_law_edited") rfl)
theorem Txt.g_law_things (T : Txt w K mg) : mg "_law_things" = some (.ref (He.ga K "_law_things")) := by
  obtain ⟨h, X, G⟩ := T.ns
  exact He.glo_ok X G (T.fact 49 (f := .glo "_law_things") rfl)
theorem Txt.g_law_shuffled (T : Txt w K mg) : mg "_law_shuffled" = some (.ref (He.ga K "_law_shuffled")) := by
  obtain ⟨h, X, G⟩ := T.ns
  exact He.glo_ok X G (T.fact 50 (f := .glo "_law_shuffled") rfl)
theorem Txt.g_law (T : Txt w K mg) : mg "law" = some (.ref (He.ga K "law")) := by
  obtain ⟨h, X, G⟩ := T.ns
  exact He.glo_ok X G (T.fact 51 (f := .glo "law") rfl)
theorem Txt.n_len (T : Txt w K mg) : mg "len" = none := by
  obtain ⟨h, X, G⟩ := T.ns
  exact He.free_ok X G (T.fact 52 (f := .free "len") rfl)
theorem Txt.n_tuple (T : Txt w K mg) : mg "tuple" = none := by
  obtain ⟨h, X, G⟩ := T.ns
  exact He.free_ok X G (T.fact 53 (f := .free "tuple") rfl)
theorem Txt.n_list (T : Txt w K mg) : mg "list" = none := by
  obtain ⟨h, X, G⟩ := T.ns
  exact He.free_ok X G (T.fact 54 (f := .free "list") rfl)
theorem Txt.n_int (T : Txt w K mg) : mg "int" = none := by
  obtain ⟨h, X, G⟩ := T.ns
  exact He.free_ok X G (T.fact 55 (f := .free "int") rfl)
theorem Txt.n_max (T : Txt w K mg) : mg "max" = none := by
  obtain ⟨h, X, G⟩ := T.ns
  exact He.free_ok X G (T.fact 56 (f := .free "max") rfl)
theorem Txt.n_min (T : Txt w K mg) : mg "min" = none := by
  obtain ⟨h, X, G⟩ := T.ns
  exact He.free_ok X G (T.fact 57 (f := .free "min") rfl)
theorem Txt.n_range (T : Txt w K mg) : mg "range" = none := by
  obtain ⟨h, X, G⟩ := T.ns
  exact He.free_ok X G (T.fact 58 (f := .free "range") rfl)
theorem Txt.n_super (T : Txt w K mg) : mg "super" = none := by
  obtain ⟨h, X, G⟩ := T.ns
  exact He.free_ok X G (T.fact 59 (f := .free "super") rfl)
theorem Txt.i_MOST (T : Txt w K mg) : ∃ t, mg "MOST" = some (.int 1000000000000000 t) := by
  obtain ⟨h, X, G⟩ := T.ns
  exact He.int_ok X G (T.fact 60 (f := .int "MOST" 1000000000000000) rfl)
theorem Txt.i_MOST_DRIFT (T : Txt w K mg) : ∃ t, mg "MOST_DRIFT" = some (.int 1000000000000 t) := by
  obtain ⟨h, X, G⟩ := T.ns
  exact He.int_ok X G (T.fact 61 (f := .int "MOST_DRIFT" 1000000000000) rfl)
theorem Txt.i_LAST_TICK (T : Txt w K mg) : ∃ t, mg "LAST_TICK" = some (.int 100000 t) := by
  obtain ⟨h, X, G⟩ := T.ns
  exact He.int_ok X G (T.fact 62 (f := .int "LAST_TICK" 100000) rfl)
theorem Txt.i_MOST_CRAFT (T : Txt w K mg) : ∃ t, mg "MOST_CRAFT" = some (.int 20 t) := by
  obtain ⟨h, X, G⟩ := T.ns
  exact He.int_ok X G (T.fact 63 (f := .int "MOST_CRAFT" 20) rfl)
theorem Txt.i_MOST_SITES (T : Txt w K mg) : ∃ t, mg "MOST_SITES" = some (.int 10 t) := by
  obtain ⟨h, X, G⟩ := T.ns
  exact He.int_ok X G (T.fact 64 (f := .int "MOST_SITES" 10) rfl)
theorem Txt.i_MOST_OF_CRAFT (T : Txt w K mg) : ∃ t, mg "MOST_OF_CRAFT" = some (.int 20 t) := by
  obtain ⟨h, X, G⟩ := T.ns
  exact He.int_ok X G (T.fact 65 (f := .int "MOST_OF_CRAFT" 20) rfl)
theorem Txt.c_Body (T : Txt w K mg) : Cls K (He.ga K "Body") := He.cls_ok (T.fact 66 (f := .cls "Body") rfl)
theorem Txt.m_Body (T : Txt w K mg) : Mk K (He.ga K "Body") (He.fAd K ("Body", some "__init__")) := He.mkr_ok (T.fact 67 (f := .mkr "Body") rfl)
theorem Txt.c_Burn (T : Txt w K mg) : Cls K (He.ga K "Burn") := He.cls_ok (T.fact 68 (f := .cls "Burn") rfl)
theorem Txt.m_Burn (T : Txt w K mg) : Mk K (He.ga K "Burn") (He.fAd K ("Burn", some "__init__")) := He.mkr_ok (T.fact 69 (f := .mkr "Burn") rfl)
theorem Txt.c_Sighting (T : Txt w K mg) : Cls K (He.ga K "Sighting") := He.cls_ok (T.fact 70 (f := .cls "Sighting") rfl)
theorem Txt.m_Sighting (T : Txt w K mg) : Mk K (He.ga K "Sighting") (He.fAd K ("Sighting", some "__init__")) := He.mkr_ok (T.fact 71 (f := .mkr "Sighting") rfl)
theorem Txt.c_Craft (T : Txt w K mg) : Cls K (He.ga K "Craft") := He.cls_ok (T.fact 72 (f := .cls "Craft") rfl)
theorem Txt.m_Craft (T : Txt w K mg) : Mk K (He.ga K "Craft") (He.fAd K ("Craft", some "__init__")) := He.mkr_ok (T.fact 73 (f := .mkr "Craft") rfl)
theorem Txt.c_Site (T : Txt w K mg) : Cls K (He.ga K "Site") := He.cls_ok (T.fact 74 (f := .cls "Site") rfl)
theorem Txt.m_Site (T : Txt w K mg) : Mk K (He.ga K "Site") (He.fAd K ("Site", some "__init__")) := He.mkr_ok (T.fact 75 (f := .mkr "Site") rfl)
theorem Txt.c_Contents (T : Txt w K mg) : Cls K (He.ga K "Contents") := He.cls_ok (T.fact 76 (f := .cls "Contents") rfl)
theorem Txt.m_Contents (T : Txt w K mg) : Mk K (He.ga K "Contents") (He.fAd K ("Contents", some "__init__")) := He.mkr_ok (T.fact 77 (f := .mkr "Contents") rfl)
theorem Txt.a_Body_mu (T : Txt w K mg) : NoAttr K (He.ga K "Body") "mu" := He.noat_ok (T.fact 78 (f := .noat "Body" "mu") rfl)
theorem Txt.a_Body_oblateness (T : Txt w K mg) : NoAttr K (He.ga K "Body") "oblateness" := He.noat_ok (T.fact 79 (f := .noat "Body" "oblateness") rfl)
theorem Txt.a_Body_turn (T : Txt w K mg) : NoAttr K (He.ga K "Body") "turn" := He.noat_ok (T.fact 80 (f := .noat "Body" "turn") rfl)
theorem Txt.a_Burn_begin (T : Txt w K mg) : NoAttr K (He.ga K "Burn") "begin" := He.noat_ok (T.fact 81 (f := .noat "Burn" "begin") rfl)
theorem Txt.a_Burn_end (T : Txt w K mg) : NoAttr K (He.ga K "Burn") "end" := He.noat_ok (T.fact 82 (f := .noat "Burn" "end") rfl)
theorem Txt.a_Burn_push (T : Txt w K mg) : NoAttr K (He.ga K "Burn") "push" := He.noat_ok (T.fact 83 (f := .noat "Burn" "push") rfl)
theorem Txt.a_Sighting_at (T : Txt w K mg) : NoAttr K (He.ga K "Sighting") "at" := He.noat_ok (T.fact 84 (f := .noat "Sighting" "at") rfl)
theorem Txt.a_Sighting_place (T : Txt w K mg) : NoAttr K (He.ga K "Sighting") "place" := He.noat_ok (T.fact 85 (f := .noat "Sighting" "place") rfl)
theorem Txt.a_Craft_name (T : Txt w K mg) : NoAttr K (He.ga K "Craft") "name" := He.noat_ok (T.fact 86 (f := .noat "Craft" "name") rfl)
theorem Txt.a_Craft_start (T : Txt w K mg) : NoAttr K (He.ga K "Craft") "start" := He.noat_ok (T.fact 87 (f := .noat "Craft" "start") rfl)
theorem Txt.a_Craft_place (T : Txt w K mg) : NoAttr K (He.ga K "Craft") "place" := He.noat_ok (T.fact 88 (f := .noat "Craft" "place") rfl)
theorem Txt.a_Craft_speed (T : Txt w K mg) : NoAttr K (He.ga K "Craft") "speed" := He.noat_ok (T.fact 89 (f := .noat "Craft" "speed") rfl)
theorem Txt.a_Craft_drift (T : Txt w K mg) : NoAttr K (He.ga K "Craft") "drift" := He.noat_ok (T.fact 90 (f := .noat "Craft" "drift") rfl)
theorem Txt.a_Craft_burns (T : Txt w K mg) : NoAttr K (He.ga K "Craft") "burns" := He.noat_ok (T.fact 91 (f := .noat "Craft" "burns") rfl)
theorem Txt.a_Craft_sightings (T : Txt w K mg) : NoAttr K (He.ga K "Craft") "sightings" := He.noat_ok (T.fact 92 (f := .noat "Craft" "sightings") rfl)
theorem Txt.a_Site_name (T : Txt w K mg) : NoAttr K (He.ga K "Site") "name" := He.noat_ok (T.fact 93 (f := .noat "Site" "name") rfl)
theorem Txt.a_Site_place (T : Txt w K mg) : NoAttr K (He.ga K "Site") "place" := He.noat_ok (T.fact 94 (f := .noat "Site" "place") rfl)
theorem Txt.a_Contents_body (T : Txt w K mg) : NoAttr K (He.ga K "Contents") "body" := He.noat_ok (T.fact 95 (f := .noat "Contents" "body") rfl)
theorem Txt.a_Contents_stride (T : Txt w K mg) : NoAttr K (He.ga K "Contents") "stride" := He.noat_ok (T.fact 96 (f := .noat "Contents" "stride") rfl)
theorem Txt.a_Contents_fineness (T : Txt w K mg) : NoAttr K (He.ga K "Contents") "fineness" := He.noat_ok (T.fact 97 (f := .noat "Contents" "fineness") rfl)
theorem Txt.a_Contents_crafts (T : Txt w K mg) : NoAttr K (He.ga K "Contents") "crafts" := He.noat_ok (T.fact 98 (f := .noat "Contents" "crafts") rfl)
theorem Txt.a_Contents_sites (T : Txt w K mg) : NoAttr K (He.ga K "Contents") "sites" := He.noat_ok (T.fact 99 (f := .noat "Contents" "sites") rfl)
theorem Txt.x_TooMany (T : Txt w K mg) : PySem.W.excIn K (He.ga K "TooMany") He.veBase "ValueError.__new__" = true ∧ PySem.W.keepIn K (.ref (He.ga K "TooMany")) = true ∧ PySem.W.subIn K (.ref (He.ga K "TooMany")) (.type "BaseException") = some true ∧ PySem.W.typeIn K (.ref (He.ga K "TooMany")) = some (.type "type") := He.exc_ok (T.fact 100 (f := .exc "TooMany") rfl)
theorem Txt.x_BeforeStart (T : Txt w K mg) : PySem.W.excIn K (He.ga K "BeforeStart") He.veBase "ValueError.__new__" = true ∧ PySem.W.keepIn K (.ref (He.ga K "BeforeStart")) = true ∧ PySem.W.subIn K (.ref (He.ga K "BeforeStart")) (.type "BaseException") = some true ∧ PySem.W.typeIn K (.ref (He.ga K "BeforeStart")) = some (.type "type") := He.exc_ok (T.fact 101 (f := .exc "BeforeStart") rfl)
theorem Txt.x_BurnsOverlap (T : Txt w K mg) : PySem.W.excIn K (He.ga K "BurnsOverlap") He.veBase "ValueError.__new__" = true ∧ PySem.W.keepIn K (.ref (He.ga K "BurnsOverlap")) = true ∧ PySem.W.subIn K (.ref (He.ga K "BurnsOverlap")) (.type "BaseException") = some true ∧ PySem.W.typeIn K (.ref (He.ga K "BurnsOverlap")) = some (.type "type") := He.exc_ok (T.fact 102 (f := .exc "BurnsOverlap") rfl)
theorem Txt.x_NoSuchBurn (T : Txt w K mg) : PySem.W.excIn K (He.ga K "NoSuchBurn") He.veBase "ValueError.__new__" = true ∧ PySem.W.keepIn K (.ref (He.ga K "NoSuchBurn")) = true ∧ PySem.W.subIn K (.ref (He.ga K "NoSuchBurn")) (.type "BaseException") = some true ∧ PySem.W.typeIn K (.ref (He.ga K "NoSuchBurn")) = some (.type "type") := He.exc_ok (T.fact 103 (f := .exc "NoSuchBurn") rfl)
theorem Txt.x_NoSuchSighting (T : Txt w K mg) : PySem.W.excIn K (He.ga K "NoSuchSighting") He.veBase "ValueError.__new__" = true ∧ PySem.W.keepIn K (.ref (He.ga K "NoSuchSighting")) = true ∧ PySem.W.subIn K (.ref (He.ga K "NoSuchSighting")) (.type "BaseException") = some true ∧ PySem.W.typeIn K (.ref (He.ga K "NoSuchSighting")) = some (.type "type") := He.exc_ok (T.fact 104 (f := .exc "NoSuchSighting") rfl)
theorem Txt.h_NoSuchCraft_NoSuchCraft (T : Txt w K mg) : PySem.W.exmOne K (.ref (He.ga K "NoSuchCraft")) (.ref (He.ga K "NoSuchCraft")) = some true := He.exm_ok (T.fact 105 (f := .exm "NoSuchCraft" "NoSuchCraft" true) rfl)
theorem Txt.h_NoSuchSite_NoSuchCraft (T : Txt w K mg) : PySem.W.exmOne K (.ref (He.ga K "NoSuchSite")) (.ref (He.ga K "NoSuchCraft")) = some false := He.exm_ok (T.fact 106 (f := .exm "NoSuchSite" "NoSuchCraft" false) rfl)
theorem Txt.h_NoSuchSite_NoSuchSite (T : Txt w K mg) : PySem.W.exmOne K (.ref (He.ga K "NoSuchSite")) (.ref (He.ga K "NoSuchSite")) = some true := He.exm_ok (T.fact 107 (f := .exm "NoSuchSite" "NoSuchSite" true) rfl)
theorem Txt.h_BeforeStart_NoSuchCraft (T : Txt w K mg) : PySem.W.exmOne K (.ref (He.ga K "BeforeStart")) (.ref (He.ga K "NoSuchCraft")) = some false := He.exm_ok (T.fact 108 (f := .exm "BeforeStart" "NoSuchCraft" false) rfl)
theorem Txt.h_BeforeStart_NoSuchSite (T : Txt w K mg) : PySem.W.exmOne K (.ref (He.ga K "BeforeStart")) (.ref (He.ga K "NoSuchSite")) = some false := He.exm_ok (T.fact 109 (f := .exm "BeforeStart" "NoSuchSite" false) rfl)
theorem Txt.h_BeforeStart_BadArgument (T : Txt w K mg) : PySem.W.exmOne K (.ref (He.ga K "BeforeStart")) (.ref (He.ga K "BadArgument")) = some false := He.exm_ok (T.fact 110 (f := .exm "BeforeStart" "BadArgument" false) rfl)
theorem Txt.h_BeforeStart_BeforeStart (T : Txt w K mg) : PySem.W.exmOne K (.ref (He.ga K "BeforeStart")) (.ref (He.ga K "BeforeStart")) = some true := He.exm_ok (T.fact 111 (f := .exm "BeforeStart" "BeforeStart" true) rfl)
theorem Txt.h_BurnsOverlap_NoSuchCraft (T : Txt w K mg) : PySem.W.exmOne K (.ref (He.ga K "BurnsOverlap")) (.ref (He.ga K "NoSuchCraft")) = some false := He.exm_ok (T.fact 112 (f := .exm "BurnsOverlap" "NoSuchCraft" false) rfl)
theorem Txt.h_BurnsOverlap_NoSuchSite (T : Txt w K mg) : PySem.W.exmOne K (.ref (He.ga K "BurnsOverlap")) (.ref (He.ga K "NoSuchSite")) = some false := He.exm_ok (T.fact 113 (f := .exm "BurnsOverlap" "NoSuchSite" false) rfl)
theorem Txt.h_BurnsOverlap_BadArgument (T : Txt w K mg) : PySem.W.exmOne K (.ref (He.ga K "BurnsOverlap")) (.ref (He.ga K "BadArgument")) = some false := He.exm_ok (T.fact 114 (f := .exm "BurnsOverlap" "BadArgument" false) rfl)
theorem Txt.h_BurnsOverlap_BeforeStart (T : Txt w K mg) : PySem.W.exmOne K (.ref (He.ga K "BurnsOverlap")) (.ref (He.ga K "BeforeStart")) = some false := He.exm_ok (T.fact 115 (f := .exm "BurnsOverlap" "BeforeStart" false) rfl)
theorem Txt.h_BurnsOverlap_BurnsOverlap (T : Txt w K mg) : PySem.W.exmOne K (.ref (He.ga K "BurnsOverlap")) (.ref (He.ga K "BurnsOverlap")) = some true := He.exm_ok (T.fact 116 (f := .exm "BurnsOverlap" "BurnsOverlap" true) rfl)
theorem Txt.h_TooMany_NoSuchCraft (T : Txt w K mg) : PySem.W.exmOne K (.ref (He.ga K "TooMany")) (.ref (He.ga K "NoSuchCraft")) = some false := He.exm_ok (T.fact 117 (f := .exm "TooMany" "NoSuchCraft" false) rfl)
theorem Txt.h_TooMany_NoSuchSite (T : Txt w K mg) : PySem.W.exmOne K (.ref (He.ga K "TooMany")) (.ref (He.ga K "NoSuchSite")) = some false := He.exm_ok (T.fact 118 (f := .exm "TooMany" "NoSuchSite" false) rfl)
theorem Txt.h_TooMany_BadArgument (T : Txt w K mg) : PySem.W.exmOne K (.ref (He.ga K "TooMany")) (.ref (He.ga K "BadArgument")) = some false := He.exm_ok (T.fact 119 (f := .exm "TooMany" "BadArgument" false) rfl)
theorem Txt.h_TooMany_BeforeStart (T : Txt w K mg) : PySem.W.exmOne K (.ref (He.ga K "TooMany")) (.ref (He.ga K "BeforeStart")) = some false := He.exm_ok (T.fact 120 (f := .exm "TooMany" "BeforeStart" false) rfl)
theorem Txt.h_TooMany_BurnsOverlap (T : Txt w K mg) : PySem.W.exmOne K (.ref (He.ga K "TooMany")) (.ref (He.ga K "BurnsOverlap")) = some false := He.exm_ok (T.fact 121 (f := .exm "TooMany" "BurnsOverlap" false) rfl)
theorem Txt.h_TooMany_TooMany (T : Txt w K mg) : PySem.W.exmOne K (.ref (He.ga K "TooMany")) (.ref (He.ga K "TooMany")) = some true := He.exm_ok (T.fact 122 (f := .exm "TooMany" "TooMany" true) rfl)
theorem Txt.h_NoSuchBurn_NoSuchCraft (T : Txt w K mg) : PySem.W.exmOne K (.ref (He.ga K "NoSuchBurn")) (.ref (He.ga K "NoSuchCraft")) = some false := He.exm_ok (T.fact 123 (f := .exm "NoSuchBurn" "NoSuchCraft" false) rfl)
theorem Txt.h_NoSuchBurn_NoSuchSite (T : Txt w K mg) : PySem.W.exmOne K (.ref (He.ga K "NoSuchBurn")) (.ref (He.ga K "NoSuchSite")) = some false := He.exm_ok (T.fact 124 (f := .exm "NoSuchBurn" "NoSuchSite" false) rfl)
theorem Txt.h_NoSuchBurn_BadArgument (T : Txt w K mg) : PySem.W.exmOne K (.ref (He.ga K "NoSuchBurn")) (.ref (He.ga K "BadArgument")) = some false := He.exm_ok (T.fact 125 (f := .exm "NoSuchBurn" "BadArgument" false) rfl)
theorem Txt.h_NoSuchBurn_BeforeStart (T : Txt w K mg) : PySem.W.exmOne K (.ref (He.ga K "NoSuchBurn")) (.ref (He.ga K "BeforeStart")) = some false := He.exm_ok (T.fact 126 (f := .exm "NoSuchBurn" "BeforeStart" false) rfl)
theorem Txt.h_NoSuchBurn_BurnsOverlap (T : Txt w K mg) : PySem.W.exmOne K (.ref (He.ga K "NoSuchBurn")) (.ref (He.ga K "BurnsOverlap")) = some false := He.exm_ok (T.fact 127 (f := .exm "NoSuchBurn" "BurnsOverlap" false) rfl)
theorem Txt.h_NoSuchBurn_TooMany (T : Txt w K mg) : PySem.W.exmOne K (.ref (He.ga K "NoSuchBurn")) (.ref (He.ga K "TooMany")) = some false := He.exm_ok (T.fact 128 (f := .exm "NoSuchBurn" "TooMany" false) rfl)
theorem Txt.h_NoSuchBurn_NoSuchBurn (T : Txt w K mg) : PySem.W.exmOne K (.ref (He.ga K "NoSuchBurn")) (.ref (He.ga K "NoSuchBurn")) = some true := He.exm_ok (T.fact 129 (f := .exm "NoSuchBurn" "NoSuchBurn" true) rfl)
theorem Txt.h_NoSuchSighting_NoSuchCraft (T : Txt w K mg) : PySem.W.exmOne K (.ref (He.ga K "NoSuchSighting")) (.ref (He.ga K "NoSuchCraft")) = some false := He.exm_ok (T.fact 130 (f := .exm "NoSuchSighting" "NoSuchCraft" false) rfl)
theorem Txt.h_NoSuchSighting_NoSuchSite (T : Txt w K mg) : PySem.W.exmOne K (.ref (He.ga K "NoSuchSighting")) (.ref (He.ga K "NoSuchSite")) = some false := He.exm_ok (T.fact 131 (f := .exm "NoSuchSighting" "NoSuchSite" false) rfl)
theorem Txt.h_NoSuchSighting_BadArgument (T : Txt w K mg) : PySem.W.exmOne K (.ref (He.ga K "NoSuchSighting")) (.ref (He.ga K "BadArgument")) = some false := He.exm_ok (T.fact 132 (f := .exm "NoSuchSighting" "BadArgument" false) rfl)
theorem Txt.h_NoSuchSighting_BeforeStart (T : Txt w K mg) : PySem.W.exmOne K (.ref (He.ga K "NoSuchSighting")) (.ref (He.ga K "BeforeStart")) = some false := He.exm_ok (T.fact 133 (f := .exm "NoSuchSighting" "BeforeStart" false) rfl)
theorem Txt.h_NoSuchSighting_BurnsOverlap (T : Txt w K mg) : PySem.W.exmOne K (.ref (He.ga K "NoSuchSighting")) (.ref (He.ga K "BurnsOverlap")) = some false := He.exm_ok (T.fact 134 (f := .exm "NoSuchSighting" "BurnsOverlap" false) rfl)
theorem Txt.h_NoSuchSighting_TooMany (T : Txt w K mg) : PySem.W.exmOne K (.ref (He.ga K "NoSuchSighting")) (.ref (He.ga K "TooMany")) = some false := He.exm_ok (T.fact 135 (f := .exm "NoSuchSighting" "TooMany" false) rfl)
theorem Txt.h_NoSuchSighting_NoSuchBurn (T : Txt w K mg) : PySem.W.exmOne K (.ref (He.ga K "NoSuchSighting")) (.ref (He.ga K "NoSuchBurn")) = some false := He.exm_ok (T.fact 136 (f := .exm "NoSuchSighting" "NoSuchBurn" false) rfl)
theorem Txt.h_NoSuchSighting_NoSuchSighting (T : Txt w K mg) : PySem.W.exmOne K (.ref (He.ga K "NoSuchSighting")) (.ref (He.ga K "NoSuchSighting")) = some true := He.exm_ok (T.fact 137 (f := .exm "NoSuchSighting" "NoSuchSighting" true) rfl)
theorem Txt.f_find_named (T : Txt w K mg) : ∃ fd, FunD K "find_named" "find_named" (defArgs s_find_named) (defBody s_find_named) (defScope s_find_named) [] [] (He.fAd K ("find_named", none)) fd := T.def_ 0 (d := d_find_named) rfl
theorem Txt.f_put_named (T : Txt w K mg) : ∃ fd, FunD K "put_named" "put_named" (defArgs s_put_named) (defBody s_put_named) (defScope s_put_named) [] [] (He.fAd K ("put_named", none)) fd := T.def_ 1 (d := d_put_named) rfl
theorem Txt.f_drop_named (T : Txt w K mg) : ∃ fd, FunD K "drop_named" "drop_named" (defArgs s_drop_named) (defBody s_drop_named) (defScope s_drop_named) [] [] (He.fAd K ("drop_named", none)) fd := T.def_ 2 (d := d_drop_named) rfl
theorem Txt.f_craft_of (T : Txt w K mg) : ∃ fd, FunD K "craft_of" "craft_of" (defArgs s_craft_of) (defBody s_craft_of) (defScope s_craft_of) [] [] (He.fAd K ("craft_of", none)) fd := T.def_ 3 (d := d_craft_of) rfl
theorem Txt.f_site_of (T : Txt w K mg) : ∃ fd, FunD K "site_of" "site_of" (defArgs s_site_of) (defBody s_site_of) (defScope s_site_of) [] [] (He.fAd K ("site_of", none)) fd := T.def_ 4 (d := d_site_of) rfl
theorem Txt.f_check (T : Txt w K mg) : ∃ fd, FunD K "check" "check" (defArgs s_check) (defBody s_check) (defScope s_check) [] [] (He.fAd K ("check", none)) fd := T.def_ 5 (d := d_check) rfl
theorem Txt.f_is_name (T : Txt w K mg) : ∃ fd, FunD K "is_name" "is_name" (defArgs s_is_name) (defBody s_is_name) (defScope s_is_name) [] [] (He.fAd K ("is_name", none)) fd := T.def_ 6 (d := d_is_name) rfl
theorem Txt.f_is_tick (T : Txt w K mg) : ∃ fd, FunD K "is_tick" "is_tick" (defArgs s_is_tick) (defBody s_is_tick) (defScope s_is_tick) [] [] (He.fAd K ("is_tick", none)) fd := T.def_ 7 (d := d_is_tick) rfl
theorem Txt.f_is_box (T : Txt w K mg) : ∃ fd, FunD K "is_box" "is_box" (defArgs s_is_box) (defBody s_is_box) (defScope s_is_box) [] [] (He.fAd K ("is_box", none)) fd := T.def_ 8 (d := d_is_box) rfl
theorem Txt.f_Body_init (T : Txt w K mg) : ∃ fd, FunD K "__init__" "Body.__init__" (defArgs s_Body_init) (defBody s_Body_init) (defScope s_Body_init) [] [] (He.fAd K ("Body", some "__init__")) fd := T.def_ 9 (d := d_Body_init) rfl
theorem Txt.f_Burn_init (T : Txt w K mg) : ∃ fd, FunD K "__init__" "Burn.__init__" (defArgs s_Burn_init) (defBody s_Burn_init) (defScope s_Burn_init) [] [] (He.fAd K ("Burn", some "__init__")) fd := T.def_ 10 (d := d_Burn_init) rfl
theorem Txt.f_Sighting_init (T : Txt w K mg) : ∃ fd, FunD K "__init__" "Sighting.__init__" (defArgs s_Sighting_init) (defBody s_Sighting_init) (defScope s_Sighting_init) [] [] (He.fAd K ("Sighting", some "__init__")) fd := T.def_ 11 (d := d_Sighting_init) rfl
theorem Txt.f_Craft_init (T : Txt w K mg) : ∃ fd, FunD K "__init__" "Craft.__init__" (defArgs s_Craft_init) (defBody s_Craft_init) (defScope s_Craft_init) [V.ref (He.dflAt ("Craft", some "__init__") 0 K), V.ref (He.dflAt ("Craft", some "__init__") 1 K)] [] (He.fAd K ("Craft", some "__init__")) fd := T.def_ 12 (d := d_Craft_init) rfl
theorem Txt.f_Site_init (T : Txt w K mg) : ∃ fd, FunD K "__init__" "Site.__init__" (defArgs s_Site_init) (defBody s_Site_init) (defScope s_Site_init) [] [] (He.fAd K ("Site", some "__init__")) fd := T.def_ 13 (d := d_Site_init) rfl
theorem Txt.f_Contents_init (T : Txt w K mg) : ∃ fd, FunD K "__init__" "Contents.__init__" (defArgs s_Contents_init) (defBody s_Contents_init) (defScope s_Contents_init) [V.ref (He.dflAt ("Contents", some "__init__") 0 K), V.ref (He.dflAt ("Contents", some "__init__") 1 K)] [] (He.fAd K ("Contents", some "__init__")) fd := T.def_ 14 (d := d_Contents_init) rfl
theorem Txt.f_craft_data (T : Txt w K mg) : ∃ fd, FunD K "craft_data" "craft_data" (defArgs s_craft_data) (defBody s_craft_data) (defScope s_craft_data) [] [] (He.fAd K ("craft_data", none)) fd := T.def_ 15 (d := d_craft_data) rfl
theorem Txt.f_body_data (T : Txt w K mg) : ∃ fd, FunD K "body_data" "body_data" (defArgs s_body_data) (defBody s_body_data) (defScope s_body_data) [] [] (He.fAd K ("body_data", none)) fd := T.def_ 16 (d := d_body_data) rfl
theorem Txt.f_contents_data (T : Txt w K mg) : ∃ fd, FunD K "contents_data" "contents_data" (defArgs s_contents_data) (defBody s_contents_data) (defScope s_contents_data) [] [] (He.fAd K ("contents_data", none)) fd := T.def_ 17 (d := d_contents_data) rfl
theorem Txt.f_with_crafts (T : Txt w K mg) : ∃ fd, FunD K "with_crafts" "with_crafts" (defArgs s_with_crafts) (defBody s_with_crafts) (defScope s_with_crafts) [] [] (He.fAd K ("with_crafts", none)) fd := T.def_ 18 (d := d_with_crafts) rfl
theorem Txt.f_with_sites (T : Txt w K mg) : ∃ fd, FunD K "with_sites" "with_sites" (defArgs s_with_sites) (defBody s_with_sites) (defScope s_with_sites) [] [] (He.fAd K ("with_sites", none)) fd := T.def_ 19 (d := d_with_sites) rfl
theorem Txt.f_changed_craft (T : Txt w K mg) : ∃ fd, FunD K "changed_craft" "changed_craft" (defArgs s_changed_craft) (defBody s_changed_craft) (defScope s_changed_craft) [] [] (He.fAd K ("changed_craft", none)) fd := T.def_ 20 (d := d_changed_craft) rfl
theorem Txt.f_add_craft (T : Txt w K mg) : ∃ fd, FunD K "add_craft" "add_craft" (defArgs s_add_craft) (defBody s_add_craft) (defScope s_add_craft) [] [] (He.fAd K ("add_craft", none)) fd := T.def_ 21 (d := d_add_craft) rfl
theorem Txt.f_drop_craft (T : Txt w K mg) : ∃ fd, FunD K "drop_craft" "drop_craft" (defArgs s_drop_craft) (defBody s_drop_craft) (defScope s_drop_craft) [] [] (He.fAd K ("drop_craft", none)) fd := T.def_ 22 (d := d_drop_craft) rfl
theorem Txt.f_set_drift (T : Txt w K mg) : ∃ fd, FunD K "set_drift" "set_drift" (defArgs s_set_drift) (defBody s_set_drift) (defScope s_set_drift) [] [] (He.fAd K ("set_drift", none)) fd := T.def_ 23 (d := d_set_drift) rfl
theorem Txt.f_add_burn (T : Txt w K mg) : ∃ fd, FunD K "add_burn" "add_burn" (defArgs s_add_burn) (defBody s_add_burn) (defScope s_add_burn) [] [] (He.fAd K ("add_burn", none)) fd := T.def_ 24 (d := d_add_burn) rfl
theorem Txt.f_drop_burn (T : Txt w K mg) : ∃ fd, FunD K "drop_burn" "drop_burn" (defArgs s_drop_burn) (defBody s_drop_burn) (defScope s_drop_burn) [] [] (He.fAd K ("drop_burn", none)) fd := T.def_ 25 (d := d_drop_burn) rfl
theorem Txt.f_add_sighting (T : Txt w K mg) : ∃ fd, FunD K "add_sighting" "add_sighting" (defArgs s_add_sighting) (defBody s_add_sighting) (defScope s_add_sighting) [] [] (He.fAd K ("add_sighting", none)) fd := T.def_ 26 (d := d_add_sighting) rfl
theorem Txt.f_drop_sighting (T : Txt w K mg) : ∃ fd, FunD K "drop_sighting" "drop_sighting" (defArgs s_drop_sighting) (defBody s_drop_sighting) (defScope s_drop_sighting) [] [] (He.fAd K ("drop_sighting", none)) fd := T.def_ 27 (d := d_drop_sighting) rfl
theorem Txt.f_add_site (T : Txt w K mg) : ∃ fd, FunD K "add_site" "add_site" (defArgs s_add_site) (defBody s_add_site) (defScope s_add_site) [] [] (He.fAd K ("add_site", none)) fd := T.def_ 28 (d := d_add_site) rfl
theorem Txt.f_drop_site (T : Txt w K mg) : ∃ fd, FunD K "drop_site" "drop_site" (defArgs s_drop_site) (defBody s_drop_site) (defScope s_drop_site) [] [] (He.fAd K ("drop_site", none)) fd := T.def_ 29 (d := d_drop_site) rfl
theorem Txt.f_set_body (T : Txt w K mg) : ∃ fd, FunD K "set_body" "set_body" (defArgs s_set_body) (defBody s_set_body) (defScope s_set_body) [] [] (He.fAd K ("set_body", none)) fd := T.def_ 30 (d := d_set_body) rfl
theorem Txt.f_set_stride (T : Txt w K mg) : ∃ fd, FunD K "set_stride" "set_stride" (defArgs s_set_stride) (defBody s_set_stride) (defScope s_set_stride) [] [] (He.fAd K ("set_stride", none)) fd := T.def_ 31 (d := d_set_stride) rfl
theorem Txt.f_set_fineness (T : Txt w K mg) : ∃ fd, FunD K "set_fineness" "set_fineness" (defArgs s_set_fineness) (defBody s_set_fineness) (defScope s_set_fineness) [] [] (He.fAd K ("set_fineness", none)) fd := T.def_ 32 (d := d_set_fineness) rfl
theorem Txt.f_apply_edit (T : Txt w K mg) : ∃ fd, FunD K "apply_edit" "apply_edit" (defArgs s_apply_edit) (defBody s_apply_edit) (defScope s_apply_edit) [] [] (He.fAd K ("apply_edit", none)) fd := T.def_ 33 (d := d_apply_edit) rfl
theorem Txt.f_law_row (T : Txt w K mg) : ∃ fd, FunD K "_law_row" "_law_row" (defArgs s_law_row) (defBody s_law_row) (defScope s_law_row) [] [] (He.fAd K ("_law_row", none)) fd := T.def_ 34 (d := d_law_row) rfl
theorem Txt.f_law_edit_error (T : Txt w K mg) : ∃ fd, FunD K "_law_edit_error" "_law_edit_error" (defArgs s_law_edit_error) (defBody s_law_edit_error) (defScope s_law_edit_error) [] [] (He.fAd K ("_law_edit_error", none)) fd := T.def_ 35 (d := d_law_edit_error) rfl
theorem Txt.f_law_wide (T : Txt w K mg) : ∃ fd, FunD K "_law_wide" "_law_wide" (defArgs s_law_wide) (defBody s_law_wide) (defScope s_law_wide) [] [] (He.fAd K ("_law_wide", none)) fd := T.def_ 36 (d := d_law_wide) rfl
theorem Txt.f_law_drawn_edit (T : Txt w K mg) : ∃ fd, FunD K "_law_drawn_edit" "_law_drawn_edit" (defArgs s_law_drawn_edit) (defBody s_law_drawn_edit) (defScope s_law_drawn_edit) [] [] (He.fAd K ("_law_drawn_edit", none)) fd := T.def_ 37 (d := d_law_drawn_edit) rfl
theorem Txt.f_law_edited (T : Txt w K mg) : ∃ fd, FunD K "_law_edited" "_law_edited" (defArgs s_law_edited) (defBody s_law_edited) (defScope s_law_edited) [] [] (He.fAd K ("_law_edited", none)) fd := T.def_ 38 (d := d_law_edited) rfl
theorem Txt.f_law_things (T : Txt w K mg) : ∃ fd, FunD K "_law_things" "_law_things" (defArgs s_law_things) (defBody s_law_things) (defScope s_law_things) [] [] (He.fAd K ("_law_things", none)) fd := T.def_ 39 (d := d_law_things) rfl
theorem Txt.f_law_shuffled (T : Txt w K mg) : ∃ fd, FunD K "_law_shuffled" "_law_shuffled" (defArgs s_law_shuffled) (defBody s_law_shuffled) (defScope s_law_shuffled) [] [] (He.fAd K ("_law_shuffled", none)) fd := T.def_ 40 (d := d_law_shuffled) rfl
theorem Txt.f_law (T : Txt w K mg) : ∃ fd, FunD K "law" "law" (defArgs s_law) (defBody s_law) (defScope s_law) [] [] (He.fAd K ("law", none)) fd := T.def_ 41 (d := d_law) rfl
theorem Txt.t_ONE (T : Txt w K mg) : ∃ es n, KDict K w (He.ga K "ONE") es n := T.tab 0 rfl
theorem Txt.t_TWO (T : Txt w K mg) : ∃ es n, KDict K w (He.ga K "TWO") es n := T.tab 1 rfl
end
end Ka
/-! Rules of this claim's own: a <= b <= c <= d as a test; a try whose clauses bear names or none; an item of a written dict; a local name that holds one of several defs. -/
namespace Ka
open PySem PySem.Spec PyProof.Rows L2

/-! ### three comparisons in a row -/
section
variable {X : Cx} {a b c d : Expr} {ta tb tc td : TE} {pos : Pos}
def tChain3 (r r' r2 : R2) (ta tb tc td : TE) : TE := fun σ H Q => ta σ H fun x H1 => tb σ H1 fun y H2 => r x y H2 fun z H3 => ∃ k, z = .bl k ∧
  (if k = true then tc σ H3 fun u H4 => r' y u H4 fun z2 H5 => ∃ k2, z2 = .bl k2 ∧ (if k2 = true then td σ H5 fun v H6 => r2 u v H6 Q else Q (.bl false) H5) else Q (.bl false) H3)
theorem pt_chain3 {o1 o2 o3 : CmpOp} {r r' r2 : R2} (h1 : OpR X (compareOp o1) r) (h2 : OpR X (compareOp o2) r') (h3 : OpR X (compareOp o3) r2) (ha : PE X a ta) (hb : PE X b tb) (hc : PE X c tc) (hd : PE X d td)
    (hm : lastMarks [o1, o2, o3] [b, c, d] = false := by with_unfolding_all rfl) : PT X (.Compare a [o1, o2, o3] [b, c, d] pos) (tTest (tChain3 r r' r2 ta tb tc td)) := by
  refine ⟨fun pins s σ H Q I h => ?_⟩
  refine isTrue_chain (thn (ha.run pins s σ H _ I h) fun v1 s1 ⟨x, H1, I1, r1, q1⟩ => test_link (thn (hb.run pins s1 σ H1 _ I1 q1) fun v2 s2 ⟨y, H2, I2, r2, q2⟩ =>
    thn (h1 pins s2 σ H2 x y v1 v2 _ I2 r1 r2 q2) fun v3 s3 ⟨z, H3, I3, r3, k, e, q3⟩ => ?_)) hm
  subst e
  cases r3
  refine wpAny_truthy_bool ?_
  cases k with
  | false =>
    obtain ⟨k', e', q'⟩ := q3
    cases e'
    exact ite_ff ⟨H3, I3, q'⟩
  | true =>
    refine ite_tt (test_link (thn (hc.run pins s3 σ H3 _ I3 q3) fun v4 s4 ⟨u, H4, I4, r4, q4⟩ => thn (h2 pins s4 σ H4 y u v2 v4 _ I4 r2 r4 q4) fun v5 s5 ⟨z2, H5, I5, r5, k2, e2, q5⟩ => ?_))
    subst e2
    cases r5
    refine wpAny_truthy_bool ?_
    cases k2 with
    | false =>
      obtain ⟨k', e', q'⟩ := q5
      cases e'
      exact ite_ff ⟨H5, I5, q'⟩
    | true =>
      refine ite_tt (test_last (thn (hd.run pins s5 σ H5 _ I5 q5) fun v6 s6 ⟨w, H6, I6, r6, q6⟩ => thn (h3 pins s6 σ H6 u w v4 v6 _ I6 r4 r6 q6) fun v7 s7 ⟨z3, H7, I7, r7, k3, e3, q7⟩ => ?_))
      subst e3
      cases r7
      exact wpAny_truthy_bool ⟨H7, I7, q7⟩
end

/-! ### several rules for one node: which of them applies is a question of the reading -/
section
variable {X : Cx} {e : Expr}
theorem pe_any {ι : Type} {t : ι → TE} (h : ∀ i, PE X e (t i)) : PE X e (fun σ H Q => ∃ i, t i σ H Q) := ⟨fun pins s σ H Q I ⟨i, q⟩ => (h i).run pins s σ H Q I q⟩
theorem pe_anyP {ι : Type} {P : ι → Prop} {t : ι → TE} (h : ∀ i, P i → PE X e (t i)) : PE X e (fun σ H Q => ∃ i, P i ∧ t i σ H Q) := ⟨fun pins s σ H Q I ⟨i, p, q⟩ => (h i p).run pins s σ H Q I q⟩
end

/-! ### try with clauses that bear a name or none -/
/-- a clause: its class, its name's slot if it has one, what its suite is read as -/
abbrev Cla : Type := Value × Option Nat × (Addr → Value → Option Addr → TS)
/-- behind a suite whose clause bears a name the name is gone -/
def behind (D : Ends) : Option Nat → Ends
  | none => D
  | some i => { nx := fun σ H => D.nx (σ.set i none) H, rt := D.rt, bk := fun σ H => D.bk (σ.set i none) H, ct := fun σ H => D.ct (σ.set i none) H }
def named (σ : L2.St) (a : Addr) : Option Nat → L2.St
  | none => σ
  | some i => σ.set i (some (.ref a))
def wCla (K : PySem.W.Frag) (Wout : WX) (D : Ends) : List Cla → WX
  | [] => Wout
  | (c, o, ts) :: r => fun cls d σ H => ∃ b, PySem.W.exmOne K cls c = some b ∧ (b = true → ∀ a, H a = none → ts a cls d (behind D o) (named σ a o) H) ∧ (b = false → wCla K Wout D r cls d σ H)
inductive ClaOk (X : Cx) : List ExceptHandler → List Cla → Prop
  | nil : ClaOk X [] []
  | bare {x : Str} {c : Value} {ts : Addr → Value → Option Addr → TS} {b0 : Stmt} {suite : List Stmt} {np pos' : Pos} {hds : List ExceptHandler} {l : List Cla} (hc : Names X x c)
      (hsu : ∀ (a : Addr) (oe : Obj) (cls : Value) (d : Option Addr) (pn : List (Addr × Obj)), Zc cls d oe → (∃ vs, oe.data = .fields vs) → PSs (X.suite a ((a, oe) :: pn)) (b0 :: suite) (ts a cls d)) (r : ClaOk X hds l) :
      ClaOk X (.ExceptHandler (some (.Name x np)) none (b0 :: suite) pos' :: hds) ((c, none, ts) :: l)
  | bears {x n : Str} {i : Nat} {c : Value} {ts : Addr → Value → Option Addr → TS} {b0 : Stmt} {suite : List Stmt} {np pos' : Pos} {hds : List ExceptHandler} {l : List Cla} (hi : X.N[i]? = some n) (hn : X.env.kindOf n = some .local) (hc : Names X x c)
      (hsu : ∀ (a : Addr) (oe : Obj) (cls : Value) (d : Option Addr) (pn : List (Addr × Obj)), Zc cls d oe → (∃ vs, oe.data = .fields vs) → PSs (X.suite a ((a, oe) :: pn)) (b0 :: suite) (ts a cls d)) (r : ClaOk X hds l) :
      ClaOk X (.ExceptHandler (some (.Name x np)) (some n) (b0 :: suite) pos' :: hds) ((c, some i, ts) :: l)
section
variable {X : Cx} {body : List Stmt} {h0 : ExceptHandler} {hds : List ExceptHandler} {l : List Cla} {pos : Pos} {tb : WX → TS} {Wout : WX}
theorem ps_try_cla (hs : X.stack = X.env :: X.outer) (hf : X.env.frame = some X.env.locals) (hN : X.N.Nodup) (tk : Takes X Wout)
    (hb : ∀ (W : WX) (pn : List (Addr × Obj)) (xe : Value → Shared → Prop), Takes (X.tr pn xe) W → PassesOwn (model X.prog X.w) X.A X.env xe → PSs (X.tr pn xe) body (tb W))
    (hh : ClaOk X (h0 :: hds) l) : PS X (.Try body (h0 :: hds) [] [] pos) (fun D σ H => tb (wCla X.K Wout D l) D σ H) := by
  refine ⟨fun pins s σ H D I h => ?_⟩
  have ok := I.ok
  have hfr : X.A.frames = some (X.env :: X.outer) := by rw [ok.frames, hs]
  -- what the clauses make of an exception that has landed
  have catch_ : ∀ u s', XE (X.tr (X.pn ++ pins) (fun _ _ => False)) (wCla X.K Wout D l) u s' →
      wpAny (model X.prog X.w) X.A (noteFrame u X.env) (fun _ s2 => wpAny (model X.prog X.w) X.A (setFlight u none) (fun _ s3 => wpAny (model X.prog X.w) X.A (handleBy u X.env (h0 :: hds)) (SP X pins D) X.xe s3) X.xe s2) X.xe s' := by
    rintro u s' ⟨a, B, sI, pins', σ1, H1, cls, d, rfl, J', nb, up, sky, na, os, ag, w⟩
    have J : Inv X pins σ1 H1 sI := by
      have J2 : Inv (X.tr (X.pn ++ pins) (fun _ _ => False)) pins' σ1 H1 sI := J'
      exact J2.ofTry ok
    have sky' : Sky B (X.env :: X.outer) a (Zc cls d) X.env.locals s'.heap := hs ▸ sky
    refine Sky.land Zc.steady hfr hf sky' fun g1 fl1 u1 => ?_
    have J1 : Inv X pins σ1 H1 { s' with heap := g1 } := J.landed nb fl1.1 (up.trans u1) os ag
    obtain ⟨o1, v1, e1, z1, d1⟩ := fl1.there
    have off : a ∉ frs (X.env :: X.outer) := fun hm => by
      obtain ⟨_, o2, e2, hno⟩ := fl1.2.2.1.mem hm
      rw [e1] at e2
      cases e2
      exact hno _ d1
    have offL : a ≠ X.env.locals := fun z => off (List.mem_filterMap.mpr ⟨X.env, List.mem_cons_self, by rw [hf, z]⟩)
    have offF : a ∉ X.fs := fun hm => by
      obtain ⟨e, he, q⟩ := List.mem_filterMap.mp hm
      exact off (List.mem_filterMap.mpr ⟨e, List.mem_cons_of_mem _ he, q⟩)
    have S1 := J1.suite e1 d1 na offL offF
    have typ : PySem.W.Looks (model X.prog X.w) g1 (typeOf (.ref a)) cls := fun A Q E s k q => wpAny_typeOf_ref (k _ _ e1) (by rw [z1.1]; exact q)
    -- the name of a clause's class
    have ask : ∀ {x : Str} {c : Value} {np : Pos} {Q : Value → Shared → Prop} {E : Value → Shared → Prop}, Names X x c → Q c { s' with heap := g1 } → wpAny (model X.prog X.w) (X.A.mark (some (.ref a))) (eval (.Name x np) X.env) Q E { s' with heap := g1 } := by
      intro x c np Q E hc q
      obtain ⟨hg, hdbg, hm | ⟨hm, hv, hnn⟩⟩ := hc
      · exact ld_glob (X := X.suite a ((a, o1) :: (X.pn ++ pins))) S1 hg hm q hdbg
      · exact ld_blt (X := X.suite a ((a, o1) :: (X.pn ++ pins))) S1 hg hm hv q hnn hdbg
    have go : ∀ {hds' : List ExceptHandler} {l' : List Cla}, ClaOk X hds' l' → wCla X.K Wout D l' cls d σ1 H1 → wpAny (model X.prog X.w) X.A (handleBy (.ref a) X.env hds') (SP X pins D) X.xe { s' with heap := g1 } := by
      intro hds' l' hk
      induction hk with
      | nil =>
        intro w
        refine wpAny_handleBy_nil ?_
        obtain ⟨_, _, _, oe, vs, T, oT, ts', he, hz, hd, hv1, hr⟩ := id fl1
        have fin : wpAny (model X.prog X.w) X.A (setFlight (.ref a) X.env.frame) (fun _ s4 => wpAny (model X.prog X.w) X.A (throw (.ref a) : Sem Flow) (SP X pins D) X.xe s4) X.xe { s' with heap := g1 } := by
          rw [hf]
          refine HandSPX.setFlight_upZ fl1 fun g2 hh2 u2 => wpAny_throw (tk _ _ ?_)
          exact ⟨a, B, sI, pins, σ1, H1, cls, d, rfl, J, nb, (up.trans u1).trans u2, .inr (.inr (hs.symm ▸ hh2)), na, os, ag, w⟩
        unfold PySem.passOn
        refine wpAny_bind (wpAny_field he hd hv1 ?_)
        rw [if_neg (show ¬ ((Value.ref T == Value.none) = true) from by simp)]
        first
          | exact wpAny_bind (wpAny_pure (wpAny_bind fin))
          | exact wpAny_bind fin
      | @bare x c ts b0 suite np pos' hds2 l2 hc hsu _ ih =>
        intro w
        obtain ⟨b, eb, yes, no⟩ := w
        refine wpAny_handleBy_cons (codeAny_handlers_test ?_) (by intro q; cases q)
        refine ask hc ((PySem.W.exm_one (M := model X.prog X.w) J1.kIn typ eb).here ?_)
        cases b with
        | false => exact ih (no rfl)
        | true =>
          refine codeAny_handlers_suite ?_
          refine HandSPX.lands_againZ fl1 fun g2 fl2 u2 => ?_
          have J2 : Inv X pins σ1 H1 { s' with heap := g2 } := J.landed nb fl2.1 ((up.trans u1).trans u2) os ag
          obtain ⟨o2, v2, e2, z2, d2⟩ := fl2.there
          refine wpAny_mono ((hsu a o2 cls d (X.pn ++ pins) z2 ⟨_, d2⟩).run [] _ _ H1 _ (J2.suite e2 d2 na offL offF) (yes rfl a na)) (fun f s6 hsp => ?_) (fun _ _ z => False.elim z)
          cases f with
          | ret u =>
            obtain ⟨v6, σ6, H6, S6, r6, q6⟩ := hsp
            exact ⟨_, _, _, S6.unsuite ok, r6, q6⟩
          | next =>
            obtain ⟨σ6, H6, S6, q6⟩ := hsp
            exact ⟨_, _, S6.unsuite ok, q6⟩
          | brk =>
            obtain ⟨σ6, H6, S6, q6⟩ := hsp
            exact ⟨_, _, S6.unsuite ok, q6⟩
          | cont =>
            obtain ⟨σ6, H6, S6, q6⟩ := hsp
            exact ⟨_, _, S6.unsuite ok, q6⟩
      | @bears x n i c ts b0 suite np pos' hds2 l2 hi hn hc hsu _ ih =>
        intro w
        obtain ⟨b, eb, yes, no⟩ := w
        refine wpAny_handleBy_cons (codeAny_handlers_test ?_) (by intro q; cases q)
        refine ask hc ((PySem.W.exm_one (M := model X.prog X.w) J1.kIn typ eb).here ?_)
        cases b with
        | false => exact ih (no rfl)
        | true =>
          refine codeAny_handlers_suite_as ?_
          refine HandSPX.lands_againZ fl1 fun g2 fl2 u2 => ?_
          have J2 : Inv X pins σ1 H1 { s' with heap := g2 } := J.landed nb fl2.1 ((up.trans u1).trans u2) os ag
          obtain ⟨o2, v2, e2, z2, d2⟩ := fl2.there
          have gone : ∀ {s6 : Shared} {σ6 : L2.St} {H6 : Hp} {Q : Shared → Prop}, Inv (X.suite a ((a, o2) :: (X.pn ++ pins))) [] σ6 H6 s6 → (∀ s7, Inv X pins (σ6.set i none) H6 s7 → Q s7) →
              wpAny (model X.prog X.w) X.A (do bindName X.env n .none; unbindBehindTheSuite X.env n pos') (fun _ s7 => Q s7) X.xe s6 := fun S6 hq => gone_ok (S6.unsuite ok) hN hi hn hq
          refine store_ok (X := X.suite a ((a, o2) :: (X.pn ++ pins))) (v := .ref a) (J2.suite e2 d2 na offL offF) hN hi (.inl hn) rfl (fun s5 S5 => ?_) (.inr hn)
          refine wpAny_mono ((hsu a o2 cls d (X.pn ++ pins) z2 ⟨_, d2⟩).run [] s5 _ H1 _ S5 (yes rfl a na)) (fun f s6 hsp => ?_) (fun _ _ z => False.elim z)
          cases f with
          | ret u =>
            obtain ⟨v6, σ6, H6, S6, r6, q6⟩ := hsp
            exact gone S6 fun s7 J7 => ⟨_, _, _, J7, r6, q6⟩
          | next =>
            obtain ⟨σ6, H6, S6, q6⟩ := hsp
            exact gone S6 fun s7 J7 => ⟨_, _, J7, q6⟩
          | brk =>
            obtain ⟨σ6, H6, S6, q6⟩ := hsp
            exact gone S6 fun s7 J7 => ⟨_, _, J7, q6⟩
          | cont =>
            obtain ⟨σ6, H6, S6, q6⟩ := hsp
            exact gone S6 fun s7 J7 => ⟨_, _, J7, q6⟩
    exact go hh w
  refine wpAny_Try_except ?_
  refine wpAny_mono ((hb (wCla X.K Wout D l) (X.pn ++ pins) (fun e s1 => wpAny (model X.prog X.w) X.A (noteFrame e X.env) (fun _ s2 => wpAny (model X.prog X.w) X.A (setFlight e none) (fun _ s3 =>
    wpAny (model X.prog X.w) X.A (handleBy e X.env (h0 :: hds)) (SP X pins D) X.xe s3) X.xe s2) X.xe s1) (fun u s' xx => ?_) PassesOwn.looking).run [] s σ H D (I.toTry _) h) (fun f s1 hsp => ?_) (fun e s1 he => he)
  · obtain ⟨a, B, sI, pins', σ1, H1, cls, d, e, J', rest⟩ := xx
    exact catch_ u s' ⟨a, B, sI, pins', σ1, H1, cls, d, e, (J'.ofTry ok).toTry _ |> fun z => by
      refine ⟨z.ok, z.os, z.bare, z.base, z.loc, z.cell, z.free, z.freeC, fun p hp => ?_, z.hok, z.len⟩
      exact J'.pin p hp, rest⟩
  · cases f with
    | ret u =>
      obtain ⟨v, σ1, H1, J', r, q⟩ := hsp
      exact ⟨v, σ1, H1, J'.ofTry ok, r, q⟩
    | next =>
      obtain ⟨σ1, H1, J', q⟩ := hsp
      exact wpAny_execs_nil ⟨σ1, H1, J'.ofTry ok, q⟩
    | brk =>
      obtain ⟨σ1, H1, J', q⟩ := hsp
      exact ⟨σ1, H1, J'.ofTry ok, q⟩
    | cont =>
      obtain ⟨σ1, H1, J', q⟩ := hsp
      exact ⟨σ1, H1, J'.ofTry ok, q⟩
end

/-! ### d[k] of a written dict with text keys -/
section
variable {X : Cx} {a b : Expr} {ta tb : TE} {pos : Pos} {d : Addr} {es : Array DictEntry} {n : Nat}
def rKd (K : PySem.W.Frag) (d : Addr) : R2 := fun x y H Q => ∃ (z : Str) (u0 : Value) (v0 : V), x = .ref d ∧ y = .str z ∧ PySem.W.nsIn K d z = some (some u0) ∧ RelV v0 u0 ∧ Q v0 H
def rInKd (K : PySem.W.Frag) (d : Addr) : R2 := fun x y H Q => ∃ (z : Str) (r : Option Value), x = .str z ∧ y = .ref d ∧ PySem.W.nsIn K d z = some r ∧ Q (.bl r.isSome) H
theorem op_inKd (D : KDict X.K X.w d es n) : OpR X (compareOp .In) (rInKd X.K d) := op_in_kd D
theorem ix_kd (D : KDict X.K X.w d es n) : IxR X (rKd X.K d) := by
  intro value slice pins s σ H x y v u Q I rx ry h hs
  have h' := h
  obtain ⟨z, u0, v0, rfl, rfl, e, r, q⟩ := h'
  cases rx
  exact tail_any (kd_type D I) slot_dict_getitem.lookup (op_item_kd D pins s σ H (.ref d) (.str z) (.ref d) u Q I rfl ry h) hs
end

/-! ### tuple(x), list(x), x + y over lists: what is made is new, all else as it was -/
section
variable {X : Cx}
def rTuple (K : PySem.W.Frag) : List V → Hp → VK → Prop := fun xs H Q => ∃ p ys, xs = [V.ref p] ∧ (SqL K H p ys ∨ SqT K H p ys) ∧ ∀ q H', Same H H' → SqT K H' q ys → Q (.ref q) H'
theorem newSame {H : Hp} {D : Addr} {o : HO} (h : H D = Option.none) : Same H (upd H D o) := fun b u e => by
  rw [upd_ne (ne_of_none e h)]
  exact e
theorem call_tupleS : CallR X (.type "tuple") (rTuple X.K) := by
  intro pins s σ H xs us Q I r h
  obtain ⟨p, ys, e, h1, k⟩ := h
  refine call_tuple_of pins s σ H xs us Q I r ⟨p, ys, e, ?_⟩
  rcases h1 with h1 | h1
  · exact .inl ⟨h1, fun l hl => k _ _ (newSame hl) (.inl (.inl upd_same))⟩
  · exact .inr ⟨h1, k _ _ (Same.refl _) h1⟩
def rList (K : PySem.W.Frag) : List V → Hp → VK → Prop := fun xs H Q => ∃ p ys, xs = [V.ref p] ∧ (SqL K H p ys ∨ SqT K H p ys) ∧ ∀ q H', Same H H' → H q = Option.none → H' q = some (.lst ys) → Q (.ref q) H'
theorem call_listS : CallR X (.type "list") (rList X.K) := by
  intro pins s σ H xs us Q I r h
  obtain ⟨p, ys, e, h1, k⟩ := h
  exact call_list_of pins s σ H xs us Q I r ⟨p, ys, e, h1, fun l hl => k _ _ (newSame hl) hl upd_same⟩
def rCatS : R2 := fun x y H Q => ∃ l b xs zs, x = V.ref l ∧ y = V.ref b ∧ H l = some (.lst xs) ∧ H b = some (.lst zs) ∧ xs.length + zs.length ≤ sizeLine ∧ ∀ q H', Same H H' → H q = Option.none → H' q = some (.lst (xs ++ zs)) → Q (.ref q) H'
theorem op_catS : OpR X (binaryOp .Add) rCatS := by
  intro pins s σ H x y v u Q I rx ry h
  obtain ⟨l, b, xs, zs, e1, e2, h1, h2, hz, k⟩ := h
  exact op_cat pins s σ H x y v u Q I rx ry ⟨l, b, xs, zs, e1, e2, h1, h2, hz, fun q hq => k _ _ (newSame hq) hq upd_same⟩
end

/-! ### a local name that holds a def, one of several, which may raise -/
section
variable {X : Cx} {k i : Nat} {x : Str} {p pos : Pos} {e : Expr} {es : List Expr} {t : TA} {E : XK}
/-- a def that may be called by its address -/
structure HeldX (P : Program) (w : World) (K : PySem.W.Frag) (mg : Str → Option Value) (base : Heap) (k : Nat) (f : Addr) (sp : Sp) : Prop where
  ex : ∃ (fd : FuncData) (ps : List Str), FnOk P w K mg base (L2.CX P w) k f fd ps sp ∧ PySem.W.keepIn K (.ref f) = true ∧ Binds K fd ps []
def tCallH (P : Program) (w : World) (K : PySem.W.Frag) (mg : Str → Option Value) (base : Heap) (k i : Nat) (E : XK) (t : TA) : TE := fun σ H Q => ∃ (q : Addr × Sp), HeldX P w K mg base k q.1 q.2 ∧ tCallL i q.1 q.2 [] E t σ H Q
theorem pe_callH (hr : Room k X.A) (hN : X.N[i]? = some x) (hv : Vis X.env.scope x) (hx : Passes (L2.CX X.prog X.w) X E) (ha : PA X (e :: es) t)
    (hdb : (x == ("__debug__" : Str)) = false := by decide) (hcd : (x == ("__classdict__" : Str)) = false := by decide)
    (he : starEach (e :: es) X.env = (false, eval e X.env) :: starEach es X.env := by rfl) (hpl : (backTo pos (starEach es X.env)).any (·.1) = false := by rfl) :
    PE X (.Call (.Name x p) (e :: es) [] pos) (tCallH X.prog X.w X.K X.mg X.base k i E t) :=
  pe_anyP fun q hq => by
    obtain ⟨fd, ps, F, kp, b⟩ := hq.ex
    exact pe_callL F hr hN hv kp b .nil hx ha hdb hcd he hpl
end
end Ka
/-! What stands in the heap for bodies, burns, sightings, crafts, sites, contents and edits; it stays where all but lists stays. -/
namespace Ka
open PySem PySem.Spec PyProof.Rows L2

/-! ### all but lists is as it was -/
def Keep (H H' : Hp) : Prop := ∀ b o, H b = some o → (∀ xs, o ≠ .lst xs) → H' b = some o
section
variable {K : PySem.W.Frag} {H H' H2 : Hp}
theorem Keep.of (s : Same H H') : Keep H H' := fun b o e _ => s b o e
theorem Keep.refl (H : Hp) : Keep H H := fun _ _ e _ => e
theorem Keep.trans (a : Keep H H') (b : Keep H' H2) : Keep H H2 := fun x o e n => b x o (a x o e n) n
theorem Keep.lst {D : Addr} {xs ys : List V} (h : H D = some (.lst xs)) : Keep H (upd H D (.lst ys)) := fun b o e n => by
  have hb : b ≠ D := fun z => by
    rw [z, h] at e
    exact n xs (Option.some.inj e).symm
  rw [upd_ne hb]
  exact e
theorem Same.new {D : Addr} {o : HO} (h : H D = Option.none) : Same H (upd H D o) := fun b u e => by
  rw [upd_ne (ne_of_none e h)]
  exact e
theorem Same.free2 {D : Addr} (s : Same H H') (h : H' D = Option.none) : H D = Option.none := Same.free s h
/-- an object that was not there may change -/
theorem Same.mut {D : Addr} {o : HO} (s : Same H H') (h : H D = Option.none) : Same H (upd H' D o) := fun b u e => by
  rw [upd_ne (ne_of_none e h)]
  exact s b u e
theorem keepT {a : Addr} {xs : List V} (e : Keep H H') (h : SqT K H a xs) : SqT K H' a xs := by
  rcases h with (h | ⟨o, h⟩) | h
  · exact .inl (.inl (e _ _ h fun _ z => by cases z))
  · exact .inl (.inr ⟨o, e _ _ h fun _ z => by cases z⟩)
  · exact .inr h
theorem sameL {a : Addr} {xs : List V} (e : Same H H') (h : SqL K H a xs) : SqL K H' a xs := Same.seq e h
theorem tupOf {a : Addr} {xs : List V} (h : H a = some (.tup xs)) : SqT K H a xs := .inl (.inl h)
theorem lstOf {a : Addr} {xs : List V} (h : H a = some (.lst xs)) : SqL K H a xs := .inl (.inl h)
end

/-! ### rows -/
theorem pd_mono {α β : Type} {F G : α → β → Prop} (f : ∀ a b, F a b → G a b) : ∀ {l : List α} {m : List β}, Paired F l m → Paired G l m
  | _, _, .nil => .nil
  | _, _, .cons r t => .cons (f _ _ r) (pd_mono f t)
theorem pd_filter {α β : Type} {F : α → β → Prop} {p : α → Bool} {q : β → Bool} (h : ∀ a b, F a b → p a = q b) : ∀ {l : List α} {m : List β}, Paired F l m → Paired F (l.filter p) (m.filter q)
  | _, _, .nil => .nil
  | _, _, @Paired.cons _ _ _ a b l m r t => by
    have ih := pd_filter h t
    have e := h a b r
    cases hq : q b with
    | true =>
      rw [hq] at e
      rw [List.filter_cons, List.filter_cons, e, hq]
      exact .cons r ih
    | false =>
      rw [hq] at e
      rw [List.filter_cons, List.filter_cons, e, hq]
      exact ih
theorem pd_append {α β : Type} {F : α → β → Prop} : ∀ {l l2 : List α} {m m2 : List β}, Paired F l m → Paired F l2 m2 → Paired F (l ++ l2) (m ++ m2)
  | _, _, _, _, .nil, s => s
  | _, _, _, _, .cons r t, s => .cons r (pd_append t s)
theorem pd_len {α β : Type} {F : α → β → Prop} : ∀ {l : List α} {m : List β}, Paired F l m → l.length = m.length
  | _, _, .nil => rfl
  | _, _, .cons _ t => congrArg Nat.succ (pd_len t)
theorem pd_get {α β : Type} {F : α → β → Prop} : ∀ {l : List α} {m : List β} {i : Nat} {a : α}, Paired F l m → l[i]? = some a → ∃ b, m[i]? = some b ∧ F a b
  | _, _, _, _, .nil, e => by simp at e
  | _, _, 0, a, .cons r _, e => by
    simp at e
    subst e
    exact ⟨_, rfl, r⟩
  | _, _, i + 1, a, .cons _ t, e => by
    obtain ⟨b, h1, h2⟩ := pd_get (i := i) (a := a) t (by simpa using e)
    exact ⟨b, by simpa using h1, h2⟩
theorem pd_mem {α β : Type} {F : α → β → Prop} : ∀ {l : List α} {m : List β} {a : α}, Paired F l m → a ∈ l → ∃ b, b ∈ m ∧ F a b
  | _, _, _, .nil, e => by cases e
  | _, _, a, .cons r t, e => by
    rcases List.mem_cons.mp e with q | q
    · subst q
      exact ⟨_, List.mem_cons_self .., r⟩
    · obtain ⟨b, h1, h2⟩ := pd_mem t q
      exact ⟨b, List.mem_cons_of_mem _ h1, h2⟩
theorem pd_map {α β γ : Type} {F : α → γ → Prop} {f : β → γ} : ∀ {l : List α} {m : List β}, Paired (fun a b => F a (f b)) l m → Paired F l (m.map f)
  | _, _, .nil => .nil
  | _, _, .cons r t => .cons r (pd_map t)
theorem pd_flip {α β : Type} {F : α → β → Prop} : ∀ {l : List α} {m : List β}, Paired F l m → Paired (fun b a => F a b) m l
  | _, _, .nil => .nil
  | _, _, .cons r t => .cons r (pd_flip t)
/-- an arrangement of the ones gives an arrangement of the others -/
theorem pd_perm {α β : Type} {F : α → β → Prop} : ∀ {l l2 : List α}, List.Perm l2 l → ∀ {m : List β}, Paired F l m → ∃ m2, List.Perm m2 m ∧ Paired F l2 m2 := by
  intro l l2 h
  induction h with
  | nil => exact fun {m} p => ⟨m, List.Perm.refl _, p⟩
  | cons x _ ih =>
    intro m p
    cases p with
    | cons r t =>
      obtain ⟨m2, h1, h2⟩ := ih t
      exact ⟨_ :: m2, h1.cons _, .cons r h2⟩
  | swap x y l =>
    intro m p
    cases p with
    | cons r t =>
      cases t with
      | cons r2 t2 => exact ⟨_, List.Perm.swap _ _ _, .cons r2 (.cons r t2)⟩
  | trans _ _ ih1 ih2 =>
    intro m p
    obtain ⟨m2, h1, h2⟩ := ih2 p
    obtain ⟨m3, h3, h4⟩ := ih1 h2
    exact ⟨m3, h3.trans h1, h4⟩

/-! ### fields -/
/-- the instance at p has the value v in its field f -/
def FldAt (K : PySem.W.Frag) (H : Hp) (p : Addr) (f : Str) (v : V) : Prop := ∃ C dx fs, H p = some (.ins C dx fs) ∧ Cls K C ∧ NoAttr K C f ∧ fs.lookup f = some v
section
variable {K : PySem.W.Frag} {H H' : Hp} {p : Addr} {f : Str} {v : V}
theorem FldAt.keep (e : Keep H H') (h : FldAt K H p f v) : FldAt K H' p f v := by
  obtain ⟨C, dx, fs, h1, h2, h3, h4⟩ := h
  exact ⟨C, dx, fs, e _ _ h1 (fun _ z => by cases z), h2, h3, h4⟩
/-- the field's reading -/
theorem rdF {Q : V → Prop} (h : FldAt K H p f v) (q : Q v) : ∃ a C dx fs v', V.ref p = V.ref a ∧ H a = some (HO.ins C dx fs) ∧ Cls K C ∧ NoAttr K C f ∧ fs.lookup f = some v' ∧ Q v' := by
  obtain ⟨C, dx, fs, h1, h2, h3, h4⟩ := h
  exact ⟨p, C, dx, fs, v, rfl, h1, h2, h3, h4, q⟩
/-- the value of a field, if it is there -/
def fldV (H : Hp) (f : Str) : V → V
  | .ref p => match H p with
    | some (.ins _ _ fs) => (fs.lookup f).getD .non
    | _ => .non
  | _ => .non
theorem FldAt.val (h : FldAt K H p f v) : fldV H f (.ref p) = v := by
  obtain ⟨C, dx, fs, h1, _, _, h4⟩ := h
  show (match H p with
    | some (.ins _ _ fs) => (fs.lookup f).getD .non
    | _ => .non) = v
  rw [h1]
  show (fs.lookup f).getD .non = v
  rw [h4]
  rfl
end

/-! ### what stands for what -/
section
variable (K : PySem.W.Frag) (H : Hp)
def RowAt {α : Type} (R : Hp → V → α → Prop) (v : V) (l : List α) : Prop := ∃ p vs, v = V.ref p ∧ SqT K H p vs ∧ Paired (R H) vs l
def PairAt (v : V) (q : Int × Int) : Prop := ∃ p, v = V.ref p ∧ SqT K H p [V.int q.1, V.int q.2]
def BoxAt (v : V) (b : Box) : Prop := RowAt K H (PairAt K) v b
def IntsAt (v : V) (ns : List Int) : Prop := ∃ p, v = V.ref p ∧ SqT K H p (ns.map V.int)
structure BurnP (p : Addr) (b : BurnM) : Prop where
  fb : FldAt K H p "begin" (.int b.b)
  fe : FldAt K H p "end" (.int b.e)
  fp : ∃ w, FldAt K H p "push" w ∧ BoxAt K H w b.push
def BurnAt (v : V) (b : BurnM) : Prop := ∃ p, v = V.ref p ∧ BurnP K H p b
structure SightP (p : Addr) (s : SightM) : Prop where
  ft : FldAt K H p "at" (.int s.t)
  fp : ∃ w, FldAt K H p "place" w ∧ BoxAt K H w s.place
def SightAt (v : V) (s : SightM) : Prop := ∃ p, v = V.ref p ∧ SightP K H p s
structure CraftP (p : Addr) (c : CraftM) : Prop where
  fn : FldAt K H p "name" (.str c.name)
  fs : FldAt K H p "start" (.int c.start)
  fp : ∃ w, FldAt K H p "place" w ∧ BoxAt K H w c.place
  fv : ∃ w, FldAt K H p "speed" w ∧ BoxAt K H w c.speed
  fd : FldAt K H p "drift" (.int c.drift)
  fb : ∃ w, FldAt K H p "burns" w ∧ RowAt K H (BurnAt K) w c.burns
  fg : ∃ w, FldAt K H p "sightings" w ∧ RowAt K H (SightAt K) w c.sights
def CraftAt (v : V) (c : CraftM) : Prop := ∃ p, v = V.ref p ∧ CraftP K H p c
structure SiteP (p : Addr) (s : SiteM) : Prop where
  fn : FldAt K H p "name" (.str s.name)
  fp : ∃ w, FldAt K H p "place" w ∧ IntsAt K H w s.place
def SiteAt (v : V) (s : SiteM) : Prop := ∃ p, v = V.ref p ∧ SiteP K H p s
structure BodyP (p : Addr) (b : BodyM) : Prop where
  fm : FldAt K H p "mu" (.int b.mu)
  fo : FldAt K H p "oblateness" (.int b.obl)
  ft : ∃ w, FldAt K H p "turn" w ∧ IntsAt K H w b.turn
def BodyAt (v : V) (b : BodyM) : Prop := ∃ p, v = V.ref p ∧ BodyP K H p b
structure ContP (p : Addr) (c : ContM) : Prop where
  fb : ∃ w, FldAt K H p "body" w ∧ BodyAt K H w c.body
  fs : FldAt K H p "stride" (.int c.stride)
  ff : FldAt K H p "fineness" (.int c.fine)
  fc : ∃ w, FldAt K H p "crafts" w ∧ RowAt K H (CraftAt K) w c.crafts
  ft : ∃ w, FldAt K H p "sites" w ∧ RowAt K H (SiteAt K) w c.sites
def ContAt (v : V) (c : ContM) : Prop := ∃ p, v = V.ref p ∧ ContP K H p c
end
def word : EditM → Str
  | .setBody _ => "set body"
  | .setStride _ => "set stride"
  | .setFine _ => "set fineness"
  | .addCraft _ => "add craft"
  | .dropCraft _ => "drop craft"
  | .addSite _ => "add site"
  | .dropSite _ => "drop site"
  | .setDrift _ _ => "set drift"
  | .addBurn _ _ => "add burn"
  | .dropBurn _ _ => "drop burn"
  | .addSight _ _ => "add sighting"
  | .dropSight _ _ => "drop sighting"
def ArgsAt (K : PySem.W.Frag) (H : Hp) : EditM → List V → Prop
  | .setBody b, ws => ∃ w, ws = [w] ∧ BodyAt K H w b
  | .setStride n, ws => ws = [.int n]
  | .setFine n, ws => ws = [.int n]
  | .addCraft c, ws => ∃ w, ws = [w] ∧ CraftAt K H w c
  | .dropCraft n, ws => ws = [.str n]
  | .addSite s, ws => ∃ w, ws = [w] ∧ SiteAt K H w s
  | .dropSite n, ws => ws = [.str n]
  | .setDrift n d, ws => ws = [.str n, .int d]
  | .addBurn n b, ws => ∃ w, ws = [.str n, w] ∧ BurnAt K H w b
  | .dropBurn n t, ws => ws = [.str n, .int t]
  | .addSight n s, ws => ∃ w, ws = [.str n, w] ∧ SightAt K H w s
  | .dropSight n t, ws => ws = [.str n, .int t]
def EditAt (K : PySem.W.Frag) (H : Hp) (v : V) (e : EditM) : Prop := ∃ p ws, v = V.ref p ∧ SqT K H p (.str (word e) :: ws) ∧ ArgsAt K H e ws

/-! ### it stays -/
/-- what is so stays so where all but lists stays -/
def Stays {α : Type} (R : Hp → V → α → Prop) : Prop := ∀ H H' v x, Keep H H' → R H v x → R H' v x
section
variable {K : PySem.W.Frag} {H H' : Hp} {p : Addr}
theorem RowAt.keep {α : Type} {R : Hp → V → α → Prop} (m : Stays R) {v : V} {l : List α} (e : Keep H H') (h : RowAt K H R v l) : RowAt K H' R v l := by
  obtain ⟨p, vs, h1, h2, h3⟩ := h
  exact ⟨p, vs, h1, keepT e h2, pd_mono (fun a b r => m _ _ _ _ e r) h3⟩
theorem pair_stays : Stays (PairAt K) := fun H H' v x e ⟨p, h1, h2⟩ => ⟨p, h1, keepT e h2⟩
theorem box_stays : Stays (BoxAt K) := fun H H' v x e h => RowAt.keep pair_stays e h
theorem ints_stays : Stays (IntsAt K) := fun H H' v x e ⟨p, h1, h2⟩ => ⟨p, h1, keepT e h2⟩
theorem BurnP.keep {b : BurnM} (e : Keep H H') (h : BurnP K H p b) : BurnP K H' p b := by
  obtain ⟨w, h1, h2⟩ := h.fp
  exact ⟨h.fb.keep e, h.fe.keep e, w, h1.keep e, box_stays _ _ _ _ e h2⟩
theorem burn_stays : Stays (BurnAt K) := fun H H' v x e ⟨p, h1, h2⟩ => ⟨p, h1, h2.keep e⟩
theorem SightP.keep {b : SightM} (e : Keep H H') (h : SightP K H p b) : SightP K H' p b := by
  obtain ⟨w, h1, h2⟩ := h.fp
  exact ⟨h.ft.keep e, w, h1.keep e, box_stays _ _ _ _ e h2⟩
theorem sight_stays : Stays (SightAt K) := fun H H' v x e ⟨p, h1, h2⟩ => ⟨p, h1, h2.keep e⟩
theorem CraftP.keep {c : CraftM} (e : Keep H H') (h : CraftP K H p c) : CraftP K H' p c := by
  obtain ⟨w1, a1, b1⟩ := h.fp
  obtain ⟨w2, a2, b2⟩ := h.fv
  obtain ⟨w3, a3, b3⟩ := h.fb
  obtain ⟨w4, a4, b4⟩ := h.fg
  exact ⟨h.fn.keep e, h.fs.keep e, ⟨w1, a1.keep e, box_stays _ _ _ _ e b1⟩, ⟨w2, a2.keep e, box_stays _ _ _ _ e b2⟩, h.fd.keep e, ⟨w3, a3.keep e, b3.keep burn_stays e⟩, ⟨w4, a4.keep e, b4.keep sight_stays e⟩⟩
theorem craft_stays : Stays (CraftAt K) := fun H H' v x e ⟨p, h1, h2⟩ => ⟨p, h1, h2.keep e⟩
theorem SiteP.keep {b : SiteM} (e : Keep H H') (h : SiteP K H p b) : SiteP K H' p b := by
  obtain ⟨w, h1, h2⟩ := h.fp
  exact ⟨h.fn.keep e, w, h1.keep e, ints_stays _ _ _ _ e h2⟩
theorem site_stays : Stays (SiteAt K) := fun H H' v x e ⟨p, h1, h2⟩ => ⟨p, h1, h2.keep e⟩
theorem BodyP.keep {b : BodyM} (e : Keep H H') (h : BodyP K H p b) : BodyP K H' p b := by
  obtain ⟨w, h1, h2⟩ := h.ft
  exact ⟨h.fm.keep e, h.fo.keep e, w, h1.keep e, ints_stays _ _ _ _ e h2⟩
theorem body_stays : Stays (BodyAt K) := fun H H' v x e ⟨p, h1, h2⟩ => ⟨p, h1, h2.keep e⟩
theorem ContP.keep {c : ContM} (e : Keep H H') (h : ContP K H p c) : ContP K H' p c := by
  obtain ⟨w1, a1, b1⟩ := h.fb
  obtain ⟨w2, a2, b2⟩ := h.fc
  obtain ⟨w3, a3, b3⟩ := h.ft
  exact ⟨⟨w1, a1.keep e, body_stays _ _ _ _ e b1⟩, h.fs.keep e, h.ff.keep e, ⟨w2, a2.keep e, b2.keep craft_stays e⟩, ⟨w3, a3.keep e, b3.keep site_stays e⟩⟩
theorem cont_stays : Stays (ContAt K) := fun H H' v x e ⟨p, h1, h2⟩ => ⟨p, h1, h2.keep e⟩
theorem ArgsAt.keep {ed : EditM} {ws : List V} (e : Keep H H') (h : ArgsAt K H ed ws) : ArgsAt K H' ed ws := by
  cases ed with
  | setBody b =>
    obtain ⟨w, h1, h2⟩ := h
    exact ⟨w, h1, body_stays _ _ _ _ e h2⟩
  | addCraft b =>
    obtain ⟨w, h1, h2⟩ := h
    exact ⟨w, h1, craft_stays _ _ _ _ e h2⟩
  | addSite b =>
    obtain ⟨w, h1, h2⟩ := h
    exact ⟨w, h1, site_stays _ _ _ _ e h2⟩
  | addBurn n b =>
    obtain ⟨w, h1, h2⟩ := h
    exact ⟨w, h1, burn_stays _ _ _ _ e h2⟩
  | addSight n b =>
    obtain ⟨w, h1, h2⟩ := h
    exact ⟨w, h1, sight_stays _ _ _ _ e h2⟩
  | _ => exact h
theorem edit_stays : Stays (EditAt K) := fun H H' v x e ⟨p, ws, h1, h2, h3⟩ => ⟨p, ws, h1, keepT e h2, h3.keep e⟩
end

/-! ### data of tuples, ints and texts -/
mutual
inductive Dt (K : PySem.W.Frag) (H : Hp) : V → PyData → Prop
  | int (i : Int) : Dt K H (.int i) (.int i)
  | str (x : Str) : Dt K H (.str x) (.str x)
  | tup {a : Addr} {xs : List V} {ds : List PyData} : SqT K H a xs → DtAll K H xs ds → Dt K H (.ref a) (.tuple ds)
inductive DtAll (K : PySem.W.Frag) (H : Hp) : List V → List PyData → Prop
  | nil : DtAll K H [] []
  | cons {v : V} {vs : List V} {d : PyData} {ds : List PyData} : Dt K H v d → DtAll K H vs ds → DtAll K H (v :: vs) (d :: ds)
end
mutual
theorem Dt.keep {K : PySem.W.Frag} {H H' : Hp} (e : Keep H H') : ∀ (d : PyData) (v : V), Dt K H v d → Dt K H' v d
  | .int i, _, h => by
    cases h
    exact .int i
  | .str x, _, h => by
    cases h
    exact .str x
  | .tuple ds, _, h => by
    cases h with
    | tup h1 h2 => exact .tup (keepT e h1) (DtAll.keep e ds _ h2)
  | .none, _, h => by cases h
  | .bool _, _, h => by cases h
  | .list _, _, h => by cases h
  | .dict _, _, h => by cases h
theorem DtAll.keep {K : PySem.W.Frag} {H H' : Hp} (e : Keep H H') : ∀ (ds : List PyData) (vs : List V), DtAll K H vs ds → DtAll K H' vs ds
  | [], _, h => by
    cases h
    exact .nil
  | d :: ds, _, h => by
    cases h with
    | cons h1 h2 => exact .cons (Dt.keep e d _ h1) (DtAll.keep e ds _ h2)
end
mutual
theorem Dt.dp {K : PySem.W.Frag} {H : Hp} : ∀ (d : PyData) (v : V), Dt K H v d → Dp K H v d
  | .int i, _, h => by
    cases h
    exact .int i
  | .str x, _, h => by
    cases h
    exact .str x
  | .tuple ds, _, h => by
    cases h with
    | tup h1 h2 => exact .tup h1 (DtAll.dp ds _ h2)
  | .none, _, h => by cases h
  | .bool _, _, h => by cases h
  | .list _, _, h => by cases h
  | .dict _, _, h => by cases h
theorem DtAll.dp {K : PySem.W.Frag} {H : Hp} : ∀ (ds : List PyData) (vs : List V), DtAll K H vs ds → DpAll K H vs ds
  | [], _, h => by
    cases h
    exact .nil
  | d :: ds, _, h => by
    cases h with
    | cons h1 h2 => exact .cons (Dt.dp d _ h1) (DtAll.dp ds _ h2)
end
def pairD (q : Int × Int) : PyData := .tuple [.int q.1, .int q.2]
def boxD (b : Box) : PyData := .tuple (b.map pairD)
def intsD (ns : List Int) : PyData := .tuple (ns.map .int)
def burnD (b : BurnM) : PyData := .tuple [.int b.b, .int b.e, boxD b.push]
def sightD (s : SightM) : PyData := .tuple [.int s.t, boxD s.place]
def craftD (c : CraftM) : PyData := .tuple [.str c.name, .int c.start, boxD c.place, boxD c.speed, .int c.drift, .tuple (c.burns.map burnD), .tuple (c.sights.map sightD)]
def siteD (s : SiteM) : PyData := .tuple [.str s.name, intsD s.place]
def bodyD (b : BodyM) : PyData := .tuple [.int b.mu, .int b.obl, intsD b.turn]
def contD (c : ContM) : PyData := .tuple [bodyD c.body, .int c.stride, .int c.fine, .tuple (c.crafts.map craftD), .tuple (c.sites.map siteD)]
section
variable {K : PySem.W.Frag} {H : Hp}
theorem dtAll_of {α : Type} {R : V → α → Prop} {f : α → PyData} (h : ∀ v x, R v x → Dt K H v (f x)) : ∀ {vs : List V} {l : List α}, Paired R vs l → DtAll K H vs (l.map f)
  | _, _, .nil => .nil
  | _, _, .cons r t => .cons (h _ _ r) (dtAll_of h t)
theorem dt_pair {v : V} {q : Int × Int} (h : PairAt K H v q) : Dt K H v (pairD q) := by
  obtain ⟨p, rfl, h2⟩ := h
  exact .tup h2 (.cons (.int _) (.cons (.int _) .nil))
theorem dt_box {v : V} {b : Box} (h : BoxAt K H v b) : Dt K H v (boxD b) := by
  obtain ⟨p, vs, rfl, h2, h3⟩ := h
  exact .tup h2 (dtAll_of (fun _ _ r => dt_pair r) h3)
theorem dtAll_ints : ∀ ns : List Int, DtAll K H (ns.map V.int) (ns.map PyData.int)
  | [] => .nil
  | n :: ns => .cons (.int n) (dtAll_ints ns)
theorem dt_ints {v : V} {ns : List Int} (h : IntsAt K H v ns) : Dt K H v (intsD ns) := by
  obtain ⟨p, rfl, h2⟩ := h
  exact .tup h2 (dtAll_ints ns)
end
/-! ### its shape -/
def Shp (n : Nat) (d : PyData) : Prop := d.canLay0 = true ∧ d.depth ≤ n
theorem shp_all {n : Nat} : ∀ {ds : List PyData}, (∀ d ∈ ds, Shp n d) → PyData.canLayAll0 ds = true ∧ PyData.depthAll ds ≤ n
  | [], _ => ⟨rfl, Nat.zero_le _⟩
  | d :: ds, h => by
    obtain ⟨a1, a2⟩ := h d (List.mem_cons_self ..)
    obtain ⟨b1, b2⟩ := shp_all (ds := ds) fun x hx => h x (List.mem_cons_of_mem _ hx)
    refine ⟨?_, ?_⟩
    · simp only [PyData.canLayAll0, a1, b1, Bool.and_self]
    · simp only [PyData.depthAll]
      omega
theorem shp_tup {n : Nat} {ds : List PyData} (h : ∀ d ∈ ds, Shp n d) : Shp (n + 1) (.tuple ds) := by
  obtain ⟨h1, h2⟩ := shp_all h
  refine ⟨?_, ?_⟩
  · simpa only [PyData.canLay0] using h1
  · simp only [PyData.depth]
    omega
theorem shp_int (n : Nat) (i : Int) : Shp n (.int i) := ⟨rfl, by simp only [PyData.depth]; omega⟩
theorem abc_low : ∀ c ∈ alphabet.cps.toList, c < 0x110000 := by decide +kernel
theorem shp_str (n : Nat) {x : Str} (h : NameOk x) : Shp n (.str x) := by
  refine ⟨?_, by simp only [PyData.depth]; omega⟩
  simp only [PyData.canLay0, PyData.strOk]
  rw [← Array.all_toList, List.all_eq_true]
  exact fun c hc => decide_eq_true (abc_low c (h.2.2 c hc))
theorem Shp.le {n m : Nat} {d : PyData} (h : Shp n d) (l : n ≤ m) : Shp m d := ⟨h.1, Nat.le_trans h.2 l⟩
theorem shp_mapM {α : Type} {n : Nat} {l : List α} {f : α → PyData} (h : ∀ x ∈ l, Shp n (f x)) : ∀ d ∈ l.map f, Shp n d := fun d hd => by
  obtain ⟨x, hx, rfl⟩ := List.mem_map.mp hd
  exact h x hx
theorem shp_map {α : Type} {n : Nat} {l : List α} {f : α → PyData} (h : ∀ x, Shp n (f x)) : ∀ d ∈ l.map f, Shp n d := shp_mapM fun x _ => h x
theorem shp_box (b : Box) : Shp 2 (boxD b) := shp_tup (shp_map fun q => shp_tup fun d hd => by
  simp only [List.mem_cons, List.not_mem_nil, or_false] at hd
  rcases hd with rfl | rfl <;> exact shp_int _ _)
theorem shp_ints (ns : List Int) : Shp 1 (intsD ns) := shp_tup (shp_map fun q => shp_int _ _)
theorem shp_burn (b : BurnM) : Shp 3 (burnD b) := shp_tup fun d hd => by
  simp only [List.mem_cons, List.not_mem_nil, or_false] at hd
  rcases hd with rfl | rfl | rfl
  · exact shp_int _ _
  · exact shp_int _ _
  · exact shp_box _
theorem shp_sight (b : SightM) : Shp 3 (sightD b) := shp_tup fun d hd => by
  simp only [List.mem_cons, List.not_mem_nil, or_false] at hd
  rcases hd with rfl | rfl
  · exact shp_int _ _
  · exact shp_box _
theorem shp_craft {b : CraftM} (o : NameOk b.name) : Shp 5 (craftD b) := shp_tup fun d hd => by
  simp only [List.mem_cons, List.not_mem_nil, or_false] at hd
  rcases hd with rfl | rfl | rfl | rfl | rfl | rfl | rfl
  · exact shp_str _ o
  · exact shp_int _ _
  · exact (shp_box _).le (by decide)
  · exact (shp_box _).le (by decide)
  · exact shp_int _ _
  · exact shp_tup (shp_map shp_burn)
  · exact shp_tup (shp_map shp_sight)
theorem shp_site {b : SiteM} (o : NameOk b.name) : Shp 2 (siteD b) := shp_tup fun d hd => by
  simp only [List.mem_cons, List.not_mem_nil, or_false] at hd
  rcases hd with rfl | rfl
  · exact shp_str _ o
  · exact shp_ints _
theorem shp_body (b : BodyM) : Shp 2 (bodyD b) := shp_tup fun d hd => by
  simp only [List.mem_cons, List.not_mem_nil, or_false] at hd
  rcases hd with rfl | rfl | rfl
  · exact shp_int _ _
  · exact shp_int _ _
  · exact shp_ints _
theorem shp_cont {b : ContM} (w : WF b) : Shp 7 (contD b) := shp_tup fun d hd => by
  simp only [List.mem_cons, List.not_mem_nil, or_false] at hd
  rcases hd with rfl | rfl | rfl | rfl | rfl
  · exact (shp_body _).le (by decide)
  · exact shp_int _ _
  · exact shp_int _ _
  · exact shp_tup (shp_mapM fun x hx => shp_craft (w.cw x hx).ok.name)
  · exact (shp_tup (shp_mapM fun x hx => shp_site (w.sn x hx))).le (by decide)
theorem shaped_cont {b : ContM} (w : WF b) : SeqAt.shaped (contD b) = true := by
  obtain ⟨h1, h2⟩ := shp_cont w
  unfold SeqAt.shaped
  rw [h1, decide_eq_true (Nat.le_trans h2 (by decide))]
  rfl
end Ka
/-! A def that may be called by its name, with its promise; short words for the walks. -/
namespace Ka
open PySem PySem.Spec PyProof.Rows L2
structure Kal (P : Program) (w : World) (K : PySem.W.Frag) (mg : Str → Option Value) (base : Heap) (CX : CXT) (k : Nat) (x : Str) (sp : Sp) (dvs : List V) : Prop where
  ex : ∃ (f : Addr) (fd : FuncData) (ps : List Str) (ds : List Value), FnOk P w K mg base CX k f fd ps sp ∧ mg x = some (.ref f) ∧ PySem.W.keepIn K (.ref f) = true ∧ Binds K fd ps ds ∧ Vals dvs ds
/-- a class that may be made by its name; sp its __init__'s promise -/
structure Mek (P : Program) (w : World) (K : PySem.W.Frag) (mg : Str → Option Value) (base : Heap) (k : Nat) (x : Str) (C : Addr) (sp : Sp) (dvs : List V) : Prop where
  ex : ∃ (f : Addr) (fd : FuncData) (ps : List Str) (ds : List Value), Mk K C f ∧ FnOk P w K mg base CX0 k f fd ps sp ∧ mg x = some (.ref C) ∧ Binds K fd ps ds ∧ Vals dvs ds
section
variable {P : Program} {w : World} {K : PySem.W.Frag} {mg : Str → Option Value} {base : Heap}
/-- a def that raises nothing -/
theorem kal0 {x : Str} {st : Stmt} {f : Addr} {N ps : List Str} {k : Nat} {sp : Sp} (F : ∃ fd, FunD K x x (defArgs st) (defBody st) (defScope st) [] [] f fd) (g : mg x = some (.ref f)) (S : FnScope N ps (defScope st))
    (hb : ∀ (kV doc pm : Value) (an : Option Addr) (cdv ct : Value) (us : List Value), us.length = ps.length → bindArgs (PySem.W.fnOf x x (defArgs st) (defBody st) (defScope st) .none kV doc pm an cdv ct) ⟨us, []⟩ = pure (ps.zip us))
    (len : ∀ vs H Q E, sp vs H Q E → vs.length = ps.length)
    (hbody : ∀ (cdv : Value) (A : Around) (outer : List Env) (s : Shared) (H : Hp) (vs : List V) (Q : VK) (E : XK), Room k (A.deeper (envOfC x (defScope st) s.heap.objs.size f cdv)) → sp vs H Q E →
      ∃ t, PSs (cxOf CX0 P w K mg base N x (defScope st) f cdv A outer s H E).nox (defBody st) t ∧ t { nx := fun _ H' => Q .non H', rt := Q } (start N vs) H) : Kal P w K mg base CX0 (k + 1) x sp [] := by
  obtain ⟨fd, F⟩ := F
  refine ⟨f, fd, ps, [], F.ok S len fun cdv A outer s H vs Q E hr h => ?_, g, F.kp, F.bindsN hb, .nil⟩
  obtain ⟨t, h1, h2⟩ := hbody cdv A outer s H vs Q E hr h
  exact ⟨t, h1.nox, h2⟩
/-- a def that may raise -/
theorem kalX {x : Str} {st : Stmt} {f : Addr} {N ps : List Str} {k : Nat} {sp : Sp} (F : ∃ fd, FunD K x x (defArgs st) (defBody st) (defScope st) [] [] f fd) (g : mg x = some (.ref f)) (S : FnScope N ps (defScope st))
    (hb : ∀ (kV doc pm : Value) (an : Option Addr) (cdv ct : Value) (us : List Value), us.length = ps.length → bindArgs (PySem.W.fnOf x x (defArgs st) (defBody st) (defScope st) .none kV doc pm an cdv ct) ⟨us, []⟩ = pure (ps.zip us))
    (len : ∀ vs H Q E, sp vs H Q E → vs.length = ps.length)
    (hbody : ∀ (cdv : Value) (A : Around) (outer : List Env) (s : Shared) (H : Hp) (vs : List V) (Q : VK) (E : XK), Room k (A.deeper (envOfC x (defScope st) s.heap.objs.size f cdv)) → sp vs H Q E →
      ∃ t, PSs (cxOf (L2.CX P w) P w K mg base N x (defScope st) f cdv A outer s H E) (defBody st) t ∧ t { nx := fun _ H' => Q .non H', rt := Q } (start N vs) H) : Kal P w K mg base (L2.CX P w) (k + 1) x sp [] := by
  obtain ⟨fd, F⟩ := F
  exact ⟨f, fd, ps, [], F.ok S len fun cdv A outer s H vs Q E hr h => hbody cdv A outer s H vs Q E hr h, g, F.kp, F.bindsN hb, .nil⟩
/-- an __init__ that raises nothing, without defaults -/
theorem mek0 {x q : Str} {st : Stmt} {f C : Addr} {N ps : List Str} {k : Nat} {sp : Sp} (F : ∃ fd, FunD K "__init__" q (defArgs st) (defBody st) (defScope st) [] [] f fd) (M : Mk K C f) (g : mg x = some (.ref C)) (S : FnScope N ps (defScope st))
    (hb : ∀ (kV doc pm : Value) (an : Option Addr) (cdv ct : Value) (us : List Value), us.length = ps.length → bindArgs (PySem.W.fnOf "__init__" q (defArgs st) (defBody st) (defScope st) .none kV doc pm an cdv ct) ⟨us, []⟩ = pure (ps.zip us))
    (len : ∀ vs H Q E, sp vs H Q E → vs.length = ps.length)
    (hbody : ∀ (cdv : Value) (A : Around) (outer : List Env) (s : Shared) (H : Hp) (vs : List V) (Q : VK) (E : XK), Room k (A.deeper (envOfC q (defScope st) s.heap.objs.size f cdv)) → sp vs H Q E →
      ∃ t, PSs (cxOf CX0 P w K mg base N q (defScope st) f cdv A outer s H E).nox (defBody st) t ∧ t { nx := fun _ H' => Q .non H', rt := Q } (start N vs) H) : Mek P w K mg base (k + 1) x C sp [] := by
  obtain ⟨fd, F⟩ := F
  refine ⟨f, fd, ps, [], M, F.ok S len fun cdv A outer s H vs Q E hr h => ?_, g, F.bindsN hb, .nil⟩
  obtain ⟨t, h1, h2⟩ := hbody cdv A outer s H vs Q E hr h
  exact ⟨t, h1.nox, h2⟩
/-- an __init__ with defaults: n values are given, the defaults behind the first j fill up -/
theorem mekD {x q : Str} {st : Stmt} {f C : Addr} {N ps : List Str} {k : Nat} {sp : Sp} {dvs : List V} (n j : Nat) (hd : dvs ≠ []) (hn : n + (dvs.length - j) = ps.length) (F : ∃ fd, FunD K "__init__" q (defArgs st) (defBody st) (defScope st) dvs [] f fd) (M : Mk K C f) (g : mg x = some (.ref C)) (S : FnScope N ps (defScope st))
    (hb : ∀ (T : Addr) (kV doc pm : Value) (an : Option Addr) (cdv ct : Value) (us its : List Value), us.length = n → its.length = dvs.length →
      ∃ k, bindArgs (PySem.W.fnOf "__init__" q (defArgs st) (defBody st) (defScope st) (.ref T) kV doc pm an cdv ct) ⟨us, []⟩ = seqItems? (.ref T) >>= k ∧ k (some its.toArray) = pure (ps.zip (us ++ its.drop j)))
    (len : ∀ vs H Q E, sp vs H Q E → vs.length = ps.length)
    (hbody : ∀ (cdv : Value) (A : Around) (outer : List Env) (s : Shared) (H : Hp) (vs : List V) (Q : VK) (E : XK), Room k (A.deeper (envOfC q (defScope st) s.heap.objs.size f cdv)) → sp vs H Q E →
      ∃ t, PSs (cxOf CX0 P w K mg base N q (defScope st) f cdv A outer s H E).nox (defBody st) t ∧ t { nx := fun _ H' => Q .non H', rt := Q } (start N vs) H) : Mek P w K mg base (k + 1) x C sp (dvs.drop j) := by
  obtain ⟨fd, F⟩ := F
  obtain ⟨ds, h1, h2⟩ := F.binds1 n j hd hn hb
  refine ⟨f, fd, ps, ds, M, F.ok S len fun cdv A outer s H vs Q E hr h => ?_, g, h2, h1⟩
  obtain ⟨t, h1, h2⟩ := hbody cdv A outer s H vs Q E hr h
  exact ⟨t, h1.nox, h2⟩
theorem Kal.imp {CX : CXT} {k : Nat} {x : Str} {sp sp' : Sp} (c : Kal P w K mg base CX k x sp []) (h : ∀ vs H Q E, sp' vs H Q E → sp vs H Q E) : Kal P w K mg base CX k x sp' [] := by
  obtain ⟨f, fd, ps, ds, F, g, kp, b, d⟩ := c.ex
  exact ⟨f, fd, ps, ds, F.imp h, g, kp, b, d⟩
end
section
variable {X : Cx} {k j : Nat} {C : Addr} {x : Str} {sp : Sp} {dvs : List V} {p pos : Pos} {e : Expr} {es : List Expr} {t : TA}
theorem pe_k (c : Kal X.prog X.w X.K X.mg X.base CX0 k x sp dvs) (hr : Room j X.A) (hk : k ≤ j) (ha : PA X (e :: es) t) (hg : Gl X x := by rfl)
    (hdb : (x == ("__debug__" : Str)) = false := by decide) (he : starEach (e :: es) X.env = (false, eval e X.env) :: starEach es X.env := by rfl) (hpl : (backTo pos (starEach es X.env)).any (·.1) = false := by rfl) :
    PE X (.Call (.Name x p) (e :: es) [] pos) (tCall sp dvs E0 t) := by
  obtain ⟨f, fd, ps, ds, F, g, kp, b, d⟩ := c.ex
  exact pe_call F (hr.mono hk) hg g kp b d pass0 ha hdb he hpl
theorem pe_kx {E : XK} (c : Kal X.prog X.w X.K X.mg X.base (L2.CX X.prog X.w) k x sp dvs) (hr : Room j X.A) (hk : k ≤ j) (hx : Passes (L2.CX X.prog X.w) X E) (ha : PA X (e :: es) t) (hg : Gl X x := by rfl)
    (hdb : (x == ("__debug__" : Str)) = false := by decide) (he : starEach (e :: es) X.env = (false, eval e X.env) :: starEach es X.env := by rfl) (hpl : (backTo pos (starEach es X.env)).any (·.1) = false := by rfl) :
    PE X (.Call (.Name x p) (e :: es) [] pos) (tCall sp dvs E t) := by
  obtain ⟨f, fd, ps, ds, F, g, kp, b, d⟩ := c.ex
  exact pe_call F (hr.mono hk) hg g kp b d hx ha hdb he hpl
theorem pe_m (c : Mek X.prog X.w X.K X.mg X.base k x C sp dvs) (hr : Room j X.A) (hk : k + 1 ≤ j) (ha : PA X (e :: es) t) (hg : Gl X x := by rfl)
    (hdb : (x == ("__debug__" : Str)) = false := by decide) (he : starEach (e :: es) X.env = (false, eval e X.env) :: starEach es X.env := by rfl) (hpl : (backTo pos (starEach es X.env)).any (·.1) = false := by rfl) :
    PE X (.Call (.Name x p) (e :: es) [] pos) (tMake C sp dvs E0 t) := by
  obtain ⟨f, fd, ps, ds, M, F, g, b, d⟩ := c.ex
  exact pe_make M F (hr.mono hk) hg g b d pass0 ha hdb he hpl
end
theorem relI (i : Int) (t : Tok) : RelV (.int i) (.int i t) := ⟨t, rfl⟩
/-- a comparison whose answer is known -/
theorem tkT {c : Prop} [Decidable c] {R : Bool → Prop} (h : c) (q : R true) : ∃ k, V.bl (decide c) = V.bl k ∧ R k := ⟨_, rfl, by rw [decide_eq_true h]; exact q⟩
theorem tkF {c : Prop} [Decidable c] {R : Bool → Prop} (h : ¬ c) (q : R false) : ∃ k, V.bl (decide c) = V.bl k ∧ R k := ⟨_, rfl, by rw [decide_eq_false h]; exact q⟩
theorem tkNT {c : Prop} [Decidable c] {R : Bool → Prop} (h : c) (q : R false) : ∃ k, V.bl (!decide c) = V.bl k ∧ R k := ⟨_, rfl, by rw [decide_eq_true h]; exact q⟩
theorem tkNF {c : Prop} [Decidable c] {R : Bool → Prop} (h : ¬ c) (q : R true) : ∃ k, V.bl (!decide c) = V.bl k ∧ R k := ⟨_, rfl, by rw [decide_eq_false h]; exact q⟩
/-- a comparison whose answer is open -/
theorem tk2 {c : Prop} [Decidable c] {R : Bool → Prop} (h1 : c → R true) (h2 : ¬ c → R false) : ∃ k, V.bl (decide c) = V.bl k ∧ R k := by
  by_cases h : c
  · exact tkT h (h1 h)
  · exact tkF h (h2 h)
/-- for c in a text -/
theorem for_text {z : Str} {g : TG} {tb : TS} {D : Ends} {σ : L2.St} {H : Hp} (Pv : Nat → L2.St → Hp → Prop) (h0 : Pv 0 σ H)
    (hs : ∀ i c σ H, z.cps[i]? = some c → Pv i σ H → g (.str ⟨#[c]⟩) σ H fun σ2 H2 => tb { D with nx := Pv (i + 1), ct := Pv (i + 1), bk := D.nx } σ2 H2) (hd : ∀ σ H, Pv z.cps.size σ H → D.nx σ H) :
    ∃ W : Nat → Nat → L2.St → Hp → Prop, (∃ m, W 0 m σ H) ∧ ∀ i m σ H, W i m σ H →
      ((Its z).stop i H ∧ D.nx σ H) ∨ ((Its z).go i H ∧ ∃ N : L2.St → Hp → Prop, (∀ σ' H', N σ' H' → ∃ m', m' < m ∧ W (i + 1) m' σ' H') ∧ ∀ x H', (Its z).yld i H x H' → g x σ H' fun σ2 H2 => tb { D with nx := N, ct := N, bk := D.nx } σ2 H2) := by
  refine ⟨fun i m σ H => m = z.cps.size - i ∧ i ≤ z.cps.size ∧ Pv i σ H, ⟨z.cps.size, by simp, Nat.zero_le _, h0⟩, ?_⟩
  rintro i m σ H ⟨rfl, hi, p⟩
  by_cases hlt : i < z.cps.size
  · refine .inr ⟨hlt, Pv (i + 1), fun σ' H' q => ⟨z.cps.size - (i + 1), by omega, rfl, hlt, q⟩, fun x H' y => ?_⟩
    obtain ⟨rfl, c, hc, rfl⟩ := y
    exact hs i c σ _ hc p
  · have e : i = z.cps.size := by omega
    subst e
    exact .inl ⟨Nat.le_refl _, hd σ H p⟩
end Ka
/-! check, is_name, is_tick, is_box. -/
namespace Ka
open PySem PySem.Spec PyProof.Rows L2
section
variable {P : Program} {w : World} {K : PySem.W.Frag} {mg : Str → Option Value} {base : Heap}
/-! ### check(good, name), good -/
def spCheck : Sp := fun vs H Q _ => ∃ n : Str, vs = [.bl true, .str n] ∧ Q .non H
theorem sc_check : FnScope ["good", "name"] ["good", "name"] (defScope s_check) := ⟨rfl, rfl, rfl, by decide +kernel, rfl, by decide +kernel, by decide +kernel⟩
theorem k_check (T : Txt w K mg) : Kal P w K mg base CX0 1 "check" spCheck [] := by
  refine kal0 T.f_check T.g_check sc_check (fun _ _ _ _ _ _ us hl => match us, hl with | [_, _], _ => rfl) (fun vs H Q E h => ?_) (fun cdv A outer s H vs Q E hr h => ?_)
  · obtain ⟨n, rfl, _⟩ := h
    rfl
  · obtain ⟨n, rfl, k⟩ := h
    refine ⟨_, pss_one (ps_if (pt_not (pt_val (pv 0))) (pss_one ps_never) pss_nil), ?_⟩
    exact ⟨_, rfl, _, rfl, iteF k⟩
/-! ### is_tick(number) -/
def spTick : Sp := fun vs H Q _ => ∃ n : Int, vs = [.int n] ∧ Q (.bl (decide (0 ≤ n) && decide (n ≤ 100000))) H
theorem sc_tick : FnScope ["number"] ["number"] (defScope s_is_tick) := ⟨rfl, rfl, rfl, by decide +kernel, rfl, by decide +kernel, by decide +kernel⟩
theorem k_tick (T : Txt w K mg) : Kal P w K mg base CX0 1 "is_tick" spTick [] := by
  refine kal0 T.f_is_tick T.g_is_tick sc_tick (fun _ _ _ _ _ _ us hl => match us, hl with | [_], _ => rfl) (fun vs H Q E h => ?_) (fun cdv A outer s H vs Q E hr h => ?_)
  · obtain ⟨n, rfl, _⟩ := h
    rfl
  · obtain ⟨n, rfl, k⟩ := h
    obtain ⟨tk, g⟩ := T.i_LAST_TICK
    refine ⟨_, pss_one (ps_ret (pe_chain op_le op_le pe_int (pv 0) (pe_glob rfl g (relI _ _)))), ?_⟩
    refine ⟨_, rfl, _, _, rfl, rfl, _, rfl, ?_⟩
    by_cases c : (0 : Int) ≤ n
    · rw [decide_eq_true c] at k ⊢
      exact iteT ⟨_, _, rfl, rfl, k⟩
    · rw [decide_eq_false c] at k ⊢
      exact iteF k
/-! ### is_name(text), a good one -/
def spName : Sp := fun vs H Q _ => ∃ s : Str, vs = [.str s] ∧ NameOk s ∧ Q (.bl true) H
theorem sc_name : FnScope ["text", "char"] ["text"] (defScope s_is_name) := ⟨rfl, rfl, rfl, by decide +kernel, rfl, by decide +kernel, by decide +kernel⟩
theorem k_name (T : Txt w K mg) : Kal P w K mg base CX0 1 "is_name" spName [] := by
  refine kal0 T.f_is_name T.g_is_name sc_name (fun _ _ _ _ _ _ us hl => match us, hl with | [_], _ => rfl) (fun vs H Q E h => ?_) (fun cdv A outer s H vs Q E hr h => ?_)
  · obtain ⟨n, rfl, _⟩ := h
    rfl
  · obtain ⟨z, rfl, ⟨n1, n2, n3⟩, k⟩ := h
    refine ⟨_, pss_cons (ps_if (pt_not (pt_chain op_le op_le pe_int (pe_callB call_len_str (by rfl) T.n_len PySem.boot_len (pa_cons (pv 0) pa_nil)) pe_int)) (pss_one (ps_ret pe_bl)) pss_nil)
      (pss_cons (ps_for PassesOwn.never rfl (pi_str (pv 0)) (pg_name (i := 1) sc_name.nd rfl (Or.inl rfl)) (pss_one (ps_if (pt_cmpR op_notIn_sign (pv 1) pe_str rfl) (pss_one (ps_ret pe_bl)) pss_nil)))
      (pss_one (ps_ret pe_bl))), ?_⟩
    have l1 : (1 : Int) ≤ (z.length : Int) := by omega
    have l2 : (z.length : Int) ≤ 12 := by omega
    refine ⟨_, rfl, _, rfl, Nat.le_trans n2 (by decide), _, _, rfl, rfl, tkT l1 (iteT ⟨_, _, rfl, rfl, tkT l2 (iteF ?_)⟩)⟩
    refine ⟨_, rfl, z, rfl, for_text (fun i σ H' => ∃ v : Option V, σ = [some (.str z), v] ∧ H' = H) ⟨none, rfl, rfl⟩ ?_ ?_⟩
    · rintro i c σ H' hi ⟨v, rfl, rfl⟩
      have hc : c ∈ alphabet.cps.toList := n3 c (by
        rw [← Array.getElem?_toList] at hi
        exact List.mem_of_getElem? hi)
      exact ⟨_, rfl, c, _, rfl, rfl, tkNT hc (iteF ⟨_, rfl, rfl⟩)⟩
    · rintro σ H' ⟨v, rfl, rfl⟩
      exact k
/-! ### is_box(box, most), a good one -/
def spBox (K : PySem.W.Frag) : Sp := fun vs H Q _ => ∃ (v : V) (b : Box) (m : Int), vs = [v, .int m] ∧ BoxAt K H v b ∧ BoxOk m b ∧ Q (.bl true) H
theorem sc_box : FnScope ["box", "most", "low", "high"] ["box", "most"] (defScope s_is_box) := ⟨rfl, rfl, rfl, by decide +kernel, rfl, by decide +kernel, by decide +kernel⟩
theorem k_box (T : Txt w K mg) : Kal P w K mg base CX0 1 "is_box" (spBox K) [] := by
  refine kal0 T.f_is_box T.g_is_box sc_box (fun _ _ _ _ _ _ us hl => match us, hl with | [_, _], _ => rfl) (fun vs H Q E h => ?_) (fun cdv A outer s H vs Q E hr h => ?_)
  · obtain ⟨v, b, m, rfl, _⟩ := h
    rfl
  · obtain ⟨v, b, m, rfl, ⟨p, vs, rfl, hp, hb⟩, ok, k⟩ := h
    refine ⟨_, pss_cons (ps_for PassesOwn.never rfl (pi_tup (pv 0)) (pg_tup rfl (pgs_cons (pg_name (i := 2) sc_box.nd rfl (Or.inl rfl)) (pgs_cons (pg_name (i := 3) sc_box.nd rfl (Or.inl rfl)) pgs_nil)))
        (pss_one (ps_if (pt_not (pt_chain3 op_le op_le op_le (pe_un un_neg (pv 1)) (pv 2) (pv 3) (pv 1))) (pss_one (ps_ret pe_bl)) pss_nil)))
      (pss_one (ps_ret pe_bl)), ?_⟩
    refine ⟨_, rfl, p, rfl, ⟨_, hp⟩, for_tup (K := K) (a := p) (xs := vs) (fun i σ H' => ∃ v1 v2 : Option V, σ = [some (.ref p), some (.int m), v1, v2] ∧ H' = H) ⟨none, none, rfl, rfl⟩ (fun i σ H' _ ⟨_, _, _, e⟩ => by rw [e]; exact hp) ?_ ?_⟩
    · rintro i y σ H' hi ⟨v1, v2, rfl, rfl⟩
      obtain ⟨q, hq, p', rfl, hp'⟩ := pd_get hb hi
      obtain ⟨o1, o2, o3⟩ := ok q (List.mem_of_getElem? hq)
      refine ⟨p', _, rfl, hp', rfl, _, _, rfl, _, _, rfl, rfl, ?_⟩
      exact ⟨_, rfl, _, rfl, _, rfl, _, _, rfl, rfl, tkT o1 (iteT ⟨_, rfl, _, _, rfl, rfl, tkT o2 (iteT ⟨_, rfl, _, _, rfl, rfl, tkT o3 (iteF ⟨_, _, rfl, rfl⟩)⟩)⟩)⟩
    · rintro σ H' ⟨v1, v2, rfl, rfl⟩
      exact k
end
end Ka
/-! The six classes: their __init__s, their making. -/
namespace Ka
open PySem PySem.Spec PyProof.Rows L2

/-! ### an instance that is being made -/
structure Ob (H0 H : Hp) (p C dx : Addr) (fs : List (Str × V)) (n : Nat) : Prop where
  same : Same H0 H
  at_ : H p = some (.ins C dx fs)
  len : fs.length ≤ n
theorem putF_len (f : Str) (v : V) : ∀ fs : List (Str × V), (putF f v fs).length ≤ fs.length + 1
  | [] => Nat.le_refl _
  | (g, x) :: r => by
    show (if g = f then (g, v) :: r else (g, x) :: putF f v r).length ≤ _
    have := putF_len f v r
    split
    · simp only [List.length_cons]
      omega
    · simp only [List.length_cons]
      omega
theorem lkS {f : Str} {v : V} {fs : List (Str × V)} : (putF f v fs).lookup f = some v := by rw [lookup_putF, if_pos rfl]
theorem lkN {f g : Str} {u v : V} {fs : List (Str × V)} (h : ¬ g = f) (e : fs.lookup g = some v) : (putF f u fs).lookup g = some v := by
  rw [lookup_putF, if_neg h]
  exact e
section
variable {K : PySem.W.Frag} {H0 H : Hp} {p C dx : Addr} {fs : List (Str × V)} {n : Nat} {f : Str} {y v : V}
theorem storeT {a : Addr} {xs : List V} {o : HO} (hp : H p = some (.ins C dx fs)) (h : SqT K H a xs) : SqT K (upd H p o) a xs := by
  rcases h with (h | ⟨u, h⟩) | h
  · exact .inl (.inl (by rw [upd_ne (ne_of h hp (by intro z; cases z))]; exact h))
  · exact .inl (.inr ⟨u, by rw [upd_ne (ne_of h hp (by intro z; cases z))]; exact h⟩)
  · exact .inr h
/-- self.f = y -/
theorem stF (h0 : H0 p = Option.none) (o : Ob H0 H p C dx fs n) (hn : n < 1000) (c : Cls K C) (a : NoAttr K C f) {R : Hp → Prop} (k : ∀ H', Ob H0 H' p C dx (putF f y fs) (n + 1) → (∀ a xs, SqT K H a xs → SqT K H' a xs) → R H') :
    ∃ a C dx fs, V.ref p = V.ref a ∧ H a = some (HO.ins C dx fs) ∧ Cls K C ∧ NoAttr K C f ∧ fs.length < 1000 ∧ R (upd H a (.ins C dx (putF f y fs))) :=
  ⟨p, C, dx, fs, rfl, o.at_, c, a, Nat.lt_of_le_of_lt o.len hn, k _ ⟨Same.mut o.same h0, upd_same, Nat.le_trans (putF_len _ _ _) (Nat.succ_le_succ o.len)⟩ fun _ _ h => storeT o.at_ h⟩
theorem Ob.fld (o : Ob H0 H p C dx fs n) (c : Cls K C) (a : NoAttr K C f) (l : fs.lookup f = some v) : FldAt K H p f v := ⟨C, dx, fs, o.at_, c, a, l⟩
theorem Ob.keep (o : Ob H0 H p C dx fs n) : Keep H0 H := Keep.of o.same
theorem Ob.next {H' : Hp} (o : Ob H0 H p C dx fs n) (s : Same H H') : Ob H0 H' p C dx fs n := ⟨o.same.trans s, s _ _ o.at_, o.len⟩
/-- check(b, ..) -/
theorem chk {b : Bool} {m : Str} {R : Prop} (h : b = true) (q : R) : ∃ m' : Str, [V.bl b, V.str m] ++ [] = [V.bl true, V.str m'] ∧ R := ⟨m, by rw [h]; rfl, q⟩
theorem chkD {c : Prop} [Decidable c] {m : Str} {R : Prop} (h : c) (q : R) : ∃ m' : Str, [V.bl (decide c), V.str m] ++ [] = [V.bl true, V.str m'] ∧ R := chk (decide_eq_true h) q
theorem tkB {b : Bool} {R : Bool → Prop} (h : b = true) (q : R true) : ∃ k, V.bl b = V.bl k ∧ R k := ⟨_, rfl, by rw [h]; exact q⟩
theorem tickB {i : Int} (h : 0 ≤ i ∧ i ≤ 100000) : (decide (0 ≤ i) && decide (i ≤ 100000)) = true := by
  rw [decide_eq_true h.1, decide_eq_true h.2]
  rfl
end
/-- a list or a tuple of such -/
def SeqR {α : Type} (K : PySem.W.Frag) (H : Hp) (R : Hp → V → α → Prop) (v : V) (l : List α) : Prop := ∃ p vs, v = V.ref p ∧ (SqL K H p vs ∨ SqT K H p vs) ∧ Paired (R H) vs l
section
variable {α : Type} {K : PySem.W.Frag} {H H' : Hp} {R : Hp → V → α → Prop} {v : V} {l : List α}
theorem SeqR.same (m : Stays R) (s : Same H H') (h : SeqR K H R v l) : SeqR K H' R v l := by
  obtain ⟨p, vs, h1, h2, h3⟩ := h
  refine ⟨p, vs, h1, ?_, pd_mono (fun a b r => m _ _ _ _ (Keep.of s) r) h3⟩
  rcases h2 with h2 | h2
  · exact .inl (sameL s h2)
  · exact .inr (keepT (Keep.of s) h2)
theorem RowAt.seq (h : RowAt K H R v l) : SeqR K H R v l := by
  obtain ⟨p, vs, h1, h2, h3⟩ := h
  exact ⟨p, vs, h1, .inr h2, h3⟩
end
theorem seq_same {K : PySem.W.Frag} {H H' : Hp} {p : Addr} {vs : List V} (s : Same H H') (h : SqL K H p vs ∨ SqT K H p vs) : SqL K H' p vs ∨ SqT K H' p vs := by
  rcases h with h | h
  · exact .inl (sameL s h)
  · exact .inr (keepT (Keep.of s) h)
/-- what stands at a new instance -/
theorem new_ob {H : Hp} {x dx C : Addr} (nx : H x = Option.none) (nd : H dx = Option.none) : Ob H (upd (upd H dx (.own x)) x (.ins C dx [])) x C dx [] 0 :=
  ⟨fun b o e => by
    rw [upd_ne (ne_of_none e nx), upd_ne (ne_of_none e nd)]
    exact e, upd_same, Nat.le_refl _⟩

structure BodyOk (b : BodyM) : Prop where
  mu : 1 ≤ b.mu ∧ b.mu ≤ 10 ^ 30
  ob : 0 ≤ b.obl ∧ b.obl ≤ 10 ^ 30
  turn : ∃ x y n : Int, b.turn = [x, y, n] ∧ (1 ≤ n ∧ n ≤ 10 ^ 6) ∧ (-(2 ^ 64) < x ∧ x < 2 ^ 64) ∧ (-(2 ^ 64) < y ∧ y < 2 ^ 64) ∧ x * x + y * y = n * n
structure BurnOk (b : BurnM) : Prop where
  bt : 0 ≤ b.b ∧ b.b ≤ 100000
  et : 0 ≤ b.e ∧ b.e ≤ 100000
  lt : b.b < b.e
  px : BoxOk 1000000000000 b.push
structure SightOk (b : SightM) : Prop where
  tt : 0 ≤ b.t ∧ b.t ≤ 100000
  px : BoxOk 1000000000000000 b.place
structure SiteOk (b : SiteM) : Prop where
  name : NameOk b.name
  some_ : ∃ n ∈ b.place, n ≠ 0
  all_ : ∀ n ∈ b.place, -1000000000000000 ≤ n ∧ n ≤ 1000000000000000

section
variable {P : Program} {w : World} {K : PySem.W.Frag} {mg : Str → Option Value} {base : Heap}
/-! ### Body -/
def spBody (K : PySem.W.Frag) : Sp := fun vs H Q _ => ∃ (H0 : Hp) (p dx : Addr) (tv : V) (b : BodyM), vs = [.ref p, .int b.mu, .int b.obl, tv] ∧ H0 p = Option.none ∧ Ob H0 H p (He.ga K "Body") dx [] 0 ∧ IntsAt K H0 tv b.turn ∧ BodyOk b ∧
  ∀ H', Same H0 H' → BodyP K H' p b → Q .non H'
theorem sc_Body : FnScope ["self", "mu", "oblateness", "turn", "a", "b", "n"] ["self", "mu", "oblateness", "turn"] (defScope s_Body_init) := ⟨rfl, rfl, rfl, by decide +kernel, rfl, by decide +kernel, by decide +kernel⟩
theorem k_Body (T : Txt w K mg) : Mek P w K mg base 2 "Body" (He.ga K "Body") (spBody K) [] := by
  have c1 := k_check (P := P) (base := base) T
  refine mek0 T.f_Body_init T.m_Body T.g_Body sc_Body (fun _ _ _ _ _ _ us hl => match us, hl with | [_, _, _, _], _ => rfl) (fun vs H Q E h => ?_) (fun cdv A outer s H vs Q E hr h => ?_)
  · obtain ⟨H0, p, dx, tv, b, rfl, _⟩ := h
    rfl
  · obtain ⟨H0, p, dx, tv, ⟨mu, obl, tn⟩, rfl, h0, o, ht, ⟨m1, o1, x, y, n, rfl, n1, x1, y1, e1⟩, k⟩ := h
    obtain ⟨q, rfl, hq⟩ := ints_stays _ _ _ _ o.keep ht
    refine ⟨_, pss_cons (ps_expr (pe_k c1 hr (by decide) (pa_cons (pe_chain op_le op_le pe_int (pv 1) (pe_op op_pow pe_int pe_int)) (pa_cons pe_str pa_nil))))
      (pss_cons (ps_expr (pe_k c1 hr (by decide) (pa_cons (pe_chain op_le op_le pe_int (pv 2) (pe_op op_pow pe_int pe_int)) (pa_cons pe_str pa_nil))))
      (pss_cons (ps_asg (pv 3) (pg_tup rfl (pgs_cons (pg_name (i := 4) sc_Body.nd rfl (Or.inl rfl)) (pgs_cons (pg_name (i := 5) sc_Body.nd rfl (Or.inl rfl)) (pgs_cons (pg_name (i := 6) sc_Body.nd rfl (Or.inl rfl)) pgs_nil)))))
      (pss_cons (ps_expr (pe_k c1 hr (by decide) (pa_cons (pe_and (pe_chain op_le op_le pe_int (pv 6) (pe_op op_pow pe_int pe_int))
          (pe_one (pe_cmpR op_eq (pe_op op_add (pe_op op_mul (pv 4) (pv 4)) (pe_op op_mul (pv 5) (pv 5))) (pe_op op_mul (pv 6) (pv 6)) (nomark _)))) (pa_cons pe_str pa_nil))))
      (pss_cons (ps_fld (pv 0) (pv 1) rfl) (pss_cons (ps_fld (pv 0) (pv 2) rfl) (pss_one (ps_fld (pv 0) (pv 3) rfl))))))), ?_⟩
    refine ⟨_, rfl, _, _, rfl, rfl, tkT m1.1 (iteT ⟨_, _, rfl, rfl, ⟨by decide, by decide, by decide⟩, _, _, rfl, rfl, chkD m1.2 ?_⟩)⟩
    refine ⟨_, rfl, _, _, rfl, rfl, tkT o1.1 (iteT ⟨_, _, rfl, rfl, ⟨by decide, by decide, by decide⟩, _, _, rfl, rfl, chkD o1.2 ?_⟩)⟩
    refine ⟨_, rfl, q, _, rfl, hq, rfl, _, _, rfl, _, _, rfl, _, _, rfl, rfl, ?_⟩
    refine ⟨_, rfl, _, _, rfl, rfl, tkT n1.1 (iteT ⟨_, _, rfl, rfl, ⟨by decide, by decide, by decide⟩, _, _, rfl, rfl, tkT n1.2 (iteT ?_)⟩)⟩
    refine ⟨_, rfl, _, rfl, _, _, rfl, rfl, .inl x1, _, rfl, _, rfl, _, _, rfl, rfl, .inl y1, _, _, rfl, rfl, _, rfl, _, rfl, _, _, rfl, rfl, .inl (by omega), rfl, chkD (congrArg V.int e1) ?_⟩
    refine ⟨_, rfl, _, rfl, stF h0 o (by decide) T.c_Body T.a_Body_mu fun Ha oa _ => ?_⟩
    refine ⟨_, rfl, _, rfl, stF h0 oa (by decide) T.c_Body T.a_Body_oblateness fun Hb ob _ => ?_⟩
    refine ⟨_, rfl, _, rfl, stF h0 ob (by decide) T.c_Body T.a_Body_turn fun Hc oc _ => ?_⟩
    exact k _ oc.same ⟨oc.fld T.c_Body T.a_Body_mu (lkN (by decide +kernel) (lkN (by decide +kernel) lkS)), oc.fld T.c_Body T.a_Body_oblateness (lkN (by decide +kernel) lkS), _, oc.fld T.c_Body T.a_Body_turn lkS, ints_stays _ _ _ _ oc.keep ht⟩
theorem mk_Body {H : Hp} {Q : VK} {E : XK} {tv : V} {b : BodyM} (ht : IntsAt K H tv b.turn) (ok : BodyOk b) (k : ∀ x H', Same H H' → BodyP K H' x b → Q (.ref x) H') :
    ∀ x dx, H x = Option.none → H dx = Option.none → dx ≠ x → spBody K (.ref x :: ([.int b.mu, .int b.obl, tv] ++ [])) (upd (upd H dx (.own x)) x (.ins (He.ga K "Body") dx [])) (fun v H2 => v = .non ∧ Q (.ref x) H2) E :=
  fun x dx nx nd _ => ⟨H, x, dx, tv, b, rfl, nx, new_ob nx nd, ht, ok, fun H' s hb => ⟨rfl, k x H' s hb⟩⟩
/-! ### Burn -/
def spBurn (K : PySem.W.Frag) : Sp := fun vs H Q _ => ∃ (H0 : Hp) (p dx : Addr) (bv : V) (b : BurnM), vs = [.ref p, .int b.b, .int b.e, bv] ∧ H0 p = Option.none ∧ Ob H0 H p (He.ga K "Burn") dx [] 0 ∧ BoxAt K H0 bv b.push ∧ BurnOk b ∧
  ∀ H', Same H0 H' → BurnP K H' p b → Q .non H'
theorem sc_Burn : FnScope ["self", "begin", "end", "push"] ["self", "begin", "end", "push"] (defScope s_Burn_init) := ⟨rfl, rfl, rfl, by decide +kernel, rfl, by decide +kernel, by decide +kernel⟩
theorem k_Burn (T : Txt w K mg) : Mek P w K mg base 2 "Burn" (He.ga K "Burn") (spBurn K) [] := by
  have c1 := k_check (P := P) (base := base) T
  have c2 := k_tick (P := P) (base := base) T
  have c3 := k_box (P := P) (base := base) T
  refine mek0 T.f_Burn_init T.m_Burn T.g_Burn sc_Burn (fun _ _ _ _ _ _ us hl => match us, hl with | [_, _, _, _], _ => rfl) (fun vs H Q E h => ?_) (fun cdv A outer s H vs Q E hr h => ?_)
  · obtain ⟨H0, p, dx, tv, b, rfl, _⟩ := h
    rfl
  · obtain ⟨H0, p, dx, bv, b, rfl, h0, o, ht, ok, k⟩ := h
    obtain ⟨tk, gM⟩ := T.i_MOST_DRIFT
    refine ⟨_, pss_cons (ps_expr (pe_k c1 hr (by decide) (pa_cons (pe_k c2 hr (by decide) (pa_cons (pv 1) pa_nil)) (pa_cons pe_str pa_nil))))
      (pss_cons (ps_expr (pe_k c1 hr (by decide) (pa_cons (pe_and (pe_k c2 hr (by decide) (pa_cons (pv 2) pa_nil)) (pe_one (pe_cmpR op_lt (pv 1) (pv 2) (nomark _)))) (pa_cons pe_str pa_nil))))
      (pss_cons (ps_expr (pe_k c1 hr (by decide) (pa_cons (pe_k c3 hr (by decide) (pa_cons (pv 3) (pa_cons (pe_glob rfl gM (relI _ _)) pa_nil))) (pa_cons pe_str pa_nil))))
      (pss_cons (ps_fld (pv 0) (pv 1) rfl) (pss_cons (ps_fld (pv 0) (pv 2) rfl) (pss_one (ps_fld (pv 0) (pv 3) rfl)))))), ?_⟩
    refine ⟨_, rfl, _, rfl, chk (tickB ok.bt) ?_⟩
    refine ⟨_, rfl, _, rfl, tkB (tickB ok.et) (iteT ⟨_, rfl, _, rfl, _, _, rfl, rfl, chkD ok.lt ?_⟩)⟩
    refine ⟨_, rfl, bv, b.push, _, rfl, box_stays _ _ _ _ o.keep ht, ok.px, chk rfl ?_⟩
    refine ⟨_, rfl, _, rfl, stF h0 o (by decide) T.c_Burn T.a_Burn_begin fun Ha oa _ => ?_⟩
    refine ⟨_, rfl, _, rfl, stF h0 oa (by decide) T.c_Burn T.a_Burn_end fun Hb ob _ => ?_⟩
    refine ⟨_, rfl, _, rfl, stF h0 ob (by decide) T.c_Burn T.a_Burn_push fun Hc oc _ => ?_⟩
    exact k _ oc.same ⟨oc.fld T.c_Burn T.a_Burn_begin (lkN (by decide +kernel) (lkN (by decide +kernel) lkS)), oc.fld T.c_Burn T.a_Burn_end (lkN (by decide +kernel) lkS), _, oc.fld T.c_Burn T.a_Burn_push lkS, box_stays _ _ _ _ oc.keep ht⟩
theorem mk_Burn {H : Hp} {Q : VK} {E : XK} {bv : V} {b : BurnM} (ht : BoxAt K H bv b.push) (ok : BurnOk b) (k : ∀ x H', Same H H' → BurnP K H' x b → Q (.ref x) H') :
    ∀ x dx, H x = Option.none → H dx = Option.none → dx ≠ x → spBurn K (.ref x :: ([.int b.b, .int b.e, bv] ++ [])) (upd (upd H dx (.own x)) x (.ins (He.ga K "Burn") dx [])) (fun v H2 => v = .non ∧ Q (.ref x) H2) E :=
  fun x dx nx nd _ => ⟨H, x, dx, bv, b, rfl, nx, new_ob nx nd, ht, ok, fun H' s hb => ⟨rfl, k x H' s hb⟩⟩
/-! ### Sighting -/
def spSight (K : PySem.W.Frag) : Sp := fun vs H Q _ => ∃ (H0 : Hp) (p dx : Addr) (bv : V) (b : SightM), vs = [.ref p, .int b.t, bv] ∧ H0 p = Option.none ∧ Ob H0 H p (He.ga K "Sighting") dx [] 0 ∧ BoxAt K H0 bv b.place ∧ SightOk b ∧
  ∀ H', Same H0 H' → SightP K H' p b → Q .non H'
theorem sc_Sight : FnScope ["self", "at", "place"] ["self", "at", "place"] (defScope s_Sighting_init) := ⟨rfl, rfl, rfl, by decide +kernel, rfl, by decide +kernel, by decide +kernel⟩
theorem k_Sight (T : Txt w K mg) : Mek P w K mg base 2 "Sighting" (He.ga K "Sighting") (spSight K) [] := by
  have c1 := k_check (P := P) (base := base) T
  have c2 := k_tick (P := P) (base := base) T
  have c3 := k_box (P := P) (base := base) T
  refine mek0 T.f_Sighting_init T.m_Sighting T.g_Sighting sc_Sight (fun _ _ _ _ _ _ us hl => match us, hl with | [_, _, _], _ => rfl) (fun vs H Q E h => ?_) (fun cdv A outer s H vs Q E hr h => ?_)
  · obtain ⟨H0, p, dx, tv, b, rfl, _⟩ := h
    rfl
  · obtain ⟨H0, p, dx, bv, b, rfl, h0, o, ht, ok, k⟩ := h
    obtain ⟨tk, gM⟩ := T.i_MOST
    refine ⟨_, pss_cons (ps_expr (pe_k c1 hr (by decide) (pa_cons (pe_k c2 hr (by decide) (pa_cons (pv 1) pa_nil)) (pa_cons pe_str pa_nil))))
      (pss_cons (ps_expr (pe_k c1 hr (by decide) (pa_cons (pe_k c3 hr (by decide) (pa_cons (pv 2) (pa_cons (pe_glob rfl gM (relI _ _)) pa_nil))) (pa_cons pe_str pa_nil))))
      (pss_cons (ps_fld (pv 0) (pv 1) rfl) (pss_one (ps_fld (pv 0) (pv 2) rfl)))), ?_⟩
    refine ⟨_, rfl, _, rfl, chk (tickB ok.tt) ?_⟩
    refine ⟨_, rfl, bv, b.place, _, rfl, box_stays _ _ _ _ o.keep ht, ok.px, chk rfl ?_⟩
    refine ⟨_, rfl, _, rfl, stF h0 o (by decide) T.c_Sighting T.a_Sighting_at fun Ha oa _ => ?_⟩
    refine ⟨_, rfl, _, rfl, stF h0 oa (by decide) T.c_Sighting T.a_Sighting_place fun Hb ob _ => ?_⟩
    exact k _ ob.same ⟨ob.fld T.c_Sighting T.a_Sighting_at (lkN (by decide +kernel) lkS), _, ob.fld T.c_Sighting T.a_Sighting_place lkS, box_stays _ _ _ _ ob.keep ht⟩
theorem mk_Sight {H : Hp} {Q : VK} {E : XK} {bv : V} {b : SightM} (ht : BoxAt K H bv b.place) (ok : SightOk b) (k : ∀ x H', Same H H' → SightP K H' x b → Q (.ref x) H') :
    ∀ x dx, H x = Option.none → H dx = Option.none → dx ≠ x → spSight K (.ref x :: ([.int b.t, bv] ++ [])) (upd (upd H dx (.own x)) x (.ins (He.ga K "Sighting") dx [])) (fun v H2 => v = .non ∧ Q (.ref x) H2) E :=
  fun x dx nx nd _ => ⟨H, x, dx, bv, b, rfl, nx, new_ob nx nd, ht, ok, fun H' s hb => ⟨rfl, k x H' s hb⟩⟩
/-! ### Site -/
def spSite (K : PySem.W.Frag) : Sp := fun vs H Q _ => ∃ (H0 : Hp) (p dx : Addr) (pv : V) (b : SiteM), vs = [.ref p, .str b.name, pv] ∧ H0 p = Option.none ∧ Ob H0 H p (He.ga K "Site") dx [] 0 ∧ IntsAt K H0 pv b.place ∧ SiteOk b ∧
  ∀ H', Same H0 H' → SiteP K H' p b → Q .non H'
theorem sc_Site : FnScope ["self", "name", "place", "good", "number"] ["self", "name", "place"] (defScope s_Site_init) := ⟨rfl, rfl, rfl, by decide +kernel, rfl, by decide +kernel, by decide +kernel⟩
theorem take_any {p : Int → Bool} {l : List Int} {i : Nat} {x : Int} (h : l[i]? = some x) : (l.take (i + 1)).any p = ((l.take i).any p || p x) := by
  rw [take_snoc h, List.any_append]
  simp
theorem map_get {l : List Int} {i : Nat} {y : V} (h : (l.map V.int)[i]? = some y) : ∃ z, l[i]? = some z ∧ y = V.int z := by
  rw [List.getElem?_map] at h
  cases e : l[i]? with
  | none =>
    rw [e] at h
    cases h
  | some z =>
    rw [e] at h
    exact ⟨z, rfl, (Option.some.inj h).symm⟩
theorem k_Site (T : Txt w K mg) : Mek P w K mg base 2 "Site" (He.ga K "Site") (spSite K) [] := by
  have c1 := k_check (P := P) (base := base) T
  have c2 := k_name (P := P) (base := base) T
  refine mek0 T.f_Site_init T.m_Site T.g_Site sc_Site (fun _ _ _ _ _ _ us hl => match us, hl with | [_, _, _], _ => rfl) (fun vs H Q E h => ?_) (fun cdv A outer s H vs Q E hr h => ?_)
  · obtain ⟨H0, p, dx, tv, b, rfl, _⟩ := h
    rfl
  · obtain ⟨H0, p, dx, lv, b, rfl, h0, o, ht, ok, k⟩ := h
    obtain ⟨tk, gM⟩ := T.i_MOST
    obtain ⟨q, rfl, hq⟩ := ints_stays _ _ _ _ o.keep ht
    refine ⟨_, pss_cons (ps_expr (pe_k c1 hr (by decide) (pa_cons (pe_k c2 hr (by decide) (pa_cons (pv 1) pa_nil)) (pa_cons pe_str pa_nil))))
      (pss_cons (ps_set (i := 3) sc_Site.nd rfl (Or.inl rfl) pe_bl)
      (pss_cons (ps_for PassesOwn.never rfl (pi_tup (pv 2)) (pg_name (i := 4) sc_Site.nd rfl (Or.inl rfl)) (pss_one (ps_set (i := 3) sc_Site.nd rfl (Or.inl rfl) (pe_or (pv 3) (pe_one (pe_cmpR op_ne (pv 4) pe_int (nomark _)))))))
      (pss_cons (ps_for PassesOwn.never rfl (pi_tup (pv 2)) (pg_name (i := 4) sc_Site.nd rfl (Or.inl rfl)) (pss_one (ps_set (i := 3) sc_Site.nd rfl (Or.inl rfl) (pe_and (pv 3) (pe_one (pe_chain op_le op_le (pe_un un_neg (pe_glob rfl gM (relI _ _))) (pv 4) (pe_glob rfl gM (relI _ _))))))))
      (pss_cons (ps_expr (pe_k c1 hr (by decide) (pa_cons (pv 3) (pa_cons pe_str pa_nil))))
      (pss_cons (ps_fld (pv 0) (pv 1) rfl) (pss_one (ps_fld (pv 0) (pv 2) rfl))))))), ?_⟩
    refine ⟨_, rfl, _, rfl, ok.name, chk rfl ?_⟩
    refine ⟨_, rfl, q, rfl, ⟨_, hq⟩, for_tup (K := K) (a := q) (xs := b.place.map V.int) (fun i σ H' => ∃ v : Option V, σ = [some (.ref p), some (.str b.name), some (.ref q), some (.bl ((b.place.take i).any fun n => !decide (V.int n = V.int 0))), v] ∧ H' = H)
      ⟨none, rfl, rfl⟩ (fun i σ H' _ ⟨_, _, e⟩ => by rw [e]; exact hq) ?_ ?_⟩
    · rintro i y σ H' hi ⟨v, rfl, rfl⟩
      obtain ⟨z, hz, rfl⟩ := map_get hi
      have ta := take_any (p := fun n => !decide (V.int n = V.int 0)) hz
      refine ⟨_, rfl, _, rfl, ?_⟩
      cases e : (b.place.take i).any fun n => !decide (V.int n = V.int 0) with
      | true =>
        rw [e, Bool.true_or] at ta
        refine iteT ⟨some (.int z), ?_, rfl⟩
        rw [ta]
        rfl
      | false =>
        rw [e, Bool.false_or] at ta
        refine iteF ⟨_, rfl, rfl, some (.int z), ?_, rfl⟩
        rw [ta]
        rfl
    · rintro σ H' ⟨v, rfl, rfl⟩
      have ea : ((b.place.take (b.place.map V.int).length).any fun n => !decide (V.int n = V.int 0)) = true := by
        obtain ⟨n, hn, ne⟩ := ok.some_
        rw [List.length_map, List.take_length]
        refine List.any_eq_true.mpr ⟨n, hn, ?_⟩
        rw [decide_eq_false (fun z => ne (V.int.inj z))]
        rfl
      refine ⟨_, rfl, q, rfl, ⟨_, hq⟩, for_tup (K := K) (a := q) (xs := b.place.map V.int) (fun i σ H2 => ∃ v : Option V, σ = [some (.ref p), some (.str b.name), some (.ref q), some (.bl true), v] ∧ H2 = H')
        ⟨v, by rw [ea], rfl⟩ (fun i σ H2 _ ⟨_, _, e⟩ => by rw [e]; exact hq) ?_ ?_⟩
      · rintro i y σ H2 hi ⟨v, rfl, rfl⟩
        obtain ⟨z, hz, rfl⟩ := map_get hi
        obtain ⟨z1, z2⟩ := ok.all_ z (List.mem_of_getElem? hz)
        refine ⟨_, rfl, _, rfl, iteT ⟨_, rfl, _, rfl, _, _, rfl, rfl, tkT z1 (iteT ⟨_, _, rfl, rfl, some (.int z), ?_, rfl⟩)⟩⟩
        have e9 : decide (z ≤ 1000000000000000) = true := decide_eq_true z2
        exact congrArg (fun b => [some (V.ref p), some (V.str _), some (V.ref q), some (V.bl b), some (V.int z)]) e9
      · rintro σ H2 ⟨v, rfl, rfl⟩
        refine ⟨_, rfl, chk rfl ?_⟩
        refine ⟨_, rfl, _, rfl, stF h0 o (by decide) T.c_Site T.a_Site_name fun Ha oa _ => ?_⟩
        refine ⟨_, rfl, _, rfl, stF h0 oa (by decide) T.c_Site T.a_Site_place fun Hb ob _ => ?_⟩
        exact k _ ob.same ⟨ob.fld T.c_Site T.a_Site_name (lkN (by decide +kernel) lkS), _, ob.fld T.c_Site T.a_Site_place lkS, ints_stays _ _ _ _ ob.keep ht⟩
theorem mk_Site {H : Hp} {Q : VK} {E : XK} {lv : V} {b : SiteM} (ht : IntsAt K H lv b.place) (ok : SiteOk b) (k : ∀ x H', Same H H' → SiteP K H' x b → Q (.ref x) H') :
    ∀ x dx, H x = Option.none → H dx = Option.none → dx ≠ x → spSite K (.ref x :: ([.str b.name, lv] ++ [])) (upd (upd H dx (.own x)) x (.ins (He.ga K "Site") dx [])) (fun v H2 => v = .non ∧ Q (.ref x) H2) E :=
  fun x dx nx nd _ => ⟨H, x, dx, lv, b, rfl, nx, new_ob nx nd, ht, ok, fun H' s hb => ⟨rfl, k x H' s hb⟩⟩
end
end Ka
/-! Craft and Contents. -/
namespace Ka
open PySem PySem.Spec PyProof.Rows L2
section
variable {P : Program} {w : World} {K : PySem.W.Frag} {mg : Str → Option Value} {base : Heap}
/-! ### Craft -/
def spCraft (K : PySem.W.Frag) : Sp := fun vs H Q _ => ∃ (H0 : Hp) (p dx : Addr) (pl sp bu si : V) (c : CraftM), vs = [.ref p, .str c.name, .int c.start, pl, sp, .int c.drift, bu, si] ∧ H0 p = Option.none ∧ Ob H0 H p (He.ga K "Craft") dx [] 0 ∧
  BoxAt K H0 pl c.place ∧ BoxAt K H0 sp c.speed ∧ SeqR K H0 (BurnAt K) bu c.burns ∧ SeqR K H0 (SightAt K) si c.sights ∧ CraftOk c ∧ ∀ H', Same H0 H' → CraftP K H' p c → Q .non H'
theorem sc_Craft : FnScope ["self", "name", "start", "place", "speed", "drift", "burns", "sightings"] ["self", "name", "start", "place", "speed", "drift", "burns", "sightings"] (defScope s_Craft_init) := ⟨rfl, rfl, rfl, by decide +kernel, rfl, by decide +kernel, by decide +kernel⟩
theorem body_Craft (T : Txt w K mg) {f : Addr} (cdv : Value) (A : Around) (outer : List Env) (s : Shared) (H : Hp) (vs : List V) (Q : VK) (E : XK) (hr : Room 1 (A.deeper (envOfC "Craft.__init__" (defScope s_Craft_init) s.heap.objs.size f cdv))) (h : spCraft K vs H Q E) :
    ∃ t, PSs (cxOf CX0 P w K mg base ["self", "name", "start", "place", "speed", "drift", "burns", "sightings"] "Craft.__init__" (defScope s_Craft_init) f cdv A outer s H E).nox (defBody s_Craft_init) t ∧
      t { nx := fun _ H' => Q .non H', rt := Q } (start ["self", "name", "start", "place", "speed", "drift", "burns", "sightings"] vs) H := by
  have c1 := k_check (P := P) (base := base) T
  have c2 := k_tick (P := P) (base := base) T
  have c3 := k_box (P := P) (base := base) T
  have c4 := k_name (P := P) (base := base) T
  obtain ⟨H0, p, dx, pl, sv, bu, si, c, rfl, h0, o, h1, h2, h3, h4, ok, k⟩ := h
  obtain ⟨tk, gM⟩ := T.i_MOST
  obtain ⟨tk2, gD⟩ := T.i_MOST_DRIFT
  refine ⟨_, pss_cons (ps_expr (pe_k c1 hr (by decide) (pa_cons (pe_k c4 hr (by decide) (pa_cons (pv 1) pa_nil)) (pa_cons pe_str pa_nil))))
    (pss_cons (ps_expr (pe_k c1 hr (by decide) (pa_cons (pe_k c2 hr (by decide) (pa_cons (pv 2) pa_nil)) (pa_cons pe_str pa_nil))))
    (pss_cons (ps_expr (pe_k c1 hr (by decide) (pa_cons (pe_k c3 hr (by decide) (pa_cons (pv 3) (pa_cons (pe_glob rfl gM (relI _ _)) pa_nil))) (pa_cons pe_str pa_nil))))
    (pss_cons (ps_expr (pe_k c1 hr (by decide) (pa_cons (pe_k c3 hr (by decide) (pa_cons (pv 4) (pa_cons (pe_glob rfl gM (relI _ _)) pa_nil))) (pa_cons pe_str pa_nil))))
    (pss_cons (ps_expr (pe_k c1 hr (by decide) (pa_cons (pe_chain op_le op_le pe_int (pv 5) (pe_glob rfl gD (relI _ _))) (pa_cons pe_str pa_nil))))
    (pss_cons (ps_fld (pv 0) (pv 1) rfl) (pss_cons (ps_fld (pv 0) (pv 2) rfl) (pss_cons (ps_fld (pv 0) (pv 3) rfl) (pss_cons (ps_fld (pv 0) (pv 4) rfl) (pss_cons (ps_fld (pv 0) (pv 5) rfl)
    (pss_cons (ps_fld (pv 0) (pe_callTy call_tupleS (by rfl) T.n_tuple (by decide +kernel) (pa_cons (pv 6) pa_nil)) rfl)
    (pss_one (ps_fld (pv 0) (pe_callTy call_tupleS (by rfl) T.n_tuple (by decide +kernel) (pa_cons (pv 7) pa_nil)) rfl)))))))))))), ?_⟩
  refine ⟨_, rfl, _, rfl, ok.name, chk rfl ?_⟩
  refine ⟨_, rfl, _, rfl, chk (tickB ok.st) ?_⟩
  refine ⟨_, rfl, pl, c.place, _, rfl, box_stays _ _ _ _ o.keep h1, ok.pl, chk rfl ?_⟩
  refine ⟨_, rfl, sv, c.speed, _, rfl, box_stays _ _ _ _ o.keep h2, ok.sp, chk rfl ?_⟩
  refine ⟨_, rfl, _, _, rfl, rfl, tkT ok.dr.1 (iteT ⟨_, _, rfl, rfl, chkD ok.dr.2 ?_⟩)⟩
  refine ⟨_, rfl, _, rfl, stF h0 o (by decide) T.c_Craft T.a_Craft_name fun Ha oa _ => ?_⟩
  refine ⟨_, rfl, _, rfl, stF h0 oa (by decide) T.c_Craft T.a_Craft_start fun Hb ob _ => ?_⟩
  refine ⟨_, rfl, _, rfl, stF h0 ob (by decide) T.c_Craft T.a_Craft_place fun Hc oc _ => ?_⟩
  refine ⟨_, rfl, _, rfl, stF h0 oc (by decide) T.c_Craft T.a_Craft_speed fun Hd od _ => ?_⟩
  refine ⟨_, rfl, _, rfl, stF h0 od (by decide) T.c_Craft T.a_Craft_drift fun He oe _ => ?_⟩
  obtain ⟨pb, vb, rfl, qb, rb⟩ := h3
  obtain ⟨ps, vg, rfl, qs, rs⟩ := h4
  refine ⟨_, rfl, pb, vb, rfl, seq_same oe.same qb, fun tb Hf sf tbh => ?_⟩
  have of := oe.next sf
  refine ⟨_, rfl, stF h0 of (by decide) T.c_Craft T.a_Craft_burns fun Hg og tg1 => ?_⟩
  refine ⟨_, rfl, ps, vg, rfl, seq_same og.same qs, fun tg Hh sh tgh => ?_⟩
  have oh := og.next sh
  refine ⟨_, rfl, stF h0 oh (by decide) T.c_Craft T.a_Craft_sightings fun Hi oi tg2 => ?_⟩
  refine k _ oi.same ⟨oi.fld T.c_Craft T.a_Craft_name (lkN (by decide +kernel) (lkN (by decide +kernel) (lkN (by decide +kernel) (lkN (by decide +kernel) (lkN (by decide +kernel) (lkN (by decide +kernel) lkS)))))),
    oi.fld T.c_Craft T.a_Craft_start (lkN (by decide +kernel) (lkN (by decide +kernel) (lkN (by decide +kernel) (lkN (by decide +kernel) (lkN (by decide +kernel) lkS))))),
    ⟨_, oi.fld T.c_Craft T.a_Craft_place (lkN (by decide +kernel) (lkN (by decide +kernel) (lkN (by decide +kernel) (lkN (by decide +kernel) lkS)))), box_stays _ _ _ _ oi.keep h1⟩,
    ⟨_, oi.fld T.c_Craft T.a_Craft_speed (lkN (by decide +kernel) (lkN (by decide +kernel) (lkN (by decide +kernel) lkS))), box_stays _ _ _ _ oi.keep h2⟩,
    oi.fld T.c_Craft T.a_Craft_drift (lkN (by decide +kernel) (lkN (by decide +kernel) lkS)),
    ⟨_, oi.fld T.c_Craft T.a_Craft_burns (lkN (by decide +kernel) lkS), tb, vb, rfl, tg2 _ _ (keepT (Keep.of sh) (tg1 _ _ tbh)), pd_mono (fun a b r => burn_stays _ _ _ _ oi.keep r) rb⟩,
    ⟨_, oi.fld T.c_Craft T.a_Craft_sightings lkS, tg, vg, rfl, tg2 _ _ tgh, pd_mono (fun a b r => sight_stays _ _ _ _ oi.keep r) rs⟩⟩
theorem k_Craft (T : Txt w K mg) : Mek P w K mg base 2 "Craft" (He.ga K "Craft") (spCraft K) [] :=
  mekD 8 2 (List.cons_ne_nil _ _) rfl T.f_Craft_init T.m_Craft T.g_Craft sc_Craft (fun _ _ _ _ _ _ _ us its hl hi => match us, hl, its, hi with | [_, _, _, _, _, _, _, _], _, [_, _], _ => ⟨_, rfl, rfl⟩)
    (fun vs H Q E h => by
      obtain ⟨H0, p, dx, pl, sv, bu, si, c, rfl, _⟩ := h
      rfl) (body_Craft T)
/-- Craft(..) without burns and sightings: the defaults -/
theorem k_Craft5 (T : Txt w K mg) : Mek P w K mg base 2 "Craft" (He.ga K "Craft") (spCraft K) [.ref (He.dflAt ("Craft", some "__init__") 0 K), .ref (He.dflAt ("Craft", some "__init__") 1 K)] :=
  mekD 6 0 (List.cons_ne_nil _ _) rfl T.f_Craft_init T.m_Craft T.g_Craft sc_Craft (fun _ _ _ _ _ _ _ us its hl hi => match us, hl, its, hi with | [_, _, _, _, _, _], _, [_, _], _ => ⟨_, rfl, rfl⟩)
    (fun vs H Q E h => by
      obtain ⟨H0, p, dx, pl, sv, bu, si, c, rfl, _⟩ := h
      rfl) (body_Craft T)
theorem mk_Craft {H : Hp} {Q : VK} {E : XK} {pl sv bu si : V} {c : CraftM} (h1 : BoxAt K H pl c.place) (h2 : BoxAt K H sv c.speed) (h3 : SeqR K H (BurnAt K) bu c.burns) (h4 : SeqR K H (SightAt K) si c.sights) (ok : CraftOk c) (k : ∀ x H', Same H H' → CraftP K H' x c → Q (.ref x) H') :
    ∀ x dx, H x = Option.none → H dx = Option.none → dx ≠ x → spCraft K (.ref x :: ([.str c.name, .int c.start, pl, sv, .int c.drift, bu, si] ++ [])) (upd (upd H dx (.own x)) x (.ins (He.ga K "Craft") dx [])) (fun v H2 => v = .non ∧ Q (.ref x) H2) E :=
  fun x dx nx nd _ => ⟨H, x, dx, pl, sv, bu, si, c, rfl, nx, new_ob nx nd, h1, h2, h3, h4, ok, fun H' s hb => ⟨rfl, k x H' s hb⟩⟩
/-! ### Contents -/
def spCont (K : PySem.W.Frag) : Sp := fun vs H Q _ => ∃ (H0 : Hp) (p dx : Addr) (bo cs ss : V) (c : ContM), vs = [.ref p, bo, .int c.stride, .int c.fine, cs, ss] ∧ H0 p = Option.none ∧ Ob H0 H p (He.ga K "Contents") dx [] 0 ∧
  BodyAt K H0 bo c.body ∧ SeqR K H0 (CraftAt K) cs c.crafts ∧ SeqR K H0 (SiteAt K) ss c.sites ∧ (1 ≤ c.stride ∧ c.stride ≤ 1000) ∧ (0 ≤ c.fine ∧ c.fine ≤ 6) ∧ ∀ H', Same H0 H' → ContP K H' p c → Q .non H'
theorem sc_Cont : FnScope ["self", "body", "stride", "fineness", "crafts", "sites"] ["self", "body", "stride", "fineness", "crafts", "sites"] (defScope s_Contents_init) := ⟨rfl, rfl, rfl, by decide +kernel, rfl, by decide +kernel, by decide +kernel⟩
theorem body_Cont (T : Txt w K mg) {f : Addr} (cdv : Value) (A : Around) (outer : List Env) (s : Shared) (H : Hp) (vs : List V) (Q : VK) (E : XK) (hr : Room 1 (A.deeper (envOfC "Contents.__init__" (defScope s_Contents_init) s.heap.objs.size f cdv))) (h : spCont K vs H Q E) :
    ∃ t, PSs (cxOf CX0 P w K mg base ["self", "body", "stride", "fineness", "crafts", "sites"] "Contents.__init__" (defScope s_Contents_init) f cdv A outer s H E).nox (defBody s_Contents_init) t ∧
      t { nx := fun _ H' => Q .non H', rt := Q } (start ["self", "body", "stride", "fineness", "crafts", "sites"] vs) H := by
  have c1 := k_check (P := P) (base := base) T
  obtain ⟨H0, p, dx, bo, cs, ss, c, rfl, h0, o, h1, h2, h3, st, fi, k⟩ := h
  refine ⟨_, pss_cons (ps_expr (pe_k c1 hr (by decide) (pa_cons (pe_chain op_le op_le pe_int (pv 2) pe_int) (pa_cons pe_str pa_nil))))
    (pss_cons (ps_expr (pe_k c1 hr (by decide) (pa_cons (pe_chain op_le op_le pe_int (pv 3) pe_int) (pa_cons pe_str pa_nil))))
    (pss_cons (ps_fld (pv 0) (pv 1) rfl) (pss_cons (ps_fld (pv 0) (pv 2) rfl) (pss_cons (ps_fld (pv 0) (pv 3) rfl)
    (pss_cons (ps_fld (pv 0) (pe_callTy call_tupleS (by rfl) T.n_tuple (by decide +kernel) (pa_cons (pv 4) pa_nil)) rfl)
    (pss_one (ps_fld (pv 0) (pe_callTy call_tupleS (by rfl) T.n_tuple (by decide +kernel) (pa_cons (pv 5) pa_nil)) rfl))))))), ?_⟩
  refine ⟨_, rfl, _, _, rfl, rfl, tkT st.1 (iteT ⟨_, _, rfl, rfl, chkD st.2 ?_⟩)⟩
  refine ⟨_, rfl, _, _, rfl, rfl, tkT fi.1 (iteT ⟨_, _, rfl, rfl, chkD fi.2 ?_⟩)⟩
  refine ⟨_, rfl, _, rfl, stF h0 o (by decide) T.c_Contents T.a_Contents_body fun Ha oa _ => ?_⟩
  refine ⟨_, rfl, _, rfl, stF h0 oa (by decide) T.c_Contents T.a_Contents_stride fun Hb ob _ => ?_⟩
  refine ⟨_, rfl, _, rfl, stF h0 ob (by decide) T.c_Contents T.a_Contents_fineness fun Hc oe _ => ?_⟩
  obtain ⟨pb, vb, rfl, qb, rb⟩ := h2
  obtain ⟨ps, vg, rfl, qs, rs⟩ := h3
  refine ⟨_, rfl, pb, vb, rfl, seq_same oe.same qb, fun tb Hf sf tbh => ?_⟩
  have of := oe.next sf
  refine ⟨_, rfl, stF h0 of (by decide) T.c_Contents T.a_Contents_crafts fun Hg og tg1 => ?_⟩
  refine ⟨_, rfl, ps, vg, rfl, seq_same og.same qs, fun tg Hh sh tgh => ?_⟩
  have oh := og.next sh
  refine ⟨_, rfl, stF h0 oh (by decide) T.c_Contents T.a_Contents_sites fun Hi oi tg2 => ?_⟩
  refine k _ oi.same ⟨⟨_, oi.fld T.c_Contents T.a_Contents_body (lkN (by decide +kernel) (lkN (by decide +kernel) (lkN (by decide +kernel) (lkN (by decide +kernel) lkS)))), body_stays _ _ _ _ oi.keep h1⟩,
    oi.fld T.c_Contents T.a_Contents_stride (lkN (by decide +kernel) (lkN (by decide +kernel) (lkN (by decide +kernel) lkS))),
    oi.fld T.c_Contents T.a_Contents_fineness (lkN (by decide +kernel) (lkN (by decide +kernel) lkS)),
    ⟨_, oi.fld T.c_Contents T.a_Contents_crafts (lkN (by decide +kernel) lkS), tb, vb, rfl, tg2 _ _ (keepT (Keep.of sh) (tg1 _ _ tbh)), pd_mono (fun a b r => craft_stays _ _ _ _ oi.keep r) rb⟩,
    ⟨_, oi.fld T.c_Contents T.a_Contents_sites lkS, tg, vg, rfl, tg2 _ _ tgh, pd_mono (fun a b r => site_stays _ _ _ _ oi.keep r) rs⟩⟩
theorem k_Cont (T : Txt w K mg) : Mek P w K mg base 2 "Contents" (He.ga K "Contents") (spCont K) [] :=
  mekD 6 2 (List.cons_ne_nil _ _) rfl T.f_Contents_init T.m_Contents T.g_Contents sc_Cont (fun _ _ _ _ _ _ _ us its hl hi => match us, hl, its, hi with | [_, _, _, _, _, _], _, [_, _], _ => ⟨_, rfl, rfl⟩)
    (fun vs H Q E h => by
      obtain ⟨H0, p, dx, bo, cs, ss, c, rfl, _⟩ := h
      rfl) (body_Cont T)
/-- Contents(..) without crafts and sites: the defaults -/
theorem k_Cont3 (T : Txt w K mg) : Mek P w K mg base 2 "Contents" (He.ga K "Contents") (spCont K) [.ref (He.dflAt ("Contents", some "__init__") 0 K), .ref (He.dflAt ("Contents", some "__init__") 1 K)] :=
  mekD 4 0 (List.cons_ne_nil _ _) rfl T.f_Contents_init T.m_Contents T.g_Contents sc_Cont (fun _ _ _ _ _ _ _ us its hl hi => match us, hl, its, hi with | [_, _, _, _], _, [_, _], _ => ⟨_, rfl, rfl⟩)
    (fun vs H Q E h => by
      obtain ⟨H0, p, dx, bo, cs, ss, c, rfl, _⟩ := h
      rfl) (body_Cont T)
theorem mk_Cont {H : Hp} {Q : VK} {E : XK} {bo cs ss : V} {c : ContM} (h1 : BodyAt K H bo c.body) (h2 : SeqR K H (CraftAt K) cs c.crafts) (h3 : SeqR K H (SiteAt K) ss c.sites) (st : 1 ≤ c.stride ∧ c.stride ≤ 1000) (fi : 0 ≤ c.fine ∧ c.fine ≤ 6) (k : ∀ x H', Same H H' → ContP K H' x c → Q (.ref x) H') :
    ∀ x dx, H x = Option.none → H dx = Option.none → dx ≠ x → spCont K (.ref x :: ([bo, .int c.stride, .int c.fine, cs, ss] ++ [])) (upd (upd H dx (.own x)) x (.ins (He.ga K "Contents") dx [])) (fun v H2 => v = .non ∧ Q (.ref x) H2) E :=
  fun x dx nx nd _ => ⟨H, x, dx, bo, cs, ss, c, rfl, nx, new_ob nx nd, h1, h2, h3, st, fi, fun H' s hb => ⟨rfl, k x H' s hb⟩⟩
end
end Ka
/-! An own error over an own error over ValueError whose __init__ says super().__init__(name) and self.name = name: made, raised, read. -/
namespace Ka
namespace Sup
open PySem PySem.W PySem.Calls PyProof.Rows L2
structure SupC (prog : Program) (K : Frag) (C fI : Addr) (qual : Str) (st : Stmt) : Prop where
  cls : ∃ nm q N bs bm sn sub ab col dd k0 k1 k2 k3 k5, K.lookup C = some (excClassObj nm q C N bs bm true sn sub ab col dd k0 k1 k2 k3 k5 "ValueError.__new__") ∧ HandSPX.refsVE bm = true
  ini : excInitIn K C He.veBase "ValueError.__new__" = true
  sa : findIn K (.ref C) "__setattr__" = some (some (.builtin "object.__setattr__"))
  noN : findIn K (.ref C) "name" = some none
  iC : findIn K (.ref C) "__init__" = some (some (.ref fI))
  tI : typeIn K (.ref fI) = some (.type "function")
  kC : keepIn K (.ref C) = true
  exC : subIn K (.ref C) (.type "BaseException") = some true
  veC : subIn K (.ref C) (.type "ValueError") = some true
  tyC : typeIn K (.ref C) = some (.type "type")
  mC : mroIn K C (.ref C) = some true
  su : ks_superIn K C C "__init__" = some (some (.builtin "ValueError.__init__"))
  opq : nsIn K cStatics "thirdparty.any" = some none
  fn : ∃ (oc : Value) (od : Option Addr) (kV doc pm : Value) (an : Option Addr) (cda : Addr) (ct : Value) (cc : Addr) (osl : Array (Option Value)),
    K.lookup fI = some ⟨oc, od, .func (ksFn "__init__" qual (defArgs st) (defBody st) (defScope st) .none kV doc pm an (.ref cda) ct cc), osl⟩ ∧ codeIn K (.ref cda) qual = true ∧
    (∃ (cl : Value) (cld : Option Addr) (csl : Array (Option Value)), K.lookup cc = some ⟨cl, cld, .cell (some (.ref C)), csl⟩) ∧
    ∃ (ccl : Value) (cdd : Option Addr) (vs : Array Value) (ccs : Array (Option Value)) (file : Str) (tf : Tok), K.lookup cda = some ⟨ccl, cdd, .fields vs, ccs⟩ ∧ vs[2]? = some (.str file tf) ∧ ((prog.main.file : Str) == file) = true
/-- a made error: hp the heap ahead of it -/
structure Made (hp h' : Heap) (e C d : Addr) (v : Value) : Prop where
  keep : ∀ b o, hp.get? b = some o → h'.get? b = some o
  new : hp.objs.size ≤ e
  obj : ∃ t1 : Addr, h'.get? e = some { cls := .ref C, dict := some d, data := .fields #[.ref t1, .none, .none, .none, .bool false, .none] }
  dbig : hp.objs.size ≤ d
  dne : d ≠ e
  ns : h'.Ns1 d (fun y => if y = "name" then some v else none)
/-- the text of such an __init__ -/
def iA (p1 p2 : Pos) : Arguments := { posonlyargs := [], args := [{ arg := "self", annotation := none, pos := p1 }, { arg := "name", annotation := none, pos := p2 }], vararg := none, kwonlyargs := [], kw_defaults := [], kwarg := none, defaults := [] }
abbrev iS : Scope := { kind := .function, names := [(PySem.Str.ofString "self", .local), (PySem.Str.ofString "name", .local), (PySem.Str.ofString "__class__", .free), (PySem.Str.ofString "super", .globalImplicit)], isGenerator := false, isCoroutine := false, more := [] }
theorem iS_cell : ∀ x ∈ iS.names, x.2 ≠ .cell := by decide
def plainS (o : Expr) (env : Env) : Sem Bool := do return (← importBound o env).getD true
structure Txt (st : Stmt) (qual : Str) (p1 p2 : Pos) (q0 q1 q2 q3 q4 q5 r1 r2 r3 r4 : Pos) : Prop where
  args : defArgs st = iA p1 p2
  body : defBody st = [.Expr (.Call (.Attribute (.Call (.Name "super" q0) [] [] q1) "__init__" q2) [.Name "name" q3] [] q4) q5, .Assign [.Attribute (.Name "self" r1) "name" r2] (.Name "name" r3) r4]
  scope : defScope st = iS
  call : ∀ L fI cda cc, eval (.Call (.Attribute (.Call (.Name "super" q0) [] [] q1) "__init__" q2) [.Name "name" q3] [] q4) (ksEnv qual iS L fI (.ref cda) cc) = (do
      let ov ← attributeBase (.Call (.Name "super" q0) [] [] q1) "__init__" (ksEnv qual iS L fI (.ref cda) cc) (eval (.Call (.Name "super" q0) [] [] q1) (ksEnv qual iS L fI (.ref cda) cc))
      standAt q2.atName
      let (f, first) ← holding [ov] (getMethod ov "__init__" (plainS (.Call (.Name "super" q0) [] [] q1) (ksEnv qual iS L fI (.ref cda) cc)))
      callWith q4 f first (backTo q4 (starEach [.Name "name" q3] (ksEnv qual iS L fI (.ref cda) cc))) [])
abbrev mI (x : Addr) (v : Value) : Str → Option Value := fun y => List.lookup y ([(("self" : Str), Value.ref x), (("name" : Str), v)] : List (Str × Value)).reverse
theorem push2 {hp : Heap} {o1 o2 : Obj} {b : Addr} {o : Obj} (e : hp.get? b = some o) : ((hp.push o1).push o2).get? b = some o := Heap.get?_push_of_some _ (Heap.get?_push_of_some _ e)
section
variable {prog : Program} {w : World} {A : Around} {R : Result → Shared → Prop} {K : Frag} {mg mb : Str → Option Value} {C fI : Addr} {qual : Str} {st : Stmt} {p1 p2 q0 q1 q2 q3 q4 q5 r1 r2 r3 r4 : Pos}
theorem init_ok (T : SupC prog K C fI qual st) (Z : Txt st qual p1 p2 q0 q1 q2 q3 q4 q5 r1 r2 r3 r4) {hp : Heap} {gs : Array GenState} {dr : Drawn} {tk : Nat} {os : OsState} {v : Value} (X : K.In hp) (hlim : hp.NoLimit) (G : hp.Ns mainGlobals mg) (hsu : mg "super" = none)
    (B : hp.Ns builtinsNs mb) (hbs : mb "super" = some (.type "super")) (htop : (prog.main.scope.names.lookup ("super" : Str)).isSome = false) (hroom : A.depth < recursionLimit)
    (hq : ∀ h' tk' d, Made hp h' (hp.objs.size + 1) C d v → R (.ok (.ret .none)) ⟨h', gs, dr, tk', os⟩) :
    codeAny (model prog w) A (.call (.ref fI) ⟨[.ref (hp.objs.size + 1), v], []⟩) R ⟨(hp.push (kdv_tup [v])).push (HandSPX.excO C hp.objs.size), gs, dr, tk, os⟩ := by
  obtain ⟨oc, od, kV, doc, pm, an, cda, ct, cc, osl, lk, hcd, ⟨cl, cld, csl, lcc⟩, ccl, cdd, vs, ccs, file, tf, lcd, hvs, hfile⟩ := T.fn
  obtain ⟨nm, q, N, bs, bm, sn, sub, ab, col, dd, k0, k1, k2, k3, k5, hC, hbm⟩ := T.cls
  have hcl : clsIn K C = some { name := nm, bases := bs, mro := .ref C :: bm, ns := N, qualname := q, hasDict := true, slotNames := sn, subclasses := sub, abstract := ab, collection := col, hasDel := false } := by unfold clsIn; rw [hC] <;> rfl
  obtain ⟨za, zb, zs, zc⟩ := Z
  rw [za, zb, zs] at lk
  have hp1 : ∀ b o, hp.get? b = some o → ((hp.push (kdv_tup [v])).push (HandSPX.excO C hp.objs.size)).get? b = some o := fun b o e => push2 e
  have hx1 : ((hp.push (kdv_tup [v])).push (HandSPX.excO C hp.objs.size)).get? (hp.objs.size + 1) = some (HandSPX.excO C hp.objs.size) := by heap_get
  have hsz : ((hp.push (kdv_tup [v])).push (HandSPX.excO C hp.objs.size)).objs.size = hp.objs.size + 1 + 1 := by rw [Heap.size_push, Heap.size_push]
  have xnew : hp.get? (hp.objs.size + 1) = none := by
    cases e : hp.get? (hp.objs.size + 1) with
    | none => rfl
    | some o => exact absurd (Nat.lt_of_succ_lt (Heap.lt_size e)) (Nat.lt_irrefl _)
  refine ks_codeAny_call_defAt (fd := ksFn "__init__" qual (iA p1 p2) _ _ .none kV doc pm an (.ref cda) ct cc) (binds := [("self", .ref (hp.objs.size + 1)), ("name", v)]) hroom (hp1 _ _ (X _ _ lk)) rfl (hlim.keeps hp1) (codeRec_of (X.keeps hp1) hcd) rfl
    (BindsTo.of_eq (by first | rfl | with_unfolding_all rfl)) iS_cell (by intro y hy; simp only [List.mem_cons, List.not_mem_nil, or_false] at hy; rcases hy with rfl | rfl <;> rfl) (fun h1 hns hk1 => ?_) rfl rfl rfl
  have k1' : ∀ b o, hp.get? b = some o → h1.get? b = some o := fun b o e => hk1 _ _ (hp1 _ _ e)
  have F1 : Fr hp ((hp.push (kdv_tup [v])).push (HandSPX.excO C hp.objs.size)).objs.size h1 (mI (hp.objs.size + 1) v) := ⟨hns, k1', by rw [hsz]; omega⟩
  have xL : hp.objs.size + 1 ≠ ((hp.push (kdv_tup [v])).push (HandSPX.excO C hp.objs.size)).objs.size := by rw [hsz]; omega
  have N1 : News hp ((hp.push (kdv_tup [v])).push (HandSPX.excO C hp.objs.size)).objs.size h1 [(hp.objs.size + 1, excObj C hp.objs.size none .none)] := fun p hpm => by
    rw [List.mem_singleton.mp hpm]
    exact ⟨hk1 _ _ hx1, xL, xnew⟩
  generalize ((hp.push (kdv_tup [v])).push (HandSPX.excO C hp.objs.size)).objs.size = L at F1 N1 xL ⊢
  have I1 : InstAt h1 (hp.objs.size + 1) (excObj C hp.objs.size none .none) C none := InstAt.of_exc0 N1 (List.mem_singleton.mpr rfl)
  have X1 : K.In h1 := X.keeps k1'
  have em1 : (mI (hp.objs.size + 1) v) "self" = some (.ref (hp.objs.size + 1)) := by simp [mI, List.lookup, (by decide : (("self" : Str) == "name") = false)]
  have em2 : (mI (hp.objs.size + 1) v) "name" = some v := by simp [mI, List.lookup]
  show PySem.wpAt (model prog w) (A.deeper (ksEnv qual iS L fI (.ref cda) cc)) (.func _ (ksEnv qual iS L fI (.ref cda) cc)) (execs _ (ksEnv qual iS L fI (.ref cda) cc)) _ _ _
  -- super().__init__(name)
  refine ks_wpAt_execs_cons (ks_wpAt_Expr_any (ks_wpAt_MethodCall ?_ (zc _ _ _ _)))
  refine ks_wpAt_super_base (by rfl) (by rfl) (by decide) rfl (X1 _ _ lk) rfl rfl rfl (X1 _ _ lcd) rfl hvs hfile htop ?_
  obtain ⟨oD, hD1, hD2⟩ : ∃ oD, h1.get? C = some oD ∧ oD.data = .cls { name := nm, bases := bs, mro := .ref C :: bm, ns := N, qualname := q, hasDict := true, slotNames := sn, subclasses := sub, abstract := ab, collection := col, hasDel := false } := ⟨_, X1 _ _ hC, rfl⟩
  refine ks_loadName_global rfl rfl (loadGlobal_builtin (env := ksEnv qual iS L fI (.ref cda) cc) (G.keeps k1') hsu (B.keeps k1') hbs ⟨rfl, ?_⟩)
  refine wpAny_loadName_free rfl rfl rfl ⟨_, X1 _ _ lcc, rfl⟩ ?_
  refine wpAny_loadName_local rfl rfl F1.ns em1 ?_
  refine ks_wpAny_isType_cls hD1 hD2 ⟨rfl, ?_⟩
  refine ks_wpAny_call_super hD1 hD2 I1.at_ I1.cls (fun c e => by cases e) (looks_mroIn X1 T.mC) (fun h2 e2 k2 => ?_)
  obtain ⟨F2, N2, l2⟩ := ks_newsPush (s := ⟨h1, gs, dr, 0, os⟩) F1 N1 rfl e2 k2
  have X2 : K.In h2 := X.keeps F2.keep
  have I2 : InstAt h2 (hp.objs.size + 1) (excObj C hp.objs.size none .none) C none := InstAt.of_exc0 N2 (.tail _ (List.mem_singleton.mpr rfl))
  refine kxs_method kxs_ValueError F2 X N2 (.head _) I2 T.opq T.su T.veC (by decide) (fun u h3 F3 N3 l3 => ?_)
  have nu : u ≠ hp.objs.size + 1 := Nat.ne_of_gt (l3 (hp.objs.size + 1, excObj C hp.objs.size none .none) (.tail _ (List.mem_singleton.mpr rfl)))
  have nso : h1.objs.size ≠ hp.objs.size + 1 := Nat.ne_of_gt (l2 (hp.objs.size + 1, excObj C hp.objs.size none .none) (List.mem_singleton.mpr rfl))
  refine kxs_callWith1 N3 (.head _) ?_ (by rfl) (by rfl)
  show wpAny _ _ (spliced ((false, eval (.Name "name" q3) (ksEnv qual iS L fI (.ref cda) cc)) :: backTo q4 (starEach [] (ksEnv qual iS L fI (.ref cda) cc)))) _ _ _
  refine Calls.spliced_cons (wpAny_Name (wpAny_loadName_local rfl rfl F3.ns em2 (Calls.spliced_nil ⟨kxs_at N3 (.head _), ?_⟩)) (by decide))
  refine kxs_call F3 X N3 F.excBase_ValueError T.ini (.head _) (.tail nu (.tail nso (.head fun _ z => nomatch z))) (by rw [sizeLine_eq]; exact (by decide : 1 ≤ 16777216)) (fun t4 h4 F4 N4 l4 => ?_)
  -- self.name = name
  refine ks_wpAt_execs_cons (wpAt_of_wpAny (plainObj_wpAny_Assign_Attribute ?_))
  refine wpAny_Name (wpAny_loadName_local rfl rfl F4.ns em2 ?_) (by decide)
  refine wpAny_Name (wpAny_loadName_local rfl rfl F4.ns em1 ?_) (by decide)
  have X4 : K.In h4 := X.keeps F4.keep
  have hx4 : h4.get? (hp.objs.size + 1) = some (excObj C t4 none .none) := (N4 (hp.objs.size + 1, excObj C t4 none .none) (.tail _ (.tail _ (.tail _ (.head _))))).1
  refine set_plain X4 (ox := excObj C t4 none .none) (od := none) ⟨hx4, rfl, rfl, trivial⟩ T.sa ?_
  refine HandSPX.exc_osa X4 hx4 hcl (show HandSPX.refsVE (.ref C :: bm) = true from hbm) rfl T.noN (fun h5 tk5 dx k5' dn dne hx5 hn5 => ?_)
  refine wpAt_of_wpAny (wpAny_execs_nil ?_)
  refine hq _ _ dx ⟨fun b o e => k5' b o (fun z => by rw [z, xnew] at e; cases e) (F4.keep b o e), Nat.le_succ _, ⟨t4, hx5⟩, ?_, dne, hn5⟩
  exact Nat.le_trans (Nat.le_of_lt (Nat.lt_of_succ_lt (Heap.lt_size hx4))) dn
theorem made_ok (T : SupC prog K C fI qual st) (Z : Txt st qual p1 p2 q0 q1 q2 q3 q4 q5 r1 r2 r3 r4) {hp : Heap} {gs : Array GenState} {dr : Drawn} {tk : Nat} {os : OsState} {v : Value} (X : K.In hp) (hlim : hp.NoLimit) (G : hp.Ns mainGlobals mg) (hsu : mg "super" = none)
    (B : hp.Ns builtinsNs mb) (hbs : mb "super" = some (.type "super")) (htop : (prog.main.scope.names.lookup ("super" : Str)).isSome = false) (hroom : A.depth + 1 < recursionLimit)
    (hq : ∀ h' tk' e d, Made hp h' e C d v → R (.ok (.ret (.ref e))) ⟨h', gs, dr, tk', os⟩) : codeAny (model prog w) A (.call (.ref C) ⟨[v], []⟩) R ⟨hp, gs, dr, tk, os⟩ := by
  obtain ⟨nm, q, N, bs, bm, sn, sub, ab, col, dd, k0, k1, k2, k3, k5, hC, hbm⟩ := id T.cls
  refine HandSPX.call_own F.excBase_ValueError (fun Y => HandSPX.refsVE_contains Y bm hbm) (X _ _ hC) (looks_findIn X T.iC) (fun self => bind_fn X self T.tI) (by rw [sizeLine_eq]; exact (by decide : 1 ≤ 16777216)) ?_
  refine init_ok T Z X hlim G hsu B hbs htop ?_ fun h' tk' d M => ⟨rfl, hq h' tk' _ d M⟩
  show A.depth + 1 < recursionLimit
  exact hroom
end
theorem rel_name {v : V} {v' : Value} (r : RelV v v') (f : Str) : RelO (List.lookup f [(("name" : Str), v)]) (if f = "name" then some v' else none) := by
  by_cases h : f = "name"
  · subst h
    rw [if_pos rfl, show List.lookup ("name" : Str) [(("name" : Str), v)] = some v by simp [List.lookup]]
    exact r
  · have q : (f == ("name" : Str)) = false := by simpa using h
    rw [if_neg h, show List.lookup f [(("name" : Str), v)] = none by simp [List.lookup, q]]
    trivial
section
variable {X : Cx} {C fI : Addr} {qual x : Str} {st : Stmt} {p1 p2 q0 q1 q2 q3 q4 q5 r1 r2 r3 r4 : Pos}
/-- C(e) -/
def tMkSup (C : Addr) (ta : TA) : L2.St → Hp → XK → Prop := fun σ H Q => ta σ H fun vs H1 => ∃ v, vs = [v] ∧ ∀ d, H1 d = none → Q (.ref C) (some d) (upd H1 d (.xd [(("name" : Str), v)]))
theorem pmk_sup {a : Expr} {ta : TA} {p pos : Pos} {k : Nat} (T : SupC X.prog X.K C fI qual st) (Z : Txt st qual p1 p2 q0 q1 q2 q3 q4 q5 r1 r2 r3 r4) (gC : X.mg x = some (.ref C)) (hsu : X.mg "super" = none)
    (htop : (X.prog.main.scope.names.lookup ("super" : Str)).isSome = false) (hr : Room k X.A) (ha : PA X [a] ta) (hg : Gl X x := by rfl) (hdb : (x == ("__debug__" : Str)) = false := by decide)
    (he : starEach (a :: []) X.env = (false, eval a X.env) :: starEach [] X.env := by rfl) (hpl : (backTo pos (starEach [] X.env)).any (·.1) = false := by rfl) :
    PMk X (.Call (.Name x p) [a] [] pos) (tMkSup C ta) := by
  intro pins s σ H Q I h
  refine wpAny_Call_Name_kw (ld_glob I hg gC ?_ hdb)
  refine PySem.W.callWith_K (h₀ := X.base) I.ok.mod.kin T.kC (thn (ha.run pos pins s σ H _ I h) fun us s1 hh => ?_) he hpl
  obtain ⟨vs, H1, I1, r1, v, ev, q1⟩ := hh
  subst ev
  refine ⟨I1.kIn, ?_⟩
  cases r1 with
  | cons rv rn =>
    rename_i v' us'
    cases rn
    show wpAny _ _ (call (.ref C) [v']) _ _ _
    have hlim := I1.nolimit
    have hG : s1.heap.Ns mainGlobals X.mg := I1.mod.glob.keeps I1.bk
    obtain ⟨mb, hb1, hb2⟩ := I1.mod.blt
    have hB : s1.heap.Ns builtinsNs mb := hb1.keeps I1.bk
    have hbs : mb "super" = some (.type "super") := (hb2 "super" (by decide)).trans (by first | rfl | kernel_rfl | decide +kernel)
    obtain ⟨hp, g, dr, tk, os⟩ := s1
    refine wpAny_call (made_ok T Z I1.kIn hlim hG hsu hB hbs htop (by have := hr.dp; omega) fun h' tk' e d M => ?_)
    show MkP X pins σ Q (.ref e) ⟨h', g, dr, tk', os⟩
    obtain ⟨t1, hoe⟩ := M.obj
    have hns := M.ns
    obtain ⟨G', g1, g2⟩ := restrict h' fun b => decide (b ≠ e)
    have gk : ∀ b, b ≠ e → G'.get? b = h'.get? b := fun b hb => g1 b (decide_eq_true hb)
    have ge : G'.get? e = none := g2 e (by simp)
    have old : ∀ b o, hp.get? b = some o → G'.get? b = some o := fun b o z => (gk b (Nat.ne_of_lt (Nat.lt_of_lt_of_le (Heap.lt_size z) M.new))).trans (M.keep b o z)
    have ob : ObjOk X.prog X.w (upd H1 d (.xd [(("name" : Str), v)])) G' d (.xd [(("name" : Str), v)]) := ⟨_, hns.at (fun o z => (gk d M.dne).trans z), fun f => rel_name rv f⟩
    have J : Inv X pins σ (upd H1 d (.xd [(("name" : Str), v)])) ⟨G', g, dr, tk', os⟩ := I1.laid (t' := tk') old M.dbig ob
    refine ⟨e, _, _, ⟨G', g, dr, tk', os⟩, _, .ref C, some d, rfl, J, fun b o z => ?_, ge, hoe, ⟨rfl, rfl⟩, rfl, rfl, ?_, rfl, I1.bare, raises_own T.exC T.tyC, q1 d (I1.hok.fresh M.dbig)⟩
    · by_cases hb : b = e
      · have z' : G'.get? b = some o := z
        rw [hb, ge] at z'
        cases z'
      · exact (gk b hb).symm.trans z
    · rw [upd_ne (Ne.symm M.dne)]
      exact I1.hok.fresh M.new
end
end Sup
end Ka
/-! What the errors are; find_named, put_named, drop_named, craft_of, site_of. -/
namespace Ka
open PySem PySem.Spec PyProof.Rows L2
theorem z_craft : Sup.Txt s_NoSuchCraft_init "NoSuchCraft.__init__" ⟨11, 17, 11, 21⟩ ⟨11, 23, 11, 27⟩ ⟨12, 8, 12, 13⟩ ⟨12, 8, 12, 15⟩ ⟨12, 8, 12, 24⟩ ⟨12, 25, 12, 29⟩ ⟨12, 8, 12, 30⟩ ⟨12, 8, 12, 30⟩ ⟨13, 8, 13, 12⟩ ⟨13, 8, 13, 17⟩ ⟨13, 20, 13, 24⟩ ⟨13, 8, 13, 24⟩ :=
  ⟨rfl, rfl, rfl, fun _ _ _ _ => rfl⟩
theorem z_site : Sup.Txt s_NoSuchSite_init "NoSuchSite.__init__" ⟨16, 17, 16, 21⟩ ⟨16, 23, 16, 27⟩ ⟨17, 8, 17, 13⟩ ⟨17, 8, 17, 15⟩ ⟨17, 8, 17, 24⟩ ⟨17, 25, 17, 29⟩ ⟨17, 8, 17, 30⟩ ⟨17, 8, 17, 30⟩ ⟨18, 8, 18, 12⟩ ⟨18, 8, 18, 17⟩ ⟨18, 20, 18, 24⟩ ⟨18, 8, 18, 24⟩ :=
  ⟨rfl, rfl, rfl, fun _ _ _ _ => rfl⟩
/-- a written empty tuple -/
def EmpT (K : PySem.W.Frag) (a : Addr) : Prop := ∃ (o : Obj) (its : Array Value) (n : Nat), K.lookup a = some o ∧ o.cls = .type "tuple" ∧ o.data = .seq its n ∧ its.size ≤ sizeLine ∧ Vals [] its.toList
theorem EmpT.sq {K : PySem.W.Frag} {a : Addr} (h : EmpT K a) (H : Hp) : SqT K H a [] := .inr h
def empB (K : PySem.W.Frag) (a : Addr) : Bool := match K.lookup a with
  | some ⟨.type c, _, .seq its _, _⟩ => decide (c = "tuple") && its.toList.isEmpty
  | _ => false
theorem empB_ok {K : PySem.W.Frag} {a : Addr} (h : empB K a = true) : EmpT K a := by
  unfold empB at h
  split at h
  · rename_i c dd its n sl e
    obtain ⟨h1, h2⟩ := Bool.and_eq_true_iff.mp h
    have h3 : its.toList = [] := List.isEmpty_iff.mp h2
    have h4 : its.size = 0 := by
      rw [← Array.length_toList, h3]
      rfl
    refine ⟨_, its, n, e, ?_, rfl, by rw [h4]; exact Nat.zero_le _, ?_⟩
    · show Value.type c = .type "tuple"
      rw [of_decide_eq_true h1]
    · rw [h3]
      exact .nil
  · cases h
def fnm : EditM → Str
  | .setBody _ => "set_body"
  | .setStride _ => "set_stride"
  | .setFine _ => "set_fineness"
  | .addCraft _ => "add_craft"
  | .dropCraft _ => "drop_craft"
  | .addSite _ => "add_site"
  | .dropSite _ => "drop_site"
  | .setDrift _ _ => "set_drift"
  | .addBurn _ _ => "add_burn"
  | .dropBurn _ _ => "drop_burn"
  | .addSight _ _ => "add_sighting"
  | .dropSight _ _ => "drop_sighting"
def isOne : EditM → Bool
  | .setBody _ => true
  | .setStride _ => true
  | .setFine _ => true
  | .addCraft _ => true
  | .dropCraft _ => true
  | .addSite _ => true
  | .dropSite _ => true
  | _ => false
/-- the facts, with those of the two errors that bear a name, the defaults, the tables' entries -/
structure TxX (P : Program) (w : World) (K : PySem.W.Frag) (mg : Str → Option Value) : Prop where
  t : Txt w K mg
  sc : ∃ fI, Sup.SupC P K (He.ga K "NoSuchCraft") fI "NoSuchCraft.__init__" s_NoSuchCraft_init
  ss : ∃ fI, Sup.SupC P K (He.ga K "NoSuchSite") fI "NoSuchSite.__init__" s_NoSuchSite_init
  sup : (P.main.scope.names.lookup ("super" : Str)).isSome = false
  fc : XfC K (He.ga K "NoSuchCraft")
  fs : XfC K (He.ga K "NoSuchSite")
  e0 : EmpT K (He.dflAt ("Craft", some "__init__") 0 K)
  e1 : EmpT K (He.dflAt ("Craft", some "__init__") 1 K)
  d0 : EmpT K (He.dflAt ("Contents", some "__init__") 0 K)
  d1 : EmpT K (He.dflAt ("Contents", some "__init__") 1 K)
  one : ∀ e, isOne e = true → PySem.W.nsIn K (He.ga K "ONE") (word e) = some (some (.ref (He.ga K (fnm e))))
  two : ∀ e, isOne e = false → PySem.W.nsIn K (He.ga K "ONE") (word e) = some Option.none ∧ PySem.W.nsIn K (He.ga K "TWO") (word e) = some (some (.ref (He.ga K (fnm e))))
/-- how an error lies -/
def ErrAt (K : PySem.W.Frag) (H : Hp) : ErrM → Value → Option Addr → Prop
  | .noCraft n, c, d => c = .ref (He.ga K "NoSuchCraft") ∧ ∃ dd, d = some dd ∧ H dd = some (.xd [(("name" : Str), .str n)])
  | .noSite n, c, d => c = .ref (He.ga K "NoSuchSite") ∧ ∃ dd, d = some dd ∧ H dd = some (.xd [(("name" : Str), .str n)])
  | .before, c, _ => c = .ref (He.ga K "BeforeStart")
  | .overlap, c, _ => c = .ref (He.ga K "BurnsOverlap")
  | .many, c, _ => c = .ref (He.ga K "TooMany")
  | .noBurn, c, _ => c = .ref (He.ga K "NoSuchBurn")
  | .noSight, c, _ => c = .ref (He.ga K "NoSuchSighting")
section
variable {P : Program} {w : World} {K : PySem.W.Frag} {mg : Str → Option Value} {base : Heap}
/-- a thing with a name -/
def NamAt (K : PySem.W.Frag) (H : Hp) (v : V) (n : Str) : Prop := ∃ p, v = V.ref p ∧ FldAt K H p "name" (.str n)
theorem nam_craft {H : Hp} {v : V} {c : CraftM} (h : CraftAt K H v c) : NamAt K H v c.name := by
  obtain ⟨p, e, h⟩ := h
  exact ⟨p, e, h.fn⟩
theorem nam_site {H : Hp} {v : V} {c : SiteM} (h : SiteAt K H v c) : NamAt K H v c.name := by
  obtain ⟨p, e, h⟩ := h
  exact ⟨p, e, h.fn⟩
/-- the first of this name -/
def pick (f : V → Str) (n : Str) : List V → V
  | [] => .non
  | v :: r => if f v = n then v else pick f n r
/-- the name that stands there -/
def nmV (H : Hp) (v : V) : Str := match fldV H "name" v with
  | .str z => z
  | _ => ⟨#[]⟩
theorem NamAt.nm {H : Hp} {v : V} {n : Str} (h : NamAt K H v n) : nmV H v = n := by
  obtain ⟨p, rfl, h⟩ := h
  unfold nmV
  rw [h.val]
/-! ### find_named(rows, name) -/
def spFind (K : PySem.W.Frag) : Sp := fun vs H Q _ => ∃ (p : Addr) (n : Str) (xs : List V), vs = [.ref p, .str n] ∧ SqT K H p xs ∧ (∀ v ∈ xs, NamAt K H v (nmV H v)) ∧ Q (pick (nmV H) n xs) H
theorem sc_find : FnScope ["rows", "name", "row"] ["rows", "name"] (defScope s_find_named) := ⟨rfl, rfl, rfl, by decide +kernel, rfl, by decide +kernel, by decide +kernel⟩
theorem k_find (T : Txt w K mg) : Kal P w K mg base CX0 1 "find_named" (spFind K) [] := by
  refine kal0 T.f_find_named T.g_find_named sc_find (fun _ _ _ _ _ _ us hl => match us, hl with | [_, _], _ => rfl) (fun vs H Q E h => ?_) (fun cdv A outer s H vs Q E hr h => ?_)
  · obtain ⟨p, n, xs, rfl, _⟩ := h
    rfl
  · obtain ⟨p, n, xs, rfl, hp, hn, k⟩ := h
    refine ⟨_, pss_cons (ps_for PassesOwn.never rfl (pi_tup (pv 0)) (pg_name (i := 2) sc_find.nd rfl (Or.inl rfl)) (pss_one (ps_if (pt_cmpR op_eq (pe_fld (pv 2) rfl) (pv 1) (nomark _)) (pss_one (ps_ret (pv 2))) pss_nil)))
      (pss_one (ps_ret pe_non)), ?_⟩
    refine ⟨_, rfl, p, rfl, ⟨_, hp⟩, for_tup (K := K) (a := p) (xs := xs) (fun i σ H' => ∃ v : Option V, σ = [some (.ref p), some (.str n), v] ∧ H' = H ∧ pick (nmV H) n xs = pick (nmV H) n (xs.drop i)) ⟨none, rfl, rfl, rfl⟩ (fun i σ H' _ ⟨_, _, e, _⟩ => by rw [e]; exact hp) ?_ ?_⟩
    · rintro i y σ H' hi ⟨v, rfl, rfl, e⟩
      obtain ⟨q, rfl, hq⟩ := hn y (List.mem_of_getElem? hi)
      have ed : xs.drop i = .ref q :: xs.drop (i + 1) := by
        obtain ⟨hl, he⟩ := List.getElem?_eq_some_iff.mp hi
        rw [List.drop_eq_getElem_cons hl, he]
      rw [ed] at e
      refine ⟨_, rfl, rdF hq ⟨_, rfl, rfl, ?_⟩⟩
      refine tk2 (fun c => iteT ⟨_, rfl, ?_⟩) (fun c => iteF ⟨_, rfl, rfl, ?_⟩)
      · have c' : nmV H' (.ref q) = n := V.str.inj c
        have e2 : pick (nmV H') n xs = .ref q := by rw [e]; unfold pick; rw [if_pos c']
        rw [e2] at k
        exact k
      · have c' : ¬ nmV H' (.ref q) = n := fun z => c (congrArg V.str z)
        rw [e]
        show (if nmV H' (.ref q) = n then _ else _) = _
        rw [if_neg c']
    · rintro σ H' ⟨v, rfl, rfl, e⟩
      rw [List.drop_length] at e
      have e2 : pick (nmV H') n xs = .non := e
      rw [e2] at k
      exact k
end
end Ka
/-! Comprehensions over tuples and lists; put_named, drop_named. -/
namespace Ka
open PySem PySem.Spec PyProof.Rows L2
section
variable {K : PySem.W.Frag} {a : Addr} {xs : List V} {g : TG} {tt : TT} {te : TE} {vs : List Nat} {σ : L2.St} {H1 : Hp} {Q : VK}
/-- what holds while the new list grows -/
def Grow (Rl : Hp → V → V → Prop) (f : V → Bool) (H1 : Hp) (D : Addr) (xs : List V) (i : Nat) (H : Hp) : Prop := Same H1 H ∧ ∃ acc, H D = some (.lst acc) ∧ acc.length ≤ i ∧ Paired (Rl H) acc ((xs.take i).filter f)
theorem grow0 {Rl : Hp → V → V → Prop} {f : V → Bool} {D : Addr} (hD : H1 D = Option.none) : Grow Rl f H1 D xs 0 (upd H1 D (.lst [])) := ⟨Same.new hD, [], upd_same, Nat.le_refl _, .nil⟩
theorem grow_no {Rl : Hp → V → V → Prop} {f : V → Bool} {D : Addr} {i : Nat} {x : V} {H : Hp} (hx : xs[i]? = some x) (hf : f x = false) (h : Grow Rl f H1 D xs i H) : Grow Rl f H1 D xs (i + 1) H := by
  obtain ⟨s, acc, h1, h2, h3⟩ := h
  refine ⟨s, acc, h1, Nat.le_succ_of_le h2, ?_⟩
  rw [take_snoc hx, List.filter_append, List.filter_cons, hf, if_neg Bool.false_ne_true, List.filter_nil, List.append_nil]
  exact h3
theorem grow_yes {Rl : Hp → V → V → Prop} (st : ∀ H H' y x, Keep H H' → Rl H y x → Rl H' y x) {f : V → Bool} {D : Addr} (hD : H1 D = Option.none) {i : Nat} {x y : V} {H H4 : Hp} (hx : xs[i]? = some x) (hf : f x = true) (h : Grow Rl f H1 D xs i H) (s4 : Same H H4) (r : Rl H4 y x) (hi : i < xs.length) (hz : xs.length < sizeLine) :
    ∃ acc, H4 D = some (.lst acc) ∧ acc.length < sizeLine ∧ Grow Rl f H1 D xs (i + 1) (upd H4 D (.lst (acc ++ [y]))) := by
  obtain ⟨s, acc, h1, h2, h3⟩ := h
  have e4 := s4 _ _ h1
  refine ⟨acc, e4, Nat.lt_of_le_of_lt h2 (Nat.lt_trans hi hz), Same.mut (s.trans s4) hD, _, upd_same, ?_, ?_⟩
  · rw [List.length_append, List.length_singleton]
    omega
  · rw [take_snoc hx, List.filter_append, List.filter_cons, hf, if_pos rfl, List.filter_nil]
    exact pd_append (pd_mono (fun a b q => st _ _ _ _ ((Keep.of s4).trans (Keep.lst e4)) q) h3) (.cons (st _ _ _ _ (Keep.lst e4) r) .nil)
/-- one turn, as it is to be read -/
def Turn (Rl : Hp → V → V → Prop) (f : V → Bool) (H1 : Hp) (xs : List V) (g : TG) (tt : TT) (te : TE) (vs : List Nat) (σ : L2.St) : Prop :=
  ∀ (i : Nat) (x : V) (H : Hp) (N : Hp → Prop) (Y : VK), xs[i]? = some x → Same H1 H → (f x = false → N H) → (∀ y H4, f x = true → Same H H4 → Rl H4 y x → Y y H4) → g x (wipe σ vs) H fun σ2 H2 => wipe σ2 vs = wipe σ vs ∧ tt σ2 H2 fun b H3 => if b = true then te σ2 H3 Y else N H3
theorem lcT (Rl : Hp → V → V → Prop) (st : ∀ H H' y x, Keep H H' → Rl H y x → Rl H' y x) (f : V → Bool) (hx : SqT K H1 a xs) (hz : xs.length < sizeLine) (hs : Turn Rl f H1 xs g tt te vs σ)
    (k : ∀ D H' ys, Same H1 H' → H1 D = Option.none → H' D = some (.lst ys) → ys.length ≤ xs.length → Paired (Rl H') ys (xs.filter f) → Q (.ref D) H') :
    ∀ D, H1 D = Option.none → ∃ W : Nat → Nat → Hp → Prop, (∃ m, W 0 m (upd H1 D (.lst []))) ∧ ∀ i m H, W i m H →
      ((Itt K a).stop i H ∧ Q (.ref D) H) ∨ ((Itt K a).go i H ∧ ∃ Nx : Hp → Prop, (∀ H', Nx H' → ∃ m', m' < m ∧ W (i + 1) m' H') ∧ ∀ x H', (Itt K a).yld i H x H' → g x (wipe σ vs) H' fun σ2 H2 => wipe σ2 vs = wipe σ vs ∧ tt σ2 H2 fun b H3 =>
        if b = true then te σ2 H3 fun y H4 => ∃ acc, H4 D = some (.lst acc) ∧ acc.length < sizeLine ∧ Nx (upd H4 D (.lst (acc ++ [y]))) else Nx H3) := fun D hD => by
  refine lc_tup (xs := xs) (Grow Rl f H1 D xs) (grow0 hD) (fun i H _ h => keepT (Keep.of h.1) hx) (fun i x H hi h => ?_) (fun H h => ?_)
  · exact hs i x H _ _ hi h.1 (fun hf => grow_no hi hf h) fun y H4 hf s4 r => grow_yes st hD hi hf h s4 r (List.getElem?_eq_some_iff.mp hi).1 hz
  · obtain ⟨s, acc, h1, h2, h3⟩ := h
    rw [List.take_length] at h3
    exact k D H acc s hD h1 h2 h3
theorem lcL (Rl : Hp → V → V → Prop) (st : ∀ H H' y x, Keep H H' → Rl H y x → Rl H' y x) (f : V → Bool) (hx : SqL K H1 a xs) (hz : xs.length < sizeLine) (hs : Turn Rl f H1 xs g tt te vs σ)
    (k : ∀ D H' ys, Same H1 H' → H1 D = Option.none → H' D = some (.lst ys) → ys.length ≤ xs.length → Paired (Rl H') ys (xs.filter f) → Q (.ref D) H') :
    ∀ D, H1 D = Option.none → ∃ W : Nat → Nat → Hp → Prop, (∃ m, W 0 m (upd H1 D (.lst []))) ∧ ∀ i m H, W i m H →
      ((Itl K a).stop i H ∧ Q (.ref D) H) ∨ ((Itl K a).go i H ∧ ∃ Nx : Hp → Prop, (∀ H', Nx H' → ∃ m', m' < m ∧ W (i + 1) m' H') ∧ ∀ x H', (Itl K a).yld i H x H' → g x (wipe σ vs) H' fun σ2 H2 => wipe σ2 vs = wipe σ vs ∧ tt σ2 H2 fun b H3 =>
        if b = true then te σ2 H3 fun y H4 => ∃ acc, H4 D = some (.lst acc) ∧ acc.length < sizeLine ∧ Nx (upd H4 D (.lst (acc ++ [y]))) else Nx H3) := fun D hD => by
  refine lc_list (xs := xs) (Grow Rl f H1 D xs) (grow0 hD) (fun i H _ h => sameL h.1 hx) (fun i x H hi h => ?_) (fun H h => ?_)
  · exact hs i x H _ _ hi h.1 (fun hf => grow_no hi hf h) fun y H4 hf s4 r => grow_yes st hD hi hf h s4 r (List.getElem?_eq_some_iff.mp hi).1 hz
  · obtain ⟨s, acc, h1, h2, h3⟩ := h
    rw [List.take_length] at h3
    exact k D H acc s hD h1 h2 h3
/-- the item itself -/
def Itself : Hp → V → V → Prop := fun _ y x => y = x
theorem pd_itself {H : Hp} : ∀ {ys xs : List V}, Paired (Itself H) ys xs → ys = xs
  | _, _, .nil => rfl
  | _, _, .cons r t => by rw [show _ = _ from r, pd_itself t]
/-- the filter of a tuple -/
theorem lcTf (f : V → Bool) (hx : SqT K H1 a xs) (hz : xs.length < sizeLine) (hs : Turn Itself f H1 xs g tt te vs σ)
    (k : ∀ D H', Same H1 H' → H1 D = Option.none → H' D = some (.lst (xs.filter f)) → Q (.ref D) H') :
    ∀ D, H1 D = Option.none → ∃ W : Nat → Nat → Hp → Prop, (∃ m, W 0 m (upd H1 D (.lst []))) ∧ ∀ i m H, W i m H →
      ((Itt K a).stop i H ∧ Q (.ref D) H) ∨ ((Itt K a).go i H ∧ ∃ Nx : Hp → Prop, (∀ H', Nx H' → ∃ m', m' < m ∧ W (i + 1) m' H') ∧ ∀ x H', (Itt K a).yld i H x H' → g x (wipe σ vs) H' fun σ2 H2 => wipe σ2 vs = wipe σ vs ∧ tt σ2 H2 fun b H3 =>
        if b = true then te σ2 H3 fun y H4 => ∃ acc, H4 D = some (.lst acc) ∧ acc.length < sizeLine ∧ Nx (upd H4 D (.lst (acc ++ [y]))) else Nx H3) :=
  lcT Itself (fun _ _ _ _ _ e => e) f hx hz hs fun D H' ys s hD h _ p => k D H' s hD (by rw [← pd_itself p]; exact h)
theorem lcLf (f : V → Bool) (hx : SqL K H1 a xs) (hz : xs.length < sizeLine) (hs : Turn Itself f H1 xs g tt te vs σ)
    (k : ∀ D H', Same H1 H' → H1 D = Option.none → H' D = some (.lst (xs.filter f)) → Q (.ref D) H') :
    ∀ D, H1 D = Option.none → ∃ W : Nat → Nat → Hp → Prop, (∃ m, W 0 m (upd H1 D (.lst []))) ∧ ∀ i m H, W i m H →
      ((Itl K a).stop i H ∧ Q (.ref D) H) ∨ ((Itl K a).go i H ∧ ∃ Nx : Hp → Prop, (∀ H', Nx H' → ∃ m', m' < m ∧ W (i + 1) m' H') ∧ ∀ x H', (Itl K a).yld i H x H' → g x (wipe σ vs) H' fun σ2 H2 => wipe σ2 vs = wipe σ vs ∧ tt σ2 H2 fun b H3 =>
        if b = true then te σ2 H3 fun y H4 => ∃ acc, H4 D = some (.lst acc) ∧ acc.length < sizeLine ∧ Nx (upd H4 D (.lst (acc ++ [y]))) else Nx H3) :=
  lcL Itself (fun _ _ _ _ _ e => e) f hx hz hs fun D H' ys s hD h _ p => k D H' s hD (by rw [← pd_itself p]; exact h)
end
/-! ### the rules -/
def tUp (t : TE) : TE := fun σ H Q => ∃ Q' : VK, t σ H Q' ∧ ∀ v H', Q' v H' → Q v H'
/-- over a tuple, filtered -/
def tLcTf (K : PySem.W.Frag) (ta : TE) (g : TG) (tt : TT) (te : TE) (vs : List Nat) : TE := fun σ H Q => ta σ H fun x H1 => ∃ (p : Addr) (xs : List V) (f : V → Bool), x = .ref p ∧ SqT K H1 p xs ∧ xs.length < sizeLine ∧ Turn Itself f H1 xs g tt te vs σ ∧
  ∀ D H', Same H1 H' → H1 D = Option.none → H' D = some (.lst (xs.filter f)) → Q (.ref D) H'
/-- over a list, filtered -/
def tLcLf (K : PySem.W.Frag) (ta : TE) (g : TG) (tt : TT) (te : TE) (vs : List Nat) : TE := fun σ H Q => ta σ H fun x H1 => ∃ (p : Addr) (xs : List V) (f : V → Bool), x = .ref p ∧ SqL K H1 p xs ∧ xs.length < sizeLine ∧ Turn Itself f H1 xs g tt te vs σ ∧
  ∀ D H', Same H1 H' → H1 D = Option.none → H' D = some (.lst (xs.filter f)) → Q (.ref D) H'
/-- one turn of a map -/
def TurnM {α : Type} (Rl : Hp → V → α → Prop) (H1 : Hp) (xs : List V) (l : List α) (j : Nat) (te : TE) (σ : L2.St) : Prop :=
  ∀ (i : Nat) (x : V) (m : α) (H : Hp) (Y : VK), xs[i]? = some x → l[i]? = some m → Same H1 H → (∀ y H4, Same H H4 → Rl H4 y m → Y y H4) → te ((σ.set j Option.none).set j (some x)) H Y
/-- over a tuple, each item made anew -/
def tLcTm (K : PySem.W.Frag) (ta : TE) (j : Nat) (te : TE) : TE := fun σ H Q => ta σ H fun x H1 => ∃ (p : Addr) (xs : List V) (α : Type) (l : List α) (Rl : Hp → V → α → Prop), x = .ref p ∧ SqT K H1 p xs ∧ xs.length = l.length ∧ l.length < sizeLine ∧ (∀ H H' y x, Keep H H' → Rl H y x → Rl H' y x) ∧ TurnM Rl H1 xs l j te σ ∧
  ∀ D H' ys, Same H1 H' → H1 D = Option.none → H' D = some (.lst ys) → Paired (Rl H') ys l → Q (.ref D) H'
section
variable {X : Cx} {K : PySem.W.Frag} {ta : TE} {g g2 : TG} {tt : TT} {te : TE} {vs : List Nat} {e : Expr} {t t' : TE} {st : Stmt}
theorem pe_up (h : PE X e t) : PE X e (tUp t) := ⟨fun pins s σ H Q I ⟨Q', a, b⟩ => wpAny_mono (h.run pins s σ H Q' I a) (fun u s' ⟨v, H', I', r, q⟩ => ⟨v, H', I', r, b _ _ q⟩) fun _ _ z => z⟩
theorem pe_of (h : PE X e t) (i : ∀ σ H Q, t' σ H Q → t σ H Q) : PE X e t' := ⟨fun pins s σ H Q I a => h.run pins s σ H Q I (i σ H Q a)⟩
theorem ps_of {u u' : TS} (h : PS X st u) (i : ∀ D σ H, u' D σ H → u D σ H) : PS X st u' := ⟨fun pins s σ H D I a => h.run pins s σ H D I (i D σ H a)⟩
theorem in_Tf (σ : L2.St) (H : Hp) (Q : VK) (h : tLcTf K ta g tt te vs σ H Q) : tLc (iTup K (tUp ta)) g tt te vs σ H Q :=
  ⟨_, h, fun v H1 ⟨p, xs, f, e, hx, hz, hs, k⟩ => ⟨p, e, ⟨xs, hx⟩, lcTf f hx hz hs k⟩⟩
theorem in_Lf (σ : L2.St) (H : Hp) (Q : VK) (h : tLcLf K ta g tt te vs σ H Q) : tLc (iList K (tUp ta)) g tt te vs σ H Q :=
  ⟨_, h, fun v H1 ⟨p, xs, f, e, hx, hz, hs, k⟩ => ⟨p, e, ⟨xs, hx⟩, lcLf f hx hz hs k⟩⟩
theorem in_Tm {j : Nat} (σ : L2.St) (H : Hp) (Q : VK) (h : tLcTm K ta j te σ H Q) : tLc (iTup K (tUp ta)) (gName j) tYes te [j] σ H Q := by
  refine ⟨_, h, fun v H1 ⟨p, xs, α, l, Rl, e, hx, hl, hz, st, hs, k⟩ => ⟨p, e, ⟨xs, hx⟩, fun D hD => ?_⟩⟩
  refine lc_tup (xs := xs) (fun i H => Same H1 H ∧ ∃ acc, H D = some (.lst acc) ∧ acc.length ≤ i ∧ Paired (Rl H) acc (l.take i)) ⟨Same.new hD, [], upd_same, Nat.le_refl _, .nil⟩ (fun i H _ h => keepT (Keep.of h.1) hx) (fun i x H hi h => ?_) (fun H h => ?_)
  · obtain ⟨s, acc, h1, h2, h3⟩ := h
    have hi2 : i < l.length := by
      rw [← hl]
      exact (List.getElem?_eq_some_iff.mp hi).1
    have hm : l[i]? = some l[i] := List.getElem?_eq_getElem hi2
    refine ⟨?_, hs i x l[i] H _ hi hm s fun y H4 s4 r => ?_⟩
    · show ((σ.set j Option.none).set j (some x)).set j Option.none = σ.set j Option.none
      rw [List.set_set, List.set_set]
    · have e4 := s4 _ _ h1
      refine ⟨acc, e4, Nat.lt_of_le_of_lt h2 (Nat.lt_trans hi2 hz), Same.mut (s.trans s4) hD, _, upd_same, ?_, ?_⟩
      · rw [List.length_append, List.length_singleton]
        omega
      · rw [take_snoc hm]
        exact pd_append (pd_mono (fun a b q => st _ _ _ _ ((Keep.of s4).trans (Keep.lst e4)) q) h3) (.cons (st _ _ _ _ (Keep.lst e4) r) .nil)
  · obtain ⟨s, acc, h1, h2, h3⟩ := h
    rw [hl, List.take_length] at h3
    exact k D H acc s hD h1 h3
theorem pe_Tf (h : PE X e (tLc (iTup X.K (tUp ta)) g tt te vs)) : PE X e (tLcTf X.K ta g tt te vs) := pe_of h in_Tf
theorem pe_Lf (h : PE X e (tLc (iList X.K (tUp ta)) g tt te vs)) : PE X e (tLcLf X.K ta g tt te vs) := pe_of h in_Lf
theorem pe_Tm {j : Nat} (h : PE X e (tLc (iTup X.K (tUp ta)) (gName j) tYes te [j])) : PE X e (tLcTm X.K ta j te) := pe_of h in_Tm
theorem ps_Tf (h : PS X st (tAsg (tLc (iTup X.K (tUp ta)) g tt te vs) g2)) : PS X st (tAsg (tLcTf X.K ta g tt te vs) g2) := ps_of h fun D σ H q => in_Tf σ H _ q
theorem ps_Lf (h : PS X st (tAsg (tLc (iList X.K (tUp ta)) g tt te vs) g2)) : PS X st (tAsg (tLcLf X.K ta g tt te vs) g2) := ps_of h fun D σ H q => in_Lf σ H _ q
theorem ps_Tm {j : Nat} (h : PS X st (tAsg (tLc (iTup X.K (tUp ta)) (gName j) tYes te [j]) g2)) : PS X st (tAsg (tLcTm X.K ta j te) g2) := ps_of h fun D σ H q => in_Tm σ H _ q
end
/-- a comparison with the two ways of a turn -/
theorem tkf {c : Prop} [Decidable c] {b : Bool} {R : Bool → Prop} (e : b = decide c) (h1 : b = true → R true) (h2 : b = false → R false) : ∃ k, V.bl (decide c) = V.bl k ∧ R k :=
  tk2 (fun h => h1 (by rw [e]; exact decide_eq_true h)) (fun h => h2 (by rw [e]; exact decide_eq_false h))
theorem tknf {c : Prop} [Decidable c] {b : Bool} {R : Bool → Prop} (e : b = !decide c) (h1 : b = true → R true) (h2 : b = false → R false) : ∃ k, V.bl (!decide c) = V.bl k ∧ R k := by
  by_cases h : c
  · exact tkNT h (h2 (by rw [e, decide_eq_true h]; rfl))
  · exact tkNF h (h1 (by rw [e, decide_eq_false h]; rfl))
section
variable {P : Program} {w : World} {K : PySem.W.Frag} {mg : Str → Option Value} {base : Heap}
theorem FldAt.same {H H' : Hp} {p : Addr} {f : Str} {v : V} (s : Same H H') (h : FldAt K H p f v) : FldAt K H' p f v := h.keep (Keep.of s)
theorem small {n : Nat} (h : n ≤ 100) : n < sizeLine := Nat.lt_of_le_of_lt h (by decide)
theorem small2 {n : Nat} (h : n ≤ 1000) : n ≤ sizeLine := Nat.le_trans h (by decide)
/-! ### put_named(rows, thing) -/
def nmlt (H : Hp) (a b : V) : Bool := nlt (nmV H a) (nmV H b)
def spPut (K : PySem.W.Frag) : Sp := fun vs H Q _ => ∃ (p : Addr) (v : V) (xs : List V), vs = [.ref p, v] ∧ SqT K H p xs ∧ xs.length ≤ 100 ∧ (∀ x ∈ xs, NamAt K H x (nmV H x)) ∧ NamAt K H v (nmV H v) ∧ ∀ q H', Same H H' → SqT K H' q (put (nmlt H) xs v) → Q (.ref q) H'
theorem sc_put : FnScope ["rows", "thing", "before", "after", "row"] ["rows", "thing"] (defScope s_put_named) := ⟨rfl, rfl, rfl, by decide +kernel, rfl, by decide +kernel, by decide +kernel⟩
theorem k_put (T : Txt w K mg) : Kal P w K mg base CX0 1 "put_named" (spPut K) [] := by
  refine kal0 T.f_put_named T.g_put_named sc_put (fun _ _ _ _ _ _ us hl => match us, hl with | [_, _], _ => rfl) (fun vs H Q E h => ?_) (fun cdv A outer s H vs Q E hr h => ?_)
  · obtain ⟨p, v, xs, rfl, _⟩ := h
    rfl
  · obtain ⟨p, v, xs, rfl, hp, hl, hn, hv, k⟩ := h
    refine ⟨_, pss_cons (ps_Tf (ps_setLc (i := 2) (own := [("row", 4)]) (g := gName 4) (tt := tTest (tOp _ (tFld K (tVar 4) "name") (tFld K (tVar 1) "name"))) (by rfl) sc_put.nd rfl rfl (sw_true rfl rfl rfl (by decide +kernel)) (pi_tup (pe_up (pv 0))) (blkOk_by (N := ["rows", "thing", "before", "after", "row"]) (sc := defScope s_put_named) (by decide +kernel))
        (fun _ _ _ _ _ => pg_name (i := 4) sc_put.nd rfl (Or.inl rfl)) (fun _ _ _ _ _ => pts_one (pt_cmpR op_lt_str (pe_fld (pv 4) rfl) (pe_fld (pv 1) rfl) (nomark _))) (fun _ _ _ _ _ => pv 4)))
      (pss_cons (ps_Tf (ps_setLc (i := 3) (own := [("row", 4)]) (g := gName 4) (tt := tTest (tOp _ (tFld K (tVar 4) "name") (tFld K (tVar 1) "name"))) (by rfl) sc_put.nd rfl rfl (sw_true rfl rfl rfl (by decide +kernel)) (pi_tup (pe_up (pv 0))) (blkOk_by (N := ["rows", "thing", "before", "after", "row"]) (sc := defScope s_put_named) (by decide +kernel))
        (fun _ _ _ _ _ => pg_name (i := 4) sc_put.nd rfl (Or.inl rfl)) (fun _ _ _ _ _ => pts_one (pt_cmpR op_gt_str (pe_fld (pv 4) rfl) (pe_fld (pv 1) rfl) (nomark _))) (fun _ _ _ _ _ => pv 4)))
      (pss_one (ps_ret (pe_callTy call_tupleS (by rfl) T.n_tuple (by decide +kernel) (pa_cons (pe_op op_catS (pe_op op_catS (pv 2) (pe_lst (pa_cons (pv 1) pa_nil))) (pv 3)) pa_nil))))), ?_⟩
    obtain ⟨pt, rfl, fv⟩ := hv
    refine ⟨_, rfl, p, xs, fun x => nmlt H x (.ref pt), rfl, hp, small hl, (fun i x H' N Y hi s no yes => ?_), fun D H2 s2 hD hb => ?_⟩
    · obtain ⟨q, rfl, hq⟩ := hn x (List.mem_of_getElem? hi)
      refine ⟨rfl, _, rfl, rdF (hq.same s) ⟨_, rfl, rdF (fv.same s) ⟨_, _, rfl, rfl, tkf (b := nmlt H (.ref q) (.ref pt)) rfl (fun h => ?_) (fun h => no h)⟩⟩⟩
      exact ⟨_, rfl, yes _ _ h (Same.refl _) rfl⟩
    · refine ⟨_, rfl, p, xs, fun x => nmlt H (.ref pt) x, rfl, keepT (Keep.of s2) hp, small hl, (fun i x H' N Y hi s no yes => ?_), fun D3 H3 s3 hD3 hc => ?_⟩
      · obtain ⟨q, rfl, hq⟩ := hn x (List.mem_of_getElem? hi)
        refine ⟨rfl, _, rfl, rdF (hq.same (s2.trans s)) ⟨_, rfl, rdF (fv.same (s2.trans s)) ⟨_, _, rfl, rfl, tkf (b := nmlt H (.ref pt) (.ref q)) rfl (fun h => ?_) (fun h => no h)⟩⟩⟩
        exact ⟨_, rfl, yes _ _ h (Same.refl _) rfl⟩
      · have l1 := List.length_filter_le (fun x => nmlt H x (.ref pt)) xs
        have l2 := List.length_filter_le (fun x => nmlt H (.ref pt) x) xs
        refine ⟨_, rfl, _, rfl, by show 1 ≤ sizeLine; decide, fun l hnl => ?_⟩
        have s4 : Same H3 (upd H3 l (.lst [.ref pt])) := Same.new hnl
        refine ⟨D, l, _, _, rfl, rfl, s4 _ _ (s3 _ _ hb), upd_same, small2 (by rw [List.length_singleton]; omega), fun q5 H5 s5 n5 h5 => ?_⟩
        refine ⟨_, rfl, q5, D3, _, _, rfl, rfl, h5, s5 _ _ (s4 _ _ hc), small2 (by rw [List.length_append, List.length_singleton]; omega), fun q6 H6 s6 n6 h6 => ?_⟩
        exact ⟨q6, _, rfl, .inl (lstOf h6), fun q7 H7 s7 h7 => k q7 H7 (s2.trans (s3.trans (s4.trans (s5.trans (s6.trans s7))))) h7⟩
/-! ### drop_named(rows, name) -/
def spDrop (K : PySem.W.Frag) : Sp := fun vs H Q _ => ∃ (p : Addr) (n : Str) (xs : List V), vs = [.ref p, .str n] ∧ SqT K H p xs ∧ xs.length ≤ 100 ∧ (∀ x ∈ xs, NamAt K H x (nmV H x)) ∧ ∀ q H', Same H H' → SqT K H' q (xs.filter fun x => !decide (V.str (nmV H x) = V.str n)) → Q (.ref q) H'
theorem sc_drop : FnScope ["rows", "name", "row"] ["rows", "name"] (defScope s_drop_named) := ⟨rfl, rfl, rfl, by decide +kernel, rfl, by decide +kernel, by decide +kernel⟩
theorem k_drop (T : Txt w K mg) : Kal P w K mg base CX0 1 "drop_named" (spDrop K) [] := by
  refine kal0 T.f_drop_named T.g_drop_named sc_drop (fun _ _ _ _ _ _ us hl => match us, hl with | [_, _], _ => rfl) (fun vs H Q E h => ?_) (fun cdv A outer s H vs Q E hr h => ?_)
  · obtain ⟨p, v, xs, rfl, _⟩ := h
    rfl
  · obtain ⟨p, n, xs, rfl, hp, hl, hn, k⟩ := h
    refine ⟨_, pss_one (ps_ret (pe_callTy call_tupleS (by rfl) T.n_tuple (by decide +kernel) (pa_cons (pe_Tf (pe_lc (own := [("row", 2)]) (g := gName 2) (tt := tTest (tOp _ (tFld K (tVar 2) "name") (tVar 1))) (by rfl) sc_drop.nd (pi_tup (pe_up (pv 0))) (blkOk_by (N := ["rows", "name", "row"]) (sc := defScope s_drop_named) (by decide +kernel))
        (fun _ _ _ _ _ => pg_name (i := 2) sc_drop.nd rfl (Or.inl rfl)) (fun _ _ _ _ _ => pts_one (pt_cmpR op_ne (pe_fld (pv 2) rfl) (pv 1) (nomark _))) (fun _ _ _ _ _ => pv 2))) pa_nil))), ?_⟩
    refine ⟨_, rfl, p, xs, fun x => !decide (V.str (nmV H x) = V.str n), rfl, hp, small hl, (fun i x H' N Y hi s no yes => ?_), fun D H2 s2 hD hb => ?_⟩
    · obtain ⟨q, rfl, hq⟩ := hn x (List.mem_of_getElem? hi)
      refine ⟨rfl, _, rfl, rdF (hq.same s) ⟨_, rfl, rfl, tknf (b := !decide (V.str (nmV H (.ref q)) = V.str n)) rfl (fun h => ?_) (fun h => no h)⟩⟩
      exact ⟨_, rfl, yes _ _ h (Same.refl _) rfl⟩
    · exact ⟨D, _, rfl, .inl (lstOf hb), fun q7 H7 s7 h7 => k q7 H7 (s2.trans s7) h7⟩
end
end Ka
/-! craft_of, site_of, with_crafts, with_sites, changed_craft; the data. -/
namespace Ka
open PySem PySem.Spec PyProof.Rows L2
section
variable {P : Program} {w : World} {K : PySem.W.Frag} {mg : Str → Option Value} {base : Heap}
section
variable {α : Type} {R : V → α → Prop} {nm : α → Str} {H : Hp} {n : Str}
theorem all_nam (hn : ∀ v x, R v x → NamAt K H v (nm x)) {vs : List V} {l : List α} (h : Paired R vs l) : ∀ x ∈ vs, NamAt K H x (nmV H x) := fun x hx => by
  obtain ⟨b, _, r⟩ := pd_mem h hx
  have q := hn _ _ r
  rw [q.nm]
  exact q
theorem pick_some (hn : ∀ v x, R v x → NamAt K H v (nm x)) {a : α} : ∀ {vs : List V} {l : List α}, Paired R vs l → l.find? (fun c => decide (nm c = n)) = some a → R (pick (nmV H) n vs) a
  | _, _, .nil, e => by cases e
  | _, _, @Paired.cons _ _ _ v b vs l r t, e => by
    have q := (hn _ _ r).nm
    rw [List.find?_cons] at e
    unfold pick
    rw [q]
    by_cases h : nm b = n
    · rw [decide_eq_true h] at e
      rw [if_pos h]
      rw [← Option.some.inj e]
      exact r
    · rw [decide_eq_false h] at e
      rw [if_neg h]
      exact pick_some hn t e
theorem pick_none (hn : ∀ v x, R v x → NamAt K H v (nm x)) : ∀ {vs : List V} {l : List α}, Paired R vs l → l.find? (fun c => decide (nm c = n)) = Option.none → pick (nmV H) n vs = .non
  | _, _, .nil, e => rfl
  | _, _, @Paired.cons _ _ _ v b vs l r t, e => by
    have q := (hn _ _ r).nm
    rw [List.find?_cons] at e
    unfold pick
    rw [q]
    by_cases h : nm b = n
    · rw [decide_eq_true h] at e
      cases e
    · rw [decide_eq_false h] at e
      rw [if_neg h]
      exact pick_none hn t e
theorem put_pd (hn : ∀ v x, R v x → NamAt K H v (nm x)) {vs : List V} {l : List α} {v : V} {c : α} (h : Paired R vs l) (r : R v c) : Paired R (put (nmlt H) vs v) (put (fun a b => nlt (nm a) (nm b)) l c) := by
  unfold put
  refine pd_append (pd_append (pd_filter (fun a b q => ?_) h) (.cons r .nil)) (pd_filter (fun a b q => ?_) h)
  · unfold nmlt
    rw [(hn _ _ q).nm, (hn _ _ r).nm]
  · unfold nmlt
    rw [(hn _ _ q).nm, (hn _ _ r).nm]
theorem drop_pd (hn : ∀ v x, R v x → NamAt K H v (nm x)) {vs : List V} {l : List α} (h : Paired R vs l) : Paired R (vs.filter fun x => !decide (V.str (nmV H x) = V.str n)) (l.filter fun r => !decide (nm r = n)) := by
  refine pd_filter (fun a b q => ?_) h
  rw [(hn _ _ q).nm]
  by_cases e : nm b = n
  · rw [decide_eq_true e, e, decide_eq_true rfl]
  · rw [decide_eq_false e, decide_eq_false fun z => e (V.str.inj z)]
end
/-! ### craft_of(contents, name), site_of(contents, name) -/
def spCraftOf (K : PySem.W.Frag) : Sp := fun vs H Q E => ∃ (p : Addr) (n : Str) (c : ContM), vs = [.ref p, .str n] ∧ ContP K H p c ∧ (∀ cr, findC c.crafts n = some cr → ∀ q, CraftP K H q cr → Q (.ref q) H) ∧
  (findC c.crafts n = Option.none → ∀ cl d H', Same H H' → ErrAt K H' (.noCraft n) cl d → E cl d H')
theorem sc_craft_of : FnScope ["contents", "name", "craft"] ["contents", "name"] (defScope s_craft_of) := ⟨rfl, rfl, rfl, by decide +kernel, rfl, by decide +kernel, by decide +kernel⟩
theorem k_craft_of (T : TxX P w K mg) : Kal P w K mg base (L2.CX P w) 2 "craft_of" (spCraftOf K) [] := by
  have c1 := k_find (P := P) (base := base) T.t
  refine kalX T.t.f_craft_of T.t.g_craft_of sc_craft_of (fun _ _ _ _ _ _ us hl => match us, hl with | [_, _], _ => rfl) (fun vs H Q E h => ?_) (fun cdv A outer s H vs Q E hr h => ?_)
  · obtain ⟨p, n, c, rfl, _⟩ := h
    rfl
  · obtain ⟨p, n, c, rfl, hp, yes, no⟩ := h
    obtain ⟨fI, sc⟩ := T.sc
    refine ⟨_, pss_cons (ps_set (i := 2) sc_craft_of.nd rfl (Or.inl rfl) (pe_k c1 hr (by decide) (pa_cons (pe_fld (pv 0) rfl) (pa_cons (pv 1) pa_nil))))
      (pss_cons (ps_if (pt_cmpR op_isN (pv 2) pe_non (nomark _)) (pss_one (ps_raise rfl (takes_of rfl rfl rfl rfl) (Sup.pmk_sup sc z_craft T.t.g_NoSuchCraft T.t.n_super T.sup hr (pa_cons (pv 1) pa_nil)))) pss_nil)
      (pss_one (ps_ret (pv 2)))), ?_⟩
    obtain ⟨wv, f1, pc, xs, rfl, hx, hpd⟩ := hp.fc
    refine ⟨_, rfl, rdF f1 ⟨_, rfl, pc, n, xs, rfl, hx, all_nam (nm := CraftM.name) (fun _ _ => nam_craft) hpd, ?_⟩⟩
    cases e : findC c.crafts n with
    | none =>
      have q : pick (nmV H) n xs = .non := pick_none (nm := CraftM.name) (fun _ _ => nam_craft) hpd e
      rw [q]
      exact ⟨_, rfl, rfl, tkT rfl (iteT ⟨_, rfl, _, rfl, fun d hd => no e _ _ _ (Same.new hd) ⟨rfl, d, rfl, upd_same⟩⟩)⟩
    | some cr =>
      have q : CraftAt K H (pick (nmV H) n xs) cr := pick_some (nm := CraftM.name) (fun _ _ => nam_craft) hpd e
      obtain ⟨q1, q2, q3⟩ := q
      rw [q2]
      exact ⟨_, rfl, rfl, tkF (fun z => by cases z) (iteF ⟨_, rfl, yes cr e q1 q3⟩)⟩
def spSiteOf (K : PySem.W.Frag) : Sp := fun vs H Q E => ∃ (p : Addr) (n : Str) (c : ContM), vs = [.ref p, .str n] ∧ ContP K H p c ∧ (∀ cr, findS c.sites n = some cr → ∀ q, SiteP K H q cr → Q (.ref q) H) ∧
  (findS c.sites n = Option.none → ∀ cl d H', Same H H' → ErrAt K H' (.noSite n) cl d → E cl d H')
theorem sc_site_of : FnScope ["contents", "name", "site"] ["contents", "name"] (defScope s_site_of) := ⟨rfl, rfl, rfl, by decide +kernel, rfl, by decide +kernel, by decide +kernel⟩
theorem k_site_of (T : TxX P w K mg) : Kal P w K mg base (L2.CX P w) 2 "site_of" (spSiteOf K) [] := by
  have c1 := k_find (P := P) (base := base) T.t
  refine kalX T.t.f_site_of T.t.g_site_of sc_site_of (fun _ _ _ _ _ _ us hl => match us, hl with | [_, _], _ => rfl) (fun vs H Q E h => ?_) (fun cdv A outer s H vs Q E hr h => ?_)
  · obtain ⟨p, n, c, rfl, _⟩ := h
    rfl
  · obtain ⟨p, n, c, rfl, hp, yes, no⟩ := h
    obtain ⟨fI, sc⟩ := T.ss
    refine ⟨_, pss_cons (ps_set (i := 2) sc_site_of.nd rfl (Or.inl rfl) (pe_k c1 hr (by decide) (pa_cons (pe_fld (pv 0) rfl) (pa_cons (pv 1) pa_nil))))
      (pss_cons (ps_if (pt_cmpR op_isN (pv 2) pe_non (nomark _)) (pss_one (ps_raise rfl (takes_of rfl rfl rfl rfl) (Sup.pmk_sup sc z_site T.t.g_NoSuchSite T.t.n_super T.sup hr (pa_cons (pv 1) pa_nil)))) pss_nil)
      (pss_one (ps_ret (pv 2)))), ?_⟩
    obtain ⟨wv, f1, pc, xs, rfl, hx, hpd⟩ := hp.ft
    refine ⟨_, rfl, rdF f1 ⟨_, rfl, pc, n, xs, rfl, hx, all_nam (nm := SiteM.name) (fun _ _ => nam_site) hpd, ?_⟩⟩
    cases e : findS c.sites n with
    | none =>
      have q : pick (nmV H) n xs = .non := pick_none (nm := SiteM.name) (fun _ _ => nam_site) hpd e
      rw [q]
      exact ⟨_, rfl, rfl, tkT rfl (iteT ⟨_, rfl, _, rfl, fun d hd => no e _ _ _ (Same.new hd) ⟨rfl, d, rfl, upd_same⟩⟩)⟩
    | some cr =>
      have q : SiteAt K H (pick (nmV H) n xs) cr := pick_some (nm := SiteM.name) (fun _ _ => nam_site) hpd e
      obtain ⟨q1, q2, q3⟩ := q
      rw [q2]
      exact ⟨_, rfl, rfl, tkF (fun z => by cases z) (iteF ⟨_, rfl, yes cr e q1 q3⟩)⟩
/-! ### with_crafts, with_sites, changed_craft -/
def spWithC (K : PySem.W.Frag) : Sp := fun vs H Q _ => ∃ (p : Addr) (cs : V) (c : ContM) (l : List CraftM), vs = [.ref p, cs] ∧ ContP K H p c ∧ SeqR K H (CraftAt K) cs l ∧ WF c ∧ ∀ q H', Same H H' → ContP K H' q (withC c l) → Q (.ref q) H'
theorem sc_with_crafts : FnScope ["contents", "crafts"] ["contents", "crafts"] (defScope s_with_crafts) := ⟨rfl, rfl, rfl, by decide +kernel, rfl, by decide +kernel, by decide +kernel⟩
theorem k_with_crafts (T : Txt w K mg) : Kal P w K mg base CX0 4 "with_crafts" (spWithC K) [] := by
  have c1 := k_Cont (P := P) (base := base) T
  refine kal0 T.f_with_crafts T.g_with_crafts sc_with_crafts (fun _ _ _ _ _ _ us hl => match us, hl with | [_, _], _ => rfl) (fun vs H Q E h => ?_) (fun cdv A outer s H vs Q E hr h => ?_)
  · obtain ⟨p, cs, c, l, rfl, _⟩ := h
    rfl
  · obtain ⟨p, cs, c, l, rfl, hp, hs, wf, k⟩ := h
    refine ⟨_, pss_one (ps_ret (pe_m c1 hr (by decide) (pa_cons (pe_fld (pv 0) rfl) (pa_cons (pe_fld (pv 0) rfl) (pa_cons (pe_fld (pv 0) rfl) (pa_cons (pv 1) (pa_cons (pe_fld (pv 0) rfl) pa_nil))))))), ?_⟩
    obtain ⟨bv, fb, hb⟩ := hp.fb
    obtain ⟨sv, ft, ht⟩ := hp.ft
    refine ⟨_, rfl, rdF fb ⟨_, rfl, rdF hp.fs ⟨_, rfl, rdF hp.ff ⟨_, rfl, _, rfl, rdF ft ?_⟩⟩⟩⟩
    exact mk_Cont (c := withC c l) hb hs ht.seq wf.st wf.fi k
def spWithS (K : PySem.W.Frag) : Sp := fun vs H Q _ => ∃ (p : Addr) (cs : V) (c : ContM) (l : List SiteM), vs = [.ref p, cs] ∧ ContP K H p c ∧ SeqR K H (SiteAt K) cs l ∧ WF c ∧ ∀ q H', Same H H' → ContP K H' q (withS c l) → Q (.ref q) H'
theorem sc_with_sites : FnScope ["contents", "sites"] ["contents", "sites"] (defScope s_with_sites) := ⟨rfl, rfl, rfl, by decide +kernel, rfl, by decide +kernel, by decide +kernel⟩
theorem k_with_sites (T : Txt w K mg) : Kal P w K mg base CX0 4 "with_sites" (spWithS K) [] := by
  have c1 := k_Cont (P := P) (base := base) T
  refine kal0 T.f_with_sites T.g_with_sites sc_with_sites (fun _ _ _ _ _ _ us hl => match us, hl with | [_, _], _ => rfl) (fun vs H Q E h => ?_) (fun cdv A outer s H vs Q E hr h => ?_)
  · obtain ⟨p, cs, c, l, rfl, _⟩ := h
    rfl
  · obtain ⟨p, cs, c, l, rfl, hp, hs, wf, k⟩ := h
    refine ⟨_, pss_one (ps_ret (pe_m c1 hr (by decide) (pa_cons (pe_fld (pv 0) rfl) (pa_cons (pe_fld (pv 0) rfl) (pa_cons (pe_fld (pv 0) rfl) (pa_cons (pe_fld (pv 0) rfl) (pa_cons (pv 1) pa_nil))))))), ?_⟩
    obtain ⟨bv, fb, hb⟩ := hp.fb
    obtain ⟨sv, fc, hc⟩ := hp.fc
    refine ⟨_, rfl, rdF fb ⟨_, rfl, rdF hp.fs ⟨_, rfl, rdF hp.ff ⟨_, rfl, rdF fc ⟨_, rfl, ?_⟩⟩⟩⟩⟩
    exact mk_Cont (c := withS c l) hb hc.seq hs wf.st wf.fi k
def spChanged (K : PySem.W.Frag) : Sp := fun vs H Q _ => ∃ (p q : Addr) (d : Int) (bv sv : V) (c : ContM) (cr : CraftM) (bs : List BurnM) (ss : List SightM), vs = [.ref p, .ref q, .int d, bv, sv] ∧ ContP K H p c ∧ CraftP K H q cr ∧ SeqR K H (BurnAt K) bv bs ∧ SeqR K H (SightAt K) sv ss ∧ WF c ∧ CraftOk (withB cr d bs ss) ∧
  ∀ x H', Same H H' → ContP K H' x (changed c cr d bs ss) → Q (.ref x) H'
theorem sc_changed : FnScope ["contents", "craft", "drift", "burns", "sightings", "new"] ["contents", "craft", "drift", "burns", "sightings"] (defScope s_changed_craft) := ⟨rfl, rfl, rfl, by decide +kernel, rfl, by decide +kernel, by decide +kernel⟩
theorem k_changed (T : Txt w K mg) : Kal P w K mg base CX0 5 "changed_craft" (spChanged K) [] := by
  have c1 := k_Craft (P := P) (base := base) T
  have c2 := k_with_crafts (P := P) (base := base) T
  have c3 := k_put (P := P) (base := base) T
  refine kal0 T.f_changed_craft T.g_changed_craft sc_changed (fun _ _ _ _ _ _ us hl => match us, hl with | [_, _, _, _, _], _ => rfl) (fun vs H Q E h => ?_) (fun cdv A outer s H vs Q E hr h => ?_)
  · obtain ⟨p, q, d, bv, sv, c, cr, bs, ss, rfl, _⟩ := h
    rfl
  · obtain ⟨p, q, d, bv, sv, c, cr, bs, ss, rfl, hp, hq, hb, hs, wf, ok, k⟩ := h
    refine ⟨_, pss_cons (ps_set (i := 5) sc_changed.nd rfl (Or.inl rfl) (pe_m c1 hr (by decide) (pa_cons (pe_fld (pv 1) rfl) (pa_cons (pe_fld (pv 1) rfl) (pa_cons (pe_fld (pv 1) rfl) (pa_cons (pe_fld (pv 1) rfl) (pa_cons (pv 2) (pa_cons (pv 3) (pa_cons (pv 4) pa_nil)))))))))
      (pss_one (ps_ret (pe_k c2 hr (by decide) (pa_cons (pv 0) (pa_cons (pe_k c3 hr (by decide) (pa_cons (pe_fld (pv 0) rfl) (pa_cons (pv 5) pa_nil))) pa_nil))))), ?_⟩
    obtain ⟨lv, fp, hl⟩ := hq.fp
    obtain ⟨wv, fv, hv⟩ := hq.fv
    refine ⟨_, rfl, rdF hq.fn ⟨_, rfl, rdF hq.fs ⟨_, rfl, rdF fp ⟨_, rfl, rdF fv ⟨_, rfl, _, rfl, _, rfl, ?_⟩⟩⟩⟩⟩
    refine fun x dx nx nd _ => ⟨H, x, dx, lv, wv, bv, sv, withB cr d bs ss, rfl, nx, new_ob nx nd, hl, hv, hb, hs, ok, fun H1 s1 hx => ⟨rfl, ?_⟩⟩
    have hp1 := hp.keep (Keep.of s1)
    obtain ⟨cv, fc, pc, xs, rfl, hxs, hpd⟩ := hp1.fc
    have hc : CraftAt K H1 (.ref x) (withB cr d bs ss) := ⟨x, rfl, hx⟩
    have hnn := nam_craft hc
    refine ⟨_, rfl, _, rfl, rdF fc ⟨_, rfl, pc, .ref x, xs, rfl, hxs, by rw [pd_len hpd]; exact Nat.le_trans wf.cl (by decide), all_nam (nm := CraftM.name) (fun _ _ => nam_craft) hpd, by rw [hnn.nm]; exact hnn, fun y H2 s2 hy => ?_⟩⟩
    exact ⟨p, .ref y, c, put ltC c.crafts (withB cr d bs ss), rfl, hp1.keep (Keep.of s2), ⟨y, _, rfl, .inr hy, pd_mono (fun a b r => craft_stays _ _ _ _ (Keep.of s2) r) (put_pd (nm := CraftM.name) (fun _ _ => nam_craft) hpd hc)⟩, wf, fun z H3 s3 hz => k z H3 (s1.trans (s2.trans s3)) hz⟩
end
end Ka
/-! body_data, craft_data, contents_data. -/
namespace Ka
open PySem PySem.Spec PyProof.Rows L2
section
variable {P : Program} {w : World} {K : PySem.W.Frag} {mg : Str → Option Value} {base : Heap}
theorem dt_keep {H H' : Hp} {d : PyData} {v : V} (e : Keep H H') (h : Dt K H v d) : Dt K H' v d := Dt.keep e d v h
theorem dt_tupN {H : Hp} {t : Addr} {xs : List V} {ds : List PyData} (h : H t = Option.none) (r : DtAll K (upd H t (.tup xs)) xs ds) : Dt K (upd H t (.tup xs)) (.ref t) (.tuple ds) := .tup (tupOf upd_same) r
theorem dt_str {H : Hp} (x : Str) : Dt K H (.str x) (.str x) := .str x
theorem dtAll_pd {α : Type} {H : Hp} {f : α → PyData} : ∀ {vs : List V} {l : List α}, Paired (fun y m => Dt K H y (f m)) vs l → DtAll K H vs (l.map f)
  | _, _, .nil => .nil
  | _, _, .cons r t => .cons r (dtAll_pd t)
/-! ### body_data(body) -/
def spBodyData (K : PySem.W.Frag) : Sp := fun vs H Q _ => ∃ (p : Addr) (b : BodyM), vs = [.ref p] ∧ BodyP K H p b ∧ ∀ v H', Same H H' → Dt K H' v (bodyD b) → Q v H'
theorem sc_body_data : FnScope ["body"] ["body"] (defScope s_body_data) := ⟨rfl, rfl, rfl, by decide +kernel, rfl, by decide +kernel, by decide +kernel⟩
theorem k_body_data (T : Txt w K mg) : Kal P w K mg base CX0 1 "body_data" (spBodyData K) [] := by
  refine kal0 T.f_body_data T.g_body_data sc_body_data (fun _ _ _ _ _ _ us hl => match us, hl with | [_], _ => rfl) (fun vs H Q E h => ?_) (fun cdv A outer s H vs Q E hr h => ?_)
  · obtain ⟨p, b, rfl, _⟩ := h
    rfl
  · obtain ⟨p, b, rfl, hp, k⟩ := h
    refine ⟨_, pss_one (ps_ret (pe_tup (pa_cons (pe_fld (pv 0) rfl) (pa_cons (pe_fld (pv 0) rfl) (pa_cons (pe_fld (pv 0) rfl) pa_nil))))), ?_⟩
    obtain ⟨tv, ft, ht⟩ := hp.ft
    refine ⟨_, rfl, rdF hp.fm ⟨_, rfl, rdF hp.fo ⟨_, rfl, rdF ft ⟨by show 3 ≤ sizeLine; decide, fun t nt => ?_⟩⟩⟩⟩
    have s1 : Same H (upd H t (.tup [.int b.mu, .int b.obl, tv])) := Same.new nt
    exact k _ _ s1 (dt_tupN nt (.cons (.int _) (.cons (.int _) (.cons (dt_ints (ints_stays _ _ _ _ (Keep.of s1) ht)) .nil))))
/-! ### craft_data(craft) -/
def spCraftData (K : PySem.W.Frag) : Sp := fun vs H Q _ => ∃ (p : Addr) (c : CraftM), vs = [.ref p] ∧ CraftP K H p c ∧ c.burns.length ≤ 100 ∧ c.sights.length ≤ 100 ∧ ∀ v H', Same H H' → Dt K H' v (craftD c) → Q v H'
theorem sc_craft_data : FnScope ["craft", "burns", "sightings", "burn", "sighting"] ["craft"] (defScope s_craft_data) := ⟨rfl, rfl, rfl, by decide +kernel, rfl, by decide +kernel, by decide +kernel⟩
theorem k_craft_data (T : Txt w K mg) : Kal P w K mg base CX0 1 "craft_data" (spCraftData K) [] := by
  refine kal0 T.f_craft_data T.g_craft_data sc_craft_data (fun _ _ _ _ _ _ us hl => match us, hl with | [_], _ => rfl) (fun vs H Q E h => ?_) (fun cdv A outer s H vs Q E hr h => ?_)
  · obtain ⟨p, b, rfl, _⟩ := h
    rfl
  · obtain ⟨p, c, rfl, hp, lb, lg, k⟩ := h
    refine ⟨_, pss_cons (ps_set (i := 1) sc_craft_data.nd rfl (Or.inl rfl) (pe_callTy call_tupleS (by rfl) T.n_tuple (by decide +kernel) (pa_cons (pe_Tm (pe_lc (own := [("burn", 3)]) (by rfl) sc_craft_data.nd (pi_tup (pe_up (pe_fld (pv 0) rfl))) (blkOk_by (N := ["craft", "burns", "sightings", "burn", "sighting"]) (sc := defScope s_craft_data) (by decide +kernel))
        (fun _ _ _ _ _ => pg_name (i := 3) sc_craft_data.nd rfl (Or.inl rfl)) (fun _ _ _ _ _ => pts_nil) (te := tTup (tCons (tFld K (tVar 3) "begin") (tCons (tFld K (tVar 3) "end") (tCons (tFld K (tVar 3) "push") tNil)))) (fun _ _ _ _ _ => pe_tup (pa_cons (pe_fld (pv 3) rfl) (pa_cons (pe_fld (pv 3) rfl) (pa_cons (pe_fld (pv 3) rfl) pa_nil)))))) pa_nil)))
      (pss_cons (ps_set (i := 2) sc_craft_data.nd rfl (Or.inl rfl) (pe_callTy call_tupleS (by rfl) T.n_tuple (by decide +kernel) (pa_cons (pe_Tm (pe_lc (own := [("sighting", 4)]) (by rfl) sc_craft_data.nd (pi_tup (pe_up (pe_fld (pv 0) rfl))) (blkOk_by (N := ["craft", "burns", "sightings", "burn", "sighting"]) (sc := defScope s_craft_data) (by decide +kernel))
        (fun _ _ _ _ _ => pg_name (i := 4) sc_craft_data.nd rfl (Or.inl rfl)) (fun _ _ _ _ _ => pts_nil) (te := tTup (tCons (tFld K (tVar 4) "at") (tCons (tFld K (tVar 4) "place") tNil))) (fun _ _ _ _ _ => pe_tup (pa_cons (pe_fld (pv 4) rfl) (pa_cons (pe_fld (pv 4) rfl) pa_nil))))) pa_nil)))
      (pss_one (ps_ret (pe_tup (pa_cons (pe_fld (pv 0) rfl) (pa_cons (pe_fld (pv 0) rfl) (pa_cons (pe_fld (pv 0) rfl) (pa_cons (pe_fld (pv 0) rfl) (pa_cons (pe_fld (pv 0) rfl) (pa_cons (pv 1) (pa_cons (pv 2) pa_nil))))))))))), ?_⟩
    obtain ⟨bv, fb, pb, xb, rfl, hxb, rb⟩ := hp.fb
    obtain ⟨gv, fg, pg, xg, rfl, hxg, rg⟩ := hp.fg
    obtain ⟨lv, fp, hl⟩ := hp.fp
    obtain ⟨wv, fv, hv⟩ := hp.fv
    refine ⟨_, rfl, rdF fb ⟨pb, xb, BurnM, c.burns, fun H y b => Dt K H y (burnD b), rfl, hxb, pd_len rb, small lb, fun _ _ _ _ e h => dt_keep e h, fun i x m H1 Y hi hm s1 hk => ?_, fun D H1 ys s1 hD hb pd => ?_⟩⟩
    · obtain ⟨m', hm', q, rfl, hq⟩ := pd_get rb hi
      rw [hm] at hm'
      obtain rfl := Option.some.inj hm'
      have hq1 := hq.keep (Keep.of s1)
      obtain ⟨uv, fu, hu⟩ := hq1.fp
      refine ⟨_, rfl, rdF hq1.fb ⟨_, rfl, rdF hq1.fe ⟨_, rfl, rdF fu ⟨by show 3 ≤ sizeLine; decide, fun t nt => ?_⟩⟩⟩⟩
      have s2 : Same H1 (upd H1 t (.tup [.int m.b, .int m.e, uv])) := Same.new nt
      exact hk _ _ s2 (dt_tupN nt (.cons (.int _) (.cons (.int _) (.cons (dt_box (box_stays _ _ _ _ (Keep.of s2) hu)) .nil))))
    refine ⟨D, _, rfl, .inl (lstOf hb), fun q2 H2 s2 h2 => ?_⟩
    have dB : Dt K H2 (.ref q2) (.tuple (c.burns.map burnD)) := .tup h2 (dtAll_pd (pd_mono (fun _ _ r => dt_keep (Keep.of s2) r) pd))
    have s02 := s1.trans s2
    refine ⟨_, rfl, rdF (fg.same s02) ⟨pg, xg, SightM, c.sights, fun H y b => Dt K H y (sightD b), rfl, keepT (Keep.of s02) hxg, pd_len rg, small lg, fun _ _ _ _ e h => dt_keep e h, fun i x m H1 Y hi hm s1 hk => ?_, fun D3 H3 ys3 s3 hD3 hb3 pd3 => ?_⟩⟩
    · obtain ⟨m', hm', q, rfl, hq⟩ := pd_get rg hi
      rw [hm] at hm'
      obtain rfl := Option.some.inj hm'
      have hq1 := hq.keep (Keep.of (s02.trans s1))
      obtain ⟨uv, fu, hu⟩ := hq1.fp
      refine ⟨_, rfl, rdF hq1.ft ⟨_, rfl, rdF fu ⟨by show 2 ≤ sizeLine; decide, fun t nt => ?_⟩⟩⟩
      have s2 : Same H1 (upd H1 t (.tup [.int m.t, uv])) := Same.new nt
      exact hk _ _ s2 (dt_tupN nt (.cons (.int _) (.cons (dt_box (box_stays _ _ _ _ (Keep.of s2) hu)) .nil)))
    refine ⟨D3, _, rfl, .inl (lstOf hb3), fun q4 H4 s4 h4 => ?_⟩
    have dG : Dt K H4 (.ref q4) (.tuple (c.sights.map sightD)) := .tup h4 (dtAll_pd (pd_mono (fun _ _ r => dt_keep (Keep.of s4) r) pd3))
    have s04 := s02.trans (s3.trans s4)
    refine ⟨_, rfl, rdF (hp.fn.same s04) ⟨_, rfl, rdF (hp.fs.same s04) ⟨_, rfl, rdF (fp.same s04) ⟨_, rfl, rdF (fv.same s04) ⟨_, rfl, rdF (hp.fd.same s04) ⟨_, rfl, _, rfl, by show 7 ≤ sizeLine; decide, fun t nt => ?_⟩⟩⟩⟩⟩⟩
    have s5 : Same H4 (upd H4 t (.tup [.str c.name, .int c.start, lv, wv, .int c.drift, .ref q2, .ref q4])) := Same.new nt
    have s05 := s04.trans s5
    exact k _ _ s05 (dt_tupN nt (.cons (dt_str _) (.cons (.int _) (.cons (dt_box (box_stays _ _ _ _ (Keep.of s05) hl)) (.cons (dt_box (box_stays _ _ _ _ (Keep.of s05) hv)) (.cons (.int _) (.cons (dt_keep (Keep.of (s3.trans (s4.trans s5))) dB) (.cons (dt_keep (Keep.of s5) dG) .nil))))))))
/-! ### contents_data(contents) -/
def spContData (K : PySem.W.Frag) : Sp := fun vs H Q _ => ∃ (p : Addr) (c : ContM), vs = [.ref p] ∧ ContP K H p c ∧ WF c ∧ ∀ v H', Same H H' → Dt K H' v (contD c) → Q v H'
theorem sc_cont_data : FnScope ["contents", "crafts", "sites", "craft", "site"] ["contents"] (defScope s_contents_data) := ⟨rfl, rfl, rfl, by decide +kernel, rfl, by decide +kernel, by decide +kernel⟩
theorem k_cont_data (T : Txt w K mg) : Kal P w K mg base CX0 2 "contents_data" (spContData K) [] := by
  have c1 := k_craft_data (P := P) (base := base) T
  have c2 := k_body_data (P := P) (base := base) T
  refine kal0 T.f_contents_data T.g_contents_data sc_cont_data (fun _ _ _ _ _ _ us hl => match us, hl with | [_], _ => rfl) (fun vs H Q E h => ?_) (fun cdv A outer s H vs Q E hr h => ?_)
  · obtain ⟨p, b, rfl, _⟩ := h
    rfl
  · obtain ⟨p, c, rfl, hp, wf, k⟩ := h
    refine ⟨_, pss_cons (ps_set (i := 1) sc_cont_data.nd rfl (Or.inl rfl) (pe_callTy call_tupleS (by rfl) T.n_tuple (by decide +kernel) (pa_cons (pe_Tm (pe_lc (own := [("craft", 3)]) (by rfl) sc_cont_data.nd (pi_tup (pe_up (pe_fld (pv 0) rfl))) (blkOk_by (N := ["contents", "crafts", "sites", "craft", "site"]) (sc := defScope s_contents_data) (by decide +kernel))
        (fun _ _ _ _ _ => pg_name (i := 3) sc_cont_data.nd rfl (Or.inl rfl)) (fun _ _ _ _ _ => pts_nil) (te := tCall (spCraftData K) [] E0 (tCons (tVar 3) tNil)) (fun _ _ _ _ _ => pe_k c1 hr (by decide) (pa_cons (pv 3) pa_nil)))) pa_nil)))
      (pss_cons (ps_set (i := 2) sc_cont_data.nd rfl (Or.inl rfl) (pe_callTy call_tupleS (by rfl) T.n_tuple (by decide +kernel) (pa_cons (pe_Tm (pe_lc (own := [("site", 4)]) (by rfl) sc_cont_data.nd (pi_tup (pe_up (pe_fld (pv 0) rfl))) (blkOk_by (N := ["contents", "crafts", "sites", "craft", "site"]) (sc := defScope s_contents_data) (by decide +kernel))
        (fun _ _ _ _ _ => pg_name (i := 4) sc_cont_data.nd rfl (Or.inl rfl)) (fun _ _ _ _ _ => pts_nil) (te := tTup (tCons (tFld K (tVar 4) "name") (tCons (tFld K (tVar 4) "place") tNil))) (fun _ _ _ _ _ => pe_tup (pa_cons (pe_fld (pv 4) rfl) (pa_cons (pe_fld (pv 4) rfl) pa_nil))))) pa_nil)))
      (pss_one (ps_ret (pe_tup (pa_cons (pe_k c2 hr (by decide) (pa_cons (pe_fld (pv 0) rfl) pa_nil)) (pa_cons (pe_fld (pv 0) rfl) (pa_cons (pe_fld (pv 0) rfl) (pa_cons (pv 1) (pa_cons (pv 2) pa_nil))))))))), ?_⟩
    obtain ⟨bv, fb, pb, xb, rfl, hxb, rb⟩ := hp.fc
    obtain ⟨gv, fg, pg, xg, rfl, hxg, rg⟩ := hp.ft
    obtain ⟨ov, fo, ob, rfl, ho⟩ := hp.fb
    refine ⟨_, rfl, rdF fb ⟨pb, xb, CraftM, c.crafts, fun H y b => Dt K H y (craftD b), rfl, hxb, pd_len rb, small (Nat.le_trans wf.cl (by decide)), fun _ _ _ _ e h => dt_keep e h, fun i x m H1 Y hi hm s1 hk => ?_, fun D H1 ys s1 hD hb pd => ?_⟩⟩
    · obtain ⟨m', hm', q, rfl, hq⟩ := pd_get rb hi
      rw [hm] at hm'
      obtain rfl := Option.some.inj hm'
      have wm := wf.cw m (List.mem_of_getElem? hm)
      exact ⟨_, rfl, q, m, rfl, hq.keep (Keep.of s1), Nat.le_trans wm.bl (by decide), Nat.le_trans wm.gl (by decide), fun v H2 s2 d2 => hk _ _ s2 d2⟩
    refine ⟨D, _, rfl, .inl (lstOf hb), fun q2 H2 s2 h2 => ?_⟩
    have dB : Dt K H2 (.ref q2) (.tuple (c.crafts.map craftD)) := .tup h2 (dtAll_pd (pd_mono (fun _ _ r => dt_keep (Keep.of s2) r) pd))
    have s02 := s1.trans s2
    refine ⟨_, rfl, rdF (fg.same s02) ⟨pg, xg, SiteM, c.sites, fun H y b => Dt K H y (siteD b), rfl, keepT (Keep.of s02) hxg, pd_len rg, small (Nat.le_trans wf.sl (by decide)), fun _ _ _ _ e h => dt_keep e h, fun i x m H1 Y hi hm s1 hk => ?_, fun D3 H3 ys3 s3 hD3 hb3 pd3 => ?_⟩⟩
    · obtain ⟨m', hm', q, rfl, hq⟩ := pd_get rg hi
      rw [hm] at hm'
      obtain rfl := Option.some.inj hm'
      have hq1 := hq.keep (Keep.of (s02.trans s1))
      obtain ⟨uv, fu, hu⟩ := hq1.fp
      refine ⟨_, rfl, rdF hq1.fn ⟨_, rfl, rdF fu ⟨by show 2 ≤ sizeLine; decide, fun t nt => ?_⟩⟩⟩
      have s2 : Same H1 (upd H1 t (.tup [.str m.name, uv])) := Same.new nt
      exact hk _ _ s2 (dt_tupN nt (.cons (dt_str _) (.cons (dt_ints (ints_stays _ _ _ _ (Keep.of s2) hu)) .nil)))
    refine ⟨D3, _, rfl, .inl (lstOf hb3), fun q4 H4 s4 h4 => ?_⟩
    have dG : Dt K H4 (.ref q4) (.tuple (c.sites.map siteD)) := .tup h4 (dtAll_pd (pd_mono (fun _ _ r => dt_keep (Keep.of s4) r) pd3))
    have s04 := s02.trans (s3.trans s4)
    refine ⟨_, rfl, rdF (fo.same s04) ⟨ob, c.body, rfl, ho.keep (Keep.of s04), fun v H5 s5 d5 => ?_⟩⟩
    have s05 := s04.trans s5
    refine ⟨_, rfl, rdF (hp.fs.same s05) ⟨_, rfl, rdF (hp.ff.same s05) ⟨_, rfl, _, rfl, by show 5 ≤ sizeLine; decide, fun t nt => ?_⟩⟩⟩
    have s6 : Same H5 (upd H5 t (.tup [v, .int c.stride, .int c.fine, .ref q2, .ref q4])) := Same.new nt
    exact k _ _ (s05.trans s6) (dt_tupN nt (.cons (dt_keep (Keep.of s6) d5) (.cons (.int _) (.cons (.int _) (.cons (dt_keep (Keep.of (s3.trans (s4.trans (s5.trans s6)))) dB) (.cons (dt_keep (Keep.of (s5.trans s6)) dG) .nil))))))
end
end Ka
/-! The edits. -/
namespace Ka
open PySem PySem.Spec PyProof.Rows L2
/-- the ways out of an edit -/
structure Outs (K : PySem.W.Frag) (H : Hp) (r : Except ErrM ContM) (Q : VK) (E : XK) : Prop where
  ok : ∀ c', r = .ok c' → ∀ q H', Same H H' → ContP K H' q c' → Q (.ref q) H'
  no : ∀ er, r = .error er → ∀ cl d H', Same H H' → ErrAt K H' er cl d → E cl d H'
section
variable {P : Program} {w : World} {K : PySem.W.Frag} {mg : Str → Option Value} {base : Heap}
/-- what comes when the contents are known -/
abbrev spEd (K : PySem.W.Frag) (ws : Hp → List V → Prop) (f : ContM → Except ErrM ContM) : Sp := fun vs H Q E => ∃ (p : Addr) (us : List V) (c : ContM), vs = .ref p :: us ∧ ws H us ∧ ContP K H p c ∧ WF c ∧ Outs K H (f c) Q E
/-- the promise of the def that stands for an edit -/
def spOf (K : PySem.W.Frag) (e : EditM) : Sp := fun vs H Q E => ∃ (p : Addr) (us : List V) (c : ContM), vs = .ref p :: us ∧ ArgsAt K H e us ∧ EditOk e ∧ ContP K H p c ∧ WF c ∧ Outs K H (applyE c e) Q E
theorem args_len {H : Hp} : ∀ {e : EditM} {us : List V}, ArgsAt K H e us → us.length = if isOne e = true then 1 else 2
  | .setBody _, _, ⟨_, e, _⟩ => by rw [e]; rfl
  | .addCraft _, _, ⟨_, e, _⟩ => by rw [e]; rfl
  | .addSite _, _, ⟨_, e, _⟩ => by rw [e]; rfl
  | .addBurn _ _, _, ⟨_, e, _⟩ => by rw [e]; rfl
  | .addSight _ _, _, ⟨_, e, _⟩ => by rw [e]; rfl
  | .setStride _, _, e => by rw [show _ = _ from e]; rfl
  | .setFine _, _, e => by rw [show _ = _ from e]; rfl
  | .dropCraft _, _, e => by rw [show _ = _ from e]; rfl
  | .dropSite _, _, e => by rw [show _ = _ from e]; rfl
  | .setDrift _ _, _, e => by rw [show _ = _ from e]; rfl
  | .dropBurn _ _, _, e => by rw [show _ = _ from e]; rfl
  | .dropSight _ _, _, e => by rw [show _ = _ from e]; rfl
theorem spOf_len {e : EditM} {vs : List V} {H : Hp} {Q : VK} {E : XK} (h : spOf K e vs H Q E) : vs.length = 1 + if isOne e = true then 1 else 2 := by
  obtain ⟨p, us, c, rfl, ha, _⟩ := h
  rw [List.length_cons, args_len ha, Nat.add_comm]
/-! ### set_body, set_stride, set_fineness -/
theorem sc_set_body : FnScope ["contents", "body"] ["contents", "body"] (defScope s_set_body) := ⟨rfl, rfl, rfl, by decide +kernel, rfl, by decide +kernel, by decide +kernel⟩
theorem k_set_body (T : TxX P w K mg) (b : BodyM) : Kal P w K mg base (L2.CX P w) 4 "set_body" (spOf K (.setBody b)) [] := by
  have c1 := k_Cont (P := P) (base := base) T.t
  refine kalX T.t.f_set_body T.t.g_set_body sc_set_body (fun _ _ _ _ _ _ us hl => match us, hl with | [_, _], _ => rfl) (fun vs H Q E h => spOf_len h) (fun cdv A outer s H vs Q E hr h => ?_)
  obtain ⟨p, us, c, rfl, ⟨v, rfl, hv⟩, ok, hp, wf, out⟩ := h
  refine ⟨_, pss_one (ps_ret (pe_m c1 hr (by decide) (pa_cons (pv 1) (pa_cons (pe_fld (pv 0) rfl) (pa_cons (pe_fld (pv 0) rfl) (pa_cons (pe_fld (pv 0) rfl) (pa_cons (pe_fld (pv 0) rfl) pa_nil))))))), ?_⟩
  obtain ⟨cv, fc, hc⟩ := hp.fc
  obtain ⟨sv, ft, ht⟩ := hp.ft
  refine ⟨_, rfl, _, rfl, rdF hp.fs ⟨_, rfl, rdF hp.ff ⟨_, rfl, rdF fc ⟨_, rfl, rdF ft ?_⟩⟩⟩⟩
  exact mk_Cont (c := { c with body := b }) hv hc.seq ht.seq wf.st wf.fi fun x H' s hx => out.ok _ rfl x H' s hx
theorem sc_set_stride : FnScope ["contents", "stride"] ["contents", "stride"] (defScope s_set_stride) := ⟨rfl, rfl, rfl, by decide +kernel, rfl, by decide +kernel, by decide +kernel⟩
theorem k_set_stride (T : TxX P w K mg) (n : Int) : Kal P w K mg base (L2.CX P w) 4 "set_stride" (spOf K (.setStride n)) [] := by
  have c1 := k_Cont (P := P) (base := base) T.t
  refine kalX T.t.f_set_stride T.t.g_set_stride sc_set_stride (fun _ _ _ _ _ _ us hl => match us, hl with | [_, _], _ => rfl) (fun vs H Q E h => spOf_len h) (fun cdv A outer s H vs Q E hr h => ?_)
  obtain ⟨p, us, c, rfl, rfl, ok, hp, wf, out⟩ := h
  refine ⟨_, pss_one (ps_ret (pe_m c1 hr (by decide) (pa_cons (pe_fld (pv 0) rfl) (pa_cons (pv 1) (pa_cons (pe_fld (pv 0) rfl) (pa_cons (pe_fld (pv 0) rfl) (pa_cons (pe_fld (pv 0) rfl) pa_nil))))))), ?_⟩
  obtain ⟨bv, fb, hb⟩ := hp.fb
  obtain ⟨cv, fc, hc⟩ := hp.fc
  obtain ⟨sv, ft, ht⟩ := hp.ft
  refine ⟨_, rfl, rdF fb ⟨_, rfl, _, rfl, rdF hp.ff ⟨_, rfl, rdF fc ⟨_, rfl, rdF ft ?_⟩⟩⟩⟩
  exact mk_Cont (c := { c with stride := n }) hb hc.seq ht.seq ok wf.fi fun x H' s hx => out.ok _ rfl x H' s hx
theorem sc_set_fine : FnScope ["contents", "fineness"] ["contents", "fineness"] (defScope s_set_fineness) := ⟨rfl, rfl, rfl, by decide +kernel, rfl, by decide +kernel, by decide +kernel⟩
theorem k_set_fine (T : TxX P w K mg) (n : Int) : Kal P w K mg base (L2.CX P w) 4 "set_fineness" (spOf K (.setFine n)) [] := by
  have c1 := k_Cont (P := P) (base := base) T.t
  refine kalX T.t.f_set_fineness T.t.g_set_fineness sc_set_fine (fun _ _ _ _ _ _ us hl => match us, hl with | [_, _], _ => rfl) (fun vs H Q E h => spOf_len h) (fun cdv A outer s H vs Q E hr h => ?_)
  obtain ⟨p, us, c, rfl, rfl, ok, hp, wf, out⟩ := h
  refine ⟨_, pss_one (ps_ret (pe_m c1 hr (by decide) (pa_cons (pe_fld (pv 0) rfl) (pa_cons (pe_fld (pv 0) rfl) (pa_cons (pv 1) (pa_cons (pe_fld (pv 0) rfl) (pa_cons (pe_fld (pv 0) rfl) pa_nil))))))), ?_⟩
  obtain ⟨bv, fb, hb⟩ := hp.fb
  obtain ⟨cv, fc, hc⟩ := hp.fc
  obtain ⟨sv, ft, ht⟩ := hp.ft
  refine ⟨_, rfl, rdF fb ⟨_, rfl, rdF hp.fs ⟨_, rfl, _, rfl, rdF fc ⟨_, rfl, rdF ft ?_⟩⟩⟩⟩
  exact mk_Cont (c := { c with fine := n }) hb hc.seq ht.seq wf.st ok fun x H' s hx => out.ok _ rfl x H' s hx
/-! ### add_craft, drop_craft, set_drift -/
theorem sc_add_craft : FnScope ["contents", "craft", "new"] ["contents", "craft"] (defScope s_add_craft) := ⟨rfl, rfl, rfl, by decide +kernel, rfl, by decide +kernel, by decide +kernel⟩
theorem k_add_craft (T : TxX P w K mg) (cr : CraftM) : Kal P w K mg base (L2.CX P w) 5 "add_craft" (spOf K (.addCraft cr)) [] := by
  have c1 := k_find (P := P) (base := base) T.t
  have c2 := k_Craft5 (P := P) (base := base) T.t
  have c3 := k_with_crafts (P := P) (base := base) T.t
  have c4 := k_put (P := P) (base := base) T.t
  obtain ⟨tk, gM⟩ := T.t.i_MOST_CRAFT
  refine kalX T.t.f_add_craft T.t.g_add_craft sc_add_craft (fun _ _ _ _ _ _ us hl => match us, hl with | [_, _], _ => rfl) (fun vs H Q E h => spOf_len h) (fun cdv A outer s H vs Q E hr h => ?_)
  obtain ⟨p, us, c, rfl, ⟨_, rfl, q, rfl, hq⟩, ok, hp, wf, out⟩ := h
  refine ⟨_, pss_cons (ps_if (PW.pt (pw_and (pt_cmpR op_isN (pe_k c1 hr (by decide) (pa_cons (pe_fld (pv 0) rfl) (pa_cons (pe_fld (pv 1) rfl) pa_nil))) pe_non (nomark _)) (pw_and1 (pt_cmpR op_ge (pe_callB call_len_seq (by rfl) T.t.n_len PySem.boot_len (pa_cons (pe_fld (pv 0) rfl) pa_nil)) (pe_glob rfl gM (relI _ _)) (nomark _)))))
      (pss_one (ps_raise rfl (takes_of rfl rfl rfl rfl) (pmk_own PySem.F.excBase_ValueError T.t.x_TooMany.1 T.t.g_TooMany T.t.x_TooMany.2.1 (raises_own T.t.x_TooMany.2.2.1 T.t.x_TooMany.2.2.2) rfl))) pss_nil)
    (pss_cons (ps_set (i := 2) sc_add_craft.nd rfl (Or.inl rfl) (pe_m c2 hr (by decide) (pa_cons (pe_fld (pv 1) rfl) (pa_cons (pe_fld (pv 1) rfl) (pa_cons (pe_fld (pv 1) rfl) (pa_cons (pe_fld (pv 1) rfl) (pa_cons (pe_fld (pv 1) rfl) pa_nil)))))))
    (pss_one (ps_ret (pe_k c3 hr (by decide) (pa_cons (pv 0) (pa_cons (pe_k c4 hr (by decide) (pa_cons (pe_fld (pv 0) rfl) (pa_cons (pv 2) pa_nil))) pa_nil)))))), ?_⟩
  obtain ⟨cv, fc, pc, xs, rfl, hx, hpd⟩ := hp.fc
  have hno : ¬ (findC c.crafts cr.name = Option.none ∧ 20 ≤ c.crafts.length) → applyE c (.addCraft cr) = .ok (withC c (put ltC c.crafts (strip cr))) := fun z => if_neg z
  obtain ⟨lv, fp, hl⟩ := hq.fp
  obtain ⟨wv, fv, hv⟩ := hq.fv
  refine ⟨_, rfl, rdF fc ⟨_, rfl, rdF hq.fn ⟨pc, cr.name, xs, rfl, hx, all_nam (nm := CraftM.name) (fun _ _ => nam_craft) hpd, ?_⟩⟩⟩
  cases e : findC c.crafts cr.name
  case' none =>
    rw [pick_none (nm := CraftM.name) (fun _ _ => nam_craft) hpd e]
    refine ⟨rfl, tkT rfl (iteT ⟨_, rfl, rdF fc ⟨pc, xs, rfl, .inr hx, _, _, rfl, rfl, tk2 (fun h => iteT (out.no .many (if_pos ⟨e, by rw [← pd_len hpd]; omega⟩) _ _ H (Same.refl _) rfl)) (fun h => iteF ?_)⟩⟩)⟩
    have hok := hno fun z => h (by have := z.2; rw [← pd_len hpd] at this; omega)
  case' some c0 =>
    obtain ⟨q1, q2, q3⟩ : CraftAt K H (pick (nmV H) cr.name xs) c0 := pick_some (nm := CraftM.name) (fun _ _ => nam_craft) hpd e
    rw [q2]
    refine ⟨rfl, tkF (fun z => by cases z) (iteF (iteF ?_))⟩
    have hok := hno fun z => by rw [e] at z; cases z.1
  all_goals
    refine ⟨_, rfl, rdF hq.fn ⟨_, rfl, rdF hq.fs ⟨_, rfl, rdF fp ⟨_, rfl, rdF fv ⟨_, rfl, rdF hq.fd ?_⟩⟩⟩⟩⟩
    refine fun x dx nx nd _ => ⟨H, x, dx, lv, wv, .ref _, .ref _, strip cr, rfl, nx, new_ob nx nd, hl, hv, ⟨_, [], rfl, .inr (T.e0.sq H), .nil⟩, ⟨_, [], rfl, .inr (T.e1.sq H), .nil⟩, ⟨ok.name, ok.st, ok.pl, ok.sp, ok.dr⟩, fun H1 s1 hx1 => ⟨rfl, ?_⟩⟩
    have hc : CraftAt K H1 (.ref x) (strip cr) := ⟨x, rfl, hx1⟩
    have hnn := nam_craft hc
    have hpd1 : Paired (CraftAt K H1) xs c.crafts := pd_mono (fun a b r => craft_stays _ _ _ _ (Keep.of s1) r) hpd
    refine ⟨_, rfl, _, rfl, rdF (fc.same s1) ⟨_, rfl, pc, .ref x, xs, rfl, keepT (Keep.of s1) hx, by rw [pd_len hpd]; exact Nat.le_trans wf.cl (by decide), all_nam (nm := CraftM.name) (fun _ _ => nam_craft) hpd1, by rw [hnn.nm]; exact hnn, fun y H2 s2 hy => ?_⟩⟩
    exact ⟨p, .ref y, c, put ltC c.crafts (strip cr), rfl, hp.keep (Keep.of (s1.trans s2)), ⟨y, _, rfl, .inr hy, pd_mono (fun a b r => craft_stays _ _ _ _ (Keep.of s2) r) (put_pd (nm := CraftM.name) (fun _ _ => nam_craft) hpd1 hc)⟩, wf, fun z H3 s3 hz => out.ok _ hok z H3 (s1.trans (s2.trans s3)) hz⟩
end
end Ka
/-! The edits, second part. -/
namespace Ka
open PySem PySem.Spec PyProof.Rows L2
section
variable {P : Program} {w : World} {K : PySem.W.Frag} {mg : Str → Option Value} {base : Heap}
theorem findC_in {c : ContM} (wf : WF c) {n : Str} {cr : CraftM} (h : findC c.crafts n = some cr) : WFC cr := wf.cw cr (findC_some h).1
theorem len100 {α : Type} {xs : List V} {l : List α} {R : V → α → Prop} (h : Paired R xs l) {n : Nat} (b : l.length ≤ n) (hn : n ≤ 100) : xs.length ≤ 100 := by
  rw [pd_len h]
  exact Nat.le_trans b hn
/-! ### drop_craft, drop_site -/
theorem sc_drop_craft : FnScope ["contents", "name"] ["contents", "name"] (defScope s_drop_craft) := ⟨rfl, rfl, rfl, by decide +kernel, rfl, by decide +kernel, by decide +kernel⟩
theorem k_drop_craft (T : TxX P w K mg) (n : Str) : Kal P w K mg base (L2.CX P w) 5 "drop_craft" (spOf K (.dropCraft n)) [] := by
  have c1 := k_craft_of (P := P) (base := base) T
  have c3 := k_with_crafts (P := P) (base := base) T.t
  have c4 := k_drop (P := P) (base := base) T.t
  refine kalX T.t.f_drop_craft T.t.g_drop_craft sc_drop_craft (fun _ _ _ _ _ _ us hl => match us, hl with | [_, _], _ => rfl) (fun vs H Q E h => spOf_len h) (fun cdv A outer s H vs Q E hr h => ?_)
  obtain ⟨p, us, c, rfl, rfl, ok, hp, wf, out⟩ := h
  refine ⟨_, pss_cons (ps_expr (pe_kx c1 hr (by decide) (passes_call (takes_of rfl rfl rfl rfl) (fun _ _ _ _ h => h)) (pa_cons (pv 0) (pa_cons (pv 1) pa_nil))))
    (pss_one (ps_ret (pe_k c3 hr (by decide) (pa_cons (pv 0) (pa_cons (pe_k c4 hr (by decide) (pa_cons (pe_fld (pv 0) rfl) (pa_cons (pv 1) pa_nil))) pa_nil))))), ?_⟩
  obtain ⟨cv, fc, pc, xs, rfl, hx, hpd⟩ := hp.fc
  refine ⟨_, rfl, _, rfl, p, n, c, rfl, hp, fun cr e q hq => ?_, fun e cl d H' s he => ?_⟩
  · have hok : applyE c (.dropCraft n) = .ok (withC c (c.crafts.filter (fun r => !decide (r.name = n)))) := by
      show dropCraftM c n = _
      unfold dropCraftM
      rw [e]
    refine ⟨_, rfl, _, rfl, rdF fc ⟨_, rfl, pc, n, xs, rfl, hx, len100 hpd wf.cl (by decide), all_nam (nm := CraftM.name) (fun _ _ => nam_craft) hpd, fun y H2 s2 hy => ?_⟩⟩
    exact ⟨p, .ref y, c, _, rfl, hp.keep (Keep.of s2), ⟨y, _, rfl, .inr hy, pd_mono (fun a b r => craft_stays _ _ _ _ (Keep.of s2) r) (drop_pd (nm := CraftM.name) (fun _ _ => nam_craft) hpd)⟩, wf, fun z H3 s3 hz => out.ok _ hok z H3 (s2.trans s3) hz⟩
  · refine out.no (.noCraft n) ?_ cl d H' s he
    show dropCraftM c n = _
    unfold dropCraftM
    rw [e]
theorem sc_drop_site : FnScope ["contents", "name"] ["contents", "name"] (defScope s_drop_site) := ⟨rfl, rfl, rfl, by decide +kernel, rfl, by decide +kernel, by decide +kernel⟩
theorem k_drop_site (T : TxX P w K mg) (n : Str) : Kal P w K mg base (L2.CX P w) 5 "drop_site" (spOf K (.dropSite n)) [] := by
  have c1 := k_site_of (P := P) (base := base) T
  have c3 := k_with_sites (P := P) (base := base) T.t
  have c4 := k_drop (P := P) (base := base) T.t
  refine kalX T.t.f_drop_site T.t.g_drop_site sc_drop_site (fun _ _ _ _ _ _ us hl => match us, hl with | [_, _], _ => rfl) (fun vs H Q E h => spOf_len h) (fun cdv A outer s H vs Q E hr h => ?_)
  obtain ⟨p, us, c, rfl, rfl, ok, hp, wf, out⟩ := h
  refine ⟨_, pss_cons (ps_expr (pe_kx c1 hr (by decide) (passes_call (takes_of rfl rfl rfl rfl) (fun _ _ _ _ h => h)) (pa_cons (pv 0) (pa_cons (pv 1) pa_nil))))
    (pss_one (ps_ret (pe_k c3 hr (by decide) (pa_cons (pv 0) (pa_cons (pe_k c4 hr (by decide) (pa_cons (pe_fld (pv 0) rfl) (pa_cons (pv 1) pa_nil))) pa_nil))))), ?_⟩
  obtain ⟨cv, fc, pc, xs, rfl, hx, hpd⟩ := hp.ft
  refine ⟨_, rfl, _, rfl, p, n, c, rfl, hp, fun cr e q hq => ?_, fun e cl d H' s he => ?_⟩
  · have hok : applyE c (.dropSite n) = .ok (withS c (c.sites.filter (fun r => !decide (r.name = n)))) := by
      show dropSiteM c n = _
      unfold dropSiteM
      rw [e]
    refine ⟨_, rfl, _, rfl, rdF fc ⟨_, rfl, pc, n, xs, rfl, hx, len100 hpd wf.sl (by decide), all_nam (nm := SiteM.name) (fun _ _ => nam_site) hpd, fun y H2 s2 hy => ?_⟩⟩
    exact ⟨p, .ref y, c, _, rfl, hp.keep (Keep.of s2), ⟨y, _, rfl, .inr hy, pd_mono (fun a b r => site_stays _ _ _ _ (Keep.of s2) r) (drop_pd (nm := SiteM.name) (fun _ _ => nam_site) hpd)⟩, wf, fun z H3 s3 hz => out.ok _ hok z H3 (s2.trans s3) hz⟩
  · refine out.no (.noSite n) ?_ cl d H' s he
    show dropSiteM c n = _
    unfold dropSiteM
    rw [e]
/-! ### add_site -/
theorem sc_add_site : FnScope ["contents", "site"] ["contents", "site"] (defScope s_add_site) := ⟨rfl, rfl, rfl, by decide +kernel, rfl, by decide +kernel, by decide +kernel⟩
theorem k_add_site (T : TxX P w K mg) (st : SiteM) : Kal P w K mg base (L2.CX P w) 5 "add_site" (spOf K (.addSite st)) [] := by
  have c1 := k_find (P := P) (base := base) T.t
  have c3 := k_with_sites (P := P) (base := base) T.t
  have c4 := k_put (P := P) (base := base) T.t
  obtain ⟨tk, gM⟩ := T.t.i_MOST_SITES
  refine kalX T.t.f_add_site T.t.g_add_site sc_add_site (fun _ _ _ _ _ _ us hl => match us, hl with | [_, _], _ => rfl) (fun vs H Q E h => spOf_len h) (fun cdv A outer s H vs Q E hr h => ?_)
  obtain ⟨p, us, c, rfl, ⟨_, rfl, q, rfl, hq⟩, ok, hp, wf, out⟩ := h
  refine ⟨_, pss_cons (ps_if (PW.pt (pw_and (pt_cmpR op_isN (pe_k c1 hr (by decide) (pa_cons (pe_fld (pv 0) rfl) (pa_cons (pe_fld (pv 1) rfl) pa_nil))) pe_non (nomark _)) (pw_and1 (pt_cmpR op_ge (pe_callB call_len_seq (by rfl) T.t.n_len PySem.boot_len (pa_cons (pe_fld (pv 0) rfl) pa_nil)) (pe_glob rfl gM (relI _ _)) (nomark _)))))
      (pss_one (ps_raise rfl (takes_of rfl rfl rfl rfl) (pmk_own PySem.F.excBase_ValueError T.t.x_TooMany.1 T.t.g_TooMany T.t.x_TooMany.2.1 (raises_own T.t.x_TooMany.2.2.1 T.t.x_TooMany.2.2.2) rfl))) pss_nil)
    (pss_one (ps_ret (pe_k c3 hr (by decide) (pa_cons (pv 0) (pa_cons (pe_k c4 hr (by decide) (pa_cons (pe_fld (pv 0) rfl) (pa_cons (pv 1) pa_nil))) pa_nil))))), ?_⟩
  obtain ⟨cv, fc, pc, xs, rfl, hx, hpd⟩ := hp.ft
  have hno : ¬ (findS c.sites st.name = Option.none ∧ 10 ≤ c.sites.length) → applyE c (.addSite st) = .ok (withS c (put ltS c.sites st)) := fun z => if_neg z
  refine ⟨_, rfl, rdF fc ⟨_, rfl, rdF hq.fn ⟨pc, st.name, xs, rfl, hx, all_nam (nm := SiteM.name) (fun _ _ => nam_site) hpd, ?_⟩⟩⟩
  cases e : findS c.sites st.name
  case' none =>
    rw [pick_none (nm := SiteM.name) (fun _ _ => nam_site) hpd e]
    refine ⟨rfl, tkT rfl (iteT ⟨_, rfl, rdF fc ⟨pc, xs, rfl, .inr hx, _, _, rfl, rfl, tk2 (fun h => iteT (out.no .many (if_pos ⟨e, by rw [← pd_len hpd]; omega⟩) _ _ H (Same.refl _) rfl)) (fun h => iteF ?_)⟩⟩)⟩
    have hok := hno fun z => h (by have := z.2; rw [← pd_len hpd] at this; omega)
  case' some c0 =>
    obtain ⟨q1, q2, q3⟩ : SiteAt K H (pick (nmV H) st.name xs) c0 := pick_some (nm := SiteM.name) (fun _ _ => nam_site) hpd e
    rw [q2]
    refine ⟨rfl, tkF (fun z => by cases z) (iteF (iteF ?_))⟩
    have hok := hno fun z => by rw [e] at z; cases z.1
  all_goals
    have hc : SiteAt K H (.ref q) st := ⟨q, rfl, hq⟩
    have hnn := nam_site hc
    refine ⟨_, rfl, _, rfl, rdF fc ⟨_, rfl, pc, .ref q, xs, rfl, hx, len100 hpd wf.sl (by decide), all_nam (nm := SiteM.name) (fun _ _ => nam_site) hpd, by rw [hnn.nm]; exact hnn, fun y H2 s2 hy => ?_⟩⟩
    exact ⟨p, .ref y, c, put ltS c.sites st, rfl, hp.keep (Keep.of s2), ⟨y, _, rfl, .inr hy, pd_mono (fun a b r => site_stays _ _ _ _ (Keep.of s2) r) (put_pd (nm := SiteM.name) (fun _ _ => nam_site) hpd hc)⟩, wf, fun z H3 s3 hz => out.ok _ hok z H3 (s2.trans s3) hz⟩
/-! ### set_drift -/
theorem sc_set_drift : FnScope ["contents", "name", "drift", "craft"] ["contents", "name", "drift"] (defScope s_set_drift) := ⟨rfl, rfl, rfl, by decide +kernel, rfl, by decide +kernel, by decide +kernel⟩
theorem k_set_drift (T : TxX P w K mg) (n : Str) (dr : Int) : Kal P w K mg base (L2.CX P w) 6 "set_drift" (spOf K (.setDrift n dr)) [] := by
  have c1 := k_craft_of (P := P) (base := base) T
  have c3 := k_changed (P := P) (base := base) T.t
  refine kalX T.t.f_set_drift T.t.g_set_drift sc_set_drift (fun _ _ _ _ _ _ us hl => match us, hl with | [_, _, _], _ => rfl) (fun vs H Q E h => spOf_len h) (fun cdv A outer s H vs Q E hr h => ?_)
  obtain ⟨p, us, c, rfl, rfl, ok, hp, wf, out⟩ := h
  refine ⟨_, pss_cons (ps_set (i := 3) sc_set_drift.nd rfl (Or.inl rfl) (pe_kx c1 hr (by decide) (passes_call (takes_of rfl rfl rfl rfl) (fun _ _ _ _ h => h)) (pa_cons (pv 0) (pa_cons (pv 1) pa_nil))))
    (pss_one (ps_ret (pe_k c3 hr (by decide) (pa_cons (pv 0) (pa_cons (pv 3) (pa_cons (pv 2) (pa_cons (pe_fld (pv 3) rfl) (pa_cons (pe_fld (pv 3) rfl) pa_nil)))))))), ?_⟩
  refine ⟨_, rfl, _, rfl, p, n, c, rfl, hp, fun cr e q hq => ?_, fun e cl d H' s he => ?_⟩
  · have hok : applyE c (.setDrift n dr) = .ok (changed c cr dr cr.burns cr.sights) := by
      show setDriftM c n dr = _
      unfold setDriftM
      rw [e]
    obtain ⟨bv, fb, hb⟩ := hq.fb
    obtain ⟨gv, fg, hg⟩ := hq.fg
    have w1 := (findC_in wf e).ok
    exact ⟨_, rfl, _, rfl, _, rfl, _, rfl, rdF fb ⟨_, rfl, rdF fg ⟨p, q, dr, bv, gv, c, cr, cr.burns, cr.sights, rfl, hp, hq, hb.seq, hg.seq, wf, ⟨w1.name, w1.st, w1.pl, w1.sp, ok⟩, fun x H' s hx => out.ok _ hok x H' s hx⟩⟩⟩
  · refine out.no (.noCraft n) ?_ cl d H' s he
    show setDriftM c n dr = _
    unfold setDriftM
    rw [e]
end
end Ka
/-! The edits of burns and sightings. -/
namespace Ka
open PySem PySem.Spec PyProof.Rows L2
section
variable {P : Program} {w : World} {K : PySem.W.Frag} {mg : Str → Option Value} {base : Heap}
/-- the number in a field -/
def inV (f : Str) (H : Hp) (x : V) : Int := match fldV H f x with
  | .int i => i
  | _ => 0
theorem inV_of {H : Hp} {p : Addr} {f : Str} {i : Int} (h : FldAt K H p f (.int i)) : inV f H (.ref p) = i := by
  unfold inV
  rw [h.val]
theorem bgn {H : Hp} {v : V} {b : BurnM} (h : BurnAt K H v b) : inV "begin" H v = b.b := by
  obtain ⟨p, rfl, h⟩ := h
  exact inV_of h.fb
theorem att {H : Hp} {v : V} {b : SightM} (h : SightAt K H v b) : inV "at" H v = b.t := by
  obtain ⟨p, rfl, h⟩ := h
  exact inV_of h.ft
theorem dec_int (a b : Int) : decide (V.int a = V.int b) = decide (a = b) := by
  by_cases h : a = b
  · rw [decide_eq_true h, h, decide_eq_true rfl]
  · rw [decide_eq_false h, decide_eq_false fun z => h (V.int.inj z)]
theorem other_pdB {H : Hp} {xs : List V} {cr : CraftM} {t : Int} (h : Paired (BurnAt K H) xs cr.burns) : Paired (BurnAt K H) (xs.filter fun x => !decide (V.int (inV "begin" H x) = V.int t)) (otherB cr t) :=
  pd_filter (fun a b r => by rw [bgn r, dec_int]) h
theorem other_pdG {H : Hp} {xs : List V} {cr : CraftM} {t : Int} (h : Paired (SightAt K H) xs cr.sights) : Paired (SightAt K H) (xs.filter fun x => !decide (V.int (inV "at" H x) = V.int t)) (otherG cr t) :=
  pd_filter (fun a b r => by rw [att r, dec_int]) h
/-! ### drop_burn, drop_sighting -/
theorem sc_drop_burn : FnScope ["contents", "name", "begin", "craft", "others", "burn"] ["contents", "name", "begin"] (defScope s_drop_burn) := ⟨rfl, rfl, rfl, by decide +kernel, rfl, by decide +kernel, by decide +kernel⟩
theorem k_drop_burn (T : TxX P w K mg) (n : Str) (t : Int) : Kal P w K mg base (L2.CX P w) 6 "drop_burn" (spOf K (.dropBurn n t)) [] := by
  have c1 := k_craft_of (P := P) (base := base) T
  have c3 := k_changed (P := P) (base := base) T.t
  refine kalX T.t.f_drop_burn T.t.g_drop_burn sc_drop_burn (fun _ _ _ _ _ _ us hl => match us, hl with | [_, _, _], _ => rfl) (fun vs H Q E h => spOf_len h) (fun cdv A outer s H vs Q E hr h => ?_)
  obtain ⟨p, us, c, rfl, rfl, ok, hp, wf, out⟩ := h
  refine ⟨_, pss_cons (ps_set (i := 3) sc_drop_burn.nd rfl (Or.inl rfl) (pe_kx c1 hr (by decide) (passes_call (takes_of rfl rfl rfl rfl) (fun _ _ _ _ h => h)) (pa_cons (pv 0) (pa_cons (pv 1) pa_nil))))
    (pss_cons (ps_Tf (ps_setLc (i := 4) (own := [("burn", 5)]) (g := gName 5) (tt := tTest (tOp _ (tFld K (tVar 5) "begin") (tVar 2))) (by rfl) sc_drop_burn.nd rfl rfl (sw_true rfl rfl rfl (by decide +kernel)) (pi_tup (pe_up (pe_fld (pv 3) rfl))) (blkOk_by (N := ["contents", "name", "begin", "craft", "others", "burn"]) (sc := defScope s_drop_burn) (by decide +kernel))
        (fun _ _ _ _ _ => pg_name (i := 5) sc_drop_burn.nd rfl (Or.inl rfl)) (fun _ _ _ _ _ => pts_one (pt_cmpR op_ne (pe_fld (pv 5) rfl) (pv 2) (nomark _))) (fun _ _ _ _ _ => pv 5)))
    (pss_cons (ps_if (pt_cmpR op_eq (pe_callB call_len_seq (by rfl) T.t.n_len PySem.boot_len (pa_cons (pv 4) pa_nil)) (pe_callB call_len_seq (by rfl) T.t.n_len PySem.boot_len (pa_cons (pe_fld (pv 3) rfl) pa_nil)) (nomark _))
      (pss_one (ps_raise rfl (takes_of rfl rfl rfl rfl) (pmk_own PySem.F.excBase_ValueError T.t.x_NoSuchBurn.1 T.t.g_NoSuchBurn T.t.x_NoSuchBurn.2.1 (raises_own T.t.x_NoSuchBurn.2.2.1 T.t.x_NoSuchBurn.2.2.2) rfl))) pss_nil)
    (pss_one (ps_ret (pe_k c3 hr (by decide) (pa_cons (pv 0) (pa_cons (pv 3) (pa_cons (pe_fld (pv 3) rfl) (pa_cons (pv 4) (pa_cons (pe_fld (pv 3) rfl) pa_nil)))))))))), ?_⟩
  refine ⟨_, rfl, _, rfl, p, n, c, rfl, hp, fun cr e q hq => ?_, fun e cl d H' s he => ?_⟩
  · obtain ⟨bv, fb, pb, xs, rfl, hx, hb⟩ := hq.fb
    obtain ⟨gv, fg, hg⟩ := hq.fg
    have w1 := findC_in wf e
    have hap : applyE c (.dropBurn n t) = if (otherB cr t).length = cr.burns.length then .error .noBurn else .ok (changed c cr cr.drift (otherB cr t) cr.sights) := by
      show dropBurnM c n t = _
      unfold dropBurnM
      rw [e]
    have ob := other_pdB (t := t) hb
    refine ⟨_, rfl, rdF fb ⟨pb, xs, fun x => !decide (V.int (inV "begin" H x) = V.int t), rfl, hx, small (len100 hb w1.bl (by decide)), (fun i x H' N Y hi s no yes => ?_), fun D H2 s2 hD hd => ?_⟩⟩
    · obtain ⟨m, hm, q2, rfl, hq2⟩ := pd_get hb hi
      have e2 := inV_of hq2.fb
      refine ⟨rfl, _, rfl, rdF (hq2.fb.same s) ⟨_, rfl, rfl, tknf (b := !decide (V.int (inV "begin" H (.ref q2)) = V.int t)) (by rw [e2]) (fun h => ?_) (fun h => no h)⟩⟩
      exact ⟨_, rfl, yes _ _ h (Same.refl _) rfl⟩
    · refine ⟨_, rfl, D, _, rfl, .inl (lstOf hd), _, rfl, rdF (fb.same s2) ⟨pb, xs, rfl, .inr (keepT (Keep.of s2) hx), rfl, tk2 (fun h => iteT ?_) (fun h => iteF ?_)⟩⟩
      · have h' : (otherB cr t).length = cr.burns.length := by
          have := V.int.inj h
          rw [pd_len ob, pd_len hb] at this
          exact Int.ofNat.inj this
        exact out.no .noBurn (hap.trans (if_pos h')) _ _ H2 s2 rfl
      · have h' : ¬ (otherB cr t).length = cr.burns.length := fun z => h (by rw [pd_len ob, pd_len hb, z])
        have hok := hap.trans (if_neg h')
        refine ⟨_, rfl, _, rfl, _, rfl, rdF (hq.fd.same s2) ⟨_, rfl, _, rfl, rdF (fg.same s2) ⟨p, q, cr.drift, .ref D, gv, c, cr, otherB cr t, cr.sights, rfl, hp.keep (Keep.of s2), hq.keep (Keep.of s2), ⟨D, _, rfl, .inl (lstOf hd), pd_mono (fun a b r => burn_stays _ _ _ _ (Keep.of s2) r) ob⟩,
          (hg.keep sight_stays (Keep.of s2)).seq, wf, ⟨w1.ok.name, w1.ok.st, w1.ok.pl, w1.ok.sp, w1.ok.dr⟩, fun x H' s hx => out.ok _ hok x H' (s2.trans s) hx⟩⟩⟩
  · refine out.no (.noCraft n) ?_ cl d H' s he
    show dropBurnM c n t = _
    unfold dropBurnM
    rw [e]
theorem sc_drop_sight : FnScope ["contents", "name", "at", "craft", "others", "sighting"] ["contents", "name", "at"] (defScope s_drop_sighting) := ⟨rfl, rfl, rfl, by decide +kernel, rfl, by decide +kernel, by decide +kernel⟩
theorem k_drop_sight (T : TxX P w K mg) (n : Str) (t : Int) : Kal P w K mg base (L2.CX P w) 6 "drop_sighting" (spOf K (.dropSight n t)) [] := by
  have c1 := k_craft_of (P := P) (base := base) T
  have c3 := k_changed (P := P) (base := base) T.t
  refine kalX T.t.f_drop_sighting T.t.g_drop_sighting sc_drop_sight (fun _ _ _ _ _ _ us hl => match us, hl with | [_, _, _], _ => rfl) (fun vs H Q E h => spOf_len h) (fun cdv A outer s H vs Q E hr h => ?_)
  obtain ⟨p, us, c, rfl, rfl, ok, hp, wf, out⟩ := h
  refine ⟨_, pss_cons (ps_set (i := 3) sc_drop_sight.nd rfl (Or.inl rfl) (pe_kx c1 hr (by decide) (passes_call (takes_of rfl rfl rfl rfl) (fun _ _ _ _ h => h)) (pa_cons (pv 0) (pa_cons (pv 1) pa_nil))))
    (pss_cons (ps_Tf (ps_setLc (i := 4) (own := [("sighting", 5)]) (g := gName 5) (tt := tTest (tOp _ (tFld K (tVar 5) "at") (tVar 2))) (by rfl) sc_drop_sight.nd rfl rfl (sw_true rfl rfl rfl (by decide +kernel)) (pi_tup (pe_up (pe_fld (pv 3) rfl))) (blkOk_by (N := ["contents", "name", "at", "craft", "others", "sighting"]) (sc := defScope s_drop_sighting) (by decide +kernel))
        (fun _ _ _ _ _ => pg_name (i := 5) sc_drop_sight.nd rfl (Or.inl rfl)) (fun _ _ _ _ _ => pts_one (pt_cmpR op_ne (pe_fld (pv 5) rfl) (pv 2) (nomark _))) (fun _ _ _ _ _ => pv 5)))
    (pss_cons (ps_if (pt_cmpR op_eq (pe_callB call_len_seq (by rfl) T.t.n_len PySem.boot_len (pa_cons (pv 4) pa_nil)) (pe_callB call_len_seq (by rfl) T.t.n_len PySem.boot_len (pa_cons (pe_fld (pv 3) rfl) pa_nil)) (nomark _))
      (pss_one (ps_raise rfl (takes_of rfl rfl rfl rfl) (pmk_own PySem.F.excBase_ValueError T.t.x_NoSuchSighting.1 T.t.g_NoSuchSighting T.t.x_NoSuchSighting.2.1 (raises_own T.t.x_NoSuchSighting.2.2.1 T.t.x_NoSuchSighting.2.2.2) rfl))) pss_nil)
    (pss_one (ps_ret (pe_k c3 hr (by decide) (pa_cons (pv 0) (pa_cons (pv 3) (pa_cons (pe_fld (pv 3) rfl) (pa_cons (pe_fld (pv 3) rfl) (pa_cons (pv 4) pa_nil)))))))))), ?_⟩
  refine ⟨_, rfl, _, rfl, p, n, c, rfl, hp, fun cr e q hq => ?_, fun e cl d H' s he => ?_⟩
  · obtain ⟨bv, fg, pb, xs, rfl, hx, hb⟩ := hq.fg
    obtain ⟨gv, fb, hg⟩ := hq.fb
    have w1 := findC_in wf e
    have hap : applyE c (.dropSight n t) = if (otherG cr t).length = cr.sights.length then .error .noSight else .ok (changed c cr cr.drift cr.burns (otherG cr t)) := by
      show dropSightM c n t = _
      unfold dropSightM
      rw [e]
    have ob := other_pdG (t := t) hb
    refine ⟨_, rfl, rdF fg ⟨pb, xs, fun x => !decide (V.int (inV "at" H x) = V.int t), rfl, hx, small (len100 hb w1.gl (by decide)), (fun i x H' N Y hi s no yes => ?_), fun D H2 s2 hD hd => ?_⟩⟩
    · obtain ⟨m, hm, q2, rfl, hq2⟩ := pd_get hb hi
      have e2 := inV_of hq2.ft
      refine ⟨rfl, _, rfl, rdF (hq2.ft.same s) ⟨_, rfl, rfl, tknf (b := !decide (V.int (inV "at" H (.ref q2)) = V.int t)) (by rw [e2]) (fun h => ?_) (fun h => no h)⟩⟩
      exact ⟨_, rfl, yes _ _ h (Same.refl _) rfl⟩
    · refine ⟨_, rfl, D, _, rfl, .inl (lstOf hd), _, rfl, rdF (fg.same s2) ⟨pb, xs, rfl, .inr (keepT (Keep.of s2) hx), rfl, tk2 (fun h => iteT ?_) (fun h => iteF ?_)⟩⟩
      · have h' : (otherG cr t).length = cr.sights.length := by
          have := V.int.inj h
          rw [pd_len ob, pd_len hb] at this
          exact Int.ofNat.inj this
        exact out.no .noSight (hap.trans (if_pos h')) _ _ H2 s2 rfl
      · have h' : ¬ (otherG cr t).length = cr.sights.length := fun z => h (by rw [pd_len ob, pd_len hb, z])
        have hok := hap.trans (if_neg h')
        refine ⟨_, rfl, _, rfl, _, rfl, rdF (hq.fd.same s2) ⟨_, rfl, rdF (fb.same s2) ⟨_, rfl, p, q, cr.drift, gv, .ref D, c, cr, cr.burns, otherG cr t, rfl, hp.keep (Keep.of s2), hq.keep (Keep.of s2), (hg.keep burn_stays (Keep.of s2)).seq, ⟨D, _, rfl, .inl (lstOf hd), pd_mono (fun a b r => sight_stays _ _ _ _ (Keep.of s2) r) ob⟩,
          wf, ⟨w1.ok.name, w1.ok.st, w1.ok.pl, w1.ok.sp, w1.ok.dr⟩, fun x H' s hx => out.ok _ hok x H' (s2.trans s) hx⟩⟩⟩
  · refine out.no (.noCraft n) ?_ cl d H' s he
    show dropSightM c n t = _
    unfold dropSightM
    rw [e]
end
end Ka
/-! add_burn, add_sighting. -/
namespace Ka
open PySem PySem.Spec PyProof.Rows L2
section
variable {P : Program} {w : World} {K : PySem.W.Frag} {mg : Str → Option Value} {base : Heap}
theorem put_pdB {H : Hp} {xs : List V} {l : List BurnM} {v : V} {b : BurnM} (h : Paired (BurnAt K H) xs l) (r : BurnAt K H v b) :
    Paired (BurnAt K H) ((xs.filter (fun x => decide (inV "begin" H x < b.b)) ++ [v]) ++ xs.filter fun x => decide (b.b < inV "begin" H x)) (put ltB l b) := by
  unfold put
  refine pd_append (pd_append (pd_filter (fun a m q => ?_) h) (.cons r .nil)) (pd_filter (fun a m q => ?_) h)
  · rw [bgn q]
    rfl
  · rw [bgn q]
    rfl
theorem put_pdG {H : Hp} {xs : List V} {l : List SightM} {v : V} {b : SightM} (h : Paired (SightAt K H) xs l) (r : SightAt K H v b) :
    Paired (SightAt K H) ((xs.filter (fun x => decide (inV "at" H x < b.t)) ++ [v]) ++ xs.filter fun x => decide (b.t < inV "at" H x)) (put ltG l b) := by
  unfold put
  refine pd_append (pd_append (pd_filter (fun a m q => ?_) h) (.cons r .nil)) (pd_filter (fun a m q => ?_) h)
  · rw [att q]
    rfl
  · rw [att q]
    rfl
theorem sc_add_sight : FnScope ["contents", "name", "sighting", "craft", "others", "before", "after", "other"] ["contents", "name", "sighting"] (defScope s_add_sighting) := ⟨rfl, rfl, rfl, by decide +kernel, rfl, by decide +kernel, by decide +kernel⟩
theorem k_add_sight (T : TxX P w K mg) (n : Str) (b : SightM) : Kal P w K mg base (L2.CX P w) 6 "add_sighting" (spOf K (.addSight n b)) [] := by
  have c1 := k_craft_of (P := P) (base := base) T
  have c3 := k_changed (P := P) (base := base) T.t
  obtain ⟨tk, gM⟩ := T.t.i_MOST_OF_CRAFT
  refine kalX T.t.f_add_sighting T.t.g_add_sighting sc_add_sight (fun _ _ _ _ _ _ us hl => match us, hl with | [_, _, _], _ => rfl) (fun vs H Q E h => spOf_len h) (fun cdv A outer s H vs Q E hr h => ?_)
  obtain ⟨p, us, c, rfl, ⟨_, rfl, u, rfl, hu⟩, ok, hp, wf, out⟩ := h
  refine ⟨_, pss_cons (ps_set (i := 3) sc_add_sight.nd rfl (Or.inl rfl) (pe_kx c1 hr (by decide) (passes_call (takes_of rfl rfl rfl rfl) (fun _ _ _ _ h => h)) (pa_cons (pv 0) (pa_cons (pv 1) pa_nil))))
    (pss_cons (ps_if (pt_cmpR op_lt (pe_fld (pv 2) rfl) (pe_fld (pv 3) rfl) (nomark _))
      (pss_one (ps_raise rfl (takes_of rfl rfl rfl rfl) (pmk_own PySem.F.excBase_ValueError T.t.x_BeforeStart.1 T.t.g_BeforeStart T.t.x_BeforeStart.2.1 (raises_own T.t.x_BeforeStart.2.2.1 T.t.x_BeforeStart.2.2.2) rfl))) pss_nil)
    (pss_cons (ps_Tf (ps_setLc (i := 4) (own := [("other", 7)]) (g := gName 7) (tt := tTest (tOp _ (tFld K (tVar 7) "at") (tFld K (tVar 2) "at"))) (by rfl) sc_add_sight.nd rfl rfl (sw_true rfl rfl rfl (by decide +kernel)) (pi_tup (pe_up (pe_fld (pv 3) rfl))) (blkOk_by (N := ["contents", "name", "sighting", "craft", "others", "before", "after", "other"]) (sc := defScope s_add_sighting) (by decide +kernel))
        (fun _ _ _ _ _ => pg_name (i := 7) sc_add_sight.nd rfl (Or.inl rfl)) (fun _ _ _ _ _ => pts_one (pt_cmpR op_ne (pe_fld (pv 7) rfl) (pe_fld (pv 2) rfl) (nomark _))) (fun _ _ _ _ _ => pv 7)))
    (pss_cons (ps_if (pt_cmpR op_ge (pe_callB call_len_seq (by rfl) T.t.n_len PySem.boot_len (pa_cons (pv 4) pa_nil)) (pe_glob rfl gM (relI _ _)) (nomark _))
      (pss_one (ps_raise rfl (takes_of rfl rfl rfl rfl) (pmk_own PySem.F.excBase_ValueError T.t.x_TooMany.1 T.t.g_TooMany T.t.x_TooMany.2.1 (raises_own T.t.x_TooMany.2.2.1 T.t.x_TooMany.2.2.2) rfl))) pss_nil)
    (pss_cons (ps_Lf (ps_setLc (i := 5) (own := [("other", 7)]) (g := gName 7) (tt := tTest (tOp _ (tFld K (tVar 7) "at") (tFld K (tVar 2) "at"))) (by rfl) sc_add_sight.nd rfl rfl (sw_true rfl rfl rfl (by decide +kernel)) (pi_list (pe_up (pv 4))) (blkOk_by (N := ["contents", "name", "sighting", "craft", "others", "before", "after", "other"]) (sc := defScope s_add_sighting) (by decide +kernel))
        (fun _ _ _ _ _ => pg_name (i := 7) sc_add_sight.nd rfl (Or.inl rfl)) (fun _ _ _ _ _ => pts_one (pt_cmpR op_lt (pe_fld (pv 7) rfl) (pe_fld (pv 2) rfl) (nomark _))) (fun _ _ _ _ _ => pv 7)))
    (pss_cons (ps_Lf (ps_setLc (i := 6) (own := [("other", 7)]) (g := gName 7) (tt := tTest (tOp _ (tFld K (tVar 7) "at") (tFld K (tVar 2) "at"))) (by rfl) sc_add_sight.nd rfl rfl (sw_true rfl rfl rfl (by decide +kernel)) (pi_list (pe_up (pv 4))) (blkOk_by (N := ["contents", "name", "sighting", "craft", "others", "before", "after", "other"]) (sc := defScope s_add_sighting) (by decide +kernel))
        (fun _ _ _ _ _ => pg_name (i := 7) sc_add_sight.nd rfl (Or.inl rfl)) (fun _ _ _ _ _ => pts_one (pt_cmpR op_gt (pe_fld (pv 7) rfl) (pe_fld (pv 2) rfl) (nomark _))) (fun _ _ _ _ _ => pv 7)))
    (pss_one (ps_ret (pe_k c3 hr (by decide) (pa_cons (pv 0) (pa_cons (pv 3) (pa_cons (pe_fld (pv 3) rfl) (pa_cons (pe_fld (pv 3) rfl) (pa_cons (pe_op op_catS (pe_op op_catS (pv 5) (pe_lst (pa_cons (pv 2) pa_nil))) (pv 6)) pa_nil))))))))))))), ?_⟩
  refine ⟨_, rfl, _, rfl, p, n, c, rfl, hp, fun cr e q hq => ?_, fun e cl d H' s he => ?_⟩
  · obtain ⟨bv, fg, pb, xs, rfl, hx, hb⟩ := hq.fg
    obtain ⟨gv, fb, hg⟩ := hq.fb
    have w1 := findC_in wf e
    have hap : applyE c (.addSight n b) = if b.t < cr.start then .error .before else if 20 ≤ (otherG cr b.t).length then .error .many else .ok (changed c cr cr.drift cr.burns (put ltG (otherG cr b.t) b)) := by
      show addSightM c n b = _
      unfold addSightM
      rw [e]
    have ob := other_pdG (t := b.t) hb
    refine ⟨_, rfl, rdF hu.ft ⟨_, rfl, rdF hq.fs ⟨_, _, rfl, rfl, tk2 (fun h => iteT (out.no .before (hap.trans (if_pos h)) _ _ H (Same.refl _) rfl)) (fun hbs => iteF ?_)⟩⟩⟩
    rw [if_neg hbs] at hap
    have lo : (xs.filter fun x => !decide (V.int (inV "at" H x) = V.int b.t)).length ≤ 100 := Nat.le_trans (List.length_filter_le _ _) (len100 hb w1.gl (by decide))
    refine ⟨_, rfl, rdF fg ⟨pb, xs, fun x => !decide (V.int (inV "at" H x) = V.int b.t), rfl, hx, small (len100 hb w1.gl (by decide)), (fun i x H' N Y hi s no yes => ?_), fun D H2 s2 hD hd => ?_⟩⟩
    · obtain ⟨m, hm, q2, rfl, hq2⟩ := pd_get hb hi
      have e2 := inV_of hq2.ft
      refine ⟨rfl, _, rfl, rdF (hq2.ft.same s) ⟨_, rfl, rdF (hu.ft.same s) ⟨rfl, tknf (b := !decide (V.int (inV "at" H (.ref q2)) = V.int b.t)) (by rw [e2]) (fun h => ?_) (fun h => no h)⟩⟩⟩
      exact ⟨_, rfl, yes _ _ h (Same.refl _) rfl⟩
    have ob2 : Paired (SightAt K H2) (xs.filter fun x => !decide (V.int (inV "at" H x) = V.int b.t)) (otherG cr b.t) := pd_mono (fun a b r => sight_stays _ _ _ _ (Keep.of s2) r) ob
    have hu2 := hu.keep (Keep.of s2)
    refine ⟨_, rfl, D, _, rfl, .inl (lstOf hd), _, _, rfl, rfl, tk2 (fun h => iteT (out.no .many (hap.trans (if_pos (by rw [pd_len ob] at h; omega))) _ _ H2 s2 rfl)) (fun hmn => iteF ?_)⟩
    have hok := hap.trans (if_neg (by rw [pd_len ob] at hmn; omega))
    refine ⟨_, rfl, D, _, fun x => decide (inV "at" H2 x < b.t), rfl, lstOf hd, small lo, (fun i x H' N Y hi s no yes => ?_), fun D3 H3 s3 hD3 hd3 => ?_⟩
    · obtain ⟨m, hm, q2, rfl, hq2⟩ := pd_get ob2 hi
      have e2 := inV_of hq2.ft
      refine ⟨rfl, _, rfl, rdF (hq2.ft.same s) ⟨_, rfl, rdF (hu2.ft.same s) ⟨_, _, rfl, rfl, tkf (b := decide (inV "at" H2 (.ref q2) < b.t)) (by rw [e2]) (fun h => ?_) (fun h => no h)⟩⟩⟩
      exact ⟨_, rfl, yes _ _ h (Same.refl _) rfl⟩
    refine ⟨_, rfl, D, _, fun x => decide (b.t < inV "at" H2 x), rfl, lstOf (s3 _ _ hd), small lo, (fun i x H' N Y hi s no yes => ?_), fun D4 H4 s4 hD4 hd4 => ?_⟩
    · obtain ⟨m, hm, q2, rfl, hq2⟩ := pd_get ob2 hi
      have e2 := inV_of hq2.ft
      refine ⟨rfl, _, rfl, rdF (hq2.ft.same (s3.trans s)) ⟨_, rfl, rdF (hu2.ft.same (s3.trans s)) ⟨_, _, rfl, rfl, tkf (b := decide (b.t < inV "at" H2 (.ref q2))) (by rw [e2]) (fun h => ?_) (fun h => no h)⟩⟩⟩
      exact ⟨_, rfl, yes _ _ h (Same.refl _) rfl⟩
    have s24 := s2.trans (s3.trans s4)
    have l1 := Nat.le_trans (List.length_filter_le (fun x => decide (inV "at" H2 x < b.t)) _) lo
    have l2 := Nat.le_trans (List.length_filter_le (fun x => decide (b.t < inV "at" H2 x)) _) lo
    refine ⟨_, rfl, _, rfl, _, rfl, rdF (hq.fd.same s24) ⟨_, rfl, rdF (fb.same s24) ⟨_, rfl, _, rfl, by show 1 ≤ sizeLine; decide, fun l hnl => ?_⟩⟩⟩
    have s5 : Same H4 (upd H4 l (.lst [.ref u])) := Same.new hnl
    refine ⟨D3, l, _, _, rfl, rfl, s5 _ _ (s4 _ _ hd3), upd_same, small2 (by rw [List.length_singleton]; omega), fun q5 H5 s6 n5 h5 => ?_⟩
    refine ⟨_, rfl, q5, D4, _, _, rfl, rfl, h5, s6 _ _ (s5 _ _ hd4), small2 (by rw [List.length_append, List.length_singleton]; omega), fun q6 H6 s7 n6 h6 => ?_⟩
    have s26 := s3.trans (s4.trans (s5.trans (s6.trans s7)))
    have s06 := s2.trans s26
    exact ⟨p, q, cr.drift, gv, .ref q6, c, cr, cr.burns, put ltG (otherG cr b.t) b, rfl, hp.keep (Keep.of s06), hq.keep (Keep.of s06), (hg.keep burn_stays (Keep.of s06)).seq,
      ⟨q6, _, rfl, .inl (lstOf h6), pd_mono (fun a b r => sight_stays _ _ _ _ (Keep.of s26) r) (put_pdG ob2 ⟨u, rfl, hu2⟩)⟩, wf, ⟨w1.ok.name, w1.ok.st, w1.ok.pl, w1.ok.sp, w1.ok.dr⟩, fun x H' s hx => out.ok _ hok x H' (s06.trans s) hx⟩
  · refine out.no (.noCraft n) ?_ cl d H' s he
    show addSightM c n b = _
    unfold addSightM
    rw [e]
theorem sc_add_burn : FnScope ["contents", "name", "burn", "craft", "others", "before", "after", "other"] ["contents", "name", "burn"] (defScope s_add_burn) := ⟨rfl, rfl, rfl, by decide +kernel, rfl, by decide +kernel, by decide +kernel⟩
theorem k_add_burn (T : TxX P w K mg) (n : Str) (b : BurnM) : Kal P w K mg base (L2.CX P w) 6 "add_burn" (spOf K (.addBurn n b)) [] := by
  have c1 := k_craft_of (P := P) (base := base) T
  have c3 := k_changed (P := P) (base := base) T.t
  obtain ⟨tk, gM⟩ := T.t.i_MOST_OF_CRAFT
  refine kalX T.t.f_add_burn T.t.g_add_burn sc_add_burn (fun _ _ _ _ _ _ us hl => match us, hl with | [_, _, _], _ => rfl) (fun vs H Q E h => spOf_len h) (fun cdv A outer s H vs Q E hr h => ?_)
  obtain ⟨p, us, c, rfl, ⟨_, rfl, u, rfl, hu⟩, ok, hp, wf, out⟩ := h
  refine ⟨_, pss_cons (ps_set (i := 3) sc_add_burn.nd rfl (Or.inl rfl) (pe_kx c1 hr (by decide) (passes_call (takes_of rfl rfl rfl rfl) (fun _ _ _ _ h => h)) (pa_cons (pv 0) (pa_cons (pv 1) pa_nil))))
    (pss_cons (ps_if (pt_cmpR op_lt (pe_fld (pv 2) rfl) (pe_fld (pv 3) rfl) (nomark _))
      (pss_one (ps_raise rfl (takes_of rfl rfl rfl rfl) (pmk_own PySem.F.excBase_ValueError T.t.x_BeforeStart.1 T.t.g_BeforeStart T.t.x_BeforeStart.2.1 (raises_own T.t.x_BeforeStart.2.2.1 T.t.x_BeforeStart.2.2.2) rfl))) pss_nil)
    (pss_cons (ps_Tf (ps_setLc (i := 4) (own := [("other", 7)]) (g := gName 7) (tt := tTest (tOp _ (tFld K (tVar 7) "begin") (tFld K (tVar 2) "begin"))) (by rfl) sc_add_burn.nd rfl rfl (sw_true rfl rfl rfl (by decide +kernel)) (pi_tup (pe_up (pe_fld (pv 3) rfl))) (blkOk_by (N := ["contents", "name", "burn", "craft", "others", "before", "after", "other"]) (sc := defScope s_add_burn) (by decide +kernel))
        (fun _ _ _ _ _ => pg_name (i := 7) sc_add_burn.nd rfl (Or.inl rfl)) (fun _ _ _ _ _ => pts_one (pt_cmpR op_ne (pe_fld (pv 7) rfl) (pe_fld (pv 2) rfl) (nomark _))) (fun _ _ _ _ _ => pv 7)))
    (pss_cons (ps_for (passes_of rfl) rfl (pi_list (pv 4)) (pg_name (i := 7) sc_add_burn.nd rfl (Or.inl rfl)) (pss_one (ps_if (PW.pt (pw_and (pt_cmpR op_lt (pe_fld (pv 7) rfl) (pe_fld (pv 2) rfl) (nomark _)) (pw_and1 (pt_cmpR op_lt (pe_fld (pv 2) rfl) (pe_fld (pv 7) rfl) (nomark _)))))
      (pss_one (ps_raise rfl (takes_of rfl rfl rfl rfl) (pmk_own PySem.F.excBase_ValueError T.t.x_BurnsOverlap.1 T.t.g_BurnsOverlap T.t.x_BurnsOverlap.2.1 (raises_own T.t.x_BurnsOverlap.2.2.1 T.t.x_BurnsOverlap.2.2.2) rfl))) pss_nil)))
    (pss_cons (ps_if (pt_cmpR op_ge (pe_callB call_len_seq (by rfl) T.t.n_len PySem.boot_len (pa_cons (pv 4) pa_nil)) (pe_glob rfl gM (relI _ _)) (nomark _))
      (pss_one (ps_raise rfl (takes_of rfl rfl rfl rfl) (pmk_own PySem.F.excBase_ValueError T.t.x_TooMany.1 T.t.g_TooMany T.t.x_TooMany.2.1 (raises_own T.t.x_TooMany.2.2.1 T.t.x_TooMany.2.2.2) rfl))) pss_nil)
    (pss_cons (ps_Lf (ps_setLc (i := 5) (own := [("other", 7)]) (g := gName 7) (tt := tTest (tOp _ (tFld K (tVar 7) "begin") (tFld K (tVar 2) "begin"))) (by rfl) sc_add_burn.nd rfl rfl (sw_true rfl rfl rfl (by decide +kernel)) (pi_list (pe_up (pv 4))) (blkOk_by (N := ["contents", "name", "burn", "craft", "others", "before", "after", "other"]) (sc := defScope s_add_burn) (by decide +kernel))
        (fun _ _ _ _ _ => pg_name (i := 7) sc_add_burn.nd rfl (Or.inl rfl)) (fun _ _ _ _ _ => pts_one (pt_cmpR op_lt (pe_fld (pv 7) rfl) (pe_fld (pv 2) rfl) (nomark _))) (fun _ _ _ _ _ => pv 7)))
    (pss_cons (ps_Lf (ps_setLc (i := 6) (own := [("other", 7)]) (g := gName 7) (tt := tTest (tOp _ (tFld K (tVar 7) "begin") (tFld K (tVar 2) "begin"))) (by rfl) sc_add_burn.nd rfl rfl (sw_true rfl rfl rfl (by decide +kernel)) (pi_list (pe_up (pv 4))) (blkOk_by (N := ["contents", "name", "burn", "craft", "others", "before", "after", "other"]) (sc := defScope s_add_burn) (by decide +kernel))
        (fun _ _ _ _ _ => pg_name (i := 7) sc_add_burn.nd rfl (Or.inl rfl)) (fun _ _ _ _ _ => pts_one (pt_cmpR op_gt (pe_fld (pv 7) rfl) (pe_fld (pv 2) rfl) (nomark _))) (fun _ _ _ _ _ => pv 7)))
    (pss_one (ps_ret (pe_k c3 hr (by decide) (pa_cons (pv 0) (pa_cons (pv 3) (pa_cons (pe_fld (pv 3) rfl) (pa_cons (pe_op op_catS (pe_op op_catS (pv 5) (pe_lst (pa_cons (pv 2) pa_nil))) (pv 6)) (pa_cons (pe_fld (pv 3) rfl) pa_nil)))))))))))))), ?_⟩
  refine ⟨_, rfl, _, rfl, p, n, c, rfl, hp, fun cr e q hq => ?_, fun e cl d H' s he => ?_⟩
  · obtain ⟨bv, fb, pb, xs, rfl, hx, hb⟩ := hq.fb
    obtain ⟨gv, fg, hg⟩ := hq.fg
    have w1 := findC_in wf e
    have hap : applyE c (.addBurn n b) = if b.b < cr.start then .error .before else if (otherB cr b.b).any (fun o => clash o b) = true then .error .overlap else if 20 ≤ (otherB cr b.b).length then .error .many else .ok (changed c cr cr.drift (put ltB (otherB cr b.b) b) cr.sights) := by
      show addBurnM c n b = _
      unfold addBurnM
      rw [e]
    have ob := other_pdB (t := b.b) hb
    refine ⟨_, rfl, rdF hu.fb ⟨_, rfl, rdF hq.fs ⟨_, _, rfl, rfl, tk2 (fun h => iteT (out.no .before (hap.trans (if_pos h)) _ _ H (Same.refl _) rfl)) (fun hbs => iteF ?_)⟩⟩⟩
    rw [if_neg hbs] at hap
    have lo : (xs.filter fun x => !decide (V.int (inV "begin" H x) = V.int b.b)).length ≤ 100 := Nat.le_trans (List.length_filter_le _ _) (len100 hb w1.bl (by decide))
    refine ⟨_, rfl, rdF fb ⟨pb, xs, fun x => !decide (V.int (inV "begin" H x) = V.int b.b), rfl, hx, small (len100 hb w1.bl (by decide)), (fun i x H' N Y hi s no yes => ?_), fun D H2 s2 hD hd => ?_⟩⟩
    · obtain ⟨m, hm, q2, rfl, hq2⟩ := pd_get hb hi
      have e2 := inV_of hq2.fb
      refine ⟨rfl, _, rfl, rdF (hq2.fb.same s) ⟨_, rfl, rdF (hu.fb.same s) ⟨rfl, tknf (b := !decide (V.int (inV "begin" H (.ref q2)) = V.int b.b)) (by rw [e2]) (fun h => ?_) (fun h => no h)⟩⟩⟩
      exact ⟨_, rfl, yes _ _ h (Same.refl _) rfl⟩
    have ob2 : Paired (BurnAt K H2) (xs.filter fun x => !decide (V.int (inV "begin" H x) = V.int b.b)) (otherB cr b.b) := pd_mono (fun a b r => burn_stays _ _ _ _ (Keep.of s2) r) ob
    have hu2 := hu.keep (Keep.of s2)
    refine ⟨_, rfl, D, rfl, ⟨_, lstOf hd⟩, for_list (K := K) (a := D) (xs := xs.filter fun x => !decide (V.int (inV "begin" H x) = V.int b.b)) (fun i σ H' => ∃ v : Option V, σ = [some (.ref p), some (.str n), some (.ref u), some (.ref q), some (.ref D), Option.none, Option.none, v] ∧ H' = H2 ∧ ((otherB cr b.b).take i).any (fun o => clash o b) = false)
      ⟨Option.none, rfl, rfl, rfl⟩ (fun i σ H' _ ⟨_, _, e, _⟩ => by rw [e]; exact lstOf hd) (fun i y σ H' hi ⟨v, eσ, eH, ha⟩ => ?_) (fun σ H' ⟨v, eσ, eH, ha⟩ => ?_)⟩
    · subst eσ eH
      obtain ⟨m, hm, q2, rfl, hq2⟩ := pd_get ob2 hi
      have step : ((otherB cr b.b).take (i + 1)).any (fun o => clash o b) = clash m b := by
        rw [take_snoc hm, List.any_append, ha, Bool.false_or, List.any_cons, List.any_nil, Bool.or_false]
      have bad : clash m b = true → (otherB cr b.b).any (fun o => clash o b) = true := fun h => List.any_eq_true.mpr ⟨m, List.mem_of_getElem? hm, h⟩
      refine ⟨_, rfl, rdF hq2.fb ⟨_, rfl, rdF hu2.fe ⟨_, _, rfl, rfl, tk2 (fun h1 => iteT ⟨_, rfl, rdF hu2.fb ⟨_, rfl, rdF hq2.fe ⟨_, _, rfl, rfl, tk2 (fun h2 => iteT ?_) (fun h2 => iteF ?_)⟩⟩⟩) (fun h1 => iteF (iteF ?_))⟩⟩⟩
      · have cl : clash m b = true := by unfold clash; rw [decide_eq_true h1, decide_eq_true h2]; rfl
        exact out.no .overlap (hap.trans (if_pos (bad cl))) _ _ _ s2 rfl
      · exact ⟨_, rfl, rfl, step.trans (by unfold clash; rw [decide_eq_false h2, Bool.and_false])⟩
      · exact ⟨_, rfl, rfl, step.trans (by unfold clash; rw [decide_eq_false h1, Bool.false_and])⟩
    subst eσ eH
    rw [pd_len ob2, List.take_length] at ha
    rw [if_neg (by rw [ha]; exact Bool.false_ne_true)] at hap
    refine ⟨_, rfl, D, _, rfl, .inl (lstOf hd), _, _, rfl, rfl, tk2 (fun h => iteT (out.no .many (hap.trans (if_pos (by rw [pd_len ob] at h; omega))) _ _ _ s2 rfl)) (fun hmn => iteF ?_)⟩
    have hok := hap.trans (if_neg (by rw [pd_len ob] at hmn; omega))
    refine ⟨_, rfl, D, _, fun x => decide (inV "begin" H' x < b.b), rfl, lstOf hd, small lo, (fun i x H' N Y hi s no yes => ?_), fun D3 H3 s3 hD3 hd3 => ?_⟩
    · obtain ⟨m, hm, q2, rfl, hq2⟩ := pd_get ob2 hi
      have e2 := inV_of hq2.fb
      refine ⟨rfl, _, rfl, rdF (hq2.fb.same s) ⟨_, rfl, rdF (hu2.fb.same s) ⟨_, _, rfl, rfl, tkf (b := decide (inV "begin" _ (.ref q2) < b.b)) (by rw [e2]) (fun h => ?_) (fun h => no h)⟩⟩⟩
      exact ⟨_, rfl, yes _ _ h (Same.refl _) rfl⟩
    refine ⟨_, rfl, D, _, fun x => decide (b.b < inV "begin" H' x), rfl, lstOf (s3 _ _ hd), small lo, (fun i x H' N Y hi s no yes => ?_), fun D4 H4 s4 hD4 hd4 => ?_⟩
    · obtain ⟨m, hm, q2, rfl, hq2⟩ := pd_get ob2 hi
      have e2 := inV_of hq2.fb
      refine ⟨rfl, _, rfl, rdF (hq2.fb.same (s3.trans s)) ⟨_, rfl, rdF (hu2.fb.same (s3.trans s)) ⟨_, _, rfl, rfl, tkf (b := decide (b.b < inV "begin" _ (.ref q2))) (by rw [e2]) (fun h => ?_) (fun h => no h)⟩⟩⟩
      exact ⟨_, rfl, yes _ _ h (Same.refl _) rfl⟩
    have s24 := s2.trans (s3.trans s4)
    have l1 := Nat.le_trans (List.length_filter_le (fun x => decide (inV "begin" H' x < b.b)) _) lo
    have l2 := Nat.le_trans (List.length_filter_le (fun x => decide (b.b < inV "begin" H' x)) _) lo
    refine ⟨_, rfl, _, rfl, _, rfl, rdF (hq.fd.same s24) ⟨_, rfl, _, rfl, by show 1 ≤ sizeLine; decide, fun l hnl => ?_⟩⟩
    have s5 : Same H4 (upd H4 l (.lst [.ref u])) := Same.new hnl
    refine ⟨D3, l, _, _, rfl, rfl, s5 _ _ (s4 _ _ hd3), upd_same, small2 (by rw [List.length_singleton]; omega), fun q5 H5 s6 n5 h5 => ?_⟩
    refine ⟨_, rfl, q5, D4, _, _, rfl, rfl, h5, s6 _ _ (s5 _ _ hd4), small2 (by rw [List.length_append, List.length_singleton]; omega), fun q6 H6 s7 n6 h6 => ?_⟩
    have s26 := s3.trans (s4.trans (s5.trans (s6.trans s7)))
    have s06 := s2.trans s26
    refine ⟨_, rfl, rdF (fg.same s06) ?_⟩
    exact ⟨p, q, cr.drift, .ref q6, gv, c, cr, put ltB (otherB cr b.b) b, cr.sights, rfl, hp.keep (Keep.of s06), hq.keep (Keep.of s06),
      ⟨q6, _, rfl, .inl (lstOf h6), pd_mono (fun a b r => burn_stays _ _ _ _ (Keep.of s26) r) (put_pdB ob2 ⟨u, rfl, hu2⟩)⟩, (hg.keep sight_stays (Keep.of s06)).seq, wf, ⟨w1.ok.name, w1.ok.st, w1.ok.pl, w1.ok.sp, w1.ok.dr⟩, fun x H' s hx => out.ok _ hok x H' (s06.trans s) hx⟩
  · refine out.no (.noCraft n) ?_ cl d H' s he
    show addBurnM c n b = _
    unfold addBurnM
    rw [e]
end
end Ka
/-! apply_edit. -/
namespace Ka
open PySem PySem.Spec PyProof.Rows L2
section
variable {P : Program} {w : World} {K : PySem.W.Frag} {mg : Str → Option Value} {base : Heap}
theorem relA (a : Addr) : L2.RelV (.ref a) (.ref a) := rfl
theorem Kal.held {k j : Nat} {x : Str} {f : Addr} {sp : Sp} (c : Kal P w K mg base (L2.CX P w) k x sp []) (h : k ≤ j) (g : mg x = some (.ref f)) : HeldX P w K mg base j f sp := by
  obtain ⟨f', fd, ps, ds, F, g', kp, b, d⟩ := c.ex
  rw [g] at g'
  cases d
  obtain rfl : f = f' := by
    have := Option.some.inj g'
    exact Value.ref.inj this
  exact ⟨fd, ps, F.mono h, kp, b⟩
theorem held_all (T : TxX P w K mg) : ∀ e, HeldX P w K mg base 6 (He.ga K (fnm e)) (spOf K e)
  | .setBody b => (k_set_body T b).held (by decide) T.t.g_set_body
  | .setStride n => (k_set_stride T n).held (by decide) T.t.g_set_stride
  | .setFine n => (k_set_fine T n).held (by decide) T.t.g_set_fineness
  | .addCraft c => (k_add_craft T c).held (by decide) T.t.g_add_craft
  | .dropCraft n => (k_drop_craft T n).held (by decide) T.t.g_drop_craft
  | .addSite s => (k_add_site T s).held (by decide) T.t.g_add_site
  | .dropSite n => (k_drop_site T n).held (by decide) T.t.g_drop_site
  | .setDrift n d => (k_set_drift T n d).held (by decide) T.t.g_set_drift
  | .addBurn n b => (k_add_burn T n b).held (by decide) T.t.g_add_burn
  | .dropBurn n t => (k_drop_burn T n t).held (by decide) T.t.g_drop_burn
  | .addSight n s => (k_add_sight T n s).held (by decide) T.t.g_add_sighting
  | .dropSight n t => (k_drop_sight T n t).held (by decide) T.t.g_drop_sighting
theorem args_one {H : Hp} {e : EditM} {us : List V} (h : ArgsAt K H e us) (o : isOne e = true) : ∃ a, us = [a] := by
  have l := args_len h
  rw [if_pos o] at l
  exact List.length_eq_one_iff.mp l
theorem args_two {H : Hp} {e : EditM} {us : List V} (h : ArgsAt K H e us) (o : isOne e = false) : ∃ a b, us = [a, b] := by
  have l := args_len h
  rw [o] at l
  match us, l with
  | [a, b], _ => exact ⟨a, b, rfl⟩
/-! ### apply_edit(contents, edit) -/
def spApply (K : PySem.W.Frag) : Sp := fun vs H Q E => ∃ (p : Addr) (v : V) (e : EditM) (c : ContM), vs = [.ref p, v] ∧ EditAt K H v e ∧ EditOk e ∧ ContP K H p c ∧ WF c ∧ Outs K H (applyE c e) Q E
theorem sc_apply : FnScope ["contents", "edit", "word", "one", "two"] ["contents", "edit"] (defScope s_apply_edit) := ⟨rfl, rfl, rfl, by decide +kernel, rfl, by decide +kernel, by decide +kernel⟩
theorem k_apply (T : TxX P w K mg) : Kal P w K mg base (L2.CX P w) 7 "apply_edit" (spApply K) [] := by
  obtain ⟨es1, n1, D1⟩ := T.t.t_ONE
  obtain ⟨es2, n2, D2⟩ := T.t.t_TWO
  refine kalX T.t.f_apply_edit T.t.g_apply_edit sc_apply (fun _ _ _ _ _ _ us hl => match us, hl with | [_, _], _ => rfl) (fun vs H Q E h => ?_) (fun cdv A outer s H vs Q E hr h => ?_)
  · obtain ⟨p, v, e, c, rfl, _⟩ := h
    rfl
  · obtain ⟨p, v, e, c, rfl, ⟨q, us, rfl, hq, ha⟩, ok, hp, wf, out⟩ := h
    refine ⟨_, pss_cons (ps_set (i := 2) sc_apply.nd rfl (Or.inl rfl) pe_str)
      (pss_cons (ps_if (pt_cmpR op_gt (pe_callB call_len_seq (by rfl) T.t.n_len PySem.boot_len (pa_cons (pv 1) pa_nil)) pe_int (nomark _)) (pss_one (ps_set (i := 2) sc_apply.nd rfl (Or.inl rfl) (pe_ix ix_tup (pv 1) pe_int (fun _ _ => rfl)))) pss_nil)
      (pss_cons (ps_if (PW.pt (pw_and (pt_cmpR (op_inKd D1) (pv 2) (pe_glob rfl T.t.g_ONE (relA _)) (by rfl)) (pw_and1 (pt_cmpR op_eq (pe_callB call_len_seq (by rfl) T.t.n_len PySem.boot_len (pa_cons (pv 1) pa_nil)) pe_int (nomark _)))))
        (pss_cons (ps_set (i := 3) sc_apply.nd rfl (Or.inl rfl) (pe_ix (ix_kd D1) (pe_glob rfl T.t.g_ONE (relA _)) (pv 2) (fun _ _ => rfl)))
          (pss_one (ps_ret (pe_callH (i := 3) hr rfl (Or.inl rfl) (passes_call (takes_of rfl rfl rfl rfl) (fun _ _ _ _ h => h)) (pa_cons (pv 0) (pa_cons (pe_ix ix_tup (pv 1) pe_int (fun _ _ => rfl)) pa_nil)))))) pss_nil)
      (pss_cons (ps_if (PW.pt (pw_and (pt_cmpR (op_inKd D2) (pv 2) (pe_glob rfl T.t.g_TWO (relA _)) (by rfl)) (pw_and1 (pt_cmpR op_eq (pe_callB call_len_seq (by rfl) T.t.n_len PySem.boot_len (pa_cons (pv 1) pa_nil)) pe_int (nomark _)))))
        (pss_cons (ps_set (i := 4) sc_apply.nd rfl (Or.inl rfl) (pe_ix (ix_kd D2) (pe_glob rfl T.t.g_TWO (relA _)) (pv 2) (fun _ _ => rfl)))
          (pss_one (ps_ret (pe_callH (i := 4) hr rfl (Or.inl rfl) (passes_call (takes_of rfl rfl rfl rfl) (fun _ _ _ _ h => h)) (pa_cons (pv 0) (pa_cons (pe_ix ix_tup (pv 1) pe_int (fun _ _ => rfl)) (pa_cons (pe_ix ix_tup (pv 1) pe_int (fun _ _ => rfl)) pa_nil))))))) pss_nil)
      (pss_one ps_never)))), ?_⟩
    refine ⟨_, rfl, q, _, rfl, .inr hq, _, _, rfl, rfl, tkT (by show (0 : Int) < ((us.length + 1 : Nat) : Int); omega) (iteT ⟨_, rfl, q, _, _, _, rfl, rfl, hq, atI_nat (j := 0) rfl, ?_⟩)⟩
    cases o : isOne e with
    | true =>
      obtain ⟨a, rfl⟩ := args_one ha o
      have h1 := T.one e o
      refine ⟨_, rfl, word e, _, rfl, rfl, h1, true, rfl, iteT ⟨_, rfl, q, _, rfl, .inr hq, rfl, tkT rfl (iteT ?_)⟩⟩
      refine ⟨_, rfl, word e, _, _, rfl, rfl, h1, relA _, ?_⟩
      exact ⟨(_, spOf K e), held_all T e, rfl, _, rfl, _, rfl, q, _, _, _, rfl, rfl, hq, atI_nat (j := 1) rfl, p, [a], c, rfl, ha, ok, hp, wf, out⟩
    | false =>
      obtain ⟨a, b, rfl⟩ := args_two ha o
      obtain ⟨h1, h2⟩ := T.two e o
      refine ⟨_, rfl, word e, _, rfl, rfl, h1, false, rfl, iteF (iteF ?_)⟩
      refine ⟨_, rfl, word e, _, rfl, rfl, h2, true, rfl, iteT ⟨_, rfl, q, _, rfl, .inr hq, rfl, tkT rfl (iteT ?_)⟩⟩
      refine ⟨_, rfl, word e, _, _, rfl, rfl, h2, relA _, ?_⟩
      exact ⟨(_, spOf K e), held_all T e, rfl, _, rfl, _, rfl, q, _, _, _, rfl, rfl, hq, atI_nat (j := 1) rfl, _, rfl, q, _, _, _, rfl, rfl, hq, atI_nat (j := 2) rfl, p, [a, b], c, rfl, ha, ok, hp, wf, out⟩
end
end Ka
/-! _law_edit_error. -/
namespace Ka
open PySem PySem.Spec PyProof.Rows L2
section
variable {X : Cx} {k j : Nat} {x : Str} {sp : Sp} {p pos : Pos} {e : Expr} {es : List Expr} {t : TA} {E : L2.St → XK}
theorem pe_ks (c : Kal X.prog X.w X.K X.mg X.base (L2.CX X.prog X.w) k x sp []) (hr : Room j X.A) (hk : k ≤ j) (hx : ∀ σ, PassesAt (L2.CX X.prog X.w) X σ (E σ)) (ha : PA X (e :: es) t) (hg : Gl X x := by rfl)
    (hdb : (x == ("__debug__" : Str)) = false := by decide) (he : starEach (e :: es) X.env = (false, eval e X.env) :: starEach es X.env := by rfl) (hpl : (backTo pos (starEach es X.env)).any (·.1) = false := by rfl) :
    PE X (.Call (.Name x p) (e :: es) [] pos) (tCallS sp E t) := by
  obtain ⟨f, fd, ps, ds, F, g, kp, b, d⟩ := c.ex
  cases d
  exact pe_callS F (hr.mono hk) hg g kp b hx ha hdb he hpl
end
section
variable {P : Program} {w : World} {K : PySem.W.Frag} {mg : Str → Option Value} {base : Heap}
def spErr (K : PySem.W.Frag) : Sp := fun vs H Q _ => ∃ (p : Addr) (v : V) (e : EditM) (c : ContM), vs = [.ref p, v] ∧ EditAt K H v e ∧ EditOk e ∧ ContP K H p c ∧ WF c ∧
  (∀ c', applyE c e = .ok c' → ∀ H', Same H H' → Q .non H') ∧ (∀ er, applyE c e = .error er → ∀ q H', Same H H' → Q (.ref q) H')
theorem sc_err : FnScope ["_law_contents", "_law_edit", "e"] ["_law_contents", "_law_edit"] (defScope s_law_edit_error) := ⟨rfl, rfl, rfl, by decide +kernel, rfl, by decide +kernel, by decide +kernel⟩
/-- a clause that does not fit -/
theorem skip {K : PySem.W.Frag} {W : WX} {D : Ends} {c : Value} {o : Option Nat} {ts : Addr → Value → Option Addr → TS} {r : List Cla} {cls : Value} {d : Option Addr} {σ : L2.St} {H : Hp} (h : PySem.W.exmOne K cls c = some false) (n : wCla K W D r cls d σ H) : wCla K W D ((c, o, ts) :: r) cls d σ H :=
  ⟨false, h, fun z => absurd z (by decide), fun _ => n⟩
/-- a clause that fits -/
theorem fits {K : PySem.W.Frag} {W : WX} {D : Ends} {c : Value} {o : Option Nat} {ts : Addr → Value → Option Addr → TS} {r : List Cla} {cls : Value} {d : Option Addr} {σ : L2.St} {H : Hp} (h : PySem.W.exmOne K cls c = some true) (n : ∀ a, H a = Option.none → ts a cls d (behind D o) (named σ a o) H) : wCla K W D ((c, o, ts) :: r) cls d σ H :=
  ⟨true, h, fun _ => n, fun z => absurd z (by decide)⟩
theorem k_err (T : TxX P w K mg) : Kal P w K mg base CX0 8 "_law_edit_error" (spErr K) [] := by
  have c1 := k_apply (P := P) (base := base) T
  obtain ⟨f1, sc⟩ := T.sc
  obtain ⟨f2, ss⟩ := T.ss
  refine kal0 T.t.f_law_edit_error T.t.g_law_edit_error sc_err (fun _ _ _ _ _ _ us hl => match us, hl with | [_, _], _ => rfl) (fun vs H Q E h => ?_) (fun cdv A outer s H vs Q E hr h => ?_)
  · obtain ⟨p, v, e, c, rfl, _⟩ := h
    rfl
  · obtain ⟨p, v, e, c, rfl, he, ok, hp, wf, yes, no⟩ := h
    refine ⟨_, pss_cons (ps_try_cla rfl rfl sc_err.nd takes0 (fun W pn xe tk _ => pss_one (ps_expr (pe_ks c1 hr (by decide) (fun σ => passAt tk σ) (pa_cons (pv 0) (pa_cons (pv 1) pa_nil)))))
        (.bears (i := 2) (ts := fun a cls d => tRet (tTup (tCons (tC (.str "no craft")) (tCons (tXf a cls d (He.ga K "NoSuchCraft") "name" (tVar 2)) tNil)))) rfl rfl ⟨rfl, by decide, .inl T.t.g_NoSuchCraft⟩ (fun a oe cls d pn hz hf => pss_one (ps_ret (pe_tup (pa_cons pe_str (pa_cons (pe_xf T.fc sc.noN hz hf (pv 2)) pa_nil)))))
        (.bears (i := 2) (ts := fun a cls d => tRet (tTup (tCons (tC (.str "no site")) (tCons (tXf a cls d (He.ga K "NoSuchSite") "name" (tVar 2)) tNil)))) rfl rfl ⟨rfl, by decide, .inl T.t.g_NoSuchSite⟩ (fun a oe cls d pn hz hf => pss_one (ps_ret (pe_tup (pa_cons pe_str (pa_cons (pe_xf T.fs ss.noN hz hf (pv 2)) pa_nil)))))
        (.bears (i := 2) (ts := fun a cls d => tNever) rfl rfl ⟨rfl, by decide, .inl T.t.g_BadArgument⟩ (fun a oe cls d pn hz hf => pss_never)
        (.bare (ts := fun a cls d => tRet (tTup (tCons (tC (.str "before")) (tCons (tC (.int 0)) tNil)))) ⟨rfl, by decide, .inl T.t.g_BeforeStart⟩ (fun a oe cls d pn hz hf => pss_one (ps_ret (pe_tup (pa_cons pe_str (pa_cons pe_int pa_nil)))))
        (.bare (ts := fun a cls d => tRet (tTup (tCons (tC (.str "overlap")) (tCons (tC (.int 0)) tNil)))) ⟨rfl, by decide, .inl T.t.g_BurnsOverlap⟩ (fun a oe cls d pn hz hf => pss_one (ps_ret (pe_tup (pa_cons pe_str (pa_cons pe_int pa_nil)))))
        (.bare (ts := fun a cls d => tRet (tTup (tCons (tC (.str "many")) (tCons (tC (.int 0)) tNil)))) ⟨rfl, by decide, .inl T.t.g_TooMany⟩ (fun a oe cls d pn hz hf => pss_one (ps_ret (pe_tup (pa_cons pe_str (pa_cons pe_int pa_nil)))))
        (.bare (ts := fun a cls d => tRet (tTup (tCons (tC (.str "no burn")) (tCons (tC (.int 0)) tNil)))) ⟨rfl, by decide, .inl T.t.g_NoSuchBurn⟩ (fun a oe cls d pn hz hf => pss_one (ps_ret (pe_tup (pa_cons pe_str (pa_cons pe_int pa_nil)))))
        (.bare (ts := fun a cls d => tRet (tTup (tCons (tC (.str "no sighting")) (tCons (tC (.int 0)) tNil)))) ⟨rfl, by decide, .inl T.t.g_NoSuchSighting⟩ (fun a oe cls d pn hz hf => pss_one (ps_ret (pe_tup (pa_cons pe_str (pa_cons pe_int pa_nil)))))
        .nil)))))))))
      (pss_one (ps_ret pe_non)), ?_⟩
    refine ⟨_, rfl, _, rfl, p, v, e, c, rfl, he, ok, hp, wf, fun c' hc q H' s' _ => yes c' hc H' s', fun er hc cl d H' s' ha => ?_⟩
    have two : 2 ≤ sizeLine := by decide
    have tail : ∀ (t : Addr) (xs : List V) (n : H' t = Option.none), Q (.ref t) (upd H' t (.tup xs)) := fun t xs n => no er hc t _ (s'.trans (Same.new n))
    cases er with
    | noCraft n =>
      obtain ⟨rfl, dd, rfl, hd⟩ := ha
      exact fits T.t.h_NoSuchCraft_NoSuchCraft fun a na => ⟨_, rfl, rfl, rfl, dd, _, _, rfl, hd, rfl, two, fun t nt => tail t _ nt⟩
    | noSite n =>
      obtain ⟨rfl, dd, rfl, hd⟩ := ha
      exact skip T.t.h_NoSuchSite_NoSuchCraft (fits T.t.h_NoSuchSite_NoSuchSite fun a na => ⟨_, rfl, rfl, rfl, dd, _, _, rfl, hd, rfl, two, fun t nt => tail t _ nt⟩)
    | before =>
      obtain rfl := ha
      exact skip T.t.h_BeforeStart_NoSuchCraft (skip T.t.h_BeforeStart_NoSuchSite (skip T.t.h_BeforeStart_BadArgument (fits T.t.h_BeforeStart_BeforeStart fun a na => ⟨two, fun t nt => tail t _ nt⟩)))
    | overlap =>
      obtain rfl := ha
      exact skip T.t.h_BurnsOverlap_NoSuchCraft (skip T.t.h_BurnsOverlap_NoSuchSite (skip T.t.h_BurnsOverlap_BadArgument (skip T.t.h_BurnsOverlap_BeforeStart (fits T.t.h_BurnsOverlap_BurnsOverlap fun a na => ⟨two, fun t nt => tail t _ nt⟩))))
    | many =>
      obtain rfl := ha
      exact skip T.t.h_TooMany_NoSuchCraft (skip T.t.h_TooMany_NoSuchSite (skip T.t.h_TooMany_BadArgument (skip T.t.h_TooMany_BeforeStart (skip T.t.h_TooMany_BurnsOverlap (fits T.t.h_TooMany_TooMany fun a na => ⟨two, fun t nt => tail t _ nt⟩)))))
    | noBurn =>
      obtain rfl := ha
      exact skip T.t.h_NoSuchBurn_NoSuchCraft (skip T.t.h_NoSuchBurn_NoSuchSite (skip T.t.h_NoSuchBurn_BadArgument (skip T.t.h_NoSuchBurn_BeforeStart (skip T.t.h_NoSuchBurn_BurnsOverlap (skip T.t.h_NoSuchBurn_TooMany (fits T.t.h_NoSuchBurn_NoSuchBurn fun a na => ⟨two, fun t nt => tail t _ nt⟩))))))
    | noSight =>
      obtain rfl := ha
      exact skip T.t.h_NoSuchSighting_NoSuchCraft (skip T.t.h_NoSuchSighting_NoSuchSite (skip T.t.h_NoSuchSighting_BadArgument (skip T.t.h_NoSuchSighting_BeforeStart (skip T.t.h_NoSuchSighting_BurnsOverlap (skip T.t.h_NoSuchSighting_TooMany (skip T.t.h_NoSuchSighting_NoSuchBurn (fits T.t.h_NoSuchSighting_NoSuchSighting fun a na => ⟨two, fun t nt => tail t _ nt⟩)))))))
end
end Ka
/-! _law_row, _law_wide. -/
namespace Ka
open PySem PySem.Spec PyProof.Rows L2
/-! ### a cut between a statement and the rest -/
def tUpS (t : TS) : TS := fun D σ H => ∃ N : L2.St → Hp → Prop, t { D with nx := N } σ H ∧ ∀ σ H, N σ H → D.nx σ H
theorem ps_up {X : Cx} {st : Stmt} {t : TS} (h : PS X st t) : PS X st (tUpS t) := ⟨fun pins s σ H D I ⟨N, a, b⟩ => wpAny_mono (h.run pins s σ H _ I a) (fun f s' q => by
  cases f with
  | next =>
    obtain ⟨σ', H', I', q⟩ := q
    exact ⟨σ', H', I', b _ _ q⟩
  | ret u => exact q
  | brk => exact q
  | cont => exact q) fun _ _ z => z⟩
theorem pss_cut {X : Cx} {st : Stmt} {rest : List Stmt} {t1 t2 : TS} {D : Ends} {σ : L2.St} {H : Hp} (R : L2.St → Hp → Prop) (h1 : PS X st t1) (q1 : t1 { D with nx := R } σ H) (h2 : PSs X rest t2) (q2 : ∀ σ H, R σ H → t2 D σ H) : ∃ t, PSs X (st :: rest) t ∧ t D σ H :=
  ⟨_, pss_cons (ps_up h1) h2, R, q1, q2⟩
/-- the same, the rest's reading after the cut -/
theorem pss_cut2 {X : Cx} {st : Stmt} {rest : List Stmt} {t1 : TS} {D : Ends} {σ : L2.St} {H : Hp} (R : L2.St → Hp → Prop) (h1 : PS X st t1) (q1 : t1 { D with nx := R } σ H) (h2 : ∃ t2, PSs X rest t2 ∧ ∀ σ H, R σ H → t2 D σ H) : ∃ t, PSs X (st :: rest) t ∧ t D σ H := by
  obtain ⟨t2, h2, q2⟩ := h2
  exact ⟨_, pss_cons (ps_up h1) h2, R, q1, q2⟩
theorem pss_cut3 {X : Cx} {st : Stmt} {rest : List Stmt} {t1 : TS} {D : Ends} {R0 : L2.St → Hp → Prop} (R : L2.St → Hp → Prop) (h1 : PS X st t1) (q1 : ∀ σ H, R0 σ H → t1 { D with nx := R } σ H) (h2 : ∃ t2, PSs X rest t2 ∧ ∀ σ H, R σ H → t2 D σ H) : ∃ t, PSs X (st :: rest) t ∧ ∀ σ H, R0 σ H → t D σ H := by
  obtain ⟨t2, h2, q2⟩ := h2
  exact ⟨_, pss_cons (ps_up h1) h2, fun σ H r => ⟨R, q1 σ H r, q2⟩⟩
section
variable {P : Program} {w : World} {K : PySem.W.Frag} {mg : Str → Option Value} {base : Heap}
theorem tkb {b : Bool} {R : Bool → Prop} (h1 : R true) (h2 : R false) : ∃ k, V.bl b = V.bl k ∧ R k := by
  cases b with
  | true => exact ⟨_, rfl, h1⟩
  | false => exact ⟨_, rfl, h2⟩
theorem tkd {c : Prop} [Decidable c] {R : Bool → Prop} (h1 : R true) (h2 : R false) : ∃ k, V.bl (decide c) = V.bl k ∧ R k := tkb h1 h2
theorem p9 : (10 : Int) ^ Int.toNat 9 = 1000000000 := by decide
theorem modB (a : Int) {m : Int} (h : 0 < m) : 0 ≤ a % m ∧ a % m < m := ⟨Int.emod_nonneg _ (by omega), Int.emod_lt_of_pos _ h⟩
theorem cm {a : Int} (h : -1000000000000 ≤ a ∧ a ≤ 1000000000000) : -(2 ^ 64) < a ∧ a < 2 ^ 64 := ⟨by omega, by omega⟩
/-! ### _law_row(script, k) -/
def spRow (K : PySem.W.Frag) : Sp := fun vs H Q _ => ∃ (a : Addr) (ns : List Int) (k : Nat), vs = [.ref a, .int (k : Nat)] ∧ SqL K H a (ns.map V.int) ∧ k ≤ 1000 ∧ ∀ n : Int, Q (.int n) H
theorem sc_row : FnScope ["_law_script", "_law_k", "_law_row_here"] ["_law_script", "_law_k"] (defScope s_law_row) := ⟨rfl, rfl, rfl, by decide +kernel, rfl, by decide +kernel, by decide +kernel⟩
theorem k_row (T : Txt w K mg) : Kal P w K mg base CX0 1 "_law_row" (spRow K) [] := by
  refine kal0 T.f_law_row T.g_law_row sc_row (fun _ _ _ _ _ _ us hl => match us, hl with | [_, _], _ => rfl) (fun vs H Q E h => ?_) (fun cdv A outer s H vs Q E hr h => ?_)
  · obtain ⟨a, ns, k, rfl, _⟩ := h
    rfl
  · obtain ⟨a, ns, k, rfl, ha, hk, out⟩ := h
    refine pss_cut2 (R := fun σ H' => H' = H ∧ ∃ r : Int, σ = [some (.ref a), some (.int (k : Int)), some (.int r)]) (ps_set (i := 2) sc_row.nd rfl (Or.inl rfl) pe_int) ⟨rfl, 0, rfl⟩ ?_
    refine pss_cut3 (R := fun σ H' => H' = H ∧ ∃ r : Int, σ = [some (.ref a), some (.int (k : Int)), some (.int r)]) (ps_if (pt_cmpR op_lt (pv 1) (pe_callB call_len_seq (by rfl) T.n_len PySem.boot_len (pa_cons (pv 0) pa_nil)) (nomark _)) (pss_one (ps_set (i := 2) sc_row.nd rfl (Or.inl rfl) (pe_callTy call_int1 (by rfl) T.n_int (by decide +kernel) (pa_cons (pe_ix ix_list (pv 0) (pv 1) (fun _ _ => rfl)) pa_nil)))) pss_nil) ?_ ?_
    · rintro σ H' ⟨rfl, r, rfl⟩
      refine ⟨_, rfl, _, rfl, a, _, rfl, .inl ha, _, _, rfl, rfl, tk2 (fun h => iteT ?_) (fun h => iteF ⟨rfl, r, rfl⟩)⟩
      rw [List.length_map] at h
      have hk2 : k < ns.length := by omega
      exact ⟨_, rfl, _, rfl, a, _, _, .int ns[k], rfl, rfl, ha, atI_nat (by rw [List.getElem?_map, List.getElem?_eq_getElem hk2]; rfl), .inl ⟨_, rfl, rfl, ns[k], rfl⟩⟩
    refine pss_cut3 (R := fun σ H' => H' = H ∧ ∃ r : Int, 0 ≤ r ∧ σ = [some (.ref a), some (.int (k : Int)), some (.int r)]) (ps_if (pt_cmpR op_lt (pv 2) pe_int (nomark _)) (pss_one (ps_set (i := 2) sc_row.nd rfl (Or.inl rfl) (pe_op op_sub pe_int (pe_op op_mul pe_int (pv 2))))) pss_nil) ?_ ?_
    · rintro σ H' ⟨rfl, r, rfl⟩
      exact ⟨_, rfl, _, _, rfl, rfl, tk2 (fun h2 => iteT ⟨_, rfl, _, _, rfl, rfl, .inl ⟨by decide, by decide⟩, _, _, rfl, rfl, rfl, 1 - 2 * r, by omega, rfl⟩) (fun h2 => iteF ⟨rfl, r, by omega, rfl⟩)⟩
    refine pss_cut3 (R := fun σ H' => H' = H ∧ ∃ r : Int, σ = [some (.ref a), some (.int (k : Int)), some (.int r)]) (ps_if (pt_cmpR op_lt (pv 2) (pe_op op_pow pe_int pe_int) (nomark _))
        (pss_cons (ps_set (i := 2) sc_row.nd rfl (Or.inl rfl) (pe_op op_mod (pe_callTy call_int1 (by rfl) T.n_int (by decide +kernel) (pa_cons (pe_op op_add (pe_op op_mul (pe_op op_add (pv 2) pe_int) pe_int) (pe_op op_mul (pe_op op_add (pv 1) pe_int) pe_int)) pa_nil)) pe_int))
        (pss_one (ps_set (i := 2) sc_row.nd rfl (Or.inl rfl) (pe_op op_add (pe_op op_mul (pe_op op_mod (pe_callTy call_int1 (by rfl) T.n_int (by decide +kernel) (pa_cons (pe_op op_add (pe_op op_add (pe_op op_mul (pv 2) pe_int) (pe_op op_mul (pv 1) pe_int)) pe_int) pa_nil)) pe_int) pe_int)
          (pe_op op_mod (pe_callTy call_int1 (by rfl) T.n_int (by decide +kernel) (pa_cons (pe_op op_mul (pv 2) (pv 2)) pa_nil)) pe_int))))) pss_nil) ?_ ?_
    · rintro σ H' ⟨rfl, r, hr0, rfl⟩
      refine ⟨_, rfl, _, _, rfl, rfl, ⟨by decide, by decide, by decide⟩, _, _, rfl, rfl, tk2 (fun h => iteT ?_) (fun h => iteF ⟨rfl, r, rfl⟩)⟩
      rw [p9] at h
      refine ⟨_, rfl, _, _, rfl, rfl, _, _, rfl, rfl, .inl (cm ⟨by omega, by omega⟩), _, rfl, _, _, rfl, rfl, _, _, rfl, rfl, .inl (cm ⟨by omega, by omega⟩), _, _, rfl, rfl, .inl ⟨_, rfl, _, _, rfl, rfl, (by show (0 : Int) < 2147483647; decide), ?_⟩⟩
      have m1 := modB ((r + 1) * 48271 + ((k : Int) + 1) * 69621) (m := 2147483647) (by decide)
      generalize ((r + 1) * 48271 + ((k : Int) + 1) * 69621) % 2147483647 = r1 at m1 ⊢
      refine ⟨_, rfl, _, _, rfl, rfl, .inl (cm ⟨by omega, by omega⟩), _, rfl, _, _, rfl, rfl, .inl (cm ⟨by omega, by omega⟩), _, _, rfl, rfl, _, _, rfl, rfl, .inl ⟨_, rfl, _, _, rfl, rfl, (by show (0 : Int) < 2147483399; decide), ?_⟩⟩
      have m2 := modB (r1 * 16807 + (k : Int) * 40014 + 11) (m := 2147483399) (by decide)
      generalize (r1 * 16807 + (k : Int) * 40014 + 11) % 2147483399 = r2 at m2 ⊢
      exact ⟨_, _, rfl, rfl, .inl (cm ⟨by omega, by omega⟩), _, rfl, _, rfl, _, _, rfl, rfl, .inl (cm ⟨by omega, by omega⟩), .inl ⟨_, rfl, _, _, rfl, rfl, (by show (0 : Int) < 2147482951; decide), _, _, rfl, rfl, rfl, _, rfl⟩⟩
    refine ⟨_, pss_one (ps_ret (pv 2)), ?_⟩
    rintro σ H' ⟨rfl, r, rfl⟩
    exact ⟨_, rfl, out r⟩
/-! ### _law_wide(row) -/
def spWide (K : PySem.W.Frag) : Sp := fun vs H Q _ => ∃ n : Int, vs = [.int n] ∧ ∀ v b H', Same H H' → BoxAt K H' v b → (∀ m : Int, 100 ≤ m → BoxOk m b) → Q v H'
theorem sc_wide : FnScope ["_law_row_here"] ["_law_row_here"] (defScope s_law_wide) := ⟨rfl, rfl, rfl, by decide +kernel, rfl, by decide +kernel, by decide +kernel⟩
theorem k_wide (T : Txt w K mg) : Kal P w K mg base CX0 1 "_law_wide" (spWide K) [] := by
  refine kal0 T.f_law_wide T.g_law_wide sc_wide (fun _ _ _ _ _ _ us hl => match us, hl with | [_], _ => rfl) (fun vs H Q E h => ?_) (fun cdv A outer s H vs Q E hr h => ?_)
  · obtain ⟨n, rfl, _⟩ := h
    rfl
  · obtain ⟨n, rfl, out⟩ := h
    refine ⟨_, pss_one (ps_ret (pe_tup (pa_cons (pe_tup (pa_cons (pe_un un_neg (pe_op op_mod (pe_callTy call_int1 (by rfl) T.n_int (by decide +kernel) (pa_cons (pv 0) pa_nil)) pe_int)) (pa_cons (pe_op op_add pe_int (pe_op op_mod (pe_callTy call_int1 (by rfl) T.n_int (by decide +kernel) (pa_cons (pv 0) pa_nil)) pe_int)) pa_nil)))
      (pa_cons (pe_tup (pa_cons pe_int (pa_cons (pe_op op_mod (pe_op op_fdiv (pe_callTy call_int1 (by rfl) T.n_int (by decide +kernel) (pa_cons (pv 0) pa_nil)) pe_int) pe_int) pa_nil)))
      (pa_cons (pe_tup (pa_cons (pe_op op_mod (pe_op op_fdiv (pe_callTy call_int1 (by rfl) T.n_int (by decide +kernel) (pa_cons (pv 0) pa_nil)) pe_int) pe_int) (pa_cons pe_int pa_nil))) pa_nil))))), ?_⟩
    have two : 2 ≤ sizeLine := by decide
    refine ⟨_, rfl, .inl ⟨_, rfl, _, _, rfl, rfl, (by show (0 : Int) < 50; decide), _, rfl, _, rfl, .inl ⟨_, rfl, _, _, rfl, rfl, (by show (0 : Int) < 7; decide), _, _, rfl, rfl, two, fun t1 n1 => ?_⟩⟩⟩
    refine ⟨_, rfl, .inl ⟨_, rfl, _, _, rfl, rfl, ⟨by decide, by decide⟩, _, _, rfl, rfl, (by show (0 : Int) < 9; decide), two, fun t2 n2 => ?_⟩⟩
    refine ⟨_, rfl, .inl ⟨_, rfl, _, _, rfl, rfl, ⟨by decide, by decide⟩, _, _, rfl, rfl, (by show (0 : Int) < 4; decide), two, fun t3 n3 => ?_⟩⟩
    refine ⟨by show 3 ≤ sizeLine; decide, fun t4 n4 => ?_⟩
    have s1 := Same.new (o := .tup [V.int (-(n % 50)), V.int (3 + n % 7)]) n1
    have s2 := Same.new (o := .tup [V.int 0, V.int (n / 3 % 9)]) n2
    have s3 := Same.new (o := .tup [V.int (n / 5 % 4), V.int 20]) n3
    have s4 := Same.new (o := .tup [V.ref t1, V.ref t2, V.ref t3]) n4
    have m1 := modB n (m := 50) (by decide)
    have m2 := modB n (m := 7) (by decide)
    have m3 := modB (n / 3) (m := 9) (by decide)
    have m4 := modB (n / 5) (m := 4) (by decide)
    refine out (.ref t4) [(-(n % 50), 3 + n % 7), (0, n / 3 % 9), (n / 5 % 4, 20)] _ (s1.trans (s2.trans (s3.trans s4))) ?_ ?_
    · exact ⟨t4, _, rfl, tupOf upd_same, .cons ⟨t1, rfl, keepT (Keep.of (s2.trans (s3.trans s4))) (tupOf upd_same)⟩ (.cons ⟨t2, rfl, keepT (Keep.of (s3.trans s4)) (tupOf upd_same)⟩ (.cons ⟨t3, rfl, keepT (Keep.of s4) (tupOf upd_same)⟩ .nil))⟩
    · intro m hm q hq
      simp only [List.mem_cons, List.not_mem_nil, or_false] at hq
      rcases hq with rfl | rfl | rfl
      · exact ⟨by show -m ≤ -(n % 50); omega, by show -(n % 50) ≤ 3 + n % 7; omega, by show 3 + n % 7 ≤ m; omega⟩
      · exact ⟨by show -m ≤ 0; omega, by show 0 ≤ n / 3 % 9; omega, by show n / 3 % 9 ≤ m; omega⟩
      · exact ⟨by show -m ≤ n / 5 % 4; omega, by show n / 5 % 4 ≤ 20; omega, by show 20 ≤ m; omega⟩
end
end Ka
/-! _law_drawn_edit. -/
namespace Ka
open PySem PySem.Spec PyProof.Rows L2
theorem two_ix (A B : V) (x : Int) : ∃ v, atI [A, B] (x % 2) = some v ∧ (v = A ∨ v = B) := by
  have h := modB x (m := 2) (by decide)
  have : x % 2 = 0 ∨ x % 2 = 1 := by omega
  rcases this with e | e
  · rw [e]
    exact ⟨A, rfl, .inl rfl⟩
  · rw [e]
    exact ⟨B, rfl, .inr rfl⟩
theorem four_ix (A B C D : V) (x : Int) : ∃ v, atI [A, B, C, D] (x % 4) = some v ∧ (v = A ∨ v = B ∨ v = C ∨ v = D) := by
  have h := modB x (m := 4) (by decide)
  have : x % 4 = 0 ∨ x % 4 = 1 ∨ x % 4 = 2 ∨ x % 4 = 3 := by omega
  rcases this with e | e | e | e
  · rw [e]
    exact ⟨A, rfl, .inl rfl⟩
  · rw [e]
    exact ⟨B, rfl, .inr (.inl rfl)⟩
  · rw [e]
    exact ⟨C, rfl, .inr (.inr (.inl rfl))⟩
  · rw [e]
    exact ⟨D, rfl, .inr (.inr (.inr rfl))⟩
theorem nm_a : NameOk "a" := ⟨by decide +kernel, by decide +kernel, by decide +kernel⟩
theorem nm_ab : NameOk "ab" := ⟨by decide +kernel, by decide +kernel, by decide +kernel⟩
theorem nm_b : NameOk "b" := ⟨by decide +kernel, by decide +kernel, by decide +kernel⟩
theorem nm_a0 : NameOk "a0" := ⟨by decide +kernel, by decide +kernel, by decide +kernel⟩
def fourN : List V := [.str "a", .str "ab", .str "b", .str "a0"]
section
variable {P : Program} {w : World} {K : PySem.W.Frag} {mg : Str → Option Value} {base : Heap}
theorem EditAt.mk {H : Hp} {t : Addr} {e : EditM} {us : List V} (a : ArgsAt K (upd H t (.tup (.str (word e) :: us))) e us) : EditAt K (upd H t (.tup (.str (word e) :: us))) (.ref t) e := ⟨t, us, rfl, tupOf upd_same, a⟩
def spDrawn (K : PySem.W.Frag) : Sp := fun vs H Q _ => ∃ (a nl : Addr) (ns : List Int) (k : Nat), vs = [.ref a, .int (k : Nat), .ref nl] ∧ SqL K H a (ns.map V.int) ∧ k ≤ 1000 ∧ SqL K H nl fourN ∧ ∀ v e H', Same H H' → EditAt K H' v e → EditOk e → Q v H'
/-- behind the first six statements -/
def DrR (K : PySem.W.Frag) (H : Hp) (a nl : Addr) (k : Nat) (σ : L2.St) (H' : Hp) : Prop := ∃ (r : Int) (nm : Str) (mo : Int) (bx : V) (b : Box) (kd : Int), Same H H' ∧ NameOk nm ∧ BoxAt K H' bx b ∧ (∀ m : Int, 100 ≤ m → BoxOk m b) ∧
  σ = [some (.ref a), some (.int (k : Int)), some (.ref nl), some (.int r), some (.str nm), some (.int mo), some (.int (mo % 9)), some bx, some (.int kd)]
theorem sc_drawn : FnScope ["_law_script", "_law_k", "_law_names", "_law_row_here", "_law_name", "_law_more", "_law_tick", "_law_box", "_law_kind"] ["_law_script", "_law_k", "_law_names"] (defScope s_law_drawn_edit) := ⟨rfl, rfl, rfl, by decide +kernel, rfl, by decide +kernel, by decide +kernel⟩
theorem DrR.more {H H1 H2 : Hp} {a nl : Addr} {k : Nat} {r : Int} {nm : Str} {mo : Int} {bx : V} {b : Box} {kd : Int} (s : Same H H1) (s2 : Same H1 H2) (hn : NameOk nm) (hb : BoxAt K H1 bx b) (hok : ∀ m : Int, 100 ≤ m → BoxOk m b) :
    DrR K H a nl k [some (.ref a), some (.int (k : Int)), some (.ref nl), some (.int r), some (.str nm), some (.int mo), some (.int (mo % 9)), some bx, some (.int kd)] H2 :=
  ⟨r, nm, mo, bx, b, kd, s.trans s2, hn, box_stays _ _ _ _ (Keep.of s2) hb, hok, rfl⟩
theorem k_drawn (T : TxX P w K mg) : Kal P w K mg base CX0 4 "_law_drawn_edit" (spDrawn K) [] := by
  have c1 := k_row (P := P) (base := base) T.t
  have c2 := k_wide (P := P) (base := base) T.t
  have c3 := k_Body (P := P) (base := base) T.t
  have c4 := k_Craft5 (P := P) (base := base) T.t
  have c5 := k_Burn (P := P) (base := base) T.t
  have c6 := k_Sight (P := P) (base := base) T.t
  have c7 := k_Site (P := P) (base := base) T.t
  have two : 2 ≤ sizeLine := by decide
  have three : 3 ≤ sizeLine := by decide
  refine kal0 T.t.f_law_drawn_edit T.t.g_law_drawn_edit sc_drawn (fun _ _ _ _ _ _ us hl => match us, hl with | [_, _, _], _ => rfl) (fun vs H Q E h => ?_) (fun cdv A outer s H vs Q E hr h => ?_)
  · obtain ⟨a, nl, ns, k, rfl, _⟩ := h
    rfl
  obtain ⟨a, nl, ns, k, rfl, ha, hk, hnl, out⟩ := h
  -- the first six
  refine pss_cut2 (R := fun σ H' => H' = H ∧ ∃ r : Int, σ = [some (.ref a), some (.int (k : Int)), some (.ref nl), some (.int r), Option.none, Option.none, Option.none, Option.none, Option.none])
    (ps_set (i := 3) sc_drawn.nd rfl (Or.inl rfl) (pe_k c1 hr (by decide) (pa_cons (pv 0) (pa_cons (pv 1) pa_nil)))) ⟨_, rfl, _, rfl, a, ns, k, rfl, ha, hk, fun n => ⟨rfl, n, rfl⟩⟩ ?_
  refine pss_cut3 (R := fun σ H' => H' = H ∧ ∃ (r : Int) (nm : Str), NameOk nm ∧ σ = [some (.ref a), some (.int (k : Int)), some (.ref nl), some (.int r), some (.str nm), Option.none, Option.none, Option.none, Option.none])
    (ps_set (i := 4) sc_drawn.nd rfl (Or.inl rfl) (pe_ix ix_list (pv 2) (pe_op op_mod (pe_op op_fdiv (pv 3) pe_int) (pe_callB call_len_seq (by rfl) T.t.n_len PySem.boot_len (pa_cons (pv 2) pa_nil))) (fun _ _ => rfl))) ?_ ?_
  · rintro σ H' ⟨rfl, r, rfl⟩
    obtain ⟨v, hv, hc⟩ := four_ix (.str "a") (.str "ab") (.str "b") (.str "a0") (r / 13)
    have hs : ∃ nm, v = V.str nm ∧ NameOk nm := by
      rcases hc with rfl | rfl | rfl | rfl
      · exact ⟨_, rfl, nm_a⟩
      · exact ⟨_, rfl, nm_ab⟩
      · exact ⟨_, rfl, nm_b⟩
      · exact ⟨_, rfl, nm_a0⟩
    obtain ⟨nm, rfl, hn⟩ := hs
    exact ⟨_, rfl, _, rfl, _, _, rfl, rfl, ⟨by decide, by decide⟩, _, rfl, nl, fourN, rfl, .inl hnl, _, _, rfl, rfl, (by show (0 : Int) < 4; decide), nl, fourN, _, .str nm, rfl, rfl, hnl, hv, rfl, r, nm, hn, rfl⟩
  refine pss_cut3 (R := fun σ H' => H' = H ∧ ∃ (r : Int) (nm : Str) (mo : Int), NameOk nm ∧ σ = [some (.ref a), some (.int (k : Int)), some (.ref nl), some (.int r), some (.str nm), some (.int mo), Option.none, Option.none, Option.none])
    (ps_set (i := 5) sc_drawn.nd rfl (Or.inl rfl) (pe_op op_fdiv (pv 3) pe_int)) ?_ ?_
  · rintro σ H' ⟨rfl, r, nm, hn, rfl⟩
    exact ⟨_, rfl, _, _, rfl, rfl, ⟨by decide, by decide⟩, rfl, r, nm, _, hn, rfl⟩
  refine pss_cut3 (R := fun σ H' => H' = H ∧ ∃ (r : Int) (nm : Str) (mo : Int), NameOk nm ∧ σ = [some (.ref a), some (.int (k : Int)), some (.ref nl), some (.int r), some (.str nm), some (.int mo), some (.int (mo % 9)), Option.none, Option.none])
    (ps_set (i := 6) sc_drawn.nd rfl (Or.inl rfl) (pe_op op_mod (pv 5) pe_int)) ?_ ?_
  · rintro σ H' ⟨rfl, r, nm, mo, hn, rfl⟩
    exact ⟨_, rfl, _, _, rfl, rfl, (by show (0 : Int) < 9; decide), rfl, r, nm, mo, hn, rfl⟩
  refine pss_cut3 (R := fun σ H' => ∃ (r : Int) (nm : Str) (mo : Int) (bx : V) (b : Box), Same H H' ∧ NameOk nm ∧ BoxAt K H' bx b ∧ (∀ m : Int, 100 ≤ m → BoxOk m b) ∧ σ = [some (.ref a), some (.int (k : Int)), some (.ref nl), some (.int r), some (.str nm), some (.int mo), some (.int (mo % 9)), some bx, Option.none])
    (ps_set (i := 7) sc_drawn.nd rfl (Or.inl rfl) (pe_k c2 hr (by decide) (pa_cons (pe_op op_fdiv (pv 5) pe_int) pa_nil))) ?_ ?_
  · rintro σ H' ⟨rfl, r, nm, mo, hn, rfl⟩
    exact ⟨_, rfl, _, _, rfl, rfl, ⟨by decide, by decide⟩, _, rfl, fun v b H2 s2 hb hok => ⟨r, nm, mo, v, b, s2, hn, hb, hok, rfl⟩⟩
  refine pss_cut3 (R := DrR K H a nl k) (ps_set (i := 8) sc_drawn.nd rfl (Or.inl rfl) (pe_op op_mod (pv 3) pe_int)) ?_ ?_
  · rintro σ H' ⟨r, nm, mo, bx, b, s, hn, hb, hok, rfl⟩
    exact ⟨_, rfl, _, _, rfl, rfl, (by show (0 : Int) < 13; decide), r, nm, mo, bx, b, _, s, hn, hb, hok, rfl⟩
  -- the kinds
  refine pss_cut3 (R := DrR K H a nl k) (ps_if (pt_cmpR op_eq (pv 8) pe_int (nomark _)) (pss_one (ps_ret (pe_tup (pa_cons pe_str (pa_cons (pe_m c3 hr (by decide) (pa_cons (pe_op op_add pe_int (pe_op op_mod (pv 5) pe_int)) (pa_cons (pe_op op_mod (pe_op op_fdiv (pv 5) pe_int) pe_int)
      (pa_cons (pe_ix ix_list (pe_lst (pa_cons (pe_tup (pa_cons pe_int (pa_cons pe_int (pa_cons pe_int pa_nil)))) (pa_cons (pe_tup (pa_cons pe_int (pa_cons pe_int (pa_cons pe_int pa_nil)))) pa_nil))) (pe_op op_mod (pe_op op_fdiv (pv 5) pe_int) pe_int) (fun _ _ => rfl)) pa_nil)))) pa_nil))))) pss_nil) ?_ ?_
  · rintro σ H1 ⟨r, nm, mo, bx, b, kd, s1, hn, hb, hok, rfl⟩
    refine ⟨_, rfl, rfl, tkd (iteT ?_) (iteF (DrR.more s1 (Same.refl _) hn hb hok))⟩
    refine ⟨_, rfl, _, _, rfl, rfl, (by show (0 : Int) < 3; decide), _, _, rfl, rfl, _, rfl, _, _, rfl, rfl, ⟨by decide, by decide⟩, _, _, rfl, rfl, (by show (0 : Int) < 2; decide), three, fun t1 n1 => ⟨three, fun t2 n2 => ⟨two, fun l nw => ?_⟩⟩⟩
    have q1 := Same.new (o := .tup [V.int 1, V.int 0, V.int 1]) n1
    have q2 := Same.new (o := .tup [V.int 3, V.int 4, V.int 5]) n2
    have q3 := Same.new (o := .lst [V.ref t1, V.ref t2]) nw
    obtain ⟨v, hv, hc⟩ := two_ix (.ref t1) (.ref t2) (mo / 6)
    have m1 := modB mo (m := 3) (by decide)
    have m2 := modB (mo / 3) (m := 2) (by decide)
    refine ⟨_, rfl, _, _, rfl, rfl, ⟨by decide, by decide⟩, _, _, rfl, rfl, (by show (0 : Int) < 2; decide), l, _, _, v, rfl, rfl, lstOf upd_same, hv, ?_⟩
    have hi : ∃ tn : List Int, IntsAt K (upd (upd (upd H1 t1 (.tup [V.int 1, V.int 0, V.int 1])) t2 (.tup [V.int 3, V.int 4, V.int 5])) l (.lst [V.ref t1, V.ref t2])) v tn ∧ ∃ x y n : Int, tn = [x, y, n] ∧ (1 ≤ n ∧ n ≤ 10 ^ 6) ∧ (-(2 ^ 64) < x ∧ x < 2 ^ 64) ∧ (-(2 ^ 64) < y ∧ y < 2 ^ 64) ∧ x * x + y * y = n * n := by
      rcases hc with rfl | rfl
      · exact ⟨[1, 0, 1], ⟨t1, rfl, keepT (Keep.of (q2.trans q3)) (tupOf upd_same)⟩, 1, 0, 1, rfl, by decide, by decide, by decide, by decide⟩
      · exact ⟨[3, 4, 5], ⟨t2, rfl, keepT (Keep.of q3) (tupOf upd_same)⟩, 3, 4, 5, rfl, by decide, by decide, by decide, by decide⟩
    obtain ⟨tn, hi, hx⟩ := hi
    refine fun x dx nx nd _ => ⟨_, x, dx, v, ⟨1 + mo % 3, mo / 3 % 2, tn⟩, rfl, nx, new_ob nx nd, hi, ⟨⟨by show 1 ≤ 1 + mo % 3; omega, by show 1 + mo % 3 ≤ 10 ^ 30; omega⟩, ⟨by show 0 ≤ mo / 3 % 2; omega, by show mo / 3 % 2 ≤ 10 ^ 30; omega⟩, hx⟩, fun H6 s6 hbd => ⟨rfl, two, fun t nt => ?_⟩⟩
    have q4 := Same.new (o := .tup [V.str "set body", V.ref x]) nt
    exact out (.ref t) (.setBody ⟨1 + mo % 3, mo / 3 % 2, tn⟩) _ (s1.trans (q1.trans (q2.trans (q3.trans (s6.trans q4))))) ⟨t, _, rfl, tupOf upd_same, _, rfl, x, rfl, hbd.keep (Keep.of q4)⟩ trivial
  -- set stride, set fineness
  refine pss_cut3 (R := DrR K H a nl k) (ps_if (pt_cmpR op_eq (pv 8) pe_int (nomark _)) (pss_one (ps_ret (pe_ix ix_list (pe_lst (pa_cons (pe_tup (pa_cons pe_str (pa_cons (pe_op op_add pe_int (pe_op op_mod (pv 5) pe_int)) pa_nil))) (pa_cons (pe_tup (pa_cons pe_str (pa_cons (pe_op op_mod (pv 5) pe_int) pa_nil))) pa_nil))) (pe_op op_mod (pe_op op_fdiv (pv 5) pe_int) pe_int) (fun _ _ => rfl)))) pss_nil) ?_ ?_
  · rintro σ H1 ⟨r, nm, mo, bx, b, kd, s1, hn, hb, hok, rfl⟩
    refine ⟨_, rfl, rfl, tkd (iteT ?_) (iteF (DrR.more s1 (Same.refl _) hn hb hok))⟩
    refine ⟨_, rfl, _, _, rfl, rfl, (by show (0 : Int) < 3; decide), _, _, rfl, rfl, two, fun t1 n1 => ⟨_, rfl, _, _, rfl, rfl, (by show (0 : Int) < 3; decide), two, fun t2 n2 => ⟨two, fun l nw => ?_⟩⟩⟩
    have m1 := modB mo (m := 3) (by decide)
    have q1 := Same.new (o := .tup [V.str "set stride", V.int (1 + mo % 3)]) n1
    have q2 := Same.new (o := .tup [V.str "set fineness", V.int (mo % 3)]) n2
    have q3 := Same.new (o := .lst [V.ref t1, V.ref t2]) nw
    obtain ⟨v, hv, hc⟩ := two_ix (.ref t1) (.ref t2) (mo / 3)
    refine ⟨_, rfl, _, _, rfl, rfl, ⟨by decide, by decide⟩, _, _, rfl, rfl, (by show (0 : Int) < 2; decide), l, _, _, v, rfl, rfl, lstOf upd_same, hv, ?_⟩
    rcases hc with rfl | rfl
    · exact out (.ref t1) (.setStride (1 + mo % 3)) _ (s1.trans (q1.trans (q2.trans q3))) ⟨t1, _, rfl, keepT (Keep.of (q2.trans q3)) (tupOf upd_same), rfl⟩ ⟨by omega, by omega⟩
    · exact out (.ref t2) (.setFine (mo % 3)) _ (s1.trans (q1.trans (q2.trans q3))) ⟨t2, _, rfl, keepT (Keep.of q3) (tupOf upd_same), rfl⟩ ⟨by omega, by omega⟩
  -- add craft
  refine pss_cut3 (R := DrR K H a nl k) (ps_if (pt_cmpR op_in_seq (pv 8) (pe_lst (pa_cons pe_int (pa_cons pe_int pa_nil))) (by rfl)) (pss_one (ps_ret (pe_tup (pa_cons pe_str (pa_cons (pe_m c4 hr (by decide) (pa_cons (pv 4) (pa_cons (pv 6) (pa_cons (pv 7) (pa_cons (pe_k c2 hr (by decide) (pa_cons (pe_op op_fdiv (pv 5) pe_int) pa_nil)) (pa_cons (pe_op op_mod (pv 5) pe_int) pa_nil)))))) pa_nil))))) pss_nil) ?_ ?_
  · rintro σ H1 ⟨r, nm, mo, bx, b, kd, s1, hn, hb, hok, rfl⟩
    refine ⟨_, rfl, two, fun l nw => ?_⟩
    have q1 := Same.new (o := .lst [V.int 2, V.int 3]) nw
    refine ⟨l, _, rfl, .inl (lstOf upd_same), rfl, rfl, tkb (iteT ?_) (iteF (DrR.more s1 q1 hn hb hok))⟩
    refine ⟨_, rfl, _, rfl, _, rfl, _, rfl, _, _, rfl, rfl, ⟨by decide, by decide⟩, _, rfl, fun v b2 H2 s2 hb2 hok2 => ?_⟩
    have m1 := modB mo (m := 3) (by decide)
    have m2 := modB mo (m := 9) (by decide)
    refine ⟨_, rfl, _, _, rfl, rfl, (by show (0 : Int) < 3; decide), ?_⟩
    refine fun x dx nx nd _ => ⟨H2, x, dx, bx, v, .ref _, .ref _, ⟨nm, mo % 9, b, b2, mo % 3, [], []⟩, rfl, nx, new_ob nx nd, box_stays _ _ _ _ (Keep.of (q1.trans s2)) hb, hb2, ⟨_, [], rfl, .inr (T.e0.sq _), .nil⟩, ⟨_, [], rfl, .inr (T.e1.sq _), .nil⟩,
      ⟨hn, ⟨by show 0 ≤ mo % 9; omega, by show mo % 9 ≤ 100000; omega⟩, hok _ (by decide), hok2 _ (by decide), ⟨by show 0 ≤ mo % 3; omega, by show mo % 3 ≤ 1000000000000; omega⟩⟩, fun H6 s6 hbd => ⟨rfl, two, fun t nt => ?_⟩⟩
    have q4 := Same.new (o := .tup [V.str "add craft", V.ref x]) nt
    exact out (.ref t) (.addCraft ⟨nm, mo % 9, b, b2, mo % 3, [], []⟩) _ (s1.trans (q1.trans (s2.trans (s6.trans q4)))) ⟨t, _, rfl, tupOf upd_same, _, rfl, x, rfl, hbd.keep (Keep.of q4)⟩ ⟨hn, ⟨by show 0 ≤ mo % 9; omega, by show mo % 9 ≤ 100000; omega⟩, hok _ (by decide), hok2 _ (by decide), ⟨by show 0 ≤ mo % 3; omega, by show mo % 3 ≤ 1000000000000; omega⟩⟩
  -- drop craft
  refine pss_cut3 (R := DrR K H a nl k) (ps_if (pt_cmpR op_eq (pv 8) pe_int (nomark _)) (pss_one (ps_ret (pe_tup (pa_cons pe_str (pa_cons (pv 4) pa_nil))))) pss_nil) ?_ ?_
  · rintro σ H1 ⟨r, nm, mo, bx, b, kd, s1, hn, hb, hok, rfl⟩
    refine ⟨_, rfl, rfl, tkd (iteT ⟨_, rfl, two, fun t nt => ?_⟩) (iteF (DrR.more s1 (Same.refl _) hn hb hok))⟩
    exact out (.ref t) (.dropCraft nm) _ (s1.trans (Same.new nt)) ⟨t, _, rfl, tupOf upd_same, rfl⟩ trivial
  -- set drift
  refine pss_cut3 (R := DrR K H a nl k) (ps_if (pt_cmpR op_eq (pv 8) pe_int (nomark _)) (pss_one (ps_ret (pe_tup (pa_cons pe_str (pa_cons (pv 4) (pa_cons (pe_op op_mod (pv 5) pe_int) pa_nil)))))) pss_nil) ?_ ?_
  · rintro σ H1 ⟨r, nm, mo, bx, b, kd, s1, hn, hb, hok, rfl⟩
    refine ⟨_, rfl, rfl, tkd (iteT ⟨_, rfl, _, rfl, _, _, rfl, rfl, (by show (0 : Int) < 4; decide), three, fun t nt => ?_⟩) (iteF (DrR.more s1 (Same.refl _) hn hb hok))⟩
    have m1 := modB mo (m := 4) (by decide)
    exact out (.ref t) (.setDrift nm (mo % 4)) _ (s1.trans (Same.new nt)) ⟨t, _, rfl, tupOf upd_same, rfl⟩ ⟨by omega, by omega⟩
  -- add burn
  refine pss_cut3 (R := DrR K H a nl k) (ps_if (pt_cmpR op_in_seq (pv 8) (pe_lst (pa_cons pe_int (pa_cons pe_int pa_nil))) (by rfl)) (pss_one (ps_ret (pe_tup (pa_cons pe_str (pa_cons (pv 4) (pa_cons (pe_m c5 hr (by decide) (pa_cons (pv 6) (pa_cons (pe_op op_add (pe_op op_add (pv 6) pe_int) (pe_op op_mod (pe_op op_fdiv (pv 5) pe_int) pe_int)) (pa_cons (pv 7) pa_nil)))) pa_nil)))))) pss_nil) ?_ ?_
  · rintro σ H1 ⟨r, nm, mo, bx, b, kd, s1, hn, hb, hok, rfl⟩
    refine ⟨_, rfl, two, fun l nw => ?_⟩
    have q1 := Same.new (o := .lst [V.int 6, V.int 7]) nw
    refine ⟨l, _, rfl, .inl (lstOf upd_same), rfl, rfl, tkb (iteT ?_) (iteF (DrR.more s1 q1 hn hb hok))⟩
    have m2 := modB mo (m := 9) (by decide)
    have m3 := modB (mo / 7) (m := 4) (by decide)
    refine ⟨_, rfl, _, rfl, _, rfl, _, _, rfl, rfl, _, rfl, _, _, rfl, rfl, ⟨by decide, by decide⟩, _, _, rfl, rfl, (by show (0 : Int) < 4; decide), _, _, rfl, rfl, _, rfl, ?_⟩
    refine fun x dx nx nd _ => ⟨_, x, dx, bx, ⟨mo % 9, mo % 9 + 1 + mo / 7 % 4, b⟩, rfl, nx, new_ob nx nd, box_stays _ _ _ _ (Keep.of q1) hb,
      ⟨⟨by show 0 ≤ mo % 9; omega, by show mo % 9 ≤ 100000; omega⟩, ⟨by show 0 ≤ mo % 9 + 1 + mo / 7 % 4; omega, by show mo % 9 + 1 + mo / 7 % 4 ≤ 100000; omega⟩, by show mo % 9 < mo % 9 + 1 + mo / 7 % 4; omega, hok _ (by decide)⟩, fun H6 s6 hbd => ⟨rfl, three, fun t nt => ?_⟩⟩
    have q4 := Same.new (o := .tup [V.str "add burn", V.str nm, V.ref x]) nt
    exact out (.ref t) (.addBurn nm ⟨mo % 9, mo % 9 + 1 + mo / 7 % 4, b⟩) _ (s1.trans (q1.trans (s6.trans q4))) ⟨t, _, rfl, tupOf upd_same, _, rfl, x, rfl, hbd.keep (Keep.of q4)⟩ trivial
  -- drop burn
  refine pss_cut3 (R := DrR K H a nl k) (ps_if (pt_cmpR op_eq (pv 8) pe_int (nomark _)) (pss_one (ps_ret (pe_tup (pa_cons pe_str (pa_cons (pv 4) (pa_cons (pv 6) pa_nil)))))) pss_nil) ?_ ?_
  · rintro σ H1 ⟨r, nm, mo, bx, b, kd, s1, hn, hb, hok, rfl⟩
    refine ⟨_, rfl, rfl, tkd (iteT ⟨_, rfl, _, rfl, three, fun t nt => ?_⟩) (iteF (DrR.more s1 (Same.refl _) hn hb hok))⟩
    exact out (.ref t) (.dropBurn nm (mo % 9)) _ (s1.trans (Same.new nt)) ⟨t, _, rfl, tupOf upd_same, rfl⟩ trivial
  -- add sighting
  refine pss_cut3 (R := DrR K H a nl k) (ps_if (pt_cmpR op_in_seq (pv 8) (pe_lst (pa_cons pe_int (pa_cons pe_int pa_nil))) (by rfl)) (pss_one (ps_ret (pe_tup (pa_cons pe_str (pa_cons (pv 4) (pa_cons (pe_m c6 hr (by decide) (pa_cons (pv 6) (pa_cons (pv 7) pa_nil))) pa_nil)))))) pss_nil) ?_ ?_
  · rintro σ H1 ⟨r, nm, mo, bx, b, kd, s1, hn, hb, hok, rfl⟩
    refine ⟨_, rfl, two, fun l nw => ?_⟩
    have q1 := Same.new (o := .lst [V.int 9, V.int 10]) nw
    refine ⟨l, _, rfl, .inl (lstOf upd_same), rfl, rfl, tkb (iteT ?_) (iteF (DrR.more s1 q1 hn hb hok))⟩
    have m2 := modB mo (m := 9) (by decide)
    refine ⟨_, rfl, _, rfl, _, rfl, ?_⟩
    refine fun x dx nx nd _ => ⟨_, x, dx, bx, ⟨mo % 9, b⟩, rfl, nx, new_ob nx nd, box_stays _ _ _ _ (Keep.of q1) hb,
      ⟨⟨by show 0 ≤ mo % 9; omega, by show mo % 9 ≤ 100000; omega⟩, hok _ (by decide)⟩, fun H6 s6 hbd => ⟨rfl, three, fun t nt => ?_⟩⟩
    have q4 := Same.new (o := .tup [V.str "add sighting", V.str nm, V.ref x]) nt
    exact out (.ref t) (.addSight nm ⟨mo % 9, b⟩) _ (s1.trans (q1.trans (s6.trans q4))) ⟨t, _, rfl, tupOf upd_same, _, rfl, x, rfl, hbd.keep (Keep.of q4)⟩ trivial
  -- drop sighting
  refine pss_cut3 (R := DrR K H a nl k) (ps_if (pt_cmpR op_eq (pv 8) pe_int (nomark _)) (pss_one (ps_ret (pe_tup (pa_cons pe_str (pa_cons (pv 4) (pa_cons (pv 6) pa_nil)))))) pss_nil) ?_ ?_
  · rintro σ H1 ⟨r, nm, mo, bx, b, kd, s1, hn, hb, hok, rfl⟩
    refine ⟨_, rfl, rfl, tkd (iteT ⟨_, rfl, _, rfl, three, fun t nt => ?_⟩) (iteF (DrR.more s1 (Same.refl _) hn hb hok))⟩
    exact out (.ref t) (.dropSight nm (mo % 9)) _ (s1.trans (Same.new nt)) ⟨t, _, rfl, tupOf upd_same, rfl⟩ trivial
  -- add site, drop site
  refine ⟨_, pss_one (ps_ret (pe_ix ix_list (pe_lst (pa_cons (pe_tup (pa_cons pe_str (pa_cons (pe_m c7 hr (by decide) (pa_cons (pv 4) (pa_cons (pe_tup (pa_cons pe_int (pa_cons (pv 6) (pa_cons (pe_op op_mod (pv 5) pe_int) pa_nil)))) pa_nil))) pa_nil))) (pa_cons (pe_tup (pa_cons pe_str (pa_cons (pv 4) pa_nil))) pa_nil))) (pe_op op_mod (pe_op op_fdiv (pv 5) pe_int) pe_int) (fun _ _ => rfl))), ?_⟩
  rintro σ H1 ⟨r, nm, mo, bx, b, kd, s1, hn, hb, hok, rfl⟩
  have m1 := modB mo (m := 3) (by decide)
  have m2 := modB mo (m := 9) (by decide)
  refine ⟨_, rfl, _, rfl, _, rfl, _, _, rfl, rfl, (by show (0 : Int) < 3; decide), three, fun t1 n1 => ?_⟩
  have q1 := Same.new (o := .tup [V.int 1, V.int (mo % 9), V.int (mo % 3)]) n1
  refine fun x dx nx nd _ => ⟨_, x, dx, .ref t1, ⟨nm, [1, mo % 9, mo % 3]⟩, rfl, nx, new_ob nx nd, ⟨t1, rfl, tupOf upd_same⟩, ⟨hn, ⟨1, List.mem_cons_self .., by decide⟩, fun n hn => ?_⟩, fun H6 s6 hbd => ⟨rfl, two, fun t2 n2 => ?_⟩⟩
  · simp only [List.mem_cons, List.not_mem_nil, or_false] at hn
    rcases hn with rfl | rfl | rfl
    · exact ⟨by decide, by decide⟩
    · exact ⟨by omega, by omega⟩
    · exact ⟨by omega, by omega⟩
  have q2 := Same.new (o := .tup [V.str "add site", V.ref x]) n2
  refine ⟨_, rfl, two, fun t3 n3 => ⟨two, fun l nw => ?_⟩⟩
  have q3 := Same.new (o := .tup [V.str "drop site", V.str nm]) n3
  have q4 := Same.new (o := .lst [V.ref t2, V.ref t3]) nw
  obtain ⟨v, hv, hc⟩ := two_ix (.ref t2) (.ref t3) (mo / 7)
  refine ⟨_, rfl, _, _, rfl, rfl, ⟨by decide, by decide⟩, _, _, rfl, rfl, (by show (0 : Int) < 2; decide), l, _, _, v, rfl, rfl, lstOf upd_same, hv, ?_⟩
  rcases hc with rfl | rfl
  · exact out (.ref t2) (.addSite ⟨nm, [1, mo % 9, mo % 3]⟩) _ (s1.trans (q1.trans (s6.trans (q2.trans (q3.trans q4))))) ⟨t2, _, rfl, keepT (Keep.of (q3.trans q4)) (tupOf upd_same), _, rfl, x, rfl, hbd.keep (Keep.of (q2.trans (q3.trans q4)))⟩ hn
  · exact out (.ref t3) (.dropSite nm) _ (s1.trans (q1.trans (s6.trans (q2.trans (q3.trans q4))))) ⟨t3, _, rfl, keepT (Keep.of q4) (tupOf upd_same), rfl⟩ trivial
end
end Ka
/-! _law_edited, _law_things. -/
namespace Ka
open PySem PySem.Spec PyProof.Rows L2
section
variable {P : Program} {w : World} {K : PySem.W.Frag} {mg : Str → Option Value} {base : Heap}
/-! ### _law_edited(script, 0, many, names) -/
def spEdited (K : PySem.W.Frag) : Sp := fun vs H Q _ => ∃ (a nl : Addr) (ns : List Int) (m : Int), vs = [.ref a, .int 0, .int m, .ref nl] ∧ SqL K H a (ns.map V.int) ∧ (0 ≤ m ∧ m ≤ 16) ∧ SqL K H nl fourN ∧ ∀ p c H', Same H H' → ContP K H' p c → WF c → Q (.ref p) H'
theorem sc_edited : FnScope ["_law_script", "_law_k", "_law_many", "_law_names", "_law_contents", "_law_j", "_law_edit"] ["_law_script", "_law_k", "_law_many", "_law_names"] (defScope s_law_edited) := ⟨rfl, rfl, rfl, by decide +kernel, rfl, by decide +kernel, by decide +kernel⟩
/-- the state of the loop -/
def EdR (K : PySem.W.Frag) (H : Hp) (a nl : Addr) (m : Int) (σ : L2.St) (H' : Hp) : Prop := ∃ (p : Addr) (c : ContM) (v1 v2 : Option V), Same H H' ∧ ContP K H' p c ∧ WF c ∧ σ = [some (.ref a), some (.int 0), some (.int m), some (.ref nl), some (.ref p), v1, v2]
theorem k_edited (T : TxX P w K mg) : Kal P w K mg base CX0 9 "_law_edited" (spEdited K) [] := by
  have c1 := k_row (P := P) (base := base) T.t
  have c2 := k_Body (P := P) (base := base) T.t
  have c3 := k_Cont3 (P := P) (base := base) T.t
  have c4 := k_drawn (P := P) (base := base) T
  have c5 := k_err (P := P) (base := base) T
  have c6 := k_apply (P := P) (base := base) T
  refine kal0 T.t.f_law_edited T.t.g_law_edited sc_edited (fun _ _ _ _ _ _ us hl => match us, hl with | [_, _, _, _], _ => rfl) (fun vs H Q E h => ?_) (fun cdv A outer s H vs Q E hr h => ?_)
  · obtain ⟨a, nl, ns, m, rfl, _⟩ := h
    rfl
  obtain ⟨a, nl, ns, m, rfl, ha, hm, hnl, out⟩ := h
  have three : 3 ≤ sizeLine := by decide
  refine pss_cut2 (R := EdR K H a nl m) (ps_set (i := 4) sc_edited.nd rfl (Or.inl rfl) (pe_m c3 hr (by decide) (pa_cons (pe_m c2 hr (by decide) (pa_cons (pe_op op_add pe_int (pe_op op_mod (pe_k c1 hr (by decide) (pa_cons (pv 0) (pa_cons (pv 1) pa_nil))) pe_int))
      (pa_cons pe_int (pa_cons (pe_tup (pa_cons pe_int (pa_cons pe_int (pa_cons pe_int pa_nil)))) pa_nil)))) (pa_cons pe_int (pa_cons pe_int pa_nil))))) ?_ ?_
  · refine ⟨_, rfl, _, rfl, a, ns, 0, rfl, ha, by decide, fun n => ⟨_, _, rfl, rfl, (by show (0 : Int) < 50; decide), _, _, rfl, rfl, three, fun t nt => ?_⟩⟩
    have m1 := modB n (m := 50) (by decide)
    have q1 := Same.new (o := .tup [V.int 1, V.int 0, V.int 1]) nt
    refine fun x dx nx nd _ => ⟨_, x, dx, .ref t, ⟨1 + n % 50, 0, [1, 0, 1]⟩, rfl, nx, new_ob nx nd, ⟨t, rfl, tupOf upd_same⟩, ⟨⟨by show 1 ≤ 1 + n % 50; omega, by show 1 + n % 50 ≤ 10 ^ 30; omega⟩, ⟨by show (0 : Int) ≤ 0; decide, by show (0 : Int) ≤ 10 ^ 30; decide⟩, 1, 0, 1, rfl, by decide, by decide, by decide, by decide⟩, fun H2 s2 hb => ⟨rfl, ?_⟩⟩
    refine fun y dy ny nd2 _ => ⟨_, y, dy, .ref x, .ref _, .ref _, ⟨⟨1 + n % 50, 0, [1, 0, 1]⟩, 2, 1, [], []⟩, rfl, ny, new_ob ny nd2, ⟨x, rfl, hb⟩, ⟨_, [], rfl, .inr (T.d0.sq _), .nil⟩, ⟨_, [], rfl, .inr (T.d1.sq _), .nil⟩, (by show (1 : Int) ≤ 2 ∧ (2 : Int) ≤ 1000; decide), (by show (0 : Int) ≤ 1 ∧ (1 : Int) ≤ 6; decide), fun H3 s3 hc => ⟨rfl, ?_⟩⟩
    exact ⟨y, _, Option.none, Option.none, q1.trans (s2.trans s3), hc, ⟨(by show (1 : Int) ≤ 2 ∧ (2 : Int) ≤ 1000; decide), (by show (0 : Int) ≤ 1 ∧ (1 : Int) ≤ 6; decide), .nil, Nat.zero_le _, (fun x hx => by cases hx), .nil, Nat.zero_le _, (fun x hx => by cases hx)⟩, rfl⟩
  refine pss_cut3 (R := EdR K H a nl m) (ps_for PassesOwn.never rfl (pi_range1 rfl T.t.n_range (pa_cons (pv 2) pa_nil)) (pg_name (i := 5) sc_edited.nd rfl (Or.inl rfl))
    (pss_cons (ps_set (i := 6) sc_edited.nd rfl (Or.inl rfl) (pe_k c4 hr (by decide) (pa_cons (pv 0) (pa_cons (pe_op op_add (pe_op op_add (pv 1) pe_int) (pv 5)) (pa_cons (pv 3) pa_nil)))))
    (pss_one (ps_if (pt_cmpR op_isN (pe_k c5 hr (by decide) (pa_cons (pv 4) (pa_cons (pv 6) pa_nil))) pe_non (nomark _)) (pss_one (ps_set (i := 4) sc_edited.nd rfl (Or.inl rfl) (pe_kx c6 hr (by decide) (passes_call takes0 (fun _ _ _ _ h => h)) (pa_cons (pv 4) (pa_cons (pv 6) pa_nil))))) pss_nil)))) ?_ ?_
  · rintro σ H1 ⟨p, c, v1, v2, s1, hp, wf, rfl⟩
    refine ⟨_, rfl, m, rfl, by omega, by omega, for_range (lo := 0) (n := m.toNat) (fun i σ H' => EdR K H a nl m σ H') ⟨p, c, v1, v2, s1, hp, wf, rfl⟩ ?_ (fun σ H' h => h)⟩
    rintro i σ H' hi ⟨p, c, v1, v2, s1, hp, wf, rfl⟩
    refine ⟨_, rfl, _, rfl, _, _, rfl, rfl, _, rfl, _, _, rfl, rfl, _, rfl, a, nl, ns, i + 1, ?_, sameL s1 ha, by omega, sameL s1 hnl, fun v e H2 s2 he ok => ?_⟩
    · have : (0 : Int) + 1 + (0 + (i : Int)) = ((i + 1 : Nat) : Int) := by omega
      show [V.ref a, V.int ((0 : Int) + 1 + (0 + (i : Int))), V.ref nl] = _
      rw [this]
    · have hp2 := hp.keep (Keep.of s2)
      refine ⟨_, rfl, _, rfl, p, v, e, c, rfl, he, ok, hp2, wf, fun c' hc H3 s3 => ?_, fun er her q H3 s3 => ?_⟩
      · refine ⟨rfl, tkT rfl (iteT ⟨_, rfl, _, rfl, p, v, e, c, rfl, edit_stays _ _ _ _ (Keep.of s3) he, ok, hp2.keep (Keep.of s3), wf, fun c2 hc2 q H4 s4 hq => ?_, fun er her => ?_⟩)⟩
        · exact ⟨q, c2, _, _, s1.trans (s2.trans (s3.trans s4)), hq, wf_apply wf ok hc2, rfl⟩
        · rw [hc] at her
          cases her
      · exact ⟨rfl, tkF (fun z => by cases z) (iteF ⟨p, c, _, _, s1.trans (s2.trans s3), hp2.keep (Keep.of s3), wf, rfl⟩)⟩
  refine ⟨_, pss_one (ps_ret (pv 4)), ?_⟩
  rintro σ H1 ⟨p, c, v1, v2, s1, hp, wf, rfl⟩
  exact ⟨_, rfl, out p c H1 s1 hp wf⟩
/-! ### _law_things(contents) -/
def spThings (K : PySem.W.Frag) : Sp := fun vs H Q _ => ∃ (p : Addr) (c : ContM), vs = [.ref p] ∧ ContP K H p c ∧ WF c ∧ ∀ t d1 d2 ys1 ys2 H', Same H H' → H' t = some (.tup [V.ref d1, V.ref d2]) → H' d1 = some (.lst ys1) → H' d2 = some (.lst ys2) → Paired (EditAt K H') ys1 (things1 c) → Paired (EditAt K H') ys2 (things2 c) → ys1.length ≤ 1000 → ys2.length ≤ 1000 → Q (.ref t) H'
theorem sc_things : FnScope ["_law_contents", "_law_first", "_law_later", "_law_craft", "_law_site", "_law_burn", "_law_sighting"] ["_law_contents"] (defScope s_law_things) := ⟨rfl, rfl, rfl, by decide +kernel, rfl, by decide +kernel, by decide +kernel⟩
theorem pd_ed {α : Type} {H H' : Hp} {f : α → EditM} {ys : List V} {l : List α} (e : Keep H H') (h : Paired (fun y m => EditAt K H y (f m)) ys l) : Paired (EditAt K H') ys (l.map f) := pd_map (pd_mono (fun _ _ r => edit_stays _ _ _ _ e r) h)
theorem flat_snoc {l : List CraftM} {i : Nat} {x : CraftM} (h : l[i]? = some x) : (l.take (i + 1)).flatMap thingsC = (l.take i).flatMap thingsC ++ thingsC x := by
  rw [take_snoc h, List.flatMap_append]
  simp
theorem k_things (T : TxX P w K mg) : Kal P w K mg base CX0 1 "_law_things" (spThings K) [] := by
  refine kal0 T.t.f_law_things T.t.g_law_things sc_things (fun _ _ _ _ _ _ us hl => match us, hl with | [_], _ => rfl) (fun vs H Q E h => ?_) (fun cdv A outer s H vs Q E hr h => ?_)
  · obtain ⟨p, c, rfl, _⟩ := h
    rfl
  obtain ⟨p, c, rfl, hp, wf, out⟩ := h
  have two : 2 ≤ sizeLine := by decide
  have three : 3 ≤ sizeLine := by decide
  obtain ⟨_, fc, pc, xc, rfl, hxc, rc⟩ := hp.fc
  obtain ⟨_, ft, pt, xt, rfl, hxt, rt⟩ := hp.ft
  refine pss_cut2 (R := fun σ H' => ∃ d1 ys1, Same H H' ∧ H' d1 = some (.lst ys1) ∧ Paired (EditAt K H') ys1 (things1 c) ∧ σ = [some (.ref p), some (.ref d1), Option.none, Option.none, Option.none, Option.none, Option.none])
    (ps_Tm (ps_setLc (i := 1) (own := [("_law_craft", 3)]) (by rfl) sc_things.nd rfl rfl (sw_true rfl rfl rfl (by decide +kernel)) (pi_tup (pe_up (pe_fld (pv 0) rfl))) (blkOk_by (N := ["_law_contents", "_law_first", "_law_later", "_law_craft", "_law_site", "_law_burn", "_law_sighting"]) (sc := defScope s_law_things) (by decide +kernel))
        (fun _ _ _ _ _ => pg_name (i := 3) sc_things.nd rfl (Or.inl rfl)) (fun _ _ _ _ _ => pts_nil) (te := tTup (tCons (tC (.str "add craft")) (tCons (tVar 3) tNil))) (fun _ _ _ _ _ => pe_tup (pa_cons pe_str (pa_cons (pv 3) pa_nil))))) ?_ ?_
  · refine ⟨_, rfl, rdF fc ⟨pc, xc, CraftM, c.crafts, fun H y m => EditAt K H y (.addCraft m), rfl, hxc, pd_len rc, small (Nat.le_trans wf.cl (by decide)), fun _ _ _ _ e h => edit_stays _ _ _ _ e h, fun i x m H1 Y hi hm s1 hk => ?_, fun D H1 ys s1 hD hb pd => ?_⟩⟩
    · obtain ⟨m', hm', q, rfl, hq⟩ := pd_get rc hi
      rw [hm] at hm'
      obtain rfl := Option.some.inj hm'
      refine ⟨_, rfl, two, fun t nt => ?_⟩
      have s2 := Same.new (o := .tup [V.str "add craft", V.ref q]) nt
      exact hk _ _ s2 ⟨t, _, rfl, tupOf upd_same, _, rfl, q, rfl, hq.keep (Keep.of (s1.trans s2))⟩
    · exact ⟨D, ys, s1, hb, pd_ed (Keep.refl _) pd, rfl⟩
  refine pss_cut3 (R := fun σ H' => ∃ d1 ys1 d2 ys2, Same H H' ∧ H' d1 = some (.lst ys1) ∧ Paired (EditAt K H') ys1 (things1 c) ∧ H' d2 = some (.lst ys2) ∧ Paired (EditAt K H') ys2 (c.sites.map EditM.addSite) ∧ σ = [some (.ref p), some (.ref d1), some (.ref d2), Option.none, Option.none, Option.none, Option.none])
    (ps_Tm (ps_setLc (i := 2) (own := [("_law_site", 4)]) (by rfl) sc_things.nd rfl rfl (sw_true rfl rfl rfl (by decide +kernel)) (pi_tup (pe_up (pe_fld (pv 0) rfl))) (blkOk_by (N := ["_law_contents", "_law_first", "_law_later", "_law_craft", "_law_site", "_law_burn", "_law_sighting"]) (sc := defScope s_law_things) (by decide +kernel))
        (fun _ _ _ _ _ => pg_name (i := 4) sc_things.nd rfl (Or.inl rfl)) (fun _ _ _ _ _ => pts_nil) (te := tTup (tCons (tC (.str "add site")) (tCons (tVar 4) tNil))) (fun _ _ _ _ _ => pe_tup (pa_cons pe_str (pa_cons (pv 4) pa_nil))))) ?_ ?_
  · rintro σ H0 ⟨d1, ys1, s0, hd1, r1, rfl⟩
    refine ⟨_, rfl, rdF (ft.same s0) ⟨pt, xt, SiteM, c.sites, fun H y m => EditAt K H y (.addSite m), rfl, keepT (Keep.of s0) hxt, pd_len rt, small (Nat.le_trans wf.sl (by decide)), fun _ _ _ _ e h => edit_stays _ _ _ _ e h, fun i x m H1 Y hi hm s1 hk => ?_, fun D H1 ys s1 hD hb pd => ?_⟩⟩
    · obtain ⟨m', hm', q, rfl, hq⟩ := pd_get rt hi
      rw [hm] at hm'
      obtain rfl := Option.some.inj hm'
      refine ⟨_, rfl, two, fun t nt => ?_⟩
      have s2 := Same.new (o := .tup [V.str "add site", V.ref q]) nt
      exact hk _ _ s2 ⟨t, _, rfl, tupOf upd_same, _, rfl, q, rfl, hq.keep (Keep.of (s0.trans (s1.trans s2)))⟩
    · exact ⟨d1, ys1, D, ys, s0.trans s1, s1 _ _ hd1, pd_mono (fun _ _ r => edit_stays _ _ _ _ (Keep.of s1) r) r1, hb, pd_ed (Keep.refl _) pd, rfl⟩
  refine pss_cut3 (R := fun σ H' => ∃ d1 ys1 d2 ys2 v, Same H H' ∧ H' d1 = some (.lst ys1) ∧ Paired (EditAt K H') ys1 (things1 c) ∧ H' d2 = some (.lst ys2) ∧ Paired (EditAt K H') ys2 (things2 c) ∧ ys2.length ≤ 10 + 40 * c.crafts.length ∧ σ = [some (.ref p), some (.ref d1), some (.ref d2), v, Option.none, Option.none, Option.none])
    (ps_for PassesOwn.never rfl (pi_tup (pe_fld (pv 0) rfl)) (pg_name (i := 3) sc_things.nd rfl (Or.inr rfl))
      (pss_cons (ps_set (i := 2) sc_things.nd rfl (Or.inl rfl) (pe_op op_catS (pv 2) (pe_Tm (pe_lc (own := [("_law_burn", 5)]) (by rfl) sc_things.nd (pi_tup (pe_up (pe_fld (pv 3) rfl))) (blkOk_by (N := ["_law_contents", "_law_first", "_law_later", "_law_craft", "_law_site", "_law_burn", "_law_sighting"]) (sc := defScope s_law_things) (by decide +kernel))
        (fun _ _ _ _ _ => pg_name (i := 5) sc_things.nd rfl (Or.inl rfl)) (fun _ _ _ _ _ => pts_nil) (te := tTup (tCons (tC (.str "add burn")) (tCons (tFld K (tVar 3) "name") (tCons (tVar 5) tNil)))) (fun _ _ _ _ _ => pe_tup (pa_cons pe_str (pa_cons (pe_fld (pv 3) rfl) (pa_cons (pv 5) pa_nil))))))))
      (pss_one (ps_set (i := 2) sc_things.nd rfl (Or.inl rfl) (pe_op op_catS (pv 2) (pe_Tm (pe_lc (own := [("_law_sighting", 6)]) (by rfl) sc_things.nd (pi_tup (pe_up (pe_fld (pv 3) rfl))) (blkOk_by (N := ["_law_contents", "_law_first", "_law_later", "_law_craft", "_law_site", "_law_burn", "_law_sighting"]) (sc := defScope s_law_things) (by decide +kernel))
        (fun _ _ _ _ _ => pg_name (i := 6) sc_things.nd rfl (Or.inl rfl)) (fun _ _ _ _ _ => pts_nil) (te := tTup (tCons (tC (.str "add sighting")) (tCons (tFld K (tVar 3) "name") (tCons (tVar 6) tNil)))) (fun _ _ _ _ _ => pe_tup (pa_cons pe_str (pa_cons (pe_fld (pv 3) rfl) (pa_cons (pv 6) pa_nil)))))))))) ) ?_ ?_
  · rintro σ H0 ⟨d1, ys1, d2, ys2, s0, hd1, r1, hd2, r2, rfl⟩
    refine ⟨_, rfl, rdF (fc.same s0) ⟨pc, rfl, ⟨_, keepT (Keep.of s0) hxc⟩, for_tup (K := K) (a := pc) (xs := xc) (fun i σ H' => ∃ d2 ys2 v, Same H H' ∧ H' d1 = some (.lst ys1) ∧ Paired (EditAt K H') ys1 (things1 c) ∧ H' d2 = some (.lst ys2) ∧ Paired (EditAt K H') ys2 (c.sites.map EditM.addSite ++ (c.crafts.take i).flatMap thingsC) ∧ ys2.length ≤ 10 + 40 * i ∧ σ = [some (.ref p), some (.ref d1), some (.ref d2), v, Option.none, Option.none, Option.none])
      ⟨d2, ys2, Option.none, s0, hd1, r1, hd2, by rw [List.take_zero, List.flatMap_nil, List.append_nil]; exact r2, by rw [pd_len r2, List.length_map]; exact wf.sl, rfl⟩ (fun i σ H' _ ⟨_, _, _, s1, _⟩ => keepT (Keep.of s1) hxc) (fun i x σ H' hi hh => ?_) (fun σ H' hh => ?_)⟩⟩
    · obtain ⟨d2, ys2, v, s1, hd1, r1, hd2, r2, ln, rfl⟩ := hh
      obtain ⟨m, hm, q, rfl, hq0⟩ := pd_get rc hi
      have wm := wf.cw m (List.mem_of_getElem? hm)
      have hi20 : i < 20 := by
        have h1 := (List.getElem?_eq_some_iff.mp hm).1
        have h2 := wf.cl
        omega
      have hq := hq0.keep (Keep.of s1)
      obtain ⟨_, fb, pb, xb, rfl, hxb, rb⟩ := hq.fb
      obtain ⟨_, fg, pg, xg, rfl, hxg, rg⟩ := hq.fg
      refine ⟨_, rfl, _, rfl, rdF fb ⟨pb, xb, BurnM, m.burns, fun H y b => EditAt K H y (.addBurn m.name b), rfl, hxb, pd_len rb, small (Nat.le_trans wm.bl (by decide)), fun _ _ _ _ e h => edit_stays _ _ _ _ e h, fun j x b H2 Y hj hb s2 hk => ?_, fun D H2 ys s2 hD hb pd => ?_⟩⟩
      · obtain ⟨m', hm', u, rfl, hu⟩ := pd_get rb hj
        rw [hb] at hm'
        obtain rfl := Option.some.inj hm'
        refine ⟨_, rfl, rdF (hq.fn.same s2) ⟨_, rfl, three, fun t nt => ?_⟩⟩
        have s3 := Same.new (o := .tup [V.str "add burn", V.str m.name, V.ref u]) nt
        exact hk _ _ s3 ⟨t, _, rfl, tupOf upd_same, _, rfl, u, rfl, hu.keep (Keep.of (s2.trans s3))⟩
      have lb : ys.length ≤ 20 := by rw [pd_len pd]; exact wm.bl
      refine ⟨d2, D, ys2, ys, rfl, rfl, s2 _ _ hd2, hb, Nat.le_trans (by omega : ys2.length + ys.length ≤ 1000) (by decide), fun q3 H3 s3 n3 h3 => ?_⟩
      have s23 := s2.trans s3
      refine ⟨_, rfl, _, rfl, rdF (fg.same s23) ⟨pg, xg, SightM, m.sights, fun H y b => EditAt K H y (.addSight m.name b), rfl, keepT (Keep.of s23) hxg, pd_len rg, small (Nat.le_trans wm.gl (by decide)), fun _ _ _ _ e h => edit_stays _ _ _ _ e h, fun j x b H4 Y hj hb s4 hk => ?_, fun D4 H4 ys4 s4 hD4 hb4 pd4 => ?_⟩⟩
      · obtain ⟨m', hm', u, rfl, hu⟩ := pd_get rg hj
        rw [hb] at hm'
        obtain rfl := Option.some.inj hm'
        refine ⟨_, rfl, rdF (hq.fn.same (s23.trans s4)) ⟨_, rfl, three, fun t nt => ?_⟩⟩
        have s5 := Same.new (o := .tup [V.str "add sighting", V.str m.name, V.ref u]) nt
        exact hk _ _ s5 ⟨t, _, rfl, tupOf upd_same, _, rfl, u, rfl, hu.keep (Keep.of (s23.trans (s4.trans s5)))⟩
      have lg : ys4.length ≤ 20 := by rw [pd_len pd4]; exact wm.gl
      refine ⟨q3, D4, ys2 ++ ys, ys4, rfl, rfl, s4 _ _ h3, hb4, Nat.le_trans (by rw [List.length_append]; omega : (ys2 ++ ys).length + ys4.length ≤ 1000) (by decide), fun q5 H5 s5 n5 h5 => ?_⟩
      have s25 := s23.trans (s4.trans s5)
      refine ⟨q5, _, some (.ref q), s1.trans s25, s25 _ _ hd1, pd_mono (fun _ _ r => edit_stays _ _ _ _ (Keep.of s25) r) r1, h5, ?_, by rw [List.length_append, List.length_append]; omega, rfl⟩
      rw [flat_snoc hm, ← List.append_assoc]
      unfold thingsC
      rw [← List.append_assoc]
      exact pd_append (pd_append (pd_mono (fun _ _ r => edit_stays _ _ _ _ (Keep.of s25) r) r2) (pd_ed (f := fun b => EditM.addBurn m.name b) (Keep.of (s3.trans (s4.trans s5))) pd)) (pd_ed (f := fun b => EditM.addSight m.name b) (Keep.of s5) pd4)
    · obtain ⟨d2, ys2, v, s1, hd1, r1, hd2, r2, ln, rfl⟩ := hh
      have e : xc.length = c.crafts.length := pd_len rc
      rw [e, List.take_length] at r2
      rw [e] at ln
      exact ⟨d1, ys1, d2, ys2, v, s1, hd1, r1, hd2, r2, ln, rfl⟩
  refine ⟨_, pss_one (ps_ret (pe_tup (pa_cons (pv 1) (pa_cons (pv 2) pa_nil)))), ?_⟩
  rintro σ H1 ⟨d1, ys1, d2, ys2, v, s1, hd1, r1, hd2, r2, ln, rfl⟩
  refine ⟨_, rfl, _, rfl, two, fun t nt => ?_⟩
  have s2 := Same.new (o := .tup [V.ref d1, V.ref d2]) nt
  have cl := wf.cl
  exact out t d1 d2 ys1 ys2 _ (s1.trans s2) upd_same (s2 _ _ hd1) (s2 _ _ hd2) (pd_mono (fun _ _ r => edit_stays _ _ _ _ (Keep.of s2) r) r1) (pd_mono (fun _ _ r => edit_stays _ _ _ _ (Keep.of s2) r) r2) (by rw [pd_len r1]; unfold things1; rw [List.length_map]; omega) (by omega)
end
end Ka
/-! _law_shuffled, law. -/
namespace Ka
open PySem PySem.Spec PyProof.Rows L2
theorem cut_lo (rs : List V) {j : Nat} (h : j < rs.length) : cutV rs none (some (j : Int)) = rs.take j := by
  unfold cutV
  rw [HT.sIx_none, HT.sIx_nat, List.drop_zero, Nat.sub_zero, Nat.min_eq_left (Nat.le_of_lt h)]
theorem cut_hi (rs : List V) {j : Nat} (h : j < rs.length) : cutV rs (some ((j + 1 : Nat) : Int)) none = rs.drop (j + 1) := by
  unfold cutV
  rw [HT.sIx_none, HT.sIx_nat, Nat.min_eq_left h]
  exact List.take_of_length_le (by rw [List.length_drop]; exact Nat.le_refl _)
theorem shuf_perm (rs : List V) {j : Nat} (h : j < rs.length) : List.Perm ([rs[j]] ++ (rs.take j ++ rs.drop (j + 1))) rs := by
  have e : rs = rs.take j ++ rs[j] :: rs.drop (j + 1) := by
    rw [← List.drop_eq_getElem_cons h]
    exact (List.take_append_drop j rs).symm
  show List.Perm (rs[j] :: (rs.take j ++ rs.drop (j + 1))) rs
  exact (List.perm_middle (a := rs[j]) (l₁ := rs.take j) (l₂ := rs.drop (j + 1))).symm.trans (List.Perm.of_eq e.symm)
section
variable {P : Program} {w : World} {K : PySem.W.Frag} {mg : Str → Option Value} {base : Heap}
def spShuf (K : PySem.W.Frag) : Sp := fun vs H Q _ => ∃ (p : Addr) (r : Int) (ys : List V), vs = [.ref p, .int r] ∧ H p = some (.lst ys) ∧ ys.length ≤ 1000 ∧ ∀ q zs H', Same H H' → H' q = some (.lst zs) → List.Perm zs ys → Q (.ref q) H'
theorem sc_shuf : FnScope ["_law_edits", "_law_row_here", "_law_rest", "_law_result", "_law_k", "_law_j"] ["_law_edits", "_law_row_here"] (defScope s_law_shuffled) := ⟨rfl, rfl, rfl, by decide +kernel, rfl, by decide +kernel, by decide +kernel⟩
theorem k_shuf (T : Txt w K mg) : Kal P w K mg base CX0 1 "_law_shuffled" (spShuf K) [] := by
  refine kal0 T.f_law_shuffled T.g_law_shuffled sc_shuf (fun _ _ _ _ _ _ us hl => match us, hl with | [_, _], _ => rfl) (fun vs H Q E h => ?_) (fun cdv A outer s H vs Q E hr h => ?_)
  · obtain ⟨p, r, ys, rfl, _⟩ := h
    rfl
  obtain ⟨p, r, ys, rfl, hp, hl, out⟩ := h
  refine ⟨_, pss_cons (ps_set (i := 2) sc_shuf.nd rfl (Or.inl rfl) (pe_callTy call_listS (by rfl) T.n_list (by decide +kernel) (pa_cons (pv 0) pa_nil)))
    (pss_cons (ps_set (i := 3) sc_shuf.nd rfl (Or.inl rfl) (pe_lst pa_nil))
    (pss_cons (ps_for PassesOwn.never rfl (pi_range1 rfl T.n_range (pa_cons (pe_callB call_len_seq (by rfl) T.n_len PySem.boot_len (pa_cons (pv 0) pa_nil)) pa_nil)) (pg_name (i := 4) sc_shuf.nd rfl (Or.inl rfl))
      (pss_cons (ps_set (i := 5) sc_shuf.nd rfl (Or.inl rfl) (pe_op op_mod (pe_callTy call_int1 (by rfl) T.n_int (by decide +kernel) (pa_cons (pv 1) pa_nil)) (pe_callB call_len_seq (by rfl) T.n_len PySem.boot_len (pa_cons (pv 2) pa_nil))))
      (pss_cons (ps_set (i := 1) sc_shuf.nd rfl (Or.inl rfl) (pe_op op_add (pe_op op_fdiv (pv 1) pe_int) (pe_op op_mul (pv 4) pe_int)))
      (pss_cons (ps_expr (pe_bm PySem.F.plainAttrs_list PySem.F.slot_list_append PySem.F.type_list_append mt_append (pv 3) (pa_cons (pe_ix ix_list (pv 2) (pv 5) (fun _ _ => rfl)) pa_nil)))
      (pss_one (ps_set (i := 2) sc_shuf.nd rfl (Or.inl rfl) (pe_op op_catS (pe_slice sl_list (pv 2) po_none (po_some (pv 5))) (pe_slice sl_list (pv 2) (po_some (pe_op op_add (pv 5) pe_int)) po_none))))))))
    (pss_one (ps_ret (pv 3))))), ?_⟩
  refine ⟨_, rfl, p, ys, rfl, .inl (lstOf hp), fun d0 H1 s1 n1 h1 => ?_⟩
  refine ⟨Nat.zero_le _, fun q nq => ?_⟩
  have s2 : Same H1 (upd H1 q (.lst [])) := Same.new nq
  have nqH : H q = Option.none := Same.free s1 nq
  have ne0 : d0 ≠ q := ne_of_none h1 nq
  refine ⟨_, rfl, p, ys, rfl, .inl (lstOf (s2 _ _ (s1 _ _ hp))), _, rfl, by omega, by omega, for_range (lo := 0) (n := ys.length) (fun i σ H' => ∃ (r : Int) (d : Addr) (rs zs : List V) (v4 v5 : Option V), Same H H' ∧ H' d = some (.lst rs) ∧ d ≠ q ∧ H' q = some (.lst zs) ∧ List.Perm (zs ++ rs) ys ∧ zs.length = i ∧ σ = [some (.ref p), some (.int r), some (.ref d), some (.ref q), v4, v5])
    ⟨r, d0, ys, [], Option.none, Option.none, s1.trans s2, s2 _ _ h1, ne0, upd_same, List.Perm.refl _, rfl, rfl⟩ (fun i σ H2 hi hh => ?_) (fun σ H2 hh => ?_)⟩
  · obtain ⟨r, d, rs, zs, v4, v5, s3, hd, nd, hq, pm, lz, rfl⟩ := hh
    have ln := pm.length_eq
    rw [List.length_append] at ln
    have lr : 0 < rs.length := by omega
    have mB := modB r (m := (rs.length : Int)) (by omega)
    obtain ⟨j, ej⟩ : ∃ j : Nat, r % (rs.length : Int) = (j : Int) := ⟨(r % (rs.length : Int)).toNat, by omega⟩
    have lj : j < rs.length := by omega
    have hat : atI rs (r % (rs.length : Int)) = some rs[j] := by
      rw [ej]
      exact atI_nat (List.getElem?_eq_getElem lj)
    have c1 : cutV rs none (some (r % (rs.length : Int))) = rs.take j := by rw [ej]; exact cut_lo rs lj
    have c2 : cutV rs (some (r % (rs.length : Int) + 1)) none = rs.drop (j + 1) := by rw [ej]; exact cut_hi rs lj
    refine ⟨_, rfl, .inl ⟨_, rfl, _, rfl, d, rs, rfl, .inl (lstOf hd), _, _, rfl, rfl, (by show (0 : Int) < (rs.length : Int); omega), ?_⟩⟩
    refine ⟨_, rfl, _, _, rfl, rfl, ⟨by decide, by decide⟩, _, rfl, _, _, rfl, rfl, .inl (cm ⟨by omega, by omega⟩), _, _, rfl, rfl, ?_⟩
    refine ⟨_, rfl, .inl ⟨rfl, _, lstOf hq⟩, _, rfl, _, rfl, d, rs, _, rs[j], rfl, rfl, lstOf hd, hat, q, zs, rs[j], rfl, rfl, hq, Nat.lt_of_le_of_lt (by omega : zs.length ≤ 1000) (by decide), ?_⟩
    have hd4 : upd H2 q (.lst (zs ++ [rs[j]])) d = some (.lst rs) := by rw [upd_ne nd]; exact hd
    have s4 : Same H (upd H2 q (.lst (zs ++ [rs[j]]))) := Same.mut s3 nqH
    refine ⟨_, rfl, _, rfl, _, rfl, d, rs, rfl, lstOf hd4, fun a1 na1 => ?_⟩
    have s5 := Same.new (o := .lst (cutV rs none (some (r % (rs.length : Int))))) na1
    refine ⟨_, rfl, _, rfl, _, _, rfl, rfl, _, rfl, d, rs, rfl, lstOf (s5 _ _ hd4), fun a2 na2 => ?_⟩
    have s6 := Same.new (o := .lst (cutV rs (some (r % (rs.length : Int) + 1)) none)) na2
    refine ⟨a1, a2, _, _, rfl, rfl, s6 _ _ upd_same, upd_same, ?_, fun a3 H3 s7 na3 h3 => ?_⟩
    · refine Nat.le_trans (Nat.add_le_add (cutV_length _ _ _) (cutV_length _ _ _)) (Nat.le_trans (by omega : rs.length + rs.length ≤ 2000) (by decide))
    have s57 := s5.trans (s6.trans s7)
    have hq3 : H3 q = some (.lst (zs ++ [rs[j]])) := s57 _ _ upd_same
    refine ⟨_, a3, _, zs ++ [rs[j]], _, _, s4.trans s57, h3, fun z => ?_, hq3, ?_, ?_, rfl⟩
    · have hq6 := s6 _ _ (s5 _ _ (upd_same (H := H2) (a := q) (o := .lst (zs ++ [rs[j]]))))
      rw [z, hq6] at na3
      cases na3
    · rw [c1, c2, List.append_assoc]
      exact (List.Perm.append_left zs (shuf_perm rs lj)).trans pm
    · rw [List.length_append, List.length_singleton, lz]
  · obtain ⟨r, d, rs, zs, v4, v5, s3, hd, nd, hq, pm, lz, rfl⟩ := hh
    have ln := pm.length_eq
    rw [List.length_append] at ln
    have e : rs = [] := List.length_eq_zero_iff.mp (by omega)
    subst e
    rw [List.append_nil] at pm
    exact ⟨_, rfl, out q zs H2 s3 hq pm⟩
/-! ### law(script) -/
def spLaw (K : PySem.W.Frag) : Sp := fun vs H Q _ => ∃ (a : Addr) (ns : List Int), vs = [.ref a] ∧ SqL K H a (ns.map V.int) ∧ ns.length ≤ 63 ∧ ∀ H', Q (.bl true) H'
theorem sc_law : FnScope ["_law_script", "_law_contents", "_law_first", "_law_later", "_law_again", "_law_edit"] ["_law_script"] (defScope s_law) := ⟨rfl, rfl, rfl, by decide +kernel, rfl, by decide +kernel, by decide +kernel⟩
theorem many_ok (n : Nat) : 0 ≤ (if (if (n : Int) < 16 then (n : Int) else 16) > 6 then (if (n : Int) < 16 then (n : Int) else 16) else 6) ∧ (if (if (n : Int) < 16 then (n : Int) else 16) > 6 then (if (n : Int) < 16 then (n : Int) else 16) else 6) ≤ 16 := by
  by_cases h : (n : Int) < 16
  · rw [if_pos h]
    by_cases h2 : (n : Int) > 6
    · rw [if_pos h2]
      omega
    · rw [if_neg h2]
      omega
  · rw [if_neg h]
    decide
theorem nox_of {X : Cx} {b : List Stmt} {D : Ends} {σ : L2.St} {H : Hp} (h : ∃ t, PSs X.nox b t ∧ t D σ H) : ∃ t, PSs X b t ∧ t D σ H := by
  obtain ⟨t, h1, h2⟩ := h
  exact ⟨t, h1.nox, h2⟩
theorem law_end (T : TxX P w K mg) : ∃ fd : FuncData, (∀ (s : Shared) (u : Value), BindsTo s fd ⟨[u], []⟩ [(("_law_script" : Str), u)]) ∧ ∀ base : Heap, FnOk P w K mg base CX0 10 (He.ga K "law") fd ["_law_script"] (spLaw K) := by
  obtain ⟨fd, F⟩ := T.t.f_law
  refine ⟨fd, fun s u => F.bindsA (ps := ["_law_script"]) (fun _ _ _ _ _ _ us hl => match us, hl with | [_], _ => rfl) s [u] rfl, fun base => F.ok sc_law (fun vs H Q E h => ?_) fun cdv A outer s H vs Q E hr h => nox_of ?_⟩
  · obtain ⟨a, ns, rfl, _⟩ := h
    rfl
  have c1 := k_edited (P := P) (base := base) T
  have c2 := k_things (P := P) (base := base) T
  have c3 := k_Cont3 (P := P) (base := base) T.t
  have c4 := k_shuf (P := P) (base := base) T.t
  have c5 := k_row (P := P) (base := base) T.t
  have c6 := k_err (P := P) (base := base) T
  have c7 := k_apply (P := P) (base := base) T
  have c8 := k_cont_data (P := P) (base := base) T.t
  obtain ⟨a, ns, rfl, ha, hn, out⟩ := h
  refine ⟨_, pss_cons (ps_set (i := 1) sc_law.nd rfl (Or.inl rfl) (pe_k c1 hr (by decide) (pa_cons (pv 0) (pa_cons pe_int (pa_cons (pe_callB (call_max2 rfl) (by rfl) T.t.n_max (by decide +kernel) (pa_cons pe_int (pa_cons (pe_callB (call_min2 rfl) (by rfl) T.t.n_min (by decide +kernel) (pa_cons pe_int (pa_cons (pe_callB call_len_seq (by rfl) T.t.n_len PySem.boot_len (pa_cons (pv 0) pa_nil)) pa_nil))) pa_nil)))
      (pa_cons (pe_lst (pa_cons pe_str (pa_cons pe_str (pa_cons pe_str (pa_cons pe_str pa_nil))))) pa_nil))))))
    (pss_cons (ps_asg (pe_k c2 hr (by decide) (pa_cons (pv 1) pa_nil)) (pg_tup rfl (pgs_cons (pg_name (i := 2) sc_law.nd rfl (Or.inl rfl)) (pgs_cons (pg_name (i := 3) sc_law.nd rfl (Or.inl rfl)) pgs_nil))))
    (pss_cons (ps_set (i := 4) sc_law.nd rfl (Or.inl rfl) (pe_m c3 hr (by decide) (pa_cons (pe_fld (pv 1) rfl) (pa_cons (pe_fld (pv 1) rfl) (pa_cons (pe_fld (pv 1) rfl) pa_nil)))))
    (pss_cons (ps_for PassesOwn.never rfl (pi_list (pe_op op_catS (pe_k c4 hr (by decide) (pa_cons (pv 2) (pa_cons (pe_k c5 hr (by decide) (pa_cons (pv 0) (pa_cons pe_int pa_nil))) pa_nil))) (pe_k c4 hr (by decide) (pa_cons (pv 3) (pa_cons (pe_k c5 hr (by decide) (pa_cons (pv 0) (pa_cons pe_int pa_nil))) pa_nil))))) (pg_name (i := 5) sc_law.nd rfl (Or.inl rfl))
      (pss_cons (ps_if (pt_cmpR op_notN (pe_k c6 hr (by decide) (pa_cons (pv 4) (pa_cons (pv 5) pa_nil))) pe_non (nomark _)) (pss_one (ps_ret pe_bl)) pss_nil)
      (pss_one (ps_set (i := 4) sc_law.nd rfl (Or.inl rfl) (pe_kx c7 hr (by decide) (passes_call takes0 (fun _ _ _ _ h => h)) (pa_cons (pv 4) (pa_cons (pv 5) pa_nil)))))))
    (pss_one (ps_ret (pe_cmpR (op_eqD hr.units) (pe_k c8 hr (by decide) (pa_cons (pv 4) pa_nil)) (pe_k c8 hr (by decide) (pa_cons (pv 1) pa_nil)) (nomark _))))))), ?_⟩
  refine ⟨_, rfl, _, rfl, a, _, rfl, .inl ha, _, _, rfl, _, _, rfl, (by show 4 ≤ sizeLine; decide), fun nl nw => ?_⟩
  have q1 := Same.new (o := .lst fourN) nw
  refine ⟨a, nl, ns, _, rfl, sameL q1 ha, ?_, lstOf upd_same, fun p c H1 s1 hp wf => ?_⟩
  · have := many_ok (ns.map V.int).length
    exact this
  have sa1 := q1.trans s1
  refine ⟨_, rfl, p, c, rfl, hp, wf, fun t d1 d2 ys1 ys2 H2 s2 ht hd1 hd2 r1 r2 l1 l2 => ?_⟩
  refine ⟨t, _, rfl, tupOf ht, rfl, _, _, rfl, _, _, rfl, rfl, ?_⟩
  have sa2 := sa1.trans s2
  have hp2 := hp.keep (Keep.of s2)
  obtain ⟨bv, fb, hb⟩ := hp2.fb
  refine ⟨_, rfl, rdF fb ⟨_, rfl, rdF hp2.fs ⟨_, rfl, rdF hp2.ff ?_⟩⟩⟩
  refine fun x dx nx nd _ => ⟨H2, x, dx, bv, .ref _, .ref _, empty c, rfl, nx, new_ob nx nd, hb, ⟨_, [], rfl, .inr (T.d0.sq _), .nil⟩, ⟨_, [], rfl, .inr (T.d1.sq _), .nil⟩, wf.st, wf.fi, fun H3 s3 hx => ⟨rfl, ?_⟩⟩
  have sa3 := sa2.trans s3
  refine ⟨_, rfl, _, rfl, a, ns, 20, rfl, sameL sa3 ha, by decide, fun n1 => ⟨d1, n1, ys1, rfl, s3 _ _ hd1, l1, fun z1 zs1 H4 s4 hz1 pm1 => ?_⟩⟩
  have sa4 := sa3.trans s4
  refine ⟨_, rfl, _, rfl, a, ns, 21, rfl, sameL sa4 ha, by decide, fun n2 => ⟨d2, n2, ys2, rfl, s4 _ _ (s3 _ _ hd2), l2, fun z2 zs2 H5 s5 hz2 pm2 => ?_⟩⟩
  have e1l := pm1.length_eq
  have e2l := pm2.length_eq
  refine ⟨z1, z2, zs1, zs2, rfl, rfl, s5 _ _ hz1, hz2, Nat.le_trans (by omega : zs1.length + zs2.length ≤ 2000) (by decide), fun z3 H6 s6 n6 hz3 => ?_⟩
  have s36 := s3.trans (s4.trans (s5.trans s6))
  obtain ⟨e1, p1, rr1⟩ := pd_perm pm1 (pd_mono (fun _ _ r => edit_stays _ _ _ _ (Keep.of s36) r) r1)
  obtain ⟨e2, p2, rr2⟩ := pd_perm pm2 (pd_mono (fun _ _ r => edit_stays _ _ _ _ (Keep.of s36) r) r2)
  have h1 : ∀ e, e ∈ e1 ↔ e ∈ things1 c := fun e => p1.mem_iff
  have h2 : ∀ e, e ∈ e2 ↔ e ∈ things2 c := fun e => p2.mem_iff
  have rr := pd_append rr1 rr2
  have hp6 := hp2.keep (Keep.of s36)
  have hx6 : ContP K H6 x (state c e1 e2 0) := by
    rw [state_zero h1]
    exact hx.keep (Keep.of (s4.trans (s5.trans s6)))
  refine ⟨z3, rfl, ⟨_, lstOf hz3⟩, for_list (K := K) (a := z3) (xs := zs1 ++ zs2) (fun i σ H' => ∃ (p' : Addr) (v5 : Option V), Same H6 H' ∧ ContP K H' p' (state c e1 e2 i) ∧ σ = [some (.ref a), some (.ref p), some (.ref d1), some (.ref d2), some (.ref p'), v5])
    ⟨x, Option.none, Same.refl _, hx6, rfl⟩ (fun i σ H' _ ⟨_, _, s, _⟩ => sameL s (lstOf hz3)) (fun i y σ H7 hi hh => ?_) (fun σ H7 hh => ?_)⟩
  · obtain ⟨p', v5, s7, hp', rfl⟩ := hh
    obtain ⟨e, he, hey⟩ := pd_get rr hi
    have hi2 := (List.getElem?_eq_some_iff.mp he).1
    have wfi := state_wf wf h1 h2 i (Nat.le_of_lt hi2)
    have stp := state_step wf h1 h2 he
    have eok : EditOk e := by
      rcases List.mem_append.mp (List.mem_of_getElem? he) with q | q
      · exact things1_ok wf e ((h1 e).mp q)
      · exact things2_ok wf e ((h2 e).mp q)
    have hey7 := edit_stays _ _ _ _ (Keep.of s7) hey
    refine ⟨_, rfl, _, rfl, p', y, e, _, rfl, hey7, eok, hp', wfi, fun c' hc H8 s8 => ?_, fun er her => ?_⟩
    · refine ⟨rfl, tkNT rfl (iteF ⟨_, rfl, _, rfl, p', y, e, _, rfl, edit_stays _ _ _ _ (Keep.of s8) hey7, eok, hp'.keep (Keep.of s8), wfi, fun c2 hc2 q H9 s9 hq => ?_, fun er her => ?_⟩)⟩
      · rw [stp] at hc2
        obtain rfl := Except.ok.inj hc2
        exact ⟨q, _, s7.trans (s8.trans s9), hq, rfl⟩
      · rw [stp] at her
        cases her
    · rw [stp] at her
      cases her
  · obtain ⟨p', v5, s7, hp', rfl⟩ := hh
    rw [pd_len rr, state_last h2] at hp'
    refine ⟨_, rfl, p', c, rfl, hp', wf, fun v8 H8 s8 d8 => ?_⟩
    refine ⟨_, rfl, p, c, rfl, hp6.keep (Keep.of (s7.trans s8)), wf, fun v9 H9 s9 d9 => ?_⟩
    have sh := shaped_cont wf
    refine ⟨contD c, contD c, Dt.dp _ _ (dt_keep (Keep.of s9) d8), Dt.dp _ _ d9, sh, sh, ?_⟩
    rw [SeqAt.eqv_refl _ (SeqAt.canLay_of_shaped sh)]
    exact out H9
end
end Ka
/-! The facts of the top, as one asks them of the written part. -/
namespace Ka
open PySem PySem.Spec PyProof.Rows L2
def clsB (K : PySem.W.Frag) (C : Addr) : Bool := match K.lookup C with
  | some ⟨.type "type", _, .cls cd, sl⟩ => (match cd.mro, sl.toList with
    | .ref C' :: bm, [_, _, _, _, some (.builtin n), _] => C' == C && n == "ValueError.__new__" && !cd.hasDel && cd.hasDict && HandSPX.refsVE bm
    | _, _ => false)
  | _ => false
theorem clsB_ok {K : PySem.W.Frag} {C : Addr} (q : clsB K C = true) : ∃ nm q N bs bm sn sub ab col dd k0 k1 k2 k3 k5, K.lookup C = some (excClassObj nm q C N bs bm true sn sub ab col dd k0 k1 k2 k3 k5 "ValueError.__new__") ∧ HandSPX.refsVE bm = true := by
  unfold clsB at q
  split at q
  · rename_i dd cd sl ho
    split at q
    · rename_i C' bm k0 k1 k2 k3 n k5 hm hs
      simp only [Bool.and_eq_true, beq_iff_eq, Bool.not_eq_true'] at q
      obtain ⟨⟨⟨⟨rfl, rfl⟩, hdel⟩, hdi⟩, ht⟩ := q
      obtain ⟨nm, bs, mro, ns, qn, hd, sn, sub, ab, col, del⟩ := cd
      dsimp only at hm hdel hdi
      subst hm hdel hdi
      have hsl : sl = #[k0, k1, k2, k3, some (.builtin "ValueError.__new__"), k5] := by
        obtain ⟨l⟩ := sl
        simp only at hs
        rw [hs]
      subst hsl
      exact ⟨nm, qn, ns, bs, bm, sn, sub, ab, col, dd, k0, k1, k2, k3, k5, ho, ht⟩
    · cases q
  · cases q
def supFn (K : PySem.W.Frag) (p : Str × Option Str) (C : Addr) (qual file : Str) : Bool := match K.lookup (He.fAd K p) with
  | some ⟨_, _, .func fd, _⟩ => (match fd.defaults, fd.code, fd.closure with
    | .none, .ref cda, [(_, cc)] => PySem.W.codeIn K (.ref cda) qual && ((match K.lookup cc with
        | some ⟨_, _, .cell (some (.ref c)), _⟩ => c == C
        | _ => false) && (match K.lookup cda with
        | some ⟨_, _, .fields vs, _⟩ => (match (vs[2]? : Option Value) with
          | some (Value.str f _) => file == f
          | _ => false)
        | _ => false))
    | _, _, _ => false)
  | _ => false
def ccOf (K : PySem.W.Frag) (p : Str × Option Str) : Addr := match He.fnW K p with
  | some (_, _, _, _, _, _, [(_, c)], _) => c
  | _ => 0
def supW (K : PySem.W.Frag) (p : Str × Option Str) (qual : Str) (st : Stmt) : Prop := He.fnW K p = some (("__init__" : Str), qual, defArgs st, FuncBody.stmts (defBody st), defScope st, mainGlobals, [(("__class__" : Str), ccOf K p)], builtinsNs)
theorem supFn_ok {prog : Program} {K : PySem.W.Frag} {p : Str × Option Str} {C : Addr} {qual : Str} {st : Stmt} (b : supFn K p C qual prog.main.file = true) (e : supW K p qual st) :
    ∃ (oc : Value) (od : Option Addr) (kV doc pm : Value) (an : Option Addr) (cda : Addr) (ct : Value) (cc : Addr) (osl : Array (Option Value)),
    K.lookup (He.fAd K p) = some ⟨oc, od, .func (PySem.W.ksFn "__init__" qual (defArgs st) (defBody st) (defScope st) .none kV doc pm an (.ref cda) ct cc), osl⟩ ∧ PySem.W.codeIn K (.ref cda) qual = true ∧
    (∃ (cl : Value) (cld : Option Addr) (csl : Array (Option Value)), K.lookup cc = some ⟨cl, cld, .cell (some (.ref C)), csl⟩) ∧
    ∃ (ccl : Value) (cdd : Option Addr) (vs : Array Value) (ccs : Array (Option Value)) (file : Str) (tf : Tok), K.lookup cda = some ⟨ccl, cdd, .fields vs, ccs⟩ ∧ vs[2]? = some (.str file tf) ∧ ((prog.main.file : Str) == file) = true := by
  unfold supFn at b
  split at b
  · rename_i oc od fd osl ho
    split at b
    · rename_i cda n cc h1 h2 h3
      unfold supW He.fnW at e
      rw [ho] at e
      obtain ⟨nm, qn, pa, bo, sc, gl, clo, df, kd, doc, pm, an, cd, ct, bl⟩ := fd
      dsimp only at h1 h2 h3 e
      subst h1 h2 h3
      have e2 := Option.some.inj e
      simp only [Prod.mk.injEq] at e2
      obtain ⟨rfl, rfl, rfl, rfl, rfl, rfl, e3, rfl⟩ := e2
      obtain ⟨e4, _⟩ := List.cons.inj e3
      obtain ⟨e5, _⟩ := Prod.mk.inj e4
      subst e5
      obtain ⟨b1, b2⟩ := Bool.and_eq_true_iff.mp b
      obtain ⟨b3, b4⟩ := Bool.and_eq_true_iff.mp b2
      refine ⟨oc, od, kd, doc, pm, an, cda, ct, cc, osl, ho, b1, ?_, ?_⟩
      · split at b3
        · rename_i cl cld c csl hc
          rw [beq_iff_eq] at b3
          subst b3
          exact ⟨cl, cld, csl, hc⟩
        · cases b3
      · split at b4
        · rename_i ccl cdd vs ccs hc
          split at b4
          · rename_i f tf hv
            exact ⟨ccl, cdd, vs, ccs, f, tf, hc, hv, b4⟩
          · cases b4
        · cases b4
    · cases b
  · cases b
def supB (K : PySem.W.Frag) (p : Str × Option Str) (C : Addr) (qual file : Str) : Bool :=
  clsB K C && (PySem.W.excInitIn K C He.veBase "ValueError.__new__" && (He.eqO (PySem.W.findIn K (.ref C) "__setattr__") (some (some (.builtin "object.__setattr__"))) && (He.eqO (PySem.W.findIn K (.ref C) "name") (some none) &&
    (He.eqO (PySem.W.findIn K (.ref C) "__init__") (some (some (.ref (He.fAd K p)))) && (decide (PySem.W.typeIn K (.ref (He.fAd K p)) = some (.type "function")) && (PySem.W.keepIn K (.ref C) && (decide (PySem.W.subIn K (.ref C) (.type "BaseException") = some true) &&
    (decide (PySem.W.subIn K (.ref C) (.type "ValueError") = some true) && (decide (PySem.W.typeIn K (.ref C) = some (.type "type")) && (decide (PySem.W.mroIn K C (.ref C) = some true) && (He.eqO (PySem.W.ks_superIn K C C "__init__") (some (some (.builtin "ValueError.__init__"))) &&
    (He.eqO (PySem.W.nsIn K cStatics "thirdparty.any") (some none) && supFn K p C qual file))))))))))))
theorem supC_of {prog : Program} {K : PySem.W.Frag} {p : Str × Option Str} {C : Addr} {qual : Str} {st : Stmt} (b : supB K p C qual prog.main.file = true) (e : supW K p qual st) : Sup.SupC prog K C (He.fAd K p) qual st := by
  unfold supB at b
  simp only [Bool.and_eq_true] at b
  obtain ⟨b1, b2, b3, b4, b5, b6, b7, b8, b9, b10, b11, b12, b13, b14⟩ := b
  exact ⟨clsB_ok b1, b2, He.eqO_ok b3, He.eqO_ok b4, He.eqO_ok b5, of_decide_eq_true b6, b7, of_decide_eq_true b8, of_decide_eq_true b9, of_decide_eq_true b10, of_decide_eq_true b11, He.eqO_ok b12, He.eqO_ok b13, supFn_ok b14 e⟩
/-- the tables' entries -/
def pairs1 : List (Str × Str) := [("set body", "set_body"), ("set stride", "set_stride"), ("set fineness", "set_fineness"), ("add craft", "add_craft"), ("drop craft", "drop_craft"), ("add site", "add_site"), ("drop site", "drop_site")]
def pairs2 : List (Str × Str) := [("set drift", "set_drift"), ("add burn", "add_burn"), ("drop burn", "drop_burn"), ("add sighting", "add_sighting"), ("drop sighting", "drop_sighting")]
def tabB (K : PySem.W.Frag) : Bool := (pairs1.all fun q => He.eqO (PySem.W.nsIn K (He.ga K "ONE") q.1) (some (some (.ref (He.ga K q.2))))) && (pairs2.all fun q => He.eqO (PySem.W.nsIn K (He.ga K "ONE") q.1) (some none) && He.eqO (PySem.W.nsIn K (He.ga K "TWO") q.1) (some (some (.ref (He.ga K q.2)))))
theorem in1 : ∀ e, isOne e = true → (word e, fnm e) ∈ pairs1
  | .setBody _, _ => .head _
  | .setStride _, _ => .tail _ (.head _)
  | .setFine _, _ => .tail _ (.tail _ (.head _))
  | .addCraft _, _ => .tail _ (.tail _ (.tail _ (.head _)))
  | .dropCraft _, _ => .tail _ (.tail _ (.tail _ (.tail _ (.head _))))
  | .addSite _, _ => .tail _ (.tail _ (.tail _ (.tail _ (.tail _ (.head _)))))
  | .dropSite _, _ => .tail _ (.tail _ (.tail _ (.tail _ (.tail _ (.tail _ (.head _))))))
theorem in2 : ∀ e, isOne e = false → (word e, fnm e) ∈ pairs2
  | .setDrift _ _, _ => .head _
  | .addBurn _ _, _ => .tail _ (.head _)
  | .dropBurn _ _, _ => .tail _ (.tail _ (.head _))
  | .addSight _ _, _ => .tail _ (.tail _ (.tail _ (.head _)))
  | .dropSight _ _, _ => .tail _ (.tail _ (.tail _ (.tail _ (.head _))))
def moreB (K : PySem.W.Frag) : Bool := xfB K (He.ga K "NoSuchCraft") && (xfB K (He.ga K "NoSuchSite") && (empB K (He.dflAt ("Craft", some "__init__") 0 K) && (empB K (He.dflAt ("Craft", some "__init__") 1 K) && (empB K (He.dflAt ("Contents", some "__init__") 0 K) && (empB K (He.dflAt ("Contents", some "__init__") 1 K) && tabB K)))))
theorem txX_of {P : Program} {w : World} {K : PySem.W.Frag} {mg : Str → Option Value} {h : Heap} (KX : K.In h) (G : h.Ns mainGlobals mg) (t1 : (fa.all fun f => f.ok K) = true) (t2 : (fn.map fun d => He.fnW K d.at_) = fn.map He.DefD.val) (t3 : (fn.all fun d => d.ok K) = true)
    (t4 : (ts.map fun t => He.dicW K (t.1 K)) = ts.map fun t => some (He.keysIn w.params t.2)) (b1 : supB K ("NoSuchCraft", some "__init__") (He.ga K "NoSuchCraft") "NoSuchCraft.__init__" P.main.file = true) (b2 : supB K ("NoSuchSite", some "__init__") (He.ga K "NoSuchSite") "NoSuchSite.__init__" P.main.file = true)
    (e1 : supW K ("NoSuchCraft", some "__init__") "NoSuchCraft.__init__" s_NoSuchCraft_init) (e2 : supW K ("NoSuchSite", some "__init__") "NoSuchSite.__init__" s_NoSuchSite_init) (m : moreB K = true) (su : (P.main.scope.names.lookup ("super" : Str)).isSome = false) : TxX P w K mg := by
  unfold moreB at m
  simp only [Bool.and_eq_true] at m
  obtain ⟨m1, m2, m3, m4, m5, m6, m7⟩ := m
  unfold tabB at m7
  obtain ⟨m8, m9⟩ := Bool.and_eq_true_iff.mp m7
  exact ⟨⟨t1, t2, t3, t4, h, KX, G⟩, ⟨_, supC_of b1 e1⟩, ⟨_, supC_of b2 e2⟩, su, xfB_ok m1, xfB_ok m2, empB_ok m3, empB_ok m4, empB_ok m5, empB_ok m6, fun e o => He.eqO_ok (List.all_eq_true.mp m8 _ (in1 e o)),
    fun e o => by
      obtain ⟨q1, q2⟩ := Bool.and_eq_true_iff.mp (List.all_eq_true.mp m9 _ (in2 e o))
      exact ⟨He.eqO_ok q1, He.eqO_ok q2⟩⟩
end Ka
open PySem PySem.W PyProof.Rows
set_option maxHeartbeats 0 in
theorem PySem.Challenge.cw_orrery_k60_whole_order_of_edits_holds : PySem.Challenge.rw_orrery_k60_whole_order_of_edits.Holds := by
  w_on; o_law; k_head; (case hw => w_witness2)
  k_fill
  refine L2.walk_ofK (l := PySem.Challenge.rw_orrery_k60_whole_order_of_edits) (n := 63) (k := 10) (x := "_law_script") (CX := L2.CX0) (sp := Ka.spLaw) rfl (by decide) rfl ⟨rfl, by decide, by decide⟩ (fun w h Y => PySem.W.kIn_of Y) ?F ?S ?T
  case F =>
    intro w mg fa h KX G hmg
    have T := Ka.txX_of (P := PySem.Challenge.rw_orrery_k60_whole_order_of_edits.prog) (w := w) KX G (by kernel_rfl) (by kernel_rfl) (by kernel_rfl) (by kernel_rfl) (by kernel_rfl) (by kernel_rfl) (by unfold Ka.supW; kernel_rfl) (by unfold Ka.supW; kernel_rfl) (by kernel_rfl) (by kernel_rfl)
    obtain ⟨fd, b, F⟩ := Ka.law_end T
    have e := PySem.Value.ref.inj (Option.some.inj (hmg.symm.trans T.t.g_law))
    exact ⟨fd, b, fun base _ _ => e ▸ F base⟩
  case S => exact fun K H a ns hl _ hs => ⟨a, ns, rfl, hs, hl, fun _ => rfl⟩
  case T => exact fun _ _ _ _ h => h
