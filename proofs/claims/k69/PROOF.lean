import PyProof.Rows.All
import PySem.Str
import Wide.All
import OpenK.AllK
import Wide.FinOn
import HandS.ForMost
import HandS.Defaults
import HandS.Head0
import HandS.Head1
import HandS.Head2
import HandS.HeadEnd
import HandS.HeadHook1
import HandS.HeadHook2
import PySem.Challenge.RW_copystem_k69_whole_either_order
import HandS.Codes
import HandS.IsInst
import HandS.TupAny
import HandS.Zip
import HandS.Exc
import HandS.ExcOwn
import HandS.TryOnly
import HandS.WordsExc
import HandS.Small
import HandS.Walk
import KE.GoesMore
import PyProof.EnumMake
import PyProof.Draws
import HandS.More
set_option Elab.async false
set_option linter.all false
/-! The model of the program: cells, houses, deeds; plain Lean. -/
namespace K69
open PySem

structure Cell where
  rd : Option Str
  st : List (Option Str)
  src : Option (Str × Nat)
  came : List Str
  deriving DecidableEq

structure Note where
  num : Nat
  nm : Str
  pl : Nat
  bef : Option Str
  aft : Str
  deriving DecidableEq

inductive Deed where
  | write (nm : Str) (row : List Str)
  | copy (nm : Str) (parts : List (Str × Nat × Nat)) (slips : List (Nat × Str))
  | mend (nm : Str) (pl : Nat) (rd : Str)
  | mtch (nm md : Str) (f l : Nat)
  | lose (nm : Str) (f l : Nat)

structure Hs where
  order : List Str
  bk : Str → List Cell
  notes : List Note
  cnt : Nat

def Deed.nm : Deed → Str
  | .write nm _ => nm
  | .copy nm _ _ => nm
  | .mend nm _ _ => nm
  | .mtch nm _ _ _ => nm
  | .lose nm _ _ => nm
def Deed.models : Deed → List Str
  | .copy _ parts _ => parts.map (·.1)
  | .mtch _ md _ _ => [md]
  | _ => []
def Deed.makes : Deed → Bool
  | .write .. => true
  | .copy .. => true
  | _ => false

def risen (nm : Str) (k : Nat) (rd : Str) : Cell := ⟨some rd, [some rd], some (nm, k), [nm]⟩
def handed (nm : Str) (c : Cell) : Cell := match c.rd with
  | none => ⟨none, [none], none, []⟩
  | some r => ⟨some r, [some r], c.src, nm :: c.came⟩
def mendC (c : Cell) (nm : Str) (k : Nat) (rd : Str) : Cell := ⟨some rd, c.st ++ [some rd], some (nm, k), [nm]⟩
def matchC (c : Cell) (nm : Str) (o : Cell) : Cell := ⟨o.rd, c.st ++ [o.rd], o.src, nm :: o.came⟩
def lostC (c : Cell) : Cell := ⟨none, c.st ++ [none], none, []⟩

def stretch (bk : Str → List Cell) (p : Str × Nat × Nat) : List Cell := ((bk p.1).drop p.2.1).take (p.2.2 - p.2.1)
def copyBase (bk : Str → List Cell) (nm : Str) (parts : List (Str × Nat × Nat)) : List Cell := parts.flatMap fun p => (stretch bk p).map (handed nm)
def slipStep (nm : Str) (k : Nat) (a : List Cell × List Note) (s : Nat × Str) : List Cell × List Note :=
  (a.1.set s.1 (risen nm k s.2), a.2 ++ [⟨k, nm, s.1, a.1[s.1]?.bind Cell.rd, s.2⟩])
def slipsRun (nm : Str) (k : Nat) (a : List Cell × List Note) (ss : List (Nat × Str)) : List Cell × List Note := ss.foldl (slipStep nm k) a
def takes (o c : Cell) : Bool := decide (o.rd ≠ none ∧ o.rd ≠ c.rd)
def mtchAt (os : List Cell) (nm : Str) (f l : Nat) (i : Nat) (c : Cell) : Cell :=
  if f ≤ i ∧ i < l then (match os[i]? with
    | some o => if takes o c then matchC c nm o else c
    | none => c) else c
def loseAt (f l : Nat) (i : Nat) (c : Cell) : Cell := if f ≤ i ∧ i < l ∧ c.rd ≠ none then lostC c else c

/-- the book behind a deed, and what is noted -/
def after (bk : Str → List Cell) (k : Nat) : Deed → List Cell × List Note
  | .write nm row => (row.map (risen nm k), [])
  | .copy nm parts slips => slipsRun nm k (copyBase bk nm parts, []) slips
  | .mend nm pl rd => ((bk nm).modify pl (fun c => mendC c nm k rd), [⟨k, nm, pl, (bk nm)[pl]?.bind Cell.rd, rd⟩])
  | .mtch nm md f l => ((bk nm).mapIdx (mtchAt (bk md) nm f l), [])
  | .lose nm f l => ((bk nm).mapIdx (loseAt f l), [])

def app (h : Hs) (d : Deed) : Hs where
  order := if d.makes then h.order ++ [d.nm] else h.order
  bk := fun n => if n = d.nm then (after h.bk h.cnt d).1 else h.bk n
  notes := h.notes ++ (after h.bk h.cnt d).2
  cnt := h.cnt + 1

/-! ### validity -/
def isLetters (s : Str) : Prop := ∀ c ∈ s.cps.toList, 97 ≤ c ∧ c ≤ 122
def isReading (s : Str) : Prop := s.length ≤ 8 ∧ isLetters s
def isName (s : Str) : Prop := isReading s ∧ s.length ≠ 0

/-- parts from begin to the end -/
def partsOk (n : Nat) : Nat → List (Str × Nat × Nat) → Prop
  | b, [] => b = n
  | b, p :: r => isName p.1 ∧ p.2.1 = b ∧ b < p.2.2 ∧ p.2.2 ≤ n ∧ partsOk n p.2.2 r
def slipsOk (n : Nat) (cs : List Cell) : Nat → List (Nat × Str) → Prop
  | _, [] => True
  | b, s :: r => b ≤ s.1 ∧ s.1 < n ∧ isReading s.2 ∧ (∀ c, cs[s.1]? = some c → c.rd ≠ some s.2) ∧ slipsOk n cs (s.1 + 1) r

/-- what a deed asks of the books that it names -/
def Fits (n : Nat) (bk : Str → List Cell) : Deed → Prop
  | .write nm row => isName nm ∧ row.length = n ∧ ∀ r ∈ row, isReading r
  | .copy nm parts slips => isName nm ∧ partsOk n 0 parts ∧ slipsOk n (copyBase bk nm parts) 0 slips
  | .mend nm pl rd => isName nm ∧ pl < n ∧ isReading rd ∧ (∀ c, (bk nm)[pl]? = some c → c.rd ≠ some rd)
  | .mtch nm md f l => isName nm ∧ isName md ∧ f < l ∧ l ≤ n
  | .lose nm f l => isName nm ∧ f < l ∧ l ≤ n
structure Ok (n : Nat) (h : Hs) (d : Deed) : Prop where
  fits : Fits n h.bk d
  here : d.makes = false → d.nm ∈ h.order
  new : d.makes = true → d.nm ∉ h.order
  mods : ∀ m ∈ d.models, m ∈ h.order ∧ m ≠ d.nm
def run (h : Hs) (ds : List Deed) : Hs := ds.foldl app h
def Valid (n : Nat) : Hs → List Deed → Prop
  | _, [] => True
  | h, d :: r => Ok n h d ∧ Valid n (app h d) r
def init : Hs := ⟨[], fun _ => [], [], 0⟩
def tied (a b : Deed) : Prop := a.nm = b.nm ∨ a.nm ∈ b.models ∨ b.nm ∈ a.models

theorem valid_append (n : Nat) : ∀ (a : List Deed) (h : Hs) (b : List Deed), Valid n h (a ++ b) ↔ Valid n h a ∧ Valid n (run h a) b
  | [], h, b => by simp [Valid, run]
  | d :: a, h, b => by
    have ih := valid_append n a (app h d) b
    show (Ok n h d ∧ Valid n (app h d) (a ++ b)) ↔ (Ok n h d ∧ Valid n (app h d) a) ∧ Valid n (run (app h d) a) b
    rw [ih, and_assoc]
theorem run_append (h : Hs) (a b : List Deed) : run h (a ++ b) = run (run h a) b := List.foldl_append
theorem run_cnt : ∀ (ds : List Deed) (h : Hs), (run h ds).cnt = h.cnt + ds.length
  | [], h => rfl
  | d :: r, h => by
    show (run (app h d) r).cnt = _
    rw [run_cnt r]
    show h.cnt + 1 + r.length = _
    rw [List.length_cons]
    omega

/-! ### numbers mapped -/
def mapC (f : Nat → Nat) (c : Cell) : Cell := { c with src := c.src.map fun p => (p.1, f p.2) }
def mapN (f : Nat → Nat) (x : Note) : Note := { x with num := f x.num }
section
variable (f : Nat → Nat)
@[simp] theorem mapC_rd (c : Cell) : (mapC f c).rd = c.rd := rfl
@[simp] theorem mapC_st (c : Cell) : (mapC f c).st = c.st := rfl
@[simp] theorem mapC_came (c : Cell) : (mapC f c).came = c.came := rfl
theorem map_risen (nm k rd) : mapC f (risen nm k rd) = risen nm (f k) rd := rfl
theorem map_handed (nm c) : mapC f (handed nm c) = handed nm (mapC f c) := by
  obtain ⟨r, s, o, w⟩ := c
  cases r <;> rfl
theorem map_mendC (c nm k rd) : mapC f (mendC c nm k rd) = mendC (mapC f c) nm (f k) rd := rfl
theorem map_matchC (c nm o) : mapC f (matchC c nm o) = matchC (mapC f c) nm (mapC f o) := rfl
theorem map_lostC (c) : mapC f (lostC c) = lostC (mapC f c) := rfl
theorem map_stretch (bk p) : stretch (fun n => (bk n).map (mapC f)) p = (stretch bk p).map (mapC f) := by
  unfold stretch
  rw [List.map_take, List.map_drop]
theorem map_copyBase (bk nm parts) : copyBase (fun n => (bk n).map (mapC f)) nm parts = (copyBase bk nm parts).map (mapC f) := by
  unfold copyBase
  rw [List.map_flatMap]
  congr 1
  funext p
  rw [map_stretch, List.map_map, List.map_map]
  congr 1
  funext c
  exact (map_handed f nm c).symm
theorem map_rdAt (cs : List Cell) (i : Nat) : (cs.map (mapC f))[i]?.bind Cell.rd = cs[i]?.bind Cell.rd := by
  rw [List.getElem?_map]
  cases cs[i]? <;> rfl
theorem map_slipsRun (nm k) : ∀ (ss : List (Nat × Str)) (a : List Cell × List Note), slipsRun nm (f k) (a.1.map (mapC f), a.2.map (mapN f)) ss = ((slipsRun nm k a ss).1.map (mapC f), (slipsRun nm k a ss).2.map (mapN f))
  | [], a => rfl
  | s :: r, a => by
    have ih := map_slipsRun nm k r (slipStep nm k a s)
    show slipsRun nm (f k) (slipStep nm (f k) (a.1.map (mapC f), a.2.map (mapN f)) s) r = _
    have e : slipStep nm (f k) (a.1.map (mapC f), a.2.map (mapN f)) s = ((slipStep nm k a s).1.map (mapC f), (slipStep nm k a s).2.map (mapN f)) := by
      unfold slipStep
      simp only [map_rdAt, List.map_append, List.map_cons, List.map_nil, List.map_set, map_risen]
      rfl
    rw [e, ih]
    rfl
theorem map_mtchAt (os nm a b i c) : mapC f (mtchAt os nm a b i c) = mtchAt (os.map (mapC f)) nm a b i (mapC f c) := by
  unfold mtchAt
  by_cases h : a ≤ i ∧ i < b
  · rw [if_pos h, if_pos h, List.getElem?_map]
    cases os[i]? with
    | none => rfl
    | some o =>
      show mapC f (if takes o c = true then matchC c nm o else c) = (if takes (mapC f o) (mapC f c) = true then matchC (mapC f c) nm (mapC f o) else mapC f c)
      have e : takes (mapC f o) (mapC f c) = takes o c := rfl
      rw [e]
      cases takes o c <;> rfl
  · rw [if_neg h, if_neg h]
theorem map_loseAt (a b i c) : mapC f (loseAt a b i c) = loseAt a b i (mapC f c) := by
  unfold loseAt
  show mapC f (if a ≤ i ∧ i < b ∧ c.rd ≠ none then lostC c else c) = if a ≤ i ∧ i < b ∧ c.rd ≠ none then lostC (mapC f c) else mapC f c
  by_cases h : a ≤ i ∧ i < b ∧ c.rd ≠ none
  · rw [if_pos h, if_pos h]; rfl
  · rw [if_neg h, if_neg h]
theorem map_modify (cs : List Cell) (i : Nat) (g g' : Cell → Cell) (h : ∀ c, mapC f (g c) = g' (mapC f c)) : (cs.modify i g).map (mapC f) = (cs.map (mapC f)).modify i g' := by
  apply List.ext_getElem?
  intro j
  rw [List.getElem?_map, List.getElem?_modify, List.getElem?_modify, List.getElem?_map]
  cases cs[j]? with
  | none => rfl
  | some c =>
    show some (mapC f ((fun a => if i = j then g a else a) c)) = some ((fun a => if i = j then g' a else a) (mapC f c))
    by_cases e : i = j
    · simp only [if_pos e, h]
    · simp only [if_neg e]
theorem map_mapIdx (cs : List Cell) (g g' : Nat → Cell → Cell) (h : ∀ i c, mapC f (g i c) = g' i (mapC f c)) : (cs.mapIdx g).map (mapC f) = (cs.map (mapC f)).mapIdx g' := by
  apply List.ext_getElem?
  intro j
  rw [List.getElem?_map, List.getElem?_mapIdx, List.getElem?_mapIdx, List.getElem?_map]
  cases cs[j]? with
  | none => rfl
  | some c => exact congrArg some (h j c)
theorem map_after (bk k) (d : Deed) : after (fun n => (bk n).map (mapC f)) (f k) d = ((after bk k d).1.map (mapC f), (after bk k d).2.map (mapN f)) := by
  cases d with
  | write nm row =>
    show (row.map (risen nm (f k)), ([] : List Note)) = ((row.map (risen nm k)).map (mapC f), [])
    rw [List.map_map]
    rfl
  | copy nm parts slips =>
    show slipsRun nm (f k) (copyBase (fun n => (bk n).map (mapC f)) nm parts, []) slips = _
    rw [map_copyBase]
    exact map_slipsRun f nm k slips (copyBase bk nm parts, [])
  | mend nm pl rd =>
    show (((bk nm).map (mapC f)).modify pl (fun c => mendC c nm (f k) rd), [(⟨f k, nm, pl, ((bk nm).map (mapC f))[pl]?.bind Cell.rd, rd⟩ : Note)]) = (((bk nm).modify pl (fun c => mendC c nm k rd)).map (mapC f), _)
    rw [map_rdAt, map_modify f (bk nm) pl (fun c => mendC c nm k rd) (fun c => mendC c nm (f k) rd) fun c => map_mendC f c nm k rd]
    rfl
  | mtch nm md a b =>
    show (((bk nm).map (mapC f)).mapIdx (mtchAt ((bk md).map (mapC f)) nm a b), ([] : List Note)) = (((bk nm).mapIdx (mtchAt (bk md) nm a b)).map (mapC f), [])
    rw [map_mapIdx f (bk nm) _ _ fun i c => map_mtchAt f (bk md) nm a b i c]
  | lose nm a b =>
    show (((bk nm).map (mapC f)).mapIdx (loseAt a b), ([] : List Note)) = (((bk nm).mapIdx (loseAt a b)).map (mapC f), [])
    rw [map_mapIdx f (bk nm) _ _ fun i c => map_loseAt f a b i c]
/-- what is asked of readings alone -/
theorem slipsOk_map (n : Nat) (cs : List Cell) : ∀ (ss : List (Nat × Str)) (b : Nat), slipsOk n cs b ss → slipsOk n (cs.map (mapC f)) b ss
  | [], _, _ => trivial
  | s :: r, b, ⟨h1, h2, h3, h4, h5⟩ => ⟨h1, h2, h3, fun c e => by
      rw [List.getElem?_map] at e
      cases q : cs[s.1]? with
      | none => rw [q] at e; cases e
      | some c0 =>
        rw [q] at e
        have e2 : mapC f c0 = c := Option.some.inj e
        rw [← e2]
        exact h4 c0 q, slipsOk_map n cs r _ h5⟩
theorem fits_map {n : Nat} {bk : Str → List Cell} {d : Deed} (h : Fits n bk d) : Fits n (fun m => (bk m).map (mapC f)) d := by
  cases d with
  | write => exact h
  | copy nm parts slips =>
    obtain ⟨h1, h2, h3⟩ := h
    refine ⟨h1, h2, ?_⟩
    rw [map_copyBase]
    exact slipsOk_map f n _ _ _ h3
  | mend nm pl rd =>
    obtain ⟨h1, h2, h3, h4⟩ := h
    refine ⟨h1, h2, h3, fun c e => ?_⟩
    have e1 : ((bk nm).map (mapC f))[pl]? = some c := e
    rw [List.getElem?_map] at e1
    cases q : (bk nm)[pl]? with
    | none => rw [q] at e1; cases e1
    | some c0 =>
      rw [q] at e1
      have e2 : mapC f c0 = c := Option.some.inj e1
      rw [← e2]
      exact h4 c0 q
  | mtch => exact h
  | lose => exact h
end

/-! ### only what is named is asked -/
theorem copyBase_congr {bk bk' : Str → List Cell} (nm : Str) : ∀ (parts : List (Str × Nat × Nat)), (∀ m ∈ parts.map (·.1), bk' m = bk m) → copyBase bk' nm parts = copyBase bk nm parts
  | [], _ => rfl
  | p :: r, h => by
    have ih := copyBase_congr nm r fun m hm => h m (List.mem_cons_of_mem _ hm)
    have e : bk' p.1 = bk p.1 := h _ List.mem_cons_self
    show (stretch bk' p).map (handed nm) ++ copyBase bk' nm r = (stretch bk p).map (handed nm) ++ copyBase bk nm r
    rw [ih]
    unfold stretch
    rw [e]
/-- a deed that makes a book does not ask what stood in it -/
theorem after_congr {bk bk' : Str → List Cell} (k : Nat) (d : Deed) (h1 : d.makes = false → bk' d.nm = bk d.nm) (h2 : ∀ m ∈ d.models, bk' m = bk m) : after bk' k d = after bk k d := by
  cases d with
  | write => rfl
  | copy nm parts slips =>
    show slipsRun nm k (copyBase bk' nm parts, []) slips = slipsRun nm k (copyBase bk nm parts, []) slips
    rw [copyBase_congr nm parts h2]
  | mend nm pl rd =>
    have e : bk' nm = bk nm := h1 rfl
    show ((bk' nm).modify pl _, [(⟨k, nm, pl, (bk' nm)[pl]?.bind Cell.rd, rd⟩ : Note)]) = _
    rw [e]
    rfl
  | mtch nm md a b =>
    have e : bk' nm = bk nm := h1 rfl
    have e2 : bk' md = bk md := h2 md List.mem_cons_self
    show ((bk' nm).mapIdx (mtchAt (bk' md) nm a b), ([] : List Note)) = _
    rw [e, e2]
    rfl
  | lose nm a b =>
    have e : bk' nm = bk nm := h1 rfl
    show ((bk' nm).mapIdx (loseAt a b), ([] : List Note)) = _
    rw [e]
    rfl
theorem fits_congr {n : Nat} {bk bk' : Str → List Cell} (d : Deed) (h1 : d.makes = false → bk' d.nm = bk d.nm) (h2 : ∀ m ∈ d.models, bk' m = bk m) (h : Fits n bk d) : Fits n bk' d := by
  cases d with
  | write => exact h
  | copy nm parts slips =>
    obtain ⟨a, b, c⟩ := h
    refine ⟨a, b, ?_⟩
    rw [copyBase_congr nm parts h2]
    exact c
  | mend nm pl rd =>
    obtain ⟨a, b, c, d⟩ := h
    have e : bk' nm = bk nm := h1 rfl
    refine ⟨a, b, c, ?_⟩
    rw [e]
    exact d
  | mtch => exact h
  | lose => exact h
end K69

/-! Exchanged neighbours: the same books, by numbers exchanged. -/
namespace K69
open PySem

/-- numbers at and at + 1 exchanged -/
def sw (at_ n : Nat) : Nat := if n = at_ then at_ + 1 else if n = at_ + 1 then at_ else n
theorem sw_lt {a n : Nat} (h : n < a) : sw a n = n := by
  unfold sw
  rw [if_neg (by omega), if_neg (by omega)]
theorem sw_gt {a n : Nat} (h : a + 1 < n) : sw a n = n := by
  unfold sw
  rw [if_neg (by omega), if_neg (by omega)]
theorem sw_at (a : Nat) : sw a a = a + 1 := if_pos rfl
theorem sw_at1 (a : Nat) : sw a (a + 1) = a := by
  unfold sw
  rw [if_neg (by omega), if_pos rfl]

/-! ### what holds of every house -/
structure Wf (n : Nat) (h : Hs) : Prop where
  nums : ∀ m, ∀ c ∈ h.bk m, ∀ p, c.src = some p → p.2 < h.cnt
  sizes : ∀ m, ∀ c ∈ h.bk m, c.st.length ≤ h.cnt + 1 ∧ c.came.length ≤ h.cnt + 1
  notes : h.notes.Pairwise (fun a b => a.num ≤ b.num)
  noteN : ∀ x ∈ h.notes, x.num < h.cnt
  long : ∀ m ∈ h.order, (h.bk m).length = n
  few : h.order.length ≤ h.cnt
  once : h.order.Nodup
  names : ∀ m ∈ h.order, isName m
theorem wf_init (n : Nat) : Wf n init := ⟨(fun _ _ hc => nomatch hc), (fun _ _ hc => nomatch hc), .nil, (fun _ hc => nomatch hc), (fun _ hc => nomatch hc), Nat.le_refl _, .nil, (fun _ hc => nomatch hc)⟩

/-- a cell that a deed may leave, its number k -/
structure CellB (k : Nat) (c : Cell) : Prop where
  num : ∀ p, c.src = some p → p.2 < k
  st : c.st.length ≤ k + 1
  came : c.came.length ≤ k + 1
theorem CellB.mono {k : Nat} {c : Cell} (h : CellB k c) : CellB (k + 1) c := ⟨fun p e => Nat.lt_succ_of_lt (h.num p e), Nat.le_succ_of_le h.st, Nat.le_succ_of_le h.came⟩
theorem cellB_risen (nm k rd) : CellB (k + 1) (risen nm k rd) := ⟨fun p e => by cases e; exact Nat.lt_succ_self _, by show 1 ≤ _; omega, by show 1 ≤ _; omega⟩
theorem cellB_handed {nm k c} (h : CellB k c) : CellB (k + 1) (handed nm c) := by
  obtain ⟨h1, h2, h3⟩ := h
  obtain ⟨r, s, o, w⟩ := c
  cases r with
  | none => exact ⟨fun p e => (nomatch e), by show 1 ≤ _; omega, by show 0 ≤ _; omega⟩
  | some r => exact ⟨fun p e => Nat.lt_succ_of_lt (h1 p e), by show 1 ≤ _; omega, by
      show (nm :: w).length ≤ _
      have : w.length ≤ k + 1 := h3
      rw [List.length_cons]; omega⟩
theorem cellB_mendC {nm k c rd} (h : CellB k c) : CellB (k + 1) (mendC c nm k rd) := ⟨fun p e => by cases e; exact Nat.lt_succ_self _, by
    show (c.st ++ [some rd]).length ≤ _
    have := h.st
    rw [List.length_append, List.length_singleton]; omega, by show 1 ≤ _; omega⟩
theorem cellB_matchC {nm k c o} (h : CellB k c) (h' : CellB k o) : CellB (k + 1) (matchC c nm o) := ⟨fun p e => Nat.lt_succ_of_lt (h'.num p e), by
    show (c.st ++ [o.rd]).length ≤ _
    have := h.st
    rw [List.length_append, List.length_singleton]; omega, by
    show (nm :: o.came).length ≤ _
    have := h'.came
    rw [List.length_cons]; omega⟩
theorem cellB_lostC {k c} (h : CellB k c) : CellB (k + 1) (lostC c) := ⟨fun p e => (nomatch e), by
    show (c.st ++ [none]).length ≤ _
    have := h.st
    rw [List.length_append, List.length_singleton]; omega, by show 0 ≤ _; omega⟩
def BkB (k : Nat) (bk : Str → List Cell) : Prop := ∀ m, ∀ c ∈ bk m, CellB k c
theorem Wf.bkB {n h} (w : Wf n h) : BkB h.cnt h.bk := fun m c hc => ⟨w.nums m c hc, (w.sizes m c hc).1, (w.sizes m c hc).2⟩
theorem copyBase_B {k bk} (h : BkB k bk) (nm parts) : ∀ c ∈ copyBase bk nm parts, CellB (k + 1) c := fun c hc => by
  unfold copyBase at hc
  obtain ⟨p, _, hc⟩ := List.mem_flatMap.mp hc
  obtain ⟨c0, h0, rfl⟩ := List.mem_map.mp hc
  exact cellB_handed (h p.1 c0 (List.mem_of_mem_drop (List.mem_of_mem_take h0)))
theorem slipsRun_B (nm k) : ∀ (ss : List (Nat × Str)) (a : List Cell × List Note), (∀ c ∈ a.1, CellB (k + 1) c) → ∀ c ∈ (slipsRun nm k a ss).1, CellB (k + 1) c
  | [], a, h => h
  | s :: r, a, h => slipsRun_B nm k r (slipStep nm k a s) fun c hc => by
      have hc2 : c ∈ a.1.set s.1 (risen nm k s.2) := hc
      rcases List.mem_or_eq_of_mem_set hc2 with h1 | h1
      · exact h c h1
      · rw [h1]; exact cellB_risen nm k s.2
theorem slipsRun_len (nm k) : ∀ (ss : List (Nat × Str)) (a : List Cell × List Note), (slipsRun nm k a ss).1.length = a.1.length
  | [], a => rfl
  | s :: r, a => (slipsRun_len nm k r (slipStep nm k a s)).trans List.length_set
theorem slipsRun_notes (nm k) : ∀ (ss : List (Nat × Str)) (a : List Cell × List Note), (∀ x ∈ a.2, x.num = k) → ∀ x ∈ (slipsRun nm k a ss).2, x.num = k
  | [], a, h => h
  | s :: r, a, h => slipsRun_notes nm k r (slipStep nm k a s) fun x hx => by
      have hx2 : x ∈ a.2 ++ [(⟨k, nm, s.1, a.1[s.1]?.bind Cell.rd, s.2⟩ : Note)] := hx
      rcases List.mem_append.mp hx2 with h1 | h1
      · exact h x h1
      · rw [List.mem_singleton.mp h1]
theorem mem_modify_B {k : Nat} {cs : List Cell} {i : Nat} {g : Cell → Cell} (h : ∀ c ∈ cs, CellB k c) (hg : ∀ c, CellB k c → CellB (k + 1) (g c)) : ∀ c ∈ cs.modify i g, CellB (k + 1) c := fun c hc => by
  obtain ⟨j, hj, e⟩ := List.mem_iff_getElem.mp hc
  have e2 : (cs.modify i g)[j]? = some c := by rw [List.getElem?_eq_getElem hj, e]
  rw [List.getElem?_modify] at e2
  cases q : cs[j]? with
  | none => rw [q] at e2; cases e2
  | some c0 =>
    rw [q] at e2
    have e3 : (if i = j then g c0 else c0) = c := Option.some.inj e2
    have m := h c0 (List.mem_of_getElem? q)
    by_cases z : i = j
    · rw [if_pos z] at e3; rw [← e3]; exact hg c0 m
    · rw [if_neg z] at e3; rw [← e3]; exact m.mono
theorem mem_mapIdx_B {k : Nat} {cs : List Cell} {g : Nat → Cell → Cell} (h : ∀ c ∈ cs, CellB k c) (hg : ∀ i c, CellB k c → CellB (k + 1) (g i c)) : ∀ c ∈ cs.mapIdx g, CellB (k + 1) c := fun c hc => by
  obtain ⟨j, hj, e⟩ := List.mem_iff_getElem.mp hc
  have e2 : (cs.mapIdx g)[j]? = some c := by rw [List.getElem?_eq_getElem hj, e]
  rw [List.getElem?_mapIdx] at e2
  cases q : cs[j]? with
  | none => rw [q] at e2; cases e2
  | some c0 =>
    rw [q] at e2
    have e3 : g j c0 = c := Option.some.inj e2
    rw [← e3]
    exact hg j c0 (h c0 (List.mem_of_getElem? q))
theorem after_B {k bk} (h : BkB k bk) (d : Deed) : ∀ c ∈ (after bk k d).1, CellB (k + 1) c := by
  cases d with
  | write nm row =>
    intro c hc
    obtain ⟨r, _, rfl⟩ := List.mem_map.mp (show c ∈ row.map (risen nm k) from hc)
    exact cellB_risen nm k r
  | copy nm parts slips => exact slipsRun_B nm k slips _ (copyBase_B h nm parts)
  | mend nm pl rd => exact mem_modify_B (h nm) fun c hc => cellB_mendC hc
  | mtch nm md a b =>
    refine mem_mapIdx_B (h nm) fun i c hc => ?_
    show CellB (k + 1) (mtchAt (bk md) nm a b i c)
    unfold mtchAt
    by_cases z : a ≤ i ∧ i < b
    · rw [if_pos z]
      cases q : (bk md)[i]? with
      | none => exact hc.mono
      | some o =>
        show CellB (k + 1) (if takes o c = true then matchC c nm o else c)
        cases takes o c with
        | false => exact hc.mono
        | true => exact cellB_matchC hc (h md o (List.mem_of_getElem? q))
    · rw [if_neg z]; exact hc.mono
  | lose nm a b =>
    refine mem_mapIdx_B (h nm) fun i c hc => ?_
    show CellB (k + 1) (loseAt a b i c)
    unfold loseAt
    by_cases z : a ≤ i ∧ i < b ∧ c.rd ≠ none
    · rw [if_pos z]; exact cellB_lostC hc
    · rw [if_neg z]; exact hc.mono
theorem after_num (bk k) (d : Deed) : ∀ x ∈ (after bk k d).2, x.num = k := by
  cases d with
  | write => exact fun _ hc => nomatch hc
  | copy nm parts slips => exact slipsRun_notes nm k slips _ fun _ hc => nomatch hc
  | mend nm pl rd =>
    intro x hx
    rw [List.mem_singleton.mp (show x ∈ [(⟨k, nm, pl, (bk nm)[pl]?.bind Cell.rd, rd⟩ : Note)] from hx)]
  | mtch => exact fun _ hc => nomatch hc
  | lose => exact fun _ hc => nomatch hc
theorem stretch_len {n : Nat} {bk : Str → List Cell} {p : Str × Nat × Nat} (hl : (bk p.1).length = n) (h1 : p.2.1 ≤ p.2.2) (h2 : p.2.2 ≤ n) : (stretch bk p).length = p.2.2 - p.2.1 := by
  unfold stretch
  rw [List.length_take, List.length_drop, hl]
  omega
theorem copyBase_len {n : Nat} {bk : Str → List Cell} (nm : Str) : ∀ (parts : List (Str × Nat × Nat)) (b : Nat), partsOk n b parts → (∀ m ∈ parts.map (·.1), (bk m).length = n) → (copyBase bk nm parts).length = n - b
  | [], b, h, _ => by
    have : b = n := h
    show 0 = _
    omega
  | p :: r, b, ⟨_, h1, h2, h3, h4⟩, hl => by
    have ih := copyBase_len nm r p.2.2 h4 fun m hm => hl m (List.mem_cons_of_mem _ hm)
    show ((stretch bk p).map (handed nm) ++ copyBase bk nm r).length = _
    rw [List.length_append, List.length_map, ih, stretch_len (hl _ List.mem_cons_self) (by omega) h3]
    have : p.2.2 ≤ n := h3
    omega
theorem partsOk_le {n : Nat} : ∀ {parts : List (Str × Nat × Nat)} {b : Nat}, partsOk n b parts → b ≤ n
  | [], b, h => by have : b = n := h; omega
  | p :: r, b, ⟨_, _, h2, h3, _⟩ => by omega
theorem after_len {n : Nat} {h : Hs} {d : Deed} (w : Wf n h) (o : Ok n h d) : (after h.bk h.cnt d).1.length = n := by
  cases d with
  | write nm row =>
    show (row.map (risen nm h.cnt)).length = n
    rw [List.length_map]
    exact o.fits.2.1
  | copy nm parts slips =>
    show (slipsRun nm h.cnt (copyBase h.bk nm parts, []) slips).1.length = n
    rw [slipsRun_len]
    exact copyBase_len nm parts 0 o.fits.2.1 fun m hm => w.long m (o.mods m hm).1
  | mend nm pl rd =>
    show ((h.bk nm).modify pl _).length = n
    rw [List.length_modify]
    exact w.long nm (o.here rfl)
  | mtch nm md a b =>
    show ((h.bk nm).mapIdx _).length = n
    rw [List.length_mapIdx]
    exact w.long nm (o.here rfl)
  | lose nm a b =>
    show ((h.bk nm).mapIdx _).length = n
    rw [List.length_mapIdx]
    exact w.long nm (o.here rfl)
theorem fits_name {n bk d} (h : Fits n bk d) : isName d.nm := by
  cases d <;> exact h.1
theorem app_bk (h : Hs) (d : Deed) (m : Str) : (app h d).bk m = if m = d.nm then (after h.bk h.cnt d).1 else h.bk m := rfl
theorem app_order (h : Hs) (d : Deed) : (app h d).order = if d.makes then h.order ++ [d.nm] else h.order := rfl
theorem app_mem {n h d} (o : Ok n h d) (m : Str) : m ∈ (app h d).order ↔ m ∈ h.order ∨ m = d.nm := by
  rw [app_order]
  cases e : d.makes with
  | true => rw [if_pos rfl, List.mem_append, List.mem_singleton]
  | false =>
    rw [if_neg Bool.false_ne_true]
    exact ⟨.inl, fun z => z.elim id fun q => q ▸ o.here e⟩
theorem nodup_snoc {α : Type} {l : List α} {x : α} (h : l.Nodup) (hx : x ∉ l) : (l ++ [x]).Nodup := by
  rw [List.nodup_append]
  refine ⟨h, List.pairwise_singleton _ x, ?_⟩
  intro a ha b hb e
  rw [List.mem_singleton.mp hb] at e
  exact hx (e ▸ ha)
theorem wf_app {n : Nat} {h : Hs} {d : Deed} (w : Wf n h) (o : Ok n h d) : Wf n (app h d) := by
  have cb : ∀ m, ∀ c ∈ (app h d).bk m, CellB (h.cnt + 1) c := fun m c hc => by
    rw [app_bk] at hc
    by_cases z : m = d.nm
    · rw [if_pos z] at hc
      exact after_B w.bkB d c hc
    · rw [if_neg z] at hc
      exact (w.bkB m c hc).mono
  refine ⟨fun m c hc => (cb m c hc).num, fun m c hc => ⟨(cb m c hc).st, (cb m c hc).came⟩, ?_, ?_, ?_, ?_, ?_, ?_⟩
  · show (h.notes ++ (after h.bk h.cnt d).2).Pairwise _
    rw [List.pairwise_append]
    refine ⟨w.notes, ?_, fun a ha b hb => ?_⟩
    · refine List.Pairwise.imp_of_mem ?_ (List.pairwise_of_forall (R := fun _ _ => True) fun _ _ => trivial)
      intro a b ha hb _
      rw [after_num _ _ d a ha, after_num _ _ d b hb]
      exact Nat.le_refl _
    · rw [after_num _ _ d b hb]
      exact Nat.le_of_lt (w.noteN a ha)
  · intro x hx
    show x.num < h.cnt + 1
    rcases List.mem_append.mp (show x ∈ h.notes ++ (after h.bk h.cnt d).2 from hx) with h1 | h1
    · exact Nat.lt_succ_of_lt (w.noteN x h1)
    · rw [after_num _ _ d x h1]; exact Nat.lt_succ_self _
  · intro m hm
    rw [app_bk]
    by_cases z : m = d.nm
    · rw [if_pos z]; exact after_len w o
    · rw [if_neg z]
      exact w.long m (((app_mem o m).mp hm).resolve_right z)
  · show (if d.makes = true then h.order ++ [d.nm] else h.order).length ≤ h.cnt + 1
    have := w.few
    cases d.makes with
    | true => rw [if_pos rfl, List.length_append, List.length_singleton]; omega
    | false => rw [if_neg Bool.false_ne_true]; omega
  · rw [app_order]
    cases e : d.makes with
    | true => rw [if_pos rfl]; exact nodup_snoc w.once (o.new e)
    | false => rw [if_neg Bool.false_ne_true]; exact w.once
  · intro m hm
    rcases (app_mem o m).mp hm with h1 | h1
    · exact w.names m h1
    · rw [h1]; exact fits_name o.fits
theorem wf_run {n : Nat} : ∀ (ds : List Deed) (h : Hs), Wf n h → Valid n h ds → Wf n (run h ds)
  | [], h, w, _ => w
  | d :: r, h, w, v => wf_run r (app h d) (wf_app w v.1) v.2

/-! ### alike, but for numbers -/
structure Alike (a : Nat) (h h' : Hs) : Prop where
  order : h'.order.Perm h.order
  bk : ∀ m, h'.bk m = (h.bk m).map (mapC (sw a))
  notes : ∀ k, h'.notes.filter (fun x => x.num == k) = (h.notes.map (mapN (sw a))).filter (fun x => x.num == k)
  cnt : h'.cnt = h.cnt
theorem map_same {α : Type} {g : α → α} : ∀ {l : List α}, (∀ x ∈ l, g x = x) → l.map g = l
  | [], _ => rfl
  | x :: r, h => by
    rw [List.map_cons, h x List.mem_cons_self, map_same fun y hy => h y (List.mem_cons_of_mem _ hy)]
theorem mapC_lt {a : Nat} {c : Cell} (h : ∀ p, c.src = some p → p.2 < a) : mapC (sw a) c = c := by
  obtain ⟨r, s, o, w⟩ := c
  cases o with
  | none => rfl
  | some p =>
    have e : sw a p.2 = p.2 := sw_lt (h p rfl)
    show (⟨r, s, some (p.1, sw a p.2), w⟩ : Cell) = _
    rw [e]
theorem mapN_lt {a : Nat} {x : Note} (h : x.num < a) : mapN (sw a) x = x := by
  obtain ⟨n, m, p, b, q⟩ := x
  show (⟨sw a n, m, p, b, q⟩ : Note) = _
  rw [sw_lt (show n < a from h)]
/-- the books of a house whose numbers lie below at stand as they are -/
theorem bk_lt {n : Nat} {h : Hs} (w : Wf n h) (m : Str) : (h.bk m).map (mapC (sw h.cnt)) = h.bk m := map_same fun c hc => mapC_lt (w.nums m c hc)
theorem bk_ltF {n : Nat} {h : Hs} (w : Wf n h) : (fun m => (h.bk m).map (mapC (sw h.cnt))) = h.bk := funext (bk_lt w)

/-- a deed behind alike houses -/
theorem ok_alike {n a : Nat} {h h' : Hs} {d : Deed} (A : Alike a h h') (o : Ok n h d) : Ok n h' d := by
  have e : h'.bk = fun m => (h.bk m).map (mapC (sw a)) := funext A.bk
  refine ⟨?_, fun z => A.order.mem_iff.mpr (o.here z), fun z q => o.new z (A.order.mem_iff.mp q), fun m hm => ⟨A.order.mem_iff.mpr (o.mods m hm).1, (o.mods m hm).2⟩⟩
  rw [e]
  exact fits_map _ o.fits
theorem filter_none {α : Type} {p : α → Bool} {l : List α} (h : ∀ x ∈ l, p x = false) : l.filter p = [] := List.filter_eq_nil_iff.mpr fun x hx => by rw [h x hx]; exact Bool.false_ne_true
theorem app_alike {n a : Nat} {h h' : Hs} {d : Deed} (A : Alike a h h') (hc : a + 1 < h.cnt) : Alike a (app h d) (app h' d) := by
  have e : h'.bk = fun m => (h.bk m).map (mapC (sw a)) := funext A.bk
  have ec : h'.cnt = sw a h.cnt := by rw [sw_gt hc]; exact A.cnt
  have ea : after h'.bk h'.cnt d = ((after h.bk h.cnt d).1.map (mapC (sw a)), (after h.bk h.cnt d).2.map (mapN (sw a))) := by
    rw [e, ec]
    exact map_after (sw a) h.bk h.cnt d
  refine ⟨?_, fun m => ?_, fun k => ?_, ?_⟩
  · rw [app_order, app_order]
    cases d.makes with
    | true => rw [if_pos rfl, if_pos rfl]; exact A.order.append_right _
    | false => rw [if_neg Bool.false_ne_true, if_neg Bool.false_ne_true]; exact A.order
  · rw [app_bk, app_bk, ea]
    by_cases z : m = d.nm
    · rw [if_pos z, if_pos z]
    · rw [if_neg z, if_neg z]; exact A.bk m
  · show (h'.notes ++ (after h'.bk h'.cnt d).2).filter _ = ((h.notes ++ (after h.bk h.cnt d).2).map (mapN (sw a))).filter _
    rw [List.filter_append, List.map_append, List.filter_append, A.notes k, ea]
  · show h'.cnt + 1 = h.cnt + 1
    rw [A.cnt]
theorem run_alike {n a : Nat} : ∀ (ds : List Deed) {h h' : Hs}, Alike a h h' → a + 1 < h.cnt → Valid n h ds → Valid n h' ds ∧ Alike a (run h ds) (run h' ds)
  | [], _, _, A, _, _ => ⟨trivial, A⟩
  | d :: r, h, h', A, hc, v => by
    have A2 : Alike a (app h d) (app h' d) := app_alike (n := n) A hc
    have ih := run_alike r A2 (by show a + 1 < h.cnt + 1; omega) v.2
    exact ⟨⟨ok_alike A v.1, ih.1⟩, ih.2⟩

/-! ### the two themselves -/
theorem app_bk_ne (h : Hs) (d : Deed) {m : Str} (e : m ≠ d.nm) : (app h d).bk m = h.bk m := if_neg e
/-- what a deed makes behind an untied one is what it makes ahead of it -/
theorem after_untied {h : Hs} {d e : Deed} (k : Nat) (h1 : e.nm ≠ d.nm) (h2 : d.nm ∉ e.models) : after (app h d).bk k e = after h.bk k e :=
  after_congr k e (fun _ => app_bk_ne h d h1) fun m hm => app_bk_ne h d fun z => h2 (z ▸ hm)
theorem swap_two {n : Nat} {h : Hs} {d e : Deed} (w : Wf n h) (od : Ok n h d) (oe : Ok n (app h d) e) (nt : ¬ tied d e) :
    Ok n h e ∧ Ok n (app h e) d ∧ Alike h.cnt (app (app h d) e) (app (app h e) d) := by
  have n1 : d.nm ≠ e.nm := fun z => nt (.inl z)
  have n2 : d.nm ∉ e.models := fun z => nt (.inr (.inl z))
  have n3 : e.nm ∉ d.models := fun z => nt (.inr (.inr z))
  have oe' : Ok n h e := by
    refine ⟨fits_congr e (fun _ => (app_bk_ne h d n1.symm).symm) (fun m hm => (app_bk_ne h d fun z => n2 (z ▸ hm)).symm) oe.fits, fun z => ?_, fun z q => ?_, fun m hm => ?_⟩
    · exact ((app_mem od e.nm).mp (oe.here z)).resolve_right n1.symm
    · exact oe.new z ((app_mem od e.nm).mpr (.inl q))
    · obtain ⟨a, b⟩ := oe.mods m hm
      exact ⟨((app_mem od m).mp a).resolve_right fun z => n2 (z ▸ hm), b⟩
  have od' : Ok n (app h e) d := by
    refine ⟨fits_congr d (fun _ => app_bk_ne h e n1) (fun m hm => app_bk_ne h e fun z => n3 (z ▸ hm)) od.fits, fun z => ?_, fun z q => ?_, fun m hm => ?_⟩
    · exact (app_mem oe' d.nm).mpr (.inl (od.here z))
    · exact od.new z (((app_mem oe' d.nm).mp q).resolve_right n1)
    · obtain ⟨a, b⟩ := od.mods m hm
      exact ⟨(app_mem oe' m).mpr (.inl a), b⟩
  refine ⟨oe', od', ?_⟩
  -- what they make, by their numbers
  have ad : after (app h e).bk (h.cnt + 1) d = ((after h.bk h.cnt d).1.map (mapC (sw h.cnt)), (after h.bk h.cnt d).2.map (mapN (sw h.cnt))) := by
    rw [after_untied (h.cnt + 1) n1 n3, ← map_after, bk_ltF w, sw_at]
  have ae : after (app h d).bk (h.cnt + 1) e = after h.bk (h.cnt + 1) e := after_untied (h.cnt + 1) n1.symm n2
  have ae2 : after h.bk h.cnt e = ((after h.bk (h.cnt + 1) e).1.map (mapC (sw h.cnt)), (after h.bk (h.cnt + 1) e).2.map (mapN (sw h.cnt))) := by
    rw [← map_after, bk_ltF w, sw_at1]
  refine ⟨?_, fun m => ?_, fun k => ?_, rfl⟩
  · rw [app_order, app_order, app_order, app_order]
    cases d.makes <;> cases e.makes
    · exact List.Perm.refl _
    · exact List.Perm.refl _
    · exact List.Perm.refl _
    · show ((h.order ++ [e.nm]) ++ [d.nm]).Perm ((h.order ++ [d.nm]) ++ [e.nm])
      rw [List.append_assoc, List.append_assoc]
      exact List.Perm.append_left _ (List.Perm.swap _ _ _)
  · show (if m = d.nm then (after (app h e).bk (h.cnt + 1) d).1 else (app h e).bk m) = (if m = e.nm then (after (app h d).bk (h.cnt + 1) e).1 else (app h d).bk m).map _
    by_cases z : m = d.nm
    · have z2 : ¬ m = e.nm := fun q => n1 (z.symm.trans q)
      rw [if_pos z, if_neg z2, ad, app_bk, if_pos z]
    · rw [if_neg z, app_bk]
      by_cases z2 : m = e.nm
      · rw [if_pos z2, if_pos z2, ae, ae2]
      · rw [if_neg z2, if_neg z2, app_bk, if_neg z]
        exact (bk_lt w m).symm
  · show ((h.notes ++ (after h.bk h.cnt e).2) ++ (after (app h e).bk (h.cnt + 1) d).2).filter (fun x => x.num == k) = (((h.notes ++ (after h.bk h.cnt d).2) ++ (after (app h d).bk (h.cnt + 1) e).2).map (mapN (sw h.cnt))).filter (fun x => x.num == k)
    have en : h.notes.map (mapN (sw h.cnt)) = h.notes := map_same fun x hx => mapN_lt (w.noteN x hx)
    rw [List.map_append, List.map_append, en, List.filter_append, List.filter_append, List.filter_append, List.filter_append, ad, ae, ae2]
    -- the two new parts have one number each
    have q1 : ∀ x ∈ (after h.bk h.cnt d).2.map (mapN (sw h.cnt)), x.num = h.cnt + 1 := fun x hx => by
      obtain ⟨y, hy, rfl⟩ := List.mem_map.mp hx
      show sw h.cnt y.num = _
      rw [after_num _ _ d y hy, sw_at]
    have q2 : ∀ x ∈ (after h.bk (h.cnt + 1) e).2.map (mapN (sw h.cnt)), x.num = h.cnt := fun x hx => by
      obtain ⟨y, hy, rfl⟩ := List.mem_map.mp hx
      show sw h.cnt y.num = _
      rw [after_num _ _ e y hy, sw_at1]
    by_cases z : k = h.cnt
    · have r1 : ((after h.bk h.cnt d).2.map (mapN (sw h.cnt))).filter (fun x => x.num == k) = [] := filter_none fun x hx => by
        rw [q1 x hx, z]
        exact beq_false_of_ne (by omega)
      rw [r1, List.append_nil, List.append_nil]
    · have r2 : ((after h.bk (h.cnt + 1) e).2.map (mapN (sw h.cnt))).filter (fun x => x.num == k) = [] := filter_none fun x hx => by
        rw [q2 x hx]
        exact beq_false_of_ne fun q => z q.symm
      rw [r2, List.append_nil, List.append_nil]

/-! ### the law -/
theorem exchange {n : Nat} {A B : List Deed} {d e : Deed} (v : Valid n init (A ++ d :: e :: B)) (nt : ¬ tied d e) :
    Valid n init (A ++ e :: d :: B) ∧ Alike A.length (run init (A ++ d :: e :: B)) (run init (A ++ e :: d :: B)) := by
  obtain ⟨vA, vd, ve, vB⟩ := (valid_append n A init (d :: e :: B)).mp v
  have w := wf_run A init (wf_init n) vA
  have ec : (run init A).cnt = A.length := by rw [run_cnt]; exact Nat.zero_add _
  obtain ⟨oe, od, al⟩ := swap_two w vd ve nt
  rw [ec] at al
  obtain ⟨v2, al2⟩ := run_alike (n := n) B al (by show A.length + 1 < (run init A).cnt + 1 + 1; rw [ec]; omega) vB
  refine ⟨(valid_append n A init (e :: d :: B)).mpr ⟨vA, oe, od, v2⟩, ?_⟩
  rw [run_append, run_append]
  exact al2

/-! ### the notes, number by number -/
def renum (a : Nat) (ns : List Note) : List Note := (List.range 30).flatMap fun k => (ns.map (mapN (sw a))).filter (fun x => x.num == k)
theorem filter_split (m : Nat) : ∀ (l : List Note), l.Pairwise (fun a b => a.num ≤ b.num) → (∀ x ∈ l, x.num < m + 1) → l = l.filter (fun x => decide (x.num < m)) ++ l.filter (fun x => x.num == m)
  | [], _, _ => rfl
  | x :: r, h, hm => by
    obtain ⟨h1, h2⟩ := List.pairwise_cons.mp h
    have ih := filter_split m r h2 fun y hy => hm y (List.mem_cons_of_mem _ hy)
    by_cases z : x.num < m
    · have e1 : (x :: r).filter (fun x => decide (x.num < m)) = x :: r.filter (fun x => decide (x.num < m)) := List.filter_cons_of_pos (by exact decide_eq_true z)
      have e2 : (x :: r).filter (fun x => x.num == m) = r.filter (fun x => x.num == m) := List.filter_cons_of_neg (by simp; omega)
      rw [e1, e2, List.cons_append, ← ih]
    · have em : x.num = m := by have := hm x List.mem_cons_self; omega
      have e1 : r.filter (fun x => decide (x.num < m)) = [] := filter_none fun y hy => decide_eq_false (by have := h1 y hy; omega)
      have e2 : (x :: r).filter (fun x => decide (x.num < m)) = r.filter (fun x => decide (x.num < m)) := List.filter_cons_of_neg (by simp; omega)
      have e3 : (x :: r).filter (fun x => x.num == m) = x :: r.filter (fun x => x.num == m) := List.filter_cons_of_pos (by simp [em])
      rw [e2, e3, e1, List.nil_append]
      rw [e1, List.nil_append] at ih
      rw [← ih]
theorem buckets : ∀ (m : Nat) (l : List Note), l.Pairwise (fun a b => a.num ≤ b.num) → (∀ x ∈ l, x.num < m) → ((List.range m).flatMap fun k => l.filter (fun x => x.num == k)) = l
  | 0, l, _, h => by
    cases l with
    | nil => rfl
    | cons x r => exact absurd (h x List.mem_cons_self) (Nat.not_lt_zero _)
  | m + 1, l, hp, h => by
    rw [List.range_succ, List.flatMap_append]
    have e := filter_split m l hp h
    have ih := buckets m (l.filter (fun x => decide (x.num < m))) (hp.filter _) fun x hx => of_decide_eq_true (List.mem_filter.mp hx).2
    have e2 : ((List.range m).flatMap fun k => l.filter (fun x => x.num == k)) = ((List.range m).flatMap fun k => (l.filter (fun x => decide (x.num < m))).filter (fun x => x.num == k)) := by
      rw [List.flatMap_def, List.flatMap_def]
      congr 1
      apply List.map_congr_left
      intro k hk
      have hk := List.mem_range.mp hk
      rw [List.filter_filter]
      apply List.filter_congr
      intro x _
      by_cases q : x.num = k
      · rw [q]; simp [hk]
      · simp [q]
    rw [e2, ih]
    have e3 : ([m].flatMap fun k => l.filter (fun x => x.num == k)) = l.filter (fun x => x.num == m) := by simp
    rw [e3]
    exact e.symm
theorem renum_alike {n a : Nat} {h h' : Hs} (A : Alike a h h') (w : Wf n h') (hc : h'.cnt ≤ 30) : renum a h.notes = h'.notes := by
  unfold renum
  have e : (fun k => (h.notes.map (mapN (sw a))).filter (fun x => x.num == k)) = fun k => h'.notes.filter (fun x => x.num == k) := funext fun k => (A.notes k).symm
  rw [e]
  exact buckets 30 h'.notes w.notes fun x hx => Nat.lt_of_lt_of_le (w.noteN x hx) hc
end K69

set_option maxRecDepth 100000
/-! The text by places; what the head is asked. Printed by gen/text.py. -/
namespace K69
open PySem L2
def top (i : Nat) : Stmt := PySem.Challenge.pw_copystem_k69_whole_either_order.main.body.getD i (.Pass ⟨0, 0, 0, 0⟩)
abbrev sD_is_number : Stmt := top 11
abbrev sD_is_within : Stmt := top 12
abbrev sD_are_letters : Stmt := top 13
abbrev sD_is_reading : Stmt := top 14
abbrev sD_is_name : Stmt := top 15
abbrev sD_is_stretch : Stmt := top 17
abbrev sD_is_full_row : Stmt := top 18
abbrev sD_are_parts : Stmt := top 19
abbrev sD_are_slips : Stmt := top 20
abbrev sD_is_making : Stmt := top 21
abbrev sD_is_changing : Stmt := top 22
abbrev sD_is_deed : Stmt := top 23
abbrev sD_makes : Stmt := top 24
abbrev sD_models_of : Stmt := top 25
abbrev sD_are_tied : Stmt := top 26
abbrev sD_Cell___init__ : Stmt := inClass (top 28) 0
abbrev sD_Cell_put : Stmt := inClass (top 28) 1
abbrev sD_Cell_mended : Stmt := inClass (top 28) 2
abbrev sD_Cell_matched : Stmt := inClass (top 28) 3
abbrev sD_Cell_lost : Stmt := inClass (top 28) 4
abbrev sD_risen : Stmt := top 29
abbrev sD_handed_on : Stmt := top 30
abbrev sD_Done___init__ : Stmt := inClass (top 34) 0
abbrev sD_House___init__ : Stmt := inClass (top 35) 0
abbrev sD_House_do : Stmt := inClass (top 35) 1
abbrev sD_House_look_at_books : Stmt := inClass (top 35) 2
abbrev sD_House_changes_of : Stmt := inClass (top 35) 3
abbrev sD_House_written : Stmt := inClass (top 35) 4
abbrev sD_House_copied : Stmt := inClass (top 35) 5
abbrev sD_House_mended : Stmt := inClass (top 35) 6
abbrev sD_House_matched : Stmt := inClass (top 35) 7
abbrev sD_House_lost : Stmt := inClass (top 35) 8
abbrev sD_House_put_all : Stmt := inClass (top 35) 9
abbrev sD_House_deeds : Stmt := inClass (top 35) 11
abbrev sD_House_names : Stmt := inClass (top 35) 12
abbrev sD_House_slips : Stmt := inClass (top 35) 13
abbrev sD_House_cells_of : Stmt := inClass (top 35) 14
abbrev sD_House_book : Stmt := inClass (top 35) 15
abbrev sD_House_hands : Stmt := inClass (top 35) 16
abbrev sD_House_arose : Stmt := inClass (top 35) 17
abbrev sD_House_way : Stmt := inClass (top 35) 18
abbrev sD_exchanged : Stmt := top 37
abbrev sD_played : Stmt := top 38
abbrev sD_law_next : Stmt := top 40
abbrev sD_law_word : Stmt := top 41
abbrev sD_law_words : Stmt := top 42
abbrev sD_law_reading : Stmt := top 43
abbrev sD_law_copy : Stmt := top 44
abbrev sD_law_deed : Stmt := top 45
abbrev sD_law_handed : Stmt := top 46
abbrev sD_law_copied : Stmt := top 47
abbrev sD_law_walk : Stmt := top 48
abbrev sD_law_same : Stmt := top 49
abbrev sD_law_number : Stmt := top 50
abbrev sD_law_arose : Stmt := top 51
abbrev sD_law_noted : Stmt := top 52
abbrev sD_law_alike : Stmt := top 53
abbrev sD_law_changed : Stmt := top 54
abbrev sD_law_drawn : Stmt := top 55
abbrev sD_law : Stmt := top 56
def dD_is_number : He.DefD := ⟨("is_number", none), "is_number", "is_number", defArgs sD_is_number, defBody sD_is_number, defScope sD_is_number, [], []⟩
def dD_is_within : He.DefD := ⟨("is_within", none), "is_within", "is_within", defArgs sD_is_within, defBody sD_is_within, defScope sD_is_within, [], []⟩
def dD_are_letters : He.DefD := ⟨("are_letters", none), "are_letters", "are_letters", defArgs sD_are_letters, defBody sD_are_letters, defScope sD_are_letters, [], []⟩
def dD_is_reading : He.DefD := ⟨("is_reading", none), "is_reading", "is_reading", defArgs sD_is_reading, defBody sD_is_reading, defScope sD_is_reading, [], []⟩
def dD_is_name : He.DefD := ⟨("is_name", none), "is_name", "is_name", defArgs sD_is_name, defBody sD_is_name, defScope sD_is_name, [], []⟩
def dD_is_stretch : He.DefD := ⟨("is_stretch", none), "is_stretch", "is_stretch", defArgs sD_is_stretch, defBody sD_is_stretch, defScope sD_is_stretch, [], []⟩
def dD_is_full_row : He.DefD := ⟨("is_full_row", none), "is_full_row", "is_full_row", defArgs sD_is_full_row, defBody sD_is_full_row, defScope sD_is_full_row, [], []⟩
def dD_are_parts : He.DefD := ⟨("are_parts", none), "are_parts", "are_parts", defArgs sD_are_parts, defBody sD_are_parts, defScope sD_are_parts, [], []⟩
def dD_are_slips : He.DefD := ⟨("are_slips", none), "are_slips", "are_slips", defArgs sD_are_slips, defBody sD_are_slips, defScope sD_are_slips, [], []⟩
def dD_is_making : He.DefD := ⟨("is_making", none), "is_making", "is_making", defArgs sD_is_making, defBody sD_is_making, defScope sD_is_making, [], []⟩
def dD_is_changing : He.DefD := ⟨("is_changing", none), "is_changing", "is_changing", defArgs sD_is_changing, defBody sD_is_changing, defScope sD_is_changing, [], []⟩
def dD_is_deed : He.DefD := ⟨("is_deed", none), "is_deed", "is_deed", defArgs sD_is_deed, defBody sD_is_deed, defScope sD_is_deed, [], []⟩
def dD_makes : He.DefD := ⟨("makes", none), "makes", "makes", defArgs sD_makes, defBody sD_makes, defScope sD_makes, [], []⟩
def dD_models_of : He.DefD := ⟨("models_of", none), "models_of", "models_of", defArgs sD_models_of, defBody sD_models_of, defScope sD_models_of, [], []⟩
def dD_are_tied : He.DefD := ⟨("are_tied", none), "are_tied", "are_tied", defArgs sD_are_tied, defBody sD_are_tied, defScope sD_are_tied, [], []⟩
def dD_Cell___init__ : He.DefD := ⟨("Cell", some "__init__"), "__init__", "Cell.__init__", defArgs sD_Cell___init__, defBody sD_Cell___init__, defScope sD_Cell___init__, [], []⟩
def dD_Cell_put : He.DefD := ⟨("Cell", some "put"), "put", "Cell.put", defArgs sD_Cell_put, defBody sD_Cell_put, defScope sD_Cell_put, [], []⟩
def dD_Cell_mended : He.DefD := ⟨("Cell", some "mended"), "mended", "Cell.mended", defArgs sD_Cell_mended, defBody sD_Cell_mended, defScope sD_Cell_mended, [], []⟩
def dD_Cell_matched : He.DefD := ⟨("Cell", some "matched"), "matched", "Cell.matched", defArgs sD_Cell_matched, defBody sD_Cell_matched, defScope sD_Cell_matched, [], []⟩
def dD_Cell_lost : He.DefD := ⟨("Cell", some "lost"), "lost", "Cell.lost", defArgs sD_Cell_lost, defBody sD_Cell_lost, defScope sD_Cell_lost, [], []⟩
def dD_risen : He.DefD := ⟨("risen", none), "risen", "risen", defArgs sD_risen, defBody sD_risen, defScope sD_risen, [], []⟩
def dD_handed_on : He.DefD := ⟨("handed_on", none), "handed_on", "handed_on", defArgs sD_handed_on, defBody sD_handed_on, defScope sD_handed_on, [], []⟩
def dD_Done___init__ : He.DefD := ⟨("Done", some "__init__"), "__init__", "Done.__init__", defArgs sD_Done___init__, defBody sD_Done___init__, defScope sD_Done___init__, [], []⟩
def dD_House___init__ : He.DefD := ⟨("House", some "__init__"), "__init__", "House.__init__", defArgs sD_House___init__, defBody sD_House___init__, defScope sD_House___init__, [], []⟩
def dD_House_do : He.DefD := ⟨("House", some "do"), "do", "House.do", defArgs sD_House_do, defBody sD_House_do, defScope sD_House_do, [], []⟩
def dD_House_look_at_books : He.DefD := ⟨("House", some "look_at_books"), "look_at_books", "House.look_at_books", defArgs sD_House_look_at_books, defBody sD_House_look_at_books, defScope sD_House_look_at_books, [], []⟩
def dD_House_changes_of : He.DefD := ⟨("House", some "changes_of"), "changes_of", "House.changes_of", defArgs sD_House_changes_of, defBody sD_House_changes_of, defScope sD_House_changes_of, [], []⟩
def dD_House_written : He.DefD := ⟨("House", some "written"), "written", "House.written", defArgs sD_House_written, defBody sD_House_written, defScope sD_House_written, [], []⟩
def dD_House_copied : He.DefD := ⟨("House", some "copied"), "copied", "House.copied", defArgs sD_House_copied, defBody sD_House_copied, defScope sD_House_copied, [], []⟩
def dD_House_mended : He.DefD := ⟨("House", some "mended"), "mended", "House.mended", defArgs sD_House_mended, defBody sD_House_mended, defScope sD_House_mended, [], []⟩
def dD_House_matched : He.DefD := ⟨("House", some "matched"), "matched", "House.matched", defArgs sD_House_matched, defBody sD_House_matched, defScope sD_House_matched, [], []⟩
def dD_House_lost : He.DefD := ⟨("House", some "lost"), "lost", "House.lost", defArgs sD_House_lost, defBody sD_House_lost, defScope sD_House_lost, [], []⟩
def dD_House_put_all : He.DefD := ⟨("House", some "put_all"), "put_all", "House.put_all", defArgs sD_House_put_all, defBody sD_House_put_all, defScope sD_House_put_all, [], []⟩
def dD_House_deeds : He.DefD := ⟨("House", some "deeds"), "deeds", "House.deeds", defArgs sD_House_deeds, defBody sD_House_deeds, defScope sD_House_deeds, [], []⟩
def dD_House_names : He.DefD := ⟨("House", some "names"), "names", "House.names", defArgs sD_House_names, defBody sD_House_names, defScope sD_House_names, [], []⟩
def dD_House_slips : He.DefD := ⟨("House", some "slips"), "slips", "House.slips", defArgs sD_House_slips, defBody sD_House_slips, defScope sD_House_slips, [], []⟩
def dD_House_cells_of : He.DefD := ⟨("House", some "cells_of"), "cells_of", "House.cells_of", defArgs sD_House_cells_of, defBody sD_House_cells_of, defScope sD_House_cells_of, [], []⟩
def dD_House_book : He.DefD := ⟨("House", some "book"), "book", "House.book", defArgs sD_House_book, defBody sD_House_book, defScope sD_House_book, [], []⟩
def dD_House_hands : He.DefD := ⟨("House", some "hands"), "hands", "House.hands", defArgs sD_House_hands, defBody sD_House_hands, defScope sD_House_hands, [], []⟩
def dD_House_arose : He.DefD := ⟨("House", some "arose"), "arose", "House.arose", defArgs sD_House_arose, defBody sD_House_arose, defScope sD_House_arose, [], []⟩
def dD_House_way : He.DefD := ⟨("House", some "way"), "way", "House.way", defArgs sD_House_way, defBody sD_House_way, defScope sD_House_way, [], []⟩
def dD_exchanged : He.DefD := ⟨("exchanged", none), "exchanged", "exchanged", defArgs sD_exchanged, defBody sD_exchanged, defScope sD_exchanged, [], []⟩
def dD_played : He.DefD := ⟨("played", none), "played", "played", defArgs sD_played, defBody sD_played, defScope sD_played, [], []⟩
def dD_law_next : He.DefD := ⟨("_law_next", none), "_law_next", "_law_next", defArgs sD_law_next, defBody sD_law_next, defScope sD_law_next, [], []⟩
def dD_law_word : He.DefD := ⟨("_law_word", none), "_law_word", "_law_word", defArgs sD_law_word, defBody sD_law_word, defScope sD_law_word, [], []⟩
def dD_law_words : He.DefD := ⟨("_law_words", none), "_law_words", "_law_words", defArgs sD_law_words, defBody sD_law_words, defScope sD_law_words, [], []⟩
def dD_law_reading : He.DefD := ⟨("_law_reading", none), "_law_reading", "_law_reading", defArgs sD_law_reading, defBody sD_law_reading, defScope sD_law_reading, [], []⟩
def dD_law_copy : He.DefD := ⟨("_law_copy", none), "_law_copy", "_law_copy", defArgs sD_law_copy, defBody sD_law_copy, defScope sD_law_copy, [], []⟩
def dD_law_deed : He.DefD := ⟨("_law_deed", none), "_law_deed", "_law_deed", defArgs sD_law_deed, defBody sD_law_deed, defScope sD_law_deed, [], []⟩
def dD_law_handed : He.DefD := ⟨("_law_handed", none), "_law_handed", "_law_handed", defArgs sD_law_handed, defBody sD_law_handed, defScope sD_law_handed, [], []⟩
def dD_law_copied : He.DefD := ⟨("_law_copied", none), "_law_copied", "_law_copied", defArgs sD_law_copied, defBody sD_law_copied, defScope sD_law_copied, [], []⟩
def dD_law_walk : He.DefD := ⟨("_law_walk", none), "_law_walk", "_law_walk", defArgs sD_law_walk, defBody sD_law_walk, defScope sD_law_walk, [], []⟩
def dD_law_same : He.DefD := ⟨("_law_same", none), "_law_same", "_law_same", defArgs sD_law_same, defBody sD_law_same, defScope sD_law_same, [], []⟩
def dD_law_number : He.DefD := ⟨("_law_number", none), "_law_number", "_law_number", defArgs sD_law_number, defBody sD_law_number, defScope sD_law_number, [], []⟩
def dD_law_arose : He.DefD := ⟨("_law_arose", none), "_law_arose", "_law_arose", defArgs sD_law_arose, defBody sD_law_arose, defScope sD_law_arose, [], []⟩
def dD_law_noted : He.DefD := ⟨("_law_noted", none), "_law_noted", "_law_noted", defArgs sD_law_noted, defBody sD_law_noted, defScope sD_law_noted, [], []⟩
def dD_law_alike : He.DefD := ⟨("_law_alike", none), "_law_alike", "_law_alike", defArgs sD_law_alike, defBody sD_law_alike, defScope sD_law_alike, [], []⟩
def dD_law_changed : He.DefD := ⟨("_law_changed", none), "_law_changed", "_law_changed", defArgs sD_law_changed, defBody sD_law_changed, defScope sD_law_changed, [], []⟩
def dD_law_drawn : He.DefD := ⟨("_law_drawn", none), "_law_drawn", "_law_drawn", defArgs sD_law_drawn, defBody sD_law_drawn, defScope sD_law_drawn, [], []⟩
def dD_law : He.DefD := ⟨("law", none), "law", "law", defArgs sD_law, defBody sD_law, defScope sD_law, [], []⟩
def fnL0 : List He.DefD := [dD_is_number, dD_is_within, dD_are_letters, dD_is_reading, dD_is_name, dD_is_stretch, dD_is_full_row, dD_are_parts, dD_are_slips, dD_is_making, dD_is_changing, dD_is_deed, dD_makes, dD_models_of, dD_are_tied, dD_Cell___init__, dD_Cell_put, dD_Cell_mended, dD_Cell_matched, dD_Cell_lost, dD_risen, dD_handed_on, dD_Done___init__, dD_House___init__, dD_House_do, dD_House_look_at_books, dD_House_changes_of, dD_House_written, dD_House_copied, dD_House_mended]
def fnL1 : List He.DefD := [dD_House_matched, dD_House_lost, dD_House_put_all, dD_House_deeds, dD_House_names, dD_House_slips, dD_House_cells_of, dD_House_book, dD_House_hands, dD_House_arose, dD_House_way, dD_exchanged, dD_played, dD_law_next, dD_law_word, dD_law_words, dD_law_reading, dD_law_copy, dD_law_deed, dD_law_handed, dD_law_copied, dD_law_walk, dD_law_same, dD_law_number, dD_law_arose, dD_law_noted, dD_law_alike, dD_law_changed, dD_law_drawn, dD_law]
def fnL : List He.DefD := fnL0 ++ fnL1
def faL0 : List He.Fa := [.glo "is_number", .glo "is_within", .glo "are_letters", .glo "is_reading", .glo "is_name", .glo "is_stretch", .glo "is_full_row", .glo "are_parts", .glo "are_slips", .glo "is_making", .glo "is_changing", .glo "is_deed", .glo "makes", .glo "models_of", .glo "are_tied", .glo "risen", .glo "handed_on", .glo "exchanged", .glo "played", .glo "_law_next", .glo "_law_word", .glo "_law_words", .glo "_law_reading", .glo "_law_copy", .glo "_law_deed", .glo "_law_handed", .glo "_law_copied", .glo "_law_walk", .glo "_law_same", .glo "_law_number"]
def faL1 : List He.Fa := [.glo "_law_arose", .glo "_law_noted", .glo "_law_alike", .glo "_law_changed", .glo "_law_drawn", .glo "law", .glo "Cell", .glo "Done", .glo "House", .glo "Tied", .free "isinstance", .free "len", .free "int", .free "bool", .free "str", .free "tuple", .free "list", .free "range", .free "enumerate", .free "zip", .free "sorted", .str "LETTERS" "abcdefghijklmnopqrstuvwxyz", .int "LONGEST" 8, .int "MOST_BOOKS" 40, .int "MOST_DEEDS" 300, .cls "Cell", .mkr "Cell", .noat "Cell" "reading", .noat "Cell" "stood", .noat "Cell" "source"]
def faL2 : List He.Fa := [.noat "Cell" "came", .cls "Done", .mkr "Done", .noat "Done" "deed", .noat "Done" "ahead", .noat "Done" "kept", .cls "House", .mkr "House", .noat "House" "many", .noat "House" "cells", .noat "House" "order", .noat "House" "done", .noat "House" "noted", .meth "Cell" "put", .meth "Cell" "mended", .meth "Cell" "matched", .meth "Cell" "lost", .meth "House" "do", .meth "House" "look_at_books", .meth "House" "changes_of", .meth "House" "written", .meth "House" "copied", .meth "House" "mended", .meth "House" "matched", .meth "House" "lost", .meth "House" "put_all", .meth "House" "deeds", .meth "House" "names", .meth "House" "slips", .meth "House" "cells_of"]
def faL3 : List He.Fa := [.meth "House" "book", .meth "House" "hands", .meth "House" "arose", .meth "House" "way", .exc "Tied", .exm "Tied" "Tied" true]
def faL : List He.Fa := faL0 ++ faL1 ++ faL2 ++ faL3
def looseL0 : List Str := ["_wall", "CopyError", "NoBook", "TooMany", "NoDeed", "NoSlip", "Tied", "LETTERS", "LONGEST", "is_number", "is_within", "are_letters", "is_reading", "is_name", "is_stretch", "is_full_row", "are_parts", "are_slips", "is_making", "is_changing", "is_deed", "makes", "models_of", "are_tied", "Cell", "risen", "handed_on", "MOST_BOOKS", "MOST_DEEDS", "Done"]
def looseL1 : List Str := ["House", "exchanged", "played", "_law_next", "_law_word", "_law_words", "_law_reading", "_law_copy", "_law_deed", "_law_handed", "_law_copied", "_law_walk", "_law_same", "_law_number", "_law_arose", "_law_noted", "_law_alike", "_law_changed", "_law_drawn"]
def looseL : List Str := looseL0 ++ looseL1
abbrev lawAt : Nat := 56
section
variable {K : PySem.W.Frag} {h : Heap} {mg : Str → Option Value}
/-- what is known of the written part -/
structure Txt (K : PySem.W.Frag) (mg : Str → Option Value) : Prop where
  c : He.SaysD faL fnL K
  X : ∃ h : Heap, K.In h ∧ h.Ns mainGlobals mg
theorem Txt.glo_is_number_ (T : Txt K mg) : (He.Fa.glo "is_number").ok K = true := T.c.fact 0 (f := .glo "is_number") rfl
theorem Txt.glo_is_number (T : Txt K mg) : mg "is_number" = some (.ref (He.ga K "is_number")) := by
  obtain ⟨h, X, G⟩ := T.X
  exact He.glo_ok X G T.glo_is_number_
theorem Txt.glo_is_within_ (T : Txt K mg) : (He.Fa.glo "is_within").ok K = true := T.c.fact 1 (f := .glo "is_within") rfl
theorem Txt.glo_is_within (T : Txt K mg) : mg "is_within" = some (.ref (He.ga K "is_within")) := by
  obtain ⟨h, X, G⟩ := T.X
  exact He.glo_ok X G T.glo_is_within_
theorem Txt.glo_are_letters_ (T : Txt K mg) : (He.Fa.glo "are_letters").ok K = true := T.c.fact 2 (f := .glo "are_letters") rfl
theorem Txt.glo_are_letters (T : Txt K mg) : mg "are_letters" = some (.ref (He.ga K "are_letters")) := by
  obtain ⟨h, X, G⟩ := T.X
  exact He.glo_ok X G T.glo_are_letters_
theorem Txt.glo_is_reading_ (T : Txt K mg) : (He.Fa.glo "is_reading").ok K = true := T.c.fact 3 (f := .glo "is_reading") rfl
theorem Txt.glo_is_reading (T : Txt K mg) : mg "is_reading" = some (.ref (He.ga K "is_reading")) := by
  obtain ⟨h, X, G⟩ := T.X
  exact He.glo_ok X G T.glo_is_reading_
theorem Txt.glo_is_name_ (T : Txt K mg) : (He.Fa.glo "is_name").ok K = true := T.c.fact 4 (f := .glo "is_name") rfl
theorem Txt.glo_is_name (T : Txt K mg) : mg "is_name" = some (.ref (He.ga K "is_name")) := by
  obtain ⟨h, X, G⟩ := T.X
  exact He.glo_ok X G T.glo_is_name_
theorem Txt.glo_is_stretch_ (T : Txt K mg) : (He.Fa.glo "is_stretch").ok K = true := T.c.fact 5 (f := .glo "is_stretch") rfl
theorem Txt.glo_is_stretch (T : Txt K mg) : mg "is_stretch" = some (.ref (He.ga K "is_stretch")) := by
  obtain ⟨h, X, G⟩ := T.X
  exact He.glo_ok X G T.glo_is_stretch_
theorem Txt.glo_is_full_row_ (T : Txt K mg) : (He.Fa.glo "is_full_row").ok K = true := T.c.fact 6 (f := .glo "is_full_row") rfl
theorem Txt.glo_is_full_row (T : Txt K mg) : mg "is_full_row" = some (.ref (He.ga K "is_full_row")) := by
  obtain ⟨h, X, G⟩ := T.X
  exact He.glo_ok X G T.glo_is_full_row_
theorem Txt.glo_are_parts_ (T : Txt K mg) : (He.Fa.glo "are_parts").ok K = true := T.c.fact 7 (f := .glo "are_parts") rfl
theorem Txt.glo_are_parts (T : Txt K mg) : mg "are_parts" = some (.ref (He.ga K "are_parts")) := by
  obtain ⟨h, X, G⟩ := T.X
  exact He.glo_ok X G T.glo_are_parts_
theorem Txt.glo_are_slips_ (T : Txt K mg) : (He.Fa.glo "are_slips").ok K = true := T.c.fact 8 (f := .glo "are_slips") rfl
theorem Txt.glo_are_slips (T : Txt K mg) : mg "are_slips" = some (.ref (He.ga K "are_slips")) := by
  obtain ⟨h, X, G⟩ := T.X
  exact He.glo_ok X G T.glo_are_slips_
theorem Txt.glo_is_making_ (T : Txt K mg) : (He.Fa.glo "is_making").ok K = true := T.c.fact 9 (f := .glo "is_making") rfl
theorem Txt.glo_is_making (T : Txt K mg) : mg "is_making" = some (.ref (He.ga K "is_making")) := by
  obtain ⟨h, X, G⟩ := T.X
  exact He.glo_ok X G T.glo_is_making_
theorem Txt.glo_is_changing_ (T : Txt K mg) : (He.Fa.glo "is_changing").ok K = true := T.c.fact 10 (f := .glo "is_changing") rfl
theorem Txt.glo_is_changing (T : Txt K mg) : mg "is_changing" = some (.ref (He.ga K "is_changing")) := by
  obtain ⟨h, X, G⟩ := T.X
  exact He.glo_ok X G T.glo_is_changing_
theorem Txt.glo_is_deed_ (T : Txt K mg) : (He.Fa.glo "is_deed").ok K = true := T.c.fact 11 (f := .glo "is_deed") rfl
theorem Txt.glo_is_deed (T : Txt K mg) : mg "is_deed" = some (.ref (He.ga K "is_deed")) := by
  obtain ⟨h, X, G⟩ := T.X
  exact He.glo_ok X G T.glo_is_deed_
theorem Txt.glo_makes_ (T : Txt K mg) : (He.Fa.glo "makes").ok K = true := T.c.fact 12 (f := .glo "makes") rfl
theorem Txt.glo_makes (T : Txt K mg) : mg "makes" = some (.ref (He.ga K "makes")) := by
  obtain ⟨h, X, G⟩ := T.X
  exact He.glo_ok X G T.glo_makes_
theorem Txt.glo_models_of_ (T : Txt K mg) : (He.Fa.glo "models_of").ok K = true := T.c.fact 13 (f := .glo "models_of") rfl
theorem Txt.glo_models_of (T : Txt K mg) : mg "models_of" = some (.ref (He.ga K "models_of")) := by
  obtain ⟨h, X, G⟩ := T.X
  exact He.glo_ok X G T.glo_models_of_
theorem Txt.glo_are_tied_ (T : Txt K mg) : (He.Fa.glo "are_tied").ok K = true := T.c.fact 14 (f := .glo "are_tied") rfl
theorem Txt.glo_are_tied (T : Txt K mg) : mg "are_tied" = some (.ref (He.ga K "are_tied")) := by
  obtain ⟨h, X, G⟩ := T.X
  exact He.glo_ok X G T.glo_are_tied_
theorem Txt.glo_risen_ (T : Txt K mg) : (He.Fa.glo "risen").ok K = true := T.c.fact 15 (f := .glo "risen") rfl
theorem Txt.glo_risen (T : Txt K mg) : mg "risen" = some (.ref (He.ga K "risen")) := by
  obtain ⟨h, X, G⟩ := T.X
  exact He.glo_ok X G T.glo_risen_
theorem Txt.glo_handed_on_ (T : Txt K mg) : (He.Fa.glo "handed_on").ok K = true := T.c.fact 16 (f := .glo "handed_on") rfl
theorem Txt.glo_handed_on (T : Txt K mg) : mg "handed_on" = some (.ref (He.ga K "handed_on")) := by
  obtain ⟨h, X, G⟩ := T.X
  exact He.glo_ok X G T.glo_handed_on_
theorem Txt.glo_exchanged_ (T : Txt K mg) : (He.Fa.glo "exchanged").ok K = true := T.c.fact 17 (f := .glo "exchanged") rfl
theorem Txt.glo_exchanged (T : Txt K mg) : mg "exchanged" = some (.ref (He.ga K "exchanged")) := by
  obtain ⟨h, X, G⟩ := T.X
  exact He.glo_ok X G T.glo_exchanged_
theorem Txt.glo_played_ (T : Txt K mg) : (He.Fa.glo "played").ok K = true := T.c.fact 18 (f := .glo "played") rfl
theorem Txt.glo_played (T : Txt K mg) : mg "played" = some (.ref (He.ga K "played")) := by
  obtain ⟨h, X, G⟩ := T.X
  exact He.glo_ok X G T.glo_played_
theorem Txt.glo_law_next_ (T : Txt K mg) : (He.Fa.glo "_law_next").ok K = true := T.c.fact 19 (f := .glo "_law_next") rfl
theorem Txt.glo_law_next (T : Txt K mg) : mg "_law_next" = some (.ref (He.ga K "_law_next")) := by
  obtain ⟨h, X, G⟩ := T.X
  exact He.glo_ok X G T.glo_law_next_
theorem Txt.glo_law_word_ (T : Txt K mg) : (He.Fa.glo "_law_word").ok K = true := T.c.fact 20 (f := .glo "_law_word") rfl
theorem Txt.glo_law_word (T : Txt K mg) : mg "_law_word" = some (.ref (He.ga K "_law_word")) := by
  obtain ⟨h, X, G⟩ := T.X
  exact He.glo_ok X G T.glo_law_word_
theorem Txt.glo_law_words_ (T : Txt K mg) : (He.Fa.glo "_law_words").ok K = true := T.c.fact 21 (f := .glo "_law_words") rfl
theorem Txt.glo_law_words (T : Txt K mg) : mg "_law_words" = some (.ref (He.ga K "_law_words")) := by
  obtain ⟨h, X, G⟩ := T.X
  exact He.glo_ok X G T.glo_law_words_
theorem Txt.glo_law_reading_ (T : Txt K mg) : (He.Fa.glo "_law_reading").ok K = true := T.c.fact 22 (f := .glo "_law_reading") rfl
theorem Txt.glo_law_reading (T : Txt K mg) : mg "_law_reading" = some (.ref (He.ga K "_law_reading")) := by
  obtain ⟨h, X, G⟩ := T.X
  exact He.glo_ok X G T.glo_law_reading_
theorem Txt.glo_law_copy_ (T : Txt K mg) : (He.Fa.glo "_law_copy").ok K = true := T.c.fact 23 (f := .glo "_law_copy") rfl
theorem Txt.glo_law_copy (T : Txt K mg) : mg "_law_copy" = some (.ref (He.ga K "_law_copy")) := by
  obtain ⟨h, X, G⟩ := T.X
  exact He.glo_ok X G T.glo_law_copy_
theorem Txt.glo_law_deed_ (T : Txt K mg) : (He.Fa.glo "_law_deed").ok K = true := T.c.fact 24 (f := .glo "_law_deed") rfl
theorem Txt.glo_law_deed (T : Txt K mg) : mg "_law_deed" = some (.ref (He.ga K "_law_deed")) := by
  obtain ⟨h, X, G⟩ := T.X
  exact He.glo_ok X G T.glo_law_deed_
theorem Txt.glo_law_handed_ (T : Txt K mg) : (He.Fa.glo "_law_handed").ok K = true := T.c.fact 25 (f := .glo "_law_handed") rfl
theorem Txt.glo_law_handed (T : Txt K mg) : mg "_law_handed" = some (.ref (He.ga K "_law_handed")) := by
  obtain ⟨h, X, G⟩ := T.X
  exact He.glo_ok X G T.glo_law_handed_
theorem Txt.glo_law_copied_ (T : Txt K mg) : (He.Fa.glo "_law_copied").ok K = true := T.c.fact 26 (f := .glo "_law_copied") rfl
theorem Txt.glo_law_copied (T : Txt K mg) : mg "_law_copied" = some (.ref (He.ga K "_law_copied")) := by
  obtain ⟨h, X, G⟩ := T.X
  exact He.glo_ok X G T.glo_law_copied_
theorem Txt.glo_law_walk_ (T : Txt K mg) : (He.Fa.glo "_law_walk").ok K = true := T.c.fact 27 (f := .glo "_law_walk") rfl
theorem Txt.glo_law_walk (T : Txt K mg) : mg "_law_walk" = some (.ref (He.ga K "_law_walk")) := by
  obtain ⟨h, X, G⟩ := T.X
  exact He.glo_ok X G T.glo_law_walk_
theorem Txt.glo_law_same_ (T : Txt K mg) : (He.Fa.glo "_law_same").ok K = true := T.c.fact 28 (f := .glo "_law_same") rfl
theorem Txt.glo_law_same (T : Txt K mg) : mg "_law_same" = some (.ref (He.ga K "_law_same")) := by
  obtain ⟨h, X, G⟩ := T.X
  exact He.glo_ok X G T.glo_law_same_
theorem Txt.glo_law_number_ (T : Txt K mg) : (He.Fa.glo "_law_number").ok K = true := T.c.fact 29 (f := .glo "_law_number") rfl
theorem Txt.glo_law_number (T : Txt K mg) : mg "_law_number" = some (.ref (He.ga K "_law_number")) := by
  obtain ⟨h, X, G⟩ := T.X
  exact He.glo_ok X G T.glo_law_number_
theorem Txt.glo_law_arose_ (T : Txt K mg) : (He.Fa.glo "_law_arose").ok K = true := T.c.fact 30 (f := .glo "_law_arose") rfl
theorem Txt.glo_law_arose (T : Txt K mg) : mg "_law_arose" = some (.ref (He.ga K "_law_arose")) := by
  obtain ⟨h, X, G⟩ := T.X
  exact He.glo_ok X G T.glo_law_arose_
theorem Txt.glo_law_noted_ (T : Txt K mg) : (He.Fa.glo "_law_noted").ok K = true := T.c.fact 31 (f := .glo "_law_noted") rfl
theorem Txt.glo_law_noted (T : Txt K mg) : mg "_law_noted" = some (.ref (He.ga K "_law_noted")) := by
  obtain ⟨h, X, G⟩ := T.X
  exact He.glo_ok X G T.glo_law_noted_
theorem Txt.glo_law_alike_ (T : Txt K mg) : (He.Fa.glo "_law_alike").ok K = true := T.c.fact 32 (f := .glo "_law_alike") rfl
theorem Txt.glo_law_alike (T : Txt K mg) : mg "_law_alike" = some (.ref (He.ga K "_law_alike")) := by
  obtain ⟨h, X, G⟩ := T.X
  exact He.glo_ok X G T.glo_law_alike_
theorem Txt.glo_law_changed_ (T : Txt K mg) : (He.Fa.glo "_law_changed").ok K = true := T.c.fact 33 (f := .glo "_law_changed") rfl
theorem Txt.glo_law_changed (T : Txt K mg) : mg "_law_changed" = some (.ref (He.ga K "_law_changed")) := by
  obtain ⟨h, X, G⟩ := T.X
  exact He.glo_ok X G T.glo_law_changed_
theorem Txt.glo_law_drawn_ (T : Txt K mg) : (He.Fa.glo "_law_drawn").ok K = true := T.c.fact 34 (f := .glo "_law_drawn") rfl
theorem Txt.glo_law_drawn (T : Txt K mg) : mg "_law_drawn" = some (.ref (He.ga K "_law_drawn")) := by
  obtain ⟨h, X, G⟩ := T.X
  exact He.glo_ok X G T.glo_law_drawn_
theorem Txt.glo_law_ (T : Txt K mg) : (He.Fa.glo "law").ok K = true := T.c.fact 35 (f := .glo "law") rfl
theorem Txt.glo_law (T : Txt K mg) : mg "law" = some (.ref (He.ga K "law")) := by
  obtain ⟨h, X, G⟩ := T.X
  exact He.glo_ok X G T.glo_law_
theorem Txt.glo_Cell_ (T : Txt K mg) : (He.Fa.glo "Cell").ok K = true := T.c.fact 36 (f := .glo "Cell") rfl
theorem Txt.glo_Cell (T : Txt K mg) : mg "Cell" = some (.ref (He.ga K "Cell")) := by
  obtain ⟨h, X, G⟩ := T.X
  exact He.glo_ok X G T.glo_Cell_
theorem Txt.glo_Done_ (T : Txt K mg) : (He.Fa.glo "Done").ok K = true := T.c.fact 37 (f := .glo "Done") rfl
theorem Txt.glo_Done (T : Txt K mg) : mg "Done" = some (.ref (He.ga K "Done")) := by
  obtain ⟨h, X, G⟩ := T.X
  exact He.glo_ok X G T.glo_Done_
theorem Txt.glo_House_ (T : Txt K mg) : (He.Fa.glo "House").ok K = true := T.c.fact 38 (f := .glo "House") rfl
theorem Txt.glo_House (T : Txt K mg) : mg "House" = some (.ref (He.ga K "House")) := by
  obtain ⟨h, X, G⟩ := T.X
  exact He.glo_ok X G T.glo_House_
theorem Txt.glo_Tied_ (T : Txt K mg) : (He.Fa.glo "Tied").ok K = true := T.c.fact 39 (f := .glo "Tied") rfl
theorem Txt.glo_Tied (T : Txt K mg) : mg "Tied" = some (.ref (He.ga K "Tied")) := by
  obtain ⟨h, X, G⟩ := T.X
  exact He.glo_ok X G T.glo_Tied_
theorem Txt.free_isinstance_ (T : Txt K mg) : (He.Fa.free "isinstance").ok K = true := T.c.fact 40 (f := .free "isinstance") rfl
theorem Txt.free_isinstance (T : Txt K mg) : mg "isinstance" = none := by
  obtain ⟨h, X, G⟩ := T.X
  exact He.free_ok X G T.free_isinstance_
theorem Txt.free_len_ (T : Txt K mg) : (He.Fa.free "len").ok K = true := T.c.fact 41 (f := .free "len") rfl
theorem Txt.free_len (T : Txt K mg) : mg "len" = none := by
  obtain ⟨h, X, G⟩ := T.X
  exact He.free_ok X G T.free_len_
theorem Txt.free_int_ (T : Txt K mg) : (He.Fa.free "int").ok K = true := T.c.fact 42 (f := .free "int") rfl
theorem Txt.free_int (T : Txt K mg) : mg "int" = none := by
  obtain ⟨h, X, G⟩ := T.X
  exact He.free_ok X G T.free_int_
theorem Txt.free_bool_ (T : Txt K mg) : (He.Fa.free "bool").ok K = true := T.c.fact 43 (f := .free "bool") rfl
theorem Txt.free_bool (T : Txt K mg) : mg "bool" = none := by
  obtain ⟨h, X, G⟩ := T.X
  exact He.free_ok X G T.free_bool_
theorem Txt.free_str_ (T : Txt K mg) : (He.Fa.free "str").ok K = true := T.c.fact 44 (f := .free "str") rfl
theorem Txt.free_str (T : Txt K mg) : mg "str" = none := by
  obtain ⟨h, X, G⟩ := T.X
  exact He.free_ok X G T.free_str_
theorem Txt.free_tuple_ (T : Txt K mg) : (He.Fa.free "tuple").ok K = true := T.c.fact 45 (f := .free "tuple") rfl
theorem Txt.free_tuple (T : Txt K mg) : mg "tuple" = none := by
  obtain ⟨h, X, G⟩ := T.X
  exact He.free_ok X G T.free_tuple_
theorem Txt.free_list_ (T : Txt K mg) : (He.Fa.free "list").ok K = true := T.c.fact 46 (f := .free "list") rfl
theorem Txt.free_list (T : Txt K mg) : mg "list" = none := by
  obtain ⟨h, X, G⟩ := T.X
  exact He.free_ok X G T.free_list_
theorem Txt.free_range_ (T : Txt K mg) : (He.Fa.free "range").ok K = true := T.c.fact 47 (f := .free "range") rfl
theorem Txt.free_range (T : Txt K mg) : mg "range" = none := by
  obtain ⟨h, X, G⟩ := T.X
  exact He.free_ok X G T.free_range_
theorem Txt.free_enumerate_ (T : Txt K mg) : (He.Fa.free "enumerate").ok K = true := T.c.fact 48 (f := .free "enumerate") rfl
theorem Txt.free_enumerate (T : Txt K mg) : mg "enumerate" = none := by
  obtain ⟨h, X, G⟩ := T.X
  exact He.free_ok X G T.free_enumerate_
theorem Txt.free_zip_ (T : Txt K mg) : (He.Fa.free "zip").ok K = true := T.c.fact 49 (f := .free "zip") rfl
theorem Txt.free_zip (T : Txt K mg) : mg "zip" = none := by
  obtain ⟨h, X, G⟩ := T.X
  exact He.free_ok X G T.free_zip_
theorem Txt.free_sorted_ (T : Txt K mg) : (He.Fa.free "sorted").ok K = true := T.c.fact 50 (f := .free "sorted") rfl
theorem Txt.free_sorted (T : Txt K mg) : mg "sorted" = none := by
  obtain ⟨h, X, G⟩ := T.X
  exact He.free_ok X G T.free_sorted_
theorem Txt.c_LETTERS_ (T : Txt K mg) : (He.Fa.str "LETTERS" "abcdefghijklmnopqrstuvwxyz").ok K = true := T.c.fact 51 (f := .str "LETTERS" "abcdefghijklmnopqrstuvwxyz") rfl
theorem Txt.c_LETTERS (T : Txt K mg) : ∃ u, mg "LETTERS" = some u ∧ RelV (.str "abcdefghijklmnopqrstuvwxyz") u := by
  obtain ⟨h, X, G⟩ := T.X
  obtain ⟨t, e⟩ := He.str_ok X G T.c_LETTERS_
  exact ⟨_, e, t, rfl⟩
theorem Txt.c_LONGEST_ (T : Txt K mg) : (He.Fa.int "LONGEST" 8).ok K = true := T.c.fact 52 (f := .int "LONGEST" 8) rfl
theorem Txt.c_LONGEST (T : Txt K mg) : ∃ u, mg "LONGEST" = some u ∧ RelV (.int 8) u := by
  obtain ⟨h, X, G⟩ := T.X
  obtain ⟨t, e⟩ := He.int_ok X G T.c_LONGEST_
  exact ⟨_, e, t, rfl⟩
theorem Txt.c_MOST_BOOKS_ (T : Txt K mg) : (He.Fa.int "MOST_BOOKS" 40).ok K = true := T.c.fact 53 (f := .int "MOST_BOOKS" 40) rfl
theorem Txt.c_MOST_BOOKS (T : Txt K mg) : ∃ u, mg "MOST_BOOKS" = some u ∧ RelV (.int 40) u := by
  obtain ⟨h, X, G⟩ := T.X
  obtain ⟨t, e⟩ := He.int_ok X G T.c_MOST_BOOKS_
  exact ⟨_, e, t, rfl⟩
theorem Txt.c_MOST_DEEDS_ (T : Txt K mg) : (He.Fa.int "MOST_DEEDS" 300).ok K = true := T.c.fact 54 (f := .int "MOST_DEEDS" 300) rfl
theorem Txt.c_MOST_DEEDS (T : Txt K mg) : ∃ u, mg "MOST_DEEDS" = some u ∧ RelV (.int 300) u := by
  obtain ⟨h, X, G⟩ := T.X
  obtain ⟨t, e⟩ := He.int_ok X G T.c_MOST_DEEDS_
  exact ⟨_, e, t, rfl⟩
theorem Txt.cls_Cell_ (T : Txt K mg) : (He.Fa.cls "Cell").ok K = true := T.c.fact 55 (f := .cls "Cell") rfl
theorem Txt.cls_Cell (T : Txt K mg) : Cls K (He.ga K "Cell") := He.cls_ok T.cls_Cell_
theorem Txt.mkr_Cell_ (T : Txt K mg) : (He.Fa.mkr "Cell").ok K = true := T.c.fact 56 (f := .mkr "Cell") rfl
theorem Txt.mkr_Cell (T : Txt K mg) : Mk K (He.ga K "Cell") (He.ma K (He.ga K "Cell") "__init__") := He.mkr_ok T.mkr_Cell_
theorem Txt.noat_Cell_reading_ (T : Txt K mg) : (He.Fa.noat "Cell" "reading").ok K = true := T.c.fact 57 (f := .noat "Cell" "reading") rfl
theorem Txt.noat_Cell_reading (T : Txt K mg) : NoAttr K (He.ga K "Cell") "reading" := He.noat_ok T.noat_Cell_reading_
theorem Txt.noat_Cell_stood_ (T : Txt K mg) : (He.Fa.noat "Cell" "stood").ok K = true := T.c.fact 58 (f := .noat "Cell" "stood") rfl
theorem Txt.noat_Cell_stood (T : Txt K mg) : NoAttr K (He.ga K "Cell") "stood" := He.noat_ok T.noat_Cell_stood_
theorem Txt.noat_Cell_source_ (T : Txt K mg) : (He.Fa.noat "Cell" "source").ok K = true := T.c.fact 59 (f := .noat "Cell" "source") rfl
theorem Txt.noat_Cell_source (T : Txt K mg) : NoAttr K (He.ga K "Cell") "source" := He.noat_ok T.noat_Cell_source_
theorem Txt.noat_Cell_came_ (T : Txt K mg) : (He.Fa.noat "Cell" "came").ok K = true := T.c.fact 60 (f := .noat "Cell" "came") rfl
theorem Txt.noat_Cell_came (T : Txt K mg) : NoAttr K (He.ga K "Cell") "came" := He.noat_ok T.noat_Cell_came_
theorem Txt.cls_Done_ (T : Txt K mg) : (He.Fa.cls "Done").ok K = true := T.c.fact 61 (f := .cls "Done") rfl
theorem Txt.cls_Done (T : Txt K mg) : Cls K (He.ga K "Done") := He.cls_ok T.cls_Done_
theorem Txt.mkr_Done_ (T : Txt K mg) : (He.Fa.mkr "Done").ok K = true := T.c.fact 62 (f := .mkr "Done") rfl
theorem Txt.mkr_Done (T : Txt K mg) : Mk K (He.ga K "Done") (He.ma K (He.ga K "Done") "__init__") := He.mkr_ok T.mkr_Done_
theorem Txt.noat_Done_deed_ (T : Txt K mg) : (He.Fa.noat "Done" "deed").ok K = true := T.c.fact 63 (f := .noat "Done" "deed") rfl
theorem Txt.noat_Done_deed (T : Txt K mg) : NoAttr K (He.ga K "Done") "deed" := He.noat_ok T.noat_Done_deed_
theorem Txt.noat_Done_ahead_ (T : Txt K mg) : (He.Fa.noat "Done" "ahead").ok K = true := T.c.fact 64 (f := .noat "Done" "ahead") rfl
theorem Txt.noat_Done_ahead (T : Txt K mg) : NoAttr K (He.ga K "Done") "ahead" := He.noat_ok T.noat_Done_ahead_
theorem Txt.noat_Done_kept_ (T : Txt K mg) : (He.Fa.noat "Done" "kept").ok K = true := T.c.fact 65 (f := .noat "Done" "kept") rfl
theorem Txt.noat_Done_kept (T : Txt K mg) : NoAttr K (He.ga K "Done") "kept" := He.noat_ok T.noat_Done_kept_
theorem Txt.cls_House_ (T : Txt K mg) : (He.Fa.cls "House").ok K = true := T.c.fact 66 (f := .cls "House") rfl
theorem Txt.cls_House (T : Txt K mg) : Cls K (He.ga K "House") := He.cls_ok T.cls_House_
theorem Txt.mkr_House_ (T : Txt K mg) : (He.Fa.mkr "House").ok K = true := T.c.fact 67 (f := .mkr "House") rfl
theorem Txt.mkr_House (T : Txt K mg) : Mk K (He.ga K "House") (He.ma K (He.ga K "House") "__init__") := He.mkr_ok T.mkr_House_
theorem Txt.noat_House_many_ (T : Txt K mg) : (He.Fa.noat "House" "many").ok K = true := T.c.fact 68 (f := .noat "House" "many") rfl
theorem Txt.noat_House_many (T : Txt K mg) : NoAttr K (He.ga K "House") "many" := He.noat_ok T.noat_House_many_
theorem Txt.noat_House_cells_ (T : Txt K mg) : (He.Fa.noat "House" "cells").ok K = true := T.c.fact 69 (f := .noat "House" "cells") rfl
theorem Txt.noat_House_cells (T : Txt K mg) : NoAttr K (He.ga K "House") "cells" := He.noat_ok T.noat_House_cells_
theorem Txt.noat_House_order_ (T : Txt K mg) : (He.Fa.noat "House" "order").ok K = true := T.c.fact 70 (f := .noat "House" "order") rfl
theorem Txt.noat_House_order (T : Txt K mg) : NoAttr K (He.ga K "House") "order" := He.noat_ok T.noat_House_order_
theorem Txt.noat_House_done_ (T : Txt K mg) : (He.Fa.noat "House" "done").ok K = true := T.c.fact 71 (f := .noat "House" "done") rfl
theorem Txt.noat_House_done (T : Txt K mg) : NoAttr K (He.ga K "House") "done" := He.noat_ok T.noat_House_done_
theorem Txt.noat_House_noted_ (T : Txt K mg) : (He.Fa.noat "House" "noted").ok K = true := T.c.fact 72 (f := .noat "House" "noted") rfl
theorem Txt.noat_House_noted (T : Txt K mg) : NoAttr K (He.ga K "House") "noted" := He.noat_ok T.noat_House_noted_
theorem Txt.meth_Cell_put_ (T : Txt K mg) : (He.Fa.meth "Cell" "put").ok K = true := T.c.fact 73 (f := .meth "Cell" "put") rfl
theorem Txt.meth_Cell_put (T : Txt K mg) : Meth K (He.ga K "Cell") "put" (He.ma K (He.ga K "Cell") "put") := He.meth_ok T.meth_Cell_put_
theorem Txt.meth_Cell_mended_ (T : Txt K mg) : (He.Fa.meth "Cell" "mended").ok K = true := T.c.fact 74 (f := .meth "Cell" "mended") rfl
theorem Txt.meth_Cell_mended (T : Txt K mg) : Meth K (He.ga K "Cell") "mended" (He.ma K (He.ga K "Cell") "mended") := He.meth_ok T.meth_Cell_mended_
theorem Txt.meth_Cell_matched_ (T : Txt K mg) : (He.Fa.meth "Cell" "matched").ok K = true := T.c.fact 75 (f := .meth "Cell" "matched") rfl
theorem Txt.meth_Cell_matched (T : Txt K mg) : Meth K (He.ga K "Cell") "matched" (He.ma K (He.ga K "Cell") "matched") := He.meth_ok T.meth_Cell_matched_
theorem Txt.meth_Cell_lost_ (T : Txt K mg) : (He.Fa.meth "Cell" "lost").ok K = true := T.c.fact 76 (f := .meth "Cell" "lost") rfl
theorem Txt.meth_Cell_lost (T : Txt K mg) : Meth K (He.ga K "Cell") "lost" (He.ma K (He.ga K "Cell") "lost") := He.meth_ok T.meth_Cell_lost_
theorem Txt.meth_House_do_ (T : Txt K mg) : (He.Fa.meth "House" "do").ok K = true := T.c.fact 77 (f := .meth "House" "do") rfl
theorem Txt.meth_House_do (T : Txt K mg) : Meth K (He.ga K "House") "do" (He.ma K (He.ga K "House") "do") := He.meth_ok T.meth_House_do_
theorem Txt.meth_House_look_at_books_ (T : Txt K mg) : (He.Fa.meth "House" "look_at_books").ok K = true := T.c.fact 78 (f := .meth "House" "look_at_books") rfl
theorem Txt.meth_House_look_at_books (T : Txt K mg) : Meth K (He.ga K "House") "look_at_books" (He.ma K (He.ga K "House") "look_at_books") := He.meth_ok T.meth_House_look_at_books_
theorem Txt.meth_House_changes_of_ (T : Txt K mg) : (He.Fa.meth "House" "changes_of").ok K = true := T.c.fact 79 (f := .meth "House" "changes_of") rfl
theorem Txt.meth_House_changes_of (T : Txt K mg) : Meth K (He.ga K "House") "changes_of" (He.ma K (He.ga K "House") "changes_of") := He.meth_ok T.meth_House_changes_of_
theorem Txt.meth_House_written_ (T : Txt K mg) : (He.Fa.meth "House" "written").ok K = true := T.c.fact 80 (f := .meth "House" "written") rfl
theorem Txt.meth_House_written (T : Txt K mg) : Meth K (He.ga K "House") "written" (He.ma K (He.ga K "House") "written") := He.meth_ok T.meth_House_written_
theorem Txt.meth_House_copied_ (T : Txt K mg) : (He.Fa.meth "House" "copied").ok K = true := T.c.fact 81 (f := .meth "House" "copied") rfl
theorem Txt.meth_House_copied (T : Txt K mg) : Meth K (He.ga K "House") "copied" (He.ma K (He.ga K "House") "copied") := He.meth_ok T.meth_House_copied_
theorem Txt.meth_House_mended_ (T : Txt K mg) : (He.Fa.meth "House" "mended").ok K = true := T.c.fact 82 (f := .meth "House" "mended") rfl
theorem Txt.meth_House_mended (T : Txt K mg) : Meth K (He.ga K "House") "mended" (He.ma K (He.ga K "House") "mended") := He.meth_ok T.meth_House_mended_
theorem Txt.meth_House_matched_ (T : Txt K mg) : (He.Fa.meth "House" "matched").ok K = true := T.c.fact 83 (f := .meth "House" "matched") rfl
theorem Txt.meth_House_matched (T : Txt K mg) : Meth K (He.ga K "House") "matched" (He.ma K (He.ga K "House") "matched") := He.meth_ok T.meth_House_matched_
theorem Txt.meth_House_lost_ (T : Txt K mg) : (He.Fa.meth "House" "lost").ok K = true := T.c.fact 84 (f := .meth "House" "lost") rfl
theorem Txt.meth_House_lost (T : Txt K mg) : Meth K (He.ga K "House") "lost" (He.ma K (He.ga K "House") "lost") := He.meth_ok T.meth_House_lost_
theorem Txt.meth_House_put_all_ (T : Txt K mg) : (He.Fa.meth "House" "put_all").ok K = true := T.c.fact 85 (f := .meth "House" "put_all") rfl
theorem Txt.meth_House_put_all (T : Txt K mg) : Meth K (He.ga K "House") "put_all" (He.ma K (He.ga K "House") "put_all") := He.meth_ok T.meth_House_put_all_
theorem Txt.meth_House_deeds_ (T : Txt K mg) : (He.Fa.meth "House" "deeds").ok K = true := T.c.fact 86 (f := .meth "House" "deeds") rfl
theorem Txt.meth_House_deeds (T : Txt K mg) : Meth K (He.ga K "House") "deeds" (He.ma K (He.ga K "House") "deeds") := He.meth_ok T.meth_House_deeds_
theorem Txt.meth_House_names_ (T : Txt K mg) : (He.Fa.meth "House" "names").ok K = true := T.c.fact 87 (f := .meth "House" "names") rfl
theorem Txt.meth_House_names (T : Txt K mg) : Meth K (He.ga K "House") "names" (He.ma K (He.ga K "House") "names") := He.meth_ok T.meth_House_names_
theorem Txt.meth_House_slips_ (T : Txt K mg) : (He.Fa.meth "House" "slips").ok K = true := T.c.fact 88 (f := .meth "House" "slips") rfl
theorem Txt.meth_House_slips (T : Txt K mg) : Meth K (He.ga K "House") "slips" (He.ma K (He.ga K "House") "slips") := He.meth_ok T.meth_House_slips_
theorem Txt.meth_House_cells_of_ (T : Txt K mg) : (He.Fa.meth "House" "cells_of").ok K = true := T.c.fact 89 (f := .meth "House" "cells_of") rfl
theorem Txt.meth_House_cells_of (T : Txt K mg) : Meth K (He.ga K "House") "cells_of" (He.ma K (He.ga K "House") "cells_of") := He.meth_ok T.meth_House_cells_of_
theorem Txt.meth_House_book_ (T : Txt K mg) : (He.Fa.meth "House" "book").ok K = true := T.c.fact 90 (f := .meth "House" "book") rfl
theorem Txt.meth_House_book (T : Txt K mg) : Meth K (He.ga K "House") "book" (He.ma K (He.ga K "House") "book") := He.meth_ok T.meth_House_book_
theorem Txt.meth_House_hands_ (T : Txt K mg) : (He.Fa.meth "House" "hands").ok K = true := T.c.fact 91 (f := .meth "House" "hands") rfl
theorem Txt.meth_House_hands (T : Txt K mg) : Meth K (He.ga K "House") "hands" (He.ma K (He.ga K "House") "hands") := He.meth_ok T.meth_House_hands_
theorem Txt.meth_House_arose_ (T : Txt K mg) : (He.Fa.meth "House" "arose").ok K = true := T.c.fact 92 (f := .meth "House" "arose") rfl
theorem Txt.meth_House_arose (T : Txt K mg) : Meth K (He.ga K "House") "arose" (He.ma K (He.ga K "House") "arose") := He.meth_ok T.meth_House_arose_
theorem Txt.meth_House_way_ (T : Txt K mg) : (He.Fa.meth "House" "way").ok K = true := T.c.fact 93 (f := .meth "House" "way") rfl
theorem Txt.meth_House_way (T : Txt K mg) : Meth K (He.ga K "House") "way" (He.ma K (He.ga K "House") "way") := He.meth_ok T.meth_House_way_
theorem Txt.exc_Tied_ (T : Txt K mg) : (He.Fa.exc "Tied").ok K = true := T.c.fact 94 (f := .exc "Tied") rfl
theorem Txt.exm_Tied_ (T : Txt K mg) : (He.Fa.exm "Tied" "Tied" true).ok K = true := T.c.fact 95 (f := .exm "Tied" "Tied" true) rfl
theorem Txt.F_is_number (T : Txt K mg) : ∃ fd, FunD K "is_number" "is_number" (defArgs sD_is_number) (defBody sD_is_number) (defScope sD_is_number) [] [] (He.fAd K dD_is_number.at_) fd := T.c.def_ 0 (d := dD_is_number) rfl
theorem Txt.F_is_within (T : Txt K mg) : ∃ fd, FunD K "is_within" "is_within" (defArgs sD_is_within) (defBody sD_is_within) (defScope sD_is_within) [] [] (He.fAd K dD_is_within.at_) fd := T.c.def_ 1 (d := dD_is_within) rfl
theorem Txt.F_are_letters (T : Txt K mg) : ∃ fd, FunD K "are_letters" "are_letters" (defArgs sD_are_letters) (defBody sD_are_letters) (defScope sD_are_letters) [] [] (He.fAd K dD_are_letters.at_) fd := T.c.def_ 2 (d := dD_are_letters) rfl
theorem Txt.F_is_reading (T : Txt K mg) : ∃ fd, FunD K "is_reading" "is_reading" (defArgs sD_is_reading) (defBody sD_is_reading) (defScope sD_is_reading) [] [] (He.fAd K dD_is_reading.at_) fd := T.c.def_ 3 (d := dD_is_reading) rfl
theorem Txt.F_is_name (T : Txt K mg) : ∃ fd, FunD K "is_name" "is_name" (defArgs sD_is_name) (defBody sD_is_name) (defScope sD_is_name) [] [] (He.fAd K dD_is_name.at_) fd := T.c.def_ 4 (d := dD_is_name) rfl
theorem Txt.F_is_stretch (T : Txt K mg) : ∃ fd, FunD K "is_stretch" "is_stretch" (defArgs sD_is_stretch) (defBody sD_is_stretch) (defScope sD_is_stretch) [] [] (He.fAd K dD_is_stretch.at_) fd := T.c.def_ 5 (d := dD_is_stretch) rfl
theorem Txt.F_is_full_row (T : Txt K mg) : ∃ fd, FunD K "is_full_row" "is_full_row" (defArgs sD_is_full_row) (defBody sD_is_full_row) (defScope sD_is_full_row) [] [] (He.fAd K dD_is_full_row.at_) fd := T.c.def_ 6 (d := dD_is_full_row) rfl
theorem Txt.F_are_parts (T : Txt K mg) : ∃ fd, FunD K "are_parts" "are_parts" (defArgs sD_are_parts) (defBody sD_are_parts) (defScope sD_are_parts) [] [] (He.fAd K dD_are_parts.at_) fd := T.c.def_ 7 (d := dD_are_parts) rfl
theorem Txt.F_are_slips (T : Txt K mg) : ∃ fd, FunD K "are_slips" "are_slips" (defArgs sD_are_slips) (defBody sD_are_slips) (defScope sD_are_slips) [] [] (He.fAd K dD_are_slips.at_) fd := T.c.def_ 8 (d := dD_are_slips) rfl
theorem Txt.F_is_making (T : Txt K mg) : ∃ fd, FunD K "is_making" "is_making" (defArgs sD_is_making) (defBody sD_is_making) (defScope sD_is_making) [] [] (He.fAd K dD_is_making.at_) fd := T.c.def_ 9 (d := dD_is_making) rfl
theorem Txt.F_is_changing (T : Txt K mg) : ∃ fd, FunD K "is_changing" "is_changing" (defArgs sD_is_changing) (defBody sD_is_changing) (defScope sD_is_changing) [] [] (He.fAd K dD_is_changing.at_) fd := T.c.def_ 10 (d := dD_is_changing) rfl
theorem Txt.F_is_deed (T : Txt K mg) : ∃ fd, FunD K "is_deed" "is_deed" (defArgs sD_is_deed) (defBody sD_is_deed) (defScope sD_is_deed) [] [] (He.fAd K dD_is_deed.at_) fd := T.c.def_ 11 (d := dD_is_deed) rfl
theorem Txt.F_makes (T : Txt K mg) : ∃ fd, FunD K "makes" "makes" (defArgs sD_makes) (defBody sD_makes) (defScope sD_makes) [] [] (He.fAd K dD_makes.at_) fd := T.c.def_ 12 (d := dD_makes) rfl
theorem Txt.F_models_of (T : Txt K mg) : ∃ fd, FunD K "models_of" "models_of" (defArgs sD_models_of) (defBody sD_models_of) (defScope sD_models_of) [] [] (He.fAd K dD_models_of.at_) fd := T.c.def_ 13 (d := dD_models_of) rfl
theorem Txt.F_are_tied (T : Txt K mg) : ∃ fd, FunD K "are_tied" "are_tied" (defArgs sD_are_tied) (defBody sD_are_tied) (defScope sD_are_tied) [] [] (He.fAd K dD_are_tied.at_) fd := T.c.def_ 14 (d := dD_are_tied) rfl
theorem Txt.F_Cell___init__ (T : Txt K mg) : ∃ fd, FunD K "__init__" "Cell.__init__" (defArgs sD_Cell___init__) (defBody sD_Cell___init__) (defScope sD_Cell___init__) [] [] (He.fAd K dD_Cell___init__.at_) fd := T.c.def_ 15 (d := dD_Cell___init__) rfl
theorem Txt.F_Cell_put (T : Txt K mg) : ∃ fd, FunD K "put" "Cell.put" (defArgs sD_Cell_put) (defBody sD_Cell_put) (defScope sD_Cell_put) [] [] (He.fAd K dD_Cell_put.at_) fd := T.c.def_ 16 (d := dD_Cell_put) rfl
theorem Txt.F_Cell_mended (T : Txt K mg) : ∃ fd, FunD K "mended" "Cell.mended" (defArgs sD_Cell_mended) (defBody sD_Cell_mended) (defScope sD_Cell_mended) [] [] (He.fAd K dD_Cell_mended.at_) fd := T.c.def_ 17 (d := dD_Cell_mended) rfl
theorem Txt.F_Cell_matched (T : Txt K mg) : ∃ fd, FunD K "matched" "Cell.matched" (defArgs sD_Cell_matched) (defBody sD_Cell_matched) (defScope sD_Cell_matched) [] [] (He.fAd K dD_Cell_matched.at_) fd := T.c.def_ 18 (d := dD_Cell_matched) rfl
theorem Txt.F_Cell_lost (T : Txt K mg) : ∃ fd, FunD K "lost" "Cell.lost" (defArgs sD_Cell_lost) (defBody sD_Cell_lost) (defScope sD_Cell_lost) [] [] (He.fAd K dD_Cell_lost.at_) fd := T.c.def_ 19 (d := dD_Cell_lost) rfl
theorem Txt.F_risen (T : Txt K mg) : ∃ fd, FunD K "risen" "risen" (defArgs sD_risen) (defBody sD_risen) (defScope sD_risen) [] [] (He.fAd K dD_risen.at_) fd := T.c.def_ 20 (d := dD_risen) rfl
theorem Txt.F_handed_on (T : Txt K mg) : ∃ fd, FunD K "handed_on" "handed_on" (defArgs sD_handed_on) (defBody sD_handed_on) (defScope sD_handed_on) [] [] (He.fAd K dD_handed_on.at_) fd := T.c.def_ 21 (d := dD_handed_on) rfl
theorem Txt.F_Done___init__ (T : Txt K mg) : ∃ fd, FunD K "__init__" "Done.__init__" (defArgs sD_Done___init__) (defBody sD_Done___init__) (defScope sD_Done___init__) [] [] (He.fAd K dD_Done___init__.at_) fd := T.c.def_ 22 (d := dD_Done___init__) rfl
theorem Txt.F_House___init__ (T : Txt K mg) : ∃ fd, FunD K "__init__" "House.__init__" (defArgs sD_House___init__) (defBody sD_House___init__) (defScope sD_House___init__) [] [] (He.fAd K dD_House___init__.at_) fd := T.c.def_ 23 (d := dD_House___init__) rfl
theorem Txt.F_House_do (T : Txt K mg) : ∃ fd, FunD K "do" "House.do" (defArgs sD_House_do) (defBody sD_House_do) (defScope sD_House_do) [] [] (He.fAd K dD_House_do.at_) fd := T.c.def_ 24 (d := dD_House_do) rfl
theorem Txt.F_House_look_at_books (T : Txt K mg) : ∃ fd, FunD K "look_at_books" "House.look_at_books" (defArgs sD_House_look_at_books) (defBody sD_House_look_at_books) (defScope sD_House_look_at_books) [] [] (He.fAd K dD_House_look_at_books.at_) fd := T.c.def_ 25 (d := dD_House_look_at_books) rfl
theorem Txt.F_House_changes_of (T : Txt K mg) : ∃ fd, FunD K "changes_of" "House.changes_of" (defArgs sD_House_changes_of) (defBody sD_House_changes_of) (defScope sD_House_changes_of) [] [] (He.fAd K dD_House_changes_of.at_) fd := T.c.def_ 26 (d := dD_House_changes_of) rfl
theorem Txt.F_House_written (T : Txt K mg) : ∃ fd, FunD K "written" "House.written" (defArgs sD_House_written) (defBody sD_House_written) (defScope sD_House_written) [] [] (He.fAd K dD_House_written.at_) fd := T.c.def_ 27 (d := dD_House_written) rfl
theorem Txt.F_House_copied (T : Txt K mg) : ∃ fd, FunD K "copied" "House.copied" (defArgs sD_House_copied) (defBody sD_House_copied) (defScope sD_House_copied) [] [] (He.fAd K dD_House_copied.at_) fd := T.c.def_ 28 (d := dD_House_copied) rfl
theorem Txt.F_House_mended (T : Txt K mg) : ∃ fd, FunD K "mended" "House.mended" (defArgs sD_House_mended) (defBody sD_House_mended) (defScope sD_House_mended) [] [] (He.fAd K dD_House_mended.at_) fd := T.c.def_ 29 (d := dD_House_mended) rfl
theorem Txt.F_House_matched (T : Txt K mg) : ∃ fd, FunD K "matched" "House.matched" (defArgs sD_House_matched) (defBody sD_House_matched) (defScope sD_House_matched) [] [] (He.fAd K dD_House_matched.at_) fd := T.c.def_ 30 (d := dD_House_matched) rfl
theorem Txt.F_House_lost (T : Txt K mg) : ∃ fd, FunD K "lost" "House.lost" (defArgs sD_House_lost) (defBody sD_House_lost) (defScope sD_House_lost) [] [] (He.fAd K dD_House_lost.at_) fd := T.c.def_ 31 (d := dD_House_lost) rfl
theorem Txt.F_House_put_all (T : Txt K mg) : ∃ fd, FunD K "put_all" "House.put_all" (defArgs sD_House_put_all) (defBody sD_House_put_all) (defScope sD_House_put_all) [] [] (He.fAd K dD_House_put_all.at_) fd := T.c.def_ 32 (d := dD_House_put_all) rfl
theorem Txt.F_House_deeds (T : Txt K mg) : ∃ fd, FunD K "deeds" "House.deeds" (defArgs sD_House_deeds) (defBody sD_House_deeds) (defScope sD_House_deeds) [] [] (He.fAd K dD_House_deeds.at_) fd := T.c.def_ 33 (d := dD_House_deeds) rfl
theorem Txt.F_House_names (T : Txt K mg) : ∃ fd, FunD K "names" "House.names" (defArgs sD_House_names) (defBody sD_House_names) (defScope sD_House_names) [] [] (He.fAd K dD_House_names.at_) fd := T.c.def_ 34 (d := dD_House_names) rfl
theorem Txt.F_House_slips (T : Txt K mg) : ∃ fd, FunD K "slips" "House.slips" (defArgs sD_House_slips) (defBody sD_House_slips) (defScope sD_House_slips) [] [] (He.fAd K dD_House_slips.at_) fd := T.c.def_ 35 (d := dD_House_slips) rfl
theorem Txt.F_House_cells_of (T : Txt K mg) : ∃ fd, FunD K "cells_of" "House.cells_of" (defArgs sD_House_cells_of) (defBody sD_House_cells_of) (defScope sD_House_cells_of) [] [] (He.fAd K dD_House_cells_of.at_) fd := T.c.def_ 36 (d := dD_House_cells_of) rfl
theorem Txt.F_House_book (T : Txt K mg) : ∃ fd, FunD K "book" "House.book" (defArgs sD_House_book) (defBody sD_House_book) (defScope sD_House_book) [] [] (He.fAd K dD_House_book.at_) fd := T.c.def_ 37 (d := dD_House_book) rfl
theorem Txt.F_House_hands (T : Txt K mg) : ∃ fd, FunD K "hands" "House.hands" (defArgs sD_House_hands) (defBody sD_House_hands) (defScope sD_House_hands) [] [] (He.fAd K dD_House_hands.at_) fd := T.c.def_ 38 (d := dD_House_hands) rfl
theorem Txt.F_House_arose (T : Txt K mg) : ∃ fd, FunD K "arose" "House.arose" (defArgs sD_House_arose) (defBody sD_House_arose) (defScope sD_House_arose) [] [] (He.fAd K dD_House_arose.at_) fd := T.c.def_ 39 (d := dD_House_arose) rfl
theorem Txt.F_House_way (T : Txt K mg) : ∃ fd, FunD K "way" "House.way" (defArgs sD_House_way) (defBody sD_House_way) (defScope sD_House_way) [] [] (He.fAd K dD_House_way.at_) fd := T.c.def_ 40 (d := dD_House_way) rfl
theorem Txt.F_exchanged (T : Txt K mg) : ∃ fd, FunD K "exchanged" "exchanged" (defArgs sD_exchanged) (defBody sD_exchanged) (defScope sD_exchanged) [] [] (He.fAd K dD_exchanged.at_) fd := T.c.def_ 41 (d := dD_exchanged) rfl
theorem Txt.F_played (T : Txt K mg) : ∃ fd, FunD K "played" "played" (defArgs sD_played) (defBody sD_played) (defScope sD_played) [] [] (He.fAd K dD_played.at_) fd := T.c.def_ 42 (d := dD_played) rfl
theorem Txt.F_law_next (T : Txt K mg) : ∃ fd, FunD K "_law_next" "_law_next" (defArgs sD_law_next) (defBody sD_law_next) (defScope sD_law_next) [] [] (He.fAd K dD_law_next.at_) fd := T.c.def_ 43 (d := dD_law_next) rfl
theorem Txt.F_law_word (T : Txt K mg) : ∃ fd, FunD K "_law_word" "_law_word" (defArgs sD_law_word) (defBody sD_law_word) (defScope sD_law_word) [] [] (He.fAd K dD_law_word.at_) fd := T.c.def_ 44 (d := dD_law_word) rfl
theorem Txt.F_law_words (T : Txt K mg) : ∃ fd, FunD K "_law_words" "_law_words" (defArgs sD_law_words) (defBody sD_law_words) (defScope sD_law_words) [] [] (He.fAd K dD_law_words.at_) fd := T.c.def_ 45 (d := dD_law_words) rfl
theorem Txt.F_law_reading (T : Txt K mg) : ∃ fd, FunD K "_law_reading" "_law_reading" (defArgs sD_law_reading) (defBody sD_law_reading) (defScope sD_law_reading) [] [] (He.fAd K dD_law_reading.at_) fd := T.c.def_ 46 (d := dD_law_reading) rfl
theorem Txt.F_law_copy (T : Txt K mg) : ∃ fd, FunD K "_law_copy" "_law_copy" (defArgs sD_law_copy) (defBody sD_law_copy) (defScope sD_law_copy) [] [] (He.fAd K dD_law_copy.at_) fd := T.c.def_ 47 (d := dD_law_copy) rfl
theorem Txt.F_law_deed (T : Txt K mg) : ∃ fd, FunD K "_law_deed" "_law_deed" (defArgs sD_law_deed) (defBody sD_law_deed) (defScope sD_law_deed) [] [] (He.fAd K dD_law_deed.at_) fd := T.c.def_ 48 (d := dD_law_deed) rfl
theorem Txt.F_law_handed (T : Txt K mg) : ∃ fd, FunD K "_law_handed" "_law_handed" (defArgs sD_law_handed) (defBody sD_law_handed) (defScope sD_law_handed) [] [] (He.fAd K dD_law_handed.at_) fd := T.c.def_ 49 (d := dD_law_handed) rfl
theorem Txt.F_law_copied (T : Txt K mg) : ∃ fd, FunD K "_law_copied" "_law_copied" (defArgs sD_law_copied) (defBody sD_law_copied) (defScope sD_law_copied) [] [] (He.fAd K dD_law_copied.at_) fd := T.c.def_ 50 (d := dD_law_copied) rfl
theorem Txt.F_law_walk (T : Txt K mg) : ∃ fd, FunD K "_law_walk" "_law_walk" (defArgs sD_law_walk) (defBody sD_law_walk) (defScope sD_law_walk) [] [] (He.fAd K dD_law_walk.at_) fd := T.c.def_ 51 (d := dD_law_walk) rfl
theorem Txt.F_law_same (T : Txt K mg) : ∃ fd, FunD K "_law_same" "_law_same" (defArgs sD_law_same) (defBody sD_law_same) (defScope sD_law_same) [] [] (He.fAd K dD_law_same.at_) fd := T.c.def_ 52 (d := dD_law_same) rfl
theorem Txt.F_law_number (T : Txt K mg) : ∃ fd, FunD K "_law_number" "_law_number" (defArgs sD_law_number) (defBody sD_law_number) (defScope sD_law_number) [] [] (He.fAd K dD_law_number.at_) fd := T.c.def_ 53 (d := dD_law_number) rfl
theorem Txt.F_law_arose (T : Txt K mg) : ∃ fd, FunD K "_law_arose" "_law_arose" (defArgs sD_law_arose) (defBody sD_law_arose) (defScope sD_law_arose) [] [] (He.fAd K dD_law_arose.at_) fd := T.c.def_ 54 (d := dD_law_arose) rfl
theorem Txt.F_law_noted (T : Txt K mg) : ∃ fd, FunD K "_law_noted" "_law_noted" (defArgs sD_law_noted) (defBody sD_law_noted) (defScope sD_law_noted) [] [] (He.fAd K dD_law_noted.at_) fd := T.c.def_ 55 (d := dD_law_noted) rfl
theorem Txt.F_law_alike (T : Txt K mg) : ∃ fd, FunD K "_law_alike" "_law_alike" (defArgs sD_law_alike) (defBody sD_law_alike) (defScope sD_law_alike) [] [] (He.fAd K dD_law_alike.at_) fd := T.c.def_ 56 (d := dD_law_alike) rfl
theorem Txt.F_law_changed (T : Txt K mg) : ∃ fd, FunD K "_law_changed" "_law_changed" (defArgs sD_law_changed) (defBody sD_law_changed) (defScope sD_law_changed) [] [] (He.fAd K dD_law_changed.at_) fd := T.c.def_ 57 (d := dD_law_changed) rfl
theorem Txt.F_law_drawn (T : Txt K mg) : ∃ fd, FunD K "_law_drawn" "_law_drawn" (defArgs sD_law_drawn) (defBody sD_law_drawn) (defScope sD_law_drawn) [] [] (He.fAd K dD_law_drawn.at_) fd := T.c.def_ 58 (d := dD_law_drawn) rfl
theorem Txt.F_law (T : Txt K mg) : ∃ fd, FunD K "law" "law" (defArgs sD_law) (defBody sD_law) (defScope sD_law) [] [] (He.fAd K dD_law.at_) fd := T.c.def_ 59 (d := dD_law) rfl
end
end K69

set_option maxRecDepth 100000
set_option maxHeartbeats 0
/-! The head: the top by one kernel run. -/
namespace K69
open PySem PySem.Spec PyProof.Rows L2
abbrev R : PySem.W.OpenRow := PySem.W.OpenLaw.row PySem.Challenge.rw_copystem_k69_whole_either_order
abbrev hk : PySem.W.Hook := He.hookD 5 faL fnL
def ob (s : PySem.W.SharedT) : He.AlD := He.obsDG 5 faL fnL (HandSHeadRun.getT s)
theorem ob_eq (s : PySem.W.SharedT) : ob s = hk.obs s.abs := He.obsDG_eq (HandSHeadRun.getT_eq s)
theorem headRun (w : World) : HandSHeadRun.RunEq R (PySem.W.view R.prog [lawAt]) hk ob 6000 looseL w := by
  intro os
  kernel_rfl
end K69

set_option maxRecDepth 100000
set_option maxHeartbeats 4000000
/-! How the data stands in the abstract heap; the makers of promises. -/
namespace K69
open PySem PySem.Spec PyProof.Rows L2
open C8 (Cal Mak Met pe_c pe_mk pe_mt pe_mt0 pe_gc)

/-! ### promises by what the head tells -/
section
variable {P : Program} {w : World} {K : PySem.W.Frag} {mg : Str → Option Value} {base : Heap}
theorem calD {x : Str} {pa : Arguments} {bo : List Stmt} {sc : Scope} {f : Addr} {N ps : List Str} {k : Nat} {sp : Sp} (F : ∃ fd, FunD K x x pa bo sc [] [] f fd) (hm : mg x = some (.ref f)) (S : FnScope N ps sc)
    (b : ∀ (kV doc pm : Value) (an : Option Addr) (cdv ct : Value) (us : List Value), us.length = ps.length → bindArgs (PySem.W.fnOf x x pa bo sc .none kV doc pm an cdv ct) ⟨us, []⟩ = pure (ps.zip us)) (len : ∀ vs H Q E, sp vs H Q E → vs.length = ps.length)
    (hbody : ∀ (cdv : Value) (A : Around) (outer : List Env) (s : Shared) (H : Hp) (vs : List V) (Q : VK) (E : XK), Room k (A.deeper (envOfC x sc s.heap.objs.size f cdv)) → sp vs H Q E →
      ∃ t, PSs (cxOf CX0 P w K mg base N x sc f cdv A outer s H E).nox bo t ∧ t { nx := fun _ H' => Q .non H', rt := Q } (start N vs) H) : Cal P w K mg base (k + 1) x sp [] := by
  obtain ⟨fd, F⟩ := F
  exact ⟨f, fd, ps, [], F.ok S len fun cdv A outer s H vs Q E hr h => (hbody cdv A outer s H vs Q E hr h).imp fun t z => ⟨z.1.nox, z.2⟩, hm, F.kp, F.bindsN b, .nil⟩
theorem metD {m qual : Str} {C : Addr} {pa : Arguments} {bo : List Stmt} {sc : Scope} {f : Addr} {N ps : List Str} {k : Nat} {sp : Sp} (F : ∃ fd, FunD K m qual pa bo sc [] [] f fd) (c : Cls K C) (me : Meth K C m f) (S : FnScope N ps sc)
    (b : ∀ (kV doc pm : Value) (an : Option Addr) (cdv ct : Value) (us : List Value), us.length = ps.length → bindArgs (PySem.W.fnOf m qual pa bo sc .none kV doc pm an cdv ct) ⟨us, []⟩ = pure (ps.zip us)) (len : ∀ vs H Q E, sp vs H Q E → vs.length = ps.length)
    (hbody : ∀ (cdv : Value) (A : Around) (outer : List Env) (s : Shared) (H : Hp) (vs : List V) (Q : VK) (E : XK), Room k (A.deeper (envOfC qual sc s.heap.objs.size f cdv)) → sp vs H Q E →
      ∃ t, PSs (cxOf CX0 P w K mg base N qual sc f cdv A outer s H E).nox bo t ∧ t { nx := fun _ H' => Q .non H', rt := Q } (start N vs) H) : Met P w K mg base (k + 1) C m sp [] := by
  obtain ⟨fd, F⟩ := F
  exact ⟨f, fd, ps, [], c, me, F.ok S len fun cdv A outer s H vs Q E hr h => (hbody cdv A outer s H vs Q E hr h).imp fun t z => ⟨z.1.nox, z.2⟩, F.bindsN b, .nil⟩
theorem makD {x qual : Str} {C : Addr} {pa : Arguments} {bo : List Stmt} {sc : Scope} {f : Addr} {N ps : List Str} {k : Nat} {sp : Sp} (F : ∃ fd, FunD K "__init__" qual pa bo sc [] [] f fd) (hm : mg x = some (.ref C)) (M : Mk K C f) (S : FnScope N ps sc)
    (b : ∀ (kV doc pm : Value) (an : Option Addr) (cdv ct : Value) (us : List Value), us.length = ps.length → bindArgs (PySem.W.fnOf "__init__" qual pa bo sc .none kV doc pm an cdv ct) ⟨us, []⟩ = pure (ps.zip us)) (len : ∀ vs H Q E, sp vs H Q E → vs.length = ps.length)
    (hbody : ∀ (cdv : Value) (A : Around) (outer : List Env) (s : Shared) (H : Hp) (vs : List V) (Q : VK) (E : XK), Room k (A.deeper (envOfC qual sc s.heap.objs.size f cdv)) → sp vs H Q E →
      ∃ t, PSs (cxOf CX0 P w K mg base N qual sc f cdv A outer s H E).nox bo t ∧ t { nx := fun _ H' => Q .non H', rt := Q } (start N vs) H) : Mak P w K mg base (k + 1) x C sp [] := by
  obtain ⟨fd, F⟩ := F
  exact ⟨f, fd, ps, [], M, F.ok S len fun cdv A outer s H vs Q E hr h => (hbody cdv A outer s H vs Q E hr h).imp fun t z => ⟨z.1.nox, z.2⟩, hm, F.bindsN b, .nil⟩
end

/-! ### what stays -/
def isLD : HO → Bool
  | .lst _ => true
  | .dK _ => true
  | _ => false
/-- all that is no list and no dict is kept -/
def Kp (H H' : Hp) : Prop := ∀ b o, H b = some o → isLD o = false → H' b = some o
/-- all is kept but at F -/
def Fr (F : List Addr) (H H' : Hp) : Prop := ∀ b o, H b = some o → b ∉ F → H' b = some o
/-- at F stand lists and dicts -/
def LD (H : Hp) (F : List Addr) : Prop := ∀ b ∈ F, ∃ o, H b = some o ∧ isLD o = true
theorem _root_.L2.Same.kp {H H' : Hp} (s : Same H H') : Kp H H' := fun b o e _ => s b o e
theorem Kp.refl (H : Hp) : Kp H H := fun _ _ e _ => e
theorem Kp.trans {H H1 H2 : Hp} (a : Kp H H1) (b : Kp H1 H2) : Kp H H2 := fun c o e z => b c o (a c o e z) z
theorem same_upd {H : Hp} {p : Addr} {o : HO} (h : H p = none) : Same H (upd H p o) := fun b u e => by rw [upd_ne (ne_of_none e h)]; exact e
theorem kp_upd {H : Hp} {p : Addr} {o u : HO} (h : H p = some u) (z : isLD u = true) : Kp H (upd H p o) := fun b v e q => by
  rw [upd_ne (ne_of e h fun k => by rw [k, z] at q; cases q)]
  exact e
theorem fr_upd {H : Hp} {p : Addr} {o : HO} {F : List Addr} (h : p ∈ F) : Fr F H (upd H p o) := fun b u e n => by
  rw [upd_ne (fun z => n (by rw [z]; exact h))]
  exact e
theorem Fr.refl (F : List Addr) (H : Hp) : Fr F H H := fun _ _ e _ => e
theorem _root_.L2.Same.fr {H H' : Hp} (s : Same H H') (F : List Addr) : Fr F H H' := fun b o e _ => s b o e
theorem Fr.trans {F : List Addr} {H H1 H2 : Hp} (a : Fr F H H1) (b : Fr F H1 H2) : Fr F H H2 := fun c o e n => b c o (a c o e n) n
theorem Fr.kp {F : List Addr} {H H' : Hp} (f : Fr F H H') (l : LD H F) : Kp H H' := fun b o e z => f b o e fun n => by
  obtain ⟨u, e1, z1⟩ := l b n
  rw [e] at e1
  cases e1
  rw [z] at z1
  cases z1
theorem Fr.mono {F F' : List Addr} {H H' : Hp} (f : Fr F H H') (h : ∀ b ∈ F, b ∈ F') : Fr F' H H' := fun b o e n => f b o e fun m => n (h b m)
theorem Fr.same {H H' : Hp} (f : Fr [] H H') : Same H H' := fun b o e => f b o e (by intro z; cases z)

/-! ### data: readings, numbers, tuples of such -/
mutual
inductive Dt (H : Hp) : V → PyData → Prop
  | non : Dt H .non .none
  | int (i : Int) : Dt H (.int i) (.int i)
  | str (x : Str) : Dt H (.str x) (.str x)
  | tup {a : Addr} {xs : List V} {ds : List PyData} : H a = some (.tup xs) → DtAll H xs ds → Dt H (.ref a) (.tuple ds)
inductive DtAll (H : Hp) : List V → List PyData → Prop
  | nil : DtAll H [] []
  | cons {v : V} {vs : List V} {d : PyData} {ds : List PyData} : Dt H v d → DtAll H vs ds → DtAll H (v :: vs) (d :: ds)
end
mutual
theorem Dt.kp {H H' : Hp} (k : Kp H H') : ∀ (d : PyData) (v : V), Dt H v d → Dt H' v d
  | .none, _, h => by cases h; exact .non
  | .int i, _, h => by cases h; exact .int i
  | .str x, _, h => by cases h; exact .str x
  | .tuple ds, _, h => by
    cases h with
    | tup ha hs => exact .tup (k _ _ ha rfl) (DtAll.kp k ds _ hs)
  | .bool _, _, h => nomatch h
  | .list _, _, h => nomatch h
  | .dict .., _, h => nomatch h
theorem DtAll.kp {H H' : Hp} (k : Kp H H') : ∀ (ds : List PyData) (vs : List V), DtAll H vs ds → DtAll H' vs ds
  | [], _, h => by cases h; exact .nil
  | d :: ds, _, h => by
    cases h with
    | cons h1 h2 => exact .cons (Dt.kp k d _ h1) (DtAll.kp k ds _ h2)
end
theorem Dt.same {H H' : Hp} (k : Same H H') {d : PyData} {v : V} (h : Dt H v d) : Dt H' v d := Dt.kp k.kp d v h
theorem DtAll.same {H H' : Hp} (k : Same H H') {ds : List PyData} {vs : List V} (h : DtAll H vs ds) : DtAll H' vs ds := DtAll.kp k.kp ds vs h
theorem Dt.tup_ {H : Hp} {v : V} {ds : List PyData} (h : Dt H v (.tuple ds)) : ∃ a xs, v = .ref a ∧ H a = some (.tup xs) ∧ DtAll H xs ds := by
  cases h with
  | tup ha hs => exact ⟨_, _, rfl, ha, hs⟩
theorem DtAll.len {H : Hp} : ∀ {vs : List V} {ds : List PyData}, DtAll H vs ds → vs.length = ds.length
  | [], _, h => by cases h; rfl
  | v :: vs, _, h => by
    cases h with
    | cons _ h2 => rw [List.length_cons, List.length_cons, DtAll.len h2]
theorem DtAll.get {H : Hp} : ∀ {vs : List V} {ds : List PyData} {i : Nat} {d : PyData}, DtAll H vs ds → ds[i]? = some d → ∃ v, vs[i]? = some v ∧ Dt H v d
  | [], _, i, d, h, e => by cases h; cases i <;> cases e
  | v :: vs, _, i, d, h, e => by
    cases h with
    | cons h1 h2 =>
      cases i with
      | zero => exact ⟨v, rfl, by rw [← Option.some.inj (show some _ = some d from e)]; exact h1⟩
      | succ i => exact DtAll.get (i := i) h2 e
theorem DtAll.get' {H : Hp} {vs : List V} {ds : List PyData} {i : Nat} {v : V} (h : DtAll H vs ds) (e : vs[i]? = some v) : ∃ d, ds[i]? = some d ∧ Dt H v d := by
  have hl := (List.getElem?_eq_some_iff.mp e).1
  have hl2 : i < ds.length := by rw [← h.len]; exact hl
  obtain ⟨v', e1, e2⟩ := h.get (List.getElem?_eq_getElem hl2)
  rw [e] at e1
  cases e1
  exact ⟨_, List.getElem?_eq_getElem hl2, e2⟩
theorem DtAll.app {H : Hp} : ∀ {vs ws : List V} {ds es : List PyData}, DtAll H vs ds → DtAll H ws es → DtAll H (vs ++ ws) (ds ++ es)
  | [], _, _, _, h, q => by cases h; exact q
  | _ :: _, _, _, _, h, q => by
    cases h with
    | cons h1 h2 => exact .cons h1 (DtAll.app h2 q)
theorem DtAll.of_get {H : Hp} : ∀ {vs : List V} {ds : List PyData}, vs.length = ds.length → (∀ (i : Nat) (v : V) (d : PyData), vs[i]? = some v → ds[i]? = some d → Dt H v d) → DtAll H vs ds
  | [], [], _, _ => .nil
  | [], _ :: _, e, _ => by cases e
  | _ :: _, [], e, _ => by cases e
  | v :: vs, d :: ds, e, h => .cons (h 0 v d rfl rfl) (DtAll.of_get (Nat.succ.inj e) fun i v d h1 h2 => h (i + 1) v d h1 h2)
/-- texts -/
theorem DtAll.strs (H : Hp) : ∀ l : List Str, DtAll H (l.map V.str) (l.map PyData.str)
  | [] => .nil
  | x :: r => .cons (.str x) (DtAll.strs H r)
theorem strs_of {H : Hp} : ∀ {l : List Str} {vs : List V}, DtAll H vs (l.map PyData.str) → vs = l.map V.str
  | [], _, h => by cases h; rfl
  | x :: r, _, h => by
    cases h with
    | cons h1 h2 => cases h1; rw [strs_of h2]; rfl
/-- a reading or a gap -/
def rv : Option Str → V
  | none => .non
  | some s => .str s
def rdD : Option Str → PyData
  | none => .none
  | some s => .str s
theorem dt_rv (H : Hp) (r : Option Str) : Dt H (rv r) (rdD r) := by cases r with
  | none => exact .non
  | some s => exact .str s
theorem rv_of {H : Hp} {r : Option Str} {v : V} (h : Dt H v (rdD r)) : v = rv r := by
  cases r with
  | none => cases h; rfl
  | some s => cases h; rfl
theorem rv_inj {a b : Option Str} (h : rv a = rv b) : a = b := by
  cases a <;> cases b <;> first | rfl | (cases h; rfl) | cases h
theorem dec_rv (a b : Option Str) : decide (rv a = rv b) = decide (a = b) := by
  by_cases h : a = b
  · rw [h, decide_eq_true rfl, decide_eq_true rfl]
  · rw [decide_eq_false h, decide_eq_false fun z => h (rv_inj z)]
theorem dec_rvN (a : Option Str) : decide (rv a = .non) = decide (a = none) := dec_rv a none
theorem scal_rv (a b : Option Str) : (a ≠ none ∨ b ≠ none) → scal (rv a) (rv b) = true := by
  cases a <;> cases b <;> intro h <;> first | rfl | (rcases h with h | h <;> exact absurd rfl h)
theorem rvs_of {H : Hp} : ∀ {l : List (Option Str)} {vs : List V}, DtAll H vs (l.map rdD) → vs = l.map rv
  | [], _, h => by cases h; rfl
  | x :: r, _, h => by
    cases h with
    | cons h1 h2 => rw [rv_of h1, rvs_of h2]; rfl
theorem DtAll.rvs (H : Hp) : ∀ l : List (Option Str), DtAll H (l.map rv) (l.map rdD)
  | [] => .nil
  | x :: r => .cons (dt_rv H x) (DtAll.rvs H r)
theorem int_of {H : Hp} {i : Int} {v : V} (h : Dt H v (.int i)) : v = .int i := by cases h; rfl
theorem str_of {H : Hp} {i : Str} {v : V} (h : Dt H v (.str i)) : v = .str i := by cases h; rfl
theorem non_of {H : Hp} {v : V} (h : Dt H v .none) : v = .non := by cases h; rfl

/-! ### answers: a new tuple, a new list, two tuples in one, an item -/
theorem sz {n : Nat} (h : n ≤ 100000) : n ≤ sizeLine := Nat.le_trans h (by rw [sizeLine_eq]; decide)
theorem szl {n : Nat} (h : n ≤ 100000) : n < sizeLine := Nat.lt_of_le_of_lt h (by rw [sizeLine_eq]; decide)
theorem tup_new {H : Hp} {xs : List V} {ds : List PyData} {Q : VK} (h : DtAll H xs ds) (hl : xs.length ≤ 100000) (k : ∀ H' v, Same H H' → Dt H' v (.tuple ds) → Q v H') :
    xs.length ≤ sizeLine ∧ ∀ p, H p = none → Q (.ref p) (upd H p (.tup xs)) :=
  ⟨sz hl, fun p hp => k _ _ (same_upd hp) (.tup upd_same (h.same (same_upd hp)))⟩
theorem lst_new {H : Hp} {xs : List V} {Q : VK} (hl : xs.length ≤ 100000) (k : ∀ H' p, Same H H' → H p = none → H' p = some (.lst xs) → Q (.ref p) H') :
    xs.length ≤ sizeLine ∧ ∀ p, H p = none → Q (.ref p) (upd H p (.lst xs)) :=
  ⟨sz hl, fun p hp => k _ _ (same_upd hp) hp upd_same⟩
theorem cat_tup {K : PySem.W.Frag} {H : Hp} {x y : V} {ds es : List PyData} {Q : VK} (h : Dt H x (.tuple ds)) (q : Dt H y (.tuple es)) (hl : ds.length + es.length ≤ 100000) (k : ∀ H' v, Same H H' → Dt H' v (.tuple (ds ++ es)) → Q v H') : rCatA K x y H Q := by
  obtain ⟨a, xs, rfl, ha, hs⟩ := h.tup_
  obtain ⟨b, ys, rfl, hb, ht⟩ := q.tup_
  refine ⟨a, b, xs, ys, rfl, rfl, .inl (.inl ha), .inl (.inl hb), by rw [hs.len, ht.len]; exact sz hl, fun e => ?_, fun _ e => ?_, fun _ _ p hp => ?_⟩
  · subst e
    cases hs
    exact k H _ (Same.refl H) (.tup hb ht)
  · subst e
    cases ht
    refine k H _ (Same.refl H) (.tup ha ?_)
    rw [List.append_nil]
    exact hs
  · exact k _ _ (same_upd hp) (.tup upd_same ((hs.app ht).same (same_upd hp)))
theorem ix_t {K : PySem.W.Frag} {H : Hp} {x : V} {ds : List PyData} {Q : VK} (j : Nat) {d : PyData} {i : Int} (h : Dt H x (.tuple ds)) (e : ds[j]? = some d) (k : ∀ v, Dt H v d → Q v H) (hi : i = (j : Int) := by rfl) : rIxT K x (.int i) H Q := by
  obtain ⟨a, xs, rfl, ha, hs⟩ := h.tup_
  obtain ⟨v, e1, e2⟩ := hs.get e
  exact ⟨a, xs, i, v, rfl, rfl, .inl (.inl ha), at_of hi e1, k v e2⟩
theorem ix_l {K : PySem.W.Frag} {H : Hp} {a : Addr} {xs : List V} {Q : VK} (j : Nat) {v : V} {i : Int} (h : H a = some (.lst xs)) (e : xs[j]? = some v) (k : Q v H) (hi : i = (j : Int) := by rfl) : rIxL K (.ref a) (.int i) H Q :=
  ⟨a, xs, i, v, rfl, rfl, .inl (.inl h), at_of hi e, k⟩
theorem ixN_nat {n j : Nat} (h : j < n) : ixN n (j : Int) = some j := by
  unfold ixN
  rw [if_pos (by omega), if_pos (by omega)]
  rfl

/-! ### cells, notes, deeds as data -/
def srcD : Option (Str × Nat) → PyData
  | none => .none
  | some p => .tuple [.str p.1, .int (p.2 : Nat)]
def cellD (c : Cell) : PyData := .tuple [rdD c.rd, .tuple (c.st.map rdD), srcD c.src, .tuple (c.came.map .str)]
def noteD (x : Note) : PyData := .tuple [.int (x.num : Nat), .str x.nm, .int (x.pl : Nat), rdD x.bef, .str x.aft]
def partD (p : Str × Nat × Nat) : PyData := .tuple [.str p.1, .int (p.2.1 : Nat), .int (p.2.2 : Nat)]
def slipD (s : Nat × Str) : PyData := .tuple [.int (s.1 : Nat), .str s.2]
def deedD : Deed → PyData
  | .write nm row => .tuple [.str "write", .str nm, .tuple (row.map .str)]
  | .copy nm parts slips => .tuple [.str "copy", .str nm, .tuple (parts.map partD), .tuple (slips.map slipD)]
  | .mend nm pl rd => .tuple [.str "mend", .str nm, .int (pl : Nat), .str rd]
  | .mtch nm md f l => .tuple [.str "match", .str nm, .str md, .int (f : Nat), .int (l : Nat)]
  | .lose nm f l => .tuple [.str "lose", .str nm, .int (f : Nat), .int (l : Nat)]
def deedWord : Deed → Str
  | .write .. => "write"
  | .copy .. => "copy"
  | .mend .. => "mend"
  | .mtch .. => "match"
  | .lose .. => "lose"
def deedArgs : Deed → List PyData
  | .write _ row => [.tuple (row.map .str)]
  | .copy _ parts slips => [.tuple (parts.map partD), .tuple (slips.map slipD)]
  | .mend _ pl rd => [.int (pl : Nat), .str rd]
  | .mtch _ md f l => [.str md, .int (f : Nat), .int (l : Nat)]
  | .lose _ f l => [.int (f : Nat), .int (l : Nat)]
theorem deedD_eq (d : Deed) : deedD d = .tuple (.str (deedWord d) :: .str d.nm :: deedArgs d) := by cases d <;> rfl

/-- an instance of Cell, the program's own -/
def cellF (r s o c : V) : List (Str × V) := [("reading", r), ("stood", s), ("source", o), ("came", c)]
abbrev CC (K : PySem.W.Frag) : Addr := He.ga K "Cell"
abbrev CH (K : PySem.W.Frag) : Addr := He.ga K "House"
abbrev CD (K : PySem.W.Frag) : Addr := He.ga K "Done"
structure CellAt (K : PySem.W.Frag) (H : Hp) (v : V) (c : Cell) : Prop where
  ex : ∃ (a dx : Addr) (s o w : V), v = .ref a ∧ H a = some (.ins (CC K) dx (cellF (rv c.rd) s o w)) ∧ Dt H s (.tuple (c.st.map rdD)) ∧ Dt H o (srcD c.src) ∧ Dt H w (.tuple (c.came.map .str))
theorem CellAt.kp {K : PySem.W.Frag} {H H' : Hp} {v : V} {c : Cell} (k : Kp H H') (h : CellAt K H v c) : CellAt K H' v c := by
  obtain ⟨a, dx, s, o, w, e, h1, h2, h3, h4⟩ := h.ex
  exact ⟨a, dx, s, o, w, e, k _ _ h1 rfl, Dt.kp k _ _ h2, Dt.kp k _ _ h3, Dt.kp k _ _ h4⟩
theorem CellAt.same {K : PySem.W.Frag} {H H' : Hp} {v : V} {c : Cell} (k : Same H H') (h : CellAt K H v c) : CellAt K H' v c := h.kp k.kp

/-! ### two lists side by side -/
structure Pw {α β : Type} (R : α → β → Prop) (xs : List α) (ys : List β) : Prop where
  len : xs.length = ys.length
  at_ : ∀ (i : Nat) (x : α) (y : β), xs[i]? = some x → ys[i]? = some y → R x y
theorem Pw.imp {α β : Type} {R S : α → β → Prop} {xs : List α} {ys : List β} (h : Pw R xs ys) (f : ∀ x y, R x y → S x y) : Pw S xs ys := ⟨h.len, fun i x y a b => f x y (h.at_ i x y a b)⟩
theorem Pw.nil {α β : Type} {R : α → β → Prop} : Pw R ([] : List α) ([] : List β) := ⟨rfl, fun i x y a _ => by simp at a⟩
theorem Pw.get {α β : Type} {R : α → β → Prop} {xs : List α} {ys : List β} (h : Pw R xs ys) {i : Nat} {y : β} (e : ys[i]? = some y) : ∃ x, xs[i]? = some x ∧ R x y := by
  have hl := (List.getElem?_eq_some_iff.mp e).1
  have h2 : i < xs.length := by rw [h.len]; exact hl
  exact ⟨xs[i], List.getElem?_eq_getElem h2, h.at_ i _ _ (List.getElem?_eq_getElem h2) e⟩
theorem Pw.get' {α β : Type} {R : α → β → Prop} {xs : List α} {ys : List β} (h : Pw R xs ys) {i : Nat} {x : α} (e : xs[i]? = some x) : ∃ y, ys[i]? = some y ∧ R x y := by
  have hl := (List.getElem?_eq_some_iff.mp e).1
  have h2 : i < ys.length := by rw [← h.len]; exact hl
  exact ⟨ys[i], List.getElem?_eq_getElem h2, h.at_ i _ _ e (List.getElem?_eq_getElem h2)⟩
theorem Pw.app {α β : Type} {R : α → β → Prop} {xs xs' : List α} {ys ys' : List β} (h : Pw R xs ys) (q : Pw R xs' ys') : Pw R (xs ++ xs') (ys ++ ys') := by
  refine ⟨by rw [List.length_append, List.length_append, h.len, q.len], fun i x y a b => ?_⟩
  rw [List.getElem?_append] at a b
  by_cases z : i < xs.length
  · rw [if_pos z] at a
    rw [if_pos (by rw [← h.len]; exact z)] at b
    exact h.at_ i x y a b
  · rw [if_neg z] at a
    rw [if_neg (by rw [← h.len]; exact z), ← h.len] at b
    exact q.at_ _ x y a b
theorem Pw.one {α β : Type} {R : α → β → Prop} {x : α} {y : β} (h : R x y) : Pw R [x] [y] := ⟨rfl, fun i a b e1 e2 => by
  cases i with
  | zero => cases e1; cases e2; exact h
  | succ i => simp at e1⟩
theorem Pw.snoc {α β : Type} {R : α → β → Prop} {xs : List α} {ys : List β} {x : α} {y : β} (h : Pw R xs ys) (q : R x y) : Pw R (xs ++ [x]) (ys ++ [y]) := h.app (.one q)
theorem Pw.set {α β : Type} {R : α → β → Prop} {xs : List α} {ys : List β} {x : α} {y : β} (h : Pw R xs ys) (j : Nat) (q : R x y) : Pw R (xs.set j x) (ys.set j y) := by
  refine ⟨by rw [List.length_set, List.length_set, h.len], fun i a b e1 e2 => ?_⟩
  rw [List.getElem?_set] at e1 e2
  by_cases z : j = i
  · rw [if_pos z] at e1 e2
    by_cases z2 : j < xs.length
    · rw [if_pos z2] at e1
      rw [if_pos (by rw [← h.len]; exact z2)] at e2
      cases e1
      cases e2
      exact q
    · rw [if_neg z2] at e1
      cases e1
  · rw [if_neg z] at e1 e2
    exact h.at_ i a b e1 e2
theorem Pw.drop {α β : Type} {R : α → β → Prop} {xs : List α} {ys : List β} (h : Pw R xs ys) (n : Nat) : Pw R (xs.drop n) (ys.drop n) := by
  refine ⟨by rw [List.length_drop, List.length_drop, h.len], fun i a b e1 e2 => ?_⟩
  rw [List.getElem?_drop] at e1 e2
  exact h.at_ _ a b e1 e2
theorem Pw.take {α β : Type} {R : α → β → Prop} {xs : List α} {ys : List β} (h : Pw R xs ys) (n : Nat) : Pw R (xs.take n) (ys.take n) := by
  refine ⟨by rw [List.length_take, List.length_take, h.len], fun i a b e1 e2 => ?_⟩
  rw [List.getElem?_take] at e1 e2
  by_cases z : i < n
  · rw [if_pos z] at e1 e2
    exact h.at_ _ a b e1 e2
  · rw [if_neg z] at e1
    cases e1
theorem Pw.dt {H : Hp} {vs : List V} {ds : List PyData} (h : Pw (fun v d => Dt H v d) vs ds) : DtAll H vs ds := .of_get h.len h.at_
theorem DtAll.pw {H : Hp} {vs : List V} {ds : List PyData} (h : DtAll H vs ds) : Pw (fun v d => Dt H v d) vs ds := ⟨h.len, fun i v d e1 e2 => by
  obtain ⟨v', e3, h3⟩ := h.get e2
  rw [e1] at e3
  cases e3
  exact h3⟩
theorem Pw.mapR {α β γ : Type} {R : α → γ → Prop} {xs : List α} {ys : List β} {g : β → γ} (h : Pw (fun x y => R x (g y)) xs ys) : Pw R xs (ys.map g) := ⟨by rw [List.length_map, h.len], fun i x y e1 e2 => by
  rw [List.getElem?_map] at e2
  cases q : ys[i]? with
  | none => rw [q] at e2; cases e2
  | some b =>
    rw [q] at e2
    cases e2
    exact h.at_ i x b e1 q⟩
theorem Pw.ofMap {α β γ : Type} {R : α → γ → Prop} {xs : List α} {ys : List β} {g : β → γ} (h : Pw R xs (ys.map g)) : Pw (fun x y => R x (g y)) xs ys := ⟨by rw [h.len, List.length_map], fun i x y e1 e2 => h.at_ i x _ e1 (by rw [List.getElem?_map, e2]; rfl)⟩
end K69

set_option maxRecDepth 100000
set_option maxHeartbeats 4000000
/-! Rules that the layer lacks: enumerate of a tuple, an own error made without arguments. -/
namespace K69R
open PySem
open Sem (wp)
theorem meets_enumT (l : Addr) (items : Array Value) :
    Meets (Builtin.«enumerate.__new__» ⟨[.type "enumerate", .ref l], []⟩) (fun _ R s => s.heap.IsTuple l items ∧
      R (.ok (.ret (.ref (s.heap.push { cls := .type "tuple_iterator", data := .fields #[.ref l, .int 0 0] }).objs.size)))
        { s with heap := (s.heap.push { cls := .type "tuple_iterator", data := .fields #[.ref l, .int 0 0] }).push { cls := .type "enumerate", data := .fields #[.none, .bool false, .ref s.heap.objs.size, rawInt 0, .none, .none] } }) :=
  .of_wp fun prog w A R s h => by
    obtain ⟨hp, g, d, tk, os⟩ := s; obtain ⟨h1, h⟩ := h
    have hsub := sub_enumerate
    have q1 : ∀ {A' : Around} {E : Value → Shared → Prop} {Q : Value → Shared → Prop}, Q (.ref hp.objs.size) ⟨hp.push { cls := .type "tuple_iterator", data := .fields #[.ref l, .int 0 0] }, g, d, tk, os⟩ → wpAny (model prog w) A' (pyIter (.ref l)) Q E ⟨hp, g, d, tk, os⟩ :=
      fun q => (begins_tuple l items).iter prog w _ _ ⟨hp, g, d, tk, os⟩ _ h1 q
    wp_walk using q1
    refine wpAny_stack_any fun st => wpAny_pure ?_
    split
    · rename_i c _ _ _ _ _
      cases (c == Value.type "enumerate")
      · wp_walk using q1
        exact ⟨_, rfl, h⟩
      · wp_walk using q1
        exact ⟨_, rfl, h⟩
    · wp_walk using q1
      exact ⟨_, rfl, h⟩
section
variable {prog : Program} {w : World} {A : Around} {E : Value → Shared → Prop} {s : Shared}
theorem call_enumT {l : Addr} {items : Array Value} {Q : Value → Shared → Prop} (hL : s.heap.IsTuple l items)
    (h : ∀ h', IsEnum h' (s.heap.objs.size + 1) s.heap.objs.size 0 .none → h'.IsTupleIter s.heap.objs.size l 0 → h'.objs.size = s.heap.objs.size + 2 →
      (∀ b o, s.heap.get? b = some o → h'.get? b = some o) → Q (.ref (s.heap.objs.size + 1)) { s with heap := h' }) :
    wpAny (model prog w) A (call (.type "enumerate") [.ref l]) Q E s := by
  refine callType_new F.called_enumerate (by decide) (F.typeCall_enumerate_1 _) (F.newCall_enumerate_1 _) (fun obj => F.args_object_init_2 obj _) F.entry_enumerate_new
    (meets_enumT l items) ⟨hL, ?_⟩
  have hz : (s.heap.push { cls := .type "tuple_iterator", data := .fields #[.ref l, .int 0 0] }).objs.size = s.heap.objs.size + 1 := Heap.size_push ..
  show _ ∧ _
  rw [hz]
  have he : IsEnum ((s.heap.push { cls := .type "tuple_iterator", data := .fields #[.ref l, .int 0 0] }).push
      { cls := .type "enumerate", data := .fields #[.none, .bool false, .ref s.heap.objs.size, rawInt 0, .none, .none] }) (s.heap.objs.size + 1) s.heap.objs.size 0 .none := by
    have := Heap.get?_push_size (s.heap.push { cls := .type "tuple_iterator", data := .fields #[.ref l, .int 0 0] })
      (o := { cls := .type "enumerate", data := .fields #[.none, .bool false, .ref s.heap.objs.size, rawInt 0, .none, .none] }) rfl
    rw [hz] at this; exact this
  refine ⟨⟨_, he, rfl⟩, h _ he ⟨_, Heap.get?_push_of_some _ (Heap.get?_push_size _ rfl), rfl, rfl⟩ (by rw [Heap.size_push, hz]) fun b o x => Heap.get?_push_of_some _ (Heap.get?_push_of_some _ x)⟩
end
end K69R
namespace K69
open PySem PySem.Spec PyProof.Rows L2
/-- the tuple at a as it stands at each turn, the items in new pairs with their numbers -/
def IteT (K : PySem.W.Frag) (a : Addr) : It :=
  ⟨fun i H => ∃ (xs : List V) (x : V), SqT K H a xs ∧ xs[i]? = some x, fun i H v H' => ∃ T x, v = .ref T ∧ H T = none ∧ H' = upd H T (.tup [.int (i : Nat), x]) ∧ ∀ xs, SqT K H a xs → xs[i]? = some x, fun i H => ∃ xs : List V, SqT K H a xs ∧ xs.length ≤ i⟩
theorem turn_enumT {P : Program} {w : World} {K : PySem.W.Frag} {elts : List Expr} {kk : Nat} {tpos : Pos} (a e it : Addr) (hat : a ≠ it) (hae : a ≠ e) :
    Turn P w K (.Tuple elts kk tpos) (IteT K a) [e, it] e (fun i h => (∃ old, IsEnum h e it ((i : Nat) : Int) old) ∧ h.IsTupleIter it a i ∧ e ≠ it) where
  mem := by simp
  obj := fun i h st b hb => by
    obtain ⟨⟨old, he⟩, ⟨o, ho, hc, hd⟩, _⟩ := st
    have e' : b = e ∨ b = it := by simpa using hb
    rcases e' with z | z
    · rw [z]; exact ⟨_, he, fun v q => nomatch q⟩
    · rw [z]; exact ⟨o, ho, fun v q => by rw [hd] at q; cases q⟩
  keep := fun i h h' st k => let ⟨⟨old, he⟩, hi, hne⟩ := st; ⟨⟨old, k e (by simp) _ he⟩, hi.at fun o q => k it (by simp) o q, hne⟩
  item := by
    intro X hP hw hK hc i pins s σ H E I hf st hg
    subst hP hw hK
    obtain ⟨⟨old, he⟩, hit, hne⟩ := st
    obtain ⟨xs, x, hq, hx⟩ := hg
    obtain ⟨its, rv, p, hz⟩ := I.tuple hq
    obtain ⟨u, hu, ru⟩ := rv.get hx
    have hel : e < s.heap.objs.size := Heap.lt_size he
    have hil : it < s.heap.objs.size := by obtain ⟨_, q, _⟩ := hit; exact Heap.lt_size q
    have hlt : i < its.toArray.size := by
      have := (List.getElem?_eq_some_iff.mp hu).1
      simpa using this
    refine wpAny_pyNext_enum_itemD (Draws.tuple (A := X.A.in1) (I.ok.hd hc) it a hat its.toArray) he ⟨hit, p⟩ hlt hne (by
      intro z
      have z2 : e = it ∨ e = a := by simpa using z
      rcases z2 with z | z
      · exact hne z
      · exact hae z.symm) fun y h' tk hy ho hst hT hsz hk => ?_
    have ey : y = u := by
      rw [show its.toArray[i]? = some u by simpa using hu] at hy
      exact (Option.some.inj hy).symm
    subst ey
    refine ⟨_, rfl, wpAny_letOwnedTupleGo_enum (s := { s with heap := h', toks := tk + 1 }) ho fun h'' he' sb => ?_⟩
    have hT2 : h''.get? s.heap.objs.size = some { cls := .type "tuple", data := .seq #[.int i tk, y] } := (sb.2 _ (Nat.ne_of_gt hel)).trans hT
    have new : ObjOk X.prog X.w (upd H s.heap.objs.size (.tup [.int (i : Nat), x])) h'' s.heap.objs.size (.tup [.int (i : Nat), x]) :=
      ⟨by show 2 ≤ sizeLine; decide, [.int i tk, y], .cons ⟨_, rfl⟩ (.cons ru .nil), ⟨_, hT2, rfl, _, rfl⟩⟩
    have I1 : Inv X pins σ (upd H s.heap.objs.size (.tup [.int (i : Nat), x])) { s with heap := h'', toks := tk + 1 } :=
      I.turnedNew (ch := [e, it]) (fun b ob hb q => (sb.2 b (fun z => hb (by simp [z]))).trans (hk b ob (fun z => hb (by simp [z])) (fun z => hb (by simp [z])) q)) hf (Nat.le_refl _) new
    refine ⟨.ref s.heap.objs.size, _, I1, rfl, ⟨_, x, rfl, I.hok.fresh (Nat.le_refl _), rfl, fun ys hy => by rw [I.tuple_inj hy hq]; exact hx⟩, ⟨⟨y, ?_⟩, hst.1.at fun o q => (sb.2 it (Ne.symm hne)).trans q, hne⟩, fun b hb => ?_⟩
    · have e1 : ((i + 1 : Nat) : Int) = (i : Int) + 1 := by omega
      rw [e1]; exact he'
    · have hb' : b < s.heap.objs.size := by
        have e' : b = e ∨ b = it := by simpa using hb
        rcases e' with z | z
        · rw [z]; exact hel
        · rw [z]; exact hil
      rw [upd_ne (Nat.ne_of_lt hb')]
      exact (hf b hb).1
  done := by
    intro X hP hw hK hc i pins s σ H E I hf st hg
    subst hP hw hK
    obtain ⟨⟨old, he⟩, hit, hne⟩ := st
    obtain ⟨xs, hq, hx⟩ := hg
    obtain ⟨its, rv, p, hz⟩ := I.tuple hq
    obtain ⟨f0, f1, f2, f3, f4, f5⟩ := hf it (by simp)
    have hl := rv.length
    unfold pyNext
    have hT : s.TypeIs (.ref e) "enumerate" := ⟨_, he, rfl⟩
    refine wpAny_bind (wpAny_attempt (wpAny_callSpecial?_slot (name := Str.ofString "__next__") hT F.slot_enumerate_next
      (wpAny_call_entry F.slot_enumerate_next hT F.entry_enumerate_next ?_ (F.args_enumerate_next_1 _))))
    show wpAny _ _ (field (.ref e) 2 >>= _) _ _ _
    refine wpAny_bind (wpAny_field he rfl (x := .ref it) rfl ?_)
    refine wpAny_bind (RZ.nextOf_tuple_end (I.ok.hd hc) hit p (by simp; omega) fun h' x he' hx' => ?_)
    obtain ⟨o, ho, hc'⟩ := hx'
    refine wpAny_bind (wpAny_isInstance (T := "StopIteration") (b := true) ⟨o, ho, hc'⟩ isSubtype_stop ?_)
    exact wpAny_pure ⟨rfl, I.turned (t' := s.toks) (fun b o hb q => he' b o hb q) f0 f1 f3 f4 f5⟩
  self := fun A i s Q E st h => let ⟨⟨_, he⟩, _⟩ := st; wpAny_pyIter_enum he h
def iEnumT (K : PySem.W.Frag) (ta : TA) : TI := fun σ H R => ta σ H fun vs H1 => ∃ a xs, vs = [.ref a] ∧ SqT K H1 a xs ∧ R (IteT K a) H1
theorem pi_enumT {X : Cx} {e : Expr} {ta : TA} {p pos tpos : Pos} {elts : List Expr} {kk : Nat} (hg : Gl X "enumerate") (hm : X.mg "enumerate" = none) (ha : PA X [e] ta) (hs : starEach [e] X.env = [(false, eval e X.env)] := by rfl) :
    PI X (.Tuple elts kk tpos) (.Call (.Name "enumerate" p) [e] [] pos) (iEnumT X.K ta) := by
  refine ⟨fun pins s σ H R I h => ?_⟩
  refine Call_ (ld_blt I hg hm boot_enumerate (PyProof.Rows.callWith_type1 (thn (ha.run pos pins s σ H _ I h) fun us s1 ⟨vs, H1, I1, r1, q1⟩ => ?_) hs rfl))
  obtain ⟨a, xs, ex, hq, q⟩ := q1
  subst ex
  cases r1 with
  | cons r rr =>
    cases rr
    cases r
    obtain ⟨its, rv, p', hz⟩ := I1.tuple hq
    have hal : a < s1.heap.objs.size := by obtain ⟨o, ho, _⟩ := p'; exact Heap.lt_size ho
    refine K69R.call_enumT p' fun h' he hit hsz hk => wpAny_pyIter_enum he ?_
    have I2 : Inv X pins σ H1 { s1 with heap := h' } := I1.kept (t' := s1.toks) hk
    refine ⟨s1.heap.objs.size + 1, [s1.heap.objs.size + 1, s1.heap.objs.size], _, _, H1, rfl, I2, turn_enumT a (s1.heap.objs.size + 1) s1.heap.objs.size (Nat.ne_of_lt hal) (Nat.ne_of_lt (Nat.lt_succ_of_lt hal)), ⟨⟨.none, he⟩, hit, Nat.succ_ne_self _⟩, fun b hb => ?_, q⟩
    have e' : b = s1.heap.objs.size + 1 ∨ b = s1.heap.objs.size := by simpa using hb
    have hle : s1.heap.objs.size ≤ b := by
      rcases e' with z | z
      · rw [z]; exact Nat.le_add_right _ _
      · rw [z]; exact Nat.le_refl _
    exact I1.fpOk hle (I1.hok.fresh hle)
theorem walk_enumT {K : PySem.W.Frag} {a : Addr} {xs : List V} : Walk (IteT K a) xs.length (fun H => SqT K H a xs) (YPair (fun i => some (.int (i : Nat))) (fun i => xs[i]?)) := by
  refine ⟨fun i _ hi q => ⟨xs, xs[i], q, by simp [hi]⟩, fun _ q => ⟨xs, q, Nat.le_refl _⟩, fun i H v H' _ q y => ?_⟩
  obtain ⟨T, x, h1, h2, h3, h4⟩ := y
  exact ⟨T, .int (i : Nat), x, h1, h2, h3, rfl, h4 xs q⟩
theorem walk_zipT {K : PySem.W.Frag} {a b : Addr} {xs ys : List V} {n : Nat} (hn : n = min xs.length ys.length) : Walk (RZ.ItzT K a b) n (fun H => SqT K H a xs ∧ SqT K H b ys) (YPair (fun i => xs[i]?) (fun i => ys[i]?)) := by
  subst hn
  refine ⟨fun i _ hi q => ?_, fun _ q => ⟨xs, ys, q.1, q.2, by omega⟩, fun i H v H' _ q y => ?_⟩
  · have h1 : i < xs.length := by omega
    have h2 : i < ys.length := by omega
    exact ⟨xs, ys, xs[i], ys[i], q.1, q.2, by simp [h1], by simp [h2]⟩
  · obtain ⟨T, x, z, h1, h2, h3, h4, h5⟩ := y
    exact ⟨T, x, z, h1, h2, h3, h4 xs q.1, h5 ys q.2⟩

/-- X(), X an own exception class without own __init__ -/
theorem pmk_own0 {X : Cx} {C : Addr} {bmB : List Value} {B newId initId : String} {x : Str} {p pos : Pos} (F : ExcBaseFacts B newId initId bmB) (q : PySem.W.excIn X.K C bmB newId = true) (gC : X.mg x = some (.ref C))
    (kC : PySem.W.keepIn X.K (.ref C) = true) (r : Raises X (.ref C)) (hg : Gl X x) (hdb : (x == ("__debug__" : Str)) = false := by decide) :
    PMk X (.Call (.Name x p) [] [] pos) (fun _ H Q => Q (.ref C) none H) := by
  intro pins s σ H Q I h
  refine wpAny_Call_Name_kw (ld_glob I hg gC ?_ hdb)
  refine PySem.W.callWith_K0 I.kIn kC ?_
  show wpAny _ _ (call (.ref C) []) _ _ _
  obtain ⟨bm, N, nm, qn, bs, hdct, sn, sub, ab, col, dd, k0, k1, k2, k3, k5, mN, hC, hN, hni, T⟩ := exc_obj I.kIn q
  refine wpAny_call_exc_subT F T hC hN hni (fun h' e hm => ?_) (Nat.zero_le _)
  exact mk_of I hm r h (I.hok.gone hm.new)

/-! ### rules within a comprehension's block: the written part by its letter -/
section
variable {X : Cx}
theorem ix_tup_B (K : PySem.W.Frag) (h : X.K = K := by rfl) : IxR X (rIxT K) := h ▸ ix_tup
theorem ix_list_B (K : PySem.W.Frag) (h : X.K = K := by rfl) : IxR X (rIxL K) := h ▸ ix_list
theorem call_len_seq_B (K : PySem.W.Frag) (h : X.K = K := by rfl) : CallR X (.builtin "len") (fun xs H Q => ∃ p ys, xs = [.ref p] ∧ (SqL K H p ys ∨ SqT K H p ys) ∧ Q (.int ys.length) H) := h ▸ call_len_seq
theorem pe_fld_B (K : PySem.W.Frag) {e : Expr} {f : Str} {pos : Pos} {ta : TE} (he : PE X e ta) (hb : attributeBase e f X.env (eval e X.env) = eval e X.env) (h : X.K = K := by rfl) : PE X (.Attribute e f pos) (tFld K ta f) := h ▸ pe_fld he hb
end
theorem szn {xs : List V} (n : Nat) (h : xs.length = n := by rfl) (hn : n ≤ 100000 := by decide) : xs.length ≤ 100000 := h ▸ hn
end K69

set_option maxRecDepth 100000
set_option maxHeartbeats 4000000
/-! Rows and deeds: what is a reading, a name, a deed; models; ties. -/
namespace K69
open PySem PySem.Spec PyProof.Rows L2
open C8 (Cal Mak Met pe_c pe_mk pe_mt pe_mt0 pe_gc)

/-! ### isinstance -/
theorem k_int_int : kitB "int" "int" = some true := by decide +kernel
theorem k_int_bool : kitB "int" "bool" = some false := by decide +kernel
theorem k_str_str : kitB "str" "str" = some true := by decide +kernel
theorem k_tup_tup : kitB "tuple" "tuple" = some true := by decide +kernel
theorem ty_int {K : PySem.W.Frag} {H : Hp} (i : Int) : TyX K H (.int i) (.type "int") := .base (.int i)
theorem ty_str {K : PySem.W.Frag} {H : Hp} (i : Str) : TyX K H (.str i) (.type "str") := .base (.str i)
theorem ty_tup {K : PySem.W.Frag} {H : Hp} {a : Addr} {xs : List V} (h : H a = some (.tup xs)) : TyX K H (.ref a) (.type "tuple") := .base (.tup h)
/-! ### letters -/
theorem letters_eq : ("abcdefghijklmnopqrstuvwxyz" : Str).cps.toList = List.range' 97 26 := by decide +kernel
theorem mem_letters {c : Nat} (h1 : 97 ≤ c) (h2 : c ≤ 122) : c ∈ ("abcdefghijklmnopqrstuvwxyz" : Str).cps.toList := by
  rw [letters_eq, List.mem_range'_1]
  omega
theorem reading_len {s : Str} (h : isReading s) : s.length ≤ sizeLine := Nat.le_trans h.1 (by decide)
theorem name_ne {s : Str} (h : isName s) : (!decide (V.str s = V.str "")) = true := by
  rw [decide_eq_false]
  · rfl
  · intro z
    injection z with z
    exact h.2 (by rw [z]; rfl)

/-! ### promises -/
def spNum : Sp := fun vs H Q _ => ∃ i : Int, vs = [.int i] ∧ Q (.bl true) H
def spWithin : Sp := fun vs H Q _ => ∃ i a b : Int, vs = [.int i, .int a, .int b] ∧ a ≤ i ∧ i ≤ b ∧ Q (.bl true) H
def spLetters : Sp := fun vs H Q _ => ∃ s : Str, vs = [.str s] ∧ isLetters s ∧ Q (.bl true) H
def spReading : Sp := fun vs H Q _ => ∃ s : Str, vs = [.str s] ∧ isReading s ∧ Q (.bl true) H
def spName : Sp := fun vs H Q _ => ∃ s : Str, vs = [.str s] ∧ isName s ∧ Q (.bl true) H
def spStretch : Sp := fun vs H Q _ => ∃ n f l : Nat, vs = [.int n, .int f, .int l] ∧ f < l ∧ l ≤ n ∧ Q (.bl true) H
def spFull : Sp := fun vs H Q _ => ∃ (n : Nat) (v : V) (row : List Str), vs = [.int n, v] ∧ Dt H v (.tuple (row.map .str)) ∧ row.length = n ∧ (∀ r ∈ row, isReading r) ∧ Q (.bl true) H
def spParts : Sp := fun vs H Q _ => ∃ (n : Nat) (v : V) (ps : List (Str × Nat × Nat)), vs = [.int n, v] ∧ Dt H v (.tuple (ps.map partD)) ∧ partsOk n 0 ps ∧ Q (.bl true) H
def spSlips : Sp := fun vs H Q _ => ∃ (n : Nat) (v : V) (ss : List (Nat × Str)) (cs : List Cell), vs = [.int n, v] ∧ Dt H v (.tuple (ss.map slipD)) ∧ slipsOk n cs 0 ss ∧ Q (.bl true) H

section
variable {P : Program} {w : World} {K : PySem.W.Frag} {mg : Str → Option Value} {base : Heap}
theorem sc_is_number : FnScope ["thing"] ["thing"] (defScope sD_is_number) := ⟨rfl, rfl, rfl, by decide +kernel, rfl, by decide +kernel, by decide +kernel⟩
theorem c_is_number (T : Txt K mg) : Cal P w K mg base 1 "is_number" (spNum) [] := by
  refine calD T.F_is_number T.glo_is_number sc_is_number (ps := ["thing"]) (k := 0) (fun _ _ _ _ _ _ us hl => match us, hl with | [_], _ => rfl) (fun vs H Q E h => ?_) (fun cdv A outer s H vs Q E hr h => ?_)
  · obtain ⟨_, rfl, _⟩ := h
    rfl
  refine ⟨_, (pss_one (ps_ret (pe_and (pe_callB call_isi (by rfl) T.free_isinstance (by decide +kernel) (pa_cons (pv 0) (pa_cons (pe_bltn (v := .ty "int") (by rfl) T.free_int (by decide +kernel) rfl) pa_nil))) (pe_one (pe_not (pe_callB call_isi (by rfl) T.free_isinstance (by decide +kernel) (pa_cons (pv 0) (pa_cons (pe_bltn (v := .ty "bool") (by rfl) T.free_bool (by decide +kernel) rfl) pa_nil)))))))), ?_⟩
  obtain ⟨i, rfl, k⟩ := h
  exact ⟨_, rfl, _, _, _, _, true, rfl, .ty _, ty_int i, kit_ty k_int_int, true, rfl, iteT ⟨_, rfl, _, _, _, _, false, rfl, .ty _, ty_int i, kit_ty k_int_bool, false, rfl, k⟩⟩
theorem sc_is_within : FnScope ["thing", "least", "most"] ["thing", "least", "most"] (defScope sD_is_within) := ⟨rfl, rfl, rfl, by decide +kernel, rfl, by decide +kernel, by decide +kernel⟩
theorem c_is_within (T : Txt K mg) : Cal P w K mg base 2 "is_within" (spWithin) [] := by
  have c_is_number := c_is_number (P := P) (w := w) (base := base) T
  refine calD T.F_is_within T.glo_is_within sc_is_within (ps := ["thing", "least", "most"]) (k := 1) (fun _ _ _ _ _ _ us hl => match us, hl with | [_, _, _], _ => rfl) (fun vs H Q E h => ?_) (fun cdv A outer s H vs Q E hr h => ?_)
  · obtain ⟨_, _, _, rfl, _⟩ := h
    rfl
  refine ⟨_, (pss_one (ps_ret (pe_and (pe_c c_is_number hr (by decide) rfl (pa_cons (pv 0) pa_nil)) (pe_one (pe_chain op_le op_le (pv 1) (pv 0) (pv 2)))))), ?_⟩
  obtain ⟨i, a, b, rfl, h1, h2, k⟩ := h
  refine ⟨_, rfl, i, rfl, true, rfl, iteT ?_⟩
  refine ⟨_, rfl, _, rfl, _, _, rfl, rfl, true, congrArg V.bl (decide_eq_true h1), iteT ⟨_, rfl, _, _, rfl, rfl, ?_⟩⟩
  show Q (.bl (decide (i ≤ b))) H
  rw [decide_eq_true h2]
  exact k
theorem sc_are_letters : FnScope ["text", "sign"] ["text"] (defScope sD_are_letters) := ⟨rfl, rfl, rfl, by decide +kernel, rfl, by decide +kernel, by decide +kernel⟩
theorem c_are_letters (T : Txt K mg) : Cal P w K mg base 1 "are_letters" (spLetters) [] := by
  refine calD T.F_are_letters T.glo_are_letters sc_are_letters (ps := ["text"]) (k := 0) (fun _ _ _ _ _ _ us hl => match us, hl with | [_], _ => rfl) (fun vs H Q E h => ?_) (fun cdv A outer s H vs Q E hr h => ?_)
  · obtain ⟨_, rfl, _⟩ := h
    rfl
  refine ⟨_, (pss_cons (ps_for PassesOwn.never rfl (pi_str (pv 0)) (pg_name (i := 1) sc_are_letters.nd rfl (Or.inl rfl)) (pss_one (ps_if (pt_cmpR op_notIn_sign (pv 1) (pe_gc rfl T.c_LETTERS) (by rfl)) (pss_one (ps_ret pe_bl)) pss_nil)))
      (pss_one (ps_ret pe_bl))), ?_⟩
  obtain ⟨z, rfl, hz, k⟩ := h
  refine ⟨_, rfl, z, rfl, for_it walk_str (fun i σ H' => H' = H ∧ ∃ v, σ = [some (.str z), v]) ⟨rfl, none, rfl⟩ (fun _ _ _ _ _ => trivial) ?_ ?_⟩
  · rintro i x σ H1 H' hi ⟨rfl, v, rfl⟩ ⟨rfl, c, hc, rfl⟩
    obtain ⟨h1, h2⟩ := hz c (Array.mem_toList_iff.mpr (Array.mem_of_getElem? hc))
    refine ⟨_, rfl, c, _, rfl, rfl, false, congrArg V.bl (by rw [decide_eq_true (mem_letters h1 h2)]; rfl), iteF ⟨rfl, _, rfl⟩⟩
  · rintro σ H' ⟨rfl, v, rfl⟩
    exact k
theorem sc_is_reading : FnScope ["thing"] ["thing"] (defScope sD_is_reading) := ⟨rfl, rfl, rfl, by decide +kernel, rfl, by decide +kernel, by decide +kernel⟩
theorem c_is_reading (T : Txt K mg) : Cal P w K mg base 2 "is_reading" (spReading) [] := by
  have c_are_letters := c_are_letters (P := P) (w := w) (base := base) T
  refine calD T.F_is_reading T.glo_is_reading sc_is_reading (ps := ["thing"]) (k := 1) (fun _ _ _ _ _ _ us hl => match us, hl with | [_], _ => rfl) (fun vs H Q E h => ?_) (fun cdv A outer s H vs Q E hr h => ?_)
  · obtain ⟨_, rfl, _⟩ := h
    rfl
  refine ⟨_, (pss_one (ps_ret (pe_and (pe_callB call_isi (by rfl) T.free_isinstance (by decide +kernel) (pa_cons (pv 0) (pa_cons (pe_bltn (v := .ty "str") (by rfl) T.free_str (by decide +kernel) rfl) pa_nil))) (pe_and (pe_cmpR op_le (pe_callB call_len_str (by rfl) T.free_len PySem.boot_len (pa_cons (pv 0) pa_nil)) (pe_gc rfl T.c_LONGEST) (nomark _)) (pe_one (pe_c c_are_letters hr (by decide) rfl (pa_cons (pv 0) pa_nil))))))), ?_⟩
  obtain ⟨z, rfl, hz, k⟩ := h
  refine ⟨_, rfl, _, _, _, _, true, rfl, .ty _, ty_str z, kit_ty k_str_str, true, rfl, iteT ?_⟩
  refine ⟨_, rfl, z, rfl, reading_len hz, _, _, rfl, rfl, true, congrArg V.bl (decide_eq_true ?_), iteT ⟨_, rfl, z, rfl, hz.2, k⟩⟩
  have := hz.1
  show (z.length : Int) ≤ 8
  omega
theorem sc_is_name : FnScope ["thing"] ["thing"] (defScope sD_is_name) := ⟨rfl, rfl, rfl, by decide +kernel, rfl, by decide +kernel, by decide +kernel⟩
theorem c_is_name (T : Txt K mg) : Cal P w K mg base 3 "is_name" (spName) [] := by
  have c_is_reading := c_is_reading (P := P) (w := w) (base := base) T
  refine calD T.F_is_name T.glo_is_name sc_is_name (ps := ["thing"]) (k := 2) (fun _ _ _ _ _ _ us hl => match us, hl with | [_], _ => rfl) (fun vs H Q E h => ?_) (fun cdv A outer s H vs Q E hr h => ?_)
  · obtain ⟨_, rfl, _⟩ := h
    rfl
  refine ⟨_, (pss_one (ps_ret (pe_and (pe_c c_is_reading hr (by decide) rfl (pa_cons (pv 0) pa_nil)) (pe_one (pe_cmpR op_ne (pv 0) pe_str (nomark _)))))), ?_⟩
  obtain ⟨z, rfl, hz, k⟩ := h
  refine ⟨_, rfl, z, rfl, hz.1, true, rfl, iteT ⟨_, rfl, rfl, ?_⟩⟩
  show Q (.bl (!decide (V.str z = V.str ""))) H
  rw [name_ne hz]
  exact k
theorem sc_is_stretch : FnScope ["many", "first", "last"] ["many", "first", "last"] (defScope sD_is_stretch) := ⟨rfl, rfl, rfl, by decide +kernel, rfl, by decide +kernel, by decide +kernel⟩
theorem c_is_stretch (T : Txt K mg) : Cal P w K mg base 3 "is_stretch" (spStretch) [] := by
  have c_is_within := c_is_within (P := P) (w := w) (base := base) T
  refine calD T.F_is_stretch T.glo_is_stretch sc_is_stretch (ps := ["many", "first", "last"]) (k := 2) (fun _ _ _ _ _ _ us hl => match us, hl with | [_, _, _], _ => rfl) (fun vs H Q E h => ?_) (fun cdv A outer s H vs Q E hr h => ?_)
  · obtain ⟨_, _, _, rfl, _⟩ := h
    rfl
  refine ⟨_, (pss_one (ps_ret (pe_and (pe_c c_is_within hr (by decide) rfl (pa_cons (pv 1) (pa_cons pe_int (pa_cons (pe_op op_sub (pv 0) pe_int) pa_nil)))) (pe_and (pe_c c_is_within hr (by decide) rfl (pa_cons (pv 2) (pa_cons pe_int (pa_cons (pv 0) pa_nil)))) (pe_one (pe_cmpR op_lt (pv 1) (pv 2) (nomark _))))))), ?_⟩
  obtain ⟨n, f, l, rfl, h1, h2, k⟩ := h
  refine ⟨_, rfl, _, rfl, _, _, rfl, rfl, _, _, _, rfl, by omega, by omega, true, rfl, iteT ?_⟩
  refine ⟨_, rfl, _, rfl, _, _, _, rfl, by omega, by omega, true, rfl, iteT ?_⟩
  refine ⟨_, rfl, _, rfl, _, _, rfl, rfl, ?_⟩
  show Q (.bl (decide ((f : Int) < (l : Int)))) H
  rw [decide_eq_true (by omega)]
  exact k
theorem sc_is_full_row : FnScope ["many", "thing", "one"] ["many", "thing"] (defScope sD_is_full_row) := ⟨rfl, rfl, rfl, by decide +kernel, rfl, by decide +kernel, by decide +kernel⟩
theorem c_is_full_row (T : Txt K mg) : Cal P w K mg base 3 "is_full_row" (spFull) [] := by
  have c_is_reading := c_is_reading (P := P) (w := w) (base := base) T
  refine calD T.F_is_full_row T.glo_is_full_row sc_is_full_row (ps := ["many", "thing"]) (k := 2) (fun _ _ _ _ _ _ us hl => match us, hl with | [_, _], _ => rfl) (fun vs H Q E h => ?_) (fun cdv A outer s H vs Q E hr h => ?_)
  · obtain ⟨_, _, _, rfl, _⟩ := h
    rfl
  refine ⟨_, (pss_cons (ps_if (PW.pt (pw_or (pt_not (pt_val (pe_callB call_isi (by rfl) T.free_isinstance (by decide +kernel) (pa_cons (pv 1) (pa_cons (pe_bltn (v := .ty "tuple") (by rfl) T.free_tuple (by decide +kernel) rfl) pa_nil))))) (pw_or1 (pt_cmpR op_ne (pe_callB call_len_seq (by rfl) T.free_len PySem.boot_len (pa_cons (pv 1) pa_nil)) (pv 0) (nomark _))))) (pss_one (ps_ret pe_bl)) pss_nil)
      (pss_cons (ps_for PassesOwn.never rfl (pi_tup (pv 1)) (pg_name (i := 2) sc_is_full_row.nd rfl (Or.inl rfl)) (pss_one (ps_if (pt_not (pt_val (pe_c c_is_reading hr (by decide) rfl (pa_cons (pv 2) pa_nil)))) (pss_one (ps_ret pe_bl)) pss_nil)))
      (pss_one (ps_ret pe_bl)))), ?_⟩
  obtain ⟨n, v, row, rfl, hv, hl, hr', k⟩ := h
  obtain ⟨a, xs, rfl, ha, hs⟩ := hv.tup_
  have ex : xs.length = row.length := by rw [hs.len, List.length_map]
  refine ⟨_, rfl, _, _, _, _, true, rfl, .ty _, ty_tup ha, kit_ty k_tup_tup, true, rfl, iteF ?_⟩
  refine ⟨_, rfl, _, _, rfl, .inr (.inl (.inl ha)), _, rfl, rfl, false, congrArg V.bl ?_, iteF ?_⟩
  · rw [decide_eq_true (congrArg V.int (by rw [ex, hl]))]; rfl
  refine ⟨_, rfl, a, rfl, ⟨_, .inl (.inl ha)⟩, for_it (walk_tup (xs := xs)) (fun i σ H' => H' = H ∧ ∃ v, σ = [some (.int n), some (.ref a), v]) ⟨rfl, none, rfl⟩ (fun _ _ _ _ p => by rw [p.1]; exact .inl (.inl ha)) ?_ ?_⟩
  · rintro i x σ H1 H' hi ⟨rfl, v, rfl⟩ ⟨rfl, hx⟩
    obtain ⟨d, hd, hD⟩ := hs.get' hx
    rw [List.getElem?_map] at hd
    cases q : row[i]? with
    | none => rw [q] at hd; cases hd
    | some r =>
      rw [q] at hd
      cases hd
      cases str_of hD
      exact ⟨_, rfl, r, rfl, hr' r (List.mem_of_getElem? q), true, rfl, iteF ⟨rfl, _, rfl⟩⟩
  · rintro σ H' ⟨rfl, v, rfl⟩
    exact k
theorem sc_are_parts : FnScope ["many", "thing", "begin", "part"] ["many", "thing"] (defScope sD_are_parts) := ⟨rfl, rfl, rfl, by decide +kernel, rfl, by decide +kernel, by decide +kernel⟩
theorem c_are_parts (T : Txt K mg) : Cal P w K mg base 4 "are_parts" (spParts) [] := by
  have c_is_name := c_is_name (P := P) (w := w) (base := base) T
  have c_is_stretch := c_is_stretch (P := P) (w := w) (base := base) T
  refine calD T.F_are_parts T.glo_are_parts sc_are_parts (ps := ["many", "thing"]) (k := 3) (fun _ _ _ _ _ _ us hl => match us, hl with | [_, _], _ => rfl) (fun vs H Q E h => ?_) (fun cdv A outer s H vs Q E hr h => ?_)
  · obtain ⟨_, _, _, rfl, _⟩ := h
    rfl
  refine ⟨_, (pss_cons (ps_if (pt_not (pt_val (pe_callB call_isi (by rfl) T.free_isinstance (by decide +kernel) (pa_cons (pv 1) (pa_cons (pe_bltn (v := .ty "tuple") (by rfl) T.free_tuple (by decide +kernel) rfl) pa_nil))))) (pss_one (ps_ret pe_bl)) pss_nil)
      (pss_cons (ps_set (i := 2) sc_are_parts.nd rfl (Or.inl rfl) pe_int)
      (pss_cons (ps_for PassesOwn.never rfl (pi_tup (pv 1)) (pg_name (i := 3) sc_are_parts.nd rfl (Or.inl rfl)) (pss_cons (ps_if (PW.pt (pw_or (pt_not (pt_val (pe_callB call_isi (by rfl) T.free_isinstance (by decide +kernel) (pa_cons (pv 3) (pa_cons (pe_bltn (v := .ty "tuple") (by rfl) T.free_tuple (by decide +kernel) rfl) pa_nil))))) (pw_or (pt_cmpR op_ne (pe_callB call_len_seq (by rfl) T.free_len PySem.boot_len (pa_cons (pv 3) pa_nil)) pe_int (nomark _)) (pw_or1 (pt_not (pt_val (pe_c c_is_name hr (by decide) rfl (pa_cons (pe_ix ix_tup (pv 3) pe_int (fun _ _ => rfl)) pa_nil)))))))) (pss_one (ps_ret pe_bl)) pss_nil)
      (pss_cons (ps_if (PW.pt (pw_or (pt_not (pt_val (pe_c c_is_stretch hr (by decide) rfl (pa_cons (pv 0) (pa_cons (pe_ix ix_tup (pv 3) pe_int (fun _ _ => rfl)) (pa_cons (pe_ix ix_tup (pv 3) pe_int (fun _ _ => rfl)) pa_nil)))))) (pw_or1 (pt_cmpR op_ne (pe_ix ix_tup (pv 3) pe_int (fun _ _ => rfl)) (pv 2) (nomark _))))) (pss_one (ps_ret pe_bl)) pss_nil)
      (pss_one (ps_set (i := 2) sc_are_parts.nd rfl (Or.inl rfl) (pe_ix ix_tup (pv 3) pe_int (fun _ _ => rfl)))))))
      (pss_one (ps_ret (pe_cmpR op_eq (pv 2) (pv 0) (nomark _))))))), ?_⟩
  obtain ⟨n, v, ps, rfl, hv, hok, k⟩ := h
  obtain ⟨a, xs, rfl, ha, hs⟩ := hv.tup_
  refine ⟨_, rfl, _, _, _, _, true, rfl, .ty _, ty_tup ha, kit_ty k_tup_tup, true, rfl, iteF ?_⟩
  refine ⟨_, rfl, a, rfl, ⟨_, .inl (.inl ha)⟩, for_it (walk_tup (xs := xs)) (fun i σ H' => H' = H ∧ ∃ (b : Nat) (v : Option V), σ = [some (.int n), some (.ref a), some (.int b), v] ∧ partsOk n b (ps.drop i)) ⟨rfl, 0, none, rfl, hok⟩ (fun _ _ _ _ p => by rw [p.1]; exact .inl (.inl ha)) ?_ ?_⟩
  · rintro i x σ H1 H' hi ⟨rfl, b, v, rfl, hb⟩ ⟨rfl, hx⟩
    obtain ⟨d, hd, hD⟩ := hs.get' hx
    rw [List.getElem?_map] at hd
    cases q : ps[i]? with
    | none => rw [q] at hd; cases hd
    | some p =>
      rw [q] at hd
      cases hd
      have hi2 := (List.getElem?_eq_some_iff.mp q).1
      have hp : ps[i] = p := (List.getElem?_eq_some_iff.mp q).2
      rw [List.drop_eq_getElem_cons hi2, hp] at hb
      obtain ⟨m, f, l⟩ := p
      obtain ⟨h1, h2, h3, h4, h5⟩ := hb
      simp only at h1 h2 h3 h4 h5
      subst h2
      obtain ⟨pa, pxs, rfl, hpa, hps⟩ := hD.tup_
      cases hps with
      | cons e1 hps => cases hps with
        | cons e2 hps => cases hps with
          | cons e3 hps =>
            cases hps
            cases str_of e1
            cases int_of e2
            cases int_of e3
            refine ⟨_, rfl, _, _, _, _, true, rfl, .ty _, ty_tup hpa, kit_ty k_tup_tup, true, rfl, iteF ⟨_, rfl, _, _, rfl, .inr (.inl (.inl hpa)), rfl, false, rfl, iteF ⟨_, rfl, _, _, _, _, rfl, rfl, .inl (.inl hpa), rfl, m, rfl, h1, true, rfl, iteF ?_⟩⟩⟩
            refine ⟨_, rfl, _, rfl, _, _, _, _, rfl, rfl, .inl (.inl hpa), rfl, _, rfl, _, _, _, _, rfl, rfl, .inl (.inl hpa), rfl, n, f, l, rfl, h3, h4, true, rfl, iteF ⟨_, rfl, _, _, _, _, rfl, rfl, .inl (.inl hpa), rfl, _, rfl, rfl, false, ?_, iteF ?_⟩⟩
            · exact congrArg V.bl (by rw [decide_eq_true rfl]; rfl)
            · exact ⟨_, rfl, _, _, _, _, rfl, rfl, .inl (.inl hpa), rfl, rfl, l, _, rfl, h5⟩
  · rintro σ H' ⟨rfl, b, v, rfl, hb⟩
    rw [show ps.drop xs.length = [] by rw [hs.len, List.length_map, List.drop_length]] at hb
    have e : b = n := hb
    refine ⟨_, rfl, _, rfl, rfl, ?_⟩
    show Q (.bl (decide (V.int (b : Int) = V.int (n : Int)))) _
    rw [e, decide_eq_true rfl]
    exact k
theorem sc_are_slips : FnScope ["many", "thing", "least", "slip"] ["many", "thing"] (defScope sD_are_slips) := ⟨rfl, rfl, rfl, by decide +kernel, rfl, by decide +kernel, by decide +kernel⟩
theorem c_are_slips (T : Txt K mg) : Cal P w K mg base 3 "are_slips" (spSlips) [] := by
  have c_is_within := c_is_within (P := P) (w := w) (base := base) T
  have c_is_reading := c_is_reading (P := P) (w := w) (base := base) T
  refine calD T.F_are_slips T.glo_are_slips sc_are_slips (ps := ["many", "thing"]) (k := 2) (fun _ _ _ _ _ _ us hl => match us, hl with | [_, _], _ => rfl) (fun vs H Q E h => ?_) (fun cdv A outer s H vs Q E hr h => ?_)
  · obtain ⟨_, _, _, _, rfl, _⟩ := h
    rfl
  refine ⟨_, (pss_cons (ps_if (pt_not (pt_val (pe_callB call_isi (by rfl) T.free_isinstance (by decide +kernel) (pa_cons (pv 1) (pa_cons (pe_bltn (v := .ty "tuple") (by rfl) T.free_tuple (by decide +kernel) rfl) pa_nil))))) (pss_one (ps_ret pe_bl)) pss_nil)
      (pss_cons (ps_set (i := 2) sc_are_slips.nd rfl (Or.inl rfl) pe_int)
      (pss_cons (ps_for PassesOwn.never rfl (pi_tup (pv 1)) (pg_name (i := 3) sc_are_slips.nd rfl (Or.inl rfl)) (pss_cons (ps_if (PW.pt (pw_or (pt_not (pt_val (pe_callB call_isi (by rfl) T.free_isinstance (by decide +kernel) (pa_cons (pv 3) (pa_cons (pe_bltn (v := .ty "tuple") (by rfl) T.free_tuple (by decide +kernel) rfl) pa_nil))))) (pw_or (pt_cmpR op_ne (pe_callB call_len_seq (by rfl) T.free_len PySem.boot_len (pa_cons (pv 3) pa_nil)) pe_int (nomark _)) (pw_or1 (pt_not (pt_val (pe_c c_is_within hr (by decide) rfl (pa_cons (pe_ix ix_tup (pv 3) pe_int (fun _ _ => rfl)) (pa_cons (pv 2) (pa_cons (pe_op op_sub (pv 0) pe_int) pa_nil)))))))))) (pss_one (ps_ret pe_bl)) pss_nil)
      (pss_cons (ps_if (pt_not (pt_val (pe_c c_is_reading hr (by decide) rfl (pa_cons (pe_ix ix_tup (pv 3) pe_int (fun _ _ => rfl)) pa_nil)))) (pss_one (ps_ret pe_bl)) pss_nil)
      (pss_one (ps_set (i := 2) sc_are_slips.nd rfl (Or.inl rfl) (pe_op op_add (pe_ix ix_tup (pv 3) pe_int (fun _ _ => rfl)) pe_int))))))
      (pss_one (ps_ret pe_bl))))), ?_⟩
  obtain ⟨n, v, ss, cs, rfl, hv, hok, k⟩ := h
  obtain ⟨a, xs, rfl, ha, hs⟩ := hv.tup_
  refine ⟨_, rfl, _, _, _, _, true, rfl, .ty _, ty_tup ha, kit_ty k_tup_tup, true, rfl, iteF ?_⟩
  refine ⟨_, rfl, a, rfl, ⟨_, .inl (.inl ha)⟩, for_it (walk_tup (xs := xs)) (fun i σ H' => H' = H ∧ ∃ (b : Nat) (v : Option V), σ = [some (.int n), some (.ref a), some (.int b), v] ∧ slipsOk n cs b (ss.drop i)) ⟨rfl, 0, none, rfl, hok⟩ (fun _ _ _ _ p => by rw [p.1]; exact .inl (.inl ha)) ?_ ?_⟩
  · rintro i x σ H1 H' hi ⟨rfl, b, v, rfl, hb⟩ ⟨rfl, hx⟩
    obtain ⟨d, hd, hD⟩ := hs.get' hx
    rw [List.getElem?_map] at hd
    cases q : ss[i]? with
    | none => rw [q] at hd; cases hd
    | some p =>
      rw [q] at hd
      cases hd
      have hi2 := (List.getElem?_eq_some_iff.mp q).1
      have hp : ss[i] = p := (List.getElem?_eq_some_iff.mp q).2
      rw [List.drop_eq_getElem_cons hi2, hp] at hb
      obtain ⟨pl, rd⟩ := p
      obtain ⟨h1, h2, h3, h4, h5⟩ := hb
      simp only at h1 h2 h3 h4 h5
      obtain ⟨pa, pxs, rfl, hpa, hps⟩ := hD.tup_
      cases hps with
      | cons e1 hps => cases hps with
        | cons e2 hps =>
          cases hps
          cases int_of e1
          cases str_of e2
          refine ⟨_, rfl, _, _, _, _, true, rfl, .ty _, ty_tup hpa, kit_ty k_tup_tup, true, rfl, iteF ⟨_, rfl, _, _, rfl, .inr (.inl (.inl hpa)), rfl, false, rfl, iteF ⟨_, rfl, _, _, _, _, rfl, rfl, .inl (.inl hpa), rfl, _, rfl, _, rfl, _, _, rfl, rfl, _, _, _, rfl, (by omega), (by omega), true, rfl, iteF ?_⟩⟩⟩
          refine ⟨_, rfl, _, _, _, _, rfl, rfl, .inl (.inl hpa), rfl, rd, rfl, h3, true, rfl, iteF ?_⟩
          exact ⟨_, rfl, _, _, _, _, rfl, rfl, .inl (.inl hpa), rfl, _, _, rfl, rfl, rfl, pl + 1, _, rfl, h5⟩
  · rintro σ H' ⟨rfl, b, v, rfl, hb⟩
    exact k
end

/-! ### words of deeds -/
theorem w_ww : decide (V.str "write" = V.str "write") = true := by decide +kernel
theorem w_cw : decide (V.str "copy" = V.str "write") = false := by decide +kernel
theorem w_cc : decide (V.str "copy" = V.str "copy") = true := by decide +kernel
theorem w_mw : decide (V.str "mend" = V.str "write") = false := by decide +kernel
theorem w_mc : decide (V.str "mend" = V.str "copy") = false := by decide +kernel
theorem w_mm : decide (V.str "mend" = V.str "mend") = true := by decide +kernel
theorem w_tw : decide (V.str "match" = V.str "write") = false := by decide +kernel
theorem w_tc : decide (V.str "match" = V.str "copy") = false := by decide +kernel
theorem w_tm : decide (V.str "match" = V.str "mend") = false := by decide +kernel
theorem w_tt : decide (V.str "match" = V.str "match") = true := by decide +kernel
theorem w_lw : decide (V.str "lose" = V.str "write") = false := by decide +kernel
theorem w_lc : decide (V.str "lose" = V.str "copy") = false := by decide +kernel
theorem w_lm : decide (V.str "lose" = V.str "mend") = false := by decide +kernel
theorem w_lt : decide (V.str "lose" = V.str "match") = false := by decide +kernel
theorem w_wc : decide (V.str "write" = V.str "copy") = false := by decide +kernel
theorem w_wt : decide (V.str "write" = V.str "match") = false := by decide +kernel
theorem w_wm : decide (V.str "write" = V.str "mend") = false := by decide +kernel
theorem w_wl : decide (V.str "write" = V.str "lose") = false := by decide +kernel
theorem w_cm : decide (V.str "copy" = V.str "mend") = false := by decide +kernel
theorem w_ct : decide (V.str "copy" = V.str "match") = false := by decide +kernel
theorem w_cl : decide (V.str "copy" = V.str "lose") = false := by decide +kernel
theorem w_ml : decide (V.str "mend" = V.str "lose") = false := by decide +kernel
theorem w_mt : decide (V.str "mend" = V.str "match") = false := by decide +kernel
theorem w_tl : decide (V.str "match" = V.str "lose") = false := by decide +kernel
theorem w_ll : decide (V.str "lose" = V.str "lose") = true := by decide +kernel
theorem in_mk (d : Deed) : inV (.str (deedWord d)) [.str "write", .str "copy"] = d.makes := by
  have h1 : inV (.str "write") [.str "write", .str "copy"] = true := by decide +kernel
  have h2 : inV (.str "copy") [.str "write", .str "copy"] = true := by decide +kernel
  have h3 : inV (.str "mend") [.str "write", .str "copy"] = false := by decide +kernel
  have h4 : inV (.str "match") [.str "write", .str "copy"] = false := by decide +kernel
  have h5 : inV (.str "lose") [.str "write", .str "copy"] = false := by decide +kernel
  cases d
  · exact h1
  · exact h2
  · exact h3
  · exact h4
  · exact h5
theorem in_ch (d : Deed) : inV (.str (deedWord d)) [.str "mend", .str "match", .str "lose"] = !d.makes := by
  have h1 : inV (.str "write") [.str "mend", .str "match", .str "lose"] = false := by decide +kernel
  have h2 : inV (.str "copy") [.str "mend", .str "match", .str "lose"] = false := by decide +kernel
  have h3 : inV (.str "mend") [.str "mend", .str "match", .str "lose"] = true := by decide +kernel
  have h4 : inV (.str "match") [.str "mend", .str "match", .str "lose"] = true := by decide +kernel
  have h5 : inV (.str "lose") [.str "mend", .str "match", .str "lose"] = true := by decide +kernel
  cases d
  · exact h1
  · exact h2
  · exact h3
  · exact h4
  · exact h5

def spMaking : Sp := fun vs H Q _ => ∃ (n : Nat) (v : V) (d : Deed) (bk : Str → List Cell), vs = [.int n, v] ∧ Dt H v (deedD d) ∧ Fits n bk d ∧ d.makes = true ∧ Q (.bl true) H
def spChanging : Sp := fun vs H Q _ => ∃ (n : Nat) (v : V) (d : Deed) (bk : Str → List Cell), vs = [.int n, v] ∧ Dt H v (deedD d) ∧ Fits n bk d ∧ d.makes = false ∧ Q (.bl true) H
def spIsDeed : Sp := fun vs H Q _ => ∃ (n : Nat) (v : V) (d : Deed) (bk : Str → List Cell), vs = [.int n, v] ∧ Dt H v (deedD d) ∧ Fits n bk d ∧ ∀ H', Same H H' → Q (.bl true) H'
def spMakes : Sp := fun vs H Q _ => ∃ (v : V) (d : Deed), vs = [v] ∧ Dt H v (deedD d) ∧ ∀ H', Same H H' → Q (.bl d.makes) H'
def spModels : Sp := fun vs H Q _ => ∃ (v : V) (d : Deed), vs = [v] ∧ Dt H v (deedD d) ∧ d.models.length ≤ 1000 ∧ ∀ H' p, Same H H' → H p = none → H' p = some (.lst (d.models.map .str)) → Q (.ref p) H'
def spTied : Sp := fun vs H Q _ => ∃ (v u : V) (d e : Deed), vs = [v, u] ∧ Dt H v (deedD d) ∧ Dt H u (deedD e) ∧ d.models.length ≤ 1000 ∧ e.models.length ≤ 1000 ∧ ∀ k H', Same H H' → (k = true ↔ tied d e) → Q (.bl k) H'

section
variable {P : Program} {w : World} {K : PySem.W.Frag} {mg : Str → Option Value} {base : Heap}
theorem sc_is_making : FnScope ["many", "thing"] ["many", "thing"] (defScope sD_is_making) := ⟨rfl, rfl, rfl, by decide +kernel, rfl, by decide +kernel, by decide +kernel⟩
theorem c_is_making (T : Txt K mg) : Cal P w K mg base 5 "is_making" (spMaking) [] := by
  have c_is_full_row := c_is_full_row (P := P) (w := w) (base := base) T
  have c_are_slips := c_are_slips (P := P) (w := w) (base := base) T
  have c_are_parts := c_are_parts (P := P) (w := w) (base := base) T
  refine calD T.F_is_making T.glo_is_making sc_is_making (ps := ["many", "thing"]) (k := 4) (fun _ _ _ _ _ _ us hl => match us, hl with | [_, _], _ => rfl) (fun vs H Q E h => ?_) (fun cdv A outer s H vs Q E hr h => ?_)
  · obtain ⟨_, _, _, _, rfl, _⟩ := h
    rfl
  refine ⟨_, (pss_cons (ps_if (pt_cmpR op_eq (pe_ix ix_tup (pv 1) pe_int (fun _ _ => rfl)) pe_str (nomark _)) (pss_one (ps_ret (pe_and (pe_cmpR op_eq (pe_callB call_len_seq (by rfl) T.free_len PySem.boot_len (pa_cons (pv 1) pa_nil)) pe_int (nomark _)) (pe_one (pe_c c_is_full_row hr (by decide) rfl (pa_cons (pv 0) (pa_cons (pe_ix ix_tup (pv 1) pe_int (fun _ _ => rfl)) pa_nil))))))) pss_nil)
      (pss_one (ps_ret (pe_and (pe_cmpR op_eq (pe_callB call_len_seq (by rfl) T.free_len PySem.boot_len (pa_cons (pv 1) pa_nil)) pe_int (nomark _)) (pe_and (pe_c c_are_parts hr (by decide) rfl (pa_cons (pv 0) (pa_cons (pe_ix ix_tup (pv 1) pe_int (fun _ _ => rfl)) pa_nil))) (pe_one (pe_c c_are_slips hr (by decide) rfl (pa_cons (pv 0) (pa_cons (pe_ix ix_tup (pv 1) pe_int (fun _ _ => rfl)) pa_nil))))))))), ?_⟩
  obtain ⟨n, v, d, bk, rfl, hv, hf, hm, k⟩ := h
  cases d with
  | write nm row =>
    obtain ⟨a, xs, rfl, ha, hs⟩ := Dt.tup_ hv
    cases hs with
    | cons e1 hs => cases hs with
      | cons e2 hs => cases hs with
        | cons e3 hs =>
          cases hs
          cases str_of e1
          cases str_of e2
          refine ⟨_, rfl, _, _, _, _, rfl, rfl, .inl (.inl ha), rfl, rfl, true, congrArg V.bl w_ww, iteT ?_⟩
          refine ⟨_, rfl, _, _, rfl, .inr (.inl (.inl ha)), rfl, true, rfl, iteT ⟨_, rfl, _, rfl, _, _, _, _, rfl, rfl, .inl (.inl ha), rfl, n, _, row, rfl, e3, hf.2.1, hf.2.2, k⟩⟩
  | copy nm parts slips =>
    obtain ⟨a, xs, rfl, ha, hs⟩ := Dt.tup_ hv
    cases hs with
    | cons e1 hs => cases hs with
      | cons e2 hs => cases hs with
        | cons e3 hs => cases hs with
          | cons e4 hs =>
            cases hs
            cases str_of e1
            cases str_of e2
            refine ⟨_, rfl, _, _, _, _, rfl, rfl, .inl (.inl ha), rfl, rfl, false, congrArg V.bl w_cw, iteF ?_⟩
            refine ⟨_, rfl, _, _, rfl, .inr (.inl (.inl ha)), rfl, true, rfl, iteT ⟨_, rfl, _, rfl, _, _, _, _, rfl, rfl, .inl (.inl ha), rfl, n, _, parts, rfl, e3, hf.2.1, true, rfl, iteT ?_⟩⟩
            exact ⟨_, rfl, _, rfl, _, _, _, _, rfl, rfl, .inl (.inl ha), rfl, n, _, slips, _, rfl, e4, hf.2.2, k⟩
  | mend => cases hm
  | mtch => cases hm
  | lose => cases hm
theorem sc_is_changing : FnScope ["many", "thing"] ["many", "thing"] (defScope sD_is_changing) := ⟨rfl, rfl, rfl, by decide +kernel, rfl, by decide +kernel, by decide +kernel⟩
theorem c_is_changing (T : Txt K mg) : Cal P w K mg base 4 "is_changing" (spChanging) [] := by
  have c_is_reading := c_is_reading (P := P) (w := w) (base := base) T
  have c_is_within := c_is_within (P := P) (w := w) (base := base) T
  have c_is_stretch := c_is_stretch (P := P) (w := w) (base := base) T
  have c_is_name := c_is_name (P := P) (w := w) (base := base) T
  refine calD T.F_is_changing T.glo_is_changing sc_is_changing (ps := ["many", "thing"]) (k := 3) (fun _ _ _ _ _ _ us hl => match us, hl with | [_, _], _ => rfl) (fun vs H Q E h => ?_) (fun cdv A outer s H vs Q E hr h => ?_)
  · obtain ⟨_, _, _, _, rfl, _⟩ := h
    rfl
  refine ⟨_, (pss_cons (ps_if (pt_cmpR op_eq (pe_ix ix_tup (pv 1) pe_int (fun _ _ => rfl)) pe_str (nomark _)) (pss_one (ps_ret (pe_and (pe_cmpR op_eq (pe_callB call_len_seq (by rfl) T.free_len PySem.boot_len (pa_cons (pv 1) pa_nil)) pe_int (nomark _)) (pe_and (pe_c c_is_within hr (by decide) rfl (pa_cons (pe_ix ix_tup (pv 1) pe_int (fun _ _ => rfl)) (pa_cons pe_int (pa_cons (pe_op op_sub (pv 0) pe_int) pa_nil)))) (pe_one (pe_c c_is_reading hr (by decide) rfl (pa_cons (pe_ix ix_tup (pv 1) pe_int (fun _ _ => rfl)) pa_nil))))))) pss_nil)
      (pss_cons (ps_if (pt_cmpR op_eq (pe_ix ix_tup (pv 1) pe_int (fun _ _ => rfl)) pe_str (nomark _)) (pss_one (ps_ret (pe_and (pe_cmpR op_eq (pe_callB call_len_seq (by rfl) T.free_len PySem.boot_len (pa_cons (pv 1) pa_nil)) pe_int (nomark _)) (pe_and (pe_c c_is_name hr (by decide) rfl (pa_cons (pe_ix ix_tup (pv 1) pe_int (fun _ _ => rfl)) pa_nil)) (pe_one (pe_c c_is_stretch hr (by decide) rfl (pa_cons (pv 0) (pa_cons (pe_ix ix_tup (pv 1) pe_int (fun _ _ => rfl)) (pa_cons (pe_ix ix_tup (pv 1) pe_int (fun _ _ => rfl)) pa_nil))))))))) pss_nil)
      (pss_one (ps_ret (pe_and (pe_cmpR op_eq (pe_callB call_len_seq (by rfl) T.free_len PySem.boot_len (pa_cons (pv 1) pa_nil)) pe_int (nomark _)) (pe_one (pe_c c_is_stretch hr (by decide) rfl (pa_cons (pv 0) (pa_cons (pe_ix ix_tup (pv 1) pe_int (fun _ _ => rfl)) (pa_cons (pe_ix ix_tup (pv 1) pe_int (fun _ _ => rfl)) pa_nil)))))))))), ?_⟩
  obtain ⟨n, v, d, bk, rfl, hv, hf, hm, k⟩ := h
  cases d with
  | write => cases hm
  | copy => cases hm
  | mend nm pl rd =>
    obtain ⟨a, xs, rfl, ha, hs⟩ := Dt.tup_ hv
    cases hs with
    | cons e1 hs => cases hs with
      | cons e2 hs => cases hs with
        | cons e3 hs => cases hs with
          | cons e4 hs =>
            cases hs
            cases str_of e1
            cases int_of e3
            cases str_of e4
            obtain ⟨_, hp, hr2, _⟩ := hf
            refine ⟨_, rfl, _, _, _, _, rfl, rfl, .inl (.inl ha), rfl, rfl, true, congrArg V.bl w_mm, iteT ?_⟩
            refine ⟨_, rfl, _, _, rfl, .inr (.inl (.inl ha)), rfl, true, rfl, iteT ⟨_, rfl, _, _, _, _, rfl, rfl, .inl (.inl ha), rfl, _, rfl, _, _, rfl, rfl, _, _, _, rfl, (by omega), (by omega), true, rfl, iteT ?_⟩⟩
            exact ⟨_, rfl, _, _, _, _, rfl, rfl, .inl (.inl ha), rfl, rd, rfl, hr2, k⟩
  | mtch nm md f l =>
    obtain ⟨a, xs, rfl, ha, hs⟩ := Dt.tup_ hv
    cases hs with
    | cons e1 hs => cases hs with
      | cons e2 hs => cases hs with
        | cons e3 hs => cases hs with
          | cons e4 hs => cases hs with
            | cons e5 hs =>
              cases hs
              cases str_of e1
              cases str_of e3
              cases int_of e4
              cases int_of e5
              obtain ⟨_, hmd, h1, h2⟩ := hf
              refine ⟨_, rfl, _, _, _, _, rfl, rfl, .inl (.inl ha), rfl, rfl, false, congrArg V.bl w_tm, iteF ?_⟩
              refine ⟨_, rfl, _, _, _, _, rfl, rfl, .inl (.inl ha), rfl, rfl, true, congrArg V.bl w_tt, iteT ?_⟩
              refine ⟨_, rfl, _, _, rfl, .inr (.inl (.inl ha)), rfl, true, rfl, iteT ⟨_, rfl, _, _, _, _, rfl, rfl, .inl (.inl ha), rfl, md, rfl, hmd, true, rfl, iteT ?_⟩⟩
              exact ⟨_, rfl, _, rfl, _, _, _, _, rfl, rfl, .inl (.inl ha), rfl, _, rfl, _, _, _, _, rfl, rfl, .inl (.inl ha), rfl, n, f, l, rfl, h1, h2, k⟩
  | lose nm f l =>
    obtain ⟨a, xs, rfl, ha, hs⟩ := Dt.tup_ hv
    cases hs with
    | cons e1 hs => cases hs with
      | cons e2 hs => cases hs with
        | cons e3 hs => cases hs with
          | cons e4 hs =>
            cases hs
            cases str_of e1
            cases int_of e3
            cases int_of e4
            obtain ⟨_, h1, h2⟩ := hf
            refine ⟨_, rfl, _, _, _, _, rfl, rfl, .inl (.inl ha), rfl, rfl, false, congrArg V.bl w_lm, iteF ?_⟩
            refine ⟨_, rfl, _, _, _, _, rfl, rfl, .inl (.inl ha), rfl, rfl, false, congrArg V.bl w_lt, iteF ?_⟩
            refine ⟨_, rfl, _, _, rfl, .inr (.inl (.inl ha)), rfl, true, rfl, iteT ?_⟩
            exact ⟨_, rfl, _, rfl, _, _, _, _, rfl, rfl, .inl (.inl ha), rfl, _, rfl, _, _, _, _, rfl, rfl, .inl (.inl ha), rfl, n, f, l, rfl, h1, h2, k⟩
theorem sc_is_deed : FnScope ["many", "thing"] ["many", "thing"] (defScope sD_is_deed) := ⟨rfl, rfl, rfl, by decide +kernel, rfl, by decide +kernel, by decide +kernel⟩
theorem c_is_deed (T : Txt K mg) : Cal P w K mg base 6 "is_deed" (spIsDeed) [] := by
  have c_is_name := c_is_name (P := P) (w := w) (base := base) T
  have c_is_making := c_is_making (P := P) (w := w) (base := base) T
  have c_is_changing := c_is_changing (P := P) (w := w) (base := base) T
  refine calD T.F_is_deed T.glo_is_deed sc_is_deed (ps := ["many", "thing"]) (k := 5) (fun _ _ _ _ _ _ us hl => match us, hl with | [_, _], _ => rfl) (fun vs H Q E h => ?_) (fun cdv A outer s H vs Q E hr h => ?_)
  · obtain ⟨_, _, _, _, rfl, _⟩ := h
    rfl
  refine ⟨_, (pss_cons (ps_if (PW.pt (pw_or (pt_not (pt_val (pe_callB call_isi (by rfl) T.free_isinstance (by decide +kernel) (pa_cons (pv 1) (pa_cons (pe_bltn (v := .ty "tuple") (by rfl) T.free_tuple (by decide +kernel) rfl) pa_nil))))) (pw_or (pt_cmpR op_lt (pe_callB call_len_seq (by rfl) T.free_len PySem.boot_len (pa_cons (pv 1) pa_nil)) pe_int (nomark _)) (pw_or (pt_not (pt_val (pe_callB call_isi (by rfl) T.free_isinstance (by decide +kernel) (pa_cons (pe_ix ix_tup (pv 1) pe_int (fun _ _ => rfl)) (pa_cons (pe_bltn (v := .ty "str") (by rfl) T.free_str (by decide +kernel) rfl) pa_nil))))) (pw_or1 (pt_not (pt_val (pe_c c_is_name hr (by decide) rfl (pa_cons (pe_ix ix_tup (pv 1) pe_int (fun _ _ => rfl)) pa_nil))))))))) (pss_one (ps_ret pe_bl)) pss_nil)
      (pss_cons (ps_if (pt_cmpR op_in_seq (pe_ix ix_tup (pv 1) pe_int (fun _ _ => rfl)) (pe_tup (pa_cons pe_str (pa_cons pe_str pa_nil))) (by rfl)) (pss_one (ps_ret (pe_c c_is_making hr (by decide) rfl (pa_cons (pv 0) (pa_cons (pv 1) pa_nil))))) pss_nil)
      (pss_one (ps_ret (pe_and (pe_cmpR op_in_seq (pe_ix ix_tup (pv 1) pe_int (fun _ _ => rfl)) (pe_tup (pa_cons pe_str (pa_cons pe_str (pa_cons pe_str pa_nil)))) (by rfl)) (pe_one (pe_c c_is_changing hr (by decide) rfl (pa_cons (pv 0) (pa_cons (pv 1) pa_nil))))))))), ?_⟩
  obtain ⟨n, v, d, bk, rfl, hv, hf, k⟩ := h
  have hv0 := hv
  rw [deedD_eq] at hv
  obtain ⟨a, xs, rfl, ha, hs⟩ := hv.tup_
  have h3 : 3 ≤ xs.length := by rw [hs.len]; cases d <;> (show 3 ≤ _ + 1 + 1) <;> (first | (show 3 ≤ 1 + 1 + 1; omega) | (show 3 ≤ 2 + 1 + 1; omega) | (show 3 ≤ 3 + 1 + 1; omega))
  cases hs with
  | cons e1 hs => cases hs with
    | cons e2 hs =>
      cases str_of e1
      cases str_of e2
      refine ⟨_, rfl, _, _, _, _, true, rfl, .ty _, ty_tup ha, kit_ty k_tup_tup, true, rfl, iteF ⟨_, rfl, _, _, rfl, .inr (.inl (.inl ha)), _, _, rfl, rfl, false, congrArg V.bl (decide_eq_false (by omega)), iteF ?_⟩⟩
      refine ⟨_, rfl, _, _, _, _, rfl, rfl, .inl (.inl ha), at_of (j := 0) rfl rfl, _, _, _, _, true, rfl, .ty _, ty_str _, kit_ty k_str_str, true, rfl, iteF ⟨_, rfl, _, _, _, _, rfl, rfl, .inl (.inl ha), at_of (j := 1) rfl rfl, d.nm, rfl, fits_name hf, true, rfl, iteF ?_⟩⟩
      refine ⟨_, rfl, _, _, _, _, rfl, rfl, .inl (.inl ha), at_of (j := 0) rfl rfl, (by decide), fun p hp => ⟨p, _, rfl, .inr (.inl (.inl upd_same)), rfl, rfl, _, rfl, ?_⟩⟩
      show (if inV (.str (deedWord d)) [.str "write", .str "copy"] = true then _ else _)
      rw [in_mk]
      have s1 : Same H _ := same_upd (o := .tup [.str "write", .str "copy"]) hp
      cases hm : d.makes with
      | true => exact iteT ⟨_, rfl, _, rfl, n, _, d, bk, rfl, hv0.same s1, hf, hm, k _ s1⟩
      | false =>
        refine iteF ?_
        refine ⟨_, rfl, _, _, _, _, rfl, rfl, .inl (.inl (s1 _ _ ha)), at_of (j := 0) rfl rfl, (by decide), fun q hq => ⟨q, _, rfl, .inr (.inl (.inl upd_same)), rfl, rfl, true, ?_, iteT ?_⟩⟩
        · show V.bl (inV (.str (deedWord d)) [.str "mend", .str "match", .str "lose"]) = V.bl true
          rw [in_ch, hm]
          rfl
        · have s2 : Same H _ := s1.trans (same_upd (o := .tup [.str "mend", .str "match", .str "lose"]) hq)
          exact ⟨_, rfl, _, rfl, n, _, d, bk, rfl, hv0.same s2, hf, hm, k _ s2⟩
theorem sc_makes : FnScope ["deed"] ["deed"] (defScope sD_makes) := ⟨rfl, rfl, rfl, by decide +kernel, rfl, by decide +kernel, by decide +kernel⟩
theorem c_makes (T : Txt K mg) : Cal P w K mg base 1 "makes" (spMakes) [] := by
  refine calD T.F_makes T.glo_makes sc_makes (ps := ["deed"]) (k := 0) (fun _ _ _ _ _ _ us hl => match us, hl with | [_], _ => rfl) (fun vs H Q E h => ?_) (fun cdv A outer s H vs Q E hr h => ?_)
  · obtain ⟨_, _, rfl, _⟩ := h
    rfl
  refine ⟨_, (pss_one (ps_ret (pe_cmpR op_in_seq (pe_ix ix_tup (pv 0) pe_int (fun _ _ => rfl)) (pe_tup (pa_cons pe_str (pa_cons pe_str pa_nil))) (by rfl)))), ?_⟩
  obtain ⟨v, d, rfl, hv, k⟩ := h
  rw [deedD_eq] at hv
  obtain ⟨a, xs, rfl, ha, hs⟩ := hv.tup_
  cases hs with
  | cons e1 hs =>
    cases str_of e1
    refine ⟨_, rfl, _, _, _, _, rfl, rfl, .inl (.inl ha), at_of (j := 0) rfl rfl, (by decide), fun p hp => ⟨p, _, rfl, .inr (.inl (.inl upd_same)), rfl, rfl, ?_⟩⟩
    show Q (.bl (inV (.str (deedWord d)) [.str "write", .str "copy"])) _
    rw [in_mk]
    exact k _ (same_upd hp)
end
end K69

set_option maxRecDepth 100000
set_option maxHeartbeats 4000000
/-! Models and ties of deeds; the cells of a house. -/
namespace K69
open PySem PySem.Spec PyProof.Rows L2
open C8 (Cal Mak Met pe_c pe_mk pe_mt pe_mt0 pe_gc)

theorem take_more {α : Type} {l : List α} {i : Nat} {x : α} (h : l[i]? = some x) : l.take (i + 1) = l.take i ++ [x] := by
  rw [List.take_add_one, h]
  rfl
/-- an object that H does not know may change -/
theorem same_mut {H H' : Hp} {p : Addr} {o : HO} (e : Same H H') (h : H p = none) : Same H (upd H' p o) := fun b u q => by
  rw [upd_ne (ne_of_none q h)]
  exact e b u q
theorem inV_strs (x : Str) : ∀ l : List Str, inV (.str x) (l.map V.str) = decide (x ∈ l)
  | [] => (decide_eq_false (List.not_mem_nil)).symm
  | y :: r => by
    have ih := inV_strs x r
    show (eqV (.str y) (.str x) || inV (.str x) (r.map V.str)) = _
    rw [ih]
    show ((y == x) || decide (x ∈ r)) = _
    by_cases h : x = y
    · rw [decide_eq_true (show x ∈ y :: r from h ▸ List.mem_cons_self), h, beq_self_eq_true, Bool.true_or]
    · have h2 : (y == x) = false := beq_false_of_ne fun z => h z.symm
      rw [h2, Bool.false_or]
      by_cases q : x ∈ r
      · rw [decide_eq_true q, decide_eq_true (List.mem_cons_of_mem _ q)]
      · rw [decide_eq_false q, decide_eq_false fun z => (List.mem_cons.mp z).elim h q]
theorem flat_strs : ∀ l : List Str, (l.map V.str).all flatV = true
  | [] => rfl
  | _ :: r => flat_strs r

section
variable {P : Program} {w : World} {K : PySem.W.Frag} {mg : Str → Option Value} {base : Heap}
theorem sc_models_of : FnScope ["deed", "part"] ["deed"] (defScope sD_models_of) := ⟨rfl, rfl, rfl, by decide +kernel, rfl, by decide +kernel, by decide +kernel⟩
theorem c_models_of (T : Txt K mg) : Cal P w K mg base 1 "models_of" (spModels) [] := by
  refine calD T.F_models_of T.glo_models_of sc_models_of (ps := ["deed"]) (k := 0) (fun _ _ _ _ _ _ us hl => match us, hl with | [_], _ => rfl) (fun vs H Q E h => ?_) (fun cdv A outer s H vs Q E hr h => ?_)
  · obtain ⟨_, _, rfl, _⟩ := h
    rfl
  refine ⟨_, (pss_cons (ps_if (pt_cmpR op_eq (pe_ix ix_tup (pv 0) pe_int (fun _ _ => rfl)) pe_str (nomark _)) (pss_one (ps_ret (pe_lc (own := [("part", 1)]) rfl sc_models_of.nd (pi_tup (pe_ix ix_tup (pv 0) pe_int (fun _ _ => rfl))) (blkOk_by (own := [("part", 1)]) (N := ["deed", "part"]) (sc := defScope sD_models_of) (by decide +kernel)) (fun _ _ _ _ _ => (pg_name (i := 1) sc_models_of.nd rfl (Or.inl rfl))) (fun _ _ _ _ _ => pts_nil) (fun _ _ _ _ _ => (pe_ix (ix_tup_B K) (pv 1) pe_int (fun _ _ => rfl)))))) pss_nil)
      (pss_cons (ps_if (pt_cmpR op_eq (pe_ix ix_tup (pv 0) pe_int (fun _ _ => rfl)) pe_str (nomark _)) (pss_one (ps_ret (pe_lst (pa_cons (pe_ix ix_tup (pv 0) pe_int (fun _ _ => rfl)) pa_nil)))) pss_nil)
      (pss_one (ps_ret (pe_lst pa_nil))))), ?_⟩
  obtain ⟨v, d, rfl, hv, hm, k⟩ := h
  cases d with
  | copy nm parts slips =>
    obtain ⟨a, xs, rfl, ha, hs⟩ := Dt.tup_ hv
    cases hs with
    | cons e1 hs => cases hs with
      | cons e2 hs => cases hs with
        | cons e3 hs => cases hs with
          | cons e4 hs =>
            cases hs
            cases str_of e1
            obtain ⟨b, ys, rfl, hb, ht⟩ := e3.tup_
            refine ⟨_, rfl, _, _, _, _, rfl, rfl, .inl (.inl ha), rfl, rfl, true, congrArg V.bl w_cc, iteT ?_⟩
            have hl : ys.length = parts.length := by rw [ht.len, List.length_map]
            have hm2 : parts.length ≤ 1000 := by
              have := hm
              rw [show (Deed.copy nm parts slips).models = parts.map (·.1) from rfl, List.length_map] at this
              exact this
            refine ⟨_, rfl, _, _, _, _, rfl, rfl, .inl (.inl ha), rfl, b, rfl, ⟨_, .inl (.inl hb)⟩, fun D hD => lc_it (walk_tup (xs := ys)) (fun i H' => Same H H' ∧ H' D = some (.lst (((parts.map (·.1)).take i).map .str)))
              ⟨same_upd hD, upd_same⟩ (fun i H' _ p => .inl (.inl (p.1 _ _ hb))) ?_ ?_⟩
            · rintro i x H1 H' hi ⟨s1, h1⟩ ⟨rfl, hx⟩
              obtain ⟨d, hd, hDt⟩ := ht.get' hx
              rw [List.getElem?_map] at hd
              cases q : parts[i]? with
              | none => rw [q] at hd; cases hd
              | some p =>
                rw [q] at hd
                cases hd
                obtain ⟨pa, pxs, rfl, hpa, hps⟩ := (hDt.same s1).tup_
                cases hps with
                | cons f1 hps =>
                  cases str_of f1
                  refine ⟨rfl, _, rfl, _, _, _, _, rfl, rfl, .inl (.inl hpa), at_of (j := 0) rfl rfl, _, h1, ?_, same_mut s1 hD, ?_⟩
                  · rw [List.length_map]
                    exact szl (Nat.le_trans (List.length_take_le' _ _) (by rw [List.length_map]; omega))
                  · rw [upd_same, take_more (show (parts.map (·.1))[i]? = some p.1 by rw [List.getElem?_map, q]; rfl), List.map_append]
                    rfl
            · rintro H' ⟨s1, h1⟩
              refine k H' D s1 hD ?_
              rw [h1, List.take_of_length_le (by rw [List.length_map, hl]; exact Nat.le_refl _)]
              rfl
  | mtch nm md f l =>
    obtain ⟨a, xs, rfl, ha, hs⟩ := Dt.tup_ hv
    cases hs with
    | cons e1 hs => cases hs with
      | cons e2 hs => cases hs with
        | cons e3 hs =>
          cases str_of e1
          cases str_of e3
          refine ⟨_, rfl, _, _, _, _, rfl, rfl, .inl (.inl ha), at_of (j := 0) rfl rfl, rfl, false, congrArg V.bl w_tc, iteF ⟨_, rfl, _, _, _, _, rfl, rfl, .inl (.inl ha), at_of (j := 0) rfl rfl, rfl, true, congrArg V.bl w_tt, iteT ?_⟩⟩
          exact ⟨_, rfl, _, _, _, _, rfl, rfl, .inl (.inl ha), at_of (j := 2) rfl rfl, sz (szn 1), fun p hp => k _ p (same_upd hp) hp upd_same⟩
  | write nm row =>
    obtain ⟨a, xs, rfl, ha, hs⟩ := Dt.tup_ hv
    cases hs with
    | cons e1 hs =>
      cases str_of e1
      refine ⟨_, rfl, _, _, _, _, rfl, rfl, .inl (.inl ha), at_of (j := 0) rfl rfl, rfl, false, congrArg V.bl w_wc, iteF ⟨_, rfl, _, _, _, _, rfl, rfl, .inl (.inl ha), at_of (j := 0) rfl rfl, rfl, false, congrArg V.bl w_wt, iteF ?_⟩⟩
      exact ⟨Nat.zero_le _, fun p hp => k _ p (same_upd hp) hp upd_same⟩
  | mend nm pl rd =>
    obtain ⟨a, xs, rfl, ha, hs⟩ := Dt.tup_ hv
    cases hs with
    | cons e1 hs =>
      cases str_of e1
      refine ⟨_, rfl, _, _, _, _, rfl, rfl, .inl (.inl ha), at_of (j := 0) rfl rfl, rfl, false, congrArg V.bl w_mc, iteF ⟨_, rfl, _, _, _, _, rfl, rfl, .inl (.inl ha), at_of (j := 0) rfl rfl, rfl, false, congrArg V.bl w_mt, iteF ?_⟩⟩
      exact ⟨Nat.zero_le _, fun p hp => k _ p (same_upd hp) hp upd_same⟩
  | lose nm f l =>
    obtain ⟨a, xs, rfl, ha, hs⟩ := Dt.tup_ hv
    cases hs with
    | cons e1 hs =>
      cases str_of e1
      refine ⟨_, rfl, _, _, _, _, rfl, rfl, .inl (.inl ha), at_of (j := 0) rfl rfl, rfl, false, congrArg V.bl w_lc, iteF ⟨_, rfl, _, _, _, _, rfl, rfl, .inl (.inl ha), at_of (j := 0) rfl rfl, rfl, false, congrArg V.bl w_lt, iteF ?_⟩⟩
      exact ⟨Nat.zero_le _, fun p hp => k _ p (same_upd hp) hp upd_same⟩
theorem sc_are_tied : FnScope ["one", "other"] ["one", "other"] (defScope sD_are_tied) := ⟨rfl, rfl, rfl, by decide +kernel, rfl, by decide +kernel, by decide +kernel⟩
theorem c_are_tied (T : Txt K mg) : Cal P w K mg base 2 "are_tied" (spTied) [] := by
  have c_models_of := c_models_of (P := P) (w := w) (base := base) T
  refine calD T.F_are_tied T.glo_are_tied sc_are_tied (ps := ["one", "other"]) (k := 1) (fun _ _ _ _ _ _ us hl => match us, hl with | [_, _], _ => rfl) (fun vs H Q E h => ?_) (fun cdv A outer s H vs Q E hr h => ?_)
  · obtain ⟨_, _, _, _, rfl, _⟩ := h
    rfl
  refine ⟨_, (pss_one (ps_ret (pe_or (pe_cmpR op_eq (pe_ix ix_tup (pv 0) pe_int (fun _ _ => rfl)) (pe_ix ix_tup (pv 1) pe_int (fun _ _ => rfl)) (nomark _)) (pe_or (pe_cmpR op_in_seq (pe_ix ix_tup (pv 0) pe_int (fun _ _ => rfl)) (pe_c c_models_of hr (by decide) rfl (pa_cons (pv 1) pa_nil)) (by rfl)) (pe_one (pe_cmpR op_in_seq (pe_ix ix_tup (pv 1) pe_int (fun _ _ => rfl)) (pe_c c_models_of hr (by decide) rfl (pa_cons (pv 0) pa_nil)) (by rfl))))))), ?_⟩
  obtain ⟨v, u, d, e, rfl, hv, hu, md, me, k⟩ := h
  have hv0 := hv
  have hu0 := hu
  rw [deedD_eq] at hv hu
  obtain ⟨a, xs, rfl, ha, hs⟩ := hv.tup_
  obtain ⟨b, ys, rfl, hb, ht⟩ := hu.tup_
  cases hs with
  | cons _ hs => cases hs with
    | cons e2 hs => cases ht with
      | cons _ ht => cases ht with
        | cons f2 ht =>
          cases str_of e2
          cases str_of f2
          refine ⟨_, rfl, _, _, _, _, rfl, rfl, .inl (.inl ha), at_of (j := 1) rfl rfl, _, rfl, _, _, _, _, rfl, rfl, .inl (.inl hb), at_of (j := 1) rfl rfl, rfl, _, rfl, ?_⟩
          show (if decide (V.str d.nm = V.str e.nm) = true then _ else _)
          by_cases z : d.nm = e.nm
          · rw [decide_eq_true (congrArg V.str z)]
            exact iteT (k true H (Same.refl H) ⟨fun _ => .inl z, fun _ => rfl⟩)
          rw [decide_eq_false (fun q => z (by injection q))]
          refine iteF ?_
          refine ⟨_, rfl, _, _, _, _, rfl, rfl, .inl (.inl ha), at_of (j := 1) rfl rfl, _, rfl, _, e, rfl, hu0, me, fun H1 p s1 np hp => ⟨p, _, rfl, .inl (.inl (.inl hp)), rfl, flat_strs _, _, rfl, ?_⟩⟩
          show (if inV (.str d.nm) (e.models.map V.str) = true then _ else _)
          rw [inV_strs]
          by_cases z2 : d.nm ∈ e.models
          · rw [decide_eq_true z2]
            exact iteT (k true H1 s1 ⟨fun _ => .inr (.inl z2), fun _ => rfl⟩)
          rw [decide_eq_false z2]
          refine iteF ?_
          refine ⟨_, rfl, _, _, _, _, rfl, rfl, .inl (.inl (s1 _ _ hb)), at_of (j := 1) rfl rfl, _, rfl, _, d, rfl, hv0.same s1, md, fun H2 q s2 nq hq => ⟨q, _, rfl, .inl (.inl (.inl hq)), rfl, flat_strs _, ?_⟩⟩
          show Q (.bl (inV (.str e.nm) (d.models.map V.str))) H2
          rw [inV_strs]
          exact k _ H2 (s1.trans s2) ⟨fun q => .inr (.inr (of_decide_eq_true q)), fun t => by
            rcases t with t | t | t
            · exact absurd t z
            · exact absurd t z2
            · exact decide_eq_true t⟩
end

/-! ### cells -/
theorem cellF_put (r s o c : V) : putF "came" c (putF "source" o (putF "stood" s (putF "reading" r []))) = cellF r s o c := by kernel_rfl
theorem lk_reading (r s o c : V) : (cellF r s o c).lookup ("reading" : Str) = some r := by kernel_rfl
theorem lk_stood (r s o c : V) : (cellF r s o c).lookup ("stood" : Str) = some s := by kernel_rfl
theorem lk_source (r s o c : V) : (cellF r s o c).lookup ("source" : Str) = some o := by kernel_rfl
theorem lk_came (r s o c : V) : (cellF r s o c).lookup ("came" : Str) = some c := by kernel_rfl
theorem lk_put (r s o c : V) : (cellF r s o c).lookup ("put" : Str) = none := by kernel_rfl
theorem lk_mended (r s o c : V) : (cellF r s o c).lookup ("mended" : Str) = none := by kernel_rfl
theorem lk_matched (r s o c : V) : (cellF r s o c).lookup ("matched" : Str) = none := by kernel_rfl
theorem lk_lost (r s o c : V) : (cellF r s o c).lookup ("lost" : Str) = none := by kernel_rfl
/-- a new instance behind its __init__ -/
theorem made_same {H : Hp} {x dx : Addr} {u o2 o3 : HO} (nx : H x = none) (nd : H dx = none) : Same H (upd (upd (upd H dx u) x o2) x o3) := fun b o e => by
  rw [upd_ne (ne_of_none e nx), upd_ne (ne_of_none e nx), upd_ne (ne_of_none e nd)]
  exact e
/-- a new tuple -/
theorem tupF {H : Hp} {xs : List V} {ds : List PyData} {p : Addr} (h : DtAll H xs ds) (hp : H p = none) : Same H (upd H p (.tup xs)) ∧ Dt (upd H p (.tup xs)) (.ref p) (.tuple ds) :=
  ⟨same_upd hp, .tup upd_same (h.same (same_upd hp))⟩
theorem mkS {K : PySem.W.Frag} {H : Hp} {x dx : Addr} {r s o c : V} (nx : H x = none) (nd : H dx = none) : Same H (upd (upd (upd H dx (.own x)) x (.ins (CC K) dx [])) x (.ins (CC K) dx (cellF r s o c))) := made_same nx nd
def spCellInit (K : PySem.W.Frag) : Sp := fun vs H Q _ => ∃ (p dx : Addr) (r s o c : V), vs = [.ref p, r, s, o, c] ∧ H p = some (.ins (CC K) dx []) ∧ Q .non (upd H p (.ins (CC K) dx (cellF r s o c)))
def spPut (K : PySem.W.Frag) : Sp := fun vs H Q _ => ∃ (v o w : V) (c : Cell) (rd : Option Str) (src : Option (Str × Nat)) (came : List Str), vs = [v, rv rd, o, w] ∧ CellAt K H v c ∧ Dt H o (srcD src) ∧ Dt H w (.tuple (came.map .str)) ∧ c.st.length ≤ 1000 ∧
  ∀ H' u, Same H H' → CellAt K H' u ⟨rd, c.st ++ [rd], src, came⟩ → Q u H'
def spMended (K : PySem.W.Frag) : Sp := fun vs H Q _ => ∃ (v : V) (nm : Str) (k : Nat) (rd : Str) (c : Cell), vs = [v, .str nm, .int k, .str rd] ∧ CellAt K H v c ∧ c.st.length ≤ 1000 ∧ ∀ H' u, Same H H' → CellAt K H' u (mendC c nm k rd) → Q u H'
def spMatched (K : PySem.W.Frag) : Sp := fun vs H Q _ => ∃ (v u : V) (nm : Str) (c o : Cell), vs = [v, .str nm, u] ∧ CellAt K H v c ∧ CellAt K H u o ∧ c.st.length ≤ 1000 ∧ o.came.length ≤ 1000 ∧ ∀ H' u, Same H H' → CellAt K H' u (matchC c nm o) → Q u H'
def spLost (K : PySem.W.Frag) : Sp := fun vs H Q _ => ∃ (v : V) (c : Cell), vs = [v] ∧ CellAt K H v c ∧ c.st.length ≤ 1000 ∧ ∀ H' u, Same H H' → CellAt K H' u (lostC c) → Q u H'
def spRisen (K : PySem.W.Frag) : Sp := fun vs H Q _ => ∃ (nm : Str) (k : Nat) (rd : Str), vs = [.str nm, .int k, .str rd] ∧ ∀ H' u, Same H H' → CellAt K H' u (risen nm k rd) → Q u H'
def spHanded (K : PySem.W.Frag) : Sp := fun vs H Q _ => ∃ (nm : Str) (v : V) (c : Cell), vs = [.str nm, v] ∧ CellAt K H v c ∧ c.came.length ≤ 1000 ∧ ∀ H' u, Same H H' → CellAt K H' u (handed nm c) → Q u H'
section
variable {P : Program} {w : World} {K : PySem.W.Frag} {mg : Str → Option Value} {base : Heap}
theorem sc_Cell___init__ : FnScope ["self", "reading", "stood", "source", "came"] ["self", "reading", "stood", "source", "came"] (defScope sD_Cell___init__) := ⟨rfl, rfl, rfl, by decide +kernel, rfl, by decide +kernel, by decide +kernel⟩
theorem c_Cell___init__ (T : Txt K mg) : Mak P w K mg base 1 "Cell" (He.ga K "Cell") (spCellInit K) [] := by
  refine makD T.F_Cell___init__ T.glo_Cell T.mkr_Cell sc_Cell___init__ (ps := ["self", "reading", "stood", "source", "came"]) (k := 0) (fun _ _ _ _ _ _ us hl => match us, hl with | [_, _, _, _, _], _ => rfl) (fun vs H Q E h => ?_) (fun cdv A outer s H vs Q E hr h => ?_)
  · obtain ⟨_, _, _, _, _, _, rfl, _⟩ := h
    rfl
  refine ⟨_, (pss_cons (ps_fld (pv 0) (pv 1) rfl)
      (pss_cons (ps_fld (pv 0) (pv 2) rfl)
      (pss_cons (ps_fld (pv 0) (pv 3) rfl)
      (pss_one (ps_fld (pv 0) (pv 4) rfl))))), ?_⟩
  obtain ⟨p, dx, r, z, o, c, rfl, hp, k⟩ := h
  refine ⟨_, rfl, _, rfl, p, _, dx, _, rfl, hp, T.cls_Cell, T.noat_Cell_reading, (by decide), ?_⟩
  refine ⟨_, rfl, _, rfl, p, _, dx, _, rfl, upd_same, T.cls_Cell, T.noat_Cell_stood, (by show 1 < 1000; decide), ?_⟩
  rw [upd_upd]
  refine ⟨_, rfl, _, rfl, p, _, dx, _, rfl, upd_same, T.cls_Cell, T.noat_Cell_source, Nat.lt_of_le_of_lt (length_putF _ _ _) (Nat.lt_of_le_of_lt (Nat.succ_le_succ (length_putF _ _ _)) (by decide)), ?_⟩
  rw [upd_upd]
  refine ⟨_, rfl, _, rfl, p, _, dx, _, rfl, upd_same, T.cls_Cell, T.noat_Cell_came, Nat.lt_of_le_of_lt (length_putF _ _ _) (Nat.lt_of_le_of_lt (Nat.succ_le_succ (length_putF _ _ _)) (Nat.lt_of_le_of_lt (Nat.succ_le_succ (Nat.succ_le_succ (length_putF _ _ _))) (by decide))), ?_⟩
  rw [upd_upd, cellF_put]
  exact k
theorem sc_Cell_put : FnScope ["self", "reading", "source", "came"] ["self", "reading", "source", "came"] (defScope sD_Cell_put) := ⟨rfl, rfl, rfl, by decide +kernel, rfl, by decide +kernel, by decide +kernel⟩
theorem c_Cell_put (T : Txt K mg) : Met P w K mg base 3 (He.ga K "Cell") "put" (spPut K) [] := by
  have c_Cell___init__ := c_Cell___init__ (P := P) (w := w) (base := base) T
  refine metD T.F_Cell_put T.cls_Cell T.meth_Cell_put sc_Cell_put (ps := ["self", "reading", "source", "came"]) (k := 2) (fun _ _ _ _ _ _ us hl => match us, hl with | [_, _, _, _], _ => rfl) (fun vs H Q E h => ?_) (fun cdv A outer s H vs Q E hr h => ?_)
  · obtain ⟨_, _, _, _, _, _, _, rfl, _⟩ := h
    rfl
  refine ⟨_, (pss_one (ps_ret (pe_mk c_Cell___init__ hr (by decide) rfl (pa_cons (pv 1) (pa_cons (pe_op op_catA (pe_fld (pv 0) rfl) (pe_tup (pa_cons (pv 1) pa_nil))) (pa_cons (pv 2) (pa_cons (pv 3) pa_nil))))))), ?_⟩
  obtain ⟨v, o, u, c, rd, src, came, rfl, hv, ho, hw, hl, k⟩ := h
  obtain ⟨a, dx, s0, o0, w0, rfl, ha, h1, h2, h3⟩ := hv.ex
  refine ⟨_, rfl, _, rfl, a, _, dx, _, _, rfl, ha, T.cls_Cell, T.noat_Cell_stood, lk_stood _ _ _ _, _, rfl, sz (szn 1), fun p hp => ?_⟩
  obtain ⟨s1, ht⟩ := tupF (ds := [rdD rd]) (.cons (dt_rv H rd) .nil) hp
  refine cat_tup (h1.same s1) ht (by rw [List.length_map, List.length_singleton]; omega) fun H2 z s2 hz => ?_
  refine ⟨_, rfl, _, rfl, fun x dx nx nd ne => ⟨x, dx, _, _, _, _, rfl, upd_same, rfl, ?_⟩⟩
  have s3 := (s1.trans s2).trans (mkS (K := K) (r := rv rd) (s := z) (o := o) (c := u) nx nd)
  refine k _ _ s3 ⟨x, dx, z, o, u, rfl, upd_same, ?_, ho.same s3, hw.same s3⟩
  rw [show (⟨rd, c.st ++ [rd], src, came⟩ : Cell).st.map rdD = c.st.map rdD ++ [rdD rd] by simp]
  exact hz.same (mkS nx nd)
theorem sc_Cell_mended : FnScope ["self", "name", "number", "reading"] ["self", "name", "number", "reading"] (defScope sD_Cell_mended) := ⟨rfl, rfl, rfl, by decide +kernel, rfl, by decide +kernel, by decide +kernel⟩
theorem c_Cell_mended (T : Txt K mg) : Met P w K mg base 4 (He.ga K "Cell") "mended" (spMended K) [] := by
  have c_Cell_put := c_Cell_put (P := P) (w := w) (base := base) T
  refine metD T.F_Cell_mended T.cls_Cell T.meth_Cell_mended sc_Cell_mended (ps := ["self", "name", "number", "reading"]) (k := 3) (fun _ _ _ _ _ _ us hl => match us, hl with | [_, _, _, _], _ => rfl) (fun vs H Q E h => ?_) (fun cdv A outer s H vs Q E hr h => ?_)
  · obtain ⟨_, _, _, _, _, rfl, _⟩ := h
    rfl
  refine ⟨_, (pss_one (ps_ret (pe_mt c_Cell_put hr (by decide) (pv 0) (pa_cons (pv 3) (pa_cons (pe_tup (pa_cons (pv 1) (pa_cons (pv 2) pa_nil))) (pa_cons (pe_tup (pa_cons (pv 1) pa_nil)) pa_nil)))))), ?_⟩
  obtain ⟨v, nm, n, rd, c, rfl, hv, hl, k⟩ := h
  obtain ⟨a, dx, s0, o0, w0, rfl, ha, h1, h2, h3⟩ := hv.ex
  refine ⟨_, rfl, a, dx, _, rfl, ha, lk_put _ _ _ _, _, rfl, _, rfl, _, rfl, sz (szn 2), fun p hp => ?_⟩
  obtain ⟨s1, ht⟩ := tupF (ds := [.str nm, .int n]) (.cons (.str _) (.cons (.int _) .nil)) hp
  refine ⟨_, rfl, sz (szn 1), fun q hq => ?_⟩
  obtain ⟨s2, hu⟩ := tupF (ds := [.str nm]) (.cons (.str _) .nil) hq
  exact ⟨_, _, _, c, some rd, some (nm, n), [nm], rfl, hv.same (s1.trans s2), ht.same s2, hu, hl, fun H' u s3 hu => k H' u ((s1.trans s2).trans s3) hu⟩
theorem sc_Cell_matched : FnScope ["self", "name", "model"] ["self", "name", "model"] (defScope sD_Cell_matched) := ⟨rfl, rfl, rfl, by decide +kernel, rfl, by decide +kernel, by decide +kernel⟩
theorem c_Cell_matched (T : Txt K mg) : Met P w K mg base 4 (He.ga K "Cell") "matched" (spMatched K) [] := by
  have c_Cell_put := c_Cell_put (P := P) (w := w) (base := base) T
  refine metD T.F_Cell_matched T.cls_Cell T.meth_Cell_matched sc_Cell_matched (ps := ["self", "name", "model"]) (k := 3) (fun _ _ _ _ _ _ us hl => match us, hl with | [_, _, _], _ => rfl) (fun vs H Q E h => ?_) (fun cdv A outer s H vs Q E hr h => ?_)
  · obtain ⟨_, _, _, _, _, rfl, _⟩ := h
    rfl
  refine ⟨_, (pss_one (ps_ret (pe_mt c_Cell_put hr (by decide) (pv 0) (pa_cons (pe_fld (pv 2) rfl) (pa_cons (pe_fld (pv 2) rfl) (pa_cons (pe_op op_catA (pe_tup (pa_cons (pv 1) pa_nil)) (pe_fld (pv 2) rfl)) pa_nil)))))), ?_⟩
  obtain ⟨v, u, nm, c, o, rfl, hv, hu, hl, hl2, k⟩ := h
  obtain ⟨a, dx, s0, o0, w0, rfl, ha, h1, h2, h3⟩ := hv.ex
  obtain ⟨b, dy, s1, o1, w1, rfl, hb, g1, g2, g3⟩ := hu.ex
  refine ⟨_, rfl, a, dx, _, rfl, ha, lk_put _ _ _ _, _, rfl, b, _, dy, _, _, rfl, hb, T.cls_Cell, T.noat_Cell_reading, lk_reading _ _ _ _, _, rfl, b, _, dy, _, _, rfl, hb, T.cls_Cell, T.noat_Cell_source, lk_source _ _ _ _, ?_⟩
  refine ⟨_, rfl, sz (szn 1), fun p hp => ?_⟩
  obtain ⟨s1, ht⟩ := tupF (ds := [.str nm]) (.cons (.str _) .nil) hp
  refine ⟨_, rfl, b, _, dy, _, _, rfl, s1 _ _ hb, T.cls_Cell, T.noat_Cell_came, lk_came _ _ _ _, ?_⟩
  refine cat_tup ht (g3.same s1) (by rw [List.length_map, List.length_singleton]; omega) fun H2 z s2 hz => ?_
  exact ⟨_, _, _, c, o.rd, o.src, nm :: o.came, rfl, hv.same (s1.trans s2), g2.same (s1.trans s2), hz, hl, fun H' u s3 hu => k H' u ((s1.trans s2).trans s3) hu⟩
theorem sc_Cell_lost : FnScope ["self"] ["self"] (defScope sD_Cell_lost) := ⟨rfl, rfl, rfl, by decide +kernel, rfl, by decide +kernel, by decide +kernel⟩
theorem c_Cell_lost (T : Txt K mg) : Met P w K mg base 4 (He.ga K "Cell") "lost" (spLost K) [] := by
  have c_Cell_put := c_Cell_put (P := P) (w := w) (base := base) T
  refine metD T.F_Cell_lost T.cls_Cell T.meth_Cell_lost sc_Cell_lost (ps := ["self"]) (k := 3) (fun _ _ _ _ _ _ us hl => match us, hl with | [_], _ => rfl) (fun vs H Q E h => ?_) (fun cdv A outer s H vs Q E hr h => ?_)
  · obtain ⟨_, _, rfl, _⟩ := h
    rfl
  refine ⟨_, (pss_one (ps_ret (pe_mt c_Cell_put hr (by decide) (pv 0) (pa_cons pe_non (pa_cons pe_non (pa_cons (pe_tup pa_nil) pa_nil)))))), ?_⟩
  obtain ⟨v, c, rfl, hv, hl, k⟩ := h
  obtain ⟨a, dx, s0, o0, w0, rfl, ha, h1, h2, h3⟩ := hv.ex
  refine ⟨_, rfl, a, dx, _, rfl, ha, lk_put _ _ _ _, sz (szn 0), fun p hp => ?_⟩
  obtain ⟨s1, ht⟩ := tupF (ds := []) .nil hp
  exact ⟨_, _, _, c, none, none, [], rfl, hv.same s1, .non, ht, hl, fun H' u s3 hu => k H' u (s1.trans s3) hu⟩
theorem sc_risen : FnScope ["name", "number", "reading"] ["name", "number", "reading"] (defScope sD_risen) := ⟨rfl, rfl, rfl, by decide +kernel, rfl, by decide +kernel, by decide +kernel⟩
theorem c_risen (T : Txt K mg) : Cal P w K mg base 3 "risen" (spRisen K) [] := by
  have c_Cell___init__ := c_Cell___init__ (P := P) (w := w) (base := base) T
  refine calD T.F_risen T.glo_risen sc_risen (ps := ["name", "number", "reading"]) (k := 2) (fun _ _ _ _ _ _ us hl => match us, hl with | [_, _, _], _ => rfl) (fun vs H Q E h => ?_) (fun cdv A outer s H vs Q E hr h => ?_)
  · obtain ⟨_, _, _, rfl, _⟩ := h
    rfl
  refine ⟨_, (pss_one (ps_ret (pe_mk c_Cell___init__ hr (by decide) rfl (pa_cons (pv 2) (pa_cons (pe_tup (pa_cons (pv 2) pa_nil)) (pa_cons (pe_tup (pa_cons (pv 0) (pa_cons (pv 1) pa_nil))) (pa_cons (pe_tup (pa_cons (pv 0) pa_nil)) pa_nil))))))), ?_⟩
  obtain ⟨nm, n, rd, rfl, k⟩ := h
  refine ⟨_, rfl, _, rfl, sz (szn 1), fun p1 hp1 => ?_⟩
  obtain ⟨s1, ht⟩ := tupF (ds := [.str rd]) (.cons (.str _) .nil) hp1
  refine ⟨_, rfl, _, rfl, sz (szn 2), fun p2 hp2 => ?_⟩
  obtain ⟨s2, hu⟩ := tupF (ds := [.str nm, .int n]) (.cons (.str _) (.cons (.int _) .nil)) hp2
  refine ⟨_, rfl, sz (szn 1), fun p3 hp3 => ?_⟩
  obtain ⟨s3, hz⟩ := tupF (ds := [.str nm]) (.cons (.str _) .nil) hp3
  refine fun x dx nx nd ne => ⟨x, dx, _, _, _, _, rfl, upd_same, rfl, ?_⟩
  have s4 := mkS (K := K) (r := .str rd) (s := .ref p1) (o := .ref p2) (c := .ref p3) nx nd
  exact k _ _ (((s1.trans s2).trans s3).trans s4) ⟨x, dx, _, _, _, rfl, upd_same, ht.same ((s2.trans s3).trans s4), hu.same (s3.trans s4), hz.same s4⟩
theorem sc_handed_on : FnScope ["name", "model"] ["name", "model"] (defScope sD_handed_on) := ⟨rfl, rfl, rfl, by decide +kernel, rfl, by decide +kernel, by decide +kernel⟩
theorem c_handed_on (T : Txt K mg) : Cal P w K mg base 3 "handed_on" (spHanded K) [] := by
  have c_Cell___init__ := c_Cell___init__ (P := P) (w := w) (base := base) T
  refine calD T.F_handed_on T.glo_handed_on sc_handed_on (ps := ["name", "model"]) (k := 2) (fun _ _ _ _ _ _ us hl => match us, hl with | [_, _], _ => rfl) (fun vs H Q E h => ?_) (fun cdv A outer s H vs Q E hr h => ?_)
  · obtain ⟨_, _, _, rfl, _⟩ := h
    rfl
  refine ⟨_, (pss_cons (ps_if (pt_cmp (pc_isN (pe_fld (pv 1) rfl))) (pss_one (ps_ret (pe_mk c_Cell___init__ hr (by decide) rfl (pa_cons pe_non (pa_cons (pe_tup (pa_cons pe_non pa_nil)) (pa_cons pe_non (pa_cons (pe_tup pa_nil) pa_nil))))))) pss_nil)
      (pss_one (ps_ret (pe_mk c_Cell___init__ hr (by decide) rfl (pa_cons (pe_fld (pv 1) rfl) (pa_cons (pe_tup (pa_cons (pe_fld (pv 1) rfl) pa_nil)) (pa_cons (pe_fld (pv 1) rfl) (pa_cons (pe_op op_catA (pe_tup (pa_cons (pv 0) pa_nil)) (pe_fld (pv 1) rfl)) pa_nil)))))))), ?_⟩
  obtain ⟨nm, v, c, rfl, hv, hl, k⟩ := h
  obtain ⟨a, dx, s0, o0, w0, rfl, ha, h1, h2, h3⟩ := hv.ex
  obtain ⟨r, st, src, came⟩ := c
  refine ⟨_, rfl, a, _, dx, _, _, rfl, ha, T.cls_Cell, T.noat_Cell_reading, lk_reading _ _ _ _, _, rfl, ?_⟩
  cases r with
  | none =>
    refine iteT ⟨sz (szn 1), fun p1 hp1 => ?_⟩
    obtain ⟨s1, ht⟩ := tupF (ds := [.none]) (.cons .non .nil) hp1
    refine ⟨sz (szn 0), fun p2 hp2 => ?_⟩
    obtain ⟨s2, hu⟩ := tupF (ds := []) .nil hp2
    refine fun x dx nx nd ne => ⟨x, dx, _, _, _, _, rfl, upd_same, rfl, ?_⟩
    have s4 := mkS (K := K) (r := .non) (s := .ref p1) (o := .non) (c := .ref p2) nx nd
    exact k _ _ ((s1.trans s2).trans s4) ⟨x, dx, _, .non, _, rfl, upd_same, ht.same (s2.trans s4), .non, hu.same s4⟩
  | some r =>
    refine iteF ⟨_, rfl, a, _, dx, _, _, rfl, ha, T.cls_Cell, T.noat_Cell_reading, lk_reading _ _ _ _, ?_⟩
    refine ⟨_, rfl, a, _, dx, _, _, rfl, ha, T.cls_Cell, T.noat_Cell_reading, lk_reading _ _ _ _, sz (szn 1), fun p1 hp1 => ?_⟩
    obtain ⟨s1, ht⟩ := tupF (ds := [.str r]) (.cons (.str _) .nil) hp1
    refine ⟨_, rfl, a, _, dx, _, _, rfl, s1 _ _ ha, T.cls_Cell, T.noat_Cell_source, lk_source _ _ _ _, ?_⟩
    refine ⟨_, rfl, sz (szn 1), fun p2 hp2 => ?_⟩
    obtain ⟨s2, hu⟩ := tupF (ds := [.str nm]) (.cons (.str _) .nil) hp2
    refine ⟨_, rfl, a, _, dx, _, _, rfl, s2 _ _ (s1 _ _ ha), T.cls_Cell, T.noat_Cell_came, lk_came _ _ _ _, ?_⟩
    refine cat_tup hu (h3.same (s1.trans s2)) (by rw [List.length_map, List.length_singleton]; have hl2 : came.length ≤ 1000 := hl; show 1 + came.length ≤ 100000; omega) fun H3 z s3 hz => ?_
    refine fun x dx nx nd ne => ⟨x, dx, _, _, _, _, rfl, upd_same, rfl, ?_⟩
    have s4 := mkS (K := K) (r := .str r) (s := .ref p1) (o := o0) (c := z) nx nd
    exact k _ _ (((s1.trans s2).trans s3).trans s4) ⟨x, dx, _, o0, z, rfl, upd_same, ht.same ((s2.trans s3).trans s4), h2.same (((s1.trans s2).trans s3).trans s4), hz.same s4⟩
end
end K69

set_option maxRecDepth 100000
set_option maxHeartbeats 4000000
/-! The house in the heap; what it tells. -/
namespace K69
open PySem PySem.Spec PyProof.Rows L2
open C8 (Cal Mak Met pe_c pe_mk pe_mt pe_mt0 pe_gc)

def doneF (d a k : V) : List (Str × V) := [("deed", d), ("ahead", a), ("kept", k)]
def houseF (n : Nat) (cd od dn nt : Addr) : List (Str × V) := [("many", .int n), ("cells", .ref cd), ("order", .ref od), ("done", .ref dn), ("noted", .ref nt)]
theorem doneF_put (d a k : V) : putF "kept" k (putF "ahead" a (putF "deed" d [])) = doneF d a k := by kernel_rfl
theorem lk_deed (d a k : V) : (doneF d a k).lookup ("deed" : Str) = some d := by kernel_rfl
theorem houseF_put (n : Nat) (cd od dn nt : Addr) : putF "noted" (.ref nt) (putF "done" (.ref dn) (putF "order" (.ref od) (putF "cells" (.ref cd) (putF "many" (.int n) [])))) = houseF n cd od dn nt := by kernel_rfl
section
variable (n : Nat) (cd od dn nt : Addr)
theorem hk_many : (houseF n cd od dn nt).lookup ("many" : Str) = some (.int n) := by kernel_rfl
theorem hk_cells : (houseF n cd od dn nt).lookup ("cells" : Str) = some (.ref cd) := by kernel_rfl
theorem hk_order : (houseF n cd od dn nt).lookup ("order" : Str) = some (.ref od) := by kernel_rfl
theorem hk_done : (houseF n cd od dn nt).lookup ("done" : Str) = some (.ref dn) := by kernel_rfl
theorem hk_noted : (houseF n cd od dn nt).lookup ("noted" : Str) = some (.ref nt) := by kernel_rfl
theorem hn_do : (houseF n cd od dn nt).lookup ("do" : Str) = none := by kernel_rfl
theorem hn_look : (houseF n cd od dn nt).lookup ("look_at_books" : Str) = none := by kernel_rfl
theorem hn_changes : (houseF n cd od dn nt).lookup ("changes_of" : Str) = none := by kernel_rfl
theorem hn_written : (houseF n cd od dn nt).lookup ("written" : Str) = none := by kernel_rfl
theorem hn_copied : (houseF n cd od dn nt).lookup ("copied" : Str) = none := by kernel_rfl
theorem hn_mended : (houseF n cd od dn nt).lookup ("mended" : Str) = none := by kernel_rfl
theorem hn_matched : (houseF n cd od dn nt).lookup ("matched" : Str) = none := by kernel_rfl
theorem hn_lost : (houseF n cd od dn nt).lookup ("lost" : Str) = none := by kernel_rfl
theorem hn_put_all : (houseF n cd od dn nt).lookup ("put_all" : Str) = none := by kernel_rfl
theorem hn_deeds : (houseF n cd od dn nt).lookup ("deeds" : Str) = none := by kernel_rfl
theorem hn_names : (houseF n cd od dn nt).lookup ("names" : Str) = none := by kernel_rfl
theorem hn_slips : (houseF n cd od dn nt).lookup ("slips" : Str) = none := by kernel_rfl
theorem hn_cells_of : (houseF n cd od dn nt).lookup ("cells_of" : Str) = none := by kernel_rfl
theorem hn_book : (houseF n cd od dn nt).lookup ("book" : Str) = none := by kernel_rfl
theorem hn_hands : (houseF n cd od dn nt).lookup ("hands" : Str) = none := by kernel_rfl
theorem hn_arose : (houseF n cd od dn nt).lookup ("arose" : Str) = none := by kernel_rfl
theorem hn_way : (houseF n cd od dn nt).lookup ("way" : Str) = none := by kernel_rfl
end

/-! ### books: a dict of lists -/
def kvs (order : List Str) (L : Str → Addr) : List (Key × V) := order.map fun m => (Sum.inr m, V.ref (L m))
theorem valV_kvs (L : Str → Addr) (m : Str) : ∀ order : List Str, valV (kvs order L) (Sum.inr m) = if m ∈ order then some (.ref (L m)) else none
  | [] => rfl
  | x :: r => by
    have ih := valV_kvs L m r
    by_cases h : x = m
    · have e : valV (kvs (x :: r) L) (Sum.inr m) = some (.ref (L x)) := valV_pos (p := ((Sum.inr x : Key), V.ref (L x))) (congrArg Sum.inr h)
      rw [e, if_pos (by rw [← h]; exact List.mem_cons_self), h]
    · have e : valV (kvs (x :: r) L) (Sum.inr m) = valV (kvs r L) (Sum.inr m) := valV_neg (p := ((Sum.inr x : Key), V.ref (L x))) (fun z => h (Sum.inr.inj z))
      rw [e, ih]
      by_cases q : m ∈ r
      · rw [if_pos q, if_pos (List.mem_cons_of_mem _ q)]
      · rw [if_neg q, if_neg fun z => (List.mem_cons.mp z).elim (fun z => h z.symm) q]
theorem kvs_len (order : List Str) (L : Str → Addr) : (kvs order L).length = order.length := List.length_map ..
/-- a new book in the dict -/
theorem kvs_put {order : List Str} {L : Str → Addr} {m : Str} (l : Addr) (h : m ∉ order) : putK (kvs order L) (Sum.inr m) (.ref l) = kvs (order ++ [m]) (fun x => if x = m then l else L x) := by
  rw [putK_new _ (by rw [valV_kvs, if_neg h])]
  unfold kvs
  rw [List.map_append, List.map_cons, List.map_nil]
  have e1 : (fun x => if x = m then l else L x) m = l := if_pos rfl
  rw [e1]
  congr 1
  apply List.map_congr_left
  intro x hx
  have e2 : (fun x => if x = m then l else L x) x = L x := if_neg (fun z : x = m => h (by rw [← z]; exact hx))
  rw [e2]
structure BooksAt (R : Hp → V → Cell → Prop) (H : Hp) (cd : Addr) (L : Str → Addr) (order : List Str) (bk : Str → List Cell) : Prop where
  dict : H cd = some (.dK (kvs order L))
  lists : ∀ m ∈ order, ∃ vs, H (L m) = some (.lst vs) ∧ Pw (R H) vs (bk m)
  inj : ∀ m ∈ order, ∀ m' ∈ order, L m = L m' → m = m'
def fpB (cd : Addr) (L : Str → Addr) (order : List Str) : List Addr := cd :: order.map L
theorem BooksAt.ld {R : Hp → V → Cell → Prop} {H : Hp} {cd : Addr} {L : Str → Addr} {order : List Str} {bk : Str → List Cell} (b : BooksAt R H cd L order bk) : LD H (fpB cd L order) := fun x hx => by
  rcases List.mem_cons.mp hx with e | e
  · rw [e]; exact ⟨_, b.dict, rfl⟩
  · obtain ⟨m, hm, rfl⟩ := List.mem_map.mp e
    obtain ⟨vs, h1, _⟩ := b.lists m hm
    exact ⟨_, h1, rfl⟩
/-- where the books' own objects stay, the books stay -/
theorem BooksAt.keep {R : Hp → V → Cell → Prop} (hR : ∀ H H' v c, Kp H H' → R H v c → R H' v c) {H H' : Hp} {cd : Addr} {L : Str → Addr} {order : List Str} {bk : Str → List Cell} (b : BooksAt R H cd L order bk) (k : Kp H H')
    (f : ∀ x ∈ fpB cd L order, ∀ o, H x = some o → H' x = some o) : BooksAt R H' cd L order bk where
  dict := f cd List.mem_cons_self _ b.dict
  lists := fun m hm => by
    obtain ⟨vs, h1, h2⟩ := b.lists m hm
    exact ⟨vs, f _ (List.mem_cons_of_mem _ (List.mem_map_of_mem hm)) _ h1, h2.imp fun x y => hR H H' x y k⟩
  inj := b.inj
/-- a book's name in the dict -/
theorem BooksAt.get {R : Hp → V → Cell → Prop} {H : Hp} {cd : Addr} {L : Str → Addr} {order : List Str} {bk : Str → List Cell} (b : BooksAt R H cd L order bk) {m : Str} (hm : m ∈ order) : DGet H cd (.str m) (some (.ref (L m))) := by
  have e := DGet.k (k := Sum.inr m) b.dict
  rw [valV_kvs, if_pos hm] at e
  exact e
theorem BooksAt.ask {R : Hp → V → Cell → Prop} {H : Hp} {cd : Addr} {L : Str → Addr} {order : List Str} {bk : Str → List Cell} (b : BooksAt R H cd L order bk) (m : Str) : DGet H cd (.str m) (if m ∈ order then some (.ref (L m)) else none) := by
  have e := DGet.k (k := Sum.inr m) b.dict
  rw [valV_kvs] at e
  exact e
/-- a book's cell -/
theorem BooksAt.cell {R : Hp → V → Cell → Prop} {H : Hp} {cd : Addr} {L : Str → Addr} {order : List Str} {bk : Str → List Cell} (b : BooksAt R H cd L order bk) {m : Str} (hm : m ∈ order) {i : Nat} {c : Cell} (e : (bk m)[i]? = some c) :
    ∃ vs v, H (L m) = some (.lst vs) ∧ vs[i]? = some v ∧ R H v c := by
  obtain ⟨vs, h1, h2⟩ := b.lists m hm
  obtain ⟨v, e1, e2⟩ := h2.get e
  exact ⟨vs, v, h1, e1, e2⟩

/-! ### the house -/
structure DoneAt (K : PySem.W.Frag) (H : Hp) (v : V) (d : Deed) : Prop where
  ex : ∃ (a dx : Addr) (x y z : V), v = .ref a ∧ H a = some (.ins (CD K) dx (doneF x y z)) ∧ Dt H x (deedD d)
theorem DoneAt.kp {K : PySem.W.Frag} {H H' : Hp} {v : V} {d : Deed} (k : Kp H H') (h : DoneAt K H v d) : DoneAt K H' v d := by
  obtain ⟨a, dx, x, y, z, e, h1, h2⟩ := h.ex
  exact ⟨a, dx, x, y, z, e, k _ _ h1 rfl, Dt.kp k _ _ h2⟩
structure HF where
  p : Addr
  dx : Addr
  cd : Addr
  od : Addr
  dn : Addr
  nt : Addr
  L : Str → Addr
def HF.fp (F : HF) (order : List Str) : List Addr := F.od :: F.dn :: F.nt :: fpB F.cd F.L order
abbrev CellR (K : PySem.W.Frag) : Hp → V → Cell → Prop := fun H v c => CellAt K H v c
abbrev NoteR (H : Hp) : V → Note → Prop := fun v x => Dt H v (noteD x)
structure HouseAt (K : PySem.W.Frag) (H : Hp) (F : HF) (n : Nat) (h : Hs) (ds : List Deed) : Prop where
  ins : H F.p = some (.ins (CH K) F.dx (houseF n F.cd F.od F.dn F.nt))
  books : BooksAt (CellR K) H F.cd F.L h.order h.bk
  ord : H F.od = some (.lst (h.order.map .str))
  done : ∃ vs, H F.dn = some (.lst vs) ∧ Pw (DoneAt K H) vs ds
  noted : ∃ vs, H F.nt = some (.lst vs) ∧ Pw (NoteR H) vs h.notes
  cnt : ds.length = h.cnt
  a1 : F.od ≠ F.dn
  a2 : F.od ≠ F.nt
  a3 : F.dn ≠ F.nt
  a4 : ∀ m ∈ h.order, F.L m ≠ F.od ∧ F.L m ≠ F.dn ∧ F.L m ≠ F.nt
theorem cellR_kp (K : PySem.W.Frag) : ∀ H H' v c, Kp H H' → CellR K H v c → CellR K H' v c := fun _ _ _ _ k h => CellAt.kp k h
theorem HouseAt.keep {K : PySem.W.Frag} {H H' : Hp} {F : HF} {n : Nat} {h : Hs} {ds : List Deed} (A : HouseAt K H F n h ds) (k : Kp H H') (f : ∀ x ∈ F.fp h.order, ∀ o, H x = some o → H' x = some o) : HouseAt K H' F n h ds where
  ins := k _ _ A.ins rfl
  books := A.books.keep (cellR_kp K) k fun x hx => f x (List.mem_cons_of_mem _ (List.mem_cons_of_mem _ (List.mem_cons_of_mem _ hx)))
  ord := f _ List.mem_cons_self _ A.ord
  done := by
    obtain ⟨vs, h1, h2⟩ := A.done
    exact ⟨vs, f _ (List.mem_cons_of_mem _ List.mem_cons_self) _ h1, h2.imp fun x y => DoneAt.kp k⟩
  noted := by
    obtain ⟨vs, h1, h2⟩ := A.noted
    exact ⟨vs, f _ (List.mem_cons_of_mem _ (List.mem_cons_of_mem _ List.mem_cons_self)) _ h1, h2.imp fun x y => Dt.kp k _ _⟩
  cnt := A.cnt
  a1 := A.a1
  a2 := A.a2
  a3 := A.a3
  a4 := A.a4
theorem HouseAt.same {K : PySem.W.Frag} {H H' : Hp} {F : HF} {n : Nat} {h : Hs} {ds : List Deed} (A : HouseAt K H F n h ds) (s : Same H H') : HouseAt K H' F n h ds := A.keep s.kp fun x _ o e => s x o e
theorem HouseAt.ld {K : PySem.W.Frag} {H : Hp} {F : HF} {n : Nat} {h : Hs} {ds : List Deed} (A : HouseAt K H F n h ds) : LD H (F.fp h.order) := fun x hx => by
  rcases List.mem_cons.mp hx with e | hx
  · rw [e]; exact ⟨_, A.ord, rfl⟩
  rcases List.mem_cons.mp hx with e | hx
  · obtain ⟨vs, h1, _⟩ := A.done
    rw [e]; exact ⟨_, h1, rfl⟩
  rcases List.mem_cons.mp hx with e | hx
  · obtain ⟨vs, h1, _⟩ := A.noted
    rw [e]; exact ⟨_, h1, rfl⟩
  exact A.books.ld x hx

/-! ### promises -/
def spDoneInit (K : PySem.W.Frag) : Sp := fun vs H Q _ => ∃ (p dx : Addr) (d a k : V), vs = [.ref p, d, a, k] ∧ H p = some (.ins (CD K) dx []) ∧ Q .non (upd H p (.ins (CD K) dx (doneF d a k)))
def spHouseInit (K : PySem.W.Frag) : Sp := fun vs H Q _ => ∃ (p dx : Addr) (n : Nat), vs = [.ref p, .int n] ∧ H p = some (.ins (CH K) dx []) ∧
  ∀ H' F, (∀ b o, H b = some o → b ≠ p → H' b = some o) → F.p = p → (∀ b ∈ F.fp [], H b = none) → HouseAt K H' F n init [] → Q .non H'
def spDeeds (K : PySem.W.Frag) : Sp := fun vs H Q _ => ∃ (F : HF) (n : Nat) (h : Hs) (ds : List Deed), vs = [.ref F.p] ∧ HouseAt K H F n h ds ∧ ds.length ≤ 1000 ∧ ∀ H' p us, Same H H' → H p = none → H' p = some (.lst us) → DtAll H' us (ds.map deedD) → Q (.ref p) H'
def spNames (K : PySem.W.Frag) : Sp := fun vs H Q _ => ∃ (F : HF) (n : Nat) (h : Hs) (ds : List Deed), vs = [.ref F.p] ∧ HouseAt K H F n h ds ∧ ∀ H' p, Same H H' → H p = none → H' p = some (.lst (h.order.map .str)) → Q (.ref p) H'
def spSlipsOf (K : PySem.W.Frag) : Sp := fun vs H Q _ => ∃ (F : HF) (n : Nat) (h : Hs) (ds : List Deed), vs = [.ref F.p] ∧ HouseAt K H F n h ds ∧ ∀ H' p us, Same H H' → H p = none → H' p = some (.lst us) → DtAll H' us (h.notes.map noteD) → Q (.ref p) H'
def spCellsOf (K : PySem.W.Frag) : Sp := fun vs H Q _ => ∃ (F : HF) (n : Nat) (h : Hs) (ds : List Deed) (m : Str), vs = [.ref F.p, .str m] ∧ HouseAt K H F n h ds ∧ m ∈ h.order ∧ Q (.ref (F.L m)) H
def spBook (K : PySem.W.Frag) : Sp := fun vs H Q _ => ∃ (F : HF) (n : Nat) (h : Hs) (ds : List Deed) (m : Str), vs = [.ref F.p, .str m] ∧ HouseAt K H F n h ds ∧ m ∈ h.order ∧ (h.bk m).length ≤ 1000 ∧ ∀ H' v, Same H H' → Dt H' v (.tuple ((h.bk m).map fun c => rdD c.rd)) → Q v H'
def spHands (K : PySem.W.Frag) : Sp := fun vs H Q _ => ∃ (F : HF) (n : Nat) (h : Hs) (ds : List Deed) (m : Str) (i : Nat) (c : Cell), vs = [.ref F.p, .str m, .int i] ∧ HouseAt K H F n h ds ∧ m ∈ h.order ∧ (h.bk m)[i]? = some c ∧ ∀ v, Dt H v (.tuple (c.st.map rdD)) → Q v H
def spArose (K : PySem.W.Frag) : Sp := fun vs H Q _ => ∃ (F : HF) (n : Nat) (h : Hs) (ds : List Deed) (m : Str) (i : Nat) (c : Cell), vs = [.ref F.p, .str m, .int i] ∧ HouseAt K H F n h ds ∧ m ∈ h.order ∧ (h.bk m)[i]? = some c ∧ ∀ v, Dt H v (srcD c.src) → Q v H
def spWay (K : PySem.W.Frag) : Sp := fun vs H Q _ => ∃ (F : HF) (n : Nat) (h : Hs) (ds : List Deed) (m : Str) (i : Nat) (c : Cell), vs = [.ref F.p, .str m, .int i] ∧ HouseAt K H F n h ds ∧ m ∈ h.order ∧ (h.bk m)[i]? = some c ∧
  (c.rd = none → Q .non H) ∧ (c.rd ≠ none → ∀ H' p us, Same H H' → H' p = some (.lst us) → DtAll H' us (c.came.map .str) → Q (.ref p) H')
theorem hk_lt (m : Nat) (f : List (Str × V)) (h : f.length = m := by rfl) (hm : m < 1000 := by decide) : f.length < 1000 := h ▸ hm
section
variable {P : Program} {w : World} {K : PySem.W.Frag} {mg : Str → Option Value} {base : Heap}
theorem sc_Done___init__ : FnScope ["self", "deed", "ahead", "kept"] ["self", "deed", "ahead", "kept"] (defScope sD_Done___init__) := ⟨rfl, rfl, rfl, by decide +kernel, rfl, by decide +kernel, by decide +kernel⟩
theorem c_Done___init__ (T : Txt K mg) : Mak P w K mg base 1 "Done" (He.ga K "Done") (spDoneInit K) [] := by
  refine makD T.F_Done___init__ T.glo_Done T.mkr_Done sc_Done___init__ (ps := ["self", "deed", "ahead", "kept"]) (k := 0) (fun _ _ _ _ _ _ us hl => match us, hl with | [_, _, _, _], _ => rfl) (fun vs H Q E h => ?_) (fun cdv A outer s H vs Q E hr h => ?_)
  · obtain ⟨_, _, _, _, _, rfl, _⟩ := h
    rfl
  refine ⟨_, (pss_cons (ps_fld (pv 0) (pv 1) rfl)
      (pss_cons (ps_fld (pv 0) (pv 2) rfl)
      (pss_one (ps_fld (pv 0) (pv 3) rfl)))), ?_⟩
  obtain ⟨p, dx, d, a, k0, rfl, hp, k⟩ := h
  refine ⟨_, rfl, _, rfl, p, _, dx, _, rfl, hp, T.cls_Done, T.noat_Done_deed, (by decide), ?_⟩
  refine ⟨_, rfl, _, rfl, p, _, dx, _, rfl, upd_same, T.cls_Done, T.noat_Done_ahead, (by show 1 < 1000; decide), ?_⟩
  rw [upd_upd]
  refine ⟨_, rfl, _, rfl, p, _, dx, _, rfl, upd_same, T.cls_Done, T.noat_Done_kept, Nat.lt_of_le_of_lt (length_putF _ _ _) (Nat.lt_of_le_of_lt (Nat.succ_le_succ (length_putF _ _ _)) (by decide)), ?_⟩
  rw [upd_upd, doneF_put]
  exact k
theorem sc_House___init__ : FnScope ["self", "many"] ["self", "many"] (defScope sD_House___init__) := ⟨rfl, rfl, rfl, by decide +kernel, rfl, by decide +kernel, by decide +kernel⟩
theorem c_House___init__ (T : Txt K mg) : Mak P w K mg base 1 "House" (He.ga K "House") (spHouseInit K) [] := by
  refine makD T.F_House___init__ T.glo_House T.mkr_House sc_House___init__ (ps := ["self", "many"]) (k := 0) (fun _ _ _ _ _ _ us hl => match us, hl with | [_, _], _ => rfl) (fun vs H Q E h => ?_) (fun cdv A outer s H vs Q E hr h => ?_)
  · obtain ⟨_, _, _, rfl, _⟩ := h
    rfl
  refine ⟨_, (pss_cons (ps_fld (pv 0) (pv 1) rfl)
      (pss_cons (ps_fld (pv 0) pe_dnewK rfl)
      (pss_cons (ps_fld (pv 0) (pe_lst pa_nil) rfl)
      (pss_cons (ps_fld (pv 0) (pe_lst pa_nil) rfl)
      (pss_one (ps_fld (pv 0) (pe_lst pa_nil) rfl)))))), ?_⟩
  obtain ⟨p, dx, n, rfl, hp, k⟩ := h
  refine ⟨_, rfl, _, rfl, p, _, dx, _, rfl, hp, T.cls_House, T.noat_House_many, (by decide), fun cd hcd => ?_⟩
  have pc : p ≠ cd := ne_of_none upd_same hcd
  have hc0 : H cd = none := by rw [upd_ne pc.symm] at hcd; exact hcd
  refine ⟨_, rfl, p, _, dx, _, rfl, (upd_ne pc).trans upd_same, T.cls_House, T.noat_House_cells, (by show 1 < 1000; decide), Nat.zero_le _, fun od hod => ?_⟩
  have po : p ≠ od := ne_of_none upd_same hod
  have co : cd ≠ od := ne_of_none ((upd_ne pc.symm).trans upd_same) hod
  have ho0 : H od = none := by rw [upd_ne po.symm, upd_ne co.symm, upd_ne po.symm] at hod; exact hod
  refine ⟨_, rfl, p, _, dx, _, rfl, (upd_ne po).trans upd_same, T.cls_House, T.noat_House_order, Nat.lt_of_le_of_lt (length_putF _ _ _) (Nat.lt_of_le_of_lt (Nat.succ_le_succ (length_putF _ _ _)) (by decide)), Nat.zero_le _, fun dn hdn => ?_⟩
  have pd : p ≠ dn := ne_of_none upd_same hdn
  have od1 : od ≠ dn := ne_of_none ((upd_ne po.symm).trans upd_same) hdn
  have cd1 : cd ≠ dn := ne_of_none ((upd_ne pc.symm).trans ((upd_ne co).trans ((upd_ne pc.symm).trans upd_same))) hdn
  have hd0 : H dn = none := by rw [upd_ne pd.symm, upd_ne od1.symm, upd_ne pd.symm, upd_ne cd1.symm, upd_ne pd.symm] at hdn; exact hdn
  refine ⟨_, rfl, p, _, dx, _, rfl, (upd_ne pd).trans upd_same, T.cls_House, T.noat_House_done, Nat.lt_of_le_of_lt (length_putF _ _ _) (Nat.lt_of_le_of_lt (Nat.succ_le_succ (length_putF _ _ _)) (Nat.lt_of_le_of_lt (Nat.succ_le_succ (Nat.succ_le_succ (length_putF _ _ _))) (by decide))), Nat.zero_le _, fun nt hnt => ?_⟩
  have pn : p ≠ nt := ne_of_none upd_same hnt
  have dn1 : dn ≠ nt := ne_of_none ((upd_ne pd.symm).trans upd_same) hnt
  have on1 : od ≠ nt := ne_of_none ((upd_ne po.symm).trans ((upd_ne od1).trans ((upd_ne po.symm).trans upd_same))) hnt
  have cn1 : cd ≠ nt := ne_of_none ((upd_ne pc.symm).trans ((upd_ne cd1).trans ((upd_ne pc.symm).trans ((upd_ne co).trans ((upd_ne pc.symm).trans upd_same))))) hnt
  have hn0 : H nt = none := by rw [upd_ne pn.symm, upd_ne dn1.symm, upd_ne pn.symm, upd_ne on1.symm, upd_ne pn.symm, upd_ne cn1.symm, upd_ne pn.symm] at hnt; exact hnt
  refine ⟨_, rfl, p, _, dx, _, rfl, (upd_ne pn).trans upd_same, T.cls_House, T.noat_House_noted, Nat.lt_of_le_of_lt (length_putF _ _ _) (Nat.lt_of_le_of_lt (Nat.succ_le_succ (length_putF _ _ _)) (Nat.lt_of_le_of_lt (Nat.succ_le_succ (Nat.succ_le_succ (length_putF _ _ _))) (Nat.lt_of_le_of_lt (Nat.succ_le_succ (Nat.succ_le_succ (Nat.succ_le_succ (length_putF _ _ _)))) (by decide)))), ?_⟩
  refine k _ ⟨p, dx, cd, od, dn, nt, fun _ => 0⟩ (fun b o e nb => ?_) rfl ?_ ?_
  · have e1 := ne_of_none e hc0
    have e2 := ne_of_none e ho0
    have e3 := ne_of_none e hd0
    have e4 := ne_of_none e hn0
    rw [upd_ne nb, upd_ne e4, upd_ne nb, upd_ne e3, upd_ne nb, upd_ne e2, upd_ne nb, upd_ne e1, upd_ne nb]
    exact e
  · intro b hb
    have hb2 : b = od ∨ b = dn ∨ b = nt ∨ b = cd := by simpa [HF.fp, fpB] using hb
    rcases hb2 with e | e | e | e <;> rw [e] <;> assumption
  · refine ⟨?_, ⟨?_, fun m hm => (nomatch hm), fun m hm => (nomatch hm)⟩, ?_, ⟨[], ?_, .nil⟩, ⟨[], ?_, .nil⟩, rfl, od1, on1, dn1, fun m hm => (nomatch hm)⟩
    · refine upd_same.trans ?_
      rw [houseF_put]
    · rw [upd_ne pc.symm, upd_ne cn1, upd_ne pc.symm, upd_ne cd1, upd_ne pc.symm, upd_ne co, upd_ne pc.symm, upd_same]
      rfl
    · rw [upd_ne po.symm, upd_ne on1, upd_ne po.symm, upd_ne od1, upd_ne po.symm, upd_same]
      rfl
    · rw [upd_ne pd.symm, upd_ne dn1, upd_ne pd.symm, upd_same]
    · rw [upd_ne pn.symm, upd_same]
theorem sc_House_deeds : FnScope ["self", "one"] ["self"] (defScope sD_House_deeds) := ⟨rfl, rfl, rfl, by decide +kernel, rfl, by decide +kernel, by decide +kernel⟩
theorem c_House_deeds (T : Txt K mg) : Met P w K mg base 1 (He.ga K "House") "deeds" (spDeeds K) [] := by
  refine metD T.F_House_deeds T.cls_House T.meth_House_deeds sc_House_deeds (ps := ["self"]) (k := 0) (fun _ _ _ _ _ _ us hl => match us, hl with | [_], _ => rfl) (fun vs H Q E h => ?_) (fun cdv A outer s H vs Q E hr h => ?_)
  · obtain ⟨_, _, _, _, rfl, _⟩ := h
    rfl
  refine ⟨_, (pss_one (ps_ret (pe_lc (own := [("one", 1)]) rfl sc_House_deeds.nd (pi_list (pe_fld (pv 0) rfl)) (blkOk_by (own := [("one", 1)]) (N := ["self", "one"]) (sc := defScope sD_House_deeds) (by decide +kernel)) (fun _ _ _ _ _ => (pg_name (i := 1) sc_House_deeds.nd rfl (Or.inl rfl))) (fun _ _ _ _ _ => pts_nil) (fun _ _ _ _ _ => (pe_fld_B K (pv 1) rfl))))), ?_⟩
  obtain ⟨F, n, hs, ds, rfl, A, hl, k⟩ := h
  obtain ⟨vs, h1, h2⟩ := A.done
  refine ⟨_, rfl, F.p, _, F.dx, _, _, rfl, A.ins, T.cls_House, T.noat_House_done, hk_done _ _ _ _ _, F.dn, rfl, ⟨_, .inl (.inl h1)⟩, fun D hD => lc_it (walk_list (xs := vs)) (fun i H' => Same H H' ∧ ∃ us, H' D = some (.lst us) ∧ DtAll H' us ((ds.map deedD).take i))
    ⟨same_upd hD, [], upd_same, .nil⟩ (fun i H' _ p => .inl (.inl (p.1 _ _ h1))) ?_ ?_⟩
  · rintro i x H1 H' hi ⟨s1, us, g1, g2⟩ ⟨rfl, hx⟩
    obtain ⟨d, hd, hD2⟩ := h2.get' hx
    obtain ⟨a, dx, x1, y1, z1, rfl, e1, e2⟩ := (hD2.kp s1.kp).ex
    have hus : us.length ≤ 1000 := by rw [g2.len]; exact Nat.le_trans (List.length_take_le' _ _) (by rw [List.length_map]; exact hl)
    refine ⟨rfl, _, rfl, a, _, dx, _, _, rfl, e1, T.cls_Done, T.noat_Done_deed, lk_deed _ _ _, _, g1, szl (by omega), same_mut s1 hD, _, upd_same, ?_⟩
    rw [take_more (show (ds.map deedD)[i]? = some (deedD d) by rw [List.getElem?_map, hd]; rfl)]
    have k2 : Kp H' (upd H' D (.lst (us ++ [x1]))) := kp_upd g1 rfl
    exact (DtAll.kp k2 _ _ g2).app (.cons (Dt.kp k2 _ _ e2) .nil)
  · rintro H' ⟨s1, us, g1, g2⟩
    rw [List.take_of_length_le (by rw [List.length_map, h2.len]; exact Nat.le_refl _)] at g2
    exact k H' D us s1 hD g1 g2
theorem sc_House_names : FnScope ["self"] ["self"] (defScope sD_House_names) := ⟨rfl, rfl, rfl, by decide +kernel, rfl, by decide +kernel, by decide +kernel⟩
theorem c_House_names (T : Txt K mg) : Met P w K mg base 1 (He.ga K "House") "names" (spNames K) [] := by
  refine metD T.F_House_names T.cls_House T.meth_House_names sc_House_names (ps := ["self"]) (k := 0) (fun _ _ _ _ _ _ us hl => match us, hl with | [_], _ => rfl) (fun vs H Q E h => ?_) (fun cdv A outer s H vs Q E hr h => ?_)
  · obtain ⟨_, _, _, _, rfl, _⟩ := h
    rfl
  refine ⟨_, (pss_one (ps_ret (pe_callTy call_list_of (by rfl) T.free_list (by decide +kernel) (pa_cons (pe_fld (pv 0) rfl) pa_nil)))), ?_⟩
  obtain ⟨F, n, hs, ds, rfl, A, k⟩ := h
  exact ⟨_, rfl, F.p, _, F.dx, _, _, rfl, A.ins, T.cls_House, T.noat_House_order, hk_order _ _ _ _ _, _, _, rfl, .inl (.inl (.inl A.ord)), fun l hl => k _ l (same_upd hl) hl upd_same⟩
theorem sc_House_slips : FnScope ["self"] ["self"] (defScope sD_House_slips) := ⟨rfl, rfl, rfl, by decide +kernel, rfl, by decide +kernel, by decide +kernel⟩
theorem c_House_slips (T : Txt K mg) : Met P w K mg base 1 (He.ga K "House") "slips" (spSlipsOf K) [] := by
  refine metD T.F_House_slips T.cls_House T.meth_House_slips sc_House_slips (ps := ["self"]) (k := 0) (fun _ _ _ _ _ _ us hl => match us, hl with | [_], _ => rfl) (fun vs H Q E h => ?_) (fun cdv A outer s H vs Q E hr h => ?_)
  · obtain ⟨_, _, _, _, rfl, _⟩ := h
    rfl
  refine ⟨_, (pss_one (ps_ret (pe_callTy call_list_of (by rfl) T.free_list (by decide +kernel) (pa_cons (pe_fld (pv 0) rfl) pa_nil)))), ?_⟩
  obtain ⟨F, n, hs, ds, rfl, A, k⟩ := h
  obtain ⟨vs, h1, h2⟩ := A.noted
  exact ⟨_, rfl, F.p, _, F.dx, _, _, rfl, A.ins, T.cls_House, T.noat_House_noted, hk_noted _ _ _ _ _, _, _, rfl, .inl (.inl (.inl h1)), fun l hl => k _ l vs (same_upd hl) hl upd_same (((Pw.mapR (R := fun v d => Dt H v d) (g := noteD) h2).dt).same (same_upd hl))⟩
theorem sc_House_cells_of : FnScope ["self", "name"] ["self", "name"] (defScope sD_House_cells_of) := ⟨rfl, rfl, rfl, by decide +kernel, rfl, by decide +kernel, by decide +kernel⟩
theorem c_House_cells_of (T : Txt K mg) : Met P w K mg base 1 (He.ga K "House") "cells_of" (spCellsOf K) [] := by
  refine metD T.F_House_cells_of T.cls_House T.meth_House_cells_of sc_House_cells_of (ps := ["self", "name"]) (k := 0) (fun _ _ _ _ _ _ us hl => match us, hl with | [_, _], _ => rfl) (fun vs H Q E h => ?_) (fun cdv A outer s H vs Q E hr h => ?_)
  · obtain ⟨_, _, _, _, _, rfl, _⟩ := h
    rfl
  have hu := hu_of hr
  refine ⟨_, (pss_cons (ps_if (pt_cmp (pc_dnotin hu (pv 1) (pe_fld (pv 0) rfl))) (pss_one ps_never) pss_nil)
      (pss_one (ps_ret (pe_dget hu (pe_fld (pv 0) rfl) (pv 1) (fun _ _ => rfl))))), ?_⟩
  obtain ⟨F, n, hs, ds, m, rfl, A, hm, k⟩ := h
  refine ⟨_, rfl, _, rfl, F.p, _, F.dx, _, _, rfl, A.ins, T.cls_House, T.noat_House_cells, hk_cells _ _ _ _ _, F.cd, _, rfl, A.books.get hm, false, rfl, iteF ?_⟩
  exact ⟨_, rfl, F.p, _, F.dx, _, _, rfl, A.ins, T.cls_House, T.noat_House_cells, hk_cells _ _ _ _ _, _, rfl, F.cd, _, rfl, A.books.get hm, k⟩
theorem sc_House_book : FnScope ["self", "name", "cell"] ["self", "name"] (defScope sD_House_book) := ⟨rfl, rfl, rfl, by decide +kernel, rfl, by decide +kernel, by decide +kernel⟩
theorem c_House_book (T : Txt K mg) : Met P w K mg base 2 (He.ga K "House") "book" (spBook K) [] := by
  have c_House_cells_of := c_House_cells_of (P := P) (w := w) (base := base) T
  refine metD T.F_House_book T.cls_House T.meth_House_book sc_House_book (ps := ["self", "name"]) (k := 1) (fun _ _ _ _ _ _ us hl => match us, hl with | [_, _], _ => rfl) (fun vs H Q E h => ?_) (fun cdv A outer s H vs Q E hr h => ?_)
  · obtain ⟨_, _, _, _, _, rfl, _⟩ := h
    rfl
  refine ⟨_, (pss_one (ps_ret (pe_callTy call_tuple_of (by rfl) T.free_tuple (by decide +kernel) (pa_cons (pe_lc (own := [("cell", 2)]) rfl sc_House_book.nd (pi_list (pe_mt c_House_cells_of hr (by decide) (pv 0) (pa_cons (pv 1) pa_nil))) (blkOk_by (own := [("cell", 2)]) (N := ["self", "name", "cell"]) (sc := defScope sD_House_book) (by decide +kernel)) (fun _ _ _ _ _ => (pg_name (i := 2) sc_House_book.nd rfl (Or.inl rfl))) (fun _ _ _ _ _ => pts_nil) (fun _ _ _ _ _ => (pe_fld_B K (pv 2) rfl))) pa_nil)))), ?_⟩
  obtain ⟨F, n, hs, ds, m, rfl, A, hm, hl, k⟩ := h
  obtain ⟨vs, h1, h2⟩ := A.books.lists m hm
  refine ⟨_, rfl, F.p, F.dx, _, rfl, A.ins, hn_cells_of _ _ _ _ _, _, rfl, F, n, hs, ds, m, rfl, A, hm, F.L m, rfl, ⟨_, .inl (.inl h1)⟩, fun D hD => lc_it (walk_list (xs := vs)) (fun i H' => Same H H' ∧ H' D = some (.lst (((hs.bk m).take i).map fun c => rv c.rd)))
    ⟨same_upd hD, upd_same⟩ (fun i H' _ p => .inl (.inl (p.1 _ _ h1))) ?_ ?_⟩
  · rintro i x H1 H' hi ⟨s1, g1⟩ ⟨rfl, hx⟩
    obtain ⟨c, hc, hC⟩ := h2.get' hx
    obtain ⟨a, dx, z, o, u, rfl, e1, _⟩ := (CellAt.same s1 hC).ex
    refine ⟨rfl, _, rfl, a, _, dx, _, _, rfl, e1, T.cls_Cell, T.noat_Cell_reading, lk_reading _ _ _ _, _, g1, ?_, same_mut s1 hD, ?_⟩
    · rw [List.length_map]
      exact szl (Nat.le_trans (List.length_take_le' _ _) (by omega))
    · rw [upd_same, take_more hc, List.map_append]
      rfl
  · rintro H' ⟨s1, g1⟩
    rw [List.take_of_length_le (by rw [h2.len]; exact Nat.le_refl _)] at g1
    refine ⟨D, _, rfl, .inl ⟨.inl (.inl g1), fun l hl => ?_⟩⟩
    refine k _ _ (s1.trans (same_upd hl)) (.tup upd_same ?_)
    rw [show ((hs.bk m).map fun c => rv c.rd) = ((hs.bk m).map (·.rd)).map rv by rw [List.map_map]; rfl, show ((hs.bk m).map fun c => rdD c.rd) = ((hs.bk m).map (·.rd)).map rdD by rw [List.map_map]; rfl]
    exact DtAll.rvs _ _
theorem sc_House_hands : FnScope ["self", "name", "place"] ["self", "name", "place"] (defScope sD_House_hands) := ⟨rfl, rfl, rfl, by decide +kernel, rfl, by decide +kernel, by decide +kernel⟩
theorem c_House_hands (T : Txt K mg) : Met P w K mg base 2 (He.ga K "House") "hands" (spHands K) [] := by
  have c_House_cells_of := c_House_cells_of (P := P) (w := w) (base := base) T
  refine metD T.F_House_hands T.cls_House T.meth_House_hands sc_House_hands (ps := ["self", "name", "place"]) (k := 1) (fun _ _ _ _ _ _ us hl => match us, hl with | [_, _, _], _ => rfl) (fun vs H Q E h => ?_) (fun cdv A outer s H vs Q E hr h => ?_)
  · obtain ⟨_, _, _, _, _, _, _, rfl, _⟩ := h
    rfl
  refine ⟨_, (pss_one (ps_ret (pe_fld (pe_ix ix_list (pe_mt c_House_cells_of hr (by decide) (pv 0) (pa_cons (pv 1) pa_nil)) (pv 2) (fun _ _ => rfl)) rfl))), ?_⟩
  obtain ⟨F, n, hs, ds, m, i, c, rfl, A, hm, hc, k⟩ := h
  obtain ⟨vs, v, h1, h2, h3⟩ := A.books.cell hm hc
  obtain ⟨a, dx, z, o, u, rfl, e1, e2, e3, e4⟩ := h3.ex
  exact ⟨_, rfl, F.p, F.dx, _, rfl, A.ins, hn_cells_of _ _ _ _ _, _, rfl, F, n, hs, ds, m, rfl, A, hm, _, rfl, _, _, _, _, rfl, rfl, .inl (.inl h1), at_of rfl h2, a, _, dx, _, _, rfl, e1, T.cls_Cell, T.noat_Cell_stood, lk_stood _ _ _ _, k _ e2⟩
theorem sc_House_arose : FnScope ["self", "name", "place"] ["self", "name", "place"] (defScope sD_House_arose) := ⟨rfl, rfl, rfl, by decide +kernel, rfl, by decide +kernel, by decide +kernel⟩
theorem c_House_arose (T : Txt K mg) : Met P w K mg base 2 (He.ga K "House") "arose" (spArose K) [] := by
  have c_House_cells_of := c_House_cells_of (P := P) (w := w) (base := base) T
  refine metD T.F_House_arose T.cls_House T.meth_House_arose sc_House_arose (ps := ["self", "name", "place"]) (k := 1) (fun _ _ _ _ _ _ us hl => match us, hl with | [_, _, _], _ => rfl) (fun vs H Q E h => ?_) (fun cdv A outer s H vs Q E hr h => ?_)
  · obtain ⟨_, _, _, _, _, _, _, rfl, _⟩ := h
    rfl
  refine ⟨_, (pss_one (ps_ret (pe_fld (pe_ix ix_list (pe_mt c_House_cells_of hr (by decide) (pv 0) (pa_cons (pv 1) pa_nil)) (pv 2) (fun _ _ => rfl)) rfl))), ?_⟩
  obtain ⟨F, n, hs, ds, m, i, c, rfl, A, hm, hc, k⟩ := h
  obtain ⟨vs, v, h1, h2, h3⟩ := A.books.cell hm hc
  obtain ⟨a, dx, z, o, u, rfl, e1, e2, e3, e4⟩ := h3.ex
  exact ⟨_, rfl, F.p, F.dx, _, rfl, A.ins, hn_cells_of _ _ _ _ _, _, rfl, F, n, hs, ds, m, rfl, A, hm, _, rfl, _, _, _, _, rfl, rfl, .inl (.inl h1), at_of rfl h2, a, _, dx, _, _, rfl, e1, T.cls_Cell, T.noat_Cell_source, lk_source _ _ _ _, k _ e3⟩
theorem sc_House_way : FnScope ["self", "name", "place", "cell"] ["self", "name", "place"] (defScope sD_House_way) := ⟨rfl, rfl, rfl, by decide +kernel, rfl, by decide +kernel, by decide +kernel⟩
theorem c_House_way (T : Txt K mg) : Met P w K mg base 2 (He.ga K "House") "way" (spWay K) [] := by
  have c_House_cells_of := c_House_cells_of (P := P) (w := w) (base := base) T
  refine metD T.F_House_way T.cls_House T.meth_House_way sc_House_way (ps := ["self", "name", "place"]) (k := 1) (fun _ _ _ _ _ _ us hl => match us, hl with | [_, _, _], _ => rfl) (fun vs H Q E h => ?_) (fun cdv A outer s H vs Q E hr h => ?_)
  · obtain ⟨_, _, _, _, _, _, _, rfl, _⟩ := h
    rfl
  refine ⟨_, (pss_cons (ps_set (i := 3) sc_House_way.nd rfl (Or.inl rfl) (pe_ix ix_list (pe_mt c_House_cells_of hr (by decide) (pv 0) (pa_cons (pv 1) pa_nil)) (pv 2) (fun _ _ => rfl)))
      (pss_cons (ps_if (pt_cmp (pc_isN (pe_fld (pv 3) rfl))) (pss_one (ps_ret pe_non)) pss_nil)
      (pss_one (ps_ret (pe_callTy call_list_of (by rfl) T.free_list (by decide +kernel) (pa_cons (pe_fld (pv 3) rfl) pa_nil)))))), ?_⟩
  obtain ⟨F, n, hs, ds, m, i, c, rfl, A, hm, hc, k1, k2⟩ := h
  obtain ⟨vs, v, h1, h2, h3⟩ := A.books.cell hm hc
  obtain ⟨a, dx, z, o, u, rfl, e1, e2, e3, e4⟩ := h3.ex
  refine ⟨_, rfl, F.p, F.dx, _, rfl, A.ins, hn_cells_of _ _ _ _ _, _, rfl, F, n, hs, ds, m, rfl, A, hm, _, rfl, _, _, _, _, rfl, rfl, .inl (.inl h1), at_of rfl h2, ?_⟩
  refine ⟨_, rfl, a, _, dx, _, _, rfl, e1, T.cls_Cell, T.noat_Cell_reading, lk_reading _ _ _ _, _, rfl, ?_⟩
  show (if decide (rv c.rd = .non) = true then _ else _)
  rw [dec_rvN]
  by_cases q : c.rd = none
  · rw [decide_eq_true q]
    exact iteT (k1 q)
  · rw [decide_eq_false q]
    refine iteF ?_
    obtain ⟨b, ys, rfl, g1, g2⟩ := e4.tup_
    exact ⟨_, rfl, a, _, dx, _, _, rfl, e1, T.cls_Cell, T.noat_Cell_came, lk_came _ _ _ _, _, _, rfl, .inr (.inl (.inl g1)), fun l hl => k2 q _ l ys (same_upd hl) upd_same (g2.same (same_upd hl))⟩
end
end K69

set_option maxRecDepth 100000
set_option maxHeartbeats 4000000
/-! What a deed changes: the five kinds. -/
namespace K69
open PySem PySem.Spec PyProof.Rows L2
open C8 (Cal Mak Met pe_c pe_mk pe_mt pe_mt0 pe_gc)

/-! ### the changes: a dict of cells by places -/
def ChgAt (K : PySem.W.Frag) (H : Hp) (kv : List (Key × V)) (f : Nat → Option Cell) (i : Nat) : Prop := match f i with
  | none => valV kv (Sum.inl (i : Int)) = none
  | some c => ∃ v, valV kv (Sum.inl (i : Int)) = some v ∧ CellAt K H v c
structure Chg (K : PySem.W.Frag) (H : Hp) (a : Addr) (n m : Nat) (f : Nat → Option Cell) (kv : List (Key × V)) : Prop where
  dict : H a = some (.dK kv)
  len : kv.length ≤ m
  keys : ∀ e ∈ kv, ∃ i : Nat, i < n ∧ e.1 = Sum.inl (i : Int)
  at_ : ∀ i, ChgAt K H kv f i
theorem Chg.new {K : PySem.W.Frag} {H : Hp} {a : Addr} {n : Nat} (h : H a = some (.dK [])) : Chg K H a n 0 (fun _ => none) [] := ⟨h, Nat.le_refl _, fun _ e => (nomatch e), fun _ => rfl⟩
theorem Chg.keep {K : PySem.W.Frag} {H H' : Hp} {a : Addr} {n m : Nat} {f : Nat → Option Cell} {kv : List (Key × V)} (C : Chg K H a n m f kv) (k : Kp H H') (e : H' a = some (.dK kv)) : Chg K H' a n m f kv := ⟨e, C.len, C.keys, fun i => by
  have h := C.at_ i
  unfold ChgAt at h ⊢
  cases q : f i with
  | none => rw [q] at h; exact h
  | some c =>
    rw [q] at h
    obtain ⟨v, h1, h2⟩ := h
    exact ⟨v, h1, h2.kp k⟩⟩
theorem Chg.same {K : PySem.W.Frag} {H H' : Hp} {a : Addr} {n m : Nat} {f : Nat → Option Cell} {kv : List (Key × V)} (C : Chg K H a n m f kv) (s : Same H H') : Chg K H' a n m f kv := C.keep s.kp (s _ _ C.dict)
theorem Chg.congr {K : PySem.W.Frag} {H : Hp} {a : Addr} {n m m' : Nat} {f g : Nat → Option Cell} {kv : List (Key × V)} (C : Chg K H a n m f kv) (e : ∀ i, f i = g i) (hm : m ≤ m') : Chg K H a n m' g kv := ⟨C.dict, Nat.le_trans C.len hm, C.keys, fun i => by
  have h := C.at_ i
  unfold ChgAt at h ⊢
  rw [← e i]
  exact h⟩
theorem putK_len {k : Key} {v : V} (kv : List (Key × V)) : (putK kv k v).length ≤ kv.length + 1 := by
  unfold putK
  split
  · rw [List.length_map]; exact Nat.le_succ _
  · rw [List.length_append]; exact Nat.le_refl _
theorem putK_mem {k : Key} {v : V} {kv : List (Key × V)} {e : Key × V} (h : e ∈ putK kv k v) : e.1 = k ∨ ∃ e' ∈ kv, e.1 = e'.1 := by
  unfold putK at h
  split at h
  · obtain ⟨e', h1, rfl⟩ := List.mem_map.mp h
    by_cases z : e'.1 = k
    · rw [if_pos z]; exact .inl z
    · rw [if_neg z]; exact .inr ⟨e', h1, rfl⟩
  · rcases List.mem_append.mp h with h | h
    · exact .inr ⟨e, h, rfl⟩
    · rw [List.mem_singleton.mp h]; exact .inl rfl
theorem Chg.put {K : PySem.W.Frag} {H : Hp} {a : Addr} {n m : Nat} {f : Nat → Option Cell} {kv : List (Key × V)} (C : Chg K H a n m f kv) {i : Nat} (hi : i < n) {v : V} {c : Cell} (hv : CellAt K H v c) :
    Chg K (upd H a (.dK (putK kv (Sum.inl (i : Int)) v))) a n (m + 1) (fun j => if j = i then some c else f j) (putK kv (Sum.inl (i : Int)) v) := by
  have k : Kp H (upd H a (.dK (putK kv (Sum.inl (i : Int)) v))) := kp_upd C.dict rfl
  refine ⟨upd_same, Nat.le_trans (putK_len kv) (Nat.succ_le_succ C.len), fun e he => ?_, fun j => ?_⟩
  · rcases putK_mem he with z | ⟨e', h1, z⟩
    · exact ⟨i, hi, z⟩
    · rw [z]; exact C.keys e' h1
  · unfold ChgAt
    rw [valV_put]
    by_cases z : j = i
    · simp only [if_pos z, if_pos (show (Sum.inl (j : Int) : Key) = Sum.inl (i : Int) by rw [z])]
      exact ⟨v, rfl, hv.kp k⟩
    · have z2 : ¬ ((Sum.inl (j : Int) : Key) = Sum.inl (i : Int)) := fun q => z (by have := Sum.inl.inj q; omega)
      simp only [if_neg z, if_neg z2]
      have h := C.at_ j
      unfold ChgAt at h
      cases q : f j with
      | none => rw [q] at h; exact h
      | some d =>
        rw [q] at h
        obtain ⟨u, h1, h2⟩ := h
        exact ⟨u, h1, h2.kp k⟩
theorem Chg.get {K : PySem.W.Frag} {H : Hp} {a : Addr} {n m : Nat} {f : Nat → Option Cell} {kv : List (Key × V)} (C : Chg K H a n m f kv) {i : Nat} {c : Cell} (e : f i = some c) : ∃ v, DGet H a (.int (i : Int)) (some v) ∧ CellAt K H v c := by
  have h := C.at_ i
  unfold ChgAt at h
  rw [e] at h
  obtain ⟨v, h1, h2⟩ := h
  refine ⟨v, ?_, h2⟩
  have g := DGet.k (k := Sum.inl (i : Int)) C.dict
  rw [h1] at g
  exact g
/-- changes and notes are handed back -/
def ChRes (K : PySem.W.Frag) (H : Hp) (n : Nat) (new old : List Cell) (mk : Bool) (notes : List Note) (Q : VK) : Prop :=
  ∀ H' p c t kv f us, Same H H' → H c = none → H t = none → H' p = some (.tup [.ref c, .ref t]) → Chg K H' c n 1000 f kv → H' t = some (.lst us) → DtAll H' us (notes.map noteD) →
    (∀ i, i < n → (f i = none → mk = false ∧ new[i]? = old[i]?) ∧ ∀ x, f i = some x → new[i]? = some x) → Q (.ref p) H'

/-! ### copies -/
theorem partsOk_from {n : Nat} : ∀ {parts : List (Str × Nat × Nat)} {b i : Nat} {p : Str × Nat × Nat}, partsOk n b parts → parts[i]? = some p → b ≤ p.2.1 ∧ p.2.1 < p.2.2 ∧ p.2.2 ≤ n
  | [], _, i, _, _, e => by simp at e
  | q :: r, b, 0, p, ⟨_, h1, h2, h3, _⟩, e => by
    have e2 : q = p := Option.some.inj e
    subst e2
    omega
  | q :: r, b, i + 1, p, ⟨_, h1, h2, h3, h4⟩, e => by
    have := partsOk_from (i := i) h4 e
    omega
theorem copyBase_at {n : Nat} {bk : Str → List Cell} (nm : Str) : ∀ {parts : List (Str × Nat × Nat)} {b i j : Nat} {p : Str × Nat × Nat}, partsOk n b parts → (∀ m ∈ parts.map (·.1), (bk m).length = n) → parts[i]? = some p → p.2.1 ≤ j → j < p.2.2 →
    (copyBase bk nm parts)[j - b]? = ((bk p.1)[j]?).map (handed nm)
  | [], _, i, _, _, _, _, e, _, _ => by simp at e
  | q :: r, b, 0, j, p, ⟨_, h1, h2, h3, h4⟩, hl, e, h5, h6 => by
    have e2 : q = p := Option.some.inj e
    subst e2
    have el := stretch_len (hl q.1 List.mem_cons_self) (by omega) h3
    show ((stretch bk q).map (handed nm) ++ copyBase bk nm r)[j - b]? = _
    rw [List.getElem?_append_left (by rw [List.length_map, el]; omega), List.getElem?_map]
    unfold stretch
    rw [List.getElem?_take, if_pos (by omega), List.getElem?_drop]
    congr 2
    omega
  | q :: r, b, i + 1, j, p, ⟨_, h1, h2, h3, h4⟩, hl, e, h5, h6 => by
    have ih := copyBase_at nm (b := q.2.2) (i := i) (j := j) h4 (fun m hm => hl m (List.mem_cons_of_mem _ hm)) e h5 h6
    have f := partsOk_from (i := i) h4 e
    have el := stretch_len (hl q.1 List.mem_cons_self) (by omega) h3
    show ((stretch bk q).map (handed nm) ++ copyBase bk nm r)[j - b]? = _
    rw [List.getElem?_append_right (by rw [List.length_map, el]; omega), List.length_map, el, ← ih]
    congr 1
    omega

/-! ### promises -/
def spLook (K : PySem.W.Frag) : Sp := fun vs H Q _ => ∃ (F : HF) (n : Nat) (h : Hs) (ds : List Deed) (d : Deed) (v : V), vs = [.ref F.p, v] ∧ HouseAt K H F n h ds ∧ Dt H v (deedD d) ∧ Ok n h d ∧ h.order.length < 40 ∧ d.models.length ≤ 1000 ∧ ∀ H', Same H H' → Q .non H'
def spWritten (K : PySem.W.Frag) : Sp := fun vs H Q _ => ∃ (F : HF) (n : Nat) (h : Hs) (ds : List Deed) (nm : Str) (row : List Str) (v : V), vs = [.ref F.p, .str nm, v] ∧ HouseAt K H F n h ds ∧ Dt H v (.tuple (row.map .str)) ∧ row.length = n ∧ n ≤ 40 ∧ ChRes K H n (row.map (risen nm h.cnt)) [] true [] Q
def spMendedH (K : PySem.W.Frag) : Sp := fun vs H Q _ => ∃ (F : HF) (n : Nat) (h : Hs) (ds : List Deed) (nm : Str) (pl : Nat) (rd : Str), vs = [.ref F.p, .str nm, .int pl, .str rd] ∧ HouseAt K H F n h ds ∧ nm ∈ h.order ∧ pl < n ∧ (h.bk nm).length = n ∧ (∀ c ∈ h.bk nm, c.st.length ≤ 1000) ∧
  (∀ c, (h.bk nm)[pl]? = some c → c.rd ≠ some rd) ∧ ChRes K H n (after h.bk h.cnt (.mend nm pl rd)).1 (h.bk nm) false (after h.bk h.cnt (.mend nm pl rd)).2 Q
def spMatchedH (K : PySem.W.Frag) : Sp := fun vs H Q _ => ∃ (F : HF) (n : Nat) (h : Hs) (ds : List Deed) (nm md : Str) (a b : Nat), vs = [.ref F.p, .str nm, .str md, .int a, .int b] ∧ HouseAt K H F n h ds ∧ nm ∈ h.order ∧ md ∈ h.order ∧ a < b ∧ b ≤ n ∧ n ≤ 40 ∧ (h.bk nm).length = n ∧ (h.bk md).length = n ∧
  (∀ c ∈ h.bk nm, c.st.length ≤ 1000) ∧ (∀ c ∈ h.bk md, c.came.length ≤ 1000) ∧ ChRes K H n (after h.bk h.cnt (.mtch nm md a b)).1 (h.bk nm) false [] Q
def spLostH (K : PySem.W.Frag) : Sp := fun vs H Q _ => ∃ (F : HF) (n : Nat) (h : Hs) (ds : List Deed) (nm : Str) (a b : Nat), vs = [.ref F.p, .str nm, .int a, .int b] ∧ HouseAt K H F n h ds ∧ nm ∈ h.order ∧ a < b ∧ b ≤ n ∧ n ≤ 40 ∧ (h.bk nm).length = n ∧
  (∀ c ∈ h.bk nm, c.st.length ≤ 1000) ∧ ChRes K H n (after h.bk h.cnt (.lose nm a b)).1 (h.bk nm) false [] Q
section
variable {P : Program} {w : World} {K : PySem.W.Frag} {mg : Str → Option Value} {base : Heap}
theorem sc_House_look_at_books : FnScope ["self", "deed", "model"] ["self", "deed"] (defScope sD_House_look_at_books) := ⟨rfl, rfl, rfl, by decide +kernel, rfl, by decide +kernel, by decide +kernel⟩
theorem c_House_look_at_books (T : Txt K mg) : Met P w K mg base 2 (He.ga K "House") "look_at_books" (spLook K) [] := by
  have c_makes := c_makes (P := P) (w := w) (base := base) T
  have c_models_of := c_models_of (P := P) (w := w) (base := base) T
  refine metD T.F_House_look_at_books T.cls_House T.meth_House_look_at_books sc_House_look_at_books (ps := ["self", "deed"]) (k := 1) (fun _ _ _ _ _ _ us hl => match us, hl with | [_, _], _ => rfl) (fun vs H Q E h => ?_) (fun cdv A outer s H vs Q E hr h => ?_)
  · obtain ⟨_, _, _, _, _, _, rfl, _⟩ := h
    rfl
  have hu := hu_of hr
  refine ⟨_, (pss_cons (ps_if (pt_val (pe_c c_makes hr (by decide) rfl (pa_cons (pv 1) pa_nil))) (pss_one (ps_if (PW.pt (pw_or (pt_cmp (pc_din hu (pe_ix ix_tup (pv 1) pe_int (fun _ _ => rfl)) (pe_fld (pv 0) rfl))) (pw_or1 (pt_cmpR op_ge (pe_callB call_lenD (by rfl) T.free_len PySem.boot_len (pa_cons (pe_fld (pv 0) rfl) pa_nil)) (pe_gc rfl T.c_MOST_BOOKS) (nomark _))))) (pss_one ps_never) pss_nil)) (pss_one (ps_if (pt_cmp (pc_dnotin hu (pe_ix ix_tup (pv 1) pe_int (fun _ _ => rfl)) (pe_fld (pv 0) rfl))) (pss_one ps_never) pss_nil)))
      (pss_one (ps_for PassesOwn.never rfl (pi_list (pe_c c_models_of hr (by decide) rfl (pa_cons (pv 1) pa_nil))) (pg_name (i := 2) sc_House_look_at_books.nd rfl (Or.inl rfl)) (pss_one (ps_if (PW.pt (pw_or (pt_cmp (pc_dnotin hu (pv 2) (pe_fld (pv 0) rfl))) (pw_or1 (pt_cmpR op_eq (pv 2) (pe_ix ix_tup (pv 1) pe_int (fun _ _ => rfl)) (nomark _))))) (pss_one ps_never) pss_nil))))), ?_⟩
  obtain ⟨F, n, hs, ds, d, v, rfl, A, hv, ok, h40, hm, k⟩ := h
  refine ⟨_, rfl, v, d, rfl, hv, fun H1 s1 => ?_⟩
  have A1 := A.same s1
  have hv1 := hv.same s1
  have hv2 := hv1
  rw [deedD_eq] at hv2
  obtain ⟨a, xs, rfl, ha, hx⟩ := hv2.tup_
  cases hx with
  | cons _ hx => cases hx with
    | cons e2 hx =>
      cases str_of e2
      -- the rest: the models
      have fin : tSeq (tFor (iList K (tCall spModels [] C8.E0 (tCons (tVar 1) tNil))) (gName 2) (tIfS (tOr (tB (tDNotIn (tVar 2) (tFld K (tVar 0) "cells"))) (tTest (tOp rEq (tVar 2) (tOp (rIxT K) (tVar 1) (tC (.int 1)))))) tNever tNext)) tNext
          { nx := fun _ H' => Q .non H', rt := Q } [some (.ref F.p), some (.ref a), none] H1 := by
        refine ⟨_, rfl, _, d, rfl, hv1, hm, fun H2 p s2 np hp => ?_⟩
        refine ⟨p, rfl, ⟨_, .inl (.inl hp)⟩, for_it (walk_list (xs := d.models.map .str)) (fun i σ H' => H' = H2 ∧ ∃ u, σ = [some (.ref F.p), some (.ref a), u]) ⟨rfl, none, rfl⟩ (fun i σ H' _ p1 => by rw [p1.1]; exact .inl (.inl hp)) ?_ ?_⟩
        · rintro i x σ H3 H' hi ⟨rfl, u, rfl⟩ ⟨rfl, hx1⟩
          rw [List.getElem?_map] at hx1
          cases q : d.models[i]? with
          | none => rw [q] at hx1; cases hx1
          | some m =>
            rw [q] at hx1
            cases hx1
            obtain ⟨m1, m2⟩ := ok.mods m (List.mem_of_getElem? q)
            have A2 := A1.same s2
            refine ⟨_, rfl, _, rfl, F.p, _, F.dx, _, _, rfl, A2.ins, T.cls_House, T.noat_House_cells, hk_cells _ _ _ _ _, F.cd, _, rfl, A2.books.get m1, false, rfl, iteF ?_⟩
            refine ⟨_, rfl, _, rfl, _, _, _, _, rfl, rfl, .inl (.inl (s2 _ _ ha)), at_of (j := 1) rfl rfl, rfl, false, ?_, iteF ⟨rfl, _, rfl⟩⟩
            exact congrArg V.bl (decide_eq_false fun z => m2 (by injection z))
        · rintro σ H' ⟨rfl, u, rfl⟩
          exact k _ (s1.trans s2)
      refine ⟨_, rfl, ?_⟩
      cases hmk : d.makes with
      | true =>
        refine iteT ?_
        refine ⟨_, rfl, _, _, _, _, rfl, rfl, .inl (.inl ha), at_of (j := 1) rfl rfl, _, rfl, F.p, _, F.dx, _, _, rfl, A1.ins, T.cls_House, T.noat_House_cells, hk_cells _ _ _ _ _, F.cd, _, rfl, A1.books.ask d.nm, false, ?_, iteF ?_⟩
        · rw [if_neg (ok.new hmk)]
          rfl
        refine ⟨_, rfl, F.p, _, F.dx, _, _, rfl, A1.ins, T.cls_House, T.noat_House_cells, hk_cells _ _ _ _ _, F.cd, _, rfl, A1.books.dict, _, _, rfl, rfl, false, ?_, iteF fin⟩
        exact congrArg V.bl (decide_eq_false (by rw [kvs_len]; omega))
      | false =>
        refine iteF ?_
        refine ⟨_, rfl, _, _, _, _, rfl, rfl, .inl (.inl ha), at_of (j := 1) rfl rfl, _, rfl, F.p, _, F.dx, _, _, rfl, A1.ins, T.cls_House, T.noat_House_cells, hk_cells _ _ _ _ _, F.cd, _, rfl, A1.books.get (ok.here hmk), false, rfl, iteF fin⟩
theorem sc_House_written : FnScope ["self", "name", "row", "changes", "place", "reading"] ["self", "name", "row"] (defScope sD_House_written) := ⟨rfl, rfl, rfl, by decide +kernel, rfl, by decide +kernel, by decide +kernel⟩
theorem c_House_written (T : Txt K mg) : Met P w K mg base 4 (He.ga K "House") "written" (spWritten K) [] := by
  have c_risen := c_risen (P := P) (w := w) (base := base) T
  refine metD T.F_House_written T.cls_House T.meth_House_written sc_House_written (ps := ["self", "name", "row"]) (k := 3) (fun _ _ _ _ _ _ us hl => match us, hl with | [_, _, _], _ => rfl) (fun vs H Q E h => ?_) (fun cdv A outer s H vs Q E hr h => ?_)
  · obtain ⟨_, _, _, _, _, _, _, rfl, _⟩ := h
    rfl
  have hu := hu_of hr
  refine ⟨_, (pss_cons (ps_set (i := 3) sc_House_written.nd rfl (Or.inl rfl) pe_dnewK)
      (pss_cons (ps_for PassesOwn.never rfl (pi_enumT (by rfl) T.free_enumerate (pa_cons (pv 2) pa_nil)) (pg_tup rfl (pgs_cons (pg_name (i := 4) sc_House_written.nd rfl (Or.inl rfl)) (pgs_cons (pg_name (i := 5) sc_House_written.nd rfl (Or.inl rfl)) pgs_nil))) (pss_one (ps_dput hu (pv 3) (pv 4) (pe_c c_risen hr (by decide) rfl (pa_cons (pv 1) (pa_cons (pe_callB call_len_seq (by rfl) T.free_len PySem.boot_len (pa_cons (pe_fld (pv 0) rfl) pa_nil)) (pa_cons (pv 5) pa_nil)))) rfl)))
      (pss_one (ps_ret (pe_tup (pa_cons (pv 3) (pa_cons (pe_lst pa_nil) pa_nil))))))), ?_⟩
  obtain ⟨F, n, hs, ds, nm, row, v, rfl, A, hv, hl, hn, k⟩ := h
  obtain ⟨a, xs, rfl, ha, hx⟩ := hv.tup_
  obtain ⟨vd, hd, hdP⟩ := A.done
  have ec : vd.length = hs.cnt := hdP.len.trans A.cnt
  have exl : xs.length = n := by rw [hx.len, List.length_map, hl]
  refine fun D hD => ?_
  refine ⟨_, rfl, a, xs, rfl, .inl (.inl ((same_upd hD) _ _ ha)), for_it (walk_enumT (xs := xs)) (fun i σ H' => Same H H' ∧ ∃ kv v1 v2, σ = [some (.ref F.p), some (.str nm), some (.ref a), some (.ref D), v1, v2] ∧ Chg K H' D n i (fun j => if j < i then (row.map (risen nm hs.cnt))[j]? else none) kv)
    ⟨same_upd hD, [], none, none, rfl, (Chg.new upd_same).congr (fun i => (if_neg (Nat.not_lt_zero i)).symm) (Nat.le_refl _)⟩ (fun i σ H' _ p => .inl (.inl (p.1 _ _ ha))) ?_ ?_⟩
  · rintro i x σ H1 H' hi ⟨s1, kv, v1, v2, rfl, C⟩ ⟨T0, x0, y0, rfl, hT, rfl, e0, hy⟩
    cases e0
    have s2 : Same H1 _ := same_upd (o := .tup [.int (i : Nat), y0]) hT
    have s3 := s1.trans s2
    obtain ⟨d, hd1, hD1⟩ := hx.get' hy
    rw [List.getElem?_map] at hd1
    cases q : row[i]? with
    | none => rw [q] at hd1; cases hd1
    | some r =>
      rw [q] at hd1
      cases hd1
      cases str_of hD1
      refine ⟨T0, _, rfl, .inl (.inl upd_same), rfl, _, _, rfl, _, _, rfl, rfl, ?_⟩
      refine ⟨_, rfl, _, rfl, F.p, _, F.dx, _, _, rfl, s3 _ _ A.ins, T.cls_House, T.noat_House_done, hk_done _ _ _ _ _, _, _, rfl, .inl (.inl (.inl (s3 _ _ hd))), _, rfl, nm, vd.length, r, rfl, fun H2 u s4 hu => ?_⟩
      have C2 := (C.same s2).same s4
      refine ⟨_, rfl, _, rfl, D, _, rfl, DPut.k (k := Sum.inl (i : Int)) C2.dict (szl (by have := C2.len; omega)), same_mut (s3.trans s4) hD, putK kv (Sum.inl (i : Int)) u, _, _, rfl, ?_⟩
      refine (C2.put (by omega) hu).congr (fun j => ?_) (Nat.le_refl _)
      by_cases z : j = i
      · rw [if_pos z, if_pos (by omega), z, List.getElem?_map, q, ec]
        rfl
      · rw [if_neg z]
        by_cases z2 : j < i
        · rw [if_pos z2, if_pos (by omega)]
        · rw [if_neg z2, if_neg (by omega)]
  · rintro σ H1 ⟨s1, kv, v1, v2, rfl, C⟩
    refine ⟨_, rfl, Nat.zero_le _, fun t ht => ⟨sz (szn 2), fun p hp => ?_⟩⟩
    have s2 : Same H1 _ := same_upd (o := .lst []) ht
    have s3 := s2.trans (same_upd (o := .tup [.ref D, .ref t]) hp)
    refine k _ p D t kv _ [] (s1.trans s3) hD (s1.free ht) upd_same ((C.same s3).congr (fun _ => rfl) (by omega)) ((same_upd hp) _ _ upd_same) .nil fun i hi => ⟨fun e => ?_, fun x e => ?_⟩
    · rw [if_pos (by omega)] at e
      have : i < (row.map (risen nm hs.cnt)).length := by rw [List.length_map]; omega
      rw [List.getElem?_eq_getElem this] at e
      cases e
    · rw [if_pos (by omega)] at e
      exact e
theorem sc_House_mended : FnScope ["self", "name", "place", "reading", "cell", "changes"] ["self", "name", "place", "reading"] (defScope sD_House_mended) := ⟨rfl, rfl, rfl, by decide +kernel, rfl, by decide +kernel, by decide +kernel⟩
theorem c_House_mended (T : Txt K mg) : Met P w K mg base 5 (He.ga K "House") "mended" (spMendedH K) [] := by
  have c_Cell_mended := c_Cell_mended (P := P) (w := w) (base := base) T
  refine metD T.F_House_mended T.cls_House T.meth_House_mended sc_House_mended (ps := ["self", "name", "place", "reading"]) (k := 4) (fun _ _ _ _ _ _ us hl => match us, hl with | [_, _, _, _], _ => rfl) (fun vs H Q E h => ?_) (fun cdv A outer s H vs Q E hr h => ?_)
  · obtain ⟨_, _, _, _, _, _, _, rfl, _⟩ := h
    rfl
  have hu := hu_of hr
  refine ⟨_, (pss_cons (ps_set (i := 4) sc_House_mended.nd rfl (Or.inl rfl) (pe_ix ix_list (pe_dget hu (pe_fld (pv 0) rfl) (pv 1) (fun _ _ => rfl)) (pv 2) (fun _ _ => rfl)))
      (pss_cons (ps_if (pt_cmpR op_eq (pe_fld (pv 4) rfl) (pv 3) (nomark _)) (pss_one ps_never) pss_nil)
      (pss_cons (ps_set (i := 5) sc_House_mended.nd rfl (Or.inl rfl) (pe_disp (pps_cons (pv 2) (pe_mt c_Cell_mended hr (by decide) (pv 4) (pa_cons (pv 1) (pa_cons (pe_callB call_len_seq (by rfl) T.free_len PySem.boot_len (pa_cons (pe_fld (pv 0) rfl) pa_nil)) (pa_cons (pv 3) pa_nil)))) pps_nil) (by rfl) (by rfl) (fun z => by cases z) (by decide)))
      (pss_one (ps_ret (pe_tup (pa_cons (pv 5) (pa_cons (pe_lst (pa_cons (pe_tup (pa_cons (pe_callB call_len_seq (by rfl) T.free_len PySem.boot_len (pa_cons (pe_fld (pv 0) rfl) pa_nil)) (pa_cons (pv 1) (pa_cons (pv 2) (pa_cons (pe_fld (pv 4) rfl) (pa_cons (pv 3) pa_nil)))))) pa_nil)) pa_nil)))))))), ?_⟩
  obtain ⟨F, n, hs, ds, nm, pl, rd, rfl, A, hm, hp, hl, hst, hne, k⟩ := h
  obtain ⟨vd, hd, hdP⟩ := A.done
  have ec : vd.length = hs.cnt := hdP.len.trans A.cnt
  have hpl : pl < (hs.bk nm).length := by omega
  obtain ⟨c, hc⟩ : ∃ c, (hs.bk nm)[pl]? = some c := ⟨_, List.getElem?_eq_getElem hpl⟩
  obtain ⟨vs, v, h1, h2, h3⟩ := A.books.cell hm hc
  have h3' := h3
  obtain ⟨a, dx, z, o, u, rfl, e1, e2, e3, e4⟩ := h3'.ex
  refine ⟨_, rfl, F.p, _, F.dx, _, _, rfl, A.ins, T.cls_House, T.noat_House_cells, hk_cells _ _ _ _ _, _, rfl, F.cd, _, rfl, A.books.get hm, _, rfl, _, _, _, _, rfl, rfl, .inl (.inl (h1)), at_of rfl (h2), ?_⟩
  have sc : scal (rv c.rd) (.str rd) = true := scal_rv c.rd (some rd) (.inr (by intro z; cases z))
  have dc : decide (rv c.rd = .str rd) = false := by
    have := dec_rv c.rd (some rd)
    rw [decide_eq_false (hne c hc)] at this
    exact this
  refine ⟨_, rfl, a, _, dx, _, _, rfl, e1, T.cls_Cell, T.noat_Cell_reading, lk_reading _ _ _ _, _, rfl, sc, false, congrArg V.bl dc, iteF ?_⟩
  refine fun D hD => ?_
  have s1 : Same H _ := same_upd (o := .dK []) hD
  refine ⟨_, rfl, _, rfl, a, dx, _, rfl, s1 _ _ e1, lk_mended _ _ _ _, _, rfl, _, rfl, F.p, _, F.dx, _, _, rfl, s1 _ _ A.ins, T.cls_House, T.noat_House_done, hk_done _ _ _ _ _, _, _, rfl, .inl (.inl (.inl (s1 _ _ hd))), _, rfl, _, nm, vd.length, rd, c, rfl, h3.same s1, hst c (List.mem_of_getElem? hc), fun H2 y s2 hy => ?_⟩
  refine ⟨s2 _ _ upd_same, [(Sum.inl (pl : Int), y)], rfl, (by show 1 ≤ 15; decide), ?_⟩
  have C := ((Chg.new (K := K) (n := n) (s2 _ _ upd_same)).put hp hy)
  have s3 : Same H (upd H2 D (.dK (mergeK [] [(Sum.inl (pl : Int), y)]))) := same_mut (s1.trans s2) hD
  refine ⟨_, rfl, _, rfl, F.p, _, F.dx, _, _, rfl, s3 _ _ A.ins, T.cls_House, T.noat_House_done, hk_done _ _ _ _ _, _, _, rfl, .inl (.inl (.inl (s3 _ _ hd))), _, rfl, _, rfl, _, rfl, a, _, dx, _, _, rfl, s3 _ _ e1, T.cls_Cell, T.noat_Cell_reading, lk_reading _ _ _ _, _, rfl, sz (szn 5), fun t1 ht1 => ?_⟩
  obtain ⟨s4, hN⟩ := tupF (ds := [.int (vd.length : Nat), .str nm, .int (pl : Nat), rdD c.rd, .str rd]) (.cons (.int _) (.cons (.str _) (.cons (.int _) (.cons (dt_rv _ _) (.cons (.str _) .nil))))) ht1
  refine ⟨sz (szn 1), fun t ht => ?_⟩
  have s5 := same_upd (o := .lst [.ref t1]) ht
  refine ⟨sz (szn 2), fun p hp2 => ?_⟩
  have s6 := same_upd (o := .tup [.ref D, .ref t]) hp2
  have s46 := (s4.trans s5).trans s6
  refine k _ p D t _ _ [.ref t1] (s3.trans s46) hD ((s3.trans s4).free ht) upd_same (((C.same s46)).congr (fun _ => rfl) (by omega)) (s6 _ _ upd_same) (.cons (?_ : Dt _ _ (noteD ⟨hs.cnt, nm, pl, (hs.bk nm)[pl]?.bind Cell.rd, rd⟩)) .nil) fun i hi => ⟨fun e => ?_, fun x e => ?_⟩
  · rw [hc, ← ec]
    exact hN.same (s5.trans s6)
  · by_cases q : i = pl
    · rw [if_pos q] at e; cases e
    · refine ⟨rfl, ?_⟩
      show ((hs.bk nm).modify pl _)[i]? = _
      rw [List.getElem?_modify]
      cases (hs.bk nm)[i]? with
      | none => rfl
      | some y0 =>
        show some (if pl = i then _ else y0) = _
        rw [if_neg fun z => q z.symm]
  · by_cases q : i = pl
    · rw [if_pos q] at e
      cases e
      show ((hs.bk nm).modify pl _)[i]? = _
      rw [List.getElem?_modify, q, hc]
      show some (if pl = pl then mendC c nm hs.cnt rd else c) = _
      rw [if_pos rfl, ec]
    · rw [if_neg q] at e; cases e
end
end K69

set_option maxRecDepth 100000
set_option maxHeartbeats 4000000
/-! What a deed changes: copies, matches, losses. -/
namespace K69
open PySem PySem.Spec PyProof.Rows L2
open C8 (Cal Mak Met pe_c pe_mk pe_mt pe_mt0 pe_gc)

def gMatch (cs os : List Cell) (nm : Str) (j : Nat) : Option Cell := match cs[j]?, os[j]? with
  | some c, some o => if takes o c then some (matchC c nm o) else none
  | _, _ => none
def gLose (cs : List Cell) (j : Nat) : Option Cell := match cs[j]? with
  | some c => if c.rd ≠ none then some (lostC c) else none
  | none => none
theorem slipsOk_len {n : Nat} {cs : List Cell} : ∀ {ss : List (Nat × Str)} {b : Nat}, slipsOk n cs b ss → b ≤ n → ss.length + b ≤ n
  | [], b, _, h => by simpa using h
  | s :: r, b, ⟨h1, h2, _, _, h5⟩, _ => by
    have := slipsOk_len h5 (by omega)
    rw [List.length_cons]
    omega
def spCopiedH (K : PySem.W.Frag) : Sp := fun vs H Q _ => ∃ (F : HF) (n : Nat) (h : Hs) (ds : List Deed) (nm : Str) (parts : List (Str × Nat × Nat)) (slips : List (Nat × Str)) (v u : V), vs = [.ref F.p, .str nm, v, u] ∧ HouseAt K H F n h ds ∧
  Dt H v (.tuple (parts.map partD)) ∧ Dt H u (.tuple (slips.map slipD)) ∧ partsOk n 0 parts ∧ slipsOk n (copyBase h.bk nm parts) 0 slips ∧ (∀ m ∈ parts.map (·.1), m ∈ h.order ∧ (h.bk m).length = n) ∧ n ≤ 40 ∧ (∀ m, ∀ c ∈ h.bk m, c.came.length ≤ 1000) ∧
  ChRes K H n (after h.bk h.cnt (.copy nm parts slips)).1 [] true (after h.bk h.cnt (.copy nm parts slips)).2 Q
section
variable {P : Program} {w : World} {K : PySem.W.Frag} {mg : Str → Option Value} {base : Heap}
theorem sc_House_matched : FnScope ["self", "name", "model", "first", "last", "changes", "place", "cell", "other"] ["self", "name", "model", "first", "last"] (defScope sD_House_matched) := ⟨rfl, rfl, rfl, by decide +kernel, rfl, by decide +kernel, by decide +kernel⟩
theorem c_House_matched (T : Txt K mg) : Met P w K mg base 5 (He.ga K "House") "matched" (spMatchedH K) [] := by
  have c_Cell_matched := c_Cell_matched (P := P) (w := w) (base := base) T
  refine metD T.F_House_matched T.cls_House T.meth_House_matched sc_House_matched (ps := ["self", "name", "model", "first", "last"]) (k := 4) (fun _ _ _ _ _ _ us hl => match us, hl with | [_, _, _, _, _], _ => rfl) (fun vs H Q E h => ?_) (fun cdv A outer s H vs Q E hr h => ?_)
  · obtain ⟨_, _, _, _, _, _, _, _, rfl, _⟩ := h
    rfl
  have hu := hu_of hr
  refine ⟨_, (pss_cons (ps_set (i := 5) sc_House_matched.nd rfl (Or.inl rfl) pe_dnewK)
      (pss_cons (ps_for PassesOwn.never rfl (pi_range2 (by rfl) T.free_range (pa_cons (pv 3) (pa_cons (pv 4) pa_nil))) (pg_name (i := 6) sc_House_matched.nd rfl (Or.inl rfl)) (pss_cons (ps_set (i := 7) sc_House_matched.nd rfl (Or.inl rfl) (pe_ix ix_list (pe_dget hu (pe_fld (pv 0) rfl) (pv 1) (fun _ _ => rfl)) (pv 6) (fun _ _ => rfl)))
      (pss_cons (ps_set (i := 8) sc_House_matched.nd rfl (Or.inl rfl) (pe_ix ix_list (pe_dget hu (pe_fld (pv 0) rfl) (pv 2) (fun _ _ => rfl)) (pv 6) (fun _ _ => rfl)))
      (pss_one (ps_if (PW.pt (pw_and (pt_cmp (pc_notN (pe_fld (pv 8) rfl))) (pw_and1 (pt_cmpR op_ne (pe_fld (pv 8) rfl) (pe_fld (pv 7) rfl) (nomark _))))) (pss_one (ps_dput hu (pv 5) (pv 6) (pe_mt c_Cell_matched hr (by decide) (pv 7) (pa_cons (pv 1) (pa_cons (pv 8) pa_nil))) rfl)) pss_nil)))))
      (pss_one (ps_ret (pe_tup (pa_cons (pv 5) (pa_cons (pe_lst pa_nil) pa_nil))))))), ?_⟩
  obtain ⟨F, n, hs, ds, nm, md, a, b, rfl, A, hm, hd, hab, hbn, hn, l1, l2, hst, hcm, k⟩ := h
  obtain ⟨xs, hx1, hx2⟩ := A.books.lists nm hm
  obtain ⟨ys, hy1, hy2⟩ := A.books.lists md hd
  refine fun D hD => ?_
  refine ⟨_, rfl, _, rfl, a, b, rfl, by omega, for_it (walk_range (lo := (a : Int)) (n := ((b : Int) - a).toNat)) (fun i σ H' => Same H H' ∧ ∃ kv v6 v7 v8, σ = [some (.ref F.p), some (.str nm), some (.str md), some (.int a), some (.int b), some (.ref D), v6, v7, v8] ∧ Chg K H' D n i (fun j => if a ≤ j ∧ j < a + i then gMatch (hs.bk nm) (hs.bk md) nm j else none) kv)
    ⟨same_upd hD, [], none, none, none, rfl, (Chg.new upd_same).congr (fun i => (if_neg (by omega)).symm) (Nat.le_refl _)⟩ (fun _ _ _ _ _ => trivial) ?_ ?_⟩
  · rintro i x σ H1 H' hi ⟨s1, kv, v6, v7, v8, rfl, C⟩ ⟨rfl, hx⟩
    obtain rfl : x = .int ((a + i : Nat) : Int) := by rw [hx]; congr 1
    have hj : a + i < n := by omega
    obtain ⟨c, hc⟩ : ∃ c, (hs.bk nm)[a + i]? = some c := ⟨_, List.getElem?_eq_getElem (by omega)⟩
    obtain ⟨o, ho⟩ : ∃ o, (hs.bk md)[a + i]? = some o := ⟨_, List.getElem?_eq_getElem (by omega)⟩
    obtain ⟨cv, c1, c2⟩ := hx2.get hc
    obtain ⟨ov, o1, o2⟩ := hy2.get ho
    have A1 := A.same s1
    have c2' := CellAt.same s1 c2
    have o2' := CellAt.same s1 o2
    have c3 := c2'
    have o3 := o2'
    obtain ⟨ca, cdx, cs0, co0, cw0, rfl, e1, _⟩ := c3.ex
    obtain ⟨oa, odx, os0, oo0, ow0, rfl, g1, _⟩ := o3.ex
    refine ⟨_, rfl, F.p, _, F.dx, _, _, rfl, (A1.ins), T.cls_House, T.noat_House_cells, hk_cells _ _ _ _ _, _, rfl, F.cd, _, rfl, A1.books.get hm, _, rfl, _, _, _, _, rfl, rfl, .inl (.inl (s1 _ _ hx1)), at_of rfl (c1), ?_⟩
    refine ⟨_, rfl, F.p, _, F.dx, _, _, rfl, (A1.ins), T.cls_House, T.noat_House_cells, hk_cells _ _ _ _ _, _, rfl, F.cd, _, rfl, A1.books.get hd, _, rfl, _, _, _, _, rfl, rfl, .inl (.inl (s1 _ _ hy1)), at_of rfl (o1), ?_⟩
    refine ⟨_, rfl, oa, _, odx, _, _, rfl, (g1), T.cls_Cell, T.noat_Cell_reading, lk_reading _ _ _ _, _, rfl, ?_⟩
    have gm : gMatch (hs.bk nm) (hs.bk md) nm (a + i) = if takes o c then some (matchC c nm o) else none := by unfold gMatch; rw [hc, ho]
    -- the turn by whether it is taken
    have skip : takes o c = false → Chg K H' D n (i + 1) (fun j => if a ≤ j ∧ j < a + (i + 1) then gMatch (hs.bk nm) (hs.bk md) nm j else none) kv := fun ht => C.congr (fun j => by
      by_cases z : j = a + i
      · rw [if_neg (by omega), z, if_pos (by omega), gm, ht]; rfl
      · by_cases z2 : a ≤ j ∧ j < a + i
        · rw [if_pos z2, if_pos (by omega)]
        · rw [if_neg z2, if_neg (by omega)]) (Nat.le_succ _)
    cases hor : o.rd with
    | none =>
      have ht : takes o c = false := decide_eq_false fun z => z.1 hor
      exact iteF (iteF ⟨s1, kv, _, _, _, rfl, skip ht⟩)
    | some r =>
      refine iteT ?_
      refine ⟨_, rfl, oa, _, odx, _, _, rfl, g1, T.cls_Cell, T.noat_Cell_reading, lk_reading _ _ _ _, _, rfl, ca, _, cdx, _, _, rfl, (e1), T.cls_Cell, T.noat_Cell_reading, lk_reading _ _ _ _, ?_⟩
      rw [hor]
      refine ⟨scal_rv (some r) c.rd (.inl (by intro z; cases z)), _, rfl, ?_⟩
      show (if (!decide (rv (some r) = rv c.rd)) = true then _ else _)
      rw [dec_rv]
      by_cases z : some r = c.rd
      · rw [decide_eq_true z]
        have ht : takes o c = false := decide_eq_false fun q => q.2 (by rw [hor]; exact z)
        exact iteF ⟨s1, kv, _, _, _, rfl, skip ht⟩
      · rw [decide_eq_false z]
        have ht : takes o c = true := decide_eq_true ⟨(by rw [hor]; intro q; cases q), (by rw [hor]; exact z)⟩
        refine iteT ?_
        refine ⟨_, rfl, ca, cdx, _, rfl, e1, lk_matched _ _ _ _, _, rfl, _, rfl, _, _, nm, c, o, rfl, c2', o2', hst c (List.mem_of_getElem? hc), hcm o (List.mem_of_getElem? ho), fun H2 u s2 hu => ?_⟩
        have C2 := C.same s2
        refine ⟨_, rfl, _, rfl, D, _, rfl, DPut.k (k := Sum.inl ((a + i : Nat) : Int)) C2.dict (szl (by have := C2.len; omega)), same_mut (s1.trans s2) hD, putK kv (Sum.inl ((a + i : Nat) : Int)) u, _, _, _, rfl, ?_⟩
        refine (C2.put hj hu).congr (fun j => ?_) (Nat.le_refl _)
        by_cases z3 : j = a + i
        · rw [if_pos z3, z3, if_pos (by omega), gm, ht]; rfl
        · rw [if_neg z3]
          by_cases z2 : a ≤ j ∧ j < a + i
          · rw [if_pos z2, if_pos (by omega)]
          · rw [if_neg z2, if_neg (by omega)]
  · rintro σ H1 ⟨s1, kv, v6, v7, v8, rfl, C⟩
    refine ⟨_, rfl, Nat.zero_le _, fun t ht => ⟨sz (szn 2), fun p hp => ?_⟩⟩
    have s2 : Same H1 _ := same_upd (o := .lst []) ht
    have s3 := s2.trans (same_upd (o := .tup [.ref D, .ref t]) hp)
    have hnew : ∀ i c o, (hs.bk nm)[i]? = some c → (hs.bk md)[i]? = some o → ((hs.bk nm).mapIdx (mtchAt (hs.bk md) nm a b))[i]? = some (if a ≤ i ∧ i < b then (if takes o c then matchC c nm o else c) else c) := fun i c o e1 e2 => by
      rw [List.getElem?_mapIdx, e1]
      show some (mtchAt (hs.bk md) nm a b i c) = _
      unfold mtchAt
      rw [e2]
    refine k _ p D t kv _ [] (s1.trans s3) hD (s1.free ht) upd_same ((C.same s3).congr (fun _ => rfl) (by omega)) ((same_upd hp) _ _ upd_same) .nil fun i hi => ?_
    obtain ⟨c, hc⟩ : ∃ c, (hs.bk nm)[i]? = some c := ⟨_, List.getElem?_eq_getElem (by omega)⟩
    obtain ⟨o, ho⟩ : ∃ o, (hs.bk md)[i]? = some o := ⟨_, List.getElem?_eq_getElem (by omega)⟩
    have hN := hnew i c o hc ho
    have ee : a + ((b : Int) - a).toNat = b := by omega
    rw [ee]
    have gm : gMatch (hs.bk nm) (hs.bk md) nm i = if takes o c then some (matchC c nm o) else none := by unfold gMatch; rw [hc, ho]
    refine ⟨fun e => ⟨rfl, ?_⟩, fun x e => ?_⟩
    · show ((hs.bk nm).mapIdx (mtchAt (hs.bk md) nm a b))[i]? = _
      rw [hN, hc]
      by_cases z : a ≤ i ∧ i < b
      · rw [if_pos z, gm] at e
        rw [if_pos z]
        cases ht : takes o c with
        | true => rw [ht] at e; cases e
        | false => rfl
      · rw [if_neg z]
    · show ((hs.bk nm).mapIdx (mtchAt (hs.bk md) nm a b))[i]? = _
      rw [hN]
      by_cases z : a ≤ i ∧ i < b
      · rw [if_pos z, gm] at e
        rw [if_pos z]
        cases ht : takes o c with
        | true => rw [ht] at e; exact e
        | false => rw [ht] at e; cases e
      · rw [if_neg z] at e; cases e
theorem sc_House_lost : FnScope ["self", "name", "first", "last", "changes", "place", "cell"] ["self", "name", "first", "last"] (defScope sD_House_lost) := ⟨rfl, rfl, rfl, by decide +kernel, rfl, by decide +kernel, by decide +kernel⟩
theorem c_House_lost (T : Txt K mg) : Met P w K mg base 5 (He.ga K "House") "lost" (spLostH K) [] := by
  have c_Cell_lost := c_Cell_lost (P := P) (w := w) (base := base) T
  refine metD T.F_House_lost T.cls_House T.meth_House_lost sc_House_lost (ps := ["self", "name", "first", "last"]) (k := 4) (fun _ _ _ _ _ _ us hl => match us, hl with | [_, _, _, _], _ => rfl) (fun vs H Q E h => ?_) (fun cdv A outer s H vs Q E hr h => ?_)
  · obtain ⟨_, _, _, _, _, _, _, rfl, _⟩ := h
    rfl
  have hu := hu_of hr
  refine ⟨_, (pss_cons (ps_set (i := 4) sc_House_lost.nd rfl (Or.inl rfl) pe_dnewK)
      (pss_cons (ps_for PassesOwn.never rfl (pi_range2 (by rfl) T.free_range (pa_cons (pv 2) (pa_cons (pv 3) pa_nil))) (pg_name (i := 5) sc_House_lost.nd rfl (Or.inl rfl)) (pss_cons (ps_set (i := 6) sc_House_lost.nd rfl (Or.inl rfl) (pe_ix ix_list (pe_dget hu (pe_fld (pv 0) rfl) (pv 1) (fun _ _ => rfl)) (pv 5) (fun _ _ => rfl)))
      (pss_one (ps_if (pt_cmp (pc_notN (pe_fld (pv 6) rfl))) (pss_one (ps_dput hu (pv 4) (pv 5) (pe_mt0 c_Cell_lost hr (by decide) (pv 6)) rfl)) pss_nil))))
      (pss_one (ps_ret (pe_tup (pa_cons (pv 4) (pa_cons (pe_lst pa_nil) pa_nil))))))), ?_⟩
  obtain ⟨F, n, hs, ds, nm, a, b, rfl, A, hm, hab, hbn, hn, l1, hst, k⟩ := h
  obtain ⟨xs, hx1, hx2⟩ := A.books.lists nm hm
  refine fun D hD => ?_
  refine ⟨_, rfl, _, rfl, a, b, rfl, by omega, for_it (walk_range (lo := (a : Int)) (n := ((b : Int) - a).toNat)) (fun i σ H' => Same H H' ∧ ∃ kv v5 v6, σ = [some (.ref F.p), some (.str nm), some (.int a), some (.int b), some (.ref D), v5, v6] ∧ Chg K H' D n i (fun j => if a ≤ j ∧ j < a + i then gLose (hs.bk nm) j else none) kv)
    ⟨same_upd hD, [], none, none, rfl, (Chg.new upd_same).congr (fun i => (if_neg (by omega)).symm) (Nat.le_refl _)⟩ (fun _ _ _ _ _ => trivial) ?_ ?_⟩
  · rintro i x σ H1 H' hi ⟨s1, kv, v5, v6, rfl, C⟩ ⟨rfl, hx⟩
    obtain rfl : x = .int ((a + i : Nat) : Int) := by rw [hx]; congr 1
    have hj : a + i < n := by omega
    obtain ⟨c, hc⟩ : ∃ c, (hs.bk nm)[a + i]? = some c := ⟨_, List.getElem?_eq_getElem (by omega)⟩
    obtain ⟨cv, c1, c2⟩ := hx2.get hc
    have A1 := A.same s1
    have c2' := CellAt.same s1 c2
    have c3 := c2'
    obtain ⟨ca, cdx, cs0, co0, cw0, rfl, e1, _⟩ := c3.ex
    refine ⟨_, rfl, F.p, _, F.dx, _, _, rfl, (A1.ins), T.cls_House, T.noat_House_cells, hk_cells _ _ _ _ _, _, rfl, F.cd, _, rfl, A1.books.get hm, _, rfl, _, _, _, _, rfl, rfl, .inl (.inl (s1 _ _ hx1)), at_of rfl (c1), ?_⟩
    refine ⟨_, rfl, ca, _, cdx, _, _, rfl, (e1), T.cls_Cell, T.noat_Cell_reading, lk_reading _ _ _ _, _, rfl, ?_⟩
    have gm : gLose (hs.bk nm) (a + i) = if c.rd ≠ none then some (lostC c) else none := by unfold gLose; rw [hc]
    show (if (!decide (rv c.rd = .non)) = true then _ else _)
    rw [dec_rvN]
    by_cases z : c.rd = none
    · rw [decide_eq_true z]
      refine iteF ⟨s1, kv, _, _, rfl, C.congr (fun j => ?_) (Nat.le_succ _)⟩
      by_cases z3 : j = a + i
      · rw [if_neg (by omega), z3, if_pos (by omega), gm, if_neg (fun q => q z)]
      · by_cases z2 : a ≤ j ∧ j < a + i
        · rw [if_pos z2, if_pos (by omega)]
        · rw [if_neg z2, if_neg (by omega)]
    · rw [decide_eq_false z]
      refine iteT ?_
      refine ⟨_, rfl, ca, cdx, _, rfl, e1, lk_lost _ _ _ _, _, c, rfl, c2', hst c (List.mem_of_getElem? hc), fun H2 u s2 hu => ?_⟩
      have C2 := C.same s2
      refine ⟨_, rfl, _, rfl, D, _, rfl, DPut.k (k := Sum.inl ((a + i : Nat) : Int)) C2.dict (szl (by have := C2.len; omega)), same_mut (s1.trans s2) hD, putK kv (Sum.inl ((a + i : Nat) : Int)) u, _, _, rfl, ?_⟩
      refine (C2.put hj hu).congr (fun j => ?_) (Nat.le_refl _)
      by_cases z3 : j = a + i
      · rw [if_pos z3, z3, if_pos (by omega), gm, if_pos z]
      · rw [if_neg z3]
        by_cases z2 : a ≤ j ∧ j < a + i
        · rw [if_pos z2, if_pos (by omega)]
        · rw [if_neg z2, if_neg (by omega)]
  · rintro σ H1 ⟨s1, kv, v5, v6, rfl, C⟩
    refine ⟨_, rfl, Nat.zero_le _, fun t ht => ⟨sz (szn 2), fun p hp => ?_⟩⟩
    have s2 : Same H1 _ := same_upd (o := .lst []) ht
    have s3 := s2.trans (same_upd (o := .tup [.ref D, .ref t]) hp)
    refine k _ p D t kv _ [] (s1.trans s3) hD (s1.free ht) upd_same ((C.same s3).congr (fun _ => rfl) (by omega)) ((same_upd hp) _ _ upd_same) .nil fun i hi => ?_
    obtain ⟨c, hc⟩ : ∃ c, (hs.bk nm)[i]? = some c := ⟨_, List.getElem?_eq_getElem (by omega)⟩
    have hN : ((hs.bk nm).mapIdx (loseAt a b))[i]? = some (loseAt a b i c) := by rw [List.getElem?_mapIdx, hc]; rfl
    have ee : a + ((b : Int) - a).toNat = b := by omega
    rw [ee]
    have gm : gLose (hs.bk nm) i = if c.rd ≠ none then some (lostC c) else none := by unfold gLose; rw [hc]
    refine ⟨fun e => ⟨rfl, ?_⟩, fun x e => ?_⟩
    · show ((hs.bk nm).mapIdx (loseAt a b))[i]? = _
      rw [hN, hc]
      unfold loseAt
      by_cases z : a ≤ i ∧ i < b
      · rw [if_pos z, gm] at e
        by_cases z2 : c.rd ≠ none
        · rw [if_pos z2] at e; cases e
        · rw [if_neg fun q => z2 q.2.2]
      · rw [if_neg fun q => z ⟨q.1, q.2.1⟩]
    · show ((hs.bk nm).mapIdx (loseAt a b))[i]? = _
      rw [hN]
      unfold loseAt
      by_cases z : a ≤ i ∧ i < b
      · rw [if_pos z, gm] at e
        by_cases z2 : c.rd ≠ none
        · rw [if_pos z2] at e
          rw [if_pos ⟨z.1, z.2, z2⟩]
          exact e
        · rw [if_neg z2] at e; cases e
      · rw [if_neg z] at e; cases e
end
end K69

set_option maxRecDepth 100000
set_option maxHeartbeats 4000000
/-! What a deed changes: copies; all five. -/
namespace K69
open PySem PySem.Spec PyProof.Rows L2
open C8 (Cal Mak Met pe_c pe_mk pe_mt pe_mt0 pe_gc)

theorem slipsRun_more (nm : Str) (k : Nat) (a : List Cell × List Note) {ss : List (Nat × Str)} {i : Nat} {s : Nat × Str} (h : ss[i]? = some s) : slipsRun nm k a (ss.take (i + 1)) = slipStep nm k (slipsRun nm k a (ss.take i)) s := by
  unfold slipsRun
  rw [take_more h, List.foldl_append]
  rfl
def spChanges (K : PySem.W.Frag) : Sp := fun vs H Q _ => ∃ (F : HF) (n : Nat) (h : Hs) (ds : List Deed) (d : Deed) (v : V), vs = [.ref F.p, v] ∧ HouseAt K H F n h ds ∧ Wf n h ∧ Ok n h d ∧ Dt H v (deedD d) ∧ n ≤ 40 ∧ h.cnt ≤ 900 ∧
  ChRes K H n (after h.bk h.cnt d).1 (h.bk d.nm) d.makes (after h.bk h.cnt d).2 Q
theorem ChRes.old {K : PySem.W.Frag} {H : Hp} {n : Nat} {new o1 o2 : List Cell} {notes : List Note} {Q : VK} (h : ChRes K H n new o1 true notes Q) : ChRes K H n new o2 true notes Q :=
  fun H' p c t kv f us a b c1 d e g i j => h H' p c t kv f us a b c1 d e g i fun k hk => ⟨fun z => (nomatch ((j k hk).1 z).1), (j k hk).2⟩
section
variable {P : Program} {w : World} {K : PySem.W.Frag} {mg : Str → Option Value} {base : Heap}
theorem sc_House_copied : FnScope ["self", "name", "parts", "slips", "changes", "model", "first", "last", "place", "notes", "reading", "before"] ["self", "name", "parts", "slips"] (defScope sD_House_copied) := ⟨rfl, rfl, rfl, by decide +kernel, rfl, by decide +kernel, by decide +kernel⟩
theorem c_House_copied (T : Txt K mg) : Met P w K mg base 4 (He.ga K "House") "copied" (spCopiedH K) [] := by
  have c_handed_on := c_handed_on (P := P) (w := w) (base := base) T
  have c_risen := c_risen (P := P) (w := w) (base := base) T
  refine metD T.F_House_copied T.cls_House T.meth_House_copied sc_House_copied (ps := ["self", "name", "parts", "slips"]) (k := 3) (fun _ _ _ _ _ _ us hl => match us, hl with | [_, _, _, _], _ => rfl) (fun vs H Q E h => ?_) (fun cdv A outer s H vs Q E hr h => ?_)
  · obtain ⟨_, _, _, _, _, _, _, _, _, rfl, _⟩ := h
    rfl
  have hu := hu_of hr
  refine ⟨_, (pss_cons (ps_set (i := 4) sc_House_copied.nd rfl (Or.inl rfl) pe_dnewK)
      (pss_cons (ps_for PassesOwn.never rfl (pi_tup (pv 2)) (pg_tup rfl (pgs_cons (pg_name (i := 5) sc_House_copied.nd rfl (Or.inl rfl)) (pgs_cons (pg_name (i := 6) sc_House_copied.nd rfl (Or.inl rfl)) (pgs_cons (pg_name (i := 7) sc_House_copied.nd rfl (Or.inl rfl)) pgs_nil)))) (pss_one (ps_for PassesOwn.never rfl (pi_range2 (by rfl) T.free_range (pa_cons (pv 6) (pa_cons (pv 7) pa_nil))) (pg_name (i := 8) sc_House_copied.nd rfl (Or.inl rfl)) (pss_one (ps_dput hu (pv 4) (pv 8) (pe_c c_handed_on hr (by decide) rfl (pa_cons (pv 1) (pa_cons (pe_ix ix_list (pe_dget hu (pe_fld (pv 0) rfl) (pv 5) (fun _ _ => rfl)) (pv 8) (fun _ _ => rfl)) pa_nil))) rfl)))))
      (pss_cons (ps_set (i := 9) sc_House_copied.nd rfl (Or.inl rfl) (pe_lst pa_nil))
      (pss_cons (ps_for PassesOwn.never rfl (pi_tup (pv 3)) (pg_tup rfl (pgs_cons (pg_name (i := 8) sc_House_copied.nd rfl (Or.inl rfl)) (pgs_cons (pg_name (i := 10) sc_House_copied.nd rfl (Or.inl rfl)) pgs_nil))) (pss_cons (ps_set (i := 11) sc_House_copied.nd rfl (Or.inl rfl) (pe_fld (pe_dget hu (pv 4) (pv 8) (fun _ _ => rfl)) rfl))
      (pss_cons (ps_if (pt_cmpR op_eq (pv 11) (pv 10) (nomark _)) (pss_one ps_never) pss_nil)
      (pss_cons (ps_expr (pe_bm PySem.F.plainAttrs_list PySem.F.slot_list_append PySem.F.type_list_append mt_append (pv 9) (pa_cons (pe_tup (pa_cons (pe_callB call_len_seq (by rfl) T.free_len PySem.boot_len (pa_cons (pe_fld (pv 0) rfl) pa_nil)) (pa_cons (pv 1) (pa_cons (pv 8) (pa_cons (pv 11) (pa_cons (pv 10) pa_nil)))))) pa_nil)))
      (pss_one (ps_dput hu (pv 4) (pv 8) (pe_c c_risen hr (by decide) rfl (pa_cons (pv 1) (pa_cons (pe_callB call_len_seq (by rfl) T.free_len PySem.boot_len (pa_cons (pe_fld (pv 0) rfl) pa_nil)) (pa_cons (pv 10) pa_nil)))) rfl))))))
      (pss_one (ps_ret (pe_tup (pa_cons (pv 4) (pa_cons (pv 9) pa_nil))))))))), ?_⟩
  obtain ⟨F, n, hs, ds, nm, parts, slips, v, u, rfl, A, hv, hu', hpo, hso, hmo, hn, hcm, k⟩ := h
  obtain ⟨pa, xs, rfl, hpa, hx⟩ := hv.tup_
  obtain ⟨sa, ys, rfl, hsa, hy⟩ := hu'.tup_
  obtain ⟨vd, hd, hdP⟩ := A.done
  have ec : vd.length = hs.cnt := hdP.len.trans A.cnt
  have hlen : (copyBase hs.bk nm parts).length = n := copyBase_len nm parts 0 hpo fun m hm => (hmo m hm).2
  have hat : ∀ {i j : Nat} {p : Str × Nat × Nat}, parts[i]? = some p → p.2.1 ≤ j → j < p.2.2 → (copyBase hs.bk nm parts)[j]? = ((hs.bk p.1)[j]?).map (handed nm) := fun e h1 h2 => copyBase_at nm hpo (fun m hm => (hmo m hm).2) e h1 h2
  refine fun D hD => ?_
  refine ⟨_, rfl, pa, rfl, ⟨_, .inl (.inl ((same_upd hD) _ _ hpa))⟩, for_it (walk_tup (xs := xs)) (fun i σ H' => Same H H' ∧ ∃ kv b v5 v6 v7 v8, σ = [some (.ref F.p), some (.str nm), some (.ref pa), some (.ref sa), some (.ref D), v5, v6, v7, v8, none, none, none] ∧
      partsOk n b (parts.drop i) ∧ Chg K H' D n b (fun j => if j < b then (copyBase hs.bk nm parts)[j]? else none) kv)
    ⟨same_upd hD, [], 0, none, none, none, none, rfl, hpo, (Chg.new upd_same).congr (fun i => (if_neg (Nat.not_lt_zero i)).symm) (Nat.le_refl _)⟩ (fun i σ H' _ p => .inl (.inl (p.1 _ _ hpa))) ?_ ?_⟩
  · rintro i x σ H1 H' hi ⟨s1, kv, b, v5, v6, v7, v8, rfl, hb, C⟩ ⟨rfl, hxi⟩
    obtain ⟨d, hd1, hD1⟩ := hx.get' hxi
    rw [List.getElem?_map] at hd1
    cases q : parts[i]? with
    | none => rw [q] at hd1; cases hd1
    | some p =>
      rw [q] at hd1
      cases hd1
      have hi2 := (List.getElem?_eq_some_iff.mp q).1
      have hp : parts[i] = p := (List.getElem?_eq_some_iff.mp q).2
      rw [List.drop_eq_getElem_cons hi2, hp] at hb
      have hmm := hmo p.1 (List.mem_map_of_mem (List.mem_of_getElem? q))
      have hatp : ∀ {j : Nat}, p.2.1 ≤ j → j < p.2.2 → _ := fun {j} h1 h2 => hat (j := j) q h1 h2
      obtain ⟨m, f, l⟩ := p
      obtain ⟨h1, h2, h3, h4, h5⟩ := hb
      simp only at h1 h2 h3 h4 h5 hmm hatp
      subst h2
      obtain ⟨ta, txs, rfl, hta, hts⟩ := (hD1.same s1).tup_
      cases hts with
      | cons e1 hts => cases hts with
        | cons e2 hts => cases hts with
          | cons e3 hts =>
            cases hts
            cases str_of e1
            cases int_of e2
            cases int_of e3
            refine ⟨ta, _, rfl, .inl (.inl hta), rfl, _, _, rfl, _, _, rfl, _, _, rfl, rfl, ?_⟩
            obtain ⟨ms, g1, g2⟩ := A.books.lists m hmm.1
            refine ⟨_, rfl, _, rfl, f, l, rfl, by omega, for_it (walk_range (lo := (f : Int)) (n := ((l : Int) - f).toNat)) (fun i σ H' => Same H H' ∧ ∃ kv v8, σ = [some (.ref F.p), some (.str nm), some (.ref pa), some (.ref sa), some (.ref D), some (.str m), some (.int f), some (.int l), v8, none, none, none] ∧
                Chg K H' D n (f + i) (fun j => if j < f + i then (copyBase hs.bk nm parts)[j]? else none) kv)
              ⟨s1, kv, v8, rfl, C⟩ (fun _ _ _ _ _ => trivial) ?_ ?_⟩
            · rintro i2 x σ H1 H'' hi3 ⟨s3, kv3, v83, rfl, C3⟩ ⟨rfl, hx3⟩
              obtain rfl : x = .int ((f + i2 : Nat) : Int) := by rw [hx3]; congr 1
              have hj : f + i2 < n := by omega
              obtain ⟨c, hc⟩ : ∃ c, (hs.bk m)[f + i2]? = some c := ⟨_, List.getElem?_eq_getElem (by omega)⟩
              obtain ⟨cv, c1, c2⟩ := g2.get hc
              have A3 := A.same s3
              refine ⟨_, rfl, _, rfl, F.p, _, F.dx, _, _, rfl, (A3.ins), T.cls_House, T.noat_House_cells, hk_cells _ _ _ _ _, _, rfl, F.cd, _, rfl, A3.books.get hmm.1, _, rfl, _, _, _, _, rfl, rfl, .inl (.inl (s3 _ _ g1)), at_of rfl (c1), nm, cv, c, rfl, CellAt.same s3 c2, hcm m c (List.mem_of_getElem? hc), fun H2 u s4 hu2 => ?_⟩
              have C4 := C3.same s4
              refine ⟨_, rfl, _, rfl, D, _, rfl, DPut.k (k := Sum.inl ((f + i2 : Nat) : Int)) C4.dict (szl (by have := C4.len; omega)), same_mut (s3.trans s4) hD, putK kv3 (Sum.inl ((f + i2 : Nat) : Int)) u, _, rfl, ?_⟩
              refine (C4.put hj hu2).congr (fun j => ?_) (by omega)
              by_cases z : j = f + i2
              · rw [if_pos z, if_pos (by omega), z, hatp (by omega) (by omega), hc]; rfl
              · rw [if_neg z]
                by_cases z2 : j < f + i2
                · rw [if_pos z2, if_pos (by omega)]
                · rw [if_neg z2, if_neg (by omega)]
            · rintro σ H1 ⟨s3, kv3, v83, rfl, C3⟩
              have ee : f + ((l : Int) - f).toNat = l := by omega
              rw [ee] at C3
              exact ⟨s3, kv3, l, _, _, _, _, rfl, h5, C3⟩
  · rintro σ H1 ⟨s1, kv, b, v5, v6, v7, v8, rfl, hb, C⟩
    rw [show parts.drop xs.length = [] by rw [hx.len, List.length_map, List.drop_length]] at hb
    have eb : b = n := hb
    subst eb
    refine ⟨Nat.zero_le _, fun t ht => ?_⟩
    have s2 : Same H1 _ := same_upd (o := .lst []) ht
    have tD : t ≠ D := fun z => by rw [z, C.dict] at ht; cases ht
    have hsl := slipsOk_len hso (Nat.zero_le _)
    refine ⟨_, rfl, sa, rfl, ⟨_, .inl (.inl (s2 _ _ (s1 _ _ hsa)))⟩, for_it (walk_tup (xs := ys)) (fun i σ H' => Same H H' ∧ ∃ kv b2 us v5 v6 v7 v8 v10 v11, σ = [some (.ref F.p), some (.str nm), some (.ref pa), some (.ref sa), some (.ref D), v5, v6, v7, v8, some (.ref t), v10, v11] ∧
        slipsOk b (copyBase hs.bk nm parts) b2 (slips.drop i) ∧ Chg K H' D b (b + i) (fun j => (slipsRun nm hs.cnt (copyBase hs.bk nm parts, []) (slips.take i)).1[j]?) kv ∧ H' t = some (.lst us) ∧ DtAll H' us ((slipsRun nm hs.cnt (copyBase hs.bk nm parts, []) (slips.take i)).2.map noteD) ∧
        us.length ≤ i ∧ ∀ j, b2 ≤ j → (slipsRun nm hs.cnt (copyBase hs.bk nm parts, []) (slips.take i)).1[j]? = (copyBase hs.bk nm parts)[j]?)
      ⟨s1.trans s2, kv, 0, [], _, _, _, _, none, none, rfl, hso, (C.same s2).congr (fun j => ?_) (Nat.le_refl _), upd_same, .nil, Nat.le_refl _, fun _ _ => rfl⟩ (fun i σ H' _ p => .inl (.inl (p.1 _ _ hsa))) ?_ ?_⟩
    · show (if j < b then _ else none) = (copyBase hs.bk nm parts)[j]?
      by_cases z : j < b
      · rw [if_pos z]
      · rw [if_neg z, List.getElem?_eq_none (by omega)]
    · rintro i x σ H2 H' hi ⟨s3, kv3, b2, us, v5, v6, v7, v8, v10, v11, rfl, hb2, C3, ht3, hN3, hul, hab⟩ ⟨rfl, hxi⟩
      obtain ⟨d, hd1, hD1⟩ := hy.get' hxi
      rw [List.getElem?_map] at hd1
      cases q : slips[i]? with
      | none => rw [q] at hd1; cases hd1
      | some p =>
        rw [q] at hd1
        cases hd1
        have hi2 := (List.getElem?_eq_some_iff.mp q).1
        have hp : slips[i] = p := (List.getElem?_eq_some_iff.mp q).2
        rw [List.drop_eq_getElem_cons hi2, hp] at hb2
        have more := slipsRun_more nm hs.cnt (copyBase hs.bk nm parts, []) q
        obtain ⟨pl, rd⟩ := p
        obtain ⟨h1, h2, h3, h4, h5⟩ := hb2
        simp only at h1 h2 h3 h4 h5
        obtain ⟨ta, txs, rfl, hta, hts⟩ := (hD1.same s3).tup_
        cases hts with
        | cons e1 hts => cases hts with
          | cons e2 hts =>
            cases hts
            cases int_of e1
            cases str_of e2
            obtain ⟨c, hc⟩ : ∃ c, (copyBase hs.bk nm parts)[pl]? = some c := ⟨_, List.getElem?_eq_getElem (by omega)⟩
            have hcur := hab pl h1
            rw [hc] at hcur
            obtain ⟨v0, gv, cv⟩ := C3.get hcur
            have cv' := cv
            obtain ⟨ca, cdx, cs0, co0, cw0, rfl, f1, _⟩ := cv'.ex
            have A3 := A.same s3
            have sc : scal (rv c.rd) (.str rd) = true := scal_rv c.rd (some rd) (.inr (by intro z; cases z))
            have dc : decide (rv c.rd = .str rd) = false := by
              have := dec_rv c.rd (some rd)
              rw [decide_eq_false (h4 c hc)] at this
              exact this
            refine ⟨ta, _, rfl, .inl (.inl hta), rfl, _, _, rfl, _, _, rfl, rfl, ?_⟩
            refine ⟨_, rfl, _, rfl, D, _, rfl, gv, ca, _, cdx, _, _, rfl, (f1), T.cls_Cell, T.noat_Cell_reading, lk_reading _ _ _ _, ?_⟩
            refine ⟨_, rfl, _, rfl, sc, false, congrArg V.bl dc, iteF ?_⟩
            refine ⟨_, rfl, .inl ⟨rfl, _, .inl (.inl ht3)⟩, _, rfl, F.p, _, F.dx, _, _, rfl, (A3.ins), T.cls_House, T.noat_House_done, hk_done _ _ _ _ _, _, _, rfl, .inl (.inl (.inl (s3 _ _ hd))), _, rfl, _, rfl, _, rfl, _, rfl, sz (szn 5), fun tq htq => ?_⟩
            obtain ⟨s4, hNt⟩ := tupF (ds := [.int (vd.length : Nat), .str nm, .int (pl : Nat), rdD c.rd, .str rd]) (.cons (.int _) (.cons (.str _) (.cons (.int _) (.cons (dt_rv _ _) (.cons (.str _) .nil))))) htq
            refine ⟨t, us, _, rfl, rfl, s4 _ _ ht3, szl (by omega), ?_⟩
            have k5 := kp_upd (o := .lst (us ++ [.ref tq])) (s4 _ _ ht3) rfl
            have s34 : Same H _ := same_mut (o := .lst (us ++ [.ref tq])) (s3.trans s4) ((s1.free ht))
            refine ⟨_, rfl, _, rfl, F.p, _, F.dx, _, _, rfl, (s34 _ _ A.ins), T.cls_House, T.noat_House_done, hk_done _ _ _ _ _, _, _, rfl, .inl (.inl (.inl (s34 _ _ hd))), _, rfl, nm, vd.length, rd, rfl, fun H4 y s6 hy6 => ?_⟩
            have C4 := ((C3.same s4).keep k5 (by rw [upd_ne tD.symm]; exact s4 _ _ C3.dict)).same s6
            have s346 := s34.trans s6
            refine ⟨_, rfl, _, rfl, D, _, rfl, DPut.k (k := Sum.inl (pl : Int)) C4.dict (szl (by have := C4.len; omega)), same_mut s346 hD, putK kv3 (Sum.inl (pl : Int)) y, pl + 1, us ++ [.ref tq], _, _, _, _, _, _, rfl, h5, ?_, ?_, ?_, ?_, ?_⟩
            · refine (C4.put h2 hy6).congr (fun j => ?_) (Nat.le_refl _)
              rw [more]
              show _ = ((slipsRun nm hs.cnt (copyBase hs.bk nm parts, []) (slips.take i)).1.set pl (risen nm hs.cnt rd))[j]?
              rw [List.getElem?_set, ec]
              by_cases z : j = pl
              · rw [if_pos z, if_pos z.symm, if_pos (by rw [slipsRun_len]; show pl < (copyBase hs.bk nm parts).length; omega)]
              · rw [if_neg z, if_neg fun q => z q.symm]
            · rw [upd_ne tD]
              exact s6 _ _ upd_same
            · rw [more]
              show DtAll _ _ (((slipsRun nm hs.cnt (copyBase hs.bk nm parts, []) (slips.take i)).2 ++ [(⟨hs.cnt, nm, pl, (slipsRun nm hs.cnt (copyBase hs.bk nm parts, []) (slips.take i)).1[pl]?.bind Cell.rd, rd⟩ : Note)]).map noteD)
              rw [List.map_append, hcur]
              have k7 := kp_upd (o := .dK (putK kv3 (Sum.inl (pl : Int)) y)) C4.dict rfl
              have kk := ((s4.kp.trans k5).trans s6.kp).trans k7
              refine (DtAll.kp kk _ _ hN3).app (.cons ?_ .nil)
              rw [← ec]
              exact Dt.kp ((k5.trans s6.kp).trans k7) _ _ hNt
            · rw [List.length_append, List.length_singleton]; omega
            · intro j hj
              rw [more]
              show ((slipsRun nm hs.cnt (copyBase hs.bk nm parts, []) (slips.take i)).1.set pl (risen nm hs.cnt rd))[j]? = _
              rw [List.getElem?_set, if_neg (by omega)]
              exact hab j (by omega)
    · rintro σ H2 ⟨s3, kv3, b2, us, v5, v6, v7, v8, v10, v11, rfl, hb2, C3, ht3, hN3, hul, hab⟩
      have e1 : slips.take ys.length = slips := by rw [List.take_of_length_le]; rw [hy.len, List.length_map]; exact Nat.le_refl _
      rw [e1] at C3 hN3
      refine ⟨_, rfl, _, rfl, sz (szn 2), fun p hp => ?_⟩
      have s4 := same_upd (o := .tup [.ref D, .ref t]) hp
      have hl2 : ys.length = slips.length := by rw [hy.len, List.length_map]
      refine k _ p D t kv3 _ us (s3.trans s4) hD (s1.free ht) upd_same ((C3.same s4).congr (fun _ => rfl) (by omega)) (s4 _ _ ht3) (hN3.same s4) fun i hi => ⟨fun e => ?_, fun x e => e⟩
      have hll : i < (slipsRun nm hs.cnt (copyBase hs.bk nm parts, []) slips).1.length := by rw [slipsRun_len]; show i < (copyBase hs.bk nm parts).length; omega
      rw [List.getElem?_eq_getElem hll] at e
      cases e
theorem sc_House_changes_of : FnScope ["self", "deed"] ["self", "deed"] (defScope sD_House_changes_of) := ⟨rfl, rfl, rfl, by decide +kernel, rfl, by decide +kernel, by decide +kernel⟩
theorem c_House_changes_of (T : Txt K mg) : Met P w K mg base 6 (He.ga K "House") "changes_of" (spChanges K) [] := by
  have c_House_written := c_House_written (P := P) (w := w) (base := base) T
  have c_House_copied := c_House_copied (P := P) (w := w) (base := base) T
  have c_House_mended := c_House_mended (P := P) (w := w) (base := base) T
  have c_House_matched := c_House_matched (P := P) (w := w) (base := base) T
  have c_House_lost := c_House_lost (P := P) (w := w) (base := base) T
  refine metD T.F_House_changes_of T.cls_House T.meth_House_changes_of sc_House_changes_of (ps := ["self", "deed"]) (k := 5) (fun _ _ _ _ _ _ us hl => match us, hl with | [_, _], _ => rfl) (fun vs H Q E h => ?_) (fun cdv A outer s H vs Q E hr h => ?_)
  · obtain ⟨_, _, _, _, _, _, rfl, _⟩ := h
    rfl
  refine ⟨_, (pss_cons (ps_if (pt_cmpR op_eq (pe_ix ix_tup (pv 1) pe_int (fun _ _ => rfl)) pe_str (nomark _)) (pss_one (ps_ret (pe_mt c_House_written hr (by decide) (pv 0) (pa_cons (pe_ix ix_tup (pv 1) pe_int (fun _ _ => rfl)) (pa_cons (pe_ix ix_tup (pv 1) pe_int (fun _ _ => rfl)) pa_nil))))) pss_nil)
      (pss_cons (ps_if (pt_cmpR op_eq (pe_ix ix_tup (pv 1) pe_int (fun _ _ => rfl)) pe_str (nomark _)) (pss_one (ps_ret (pe_mt c_House_copied hr (by decide) (pv 0) (pa_cons (pe_ix ix_tup (pv 1) pe_int (fun _ _ => rfl)) (pa_cons (pe_ix ix_tup (pv 1) pe_int (fun _ _ => rfl)) (pa_cons (pe_ix ix_tup (pv 1) pe_int (fun _ _ => rfl)) pa_nil)))))) pss_nil)
      (pss_cons (ps_if (pt_cmpR op_eq (pe_ix ix_tup (pv 1) pe_int (fun _ _ => rfl)) pe_str (nomark _)) (pss_one (ps_ret (pe_mt c_House_mended hr (by decide) (pv 0) (pa_cons (pe_ix ix_tup (pv 1) pe_int (fun _ _ => rfl)) (pa_cons (pe_ix ix_tup (pv 1) pe_int (fun _ _ => rfl)) (pa_cons (pe_ix ix_tup (pv 1) pe_int (fun _ _ => rfl)) pa_nil)))))) pss_nil)
      (pss_cons (ps_if (pt_cmpR op_eq (pe_ix ix_tup (pv 1) pe_int (fun _ _ => rfl)) pe_str (nomark _)) (pss_one (ps_ret (pe_mt c_House_matched hr (by decide) (pv 0) (pa_cons (pe_ix ix_tup (pv 1) pe_int (fun _ _ => rfl)) (pa_cons (pe_ix ix_tup (pv 1) pe_int (fun _ _ => rfl)) (pa_cons (pe_ix ix_tup (pv 1) pe_int (fun _ _ => rfl)) (pa_cons (pe_ix ix_tup (pv 1) pe_int (fun _ _ => rfl)) pa_nil))))))) pss_nil)
      (pss_one (ps_ret (pe_mt c_House_lost hr (by decide) (pv 0) (pa_cons (pe_ix ix_tup (pv 1) pe_int (fun _ _ => rfl)) (pa_cons (pe_ix ix_tup (pv 1) pe_int (fun _ _ => rfl)) (pa_cons (pe_ix ix_tup (pv 1) pe_int (fun _ _ => rfl)) pa_nil)))))))))), ?_⟩
  obtain ⟨F, n, hs, ds, d, v, rfl, A, W, ok, hv, hn, hcnt, k⟩ := h
  have st : ∀ m, ∀ c ∈ hs.bk m, c.st.length ≤ 1000 := fun m c hc => by have := (W.sizes m c hc).1; omega
  have cm : ∀ m, ∀ c ∈ hs.bk m, c.came.length ≤ 1000 := fun m c hc => by have := (W.sizes m c hc).2; omega
  cases d with
  | write nm row =>
    obtain ⟨a, xs, rfl, ha, hs'⟩ := Dt.tup_ hv
    cases hs' with
    | cons e1 hs' => cases hs' with
      | cons e2 hs' => cases hs' with
        | cons e3 hs' =>
          cases hs'
          cases str_of e1
          cases str_of e2
          refine ⟨_, rfl, _, _, _, _, rfl, rfl, .inl (.inl (ha)), rfl, rfl, true, congrArg V.bl w_ww, iteT ?_⟩
          exact ⟨_, rfl, F.p, F.dx, _, rfl, A.ins, hn_written _ _ _ _ _, _, rfl, _, _, _, _, rfl, rfl, .inl (.inl (ha)), rfl, _, rfl, _, _, _, _, rfl, rfl, .inl (.inl (ha)), rfl, F, n, hs, ds, nm, row, _, rfl, A, e3, ok.fits.2.1, hn, k.old⟩
  | copy nm parts slips =>
    obtain ⟨a, xs, rfl, ha, hs'⟩ := Dt.tup_ hv
    cases hs' with
    | cons e1 hs' => cases hs' with
      | cons e2 hs' => cases hs' with
        | cons e3 hs' => cases hs' with
          | cons e4 hs' =>
            cases hs'
            cases str_of e1
            cases str_of e2
            refine ⟨_, rfl, _, _, _, _, rfl, rfl, .inl (.inl (ha)), rfl, rfl, false, congrArg V.bl w_cw, iteF ?_⟩
            refine ⟨_, rfl, _, _, _, _, rfl, rfl, .inl (.inl (ha)), rfl, rfl, true, congrArg V.bl w_cc, iteT ?_⟩
            exact ⟨_, rfl, F.p, F.dx, _, rfl, A.ins, hn_copied _ _ _ _ _, _, rfl, _, _, _, _, rfl, rfl, .inl (.inl (ha)), rfl, _, rfl, _, _, _, _, rfl, rfl, .inl (.inl (ha)), rfl, _, rfl, _, _, _, _, rfl, rfl, .inl (.inl (ha)), rfl, F, n, hs, ds, nm, parts, slips, _, _, rfl, A, e3, e4, ok.fits.2.1, ok.fits.2.2, fun m hm => ⟨(ok.mods m hm).1, W.long m (ok.mods m hm).1⟩, hn, cm, k.old⟩
  | mend nm pl rd =>
    obtain ⟨a, xs, rfl, ha, hs'⟩ := Dt.tup_ hv
    cases hs' with
    | cons e1 hs' => cases hs' with
      | cons e2 hs' => cases hs' with
        | cons e3 hs' => cases hs' with
          | cons e4 hs' =>
            cases hs'
            cases str_of e1
            cases str_of e2
            cases int_of e3
            cases str_of e4
            refine ⟨_, rfl, _, _, _, _, rfl, rfl, .inl (.inl (ha)), rfl, rfl, false, congrArg V.bl w_mw, iteF ?_⟩
            refine ⟨_, rfl, _, _, _, _, rfl, rfl, .inl (.inl (ha)), rfl, rfl, false, congrArg V.bl w_mc, iteF ?_⟩
            refine ⟨_, rfl, _, _, _, _, rfl, rfl, .inl (.inl (ha)), rfl, rfl, true, congrArg V.bl w_mm, iteT ?_⟩
            have hm := ok.here rfl
            exact ⟨_, rfl, F.p, F.dx, _, rfl, A.ins, hn_mended _ _ _ _ _, _, rfl, _, _, _, _, rfl, rfl, .inl (.inl (ha)), rfl, _, rfl, _, _, _, _, rfl, rfl, .inl (.inl (ha)), rfl, _, rfl, _, _, _, _, rfl, rfl, .inl (.inl (ha)), rfl, F, n, hs, ds, nm, pl, rd, rfl, A, hm, ok.fits.2.1, W.long nm hm, st nm, ok.fits.2.2.2, k⟩
  | mtch nm md f l =>
    obtain ⟨a, xs, rfl, ha, hs'⟩ := Dt.tup_ hv
    cases hs' with
    | cons e1 hs' => cases hs' with
      | cons e2 hs' => cases hs' with
        | cons e3 hs' => cases hs' with
          | cons e4 hs' => cases hs' with
            | cons e5 hs' =>
              cases hs'
              cases str_of e1
              cases str_of e2
              cases str_of e3
              cases int_of e4
              cases int_of e5
              refine ⟨_, rfl, _, _, _, _, rfl, rfl, .inl (.inl (ha)), rfl, rfl, false, congrArg V.bl w_tw, iteF ?_⟩
              refine ⟨_, rfl, _, _, _, _, rfl, rfl, .inl (.inl (ha)), rfl, rfl, false, congrArg V.bl w_tc, iteF ?_⟩
              refine ⟨_, rfl, _, _, _, _, rfl, rfl, .inl (.inl (ha)), rfl, rfl, false, congrArg V.bl w_tm, iteF ?_⟩
              refine ⟨_, rfl, _, _, _, _, rfl, rfl, .inl (.inl (ha)), rfl, rfl, true, congrArg V.bl w_tt, iteT ?_⟩
              have hm := ok.here rfl
              have hd := (ok.mods md List.mem_cons_self).1
              exact ⟨_, rfl, F.p, F.dx, _, rfl, A.ins, hn_matched _ _ _ _ _, _, rfl, _, _, _, _, rfl, rfl, .inl (.inl (ha)), rfl, _, rfl, _, _, _, _, rfl, rfl, .inl (.inl (ha)), rfl, _, rfl, _, _, _, _, rfl, rfl, .inl (.inl (ha)), rfl, _, rfl, _, _, _, _, rfl, rfl, .inl (.inl (ha)), rfl, F, n, hs, ds, nm, md, f, l, rfl, A, hm, hd, ok.fits.2.2.1, ok.fits.2.2.2, hn, W.long nm hm, W.long md hd, st nm, cm md, k⟩
  | lose nm f l =>
    obtain ⟨a, xs, rfl, ha, hs'⟩ := Dt.tup_ hv
    cases hs' with
    | cons e1 hs' => cases hs' with
      | cons e2 hs' => cases hs' with
        | cons e3 hs' => cases hs' with
          | cons e4 hs' =>
            cases hs'
            cases str_of e1
            cases str_of e2
            cases int_of e3
            cases int_of e4
            refine ⟨_, rfl, _, _, _, _, rfl, rfl, .inl (.inl (ha)), rfl, rfl, false, congrArg V.bl w_lw, iteF ?_⟩
            refine ⟨_, rfl, _, _, _, _, rfl, rfl, .inl (.inl (ha)), rfl, rfl, false, congrArg V.bl w_lc, iteF ?_⟩
            refine ⟨_, rfl, _, _, _, _, rfl, rfl, .inl (.inl (ha)), rfl, rfl, false, congrArg V.bl w_lm, iteF ?_⟩
            refine ⟨_, rfl, _, _, _, _, rfl, rfl, .inl (.inl (ha)), rfl, rfl, false, congrArg V.bl w_lt, iteF ?_⟩
            have hm := ok.here rfl
            exact ⟨_, rfl, F.p, F.dx, _, rfl, A.ins, hn_lost _ _ _ _ _, _, rfl, _, _, _, _, rfl, rfl, .inl (.inl (ha)), rfl, _, rfl, _, _, _, _, rfl, rfl, .inl (.inl (ha)), rfl, _, rfl, _, _, _, _, rfl, rfl, .inl (.inl (ha)), rfl, F, n, hs, ds, nm, f, l, rfl, A, hm, ok.fits.2.1, ok.fits.2.2, hn, W.long nm hm, st nm, k⟩
end
end K69

set_option maxRecDepth 100000
set_option maxHeartbeats 4000000
/-! A deed is done; deeds are played. -/
namespace K69
open PySem PySem.Spec PyProof.Rows L2
open C8 (Cal Mak Met pe_c pe_mk pe_mt pe_mt0 pe_gc)

theorem slipsRun_nlen (nm k) : ∀ (ss : List (Nat × Str)) (a : List Cell × List Note), (slipsRun nm k a ss).2.length = a.2.length + ss.length
  | [], a => rfl
  | s :: r, a => by
    have ih := slipsRun_nlen nm k r (slipStep nm k a s)
    show (slipsRun nm k (slipStep nm k a s) r).2.length = _
    rw [ih]
    show (a.2 ++ [_]).length + r.length = _
    rw [List.length_append, List.length_singleton, List.length_cons]
    omega
theorem after_nlen {n : Nat} {h : Hs} {d : Deed} (o : Ok n h d) : (after h.bk h.cnt d).2.length ≤ n + 1 := by
  cases d with
  | write => exact Nat.zero_le _
  | copy nm parts slips =>
    show (slipsRun nm h.cnt (copyBase h.bk nm parts, []) slips).2.length ≤ _
    rw [slipsRun_nlen]
    have := slipsOk_len o.fits.2.2 (Nat.zero_le _)
    show 0 + slips.length ≤ _
    omega
  | mend => exact Nat.succ_le_succ (Nat.zero_le _)
  | mtch => exact Nat.zero_le _
  | lose => exact Nat.zero_le _
theorem notes_len {n : Nat} : ∀ (ds : List Deed) (h : Hs), Valid n h ds → (run h ds).notes.length ≤ h.notes.length + (n + 1) * ds.length
  | [], h, _ => Nat.le_refl _
  | d :: r, h, v => by
    have ih := notes_len r (app h d) v.2
    have e : (app h d).notes.length = h.notes.length + (after h.bk h.cnt d).2.length := List.length_append
    have := after_nlen v.1
    show (run (app h d) r).notes.length ≤ _
    rw [e] at ih
    rw [List.length_cons, Nat.mul_succ]
    omega
theorem models_len {n : Nat} {h : Hs} {d : Deed} (o : Ok n h d) : d.models.length ≤ n + 1 := by
  cases d with
  | copy nm parts slips =>
    have go : ∀ (ps : List (Str × Nat × Nat)) (b : Nat), partsOk n b ps → ps.length + b ≤ n := fun ps => by
      induction ps with
      | nil => intro b h; have : b = n := h; simp; omega
      | cons p r ih =>
        intro b ⟨_, h1, h2, h3, h4⟩
        have := ih _ h4
        rw [List.length_cons]
        omega
    have := go parts 0 o.fits.2.1
    show (parts.map (·.1)).length ≤ _
    rw [List.length_map]
    omega
  | mtch => exact Nat.succ_le_succ (Nat.zero_le _)
  | write => exact Nat.zero_le _
  | mend => exact Nat.zero_le _
  | lose => exact Nat.zero_le _

def spPutAll (K : PySem.W.Frag) : Sp := fun vs H Q _ => ∃ (F : HF) (n : Nat) (h : Hs) (ds : List Deed) (d : Deed) (c : Addr) (kv : List (Key × V)) (f : Nat → Option Cell), vs = [.ref F.p, .str d.nm, .ref c] ∧ HouseAt K H F n h ds ∧ Wf n h ∧ Ok n h d ∧ n ≤ 40 ∧ h.cnt ≤ 900 ∧
  Chg K H c n 1000 f kv ∧ c ≠ F.cd ∧ (∀ i, i < n → (f i = none → d.makes = false ∧ (after h.bk h.cnt d).1[i]? = (h.bk d.nm)[i]?) ∧ ∀ x, f i = some x → (after h.bk h.cnt d).1[i]? = some x) ∧
  ∀ H' L' r, Fr (F.od :: fpB F.cd F.L h.order) H H' → BooksAt (CellR K) H' F.cd L' (app h d).order (app h d).bk → H' F.od = some (.lst ((app h d).order.map .str)) → (∀ m ∈ (app h d).order, L' m ∈ h.order.map F.L ∨ H (L' m) = none) → Q r H'
def spDo (K : PySem.W.Frag) : Sp := fun vs H Q _ => ∃ (F : HF) (n : Nat) (h : Hs) (ds : List Deed) (d : Deed) (v : V), vs = [.ref F.p, v] ∧ HouseAt K H F n h ds ∧ Wf n h ∧ Ok n h d ∧ Dt H v (deedD d) ∧ n ≤ 40 ∧ h.cnt ≤ 30 ∧ h.notes.length ≤ 10000 ∧
  ∀ H' F' r, Fr (F.fp h.order) H H' → HouseAt K H' F' n (app h d) (ds ++ [d]) → F'.p = F.p → (∀ b ∈ F'.fp (app h d).order, b ∈ F.fp h.order ∨ H b = none) → Q r H'
def spPlayed (K : PySem.W.Frag) : Sp := fun vs H Q _ => ∃ (n : Nat) (a : Addr) (us : List V) (ds : List Deed), vs = [.int n, .ref a] ∧ H a = some (.lst us) ∧ Pw (fun v d => Dt H v (deedD d)) us ds ∧ Valid n init ds ∧ ds.length ≤ 30 ∧ n ≤ 40 ∧
  ∀ H' F, Same H H' → HouseAt K H' F n (run init ds) ds → (∀ b ∈ F.fp (run init ds).order, H b = none) → Q (.ref F.p) H'
section
variable {P : Program} {w : World} {K : PySem.W.Frag} {mg : Str → Option Value} {base : Heap}
theorem sc_House_put_all : FnScope ["self", "name", "changes", "place", "kept"] ["self", "name", "changes"] (defScope sD_House_put_all) := ⟨rfl, rfl, rfl, by decide +kernel, rfl, by decide +kernel, by decide +kernel⟩
theorem c_House_put_all (T : Txt K mg) : Met P w K mg base 1 (He.ga K "House") "put_all" (spPutAll K) [] := by
  refine metD T.F_House_put_all T.cls_House T.meth_House_put_all sc_House_put_all (ps := ["self", "name", "changes"]) (k := 0) (fun _ _ _ _ _ _ us hl => match us, hl with | [_, _, _], _ => rfl) (fun vs H Q E h => ?_) (fun cdv A outer s H vs Q E hr h => ?_)
  · obtain ⟨_, _, _, _, _, _, _, _, rfl, _⟩ := h
    rfl
  have hu := hu_of hr
  refine ⟨_, (pss_cons (ps_if (pt_cmp (pc_dnotin hu (pv 1) (pe_fld (pv 0) rfl))) (pss_cons (ps_dput hu (pe_fld (pv 0) rfl) (pv 1) (pe_lc (own := [("place", 3)]) rfl sc_House_put_all.nd (pi_range1 (by rfl) T.free_range (pa_cons (pe_fld (pv 0) rfl) pa_nil)) (blkOk_by (own := [("place", 3)]) (N := ["self", "name", "changes", "place", "kept"]) (sc := defScope sD_House_put_all) (by decide +kernel)) (fun _ _ _ _ _ => (pg_name (i := 3) sc_House_put_all.nd rfl (Or.inl rfl))) (fun _ _ _ _ _ => pts_nil) (fun _ _ _ _ _ => (pe_dget hu (pv 2) (pv 3) (fun _ _ => rfl)))) rfl)
      (pss_cons (ps_expr (pe_bm PySem.F.plainAttrs_list PySem.F.slot_list_append PySem.F.type_list_append mt_append (pe_fld (pv 0) rfl) (pa_cons (pv 1) pa_nil)))
      (pss_one (ps_ret pe_non)))) pss_nil)
      (pss_cons (ps_set (i := 4) sc_House_put_all.nd rfl (Or.inl rfl) pe_dnewK)
      (pss_cons (ps_lock (ps_for PassesOwn.never rfl (pi_keys (pv 2)) (pg_name (i := 3) sc_House_put_all.nd rfl (Or.inl rfl)) (pss_cons (ps_dput hu (pv 4) (pv 3) (pe_ix ix_list (pe_dget hu (pe_fld (pv 0) rfl) (pv 1) (fun _ _ => rfl)) (pv 3) (fun _ _ => rfl)) rfl)
      (pss_one (ps_asg (pe_dget hu (pv 2) (pv 3) (fun _ _ => rfl)) (pg_sub (pe_dget hu (pe_fld (pv 0) rfl) (pv 1) (fun _ _ => rfl)) (pv 3) set_list))))))
      (pss_one (ps_ret (pv 4)))))), ?_⟩
  obtain ⟨F, n, hs, ds, d, c, kv, f, rfl, A, W, ok, hn, hcnt, C, hcc, hf, k⟩ := h
  have hnl := after_len W ok
  refine ⟨_, rfl, _, rfl, F.p, _, F.dx, _, _, rfl, (A.ins), T.cls_House, T.noat_House_cells, hk_cells _ _ _ _ _, F.cd, _, rfl, A.books.ask d.nm, _, rfl, ?_⟩
  cases hmk : d.makes with
  | true =>
    have hnew := ok.new hmk
    rw [if_neg hnew]
    refine iteT ?_
    refine ⟨_, rfl, F.p, _, F.dx, _, _, rfl, (A.ins), T.cls_House, T.noat_House_many, hk_many _ _ _ _ _, n, rfl, by omega, by omega, fun D hD => lc_it (walk_range (lo := 0) (n := n)) (fun i H' => Same H H' ∧ ∃ us, H' D = some (.lst us) ∧ Pw (CellR K H') us ((after hs.bk hs.cnt d).1.take i))
      ⟨same_upd hD, [], upd_same, .nil⟩ (fun _ _ _ _ => trivial) ?_ ?_⟩
    · rintro i x H1 H' hi ⟨s1, us, g1, g2⟩ ⟨rfl, hx⟩
      obtain rfl : x = .int ((i : Nat) : Int) := by rw [hx]; show V.int (0 + (i : Int)) = _; rw [Int.zero_add]
      obtain ⟨x0, hx0⟩ : ∃ x0, f i = some x0 := by
        cases q : f i with
        | none => exact absurd ((hf i hi).1 q).1 (by rw [hmk]; exact Bool.noConfusion)
        | some x0 => exact ⟨x0, rfl⟩
      have hx1 := (hf i hi).2 x0 hx0
      obtain ⟨v, e1, e2⟩ := (C.same s1).get hx0
      refine ⟨rfl, _, rfl, _, rfl, c, v, rfl, e1, us, g1, szl (by rw [g2.len]; exact Nat.le_trans (List.length_take_le' _ _) (by omega)), same_mut s1 hD, _, upd_same, ?_⟩
      rw [take_more hx1]
      have kk : Kp H' (upd H' D (.lst (us ++ [v]))) := kp_upd g1 rfl
      exact (g2.imp fun x y => cellR_kp K _ _ x y kk).snoc (e2.kp kk)
    · rintro H1 ⟨s1, us, g1, g2⟩
      rw [List.take_of_length_le (by omega)] at g2
      have A1 := A.same s1
      refine ⟨_, rfl, F.p, _, F.dx, _, _, rfl, (A1.ins), T.cls_House, T.noat_House_cells, hk_cells _ _ _ _ _, _, rfl, F.cd, _, rfl, DPut.k (k := Sum.inr d.nm) A1.books.dict (szl (by rw [kvs_len]; have := W.few; omega)), ?_⟩
      rw [kvs_put D hnew]
      have kd1 : Kp H1 _ := kp_upd (o := .dK (kvs (hs.order ++ [d.nm]) (fun x => if x = d.nm then D else F.L x))) A1.books.dict rfl
      have co : F.cd ≠ F.od := ne_of A.books.dict A.ord (by intro z; cases z)
      have oc : F.od ≠ F.cd := co.symm
      refine ⟨_, rfl, F.p, _, F.dx, _, _, rfl, (kd1 _ _ A1.ins rfl), T.cls_House, T.noat_House_order, hk_order _ _ _ _ _, .inl ⟨rfl, _, .inl (.inl ((upd_ne oc).trans A1.ord))⟩, _, rfl, F.od, _, _, rfl, rfl, (upd_ne oc).trans A1.ord, szl (by rw [List.length_map]; have := W.few; omega), ?_⟩
      have kd2 := kp_upd (o := .lst (hs.order.map V.str ++ [.str d.nm])) ((upd_ne oc).trans A1.ord : (upd H1 F.cd (.dK (kvs (hs.order ++ [d.nm]) (fun x => if x = d.nm then D else F.L x)))) F.od = _) rfl
      have Dc : D ≠ F.cd := fun z => by rw [z, A.books.dict] at hD; cases hD
      have Do : D ≠ F.od := fun z => by rw [z, A.ord] at hD; cases hD
      have kk := kd1.trans kd2
      have hord : (app hs d).order = hs.order ++ [d.nm] := by rw [app_order, hmk]; exact if_pos rfl
      refine k _ (fun x => if x = d.nm then D else F.L x) .non ?_ ⟨?_, fun m hm => ?_, fun m hm m' hm' e => ?_⟩ ?_ fun m hm => ?_
      · exact (s1.fr _).trans ((fr_upd (List.mem_cons_of_mem _ List.mem_cons_self)).trans (fr_upd List.mem_cons_self))
      · rw [upd_ne co, upd_same, hord]
      · rw [hord] at hm
        rw [app_bk]
        show ∃ vs, upd _ _ _ (if m = d.nm then D else F.L m) = some (.lst vs) ∧ Pw (CellR K _) vs (if m = d.nm then _ else _)
        by_cases z : m = d.nm
        · rw [if_pos z, if_pos z]
          refine ⟨us, ?_, g2.imp fun x y => cellR_kp K _ _ x y kk⟩
          rw [upd_ne Do, upd_ne Dc]
          exact g1
        · have hm1 : m ∈ hs.order := (List.mem_append.mp hm).elim id fun q => absurd (List.mem_singleton.mp q) z
          obtain ⟨ws, e1, e2⟩ := A1.books.lists m hm1
          rw [if_neg z, if_neg z]
          refine ⟨ws, ?_, e2.imp fun x y => cellR_kp K _ _ x y kk⟩
          rw [upd_ne (A.a4 m hm1).1, upd_ne (ne_of e1 A1.books.dict (by intro z; cases z))]
          exact e1
      · rw [hord] at hm hm'
        have hin : ∀ m, m ∈ hs.order ++ [d.nm] → m ≠ d.nm → m ∈ hs.order := fun m hm z => (List.mem_append.mp hm).elim id fun q => absurd (List.mem_singleton.mp q) z
        have hDL : ∀ m, m ∈ hs.order → D ≠ F.L m := fun m hm z => by
          obtain ⟨ws, e1, _⟩ := A.books.lists m hm
          rw [← z, hD] at e1
          cases e1
        have e' : (if m = d.nm then D else F.L m) = (if m' = d.nm then D else F.L m') := e
        by_cases z : m = d.nm
        · by_cases z' : m' = d.nm
          · rw [z, z']
          · rw [if_pos z, if_neg z'] at e'
            exact absurd e' (hDL m' (hin m' hm' z'))
        · by_cases z' : m' = d.nm
          · rw [if_neg z, if_pos z'] at e'
            exact absurd e'.symm (hDL m (hin m hm z))
          · rw [if_neg z, if_neg z'] at e'
            exact A.books.inj m (hin m hm z) m' (hin m' hm' z') e'
      · rw [upd_same, hord, List.map_append]
        rfl
      · rw [hord] at hm
        show (if m = d.nm then D else F.L m) ∈ _ ∨ H (if m = d.nm then D else F.L m) = none
        by_cases z : m = d.nm
        · rw [if_pos z]; exact .inr hD
        · rw [if_neg z]
          exact .inl (List.mem_map_of_mem ((List.mem_append.mp hm).elim id fun q => absurd (List.mem_singleton.mp q) z))
  | false =>
    have hm := ok.here hmk
    rw [if_pos hm]
    refine iteF ?_
    obtain ⟨vs, g1, g2⟩ := A.books.lists d.nm hm
    have hvl : vs.length = n := g2.len.trans (W.long _ hm)
    have cl : c ≠ F.L d.nm := fun z => by rw [← z, C.dict] at g1; cases g1
    refine fun kd hkd => ?_
    have kc : kd ≠ c := fun z => by rw [z, C.dict] at hkd; cases hkd
    have kl : kd ≠ F.L d.nm := fun z => by rw [z, g1] at hkd; cases hkd
    refine ⟨c, _, (upd_ne kc.symm).trans C.dict, trivial, fun o => ?_⟩
    refine ⟨_, rfl, c, o, rfl, .inl ⟨kv, upd_same, for_it (walk_keys (kvs := kv)) (fun i σ H' => ∃ kv2 v3 vs', σ = [some (.ref F.p), some (.str d.nm), some (.ref c), v3, some (.ref kd)] ∧ H' c = some (.frz o (.dK kv)) ∧ H' kd = some (.dK kv2) ∧ kv2.length ≤ i ∧ H' (F.L d.nm) = some (.lst vs') ∧ vs'.length = n ∧
        (∀ j : Nat, j < n → vs'[j]? = if (kv.take i).any (fun e => decide (e.1 = Sum.inl (j : Int))) = true then valV kv (Sum.inl (j : Int)) else vs[j]?) ∧ ∀ b u, H b = some u → b ≠ c → b ≠ F.L d.nm → H' b = some u)
      ⟨[], none, vs, rfl, upd_same, (upd_ne kc).trans upd_same, Nat.le_refl _, (upd_ne cl.symm).trans ((upd_ne kl.symm).trans g1), hvl, fun j _ => rfl, fun b u e n1 n2 => ?_⟩ (fun i σ H' _ p => ?_) ?_ ?_⟩⟩
    · rw [upd_ne n1, upd_ne (ne_of_none e hkd)]
      exact e
    · obtain ⟨_, _, _, _, e, _⟩ := p
      exact e
    · rintro i x σ H1 H' hi ⟨kv2, v3, vs', rfl, p1, p2, p3, p4, p5, p6, p7⟩ ⟨rfl, ky, v0, e1, rfl⟩
      obtain ⟨q, hq, ek⟩ := C.keys (ky, v0) (List.mem_of_getElem? e1)
      have ek2 : ky = Sum.inl (q : Int) := ek
      subst ek2
      have insd : H' F.p = some (.ins (CH K) F.dx (houseF n F.cd F.od F.dn F.nt)) := p7 _ _ A.ins (fun z => by have q0 := A.ins; rw [z, C.dict] at q0; cases q0) (fun z => by rw [← z, A.ins] at g1; cases g1)
      have dctd : H' F.cd = some (.dK (kvs hs.order F.L)) := p7 _ _ A.books.dict hcc.symm (fun z => by rw [← z, A.books.dict] at g1; cases g1)
      have getd : DGet H' F.cd (.str d.nm) (some (.ref (F.L d.nm))) := by
        have e := DGet.k (k := Sum.inr d.nm) dctd
        rw [valV_kvs, if_pos hm] at e
        exact e
      have hvq : vs'[q]? = some (vs'[q]'(by omega)) := List.getElem?_eq_getElem (by omega)
      refine ⟨_, rfl, F.p, _, F.dx, _, _, rfl, (insd), T.cls_House, T.noat_House_cells, hk_cells _ _ _ _ _, _, rfl, F.cd, _, rfl, getd, _, rfl, _, _, _, _, rfl, rfl, .inl (.inl (p4)), at_of rfl (hvq), ?_⟩
      refine ⟨_, rfl, _, rfl, kd, _, rfl, DPut.k (k := Sum.inl (q : Int)) p2 (szl (by have := C.len; omega)), ?_⟩
      have kp : kd ≠ F.p := fun z => by rw [z, A.ins] at hkd; cases hkd
      have kcd : kd ≠ F.cd := fun z => by rw [z, A.books.dict] at hkd; cases hkd
      obtain ⟨vq, hvv⟩ : ∃ vq, valV kv (Sum.inl (q : Int)) = some vq := by
        have e := valV_any (Sum.inl (q : Int) : Key) kv
        have e2 : (kv.any fun e => decide (e.1 = Sum.inl (q : Int))) = true := List.any_eq_true.mpr ⟨_, List.mem_of_getElem? e1, decide_eq_true rfl⟩
        rw [e2] at e
        exact Option.isSome_iff_exists.mp e.symm
      have getd2 : DGet (upd H' kd (.dK (putK kv2 (Sum.inl (q : Int)) (vs'[q]'(by omega))))) F.cd (.str d.nm) (some (.ref (F.L d.nm))) := by
        have e := DGet.k (k := Sum.inr d.nm) ((upd_ne kcd.symm).trans dctd : (upd H' kd (.dK (putK kv2 (Sum.inl (q : Int)) (vs'[q]'(by omega))))) F.cd = _)
        rw [valV_kvs, if_pos hm] at e
        exact e
      refine ⟨_, rfl, _, rfl, c, vq, rfl, .inl ⟨kv, Sum.inl (q : Int), .inr ⟨o, (upd_ne kc.symm).trans p1⟩, rfl, hvv.symm⟩, ?_⟩
      refine ⟨_, rfl, F.p, _, F.dx, _, _, rfl, ((upd_ne kp.symm).trans insd), T.cls_House, T.noat_House_cells, hk_cells _ _ _ _ _, _, rfl, F.cd, _, rfl, getd2, _, rfl, F.L d.nm, vs', _, q, rfl, rfl, (upd_ne kl.symm).trans p4, ixN_nat (by omega), ?_⟩
      refine ⟨putK kv2 (Sum.inl (q : Int)) (vs'[q]'(by omega)), _, vs'.set q vq, rfl, ?_, ?_, Nat.le_trans (putK_len _) (by omega), upd_same, by rw [List.length_set]; exact p5, fun j hj => ?_, fun b u e n1 n2 => ?_⟩
      · rw [upd_ne cl, upd_ne kc.symm]; exact p1
      · rw [upd_ne kl, upd_same]
      · rw [take_more e1, List.any_append, List.getElem?_set]
        by_cases z : q = j
        · subst z
          rw [if_pos rfl, if_pos (by omega)]
          have : ([((Sum.inl (q : Int) : Key), v0)].any fun e => decide (e.1 = Sum.inl (q : Int))) = true := List.any_eq_true.mpr ⟨_, List.mem_singleton.mpr rfl, decide_eq_true rfl⟩
          rw [this, Bool.or_true, if_pos rfl, hvv]
        · rw [if_neg z, p6 j hj]
          have : ([((Sum.inl (q : Int) : Key), v0)].any fun e => decide (e.1 = Sum.inl (j : Int))) = false := by
            rw [List.any_cons, List.any_nil, Bool.or_false]
            exact decide_eq_false fun y => z (by have := Sum.inl.inj y; omega)
          rw [this, Bool.or_false]
      · rw [upd_ne n2, upd_ne (ne_of_none e hkd)]
        exact p7 b u e n1 n2
    · rintro σ H1 ⟨kv2, v3, vs', rfl, p1, p2, p3, p4, p5, p6, p7⟩
      refine ⟨p1, _, rfl, ?_⟩
      have fr : ∀ b u, H b = some u → b ≠ F.L d.nm → (upd H1 c (.dK kv)) b = some u := fun b u e n2 => by
        by_cases z : b = c
        · rw [z, upd_same, ← e, z, C.dict]
        · rw [upd_ne z]; exact p7 b u e z n2
      have kk : Kp H (upd H1 c (.dK kv)) := fun b u e z => fr b u e fun q => by rw [q, g1] at e; cases e; cases z
      have hord : (app hs d).order = hs.order := by rw [app_order, hmk]; exact if_neg Bool.false_ne_true
      refine k _ F.L _ ?_ ⟨?_, fun m hm2 => ?_, fun m hm2 m' hm' e => A.books.inj m (hord ▸ hm2) m' (hord ▸ hm') e⟩ ?_ fun m hm2 => .inl (List.mem_map_of_mem (hord ▸ hm2))
      · intro b u e nb
        exact fr b u e fun z => nb (z ▸ List.mem_cons_of_mem _ (List.mem_cons_of_mem _ (List.mem_map_of_mem hm)))
      · rw [hord]
        exact fr _ _ A.books.dict fun z => by rw [← z, A.books.dict] at g1; cases g1
      · rw [hord] at hm2
        rw [app_bk]
        by_cases z : m = d.nm
        · rw [if_pos z, z]
          refine ⟨vs', by rw [upd_ne cl.symm]; exact p4, ⟨by rw [p5, hnl], fun j x y ex ey => ?_⟩⟩
          have hj : j < n := by
            have := (List.getElem?_eq_some_iff.mp ex).1
            omega
          have hp6 := p6 j hj
          rw [List.take_of_length_le (Nat.le_refl _), valV_any] at hp6
          have hC := C.at_ j
          unfold ChgAt at hC
          cases hfj : f j with
          | none =>
            rw [hfj] at hC
            have hC2 : valV kv (Sum.inl (j : Int)) = none := hC
            rw [hC2, ex] at hp6
            have hp7 : some x = vs[j]? := hp6
            have e3 := ((hf j hj).1 hfj).2
            rw [ey] at e3
            exact (cellR_kp K _ _ _ _ kk) (g2.at_ j x y hp7.symm e3.symm)
          | some c0 =>
            rw [hfj] at hC
            obtain ⟨v, hC1, hC2⟩ := hC
            rw [hC1, ex] at hp6
            have hp7 : some x = some v := hp6
            cases hp7
            have e3 := (hf j hj).2 c0 hfj
            rw [ey] at e3
            cases e3
            exact hC2.kp kk
        · obtain ⟨ws, e1, e2⟩ := A.books.lists m hm2
          rw [if_neg z]
          exact ⟨ws, fr _ _ e1 fun q => z (A.books.inj m hm2 d.nm hm q), e2.imp fun x y => cellR_kp K _ _ x y kk⟩
      · rw [hord]
        exact fr _ _ A.ord fun z => (A.a4 d.nm hm).1 z.symm
end
end K69

set_option maxRecDepth 100000
set_option maxHeartbeats 4000000
/-! A deed is done; deeds are played, exchanged. -/
namespace K69
open PySem PySem.Spec PyProof.Rows L2
open C8 (Cal Mak Met pe_c pe_mk pe_mt pe_mt0 pe_gc)

theorem mkD {K : PySem.W.Frag} {H : Hp} {x dx : Addr} {a b c : V} (nx : H x = none) (nd : H dx = none) : Same H (upd (upd (upd H dx (.own x)) x (.ins (CD K) dx [])) x (.ins (CD K) dx (doneF a b c))) := made_same nx nd
section
variable {P : Program} {w : World} {K : PySem.W.Frag} {mg : Str → Option Value} {base : Heap}
theorem sc_House_do : FnScope ["self", "thing", "changes", "notes"] ["self", "thing"] (defScope sD_House_do) := ⟨rfl, rfl, rfl, by decide +kernel, rfl, by decide +kernel, by decide +kernel⟩
theorem c_House_do (T : Txt K mg) : Met P w K mg base 7 (He.ga K "House") "do" (spDo K) [] := by
  have c_is_deed := c_is_deed (P := P) (w := w) (base := base) T
  have c_House_look_at_books := c_House_look_at_books (P := P) (w := w) (base := base) T
  have c_House_changes_of := c_House_changes_of (P := P) (w := w) (base := base) T
  have c_Done___init__ := c_Done___init__ (P := P) (w := w) (base := base) T
  have c_House_put_all := c_House_put_all (P := P) (w := w) (base := base) T
  refine metD T.F_House_do T.cls_House T.meth_House_do sc_House_do (ps := ["self", "thing"]) (k := 6) (fun _ _ _ _ _ _ us hl => match us, hl with | [_, _], _ => rfl) (fun vs H Q E h => ?_) (fun cdv A outer s H vs Q E hr h => ?_)
  · obtain ⟨_, _, _, _, _, _, rfl, _⟩ := h
    rfl
  refine ⟨_, (pss_cons (ps_if (pt_not (pt_val (pe_c c_is_deed hr (by decide) rfl (pa_cons (pe_fld (pv 0) rfl) (pa_cons (pv 1) pa_nil))))) (pss_one ps_never) pss_nil)
      (pss_cons (ps_expr (pe_mt c_House_look_at_books hr (by decide) (pv 0) (pa_cons (pv 1) pa_nil)))
      (pss_cons (ps_asg (pe_mt c_House_changes_of hr (by decide) (pv 0) (pa_cons (pv 1) pa_nil)) (pg_tup rfl (pgs_cons (pg_name (i := 2) sc_House_do.nd rfl (Or.inl rfl)) (pgs_cons (pg_name (i := 3) sc_House_do.nd rfl (Or.inl rfl)) pgs_nil))))
      (pss_cons (ps_if (pt_cmpR op_ge (pe_callB call_len_seq (by rfl) T.free_len PySem.boot_len (pa_cons (pe_fld (pv 0) rfl) pa_nil)) (pe_gc rfl T.c_MOST_DEEDS) (nomark _)) (pss_one ps_never) pss_nil)
      (pss_cons (ps_expr (pe_bm PySem.F.plainAttrs_list PySem.F.slot_list_append PySem.F.type_list_append mt_append (pe_fld (pv 0) rfl) (pa_cons (pe_mk c_Done___init__ hr (by decide) rfl (pa_cons (pv 1) (pa_cons (pe_callB call_len_seq (by rfl) T.free_len PySem.boot_len (pa_cons (pe_fld (pv 0) rfl) pa_nil)) (pa_cons (pe_mt c_House_put_all hr (by decide) (pv 0) (pa_cons (pe_ix ix_tup (pv 1) pe_int (fun _ _ => rfl)) (pa_cons (pv 2) pa_nil))) pa_nil)))) pa_nil)))
      (pss_cons (ps_expr (pe_bm PySem.F.plainAttrs_list PySem.F.slot_list_extend PySem.F.type_list_extend mt_extend (pe_fld (pv 0) rfl) (pa_cons (pv 3) pa_nil)))
      (pss_one (ps_ret (pe_op op_sub (pe_callB call_len_seq (by rfl) T.free_len PySem.boot_len (pa_cons (pe_fld (pv 0) rfl) pa_nil)) pe_int))))))))), ?_⟩
  obtain ⟨F, n, hs, ds, d, v, rfl, A, W, ok, hv, hn, hcnt, hnl, k⟩ := h
  have hml := models_len ok
  have hfew := W.few
  have hal := after_nlen ok
  refine ⟨_, rfl, F.p, _, F.dx, _, _, rfl, (A.ins), T.cls_House, T.noat_House_many, hk_many _ _ _ _ _, _, rfl, n, v, d, hs.bk, rfl, hv, ok.fits, fun H1 s1 => ⟨true, rfl, iteF ?_⟩⟩
  have A1 := A.same s1
  refine ⟨_, rfl, F.p, F.dx, _, rfl, A1.ins, hn_look _ _ _ _ _, _, rfl, F, n, hs, ds, d, v, rfl, A1, hv.same s1, ok, by omega, by omega, fun H2 s2 => ?_⟩
  have A2 := A1.same s2
  have hv2 := (hv.same s1).same s2
  refine ⟨_, rfl, F.p, F.dx, _, rfl, A2.ins, hn_changes _ _ _ _ _, _, rfl, F, n, hs, ds, d, v, rfl, A2, W, ok, hv2, hn, by omega, fun H3 p c t kv f us s3 hc ht hp C hus hN hcond => ⟨p, _, rfl, .inl (.inl hp), rfl, _, _, rfl, _, _, rfl, rfl, ?_⟩⟩
  have A3 := A2.same s3
  have s03 := (s1.trans s2).trans s3
  obtain ⟨vd, hd, hdP⟩ := A3.done
  obtain ⟨vn, hvn, hvnP⟩ := A3.noted
  have ec : vd.length = hs.cnt := hdP.len.trans A3.cnt
  refine ⟨_, rfl, F.p, _, F.dx, _, _, rfl, (A3.ins), T.cls_House, T.noat_House_done, hk_done _ _ _ _ _, _, _, rfl, .inl (.inl (.inl (hd))), _, _, rfl, rfl, false, congrArg V.bl (decide_eq_false (by omega)), iteF ?_⟩
  have hcc : c ≠ F.cd := fun z => by rw [z, A2.books.dict] at hc; cases hc
  have hv3 := hv2.same s3
  have hv3' := hv3
  rw [deedD_eq] at hv3'
  obtain ⟨a, xs, rfl, ha, hx⟩ := hv3'.tup_
  cases hx with
  | cons _ hx => cases hx with
    | cons e2 hx =>
      cases str_of e2
      refine ⟨_, rfl, F.p, _, F.dx, _, _, rfl, (A3.ins), T.cls_House, T.noat_House_done, hk_done _ _ _ _ _, .inl ⟨rfl, _, .inl (.inl hd)⟩, _, rfl, _, rfl, F.p, _, F.dx, _, _, rfl, (A3.ins), T.cls_House, T.noat_House_noted, hk_noted _ _ _ _ _, _, _, rfl, .inl (.inl (.inl (hvn))), _, rfl, F.p, F.dx, _, rfl, A3.ins, hn_put_all _ _ _ _ _, _, rfl, _, _, _, _, rfl, rfl, .inl (.inl (ha)), at_of (j := 1) rfl rfl, _, rfl, F, n, hs, ds, d, c, kv, f, rfl, A3, W, ok, hn, by omega, C, hcc, hcond, fun H4 L' r fr4 B4 ho4 hL4 => ?_⟩
      intro x dx nx nd ne
      refine ⟨x, dx, _, _, _, rfl, upd_same, rfl, ?_⟩
      have s5 := mkD (K := K) (a := .ref a) (b := .int vn.length) (c := r) nx nd
      have sub1 : ∀ b ∈ F.od :: fpB F.cd F.L hs.order, b ∈ F.fp hs.order := fun b hb => (List.mem_cons.mp hb).elim (fun e => by rw [e]; exact List.mem_cons_self) fun e => List.mem_cons_of_mem _ (List.mem_cons_of_mem _ (List.mem_cons_of_mem _ e))
      have l3 : LD H3 (F.od :: fpB F.cd F.L hs.order) := fun b hb => A3.ld b (sub1 b hb)
      have dnot : F.dn ∉ F.od :: fpB F.cd F.L hs.order := fun z => by
        rcases List.mem_cons.mp z with z | z
        · exact A.a1 z.symm
        rcases List.mem_cons.mp z with z | z
        · have q := A3.books.dict; rw [← z, hd] at q; cases q
        · obtain ⟨m, hm, e⟩ := List.mem_map.mp z
          exact (A.a4 m hm).2.1 e
      have nnot : F.nt ∉ F.od :: fpB F.cd F.L hs.order := fun z => by
        rcases List.mem_cons.mp z with z | z
        · exact A.a2 z.symm
        rcases List.mem_cons.mp z with z | z
        · have q := A3.books.dict; rw [← z, hvn] at q; cases q
        · obtain ⟨m, hm, e⟩ := List.mem_map.mp z
          exact (A.a4 m hm).2.2 e
      have tnot : t ∉ F.od :: fpB F.cd F.L hs.order := fun z => by
        obtain ⟨o, e, _⟩ := A2.ld t (sub1 t z)
        rw [ht] at e
        cases e
      have tdn : t ≠ F.dn := fun z => by
        obtain ⟨o, e, _⟩ := A2.ld t (by rw [z]; exact List.mem_cons_of_mem _ List.mem_cons_self)
        rw [ht] at e
        cases e
      have d4 : H4 F.dn = some (.lst vd) := fr4 _ _ hd dnot
      have n4 : H4 F.nt = some (.lst vn) := fr4 _ _ hvn nnot
      have t4 : H4 t = some (.lst us) := fr4 _ _ hus tnot
      refine ⟨F.dn, vd, _, rfl, rfl, s5 _ _ d4, szl (by omega), ?_⟩
      have k6 := kp_upd (o := .lst (vd ++ [.ref x])) (s5 _ _ d4) rfl
      have k34 := fr4.kp l3
      have k46 := s5.kp.trans k6
      have ins6 := k46 _ _ (k34 _ _ A3.ins rfl) rfl
      have n6 : (upd (upd (upd (upd H4 dx (.own x)) x (.ins (CD K) dx [])) x (.ins (CD K) dx (doneF (.ref a) (.int vn.length) r))) F.dn (.lst (vd ++ [.ref x]))) F.nt = some (.lst vn) := (upd_ne A.a3.symm).trans (s5 _ _ n4)
      refine ⟨_, rfl, F.p, _, F.dx, _, _, rfl, (ins6), T.cls_House, T.noat_House_noted, hk_noted _ _ _ _ _, .inl ⟨rfl, _, .inl (.inl n6)⟩, _, rfl, F.nt, t, vn, us, rfl, rfl, n6, (upd_ne tdn).trans (s5 _ _ t4), sz ?_, ?_⟩
      · rw [hvnP.len, hN.len, List.length_map]
        omega
      have k7 := kp_upd (o := .lst (vn ++ us)) n6 rfl
      have k47 := k46.trans k7
      refine ⟨_, rfl, F.p, _, F.dx, _, _, rfl, (k7 _ _ ins6 rfl), T.cls_House, T.noat_House_done, hk_done _ _ _ _ _, _, _, rfl, .inl (.inl (.inl ((upd_ne A.a3).trans upd_same))), _, _, rfl, rfl, ?_⟩
      have frA : Fr (F.fp hs.order) H4 _ := ((s5.fr _).trans (fr_upd (o := .lst (vd ++ [.ref x])) (List.mem_cons_of_mem _ List.mem_cons_self))).trans (fr_upd (o := .lst (vn ++ us)) (List.mem_cons_of_mem _ (List.mem_cons_of_mem _ List.mem_cons_self)))
      have frT : Fr (F.fp hs.order) H _ := (s03.fr _).trans ((fr4.mono sub1).trans frA)
      -- where the books stand: neither at done nor at noted
      have hL5 : ∀ m ∈ (app hs d).order, L' m ≠ F.dn ∧ L' m ≠ F.nt := fun m hm => by
        rcases hL4 m hm with q | q
        · obtain ⟨m0, hm0, e⟩ := List.mem_map.mp q
          rw [← e]
          exact (A.a4 m0 hm0).2
        · exact ⟨fun z => (by rw [z, hd] at q; cases q), fun z => (by rw [z, hvn] at q; cases q)⟩
      have cddn : F.cd ≠ F.dn := ne_of A3.books.dict hd (by intro z; cases z)
      have cdnt : F.cd ≠ F.nt := ne_of A3.books.dict hvn (by intro z; cases z)
      refine k _ { F with L := L' } _ frT ?_ rfl fun b hb => ?_
      · refine ⟨k47 _ _ (k34 _ _ A3.ins rfl) rfl, B4.keep (cellR_kp K) k47 fun y hy o e => ?_, ?_, ⟨vd ++ [.ref x], (upd_ne A.a3).trans upd_same, ?_⟩, ⟨vn ++ us, upd_same, ?_⟩, ?_, A.a1, A.a2, A.a3, fun m hm => ⟨?_, hL5 m hm⟩⟩
        · have hy2 : y ≠ F.dn ∧ y ≠ F.nt := by
            rcases List.mem_cons.mp hy with z | z
            · rw [z]; exact ⟨cddn, cdnt⟩
            · obtain ⟨m, hm, e⟩ := List.mem_map.mp z
              rw [← e]; exact hL5 m hm
          rw [upd_ne hy2.2, upd_ne hy2.1]
          exact s5 _ _ e
        · rw [upd_ne A.a2, upd_ne A.a1]
          exact s5 _ _ ho4
        · refine (hdP.imp fun x y => DoneAt.kp (k34.trans k47)).snoc ⟨x, dx, .ref a, _, r, rfl, (k6.trans k7) _ _ upd_same rfl, Dt.kp (k34.trans k47) _ _ hv3⟩
        · refine (hvnP.imp fun x y => Dt.kp (k34.trans k47) _ _).app ?_
          exact ((DtAll.pw (DtAll.kp (k34.trans k47) _ _ hN)).ofMap).imp fun x y h => h
        · rw [List.length_append, List.length_singleton, A.cnt]
          rfl
        · rcases hL4 m hm with q | q
          · obtain ⟨m0, hm0, e⟩ := List.mem_map.mp q
            show L' m ≠ F.od
            rw [← e]
            exact (A.a4 m0 hm0).1
          · show L' m ≠ F.od
            intro z
            rw [z, A3.ord] at q
            cases q
      · have hb2 : b ∈ F.od :: F.dn :: F.nt :: F.cd :: (app hs d).order.map L' := hb
        rcases List.mem_cons.mp hb2 with z | hb2
        · rw [z]; exact .inl List.mem_cons_self
        rcases List.mem_cons.mp hb2 with z | hb2
        · rw [z]; exact .inl (List.mem_cons_of_mem _ List.mem_cons_self)
        rcases List.mem_cons.mp hb2 with z | hb2
        · rw [z]; exact .inl (List.mem_cons_of_mem _ (List.mem_cons_of_mem _ List.mem_cons_self))
        rcases List.mem_cons.mp hb2 with z | hb2
        · rw [z]; exact .inl (List.mem_cons_of_mem _ (List.mem_cons_of_mem _ (List.mem_cons_of_mem _ List.mem_cons_self)))
        · obtain ⟨m, hm, e⟩ := List.mem_map.mp hb2
          rw [← e]
          rcases hL4 m hm with q | q
          · exact .inl (List.mem_cons_of_mem _ (List.mem_cons_of_mem _ (List.mem_cons_of_mem _ (List.mem_cons_of_mem _ q))))
          · exact .inr (s03.free q)
theorem sc_played : FnScope ["many", "deeds", "house", "deed"] ["many", "deeds"] (defScope sD_played) := ⟨rfl, rfl, rfl, by decide +kernel, rfl, by decide +kernel, by decide +kernel⟩
theorem c_played (T : Txt K mg) : Cal P w K mg base 8 "played" (spPlayed K) [] := by
  have c_House___init__ := c_House___init__ (P := P) (w := w) (base := base) T
  have c_House_do := c_House_do (P := P) (w := w) (base := base) T
  refine calD T.F_played T.glo_played sc_played (ps := ["many", "deeds"]) (k := 7) (fun _ _ _ _ _ _ us hl => match us, hl with | [_, _], _ => rfl) (fun vs H Q E h => ?_) (fun cdv A outer s H vs Q E hr h => ?_)
  · obtain ⟨_, _, _, _, rfl, _⟩ := h
    rfl
  refine ⟨_, (pss_cons (ps_set (i := 2) sc_played.nd rfl (Or.inl rfl) (pe_mk c_House___init__ hr (by decide) rfl (pa_cons (pv 0) pa_nil)))
      (pss_cons (ps_for PassesOwn.never rfl (pi_list (pv 1)) (pg_name (i := 3) sc_played.nd rfl (Or.inl rfl)) (pss_one (ps_expr (pe_mt c_House_do hr (by decide) (pv 2) (pa_cons (pv 3) pa_nil)))))
      (pss_one (ps_ret (pv 2))))), ?_⟩
  obtain ⟨n, a, us, ds, rfl, ha, hus, hval, hlen, hn, k⟩ := h
  refine ⟨_, rfl, fun x dx nx nd ne => ⟨x, dx, n, rfl, upd_same, fun H1 F hk1 hp hfp A => ⟨rfl, ?_⟩⟩⟩
  have s1 : Same H H1 := Same.made nx nd hk1
  have fr0 : ∀ b ∈ F.fp [], H b = none := fun b hb => by
    have q := hfp b hb
    by_cases z : b = x
    · rw [z]; exact nx
    · rw [upd_ne z] at q
      by_cases z2 : b = dx
      · rw [z2]; exact nd
      · rw [upd_ne z2] at q; exact q
  subst hp
  refine ⟨_, rfl, a, rfl, ⟨_, .inl (.inl (s1 _ _ ha))⟩, for_it (walk_list (xs := us)) (fun i σ H' => Same H H' ∧ ∃ F' v3, F'.p = F.p ∧ σ = [some (.int n), some (.ref a), some (.ref F.p), v3] ∧ HouseAt K H' F' n (run init (ds.take i)) (ds.take i) ∧ ∀ b ∈ F'.fp (run init (ds.take i)).order, H b = none)
    ⟨s1, F, none, rfl, rfl, A, fr0⟩ (fun i σ H' _ p => .inl (.inl (p.1 _ _ ha))) ?_ ?_⟩
  · rintro i x σ H2 H' hi ⟨s2, F', v3, ep, rfl, A', hf'⟩ ⟨rfl, hx⟩
    obtain ⟨d, hd, hD⟩ := hus.get' hx
    have hi2 := (List.getElem?_eq_some_iff.mp hd).1
    have hsplit : ds.take i ++ d :: ds.drop (i + 1) = ds := by
      have e := List.drop_eq_getElem_cons hi2
      rw [(List.getElem?_eq_some_iff.mp hd).2] at e
      rw [← e]
      exact List.take_append_drop i ds
    have hv1 : Valid n init (ds.take i ++ d :: ds.drop (i + 1)) := by rw [hsplit]; exact hval
    obtain ⟨va, vb⟩ := (valid_append n _ _ _).mp hv1
    have W := wf_run _ _ (wf_init n) va
    have hc : (run init (ds.take i)).cnt = i := by
      rw [run_cnt, List.length_take]
      show 0 + min i ds.length = i
      omega
    have hnl := notes_len _ _ va
    have hb : (n + 1) * (ds.take i).length ≤ 41 * 30 := Nat.mul_le_mul (by omega) (by rw [List.length_take]; omega)
    refine ⟨_, rfl, F'.p, F'.dx, _, congrArg V.ref ep.symm, A'.ins, hn_do _ _ _ _ _, _, rfl, F', n, _, _, d, x, by rw [ep]; rfl, A', W, vb.1, hD.same s2, hn, by omega, ?_, fun H3 F3 r fr3 A3 e3 hf3 => ⟨?_, F3, _, e3.trans ep, rfl, ?_, ?_⟩⟩
    · have e0 : init.notes.length = 0 := rfl
      omega
    · intro b o e
      exact fr3 _ _ (s2 _ _ e) fun z => (by rw [hf' b z] at e; cases e)
    · rw [take_more hd, run_append]
      exact A3
    · rw [take_more hd, run_append]
      intro b hb
      rcases hf3 b hb with q | q
      · exact hf' b q
      · exact s2.free q
  · rintro σ H2 ⟨s2, F', v3, ep, rfl, A', hf'⟩
    rw [List.take_of_length_le (by rw [hus.len]; exact Nat.le_refl _)] at A' hf'
    refine ⟨_, rfl, ?_⟩
    rw [← ep]
    exact k _ F' s2 A' hf'
end
end K69

set_option maxRecDepth 100000
set_option maxHeartbeats 4000000
/-! Two deeds exchanged; the law's own road to it. -/
namespace K69
open PySem PySem.Spec PyProof.Rows L2
open C8 (Cal Mak Met pe_c pe_mk pe_mt pe_mt0 pe_gc)

abbrev DeedsR (H : Hp) : V → Deed → Prop := fun v d => Dt H v (deedD d)
def spExch (K : PySem.W.Frag) : Sp := fun vs H Q E => ∃ (a : Addr) (us : List V) (A B : List Deed) (d e : Deed), vs = [.ref a, .int A.length] ∧ H a = some (.lst us) ∧ Pw (DeedsR H) us (A ++ d :: e :: B) ∧ us.length ≤ 1000 ∧ d.models.length ≤ 1000 ∧ e.models.length ≤ 1000 ∧
  (tied d e → ∀ H', Same H H' → E (.ref (He.ga K "Tied")) none H') ∧ (¬ tied d e → ∀ H' p ys, Same H H' → H p = none → H' p = some (.lst ys) → Pw (DeedsR H') ys (A ++ e :: d :: B) → Q (.ref p) H')
def spChanged : Sp := fun vs H Q _ => ∃ (a : Addr) (us : List V) (A B : List Deed) (d e : Deed), vs = [.ref a, .int A.length] ∧ H a = some (.lst us) ∧ Pw (DeedsR H) us (A ++ d :: e :: B) ∧ us.length ≤ 1000 ∧ d.models.length ≤ 1000 ∧ e.models.length ≤ 1000 ∧
  (tied d e → ∀ H', Same H H' → Q .non H') ∧ (¬ tied d e → ∀ H' p ys, Same H H' → H p = none → H' p = some (.lst ys) → Pw (DeedsR H') ys (A ++ e :: d :: B) → Q (.ref p) H')
theorem cut_hd (xs : List V) (i : Nat) (h : i ≤ xs.length) : cutV xs none (some (i : Int)) = xs.take i := by
  unfold cutV
  rw [HT.sIx_none, HT.sIx_nat, Nat.min_eq_left h]
  rfl
theorem cut_tl (xs : List V) (i : Nat) (h : i ≤ xs.length) : cutV xs (some (i : Int)) none = xs.drop i := by
  unfold cutV
  rw [HT.sIx_none, HT.sIx_nat, Nat.min_eq_left h]
  rw [List.take_of_length_le (by rw [List.length_drop]; exact Nat.le_refl _)]
theorem cut_in (xs : List V) (i j : Nat) (h : j ≤ xs.length) (h' : i ≤ j) : cutV xs (some (i : Int)) (some (j : Int)) = (xs.drop i).take (j - i) := by
  unfold cutV
  rw [HT.sIx_nat, HT.sIx_nat, Nat.min_eq_left h, Nat.min_eq_left (Nat.le_trans h' h)]
section
variable {P : Program} {w : World} {K : PySem.W.Frag} {mg : Str → Option Value} {base : Heap}
theorem sc_exchanged : FnScope ["deeds", "at"] ["deeds", "at"] (defScope sD_exchanged) := ⟨rfl, rfl, rfl, by decide +kernel, rfl, by decide +kernel, by decide +kernel⟩
theorem ok_exchanged (T : Txt K mg) : ∃ fd, FnOk P w K mg base (L2.CX P w) 3 (He.fAd K dD_exchanged.at_) fd ["deeds", "at"] (spExch K) ∧ Binds K fd ["deeds", "at"] [] ∧ PySem.W.keepIn K (.ref (He.fAd K dD_exchanged.at_)) = true := by
  obtain ⟨fd, F⟩ := T.F_exchanged
  have c_are_tied := c_are_tied (P := P) (w := w) (base := base) T
  obtain ⟨xP, kP, bP, tP⟩ := He.exc_ok T.exc_Tied_
  refine ⟨fd, F.ok sc_exchanged (fun vs H Q E h => ?_) (fun cdv A outer s H vs Q E hr h => ?_), F.bindsN (fun _ _ _ _ _ _ us hl => match us, hl with | [_, _], _ => rfl), F.kp⟩
  · obtain ⟨_, _, _, _, _, _, rfl, _⟩ := h
    rfl
  refine ⟨_, (pss_cons (ps_if (pt_val (pe_c c_are_tied hr (by decide) rfl (pa_cons (pe_ix ix_list (pv 0) (pv 1) (fun _ _ => rfl)) (pa_cons (pe_ix ix_list (pv 0) (pe_op op_add (pv 1) pe_int) (fun _ _ => rfl)) pa_nil)))) (pss_one (ps_raise rfl (takes_of rfl rfl rfl rfl) (pmk_own0 PySem.F.excBase_ValueError xP T.glo_Tied kP (raises_own bP tP) rfl))) pss_nil)
      (pss_one (ps_ret (pe_op op_cat (pe_op op_cat (pe_slice sl_list (pv 0) po_none (po_some (pv 1))) (pe_lst (pa_cons (pe_ix ix_list (pv 0) (pe_op op_add (pv 1) pe_int) (fun _ _ => rfl)) (pa_cons (pe_ix ix_list (pv 0) (pv 1) (fun _ _ => rfl)) pa_nil)))) (pe_slice sl_list (pv 0) (po_some (pe_op op_add (pv 1) pe_int)) po_none))))), ?_⟩
  obtain ⟨a, us, A, B, d, e, rfl, ha, hus, hl, hm1, hm2, kT, kN⟩ := h
  have hll := hus.len
  have e1 : (A ++ d :: e :: B)[A.length]? = some d := by rw [List.getElem?_append_right (Nat.le_refl _), Nat.sub_self]; rfl
  have e2 : (A ++ d :: e :: B)[A.length + 1]? = some e := by rw [List.getElem?_append_right (Nat.le_succ _), show A.length.succ - A.length = 1 by omega]; rfl
  obtain ⟨v, hv, dv⟩ := hus.get e1
  obtain ⟨u, hu, du⟩ := hus.get e2
  have hlen : A.length + 2 ≤ us.length := by rw [hll, List.length_append, List.length_cons, List.length_cons]; omega
  refine ⟨_, rfl, _, rfl, _, _, _, _, rfl, rfl, .inl (.inl (ha)), at_of rfl (hv), _, rfl, _, rfl, _, _, rfl, rfl, _, _, _, _, rfl, rfl, .inl (.inl (ha)), at_of (rfl) (hu), v, u, d, e, rfl, dv, du, hm1, hm2, fun k H1 s1 hk => ⟨k, rfl, ?_⟩⟩
  cases k with
  | true => exact kT (hk.mp rfl) H1 s1
  | false =>
    have nt : ¬ tied d e := fun z => Bool.false_ne_true (hk.mpr z)
    have c1 : cutV us none (some (A.length : Int)) = us.take A.length := cut_hd us _ (by omega)
    have c2 : cutV us (some ((A.length : Int) + 2)) none = us.drop (A.length + 2) := cut_tl us (A.length + 2) hlen
    refine iteF ⟨_, rfl, _, rfl, _, rfl, a, us, rfl, .inl (.inl (s1 _ _ ha)), fun p1 h1 => ?_⟩
    rw [c1]
    have s2 := s1.trans (same_upd (o := .lst (us.take A.length)) h1)
    refine ⟨_, rfl, _, rfl, _, _, rfl, rfl, _, _, _, _, rfl, rfl, .inl (.inl (s2 _ _ ha)), at_of (rfl) (hu), _, rfl, _, rfl, _, _, _, _, rfl, rfl, .inl (.inl (s2 _ _ ha)), at_of rfl (hv), sz (szn 2), fun p2 h2 => ?_⟩
    have t12 : p1 ≠ p2 := fun z => by rw [z, upd_same] at h2; cases h2
    have s3 := s2.trans (same_upd (o := .lst [u, v]) h2)
    refine ⟨p1, p2, _, _, rfl, rfl, (upd_ne t12).trans upd_same, upd_same, sz ?_, fun p3 h3 => ?_⟩
    · rw [List.length_take]
      show _ + 2 ≤ _
      omega
    have s4 := s3.trans (same_upd (o := .lst (us.take A.length ++ [u, v])) h3)
    refine ⟨_, rfl, _, rfl, _, _, rfl, rfl, _, rfl, a, us, rfl, .inl (.inl (s4 _ _ ha)), fun p4 h4 => ?_⟩
    rw [c2]
    have t34 : p3 ≠ p4 := fun z => by rw [z, upd_same] at h4; cases h4
    have s5 := s4.trans (same_upd (o := .lst (us.drop (A.length + 2))) h4)
    refine ⟨p3, p4, _, _, rfl, rfl, (upd_ne t34).trans upd_same, upd_same, sz ?_, fun p5 h5 => ?_⟩
    · rw [List.length_append, List.length_take, List.length_drop]
      show _ + 2 + _ ≤ _
      omega
    have s6 := s5.trans (same_upd (o := .lst (us.take A.length ++ [u, v] ++ us.drop (A.length + 2))) h5)
    refine kN nt _ p5 _ s6 (s5.free h5) upd_same ?_
    have h0 := hus.imp fun x y => Dt.same s6
    have g1 := h0.take A.length
    rw [List.take_left] at g1
    have g2 := h0.drop (A.length + 2)
    have ed : (A ++ d :: e :: B).drop (A.length + 2) = B := by
      rw [← List.drop_drop, List.drop_left]
      rfl
    rw [ed] at g2
    have g3 := (Pw.one (R := DeedsR _) (y := e) (Dt.same s6 du)).app (.one (y := d) (Dt.same s6 dv))
    have g4 := (g1.app g3).app g2
    rw [List.append_assoc A] at g4
    exact g4
theorem sc_law_changed : FnScope ["_law_deeds", "_law_at"] ["_law_deeds", "_law_at"] (defScope sD_law_changed) := ⟨rfl, rfl, rfl, by decide +kernel, rfl, by decide +kernel, by decide +kernel⟩
theorem c_law_changed (T : Txt K mg) : Cal P w K mg base 4 "_law_changed" (spChanged) [] := by
  obtain ⟨fdE, FE, bE, kE⟩ := ok_exchanged (P := P) (w := w) (base := base) T
  have hte := He.exm_ok T.exm_Tied_
  refine calD T.F_law_changed T.glo_law_changed sc_law_changed (ps := ["_law_deeds", "_law_at"]) (k := 3) (fun _ _ _ _ _ _ us hl => match us, hl with | [_, _], _ => rfl) (fun vs H Q E h => ?_) (fun cdv A outer s H vs Q E hr h => ?_)
  · obtain ⟨_, _, _, _, _, _, rfl, _⟩ := h
    rfl
  refine ⟨_, (pss_one (ps_try_only (tb := fun W => tRet (tCallS (spExch K) (WE W) (tCons (tVar 0) (tCons (tVar 1) tNil)))) (ts := fun _ _ _ => tRet (tC .non)) (Wout := fun _ _ _ _ => False) rfl rfl ⟨rfl, by decide, Or.inl T.glo_Tied⟩ takes0
    (fun W pn xe tk _ => pss_one (ps_ret (by exact (pe_callS FE hr rfl T.glo_exchanged kE bE (fun σ => passAt tk σ) (by exact (pa_cons (pv 0) (pa_cons (pv 1) pa_nil)))))))
    (fun _ _ _ _ _ _ _ => pss_one (ps_ret pe_non)))), ?_⟩
  obtain ⟨a, us, A, B, d, e, rfl, ha, hus, hl, hm1, hm2, kT, kN⟩ := h
  refine ⟨_, rfl, _, rfl, a, us, A, B, d, e, rfl, ha, hus, hl, hm1, hm2, fun t H1 s1 => ?_, fun t H1 p ys s1 hp hy hr => kN t H1 p ys s1 hp hy hr⟩
  exact ⟨true, hte, fun _ a0 _ => kT t H1 s1, fun q => Bool.noConfusion q⟩
end
end K69

set_option maxRecDepth 100000
set_option maxHeartbeats 4000000
/-! The law draws: next, word, words, reading. -/
namespace K69
open PySem PySem.Spec PyProof.Rows L2
open C8 (Cal Mak Met pe_c pe_mk pe_mt pe_mt0 pe_gc)

/-- the state of the draws at a, its script at q -/
structure StAt (K : PySem.W.Frag) (H : Hp) (q a : Addr) (ns : List Int) : Prop where
  st : ∃ i j k : Int, H a = some (.lst [.ref q, .int i, .int j, .int k]) ∧ 0 ≤ i
  sc : SqL K H q (ns.map .int)
theorem sql_fr {K : PySem.W.Frag} {F : List Addr} {H H' : Hp} {q : Addr} {xs : List V} (h : SqL K H q xs) (f : Fr F H H') (n : q ∉ F) : SqL K H' q xs := by
  rcases h with (h | ⟨o, h⟩) | h
  · exact .inl (.inl (f _ _ h n))
  · exact .inl (.inr ⟨o, f _ _ h n⟩)
  · exact .inr h
theorem StAt.ld {K : PySem.W.Frag} {H : Hp} {q a : Addr} {ns : List Int} (s : StAt K H q a ns) : LD H [a] := fun b hb => by
  obtain ⟨i, j, k, h, _⟩ := s.st
  rw [List.mem_singleton.mp hb]
  exact ⟨_, h, rfl⟩
/-- the script stays where the state alone changes -/
theorem StAt.go {K : PySem.W.Frag} {H H' : Hp} {q a : Addr} {ns : List Int} (s : StAt K H q a ns) (f : Fr [a] H H') : SqL K H' q (ns.map .int) := by
  obtain ⟨i, j, k, e, _⟩ := s.st
  rcases s.sc with (h | ⟨o, h⟩) | h
  · refine .inl (.inl (f _ _ h fun z => ?_))
    rw [List.mem_singleton.mp z, e] at h
    injection h with h
    injection h with h
    cases ns with
    | nil => cases h
    | cons x r => injection h with h; cases h
  · refine .inl (.inr ⟨o, f _ _ h fun z => ?_⟩)
    rw [List.mem_singleton.mp z, e] at h
    cases h
  · exact .inr h
theorem StAt.set {K : PySem.W.Frag} {H : Hp} {q a : Addr} {ns : List Int} (s : StAt K H q a ns) (i j k : Int) (h : 0 ≤ i) : StAt K (upd H a (.lst [.ref q, .int i, .int j, .int k])) q a ns :=
  ⟨⟨i, j, k, upd_same, h⟩, s.go (fr_upd List.mem_cons_self)⟩
theorem StAt.same {K : PySem.W.Frag} {H H' : Hp} {q a : Addr} {ns : List Int} (s : StAt K H q a ns) (e : Same H H') : StAt K H' q a ns := by
  obtain ⟨i, j, k, h, h0⟩ := s.st
  exact ⟨⟨i, j, k, e _ _ h, h0⟩, e.seq s.sc⟩
def spNext (K : PySem.W.Frag) : Sp := fun vs H Q _ => ∃ (q a : Addr) (ns : List Int) (b : Nat), vs = [.ref a, .int (b : Nat)] ∧ StAt K H q a ns ∧ 0 < b ∧ b < 1000000000 ∧ ∀ H' (v : Nat), Fr [a] H H' → StAt K H' q a ns → v < b → Q (.int (v : Nat)) H'
theorem mod_nat (x : Int) {b : Nat} (h : 0 < b) : ∃ v : Nat, v < b ∧ x % (b : Int) = (v : Nat) := by
  have h1 := Int.emod_nonneg x (b := (b : Int)) (by omega)
  have h2 := Int.emod_lt_of_pos x (b := (b : Int)) (by omega)
  exact ⟨(x % (b : Int)).toNat, by omega, by omega⟩
theorem ret_mod {x : Int} {b : Nat} {Q : VK} {H : Hp} (hb : 0 < b) (k : ∀ v : Nat, v < b → Q (.int (v : Nat)) H) : Q (.int (x % (b : Int))) H := by
  obtain ⟨v, h1, h2⟩ := mod_nat x hb
  rw [h2]
  exact k v h1
section
variable {P : Program} {w : World} {K : PySem.W.Frag} {mg : Str → Option Value} {base : Heap}
theorem sc_law_next : FnScope ["_law_state", "_law_below", "_law_found", "_law_cell", "_law_number_here"] ["_law_state", "_law_below"] (defScope sD_law_next) := ⟨rfl, rfl, rfl, by decide +kernel, rfl, by decide +kernel, by decide +kernel⟩
theorem c_law_next (T : Txt K mg) : Cal P w K mg base 1 "_law_next" (spNext K) [] := by
  refine calD T.F_law_next T.glo_law_next sc_law_next (ps := ["_law_state", "_law_below"]) (k := 0) (fun _ _ _ _ _ _ us hl => match us, hl with | [_, _], _ => rfl) (fun vs H Q E h => ?_) (fun cdv A outer s H vs Q E hr h => ?_)
  · obtain ⟨_, _, _, _, rfl, _⟩ := h
    rfl
  refine ⟨_, (pss_cons (ps_if (pt_cmpR op_gt (pe_ix ix_list (pv 0) pe_int (fun _ _ => rfl)) pe_int (nomark _)) (pss_cons (ps_set (i := 2) sc_law_next.nd rfl (Or.inl rfl) (pe_op op_mod (pe_ix ix_list (pv 0) pe_int (fun _ _ => rfl)) (pv 1)))
      (pss_cons (ps_asg (pe_op op_fdiv (pe_ix ix_list (pv 0) pe_int (fun _ _ => rfl)) (pv 1)) (pg_sub (pv 0) pe_int set_list))
      (pss_one (ps_ret (pv 2))))) pss_nil)
      (pss_cons (ps_set (i := 3) sc_law_next.nd rfl (Or.inl rfl) pe_int)
      (pss_cons (ps_if (pt_cmpR op_lt (pe_ix ix_list (pv 0) pe_int (fun _ _ => rfl)) (pe_callB call_len_seq (by rfl) T.free_len PySem.boot_len (pa_cons (pe_ix ix_list (pv 0) pe_int (fun _ _ => rfl)) pa_nil)) (nomark _)) (pss_one (ps_set (i := 3) sc_law_next.nd rfl (Or.inl rfl) (pe_ix ix_list (pe_ix ix_list (pv 0) pe_int (fun _ _ => rfl)) (pe_ix ix_list (pv 0) pe_int (fun _ _ => rfl)) (fun _ _ => rfl)))) pss_nil)
      (pss_cons (ps_asg (pe_op op_add (pe_ix ix_list (pv 0) pe_int (fun _ _ => rfl)) pe_int) (pg_sub (pv 0) pe_int set_list))
      (pss_cons (ps_if (pt_cmpR op_ge (pv 3) (pe_op op_pow pe_int pe_int) (nomark _)) (pss_cons (ps_asg (pe_op op_fdiv (pv 3) (pv 1)) (pg_sub (pv 0) pe_int set_list))
      (pss_one (ps_ret (pe_op op_mod (pv 3) (pv 1))))) pss_nil)
      (pss_cons (ps_set (i := 4) sc_law_next.nd rfl (Or.inl rfl) (pe_op op_add (pe_op op_add (pe_op op_mul (pe_ix ix_list (pv 0) pe_int (fun _ _ => rfl)) pe_int) (pv 3)) (pe_op op_mul pe_int (pe_ix ix_list (pv 0) pe_int (fun _ _ => rfl)))))
      (pss_cons (ps_asg (pe_op op_mod (pv 4) pe_int) (pg_sub (pv 0) pe_int set_list))
      (pss_one (ps_ret (pe_op op_mod (pe_op op_fdiv (pe_op op_mod (pe_op op_mul (pe_op op_mod (pe_ix ix_list (pv 0) pe_int (fun _ _ => rfl)) pe_int) pe_int) pe_int) pe_int) (pv 1))))))))))), ?_⟩
  obtain ⟨q, a, ns, b, rfl, S, hb, hb2, k⟩ := h
  obtain ⟨i, j, l, ha, hi⟩ := S.st
  have frA : ∀ {o : HO} {H1 : Hp}, Fr [a] H H1 → Fr [a] H (upd H1 a o) := fun f => f.trans (fr_upd List.mem_cons_self)
  by_cases hj : 0 < j
  · refine ⟨_, rfl, _, _, _, _, rfl, rfl, .inl (.inl (ha)), at_of (j := 2) rfl rfl, _, _, rfl, rfl, true, congrArg V.bl (decide_eq_true hj), iteT ?_⟩
    refine ⟨_, rfl, _, _, _, _, rfl, rfl, .inl (.inl (ha)), at_of (j := 2) rfl rfl, _, rfl, _, _, rfl, rfl, by show (0 : Int) < b; omega, ?_⟩
    refine ⟨_, rfl, _, _, _, _, rfl, rfl, .inl (.inl (ha)), at_of (j := 2) rfl rfl, _, rfl, _, _, rfl, rfl, ⟨by show (0 : Int) < b; omega, by show (b : Int) < 1073741824; omega⟩, ?_⟩
    refine ⟨_, rfl, a, _, _, 2, rfl, rfl, ha, rfl, ?_⟩
    obtain ⟨v, h1, h2⟩ := mod_nat j hb
    refine ⟨_, rfl, ?_⟩
    show Q (.int (j % (b : Int))) _
    rw [h2]
    exact k _ v (frA (Fr.refl _ _)) (S.set i _ l hi) h1
  · refine ⟨_, rfl, _, _, _, _, rfl, rfl, .inl (.inl (ha)), at_of (j := 2) rfl rfl, _, _, rfl, rfl, false, congrArg V.bl (decide_eq_false hj), iteF ?_⟩
    have S1 := S.set (i + 1) j l (by omega)
    have fr1 : Fr [a] H (upd H a (.lst [.ref q, .int (i + 1), .int j, .int l])) := frA (Fr.refl _ _)
    have hb3 : (0 : Int) < (b : Nat) := by omega
    by_cases hl : i < (ns.length : Int)
    case' pos =>
      obtain ⟨x, hx⟩ : ∃ x, ns[i.toNat]? = some x := ⟨_, List.getElem?_eq_getElem (by omega)⟩
      have hx2 : (ns.map V.int)[i.toNat]? = some (.int x) := by rw [List.getElem?_map, hx]; rfl
      have hlm : ((ns.map V.int).length : Int) = ns.length := by rw [List.length_map]
      refine ⟨_, rfl, _, _, _, _, rfl, rfl, .inl (.inl (ha)), at_of (j := 1) rfl rfl, _, rfl, _, _, _, _, rfl, rfl, .inl (.inl (ha)), at_of (j := 0) rfl rfl, _, _, rfl, .inl S.sc, _, _, rfl, rfl, true, congrArg V.bl (decide_eq_true (by rw [hlm]; exact hl)), iteT ?_⟩
      refine ⟨_, rfl, _, _, _, _, rfl, rfl, .inl (.inl (ha)), at_of (j := 0) rfl rfl, _, rfl, _, _, _, _, rfl, rfl, .inl (.inl (ha)), at_of (j := 1) rfl rfl, q, _, i, _, rfl, rfl, S.sc, at_of (Int.toNat_of_nonneg hi).symm hx2, ?_⟩
      refine ⟨_, rfl, _, _, _, _, rfl, rfl, .inl (.inl (ha)), at_of (j := 1) rfl rfl, _, _, rfl, rfl, _, rfl, a, _, _, 1, rfl, rfl, ha, rfl, ?_⟩
      by_cases hx3 : (10 : Int) ^ 18 ≤ x
      · refine ⟨_, rfl, _, _, rfl, rfl, ⟨by decide, by decide, by decide⟩, _, _, rfl, rfl, true, congrArg V.bl (decide_eq_true hx3), iteT ?_⟩
        refine ⟨_, rfl, _, rfl, _, _, rfl, rfl, ⟨hb3, by show (b : Int) < 1073741824; omega⟩, _, rfl, a, _, _, 2, rfl, rfl, upd_same, rfl, ?_⟩
        obtain ⟨v, h1, h2⟩ := mod_nat x hb
        refine ⟨_, rfl, _, rfl, _, _, rfl, rfl, hb3, ?_⟩
        show Q (.int (x % (b : Int))) _
        rw [h2]
        exact k _ v (frA fr1) (S1.set _ _ _ (by omega)) h1
      refine ⟨_, rfl, _, _, rfl, rfl, ⟨by decide, by decide, by decide⟩, _, _, rfl, rfl, false, congrArg V.bl (decide_eq_false hx3), iteF ?_⟩
      clear hx3 hx2 hx hlm
    case' neg =>
      have hlm : ((ns.map V.int).length : Int) = ns.length := by rw [List.length_map]
      refine ⟨_, rfl, _, _, _, _, rfl, rfl, .inl (.inl (ha)), at_of (j := 1) rfl rfl, _, rfl, _, _, _, _, rfl, rfl, .inl (.inl (ha)), at_of (j := 0) rfl rfl, _, _, rfl, .inl S.sc, _, _, rfl, rfl, false, congrArg V.bl (decide_eq_false (by rw [hlm]; exact hl)), iteF ?_⟩
      refine ⟨_, rfl, _, _, _, _, rfl, rfl, .inl (.inl (ha)), at_of (j := 1) rfl rfl, _, _, rfl, rfl, _, rfl, a, _, _, 1, rfl, rfl, ha, rfl, ?_⟩
      refine ⟨_, rfl, _, _, rfl, rfl, ⟨by decide, by decide, by decide⟩, _, _, rfl, rfl, false, congrArg V.bl (decide_eq_false (by decide)), iteF ?_⟩
      clear hlm
    all_goals
      refine ⟨_, rfl, _, _, _, _, rfl, rfl, .inl (.inl (upd_same)), at_of (j := 3) rfl rfl, _, _, rfl, rfl, .inr ⟨by decide, by decide⟩, _, rfl, _, _, rfl, rfl, _, rfl, _, _, _, _, rfl, rfl, .inl (.inl (upd_same)), at_of (j := 1) rfl rfl, _, _, rfl, rfl, .inl ⟨by decide, by decide⟩, _, _, rfl, rfl, ?_⟩
      refine ⟨_, rfl, _, _, rfl, rfl, (show (0 : Int) < _ from by decide), _, rfl, a, _, _, 3, rfl, rfl, upd_same, rfl, ?_⟩
      refine ⟨_, rfl, _, _, _, _, rfl, rfl, .inl (.inl (upd_same)), at_of (j := 3) rfl rfl, _, _, rfl, rfl, (show (0 : Int) < _ from by decide), _, _, rfl, rfl, .inr ⟨by decide, by decide⟩, _, _, rfl, rfl, (show (0 : Int) < _ from by decide), _, _, rfl, rfl, ⟨by decide, by decide⟩, _, rfl, _, _, rfl, rfl, hb3, ?_⟩
      refine ret_mod hb fun v h1 => ?_
      exact k _ v (frA fr1) (S1.set _ _ _ (by omega)) h1
end
end K69

set_option maxRecDepth 100000
set_option maxHeartbeats 4000000
/-! The law draws: word, words, reading. -/
namespace K69
open PySem PySem.Spec PyProof.Rows L2
open C8 (Cal Mak Met pe_c pe_mk pe_mt pe_mt0 pe_gc)

/-- the draws' state moved on, all else kept -/
structure Dr (K : PySem.W.Frag) (H H' : Hp) (q a : Addr) (ns : List Int) : Prop where
  fr : Fr [a] H H'
  st : StAt K H' q a ns
theorem Dr.refl {K : PySem.W.Frag} {H : Hp} {q a : Addr} {ns : List Int} (s : StAt K H q a ns) : Dr K H H q a ns := ⟨Fr.refl _ _, s⟩
theorem Dr.trans {K : PySem.W.Frag} {H H1 H2 : Hp} {q a : Addr} {ns : List Int} (x : Dr K H H1 q a ns) (y : Dr K H1 H2 q a ns) : Dr K H H2 q a ns := ⟨x.fr.trans y.fr, y.st⟩
theorem Dr.same {K : PySem.W.Frag} {H H1 H2 : Hp} {q a : Addr} {ns : List Int} (x : Dr K H H1 q a ns) (y : Same H1 H2) : Dr K H H2 q a ns := ⟨x.fr.trans (y.fr _), x.st.same y⟩
theorem Dr.kp {K : PySem.W.Frag} {H H1 : Hp} {q a : Addr} {ns : List Int} (x : Dr K H H1 q a ns) (s : StAt K H q a ns) : Kp H H1 := x.fr.kp s.ld
theorem StAt.some_ {K : PySem.W.Frag} {H : Hp} {q a : Addr} {ns : List Int} (s : StAt K H q a ns) {b : Addr} (h : H b = none) : b ≠ a := fun z => by
  obtain ⟨i, j, k, e, _⟩ := s.st
  rw [z, e] at h
  cases h
/-- an object that H does not know may change -/
theorem Dr.mut {K : PySem.W.Frag} {H H1 : Hp} {q a : Addr} {ns : List Int} (x : Dr K H H1 q a ns) (s : StAt K H q a ns) {D : Addr} {o : HO} (hD : H D = none) : Dr K H (upd H1 D o) q a ns := by
  have f : Fr [a] H (upd H1 D o) := fun b u e n => by
    rw [upd_ne (ne_of_none e hD)]
    exact x.fr b u e n
  obtain ⟨i, j, k, e, h0⟩ := x.st.st
  exact ⟨f, ⟨i, j, k, (upd_ne (s.some_ hD).symm).trans e, h0⟩, s.go f⟩
theorem Dr.free {K : PySem.W.Frag} {H H1 : Hp} {q a : Addr} {ns : List Int} (x : Dr K H H1 q a ns) (s : StAt K H q a ns) {D : Addr} (hD : H1 D = none) : H D = none := by
  cases e : H D with
  | none => rfl
  | some o =>
    by_cases z : D = a
    · obtain ⟨i, j, k, e1, _⟩ := x.st.st
      rw [z, e1] at hD
      cases hD
    · rw [x.fr D o e fun w => z (List.mem_singleton.mp w)] at hD
      cases hD
/-- what stood and is not the state stands -/
theorem Dr.at_ {K : PySem.W.Frag} {H H1 : Hp} {q a : Addr} {ns : List Int} (x : Dr K H H1 q a ns) {b : Addr} {o : HO} (h : H b = some o) (n : b ≠ a) : H1 b = some o := x.fr b o h fun z => n (List.mem_singleton.mp z)

/-! ### texts of letters -/
theorem letter_at {v : Nat} (h : v < 26) : atI (Str.ofString "abcdefghijklmnopqrstuvwxyz").cps.toList (v : Nat) = some (97 + v) := by
  have go : ∀ u : Fin 26, atI (Str.ofString "abcdefghijklmnopqrstuvwxyz").cps.toList (u.val : Nat) = some (97 + u.val) := by decide +kernel
  exact go ⟨v, h⟩
theorem letters_nil : isLetters (Str.ofString "") := fun c hc => by
  have e : (Str.ofString "").cps.toList = [] := by decide +kernel
  rw [e] at hc
  cases hc
theorem letters_sign {c : Nat} (h : 97 ≤ c ∧ c ≤ 122) : isLetters ⟨#[c]⟩ := fun d hd => by
  rw [List.mem_singleton.mp hd]
  exact h
theorem letters_app {a b : Str} (h : isLetters a) (k : isLetters b) : isLetters (a ++ b) := fun c hc => by
  have e : (a ++ b).cps.toList = a.cps.toList ++ b.cps.toList := by rw [Str.cps_append, Array.toList_append]
  rw [e] at hc
  exact (List.mem_append.mp hc).elim (h c) (k c)
theorem len_app (a b : Str) : (a ++ b).length = a.length + b.length := Array.size_append
theorem letters_cut {z : Str} (h : isLetters z) (lo hi : Option Int) : isLetters (cutS z lo hi) := fun c hc => h c (List.mem_of_mem_drop (List.mem_of_mem_take hc))
theorem cut_sum (z : Str) (i : Nat) : (cutS z none (some (i : Int))).length + (cutS z (some (i : Int)) none).length ≤ z.length := by
  show (((z.cps.toList.drop _).take _).toArray).size + (((z.cps.toList.drop _).take _).toArray).size ≤ z.cps.size
  rw [List.size_toArray, List.size_toArray, List.length_take, List.length_drop, List.length_take, List.length_drop, Array.length_toList, HT.sIx_none, HT.sIx_none, HT.sIx_nat]
  have e : z.length = z.cps.size := rfl
  rw [HT.sIx_nat]
  omega
def spWord (K : PySem.W.Frag) : Sp := fun vs H Q _ => ∃ (q a : Addr) (ns : List Int) (m : Nat), vs = [.ref a, .int (m : Nat)] ∧ StAt K H q a ns ∧ m ≤ 7 ∧ ∀ H' s, Dr K H H' q a ns → isLetters s → s.length ≤ m → Q (.str s) H'
def spWords (K : PySem.W.Frag) : Sp := fun vs H Q _ => ∃ (q a : Addr) (ns : List Int) (m : Nat), vs = [.ref a, .int (m : Nat)] ∧ StAt K H q a ns ∧ m ≤ 20 ∧ ∀ H' p (ws : List Str), Dr K H H' q a ns → H p = none → H' p = some (.lst (ws.map .str)) → ws.length = m → (∀ x ∈ ws, isName x) → Q (.ref p) H'
def spReadg (K : PySem.W.Frag) : Sp := fun vs H Q _ => ∃ (q a p : Addr) (ns : List Int) (pool : List Str) (o : Option Str), vs = [.ref a, .ref p, rv o] ∧ StAt K H q a ns ∧ H p = some (.lst (pool.map .str)) ∧ p ≠ a ∧ pool.length ≤ 1000 ∧ (∃ x ∈ pool, o ≠ some x) ∧
  ∀ H' s, Dr K H H' q a ns → s ∈ pool → o ≠ some s → Q (.str s) H'
section
variable {P : Program} {w : World} {K : PySem.W.Frag} {mg : Str → Option Value} {base : Heap}
theorem sc_law_word : FnScope ["_law_state", "_law_most", "_law_word_here", "_law_k"] ["_law_state", "_law_most"] (defScope sD_law_word) := ⟨rfl, rfl, rfl, by decide +kernel, rfl, by decide +kernel, by decide +kernel⟩
theorem c_law_word (T : Txt K mg) : Cal P w K mg base 2 "_law_word" (spWord K) [] := by
  have c_law_next := c_law_next (P := P) (w := w) (base := base) T
  refine calD T.F_law_word T.glo_law_word sc_law_word (ps := ["_law_state", "_law_most"]) (k := 1) (fun _ _ _ _ _ _ us hl => match us, hl with | [_, _], _ => rfl) (fun vs H Q E h => ?_) (fun cdv A outer s H vs Q E hr h => ?_)
  · obtain ⟨_, _, _, _, rfl, _⟩ := h
    rfl
  refine ⟨_, (pss_cons (ps_set (i := 2) sc_law_word.nd rfl (Or.inl rfl) pe_str)
      (pss_cons (ps_for PassesOwn.never rfl (pi_range1 (by rfl) T.free_range (pa_cons (pe_c c_law_next hr (by decide) rfl (pa_cons (pv 0) (pa_cons (pe_op op_add (pv 1) pe_int) pa_nil))) pa_nil)) (pg_name (i := 3) sc_law_word.nd rfl (Or.inl rfl)) (pss_one (ps_set (i := 2) sc_law_word.nd rfl (Or.inl rfl) (pe_op op_add_str (pv 2) (pe_ix ix_str pe_str (pe_c c_law_next hr (by decide) rfl (pa_cons (pv 0) (pa_cons pe_int pa_nil))) (fun _ _ => rfl))))))
      (pss_one (ps_ret (pv 2))))), ?_⟩
  obtain ⟨q, a, ns, m, rfl, S, hm, k⟩ := h
  refine ⟨_, rfl, _, rfl, _, _, rfl, rfl, q, a, ns, m + 1, rfl, S, by omega, by omega, fun H1 v f1 S1 hv => ⟨(v : Nat), rfl, by omega, by omega, ?_⟩⟩
  have D1 : Dr K H H1 q a ns := ⟨f1, S1⟩
  refine for_it (walk_range (lo := 0) (n := v)) (fun i σ H' => Dr K H H' q a ns ∧ ∃ s v3, σ = [some (.ref a), some (.int m), some (.str s), v3] ∧ isLetters s ∧ s.length ≤ i) ⟨D1, _, none, rfl, letters_nil, Nat.le_refl _⟩ (fun _ _ _ _ _ => trivial) ?_ ?_
  · rintro i x σ H2 H3 hi ⟨D2, s, v3, rfl, h1, h2⟩ ⟨rfl, hx⟩
    refine ⟨_, rfl, _, rfl, q, a, ns, 26, rfl, D2.st, by decide, by decide, fun H4 c f4 S4 hc => ?_⟩
    refine ⟨_, _, _, rfl, rfl, (by decide +kernel : (Str.ofString "abcdefghijklmnopqrstuvwxyz").length ≤ sizeLine), letter_at hc, _, _, rfl, rfl, ?_, ?_⟩
    · show s.length + 1 ≤ _
      exact sz (by omega)
    · exact ⟨D2.trans ⟨f4, S4⟩, _, _, rfl, letters_app h1 (letters_sign (by omega)), by rw [len_app]; show s.length + 1 ≤ _; omega⟩
  · rintro σ H2 ⟨D2, s, v3, rfl, h1, h2⟩
    exact ⟨_, rfl, k _ s D2 h1 (by omega)⟩
theorem sc_law_words : FnScope ["_law_state", "_law_many", "_law_first", "_law_base", "_law_at", "_law_alike_here", "_law_found", "_law_k", "_law_sign"] ["_law_state", "_law_many"] (defScope sD_law_words) := ⟨rfl, rfl, rfl, by decide +kernel, rfl, by decide +kernel, by decide +kernel⟩
theorem c_law_words (T : Txt K mg) : Cal P w K mg base 3 "_law_words" (spWords K) [] := by
  have c_law_next := c_law_next (P := P) (w := w) (base := base) T
  have c_law_word := c_law_word (P := P) (w := w) (base := base) T
  refine calD T.F_law_words T.glo_law_words sc_law_words (ps := ["_law_state", "_law_many"]) (k := 2) (fun _ _ _ _ _ _ us hl => match us, hl with | [_, _], _ => rfl) (fun vs H Q E h => ?_) (fun cdv A outer s H vs Q E hr h => ?_)
  · obtain ⟨_, _, _, _, rfl, _⟩ := h
    rfl
  refine ⟨_, (pss_cons (ps_set (i := 2) sc_law_words.nd rfl (Or.inl rfl) (pe_c c_law_next hr (by decide) rfl (pa_cons (pv 0) (pa_cons pe_int pa_nil))))
      (pss_cons (ps_set (i := 3) sc_law_words.nd rfl (Or.inl rfl) (pe_c c_law_word hr (by decide) rfl (pa_cons (pv 0) (pa_cons pe_int pa_nil))))
      (pss_cons (ps_set (i := 4) sc_law_words.nd rfl (Or.inl rfl) (pe_c c_law_next hr (by decide) rfl (pa_cons (pv 0) (pa_cons (pe_op op_add (pe_callB call_len_str (by rfl) T.free_len PySem.boot_len (pa_cons (pv 3) pa_nil)) pe_int) pa_nil))))
      (pss_cons (ps_set (i := 5) sc_law_words.nd rfl (Or.inl rfl) (pe_cmpR op_eq (pe_c c_law_next hr (by decide) rfl (pa_cons (pv 0) (pa_cons pe_int pa_nil))) pe_int (nomark _)))
      (pss_cons (ps_set (i := 6) sc_law_words.nd rfl (Or.inl rfl) (pe_lst pa_nil))
      (pss_cons (ps_for PassesOwn.never rfl (pi_range1 (by rfl) T.free_range (pa_cons (pv 1) pa_nil)) (pg_name (i := 7) sc_law_words.nd rfl (Or.inl rfl)) (pss_cons (ps_set (i := 8) sc_law_words.nd rfl (Or.inl rfl) (pe_ix ix_str pe_str (pe_op op_mod (pe_op op_add (pv 2) (pv 7)) pe_int) (fun _ _ => rfl)))
      (pss_one (ps_if (pt_val (pv 5)) (pss_one (ps_expr (pe_bm PySem.F.plainAttrs_list PySem.F.slot_list_append PySem.F.type_list_append mt_append (pv 6) (pa_cons (pe_op op_add_str (pe_op op_add_str (pe_slice sl_str (pv 3) po_none (po_some (pv 4))) (pv 8)) (pe_slice sl_str (pv 3) (po_some (pv 4)) po_none)) pa_nil)))) (pss_one (ps_expr (pe_bm PySem.F.plainAttrs_list PySem.F.slot_list_append PySem.F.type_list_append mt_append (pv 6) (pa_cons (pe_op op_add_str (pe_c c_law_word hr (by decide) rfl (pa_cons (pv 0) (pa_cons pe_int pa_nil))) (pv 8)) pa_nil))))))))
      (pss_one (ps_ret (pv 6))))))))), ?_⟩
  obtain ⟨q, a, ns, m, rfl, S, hm, k⟩ := h
  refine ⟨_, rfl, q, a, ns, 26, rfl, S, by decide, by decide, fun H1 first f1 S1 hf => ?_⟩
  refine ⟨_, rfl, q, a, ns, 7, rfl, S1, by decide, fun H2 base D2 hb1 hb2 => ?_⟩
  refine ⟨_, rfl, _, rfl, base, rfl, sz (by omega), _, _, rfl, rfl, q, a, ns, base.length + 1, rfl, D2.st, by omega, by omega, fun H3 at_ f3 S3 hat => ?_⟩
  refine ⟨_, rfl, q, a, ns, 2, rfl, S3, by decide, by decide, fun H4 c f4 S4 hc => ?_⟩
  refine ⟨rfl, ?_⟩
  have D4 : Dr K H H4 q a ns := ((Dr.trans ⟨f1, S1⟩ D2).trans ⟨f3, S3⟩).trans ⟨f4, S4⟩
  refine ⟨Nat.zero_le _, fun D hD0 => ?_⟩
  have hD := D4.free S hD0
  have D5 := D4.same (same_upd (o := .lst []) hD0)
  generalize hal : decide (V.int (c : Nat) = V.int 0) = al
  refine ⟨_, rfl, _, rfl, by omega, by omega, ?_⟩
  refine for_it (walk_range (lo := 0) (n := m)) (fun i σ H' => Dr K H H' q a ns ∧ ∃ ws v7 v8, σ = [some (.ref a), some (.int m), some (.int first), some (.str base), some (.int at_), some (.bl al), some (.ref D), v7, v8] ∧ H' D = some (.lst (ws.map .str)) ∧ ws.length = i ∧ ∀ x ∈ ws, isName x)
    ⟨D5, [], none, none, rfl, upd_same, rfl, fun x hx => nomatch hx⟩ (fun _ _ _ _ _ => trivial) ?_ ?_
  · rintro i x σ H2' H3' hi ⟨D6, ws, v7, v8, rfl, g1, g2, g3⟩ ⟨rfl, hx⟩
    obtain rfl : x = .int ((i : Nat) : Int) := by rw [hx]; show V.int (0 + (i : Int)) = _; rw [Int.zero_add]
    obtain ⟨v, hv1, hv2⟩ := mod_nat ((first : Int) + (i : Nat)) (b := 26) (by decide)
    refine ⟨_, rfl, _, rfl, _, _, rfl, rfl, _, _, rfl, rfl, (show (0 : Int) < _ from by decide), _, _, 97 + v, rfl, rfl, (by decide +kernel : (Str.ofString "abcdefghijklmnopqrstuvwxyz").length ≤ sizeLine),
      (by show atI _ (((first : Int) + (i : Int)) % ((26 : Nat) : Int)) = _; rw [hv2]; exact letter_at hv1), ?_⟩
    refine ⟨_, rfl, al, rfl, ?_⟩
    have hsum := cut_sum base at_
    have lsg : isLetters ⟨#[97 + v]⟩ := letters_sign (by omega)
    have lensg : (⟨#[97 + v]⟩ : Str).length = 1 := rfl
    cases al with
    | true =>
      refine iteT ⟨_, rfl, .inl ⟨rfl, _, .inl (.inl g1)⟩, _, rfl, _, rfl, _, rfl, base, rfl, sz (by omega), _, rfl, _, _, rfl, rfl, sz (by rw [lensg]; omega), _, rfl, _, rfl, _, rfl, base, rfl, sz (by omega), _, _, rfl, rfl, sz (by rw [len_app, lensg]; omega), D, _, _, rfl, rfl, g1, szl (by rw [List.length_map]; omega), ?_⟩
      refine ⟨D6.mut S hD, ws ++ [cutS base none (some (at_ : Int)) ++ ⟨#[97 + v]⟩ ++ cutS base (some (at_ : Int)) none], _, _, rfl, ?_, ?_, ?_⟩
      · rw [upd_same, List.map_append]; rfl
      · rw [List.length_append, g2]; rfl
      · intro y hy
        rcases List.mem_append.mp hy with hy | hy
        · exact g3 y hy
        · rw [List.mem_singleton.mp hy]
          refine ⟨⟨?_, letters_app (letters_app (letters_cut hb1 _ _) lsg) (letters_cut hb1 _ _)⟩, ?_⟩
          · rw [len_app, len_app, lensg]; omega
          · rw [len_app, len_app, lensg]; omega
    | false =>
      refine iteF ⟨_, rfl, .inl ⟨rfl, _, .inl (.inl g1)⟩, _, rfl, q, a, ns, 7, rfl, D6.st, by decide, fun H7 y D7 hy1 hy2 => ?_⟩
      have g7 := D7.at_ g1 (S.some_ hD)
      refine ⟨_, rfl, _, _, rfl, rfl, sz (by rw [lensg]; omega), D, _, _, rfl, rfl, g7, szl (by rw [List.length_map]; omega), ?_⟩
      refine ⟨(D6.trans D7).mut S hD, ws ++ [y ++ ⟨#[97 + v]⟩], _, _, rfl, ?_, ?_, ?_⟩
      · rw [upd_same, List.map_append]; rfl
      · rw [List.length_append, g2]; rfl
      · intro z hz
        rcases List.mem_append.mp hz with hz | hz
        · exact g3 z hz
        · rw [List.mem_singleton.mp hz]
          refine ⟨⟨?_, letters_app hy1 lsg⟩, ?_⟩
          · rw [len_app, lensg]; omega
          · rw [len_app, lensg]; omega
  · rintro σ H2' ⟨D6, ws, v7, v8, rfl, g1, g2, g3⟩
    exact ⟨_, rfl, k _ D ws D6 hD g1 g2 g3⟩
theorem sc_law_reading : FnScope ["_law_state", "_law_pool", "_law_other", "_law_some", "_law_one"] ["_law_state", "_law_pool", "_law_other"] (defScope sD_law_reading) := ⟨rfl, rfl, rfl, by decide +kernel, rfl, by decide +kernel, by decide +kernel⟩
theorem c_law_reading (T : Txt K mg) : Cal P w K mg base 2 "_law_reading" (spReadg K) [] := by
  have c_law_next := c_law_next (P := P) (w := w) (base := base) T
  refine calD T.F_law_reading T.glo_law_reading sc_law_reading (ps := ["_law_state", "_law_pool", "_law_other"]) (k := 1) (fun _ _ _ _ _ _ us hl => match us, hl with | [_, _, _], _ => rfl) (fun vs H Q E h => ?_) (fun cdv A outer s H vs Q E hr h => ?_)
  · obtain ⟨_, _, _, _, _, _, rfl, _⟩ := h
    rfl
  refine ⟨_, (pss_cons (ps_setLc (i := 3) (own := [("_law_one", 4)]) rfl sc_law_reading.nd rfl rfl (sw_true rfl rfl rfl (by decide +kernel)) (pi_list (pv 1)) (blkOk_by (own := [("_law_one", 4)]) (N := ["_law_state", "_law_pool", "_law_other", "_law_some", "_law_one"]) (sc := defScope sD_law_reading) (by decide +kernel)) (fun _ _ _ _ _ => (pg_name (i := 4) sc_law_reading.nd rfl (Or.inl rfl))) (fun _ _ _ _ _ => pts_one (pt_cmpR op_ne (pv 4) (pv 2) (nomark _))) (fun _ _ _ _ _ => (pv 4)))
      (pss_one (ps_ret (pe_ix ix_list (pv 3) (pe_c c_law_next hr (by decide) rfl (pa_cons (pv 0) (pa_cons (pe_callB call_len_seq (by rfl) T.free_len PySem.boot_len (pa_cons (pv 3) pa_nil)) pa_nil))) (fun _ _ => rfl))))), ?_⟩
  obtain ⟨q, a, p, ns, pool, o, rfl, S, hp, hpa, hpl, hex, k⟩ := h
  refine ⟨_, rfl, p, rfl, ⟨_, .inl (.inl hp)⟩, fun D hD => lc_it (walk_list (xs := pool.map .str)) (fun i H' => Same H H' ∧ H' D = some (.lst (((pool.take i).filter (fun s => decide (o ≠ some s))).map .str))) ⟨same_upd hD, upd_same⟩ (fun _ _ _ g => .inl (.inl (g.1 _ _ hp))) ?_ ?_⟩
  · rintro i x H1 H2 hi ⟨s1, g1⟩ ⟨rfl, hx⟩
    rw [List.getElem?_map] at hx
    cases e : pool[i]? with
    | none => rw [e] at hx; cases hx
    | some s =>
      rw [e] at hx
      cases hx
      have hsc : scal (.str s) (rv o) = true := by cases o <;> rfl
      refine ⟨rfl, _, rfl, _, rfl, hsc, _, rfl, ?_⟩
      have hl1 : ((pool.take i).filter (fun s => decide (o ≠ some s))).length ≤ 1000 := Nat.le_trans (List.length_filter_le _ _) (Nat.le_trans (List.length_take_le' _ _) hpl)
      by_cases hz : o = some s
      · have hd : decide (V.str s = rv o) = true := decide_eq_true (by rw [hz]; rfl)
        rw [hd]
        refine ⟨s1, ?_⟩
        rw [take_more e, List.filter_append, List.filter_cons_of_neg (by simp [hz]), List.filter_nil, List.append_nil]
        exact g1
      · have hd : decide (V.str s = rv o) = false := decide_eq_false fun w => hz (rv_inj (a := o) (b := some s) w.symm)
        rw [hd]
        refine ⟨_, rfl, _, g1, szl (by rw [List.length_map]; omega), same_mut s1 hD, ?_⟩
        rw [take_more e, List.filter_append, List.filter_cons_of_pos (by simp [hz]), List.filter_nil, List.map_append]
        exact upd_same
  · rintro H1 ⟨s1, g1⟩
    rw [List.take_of_length_le (by rw [List.length_map]; exact Nat.le_refl _)] at g1
    generalize hso : pool.filter (fun s => decide (o ≠ some s)) = so at g1
    have hlen : so.length ≤ 1000 := by rw [← hso]; exact Nat.le_trans (List.length_filter_le _ _) hpl
    obtain ⟨x, hx1, hx2⟩ := hex
    have hpos : 0 < so.length := List.length_pos_of_mem (a := x) (by rw [← hso]; exact List.mem_filter.mpr ⟨hx1, decide_eq_true hx2⟩)
    have D1 := (Dr.refl S).same s1
    refine ⟨_, rfl, _, rfl, _, rfl, _, _, rfl, .inl (.inl (.inl (g1))), q, a, ns, so.length, congrArg (fun z : Nat => [V.ref a, V.int z]) (List.length_map ..), D1.st, hpos, by omega, fun H2 v f2 S2 hv => ?_⟩
    have D2 := D1.trans ⟨f2, S2⟩
    have g2 := f2 _ _ g1 fun z => S.some_ hD (List.mem_singleton.mp z)
    obtain ⟨y, he⟩ : ∃ y, so[v]? = some y := ⟨_, List.getElem?_eq_getElem hv⟩
    have hin : y ∈ so := List.mem_of_getElem? he
    rw [← hso] at hin
    have hm := List.mem_filter.mp hin
    refine ⟨_, _, _, .str y, rfl, rfl, .inl (.inl g2), at_of (j := v) rfl (by rw [List.getElem?_map, he]; rfl), ?_⟩
    exact k _ _ D2 hm.1 (of_decide_eq_true hm.2)
end
end K69

set_option maxRecDepth 100000
set_option maxHeartbeats 4000000
/-! The law draws: a copy. -/
namespace K69
open PySem PySem.Spec PyProof.Rows L2
open C8 (Cal Mak Met pe_c pe_mk pe_mt pe_mt0 pe_gc)

abbrev DtR : Hp → V → Cell → Prop := fun H v c => Dt H v (cellD c)
theorem dtR_kp : ∀ H H' v c, Kp H H' → DtR H v c → DtR H' v c := fun _ _ _ _ k h => Dt.kp k _ _ h
theorem BooksAt.dr {K : PySem.W.Frag} {H H' : Hp} {q a : Addr} {ns : List Int} {cd : Addr} {L : Str → Addr} {order : List Str} {bk : Str → List Cell} (b : BooksAt DtR H cd L order bk) (s : StAt K H q a ns) (na : a ∉ fpB cd L order) (d : Dr K H H' q a ns) : BooksAt DtR H' cd L order bk :=
  b.keep dtR_kp (d.kp s) fun x hx o e => d.at_ e fun z => na (z ▸ hx)
theorem kvs_keys (L : Str → Addr) : ∀ order : List Str, (kvs order L).map (·.1) = order.map Sum.inr
  | [] => rfl
  | x :: r => congrArg (Sum.inr x :: ·) (kvs_keys L r)
theorem copyBase_app (bk : Str → List Cell) (nm : Str) (ps : List (Str × Nat × Nat)) (p : Str × Nat × Nat) : copyBase bk nm (ps ++ [p]) = copyBase bk nm ps ++ (stretch bk p).map (handed nm) := by
  unfold copyBase
  rw [List.flatMap_append]
  congr 1
  rw [List.flatMap_cons, List.flatMap_nil, List.append_nil]
theorem handed_rd (nm : Str) (c : Cell) : (handed nm c).rd = c.rd := by
  obtain ⟨r, s, o, w⟩ := c
  cases r <;> rfl
theorem slipsOk_le {n : Nat} {cs : List Cell} : ∀ {ss : List (Nat × Str)} {b b' : Nat}, b' ≤ b → slipsOk n cs b ss → slipsOk n cs b' ss
  | [], _, _, _, _ => trivial
  | s :: r, b, b', h, ⟨h1, h2⟩ => ⟨Nat.le_trans h h1, h2⟩
/-- the pool: readings, and for each one another -/
structure PoolOk (pool : List Str) : Prop where
  rds : ∀ x ∈ pool, isReading x
  oth : ∀ o : Option Str, ∃ x ∈ pool, o ≠ some x
  len : pool.length ≤ 100
/-- what the drawn copy holds while it is drawn -/
structure CpAt (H : Hp) (dp ds t : Addr) (ups uss : List V) (parts : List (Str × Nat × Nat)) (slips : List (Nat × Str)) (ys : List Str) : Prop where
  hp : H dp = some (.lst ups)
  hs : H ds = some (.lst uss)
  ht : H t = some (.lst (ys.map .str))
  dP : DtAll H ups (parts.map partD)
  dS : DtAll H uss (slips.map slipD)
theorem CpAt.go {H H' : Hp} {dp ds t : Addr} {ups uss : List V} {parts : List (Str × Nat × Nat)} {slips : List (Nat × Str)} {ys : List Str} (c : CpAt H dp ds t ups uss parts slips ys) (k : Kp H H') (f : ∀ b ∈ [dp, ds, t], ∀ o, H b = some o → H' b = some o) : CpAt H' dp ds t ups uss parts slips ys :=
  ⟨f dp (by simp) _ c.hp, f ds (by simp) _ c.hs, f t (by simp) _ c.ht, DtAll.kp k _ _ c.dP, DtAll.kp k _ _ c.dS⟩
theorem CpAt.same {H H' : Hp} {dp ds t : Addr} {ups uss : List V} {parts : List (Str × Nat × Nat)} {slips : List (Nat × Str)} {ys : List Str} (c : CpAt H dp ds t ups uss parts slips ys) (s : Same H H') : CpAt H' dp ds t ups uss parts slips ys :=
  c.go s.kp fun b _ o e => s b o e
theorem CpAt.dr {K : PySem.W.Frag} {q a : Addr} {ns : List Int} {H H' : Hp} {dp ds t : Addr} {ups uss : List V} {parts : List (Str × Nat × Nat)} {slips : List (Nat × Str)} {ys : List Str} (c : CpAt H dp ds t ups uss parts slips ys) (S : StAt K H q a ns) (s : Dr K H H' q a ns) (n : ∀ b ∈ [dp, ds, t], b ≠ a) : CpAt H' dp ds t ups uss parts slips ys :=
  c.go (s.kp S) fun b hb o e => s.at_ e (n b hb)
theorem CpAt.part {H : Hp} {dp ds t : Addr} {ups uss : List V} {parts : List (Str × Nat × Nat)} {slips : List (Nat × Str)} {ys : List Str} (c : CpAt H dp ds t ups uss parts slips ys) (n1 : ds ≠ dp) (n2 : dp ≠ t) {v : V} {p : Str × Nat × Nat} (h : Dt H v (partD p)) :
    CpAt (upd H dp (.lst (ups ++ [v]))) dp ds t (ups ++ [v]) uss (parts ++ [p]) slips ys := by
  have k := kp_upd (o := .lst (ups ++ [v])) c.hp rfl
  refine ⟨upd_same, (upd_ne n1).trans c.hs, (upd_ne n2.symm).trans c.ht, ?_, DtAll.kp k _ _ c.dS⟩
  rw [List.map_append]
  exact (DtAll.kp k _ _ c.dP).app (.cons (Dt.kp k _ _ h) .nil)
theorem CpAt.slip {H : Hp} {dp ds t : Addr} {ups uss : List V} {parts : List (Str × Nat × Nat)} {slips : List (Nat × Str)} {ys : List Str} (c : CpAt H dp ds t ups uss parts slips ys) (n1 : ds ≠ dp) (n2 : ds ≠ t) {v : V} {p : Nat × Str} (h : Dt H v (slipD p)) :
    CpAt (upd H ds (.lst (uss ++ [v]))) dp ds t ups (uss ++ [v]) parts (slips ++ [p]) ys := by
  have k := kp_upd (o := .lst (uss ++ [v])) c.hs rfl
  refine ⟨(upd_ne n1.symm).trans c.hp, upd_same, (upd_ne n2.symm).trans c.ht, DtAll.kp k _ _ c.dP, ?_⟩
  rw [List.map_append]
  exact (DtAll.kp k _ _ c.dS).app (.cons (Dt.kp k _ _ h) .nil)
/-- behind a branching: what both sides lead to -/
theorem use_nx {t : TS} {D : Ends} {σ : L2.St} {H : Hp} (P : L2.St → Hp → Prop) (h2 : ∀ σ H, P σ H → D.nx σ H) (h1 : (∀ σ H, P σ H → D.nx σ H) → t D σ H) : t D σ H := h1 h2
theorem use_seq {t u : TS} {D : Ends} {σ : L2.St} {H : Hp} (P : L2.St → Hp → Prop) (h2 : ∀ σ H, P σ H → u D σ H) (h1 : (∀ σ H, P σ H → u D σ H) → tSeq t u D σ H) : tSeq t u D σ H := h1 h2
theorem stretch_at {bk : Str → List Cell} {m : Str} {f l i : Nat} {c : Cell} (h : (bk m)[f + i]? = some c) (hi : f + i < l) : (stretch bk (m, f, l))[i]? = some c := by
  show (((bk m).drop f).take (l - f))[i]? = _
  rw [List.getElem?_take, if_pos (by omega), List.getElem?_drop]
  exact h
def spCopy (K : PySem.W.Frag) : Sp := fun vs H Q _ => ∃ (q a cd p : Addr) (ns : List Int) (n : Nat) (nm : Str) (L : Str → Addr) (order : List Str) (bk : Str → List Cell) (pool : List Str), vs = [.ref a, .int n, .ref cd, .str nm, .ref p] ∧ StAt K H q a ns ∧ BooksAt DtR H cd L order bk ∧ a ∉ fpB cd L order ∧
  1 ≤ n ∧ n ≤ 40 ∧ order ≠ [] ∧ order.length < 60 ∧ (∀ m ∈ order, isName m ∧ (bk m).length = n) ∧ isName nm ∧ H p = some (.lst (pool.map .str)) ∧ p ≠ a ∧ PoolOk pool ∧
  ∀ H' v parts slips, Dr K H H' q a ns → Dt H' v (deedD (.copy nm parts slips)) → partsOk n 0 parts → slipsOk n (copyBase bk nm parts) 0 slips → (∀ x ∈ parts, x.1 ∈ order) → Q v H'
section
variable {P : Program} {w : World} {K : PySem.W.Frag} {mg : Str → Option Value} {base : Heap}
theorem sc_law_copy : FnScope ["_law_state", "_law_many", "_law_books", "_law_name", "_law_pool", "_law_there", "_law_whole", "_law_often", "_law_parts", "_law_slips", "_law_first", "_law_last", "_law_model", "_law_place"] ["_law_state", "_law_many", "_law_books", "_law_name", "_law_pool"] (defScope sD_law_copy) := ⟨rfl, rfl, rfl, by decide +kernel, rfl, by decide +kernel, by decide +kernel⟩
theorem c_law_copy (T : Txt K mg) : Cal P w K mg base 3 "_law_copy" (spCopy K) [] := by
  have c_law_next := c_law_next (P := P) (w := w) (base := base) T
  have c_law_reading := c_law_reading (P := P) (w := w) (base := base) T
  refine calD T.F_law_copy T.glo_law_copy sc_law_copy (ps := ["_law_state", "_law_many", "_law_books", "_law_name", "_law_pool"]) (k := 2) (fun _ _ _ _ _ _ us hl => match us, hl with | [_, _, _, _, _], _ => rfl) (fun vs H Q E h => ?_) (fun cdv A outer s H vs Q E hr h => ?_)
  · obtain ⟨_, _, _, _, _, _, _, _, _, _, _, rfl, _⟩ := h
    rfl
  have hu := hu_of hr
  refine ⟨_, (pss_cons (ps_set (i := 5) sc_law_copy.nd rfl (Or.inl rfl) (pe_callB (call_sortedD rfl) (by rfl) T.free_sorted (by decide +kernel) (pa_cons (pv 2) pa_nil)))
      (pss_cons (ps_set (i := 6) sc_law_copy.nd rfl (Or.inl rfl) (pe_cmpR op_eq (pe_c c_law_next hr (by decide) rfl (pa_cons (pv 0) (pa_cons pe_int pa_nil))) pe_int (nomark _)))
      (pss_cons (ps_set (i := 7) sc_law_copy.nd rfl (Or.inl rfl) (pe_ix ix_list (pe_lst (pa_cons pe_int (pa_cons pe_int (pa_cons pe_int pa_nil)))) (pe_c c_law_next hr (by decide) rfl (pa_cons (pv 0) (pa_cons pe_int pa_nil))) (fun _ _ => rfl)))
      (pss_cons (ps_set (i := 8) sc_law_copy.nd rfl (Or.inl rfl) (pe_lst pa_nil))
      (pss_cons (ps_set (i := 9) sc_law_copy.nd rfl (Or.inl rfl) (pe_lst pa_nil))
      (pss_cons (ps_set (i := 10) sc_law_copy.nd rfl (Or.inl rfl) pe_int)
      (pss_cons (ps_while PassesOwn.never (pt_cmpR op_lt (pv 10) (pv 1) (nomark _)) (pss_cons (ps_set (i := 11) sc_law_copy.nd rfl (Or.inl rfl) (pv 1))
      (pss_cons (ps_if (pt_not (pt_val (pv 6))) (pss_one (ps_set (i := 11) sc_law_copy.nd rfl (Or.inl rfl) (pe_op op_add (pe_op op_add (pv 10) pe_int) (pe_c c_law_next hr (by decide) rfl (pa_cons (pv 0) (pa_cons (pe_op op_sub (pv 1) (pv 10)) pa_nil)))))) pss_nil)
      (pss_cons (ps_set (i := 12) sc_law_copy.nd rfl (Or.inl rfl) (pe_ix ix_list (pv 5) (pe_c c_law_next hr (by decide) rfl (pa_cons (pv 0) (pa_cons (pe_callB call_len_seq (by rfl) T.free_len PySem.boot_len (pa_cons (pv 5) pa_nil)) pa_nil))) (fun _ _ => rfl)))
      (pss_cons (ps_expr (pe_bm PySem.F.plainAttrs_list PySem.F.slot_list_append PySem.F.type_list_append mt_append (pv 8) (pa_cons (pe_tup (pa_cons (pv 12) (pa_cons (pv 10) (pa_cons (pv 11) pa_nil)))) pa_nil)))
      (pss_cons (ps_for PassesOwn.never rfl (pi_range2 (by rfl) T.free_range (pa_cons (pv 10) (pa_cons (pv 11) pa_nil))) (pg_name (i := 13) sc_law_copy.nd rfl (Or.inl rfl)) (pss_one (ps_if (pt_cmpR op_eq (pe_c c_law_next hr (by decide) rfl (pa_cons (pv 0) (pa_cons (pv 7) pa_nil))) pe_int (nomark _)) (pss_one (ps_expr (pe_bm PySem.F.plainAttrs_list PySem.F.slot_list_append PySem.F.type_list_append mt_append (pv 9) (pa_cons (pe_tup (pa_cons (pv 13) (pa_cons (pe_c c_law_reading hr (by decide) rfl (pa_cons (pv 0) (pa_cons (pv 4) (pa_cons (pe_ix ix_tup (pe_ix ix_list (pe_dget hu (pv 2) (pv 12) (fun _ _ => rfl)) (pv 13) (fun _ _ => rfl)) pe_int (fun _ _ => rfl)) pa_nil)))) pa_nil))) pa_nil)))) pss_nil)))
      (pss_one (ps_set (i := 10) sc_law_copy.nd rfl (Or.inl rfl) (pv 11)))))))))
      (pss_one (ps_ret (pe_tup (pa_cons pe_str (pa_cons (pv 3) (pa_cons (pe_callTy call_tuple_of (by rfl) T.free_tuple (by decide +kernel) (pa_cons (pv 8) pa_nil)) (pa_cons (pe_callTy call_tuple_of (by rfl) T.free_tuple (by decide +kernel) (pa_cons (pv 9) pa_nil)) pa_nil)))))))))))))), ?_⟩
  obtain ⟨q, a, cd, p, ns, n, nm, L, order, bk, pool, rfl, S, B, na, hn1, hn2, ho, hol, hor, hnm, hp, hpa, po, k⟩ := h
  refine ⟨_, rfl, cd, _, order, rfl, .inl B.dict, kvs_keys L order, by omega, fun ys t hperm _ ht => ?_⟩
  have hylen : ys.length = order.length := hperm.length_eq
  have hypos : 0 < ys.length := by rw [hylen]; exact List.length_pos_iff.mpr ho
  have D1 := (Dr.refl S).same (same_upd (o := .lst (ys.map .str)) ht)
  have nta : t ≠ a := S.some_ ht
  refine ⟨_, rfl, q, a, ns, 2, rfl, D1.st, by decide, by decide, fun H2 c f2 S2 hc => ⟨rfl, ?_⟩⟩
  generalize hwh : decide (V.int (c : Nat) = V.int 0) = wh
  have D2 := D1.trans ⟨f2, S2⟩
  have t2 := Dr.at_ ⟨f2, S2⟩ (upd_same : upd H t (.lst (ys.map .str)) t = _) nta
  refine ⟨sz (szn 3), fun p3 hp3 => ?_⟩
  have s3 := same_upd (o := .lst [.int 3, .int 9, .int 50]) hp3
  have D3 := D2.same s3
  refine ⟨_, rfl, q, a, ns, 3, rfl, D3.st, by decide, by decide, fun H4 v f4 S4 hv => ?_⟩
  have D4 := D3.trans ⟨f4, S4⟩
  have t4 := Dr.at_ ⟨f4, S4⟩ (s3 _ _ t2) nta
  obtain ⟨of, ho1, ho2, ho3⟩ : ∃ of : Nat, [V.int 3, .int 9, .int 50][v]? = some (.int of) ∧ 0 < of ∧ of ≤ 50 := by
    match v, hv with
    | 0, _ => exact ⟨3, rfl, by decide, by decide⟩
    | 1, _ => exact ⟨9, rfl, by decide, by decide⟩
    | 2, _ => exact ⟨50, rfl, by decide, by decide⟩
  refine ⟨_, _, _, _, rfl, rfl, .inl (.inl (Dr.at_ ⟨f4, S4⟩ upd_same (D2.st.some_ hp3))), at_of (j := v) rfl ho1, ?_⟩
  refine ⟨Nat.zero_le _, fun dp hdp => ⟨Nat.zero_le _, fun ds hds => ?_⟩⟩
  have s5 := same_upd (o := .lst []) hdp
  have s6 := same_upd (o := .lst []) hds
  have D6 := (D4.same s5).same s6
  have ndp : dp ≠ a := D4.st.some_ hdp
  have nds : ds ≠ a := (D4.same s5).st.some_ hds
  have dpt : dp ≠ t := fun z => by rw [z, t4] at hdp; cases hdp
  have dst : ds ≠ t := fun z => by rw [z, s5 _ _ t4] at hds; cases hds
  have dsp : ds ≠ dp := fun z => by rw [z, upd_same] at hds; cases hds
  have fdp : H dp = none := D4.free S hdp
  have fds : H ds = none := (D4.same s5).free S hds
  have nl : ∀ b ∈ [dp, ds, t], b ≠ a := fun b hb => by
    rcases List.mem_cons.mp hb with z | hb
    · rw [z]; exact ndp
    rcases List.mem_cons.mp hb with z | hb
    · rw [z]; exact nds
    · rw [List.mem_singleton.mp hb]; exact nta
  have C6 : CpAt _ dp ds t [] [] [] [] ys := ⟨s6 _ _ upd_same, upd_same, s6 _ _ (s5 _ _ t4), .nil, .nil⟩
  refine ⟨fun m σ H' => ∃ first parts slips ups uss v11 v12 v13, m = n - first ∧ σ = [some (.ref a), some (.int n), some (.ref cd), some (.str nm), some (.ref p), some (.ref t), some (.bl wh), some (.int of), some (.ref dp), some (.ref ds), some (.int (first : Nat)), v11, v12, v13] ∧
      Dr K H H' q a ns ∧ CpAt H' dp ds t ups uss parts slips ys ∧ first ≤ n ∧ parts.length ≤ first ∧ slips.length ≤ first ∧ (copyBase bk nm parts).length = first ∧ (∀ x ∈ parts, x.1 ∈ order) ∧ (∀ rest, partsOk n first rest → partsOk n 0 (parts ++ rest)) ∧
      (∀ rest cs, (∀ j, j < first → cs[j]? = (copyBase bk nm parts)[j]?) → slipsOk n cs first rest → slipsOk n cs 0 (slips ++ rest)),
    ⟨_, 0, [], [], [], [], none, none, none, rfl, rfl, D6, C6, Nat.zero_le _, Nat.le_refl _, Nat.le_refl _, rfl, (fun x hx => nomatch hx), fun rest h => h, fun rest cs _ h => h⟩, ?_⟩
  rintro m σ H' ⟨first, parts, slips, ups, uss, v11, v12, v13, rfl, rfl, D7, C7, hfn, hpl, hsl, hcl, hpo, hpk, hsk⟩
  by_cases hlt : first < n
  · refine ⟨_, rfl, _, rfl, _, _, rfl, rfl, true, congrArg V.bl (decide_eq_true (by omega)), fun σ' H' => ∃ m', m' < n - first ∧ _, fun _ _ z => z, _, rfl, ?_⟩
    dsimp only [gName]
    refine use_seq (fun σ' H' => ∃ last : Nat, first < last ∧ last ≤ n ∧ σ' = [some (.ref a), some (.int n), some (.ref cd), some (.str nm), some (.ref p), some (.ref t), some (.bl wh), some (.int of), some (.ref dp), some (.ref ds), some (.int (first : Nat)), some (.int (last : Nat)), v12, v13] ∧
      Dr K H H' q a ns ∧ CpAt H' dp ds t ups uss parts slips ys) ?_ fun tl => ?_
    · rintro σ8 H8 ⟨last, hl1, hl2, rfl, D8, C8⟩
      refine ⟨_, rfl, _, rfl, _, rfl, _, _, rfl, .inl (.inl (.inl (C8.ht))), q, a, ns, ys.length, congrArg (fun z : Nat => [V.ref a, V.int z]) (List.length_map ..), D8.st, hypos, by omega, fun H9 v f9 S9 hv => ?_⟩
      have D9 := D8.trans ⟨f9, S9⟩
      have C9 := C8.dr D8.st ⟨f9, S9⟩ nl
      obtain ⟨m, hym⟩ : ∃ m, ys[v]? = some m := ⟨_, List.getElem?_eq_getElem hv⟩
      have hm : m ∈ order := hperm.mem_iff.mp (List.mem_of_getElem? hym)
      refine ⟨_, _, _, .str m, rfl, rfl, .inl (.inl C9.ht), at_of (j := v) rfl (by rw [List.getElem?_map, hym]; rfl), ?_⟩
      refine ⟨_, rfl, .inl ⟨rfl, _, .inl (.inl C9.hp)⟩, _, rfl, _, rfl, _, rfl, sz (szn 3), fun p4 hp4 => ?_⟩
      obtain ⟨s4, ht4⟩ := tupF (ds := [.str m, .int first, .int last]) (.cons (.str _) (.cons (.int _) (.cons (.int _) .nil))) hp4
      have C10 := C9.same s4
      have hul : ups.length = parts.length := by rw [C10.dP.len, List.length_map]
      refine ⟨dp, ups, _, rfl, rfl, C10.hp, szl (by omega), ?_⟩
      have D11 := (D9.same s4).mut (o := .lst (ups ++ [.ref p4])) S fdp
      have C11 := C10.part dsp dpt (p := (m, first, last)) ht4
      have hcn := copyBase_app bk nm parts (m, first, last)
      have hbl : (bk m).length = n := (hor m hm).2
      have hstl : (stretch bk (m, first, last)).length = last - first := stretch_len hbl (Nat.le_of_lt hl1) hl2
      have hnl : (copyBase bk nm (parts ++ [(m, first, last)])).length = last := by
        rw [hcn, List.length_append, List.length_map, hstl, hcl]
        omega
      have hold : ∀ j, j < first → (copyBase bk nm (parts ++ [(m, first, last)]))[j]? = (copyBase bk nm parts)[j]? := fun j hj => by
        rw [hcn, List.getElem?_append_left (by omega)]
      have hnew : ∀ (i : Nat) (c : Cell), (bk m)[first + i]? = some c → first + i < last → (copyBase bk nm (parts ++ [(m, first, last)]))[first + i]? = some (handed nm c) := fun i c hc hi => by
        rw [hcn, List.getElem?_append_right (by omega), hcl, Nat.add_sub_cancel_left, List.getElem?_map, stretch_at hc hi]
        rfl
      have ee : first + ((last : Int) - (first : Nat)).toNat = last := by omega
      refine ⟨_, rfl, _, rfl, (first : Nat), (last : Nat), rfl, by omega, for_it (walk_range (lo := (first : Int)) (n := ((last : Int) - (first : Nat)).toNat)) (fun i σ H' => Dr K H H' q a ns ∧ ∃ slips' uss' v13, σ = [some (.ref a), some (.int n), some (.ref cd), some (.str nm), some (.ref p), some (.ref t), some (.bl wh), some (.int of), some (.ref dp), some (.ref ds), some (.int (first : Nat)), some (.int (last : Nat)), some (.str m), v13] ∧
          CpAt H' dp ds t (ups ++ [.ref p4]) uss' (parts ++ [(m, first, last)]) slips' ys ∧ slips'.length ≤ first + i ∧
          (∀ rest cs, (∀ j, j < last → cs[j]? = (copyBase bk nm (parts ++ [(m, first, last)]))[j]?) → slipsOk n cs (first + i) rest → slipsOk n cs 0 (slips' ++ rest)))
        ⟨D11, slips, uss, v13, rfl, C11, hsl, fun rest cs h1 h2 => hsk rest cs (fun j hj => (h1 j (by omega)).trans (hold j hj)) h2⟩ (fun _ _ _ _ _ => trivial) ?_ ?_⟩
      · rintro i x σ H12 H13 hi ⟨D12, slips', uss', v13', rfl, C12, hs1, hs2⟩ ⟨rfl, hx⟩
        obtain rfl : x = .int ((first + i : Nat) : Int) := by rw [hx]; congr 1
        have hil : first + i < last := by omega
        refine ⟨_, rfl, _, rfl, q, a, ns, of, rfl, D12.st, ho2, by omega, fun H14 v14 f14 S14 hv14 => ?_⟩
        have D14 := D12.trans ⟨f14, S14⟩
        have C14 := C12.dr D12.st ⟨f14, S14⟩ nl
        refine ⟨rfl, _, rfl, ?_⟩
        generalize decide (V.int (v14 : Nat) = V.int 0) = bb
        cases bb with
        | false => exact iteF ⟨D14, slips', uss', _, rfl, C14, by omega, fun rest cs h1 h2 => hs2 rest cs h1 (slipsOk_le (Nat.le_succ _) h2)⟩
        | true =>
          have B14 := B.dr S na D14
          obtain ⟨c, hc⟩ : ∃ c, (bk m)[first + i]? = some c := ⟨_, List.getElem?_eq_getElem (by omega)⟩
          obtain ⟨vs, cv, b1, b2, b3⟩ := B14.cell hm hc
          obtain ⟨ac, xs, rfl, hac, hxs⟩ := Dt.tup_ b3
          cases hxs with
          | cons e1 hxs =>
            cases rv_of e1
            have hpH := D14.at_ hp hpa
            have hunl : uss'.length = slips'.length := by rw [C14.dS.len, List.length_map]
            refine iteT ⟨_, rfl, .inl ⟨rfl, _, .inl (.inl C14.hs)⟩, _, rfl, _, rfl, _, rfl, _, rfl, _, rfl, cd, _, rfl, B14.get hm, _, rfl, _, _, _, _, rfl, rfl, .inl (.inl (b1)), at_of rfl (b2), _, _, _, _, rfl, rfl, .inl (.inl (hac)), at_of (j := 0) rfl rfl, q, a, p, ns, pool, c.rd, rfl, D14.st, hpH, hpa, Nat.le_trans po.len (by decide), po.oth _, fun H15 s D15 hsp hso => ?_⟩
            have D16 := D14.trans D15
            have C15 := C14.dr D14.st D15 nl
            refine ⟨sz (szn 2), fun p5 hp5 => ?_⟩
            obtain ⟨s17, ht17⟩ := tupF (ds := [.int ((first + i : Nat) : Int), .str s]) (.cons (.int _) (.cons (.str _) .nil)) hp5
            have C17 := C15.same s17
            refine ⟨ds, uss', _, rfl, rfl, C17.hs, szl (by omega), ?_⟩
            have D18 := (D16.same s17).mut (o := .lst (uss' ++ [.ref p5])) S fds
            refine ⟨D18, slips' ++ [(first + i, s)], _, _, rfl, C17.slip dsp dst (p := (first + i, s)) ht17, ?_, fun rest cs h1 h2 => ?_⟩
            · rw [List.length_append, List.length_singleton]
              omega
            · rw [List.append_assoc]
              refine hs2 _ cs h1 ⟨Nat.le_refl _, by show first + i < n; omega, po.rds s hsp, fun c' hc' => ?_, h2⟩
              have e1 : cs[first + i]? = some (handed nm c) := (h1 _ hil).trans (hnew i c hc hil)
              have e2 : cs[first + i]? = some c' := hc'
              rw [e1] at e2
              rw [← Option.some.inj e2, handed_rd]
              exact hso
      · rintro σ H12 ⟨D12, slips', uss', v13', rfl, C12, hs1, hs2⟩
        rw [ee] at hs1 hs2
        refine ⟨_, rfl, n - last, by omega, last, parts ++ [(m, first, last)], slips', _, uss', _, _, _, rfl, rfl, D12, C12, hl2, ?_, hs1, hnl, ?_, fun rest h => ?_, hs2⟩
        · rw [List.length_append, List.length_singleton]
          omega
        · intro x hx
          rcases List.mem_append.mp hx with hx | hx
          · exact hpo x hx
          · rw [List.mem_singleton.mp hx]
            exact hm
        · rw [List.append_assoc]
          exact hpk _ ⟨(hor m hm).1, rfl, hl1, hl2, h⟩
    · refine ⟨_, rfl, wh, rfl, ?_⟩
      cases wh with
      | true => exact iteF (tl _ _ ⟨n, hlt, Nat.le_refl _, rfl, D7, C7⟩)
      | false =>
        refine iteT ⟨_, rfl, _, _, rfl, rfl, _, rfl, _, rfl, _, rfl, _, _, rfl, rfl, q, a, ns, n - first, ?_, D7.st, by omega, by omega, fun H8 v8 f8 S8 hv8 => ⟨_, _, rfl, rfl, ?_⟩⟩
        · exact congrArg (fun z : Int => [V.ref a, V.int z]) (by omega)
        · exact tl _ _ ⟨first + 1 + v8, by omega, by omega, rfl, D7.trans ⟨f8, S8⟩, C7.dr D7.st ⟨f8, S8⟩ nl⟩
  · have en : first = n := by omega
    subst en
    refine ⟨_, rfl, _, rfl, _, _, rfl, rfl, false, congrArg V.bl (decide_eq_false (by omega)), ?_⟩
    refine iteF ⟨_, rfl, _, rfl, dp, _, rfl, .inl ⟨.inl (.inl C7.hp), fun l1 hl1 => ?_⟩⟩
    have s8 := same_upd (o := .tup ups) hl1
    have C8 := C7.same s8
    refine ⟨_, rfl, ds, _, rfl, .inl ⟨.inl (.inl C8.hs), fun l2 hl2 => ?_⟩⟩
    have s9 := same_upd (o := .tup uss) hl2
    have C9 := C8.same s9
    refine ⟨sz (szn 4), fun l3 hl3 => ?_⟩
    obtain ⟨s10, ht10⟩ := tupF (ds := [.str "copy", .str nm, .tuple (parts.map partD), .tuple (slips.map slipD)]) (.cons (.str _) (.cons (.str _) (.cons (.tup (s9 _ _ upd_same) C9.dP) (.cons (.tup upd_same C9.dS) .nil)))) hl3
    have g1 := hpk [] rfl
    have g2 := hsk [] (copyBase bk nm parts) (fun _ _ => rfl) trivial
    rw [List.append_nil] at g1 g2
    exact k _ _ parts slips (((D7.same s8).same s9).same s10) ht10 g1 g2 hpo
end
end K69

set_option maxRecDepth 100000
set_option maxHeartbeats 4000000
/-! The law draws: a deed. -/
namespace K69
open PySem PySem.Spec PyProof.Rows L2
open C8 (Cal Mak Met pe_c pe_mk pe_mt pe_mt0 pe_gc)

/-! ### lists of texts, held against each other -/
theorem strOk_letters {x : Str} (h : isLetters x) : PyData.canLay0 (.str x) = true := by
  show x.cps.all (· < 0x110000) = true
  rw [Array.all_eq_true]
  intro i hi
  have := h x.cps[i] (by rw [Array.mem_toList_iff]; exact Array.getElem_mem hi)
  exact decide_eq_true (by omega)
theorem layS : ∀ {ys : List Str}, (∀ y ∈ ys, isLetters y) → PyData.canLayAll0 (ys.map PyData.str) = true
  | [], _ => rfl
  | y :: r, h => by
    show (PyData.canLay0 (.str y) && PyData.canLayAll0 (r.map PyData.str)) = true
    rw [Bool.and_eq_true]
    exact ⟨strOk_letters (h y List.mem_cons_self), layS fun z hz => h z (List.mem_cons_of_mem _ hz)⟩
theorem depthS : ∀ ys : List Str, PyData.depthAll (ys.map PyData.str) = 0
  | [] => rfl
  | y :: r => by
    show max (PyData.depth (.str y)) (PyData.depthAll (r.map PyData.str)) = 0
    rw [depthS r]
    rfl
theorem shapedS {ys : List Str} (h : ∀ y ∈ ys, isLetters y) : SeqAt.shaped (.list (ys.map PyData.str)) = true := by
  show (PyData.canLayAll0 (ys.map PyData.str) && decide (PyData.depthAll (ys.map PyData.str) + 1 ≤ 64)) = true
  rw [layS h, depthS]
  rfl
theorem eqvS : ∀ xs ys : List Str, PyData.eqvAll (xs.map PyData.str) (ys.map PyData.str) = decide (xs = ys)
  | [], [] => rfl
  | [], _ :: _ => rfl
  | _ :: _, [] => rfl
  | x :: r, y :: t => by
    show (x == y && PyData.eqvAll (r.map PyData.str) (t.map PyData.str)) = _
    rw [eqvS r t]
    by_cases h : x = y <;> by_cases h' : r = t <;> simp [h, h']
theorem dpS {K : PySem.W.Frag} {H : Hp} : ∀ ys : List Str, DpAll K H (ys.map V.str) (ys.map PyData.str)
  | [] => .nil
  | y :: r => .cons (.str y) (dpS r)
theorem dpL {K : PySem.W.Frag} {H : Hp} {a : Addr} {ys : List Str} (h : H a = some (.lst (ys.map .str))) : Dp K H (.ref a) (.list (ys.map PyData.str)) := .lst (.inl (.inl h)) (dpS ys)
theorem eqS {K : PySem.W.Frag} {H : Hp} {a b : Addr} {xs ys : List Str} {Q : VK} (ha : H a = some (.lst (xs.map .str))) (hb : H b = some (.lst (ys.map .str))) (hx : ∀ y ∈ xs, isLetters y) (hy : ∀ y ∈ ys, isLetters y) (k : Q (.bl (decide (xs = ys))) H) : rEqD K (.ref a) (.ref b) H Q :=
  ⟨_, _, dpL ha, dpL hb, shapedS hx, shapedS hy, by show Q (.bl (PyData.eqvAll _ _)) H; rw [eqvS]; exact k⟩
theorem neS {K : PySem.W.Frag} {H : Hp} {a b : Addr} {xs ys : List Str} {Q : VK} (ha : H a = some (.lst (xs.map .str))) (hb : H b = some (.lst (ys.map .str))) (hx : ∀ y ∈ xs, isLetters y) (hy : ∀ y ∈ ys, isLetters y) (k : Q (.bl (!decide (xs = ys))) H) : rNeD K (.ref a) (.ref b) H Q :=
  ⟨_, _, dpL ha, dpL hb, shapedS hx, shapedS hy, by show Q (.bl (!PyData.eqvAll _ _)) H; rw [eqvS]; exact k⟩
theorem seq_if {c : TT} {t u rest : TS} {D : Ends} {σ : L2.St} {H : Hp} (P : Bool → Hp → Prop) (h1 : ∀ R : Bool → Hp → Prop, (∀ b H', P b H' → R b H') → c σ H R)
    (ht : ∀ H', P true H' → t { D with nx := rest D } σ H') (hf : ∀ H', P false H' → u { D with nx := rest D } σ H') : tSeq (tIfS c t u) rest D σ H :=
  h1 _ fun b H' p => by
    cases b with
    | true => rw [if_pos rfl]; exact ht H' p
    | false => rw [if_neg Bool.false_ne_true]; exact hf H' p
theorem filter_more {α : Type} {p : α → Bool} {l : List α} {i : Nat} {x : α} (h : l[i]? = some x) : (l.take (i + 1)).filter p = (l.take i).filter p ++ (if p x = true then [x] else []) := by
  rw [take_more h, List.filter_append]
  cases q : p x with
  | true => rw [List.filter_cons_of_pos q]; rfl
  | false => rw [List.filter_cons_of_neg (by rw [q]; exact Bool.false_ne_true)]; rfl
def spDeed (K : PySem.W.Frag) : Sp := fun vs H Q _ => ∃ (q a cd pn p : Addr) (ns : List Int) (n : Nat) (L : Str → Addr) (h : Hs) (names pool : List Str), vs = [.ref a, .int n, .ref cd, .ref pn, .ref p] ∧ StAt K H q a ns ∧ BooksAt DtR H cd L h.order h.bk ∧ a ∉ fpB cd L h.order ∧
  1 ≤ n ∧ n ≤ 40 ∧ h.order.length < 60 ∧ (∀ m ∈ h.order, isName m ∧ (h.bk m).length = n) ∧ H pn = some (.lst (names.map .str)) ∧ pn ≠ a ∧ names ≠ [] ∧ names.length ≤ 20 ∧ (∀ m ∈ names, isName m) ∧ H p = some (.lst (pool.map .str)) ∧ p ≠ a ∧ PoolOk pool ∧
  ∀ H' v d, Dr K H H' q a ns → Dt H' v (deedD d) → Ok n h d → Q v H'
section
variable {P : Program} {w : World} {K : PySem.W.Frag} {mg : Str → Option Value} {base : Heap}
theorem sc_law_deed : FnScope ["_law_state", "_law_many", "_law_books", "_law_names", "_law_pool", "_law_there", "_law_name", "_law_unused", "_law_kind", "_law_row", "_law_others", "_law_first", "_law_last", "_law_other", "_law_place"] ["_law_state", "_law_many", "_law_books", "_law_names", "_law_pool"] (defScope sD_law_deed) := ⟨rfl, rfl, rfl, by decide +kernel, rfl, by decide +kernel, by decide +kernel⟩
theorem c_law_deed (T : Txt K mg) : Cal P w K mg base 4 "_law_deed" (spDeed K) [] := by
  have c_law_next := c_law_next (P := P) (w := w) (base := base) T
  have c_law_copy := c_law_copy (P := P) (w := w) (base := base) T
  have c_law_reading := c_law_reading (P := P) (w := w) (base := base) T
  refine calD T.F_law_deed T.glo_law_deed sc_law_deed (ps := ["_law_state", "_law_many", "_law_books", "_law_names", "_law_pool"]) (k := 3) (fun _ _ _ _ _ _ us hl => match us, hl with | [_, _, _, _, _], _ => rfl) (fun vs H Q E h => ?_) (fun cdv A outer s H vs Q E hr h => ?_)
  · obtain ⟨_, _, _, _, _, _, _, _, _, _, _, rfl, _⟩ := h
    rfl
  have hu := hu_of hr
  refine ⟨_, (pss_cons (ps_set (i := 5) sc_law_deed.nd rfl (Or.inl rfl) (pe_callB (call_sortedD rfl) (by rfl) T.free_sorted (by decide +kernel) (pa_cons (pv 2) pa_nil)))
      (pss_cons (ps_setLc (i := 7) (own := [("_law_name", 6)]) rfl sc_law_deed.nd rfl rfl (sw_true rfl rfl rfl (by decide +kernel)) (pi_list (pv 3)) (blkOk_by (own := [("_law_name", 6)]) (N := ["_law_state", "_law_many", "_law_books", "_law_names", "_law_pool", "_law_there", "_law_name", "_law_unused", "_law_kind", "_law_row", "_law_others", "_law_first", "_law_last", "_law_other", "_law_place"]) (sc := defScope sD_law_deed) (by decide +kernel)) (fun _ _ _ _ _ => (pg_name (i := 6) sc_law_deed.nd rfl (Or.inl rfl))) (fun _ _ _ _ _ => pts_one (pt_cmp (pc_dnotin hu (pv 6) (pv 2)))) (fun _ _ _ _ _ => (pv 6)))
      (pss_cons (ps_set (i := 8) sc_law_deed.nd rfl (Or.inl rfl) (pe_c c_law_next hr (by decide) rfl (pa_cons (pv 0) (pa_cons pe_int pa_nil))))
      (pss_cons (ps_if (PW.pt (pw_or (pt_cmpR (op_eqD hr.units) (pv 5) (pe_lst pa_nil) (nomark _)) (pw_or1 (PW.pt (pw_and (pt_cmpR op_eq (pv 8) pe_int (nomark _)) (pw_and1 (pt_cmpR (op_neD hr.units) (pv 7) (pe_lst pa_nil) (nomark _)))))))) (pss_cons (ps_setLc (i := 9) (own := [("_law_place", 14)]) rfl sc_law_deed.nd rfl rfl (sw_true rfl rfl rfl (by decide +kernel)) (pi_range1 (by rfl) T.free_range (pa_cons (pv 1) pa_nil)) (blkOk_by (own := [("_law_place", 14)]) (N := ["_law_state", "_law_many", "_law_books", "_law_names", "_law_pool", "_law_there", "_law_name", "_law_unused", "_law_kind", "_law_row", "_law_others", "_law_first", "_law_last", "_law_other", "_law_place"]) (sc := defScope sD_law_deed) (by decide +kernel)) (fun _ _ _ _ _ => (pg_name (i := 14) sc_law_deed.nd rfl (Or.inl rfl))) (fun _ _ _ _ _ => pts_nil) (fun _ _ _ _ _ => (pe_ix (ix_list_B K) (pv 4) (pe_c c_law_next hr (by decide) rfl (pa_cons (pv 0) (pa_cons (pe_callB (call_len_seq_B K) (by rfl) T.free_len PySem.boot_len (pa_cons (pv 4) pa_nil)) pa_nil))) (fun _ _ => rfl))))
      (pss_one (ps_ret (pe_tup (pa_cons pe_str (pa_cons (pe_ix ix_list (pv 7) (pe_c c_law_next hr (by decide) rfl (pa_cons (pv 0) (pa_cons (pe_callB call_len_seq (by rfl) T.free_len PySem.boot_len (pa_cons (pv 7) pa_nil)) pa_nil))) (fun _ _ => rfl)) (pa_cons (pe_callTy call_tuple_of (by rfl) T.free_tuple (by decide +kernel) (pa_cons (pv 9) pa_nil)) pa_nil))))))) pss_nil)
      (pss_cons (ps_if (PW.pt (pw_and (pt_cmpR op_lt (pv 8) pe_int (nomark _)) (pw_and1 (pt_cmpR (op_neD hr.units) (pv 7) (pe_lst pa_nil) (nomark _))))) (pss_one (ps_ret (pe_c c_law_copy hr (by decide) rfl (pa_cons (pv 0) (pa_cons (pv 1) (pa_cons (pv 2) (pa_cons (pe_ix ix_list (pv 7) (pe_c c_law_next hr (by decide) rfl (pa_cons (pv 0) (pa_cons (pe_callB call_len_seq (by rfl) T.free_len PySem.boot_len (pa_cons (pv 7) pa_nil)) pa_nil))) (fun _ _ => rfl)) (pa_cons (pv 4) pa_nil)))))))) pss_nil)
      (pss_cons (ps_set (i := 6) sc_law_deed.nd rfl (Or.inr rfl) (pe_ix ix_list (pv 5) (pe_c c_law_next hr (by decide) rfl (pa_cons (pv 0) (pa_cons (pe_callB call_len_seq (by rfl) T.free_len PySem.boot_len (pa_cons (pv 5) pa_nil)) pa_nil))) (fun _ _ => rfl)))
      (pss_cons (ps_setLc (i := 10) (own := [("_law_other", 13)]) rfl sc_law_deed.nd rfl rfl (sw_true rfl rfl rfl (by decide +kernel)) (pi_list (pv 5)) (blkOk_by (own := [("_law_other", 13)]) (N := ["_law_state", "_law_many", "_law_books", "_law_names", "_law_pool", "_law_there", "_law_name", "_law_unused", "_law_kind", "_law_row", "_law_others", "_law_first", "_law_last", "_law_other", "_law_place"]) (sc := defScope sD_law_deed) (by decide +kernel)) (fun _ _ _ _ _ => (pg_name (i := 13) sc_law_deed.nd rfl (Or.inl rfl))) (fun _ _ _ _ _ => pts_one (pt_cmpR op_ne (pv 13) (pv 6) (nomark _))) (fun _ _ _ _ _ => (pv 13)))
      (pss_cons (ps_set (i := 11) sc_law_deed.nd rfl (Or.inl rfl) (pe_c c_law_next hr (by decide) rfl (pa_cons (pv 0) (pa_cons (pv 1) pa_nil))))
      (pss_cons (ps_if (pt_cmpR op_lt (pv 8) pe_int (nomark _)) (pss_one (ps_ret (pe_tup (pa_cons pe_str (pa_cons (pv 6) (pa_cons (pv 11) (pa_cons (pe_c c_law_reading hr (by decide) rfl (pa_cons (pv 0) (pa_cons (pv 4) (pa_cons (pe_ix ix_tup (pe_ix ix_list (pe_dget hu (pv 2) (pv 6) (fun _ _ => rfl)) (pv 11) (fun _ _ => rfl)) pe_int (fun _ _ => rfl)) pa_nil)))) pa_nil))))))) pss_nil)
      (pss_cons (ps_set (i := 12) sc_law_deed.nd rfl (Or.inl rfl) (pe_op op_add (pe_op op_add (pv 11) pe_int) (pe_c c_law_next hr (by decide) rfl (pa_cons (pv 0) (pa_cons (pe_op op_sub (pv 1) (pv 11)) pa_nil)))))
      (pss_cons (ps_if (PW.pt (pw_and (pt_cmpR op_lt (pv 8) pe_int (nomark _)) (pw_and1 (pt_cmpR (op_neD hr.units) (pv 10) (pe_lst pa_nil) (nomark _))))) (pss_one (ps_ret (pe_tup (pa_cons pe_str (pa_cons (pv 6) (pa_cons (pe_ix ix_list (pv 10) (pe_c c_law_next hr (by decide) rfl (pa_cons (pv 0) (pa_cons (pe_callB call_len_seq (by rfl) T.free_len PySem.boot_len (pa_cons (pv 10) pa_nil)) pa_nil))) (fun _ _ => rfl)) (pa_cons (pv 11) (pa_cons (pv 12) pa_nil)))))))) pss_nil)
      (pss_one (ps_ret (pe_tup (pa_cons pe_str (pa_cons (pv 6) (pa_cons (pv 11) (pa_cons (pv 12) pa_nil)))))))))))))))))), ?_⟩
  obtain ⟨q, a, cd, pn, p, ns, n, L, h, names, pool, rfl, S, B, na, hn1, hn2, hol, hor, hpn, hpna, hne, hnl, hnam, hp, hpa, po, k⟩ := h
  refine ⟨_, rfl, cd, _, h.order, rfl, .inl B.dict, kvs_keys L h.order, by omega, fun ys t hperm _ ht => ?_⟩
  have hylen : ys.length = h.order.length := hperm.length_eq
  have hym : ∀ m, m ∈ ys ↔ m ∈ h.order := fun m => hperm.mem_iff
  have s1 := same_upd (o := .lst (ys.map .str)) ht
  have nta : t ≠ a := S.some_ ht
  have hylet : ∀ y ∈ ys, isLetters y := fun y hy => (hor y ((hym y).mp hy)).1.1.2
  refine ⟨_, rfl, pn, rfl, ⟨_, .inl (.inl (s1 _ _ hpn))⟩, fun du hdu => lc_it (walk_list (xs := names.map .str)) (fun i H' => Same H H' ∧ H' t = some (.lst (ys.map .str)) ∧ H' du = some (.lst (((names.take i).filter (fun m => decide (m ∉ h.order))).map .str)))
    ⟨s1.trans (same_upd hdu), same_upd hdu _ _ upd_same, upd_same⟩ (fun _ _ _ g => .inl (.inl (g.1 _ _ hpn))) ?_ ?_⟩
  · rintro i x H1 H2 hi ⟨g1, g2, g3⟩ ⟨rfl, hx⟩
    rw [List.getElem?_map] at hx
    cases e : names[i]? with
    | none => rw [e] at hx; cases hx
    | some m =>
      rw [e] at hx
      cases hx
      have hl1 : ((names.take i).filter (fun m => decide (m ∉ h.order))).length ≤ 20 := Nat.le_trans (List.length_filter_le _ _) (Nat.le_trans (List.length_take_le' _ _) hnl)
      refine ⟨rfl, _, rfl, _, rfl, cd, _, rfl, (B.dr S na ((Dr.refl S).same g1)).ask m, _, rfl, ?_⟩
      by_cases z : m ∈ h.order
      · rw [if_pos z]
        refine iteF ⟨g1, g2, ?_⟩
        rw [filter_more e, if_neg (by simp [z]), List.append_nil]
        exact g3
      · rw [if_neg z]
        refine iteT ⟨_, rfl, _, g3, szl (by rw [List.length_map]; omega), same_mut g1 (s1.free hdu), ?_, ?_⟩
        · rw [upd_ne (fun w => by rw [w, upd_same] at hdu; cases hdu)]
          exact g2
        · rw [filter_more e, if_pos (decide_eq_true z), List.map_append]
          exact upd_same
  · rintro H1 ⟨g1, g2, g3⟩
    rw [List.take_of_length_le (by rw [List.length_map]; exact Nat.le_refl _)] at g3
    generalize hun : names.filter (fun m => decide (m ∉ h.order)) = un at g3
    have hunm : ∀ m ∈ un, isName m ∧ m ∉ h.order := fun m hm => by
      rw [← hun] at hm
      have z := List.mem_filter.mp hm
      exact ⟨hnam m z.1, of_decide_eq_true z.2⟩
    have hunl : un.length ≤ 20 := by rw [← hun]; exact Nat.le_trans (List.length_filter_le _ _) hnl
    have hunlet : ∀ y ∈ un, isLetters y := fun y hy => (hunm y hy).1.1.2
    have hunne : h.order = [] → un ≠ [] := fun z w => by
      rw [z] at hun
      rw [← hun] at w
      cases names with
      | nil => exact hne rfl
      | cons x r => exact absurd w (by simp)
    have D1 := (Dr.refl S).same g1
    refine ⟨_, rfl, q, a, ns, 10, rfl, D1.st, by decide, by decide, fun H2 kind f2 S2 hk => ?_⟩
    have D2 := D1.trans ⟨f2, S2⟩
    have nua : du ≠ a := (S.same s1).some_ hdu
    have t2 := Dr.at_ ⟨f2, S2⟩ g2 nta
    have u2 := Dr.at_ ⟨f2, S2⟩ g3 nua
    -- one of those unused, drawn
    have pick : ∀ {H' : Hp}, H' du = some (.lst (un.map .str)) → ∀ v, v < un.length → ∃ m, (un.map V.str)[v]? = some (.str m) ∧ isName m ∧ m ∉ h.order := fun {H'} _ v hv => by
      obtain ⟨m, hm⟩ : ∃ m, un[v]? = some m := ⟨_, List.getElem?_eq_getElem hv⟩
      exact ⟨m, by rw [List.getElem?_map, hm]; rfl, hunm m (List.mem_of_getElem? hm)⟩
    dsimp only [gName]
    refine seq_if (fun b H' => Same H2 H' ∧ (b = true → un ≠ []) ∧ (b = false → h.order ≠ [])) ?_ ?_ ?_
    · intro R hR
      refine ⟨_, rfl, Nat.zero_le _, fun l1 hl1 => ?_⟩
      have s3 := same_upd (o := .lst []) hl1
      refine ⟨_, _, dpL (s3 _ _ t2), dpL (ys := []) upd_same, shapedS hylet, shapedS (fun y hy => nomatch hy), decide (ys = []), congrArg V.bl (eqvS ys []), ?_⟩
      by_cases hy0 : ys = []
      · rw [decide_eq_true hy0]
        have : h.order = [] := List.length_eq_zero_iff.mp (by rw [← hylen, hy0]; rfl)
        exact iteT (hR _ _ ⟨s3, fun _ => hunne this, fun z => Bool.noConfusion z⟩)
      · rw [decide_eq_false hy0]
        have ho : h.order ≠ [] := fun z => hy0 (List.length_eq_zero_iff.mp (by rw [hylen, z]; rfl))
        refine iteF ⟨_, rfl, rfl, _, rfl, ?_⟩
        generalize decide (V.int (kind : Nat) = V.int 0) = b0
        cases b0 with
        | false => exact iteF (hR _ _ ⟨s3, fun z => Bool.noConfusion z, fun _ => ho⟩)
        | true =>
          refine iteT ⟨_, rfl, Nat.zero_le _, fun l2 hl2 => ?_⟩
          have s4 := same_upd (o := .lst []) hl2
          refine ⟨_, _, dpL (s4 _ _ (s3 _ _ u2)), dpL (ys := []) upd_same, shapedS hunlet, shapedS (fun y hy => nomatch hy), !decide (un = []), congrArg (fun z => V.bl !z) (eqvS un []), ?_⟩
          exact hR _ _ ⟨s3.trans s4, fun z w => (by rw [decide_eq_true w] at z; exact Bool.noConfusion z), fun _ => ho⟩
    · rintro H3 ⟨s3, hb, _⟩
      have hup : 0 < un.length := List.length_pos_iff.mpr (hb rfl)
      have D3 := D2.same s3
      refine ⟨_, rfl, (n : Nat), rfl, by omega, by omega, fun dr hdr => lc_it (walk_range (lo := 0) (n := n)) (fun i H' => Dr K H H' q a ns ∧ H' du = some (.lst (un.map .str)) ∧ ∃ rs : List Str, H' dr = some (.lst (rs.map .str)) ∧ rs.length = i ∧ ∀ r ∈ rs, isReading r)
        ⟨D3.same (same_upd hdr), same_upd hdr _ _ (s3 _ _ u2), [], upd_same, rfl, (fun x hx => nomatch hx)⟩ (fun _ _ _ _ => trivial) ?_ ?_⟩
      · rintro i x H4 H5 hi ⟨D4, u4, rs, r1, r2, r3⟩ ⟨rfl, hx⟩
        have p4 := D4.at_ hp hpa
        obtain ⟨x0, hx0, _⟩ := po.oth none
        refine ⟨rfl, _, rfl, _, rfl, _, rfl, _, _, rfl, .inl (.inl (.inl (p4))), q, a, ns, pool.length, congrArg (fun z : Nat => [V.ref a, V.int z]) (List.length_map ..), D4.st, List.length_pos_of_mem hx0, (by have := po.len; omega), fun H6 v f6 S6 hv => ?_⟩
        have D6 := D4.trans ⟨f6, S6⟩
        have p6 := D6.at_ hp hpa
        obtain ⟨y, hy⟩ : ∃ y, pool[v]? = some y := ⟨_, List.getElem?_eq_getElem hv⟩
        have ndr : dr ≠ a := D3.st.some_ hdr
        have fdr : H dr = none := D3.free S hdr
        refine ⟨_, _, _, .str y, rfl, rfl, .inl (.inl p6), at_of (j := v) rfl (by rw [List.getElem?_map, hy]; rfl), _, Dr.at_ ⟨f6, S6⟩ r1 ndr, szl (by rw [List.length_map]; omega), D6.mut S fdr, ?_, rs ++ [y], ?_, ?_, ?_⟩
        · rw [upd_ne (fun w => by rw [← w, s3 _ _ u2] at hdr; cases hdr)]
          exact Dr.at_ ⟨f6, S6⟩ u4 nua
        · rw [List.map_append]; exact upd_same
        · rw [List.length_append, r2]; rfl
        · intro z hz
          rcases List.mem_append.mp hz with hz | hz
          · exact r3 z hz
          · rw [List.mem_singleton.mp hz]
            exact po.rds y (List.mem_of_getElem? hy)
      · rintro H4 ⟨D4, u4, rs, r1, r2, r3⟩
        have ndr : dr ≠ a := D3.st.some_ hdr
        refine ⟨_, rfl, _, rfl, _, rfl, _, _, rfl, .inl (.inl (.inl (u4))), q, a, ns, un.length, congrArg (fun z : Nat => [V.ref a, V.int z]) (List.length_map ..), D4.st, hup, by omega, fun H6 v f6 S6 hv => ?_⟩
        have D6 := D4.trans ⟨f6, S6⟩
        have u6 := Dr.at_ ⟨f6, S6⟩ u4 nua
        have r6 := Dr.at_ ⟨f6, S6⟩ r1 ndr
        obtain ⟨m, hm1, hm2, hm3⟩ := pick u6 v hv
        refine ⟨_, _, _, .str m, rfl, rfl, .inl (.inl u6), at_of (j := v) rfl hm1, _, rfl, dr, _, rfl, .inl ⟨.inl (.inl r6), fun l1 hl1 => ?_⟩⟩
        have s7 := same_upd (o := .tup (rs.map V.str)) hl1
        refine ⟨sz (szn 3), fun l3 hl3 => ?_⟩
        obtain ⟨s8, ht8⟩ := tupF (ds := [.str "write", .str m, .tuple (rs.map .str)]) (.cons (.str _) (.cons (.str _) (.cons (.tup upd_same (DtAll.strs _ rs)) .nil))) hl3
        exact k _ _ (.write m rs) ((D6.same s7).same s8) ht8 ⟨⟨hm2, r2, r3⟩, (fun z => nomatch z), fun _ => hm3, (fun x hx => nomatch hx)⟩
    · rintro H3 ⟨s3, _, hb⟩
      have ho := hb rfl
      have D3 := D2.same s3
      have hyp : 0 < ys.length := by rw [hylen]; exact List.length_pos_iff.mpr ho
      dsimp only [tNext]
      refine seq_if (fun b H' => Same H3 H' ∧ (b = true → un ≠ [])) ?_ ?_ ?_
      · intro R hR
        refine ⟨_, rfl, _, _, rfl, rfl, _, rfl, ?_⟩
        generalize decide (((kind : Nat) : Int) < 5) = b0
        cases b0 with
        | false => exact iteF (hR _ _ ⟨Same.refl _, fun z => Bool.noConfusion z⟩)
        | true =>
          refine iteT ⟨_, rfl, Nat.zero_le _, fun l2 hl2 => ?_⟩
          have s4 := same_upd (o := .lst []) hl2
          refine ⟨_, _, dpL (s4 _ _ (s3 _ _ u2)), dpL (ys := []) upd_same, shapedS hunlet, shapedS (fun y hy => nomatch hy), !decide (un = []), congrArg (fun z => V.bl !z) (eqvS un []), ?_⟩
          exact hR _ _ ⟨s4, fun z w => (by rw [decide_eq_true w] at z; exact Bool.noConfusion z)⟩
      · rintro H4 ⟨s4, hb4⟩
        have hup : 0 < un.length := List.length_pos_iff.mpr (hb4 rfl)
        have D4 := D3.same s4
        have u4 := s4 _ _ (s3 _ _ u2)
        refine ⟨_, rfl, _, rfl, _, rfl, _, rfl, _, rfl, _, rfl, _, _, rfl, .inl (.inl (.inl (u4))), q, a, ns, un.length, congrArg (fun z : Nat => [V.ref a, V.int z]) (List.length_map ..), D4.st, hup, by omega, fun H6 v f6 S6 hv => ?_⟩
        have D6 := D4.trans ⟨f6, S6⟩
        have u6 := Dr.at_ ⟨f6, S6⟩ u4 nua
        obtain ⟨m, hm1, hm2, hm3⟩ := pick u6 v hv
        refine ⟨_, _, _, .str m, rfl, rfl, .inl (.inl u6), at_of (j := v) rfl hm1, _, rfl, q, a, cd, p, ns, n, m, L, h.order, h.bk, pool, rfl, S6, B.dr S na D6, na, hn1, hn2, ho, hol, hor, hm2, D6.at_ hp hpa, hpa, po, fun H7 v7 parts slips D7 hv7 h1 h2 h3 => ?_⟩
        refine k _ _ (.copy m parts slips) (D6.trans D7) hv7 ⟨⟨hm2, h1, h2⟩, (fun z => nomatch z), fun _ => hm3, fun x hx => ?_⟩
        obtain ⟨y, hy, e⟩ := List.mem_map.mp (show x ∈ parts.map (·.1) from hx)
        rw [← e]
        exact ⟨h3 y hy, fun z => hm3 (by rw [← show y.1 = m from z]; exact h3 y hy)⟩
      · rintro H4 ⟨s4, _⟩
        have D4 := D3.same s4
        have t4 := s4 _ _ (s3 _ _ t2)
        refine ⟨_, rfl, _, rfl, _, rfl, _, _, rfl, .inl (.inl (.inl (t4))), q, a, ns, ys.length, congrArg (fun z : Nat => [V.ref a, V.int z]) (List.length_map ..), D4.st, hyp, by omega, fun H6 v f6 S6 hv => ?_⟩
        have D6 := D4.trans ⟨f6, S6⟩
        have t6 := Dr.at_ ⟨f6, S6⟩ t4 nta
        obtain ⟨m, hym1⟩ : ∃ m, ys[v]? = some m := ⟨_, List.getElem?_eq_getElem hv⟩
        have hm : m ∈ h.order := (hym m).mp (List.mem_of_getElem? hym1)
        have hmn := (hor m hm).1
        have hbl : (h.bk m).length = n := (hor m hm).2
        refine ⟨_, _, _, .str m, rfl, rfl, .inl (.inl t6), at_of (j := v) rfl (by rw [List.getElem?_map, hym1]; rfl), ?_⟩
        refine ⟨_, rfl, t, rfl, ⟨_, .inl (.inl t6)⟩, fun dt hdt => lc_it (walk_list (xs := ys.map .str)) (fun i H' => Same H6 H' ∧ H' dt = some (.lst (((ys.take i).filter (fun x => decide (x ≠ m))).map .str)))
          ⟨same_upd hdt, upd_same⟩ (fun _ _ _ g => .inl (.inl (g.1 _ _ t6))) ?_ ?_⟩
        · rintro i x H7 H8 hi ⟨s7, o7⟩ ⟨rfl, hx⟩
          rw [List.getElem?_map] at hx
          cases e : ys[i]? with
          | none => rw [e] at hx; cases hx
          | some y =>
            rw [e] at hx
            cases hx
            have hl1 : ((ys.take i).filter (fun x => decide (x ≠ m))).length ≤ ys.length := Nat.le_trans (List.length_filter_le _ _) (List.length_take_le' _ _)
            refine ⟨rfl, _, rfl, _, rfl, rfl, _, rfl, ?_⟩
            by_cases z : y = m
            · rw [decide_eq_true (congrArg V.str z)]
              refine iteF ⟨s7, ?_⟩
              rw [filter_more e, if_neg (by simp [z]), List.append_nil]
              exact o7
            · rw [decide_eq_false (fun w => z (V.str.inj w))]
              refine iteT ⟨_, rfl, _, o7, szl (by rw [List.length_map]; omega), same_mut s7 hdt, ?_⟩
              rw [filter_more e, if_pos (decide_eq_true z), List.map_append]
              exact upd_same
        · rintro H7 ⟨s7, o7⟩
          rw [List.take_of_length_le (by rw [List.length_map]; exact Nat.le_refl _)] at o7
          generalize hot : ys.filter (fun x => decide (x ≠ m)) = ot at o7
          have hotm : ∀ x ∈ ot, x ∈ h.order ∧ x ≠ m := fun x hx => by
            rw [← hot] at hx
            have z := List.mem_filter.mp hx
            exact ⟨(hym x).mp z.1, of_decide_eq_true z.2⟩
          have hotl : ot.length ≤ ys.length := by rw [← hot]; exact List.length_filter_le _ _
          have D7 := D6.same s7
          have ndt : dt ≠ a := D6.st.some_ hdt
          refine ⟨_, rfl, _, rfl, q, a, ns, n, rfl, D7.st, by omega, by omega, fun H8 fi f8 S8 hfi => ?_⟩
          have D8 := D7.trans ⟨f8, S8⟩
          have o8 := Dr.at_ ⟨f8, S8⟩ o7 ndt
          dsimp only [gName]
          refine seq_if (fun b H' => H' = H8) ?_ ?_ ?_
          · intro R hR
            exact ⟨_, rfl, _, _, rfl, rfl, _, rfl, hR _ _ rfl⟩
          · rintro H9 rfl
            have B9 := B.dr S na D8
            obtain ⟨c, hc⟩ : ∃ c, (h.bk m)[fi]? = some c := ⟨_, List.getElem?_eq_getElem (by omega)⟩
            obtain ⟨vs, cv, b1, b2, b3⟩ := B9.cell hm hc
            obtain ⟨ac, xs, rfl, hac, hxs⟩ := Dt.tup_ b3
            cases hxs with
            | cons e1 hxs =>
              cases rv_of e1
              refine ⟨_, rfl, _, rfl, _, rfl, _, rfl, _, rfl, _, rfl, cd, _, rfl, B9.get hm, _, rfl, _, _, _, _, rfl, rfl, .inl (.inl (b1)), at_of rfl (b2), _, _, _, _, rfl, rfl, .inl (.inl (hac)), at_of (j := 0) rfl rfl, q, a, p, ns, pool, c.rd, rfl, D8.st, D8.at_ hp hpa, hpa, Nat.le_trans po.len (by decide), po.oth _, fun H10 s D10 hs1 hs2 => ?_⟩
              refine ⟨sz (szn 4), fun l3 hl3 => ?_⟩
              obtain ⟨s11, ht11⟩ := tupF (ds := [.str "mend", .str m, .int (fi : Nat), .str s]) (.cons (.str _) (.cons (.str _) (.cons (.int _) (.cons (.str _) .nil)))) hl3
              refine k _ _ (.mend m fi s) ((D8.trans D10).same s11) ht11 ⟨⟨hmn, hfi, po.rds s hs1, fun c' hc' => ?_⟩, fun _ => hm, (fun z => nomatch z), (fun x hx => nomatch hx)⟩
              rw [hc] at hc'
              rw [← Option.some.inj hc']
              exact hs2
          · rintro H9 rfl
            dsimp only [tNext]
            refine ⟨_, rfl, _, _, rfl, rfl, _, rfl, _, rfl, _, rfl, _, _, rfl, rfl, q, a, ns, n - fi, congrArg (fun z : Int => [V.ref a, V.int z]) (by omega), D8.st, by omega, by omega, fun H10 w f10 S10 hw => ⟨_, _, rfl, rfl, ?_⟩⟩
            have D10 := D8.trans ⟨f10, S10⟩
            have o10 := Dr.at_ ⟨f10, S10⟩ o8 ndt
            dsimp only [gName]
            refine seq_if (fun b H' => Same H10 H' ∧ (b = true → ot ≠ [])) ?_ ?_ ?_
            · intro R hR
              refine ⟨_, rfl, _, _, rfl, rfl, _, rfl, ?_⟩
              generalize decide (((kind : Nat) : Int) < 9) = b0
              cases b0 with
              | false => exact iteF (hR _ _ ⟨Same.refl _, fun z => Bool.noConfusion z⟩)
              | true =>
                refine iteT ⟨_, rfl, Nat.zero_le _, fun l2 hl2 => ?_⟩
                have s11 := same_upd (o := .lst []) hl2
                refine ⟨_, _, dpL (s11 _ _ o10), dpL (ys := []) upd_same, shapedS (fun y hy => (hor y (hotm y hy).1).1.1.2), shapedS (fun y hy => nomatch hy), !decide (ot = []), congrArg (fun z => V.bl !z) (eqvS ot []), ?_⟩
                exact hR _ _ ⟨s11, fun z w => (by rw [decide_eq_true w] at z; exact Bool.noConfusion z)⟩
            · rintro H11 ⟨s11, hb11⟩
              have hop : 0 < ot.length := List.length_pos_iff.mpr (hb11 rfl)
              have D11 := D10.same s11
              have o11 := s11 _ _ o10
              refine ⟨_, rfl, _, rfl, _, rfl, _, rfl, _, _, rfl, .inl (.inl (.inl (o11))), q, a, ns, ot.length, congrArg (fun z : Nat => [V.ref a, V.int z]) (List.length_map ..), D11.st, hop, by omega, fun H12 x f12 S12 hx => ?_⟩
              have D12 := D11.trans ⟨f12, S12⟩
              have o12 := Dr.at_ ⟨f12, S12⟩ o11 ndt
              obtain ⟨md, hmd⟩ : ∃ md, ot[x]? = some md := ⟨_, List.getElem?_eq_getElem hx⟩
              have hmd2 := hotm md (List.mem_of_getElem? hmd)
              refine ⟨_, _, _, .str md, rfl, rfl, .inl (.inl o12), at_of (j := x) rfl (by rw [List.getElem?_map, hmd]; rfl), _, rfl, _, rfl, sz (szn 5), fun l3 hl3 => ?_⟩
              obtain ⟨s13, ht13⟩ := tupF (ds := [.str "match", .str m, .str md, .int (fi : Nat), .int (fi + 1 + w : Nat)]) (.cons (.str _) (.cons (.str _) (.cons (.str _) (.cons (.int _) (.cons (.int _) .nil))))) hl3
              exact k _ _ (.mtch m md fi (fi + 1 + w)) (D12.same s13) ht13 ⟨⟨hmn, (hor md hmd2.1).1, by omega, by omega⟩, fun _ => hm, (fun z => nomatch z), fun y hy => (by rw [List.mem_singleton.mp (show y ∈ [md] from hy)]; exact hmd2)⟩
            · rintro H11 ⟨s11, _⟩
              dsimp only [tNext]
              have D11 := D10.same s11
              refine ⟨_, rfl, _, rfl, _, rfl, sz (szn 4), fun l3 hl3 => ?_⟩
              obtain ⟨s13, ht13⟩ := tupF (ds := [.str "lose", .str m, .int (fi : Nat), .int (fi + 1 + w : Nat)]) (.cons (.str _) (.cons (.str _) (.cons (.int _) (.cons (.int _) .nil)))) hl3
              exact k _ _ (.lose m fi (fi + 1 + w)) (D11.same s13) ht13 ⟨⟨hmn, by omega, by omega⟩, fun _ => hm, (fun z => nomatch z), (fun x hx => nomatch hx)⟩
end
end K69

set_option maxRecDepth 100000
set_option maxHeartbeats 4000000
/-! The law's own books: how a cell is handed on, how a copy and each deed change them. -/
namespace K69
open PySem PySem.Spec PyProof.Rows L2
open C8 (Cal Mak Met pe_c pe_mk pe_mt pe_mt0 pe_gc)

/-- a new book -/
theorem BooksAt.add {R : Hp → V → Cell → Prop} (hR : ∀ H H' v c, Kp H H' → R H v c → R H' v c) {H : Hp} {cd : Addr} {L : Str → Addr} {order : List Str} {bk : Str → List Cell} (b : BooksAt R H cd L order bk) {nm : Str} {D : Addr} {us : List V} {cs : List Cell} (hn : nm ∉ order)
    (hD : H D = some (.lst us)) (hP : Pw (R H) us cs) (nD : ∀ m ∈ order, L m ≠ D) :
    BooksAt R (upd H cd (.dK (kvs (order ++ [nm]) (fun x => if x = nm then D else L x)))) cd (fun x => if x = nm then D else L x) (order ++ [nm]) (fun m => if m = nm then cs else bk m) := by
  have k : Kp H (upd H cd (.dK (kvs (order ++ [nm]) (fun x => if x = nm then D else L x)))) := kp_upd b.dict rfl
  have nc : ∀ {x : Addr} {ws : List V}, H x = some (.lst ws) → x ≠ cd := fun h z => by rw [z, b.dict] at h; cases h
  have hin : ∀ m, m ∈ order ++ [nm] → m ≠ nm → m ∈ order := fun m hm z => (List.mem_append.mp hm).elim id fun q => absurd (List.mem_singleton.mp q) z
  refine ⟨upd_same, fun m hm => ?_, fun m hm m' hm' e => ?_⟩
  · show ∃ vs, upd _ _ _ (if m = nm then D else L m) = some (.lst vs) ∧ Pw (R _) vs (if m = nm then _ else _)
    by_cases z : m = nm
    · rw [if_pos z, if_pos z]
      exact ⟨us, (upd_ne (nc hD)).trans hD, hP.imp fun x y => hR _ _ x y k⟩
    · obtain ⟨ws, e1, e2⟩ := b.lists m (hin m hm z)
      rw [if_neg z, if_neg z]
      exact ⟨ws, (upd_ne (nc e1)).trans e1, e2.imp fun x y => hR _ _ x y k⟩
  · have e' : (if m = nm then D else L m) = (if m' = nm then D else L m') := e
    by_cases z : m = nm
    · by_cases z' : m' = nm
      · rw [z, z']
      · rw [if_pos z, if_neg z'] at e'
        exact absurd e'.symm (nD m' (hin m' hm' z'))
    · by_cases z' : m' = nm
      · rw [if_neg z, if_pos z'] at e'
        exact absurd e' (nD m (hin m hm z))
      · rw [if_neg z, if_neg z'] at e'
        exact b.inj m (hin m hm z) m' (hin m' hm' z') e'
/-- a cell of a book written anew -/
theorem BooksAt.put {R : Hp → V → Cell → Prop} (hR : ∀ H H' v c, Kp H H' → R H v c → R H' v c) {H : Hp} {cd : Addr} {L : Str → Addr} {order : List Str} {bk : Str → List Cell} (b : BooksAt R H cd L order bk) {nm : Str} {vs : List V} {v : V} {c : Cell} (hm : nm ∈ order)
    (hv : H (L nm) = some (.lst vs)) (hc : R H v c) (i : Nat) :
    BooksAt R (upd H (L nm) (.lst (vs.set i v))) cd L order (fun m => if m = nm then (bk nm).set i c else bk m) := by
  have k : Kp H (upd H (L nm) (.lst (vs.set i v))) := kp_upd hv rfl
  obtain ⟨ws, e1, e2⟩ := b.lists nm hm
  rw [hv] at e1
  cases e1
  refine ⟨(upd_ne (fun z => by rw [← z, b.dict] at hv; cases hv)).trans b.dict, fun m hm' => ?_, b.inj⟩
  show ∃ vs, upd _ _ _ (L m) = some (.lst vs) ∧ Pw (R _) vs (if m = nm then _ else _)
  by_cases z : m = nm
  · rw [if_pos z, z]
    exact ⟨_, upd_same, (e2.set i hc).imp fun x y => hR _ _ x y k⟩
  · obtain ⟨ws, e1, e3⟩ := b.lists m hm'
    rw [if_neg z]
    exact ⟨ws, (upd_ne (fun w => z (b.inj m hm' nm hm w))).trans e1, e3.imp fun x y => hR _ _ x y k⟩
theorem BooksAt.congr {R : Hp → V → Cell → Prop} {H : Hp} {cd : Addr} {L : Str → Addr} {order : List Str} {bk bk' : Str → List Cell} (b : BooksAt R H cd L order bk) (e : ∀ m ∈ order, bk' m = bk m) : BooksAt R H cd L order bk' :=
  ⟨b.dict, fun m hm => by rw [e m hm]; exact b.lists m hm, b.inj⟩
theorem mapIdx_step {α : Type} {g g' : Nat → α → α} {cs : List α} {j : Nat} {c : α} (h : ∀ i x, i ≠ j → g' i x = g i x) (hc : cs[j]? = some c) : cs.mapIdx g' = (cs.mapIdx g).set j (g' j c) := by
  apply List.ext_getElem?
  intro i
  rw [List.getElem?_mapIdx, List.getElem?_set, List.getElem?_mapIdx, List.length_mapIdx]
  by_cases z : j = i
  · subst z
    rw [if_pos rfl, if_pos (List.getElem?_eq_some_iff.mp hc).1, hc]
    rfl
  · rw [if_neg z]
    cases cs[i]? with
    | none => rfl
    | some x => exact congrArg some (h i x (fun w => z w.symm))
theorem mapIdx_keep {α : Type} {g g' : Nat → α → α} {cs : List α} {j : Nat} {c : α} (h : ∀ i x, i ≠ j → g' i x = g i x) (hc : cs[j]? = some c) (he : g' j c = g j c) : cs.mapIdx g' = cs.mapIdx g := by
  apply List.ext_getElem?
  intro i
  rw [List.getElem?_mapIdx, List.getElem?_mapIdx]
  by_cases z : i = j
  · subst z
    rw [hc]
    exact congrArg some he
  · cases cs[i]? with
    | none => rfl
    | some x => exact congrArg some (h i x z)
theorem mapIdx_id {α : Type} {g : Nat → α → α} {cs : List α} (h : ∀ i x, g i x = x) : cs.mapIdx g = cs := by
  apply List.ext_getElem?
  intro i
  rw [List.getElem?_mapIdx]
  cases cs[i]? with
  | none => rfl
  | some x => exact congrArg some (h i x)

def spLHanded : Sp := fun vs H Q _ => ∃ (nm : Str) (v : V) (c : Cell), vs = [.str nm, v] ∧ Dt H v (cellD c) ∧ c.came.length ≤ 1000 ∧ ∀ H' u, Same H H' → Dt H' u (cellD (handed nm c)) → Q u H'
def spLCopied : Sp := fun vs H Q _ => ∃ (cd : Addr) (L : Str → Addr) (n : Nat) (h : Hs) (v : V) (nm : Str) (parts : List (Str × Nat × Nat)) (slips : List (Nat × Str)), vs = [.ref cd, .int (h.cnt : Nat), v] ∧ BooksAt DtR H cd L h.order h.bk ∧ Wf n h ∧ Ok n h (.copy nm parts slips) ∧ Dt H v (deedD (.copy nm parts slips)) ∧ n ≤ 40 ∧ h.cnt ≤ 900 ∧
  ∀ H' L' u, Fr (fpB cd L h.order) H H' → BooksAt DtR H' cd L' (app h (.copy nm parts slips)).order (app h (.copy nm parts slips)).bk → (∀ m ∈ (app h (.copy nm parts slips)).order, L' m ∈ h.order.map L ∨ H (L' m) = none) → Q u H'
def spLWalk : Sp := fun vs H Q _ => ∃ (cd : Addr) (L : Str → Addr) (n : Nat) (h : Hs) (v : V) (d : Deed), vs = [.ref cd, .int (h.cnt : Nat), v] ∧ BooksAt DtR H cd L h.order h.bk ∧ Wf n h ∧ Ok n h d ∧ Dt H v (deedD d) ∧ n ≤ 40 ∧ h.cnt ≤ 900 ∧
  ∀ H' L' u, Fr (fpB cd L h.order) H H' → BooksAt DtR H' cd L' (app h d).order (app h d).bk → (∀ m ∈ (app h d).order, L' m ∈ h.order.map L ∨ H (L' m) = none) → Q u H'
theorem BooksAt.dtS {H H' : Hp} {cd : Addr} {L : Str → Addr} {order : List Str} {bk : Str → List Cell} (b : BooksAt DtR H cd L order bk) (s : Same H H') : BooksAt DtR H' cd L order bk := b.keep dtR_kp s.kp fun x _ o e => s x o e
theorem slipsOk_lt {n : Nat} {cs : List Cell} : ∀ {ss : List (Nat × Str)} {b : Nat}, slipsOk n cs b ss → ∀ s ∈ ss, s.1 < n
  | [], _, _, _, h => nomatch h
  | s :: r, b, ⟨_, h2, _, _, h5⟩, x, hx => (List.mem_cons.mp hx).elim (fun e => by rw [e]; exact h2) fun q => slipsOk_lt h5 x q
theorem copyBase_app2 (bk : Str → List Cell) (nm : Str) (ps qs : List (Str × Nat × Nat)) : copyBase bk nm (ps ++ qs) = copyBase bk nm ps ++ copyBase bk nm qs := by
  unfold copyBase
  rw [List.flatMap_append]
theorem partsOk_in {n : Nat} : ∀ {ps : List (Str × Nat × Nat)} {b : Nat}, partsOk n b ps → ∀ p ∈ ps, p.2.1 < p.2.2 ∧ p.2.2 ≤ n
  | [], _, _, _, h => nomatch h
  | q :: r, b, ⟨_, h1, h2, h3, h4⟩, p, hp => (List.mem_cons.mp hp).elim (fun e => by rw [e]; exact ⟨by omega, h3⟩) fun z => partsOk_in h4 p z
section
variable {P : Program} {w : World} {K : PySem.W.Frag} {mg : Str → Option Value} {base : Heap}
theorem sc_law_handed : FnScope ["_law_name", "_law_cell"] ["_law_name", "_law_cell"] (defScope sD_law_handed) := ⟨rfl, rfl, rfl, by decide +kernel, rfl, by decide +kernel, by decide +kernel⟩
theorem c_law_handed (T : Txt K mg) : Cal P w K mg base 1 "_law_handed" (spLHanded) [] := by
  refine calD T.F_law_handed T.glo_law_handed sc_law_handed (ps := ["_law_name", "_law_cell"]) (k := 0) (fun _ _ _ _ _ _ us hl => match us, hl with | [_, _], _ => rfl) (fun vs H Q E h => ?_) (fun cdv A outer s H vs Q E hr h => ?_)
  · obtain ⟨_, _, _, rfl, _⟩ := h
    rfl
  refine ⟨_, (pss_cons (ps_if (pt_cmp (pc_isN (pe_ix ix_tup (pv 1) pe_int (fun _ _ => rfl)))) (pss_one (ps_ret (pe_tup (pa_cons pe_non (pa_cons (pe_tup (pa_cons pe_non pa_nil)) (pa_cons pe_non (pa_cons (pe_tup pa_nil) pa_nil))))))) pss_nil)
      (pss_one (ps_ret (pe_tup (pa_cons (pe_ix ix_tup (pv 1) pe_int (fun _ _ => rfl)) (pa_cons (pe_tup (pa_cons (pe_ix ix_tup (pv 1) pe_int (fun _ _ => rfl)) pa_nil)) (pa_cons (pe_ix ix_tup (pv 1) pe_int (fun _ _ => rfl)) (pa_cons (pe_op op_catA (pe_tup (pa_cons (pv 0) pa_nil)) (pe_ix ix_tup (pv 1) pe_int (fun _ _ => rfl))) pa_nil)))))))), ?_⟩
  obtain ⟨nm, v, c, rfl, hv, hl, k⟩ := h
  obtain ⟨a, xs, rfl, ha, hs⟩ := Dt.tup_ hv
  cases hs with
  | cons e1 hs => cases hs with
    | cons e2 hs => cases hs with
      | cons e3 hs => cases hs with
        | cons e4 hs =>
          cases hs
          obtain ⟨r, st, src, came⟩ := c
          cases rv_of e1
          refine ⟨_, rfl, _, _, _, _, rfl, rfl, .inl (.inl (ha)), at_of (j := 0) rfl rfl, _, rfl, ?_⟩
          cases r with
          | none =>
            refine iteT ⟨sz (szn 1), fun p1 hp1 => ?_⟩
            obtain ⟨s1, ht⟩ := tupF (ds := [.none]) (.cons .non .nil) hp1
            refine ⟨sz (szn 0), fun p2 hp2 => ?_⟩
            obtain ⟨s2, hu⟩ := tupF (ds := []) .nil hp2
            refine ⟨sz (szn 4), fun p3 hp3 => ?_⟩
            obtain ⟨s3, hw⟩ := tupF (ds := [.none, .tuple [.none], .none, .tuple []]) (.cons .non (.cons (ht.same s2) (.cons .non (.cons hu .nil)))) hp3
            exact k _ _ ((s1.trans s2).trans s3) hw
          | some r =>
            refine iteF ⟨_, rfl, _, _, _, _, rfl, rfl, .inl (.inl (ha)), at_of (j := 0) rfl rfl, _, rfl, _, _, _, _, rfl, rfl, .inl (.inl (ha)), at_of (j := 0) rfl rfl, sz (szn 1), fun p1 hp1 => ?_⟩
            obtain ⟨s1, ht⟩ := tupF (ds := [.str r]) (.cons (.str _) .nil) hp1
            refine ⟨_, rfl, _, _, _, _, rfl, rfl, .inl (.inl (s1 _ _ ha)), at_of (j := 2) rfl rfl, _, rfl, sz (szn 1), fun p2 hp2 => ?_⟩
            obtain ⟨s2, hu⟩ := tupF (ds := [.str nm]) (.cons (.str _) .nil) hp2
            refine ⟨_, rfl, _, _, _, _, rfl, rfl, .inl (.inl (s2 _ _ (s1 _ _ ha))), at_of (j := 3) rfl rfl, ?_⟩
            refine cat_tup hu (e4.same (s1.trans s2)) (by rw [List.length_map, List.length_singleton]; have hl2 : came.length ≤ 1000 := hl; show 1 + came.length ≤ 100000; omega) fun H3 z s3 hz => ?_
            refine ⟨sz (szn 4), fun p4 hp4 => ?_⟩
            obtain ⟨s4, hw⟩ := tupF (ds := [.str r, .tuple [.str r], srcD src, .tuple ((nm :: came).map .str)]) (.cons (.str _) (.cons (ht.same (s2.trans s3)) (.cons (e3.same ((s1.trans s2).trans s3)) (.cons hz .nil)))) hp4
            exact k _ _ (((s1.trans s2).trans s3).trans s4) hw
theorem sc_law_copied : FnScope ["_law_books", "_law_number_here", "_law_deed_here", "_law_cells", "_law_notes", "_law_model", "_law_first", "_law_last", "_law_place", "_law_reading_here", "_law_cell"] ["_law_books", "_law_number_here", "_law_deed_here"] (defScope sD_law_copied) := ⟨rfl, rfl, rfl, by decide +kernel, rfl, by decide +kernel, by decide +kernel⟩
theorem c_law_copied (T : Txt K mg) : Cal P w K mg base 2 "_law_copied" (spLCopied) [] := by
  have c_law_handed := c_law_handed (P := P) (w := w) (base := base) T
  refine calD T.F_law_copied T.glo_law_copied sc_law_copied (ps := ["_law_books", "_law_number_here", "_law_deed_here"]) (k := 1) (fun _ _ _ _ _ _ us hl => match us, hl with | [_, _, _], _ => rfl) (fun vs H Q E h => ?_) (fun cdv A outer s H vs Q E hr h => ?_)
  · obtain ⟨_, _, _, _, _, _, _, _, rfl, _⟩ := h
    rfl
  have hu := hu_of hr
  refine ⟨_, (pss_cons (ps_set (i := 3) sc_law_copied.nd rfl (Or.inl rfl) (pe_lst pa_nil))
      (pss_cons (ps_set (i := 4) sc_law_copied.nd rfl (Or.inl rfl) (pe_lst pa_nil))
      (pss_cons (ps_for PassesOwn.never rfl (pi_tup (pe_ix ix_tup (pv 2) pe_int (fun _ _ => rfl))) (pg_tup rfl (pgs_cons (pg_name (i := 5) sc_law_copied.nd rfl (Or.inl rfl)) (pgs_cons (pg_name (i := 6) sc_law_copied.nd rfl (Or.inl rfl)) (pgs_cons (pg_name (i := 7) sc_law_copied.nd rfl (Or.inl rfl)) pgs_nil)))) (pss_one (ps_set (i := 3) sc_law_copied.nd rfl (Or.inl rfl) (pe_op op_cat (pv 3) (pe_lc (own := [("_law_cell", 10)]) rfl sc_law_copied.nd (pi_list (pe_slice sl_list (pe_dget hu (pv 0) (pv 5) (fun _ _ => rfl)) (po_some (pv 6)) (po_some (pv 7)))) (blkOk_by (own := [("_law_cell", 10)]) (N := ["_law_books", "_law_number_here", "_law_deed_here", "_law_cells", "_law_notes", "_law_model", "_law_first", "_law_last", "_law_place", "_law_reading_here", "_law_cell"]) (sc := defScope sD_law_copied) (by decide +kernel)) (fun _ _ _ _ _ => (pg_name (i := 10) sc_law_copied.nd rfl (Or.inl rfl))) (fun _ _ _ _ _ => pts_nil) (fun _ _ _ _ _ => (pe_c c_law_handed hr (by decide) rfl (pa_cons (pe_ix (ix_tup_B K) (pv 2) pe_int (fun _ _ => rfl)) (pa_cons (pv 10) pa_nil)))))))))
      (pss_cons (ps_for PassesOwn.never rfl (pi_tup (pe_ix ix_tup (pv 2) pe_int (fun _ _ => rfl))) (pg_tup rfl (pgs_cons (pg_name (i := 8) sc_law_copied.nd rfl (Or.inl rfl)) (pgs_cons (pg_name (i := 9) sc_law_copied.nd rfl (Or.inl rfl)) pgs_nil))) (pss_cons (ps_expr (pe_bm PySem.F.plainAttrs_list PySem.F.slot_list_append PySem.F.type_list_append mt_append (pv 4) (pa_cons (pe_tup (pa_cons (pv 1) (pa_cons (pe_ix ix_tup (pv 2) pe_int (fun _ _ => rfl)) (pa_cons (pv 8) (pa_cons (pe_ix ix_tup (pe_ix ix_list (pv 3) (pv 8) (fun _ _ => rfl)) pe_int (fun _ _ => rfl)) (pa_cons (pv 9) pa_nil)))))) pa_nil)))
      (pss_one (ps_asg (pe_tup (pa_cons (pv 9) (pa_cons (pe_tup (pa_cons (pv 9) pa_nil)) (pa_cons (pe_tup (pa_cons (pe_ix ix_tup (pv 2) pe_int (fun _ _ => rfl)) (pa_cons (pv 1) pa_nil))) (pa_cons (pe_tup (pa_cons (pe_ix ix_tup (pv 2) pe_int (fun _ _ => rfl)) pa_nil)) pa_nil))))) (pg_sub (pv 3) (pv 8) set_list)))))
      (pss_cons (ps_dput hu (pv 0) (pe_ix ix_tup (pv 2) pe_int (fun _ _ => rfl)) (pv 3) rfl)
      (pss_one (ps_ret (pv 4)))))))), ?_⟩
  obtain ⟨cd, L, n, h, v, nm, parts, slips, rfl, B, W, ok, hv, hn, hcnt, k⟩ := h
  obtain ⟨ad, xs, rfl, had, hxs⟩ := Dt.tup_ hv
  cases hxs with
  | cons e1 hxs => cases hxs with
    | cons e2 hxs => cases hxs with
      | cons e3 hxs => cases hxs with
        | cons e4 hxs =>
          cases hxs
          cases str_of e1
          cases str_of e2
          obtain ⟨pa, ps, rfl, hpa, hps⟩ := e3.tup_
          obtain ⟨sa, ss, rfl, hsa, hss⟩ := e4.tup_
          have hnew : nm ∉ h.order := ok.new rfl
          have hcl : (copyBase h.bk nm parts).length = n := (copyBase_len nm parts 0 ok.fits.2.1 fun m hm => W.long m (ok.mods m hm).1).trans (Nat.sub_zero n)
          have hcle : ∀ i, (copyBase h.bk nm (parts.take i)).length ≤ n := fun i => by
            have e := copyBase_app2 h.bk nm (parts.take i) (parts.drop i)
            rw [List.take_append_drop] at e
            rw [e, List.length_append] at hcl
            omega
          refine ⟨Nat.zero_le _, fun D0 hD0 => ⟨Nat.zero_le _, fun t ht => ?_⟩⟩
          have s0 := same_upd (o := .lst []) hD0
          have s2 : Same H _ := s0.trans (same_upd (o := .lst []) ht)
          have ft : H t = none := s0.free ht
          have tD0 : D0 ≠ t := fun z => by rw [← z, upd_same] at ht; cases ht
          refine ⟨_, rfl, _, _, _, _, rfl, rfl, .inl (.inl (s2 _ _ had)), at_of (j := 2) rfl rfl, pa, rfl, ⟨_, .inl (.inl (s2 _ _ hpa))⟩, for_it (walk_tup (xs := ps)) (fun i σ H' => Same H H' ∧ ∃ D us v5 v6 v7, σ = [some (.ref cd), some (.int (h.cnt : Nat)), some (.ref ad), some (.ref D), some (.ref t), v5, v6, v7, none, none, none] ∧
              H D = none ∧ H' D = some (.lst us) ∧ Pw (DtR H') us (copyBase h.bk nm (parts.take i)) ∧ H' t = some (.lst []) ∧ D ≠ t)
            ⟨s2, D0, [], none, none, none, rfl, hD0, (upd_ne tD0).trans upd_same, .nil, upd_same, tD0⟩ (fun i σ H' _ p => .inl (.inl (p.1 _ _ hpa))) ?_ ?_⟩
          · rintro i x σ H3 H4 hi ⟨s3, D, us, v5, v6, v7, rfl, fD, g1, g2, g3, g4⟩ ⟨rfl, hxi⟩
            obtain ⟨d, hd1, hD1⟩ := hps.get' hxi
            rw [List.getElem?_map] at hd1
            cases q : parts[i]? with
            | none => rw [q] at hd1; cases hd1
            | some p =>
              rw [q] at hd1
              cases hd1
              have hmm := ok.mods p.1 (List.mem_map_of_mem (List.mem_of_getElem? q))
              have hpp := partsOk_in ok.fits.2.1 p (List.mem_of_getElem? q)
              have hmore : copyBase h.bk nm (parts.take (i + 1)) = copyBase h.bk nm (parts.take i) ++ (stretch h.bk p).map (handed nm) := by rw [take_more q, copyBase_app]
              obtain ⟨m, f, l⟩ := p
              simp only at hpp hmm
              obtain ⟨ta, txs, rfl, hta, hts⟩ := (hD1.same s3).tup_
              cases hts with
              | cons e1 hts => cases hts with
                | cons e2 hts => cases hts with
                  | cons e3 hts =>
                    cases hts
                    cases str_of e1
                    cases int_of e2
                    cases int_of e3
                    refine ⟨ta, _, rfl, .inl (.inl hta), rfl, _, _, rfl, _, _, rfl, _, _, rfl, rfl, ?_⟩
                    have B3 := B.dtS s3
                    obtain ⟨vs, b1, b2⟩ := B3.lists m hmm.1
                    have hvl : vs.length = n := b2.len.trans (W.long m hmm.1)
                    refine ⟨_, rfl, _, rfl, _, rfl, cd, _, rfl, B3.get hmm.1, _, rfl, _, rfl, _, rfl, _, rfl, L m, vs, rfl, .inl (.inl b1), fun p1 hp1 => ?_⟩
                    rw [cut_in vs f l (by omega) (by omega)]
                    have s4 := same_upd (o := .lst ((vs.drop f).take (l - f))) hp1
                    refine ⟨p1, rfl, ⟨_, .inl (.inl upd_same)⟩, fun D2 hD2 => lc_it (walk_list (xs := (vs.drop f).take (l - f))) (fun j H' => Same (upd _ p1 (.lst ((vs.drop f).take (l - f)))) H' ∧ ∃ ws, H' D2 = some (.lst ws) ∧ Pw (DtR H') ws (((stretch h.bk (m, f, l)).take j).map (handed nm)))
                      ⟨same_upd hD2, [], upd_same, .nil⟩ (fun _ _ _ g => .inl (.inl (g.1 _ _ upd_same))) ?_ ?_⟩
                    · rintro j x H5 H6 hj ⟨s5, ws, w1, w2⟩ ⟨rfl, hx⟩
                      obtain ⟨c, hc, hcD⟩ := ((b2.drop f).take (l - f)).get' hx
                      have hc2 : (stretch h.bk (m, f, l))[j]? = some c := hc
                      have hcin : c ∈ h.bk m := List.mem_of_mem_drop (List.mem_of_mem_take (List.mem_of_getElem? hc))
                      have s35 := s4.trans s5
                      have hwl : ws.length ≤ n := by
                        rw [w2.len, List.length_map]
                        exact Nat.le_trans (List.length_take_le' _ _) (by have : (stretch h.bk (m, f, l)).length = l - f := stretch_len (W.long m hmm.1) (Nat.le_of_lt hpp.1) hpp.2; omega)
                      refine ⟨rfl, _, rfl, _, _, _, _, rfl, rfl, .inl (.inl (s35 _ _ (s3 _ _ had))), at_of (j := 1) rfl rfl, _, rfl, nm, x, c, rfl, hcD.same s35, (by have := (W.sizes m c hcin).2; omega), fun H7 u s7 hu => ?_⟩
                      refine ⟨ws, s7 _ _ w1, szl (by omega), same_mut (s5.trans s7) hD2, ws ++ [u], upd_same, ?_⟩
                      have k8 := s7.kp.trans (kp_upd (o := .lst (ws ++ [u])) (s7 _ _ w1) rfl)
                      rw [take_more hc2, List.map_append]
                      exact (w2.imp fun x y => Dt.kp k8 _ _).snoc (Dt.kp (kp_upd (s7 _ _ w1) rfl) _ _ hu)
                    · rintro H5 ⟨s5, ws, w1, w2⟩
                      rw [List.take_of_length_le (by rw [List.length_take, List.length_drop, hvl]; rw [stretch_len (W.long m hmm.1) (Nat.le_of_lt hpp.1) hpp.2]; show l - f ≤ _; omega)] at w2
                      have s35 := s4.trans s5
                      have hle : us.length + ws.length ≤ n := by
                        have e := hcle (i + 1)
                        rw [hmore, List.length_append, ← w2.len, ← g2.len] at e
                        exact e
                      refine ⟨D, D2, us, ws, rfl, rfl, s35 _ _ g1, w1, sz (by omega), fun p3 hp3 => ?_⟩
                      have s6 := s35.trans (same_upd (o := .lst (us ++ ws)) hp3)
                      refine ⟨s3.trans s6, p3, us ++ ws, _, _, _, rfl, s3.free (s35.free hp3), upd_same, ?_, s6 _ _ g3, fun z => ?_⟩
                      · rw [hmore]
                        exact (g2.imp fun x y => Dt.same s6).app (w2.imp fun x y => Dt.same (same_upd hp3))
                      · rw [z, s35 _ _ g3] at hp3
                        cases hp3
          · rintro σ H3 ⟨s3, D, us, v5, v6, v7, rfl, fD, g1, g2, g3, g4⟩
            rw [List.take_of_length_le (by rw [hps.len, List.length_map]; exact Nat.le_refl _)] at g2
            refine ⟨_, rfl, _, _, _, _, rfl, rfl, .inl (.inl (s3 _ _ had)), at_of (j := 3) rfl rfl, sa, rfl, ⟨_, .inl (.inl (s3 _ _ hsa))⟩, for_it (walk_tup (xs := ss)) (fun i σ H' => Same H H' ∧ ∃ us ts v8 v9, σ = [some (.ref cd), some (.int (h.cnt : Nat)), some (.ref ad), some (.ref D), some (.ref t), v5, v6, v7, v8, v9, none] ∧
                H' D = some (.lst us) ∧ Pw (DtR H') us (slipsRun nm h.cnt (copyBase h.bk nm parts, []) (slips.take i)).1 ∧ H' t = some (.lst ts) ∧ ts.length ≤ i)
              ⟨s3, us, [], none, none, rfl, g1, g2, g3, Nat.zero_le _⟩ (fun i σ H' _ p => .inl (.inl (p.1 _ _ hsa))) ?_ ?_⟩
            · rintro i x σ H4 H5 hi ⟨s4, us4, ts, v8, v9, rfl, d1, d2, d3, d4⟩ ⟨rfl, hxi⟩
              obtain ⟨d, hd1, hD1⟩ := hss.get' hxi
              rw [List.getElem?_map] at hd1
              cases q : slips[i]? with
              | none => rw [q] at hd1; cases hd1
              | some p =>
                rw [q] at hd1
                cases hd1
                have hsl := slipsOk_len ok.fits.2.2 (Nat.zero_le _)
                have hi2 := (List.getElem?_eq_some_iff.mp q).1
                have hlt := slipsOk_lt ok.fits.2.2 p (List.mem_of_getElem? q)
                have hmore := slipsRun_more nm h.cnt (copyBase h.bk nm parts, []) q
                have hul4 : us4.length = n := by rw [d2.len, slipsRun_len]; exact hcl
                obtain ⟨pl, rd⟩ := p
                simp only at hlt
                obtain ⟨ta, txs, rfl, hta, hts⟩ := (hD1.same s4).tup_
                cases hts with
                | cons e1 hts => cases hts with
                  | cons e2 hts =>
                    cases hts
                    cases int_of e1
                    cases str_of e2
                    obtain ⟨cv, hcv⟩ : ∃ cv, us4[pl]? = some cv := ⟨_, List.getElem?_eq_getElem (by omega)⟩
                    obtain ⟨c, _, hcD⟩ := d2.get' hcv
                    obtain ⟨ca, cxs, rfl, hca, hcs⟩ := Dt.tup_ hcD
                    cases hcs with
                    | cons f1 hcs =>
                      cases rv_of f1
                      refine ⟨ta, _, rfl, .inl (.inl hta), rfl, _, _, rfl, _, _, rfl, rfl, ?_⟩
                      refine ⟨_, rfl, .inl ⟨rfl, _, .inl (.inl d3)⟩, _, rfl, _, rfl, _, _, _, _, rfl, rfl, .inl (.inl (s4 _ _ had)), at_of (j := 1) rfl rfl, _, rfl, _, rfl, _, rfl, _, _, _, _, rfl, rfl, .inl (.inl (d1)), at_of rfl (hcv), _, _, _, _, rfl, rfl, .inl (.inl (hca)), at_of (j := 0) rfl rfl, _, rfl, sz (szn 5), fun p5 hp5 => ?_⟩
                      have s5 := same_upd (o := .tup [.int (h.cnt : Nat), .str nm, .int (pl : Nat), rv c.rd, .str rd]) hp5
                      refine ⟨t, ts, _, rfl, rfl, s5 _ _ d3, szl (by omega), ?_⟩
                      have s6 : Same H _ := same_mut (o := .lst (ts ++ [.ref p5])) (s4.trans s5) ft
                      have k6 := s5.kp.trans (kp_upd (o := .lst (ts ++ [.ref p5])) (s5 _ _ d3) rfl)
                      have D6 := (upd_ne (o := .lst (ts ++ [.ref p5])) g4).trans (s5 _ _ d1)
                      refine ⟨_, rfl, _, rfl, sz (szn 1), fun p1 hp1 => ?_⟩
                      obtain ⟨s7, h7⟩ := tupF (ds := [.str rd]) (.cons (.str _) .nil) hp1
                      refine ⟨_, rfl, _, _, _, _, rfl, rfl, .inl (.inl (s7 _ _ (s6 _ _ had))), at_of (j := 1) rfl rfl, _, rfl, sz (szn 2), fun p2 hp2 => ?_⟩
                      obtain ⟨s8, h8⟩ := tupF (ds := [.str nm, .int (h.cnt : Nat)]) (.cons (.str _) (.cons (.int _) .nil)) hp2
                      refine ⟨_, rfl, _, _, _, _, rfl, rfl, .inl (.inl (s8 _ _ (s7 _ _ (s6 _ _ had)))), at_of (j := 1) rfl rfl, sz (szn 1), fun p3 hp3 => ⟨sz (szn 4), fun p4 hp4 => ?_⟩⟩
                      obtain ⟨s9, h9⟩ := tupF (ds := [.str nm]) (.cons (.str _) .nil) hp3
                      obtain ⟨s10, h10⟩ := tupF (ds := [.str rd, .tuple [.str rd], .tuple [.str nm, .int (h.cnt : Nat)], .tuple [.str nm]]) (.cons (.str _) (.cons (h7.same (s8.trans s9)) (.cons (h8.same s9) (.cons h9 .nil)))) hp4
                      have s710 := ((s7.trans s8).trans s9).trans s10
                      refine ⟨_, rfl, _, rfl, D, us4, _, pl, rfl, rfl, s710 _ _ D6, ixN_nat (by omega), ?_⟩
                      have k11 := kp_upd (o := .lst (us4.set pl (.ref p4))) (s710 _ _ D6) rfl
                      refine ⟨same_mut (s6.trans s710) fD, us4.set pl (.ref p4), ts ++ [.ref p5], _, _, rfl, upd_same, ?_, (upd_ne g4.symm).trans (s710 _ _ upd_same), ?_⟩
                      · rw [hmore]
                        exact (d2.imp fun x y => Dt.kp ((k6.trans s710.kp).trans k11) _ _).set pl (y := risen nm h.cnt rd) (Dt.kp k11 _ _ h10)
                      · rw [List.length_append, List.length_singleton]
                        omega
            · rintro σ H4 ⟨s4, us4, ts, v8, v9, rfl, d1, d2, d3, d4⟩
              rw [List.take_of_length_le (by rw [hss.len, List.length_map]; exact Nat.le_refl _)] at d2
              have B4 := B.dtS s4
              refine ⟨_, rfl, _, rfl, _, rfl, _, _, _, _, rfl, rfl, .inl (.inl (s4 _ _ had)), at_of (j := 1) rfl rfl, cd, _, rfl, DPut.k (k := Sum.inr nm) B4.dict (szl (by rw [kvs_len]; have := W.few; omega)), ?_⟩
              rw [kvs_put D hnew]
              have nDL : ∀ m ∈ h.order, L m ≠ D := fun m hm z => by
                obtain ⟨ws, w1, _⟩ := B.lists m hm
                rw [z, fD] at w1
                cases w1
              refine ⟨_, rfl, ?_⟩
              refine k _ (fun x => if x = nm then D else L x) _ ((s4.fr _).trans (fr_upd List.mem_cons_self)) (B4.add dtR_kp hnew d1 d2 nDL) fun m hm => ?_
              have hm' : m ∈ h.order ++ [nm] := hm
              show (if m = nm then D else L m) ∈ _ ∨ H (if m = nm then D else L m) = none
              by_cases z : m = nm
              · rw [if_pos z]; exact .inr fD
              · rw [if_neg z]
                exact .inl (List.mem_map_of_mem ((List.mem_append.mp hm').elim id fun q => absurd (List.mem_singleton.mp q) z))
end
end K69

set_option maxRecDepth 100000
set_option maxHeartbeats 4000000
/-! The law walks a deed through its own books. -/
namespace K69
open PySem PySem.Spec PyProof.Rows L2
open C8 (Cal Mak Met pe_c pe_mk pe_mt pe_mt0 pe_gc)

theorem modify_set {α : Type} {l : List α} {i : Nat} {c : α} (f : α → α) (h : l[i]? = some c) : l.modify i f = l.set i (f c) := by
  apply List.ext_getElem?
  intro j
  rw [List.getElem?_modify, List.getElem?_set]
  by_cases z : i = j
  · subst z
    rw [h, if_pos rfl, if_pos (List.getElem?_eq_some_iff.mp h).1]
    simp
  · rw [if_neg z]
    cases l[j]? with
    | none => rfl
    | some x => simp [z]
theorem mtch_id (os : List Cell) (nm : Str) (f : Nat) (i : Nat) (c : Cell) : mtchAt os nm f (f + 0) i c = c := if_neg (by omega)
theorem mtch_step {os : List Cell} {nm : Str} {f i j : Nat} {c : Cell} (h : j ≠ f + i) : mtchAt os nm f (f + (i + 1)) j c = mtchAt os nm f (f + i) j c := by
  unfold mtchAt
  by_cases z : f ≤ j ∧ j < f + i
  · rw [if_pos z, if_pos (by omega)]
  · rw [if_neg z, if_neg (by omega)]
theorem mtch_cur {os : List Cell} {nm : Str} {f i : Nat} {c : Cell} : mtchAt os nm f (f + i) (f + i) c = c := if_neg (by omega)
theorem mtch_new {os : List Cell} {nm : Str} {f i : Nat} {c o : Cell} (h : os[f + i]? = some o) : mtchAt os nm f (f + (i + 1)) (f + i) c = if takes o c then matchC c nm o else c := by
  unfold mtchAt
  rw [if_pos (by omega), h]
theorem lose_step {f i j : Nat} {c : Cell} (h : j ≠ f + i) : loseAt f (f + (i + 1)) j c = loseAt f (f + i) j c := by
  unfold loseAt
  by_cases z : f ≤ j ∧ j < f + i ∧ c.rd ≠ none
  · rw [if_pos z, if_pos ⟨z.1, by omega, z.2.2⟩]
  · rw [if_neg z, if_neg (fun w => z ⟨w.1, by omega, w.2.2⟩)]
theorem lose_cur {f i : Nat} {c : Cell} : loseAt f (f + i) (f + i) c = c := if_neg (by omega)
theorem lose_new {f i : Nat} {c : Cell} : loseAt f (f + (i + 1)) (f + i) c = if c.rd ≠ none then lostC c else c := by
  unfold loseAt
  by_cases z : c.rd ≠ none
  · rw [if_pos ⟨Nat.le_add_right _ _, by omega, z⟩, if_pos z]
  · rw [if_neg (fun w => z w.2.2), if_neg z]
section
variable {P : Program} {w : World} {K : PySem.W.Frag} {mg : Str → Option Value} {base : Heap}
theorem sc_law_walk : FnScope ["_law_books", "_law_number_here", "_law_deed_here", "_law_name", "_law_old", "_law_place", "_law_other", "_law_one"] ["_law_books", "_law_number_here", "_law_deed_here"] (defScope sD_law_walk) := ⟨rfl, rfl, rfl, by decide +kernel, rfl, by decide +kernel, by decide +kernel⟩
theorem c_law_walk (T : Txt K mg) : Cal P w K mg base 3 "_law_walk" (spLWalk) [] := by
  have c_law_copied := c_law_copied (P := P) (w := w) (base := base) T
  refine calD T.F_law_walk T.glo_law_walk sc_law_walk (ps := ["_law_books", "_law_number_here", "_law_deed_here"]) (k := 2) (fun _ _ _ _ _ _ us hl => match us, hl with | [_, _, _], _ => rfl) (fun vs H Q E h => ?_) (fun cdv A outer s H vs Q E hr h => ?_)
  · obtain ⟨_, _, _, _, _, _, rfl, _⟩ := h
    rfl
  have hu := hu_of hr
  refine ⟨_, (pss_cons (ps_set (i := 3) sc_law_walk.nd rfl (Or.inr rfl) (pe_ix ix_tup (pv 2) pe_int (fun _ _ => rfl)))
      (pss_cons (ps_if (pt_cmpR op_eq (pe_ix ix_tup (pv 2) pe_int (fun _ _ => rfl)) pe_str (nomark _)) (pss_one (ps_dput hu (pv 0) (pv 3) (pe_lc (own := [("_law_one", 7)]) rfl sc_law_walk.nd (pi_tup (pe_ix ix_tup (pv 2) pe_int (fun _ _ => rfl))) (blkOk_by (own := [("_law_one", 7)]) (N := ["_law_books", "_law_number_here", "_law_deed_here", "_law_name", "_law_old", "_law_place", "_law_other", "_law_one"]) (sc := defScope sD_law_walk) (by decide +kernel)) (fun _ _ _ _ _ => (pg_name (i := 7) sc_law_walk.nd rfl (Or.inl rfl))) (fun _ _ _ _ _ => pts_nil) (fun _ _ _ _ _ => (pe_tup (pa_cons (pv 7) (pa_cons (pe_tup (pa_cons (pv 7) pa_nil)) (pa_cons (pe_tup (pa_cons (pv 3) (pa_cons (pv 1) pa_nil))) (pa_cons (pe_tup (pa_cons (pv 3) pa_nil)) pa_nil))))))) rfl)) pss_nil)
      (pss_cons (ps_if (pt_cmpR op_eq (pe_ix ix_tup (pv 2) pe_int (fun _ _ => rfl)) pe_str (nomark _)) (pss_one (ps_ret (pe_c c_law_copied hr (by decide) rfl (pa_cons (pv 0) (pa_cons (pv 1) (pa_cons (pv 2) pa_nil)))))) pss_nil)
      (pss_cons (ps_if (pt_cmpR op_eq (pe_ix ix_tup (pv 2) pe_int (fun _ _ => rfl)) pe_str (nomark _)) (pss_cons (ps_set (i := 4) sc_law_walk.nd rfl (Or.inl rfl) (pe_ix ix_list (pe_dget hu (pv 0) (pv 3) (fun _ _ => rfl)) (pe_ix ix_tup (pv 2) pe_int (fun _ _ => rfl)) (fun _ _ => rfl)))
      (pss_cons (ps_asg (pe_tup (pa_cons (pe_ix ix_tup (pv 2) pe_int (fun _ _ => rfl)) (pa_cons (pe_op op_catA (pe_ix ix_tup (pv 4) pe_int (fun _ _ => rfl)) (pe_tup (pa_cons (pe_ix ix_tup (pv 2) pe_int (fun _ _ => rfl)) pa_nil))) (pa_cons (pe_tup (pa_cons (pv 3) (pa_cons (pv 1) pa_nil))) (pa_cons (pe_tup (pa_cons (pv 3) pa_nil)) pa_nil))))) (pg_sub (pe_dget hu (pv 0) (pv 3) (fun _ _ => rfl)) (pe_ix ix_tup (pv 2) pe_int (fun _ _ => rfl)) set_list))
      (pss_one (ps_ret (pe_lst (pa_cons (pe_tup (pa_cons (pv 1) (pa_cons (pv 3) (pa_cons (pe_ix ix_tup (pv 2) pe_int (fun _ _ => rfl)) (pa_cons (pe_ix ix_tup (pv 4) pe_int (fun _ _ => rfl)) (pa_cons (pe_ix ix_tup (pv 2) pe_int (fun _ _ => rfl)) pa_nil)))))) pa_nil)))))) pss_nil)
      (pss_cons (ps_if (pt_cmpR op_eq (pe_ix ix_tup (pv 2) pe_int (fun _ _ => rfl)) pe_str (nomark _)) (pss_one (ps_for PassesOwn.never rfl (pi_range2 (by rfl) T.free_range (pa_cons (pe_ix ix_tup (pv 2) pe_int (fun _ _ => rfl)) (pa_cons (pe_ix ix_tup (pv 2) pe_int (fun _ _ => rfl)) pa_nil))) (pg_name (i := 5) sc_law_walk.nd rfl (Or.inl rfl)) (pss_cons (ps_set (i := 4) sc_law_walk.nd rfl (Or.inl rfl) (pe_ix ix_list (pe_dget hu (pv 0) (pv 3) (fun _ _ => rfl)) (pv 5) (fun _ _ => rfl)))
      (pss_cons (ps_set (i := 6) sc_law_walk.nd rfl (Or.inl rfl) (pe_ix ix_list (pe_dget hu (pv 0) (pe_ix ix_tup (pv 2) pe_int (fun _ _ => rfl)) (fun _ _ => rfl)) (pv 5) (fun _ _ => rfl)))
      (pss_one (ps_if (PW.pt (pw_and (pt_cmp (pc_notN (pe_ix ix_tup (pv 6) pe_int (fun _ _ => rfl)))) (pw_and1 (pt_cmpR op_ne (pe_ix ix_tup (pv 6) pe_int (fun _ _ => rfl)) (pe_ix ix_tup (pv 4) pe_int (fun _ _ => rfl)) (nomark _))))) (pss_one (ps_asg (pe_tup (pa_cons (pe_ix ix_tup (pv 6) pe_int (fun _ _ => rfl)) (pa_cons (pe_op op_catA (pe_ix ix_tup (pv 4) pe_int (fun _ _ => rfl)) (pe_tup (pa_cons (pe_ix ix_tup (pv 6) pe_int (fun _ _ => rfl)) pa_nil))) (pa_cons (pe_ix ix_tup (pv 6) pe_int (fun _ _ => rfl)) (pa_cons (pe_op op_catA (pe_tup (pa_cons (pv 3) pa_nil)) (pe_ix ix_tup (pv 6) pe_int (fun _ _ => rfl))) pa_nil))))) (pg_sub (pe_dget hu (pv 0) (pv 3) (fun _ _ => rfl)) (pv 5) set_list))) pss_nil)))))) pss_nil)
      (pss_cons (ps_if (pt_cmpR op_eq (pe_ix ix_tup (pv 2) pe_int (fun _ _ => rfl)) pe_str (nomark _)) (pss_one (ps_for PassesOwn.never rfl (pi_range2 (by rfl) T.free_range (pa_cons (pe_ix ix_tup (pv 2) pe_int (fun _ _ => rfl)) (pa_cons (pe_ix ix_tup (pv 2) pe_int (fun _ _ => rfl)) pa_nil))) (pg_name (i := 5) sc_law_walk.nd rfl (Or.inl rfl)) (pss_cons (ps_set (i := 4) sc_law_walk.nd rfl (Or.inl rfl) (pe_ix ix_list (pe_dget hu (pv 0) (pv 3) (fun _ _ => rfl)) (pv 5) (fun _ _ => rfl)))
      (pss_one (ps_if (pt_cmp (pc_notN (pe_ix ix_tup (pv 4) pe_int (fun _ _ => rfl)))) (pss_one (ps_asg (pe_tup (pa_cons pe_non (pa_cons (pe_op op_catA (pe_ix ix_tup (pv 4) pe_int (fun _ _ => rfl)) (pe_tup (pa_cons pe_non pa_nil))) (pa_cons pe_non (pa_cons (pe_tup pa_nil) pa_nil))))) (pg_sub (pe_dget hu (pv 0) (pv 3) (fun _ _ => rfl)) (pv 5) set_list))) pss_nil))))) pss_nil)
      (pss_one (ps_ret (pe_lst pa_nil))))))))), ?_⟩
  obtain ⟨cd, L, n, h, v, d, rfl, B, W, ok, hv, hn, hcnt, k⟩ := h
  cases d with
  | copy nm parts slips =>
    have hv2 := hv
    obtain ⟨ad, xs, rfl, had, hxs⟩ := Dt.tup_ hv2
    cases hxs with
    | cons e1 hxs => cases hxs with
      | cons e2 hxs =>
        cases str_of e1
        cases str_of e2
        refine ⟨_, rfl, _, _, _, _, rfl, rfl, .inl (.inl (had)), at_of (j := 1) rfl rfl, ?_⟩
        refine ⟨_, rfl, _, _, _, _, rfl, rfl, .inl (.inl (had)), at_of (j := 0) rfl rfl, rfl, false, congrArg V.bl (by decide +kernel), iteF ?_⟩
        refine ⟨_, rfl, _, _, _, _, rfl, rfl, .inl (.inl (had)), at_of (j := 0) rfl rfl, rfl, true, congrArg V.bl (by decide +kernel), iteT ?_⟩
        exact ⟨_, rfl, _, rfl, _, rfl, cd, L, n, h, _, nm, parts, slips, rfl, B, W, ok, hv, hn, hcnt, fun H' L' u f b q => k H' L' u f b q⟩
  | write nm row =>
    obtain ⟨ad, xs, rfl, had, hxs⟩ := Dt.tup_ hv
    cases hxs with
    | cons e1 hxs => cases hxs with
      | cons e2 hxs => cases hxs with
        | cons e3 hxs =>
          cases hxs
          cases str_of e1
          cases str_of e2
          obtain ⟨ra, rs, rfl, hra, hrs⟩ := e3.tup_
          cases strs_of hrs
          have hnew : nm ∉ h.order := ok.new rfl
          have hrow : row.length = n := ok.fits.2.1
          refine ⟨_, rfl, _, _, _, _, rfl, rfl, .inl (.inl (had)), at_of (j := 1) rfl rfl, ?_⟩
          refine ⟨_, rfl, _, _, _, _, rfl, rfl, .inl (.inl (had)), at_of (j := 0) rfl rfl, rfl, true, congrArg V.bl (by decide +kernel), iteT ?_⟩
          refine ⟨_, rfl, _, _, _, _, rfl, rfl, .inl (.inl (had)), at_of (j := 2) rfl rfl, ra, rfl, ⟨_, .inl (.inl hra)⟩, fun D hD => lc_it (walk_tup (xs := row.map .str)) (fun i H' => Same H H' ∧ ∃ us, H' D = some (.lst us) ∧ Pw (DtR H') us ((row.take i).map (risen nm h.cnt)))
            ⟨same_upd hD, [], upd_same, .nil⟩ (fun _ _ _ g => .inl (.inl (g.1 _ _ hra))) ?_ ?_⟩
          · rintro i x H1 H2 hi ⟨s1, us, u1, u2⟩ ⟨rfl, hx⟩
            rw [List.getElem?_map] at hx
            cases q : row[i]? with
            | none => rw [q] at hx; cases hx
            | some r =>
              rw [q] at hx
              cases hx
              have hul : us.length ≤ n := by rw [u2.len, List.length_map]; exact Nat.le_trans (List.length_take_le' _ _) (by omega)
              refine ⟨rfl, _, rfl, _, rfl, sz (szn 1), fun p1 hp1 => ?_⟩
              obtain ⟨s7, h7⟩ := tupF (ds := [.str r]) (.cons (.str _) .nil) hp1
              refine ⟨_, rfl, _, rfl, sz (szn 2), fun p2 hp2 => ?_⟩
              obtain ⟨s8, h8⟩ := tupF (ds := [.str nm, .int (h.cnt : Nat)]) (.cons (.str _) (.cons (.int _) .nil)) hp2
              refine ⟨_, rfl, sz (szn 1), fun p3 hp3 => ⟨sz (szn 4), fun p4 hp4 => ?_⟩⟩
              obtain ⟨s9, h9⟩ := tupF (ds := [.str nm]) (.cons (.str _) .nil) hp3
              obtain ⟨s10, h10⟩ := tupF (ds := [.str r, .tuple [.str r], .tuple [.str nm, .int (h.cnt : Nat)], .tuple [.str nm]]) (.cons (.str _) (.cons (h7.same (s8.trans s9)) (.cons (h8.same s9) (.cons h9 .nil)))) hp4
              have s710 := ((s7.trans s8).trans s9).trans s10
              refine ⟨us, s710 _ _ u1, szl (by omega), same_mut (s1.trans s710) hD, us ++ [.ref p4], upd_same, ?_⟩
              have k8 := s710.kp.trans (kp_upd (o := .lst (us ++ [.ref p4])) (s710 _ _ u1) rfl)
              rw [take_more q, List.map_append]
              exact (u2.imp fun x y => Dt.kp k8 _ _).snoc (y := risen nm h.cnt r) (Dt.kp (kp_upd (s710 _ _ u1) rfl) _ _ h10)
          · rintro H1 ⟨s1, us, u1, u2⟩
            rw [List.take_of_length_le (by rw [List.length_map]; exact Nat.le_refl _)] at u2
            have B1 := B.dtS s1
            refine ⟨_, rfl, _, rfl, cd, _, rfl, DPut.k (k := Sum.inr nm) B1.dict (szl (by rw [kvs_len]; have := W.few; omega)), ?_⟩
            rw [kvs_put D hnew]
            have nDL : ∀ m ∈ h.order, L m ≠ D := fun m hm z => by
              obtain ⟨ws, w1, _⟩ := B.lists m hm
              rw [z, hD] at w1
              cases w1
            have f2 := (s1.fr (fpB cd L h.order)).trans (fr_upd (o := .dK (kvs (h.order ++ [nm]) (fun x => if x = nm then D else L x))) List.mem_cons_self)
            have had2 := f2.kp B.ld _ _ had rfl
            refine ⟨_, rfl, _, _, _, _, rfl, rfl, .inl (.inl (had2)), at_of (j := 0) rfl rfl, rfl, false, congrArg V.bl (by decide +kernel), iteF ?_⟩
            refine ⟨_, rfl, _, _, _, _, rfl, rfl, .inl (.inl (had2)), at_of (j := 0) rfl rfl, rfl, false, congrArg V.bl (by decide +kernel), iteF ?_⟩
            refine ⟨_, rfl, _, _, _, _, rfl, rfl, .inl (.inl (had2)), at_of (j := 0) rfl rfl, rfl, false, congrArg V.bl (by decide +kernel), iteF ?_⟩
            refine ⟨_, rfl, _, _, _, _, rfl, rfl, .inl (.inl (had2)), at_of (j := 0) rfl rfl, rfl, false, congrArg V.bl (by decide +kernel), iteF ?_⟩
            refine ⟨Nat.zero_le _, fun l hl => ?_⟩
            have s3 := same_upd (o := .lst []) hl
            refine k _ (fun x => if x = nm then D else L x) _ (f2.trans (s3.fr _)) ((B1.add dtR_kp hnew u1 u2 nDL).dtS s3) fun m hm => ?_
            have hm' : m ∈ h.order ++ [nm] := hm
            show (if m = nm then D else L m) ∈ _ ∨ H (if m = nm then D else L m) = none
            by_cases z : m = nm
            · rw [if_pos z]; exact .inr hD
            · rw [if_neg z]
              exact .inl (List.mem_map_of_mem ((List.mem_append.mp hm').elim id fun q => absurd (List.mem_singleton.mp q) z))
  | mend nm pl rd =>
    obtain ⟨ad, xs, rfl, had, hxs⟩ := Dt.tup_ hv
    cases hxs with
    | cons e1 hxs => cases hxs with
      | cons e2 hxs => cases hxs with
        | cons e3 hxs => cases hxs with
          | cons e4 hxs =>
            cases hxs
            cases str_of e1
            cases str_of e2
            cases int_of e3
            cases str_of e4
            have hm : nm ∈ h.order := ok.here rfl
            have hpl : pl < n := ok.fits.2.1
            have hbl : (h.bk nm).length = n := W.long nm hm
            obtain ⟨c, hc⟩ : ∃ c, (h.bk nm)[pl]? = some c := ⟨_, List.getElem?_eq_getElem (by omega)⟩
            obtain ⟨vs, b1, b2⟩ := B.lists nm hm
            have hvl : vs.length = n := b2.len.trans hbl
            obtain ⟨cv, b3, b4⟩ := b2.get hc
            have hst := (W.sizes nm c (List.mem_of_getElem? hc)).1
            obtain ⟨ca, cxs, rfl, hca, hcs⟩ := Dt.tup_ b4
            cases hcs with
            | cons f1 hcs => cases hcs with
              | cons f2 hcs =>
                cases rv_of f1
                refine ⟨_, rfl, _, _, _, _, rfl, rfl, .inl (.inl (had)), at_of (j := 1) rfl rfl, ?_⟩
                refine ⟨_, rfl, _, _, _, _, rfl, rfl, .inl (.inl (had)), at_of (j := 0) rfl rfl, rfl, false, congrArg V.bl (by decide +kernel), iteF ?_⟩
                refine ⟨_, rfl, _, _, _, _, rfl, rfl, .inl (.inl (had)), at_of (j := 0) rfl rfl, rfl, false, congrArg V.bl (by decide +kernel), iteF ?_⟩
                refine ⟨_, rfl, _, _, _, _, rfl, rfl, .inl (.inl (had)), at_of (j := 0) rfl rfl, rfl, true, congrArg V.bl (by decide +kernel), iteT ?_⟩
                refine ⟨_, rfl, _, rfl, cd, _, rfl, B.get hm, _, rfl, _, _, _, _, rfl, rfl, .inl (.inl (had)), at_of (j := 2) rfl rfl, _, _, _, _, rfl, rfl, .inl (.inl (b1)), at_of rfl (b3), ?_⟩
                refine ⟨_, rfl, _, _, _, _, rfl, rfl, .inl (.inl (had)), at_of (j := 3) rfl rfl, _, rfl, _, _, _, _, rfl, rfl, .inl (.inl (hca)), at_of (j := 1) rfl rfl, _, rfl, _, _, _, _, rfl, rfl, .inl (.inl (had)), at_of (j := 3) rfl rfl, sz (szn 1), fun p1 hp1 => ?_⟩
                obtain ⟨s7, h7⟩ := tupF (ds := [.str rd]) (.cons (.str _) .nil) hp1
                refine cat_tup (f2.same s7) h7 (by rw [List.length_map, List.length_singleton]; omega) fun H2 z s2 hz => ?_
                have s72 := s7.trans s2
                refine ⟨_, rfl, _, rfl, sz (szn 2), fun p2 hp2 => ?_⟩
                obtain ⟨s8, h8⟩ := tupF (ds := [.str nm, .int (h.cnt : Nat)]) (.cons (.str _) (.cons (.int _) .nil)) hp2
                refine ⟨_, rfl, sz (szn 1), fun p3 hp3 => ⟨sz (szn 4), fun p4 hp4 => ?_⟩⟩
                obtain ⟨s9, h9⟩ := tupF (ds := [.str nm]) (.cons (.str _) .nil) hp3
                obtain ⟨s10, h10⟩ := tupF (ds := [.str rd, .tuple (c.st.map rdD ++ [.str rd]), .tuple [.str nm, .int (h.cnt : Nat)], .tuple [.str nm]]) (.cons (.str _) (.cons (hz.same (s8.trans s9)) (.cons (h8.same s9) (.cons h9 .nil)))) hp4
                have s710 := ((s72.trans s8).trans s9).trans s10
                have B2 := B.dtS s710
                have ec : cellD (mendC c nm h.cnt rd) = .tuple [.str rd, .tuple (c.st.map rdD ++ [.str rd]), .tuple [.str nm, .int (h.cnt : Nat)], .tuple [.str nm]] := by
                  show PyData.tuple [_, .tuple ((c.st ++ [some rd]).map rdD), _, _] = _
                  rw [List.map_append]
                  rfl
                refine ⟨_, rfl, _, rfl, cd, _, rfl, B2.get hm, _, rfl, _, _, _, _, rfl, rfl, .inl (.inl (s710 _ _ had)), at_of (j := 2) rfl rfl, L nm, vs, _, pl, rfl, rfl, s710 _ _ b1, ixN_nat (by omega), ?_⟩
                have B3 := B2.put dtR_kp (c := mendC c nm h.cnt rd) hm (s710 _ _ b1) (by show Dt _ _ (cellD _); rw [ec]; exact h10) pl
                have fr3 := (s710.fr (fpB cd L h.order)).trans (fr_upd (o := .lst (vs.set pl (.ref p4))) (List.mem_cons_of_mem _ (List.mem_map_of_mem hm)))
                have k3 := fr3.kp B.ld
                refine ⟨_, rfl, _, rfl, _, rfl, _, _, _, _, rfl, rfl, .inl (.inl (k3 _ _ had rfl)), at_of (j := 2) rfl rfl, _, rfl, _, _, _, _, rfl, rfl, .inl (.inl (k3 _ _ hca rfl)), at_of (j := 0) rfl rfl, _, rfl, _, _, _, _, rfl, rfl, .inl (.inl (k3 _ _ had rfl)), at_of (j := 3) rfl rfl, sz (szn 5), fun p5 hp5 => ⟨sz (szn 1), fun p6 hp6 => ?_⟩⟩
                have s5 := (same_upd (o := .tup [.int (h.cnt : Nat), .str nm, .int (pl : Nat), rv c.rd, .str rd]) hp5).trans (same_upd (o := .lst [.ref p5]) hp6)
                refine k _ L _ (fr3.trans (s5.fr _)) ((B3.congr fun m _ => ?_).dtS s5) fun m hm' => .inl (List.mem_map_of_mem hm')
                rw [app_bk]
                show (if m = nm then (h.bk nm).modify pl (fun c => mendC c nm h.cnt rd) else h.bk m) = _
                rw [modify_set _ hc]
  | mtch nm md f l =>
    obtain ⟨ad, xs, rfl, had, hxs⟩ := Dt.tup_ hv
    cases hxs with
    | cons e1 hxs => cases hxs with
      | cons e2 hxs => cases hxs with
        | cons e3 hxs => cases hxs with
          | cons e4 hxs => cases hxs with
            | cons e5 hxs =>
              cases hxs
              cases str_of e1
              cases str_of e2
              cases str_of e3
              cases int_of e4
              cases int_of e5
              have hm : nm ∈ h.order := ok.here rfl
              have hmd := ok.mods md List.mem_cons_self
              have hne : md ≠ nm := hmd.2
              have hfl : f < l := ok.fits.2.2.1
              have hln : l ≤ n := ok.fits.2.2.2
              have hbl : (h.bk nm).length = n := W.long nm hm
              have hbd : (h.bk md).length = n := W.long md hmd.1
              refine ⟨_, rfl, _, _, _, _, rfl, rfl, .inl (.inl (had)), at_of (j := 1) rfl rfl, ?_⟩
              refine ⟨_, rfl, _, _, _, _, rfl, rfl, .inl (.inl (had)), at_of (j := 0) rfl rfl, rfl, false, congrArg V.bl (by decide +kernel), iteF ?_⟩
              refine ⟨_, rfl, _, _, _, _, rfl, rfl, .inl (.inl (had)), at_of (j := 0) rfl rfl, rfl, false, congrArg V.bl (by decide +kernel), iteF ?_⟩
              refine ⟨_, rfl, _, _, _, _, rfl, rfl, .inl (.inl (had)), at_of (j := 0) rfl rfl, rfl, false, congrArg V.bl (by decide +kernel), iteF ?_⟩
              refine ⟨_, rfl, _, _, _, _, rfl, rfl, .inl (.inl (had)), at_of (j := 0) rfl rfl, rfl, true, congrArg V.bl (by decide +kernel), iteT ?_⟩
              refine ⟨_, rfl, _, _, _, _, rfl, rfl, .inl (.inl (had)), at_of (j := 3) rfl rfl, _, rfl, _, _, _, _, rfl, rfl, .inl (.inl (had)), at_of (j := 4) rfl rfl, (f : Nat), (l : Nat), rfl, by omega, for_it (walk_range (lo := (f : Int)) (n := ((l : Int) - (f : Nat)).toNat)) (fun i σ H' => Fr (fpB cd L h.order) H H' ∧ ∃ v4 v5 v6, σ = [some (.ref cd), some (.int (h.cnt : Nat)), some (.ref ad), some (.str nm), v4, v5, v6, none] ∧
                  BooksAt DtR H' cd L h.order (fun m => if m = nm then (h.bk nm).mapIdx (mtchAt (h.bk md) nm f (f + i)) else h.bk m))
                ⟨Fr.refl _ _, none, none, none, rfl, B.congr fun m hm' => ?_⟩ (fun _ _ _ _ _ => trivial) ?_ ?_⟩
              · by_cases z : m = nm
                · rw [if_pos z, mapIdx_id (g := mtchAt (h.bk md) nm f (f + 0)) (fun i x => mtch_id (h.bk md) nm f i x), z]
                · rw [if_neg z]
              · rintro i x σ H1 H2 hi ⟨fr1, v4, v5, v6, rfl, B1⟩ ⟨rfl, hx⟩
                obtain rfl : x = .int ((f + i : Nat) : Int) := by rw [hx]; congr 1
                have hj : f + i < n := by omega
                have had1 := fr1.kp B.ld _ _ had rfl
                obtain ⟨c, hc⟩ : ∃ c, (h.bk nm)[f + i]? = some c := ⟨_, List.getElem?_eq_getElem (by omega)⟩
                obtain ⟨o, ho⟩ : ∃ o, (h.bk md)[f + i]? = some o := ⟨_, List.getElem?_eq_getElem (by omega)⟩
                have hc1 : ((fun m => if m = nm then (h.bk nm).mapIdx (mtchAt (h.bk md) nm f (f + i)) else h.bk m) nm)[f + i]? = some c := by
                  show (if nm = nm then _ else _)[f + i]? = _
                  rw [if_pos rfl, List.getElem?_mapIdx, hc]
                  exact congrArg some mtch_cur
                have ho1 : ((fun m => if m = nm then (h.bk nm).mapIdx (mtchAt (h.bk md) nm f (f + i)) else h.bk m) md)[f + i]? = some o := by
                  show (if md = nm then _ else _)[f + i]? = _
                  rw [if_neg hne]
                  exact ho
                obtain ⟨vs, b1, b2⟩ := B1.lists nm hm
                have hvl : vs.length = n := by
                  rw [b2.len]
                  show (if nm = nm then _ else _ : List Cell).length = n
                  rw [if_pos rfl, List.length_mapIdx]
                  exact hbl
                obtain ⟨cv, b3, b4⟩ := b2.get hc1
                obtain ⟨us, ov, o1, o2, o3⟩ := B1.cell hmd.1 ho1
                have hst := (W.sizes nm c (List.mem_of_getElem? hc)).1
                have hcm := (W.sizes md o (List.mem_of_getElem? ho)).2
                obtain ⟨ca, cxs, rfl, hca, hcs⟩ := Dt.tup_ b4
                obtain ⟨oa, oxs, rfl, hoa, hos⟩ := Dt.tup_ o3
                cases hcs with
                | cons f1 hcs => cases hcs with
                  | cons f2 hcs => cases hos with
                    | cons g1 hos => cases hos with
                      | cons g2 hos => cases hos with
                        | cons g3 hos => cases hos with
                          | cons g4 hos =>
                            cases hos
                            cases rv_of f1
                            cases rv_of g1
                            refine ⟨_, rfl, _, rfl, cd, _, rfl, B1.get hm, _, rfl, _, _, _, _, rfl, rfl, .inl (.inl (b1)), at_of rfl (b3), ?_⟩
                            refine ⟨_, rfl, _, rfl, _, _, _, _, rfl, rfl, .inl (.inl (had1)), at_of (j := 2) rfl rfl, cd, _, rfl, B1.get hmd.1, _, rfl, _, _, _, _, rfl, rfl, .inl (.inl (o1)), at_of rfl (o2), ?_⟩
                            refine ⟨_, rfl, _, _, _, _, rfl, rfl, .inl (.inl (hoa)), at_of (j := 0) rfl rfl, _, rfl, ?_⟩
                            -- nothing taken: the book stays
                            have skip : takes o c = false → BooksAt DtR H2 cd L h.order (fun m => if m = nm then (h.bk nm).mapIdx (mtchAt (h.bk md) nm f (f + (i + 1))) else h.bk m) := fun ht => B1.congr fun m _ => by
                              rw [mapIdx_keep (g := mtchAt (h.bk md) nm f (f + i)) (g' := mtchAt (h.bk md) nm f (f + (i + 1))) (fun j x hz => mtch_step hz) hc (by rw [mtch_new ho, ht, mtch_cur]; rfl)]
                            cases hor : o.rd with
                            | none =>
                              have ht : takes o c = false := decide_eq_false fun z => z.1 hor
                              exact iteF (iteF ⟨fr1, _, _, _, rfl, skip ht⟩)
                            | some r =>
                              refine iteT ⟨_, rfl, _, _, _, _, rfl, rfl, .inl (.inl (hoa)), at_of (j := 0) rfl rfl, _, rfl, _, _, _, _, rfl, rfl, .inl (.inl (hca)), at_of (j := 0) rfl rfl, ?_⟩
                              rw [hor]
                              refine ⟨scal_rv (some r) c.rd (.inl (by intro z; cases z)), _, rfl, ?_⟩
                              show (if (!decide (rv (some r) = rv c.rd)) = true then _ else _)
                              rw [dec_rv]
                              by_cases z : some r = c.rd
                              · rw [decide_eq_true z]
                                have ht : takes o c = false := decide_eq_false fun q => q.2 (by rw [hor]; exact z)
                                exact iteF ⟨fr1, _, _, _, rfl, skip ht⟩
                              · rw [decide_eq_false z]
                                have ht : takes o c = true := decide_eq_true ⟨(by rw [hor]; intro q; cases q), (by rw [hor]; exact z)⟩
                                refine iteT ⟨_, rfl, _, _, _, _, rfl, rfl, .inl (.inl (hoa)), at_of (j := 0) rfl rfl, _, rfl, _, _, _, _, rfl, rfl, .inl (.inl (hca)), at_of (j := 1) rfl rfl, _, rfl, _, _, _, _, rfl, rfl, .inl (.inl (hoa)), at_of (j := 0) rfl rfl, sz (szn 1), fun p1 hp1 => ?_⟩
                                obtain ⟨s7, h7⟩ := tupF (ds := [rdD o.rd]) (.cons (dt_rv _ _) .nil) hp1
                                refine cat_tup (f2.same s7) h7 (by rw [List.length_map, List.length_singleton]; omega) fun H2 z2 s2 hz => ?_
                                have s72 := s7.trans s2
                                refine ⟨_, rfl, _, _, _, _, rfl, rfl, .inl (.inl (s72 _ _ hoa)), at_of (j := 2) rfl rfl, _, rfl, sz (szn 1), fun p2 hp2 => ?_⟩
                                obtain ⟨s8, h8⟩ := tupF (ds := [.str nm]) (.cons (.str _) .nil) hp2
                                refine ⟨_, rfl, _, _, _, _, rfl, rfl, .inl (.inl (s8 _ _ (s72 _ _ hoa))), at_of (j := 3) rfl rfl, ?_⟩
                                have s728 := s72.trans s8
                                refine cat_tup h8 (g4.same s728) (by rw [List.length_map, List.length_singleton]; omega) fun H3 z3 s3 hz3 => ?_
                                refine ⟨sz (szn 4), fun p4 hp4 => ?_⟩
                                obtain ⟨s10, h10⟩ := tupF (ds := [rdD o.rd, .tuple (c.st.map rdD ++ [rdD o.rd]), srcD o.src, .tuple ([.str nm] ++ o.came.map .str)]) (.cons (dt_rv _ _) (.cons (hz.same (s8.trans s3)) (.cons (g3.same (s728.trans s3)) (.cons hz3 .nil)))) hp4
                                have s710 := (s728.trans s3).trans s10
                                have B2 := B1.dtS s710
                                have ec : cellD (matchC c nm o) = .tuple [rdD o.rd, .tuple (c.st.map rdD ++ [rdD o.rd]), srcD o.src, .tuple ([.str nm] ++ o.came.map .str)] := by
                                  show PyData.tuple [_, .tuple ((c.st ++ [o.rd]).map rdD), _, _] = _
                                  rw [List.map_append]
                                  rfl
                                refine ⟨_, rfl, _, rfl, cd, _, rfl, B2.get hm, _, rfl, L nm, vs, _, f + i, rfl, rfl, s710 _ _ b1, ixN_nat (by omega), ?_⟩
                                have B3 := B2.put dtR_kp (c := matchC c nm o) hm (s710 _ _ b1) (by show Dt _ _ (cellD _); rw [ec]; exact h10) (f + i)
                                have fr3 := (fr1.trans (s710.fr (fpB cd L h.order))).trans (fr_upd (o := .lst (vs.set (f + i) (.ref p4))) (List.mem_cons_of_mem _ (List.mem_map_of_mem hm)))
                                refine ⟨fr3, _, _, _, rfl, B3.congr fun m _ => ?_⟩
                                by_cases z5 : m = nm
                                · rw [if_pos z5, if_pos z5]
                                  show _ = (if nm = nm then (h.bk nm).mapIdx (mtchAt (h.bk md) nm f (f + i)) else h.bk nm).set (f + i) (matchC c nm o)
                                  rw [if_pos rfl, mapIdx_step (g := mtchAt (h.bk md) nm f (f + i)) (g' := mtchAt (h.bk md) nm f (f + (i + 1))) (fun j x hz => mtch_step hz) hc, mtch_new ho, ht]
                                  rfl
                                · rw [if_neg z5, if_neg z5]
                                  show _ = (if m = nm then _ else _)
                                  rw [if_neg z5]
              · rintro σ H1 ⟨fr1, v4, v5, v6, rfl, B1⟩
                have ee : f + ((l : Int) - (f : Nat)).toNat = l := by omega
                rw [ee] at B1
                have had1 := fr1.kp B.ld _ _ had rfl
                refine ⟨_, rfl, _, _, _, _, rfl, rfl, .inl (.inl (had1)), at_of (j := 0) rfl rfl, rfl, false, congrArg V.bl (by decide +kernel), iteF ?_⟩
                refine ⟨Nat.zero_le _, fun l1 hl1 => ?_⟩
                have s5 := same_upd (o := .lst []) hl1
                exact k _ L _ (fr1.trans (s5.fr _)) (B1.dtS s5) fun m hm' => .inl (List.mem_map_of_mem hm')
  | lose nm f l =>
    obtain ⟨ad, xs, rfl, had, hxs⟩ := Dt.tup_ hv
    cases hxs with
    | cons e1 hxs => cases hxs with
      | cons e2 hxs => cases hxs with
        | cons e4 hxs => cases hxs with
          | cons e5 hxs =>
            cases hxs
            cases str_of e1
            cases str_of e2
            cases int_of e4
            cases int_of e5
            have hm : nm ∈ h.order := ok.here rfl
            have hfl : f < l := ok.fits.2.1
            have hln : l ≤ n := ok.fits.2.2
            have hbl : (h.bk nm).length = n := W.long nm hm
            refine ⟨_, rfl, _, _, _, _, rfl, rfl, .inl (.inl (had)), at_of (j := 1) rfl rfl, ?_⟩
            refine ⟨_, rfl, _, _, _, _, rfl, rfl, .inl (.inl (had)), at_of (j := 0) rfl rfl, rfl, false, congrArg V.bl (by decide +kernel), iteF ?_⟩
            refine ⟨_, rfl, _, _, _, _, rfl, rfl, .inl (.inl (had)), at_of (j := 0) rfl rfl, rfl, false, congrArg V.bl (by decide +kernel), iteF ?_⟩
            refine ⟨_, rfl, _, _, _, _, rfl, rfl, .inl (.inl (had)), at_of (j := 0) rfl rfl, rfl, false, congrArg V.bl (by decide +kernel), iteF ?_⟩
            refine ⟨_, rfl, _, _, _, _, rfl, rfl, .inl (.inl (had)), at_of (j := 0) rfl rfl, rfl, false, congrArg V.bl (by decide +kernel), iteF ?_⟩
            refine ⟨_, rfl, _, _, _, _, rfl, rfl, .inl (.inl (had)), at_of (j := 0) rfl rfl, rfl, true, congrArg V.bl (by decide +kernel), iteT ?_⟩
            refine ⟨_, rfl, _, _, _, _, rfl, rfl, .inl (.inl (had)), at_of (j := 2) rfl rfl, _, rfl, _, _, _, _, rfl, rfl, .inl (.inl (had)), at_of (j := 3) rfl rfl, (f : Nat), (l : Nat), rfl, by omega, for_it (walk_range (lo := (f : Int)) (n := ((l : Int) - (f : Nat)).toNat)) (fun i σ H' => Fr (fpB cd L h.order) H H' ∧ ∃ v4 v5, σ = [some (.ref cd), some (.int (h.cnt : Nat)), some (.ref ad), some (.str nm), v4, v5, none, none] ∧
                BooksAt DtR H' cd L h.order (fun m => if m = nm then (h.bk nm).mapIdx (loseAt f (f + i)) else h.bk m))
              ⟨Fr.refl _ _, none, none, rfl, B.congr fun m hm' => ?_⟩ (fun _ _ _ _ _ => trivial) ?_ ?_⟩
            · by_cases z : m = nm
              · rw [if_pos z, mapIdx_id (g := loseAt f (f + 0)) (fun i x => if_neg (by omega)), z]
              · rw [if_neg z]
            · rintro i x σ H1 H2 hi ⟨fr1, v4, v5, rfl, B1⟩ ⟨rfl, hx⟩
              obtain rfl : x = .int ((f + i : Nat) : Int) := by rw [hx]; congr 1
              have hj : f + i < n := by omega
              obtain ⟨c, hc⟩ : ∃ c, (h.bk nm)[f + i]? = some c := ⟨_, List.getElem?_eq_getElem (by omega)⟩
              have hc1 : ((fun m => if m = nm then (h.bk nm).mapIdx (loseAt f (f + i)) else h.bk m) nm)[f + i]? = some c := by
                show (if nm = nm then _ else _)[f + i]? = _
                rw [if_pos rfl, List.getElem?_mapIdx, hc]
                exact congrArg some lose_cur
              obtain ⟨vs, b1, b2⟩ := B1.lists nm hm
              have hvl : vs.length = n := by
                rw [b2.len]
                show (if nm = nm then _ else _ : List Cell).length = n
                rw [if_pos rfl, List.length_mapIdx]
                exact hbl
              obtain ⟨cv, b3, b4⟩ := b2.get hc1
              have hst := (W.sizes nm c (List.mem_of_getElem? hc)).1
              obtain ⟨ca, cxs, rfl, hca, hcs⟩ := Dt.tup_ b4
              cases hcs with
              | cons f1 hcs => cases hcs with
                | cons f2 hcs =>
                  cases rv_of f1
                  refine ⟨_, rfl, _, rfl, cd, _, rfl, B1.get hm, _, rfl, _, _, _, _, rfl, rfl, .inl (.inl (b1)), at_of rfl (b3), ?_⟩
                  refine ⟨_, rfl, _, _, _, _, rfl, rfl, .inl (.inl (hca)), at_of (j := 0) rfl rfl, _, rfl, ?_⟩
                  cases hcr : c.rd with
                  | none =>
                    refine iteF ⟨fr1, _, _, rfl, B1.congr fun m _ => ?_⟩
                    rw [mapIdx_keep (g := loseAt f (f + i)) (g' := loseAt f (f + (i + 1))) (fun j x hz => lose_step hz) hc (by rw [lose_new, if_neg (by rw [hcr]; simp), lose_cur])]
                  | some r =>
                    refine iteT ⟨_, rfl, _, _, _, _, rfl, rfl, .inl (.inl (hca)), at_of (j := 1) rfl rfl, sz (szn 1), fun p1 hp1 => ?_⟩
                    obtain ⟨s7, h7⟩ := tupF (ds := [.none]) (.cons .non .nil) hp1
                    refine cat_tup (f2.same s7) h7 (by rw [List.length_map, List.length_singleton]; omega) fun H2 z2 s2 hz => ?_
                    have s72 := s7.trans s2
                    refine ⟨sz (szn 0), fun p2 hp2 => ⟨sz (szn 4), fun p4 hp4 => ?_⟩⟩
                    obtain ⟨s8, h8⟩ := tupF (ds := []) .nil hp2
                    obtain ⟨s10, h10⟩ := tupF (ds := [.none, .tuple (c.st.map rdD ++ [.none]), .none, .tuple []]) (.cons .non (.cons (hz.same s8) (.cons .non (.cons h8 .nil)))) hp4
                    have s710 := (s72.trans s8).trans s10
                    have B2 := B1.dtS s710
                    have ec : cellD (lostC c) = .tuple [.none, .tuple (c.st.map rdD ++ [.none]), .none, .tuple []] := by
                      show PyData.tuple [_, .tuple ((c.st ++ [none]).map rdD), _, _] = _
                      rw [List.map_append]
                      rfl
                    refine ⟨_, rfl, _, rfl, cd, _, rfl, B2.get hm, _, rfl, L nm, vs, _, f + i, rfl, rfl, s710 _ _ b1, ixN_nat (by omega), ?_⟩
                    have B3 := B2.put dtR_kp (c := lostC c) hm (s710 _ _ b1) (by show Dt _ _ (cellD _); rw [ec]; exact h10) (f + i)
                    have fr3 := (fr1.trans (s710.fr (fpB cd L h.order))).trans (fr_upd (o := .lst (vs.set (f + i) (.ref p4))) (List.mem_cons_of_mem _ (List.mem_map_of_mem hm)))
                    refine ⟨fr3, _, _, rfl, B3.congr fun m _ => ?_⟩
                    by_cases z5 : m = nm
                    · rw [if_pos z5, if_pos z5]
                      show _ = (if nm = nm then (h.bk nm).mapIdx (loseAt f (f + i)) else h.bk nm).set (f + i) (lostC c)
                      rw [if_pos rfl, mapIdx_step (g := loseAt f (f + i)) (g' := loseAt f (f + (i + 1))) (fun j x hz => lose_step hz) hc, lose_new, if_pos (by rw [hcr]; simp)]
                    · rw [if_neg z5, if_neg z5]
                      show _ = (if m = nm then _ else _)
                      rw [if_neg z5]
            · rintro σ H1 ⟨fr1, v4, v5, rfl, B1⟩
              have ee : f + ((l : Int) - (f : Nat)).toNat = l := by omega
              rw [ee] at B1
              refine ⟨Nat.zero_le _, fun l1 hl1 => ?_⟩
              have s5 := same_upd (o := .lst []) hl1
              exact k _ L _ (fr1.trans (s5.fr _)) (B1.dtS s5) fun m hm' => .inl (List.mem_map_of_mem hm')
end
end K69

set_option maxRecDepth 100000
set_option maxHeartbeats 4000000
/-! The law draws the deeds. -/
namespace K69
open PySem PySem.Spec PyProof.Rows L2
open C8 (Cal Mak Met pe_c pe_mk pe_mt pe_mt0 pe_gc)

theorem poolOk {ws : List Str} (h : ws.length = 3) (hn : ∀ x ∈ ws, isName x) : PoolOk (ws ++ [Str.ofString ""]) := by
  have he : (Str.ofString "").length = 0 := by decide +kernel
  refine ⟨fun x hx => ?_, fun o => ?_, by rw [List.length_append, h]; decide⟩
  · rcases List.mem_append.mp hx with hx | hx
    · exact (hn x hx).1
    · rw [List.mem_singleton.mp hx]
      exact ⟨by rw [he]; decide, letters_nil⟩
  · by_cases z : o = some (Str.ofString "")
    · obtain ⟨y, hy⟩ : ∃ y, ws[0]? = some y := ⟨_, List.getElem?_eq_getElem (by omega)⟩
      have hm := List.mem_of_getElem? hy
      refine ⟨y, List.mem_append_left _ hm, fun w => (hn y hm).2 ?_⟩
      rw [z] at w
      rw [← Option.some.inj w]
      exact he
    · exact ⟨_, List.mem_append_right _ List.mem_cons_self, z⟩
def spDrawn (K : PySem.W.Frag) : Sp := fun vs H Q _ => ∃ (q a : Addr) (ns : List Int) (n more most : Nat), vs = [.ref a, .int n, .int more, .int most] ∧ StAt K H q a ns ∧ 1 ≤ n ∧ n ≤ 40 ∧ 1 ≤ more ∧ more ≤ 10 ∧ 1 ≤ most ∧ most ≤ 20 ∧
  ∀ H' p us ds, Dr K H H' q a ns → H p = none → H' p = some (.lst us) → Pw (DeedsR H') us ds → Valid n init ds → 3 ≤ ds.length → ds.length ≤ 22 → Q (.ref p) H'
section
variable {P : Program} {w : World} {K : PySem.W.Frag} {mg : Str → Option Value} {base : Heap}
theorem sc_law_drawn : FnScope ["_law_state", "_law_many", "_law_more", "_law_most", "_law_names", "_law_pool", "_law_books", "_law_deeds", "_law_k"] ["_law_state", "_law_many", "_law_more", "_law_most"] (defScope sD_law_drawn) := ⟨rfl, rfl, rfl, by decide +kernel, rfl, by decide +kernel, by decide +kernel⟩
theorem c_law_drawn (T : Txt K mg) : Cal P w K mg base 5 "_law_drawn" (spDrawn K) [] := by
  have c_law_words := c_law_words (P := P) (w := w) (base := base) T
  have c_law_next := c_law_next (P := P) (w := w) (base := base) T
  have c_law_deed := c_law_deed (P := P) (w := w) (base := base) T
  have c_law_walk := c_law_walk (P := P) (w := w) (base := base) T
  refine calD T.F_law_drawn T.glo_law_drawn sc_law_drawn (ps := ["_law_state", "_law_many", "_law_more", "_law_most"]) (k := 4) (fun _ _ _ _ _ _ us hl => match us, hl with | [_, _, _, _], _ => rfl) (fun vs H Q E h => ?_) (fun cdv A outer s H vs Q E hr h => ?_)
  · obtain ⟨_, _, _, _, _, _, rfl, _⟩ := h
    rfl
  refine ⟨_, (pss_cons (ps_set (i := 4) sc_law_drawn.nd rfl (Or.inl rfl) (pe_c c_law_words hr (by decide) rfl (pa_cons (pv 0) (pa_cons (pe_op op_add pe_int (pe_c c_law_next hr (by decide) rfl (pa_cons (pv 0) (pa_cons (pv 2) pa_nil)))) pa_nil))))
      (pss_cons (ps_set (i := 5) sc_law_drawn.nd rfl (Or.inl rfl) (pe_op op_cat (pe_c c_law_words hr (by decide) rfl (pa_cons (pv 0) (pa_cons pe_int pa_nil))) (pe_lst (pa_cons pe_str pa_nil))))
      (pss_cons (ps_set (i := 6) sc_law_drawn.nd rfl (Or.inl rfl) pe_dnewK)
      (pss_cons (ps_set (i := 7) sc_law_drawn.nd rfl (Or.inl rfl) (pe_lst pa_nil))
      (pss_cons (ps_for PassesOwn.never rfl (pi_range1 (by rfl) T.free_range (pa_cons (pe_op op_add pe_int (pe_c c_law_next hr (by decide) rfl (pa_cons (pv 0) (pa_cons (pv 3) pa_nil)))) pa_nil)) (pg_name (i := 8) sc_law_drawn.nd rfl (Or.inl rfl)) (pss_cons (ps_expr (pe_bm PySem.F.plainAttrs_list PySem.F.slot_list_append PySem.F.type_list_append mt_append (pv 7) (pa_cons (pe_c c_law_deed hr (by decide) rfl (pa_cons (pv 0) (pa_cons (pv 1) (pa_cons (pv 6) (pa_cons (pv 4) (pa_cons (pv 5) pa_nil)))))) pa_nil)))
      (pss_one (ps_expr (pe_c c_law_walk hr (by decide) rfl (pa_cons (pv 6) (pa_cons (pv 8) (pa_cons (pe_ix ix_list (pv 7) (pv 8) (fun _ _ => rfl)) pa_nil))))))))
      (pss_one (ps_ret (pv 7)))))))), ?_⟩
  obtain ⟨q, a, ns, n, more, most, rfl, S, hn1, hn2, hm1, hm2, hm3, hm4, k⟩ := h
  refine ⟨_, rfl, _, rfl, _, rfl, q, a, ns, more, rfl, S, by omega, by omega, fun H1 v1 f1 S1 hv1 => ⟨_, _, rfl, rfl, q, a, ns, 3 + v1, rfl, S1, by omega, fun H2 pn names D2 fn hpn hnl hnam => ?_⟩⟩
  refine ⟨_, rfl, q, a, ns, 3, rfl, D2.st, by decide, fun H3 p3 ws D3 fp3 hp3 hwl hwn => ?_⟩
  refine ⟨sz (szn 1), fun p4 hp4 => ?_⟩
  have s4 := same_upd (o := .lst [.str (Str.ofString "")]) hp4
  refine ⟨p3, p4, _, _, rfl, rfl, s4 _ _ hp3, upd_same, sz (by rw [List.length_map, hwl]; decide), fun pp hpp => ?_⟩
  have s5 := same_upd (o := .lst (ws.map V.str ++ [.str (Str.ofString "")])) hpp
  have D1 : Dr K H H1 q a ns := ⟨f1, S1⟩
  have D5 := (((D1.trans D2).trans D3).same s4).same s5
  have npn : pn ≠ a := S1.some_ fn
  have npp : pp ≠ a := (D3.st.same s4).some_ hpp
  have po := poolOk hwl hwn
  have hpool : (upd (upd H3 p4 (.lst [.str (Str.ofString "")])) pp (.lst (ws.map V.str ++ [.str (Str.ofString "")]))) pp = some (.lst ((ws ++ [Str.ofString ""]).map .str)) := by
    rw [upd_same, List.map_append]
    rfl
  have hpn5 := s5 _ _ (s4 _ _ (D3.at_ hpn npn))
  generalize hH5 : upd (upd H3 p4 (.lst [.str (Str.ofString "")])) pp (.lst (ws.map V.str ++ [.str (Str.ofString "")])) = H5 at D5 hpool hpn5
  have hne : names ≠ [] := fun z => by rw [z] at hnl; simp at hnl; omega
  generalize hpl : ws ++ [Str.ofString ""] = pool at hpool po
  refine fun cd hcd => ⟨Nat.zero_le _, fun p hp => ?_⟩
  have s6 := same_upd (o := .dK []) hcd
  have s7 := s6.trans (same_upd (o := .lst []) hp)
  have fp5 : H5 p = none := s6.free hp
  have pcd : p ≠ cd := fun z => by rw [z, upd_same] at hp; cases hp
  have D7 := (Dr.refl D5.st).same s7
  refine ⟨_, rfl, _, rfl, q, a, ns, most, rfl, D7.st, by omega, by omega, fun H8 v8 f8 S8 hv8 => ⟨_, _, rfl, rfl, (3 + v8 : Nat), rfl, by omega, by omega, ?_⟩⟩
  have D8 := D7.trans ⟨f8, S8⟩
  refine for_it (walk_range (lo := 0) (n := 3 + v8)) (fun i σ H' => Dr K H5 H' q a ns ∧ ∃ L us ds v8', σ = [some (.ref a), some (.int n), some (.int more), some (.int most), some (.ref pn), some (.ref pp), some (.ref cd), some (.ref p), v8'] ∧ H' p = some (.lst us) ∧ Pw (DeedsR H') us ds ∧ Valid n init ds ∧ ds.length = i ∧
      BooksAt DtR H' cd L (run init ds).order (run init ds).bk ∧ (∀ b ∈ fpB cd L (run init ds).order, H5 b = none) ∧ p ∉ fpB cd L (run init ds).order)
    ⟨D8, fun _ => 0, [], [], none, rfl, Dr.at_ ⟨f8, S8⟩ upd_same (D5.st.some_ fp5), .nil, trivial, rfl, ⟨Dr.at_ ⟨f8, S8⟩ ((upd_ne pcd.symm).trans upd_same) (D5.st.some_ hcd), (fun m hm => nomatch hm), (fun m hm => nomatch hm)⟩, ?_, ?_⟩ (fun _ _ _ _ _ => trivial) ?_ ?_
  · intro b hb
    rw [List.mem_singleton.mp (show b ∈ [cd] from hb)]
    exact hcd
  · intro z
    exact pcd (List.mem_singleton.mp (show p ∈ [cd] from z))
  · rintro i x σ H9 H10 hi ⟨D9, L, us, ds, v9, rfl, g1, g2, g3, g4, B9, g6, g7⟩ ⟨rfl, hx⟩
    obtain rfl : x = .int ((i : Nat) : Int) := by rw [hx]; show V.int (0 + (i : Int)) = _; rw [Int.zero_add]
    have W := wf_run _ _ (wf_init n) g3
    have hc : (run init ds).cnt = i := by
      rw [run_cnt, g4]
      exact Nat.zero_add _
    have hfew := W.few
    have na : a ∉ fpB cd L (run init ds).order := fun z => D5.st.some_ (g6 a z) rfl
    have hul : us.length = i := g2.len.trans g4
    refine ⟨_, rfl, .inl ⟨rfl, _, .inl (.inl g1)⟩, _, rfl, _, rfl, _, rfl, _, rfl, _, rfl, q, a, cd, pn, pp, ns, n, L, run init ds, names, pool, rfl, D9.st, B9, na, hn1, hn2, by omega, fun m hm => ⟨W.names m hm, W.long m hm⟩, D9.at_ hpn5 npn, npn, hne, by omega, hnam, D9.at_ hpool npp, npp, po, fun H11 v d D11 hv hok => ?_⟩
    have D12 := D9.trans D11
    have pa : p ≠ a := D5.st.some_ fp5
    have g11 := D11.at_ g1 pa
    refine ⟨p, us, _, rfl, rfl, g11, szl (by omega), ?_⟩
    have D13 := D12.mut (o := .lst (us ++ [v])) D5.st fp5
    have k13 := kp_upd (o := .lst (us ++ [v])) g11 rfl
    have B11 := B9.dr D9.st na D11
    have B13 := B11.keep dtR_kp k13 fun y hy o e => (upd_ne (fun z => g7 (by rw [← z]; exact hy))).trans e
    refine ⟨_, rfl, _, rfl, _, rfl, _, rfl, _, _, _, _, rfl, rfl, .inl (.inl (upd_same)), at_of rfl ((show (us ++ [v])[i]? = some v by rw [List.getElem?_append_right (by omega), hul, Nat.sub_self]; rfl)), cd, L, n, run init ds, v, d, congrArg (fun z : Nat => [V.ref cd, V.int z, v]) hc.symm, B13, W, hok, Dt.kp k13 _ _ hv, hn2, by omega, fun H14 L' u f14 B14 hL => ?_⟩
    have k14 := f14.kp B13.ld
    have hfr : Fr [a] H5 H14 := fun b o e nb => f14 b o (D13.fr b o e nb) fun z => by rw [g6 b z] at e; cases e
    obtain ⟨i1, i2, i3, ha13, hi0⟩ := D13.st.st
    have hs : StAt K H14 q a ns := ⟨⟨i1, i2, i3, f14 _ _ ha13 na, hi0⟩, D5.st.go hfr⟩
    have hrun : run init (ds ++ [d]) = app (run init ds) d := run_append init ds [d]
    refine ⟨⟨hfr, hs⟩, L', us ++ [v], ds ++ [d], _, rfl, f14 _ _ upd_same g7, ?_, ?_, ?_, ?_, ?_, ?_⟩
    · exact (g2.imp fun x y => Dt.kp (((D11.kp D9.st).trans k13).trans k14) _ _).snoc (Dt.kp (k13.trans k14) _ _ hv)
    · exact (valid_append n _ _ _).mpr ⟨g3, hok, trivial⟩
    · rw [List.length_append, g4]
      rfl
    · rw [hrun]
      exact B14
    · intro b hb
      rw [hrun] at hb
      rcases List.mem_cons.mp hb with z | hb
      · rw [z]; exact hcd
      · obtain ⟨m, hm, e⟩ := List.mem_map.mp hb
        rcases hL m hm with y | y
        · rw [← e]; exact g6 _ (List.mem_cons_of_mem _ y)
        · rw [← e]; exact D13.free D5.st y
    · intro hb
      rw [hrun] at hb
      rcases List.mem_cons.mp hb with z | hb
      · exact pcd z
      · obtain ⟨m, hm, e⟩ := List.mem_map.mp hb
        rcases hL m hm with y | y
        · rw [e] at y
          exact g7 (List.mem_cons_of_mem _ y)
        · rw [e, upd_same] at y
          cases y
  · rintro σ H9 ⟨D9, L, us, ds, v9, rfl, g1, g2, g3, g4, B9, g6, g7⟩
    exact ⟨_, rfl, k _ p us ds (D5.trans D9) (D5.free S fp5) g1 g2 g3 (by omega) (by omega)⟩
end
end K69

set_option maxRecDepth 100000
set_option maxHeartbeats 4000000
/-! The law holds data against data. -/
namespace K69
open PySem PySem.Spec PyProof.Rows L2
open C8 (Cal Mak Met pe_c pe_mk pe_mt pe_mt0 pe_gc)

theorem k_tup_list : kitB "tuple" "list" = some false := by decide +kernel
theorem k_list_tup : kitB "list" "tuple" = some false := by decide +kernel
theorem k_list_list : kitB "list" "list" = some true := by decide +kernel
theorem k_non_tup : kitB "NoneType" "tuple" = some false := by decide +kernel
theorem k_non_list : kitB "NoneType" "list" = some false := by decide +kernel
theorem k_str_tup : kitB "str" "tuple" = some false := by decide +kernel
theorem k_str_list : kitB "str" "list" = some false := by decide +kernel
theorem k_int_tup : kitB "int" "tuple" = some false := by decide +kernel
theorem k_int_list : kitB "int" "list" = some false := by decide +kernel
theorem k_int_str : kitB "int" "str" = some false := by decide +kernel
theorem any_F {K : PySem.W.Frag} {t : String} (h1 : kitB t "tuple" = some false) (h2 : kitB t "list" = some false) : PySem.W.kitAny K (.type t) [.type "tuple", .type "list"] = some false :=
  kitAny_cons (kit_ty h1) (fun _ => kitAny_cons (kit_ty h2) (fun _ => kitAny_nil) (fun z => z)) (fun z => Bool.noConfusion z)
theorem any_T {K : PySem.W.Frag} : PySem.W.kitAny K (.type "tuple") [.type "tuple", .type "list"] = some true := kitAny_cons (kit_ty k_tup_tup) (fun z => Bool.noConfusion z) (fun _ => rfl)
theorem any_L {K : PySem.W.Frag} : PySem.W.kitAny K (.type "list") [.type "tuple", .type "list"] = some true :=
  kitAny_cons (kit_ty k_list_tup) (fun _ => kitAny_cons (kit_ty k_list_list) (fun z => Bool.noConfusion z) (fun _ => rfl)) (fun z => Bool.noConfusion z)
theorem cls2 : Paired ClsV [.ty "tuple", .ty "list"] [.type "tuple", .type "list"] := .cons (.ty _) (.cons (.ty _) .nil)
theorem ty_lst {K : PySem.W.Frag} {H : Hp} {a : Addr} {xs : List V} (h : H a = some (.lst xs)) : TyX K H (.ref a) (.type "list") := .base (.lst h)
theorem depth_in : ∀ {ds : List PyData} {d : PyData}, d ∈ ds → PyData.depth d ≤ PyData.depthAll ds
  | [], _, h => nomatch h
  | x :: r, d, h => by
    show _ ≤ max (PyData.depth x) (PyData.depthAll r)
    rcases List.mem_cons.mp h with e | e
    · rw [e]; exact Nat.le_max_left _ _
    · exact Nat.le_trans (depth_in e) (Nat.le_max_right _ _)
/-- data, or a list of such -/
def DL (H : Hp) (v : V) (d : PyData) : Prop := Dt H v d ∨ ∃ (a : Addr) (xs : List V) (ds : List PyData), v = .ref a ∧ d = .list ds ∧ H a = some (.lst xs) ∧ DtAll H xs ds
theorem DL.same {H H' : Hp} {v : V} {d : PyData} (h : DL H v d) (s : Same H H') : DL H' v d := by
  rcases h with h | ⟨a, xs, ds, e1, e2, h1, h2⟩
  · exact .inl (h.same s)
  · exact .inr ⟨a, xs, ds, e1, e2, s _ _ h1, h2.same s⟩
def spSame (dep : Nat) : Sp := fun vs H Q _ => ∃ (v u : V) (d : PyData), vs = [v, u] ∧ DL H v d ∧ DL H u d ∧ PyData.depth d ≤ dep ∧ ∀ H', Same H H' → Q (.bl true) H'
theorem DL.lst {H : Hp} {a : Addr} {xs : List V} {ds : List PyData} (h1 : H a = some (.lst xs)) (h2 : DtAll H xs ds) : DL H (.ref a) (.list ds) := .inr ⟨a, xs, ds, rfl, rfl, h1, h2⟩
theorem DL.lst_ {H : Hp} {v : V} {ds : List PyData} (h : DL H v (.list ds)) : ∃ (a : Addr) (xs : List V), v = .ref a ∧ H a = some (.lst xs) ∧ DtAll H xs ds := by
  rcases h with h | ⟨a, xs, ds', e1, e2, h1, h2⟩
  · cases h
  · cases e2
    exact ⟨a, xs, e1, h1, h2⟩
theorem DL.dt {H : Hp} {v : V} {d : PyData} (h : DL H v d) (n : ∀ ds, d ≠ .list ds) : Dt H v d := by
  rcases h with h | ⟨a, xs, ds, e1, e2, h1, h2⟩
  · exact h
  · exact absurd e2 (n ds)
theorem pg_tup_B {X : Cx} {es : List Expr} {k : Nat} {t : TGs} {n : Nat} {pos : Pos} (K : PySem.W.Frag) (hc : X.calm = true) (h : PGs X es t)
    (hn : (assignEach es X.env).length = n := by rfl) (hst : (assignEach es X.env).findIdx? (·.1) = none := by rfl) (hK : X.K = K := by rfl) : PG X (.Tuple es k pos) (gTup K n t) := hK ▸ pg_tup hc h hn hst
section
variable {P : Program} {w : World} {K : PySem.W.Frag} {mg : Str → Option Value} {base : Heap}
theorem sc_law_same : FnScope ["_law_found", "_law_due", "_law_one", "_law_other"] ["_law_found", "_law_due"] (defScope sD_law_same) := ⟨rfl, rfl, rfl, by decide +kernel, rfl, by decide +kernel, by decide +kernel⟩
theorem c0_law_same (T : Txt K mg) : Cal P w K mg base 0 "_law_same" (fun _ _ _ _ => False) [] := by
  obtain ⟨fd, F⟩ := T.F_law_same
  exact ⟨_, fd, ["_law_found", "_law_due"], [], ⟨fun _ _ _ _ h => h.elim, fun _ _ _ _ _ _ _ _ _ _ _ _ _ h => h.elim⟩, T.glo_law_same, F.kp, F.bindsN (fun _ _ _ _ _ _ us hl => match us, hl with | [_, _], _ => rfl), .nil⟩
theorem same_step (T : Txt K mg) {dep k : Nat} {spR : Sp} (c_law_same : Cal P w K mg base k "_law_same" spR []) (hR : ∀ v u d H (Q : VK) E, Dt H v d → Dt H u d → PyData.depth d + 1 ≤ dep → (∀ H', Same H H' → Q (.bl true) H') → spR [v, u] H Q E) : Cal P w K mg base (k + 1) "_law_same" (spSame dep) [] := by
  refine calD T.F_law_same T.glo_law_same sc_law_same (ps := ["_law_found", "_law_due"]) (k := k) (fun _ _ _ _ _ _ us hl => match us, hl with | [_, _], _ => rfl) (fun vs H Q E h => ?_) (fun cdv A outer s H vs Q E hr h => ?_)
  · obtain ⟨_, _, _, rfl, _⟩ := h
    rfl
  refine ⟨_, (pss_cons (ps_if (pt_val (pe_callB call_isiT (by rfl) T.free_isinstance (by decide +kernel) (pa_cons (pv 1) (pa_cons (pe_tup (pa_cons (pe_bltn (v := .ty "tuple") (by rfl) T.free_tuple (by decide +kernel) rfl) (pa_cons (pe_bltn (v := .ty "list") (by rfl) T.free_list (by decide +kernel) rfl) pa_nil))) pa_nil)))) (pss_cons (ps_if (PW.pt (pw_or (pt_cmpR op_ne (pe_callB call_isi (by rfl) T.free_isinstance (by decide +kernel) (pa_cons (pv 0) (pa_cons (pe_bltn (v := .ty "tuple") (by rfl) T.free_tuple (by decide +kernel) rfl) pa_nil))) (pe_callB call_isi (by rfl) T.free_isinstance (by decide +kernel) (pa_cons (pv 1) (pa_cons (pe_bltn (v := .ty "tuple") (by rfl) T.free_tuple (by decide +kernel) rfl) pa_nil))) (nomark _)) (pw_or1 (pt_cmpR op_ne (pe_callB call_isi (by rfl) T.free_isinstance (by decide +kernel) (pa_cons (pv 0) (pa_cons (pe_bltn (v := .ty "list") (by rfl) T.free_list (by decide +kernel) rfl) pa_nil))) (pe_callB call_isi (by rfl) T.free_isinstance (by decide +kernel) (pa_cons (pv 1) (pa_cons (pe_bltn (v := .ty "list") (by rfl) T.free_list (by decide +kernel) rfl) pa_nil))) (nomark _))))) (pss_one (ps_ret pe_bl)) pss_nil)
      (pss_cons (ps_if (pt_cmpR op_ne (pe_callB call_len_seq (by rfl) T.free_len PySem.boot_len (pa_cons (pv 0) pa_nil)) (pe_callB call_len_seq (by rfl) T.free_len PySem.boot_len (pa_cons (pv 1) pa_nil)) (nomark _)) (pss_one (ps_ret pe_bl)) pss_nil)
      (pss_one (ps_ret (pe_cmpR (op_eqD hr.units) (pe_lc (own := [("_law_one", 2), ("_law_other", 3)]) rfl sc_law_same.nd (RZ.pi_zipA (by rfl) T.free_zip (pa_cons (pv 0) (pa_cons (pv 1) pa_nil))) (blkOk_by (own := [("_law_one", 2), ("_law_other", 3)]) (N := ["_law_found", "_law_due", "_law_one", "_law_other"]) (sc := defScope sD_law_same) (by decide +kernel)) (fun _ _ _ _ _ => (pg_tup_B (n := 2) K rfl (pgs_cons (pg_name (i := 2) sc_law_same.nd rfl (Or.inl rfl)) (pgs_cons (pg_name (i := 3) sc_law_same.nd rfl (Or.inl rfl)) pgs_nil)))) (fun _ _ _ _ _ => pts_one (pt_not (pt_val (pe_c c_law_same hr (Nat.le_refl _) rfl (pa_cons (pv 2) (pa_cons (pv 3) pa_nil)))))) (fun _ _ _ _ _ => pe_int)) (pe_lst pa_nil) (nomark _)))))) pss_nil)
      (pss_cons (ps_if (pt_cmp (pc_isN (pv 1))) (pss_one (ps_ret (pe_cmp (pc_isN (pv 0))))) pss_nil)
      (pss_cons (ps_if (pt_val (pe_callB call_isi (by rfl) T.free_isinstance (by decide +kernel) (pa_cons (pv 1) (pa_cons (pe_bltn (v := .ty "str") (by rfl) T.free_str (by decide +kernel) rfl) pa_nil)))) (pss_one (ps_ret (pe_and (pe_callB call_isi (by rfl) T.free_isinstance (by decide +kernel) (pa_cons (pv 0) (pa_cons (pe_bltn (v := .ty "str") (by rfl) T.free_str (by decide +kernel) rfl) pa_nil))) (pe_one (pe_cmpR op_eq (pv 0) (pv 1) (nomark _)))))) pss_nil)
      (pss_one (ps_ret (pe_and (pe_callB call_isi (by rfl) T.free_isinstance (by decide +kernel) (pa_cons (pv 0) (pa_cons (pe_bltn (v := .ty "int") (by rfl) T.free_int (by decide +kernel) rfl) pa_nil))) (pe_and (pe_not (pe_callB call_isi (by rfl) T.free_isinstance (by decide +kernel) (pa_cons (pv 0) (pa_cons (pe_bltn (v := .ty "bool") (by rfl) T.free_bool (by decide +kernel) rfl) pa_nil)))) (pe_one (pe_cmpR op_eq (pv 0) (pv 1) (nomark _)))))))))), ?_⟩
  obtain ⟨v, u, d, rfl, hv, hu, hd, kk⟩ := h
  cases d with
  | none =>
    cases non_of (hv.dt (fun _ z => nomatch z))
    cases non_of (hu.dt (fun _ z => nomatch z))
    refine ⟨_, rfl, sz (szn 2), fun tp htp => ?_⟩
    refine ⟨_, tp, _, _, _, false, rfl, upd_same, cls2, .base .non, any_F k_non_tup k_non_list, false, rfl, iteF ?_⟩
    refine ⟨_, rfl, true, congrArg V.bl (decide_eq_true rfl), iteT ⟨_, rfl, ?_⟩⟩
    show Q (.bl (decide (V.non = V.non))) _
    rw [decide_eq_true rfl]
    exact kk _ (same_upd htp)
  | str x =>
    cases str_of (hv.dt (fun _ z => nomatch z))
    cases str_of (hu.dt (fun _ z => nomatch z))
    refine ⟨_, rfl, sz (szn 2), fun tp htp => ?_⟩
    refine ⟨_, tp, _, _, _, false, rfl, upd_same, cls2, ty_str x, any_F k_str_tup k_str_list, false, rfl, iteF ?_⟩
    refine ⟨_, rfl, false, congrArg V.bl (decide_eq_false (fun z => nomatch z)), iteF ?_⟩
    refine ⟨_, rfl, _, _, _, _, true, rfl, .ty _, (ty_str x), kit_ty (k_str_str), true, rfl, iteT ?_⟩
    refine ⟨_, rfl, _, _, _, _, true, rfl, .ty _, (ty_str x), kit_ty (k_str_str), true, rfl, iteT ⟨_, rfl, _, rfl, rfl, ?_⟩⟩
    show Q (.bl (decide (V.str x = V.str x))) _
    rw [decide_eq_true rfl]
    exact kk _ (same_upd htp)
  | int i =>
    cases int_of (hv.dt (fun _ z => nomatch z))
    cases int_of (hu.dt (fun _ z => nomatch z))
    refine ⟨_, rfl, sz (szn 2), fun tp htp => ?_⟩
    refine ⟨_, tp, _, _, _, false, rfl, upd_same, cls2, ty_int i, any_F k_int_tup k_int_list, false, rfl, iteF ?_⟩
    refine ⟨_, rfl, false, congrArg V.bl (decide_eq_false (fun z => nomatch z)), iteF ?_⟩
    refine ⟨_, rfl, _, _, _, _, false, rfl, .ty _, (ty_int i), kit_ty (k_int_str), false, rfl, iteF ?_⟩
    refine ⟨_, rfl, _, _, _, _, true, rfl, .ty _, (ty_int i), kit_ty (k_int_int), true, rfl, iteT ⟨_, rfl, _, _, _, _, false, rfl, .ty _, (ty_int i), kit_ty (k_int_bool), false, rfl, true, rfl, iteT ⟨_, rfl, _, rfl, rfl, ?_⟩⟩⟩
    show Q (.bl (decide (V.int i = V.int i))) _
    rw [decide_eq_true rfl]
    exact kk _ (same_upd htp)
  | bool b => exact nomatch (hv.dt (fun _ z => nomatch z))
  | dict => exact nomatch (hv.dt (fun _ z => nomatch z))
  | tuple ds =>
    obtain ⟨a, xs, rfl, ha, hxs⟩ := (hv.dt (fun _ z => nomatch z)).tup_
    obtain ⟨b, ys, rfl, hb, hys⟩ := (hu.dt (fun _ z => nomatch z)).tup_
    have hl : xs.length = ys.length := hxs.len.trans hys.len.symm
    have hdep : PyData.depthAll ds + 1 ≤ dep := hd
    refine ⟨_, rfl, sz (szn 2), fun tp htp => ?_⟩
    have s1 := same_upd (o := .tup [.ty "tuple", .ty "list"]) htp
    refine ⟨_, tp, _, _, _, true, rfl, upd_same, cls2, ty_tup (s1 _ _ hb), any_T, true, rfl, iteT ?_⟩
    refine ⟨_, rfl, _, _, _, _, true, rfl, .ty _, ty_tup (s1 _ _ ha), kit_ty k_tup_tup, _, rfl, _, _, _, _, true, rfl, .ty _, ty_tup (s1 _ _ hb), kit_ty k_tup_tup, rfl, false, congrArg V.bl (by decide), iteF ?_⟩
    refine ⟨_, rfl, _, _, _, _, false, rfl, .ty _, ty_tup (s1 _ _ ha), kit_ty k_tup_list, _, rfl, _, _, _, _, false, rfl, .ty _, ty_tup (s1 _ _ hb), kit_ty k_tup_list, rfl, false, congrArg V.bl (by decide), iteF ?_⟩
    refine ⟨_, rfl, _, _, rfl, .inr (.inl (.inl (s1 _ _ ha))), _, rfl, _, _, rfl, .inr (.inl (.inl (s1 _ _ hb))), rfl, false, congrArg V.bl (by rw [hl]; simp), iteF ?_⟩
    refine ⟨_, rfl, _, rfl, a, b, xs, ys, rfl, .inr ⟨.inl (.inl (s1 _ _ ha)), .inl (.inl (s1 _ _ hb)), fun D hD => lc_it (walk_zipT (K := K) (a := a) (b := b) (xs := xs) (ys := ys) (n := xs.length) (by omega)) (fun i H' => Same H H' ∧ H' D = some (.lst (([] : List Str).map .str)))
      ⟨s1.trans (same_upd hD), upd_same⟩ (fun _ _ _ g => ⟨.inl (.inl (g.1 _ _ ha)), .inl (.inl (g.1 _ _ hb))⟩) ?_ ?_⟩⟩
    · rintro i x H1 H2 hi ⟨s2, g2⟩ ⟨tq, x1, y1, rfl, hq, rfl, e1, e2⟩
      obtain ⟨d1, f1, f2⟩ := hxs.get' e1
      obtain ⟨d2, f3, f4⟩ := hys.get' e2
      rw [f1] at f3
      cases f3
      have s3 := s2.trans (same_upd (o := .tup [x1, y1]) hq)
      have hdi := depth_in (List.mem_of_getElem? f1)
      refine ⟨tq, _, rfl, .inl (.inl upd_same), rfl, _, _, rfl, _, _, rfl, rfl, rfl, ?_⟩
      refine ⟨_, rfl, _, rfl, hR _ _ d1 _ _ _ (f2.same s3) (f4.same s3) (by omega) fun H3 s4 => ⟨true, rfl, ?_⟩⟩
      exact iteF ⟨s3.trans s4, s4 _ _ (same_upd hq _ _ g2)⟩
    · rintro H1 ⟨s2, g2⟩
      refine ⟨Nat.zero_le _, fun l hl => ?_⟩
      have s3 := same_upd (o := .lst []) hl
      refine ⟨_, _, dpL (ys := []) (s3 _ _ g2), dpL (ys := []) upd_same, shapedS (fun y hy => nomatch hy), shapedS (fun y hy => nomatch hy), ?_⟩
      exact kk _ (s2.trans s3)
  | list ds =>
    obtain ⟨a, xs, rfl, ha, hxs⟩ := hv.lst_
    obtain ⟨b, ys, rfl, hb, hys⟩ := hu.lst_
    have hl : xs.length = ys.length := hxs.len.trans hys.len.symm
    have hdep : PyData.depthAll ds + 1 ≤ dep := hd
    refine ⟨_, rfl, sz (szn 2), fun tp htp => ?_⟩
    have s1 := same_upd (o := .tup [.ty "tuple", .ty "list"]) htp
    refine ⟨_, tp, _, _, _, true, rfl, upd_same, cls2, ty_lst (s1 _ _ hb), any_L, true, rfl, iteT ?_⟩
    refine ⟨_, rfl, _, _, _, _, false, rfl, .ty _, ty_lst (s1 _ _ ha), kit_ty k_list_tup, _, rfl, _, _, _, _, false, rfl, .ty _, ty_lst (s1 _ _ hb), kit_ty k_list_tup, rfl, false, congrArg V.bl (by decide), iteF ?_⟩
    refine ⟨_, rfl, _, _, _, _, true, rfl, .ty _, ty_lst (s1 _ _ ha), kit_ty k_list_list, _, rfl, _, _, _, _, true, rfl, .ty _, ty_lst (s1 _ _ hb), kit_ty k_list_list, rfl, false, congrArg V.bl (by decide), iteF ?_⟩
    refine ⟨_, rfl, _, _, rfl, .inl (.inl (.inl (s1 _ _ ha))), _, rfl, _, _, rfl, .inl (.inl (.inl (s1 _ _ hb))), rfl, false, congrArg V.bl (by rw [hl]; simp), iteF ?_⟩
    refine ⟨_, rfl, _, rfl, a, b, xs, ys, rfl, .inl ⟨.inl (.inl (s1 _ _ ha)), .inl (.inl (s1 _ _ hb)), fun D hD => lc_it (walk_zip (K := K) (a := a) (b := b) (xs := xs) (ys := ys) (n := xs.length) (by omega)) (fun i H' => Same H H' ∧ H' D = some (.lst (([] : List Str).map .str)))
      ⟨s1.trans (same_upd hD), upd_same⟩ (fun _ _ _ g => ⟨.inl (.inl (g.1 _ _ ha)), .inl (.inl (g.1 _ _ hb))⟩) ?_ ?_⟩⟩
    · rintro i x H1 H2 hi ⟨s2, g2⟩ ⟨tq, x1, y1, rfl, hq, rfl, e1, e2⟩
      obtain ⟨d1, f1, f2⟩ := hxs.get' e1
      obtain ⟨d2, f3, f4⟩ := hys.get' e2
      rw [f1] at f3
      cases f3
      have s3 := s2.trans (same_upd (o := .tup [x1, y1]) hq)
      have hdi := depth_in (List.mem_of_getElem? f1)
      refine ⟨tq, _, rfl, .inl (.inl upd_same), rfl, _, _, rfl, _, _, rfl, rfl, rfl, ?_⟩
      refine ⟨_, rfl, _, rfl, hR _ _ d1 _ _ _ (f2.same s3) (f4.same s3) (by omega) fun H3 s4 => ⟨true, rfl, ?_⟩⟩
      exact iteF ⟨s3.trans s4, s4 _ _ (same_upd hq _ _ g2)⟩
    · rintro H1 ⟨s2, g2⟩
      refine ⟨Nat.zero_le _, fun l hl => ?_⟩
      have s3 := same_upd (o := .lst []) hl
      refine ⟨_, _, dpL (ys := []) (s3 _ _ g2), dpL (ys := []) upd_same, shapedS (fun y hy => nomatch hy), shapedS (fun y hy => nomatch hy), ?_⟩
      exact kk _ (s2.trans s3)
theorem c_law_same (T : Txt K mg) : ∀ dep : Nat, Cal P w K mg base (dep + 1) "_law_same" (spSame dep) []
  | 0 => same_step T (c0_law_same T) (fun _ _ _ _ _ _ _ _ h _ => absurd h (by omega))
  | dep + 1 => same_step T (c_law_same T dep) (fun v u d H Q E h1 h2 h3 k => ⟨v, u, d, rfl, .inl h1, .inl h2, by omega, k⟩)
end
end K69

set_option maxRecDepth 100000
set_option maxHeartbeats 4000000
/-! Numbers exchanged; notes in the order of these. -/
namespace K69
open PySem PySem.Spec PyProof.Rows L2
open C8 (Cal Mak Met pe_c pe_mk pe_mt pe_mt0 pe_gc)

def spNumb : Sp := fun vs H Q _ => ∃ n at_ : Nat, vs = [.int (n : Nat), .int (at_ : Nat)] ∧ Q (.int (sw at_ n : Nat)) H
def spLArose : Sp := fun vs H Q _ => ∃ (v : V) (src : Option (Str × Nat)) (at_ : Nat), vs = [v, .int (at_ : Nat)] ∧ Dt H v (srcD src) ∧ ∀ H' u, Same H H' → Dt H' u (srcD (src.map fun p => (p.1, sw at_ p.2))) → Q u H'
def spNoted : Sp := fun vs H Q _ => ∃ (p : Addr) (us : List V) (ns : List Note) (at_ : Nat), vs = [.ref p, .int (at_ : Nat)] ∧ H p = some (.lst us) ∧ DtAll H us (ns.map noteD) ∧ ns.length ≤ 3000 ∧ ∀ H' p' ws, Same H H' → H' p' = some (.lst ws) → DtAll H' ws ((renum at_ ns).map noteD) → Q (.ref p') H'
section
variable {P : Program} {w : World} {K : PySem.W.Frag} {mg : Str → Option Value} {base : Heap}
theorem sc_law_number : FnScope ["_law_number_here", "_law_at"] ["_law_number_here", "_law_at"] (defScope sD_law_number) := ⟨rfl, rfl, rfl, by decide +kernel, rfl, by decide +kernel, by decide +kernel⟩
theorem c_law_number (T : Txt K mg) : Cal P w K mg base 1 "_law_number" (spNumb) [] := by
  refine calD T.F_law_number T.glo_law_number sc_law_number (ps := ["_law_number_here", "_law_at"]) (k := 0) (fun _ _ _ _ _ _ us hl => match us, hl with | [_, _], _ => rfl) (fun vs H Q E h => ?_) (fun cdv A outer s H vs Q E hr h => ?_)
  · obtain ⟨_, _, rfl, _⟩ := h
    rfl
  refine ⟨_, (pss_cons (ps_if (PW.pt (pw_or (pt_cmpR op_eq (pv 0) (pv 1) (nomark _)) (pw_or1 (pt_cmpR op_eq (pv 0) (pe_op op_add (pv 1) pe_int) (nomark _))))) (pss_one (ps_ret (pe_op op_sub (pe_op op_add (pe_op op_mul pe_int (pv 1)) pe_int) (pv 0)))) pss_nil)
      (pss_one (ps_ret (pv 0)))), ?_⟩
  obtain ⟨n, at_, rfl, k⟩ := h
  have back : n = at_ ∨ n = at_ + 1 → Q (.int (2 * (at_ : Int) + 1 - (n : Int))) H := fun z => by
    have e : (2 * (at_ : Int) + 1 - (n : Int)) = (sw at_ n : Nat) := by
      rcases z with z | z
      · rw [z, sw_at]; omega
      · rw [z, sw_at1]; omega
    rw [e]
    exact k
  by_cases h1 : n = at_
  · refine ⟨_, rfl, _, rfl, rfl, true, congrArg V.bl (decide_eq_true (by rw [h1])), iteT (iteT ?_)⟩
    exact ⟨_, rfl, _, _, rfl, rfl, .inl ⟨by decide, by decide⟩, _, _, rfl, rfl, _, rfl, _, _, rfl, rfl, back (.inl h1)⟩
  · refine ⟨_, rfl, _, rfl, rfl, false, congrArg V.bl (decide_eq_false (fun z => h1 (by injection z with z; omega))), iteF ?_⟩
    by_cases h2 : n = at_ + 1
    · refine ⟨_, rfl, _, rfl, _, _, rfl, rfl, rfl, true, congrArg V.bl (decide_eq_true (by rw [h2]; rfl)), iteT ?_⟩
      exact ⟨_, rfl, _, _, rfl, rfl, .inl ⟨by decide, by decide⟩, _, _, rfl, rfl, _, rfl, _, _, rfl, rfl, back (.inr h2)⟩
    · refine ⟨_, rfl, _, rfl, _, _, rfl, rfl, rfl, false, congrArg V.bl (decide_eq_false (fun z => h2 (by injection z with z; omega))), iteF ?_⟩
      have e : sw at_ n = n := by
        unfold sw
        rw [if_neg h1, if_neg h2]
      rw [e] at k
      exact ⟨_, rfl, k⟩
theorem sc_law_arose : FnScope ["_law_found", "_law_at"] ["_law_found", "_law_at"] (defScope sD_law_arose) := ⟨rfl, rfl, rfl, by decide +kernel, rfl, by decide +kernel, by decide +kernel⟩
theorem c_law_arose (T : Txt K mg) : Cal P w K mg base 2 "_law_arose" (spLArose) [] := by
  have c_law_number := c_law_number (P := P) (w := w) (base := base) T
  refine calD T.F_law_arose T.glo_law_arose sc_law_arose (ps := ["_law_found", "_law_at"]) (k := 1) (fun _ _ _ _ _ _ us hl => match us, hl with | [_, _], _ => rfl) (fun vs H Q E h => ?_) (fun cdv A outer s H vs Q E hr h => ?_)
  · obtain ⟨_, _, _, rfl, _⟩ := h
    rfl
  refine ⟨_, (pss_cons (ps_if (pt_cmp (pc_isN (pv 0))) (pss_one (ps_ret pe_non)) pss_nil)
      (pss_one (ps_ret (pe_tup (pa_cons (pe_ix ix_tup (pv 0) pe_int (fun _ _ => rfl)) (pa_cons (pe_c c_law_number hr (by decide) rfl (pa_cons (pe_ix ix_tup (pv 0) pe_int (fun _ _ => rfl)) (pa_cons (pv 1) pa_nil))) pa_nil)))))), ?_⟩
  obtain ⟨v, src, at_, rfl, hv, k⟩ := h
  cases src with
  | none =>
    cases non_of hv
    exact ⟨_, rfl, true, congrArg V.bl (decide_eq_true rfl), iteT (k _ _ (Same.refl _) .non)⟩
  | some p =>
    obtain ⟨a, xs, rfl, ha, hs⟩ := Dt.tup_ hv
    cases hs with
    | cons e1 hs => cases hs with
      | cons e2 hs =>
        cases hs
        cases str_of e1
        cases int_of e2
        refine ⟨_, rfl, false, congrArg V.bl (decide_eq_false (fun z => nomatch z)), iteF ?_⟩
        refine ⟨_, rfl, _, _, _, _, rfl, rfl, .inl (.inl (ha)), at_of (j := 0) rfl rfl, _, rfl, _, _, _, _, rfl, rfl, .inl (.inl (ha)), at_of (j := 1) rfl rfl, _, rfl, p.2, at_, rfl, sz (szn 2), fun p5 hp5 => ?_⟩
        obtain ⟨s5, ht⟩ := tupF (ds := [.str p.1, .int (sw at_ p.2 : Nat)]) (.cons (.str _) (.cons (.int _) .nil)) hp5
        exact k _ _ s5 ht
theorem sc_law_noted : FnScope ["_law_notes", "_law_at", "_law_found", "_law_number_here", "_law_name", "_law_place", "_law_before", "_law_after", "_law_rows", "_law_k", "_law_note"] ["_law_notes", "_law_at"] (defScope sD_law_noted) := ⟨rfl, rfl, rfl, by decide +kernel, rfl, by decide +kernel, by decide +kernel⟩
theorem c_law_noted (T : Txt K mg) : Cal P w K mg base 2 "_law_noted" (spNoted) [] := by
  have c_law_number := c_law_number (P := P) (w := w) (base := base) T
  refine calD T.F_law_noted T.glo_law_noted sc_law_noted (ps := ["_law_notes", "_law_at"]) (k := 1) (fun _ _ _ _ _ _ us hl => match us, hl with | [_, _], _ => rfl) (fun vs H Q E h => ?_) (fun cdv A outer s H vs Q E hr h => ?_)
  · obtain ⟨_, _, _, _, rfl, _⟩ := h
    rfl
  refine ⟨_, (pss_cons (ps_set (i := 2) sc_law_noted.nd rfl (Or.inl rfl) (pe_lst pa_nil))
      (pss_cons (ps_for PassesOwn.never rfl (pi_list (pv 0)) (pg_tup rfl (pgs_cons (pg_name (i := 3) sc_law_noted.nd rfl (Or.inl rfl)) (pgs_cons (pg_name (i := 4) sc_law_noted.nd rfl (Or.inl rfl)) (pgs_cons (pg_name (i := 5) sc_law_noted.nd rfl (Or.inl rfl)) (pgs_cons (pg_name (i := 6) sc_law_noted.nd rfl (Or.inl rfl)) (pgs_cons (pg_name (i := 7) sc_law_noted.nd rfl (Or.inl rfl)) pgs_nil)))))) (pss_one (ps_expr (pe_bm PySem.F.plainAttrs_list PySem.F.slot_list_append PySem.F.type_list_append mt_append (pv 2) (pa_cons (pe_tup (pa_cons (pe_c c_law_number hr (by decide) rfl (pa_cons (pv 3) (pa_cons (pv 1) pa_nil))) (pa_cons (pv 4) (pa_cons (pv 5) (pa_cons (pv 6) (pa_cons (pv 7) pa_nil)))))) pa_nil)))))
      (pss_cons (ps_set (i := 8) sc_law_noted.nd rfl (Or.inl rfl) (pe_lst pa_nil))
      (pss_cons (ps_for PassesOwn.never rfl (pi_range1 (by rfl) T.free_range (pa_cons pe_int pa_nil)) (pg_name (i := 9) sc_law_noted.nd rfl (Or.inr rfl)) (pss_one (ps_set (i := 8) sc_law_noted.nd rfl (Or.inl rfl) (pe_op op_cat (pv 8) (pe_lc (own := [("_law_note", 10)]) rfl sc_law_noted.nd (pi_list (pv 2)) (blkOk_by (own := [("_law_note", 10)]) (N := ["_law_notes", "_law_at", "_law_found", "_law_number_here", "_law_name", "_law_place", "_law_before", "_law_after", "_law_rows", "_law_k", "_law_note"]) (sc := defScope sD_law_noted) (by decide +kernel)) (fun _ _ _ _ _ => (pg_name (i := 10) sc_law_noted.nd rfl (Or.inl rfl))) (fun _ _ _ _ _ => pts_one (pt_cmpR op_eq (pe_ix (ix_tup_B K) (pv 10) pe_int (fun _ _ => rfl)) (pv 9) (nomark _))) (fun _ _ _ _ _ => (pv 10)))))))
      (pss_one (ps_ret (pv 8))))))), ?_⟩
  obtain ⟨p, us, ns, at_, rfl, hp, hus, hl, k⟩ := h
  have hul : us.length = ns.length := by rw [hus.len, List.length_map]
  generalize hms : ns.map (mapN (sw at_)) = ms
  have hml : ms.length = ns.length := by rw [← hms, List.length_map]
  refine ⟨Nat.zero_le _, fun D hD => ?_⟩
  have s1 := same_upd (o := .lst []) hD
  refine ⟨_, rfl, p, rfl, ⟨_, .inl (.inl (s1 _ _ hp))⟩, for_it (walk_list (xs := us)) (fun i σ H' => Same H H' ∧ ∃ ws v3 v4 v5 v6 v7, σ = [some (.ref p), some (.int (at_ : Nat)), some (.ref D), v3, v4, v5, v6, v7, none, none, none] ∧ H' D = some (.lst ws) ∧ DtAll H' ws ((ms.take i).map noteD))
    ⟨s1, [], none, none, none, none, none, rfl, upd_same, .nil⟩ (fun i σ H' _ g => .inl (.inl (g.1 _ _ hp))) ?_ ?_⟩
  · rintro i x σ H1 H2 hi ⟨s2, ws, v3, v4, v5, v6, v7, rfl, g1, g2⟩ ⟨rfl, hx⟩
    obtain ⟨d, hd1, hD1⟩ := hus.get' hx
    rw [List.getElem?_map] at hd1
    cases q : ns[i]? with
    | none => rw [q] at hd1; cases hd1
    | some c =>
      rw [q] at hd1
      cases hd1
      have hmi : ms[i]? = some (mapN (sw at_) c) := by rw [← hms, List.getElem?_map, q]; rfl
      obtain ⟨num, nm, pl, bef, aft⟩ := c
      obtain ⟨ta, txs, rfl, hta, hts⟩ := Dt.tup_ (hD1.same s2)
      cases hts with
      | cons e1 hts => cases hts with
        | cons e2 hts => cases hts with
          | cons e3 hts => cases hts with
            | cons e4 hts => cases hts with
              | cons e5 hts =>
                cases hts
                cases int_of e1
                have hwl : ws.length ≤ ns.length := by rw [g2.len, List.length_map]; exact Nat.le_trans (List.length_take_le' _ _) (by omega)
                refine ⟨ta, _, rfl, .inl (.inl hta), rfl, _, _, rfl, _, _, rfl, _, _, rfl, _, _, rfl, _, _, rfl, rfl, ?_⟩
                refine ⟨_, rfl, .inl ⟨rfl, _, .inl (.inl g1)⟩, _, rfl, _, rfl, num, at_, rfl, _, rfl, _, rfl, _, rfl, _, rfl, sz (szn 5), fun p5 hp5 => ?_⟩
                obtain ⟨s5, ht⟩ := tupF (ds := [.int (sw at_ num : Nat), .str nm, .int (pl : Nat), rdD bef, .str aft]) (.cons (.int _) (.cons e2 (.cons e3 (.cons e4 (.cons e5 .nil))))) hp5
                refine ⟨D, ws, _, rfl, rfl, s5 _ _ g1, szl (by omega), ?_⟩
                have k6 := kp_upd (o := .lst (ws ++ [.ref p5])) (s5 _ _ g1) rfl
                refine ⟨same_mut (s2.trans s5) hD, ws ++ [.ref p5], _, _, _, _, _, rfl, upd_same, ?_⟩
                rw [take_more hmi, List.map_append]
                exact (DtAll.kp (s5.kp.trans k6) _ _ g2).app (.cons (Dt.kp k6 _ _ ht) .nil)
  · rintro σ H1 ⟨s2, ws, v3, v4, v5, v6, v7, rfl, g1, g2⟩
    rw [List.take_of_length_le (by omega)] at g2
    have hwl : ws.length = ms.length := by rw [g2.len, List.length_map]
    refine ⟨Nat.zero_le _, fun R hR => ?_⟩
    have s3 := s2.trans (same_upd (o := .lst []) hR)
    refine ⟨(30 : Int), rfl, by decide, by decide, for_it (walk_range (lo := 0) (n := 30)) (fun i σ H' => Same (upd H1 R (.lst [])) H' ∧ ∃ R' rs v9, σ = [some (.ref p), some (.int (at_ : Nat)), some (.ref D), v3, v4, v5, v6, v7, some (.ref R'), v9, none] ∧ H' R' = some (.lst rs) ∧
        DtAll H' rs (((List.range i).flatMap fun k => ms.filter (fun x => x.num == k)).map noteD) ∧ rs.length ≤ i * 3000)
      ⟨Same.refl _, R, [], none, rfl, upd_same, .nil, Nat.le_refl _⟩ (fun _ _ _ _ _ => trivial) ?_ ?_⟩
    · rintro i x σ H2 H3 hi ⟨s4, R', rs, v9, rfl, r1, r2, r3⟩ ⟨rfl, hx⟩
      obtain rfl : x = .int ((i : Nat) : Int) := by rw [hx]; show V.int (0 + (i : Int)) = _; rw [Int.zero_add]
      have g13 := s4 _ _ (same_upd (o := .lst []) hR _ _ g1)
      have g23 := (g2.same (same_upd (o := .lst []) hR)).same s4
      refine ⟨_, rfl, _, rfl, D, rfl, ⟨_, .inl (.inl g13)⟩, fun D2 hD2 => lc_it (walk_list (xs := ws)) (fun j H' => Same H3 H' ∧ ∃ ts, H' D2 = some (.lst ts) ∧ DtAll H' ts (((ms.take j).filter (fun x => x.num == i)).map noteD))
        ⟨same_upd hD2, [], upd_same, .nil⟩ (fun _ _ _ g => .inl (.inl (g.1 _ _ g13))) ?_ ?_⟩
      · rintro j x H4 H5 hj ⟨s5, ts, t1, t2⟩ ⟨rfl, hx2⟩
        obtain ⟨d, hd1, hD1⟩ := g23.get' hx2
        rw [List.getElem?_map] at hd1
        cases q : ms[j]? with
        | none => rw [q] at hd1; cases hd1
        | some c =>
          rw [q] at hd1
          cases hd1
          obtain ⟨ta, txs, rfl, hta, hts⟩ := Dt.tup_ (hD1.same s5)
          have hN : Dt H5 (.ref ta) (noteD c) := hD1.same s5
          have htl : ts.length ≤ 3000 := by
            rw [t2.len, List.length_map]
            exact Nat.le_trans (List.length_filter_le _ _) (Nat.le_trans (List.length_take_le' _ _) (by omega))
          cases hts with
          | cons e1 hts =>
            cases int_of e1
            refine ⟨rfl, _, rfl, _, _, _, _, rfl, rfl, .inl (.inl (hta)), at_of (j := 0) rfl rfl, _, rfl, rfl, _, rfl, ?_⟩
            by_cases z : c.num = i
            · rw [decide_eq_true (by rw [z])]
              refine iteT ⟨_, rfl, ts, t1, szl (by omega), same_mut s5 hD2, ts ++ [.ref ta], upd_same, ?_⟩
              have k6 := kp_upd (o := .lst (ts ++ [.ref ta])) t1 rfl
              rw [filter_more q, if_pos (by rw [z]; exact beq_self_eq_true i), List.map_append]
              exact (DtAll.kp k6 _ _ t2).app (.cons (Dt.kp k6 _ _ hN) .nil)
            · rw [decide_eq_false (fun w => z (by injection w with w; omega))]
              refine iteF ⟨s5, ts, t1, ?_⟩
              rw [filter_more q, if_neg (by simp [z]), List.append_nil]
              exact t2
      · rintro H4 ⟨s5, ts, t1, t2⟩
        rw [List.take_of_length_le (by omega)] at t2
        have htl : ts.length ≤ 3000 := by
          rw [t2.len, List.length_map]
          exact Nat.le_trans (List.length_filter_le _ _) (by omega)
        have hi2 : i < 30 := hi
        refine ⟨R', D2, rs, ts, rfl, rfl, s5 _ _ r1, t1, sz (by omega), fun p3 hp3 => ?_⟩
        have s6 := s5.trans (same_upd (o := .lst (rs ++ ts)) hp3)
        refine ⟨s4.trans s6, p3, rs ++ ts, _, rfl, upd_same, ?_, ?_⟩
        · rw [List.range_succ, List.flatMap_append, List.map_append]
          refine (r2.same s6).app ?_
          rw [List.flatMap_cons, List.flatMap_nil, List.append_nil]
          exact t2.same (same_upd hp3)
        · rw [List.length_append]
          omega
    · rintro σ H2 ⟨s4, R', rs, v9, rfl, r1, r2, r3⟩
      refine ⟨_, rfl, k _ R' rs (s3.trans s4) r1 ?_⟩
      show DtAll _ _ (((List.range 30).flatMap fun k => (ns.map (mapN (sw at_))).filter (fun x => x.num == k)).map noteD)
      rw [hms]
      exact r2
end
end K69

set_option maxRecDepth 100000
set_option maxHeartbeats 4000000
/-! Two houses held against each other. -/
namespace K69
open PySem PySem.Spec PyProof.Rows L2
open C8 (Cal Mak Met pe_c pe_mk pe_mt pe_mt0 pe_gc)

theorem rising_pw : ∀ (r : List Str) (p : Str), risingS p r = true → (p :: r).Pairwise (fun a b => a.cps.toList ≤ b.cps.toList)
  | [], p, _ => List.pairwise_singleton _ _
  | x :: r, p, h => by
    have h' : (!ltCps x.cps.toList p.cps.toList && risingS x r) = true := h
    rw [Bool.and_eq_true] at h'
    have ih := rising_pw r x h'.2
    have e := h'.1
    rw [ltCps_eq] at e
    have hle : p.cps.toList ≤ x.cps.toList := List.not_lt.mp (by simpa using e)
    refine List.pairwise_cons.mpr ⟨fun y hy => ?_, ih⟩
    rcases List.mem_cons.mp hy with z | z
    · rw [z]; exact hle
    · exact List.le_trans hle ((List.pairwise_cons.mp ih).1 y z)
theorem sorted_pw : ∀ {l : List Str}, sortedS l = true → l.Pairwise (fun a b => a.cps.toList ≤ b.cps.toList)
  | [], _ => .nil
  | x :: r, h => rising_pw r x h
theorem str_ext {a b : Str} (h : a.cps.toList = b.cps.toList) : a = b := by
  obtain ⟨a⟩ := a
  obtain ⟨b⟩ := b
  exact congrArg Str.mk (Array.toList_inj.mp h)
theorem sorted_same {xs ys : List Str} (h : sortedS xs = true) (k : sortedS ys = true) (p : xs.Perm ys) : xs = ys :=
  p.eq_of_pairwise (fun a b _ _ h1 h2 => str_ext (List.le_antisymm h1 h2)) (sorted_pw h) (sorted_pw k)
theorem depth_all {k : Nat} : ∀ {ds : List PyData}, (∀ d ∈ ds, PyData.depth d ≤ k) → PyData.depthAll ds ≤ k
  | [], _ => Nat.zero_le _
  | x :: r, h => Nat.max_le.mpr ⟨h x List.mem_cons_self, depth_all fun d hd => h d (List.mem_cons_of_mem _ hd)⟩
theorem depth_map {α : Type} {k : Nat} {l : List α} {g : α → PyData} (h : ∀ x, PyData.depth (g x) ≤ k) : PyData.depthAll (l.map g) ≤ k := depth_all fun d hd => by
  obtain ⟨x, _, e⟩ := List.mem_map.mp hd
  rw [← e]
  exact h x
theorem depth_rdD (o : Option Str) : PyData.depth (rdD o) ≤ 0 := by cases o <;> exact Nat.le_refl _
theorem depth_str (o : Str) : PyData.depth (.str o) ≤ 0 := Nat.le_refl _
theorem depth_srcD (o : Option (Str × Nat)) : PyData.depth (srcD o) ≤ 1 := by
  cases o with
  | none => exact Nat.zero_le _
  | some p => exact Nat.le_refl _
theorem depth_noteD (x : Note) : PyData.depth (noteD x) ≤ 1 := by
  have h := depth_rdD x.bef
  show max 0 (max 0 (max 0 (max (PyData.depth (rdD x.bef)) (max 0 0)))) + 1 ≤ 1
  omega
theorem depth_deedD (d : Deed) : PyData.depth (deedD d) ≤ 3 := by
  cases d with
  | write nm row =>
    have h : PyData.depthAll (row.map PyData.str) ≤ 0 := depth_map depth_str
    show max 0 (max 0 (max (PyData.depthAll (row.map PyData.str) + 1) 0)) + 1 ≤ 3
    omega
  | copy nm parts slips =>
    have h1 : PyData.depthAll (parts.map partD) ≤ 1 := depth_map fun p => Nat.le_refl _
    have h2 : PyData.depthAll (slips.map slipD) ≤ 1 := depth_map fun p => Nat.le_refl _
    show max 0 (max 0 (max (PyData.depthAll (parts.map partD) + 1) (max (PyData.depthAll (slips.map slipD) + 1) 0))) + 1 ≤ 3
    omega
  | mend nm pl rd => exact Nat.le_add_left 1 2
  | mtch nm md f l => exact Nat.le_add_left 1 2
  | lose nm f l => exact Nat.le_add_left 1 2
def spAlike (K : PySem.W.Frag) : Sp := fun vs H Q _ => ∃ (F F' : HF) (n at_ : Nat) (h h' : Hs) (ds ds' : List Deed), vs = [.ref F.p, .ref F'.p, .int n, .int (at_ : Nat)] ∧ HouseAt K H F n h ds ∧ HouseAt K H F' n h' ds' ∧ Wf n h ∧ Wf n h' ∧ Alike at_ h h' ∧ h'.cnt ≤ 30 ∧ h.notes.length ≤ 3000 ∧ n ≤ 40 ∧ h.order.length < 60 ∧
  ∀ H', Same H H' → Q (.bl true) H'
section
variable {P : Program} {w : World} {K : PySem.W.Frag} {mg : Str → Option Value} {base : Heap}
theorem c_law_same4 (T : Txt K mg) : Cal P w K mg base 5 "_law_same" (spSame 4) [] := c_law_same T 4
theorem sc_law_alike : FnScope ["_law_one", "_law_other", "_law_many", "_law_at", "_law_name", "_law_place"] ["_law_one", "_law_other", "_law_many", "_law_at"] (defScope sD_law_alike) := ⟨rfl, rfl, rfl, by decide +kernel, rfl, by decide +kernel, by decide +kernel⟩
theorem c_law_alike (T : Txt K mg) : Cal P w K mg base 6 "_law_alike" (spAlike K) [] := by
  have c_law_same := c_law_same4 (P := P) (w := w) (base := base) T
  have c_House_slips := c_House_slips (P := P) (w := w) (base := base) T
  have c_law_noted := c_law_noted (P := P) (w := w) (base := base) T
  have c_House_names := c_House_names (P := P) (w := w) (base := base) T
  have c_House_book := c_House_book (P := P) (w := w) (base := base) T
  have c_House_hands := c_House_hands (P := P) (w := w) (base := base) T
  have c_House_way := c_House_way (P := P) (w := w) (base := base) T
  have c_House_arose := c_House_arose (P := P) (w := w) (base := base) T
  have c_law_arose := c_law_arose (P := P) (w := w) (base := base) T
  refine calD T.F_law_alike T.glo_law_alike sc_law_alike (ps := ["_law_one", "_law_other", "_law_many", "_law_at"]) (k := 5) (fun _ _ _ _ _ _ us hl => match us, hl with | [_, _, _, _], _ => rfl) (fun vs H Q E h => ?_) (fun cdv A outer s H vs Q E hr h => ?_)
  · obtain ⟨_, _, _, _, _, _, _, _, rfl, _⟩ := h
    rfl
  refine ⟨_, (pss_cons (ps_if (PW.pt (pw_or (pt_cmpR (op_neD hr.units) (pe_callB cr_sortedS (by rfl) T.free_sorted (by decide +kernel) (pa_cons (pe_mt0 c_House_names hr (by decide) (pv 0)) pa_nil)) (pe_callB cr_sortedS (by rfl) T.free_sorted (by decide +kernel) (pa_cons (pe_mt0 c_House_names hr (by decide) (pv 1)) pa_nil)) (nomark _)) (pw_or1 (pt_not (pt_val (pe_c c_law_same hr (by decide) rfl (pa_cons (pe_mt0 c_House_slips hr (by decide) (pv 1)) (pa_cons (pe_c c_law_noted hr (by decide) rfl (pa_cons (pe_mt0 c_House_slips hr (by decide) (pv 0)) (pa_cons (pv 3) pa_nil))) pa_nil)))))))) (pss_one (ps_ret pe_bl)) pss_nil)
      (pss_cons (ps_for PassesOwn.never rfl (pi_list (pe_mt0 c_House_names hr (by decide) (pv 0))) (pg_name (i := 4) sc_law_alike.nd rfl (Or.inl rfl)) (pss_cons (ps_if (pt_not (pt_val (pe_c c_law_same hr (by decide) rfl (pa_cons (pe_mt c_House_book hr (by decide) (pv 1) (pa_cons (pv 4) pa_nil)) (pa_cons (pe_mt c_House_book hr (by decide) (pv 0) (pa_cons (pv 4) pa_nil)) pa_nil))))) (pss_one (ps_ret pe_bl)) pss_nil)
      (pss_one (ps_for PassesOwn.never rfl (pi_range1 (by rfl) T.free_range (pa_cons (pv 2) pa_nil)) (pg_name (i := 5) sc_law_alike.nd rfl (Or.inl rfl)) (pss_cons (ps_if (pt_not (pt_val (pe_c c_law_same hr (by decide) rfl (pa_cons (pe_mt c_House_hands hr (by decide) (pv 1) (pa_cons (pv 4) (pa_cons (pv 5) pa_nil))) (pa_cons (pe_mt c_House_hands hr (by decide) (pv 0) (pa_cons (pv 4) (pa_cons (pv 5) pa_nil))) pa_nil))))) (pss_one (ps_ret pe_bl)) pss_nil)
      (pss_cons (ps_if (pt_not (pt_val (pe_c c_law_same hr (by decide) rfl (pa_cons (pe_mt c_House_way hr (by decide) (pv 1) (pa_cons (pv 4) (pa_cons (pv 5) pa_nil))) (pa_cons (pe_mt c_House_way hr (by decide) (pv 0) (pa_cons (pv 4) (pa_cons (pv 5) pa_nil))) pa_nil))))) (pss_one (ps_ret pe_bl)) pss_nil)
      (pss_one (ps_if (pt_not (pt_val (pe_c c_law_same hr (by decide) rfl (pa_cons (pe_mt c_House_arose hr (by decide) (pv 1) (pa_cons (pv 4) (pa_cons (pv 5) pa_nil))) (pa_cons (pe_c c_law_arose hr (by decide) rfl (pa_cons (pe_mt c_House_arose hr (by decide) (pv 0) (pa_cons (pv 4) (pa_cons (pv 5) pa_nil))) (pa_cons (pv 3) pa_nil))) pa_nil))))) (pss_one (ps_ret pe_bl)) pss_nil))))))))
      (pss_one (ps_ret pe_bl)))), ?_⟩
  obtain ⟨F, F', n, at_, h, h', ds, ds', rfl, A, A', W, W', al, hc', hnl, hn, hol, k⟩ := h
  have hol' : h'.order.length < 60 := by rw [al.order.length_eq]; exact hol
  have hren := renum_alike al W' hc'
  refine seq_if (fun b H' => b = false ∧ Same H H') ?_ (fun H' z => Bool.noConfusion z.1) ?_
  · intro R hR
    refine ⟨_, rfl, F.p, F.dx, _, rfl, A.ins, hn_names _ _ _ _ _, F, n, h, ds, rfl, A, fun H1 p1 s1 f1 e1 => ⟨p1, h.order, rfl, .inl (.inl e1), by omega, fun ys1 q1 perm1 srt1 fq1 => ?_⟩⟩
    have s1q := s1.trans (same_upd (o := .lst (ys1.map .str)) fq1)
    have A2 := A'.same s1q
    refine ⟨_, rfl, F'.p, F'.dx, _, rfl, A2.ins, hn_names _ _ _ _ _, F', n, h', ds', rfl, A2, fun H3 p2 s3 f2 e2 => ⟨p2, h'.order, rfl, .inl (.inl e2), by omega, fun ys2 q2 perm2 srt2 fq2 => ?_⟩⟩
    have s3q := s3.trans (same_upd (o := .lst (ys2.map .str)) fq2)
    have hy : ys1 = ys2 := sorted_same srt1 srt2 ((perm1.trans al.order.symm).trans perm2.symm)
    have l1 : ∀ y ∈ ys1, isLetters y := fun y hy => (W.names y (perm1.mem_iff.mp hy)).1.2
    have l2 : ∀ y ∈ ys2, isLetters y := fun y hy => (W'.names y (perm2.mem_iff.mp hy)).1.2
    refine ⟨_, _, dpL (s3q _ _ upd_same), dpL upd_same, shapedS l1, shapedS l2, false, congrArg (fun z => V.bl !z) ((eqvS ys1 ys2).trans (decide_eq_true hy)), iteF ?_⟩
    have s4 := s1q.trans s3q
    have A4' := A'.same s4
    refine ⟨_, rfl, F'.p, F'.dx, _, rfl, A4'.ins, hn_slips _ _ _ _ _, F', n, h', ds', rfl, A4', fun H5 p3 us s5 f3 e3 d3 => ?_⟩
    have A5 := (A.same s4).same s5
    refine ⟨_, rfl, F.p, F.dx, _, rfl, A5.ins, hn_slips _ _ _ _ _, F, n, h, ds, rfl, A5, fun H6 p4 vs s6 f4 e4 d4 => ⟨_, rfl, p4, vs, h.notes, at_, rfl, e4, d4, hnl, fun H7 p5 ws s7 e5 d5 => ?_⟩⟩
    rw [hren] at d5
    have s67 := s6.trans s7
    refine ⟨.ref p3, .ref p5, .list (h'.notes.map noteD), rfl, .lst (s67 _ _ e3) (d3.same s67), .lst e5 d5, ?_, fun H8 s8 => ⟨true, rfl, hR _ _ ⟨rfl, ((s4.trans s5).trans s67).trans s8⟩⟩⟩
    have hd : PyData.depthAll (h'.notes.map noteD) ≤ 1 := depth_map depth_noteD
    show PyData.depthAll (h'.notes.map noteD) + 1 ≤ 4
    omega
  · rintro H1 ⟨_, s1⟩
    dsimp only [tNext]
    have A1 := A.same s1
    refine ⟨_, rfl, F.p, F.dx, _, rfl, A1.ins, hn_names _ _ _ _ _, F, n, h, ds, rfl, A1, fun H2 p6 s2 f6 e6 => ⟨p6, rfl, ⟨_, .inl (.inl e6)⟩, for_it (walk_list (xs := h.order.map .str)) (fun i σ H' => Same H2 H' ∧ ∃ v4 v5, σ = [some (.ref F.p), some (.ref F'.p), some (.int n), some (.int (at_ : Nat)), v4, v5])
      ⟨Same.refl _, none, none, rfl⟩ (fun i σ H' _ g => .inl (.inl (g.1 _ _ e6))) ?_ ?_⟩⟩
    · rintro i x σ H3 H4 hi ⟨s3, v4, v5, rfl⟩ ⟨rfl, hx⟩
      rw [List.getElem?_map] at hx
      cases q : h.order[i]? with
      | none => rw [q] at hx; cases hx
      | some m =>
        rw [q] at hx
        cases hx
        have hm : m ∈ h.order := List.mem_of_getElem? q
        have hm' : m ∈ h'.order := al.order.mem_iff.mpr hm
        have s123 := (s1.trans s2).trans s3
        have hbl : (h.bk m).length = n := W.long m hm
        have hbl' : (h'.bk m).length = n := W'.long m hm'
        have A3 := A.same s123
        have A3' := A'.same s123
        have erow : (h'.bk m).map (fun c => rdD c.rd) = (h.bk m).map (fun c => rdD c.rd) := by
          rw [al.bk m, List.map_map]
          rfl
        refine ⟨_, rfl, F'.p, F'.dx, _, rfl, A3'.ins, hn_book _ _ _ _ _, _, rfl, F', n, h', ds', m, rfl, A3', hm', by omega, fun Ha va sa da => ?_⟩
        have A4 := A3.same sa
        refine ⟨_, rfl, F.p, F.dx, _, rfl, A4.ins, hn_book _ _ _ _ _, _, rfl, F, n, h, ds, m, rfl, A4, hm, by omega, fun Hb vb sb db => ?_⟩
        rw [erow] at da
        refine ⟨va, vb, _, rfl, .inl (da.same sb), .inl db, ?_, fun Hc sc => ⟨true, rfl, iteF ?_⟩⟩
        · have hd : PyData.depthAll ((h.bk m).map fun c => rdD c.rd) ≤ 0 := depth_map fun c => depth_rdD c.rd
          show PyData.depthAll ((h.bk m).map fun c => rdD c.rd) + 1 ≤ 4
          omega
        have s4 := (sa.trans sb).trans sc
        refine ⟨_, rfl, (n : Int), rfl, by omega, by omega, for_it (walk_range (lo := 0) (n := n)) (fun j σ H' => Same H4 H' ∧ ∃ v5, σ = [some (.ref F.p), some (.ref F'.p), some (.int n), some (.int (at_ : Nat)), some (.str m), v5])
          ⟨s4, _, rfl⟩ (fun _ _ _ _ _ => trivial) ?_ ?_⟩
        · rintro j x σ H5 H6 hj ⟨s5, v5, rfl⟩ ⟨rfl, hx⟩
          obtain rfl : x = .int ((j : Nat) : Int) := by rw [hx]; show V.int (0 + (j : Int)) = _; rw [Int.zero_add]
          obtain ⟨c, hc⟩ : ∃ c, (h.bk m)[j]? = some c := ⟨_, List.getElem?_eq_getElem (by omega)⟩
          have hc2 : (h'.bk m)[j]? = some (mapC (sw at_) c) := by rw [al.bk m, List.getElem?_map, hc]; rfl
          have A5 := A3.same s5
          have A5' := A3'.same s5
          refine ⟨_, rfl, F'.p, F'.dx, _, rfl, A5'.ins, hn_hands _ _ _ _ _, _, rfl, _, rfl, F', n, h', ds', m, j, _, rfl, A5', hm', hc2, fun v1 dv1 => ?_⟩
          refine ⟨_, rfl, F.p, F.dx, _, rfl, A5.ins, hn_hands _ _ _ _ _, _, rfl, _, rfl, F, n, h, ds, m, j, _, rfl, A5, hm, hc, fun v2 dv2 => ?_⟩
          refine ⟨v1, v2, _, rfl, .inl dv1, .inl dv2, ?_, fun H7 s7 => ⟨true, rfl, iteF ?_⟩⟩
          · have hd : PyData.depthAll (c.st.map rdD) ≤ 0 := depth_map depth_rdD
            show PyData.depthAll (c.st.map rdD) + 1 ≤ 4
            omega
          dsimp only [tNext]
          have A7 := A5.same s7
          have A7' := A5'.same s7
          refine seq_if (fun b H' => b = false ∧ Same H7 H') ?_ (fun H' z => Bool.noConfusion z.1) ?_
          · intro R hR
            cases hrd : c.rd with
            | none =>
              refine ⟨_, rfl, F'.p, F'.dx, _, rfl, A7'.ins, hn_way _ _ _ _ _, _, rfl, _, rfl, F', n, h', ds', m, j, _, rfl, A7', hm', hc2, fun _ => ?_, fun z => absurd hrd z⟩
              refine ⟨_, rfl, F.p, F.dx, _, rfl, A7.ins, hn_way _ _ _ _ _, _, rfl, _, rfl, F, n, h, ds, m, j, _, rfl, A7, hm, hc, fun _ => ?_, fun z => absurd hrd z⟩
              exact ⟨.non, .non, .none, rfl, .inl .non, .inl .non, Nat.zero_le _, fun H8 s8 => ⟨true, rfl, hR _ _ ⟨rfl, s8⟩⟩⟩
            | some r =>
              have nn : c.rd ≠ none := by rw [hrd]; intro z; cases z
              refine ⟨_, rfl, F'.p, F'.dx, _, rfl, A7'.ins, hn_way _ _ _ _ _, _, rfl, _, rfl, F', n, h', ds', m, j, _, rfl, A7', hm', hc2, fun z => absurd z nn, fun _ Hx px ux sx ex dx => ?_⟩
              have A8 := A7.same sx
              refine ⟨_, rfl, F.p, F.dx, _, rfl, A8.ins, hn_way _ _ _ _ _, _, rfl, _, rfl, F, n, h, ds, m, j, _, rfl, A8, hm, hc, fun z => absurd z nn, fun _ Hy py uy sy ey dy => ?_⟩
              refine ⟨.ref px, .ref py, _, rfl, .lst (sy _ _ ex) (dx.same sy), .lst ey dy, ?_, fun H8 s8 => ⟨true, rfl, hR _ _ ⟨rfl, (sx.trans sy).trans s8⟩⟩⟩
              have hd : PyData.depthAll (c.came.map PyData.str) ≤ 0 := depth_map depth_str
              show PyData.depthAll (c.came.map PyData.str) + 1 ≤ 4
              omega
          · rintro H8 ⟨_, s8⟩
            dsimp only [tNext]
            have A8 := A7.same s8
            have A8' := A7'.same s8
            refine ⟨_, rfl, F'.p, F'.dx, _, rfl, A8'.ins, hn_arose _ _ _ _ _, _, rfl, _, rfl, F', n, h', ds', m, j, _, rfl, A8', hm', hc2, fun v3 dv3 => ?_⟩
            refine ⟨_, rfl, F.p, F.dx, _, rfl, A8.ins, hn_arose _ _ _ _ _, _, rfl, _, rfl, F, n, h, ds, m, j, _, rfl, A8, hm, hc, fun v4 dv4 => ?_⟩
            refine ⟨_, rfl, v4, c.src, at_, rfl, dv4, fun H9 u s9 du => ?_⟩
            refine ⟨v3, u, _, rfl, .inl (dv3.same s9), .inl du, Nat.le_trans (depth_srcD _) (by decide), fun H10 s10 => ⟨true, rfl, iteF ?_⟩⟩
            exact ⟨(((s5.trans s7).trans s8).trans s9).trans s10, _, rfl⟩
        · rintro σ H5 ⟨s5, v5, rfl⟩
          exact ⟨s3.trans s5, _, _, rfl⟩
    · rintro σ H3 ⟨s3, v4, v5, rfl⟩
      exact k _ ((s1.trans s2).trans s3)
end
end K69

set_option maxRecDepth 100000
set_option maxHeartbeats 4000000
/-! The law. -/
namespace K69
open PySem PySem.Spec PyProof.Rows L2
open C8 (Cal Mak Met pe_c pe_mk pe_mt pe_mt0 pe_gc)

theorem split2 : ∀ {ds : List Deed} {i : Nat}, i + 1 < ds.length → ∃ A d e B, ds = A ++ d :: e :: B ∧ A.length = i
  | [], _, h => absurd h (Nat.not_lt_zero _)
  | [x], i, h => absurd h (by simp)
  | d :: e :: r, 0, _ => ⟨[], d, e, r, rfl, rfl⟩
  | d :: r, i + 1, h => by
    obtain ⟨A, x, y, B, e1, e2⟩ := split2 (ds := r) (i := i) (by rw [List.length_cons] at h; omega)
    exact ⟨d :: A, x, y, B, by rw [e1]; rfl, by rw [List.length_cons, e2]⟩
theorem StAt.dr {K : PySem.W.Frag} {H : Hp} {q a : Addr} {ns : List Int} (s : StAt K H q a ns) {F : HF} {n : Nat} {h : Hs} {ds : List Deed} {H' : Hp} (A : HouseAt K H F n h ds) (na : a ∉ F.fp h.order) (d : Dr K H H' q a ns) : HouseAt K H' F n h ds :=
  A.keep (d.kp s) fun x hx o e => d.at_ e fun z => na (z ▸ hx)
theorem two_models {n : Nat} {A B : List Deed} {d e : Deed} (v : Valid n init (A ++ d :: e :: B)) : d.models.length ≤ n + 1 ∧ e.models.length ≤ n + 1 := by
  obtain ⟨_, v1, v2, _⟩ := (valid_append n A init (d :: e :: B)).mp v
  exact ⟨models_len v1, models_len v2⟩
structure TurnOk (n : Nat) (ds ds' : List Deed) (a : Nat) : Prop where
  al : Alike a (run init ds) (run init ds')
  val : Valid n init ds'
  w : Wf n (run init ds)
  w' : Wf n (run init ds')
  cnt : (run init ds').cnt ≤ 30
  notes : (run init ds).notes.length ≤ 3000
  few : (run init ds).order.length < 60
theorem turnOk {n : Nat} {A B : List Deed} {d e : Deed} (v : Valid n init (A ++ d :: e :: B)) (hn : n ≤ 40) (hl : (A ++ d :: e :: B).length ≤ 22) (nt : ¬ tied d e) : TurnOk n (A ++ d :: e :: B) (A ++ e :: d :: B) A.length := by
  obtain ⟨v2, al⟩ := exchange v nt
  have w := wf_run _ _ (wf_init n) v
  have hc : (run init (A ++ d :: e :: B)).cnt = (A ++ d :: e :: B).length := by rw [run_cnt]; exact Nat.zero_add _
  refine ⟨al, v2, w, wf_run _ _ (wf_init n) v2, ?_, ?_, ?_⟩
  · rw [al.cnt, hc]
    omega
  · have h1 := notes_len _ _ v
    have h2 : (n + 1) * (A ++ d :: e :: B).length ≤ 41 * 22 := Nat.mul_le_mul (by omega) hl
    have h3 : init.notes.length = 0 := rfl
    omega
  · have := w.few
    omega
def spLaw (K : PySem.W.Frag) : Sp := fun vs H Q _ => ∃ (q : Addr) (ns : List Int), vs = [.ref q] ∧ SqL K H q (ns.map V.int) ∧ ∀ H', Q (.bl true) H'
section
variable {P : Program} {w : World} {K : PySem.W.Frag} {mg : Str → Option Value} {base : Heap}
theorem sc_law : FnScope ["_law_script", "_law_state", "_law_many", "_law_great", "_law_deeds", "_law_house", "_law_at", "_law_other", "_law_turn", "_law_later"] ["_law_script"] (defScope sD_law) := ⟨rfl, rfl, rfl, by decide +kernel, rfl, by decide +kernel, by decide +kernel⟩
theorem law_body (T : Txt K mg) {cdv : Value} {A : Around} {outer : List Env} {s : Shared} {H : Hp} {vs : List V} {Q : VK} {E : XK} (hr : Room 8 (A.deeper (envOfC "law" (defScope sD_law) s.heap.objs.size (He.fAd K dD_law.at_) cdv))) (h : spLaw K vs H Q E) :
    ∃ t, PSs (cxOf CX0 P w K mg base ["_law_script", "_law_state", "_law_many", "_law_great", "_law_deeds", "_law_house", "_law_at", "_law_other", "_law_turn", "_law_later"] "law" (defScope sD_law) (He.fAd K dD_law.at_) cdv A outer s H E).nox (defBody sD_law) t ∧ t { nx := fun _ H' => Q .non H', rt := Q } (start ["_law_script", "_law_state", "_law_many", "_law_great", "_law_deeds", "_law_house", "_law_at", "_law_other", "_law_turn", "_law_later"] vs) H := by
  have c_law_next := c_law_next (P := P) (w := w) (base := base) T
  have c_law_drawn := c_law_drawn (P := P) (w := w) (base := base) T
  have c_played := c_played (P := P) (w := w) (base := base) T
  have c_law_changed := c_law_changed (P := P) (w := w) (base := base) T
  have c_law_alike := c_law_alike (P := P) (w := w) (base := base) T
  have c_law_same := c_law_same4 (P := P) (w := w) (base := base) T
  have c_House_deeds := c_House_deeds (P := P) (w := w) (base := base) T
  refine ⟨_, (pss_cons (ps_set (i := 1) sc_law.nd rfl (Or.inl rfl) (pe_lst (pa_cons (pv 0) (pa_cons pe_int (pa_cons pe_int (pa_cons pe_int pa_nil))))))
      (pss_cons (ps_set (i := 2) sc_law.nd rfl (Or.inl rfl) (pe_ix ix_list (pe_lst (pa_cons (pe_op op_add pe_int (pe_c c_law_next hr (by decide) rfl (pa_cons (pv 1) (pa_cons pe_int pa_nil)))) (pa_cons (pe_op op_add pe_int (pe_c c_law_next hr (by decide) rfl (pa_cons (pv 1) (pa_cons pe_int pa_nil)))) pa_nil))) (pe_callTy call_int1 (by rfl) T.free_int (by decide +kernel) (pa_cons (pe_cmpR op_eq (pe_c c_law_next hr (by decide) rfl (pa_cons (pv 1) (pa_cons pe_int pa_nil))) pe_int (nomark _)) pa_nil)) (fun _ _ => rfl)))
      (pss_cons (ps_set (i := 3) sc_law.nd rfl (Or.inl rfl) (pe_callTy call_int1 (by rfl) T.free_int (by decide +kernel) (pa_cons (pe_cmpR op_gt (pv 2) pe_int (nomark _)) pa_nil)))
      (pss_cons (ps_set (i := 4) sc_law.nd rfl (Or.inl rfl) (pe_c c_law_drawn hr (by decide) rfl (pa_cons (pv 1) (pa_cons (pv 2) (pa_cons (pe_ix ix_list (pe_lst (pa_cons pe_int (pa_cons pe_int pa_nil))) (pv 3) (fun _ _ => rfl)) (pa_cons (pe_ix ix_list (pe_lst (pa_cons pe_int (pa_cons pe_int pa_nil))) (pv 3) (fun _ _ => rfl)) pa_nil))))))
      (pss_cons (ps_set (i := 5) sc_law.nd rfl (Or.inl rfl) (pe_c c_played hr (by decide) rfl (pa_cons (pv 2) (pa_cons (pv 4) pa_nil))))
      (pss_cons (ps_for PassesOwn.never rfl (pi_range1 (by rfl) T.free_range (pa_cons (pe_op op_sub (pe_callB call_len_seq (by rfl) T.free_len PySem.boot_len (pa_cons (pv 4) pa_nil)) pe_int) pa_nil)) (pg_name (i := 6) sc_law.nd rfl (Or.inl rfl)) (pss_cons (ps_set (i := 7) sc_law.nd rfl (Or.inl rfl) (pe_c c_law_changed hr (by decide) rfl (pa_cons (pv 4) (pa_cons (pv 6) pa_nil))))
      (pss_one (ps_if (PW.pt (pw_and (pt_cmp (pc_notN (pv 7))) (pw_and1 (pt_not (pt_val (pe_c c_law_alike hr (by decide) rfl (pa_cons (pv 5) (pa_cons (pe_c c_played hr (by decide) rfl (pa_cons (pv 2) (pa_cons (pv 7) pa_nil))) (pa_cons (pv 2) (pa_cons (pv 6) pa_nil)))))))))) (pss_one (ps_ret pe_bl)) pss_nil))))
      (pss_cons (ps_for PassesOwn.never rfl (pi_range1 (by rfl) T.free_range (pa_cons (pe_ix ix_list (pe_lst (pa_cons pe_int (pa_cons (pe_ix ix_list (pe_lst (pa_cons pe_int (pa_cons pe_int pa_nil))) (pv 3) (fun _ _ => rfl)) pa_nil))) (pe_c c_law_next hr (by decide) rfl (pa_cons (pv 1) (pa_cons pe_int pa_nil))) (fun _ _ => rfl)) pa_nil)) (pg_name (i := 8) sc_law.nd rfl (Or.inl rfl)) (pss_cons (ps_set (i := 6) sc_law.nd rfl (Or.inl rfl) (pe_c c_law_next hr (by decide) rfl (pa_cons (pv 1) (pa_cons (pe_op op_sub (pe_callB call_len_seq (by rfl) T.free_len PySem.boot_len (pa_cons (pv 4) pa_nil)) pe_int) pa_nil))))
      (pss_cons (ps_set (i := 7) sc_law.nd rfl (Or.inl rfl) (pe_c c_law_changed hr (by decide) rfl (pa_cons (pv 4) (pa_cons (pv 6) pa_nil))))
      (pss_one (ps_if (pt_cmp (pc_notN (pv 7))) (pss_cons (ps_set (i := 9) sc_law.nd rfl (Or.inl rfl) (pe_c c_played hr (by decide) rfl (pa_cons (pv 2) (pa_cons (pv 7) pa_nil))))
      (pss_cons (ps_if (pt_not (pt_val (pe_c c_law_alike hr (by decide) rfl (pa_cons (pv 5) (pa_cons (pv 9) (pa_cons (pv 2) (pa_cons (pv 6) pa_nil))))))) (pss_one (ps_ret pe_bl)) pss_nil)
      (pss_cons (ps_set (i := 4) sc_law.nd rfl (Or.inl rfl) (pv 7))
      (pss_one (ps_set (i := 5) sc_law.nd rfl (Or.inl rfl) (pv 9)))))) pss_nil)))))
      (pss_one (ps_ret (pe_c c_law_same hr (by decide) rfl (pa_cons (pe_mt0 c_House_deeds hr (by decide) (pv 5)) (pa_cons (pv 4) pa_nil)))))))))))), ?_⟩
  obtain ⟨q, ns, rfl, hS, k⟩ := h
  refine ⟨_, rfl, sz (szn 4), fun a ha => ?_⟩
  have S0 : StAt K (upd H a (.lst [.ref q, .int 0, .int 0, .int 69])) q a ns := ⟨⟨0, 0, 69, upd_same, Int.le_refl _⟩, (same_upd ha).seq hS⟩
  refine ⟨_, rfl, q, a, ns, 6, rfl, S0, by decide, by decide, fun H1 v1 f1 S1 h1 => ⟨_, _, rfl, rfl, _, rfl, q, a, ns, 40, rfl, S1, by decide, by decide, fun H2 v2 f2 S2 h2 => ⟨_, _, rfl, rfl, sz (szn 2), fun p hp => ?_⟩⟩⟩
  have s3 := same_upd (o := .lst [.int (1 + (v1 : Int)), .int (1 + (v2 : Int))]) hp
  have S3 := S2.same s3
  refine ⟨_, rfl, q, a, ns, 4, rfl, S3, by decide, by decide, fun H4 v4 f4 S4 h4 => ⟨rfl, .inr ⟨_, rfl, ?_⟩⟩⟩
  have g4 := Dr.at_ ⟨f4, S4⟩ (upd_same : upd H2 p (.lst [.int (1 + (v1 : Int)), .int (1 + (v2 : Int))]) p = _) (S2.some_ hp)
  generalize decide (V.int (v4 : Nat) = V.int 0) = b0
  obtain ⟨n, hn1, hn2, hat⟩ : ∃ n : Nat, 1 ≤ n ∧ n ≤ 40 ∧ atI [V.int (1 + (v1 : Int)), .int (1 + (v2 : Int))] (if b0 = true then 1 else 0) = some (.int n) := by
    cases b0 with
    | true => exact ⟨1 + v2, by omega, by omega, congrArg (fun z : Int => some (V.int z)) (by omega)⟩
    | false => exact ⟨1 + v1, by omega, by omega, congrArg (fun z : Int => some (V.int z)) (by omega)⟩
  refine ⟨p, _, _, .int (n : Nat), rfl, rfl, .inl (.inl g4), hat, ?_⟩
  refine ⟨_, rfl, _, _, rfl, rfl, .inr ⟨_, rfl, ?_⟩⟩
  generalize decide ((6 : Int) < (n : Nat)) = b1
  obtain ⟨more, hm1, hm2, hmat⟩ : ∃ m : Nat, 1 ≤ m ∧ m ≤ 10 ∧ atI [V.int 7, .int 2] (if b1 = true then 1 else 0) = some (.int m) := by
    cases b1 with
    | true => exact ⟨2, by decide, by decide, rfl⟩
    | false => exact ⟨7, by decide, by decide, rfl⟩
  obtain ⟨most, hm3, hm4, hmat2⟩ : ∃ m : Nat, 1 ≤ m ∧ m ≤ 20 ∧ atI [V.int 20, .int 9] (if b1 = true then 1 else 0) = some (.int m) := by
    cases b1 with
    | true => exact ⟨9, by decide, by decide, rfl⟩
    | false => exact ⟨20, by decide, by decide, rfl⟩
  obtain ⟨rows, hrw1, hrw2⟩ : ∃ m : Nat, m ≤ 20 ∧ atI [V.int 20, .int 5] (if b1 = true then 1 else 0) = some (.int m) := by
    cases b1 with
    | true => exact ⟨5, by decide, rfl⟩
    | false => exact ⟨20, by decide, rfl⟩
  refine ⟨_, rfl, _, rfl, sz (szn 2), fun p1 hp1 => ⟨_, rfl, p1, _, _, .int (more : Nat), rfl, rfl, .inl (.inl upd_same), hmat, sz (szn 2), fun p2 hp2 => ⟨_, rfl, p2, _, _, .int (most : Nat), rfl, rfl, .inl (.inl upd_same), hmat2, ?_⟩⟩⟩
  have S5 := (S4.same (same_upd (o := .lst [.int 7, .int 2]) hp1)).same (same_upd (o := .lst [.int 20, .int 9]) hp2)
  refine ⟨q, a, ns, n, more, most, rfl, S5, hn1, hn2, hm1, hm2, hm3, hm4, fun H6 pd us ds D6 hpd hus hdP hval hl1 hl2 => ?_⟩
  have npd : pd ≠ a := S5.some_ hpd
  refine ⟨_, rfl, _, rfl, n, pd, us, ds, rfl, hus, hdP, hval, by omega, hn2, fun H7 F s7 A7 hf7 => ?_⟩
  have S7 := D6.st.same s7
  have us7 := s7 _ _ hus
  have dP7 := hdP.imp fun x y => Dt.same s7
  have hul : us.length = ds.length := dP7.len
  have S7a : a ∉ F.fp (run init ds).order := fun z => D6.st.some_ (hf7 a z) rfl
  refine ⟨_, rfl, _, _, rfl, .inl (.inl (.inl (us7))), _, _, rfl, rfl, (us.length : Int) - 1, rfl, by omega, by omega, for_it (walk_range (lo := 0) (n := ((us.length : Int) - 1).toNat)) (fun i σ H' => Same H7 H' ∧ ∃ v6 v7, σ = [some (.ref q), some (.ref a), some (.int (n : Nat)), some (.int (if b1 = true then 1 else 0)), some (.ref pd), some (.ref F.p), v6, v7, none, none])
    ⟨Same.refl _, none, none, rfl⟩ (fun _ _ _ _ _ => trivial) ?_ ?_⟩
  · rintro i x σ H8 H9 hi ⟨s8, v6, v7, rfl⟩ ⟨rfl, hx⟩
    obtain rfl : x = .int ((i : Nat) : Int) := by rw [hx]; show V.int (0 + (i : Int)) = _; rw [Int.zero_add]
    obtain ⟨B1, d, e, B2, hds, hA⟩ := split2 (ds := ds) (i := i) (by omega)
    subst hds
    have hmo := two_models hval
    have dP8 := dP7.imp fun x y => Dt.same s8
    have A8 := A7.same s8
    refine ⟨_, rfl, _, rfl, pd, us, B1, B2, d, e, congrArg (fun z : Nat => [V.ref pd, V.int z]) hA.symm, s8 _ _ us7, dP8, by omega, by omega, by omega, fun ht H10 s10 => ?_, fun nt H10 p' ys s10 _ hy hP => ?_⟩
    · exact ⟨_, rfl, false, congrArg V.bl (by rw [decide_eq_true rfl]; rfl), iteF (iteF ⟨s8.trans s10, _, _, rfl⟩)⟩
    · have t := turnOk hval hn2 hl2 nt
      refine ⟨_, rfl, true, congrArg V.bl (by rw [decide_eq_false (fun z => nomatch z)]; rfl), iteT ⟨_, rfl, _, rfl, _, rfl, n, p', ys, B1 ++ e :: d :: B2, rfl, hy, hP, t.val, ?_, hn2, fun H11 F2 s11 A11 _ => ?_⟩⟩
      · rw [List.length_append, List.length_cons, List.length_cons] at hl2 ⊢
        omega
      refine ⟨_, rfl, _, rfl, F, F2, n, i, _, _, _, _, rfl, (A8.same s10).same s11, A11, t.w, t.w', hA ▸ t.al, t.cnt, t.notes, hn2, t.few, fun H12 s12 => ⟨true, rfl, iteF ?_⟩⟩
      exact ⟨((s8.trans s10).trans s11).trans s12, _, _, rfl⟩
  · rintro σ H8 ⟨s8, v6, v7, rfl⟩
    refine ⟨sz (szn 2), fun p3 hp3 => ⟨_, rfl, p3, _, _, .int (rows : Nat), rfl, rfl, .inl (.inl upd_same), hrw2, sz (szn 2), fun p4 hp4 => ?_⟩⟩
    have s34 := (same_upd (o := .lst [.int 20, .int 5]) hp3).trans (same_upd (o := .lst [.int 0, .int (rows : Nat)]) hp4)
    have s9 := s8.trans s34
    have S9 := S7.same s9
    refine ⟨_, rfl, q, a, ns, 2, rfl, S9, by decide, by decide, fun H10 v10 f10 S10 hv10 => ?_⟩
    have na4 : p4 ≠ a := ((S7.same s8).same (same_upd hp3)).some_ hp4
    obtain ⟨c, hc1, hc2⟩ : ∃ c : Nat, c ≤ 20 ∧ [V.int 0, .int (rows : Nat)][v10]? = some (.int (c : Nat)) := by
      match v10, hv10 with
      | 0, _ => exact ⟨0, by decide, rfl⟩
      | 1, _ => exact ⟨rows, hrw1, rfl⟩
    refine ⟨p4, _, _, _, rfl, rfl, .inl (.inl (Dr.at_ ⟨f10, S10⟩ upd_same na4)), at_of (j := v10) rfl hc2, (c : Nat), rfl, by omega, by omega, ?_⟩
    have D10 : Dr K _ H10 q a ns := ⟨f10, S10⟩
    refine for_it (walk_range (lo := 0) (n := c)) (fun i σ H' => ∃ p us ds F v6 v7 v8 v9, σ = [some (.ref q), some (.ref a), some (.int (n : Nat)), some (.int (if b1 = true then 1 else 0)), some (.ref p), some (.ref F.p), v6, v7, v8, v9] ∧ StAt K H' q a ns ∧ H' p = some (.lst us) ∧ p ≠ a ∧
        Pw (DeedsR H') us ds ∧ Valid n init ds ∧ 3 ≤ ds.length ∧ ds.length ≤ 22 ∧ HouseAt K H' F n (run init ds) ds ∧ a ∉ F.fp (run init ds).order)
      ⟨pd, us, ds, F, _, _, none, none, rfl, S10, D10.at_ (s9 _ _ us7) npd, npd, (dP7.imp fun x y => Dt.same s9).imp fun x y => Dt.kp (D10.kp S9) _ _, hval, hl1, hl2, S9.dr (A7.same s9) S7a D10, S7a⟩ (fun _ _ _ _ _ => trivial) ?_ ?_
    · rintro i x σ H11 H12 hi ⟨p, us, ds, F, v6, v7, v8, v9, rfl, S11, u11, npa, dP11, hval, hl1, hl2, A11, na11⟩ ⟨rfl, hx⟩
      have hul : us.length = ds.length := dP11.len
      refine ⟨_, rfl, _, rfl, _, _, rfl, .inl (.inl (.inl (u11))), _, _, rfl, rfl, q, a, ns, us.length - 1, congrArg (fun z : Int => [V.ref a, V.int z]) (by omega), S11, by omega, by omega, fun H13 v13 f13 S13 hv13 => ?_⟩
      have D13 : Dr K _ H13 q a ns := ⟨f13, S13⟩
      have u13 := D13.at_ u11 npa
      have dP13 := dP11.imp fun x y => Dt.kp (D13.kp S11) _ _
      have A13 := S11.dr A11 na11 D13
      obtain ⟨B1, d, e, B2, hds, hA⟩ := split2 (ds := ds) (i := v13) (by omega)
      subst hds
      have hmo := two_models hval
      refine ⟨_, rfl, _, rfl, p, us, B1, B2, d, e, congrArg (fun z : Nat => [V.ref p, V.int z]) hA.symm, u13, dP13, by omega, by omega, by omega, fun ht H14 s14 => ?_, fun nt H14 p' ys s14 hp' hy hP => ?_⟩
      · refine ⟨_, rfl, false, congrArg V.bl (by rw [decide_eq_true rfl]; rfl), iteF ?_⟩
        exact ⟨p, us, _, F, _, _, _, _, rfl, S13.same s14, s14 _ _ u13, npa, dP13.imp fun x y => Dt.same s14, hval, hl1, hl2, A13.same s14, na11⟩
      · have t := turnOk hval hn2 hl2 nt
        have hlen : (B1 ++ e :: d :: B2).length = (B1 ++ d :: e :: B2).length := by
          rw [List.length_append, List.length_append]
          rfl
        refine ⟨_, rfl, true, congrArg V.bl (by rw [decide_eq_false (fun z => nomatch z)]; rfl), iteT ⟨_, rfl, _, rfl, n, p', ys, B1 ++ e :: d :: B2, rfl, hy, hP, t.val, by omega, hn2, fun H15 F2 s15 A15 hf15 => ?_⟩⟩
        refine ⟨_, rfl, _, rfl, _, rfl, _, rfl, F, F2, n, v13, _, _, _, _, rfl, (A13.same s14).same s15, A15, t.w, t.w', hA ▸ t.al, t.cnt, t.notes, hn2, t.few, fun H16 s16 => ⟨true, rfl, iteF ?_⟩⟩
        have s156 := s15.trans s16
        have S14 := S13.same s14
        exact ⟨_, rfl, _, rfl, p', ys, B1 ++ e :: d :: B2, F2, _, _, _, _, rfl, S14.same s156, s156 _ _ hy, S13.some_ hp', hP.imp fun x y => Dt.same s156, t.val, by omega, by omega, A15.same s16, fun z => S14.some_ (hf15 a z) rfl⟩
    · rintro σ H11 ⟨p, us, ds, F, v6, v7, v8, v9, rfl, S11, u11, npa, dP11, hval, hl1, hl2, A11, na11⟩
      refine ⟨_, rfl, F.p, F.dx, _, rfl, A11.ins, hn_deeds _ _ _ _ _, F, n, _, ds, rfl, A11, by omega, fun H12 p1 us1 s12 f12 e12 d12 => ?_⟩
      refine ⟨_, rfl, .ref p1, .ref p, .list (ds.map deedD), rfl, .lst e12 d12, .lst (s12 _ _ u11) (dP11.imp fun x y => Dt.same s12).mapR.dt, ?_, fun H13 s13 => k H13⟩
      have hd : PyData.depthAll (ds.map deedD) ≤ 3 := depth_map depth_deedD
      show PyData.depthAll (ds.map deedD) + 1 ≤ 4
      omega
end
end K69

set_option maxRecDepth 100000
set_option maxHeartbeats 4000000
/-! The law's function, and the end. -/
namespace K69
open PySem PySem.Spec PyProof.Rows L2
theorem lawFacts {P : Program} {w : World} {K : PySem.W.Frag} {h : Heap} {mg : Str → Option Value} {f : Addr} (X : K.In h) (G : h.Ns mainGlobals mg) (hfa : mg ("law" : Str) = some (.ref f)) (c : He.SaysD faL fnL K) :
    ∃ fd : FuncData, (∀ (s : Shared) (v : Value), BindsTo s fd ⟨[v], []⟩ [("_law_script", v)]) ∧ ∀ base : Heap, K.In base → base.Ns mainGlobals mg → FnOk P w K mg base CX0 9 f fd ["_law_script"] (spLaw K) := by
  have T : Txt K mg := ⟨c, h, X, G⟩
  obtain ⟨fd, F⟩ := T.F_law
  have e := hfa.symm.trans T.glo_law
  cases e
  have b := FunD.bindsA (ps := ["_law_script"]) F fun _ _ _ _ _ _ us hl => match us, hl with | [_], _ => rfl
  refine ⟨fd, fun s v => b s [v] rfl, fun base _ _ => F.ok sc_law (fun vs H Q E h => ?_) (fun cdv A outer s H vs Q E hr h => (law_body T hr h).imp fun t z => ⟨z.1.nox, z.2⟩)⟩
  obtain ⟨_, _, rfl, _⟩ := h
  rfl
end K69
open PySem PySem.W PySem.Calls PyProof.Rows
set_option maxHeartbeats 0
theorem PySem.Challenge.cw_copystem_k69_whole_either_order_holds : PySem.Challenge.rw_copystem_k69_whole_either_order.Holds := by
  w_on; o_law
  refine HandSHeadRun.head_any (r := K69.R) (q := view K69.R.prog [K69.lawAt]) (H := K69.hk) (ob := K69.ob) (M := 6000) (loose := K69.looseL) (d := HandSHeadRun.topDef K69.R.prog K69.lawAt) (kwd := []) K69.ob_eq
    (by kernel_rfl) (fun s => by kernel_rfl) K69.headRun (by kernel_rfl) (by kernel_rfl) (by kernel_rfl) (by rfl) (by first | assumption | decide +kernel) (by decide +kernel) ⟨rfl, rfl, rfl, rfl, rfl, by decide +kernel⟩ ?hw ?hc
  case hw => w_witness2
  case hc =>
    refine L2.walk_ofE (l := PySem.Challenge.rw_copystem_k69_whole_either_order) (n := 63) (k := 9) (x := "_law_script") (CX := L2.CX0) rfl (by decide) (by kernel_rfl) ⟨rfl, by decide, by decide⟩ ?F (fun _ _ _ _ z => z)
    intro w mg fa h Y G hmg0
    obtain ⟨K, KX, c⟩ := Y
    have hmg : mg ("law" : PySem.Str) = some (.ref fa) := by
      have e : (HandSHeadRun.topDef K69.R.prog K69.lawAt).name = ("law" : PySem.Str) := by kernel_rfl
      rw [← e]
      exact hmg0
    obtain ⟨fd, hb, hF⟩ := K69.lawFacts (P := (PySem.Challenge.rw_copystem_k69_whole_either_order).prog) (w := w) KX G hmg c
    exact ⟨K, fd, K69.spLaw K, KX, hb, fun H a ns hl _ hS => ⟨a, ns, rfl, hS, fun _ => rfl⟩, hF⟩
