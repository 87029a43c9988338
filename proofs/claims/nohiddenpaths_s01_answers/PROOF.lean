import PyProof.Rows.All
import PySu201
import Wide.All
import OpenK.AllK
import Wide.FinOn
import Open.SpecLaws
import KE.OsHead
import KE.OsGo
import HandS.ForSpec
import HandS.Comp
import HandS.Iter
import HandS.Dict
import HandS.TupSets
import HandS.Defaults
import HandS.Codes
import HandS.Lambda
import HandS.Nested
import HandS.CallLocal
import HandS.HeadHook1
import HandS.HeadHook2
import PySem.Challenge.RW_nohiddenpaths_s01_answers
import HandS.Walk
import HandS.Conv
import KE.SortKeyHeap
import HandS.NoneIn
import HandS.Style
import HandS.Spec
import HandS.EndTab
import HandS.Head2
set_option Elab.async false
set_option maxRecDepth 100000
set_option maxHeartbeats 8000000
/-! # The mirror: the program's defs as total functions over plain data -/
namespace Rs
open Su201 (Route RouteServer)

/-- an item of a table of rows; d where there is none -/
def cell (t : List (List Nat)) (d i j : Nat) : Nat := (t.getD i []).getD j d
structure M where
  made : Bool
  asns : List Nat
  exps : List (List Nat)
  imps : List (List Nat)
  prefs : List (List Nat)
  routes : List Route
def M.start : M := ⟨false, [], [], [], [], []⟩
def M.fresh : M := ⟨true, [], [], [], [], []⟩
def M.num (m : M) : Nat := m.asns.length
def elig (m : M) (k : Nat) (r : Route) : Bool :=
  if r.announcer = k then false
  else if cell m.exps 0 r.announcer k = 1 ∨ cell m.imps 0 k r.announcer = 1 then false
  else !(r.asPath.contains (m.asns.getD k 0))
/-- the rank of a route: preference, length of the path, ASN of the announcer -/
def rank (m : M) (k : Nat) (r : Route) : Nat × Nat × Nat := (cell m.prefs 5 k r.announcer, r.asPath.length, m.asns.getD r.announcer 0)
/-- not worse -/
def rkLe (x y : Nat × Nat × Nat) : Bool :=
  decide (y.1 < x.1) || (decide (x.1 = y.1) && (decide (x.2.1 < y.2.1) || (decide (x.2.1 = y.2.1) && decide (x.2.2 ≤ y.2.2))))
def isTo (a l : Nat) (r : Route) : Bool := r.address == a && r.length == l
def eligs (m : M) (rs : List Route) (k a l : Nat) : List Route :=
  ((rs.filter (isTo a l)).filter (elig m k)).mergeSort fun x y => rkLe (rank m k x) (rank m k y)
def pfxs (rs : List Route) : List (Nat × Nat) := rs.foldl (fun l x => Su201.insertPrefix (x.address, x.length) l) []
def table (m : M) (rs : List Route) (k : Nat) : List Route := (pfxs rs).filterMap fun y => (eligs m rs k y.1 y.2).head?
def tables (m : M) (rs : List Route) : List (List Route) := (List.range m.num).map (table m rs)
def unlike (b a : List (List Route)) : List Nat := (List.range b.length).filter fun i => b.getD i [] != a.getD i []
def zInts (l : List Nat) : List Int := l.map fun (x : Nat) => (x : Int)
def counted (l : List Nat) : List Int := (l.length : Int) :: zInts l
def changed (m m' : M) : List Int := counted (unlike (tables m m.routes) (tables m' m'.routes))
def reach (t : List Route) : Nat := ((List.range 256).filter fun x => (Su201.lookupIn t x).isSome).length
def here (k a l : Nat) (r : Route) : Bool := r.announcer == k && (r.address == a && r.length == l)
def place (rs : List Route) (k a l : Nat) : Option Nat := rs.findIdx? (here k a l)
def put (rs : List Route) (r : Route) : List Route := match place rs r.announcer r.address r.length with
  | none => rs ++ [r]
  | some i => rs.set i r
def but (rs : List Route) (i : Nat) : List Route := rs.eraseIdx i
def isPath (path : List Nat) (asn : Nat) : Bool :=
  if path = [] ∨ 6 < path.length ∨ path.headD 0 ≠ asn then false
  else if ¬ path.Nodup then false
  else path.all fun x => decide (1 ≤ x) && decide (x ≤ 9999)
def M.add (m : M) (asn : Nat) : M :=
  { m with
    asns := m.asns ++ [asn]
    exps := m.exps.map (· ++ [0]) ++ [List.replicate (m.num + 1) 0]
    imps := m.imps.map (· ++ [0]) ++ [List.replicate (m.num + 1) 0]
    prefs := m.prefs.map (· ++ [5]) ++ [List.replicate (m.num + 1) 5] }
def setCell (t : List (List Nat)) (i j v : Nat) : List (List Nat) := t.set i ((t.getD i []).set j v)

/-! ## the operations: the state behind, what is answered -/
def opAdd (m : M) (asn : Nat) : M × List Int :=
  if ¬ (1 ≤ asn ∧ asn ≤ 9999) then (m, [-22])
  else if asn ∈ m.asns then (m, [-17])
  else if m.num = 6 then (m, [-28])
  else (m.add asn, [(m.num : Int)])
def opAnnounce (m : M) (k a l : Nat) (path : List Nat) : M × List Int :=
  if ¬ k < m.num then (m, [-2])
  else if Su201.isPrefix a l = false ∨ isPath path (m.asns.getD k 0) = false then (m, [-22])
  else if place m.routes k a l = none ∧ m.routes.length = 20 then (m, [-28])
  else ({ m with routes := put m.routes ⟨k, a, l, path⟩ }, changed m { m with routes := put m.routes ⟨k, a, l, path⟩ })
def opWithdraw (m : M) (k a l : Nat) : M × List Int :=
  if ¬ k < m.num then (m, [-2])
  else if Su201.isPrefix a l = false then (m, [-22])
  else match place m.routes k a l with
    | none => (m, [-6])
    | some i => ({ m with routes := but m.routes i }, changed m { m with routes := but m.routes i })
/-- the refusal of a pair -/
def pairNo (m : M) (k j v most : Nat) : Int := if ¬ (k < m.num ∧ j < m.num) then -2 else if k = j ∨ most < v then -22 else 0
def opExport (m : M) (k j v : Nat) : M × List Int :=
  if pairNo m k j v 1 < 0 then (m, [pairNo m k j v 1]) else ({ m with exps := setCell m.exps k j v }, changed m { m with exps := setCell m.exps k j v })
def opImport (m : M) (k j v : Nat) : M × List Int :=
  if pairNo m k j v 1 < 0 then (m, [pairNo m k j v 1]) else ({ m with imps := setCell m.imps k j v }, changed m { m with imps := setCell m.imps k j v })
def opPref (m : M) (k j v : Nat) : M × List Int :=
  if pairNo m k j v 9 < 0 then (m, [pairNo m k j v 9]) else ({ m with prefs := setCell m.prefs k j v }, changed m { m with prefs := setCell m.prefs k j v })
def opAll (m : M) (k : Nat) : M × List Int :=
  if ¬ k < m.num then (m, [-2])
  else ({ m with routes := m.routes.filter fun r => r.announcer != k }, changed m { m with routes := m.routes.filter fun r => r.announcer != k })
/-- the refusal of a member and an address -/
def placeNo (m : M) (k a l : Nat) : Int := if ¬ k < m.num then -2 else if Su201.isPrefix a l = false then -22 else 0
def opBest (m : M) (k a l : Nat) : List Int :=
  if placeNo m k a l < 0 then [placeNo m k a l]
  else match eligs m m.routes k a l with
    | [] => [-33]
    | r :: _ => (r.announcer : Int) :: (r.asPath.length : Int) :: zInts r.asPath
def opElig (m : M) (k a l : Nat) : List Int :=
  if placeNo m k a l < 0 then [placeNo m k a l] else counted ((eligs m m.routes k a l).map (·.announcer))
def opTable (m : M) (k : Nat) : List Int :=
  if ¬ k < m.num then [-2]
  else ((table m m.routes k).length : Int) :: zInts ((table m m.routes k).flatMap fun r => [r.address, r.length, r.announcer])
def opLookup (m : M) (k x : Nat) : List Int :=
  if ¬ k < m.num then [-2] else if 256 ≤ x then [-22]
  else match Su201.lookupIn (table m m.routes k) x with
    | none => [-33]
    | some r => zInts [r.announcer, r.address, r.length]
def opReach (m : M) (k : Nat) : List Int := if ¬ k < m.num then [-2] else [(reach (table m m.routes k) : Int)]
def users (ts : List (List Route)) (k : Nat) : List Nat := (List.range ts.length).filter fun i => (ts.getD i []).any fun r => r.announcer == k
def opUsers (m : M) (k : Nat) : List Int := if ¬ k < m.num then [-2] else counted (users (tables m m.routes) k)
def opPreview (m : M) (k a l : Nat) : List Int :=
  if placeNo m k a l < 0 then [placeNo m k a l]
  else match place m.routes k a l with
    | none => [-6]
    | some i => counted (unlike (tables m m.routes) (tables m (but m.routes i)))
def opPrefixes (m : M) : List Int := ((pfxs m.routes).length : Int) :: zInts ((pfxs m.routes).flatMap fun y => [y.1, y.2])
def ownRoutes (m : M) (k : Nat) : List Route := m.routes.filter fun r => r.announcer == k
def opRoutes (m : M) (k : Nat) : List Int :=
  if ¬ k < m.num then [-2]
  else ((ownRoutes m k).length : Int) :: zInts ((ownRoutes m k).flatMap fun r => r.address :: r.length :: r.asPath.length :: r.asPath)
def opPolicy (m : M) (k : Nat) : List Int :=
  if ¬ k < m.num then [-2]
  else (m.asns.getD k 0 : Int) :: zInts ((List.range m.num).flatMap fun j => [cell m.exps 0 k j, cell m.imps 0 k j, cell m.prefs 5 k j])

/-- a call: its number, its parts; of announce the parts are member, address, length, count, path.. -/
abbrev Call := Nat × List Nat
def question (m : M) (p : Nat) (xs : List Nat) : List Int := match p, xs with
  | 7, [k, a, l] => opBest m k a l
  | 8, [k, a, l] => opElig m k a l
  | 9, [k] => opTable m k
  | 10, [k, x] => opLookup m k x
  | 11, [k] => opReach m k
  | 12, [k] => opUsers m k
  | 13, [k, a, l] => opPreview m k a l
  | 15, [] => opPrefixes m
  | 16, [k] => opRoutes m k
  | 17, [k] => opPolicy m k
  | _, _ => []
def deed (m : M) (p : Nat) (xs : List Nat) : M × List Int := match p, xs with
  | 0, [] => (M.fresh, [0])
  | 1, [asn] => opAdd m asn
  | 2, k :: a :: l :: _ :: path => opAnnounce m k a l path
  | 3, [k, a, l] => opWithdraw m k a l
  | 4, [k, j, v] => opExport m k j v
  | 5, [k, j, v] => opImport m k j v
  | 6, [k, j, v] => opPref m k j v
  | 14, [k] => opAll m k
  | _, _ => (m, [])
def isDeed (p : Nat) : Bool := decide (p ≤ 6) || decide (p = 14)
def answered (m : M) (c : Call) : M × List Int :=
  if c.1 ≠ 0 ∧ m.made = false then (m, [-11])
  else if isDeed c.1 = true then deed m c.1 c.2
  else (m, question m c.1 c.2)
def played : M → List Call → List (List Int)
  | _, [] => []
  | m, c :: r => (answered m c).2 :: played (answered m c).1 r
def told (l : List (List Int)) : List Int := l.flatMap fun a => (a.length : Int) :: a
def partCounts : List Nat := [0, 1, 4, 3, 3, 3, 3, 3, 3, 1, 2, 1, 1, 3, 1, 0, 1, 1]
/-- a call's parts are as many as its number says -/
def CallOk (c : Call) : Prop := c.1 < 18 ∧ c.2.length = partCounts.getD c.1 0 + (if c.1 = 2 then c.2.getD 3 0 else 0)
def flat (cs : List Call) : List Nat := cs.flatMap fun c => c.1 :: c.2
end Rs

/-! # The plain law: the mirror answers as the specification says. First the tables -/
namespace Rs
open Su201 (Route RouteServer)

structure Grid (n top d : Nat) (t : List (List Nat)) : Prop where
  len : t.length = n
  row : ∀ r ∈ t, r.length = n
  top : ∀ i j, cell t d i j ≤ top
/-- what holds of every state that has begun -/
structure Wf (m : M) : Prop where
  num : m.num ≤ 6
  nd : m.asns.Nodup
  asn : ∀ x ∈ m.asns, 1 ≤ x ∧ x ≤ 9999
  exps : Grid m.num 1 0 m.exps
  imps : Grid m.num 1 0 m.imps
  prefs : Grid m.num 9 5 m.prefs
  many : m.routes.length ≤ 20
  ann : ∀ r ∈ m.routes, r.announcer < m.num
  pfx : ∀ r ∈ m.routes, Su201.isPrefix r.address r.length = true
  path : ∀ r ∈ m.routes, r.asPath.length ≤ 6
  once : m.routes.Pairwise fun x y => here x.announcer x.address x.length y = false
/-- the specification's state s says what m says -/
structure Rel (m : M) (s : RouteServer) : Prop where
  num : s.members.length = m.num
  asn : ∀ i, i < m.num → (s.member i).asn = m.asns.getD i 0
  exp : ∀ i, i < m.num → ∀ j, (s.member i).exportDenied.contains j = (cell m.exps 0 i j == 1)
  imp : ∀ i, i < m.num → ∀ j, (s.member i).importDenied.contains j = (cell m.imps 0 i j == 1)
  pref : ∀ i, i < m.num → ∀ j, s.preference i j = cell m.prefs 5 i j
  rts : s.routes = m.routes

theorem here_iff {k a l : Nat} {r : Route} : here k a l r = true ↔ r.announcer = k ∧ r.address = a ∧ r.length = l := by
  simp [here]
theorem isTo_iff {a l : Nat} {r : Route} : isTo a l r = true ↔ r.address = a ∧ r.length = l := by
  simp [isTo]

/-- the parts of the specification's state that tables lean on, apart from its routes -/
def SameMem (s t : RouteServer) : Prop := s.members = t.members

/-! ## eligible, better -/
section
variable {m : M} {s : RouteServer}
theorem elig_is (R : Rel m s) {k : Nat} (hk : k < m.num) {r : Route} (hr : r.announcer < m.num) : s.isEligible k r = elig m k r := by
  unfold RouteServer.isEligible elig
  rw [R.exp _ hr, R.imp _ hk, R.asn _ hk]
  by_cases h1 : r.announcer = k
  · simp [h1]
  · have e1 : (r.announcer != k) = true := by simp [h1]
    rw [if_neg h1, e1]
    by_cases h2 : cell m.exps 0 r.announcer k = 1
    · simp [h2]
    · by_cases h3 : cell m.imps 0 k r.announcer = 1
      · simp [h3]
      · rw [if_neg (by omega), beq_eq_false_iff_ne.mpr h2, beq_eq_false_iff_ne.mpr h3]
        rfl
theorem better_is (R : Rel m s) {k : Nat} (hk : k < m.num) {x y : Route} (hx : x.announcer < m.num) (hy : y.announcer < m.num) :
    s.isBetter k x y = !(rkLe (rank m k y) (rank m k x)) := by
  unfold RouteServer.isBetter rkLe rank
  rw [R.pref _ hk, R.pref _ hk, R.asn _ hx, R.asn _ hy]
  generalize cell m.prefs 5 k x.announcer = a
  generalize cell m.prefs 5 k y.announcer = b
  generalize x.asPath.length = c
  generalize y.asPath.length = d
  generalize m.asns.getD x.announcer 0 = e
  generalize m.asns.getD y.announcer 0 = f
  dsimp only
  rw [Bool.eq_iff_iff]
  simp only [Bool.or_eq_true, Bool.and_eq_true, decide_eq_true_eq, beq_iff_eq, Bool.not_eq_true', ← Bool.not_eq_true, not_or, not_and]
  constructor
  · rintro (h | ⟨h1, h | ⟨h2, h⟩⟩) <;> omega
  · rintro ⟨h1, h2⟩
    by_cases c1 : b < a
    · exact .inl c1
    · refine .inr ⟨by omega, ?_⟩
      have h3 := h2 (by omega)
      by_cases c2 : c < d
      · exact .inl c2
      · exact .inr ⟨by omega, by have := h3.2 (by omega); omega⟩
theorem rkLe_trans (x y z : Nat × Nat × Nat) (h1 : rkLe x y = true) (h2 : rkLe y z = true) : rkLe x z = true := by
  unfold rkLe at *
  simp only [Bool.or_eq_true, Bool.and_eq_true, decide_eq_true_eq] at *
  omega
theorem rkLe_total (x y : Nat × Nat × Nat) : (rkLe x y || rkLe y x) = true := by
  unfold rkLe
  simp only [Bool.or_eq_true, Bool.and_eq_true, decide_eq_true_eq]
  omega
theorem rkLe_anti {x y : Nat × Nat × Nat} (h1 : rkLe x y = true) (h2 : rkLe y x = true) : x.2.2 = y.2.2 := by
  unfold rkLe at *
  simp only [Bool.or_eq_true, Bool.and_eq_true, decide_eq_true_eq] at *
  omega

/-! ## the ranked list -/
theorem insert_perm (k : Nat) (x : Route) : ∀ l, (s.insertRanked k x l).Perm (x :: l)
  | [] => List.Perm.refl _
  | y :: l => by
    unfold RouteServer.insertRanked
    split
    · exact List.Perm.refl _
    · exact ((insert_perm k x l).cons y).trans (List.Perm.swap x y l)
theorem insert_sorted (R : Rel m s) {k : Nat} (hk : k < m.num) {x : Route} (hx : x.announcer < m.num) : ∀ l : List Route, (∀ y ∈ l, y.announcer < m.num) → l.Pairwise (fun a b => rkLe (rank m k a) (rank m k b) = true) →
    (s.insertRanked k x l).Pairwise (fun a b => rkLe (rank m k a) (rank m k b) = true)
  | [], _, _ => by simp [RouteServer.insertRanked]
  | y :: l, hl, h => by
    have hy := hl y List.mem_cons_self
    have hp := List.pairwise_cons.mp h
    unfold RouteServer.insertRanked
    by_cases c : s.isBetter k x y = true
    · rw [if_pos c]
      rw [better_is R hk hx hy] at c
      have c1 : rkLe (rank m k x) (rank m k y) = true := by
        have := rkLe_total (rank m k x) (rank m k y)
        rw [Bool.or_eq_true] at this
        rcases this with h | h
        · exact h
        · rw [h] at c; cases c
      refine List.pairwise_cons.mpr ⟨fun z hz => ?_, h⟩
      rcases List.mem_cons.mp hz with rfl | hz
      · exact c1
      · exact rkLe_trans _ _ _ c1 (hp.1 z hz)
    · rw [if_neg c]
      rw [better_is R hk hx hy] at c
      have c1 : rkLe (rank m k y) (rank m k x) = true := by
        cases e : rkLe (rank m k y) (rank m k x) with
        | true => rfl
        | false => rw [e] at c; exact absurd rfl c
      refine List.pairwise_cons.mpr ⟨fun z hz => ?_, insert_sorted R hk hx l (fun z hz => hl z (List.mem_cons_of_mem _ hz)) hp.2⟩
      rcases List.mem_cons.mp ((insert_perm k x l).mem_iff.mp hz) with rfl | hz
      · exact c1
      · exact hp.1 z hz
theorem fold_ranked (R : Rel m s) {k : Nat} (hk : k < m.num) : ∀ (l acc : List Route), (∀ y ∈ l, y.announcer < m.num) → (∀ y ∈ acc, y.announcer < m.num) → acc.Pairwise (fun a b => rkLe (rank m k a) (rank m k b) = true) →
    (l.foldl (fun ranked x => s.insertRanked k x ranked) acc).Perm (l ++ acc) ∧ (l.foldl (fun ranked x => s.insertRanked k x ranked) acc).Pairwise (fun a b => rkLe (rank m k a) (rank m k b) = true)
  | [], acc, _, _, h => ⟨List.Perm.refl _, h⟩
  | x :: l, acc, hl, ha, h => by
    have hx := hl x List.mem_cons_self
    have q := fold_ranked R hk l (s.insertRanked k x acc) (fun y hy => hl y (List.mem_cons_of_mem _ hy)) (fun y hy => by
      rcases List.mem_cons.mp ((insert_perm k x acc).mem_iff.mp hy) with rfl | hy
      · exact hx
      · exact ha y hy) (insert_sorted R hk hx acc ha h)
    refine ⟨?_, q.2⟩
    refine q.1.trans (((insert_perm k x acc).append_left l).trans ?_)
    exact List.perm_middle
/-- two routes of one address, length and announcer are one -/
theorem once_eq {rs : List Route} (h : rs.Pairwise fun x y => here x.announcer x.address x.length y = false) {x y : Route} (hx : x ∈ rs) (hy : y ∈ rs) (e : here x.announcer x.address x.length y = true) : x = y := by
  obtain ⟨i, hi, rfl⟩ := List.getElem_of_mem hx
  obtain ⟨j, hj, rfl⟩ := List.getElem_of_mem hy
  have hp := List.pairwise_iff_getElem.mp h
  rcases Nat.lt_trichotomy i j with c | c | c
  · rw [hp i j hi hj c] at e; cases e
  · subst c; rfl
  · have q := hp j i hj hi c
    obtain ⟨e1, e2, e3⟩ := here_iff.mp e
    rw [show here rs[j].announcer rs[j].address rs[j].length rs[i] = true from here_iff.mpr ⟨e1.symm, e2.symm, e3.symm⟩] at q
    cases q
theorem asn_inj {l : List Nat} (h : l.Nodup) {i j : Nat} (hi : i < l.length) (hj : j < l.length) (e : l.getD i 0 = l.getD j 0) : i = j := by
  rw [List.getD_eq_getElem?_getD, List.getD_eq_getElem?_getD, List.getElem?_eq_getElem hi, List.getElem?_eq_getElem hj] at e
  exact (List.getElem_inj h).mp e
/-- what routes other than the state's own must be for its tables -/
structure RsOk (m : M) (rs : List Route) : Prop where
  ann : ∀ r ∈ rs, r.announcer < m.num
  pfx : ∀ r ∈ rs, Su201.isPrefix r.address r.length = true
  once : rs.Pairwise fun x y => here x.announcer x.address x.length y = false
theorem Wf.rs (W : Wf m) : RsOk m m.routes := ⟨W.ann, W.pfx, W.once⟩
theorem RsOk.sub {rs rs' : List Route} (O : RsOk m rs) (h : rs'.Sublist rs) : RsOk m rs' :=
  ⟨fun r hr => O.ann r (h.subset hr), fun r hr => O.pfx r (h.subset hr), O.once.sublist h⟩
theorem eligs_is (R : Rel m s) (nd : m.asns.Nodup) (O : RsOk m s.routes) {k : Nat} (hk : k < m.num) (a l : Nat) : s.eligibleRoutes k a l = eligs m s.routes k a l := by
  unfold RouteServer.eligibleRoutes eligs
  have ef : (s.routes.filter fun x => x.address == a && (x.length == l && s.isEligible k x)) = (s.routes.filter (isTo a l)).filter (elig m k) := by
    rw [List.filter_filter]
    refine List.filter_congr fun x hx => ?_
    rw [elig_is R hk (O.ann x hx)]
    unfold isTo
    cases x.address == a <;> cases x.length == l <;> cases elig m k x <;> rfl
  rw [ef]
  have hmem : ∀ x ∈ (s.routes.filter (isTo a l)).filter (elig m k), x ∈ s.routes ∧ isTo a l x = true := fun x hx => by
    have h1 := List.mem_filter.mp hx
    have h2 := List.mem_filter.mp h1.1
    exact ⟨h2.1, h2.2⟩
  obtain ⟨p1, p2⟩ := fold_ranked R hk ((s.routes.filter (isTo a l)).filter (elig m k)) [] (fun y hy => O.ann y (hmem y hy).1) (by simp) List.Pairwise.nil
  rw [List.append_nil] at p1
  have q1 := List.mergeSort_perm ((s.routes.filter (isTo a l)).filter (elig m k)) (fun x y => rkLe (rank m k x) (rank m k y))
  have q2 := List.pairwise_mergeSort (le := fun x y => rkLe (rank m k x) (rank m k y)) (fun x y z => rkLe_trans _ _ _) (fun x y => rkLe_total _ _) ((s.routes.filter (isTo a l)).filter (elig m k))
  refine List.Perm.eq_of_pairwise (le := fun a b => rkLe (rank m k a) (rank m k b) = true) (fun x y hx hy h1 h2 => ?_) p2 q2 (p1.trans q1.symm)
  obtain ⟨x1, x2⟩ := hmem x (p1.mem_iff.mp hx)
  obtain ⟨y1, y2⟩ := hmem y (q1.mem_iff.mp hy)
  have e : m.asns.getD x.announcer 0 = m.asns.getD y.announcer 0 := rkLe_anti h1 h2
  have ea : x.announcer = y.announcer := asn_inj nd (O.ann x x1) (O.ann y y1) e
  obtain ⟨x3, x4⟩ := isTo_iff.mp x2
  obtain ⟨y3, y4⟩ := isTo_iff.mp y2
  exact once_eq O.once x1 y1 (here_iff.mpr ⟨ea.symm, by rw [y3, x3], by rw [y4, x4]⟩)
theorem prefixes_is : s.prefixes = pfxs s.routes := rfl
theorem table_is (R : Rel m s) (nd : m.asns.Nodup) (O : RsOk m s.routes) {k : Nat} (hk : k < m.num) : s.routingTable k = table m s.routes k := by
  unfold RouteServer.routingTable table
  rw [prefixes_is]
  refine congrFun (congrArg List.filterMap (funext fun y => ?_)) _
  unfold RouteServer.bestRoute
  rw [eligs_is R nd O hk]
end

/-! ## the prefixes -/
/-- the order of the prefixes -/
def pLt (x y : Nat × Nat) : Prop := x.1 < y.1 ∨ (x.1 = y.1 ∧ x.2 < y.2)
theorem mem_insertPrefix (x y : Nat × Nat) : ∀ l, y ∈ Su201.insertPrefix x l ↔ y = x ∨ y ∈ l
  | [] => by simp [Su201.insertPrefix]
  | z :: l => by
    unfold Su201.insertPrefix
    split
    · simp
    · split
      · rename_i h; subst h; simp
      · rw [List.mem_cons, mem_insertPrefix x y l, List.mem_cons]
        constructor
        · rintro (h | h | h)
          · exact .inr (.inl h)
          · exact .inl h
          · exact .inr (.inr h)
        · rintro (h | h | h)
          · exact .inr (.inl h)
          · exact .inl h
          · exact .inr (.inr h)
theorem sorted_insertPrefix (x : Nat × Nat) : ∀ l : List (Nat × Nat), l.Pairwise pLt → (Su201.insertPrefix x l).Pairwise pLt
  | [], _ => by simp [Su201.insertPrefix]
  | z :: l, h => by
    have hp := List.pairwise_cons.mp h
    unfold Su201.insertPrefix
    split
    · rename_i c
      refine List.pairwise_cons.mpr ⟨fun w hw => ?_, h⟩
      rcases List.mem_cons.mp hw with rfl | hw
      · exact c
      · have := hp.1 w hw
        unfold pLt at *
        omega
    · rename_i c
      split
      · exact h
      · rename_i c2
        refine List.pairwise_cons.mpr ⟨fun w hw => ?_, sorted_insertPrefix x l hp.2⟩
        rcases (mem_insertPrefix x w l).mp hw with rfl | hw
        · have : ¬ (w.1 = z.1 ∧ w.2 = z.2) := fun e => c2 (Prod.ext e.1 e.2)
          unfold pLt
          omega
        · exact hp.1 w hw
theorem fold_pfxs : ∀ (rs : List Route) (acc : List (Nat × Nat)), acc.Pairwise pLt → (rs.foldl (fun l x => Su201.insertPrefix (x.address, x.length) l) acc).Pairwise pLt ∧
    ∀ y, y ∈ rs.foldl (fun l x => Su201.insertPrefix (x.address, x.length) l) acc ↔ (∃ r ∈ rs, y = (r.address, r.length)) ∨ y ∈ acc
  | [], acc, h => ⟨h, fun y => by simp⟩
  | x :: rs, acc, h => by
    obtain ⟨h1, h2⟩ := fold_pfxs rs (Su201.insertPrefix (x.address, x.length) acc) (sorted_insertPrefix _ _ h)
    refine ⟨h1, fun y => ?_⟩
    show y ∈ rs.foldl (fun l x => Su201.insertPrefix (x.address, x.length) l) (Su201.insertPrefix (x.address, x.length) acc) ↔ _
    rw [h2, mem_insertPrefix]
    constructor
    · rintro (⟨r, hr, e⟩ | e | e)
      · exact .inl ⟨r, List.mem_cons_of_mem _ hr, e⟩
      · exact .inl ⟨x, List.mem_cons_self, e⟩
      · exact .inr e
    · rintro (⟨r, hr, e⟩ | e)
      · rcases List.mem_cons.mp hr with rfl | hr
        · exact .inr (.inl e)
        · exact .inl ⟨r, hr, e⟩
      · exact .inr (.inr e)
theorem pfxs_sorted (rs : List Route) : (pfxs rs).Pairwise pLt := (fold_pfxs rs [] List.Pairwise.nil).1
theorem mem_pfxs {rs : List Route} {y : Nat × Nat} : y ∈ pfxs rs ↔ ∃ r ∈ rs, y = (r.address, r.length) := by
  have h := (fold_pfxs rs [] List.Pairwise.nil).2 y
  unfold pfxs
  rw [h]
  simp
/-- a list in their order, without doubles, of just the routes' prefixes -/
theorem pfxs_only {rs : List Route} {L : List (Nat × Nat)} (h1 : L.Pairwise fun x y => pLt x y ∨ x = y) (h2 : L.Nodup) (h3 : ∀ y, y ∈ L ↔ ∃ r ∈ rs, y = (r.address, r.length)) : L = pfxs rs := by
  have hL : L.Pairwise pLt := by
    refine (h1.and h2).imp fun {x y} h => ?_
    rcases h.1 with c | c
    · exact c
    · exact absurd c h.2
  have nd2 : (pfxs rs).Nodup := (pfxs_sorted rs).imp fun {x y} h => by
    intro e
    subst e
    unfold pLt at h
    omega
  have hp : L.Perm (pfxs rs) := (List.perm_ext_iff_of_nodup h2 nd2).mpr fun y => by rw [h3, mem_pfxs]
  refine List.Perm.eq_of_pairwise (le := pLt) (fun x y _ _ h1 h2 => ?_) hL (pfxs_sorted rs) hp
  unfold pLt at h1 h2
  omega
theorem insertPrefix_len (x : Nat × Nat) : ∀ l, (Su201.insertPrefix x l).length ≤ l.length + 1
  | [] => by simp [Su201.insertPrefix]
  | z :: l => by
    unfold Su201.insertPrefix
    split
    · simp
    · split
      · simp
      · have := insertPrefix_len x l
        simp only [List.length_cons]
        omega
theorem fold_pfxs_len : ∀ (rs : List Route) (acc : List (Nat × Nat)), (rs.foldl (fun l x => Su201.insertPrefix (x.address, x.length) l) acc).length ≤ rs.length + acc.length
  | [], acc => by simp
  | x :: rs, acc => by
    have h1 := fold_pfxs_len rs (Su201.insertPrefix (x.address, x.length) acc)
    have h2 := insertPrefix_len (x.address, x.length) acc
    simp only [List.foldl_cons, List.length_cons]
    omega
theorem pfxs_len (rs : List Route) : (pfxs rs).length ≤ rs.length := fold_pfxs_len rs []
end Rs

/-! # The plain law: each operation -/
namespace Rs
open Su201 (Route RouteServer Member)

def tell (r : Su201.Result) : List Int := r.value :: Su201Neutral.outs r.fields
structure Ok (m : M) (s : RouteServer) : Prop where
  made : m.made = true
  wf : Wf m
  rel : Rel m s

/-! ## rows and cells -/
theorem getD_set {α : Type} (l : List α) (i j : Nat) (v d : α) (hi : i < l.length) : (l.set i v).getD j d = if j = i then v else l.getD j d := by
  rw [List.getD_eq_getElem?_getD, List.getD_eq_getElem?_getD, List.getElem?_set]
  by_cases h : i = j
  · subst h
    simp [hi]
  · rw [if_neg h, if_neg (fun e => h e.symm)]
theorem getD_row {α : Type} {t : List α} {d : α} {i : Nat} (hi : i < t.length) : t.getD i d ∈ t := by
  rw [List.getD_eq_getElem?_getD, List.getElem?_eq_getElem hi]
  exact List.getElem_mem hi
theorem getD_over {α : Type} {t : List α} {d : α} {i : Nat} (hi : t.length ≤ i) : t.getD i d = d := by
  rw [List.getD_eq_getElem?_getD, List.getElem?_eq_none_iff.mpr hi]
  rfl
theorem getD_app {α : Type} (l : List α) (x d : α) (i : Nat) : (l ++ [x]).getD i d = if i < l.length then l.getD i d else if i = l.length then x else d := by
  rw [List.getD_eq_getElem?_getD, List.getD_eq_getElem?_getD]
  by_cases h : i < l.length
  · rw [if_pos h, List.getElem?_append_left h]
  · rw [if_neg h, List.getElem?_append_right (by omega)]
    by_cases e : i = l.length
    · subst e
      simp
    · rw [if_neg e, List.getElem?_eq_none_iff.mpr (by simp; omega)]
      rfl
theorem cell_set {t : List (List Nat)} {d n top i j v : Nat} (G : Grid n top d t) (hi : i < n) (hj : j < n) (p q : Nat) : cell (setCell t i j v) d p q = if p = i ∧ q = j then v else cell t d p q := by
  unfold cell setCell
  rw [getD_set _ _ _ _ _ (by rw [G.len]; exact hi)]
  by_cases h : p = i
  · subst h
    rw [if_pos rfl, getD_set _ _ _ _ _ (by rw [G.row _ (getD_row (by rw [G.len]; exact hi))]; exact hj)]
    by_cases e : q = j
    · rw [if_pos e, if_pos ⟨rfl, e⟩]
    · rw [if_neg e, if_neg fun z => e z.2]
  · rw [if_neg h, if_neg fun z => h z.1]
theorem grid_set {t : List (List Nat)} {d n top i j v : Nat} (G : Grid n top d t) (hi : i < n) (hj : j < n) (hv : v ≤ top) : Grid n top d (setCell t i j v) := by
  refine ⟨by unfold setCell; rw [List.length_set]; exact G.len, fun r hr => ?_, fun p q => ?_⟩
  · unfold setCell at hr
    rcases List.mem_or_eq_of_mem_set hr with h | h
    · exact G.row r h
    · subst h
      rw [List.length_set]
      exact G.row _ (getD_row (by rw [G.len]; exact hi))
  · rw [cell_set G hi hj]
    split
    · exact hv
    · exact G.top p q
/-- a member more: every row gets d, a row of d comes behind -/
theorem cell_grow {t : List (List Nat)} {d n top : Nat} (G : Grid n top d t) (p q : Nat) : cell (t.map (· ++ [d]) ++ [List.replicate (n + 1) d]) d p q = cell t d p q := by
  unfold cell
  rw [getD_app, List.length_map, G.len]
  by_cases h : p < n
  · have hp : p < t.length := by rw [G.len]; exact h
    have e1 : (t.map (· ++ [d])).getD p [] = t[p] ++ [d] := by
      rw [List.getD_eq_getElem?_getD, List.getElem?_map, List.getElem?_eq_getElem hp]
      rfl
    have e2 : t.getD p [] = t[p] := by
      rw [List.getD_eq_getElem?_getD, List.getElem?_eq_getElem hp]
      rfl
    rw [if_pos h, e1, e2]
    rw [getD_app]
    split
    · rfl
    · rename_i c
      rw [getD_over (Nat.le_of_not_lt c)]
      split <;> rfl
  · rw [if_neg h, getD_over (t := t) (by rw [G.len]; omega)]
    show _ = d
    split
    · rw [List.getD_eq_getElem?_getD, List.getElem?_replicate]
      split <;> rfl
    · rfl
theorem grid_grow {t : List (List Nat)} {d n top : Nat} (G : Grid n top d t) : Grid (n + 1) top d (t.map (· ++ [d]) ++ [List.replicate (n + 1) d]) := by
  refine ⟨by simp [G.len], fun r hr => ?_, fun p q => by rw [cell_grow G]; exact G.top p q⟩
  rcases List.mem_append.mp hr with h | h
  · obtain ⟨r0, h0, rfl⟩ := List.mem_map.mp h
    simp [G.row r0 h0]
  · rw [List.mem_singleton.mp h]
    simp
theorem grid_nil (top d : Nat) (h : d ≤ top) : Grid 0 top d [] := ⟨rfl, fun r hr => by simp at hr, fun i j => by simpa [cell] using h⟩

/-! ## members of the specification's state -/
theorem member_set {s : RouteServer} {k : Nat} {x : Member} (hk : k < s.members.length) (i : Nat) : (s.setMember k x).member i = if i = k then x else s.member i := by
  unfold RouteServer.setMember RouteServer.member
  exact getD_set _ _ _ _ _ hk
theorem pref_set_same {s : RouteServer} {k : Nat} {x : Member} (hk : k < s.members.length) (hx : x.preferences = (s.member k).preferences) (i j : Nat) : (s.setMember k x).preference i j = s.preference i j := by
  unfold RouteServer.preference
  rw [member_set hk]
  split
  · rename_i h; subst h; rw [hx]
  · rfl

/-! ## what changed -/
theorem unlike_is {m m' : M} {s s' : RouteServer} (O : Ok m s) (O' : Ok m' s') (hn : m'.num = m.num) : s.changedMembers s' = unlike (tables m m.routes) (tables m' m'.routes) := by
  unfold RouteServer.changedMembers unlike
  have hl : (tables m m.routes).length = m.num := by unfold tables; rw [List.length_map, List.length_range]
  rw [O.rel.num, hl]
  refine List.filter_congr fun k hk => ?_
  have hk : k < m.num := List.mem_range.mp hk
  have at_ : ∀ (f : Nat → List Route) (n : Nat), k < n → ((List.range n).map f).getD k [] = f k := fun f n h => by
    rw [List.getD_eq_getElem?_getD, List.getElem?_map, List.getElem?_range h]
    rfl
  unfold tables
  rw [at_ _ _ hk, at_ _ _ (by omega), table_is O.rel O.wf.nd (by rw [O.rel.rts]; exact O.wf.rs) hk, table_is O'.rel O'.wf.nd (by rw [O'.rel.rts]; exact O'.wf.rs) (by omega), O.rel.rts, O'.rel.rts]
theorem tell_okList (l : List Nat) : tell (Su201.okList l) = counted l := rfl
theorem changed_is {m m' : M} {s s' : RouteServer} (O : Ok m s) (O' : Ok m' s') (hn : m'.num = m.num) : changed m m' = tell (Su201.okList (s.changedMembers s')) := by
  rw [tell_okList, unlike_is O O' hn]
  rfl
theorem has_iff {m : M} {s : RouteServer} (O : Ok m s) (k : Nat) : s.hasMember k = decide (k < m.num) := by
  unfold RouteServer.hasMember
  rw [O.rel.num]

/-! ## routes by their announcer and address -/
theorem find_place {rs : List Route} {k a l : Nat} : (place rs k a l = none ∧ rs.find? (here k a l) = none) ∨ ∃ i y, place rs k a l = some i ∧ rs[i]? = some y ∧ rs.find? (here k a l) = some y ∧ here k a l y = true := by
  unfold place
  cases e : rs.findIdx? (here k a l) with
  | none => exact .inl ⟨rfl, List.find?_eq_none.mpr fun x hx => by simpa using (List.findIdx?_eq_none_iff.mp e) x hx⟩
  | some i =>
    obtain ⟨hi, h1, h2⟩ := List.findIdx?_eq_some_iff_getElem.mp e
    refine .inr ⟨i, rs[i], rfl, List.getElem?_eq_getElem hi, ?_, h1⟩
    refine List.find?_eq_some_iff_getElem.mpr ⟨h1, i, hi, rfl, fun j hj => ?_⟩
    simpa using h2 j hj
theorem once_nodup {rs : List Route} (h : rs.Pairwise fun x y => here x.announcer x.address x.length y = false) : rs.Nodup := h.imp fun {x y} q => by
  intro e
  subst e
  rw [here_iff.mpr ⟨rfl, rfl, rfl⟩] at q
  cases q
theorem map_set : ∀ {rs : List Route} {i : Nat} {y x : Route}, rs.Nodup → rs[i]? = some y → rs.map (fun z => if z = y then x else z) = rs.set i x
  | [], _, _, _, _, h => by simp at h
  | z :: rs, 0, y, x, nd, h => by
    have e : z = y := by simpa using h
    subst e
    have hn := (List.nodup_cons.mp nd).1
    show (if z = z then x else z) :: rs.map _ = x :: rs
    rw [if_pos rfl]
    congr 1
    conv => rhs; rw [← List.map_id rs]
    refine List.map_congr_left fun w hw => ?_
    rw [if_neg (show ¬ w = z from fun e => hn (e ▸ hw))]
    rfl
  | z :: rs, i + 1, y, x, nd, h => by
    have hy : rs[i]? = some y := by simpa using h
    have hn := (List.nodup_cons.mp nd).1
    show (if z = y then x else z) :: rs.map _ = z :: rs.set i x
    rw [if_neg (show ¬ z = y from fun e => hn (e ▸ List.mem_of_getElem? hy)), map_set (List.nodup_cons.mp nd).2 hy]
theorem filter_erase : ∀ {rs : List Route} {i : Nat} {y : Route}, rs.Nodup → rs[i]? = some y → rs.filter (fun z => z != y) = rs.eraseIdx i
  | [], _, _, _, h => by simp at h
  | z :: rs, 0, y, nd, h => by
    have e : z = y := by simpa using h
    subst e
    have hn := (List.nodup_cons.mp nd).1
    rw [List.filter_cons_of_neg (by simp)]
    show _ = rs
    refine List.filter_eq_self.mpr fun w hw => ?_
    simp only [bne_iff_ne, ne_eq]
    exact fun e => hn (e ▸ hw)
  | z :: rs, i + 1, y, nd, h => by
    have hy : rs[i]? = some y := by simpa using h
    have hn := (List.nodup_cons.mp nd).1
    rw [List.filter_cons_of_pos (by simp only [bne_iff_ne, ne_eq]; exact fun e => hn (e ▸ List.mem_of_getElem? hy)), filter_erase (List.nodup_cons.mp nd).2 hy]
    rfl
theorem erase_sub (rs : List Route) (i : Nat) : (but rs i).Sublist rs := List.eraseIdx_sublist rs i
theorem wf_sub {m : M} (W : Wf m) {rs : List Route} (h : rs.Sublist m.routes) : Wf { m with routes := rs } :=
  ⟨W.num, W.nd, W.asn, W.exps, W.imps, W.prefs, Nat.le_trans h.length_le W.many, fun r hr => W.ann r (h.subset hr), fun r hr => W.pfx r (h.subset hr), fun r hr => W.path r (h.subset hr), W.once.sublist h⟩
theorem rel_routes {m : M} {s : RouteServer} (R : Rel m s) (rs : List Route) : Rel { m with routes := rs } { s with routes := rs } :=
  ⟨R.num, R.asn, R.exp, R.imp, R.pref, rfl⟩
theorem ok_sub {m : M} {s : RouteServer} (O : Ok m s) {rs : List Route} (h : rs.Sublist m.routes) : Ok { m with routes := rs } { s with routes := rs } :=
  ⟨O.made, wf_sub O.wf h, rel_routes O.rel rs⟩
theorem isPath_is {m : M} {s : RouteServer} (O : Ok m s) {k : Nat} (hk : k < m.num) (path : List Nat) : s.isAsPath k path = isPath path (m.asns.getD k 0) := by
  unfold RouteServer.isAsPath isPath
  rw [O.rel.asn k hk]
  cases path with
  | nil => rfl
  | cons x r =>
    rw [decide_eq_true (show 1 ≤ (x :: r).length by simp), Bool.true_and]
    by_cases h1 : (x :: r).length ≤ 6
    · rw [decide_eq_true h1, Bool.true_and]
      by_cases h2 : (x :: r).headD 0 = m.asns.getD k 0
      · rw [if_neg (by rintro (h | h | h); · cases h
                       · omega
                       · exact h h2), beq_iff_eq.mpr h2, Bool.true_and]
        by_cases h3 : (x :: r).Nodup
        · rw [if_neg (fun z => z h3), decide_eq_true h3, Bool.and_true]
        · rw [if_pos h3, decide_eq_false h3, Bool.and_false]
      · rw [if_pos (.inr (.inr h2)), beq_eq_false_iff_ne.mpr h2, Bool.false_and, Bool.and_false]
    · rw [if_pos (.inr (.inl (by omega))), decide_eq_false h1, Bool.false_and]
theorem isPath_len {path : List Nat} {asn : Nat} (h : isPath path asn = true) : path.length ≤ 6 := by
  unfold isPath at h
  split at h
  · cases h
  · omega
theorem mem_put {rs : List Route} {r x : Route} (h : x ∈ put rs r) : x = r ∨ x ∈ rs := by
  unfold put at h
  split at h
  · rcases List.mem_append.mp h with h | h
    · exact .inr h
    · exact .inl (List.mem_singleton.mp h)
  · rcases List.mem_or_eq_of_mem_set h with h | h
    · exact .inr h
    · exact .inl h
theorem here_comm {x y : Route} (h : here x.announcer x.address x.length y = false) : here y.announcer y.address y.length x = false := by
  cases e : here y.announcer y.address y.length x with
  | false => rfl
  | true =>
    obtain ⟨e1, e2, e3⟩ := here_iff.mp e
    rw [here_iff.mpr ⟨e1.symm, e2.symm, e3.symm⟩] at h
    cases h
theorem put_once {rs : List Route} {r : Route} (h : rs.Pairwise fun x y => here x.announcer x.address x.length y = false) : (put rs r).Pairwise fun x y => here x.announcer x.address x.length y = false := by
  unfold put
  rcases find_place (rs := rs) (k := r.announcer) (a := r.address) (l := r.length) with ⟨h1, h2⟩ | ⟨i, y, h1, h2, h3, h4⟩
  · rw [h1]
    refine List.pairwise_append.mpr ⟨h, List.pairwise_singleton _ _, fun x hx y hy => ?_⟩
    rw [List.mem_singleton.mp hy]
    refine here_comm (x := r) ?_
    have := List.find?_eq_none.mp h2 x hx
    simpa using this
  · rw [h1]
    obtain ⟨hi, e⟩ := List.getElem?_eq_some_iff.mp h2
    have hp := List.pairwise_iff_getElem.mp h
    obtain ⟨y1, y2, y3⟩ := here_iff.mp h4
    refine List.pairwise_iff_getElem.mpr fun p q hp' hq' hpq => ?_
    rw [List.length_set] at hp' hq'
    rw [List.getElem_set, List.getElem_set]
    split
    · rename_i c
      subst c
      rw [if_neg (by omega)]
      have := hp i q hi hq' hpq
      rw [e, y1, y2, y3] at this
      exact this
    · split
      · rename_i c1 c
        subst c
        have := hp p i hp' hi hpq
        rw [e] at this
        unfold here at this ⊢
        rw [y1, y2, y3] at this
        exact this
      · exact hp p q hp' hq' hpq
end Rs

/-! # The plain law: each operation answers alike and keeps the states alike -/
namespace Rs
open Su201 (Route RouteServer Member Operation)

/-- an operation over a state that has begun: m's answer and state are s's -/
def Agree (z : M × List Int) (w : RouteServer × Su201.Result) : Prop := Ok z.1 w.1 ∧ z.2 = tell w.2
theorem agree_stay {m : M} {s : RouteServer} (O : Ok m s) (c : Int) : Agree (m, [c]) (s, Su201.error c) := ⟨O, rfl⟩
theorem agree_upd {m m' : M} {s s' : RouteServer} (O : Ok m s) (O' : Ok m' s') (hn : m'.num = m.num) : Agree (m', changed m m') (s.update s') := ⟨O', changed_is O O' hn⟩

theorem none_in {α : Type} {P : α → Prop} : ∀ x ∈ ([] : List α), P x := fun x hx => by simp at hx
theorem ok_fresh : Ok M.fresh Su201.empty := by
  refine ⟨rfl, ⟨Nat.zero_le _, List.nodup_nil, none_in, grid_nil 1 0 (by decide), grid_nil 1 0 (by decide), grid_nil 9 5 (by decide), Nat.zero_le _, none_in, none_in, none_in, List.Pairwise.nil⟩, ⟨rfl, ?_, ?_, ?_, ?_, rfl⟩⟩
  all_goals exact fun i hi => absurd hi (Nat.not_lt_zero i)
section
variable {m : M} {s : RouteServer}
theorem has_t (O : Ok m s) {k : Nat} (hk : k < m.num) : ¬ s.hasMember k = false := by rw [has_iff O, decide_eq_true hk]; decide
theorem has_f (O : Ok m s) {k : Nat} (hk : ¬ k < m.num) : s.hasMember k = false := by rw [has_iff O, decide_eq_false hk]
theorem any_asn (O : Ok m s) (asn : Nat) : s.members.any (fun x => x.asn == asn) = decide (asn ∈ m.asns) := by
  rw [Bool.eq_iff_iff, List.any_eq_true, decide_eq_true_eq]
  have hn := O.rel.num
  have nn : m.num = m.asns.length := rfl
  constructor
  · rintro ⟨x, hx, e⟩
    obtain ⟨i, hi, rfl⟩ := List.getElem_of_mem hx
    have h := O.rel.asn i (by omega)
    have e1 : s.member i = s.members[i] := by
      unfold RouteServer.member
      rw [List.getD_eq_getElem?_getD, List.getElem?_eq_getElem hi]
      rfl
    rw [e1, beq_iff_eq.mp e] at h
    rw [h]
    exact getD_row (by omega)
  · intro h
    obtain ⟨i, hi, rfl⟩ := List.getElem_of_mem h
    have q := O.rel.asn i (by omega)
    refine ⟨s.member i, getD_row (by omega), ?_⟩
    rw [q, List.getD_eq_getElem?_getD, List.getElem?_eq_getElem hi]
    exact beq_iff_eq.mpr rfl
theorem add_is (O : Ok m s) (asn : Nat) : Agree (opAdd m asn) (Su201.execute s (.addMember asn)) := by
  unfold opAdd
  show Agree _ (if asn = 0 ∨ 9999 < asn then (s, Su201.error (-22)) else if s.members.any (fun x => x.asn == asn) = true then (s, Su201.error (-17)) else if Su201.maxMembers ≤ s.members.length then (s, Su201.error (-28)) else ({ s with members := s.members ++ [⟨asn, [], [], []⟩] }, Su201.ok s.members.length []))
  have ha := any_asn O asn
  have hn := O.rel.num
  by_cases h1 : 1 ≤ asn ∧ asn ≤ 9999
  · rw [if_neg (fun z => z h1), if_neg (show ¬ (asn = 0 ∨ 9999 < asn) by omega)]
    by_cases h2 : asn ∈ m.asns
    · rw [if_pos h2, if_pos (show (s.members.any fun x => x.asn == asn) = true by rw [ha]; exact decide_eq_true h2)]
      exact agree_stay O _
    · rw [if_neg h2, if_neg (show ¬ (s.members.any fun x => x.asn == asn) = true by rw [ha, decide_eq_false h2]; decide)]
      have h6 := O.wf.num
      by_cases h3 : m.num = 6
      · rw [if_pos h3, if_pos (show Su201.maxMembers ≤ s.members.length by show 6 ≤ _; omega)]
        exact agree_stay O _
      · rw [if_neg h3, if_neg (show ¬ Su201.maxMembers ≤ s.members.length by show ¬ 6 ≤ _; omega)]
        have en : (m.add asn).num = m.num + 1 := by show (m.asns ++ [asn]).length = _; rw [List.length_append]; rfl
        have mem_ : ∀ i, ({ s with members := s.members ++ [⟨asn, [], [], []⟩] } : RouteServer).member i = if i < m.num then s.member i else if i = m.num then ⟨asn, [], [], []⟩ else ⟨0, [], [], []⟩ := fun i => by
          unfold RouteServer.member
          show (s.members ++ [_]).getD i _ = _
          rw [getD_app, hn]
        refine ⟨⟨O.made, ⟨(show (m.add asn).num ≤ 6 by omega), ?_, ?_, ?_, ?_, ?_, O.wf.many, fun r hr => Nat.lt_of_lt_of_le (O.wf.ann r hr) (show m.num ≤ (m.add asn).num by omega), O.wf.pfx, O.wf.path, O.wf.once⟩, ⟨?_, ?_, ?_, ?_, ?_, O.rel.rts⟩⟩, ?_⟩
        · exact List.nodup_append.mpr ⟨O.wf.nd, by simp, fun x hx y hy e => h2 (by rw [List.mem_singleton.mp hy] at e; exact e ▸ hx)⟩
        · intro x hx
          rcases List.mem_append.mp hx with h | h
          · exact O.wf.asn x h
          · rw [List.mem_singleton.mp h]
            exact h1
        · rw [en]; exact grid_grow O.wf.exps
        · rw [en]; exact grid_grow O.wf.imps
        · rw [en]; exact grid_grow O.wf.prefs
        · rw [en]; show (s.members ++ [_]).length = _; rw [List.length_append, hn]; rfl
        · intro i hi
          have hi : i < (m.add asn).num := hi
          rw [mem_]
          show _ = (m.asns ++ [asn]).getD i 0
          rw [getD_app]
          show _ = if i < m.num then _ else if i = m.num then _ else _
          by_cases c : i < m.num
          · rw [if_pos c, if_pos c]; exact O.rel.asn i c
          · rw [if_neg c, if_neg c, if_pos (by omega), if_pos (by omega)]
        · intro i hi j
          have hi : i < (m.add asn).num := hi
          rw [mem_]
          show _ = (cell (m.exps.map (· ++ [0]) ++ [List.replicate (m.num + 1) 0]) 0 i j == 1)
          rw [cell_grow O.wf.exps]
          by_cases c : i < m.num
          · rw [if_pos c]; exact O.rel.exp i c j
          · rw [if_neg c, if_pos (by omega)]
            have e : cell m.exps 0 i j = 0 := by unfold cell; rw [getD_over (t := m.exps) (by rw [O.wf.exps.len]; omega)]; rfl
            rw [e]
            rfl
        · intro i hi j
          have hi : i < (m.add asn).num := hi
          rw [mem_]
          show _ = (cell (m.imps.map (· ++ [0]) ++ [List.replicate (m.num + 1) 0]) 0 i j == 1)
          rw [cell_grow O.wf.imps]
          by_cases c : i < m.num
          · rw [if_pos c]; exact O.rel.imp i c j
          · rw [if_neg c, if_pos (by omega)]
            have e : cell m.imps 0 i j = 0 := by unfold cell; rw [getD_over (t := m.imps) (by rw [O.wf.imps.len]; omega)]; rfl
            rw [e]
            rfl
        · intro i hi j
          have hi : i < (m.add asn).num := hi
          unfold RouteServer.preference
          rw [mem_]
          show _ = cell (m.prefs.map (· ++ [5]) ++ [List.replicate (m.num + 1) 5]) 5 i j
          rw [cell_grow O.wf.prefs]
          by_cases c : i < m.num
          · rw [if_pos c]; exact O.rel.pref i c j
          · rw [if_neg c, if_pos (by omega)]
            have e : cell m.prefs 5 i j = 5 := by unfold cell; rw [getD_over (t := m.prefs) (by rw [O.wf.prefs.len]; omega)]; rfl
            rw [e]
            rfl
        · show [(m.num : Int)] = [Int.ofNat s.members.length]
          rw [hn]
          rfl
  · rw [if_pos h1, if_pos (show asn = 0 ∨ 9999 < asn by omega)]
    exact agree_stay O _
theorem announce_is (O : Ok m s) (k a l : Nat) (path : List Nat) : Agree (opAnnounce m k a l path) (Su201.execute s (.announce k a l path)) := by
  unfold opAnnounce
  show Agree _ (if s.hasMember k = false then (s, Su201.error (-2)) else if Su201.isPrefix a l = false ∨ s.isAsPath k path = false then (s, Su201.error (-22)) else (match s.findRoute k a l with
    | some y => s.update { s with routes := s.routes.map fun z => if z = y then ⟨k, a, l, path⟩ else z }
    | none => if Su201.maxRoutes ≤ s.routes.length then (s, Su201.error (-28)) else s.update { s with routes := s.routes ++ [⟨k, a, l, path⟩] }))
  by_cases hk : k < m.num
  · rw [if_neg (fun z => z hk), if_neg (has_t O hk), isPath_is O hk]
    by_cases h2 : Su201.isPrefix a l = false ∨ isPath path (m.asns.getD k 0) = false
    · rw [if_pos h2, if_pos h2]
      exact agree_stay O _
    · rw [if_neg h2, if_neg h2]
      have hp : Su201.isPrefix a l = true := by
        cases e : Su201.isPrefix a l with
        | true => rfl
        | false => exact absurd (.inl e) h2
      have hq : isPath path (m.asns.getD k 0) = true := by
        cases e : isPath path (m.asns.getD k 0) with
        | true => rfl
        | false => exact absurd (.inr e) h2
      have ef : s.findRoute k a l = m.routes.find? (here k a l) := by
        unfold RouteServer.findRoute
        rw [O.rel.rts]
        rfl
      rw [ef]
      have wf_ : (put m.routes ⟨k, a, l, path⟩).length ≤ 20 → Wf { m with routes := put m.routes ⟨k, a, l, path⟩ } := fun hl =>
        ⟨O.wf.num, O.wf.nd, O.wf.asn, O.wf.exps, O.wf.imps, O.wf.prefs, hl, fun r hr => (mem_put hr).elim (fun e => by subst e; exact hk) (O.wf.ann r), fun r hr => (mem_put hr).elim (fun e => e ▸ hp) (O.wf.pfx r),
          fun r hr => (mem_put hr).elim (fun e => e ▸ isPath_len hq) (O.wf.path r), put_once O.wf.once⟩
      have hmany := O.wf.many
      rcases find_place (rs := m.routes) (k := k) (a := a) (l := l) with ⟨h1, h3⟩ | ⟨i, y, h1, h3, h4, h5⟩
      · rw [h3]
        show Agree _ (if Su201.maxRoutes ≤ s.routes.length then (s, Su201.error (-28)) else s.update { s with routes := s.routes ++ [⟨k, a, l, path⟩] })
        rw [O.rel.rts]
        by_cases c : m.routes.length = 20
        · rw [if_pos ⟨h1, c⟩, if_pos (show Su201.maxRoutes ≤ _ by show 20 ≤ _; omega)]
          exact agree_stay O _
        · rw [if_neg (fun z => c z.2), if_neg (show ¬ Su201.maxRoutes ≤ _ by show ¬ 20 ≤ _; omega)]
          have e : put m.routes ⟨k, a, l, path⟩ = m.routes ++ [⟨k, a, l, path⟩] := by
            unfold put
            dsimp only
            rw [h1]
          refine agree_upd (m' := { m with routes := put m.routes ⟨k, a, l, path⟩ }) O ⟨O.made, wf_ (by rw [e, List.length_append]; show _ + 1 ≤ _; omega), ?_⟩ rfl
          rw [e]
          exact rel_routes O.rel _
      · rw [h4]
        show Agree _ (s.update { s with routes := s.routes.map fun z => if z = y then ⟨k, a, l, path⟩ else z })
        rw [O.rel.rts, if_neg (fun z => by rw [h1] at z; cases z.1), map_set (once_nodup O.wf.once) h3]
        have e : put m.routes ⟨k, a, l, path⟩ = m.routes.set i ⟨k, a, l, path⟩ := by
          unfold put
          dsimp only
          rw [h1]
        refine agree_upd (m' := { m with routes := put m.routes ⟨k, a, l, path⟩ }) O ⟨O.made, wf_ (by rw [e, List.length_set]; exact hmany), ?_⟩ rfl
        rw [e]
        exact rel_routes O.rel _
  · rw [if_pos hk, if_pos (has_f O hk)]
    exact agree_stay O _
theorem find_is (O : Ok m s) (k a l : Nat) : s.findRoute k a l = m.routes.find? (here k a l) := by
  unfold RouteServer.findRoute
  rw [O.rel.rts]
  rfl
theorem without_is (O : Ok m s) {i : Nat} {y : Route} (h : m.routes[i]? = some y) : s.withoutRoute y = { s with routes := but m.routes i } := by
  unfold RouteServer.withoutRoute but
  rw [O.rel.rts, filter_erase (once_nodup O.wf.once) h]
theorem withdraw_is (O : Ok m s) (k a l : Nat) : Agree (opWithdraw m k a l) (Su201.execute s (.withdraw k a l)) := by
  unfold opWithdraw
  show Agree _ (if s.hasMember k = false then (s, Su201.error (-2)) else if Su201.isPrefix a l = false then (s, Su201.error (-22)) else (match s.findRoute k a l with
    | none => (s, Su201.error (-6))
    | some x => s.update (s.withoutRoute x)))
  by_cases hk : k < m.num
  · rw [if_neg (fun z => z hk), if_neg (has_t O hk)]
    by_cases hp : Su201.isPrefix a l = false
    · rw [if_pos hp, if_pos hp]
      exact agree_stay O _
    · rw [if_neg hp, if_neg hp, find_is O]
      rcases find_place (rs := m.routes) (k := k) (a := a) (l := l) with ⟨h1, h3⟩ | ⟨i, y, h1, h3, h4, h5⟩
      · rw [h1, h3]
        exact agree_stay O _
      · rw [h1, h4]
        show Agree _ (s.update (s.withoutRoute y))
        rw [without_is O h3]
        exact agree_upd O (ok_sub O (erase_sub _ _)) rfl
  · rw [if_pos hk, if_pos (has_f O hk)]
    exact agree_stay O _
theorem pairNo_cases (O : Ok m s) (k j v most : Nat) : (pairNo m k j v most = -2 ∧ (s.hasMember k = false ∨ s.hasMember j = false)) ∨
    (pairNo m k j v most = -22 ∧ ¬ (s.hasMember k = false ∨ s.hasMember j = false) ∧ (k = j ∨ most < v)) ∨
    (pairNo m k j v most = 0 ∧ ¬ (s.hasMember k = false ∨ s.hasMember j = false) ∧ ¬ (k = j ∨ most < v) ∧ k < m.num ∧ j < m.num ∧ k ≠ j ∧ v ≤ most) := by
  rw [has_iff O, has_iff O, decide_eq_false_iff_not, decide_eq_false_iff_not]
  unfold pairNo
  by_cases h1 : k < m.num ∧ j < m.num
  · rw [if_neg (fun z => z h1)]
    by_cases h2 : k = j ∨ most < v
    · rw [if_pos h2]
      exact .inr (.inl ⟨rfl, by omega, h2⟩)
    · rw [if_neg h2]
      exact .inr (.inr ⟨rfl, by omega, h2, h1.1, h1.2, by omega, by omega⟩)
  · rw [if_pos h1]
    exact .inl ⟨rfl, by omega⟩
theorem contains_set (l : List Nat) (x d j : Nat) (hd : d ≤ 1) : (Su201.setDenied l x d).contains j = if j = x then (d == 1) else l.contains j := by
  unfold Su201.setDenied
  by_cases h : d = 1
  · subst h
    rw [if_pos rfl]
    by_cases c : l.contains x = true
    · rw [if_pos c]
      by_cases e : j = x
      · subst e; rw [if_pos rfl, c]; rfl
      · rw [if_neg e]
    · rw [if_neg c]
      by_cases e : j = x
      · subst e; rw [if_pos rfl]; simp
      · rw [if_neg e]; simp [e]
  · have h0 : d = 0 := by omega
    subst h0
    rw [if_neg (by decide)]
    by_cases e : j = x
    · subst e; rw [if_pos rfl]; simp
    · rw [if_neg e]
      rw [Bool.eq_iff_iff]
      simp [e]
theorem export_is (O : Ok m s) (k j v : Nat) : Agree (opExport m k j v) (Su201.execute s (.setExport k j v)) := by
  unfold opExport
  show Agree _ (if s.hasMember k = false ∨ s.hasMember j = false then (s, Su201.error (-2)) else if k = j ∨ 1 < v then (s, Su201.error (-22)) else s.update (s.setMember k { s.member k with exportDenied := Su201.setDenied (s.member k).exportDenied j v }))
  have hn := O.rel.num
  rcases pairNo_cases O k j v 1 with ⟨h1, h2⟩ | ⟨h1, h2, h3⟩ | ⟨h1, h2, h3, hk, hj, hkj, hv⟩
  · rw [h1, if_pos (by decide), if_pos h2]
    exact agree_stay O _
  · rw [h1, if_pos (by decide), if_neg h2, if_pos h3]
    exact agree_stay O _
  · rw [h1, if_neg (by decide), if_neg h2, if_neg h3]
    have hk' : k < s.members.length := by omega
    refine agree_upd O ⟨O.made, ⟨O.wf.num, O.wf.nd, O.wf.asn, grid_set O.wf.exps hk hj hv, O.wf.imps, O.wf.prefs, O.wf.many, O.wf.ann, O.wf.pfx, O.wf.path, O.wf.once⟩, ⟨?_, ?_, ?_, ?_, ?_, O.rel.rts⟩⟩ rfl
    · show (s.members.set _ _).length = _
      rw [List.length_set]
      exact hn
    · intro i hi
      rw [member_set hk']
      split
      · rename_i e; subst e; exact O.rel.asn i hi
      · exact O.rel.asn i hi
    · intro i hi q
      rw [member_set hk']
      show _ = (cell (setCell m.exps k j v) 0 i q == 1)
      rw [cell_set O.wf.exps hk hj]
      by_cases e : i = k
      · subst e
        rw [if_pos rfl]
        show (Su201.setDenied _ _ _).contains q = _
        rw [contains_set _ _ _ _ hv]
        by_cases e2 : q = j
        · rw [if_pos e2, if_pos ⟨rfl, e2⟩]
        · rw [if_neg e2, if_neg (fun z => e2 z.2)]
          exact O.rel.exp i hi q
      · rw [if_neg e, if_neg (fun z => e z.1)]
        exact O.rel.exp i hi q
    · intro i hi q
      rw [member_set hk']
      show _ = (cell m.imps 0 i q == 1)
      split
      · rename_i e; subst e; exact O.rel.imp i hi q
      · exact O.rel.imp i hi q
    · intro i hi q
      exact (pref_set_same (x := { s.member k with exportDenied := Su201.setDenied (s.member k).exportDenied j v }) hk' rfl i q).trans (O.rel.pref i hi q)
theorem import_is (O : Ok m s) (k j v : Nat) : Agree (opImport m k j v) (Su201.execute s (.setImport k j v)) := by
  unfold opImport
  show Agree _ (if s.hasMember k = false ∨ s.hasMember j = false then (s, Su201.error (-2)) else if j = k ∨ 1 < v then (s, Su201.error (-22)) else s.update (s.setMember k { s.member k with importDenied := Su201.setDenied (s.member k).importDenied j v }))
  have hn := O.rel.num
  rcases pairNo_cases O k j v 1 with ⟨h1, h2⟩ | ⟨h1, h2, h3⟩ | ⟨h1, h2, h3, hk, hj, hkj, hv⟩
  · rw [h1, if_pos (by decide), if_pos h2]
    exact agree_stay O _
  · rw [h1, if_pos (by decide), if_neg h2, if_pos (by omega)]
    exact agree_stay O _
  · rw [h1, if_neg (by decide), if_neg h2, if_neg (by omega)]
    have hk' : k < s.members.length := by omega
    refine agree_upd O ⟨O.made, ⟨O.wf.num, O.wf.nd, O.wf.asn, O.wf.exps, grid_set O.wf.imps hk hj hv, O.wf.prefs, O.wf.many, O.wf.ann, O.wf.pfx, O.wf.path, O.wf.once⟩, ⟨?_, ?_, ?_, ?_, ?_, O.rel.rts⟩⟩ rfl
    · show (s.members.set _ _).length = _
      rw [List.length_set]
      exact hn
    · intro i hi
      rw [member_set hk']
      split
      · rename_i e; subst e; exact O.rel.asn i hi
      · exact O.rel.asn i hi
    · intro i hi q
      rw [member_set hk']
      show _ = (cell m.exps 0 i q == 1)
      split
      · rename_i e; subst e; exact O.rel.exp i hi q
      · exact O.rel.exp i hi q
    · intro i hi q
      rw [member_set hk']
      show _ = (cell (setCell m.imps k j v) 0 i q == 1)
      rw [cell_set O.wf.imps hk hj]
      by_cases e : i = k
      · subst e
        rw [if_pos rfl]
        show (Su201.setDenied _ _ _).contains q = _
        rw [contains_set _ _ _ _ hv]
        by_cases e2 : q = j
        · rw [if_pos e2, if_pos ⟨rfl, e2⟩]
        · rw [if_neg e2, if_neg (fun z => e2 z.2)]
          exact O.rel.imp i hi q
      · rw [if_neg e, if_neg (fun z => e z.1)]
        exact O.rel.imp i hi q
    · intro i hi q
      exact (pref_set_same (x := { s.member k with importDenied := Su201.setDenied (s.member k).importDenied j v }) hk' rfl i q).trans (O.rel.pref i hi q)
theorem find_filter (l : List (Nat × Nat)) (j q : Nat) (h : q ≠ j) : (l.filter fun y => y.1 != j).find? (fun y => y.1 == q) = l.find? fun y => y.1 == q := by
  rw [List.find?_filter]
  congr 1
  funext y
  by_cases e : y.1 = q
  · simp [e, h]
  · simp [e]
theorem pref_is (O : Ok m s) (k j v : Nat) : Agree (opPref m k j v) (Su201.execute s (.setPreference k j v)) := by
  unfold opPref
  show Agree _ (if s.hasMember k = false ∨ s.hasMember j = false then (s, Su201.error (-2)) else if j = k ∨ 9 < v then (s, Su201.error (-22)) else s.update (s.setMember k { s.member k with preferences := (j, v) :: (s.member k).preferences.filter fun y => y.1 != j }))
  have hn := O.rel.num
  rcases pairNo_cases O k j v 9 with ⟨h1, h2⟩ | ⟨h1, h2, h3⟩ | ⟨h1, h2, h3, hk, hj, hkj, hv⟩
  · rw [h1, if_pos (by decide), if_pos h2]
    exact agree_stay O _
  · rw [h1, if_pos (by decide), if_neg h2, if_pos (by omega)]
    exact agree_stay O _
  · rw [h1, if_neg (by decide), if_neg h2, if_neg (by omega)]
    have hk' : k < s.members.length := by omega
    refine agree_upd O ⟨O.made, ⟨O.wf.num, O.wf.nd, O.wf.asn, O.wf.exps, O.wf.imps, grid_set O.wf.prefs hk hj hv, O.wf.many, O.wf.ann, O.wf.pfx, O.wf.path, O.wf.once⟩, ⟨?_, ?_, ?_, ?_, ?_, O.rel.rts⟩⟩ rfl
    · show (s.members.set _ _).length = _
      rw [List.length_set]
      exact hn
    · intro i hi
      rw [member_set hk']
      split
      · rename_i e; subst e; exact O.rel.asn i hi
      · exact O.rel.asn i hi
    · intro i hi q
      rw [member_set hk']
      show _ = (cell m.exps 0 i q == 1)
      split
      · rename_i e; subst e; exact O.rel.exp i hi q
      · exact O.rel.exp i hi q
    · intro i hi q
      rw [member_set hk']
      show _ = (cell m.imps 0 i q == 1)
      split
      · rename_i e; subst e; exact O.rel.imp i hi q
      · exact O.rel.imp i hi q
    · intro i hi q
      show _ = cell (setCell m.prefs k j v) 5 i q
      rw [cell_set O.wf.prefs hk hj]
      unfold RouteServer.preference
      rw [member_set hk']
      by_cases e : i = k
      · subst e
        rw [if_pos rfl]
        show ((((j, v) :: (s.member i).preferences.filter fun y => y.1 != j).find? fun y => y.1 == q).map fun y => y.2).getD 5 = _
        by_cases e2 : q = j
        · subst e2
          rw [if_pos ⟨rfl, rfl⟩, List.find?_cons_of_pos (by simp)]
          rfl
        · rw [if_neg (fun z => e2 z.2), List.find?_cons_of_neg (by simp only [beq_iff_eq]; exact fun z => e2 z.symm), find_filter _ _ _ e2]
          exact O.rel.pref i hi q
      · rw [if_neg e, if_neg (fun z => e z.1)]
        exact O.rel.pref i hi q
theorem all_is (O : Ok m s) (k : Nat) : Agree (opAll m k) (Su201.execute s (.withdrawAll k)) := by
  unfold opAll
  show Agree _ (if s.hasMember k = false then (s, Su201.error (-2)) else s.update { s with routes := s.routes.filter fun x => x.announcer != k })
  by_cases hk : k < m.num
  · rw [if_neg (fun z => z hk), if_neg (has_t O hk), O.rel.rts]
    exact agree_upd O (ok_sub O List.filter_sublist) rfl
  · rw [if_pos hk, if_pos (has_f O hk)]
    exact agree_stay O _
end

/-! ## what changes nothing -/
section
variable {m : M} {s : RouteServer}
theorem placeNo_cases (O : Ok m s) (k a l : Nat) : (placeNo m k a l = -2 ∧ s.hasMember k = false) ∨ (placeNo m k a l = -22 ∧ ¬ s.hasMember k = false ∧ Su201.isPrefix a l = false) ∨
    (placeNo m k a l = 0 ∧ ¬ s.hasMember k = false ∧ ¬ Su201.isPrefix a l = false ∧ k < m.num) := by
  rw [has_iff O, decide_eq_false_iff_not]
  unfold placeNo
  by_cases h1 : k < m.num
  · rw [if_neg (fun z => z h1)]
    by_cases h2 : Su201.isPrefix a l = false
    · rw [if_pos h2]
      exact .inr (.inl ⟨rfl, fun z => z h1, h2⟩)
    · rw [if_neg h2]
      exact .inr (.inr ⟨rfl, fun z => z h1, h2, h1⟩)
  · rw [if_pos h1]
    exact .inl ⟨rfl, h1⟩
theorem eligs_ok (O : Ok m s) {k : Nat} (hk : k < m.num) (a l : Nat) : s.eligibleRoutes k a l = eligs m m.routes k a l := by
  rw [eligs_is O.rel O.wf.nd (by rw [O.rel.rts]; exact O.wf.rs) hk, O.rel.rts]
theorem table_ok (O : Ok m s) {k : Nat} (hk : k < m.num) : s.routingTable k = table m m.routes k := by
  rw [table_is O.rel O.wf.nd (by rw [O.rel.rts]; exact O.wf.rs) hk, O.rel.rts]
theorem best_is (O : Ok m s) (k a l : Nat) : Agree (m, opBest m k a l) (Su201.execute s (.bestRoute k a l)) := by
  unfold opBest
  show Agree _ (if s.hasMember k = false then (s, Su201.error (-2)) else if Su201.isPrefix a l = false then (s, Su201.error (-22)) else (match s.bestRoute k a l with
    | none => (s, Su201.error (-33))
    | some x => (s, Su201.ok x.announcer (x.asPath.length :: x.asPath))))
  rcases placeNo_cases O k a l with ⟨h1, h2⟩ | ⟨h1, h2, h3⟩ | ⟨h1, h2, h3, hk⟩
  · rw [h1, if_pos (by decide), if_pos h2]
    exact agree_stay O _
  · rw [h1, if_pos (by decide), if_neg h2, if_pos h3]
    exact agree_stay O _
  · rw [h1, if_neg (by decide), if_neg h2, if_neg h3]
    unfold RouteServer.bestRoute
    rw [eligs_ok O hk]
    cases e : eligs m m.routes k a l with
    | nil => exact agree_stay O _
    | cons r t => exact ⟨O, rfl⟩
theorem elig_ops (O : Ok m s) (k a l : Nat) : Agree (m, opElig m k a l) (Su201.execute s (.eligibleRoutes k a l)) := by
  unfold opElig
  show Agree _ (if s.hasMember k = false then (s, Su201.error (-2)) else if Su201.isPrefix a l = false then (s, Su201.error (-22)) else (s, Su201.okList ((s.eligibleRoutes k a l).map fun x => x.announcer)))
  rcases placeNo_cases O k a l with ⟨h1, h2⟩ | ⟨h1, h2, h3⟩ | ⟨h1, h2, h3, hk⟩
  · rw [h1, if_pos (by decide), if_pos h2]
    exact agree_stay O _
  · rw [h1, if_pos (by decide), if_neg h2, if_pos h3]
    exact agree_stay O _
  · rw [h1, if_neg (by decide), if_neg h2, if_neg h3, eligs_ok O hk]
    exact ⟨O, rfl⟩
theorem rtable_is (O : Ok m s) (k : Nat) : Agree (m, opTable m k) (Su201.execute s (.routingTable k)) := by
  unfold opTable
  show Agree _ (if s.hasMember k = false then (s, Su201.error (-2)) else (s, Su201.ok (s.routingTable k).length ((s.routingTable k).flatMap fun x => [x.address, x.length, x.announcer])))
  by_cases hk : k < m.num
  · rw [if_neg (fun z => z hk), if_neg (has_t O hk), table_ok O hk]
    exact ⟨O, rfl⟩
  · rw [if_pos hk, if_pos (has_f O hk)]
    exact agree_stay O _
theorem lookup_is (O : Ok m s) (k x : Nat) : Agree (m, opLookup m k x) (Su201.execute s (.lookup k x)) := by
  unfold opLookup
  show Agree _ (if s.hasMember k = false then (s, Su201.error (-2)) else if 2 ^ Su201.addressBits ≤ x then (s, Su201.error (-22)) else (match s.lookup k x with
    | none => (s, Su201.error (-33))
    | some y => (s, Su201.ok y.announcer [y.address, y.length])))
  by_cases hk : k < m.num
  · rw [if_neg (fun z => z hk), if_neg (has_t O hk)]
    by_cases hx : 256 ≤ x
    · rw [if_pos hx, if_pos (show 2 ^ Su201.addressBits ≤ x from hx)]
      exact agree_stay O _
    · rw [if_neg hx, if_neg (show ¬ 2 ^ Su201.addressBits ≤ x from hx)]
      unfold RouteServer.lookup
      rw [table_ok O hk]
      cases Su201.lookupIn (table m m.routes k) x with
      | none => exact agree_stay O _
      | some y => exact ⟨O, rfl⟩
  · rw [if_pos hk, if_pos (has_f O hk)]
    exact agree_stay O _
theorem reach_is (O : Ok m s) (k : Nat) : Agree (m, opReach m k) (Su201.execute s (.reachableAddresses k)) := by
  unfold opReach
  show Agree _ (if s.hasMember k = false then (s, Su201.error (-2)) else (s, Su201.ok (s.reachableCount k) []))
  by_cases hk : k < m.num
  · rw [if_neg (fun z => z hk), if_neg (has_t O hk)]
    unfold RouteServer.reachableCount
    rw [table_ok O hk]
    exact ⟨O, rfl⟩
  · rw [if_pos hk, if_pos (has_f O hk)]
    exact agree_stay O _
theorem users_is (O : Ok m s) (k : Nat) : Agree (m, opUsers m k) (Su201.execute s (.usersOf k)) := by
  unfold opUsers
  show Agree _ (if s.hasMember k = false then (s, Su201.error (-2)) else (s, Su201.okList ((List.range s.members.length).filter fun r => (s.routingTable r).any fun x => x.announcer == k)))
  by_cases hk : k < m.num
  · rw [if_neg (fun z => z hk), if_neg (has_t O hk)]
    have e : ((List.range s.members.length).filter fun r => (s.routingTable r).any fun x => x.announcer == k) = users (tables m m.routes) k := by
      unfold users tables
      rw [List.length_map, List.length_range, O.rel.num]
      refine List.filter_congr fun i hi => ?_
      have hi : i < m.num := List.mem_range.mp hi
      rw [List.getD_eq_getElem?_getD, List.getElem?_map, List.getElem?_range hi, table_ok O hi]
      rfl
    rw [e]
    exact ⟨O, rfl⟩
  · rw [if_pos hk, if_pos (has_f O hk)]
    exact agree_stay O _
theorem preview_is (O : Ok m s) (k a l : Nat) : Agree (m, opPreview m k a l) (Su201.execute s (.previewWithdraw k a l)) := by
  unfold opPreview
  show Agree _ (if s.hasMember k = false then (s, Su201.error (-2)) else if Su201.isPrefix a l = false then (s, Su201.error (-22)) else (match s.findRoute k a l with
    | none => (s, Su201.error (-6))
    | some x => (s, Su201.okList (s.changedMembers (s.withoutRoute x)))))
  rcases placeNo_cases O k a l with ⟨h1, h2⟩ | ⟨h1, h2, h3⟩ | ⟨h1, h2, h3, hk⟩
  · rw [h1, if_pos (by decide), if_pos h2]
    exact agree_stay O _
  · rw [h1, if_pos (by decide), if_neg h2, if_pos h3]
    exact agree_stay O _
  · rw [h1, if_neg (by decide), if_neg h2, if_neg h3, find_is O]
    rcases find_place (rs := m.routes) (k := k) (a := a) (l := l) with ⟨h1, h3⟩ | ⟨i, y, h1, h3, h4, h5⟩
    · rw [h1, h3]
      exact agree_stay O _
    · rw [h1, h4]
      show Agree _ (s, Su201.okList (s.changedMembers (s.withoutRoute y)))
      rw [without_is O h3]
      exact ⟨O, (changed_is O (ok_sub O (erase_sub m.routes i)) rfl)⟩
theorem announced_is (O : Ok m s) : Agree (m, opPrefixes m) (Su201.execute s .announcedPrefixes) := by
  unfold opPrefixes
  show Agree _ (s, Su201.ok s.prefixes.length (s.prefixes.flatMap fun y => [y.1, y.2]))
  rw [prefixes_is, O.rel.rts]
  exact ⟨O, rfl⟩
theorem own_is (O : Ok m s) (k : Nat) : Agree (m, opRoutes m k) (Su201.execute s (.memberRoutes k)) := by
  unfold opRoutes
  show Agree _ (if s.hasMember k = false then (s, Su201.error (-2)) else (s, Su201.ok (s.routes.filter fun x => x.announcer == k).length ((s.routes.filter fun x => x.announcer == k).flatMap fun x => x.address :: x.length :: x.asPath.length :: x.asPath)))
  by_cases hk : k < m.num
  · rw [if_neg (fun z => z hk), if_neg (has_t O hk), O.rel.rts]
    exact ⟨O, rfl⟩
  · rw [if_pos hk, if_pos (has_f O hk)]
    exact agree_stay O _
theorem bit_is {c : Nat} (h : c ≤ 1) : Su201.boolToNat (c == 1) = c := by
  have : c = 0 ∨ c = 1 := by omega
  rcases this with rfl | rfl <;> rfl
theorem policy_is (O : Ok m s) (k : Nat) : Agree (m, opPolicy m k) (Su201.execute s (.memberPolicy k)) := by
  unfold opPolicy
  show Agree _ (if s.hasMember k = false then (s, Su201.error (-2)) else (s, Su201.ok (s.member k).asn ((List.range s.members.length).flatMap fun r => [Su201.boolToNat ((s.member k).exportDenied.contains r), Su201.boolToNat ((s.member k).importDenied.contains r), s.preference k r])))
  by_cases hk : k < m.num
  · rw [if_neg (fun z => z hk), if_neg (has_t O hk), O.rel.num, O.rel.asn k hk]
    have e : ((List.range m.num).flatMap fun r => [Su201.boolToNat ((s.member k).exportDenied.contains r), Su201.boolToNat ((s.member k).importDenied.contains r), s.preference k r]) = (List.range m.num).flatMap fun j => [cell m.exps 0 k j, cell m.imps 0 k j, cell m.prefs 5 k j] := by
      congr 1
      funext r
      rw [O.rel.exp k hk, O.rel.imp k hk, O.rel.pref k hk, bit_is (O.wf.exps.top k r), bit_is (O.wf.imps.top k r)]
    rw [e]
    exact ⟨O, rfl⟩
  · rw [if_pos hk, if_pos (has_f O hk)]
    exact agree_stay O _
end
end Rs

/-! # The plain law: a whole list of calls -/
namespace Rs
open Su201 (Route RouteServer Member Operation)

/-- m stands for the specification's state, begun or not -/
def St (m : M) : Option RouteServer → Prop
  | none => m.made = false
  | some s => Ok m s
/-- what one call does to the mirror agrees with what the operation does to the specification -/
def StepIs (c : Call) (op : Operation) : Prop := ∀ m o, St m o → (answered m c).2 = tell (Su201.step o op).2 ∧ St (answered m c).1 (Su201.step o op).1
theorem step_reset : StepIs (0, []) .reset := fun m o h => by
  cases o with
  | none => exact ⟨rfl, ok_fresh⟩
  | some s => exact ⟨rfl, ok_fresh⟩
theorem step_deed {p : Nat} {xs : List Nat} {op : Operation} (h0 : p ≠ 0) (hd : isDeed p = true) (hop : Su201.step none op = (none, Su201.error (-11))) (h : ∀ m s, Ok m s → Agree (deed m p xs) (Su201.execute s op)) : StepIs (p, xs) op := fun m o q => by
  cases o with
  | none =>
    have e : m.made = false := q
    unfold answered
    rw [if_pos ⟨h0, e⟩, hop]
    exact ⟨rfl, e⟩
  | some s =>
    have O : Ok m s := q
    unfold answered
    rw [if_neg (fun z => by rw [O.made] at z; cases z.2), if_pos hd]
    obtain ⟨h1, h2⟩ := h m s O
    exact ⟨h2, h1⟩
theorem step_question {p : Nat} {xs : List Nat} {op : Operation} (h0 : p ≠ 0) (hd : isDeed p = false) (hop : Su201.step none op = (none, Su201.error (-11))) (h : ∀ m s, Ok m s → Agree (m, question m p xs) (Su201.execute s op)) : StepIs (p, xs) op := fun m o q => by
  cases o with
  | none =>
    have e : m.made = false := q
    unfold answered
    rw [if_pos ⟨h0, e⟩, hop]
    exact ⟨rfl, e⟩
  | some s =>
    have O : Ok m s := q
    unfold answered
    rw [if_neg (fun z => by rw [O.made] at z; cases z.2), if_neg (by rw [hd]; decide)]
    obtain ⟨h1, h2⟩ := h m s O
    exact ⟨h2, h1⟩

/-- a raw call as the program's calls have it -/
def conv : List (List Int) → Call
  | [p :: xs] => (p.toNat, xs.map Int.toNat)
  | [p :: xs, r] => (p.toNat, xs.map Int.toNat ++ (r.length :: r.map Int.toNat))
  | _ => (0, [])
theorem ints_nil : zInts [] = [] := rfl
theorem ints_cons (x : Nat) (l : List Nat) : zInts (x :: l) = (x : Int) :: zInts l := rfl
theorem ints_app (l r : List Nat) : zInts (l ++ r) = zInts l ++ zInts r := List.map_append
theorem ints_to : ∀ {l : List Int}, (∀ x ∈ l, 0 ≤ x) → zInts (l.map Int.toNat) = l
  | [], _ => rfl
  | x :: l, h => by
    have h1 := h x List.mem_cons_self
    rw [List.map_cons, ints_cons, ints_to fun y hy => h y (List.mem_cons_of_mem _ hy), Int.toNat_of_nonneg h1]
theorem nat_of {z : Int} (h : Su201Neutral.natural z 32 = true) : 0 ≤ z := by
  unfold Su201Neutral.natural at h
  rw [Bool.and_eq_true, decide_eq_true_eq] at h
  exact h.1
/-- one raw call, read: what it is, and what it does -/
structure Good (c : List (List Int)) : Prop where
  ok : CallOk (conv c)
  op : ∃ op, Su201Neutral.callOf ((PySu201.whole c).headD []) = some op ∧ StepIs (conv c) op
structure CallRead (p : Int) (r : List Int) (c : List (List Int)) (t : List Int) : Prop where
  eq : p :: r = zInts ((conv c).1 :: (conv c).2) ++ t
  good : Good c
theorem and3 {a b c : Bool} (h : (a && (b && c)) = true) : a = true ∧ b = true ∧ c = true := by
  rw [Bool.and_eq_true, Bool.and_eq_true] at h
  exact h
theorem take3 {α : Type} {r : List α} (h : ¬ r.length < 3) : ∃ x y z t, r = x :: y :: z :: t := by
  match r, h with
  | x :: y :: z :: t, _ => exact ⟨x, y, z, t, rfl⟩
  | [], h => simp at h
  | [_], h => simp at h
  | [_, _], h => simp at h
theorem take1 {α : Type} {r : List α} (h : ¬ r.length < 1) : ∃ x t, r = x :: t := by
  match r, h with
  | x :: t, _ => exact ⟨x, t, rfl⟩
  | [], h => simp at h
theorem take2 {α : Type} {r : List α} (h : ¬ r.length < 2) : ∃ x y t, r = x :: y :: t := by
  match r, h with
  | x :: y :: t, _ => exact ⟨x, y, t, rfl⟩
  | [], h => simp at h
  | [_], h => simp at h
theorem reads0 {p : Nat} {t : List Int} {op : Operation} (hok : CallOk (p, [])) (hc : Su201Neutral.callOf ((PySu201.whole [[(p : Int)]]).headD []) = some op) (hs : StepIs (p, []) op) : CallRead p t [[(p : Int)]] t :=
  ⟨rfl, hok, op, hc, hs⟩
theorem reads1 {p : Nat} {x : Int} {t : List Int} {op : Operation} (hx : 0 ≤ x) (hok : ∀ a, CallOk (p, [a])) (hc : Su201Neutral.callOf ((PySu201.whole [[(p : Int), x]]).headD []) = some op) (hs : StepIs (p, [x.toNat]) op) : CallRead p (x :: t) [[(p : Int), x]] t :=
  ⟨by show (p : Int) :: x :: t = (p : Int) :: (x.toNat : Int) :: t; rw [Int.toNat_of_nonneg hx], hok _, op, hc, hs⟩
theorem reads2 {p : Nat} {x y : Int} {t : List Int} {op : Operation} (hx : 0 ≤ x) (hy : 0 ≤ y) (hok : ∀ a b, CallOk (p, [a, b])) (hc : Su201Neutral.callOf ((PySu201.whole [[(p : Int), x, y]]).headD []) = some op) (hs : StepIs (p, [x.toNat, y.toNat]) op) : CallRead p (x :: y :: t) [[(p : Int), x, y]] t :=
  ⟨by show (p : Int) :: x :: y :: t = (p : Int) :: (x.toNat : Int) :: (y.toNat : Int) :: t; rw [Int.toNat_of_nonneg hx, Int.toNat_of_nonneg hy], hok _ _, op, hc, hs⟩
theorem reads3 {p : Nat} {x y z : Int} {t : List Int} {op : Operation} (hx : 0 ≤ x) (hy : 0 ≤ y) (hz : 0 ≤ z) (hok : ∀ a b c, CallOk (p, [a, b, c])) (hc : Su201Neutral.callOf ((PySu201.whole [[(p : Int), x, y, z]]).headD []) = some op) (hs : StepIs (p, [x.toNat, y.toNat, z.toNat]) op) :
    CallRead p (x :: y :: z :: t) [[(p : Int), x, y, z]] t :=
  ⟨by show (p : Int) :: x :: y :: z :: t = (p : Int) :: (x.toNat : Int) :: (y.toNat : Int) :: (z.toNat : Int) :: t; rw [Int.toNat_of_nonneg hx, Int.toNat_of_nonneg hy, Int.toNat_of_nonneg hz], hok _ _ _, op, hc, hs⟩
theorem shape_cases {p : Int} {n k : Nat} (h : PySu201.shape p = some (n, k)) :
    ((p = 0 ∨ p = 15) ∧ n = 0 ∧ k = 0) ∨ ((p = 1 ∨ p = 9 ∨ p = 11 ∨ p = 12 ∨ p = 14 ∨ p = 16 ∨ p = 17) ∧ n = 1 ∧ k = 0) ∨ (p = 10 ∧ n = 2 ∧ k = 0) ∨
    ((p = 3 ∨ p = 4 ∨ p = 5 ∨ p = 6 ∨ p = 7 ∨ p = 8 ∨ p = 13) ∧ n = 3 ∧ k = 0) ∨ (p = 2 ∧ n = 3 ∧ k = 1) := by
  unfold PySu201.shape at h
  by_cases h0 : p = 0
  · rw [if_pos h0] at h
    simp only [Option.some.injEq, Prod.mk.injEq] at h
    omega
  rw [if_neg h0] at h
  by_cases h1 : p = 1
  · rw [if_pos h1] at h
    simp only [Option.some.injEq, Prod.mk.injEq] at h
    omega
  rw [if_neg h1] at h
  by_cases h2 : p = 2
  · rw [if_pos h2] at h
    simp only [Option.some.injEq, Prod.mk.injEq] at h
    omega
  rw [if_neg h2] at h
  by_cases h3 : p = 3
  · rw [if_pos h3] at h
    simp only [Option.some.injEq, Prod.mk.injEq] at h
    omega
  rw [if_neg h3] at h
  by_cases h4 : p = 4
  · rw [if_pos h4] at h
    simp only [Option.some.injEq, Prod.mk.injEq] at h
    omega
  rw [if_neg h4] at h
  by_cases h5 : p = 5
  · rw [if_pos h5] at h
    simp only [Option.some.injEq, Prod.mk.injEq] at h
    omega
  rw [if_neg h5] at h
  by_cases h6 : p = 6
  · rw [if_pos h6] at h
    simp only [Option.some.injEq, Prod.mk.injEq] at h
    omega
  rw [if_neg h6] at h
  by_cases h7 : p = 7
  · rw [if_pos h7] at h
    simp only [Option.some.injEq, Prod.mk.injEq] at h
    omega
  rw [if_neg h7] at h
  by_cases h8 : p = 8
  · rw [if_pos h8] at h
    simp only [Option.some.injEq, Prod.mk.injEq] at h
    omega
  rw [if_neg h8] at h
  by_cases h9 : p = 9
  · rw [if_pos h9] at h
    simp only [Option.some.injEq, Prod.mk.injEq] at h
    omega
  rw [if_neg h9] at h
  by_cases h10 : p = 10
  · rw [if_pos h10] at h
    simp only [Option.some.injEq, Prod.mk.injEq] at h
    omega
  rw [if_neg h10] at h
  by_cases h11 : p = 11
  · rw [if_pos h11] at h
    simp only [Option.some.injEq, Prod.mk.injEq] at h
    omega
  rw [if_neg h11] at h
  by_cases h12 : p = 12
  · rw [if_pos h12] at h
    simp only [Option.some.injEq, Prod.mk.injEq] at h
    omega
  rw [if_neg h12] at h
  by_cases h13 : p = 13
  · rw [if_pos h13] at h
    simp only [Option.some.injEq, Prod.mk.injEq] at h
    omega
  rw [if_neg h13] at h
  by_cases h14 : p = 14
  · rw [if_pos h14] at h
    simp only [Option.some.injEq, Prod.mk.injEq] at h
    omega
  rw [if_neg h14] at h
  by_cases h15 : p = 15
  · rw [if_pos h15] at h
    simp only [Option.some.injEq, Prod.mk.injEq] at h
    omega
  rw [if_neg h15] at h
  by_cases h16 : p = 16
  · rw [if_pos h16] at h
    simp only [Option.some.injEq, Prod.mk.injEq] at h
    omega
  rw [if_neg h16] at h
  by_cases h17 : p = 17
  · rw [if_pos h17] at h
    simp only [Option.some.injEq, Prod.mk.injEq] at h
    omega
  rw [if_neg h17] at h
  cases h
theorem call_reads {p : Int} {r : List Int} {c : List (List Int)} {t : List Int} (h : PyFlat.call PySu201.shape (p :: r) = some (c, t)) (ha : Su201Neutral.asked1 ((PySu201.whole c).headD []) = true) : CallRead p r c t := by
  unfold PyFlat.call at h
  dsimp only at h
  cases es : PySu201.shape p with
  | none => rw [es] at h; cases h
  | some nk =>
    obtain ⟨n, k⟩ := nk
    rw [es] at h
    dsimp only at h
    split at h
    · cases h
    · rename_i hl
      rcases shape_cases es with ⟨hp, rfl, rfl⟩ | ⟨hp, rfl, rfl⟩ | ⟨rfl, rfl, rfl⟩ | ⟨hp, rfl, rfl⟩ | ⟨rfl, rfl, rfl⟩
      · have e : some ([[p]], r) = some (c, t) := h
        cases e
        rcases hp with rfl | rfl
        · exact reads0 (p := 0) (op := .reset) ⟨by decide, rfl⟩ rfl step_reset
        · exact reads0 (p := 15) (op := .announcedPrefixes) ⟨by decide, rfl⟩ rfl (step_question (by decide) rfl rfl fun m s O => announced_is O)
      · obtain ⟨x, t', rfl⟩ := take1 hl
        have e : some ([[p, x]], t') = some (c, t) := h
        cases e
        rcases hp with rfl | rfl | rfl | rfl | rfl | rfl | rfl
        · have hx : (([1, 9, 11, 12, 14, 16, 17] : List Int).contains 1 && Su201Neutral.natural x 32) = true := ha
          exact reads1 (p := 1) (op := .addMember x.toNat) (nat_of (Bool.and_eq_true_iff.mp hx).2) (fun _ => ⟨(by decide : 1 < 18), rfl⟩) rfl (step_deed (by decide) rfl rfl fun m s O => add_is O _)
        · have hx : (([1, 9, 11, 12, 14, 16, 17] : List Int).contains 9 && Su201Neutral.natural x 32) = true := ha
          exact reads1 (p := 9) (op := .routingTable x.toNat) (nat_of (Bool.and_eq_true_iff.mp hx).2) (fun _ => ⟨(by decide : 9 < 18), rfl⟩) rfl (step_question (by decide) rfl rfl fun m s O => rtable_is O _)
        · have hx : (([1, 9, 11, 12, 14, 16, 17] : List Int).contains 11 && Su201Neutral.natural x 32) = true := ha
          exact reads1 (p := 11) (op := .reachableAddresses x.toNat) (nat_of (Bool.and_eq_true_iff.mp hx).2) (fun _ => ⟨(by decide : 11 < 18), rfl⟩) rfl (step_question (by decide) rfl rfl fun m s O => reach_is O _)
        · have hx : (([1, 9, 11, 12, 14, 16, 17] : List Int).contains 12 && Su201Neutral.natural x 32) = true := ha
          exact reads1 (p := 12) (op := .usersOf x.toNat) (nat_of (Bool.and_eq_true_iff.mp hx).2) (fun _ => ⟨(by decide : 12 < 18), rfl⟩) rfl (step_question (by decide) rfl rfl fun m s O => users_is O _)
        · have hx : (([1, 9, 11, 12, 14, 16, 17] : List Int).contains 14 && Su201Neutral.natural x 32) = true := ha
          exact reads1 (p := 14) (op := .withdrawAll x.toNat) (nat_of (Bool.and_eq_true_iff.mp hx).2) (fun _ => ⟨(by decide : 14 < 18), rfl⟩) rfl (step_deed (by decide) rfl rfl fun m s O => all_is O _)
        · have hx : (([1, 9, 11, 12, 14, 16, 17] : List Int).contains 16 && Su201Neutral.natural x 32) = true := ha
          exact reads1 (p := 16) (op := .memberRoutes x.toNat) (nat_of (Bool.and_eq_true_iff.mp hx).2) (fun _ => ⟨(by decide : 16 < 18), rfl⟩) rfl (step_question (by decide) rfl rfl fun m s O => own_is O _)
        · have hx : (([1, 9, 11, 12, 14, 16, 17] : List Int).contains 17 && Su201Neutral.natural x 32) = true := ha
          exact reads1 (p := 17) (op := .memberPolicy x.toNat) (nat_of (Bool.and_eq_true_iff.mp hx).2) (fun _ => ⟨(by decide : 17 < 18), rfl⟩) rfl (step_question (by decide) rfl rfl fun m s O => policy_is O _)
      · obtain ⟨x, y, t', rfl⟩ := take2 hl
        have e : some ([[10, x, y]], t') = some (c, t) := h
        cases e
        have hx : (([10] : List Int).contains 10 && (Su201Neutral.natural x 32 && Su201Neutral.natural y 32)) = true := ha
        obtain ⟨_, h1, h2⟩ := and3 hx
        exact reads2 (p := 10) (op := .lookup x.toNat y.toNat) (nat_of h1) (nat_of h2) (fun _ _ => ⟨(by decide : 10 < 18), rfl⟩) rfl (step_question (by decide) rfl rfl fun m s O => lookup_is O _ _)
      · obtain ⟨x, y, z, t', rfl⟩ := take3 hl
        have e : some ([[p, x, y, z]], t') = some (c, t) := h
        cases e
        have hx : Su201Neutral.natural x 32 = true ∧ Su201Neutral.natural y 32 = true ∧ Su201Neutral.natural z 32 = true := by
          rcases hp with rfl | rfl | rfl | rfl | rfl | rfl | rfl
          · have hx : (([3, 4, 5, 6, 7, 8, 13] : List Int).contains 3 && (Su201Neutral.natural x 32 && (Su201Neutral.natural y 32 && Su201Neutral.natural z 32))) = true := ha
            obtain ⟨_, h1, h2⟩ := and3 hx
            exact ⟨h1, Bool.and_eq_true_iff.mp h2⟩
          · have hx : (([3, 4, 5, 6, 7, 8, 13] : List Int).contains 4 && (Su201Neutral.natural x 32 && (Su201Neutral.natural y 32 && Su201Neutral.natural z 32))) = true := ha
            obtain ⟨_, h1, h2⟩ := and3 hx
            exact ⟨h1, Bool.and_eq_true_iff.mp h2⟩
          · have hx : (([3, 4, 5, 6, 7, 8, 13] : List Int).contains 5 && (Su201Neutral.natural x 32 && (Su201Neutral.natural y 32 && Su201Neutral.natural z 32))) = true := ha
            obtain ⟨_, h1, h2⟩ := and3 hx
            exact ⟨h1, Bool.and_eq_true_iff.mp h2⟩
          · have hx : (([3, 4, 5, 6, 7, 8, 13] : List Int).contains 6 && (Su201Neutral.natural x 32 && (Su201Neutral.natural y 32 && Su201Neutral.natural z 32))) = true := ha
            obtain ⟨_, h1, h2⟩ := and3 hx
            exact ⟨h1, Bool.and_eq_true_iff.mp h2⟩
          · have hx : (([3, 4, 5, 6, 7, 8, 13] : List Int).contains 7 && (Su201Neutral.natural x 32 && (Su201Neutral.natural y 32 && Su201Neutral.natural z 32))) = true := ha
            obtain ⟨_, h1, h2⟩ := and3 hx
            exact ⟨h1, Bool.and_eq_true_iff.mp h2⟩
          · have hx : (([3, 4, 5, 6, 7, 8, 13] : List Int).contains 8 && (Su201Neutral.natural x 32 && (Su201Neutral.natural y 32 && Su201Neutral.natural z 32))) = true := ha
            obtain ⟨_, h1, h2⟩ := and3 hx
            exact ⟨h1, Bool.and_eq_true_iff.mp h2⟩
          · have hx : (([3, 4, 5, 6, 7, 8, 13] : List Int).contains 13 && (Su201Neutral.natural x 32 && (Su201Neutral.natural y 32 && Su201Neutral.natural z 32))) = true := ha
            obtain ⟨_, h1, h2⟩ := and3 hx
            exact ⟨h1, Bool.and_eq_true_iff.mp h2⟩
        obtain ⟨h1, h2, h3⟩ := hx
        rcases hp with rfl | rfl | rfl | rfl | rfl | rfl | rfl
        · exact reads3 (p := 3) (op := .withdraw x.toNat y.toNat z.toNat) (nat_of h1) (nat_of h2) (nat_of h3) (fun _ _ _ => ⟨(by decide : 3 < 18), rfl⟩) rfl (step_deed (by decide) rfl rfl fun m s O => withdraw_is O _ _ _)
        · exact reads3 (p := 4) (op := .setExport x.toNat y.toNat z.toNat) (nat_of h1) (nat_of h2) (nat_of h3) (fun _ _ _ => ⟨(by decide : 4 < 18), rfl⟩) rfl (step_deed (by decide) rfl rfl fun m s O => export_is O _ _ _)
        · exact reads3 (p := 5) (op := .setImport x.toNat y.toNat z.toNat) (nat_of h1) (nat_of h2) (nat_of h3) (fun _ _ _ => ⟨(by decide : 5 < 18), rfl⟩) rfl (step_deed (by decide) rfl rfl fun m s O => import_is O _ _ _)
        · exact reads3 (p := 6) (op := .setPreference x.toNat y.toNat z.toNat) (nat_of h1) (nat_of h2) (nat_of h3) (fun _ _ _ => ⟨(by decide : 6 < 18), rfl⟩) rfl (step_deed (by decide) rfl rfl fun m s O => pref_is O _ _ _)
        · exact reads3 (p := 7) (op := .bestRoute x.toNat y.toNat z.toNat) (nat_of h1) (nat_of h2) (nat_of h3) (fun _ _ _ => ⟨(by decide : 7 < 18), rfl⟩) rfl (step_question (by decide) rfl rfl fun m s O => best_is O _ _ _)
        · exact reads3 (p := 8) (op := .eligibleRoutes x.toNat y.toNat z.toNat) (nat_of h1) (nat_of h2) (nat_of h3) (fun _ _ _ => ⟨(by decide : 8 < 18), rfl⟩) rfl (step_question (by decide) rfl rfl fun m s O => elig_ops O _ _ _)
        · exact reads3 (p := 13) (op := .previewWithdraw x.toNat y.toNat z.toNat) (nat_of h1) (nat_of h2) (nat_of h3) (fun _ _ _ => ⟨(by decide : 13 < 18), rfl⟩) rfl (step_question (by decide) rfl rfl fun m s O => preview_is O _ _ _)
      · obtain ⟨x, y, z, t', rfl⟩ := take3 hl
        have e : (match PyFlat.rows 1 t' with
          | none => none
          | some (xs, t) => some ([2, x, y, z] :: xs, t)) = some (c, t) := h
        unfold PyFlat.rows PyFlat.row at e
        match t', e with
        | n :: r, e =>
          dsimp only at e
          by_cases hn : 0 ≤ n ∧ n.toNat ≤ r.length
          · rw [if_pos hn] at e
            have e : some ([[2, x, y, z], r.take n.toNat], r.drop n.toNat) = some (c, t) := e
            cases e
            have hx : (Su201Neutral.natural x 32 && (Su201Neutral.natural y 32 && (Su201Neutral.natural z 32 && (decide ((r.take n.toNat).length ≤ 8) && (r.take n.toNat).all fun z => Su201Neutral.natural z 32)))) = true := ha
            obtain ⟨h1, h2, h4⟩ := and3 hx
            obtain ⟨h3, _, h5⟩ := and3 h4
            have hall : ∀ w ∈ r.take n.toNat, 0 ≤ w := fun w hw => nat_of (List.all_eq_true.mp h5 w hw)
            have hlen : (r.take n.toNat).length = n.toNat := by rw [List.length_take]; omega
            refine ⟨?_, ⟨(by decide : 2 < 18), ?_⟩, .announce x.toNat y.toNat z.toNat ((r.take n.toNat).map Int.toNat), rfl, step_deed (by decide) rfl rfl fun m s O => announce_is O _ _ _ _⟩
            · show (2 : Int) :: x :: y :: z :: n :: r = (2 : Int) :: (x.toNat : Int) :: (y.toNat : Int) :: (z.toNat : Int) :: ((r.take n.toNat).length : Int) :: (zInts ((r.take n.toNat).map Int.toNat) ++ r.drop n.toNat)
              rw [ints_to hall, List.take_append_drop, hlen, Int.toNat_of_nonneg (nat_of h1), Int.toNat_of_nonneg (nat_of h2), Int.toNat_of_nonneg (nat_of h3), Int.toNat_of_nonneg hn.1]
            · show ([x.toNat, y.toNat, z.toNat] ++ ((r.take n.toNat).length :: (r.take n.toNat).map Int.toNat)).length = 4 + (r.take n.toNat).length
              simp only [List.length_append, List.length_cons, List.length_nil, List.length_map]
              omega
          · rw [if_neg hn] at e
            cases e
theorem calls_reads : ∀ (f : Nat) (l : List Int) (raw : List (List (List Int))), PyFlat.calls PySu201.shape f l = some raw → (∀ c ∈ raw, Su201Neutral.asked1 ((PySu201.whole c).headD []) = true) →
    l = zInts (flat (raw.map conv)) ∧ ∀ c ∈ raw, Good c
  | f, [], raw, h, _ => by
    have e : some [] = some raw := by
      cases f <;> exact h
    cases e
    exact ⟨rfl, none_in⟩
  | 0, _ :: _, raw, h, _ => by cases h
  | f + 1, p :: r, raw, h, ha => by
    unfold PyFlat.calls at h
    cases e1 : PyFlat.call PySu201.shape (p :: r) with
    | none => rw [e1] at h; cases h
    | some ct =>
      obtain ⟨c, t⟩ := ct
      rw [e1] at h
      dsimp only at h
      cases e2 : PyFlat.calls PySu201.shape f t with
      | none => rw [e2] at h; cases h
      | some cs =>
        rw [e2] at h
        cases h
        have R := call_reads e1 (ha c List.mem_cons_self)
        obtain ⟨h1, h2⟩ := calls_reads f t cs e2 fun c hc => ha c (List.mem_cons_of_mem _ hc)
        refine ⟨?_, fun c' hc => ?_⟩
        · rw [R.eq]
          conv => lhs; rw [h1]
          rw [← ints_app]
          rfl
        · rcases List.mem_cons.mp hc with rfl | hc
          · exact R.good
          · exact h2 c' hc
theorem played_is : ∀ (raw : List (List (List Int))), (∀ c ∈ raw, Good c) → ∀ m o, St m o → PyFlat.played (fun s c => Su201Neutral.step s (c.headD [])) o (raw.map PySu201.whole) = played m (raw.map conv)
  | [], _, _, _, _ => rfl
  | c :: raw, h, m, o, q => by
    obtain ⟨op, h1, h2⟩ := (h c List.mem_cons_self).op
    obtain ⟨h3, h4⟩ := h2 m o q
    have e : Su201Neutral.step o ((PySu201.whole c).headD []) = ((Su201.step o op).1, tell (Su201.step o op).2) := by
      unfold Su201Neutral.step
      rw [h1]
      rfl
    show (Su201Neutral.step o ((PySu201.whole c).headD [])).2 :: PyFlat.played _ (Su201Neutral.step o ((PySu201.whole c).headD [])).1 (raw.map PySu201.whole) = (answered m (conv c)).2 :: played (answered m (conv c)).1 (raw.map conv)
    rw [e, h3, played_is raw (fun c hc => h c (List.mem_cons_of_mem _ hc)) _ _ h4]
/-- the law: whatever is asked, the mirror answers what is due -/
theorem law {l : List Int} (h : PySu201.answers_asked l = true) : ∃ cs : List Call, l = zInts (flat cs) ∧ (∀ c ∈ cs, CallOk c) ∧ cs.length ≤ 400 ∧ PySu201.answers l = told (played M.start cs) ∧ (told (played M.start cs)).length ≤ 10000000 := by
  unfold PySu201.answers_asked at h
  cases e : PyFlat.calls PySu201.shape l.length l with
  | none => rw [e] at h; cases h
  | some raw =>
    rw [e] at h
    dsimp only at h
    simp only [Bool.and_eq_true] at h
    obtain ⟨⟨⟨⟨h1, h2⟩, h3⟩, h4⟩, h5⟩ := h
    have h2 : raw.length ≤ 400 := of_decide_eq_true h2
    have h5 : (PySu201.answers l).length ≤ 10000000 := of_decide_eq_true h5
    unfold Su201Neutral.asked at h4
    simp only [Bool.and_eq_true] at h4
    have hall : ∀ c ∈ raw, Su201Neutral.asked1 ((PySu201.whole c).headD []) = true := fun c hc =>
      List.all_eq_true.mp h4.2 _ (List.mem_map.mpr ⟨PySu201.whole c, List.mem_map.mpr ⟨c, hc, rfl⟩, rfl⟩)
    obtain ⟨e1, e2⟩ := calls_reads _ _ _ e hall
    have ea : PySu201.answers l = told (played M.start (raw.map conv)) := by
      unfold PySu201.answers PySu201.calls
      rw [e]
      dsimp only
      rw [show Su201Neutral.start = none from rfl, played_is raw e2 M.start none rfl]
      rfl
    refine ⟨raw.map conv, e1, fun c hc => ?_, by rw [List.length_map]; exact h2, ea, by rw [← ea]; exact h5⟩
    obtain ⟨c0, h0, rfl⟩ := List.mem_map.mp hc
    exact (e2 c0 h0).ok
end Rs

/-! # The walk, part 0: the text by places, what the top leaves, how the mirror's data lie in the heap -/
namespace Rs
open PySem PySem.Spec L2 PyProof.Rows
open Su201 (Route)

/-! ## the text by places -/
def top (i : Nat) : Stmt := PySem.Challenge.pw_nohiddenpaths_s01_answers.main.body.getD i (.Pass ⟨0, 0, 0, 0⟩)
def fD (x : Str) (i : Nat) : He.DefD := ⟨(x, none), x, x, defArgs (top i), defBody (top i), defScope (top i), [], []⟩
def mD (m q : Str) (j : Nat) : He.DefD := ⟨("Server", some m), m, q, defArgs (inClass (top 67) j), defBody (inClass (top 67) j), defScope (inClass (top 67) j), [], []⟩
def fns1 : List He.DefD := [fD "is_prefix" 17, fD "contains" 18, fD "is_eligible" 20, fD "rank" 21, fD "eligible_ones" 22, fD "prefixes_of" 23, fD "table_of" 24, fD "looked_up" 25, fD "tables_of" 27, fD "unlike_places" 28, fD "counted" 29, fD "changed_since" 30, fD "reset" 32, fD "is_asn" 33, fD "is_path" 34, fD "add_member" 35, fD "announce" 36, fD "withdraw" 37, fD "pair_refusal" 38, fD "set_export" 39, fD "set_import" 40, fD "set_preference" 41, fD "withdraw_all" 42, fD "is_deed" 44, fD "done" 45]
def fns2 : List He.DefD := [fD "place_refusal" 47, fD "tell_best" 48, fD "tell_eligible" 49, fD "tell_table" 50, fD "tell_lookup" 51, fD "tell_reachable" 52, fD "uses" 53, fD "tell_users" 54, fD "tell_preview" 55, fD "tell_prefixes" 56, fD "tell_routes" 57, fD "tell_policy" 58, fD "asked" 60, fD "part_count" 64, fD "calls_in" 65, fD "answered" 70, fD "answers" 71]
def fns3 : List He.DefD := [mD "__init__" "Server.__init__" 0, mD "begin" "Server.begin" 1, mD "add_member" "Server.add_member" 2, mD "has_member" "Server.has_member" 3, mD "members" "Server.members" 4, mD "place_of" "Server.place_of" 5, mD "put_route" "Server.put_route" 6, mD "routes_but" "Server.routes_but" 7, mD "keep_routes" "Server.keep_routes" 8, mD "set_export" "Server.set_export" 9, mD "set_import" "Server.set_import" 10, mD "set_preference" "Server.set_preference" 11]
def fns : List He.DefD := fns1 ++ (fns2 ++ fns3)
/-- the top's defs and data by name -/
def gloN1 : List Str := ["is_prefix", "contains", "is_eligible", "rank", "eligible_ones", "prefixes_of", "table_of", "looked_up", "tables_of", "unlike_places", "counted", "changed_since", "reset", "is_asn", "is_path", "add_member", "announce", "withdraw", "pair_refusal", "set_export", "set_import", "set_preference", "withdraw_all", "is_deed"]
def gloN2 : List Str := ["done", "place_refusal", "tell_best", "tell_eligible", "tell_table", "tell_lookup", "tell_reachable", "uses", "tell_users", "tell_preview", "tell_prefixes", "tell_routes", "tell_policy", "asked", "part_count", "calls_in", "answered", "answers", "Server", "SIZES", "PART_COUNTS", "DEEDS", "QUESTIONS"]
def gloN : List Str := gloN1 ++ gloN2
def freeN : List Str := ["len", "sorted", "set", "list", "tuple", "range", "enumerate", "all", "any"]
def intN : List (Str × Int) := [("NO_SERVER", -11), ("NO_MEMBER", -2), ("NO_ROUTE", -6), ("TAKEN", -17), ("INVALID", -22), ("FULL", -28), ("NOTHING_FOUND", -33), ("MOST_MEMBERS", 6), ("MOST_ROUTES", 20), ("MOST_ASN", 9999), ("MOST_PATH", 6),
  ("MOST_LENGTH", 8), ("MOST_PREFERENCE", 9), ("FIRST_PREFERENCE", 5), ("ADDRESSES", 256), ("ANNOUNCE", 2), ("RESET", 0)]
def attN : List Str := ["is_made", "asns", "exports", "imports", "preferences", "routes"]
def metN : List Str := ["begin", "add_member", "has_member", "members", "place_of", "put_route", "routes_but", "keep_routes", "set_export", "set_import", "set_preference"]
def sizesL : List Int := [256, 128, 64, 32, 16, 8, 4, 2, 1]
def countsL : List Int := [0, 1, 4, 3, 3, 3, 3, 3, 3, 1, 2, 1, 1, 3, 1, 0, 1, 1]
abbrev ga := He.ga
/-- the class -/
abbrev cS (K : PySem.W.Frag) : Addr := ga K "Server"
abbrev ma (K : PySem.W.Frag) (m : Str) : Addr := He.ma K (cS K) m
/-- the code object of eligible_ones -/
def cdE (K : PySem.W.Frag) : Addr := match K.lookup (ga K "eligible_ones") with
  | some ⟨_, _, .func fd, _⟩ => (match fd.code with
    | .ref c => c
    | _ => 0)
  | _ => 0
/-- its table of code objects -/
def tbE (K : PySem.W.Frag) : Addr := match K.lookup (cdE K) with
  | some ⟨_, _, .fields vs, _⟩ => (match vs.getD 11 .none with
    | .ref P => P
    | _ => 0)
  | _ => 0
def qlE : Str := ("eligible_ones" : Str) ++ (".<locals>." : Str) ++ ("<lambda>" : Str)
def tE (K : PySem.W.Frag) : List (Addr × Str) := [(tbE K, qlE)]
/-- what the top has left -/
structure Tx (K : PySem.W.Frag) (mg : Str → Option Value) (base : Heap) : Prop where
  fn : ∀ (i : Nat) (d : He.DefD), fns[i]? = some d → ∃ fd, FunD K d.name d.qual d.params d.body d.scope [] [] (He.fAd K d.at_) fd
  glo : ∀ x ∈ gloN, mg x = some (.ref (ga K x))
  free : ∀ x ∈ freeN, mg x = none
  int : ∀ p ∈ intN, ∃ t, mg p.1 = some (.int p.2 t)
  cl : Cls K (cS K)
  na : ∀ x ∈ attN, NoAttr K (cS K) x
  me : ∀ x ∈ metN, Meth K (cS K) x (ma K x)
  mkr : Mk K (cS K) (ma K "__init__")
  sizes : ∀ H, SqT K H (ga K "SIZES") (sizesL.map V.int)
  counts : ∀ H, SqT K H (ga K "PART_COUNTS") (countsL.map V.int)
  cdf : ∃ oc od fd osl, K.lookup (ga K "eligible_ones") = some ⟨oc, od, .func fd, osl⟩ ∧ fd.code = .ref (cdE K)
  tab : LamX.TabB base mg (cdE K) (tbE K)
/-- a def keeps its promise and may be called -/
def OkD (P : Program) (w : World) (K : PySem.W.Frag) (mg : Str → Option Value) (base : Heap) (k : Nat) (a : Addr) (ps : List Str) (sp : Sp) : Prop :=
  ∃ fd, FnOk P w K mg base CX0 k a fd ps sp ∧ Binds K fd ps [] ∧ PySem.W.keepIn K (.ref a) = true
theorem okD_mk {P : Program} {w : World} {K : PySem.W.Frag} {mg : Str → Option Value} {base : Heap} {k : Nat} {a : Addr} {ps : List Str} {sp : Sp} {x q : Str} {ar : Arguments} {bd : List Stmt} {sc : Scope} {fd : FuncData}
    (F : FunD K x q ar bd sc [] [] a fd) (G : FnOk P w K mg base CX0 k a fd ps sp) (h : ∀ (kV doc pm : Value) (an : Option Addr) (cdv ct : Value) (us : List Value), us.length = ps.length → bindArgs (PySem.W.fnOf x q ar bd sc .none kV doc pm an cdv ct) ⟨us, []⟩ = pure (ps.zip us)) :
    OkD P w K mg base k a ps sp := ⟨fd, G, F.bindsN h, F.kp⟩

/-! ## heaps -/
/-- all but the tables of code objects stands; a table goes on telling -/
structure Kt (K : PySem.W.Frag) (H H' : Hp) : Prop where
  ke : LamX.ExtN H H'
  tb : LamX.Tabs (tE K) H → LamX.Tabs (tE K) H'
/-- nothing is tracked there, but for a table -/
def Nw (H : Hp) (q : Addr) : Prop := ∀ o, H q = some o → ∃ ps, o = .tbl ps
theorem Nw.of {H : Hp} {q : Addr} (h : H q = none) : Nw H q := fun o e => by
  rw [h] at e
  cases e
theorem Nw.ne {H : Hp} {a q : Addr} {o : HO} (n : Nw H q) (h : H a = some o) (t : ∀ ps, o ≠ .tbl ps) : a ≠ q := fun z => by
  obtain ⟨ps, e⟩ := n o (by rw [← z]; exact h)
  exact t ps e
section
variable {K : PySem.W.Frag} {H H1 H2 H' : Hp} {a p : Addr} {xs : List V}
theorem Kt.of (e : ∀ b o, H b = some o → H' b = some o) : Kt K H H' := ⟨fun b o h _ => e b o h, fun t => t.ext e⟩
theorem Kt.refl (H : Hp) : Kt K H H := Kt.of fun _ _ h => h
theorem Kt.trans (a : Kt K H H1) (b : Kt K H1 H2) : Kt K H H2 := ⟨a.ke.trans b.ke, fun t => b.tb (a.tb t)⟩
theorem Kt.new {o : HO} (h : H p = none) : Kt K H (upd H p o) := Kt.of fun b u e => by
  rw [upd_ne (ne_of_none e h)]
  exact e
theorem tabs_put {o : HO} (t : LamX.Tabs (tE K) H) (ho : H p = none ∨ (∃ xs, H p = some (.lst xs)) ∨ ∃ C dx fs, H p = some (.ins C dx fs)) : LamX.Tabs (tE K) (upd H p o) := fun q hq => by
  obtain ⟨ps, h1, h2, h3⟩ := t q hq
  refine ⟨ps, ?_, h2, fun pos cv hc => ?_⟩
  · rw [upd_ne fun z => ?_]
    · exact h1
    · rw [z] at h1
      rcases ho with e | ⟨_, e⟩ | ⟨_, _, _, e⟩ <;> rw [e] at h1 <;> cases h1
  · obtain ⟨c, e1, e2⟩ := h3 pos cv hc
    refine ⟨c, e1, ?_⟩
    rw [upd_ne fun z => ?_]
    · exact e2
    · rw [z] at e2
      unfold LamX.CodeO at e2
      rcases ho with e | ⟨_, e⟩ | ⟨_, _, _, e⟩ <;> rw [e] at e2 <;> cases e2
/-- behind an extension a list that is new since its start changes -/
theorem Kt.put {ys : List V} {o : HO} (k : Kt K H H1) (h : Nw H p) (hp : H1 p = some (.lst ys)) : Kt K H (upd H1 p o) := ⟨fun b u e n => by
  rw [upd_ne (h.ne e n)]
  exact k.ke b u e n, fun t => tabs_put (k.tb t) (.inr (.inl ⟨ys, hp⟩))⟩
/-- what is new at the end was new at the start -/
theorem Nw.back {q : Addr} (k : Kt K H H') (n : Nw H' q) : Nw H q := fun o e => by
  cases o with
  | tbl ps => exact ⟨ps, rfl⟩
  | _ => exact n _ (k.ke q _ e fun _ z => by cases z)
theorem Kt.lst (k : Kt K H H') (h : H a = some (.lst xs)) : H' a = some (.lst xs) := k.ke _ _ h fun _ z => by cases z
theorem Kt.tup (k : Kt K H H') (h : H a = some (.tup xs)) : H' a = some (.tup xs) := k.ke _ _ h fun _ z => by cases z
theorem Kt.ins {C dx : Addr} {fs : List (Str × V)} (k : Kt K H H') (h : H a = some (.ins C dx fs)) : H' a = some (.ins C dx fs) := k.ke _ _ h fun _ z => by cases z
theorem Kt.seq (k : Kt K H H') (h : SqL K H a xs) : SqL K H' a xs := by
  rcases h with (h | ⟨o, h⟩) | h
  · exact .inl (.inl (k.lst h))
  · exact .inl (.inr ⟨o, k.ke _ _ h fun _ z => by cases z⟩)
  · exact .inr h
end
/-- all but the tables and the objects at B stands -/
structure Kb (K : PySem.W.Frag) (B : List Addr) (H H' : Hp) : Prop where
  ke : ∀ b o, b ∉ B → H b = some o → (∀ ps, o ≠ .tbl ps) → H' b = some o
  tb : LamX.Tabs (tE K) H → LamX.Tabs (tE K) H'
section
variable {K : PySem.W.Frag} {B B' : List Addr} {H H1 H2 H' : Hp} {a p : Addr} {xs : List V}
theorem Kt.kb (k : Kt K H H') : Kb K B H H' := ⟨fun b o _ => k.ke b o, k.tb⟩
theorem Kb.trans (k : Kb K B H H1) (k' : Kb K B H1 H2) : Kb K B H H2 := ⟨fun b o n h t => k'.ke b o n (k.ke b o n h t) t, fun t => k'.tb (k.tb t)⟩
theorem Kb.mono (k : Kb K B H H') (h : ∀ b ∈ B, b ∈ B') : Kb K B' H H' := ⟨fun b o n => k.ke b o fun z => n (h b z), k.tb⟩
theorem Kb.lst (k : Kb K B H H') (n : a ∉ B) (h : H a = some (.lst xs)) : H' a = some (.lst xs) := k.ke _ _ n h fun _ z => by cases z
theorem Kb.tup (k : Kb K B H H') (n : a ∉ B) (h : H a = some (.tup xs)) : H' a = some (.tup xs) := k.ke _ _ n h fun _ z => by cases z
theorem Kb.put {o : HO} (hp : p ∈ B) (ho : (∃ xs, H p = some (.lst xs)) ∨ ∃ C dx fs, H p = some (.ins C dx fs)) : Kb K B H (upd H p o) := ⟨fun b u n e _ => by
  rw [upd_ne fun z => n (by rw [z]; exact hp)]
  exact e, fun t => tabs_put t (.inr ho)⟩
/-- what is new at the end was new at the start -/
theorem Kb.back {q : Addr} (k : Kb K B H H') (hq : q ∉ B) (n : Nw H' q) : Nw H q := fun o e => by
  cases o with
  | tbl ps => exact ⟨ps, rfl⟩
  | _ => exact n _ (k.ke q _ hq e fun _ z => by cases z)
end

/-! ## the mirror's data in the heap -/
/-- whole numbers from 0 on -/
def nv (l : List Nat) : List V := l.map fun (x : Nat) => V.int (x : Int)
theorem nv_ints (l : List Nat) : nv l = (zInts l).map V.int := by
  unfold nv zInts
  rw [List.map_map]
  rfl
def RtAt (H : Hp) (a : Addr) (r : Route) : Prop := ∃ p, H a = some (.tup [.int r.announcer, .int r.address, .int r.length, .ref p]) ∧ H p = some (.tup (nv r.asPath))
/-- the list at l holds the routes rs, which stand at as -/
structure LsAt (H : Hp) (l : Addr) (as : List Addr) (rs : List Route) : Prop where
  at_ : H l = some (.lst (as.map V.ref))
  all : Paired (RtAt H) as rs
/-- the list at l holds the lists of routes ts, which stand at as -/
structure TbAt (H : Hp) (l : Addr) (as : List Addr) (ts : List (List Route)) : Prop where
  at_ : H l = some (.lst (as.map V.ref))
  all : Paired (fun a rs => ∃ bs, LsAt H a bs rs) as ts
def RowAt (H : Hp) (a : Addr) (row : List Nat) : Prop := H a = some (.lst (nv row))
/-- a table of numbers -/
structure GrAt (H : Hp) (l : Addr) (as : List Addr) (g : List (List Nat)) : Prop where
  at_ : H l = some (.lst (as.map V.ref))
  all : Paired (RowAt H) as g
/-- where the parts of a server stand -/
structure SA where
  dx : Addr
  asns : Addr
  exps : Addr
  imps : Addr
  prefs : Addr
  rts : Addr
  eR : List Addr
  iR : List Addr
  pR : List Addr
  rR : List Addr
/-- the rows: what is changed by place -/
def SA.rows (z : SA) : List Addr := z.eR ++ (z.iR ++ z.pR)
/-- the lists that the fields hold -/
def SA.tops (z : SA) : List Addr := [z.asns, z.exps, z.imps, z.prefs, z.rts]
def sF (m : Bool) (z : SA) : List (Str × V) := [("is_made", .bl m), ("asns", .ref z.asns), ("exports", .ref z.exps), ("imports", .ref z.imps), ("preferences", .ref z.prefs), ("routes", .ref z.rts)]
structure SvAt (K : PySem.W.Frag) (H : Hp) (s : Addr) (m : M) (z : SA) : Prop where
  ins : H s = some (.ins (cS K) z.dx (sF m.made z))
  asns : H z.asns = some (.lst (nv m.asns))
  exps : GrAt H z.exps z.eR m.exps
  imps : GrAt H z.imps z.iR m.imps
  prefs : GrAt H z.prefs z.pR m.prefs
  rts : LsAt H z.rts z.rR m.routes
  nd : z.rows.Nodup
  na : z.asns ∉ z.rows
section
variable {K : PySem.W.Frag} {H H' : Hp}
theorem pair_mono {α β : Type} {F G : α → β → Prop} {l : List α} {r : List β} (h : Paired F l r) (f : ∀ a b, F a b → G a b) : Paired G l r := Paired.mapP h f
theorem RtAt.keep (k : Kt K H H') {a : Addr} {r : Route} (h : RtAt H a r) : RtAt H' a r := by
  obtain ⟨p, h1, h2⟩ := h
  exact ⟨p, k.tup h1, k.tup h2⟩
theorem LsAt.keep (k : Kt K H H') {l : Addr} {as : List Addr} {rs : List Route} (h : LsAt H l as rs) : LsAt H' l as rs := ⟨k.lst h.at_, pair_mono h.all fun _ _ => RtAt.keep k⟩
theorem TbAt.keep (k : Kt K H H') {l : Addr} {as : List Addr} {ts : List (List Route)} (h : TbAt H l as ts) : TbAt H' l as ts := ⟨k.lst h.at_, pair_mono h.all fun _ _ ⟨bs, q⟩ => ⟨bs, q.keep k⟩⟩
theorem GrAt.keep (k : Kt K H H') {l : Addr} {as : List Addr} {g : List (List Nat)} (h : GrAt H l as g) : GrAt H' l as g := ⟨k.lst h.at_, pair_mono h.all fun _ _ q => k.lst q⟩
theorem SvAt.keep (k : Kt K H H') {s : Addr} {m : M} {z : SA} (h : SvAt K H s m z) : SvAt K H' s m z := ⟨k.ins h.ins, k.lst h.asns, h.exps.keep k, h.imps.keep k, h.prefs.keep k, h.rts.keep k, h.nd, h.na⟩
theorem pair_len {α β : Type} {F : α → β → Prop} : ∀ {l : List α} {r : List β}, Paired F l r → l.length = r.length
  | _, _, .nil => rfl
  | _, _, .cons _ t => congrArg Nat.succ (pair_len t)
theorem pair_get {α β : Type} {F : α → β → Prop} : ∀ {l : List α} {r : List β} {i : Nat} {b : β}, Paired F l r → r[i]? = some b → ∃ a, l[i]? = some a ∧ F a b
  | _, _, _, _, .nil, e => by simp at e
  | _, _, 0, _, .cons q _, e => by simp at e; subst e; exact ⟨_, rfl, q⟩
  | _, _, i + 1, b, .cons _ t, e => by
    obtain ⟨a, h1, h2⟩ := pair_get (i := i) (b := b) t (by simpa using e)
    exact ⟨a, by simpa using h1, h2⟩
theorem pair_getL {α β : Type} {F : α → β → Prop} : ∀ {l : List α} {r : List β} {i : Nat} {a : α}, Paired F l r → l[i]? = some a → ∃ b, r[i]? = some b ∧ F a b
  | _, _, _, _, .nil, e => by simp at e
  | _, _, 0, _, .cons q _, e => by simp at e; subst e; exact ⟨_, rfl, q⟩
  | _, _, i + 1, b, .cons _ t, e => by
    obtain ⟨a, h1, h2⟩ := pair_getL (i := i) (a := b) t (by simpa using e)
    exact ⟨a, by simpa using h1, h2⟩
theorem pair_app {α β : Type} {F : α → β → Prop} : ∀ {l l' : List α} {r r' : List β}, Paired F l r → Paired F l' r' → Paired F (l ++ l') (r ++ r')
  | _, _, _, _, .nil, h => h
  | _, _, _, _, .cons q t, h => .cons q (pair_app t h)
theorem ref_at {as : List Addr} {i : Nat} {a : Addr} (h : as[i]? = some a) : (as.map V.ref)[i]? = some (.ref a) := by
  rw [List.getElem?_map, h]
  rfl
theorem nv_at {l : List Nat} {i x : Nat} (h : l[i]? = some x) : (nv l)[i]? = some (.int (x : Int)) := by
  unfold nv
  rw [List.getElem?_map, h]
  rfl
theorem nv_len (l : List Nat) : (nv l).length = l.length := List.length_map ..
theorem lk_here {k : Str} {v : V} {r : List (Str × V)} : List.lookup k ((k, v) :: r) = some v := by
  have e : (k == k) = true := beq_self_eq_true k
  simp only [List.lookup, e]
theorem lk_past {k g : Str} {v : V} {r : List (Str × V)} (h : (k == g) = false) : List.lookup k ((g, v) :: r) = List.lookup k r := by
  simp only [List.lookup, h]
theorem sF_made (m : Bool) (z : SA) : (sF m z).lookup ("is_made" : Str) = some (.bl m) := lk_here
theorem sF_asns (m : Bool) (z : SA) : (sF m z).lookup ("asns" : Str) = some (.ref z.asns) := (lk_past (by decide +kernel)).trans lk_here
theorem sF_exps (m : Bool) (z : SA) : (sF m z).lookup ("exports" : Str) = some (.ref z.exps) := (lk_past (by decide +kernel)).trans ((lk_past (by decide +kernel)).trans lk_here)
theorem sF_imps (m : Bool) (z : SA) : (sF m z).lookup ("imports" : Str) = some (.ref z.imps) := (lk_past (by decide +kernel)).trans ((lk_past (by decide +kernel)).trans ((lk_past (by decide +kernel)).trans lk_here))
theorem sF_prefs (m : Bool) (z : SA) : (sF m z).lookup ("preferences" : Str) = some (.ref z.prefs) := (lk_past (by decide +kernel)).trans ((lk_past (by decide +kernel)).trans ((lk_past (by decide +kernel)).trans ((lk_past (by decide +kernel)).trans lk_here)))
theorem sF_rts (m : Bool) (z : SA) : (sF m z).lookup ("routes" : Str) = some (.ref z.rts) := (lk_past (by decide +kernel)).trans ((lk_past (by decide +kernel)).trans ((lk_past (by decide +kernel)).trans ((lk_past (by decide +kernel)).trans ((lk_past (by decide +kernel)).trans lk_here))))
/-- a method's name is none of the attributes -/
theorem sF_none (m : Bool) (z : SA) {x : Str} (h : (["is_made", "asns", "exports", "imports", "preferences", "routes"] : List Str).all (fun g => !(x == g)) = true) : (sF m z).lookup x = none := by
  simp only [List.all_cons, List.all_nil, Bool.and_true, Bool.and_eq_true, Bool.not_eq_true'] at h
  obtain ⟨h1, h2, h3, h4, h5, h6⟩ := h
  exact (lk_past h1).trans ((lk_past h2).trans ((lk_past h3).trans ((lk_past h4).trans ((lk_past h5).trans ((lk_past h6).trans rfl)))))
end
/-! ## short words -/
section
variable {X : Cx} {K : PySem.W.Frag} {mg : Str → Option Value} {base : Heap}
/-- a whole number of the top by its name -/
theorem pe_gi (T : Tx K mg base) (i : Int) {x : Str} {pos : Pos} (hg : Gl X x := by rfl) (hm : X.mg = mg := by rfl) (h : (x, i) ∈ intN := by decide +kernel) (hd : (x == ("__debug__" : Str)) = false := by decide) : PE X (.Name x pos) (tC (.int i)) := by
  obtain ⟨t, e⟩ := T.int (x, i) h
  exact pe_glob hg (by rw [hm]; exact e) ⟨t, rfl⟩ hd
/-- an object of the top by its name -/
theorem pe_ga (T : Tx K mg base) {x : Str} {pos : Pos} (hg : Gl X x := by rfl) (hm : X.mg = mg := by rfl) (h : x ∈ gloN := by decide +kernel) (hd : (x == ("__debug__" : Str)) = false := by decide) : PE X (.Name x pos) (tC (.ref (ga K x))) :=
  pe_glob hg (by rw [hm]; exact T.glo x h) rfl hd
end
end Rs

/-! # The walk, part 1: readings in short -/
namespace Rs
open PySem PySem.Spec L2 PyProof.Rows
open Su201 (Route)
/-- te gives v and changes nothing that is tracked -/
def Pu (te : TE) (σ : L2.St) (H : Hp) (v : V) : Prop := ∀ Q : VK, Q v H → te σ H Q
def PuT (t : TT) (σ : L2.St) (H : Hp) (b : Bool) : Prop := ∀ Q : Bool → Hp → Prop, Q b H → t σ H Q
def PuA (t : TA) (σ : L2.St) (H : Hp) (vs : List V) : Prop := ∀ Q : List V → Hp → Prop, Q vs H → t σ H Q
section
variable {K : PySem.W.Frag} {mg : Str → Option Value} {base : Heap} {σ : L2.St} {H : Hp} {ta tb tc te : TE} {t u : TT} {x y v : V} {p : Addr} {xs : List V}
theorem pu_var {i : Nat} (h : σ[i]? = some (some v)) : Pu (tVar i) σ H v := fun _ q => ⟨v, h, q⟩
theorem pu_c : Pu (tC v) σ H v := fun _ q => q
theorem pu_op {r : R2} {z : V} (ha : Pu ta σ H x) (hb : Pu tb σ H y) (hr : ∀ Q : VK, Q z H → r x y H Q) : Pu (tOp r ta tb) σ H z := fun Q q => ha _ (hb _ (hr Q q))
theorem pu_I {g : Int → Int → V} {i j : Int} (ha : Pu ta σ H (.int i)) (hb : Pu tb σ H (.int j)) : Pu (tOp (rI0 g) ta tb) σ H (g i j) := pu_op ha hb fun _ q => ⟨i, j, rfl, rfl, q⟩
theorem pu_IC {C : Int → Int → Prop} {g : Int → Int → V} {i j : Int} (ha : Pu ta σ H (.int i)) (hb : Pu tb σ H (.int j)) (hc : C i j) : Pu (tOp (rI C g) ta tb) σ H (g i j) := pu_op ha hb fun _ q => ⟨i, j, rfl, rfl, hc, q⟩
theorem pu_neg {g : Int → V} {i : Int} (ha : Pu ta σ H (.int i)) : Pu (tUn (rU g) ta) σ H (g i) := fun _ q => ha _ ⟨i, rfl, q⟩
theorem pu_eq (ha : Pu ta σ H x) (hb : Pu tb σ H y) (h : scal x y = true) : Pu (tOp rEq ta tb) σ H (.bl (decide (x = y))) := pu_op ha hb fun _ q => ⟨h, q⟩
theorem pu_ne (ha : Pu ta σ H x) (hb : Pu tb σ H y) (h : scal x y = true) : Pu (tOp rNe ta tb) σ H (.bl (!decide (x = y))) := pu_op ha hb fun _ q => ⟨h, q⟩
theorem dec_nat {i j : Nat} : decide (V.int (i : Int) = V.int (j : Int)) = decide (i = j) := by
  rw [Bool.eq_iff_iff, decide_eq_true_eq, decide_eq_true_eq]
  constructor
  · intro h
    have e : (i : Int) = j := V.int.inj h
    omega
  · rintro rfl
    rfl
/-- two whole numbers from 0 on -/
theorem pu_eqN {i j : Nat} (ha : Pu ta σ H (.int (i : Int))) (hb : Pu tb σ H (.int (j : Int))) : Pu (tOp rEq ta tb) σ H (.bl (decide (i = j))) := by
  rw [← dec_nat]
  exact pu_eq ha hb rfl
theorem pu_neN {i j : Nat} (ha : Pu ta σ H (.int (i : Int))) (hb : Pu tb σ H (.int (j : Int))) : Pu (tOp rNe ta tb) σ H (.bl (!decide (i = j))) := by
  rw [← dec_nat]
  exact pu_ne ha hb rfl
theorem pu_ixL {i : Nat} (ha : Pu ta σ H (.ref p)) (hb : Pu tb σ H (.int (i : Int))) (h : SqL K H p xs) (hv : xs[i]? = some v) : Pu (tOp (rIxL K) ta tb) σ H v := pu_op ha hb fun _ q => ⟨p, xs, _, v, rfl, rfl, h, atI_nat hv, q⟩
theorem pu_ixT {i : Nat} (ha : Pu ta σ H (.ref p)) (hb : Pu tb σ H (.int (i : Int))) (h : SqT K H p xs) (hv : xs[i]? = some v) : Pu (tOp (rIxT K) ta tb) σ H v := pu_op ha hb fun _ q => ⟨p, xs, _, v, rfl, rfl, h, atI_nat hv, q⟩
theorem pu_fld {f : Str} {C dx : Addr} {fs : List (Str × V)} (ha : Pu ta σ H (.ref p)) (h : H p = some (.ins C dx fs)) (c : Cls K C) (n : NoAttr K C f) (l : fs.lookup f = some v) : Pu (tFld K ta f) σ H v := fun _ q => ha _ ⟨p, C, dx, fs, v, rfl, h, c, n, l, q⟩
theorem pu_notIn (ha : Pu ta σ H x) (hb : Pu tb σ H (.ref p)) (h : SqL K H p xs ∨ SqT K H p xs) (hx : flatV x = true) (hf : xs.all flatV = true) : Pu (tOp (rIn K true) ta tb) σ H (.bl (!inV x xs)) := pu_op ha hb fun _ q => ⟨p, xs, rfl, h, hx, hf, q⟩
theorem pu_in (ha : Pu ta σ H x) (hb : Pu tb σ H (.ref p)) (h : SqL K H p xs ∨ SqT K H p xs) (hx : flatV x = true) (hf : xs.all flatV = true) : Pu (tOp (rIn K false) ta tb) σ H (.bl (inV x xs)) := pu_op ha hb fun _ q => ⟨p, xs, rfl, h, hx, hf, q⟩
theorem pu_len (ha : Pu ta σ H (.ref p)) (h : SqL K H p xs ∨ SqT K H p xs) : Pu (tCB (fun vs H Q => ∃ p ys, vs = [.ref p] ∧ (SqL K H p ys ∨ SqT K H p ys) ∧ Q (.int ys.length) H) (tCons ta tNil)) σ H (.int (xs.length : Int)) := fun _ q => ha _ ⟨p, xs, rfl, h, q⟩
theorem pu_chain {r r' : R2} {z : V} {b b' : Bool} (ha : Pu ta σ H x) (hb : Pu tb σ H y) (hc : Pu tc σ H z) (h1 : ∀ Q : VK, Q (.bl b) H → r x y H Q) (h2 : ∀ Q : VK, Q (.bl b') H → r' y z H Q) : Pu (tChain r r' ta tb tc) σ H (.bl (b && b')) := fun Q q =>
  ha _ (hb _ (h1 _ ⟨b, rfl, by
    cases b with
    | true =>
      rw [if_pos rfl]
      exact hc _ (h2 _ q)
    | false =>
      rw [if_neg Bool.false_ne_true]
      exact q⟩))
theorem pu_isN (ha : Pu ta σ H x) : Pu (tOp (fun x y H Q => y = .non ∧ Q (.bl (decide (x = .non))) H) ta (tC .non)) σ H (.bl (decide (x = .non))) := fun _ q => ha _ ⟨rfl, q⟩
theorem pu_notN (ha : Pu ta σ H x) : Pu (tOp (fun x y H Q => y = .non ∧ Q (.bl (!decide (x = .non))) H) ta (tC .non)) σ H (.bl (!decide (x = .non))) := fun _ q => ha _ ⟨rfl, q⟩
theorem pu_not {b : Bool} (ha : Pu ta σ H (.bl b)) : Pu (tNotV ta) σ H (.bl (!b)) := fun _ q => ha _ ⟨b, rfl, q⟩
/-! ## what makes something new -/
theorem pa_n : PuA tNil σ H [] := fun _ q => q
theorem pa_c {t : TA} {vs : List V} (h : Pu ta σ H v) (h2 : PuA t σ H vs) : PuA (tCons ta t) σ H (v :: vs) := fun _ q => h _ (h2 _ q)
theorem lst_of {t : TA} {vs : List V} {Q : VK} (h : PuA t σ H vs) (hz : vs.length ≤ 1000) (q : ∀ p, H p = none → Q (.ref p) (upd H p (.lst vs))) : tLst t σ H Q := h _ ⟨Nat.le_trans hz (by decide), q⟩
theorem tup_of {t : TA} {vs : List V} {Q : VK} (h : PuA t σ H vs) (hz : vs.length ≤ 1000) (q : ∀ p, H p = none → Q (.ref p) (upd H p (.tup vs))) : tTup t σ H Q := h _ ⟨Nat.le_trans hz (by decide), q⟩
theorem op_of {r : R2} {Q : VK} (h : ta σ H fun x H1 => tb σ H1 fun y H2 => r x y H2 Q) : tOp r ta tb σ H Q := h
theorem cb_of {r : List V → Hp → VK → Prop} {t : TA} {Q : VK} (h : t σ H fun vs H1 => r vs H1 Q) : tCB r t σ H Q := h
theorem cons_of {t : TA} {Q : List V → Hp → Prop} (h : ta σ H fun x H1 => t σ H1 fun vs H2 => Q (x :: vs) H2) : tCons ta t σ H Q := h
theorem call_of {sp : Sp} {t : TA} {vs : List V} {E : XK} {Q : VK} (h : PuA t σ H vs) (q : sp vs H Q E) : tCall sp [] E t σ H Q := h _ (by rw [List.append_nil]; exact q)
theorem meth_of {C dx a : Addr} {m : Str} {fs : List (Str × V)} {sp : Sp} {t : TA} {vs : List V} {E : XK} {Q : VK} (ho : Pu ta σ H (.ref a)) (hi : H a = some (.ins C dx fs)) (hm : fs.lookup m = none) (h : PuA t σ H vs) (q : sp (.ref a :: vs) H Q E) : tMeth C m sp [] E ta t σ H Q :=
  ho _ ⟨a, dx, fs, rfl, hi, hm, h _ (by rw [List.append_nil]; exact q)⟩
/-! ## tests -/
theorem put_test {b : Bool} (h : Pu te σ H (.bl b)) : PuT (tTest te) σ H b := fun _ q => h _ ⟨b, rfl, q⟩
theorem put_B {b : Bool} (h : Pu te σ H (.bl b)) : PuT (tB te) σ H b := fun _ q => h _ ⟨b, rfl, q⟩
theorem put_not {b : Bool} (h : PuT t σ H b) : PuT (tNot t) σ H (!b) := fun _ q => h _ q
theorem put_or {a b : Bool} (h1 : PuT t σ H a) (h2 : a = false → PuT u σ H b) : PuT (tOr t u) σ H (a || b) := fun _ q => h1 _ (by
  cases a with
  | true =>
    rw [if_pos rfl]
    exact q
  | false =>
    rw [if_neg Bool.false_ne_true]
    exact h2 rfl _ q)
theorem put_and {a b : Bool} (h1 : PuT t σ H a) (h2 : a = true → PuT u σ H b) : PuT (tAnd t u) σ H (a && b) := fun _ q => h1 _ (by
  cases a with
  | true =>
    rw [if_pos rfl]
    exact h2 rfl _ q
  | false =>
    rw [if_neg Bool.false_ne_true]
    exact q)
theorem put_is {a b : Bool} (h : PuT t σ H a) (e : a = b) : PuT t σ H b := e ▸ h
theorem pu_is {w : V} (h : Pu te σ H v) (e : v = w) : Pu te σ H w := e ▸ h
/-! ## statements -/
theorem st_if {c : TT} {a b : TS} {D : Ends} {k : Bool} (hc : PuT c σ H k) (h1 : k = true → a D σ H) (h2 : k = false → b D σ H) : tIfS c a b D σ H := hc _ (by
  cases k with
  | true =>
    rw [if_pos rfl]
    exact h1 rfl
  | false =>
    rw [if_neg Bool.false_ne_true]
    exact h2 rfl)
theorem st_set {i : Nat} {D : Ends} (h : Pu te σ H v) (q : D.nx (σ.set i (some v)) H) : tAsg te (gName i) D σ H := h _ q
theorem st_ret {D : Ends} (h : Pu te σ H v) (q : D.rt v H) : tRet te D σ H := h _ q
theorem st_drop {D : Ends} (h : Pu te σ H v) (q : D.nx σ H) : tDrop te D σ H := h _ q
theorem st_retG {D : Ends} (h : te σ H D.rt) : tRet te D σ H := h
theorem st_setG {i : Nat} {D : Ends} (h : te σ H fun x H1 => D.nx (σ.set i (some x)) H1) : tAsg te (gName i) D σ H := h
theorem st_seq {a b : TS} {D : Ends} (h : a { D with nx := b D } σ H) : tSeq a b D σ H := h
/-! ## a server -/
variable {s : Addr} {m : M} {z : SA}
theorem pu_made (T : Tx K mg base) (S : SvAt K H s m z) (ha : Pu ta σ H (.ref s)) : Pu (tFld K ta "is_made") σ H (.bl m.made) := pu_fld ha S.ins T.cl (T.na _ (by decide +kernel)) (sF_made _ _)
theorem pu_asns (T : Tx K mg base) (S : SvAt K H s m z) (ha : Pu ta σ H (.ref s)) : Pu (tFld K ta "asns") σ H (.ref z.asns) := pu_fld ha S.ins T.cl (T.na _ (by decide +kernel)) (sF_asns _ _)
theorem pu_exps (T : Tx K mg base) (S : SvAt K H s m z) (ha : Pu ta σ H (.ref s)) : Pu (tFld K ta "exports") σ H (.ref z.exps) := pu_fld ha S.ins T.cl (T.na _ (by decide +kernel)) (sF_exps _ _)
theorem pu_imps (T : Tx K mg base) (S : SvAt K H s m z) (ha : Pu ta σ H (.ref s)) : Pu (tFld K ta "imports") σ H (.ref z.imps) := pu_fld ha S.ins T.cl (T.na _ (by decide +kernel)) (sF_imps _ _)
theorem pu_prefs (T : Tx K mg base) (S : SvAt K H s m z) (ha : Pu ta σ H (.ref s)) : Pu (tFld K ta "preferences") σ H (.ref z.prefs) := pu_fld ha S.ins T.cl (T.na _ (by decide +kernel)) (sF_prefs _ _)
theorem pu_rts (T : Tx K mg base) (S : SvAt K H s m z) (ha : Pu ta σ H (.ref s)) : Pu (tFld K ta "routes") σ H (.ref z.rts) := pu_fld ha S.ins T.cl (T.na _ (by decide +kernel)) (sF_rts _ _)
/-- len(server.asns) -/
theorem pu_num (T : Tx K mg base) (S : SvAt K H s m z) (ha : Pu ta σ H (.ref s)) : Pu (tCB (fun vs H Q => ∃ p ys, vs = [.ref p] ∧ (SqL K H p ys ∨ SqT K H p ys) ∧ Q (.int ys.length) H) (tCons (tFld K ta "asns") tNil)) σ H (.int (m.num : Int)) := by
  have h := pu_len (K := K) (pu_asns T S ha) (.inl (SqL.of S.asns))
  rw [nv_len] at h
  exact h
/-- a row of a table, a cell -/
theorem gr_row {l : Addr} {as : List Addr} {g : List (List Nat)} {n i : Nat} (G : GrAt H l as g) (hg : g.length = n) (hi : i < n) : ∃ a, as[i]? = some a ∧ H a = some (.lst (nv (g.getD i []))) := by
  have e : g[i]? = some (g.getD i []) := by
    rw [List.getD_eq_getElem?_getD]
    cases q : g[i]? with
    | none => exact absurd (List.getElem?_eq_none_iff.mp q) (by omega)
    | some r => rfl
  obtain ⟨a, h1, h2⟩ := pair_get G.all e
  exact ⟨a, h1, h2⟩
theorem pu_cell {l : Addr} {as : List Addr} {g : List (List Nat)} {n d i j : Nat} (G : GrAt H l as g) (hg : g.length = n) (hr : ∀ r ∈ g, r.length = n) (hi : i < n) (hj : j < n) (ha : Pu ta σ H (.ref l)) (hb : Pu tb σ H (.int (i : Int))) (hc : Pu tc σ H (.int (j : Int))) :
    Pu (tOp (rIxL K) (tOp (rIxL K) ta tb) tc) σ H (.int (cell g d i j : Int)) := by
  obtain ⟨a, h1, h2⟩ := gr_row G hg hi
  refine pu_ixL (pu_ixL ha hb (SqL.of G.at_) (ref_at h1)) hc (SqL.of h2) (nv_at ?_)
  have hl : (g.getD i []).length = n := by
    refine hr _ ?_
    rw [List.getD_eq_getElem?_getD]
    cases q : g[i]? with
    | none => exact absurd (List.getElem?_eq_none_iff.mp q) (by omega)
    | some r => exact List.mem_of_getElem? q
  unfold cell
  rw [List.getD_eq_getElem?_getD (l := g.getD i [])]
  cases q : (g.getD i [])[j]? with
  | none => exact absurd (List.getElem?_eq_none_iff.mp q) (by omega)
  | some r => rfl
theorem asn_get {l : List Nat} {i : Nat} (h : i < l.length) : l[i]? = some (l.getD i 0) := by
  rw [List.getD_eq_getElem?_getD]
  cases q : l[i]? with
  | none => exact absurd (List.getElem?_eq_none_iff.mp q) (by omega)
  | some r => rfl
/-- the parts of a route -/
theorem pu_ann {a : Addr} {r : Route} (R : RtAt H a r) (ha : Pu ta σ H (.ref a)) : Pu (tOp (rIxT K) ta (tC (.int 0))) σ H (.int (r.announcer : Int)) := by
  obtain ⟨p, h1, h2⟩ := R
  exact pu_ixT (i := 0) ha pu_c (SqT.of h1) rfl
theorem pu_adr {a : Addr} {r : Route} (R : RtAt H a r) (ha : Pu ta σ H (.ref a)) : Pu (tOp (rIxT K) ta (tC (.int 1))) σ H (.int (r.address : Int)) := by
  obtain ⟨p, h1, h2⟩ := R
  exact pu_ixT (i := 1) ha pu_c (SqT.of h1) rfl
theorem pu_lth {a : Addr} {r : Route} (R : RtAt H a r) (ha : Pu ta σ H (.ref a)) : Pu (tOp (rIxT K) ta (tC (.int 2))) σ H (.int (r.length : Int)) := by
  obtain ⟨p, h1, h2⟩ := R
  exact pu_ixT (i := 2) ha pu_c (SqT.of h1) rfl
theorem pu_path {a : Addr} {r : Route} (R : RtAt H a r) (ha : Pu ta σ H (.ref a)) : ∃ p, Pu (tOp (rIxT K) ta (tC (.int 3))) σ H (.ref p) ∧ H p = some (.tup (nv r.asPath)) := by
  obtain ⟨p, h1, h2⟩ := R
  exact ⟨p, pu_ixT (i := 3) ha pu_c (SqT.of h1) rfl, h2⟩
theorem nv_flat (l : List Nat) : (nv l).all flatV = true := by
  unfold nv
  rw [List.all_map]
  exact List.all_eq_true.mpr fun _ _ => rfl
theorem nv_in (x : Nat) : ∀ l : List Nat, inV (.int (x : Int)) (nv l) = l.contains x
  | [] => rfl
  | y :: l => by
    show (((y : Int) == (x : Int)) || inV (.int (x : Int)) (nv l)) = (y :: l).contains x
    rw [nv_in x l, List.contains_cons]
    have e : ((y : Int) == (x : Int)) = (x == y) := by
      rw [Bool.eq_iff_iff, beq_iff_eq, beq_iff_eq]
      omega
    rw [e]
end
section
variable {K : PySem.W.Frag} {mg : Str → Option Value} {base : Heap} {P : Program} {w : World}
/-! ## is_prefix -/
theorem sc17 : FnScope ["address", "length"] ["address", "length"] (defScope (top 17)) := ⟨rfl, rfl, rfl, by decide +kernel, rfl, by decide +kernel, by decide +kernel⟩
def spIsPrefix : Sp := fun vs H Q _ => ∃ a l : Nat, vs = [.int a, .int l] ∧ Q (.bl (Su201.isPrefix a l)) H
theorem sizes_at {l : Nat} (h : l ≤ 8) : (sizesL.map V.int)[l]? = some (.int ((2 ^ (8 - l) : Nat) : Int)) := by
  match l, h with
  | 0, _ | 1, _ | 2, _ | 3, _ | 4, _ | 5, _ | 6, _ | 7, _ | 8, _ => rfl
  | n + 9, h => omega
theorem ok_is_prefix (T : Tx K mg base) : OkD P w K mg base 1 (ga K "is_prefix") ["address", "length"] spIsPrefix := by
  obtain ⟨fd, F⟩ : ∃ fd, FunD K "is_prefix" "is_prefix" (defArgs (top 17)) (defBody (top 17)) (defScope (top 17)) [] [] (ga K "is_prefix") fd := T.fn 0 _ rfl
  refine okD_mk F (F.ok sc17 (fun vs H Q E h => ?_) (fun cdv A outer s H vs Q E hr h => ?_)) (fun _ _ _ _ _ _ us hl => match us, hl with | [_, _], _ => rfl)
  · obtain ⟨a, l, rfl, _⟩ := h
    rfl
  · obtain ⟨a, l, rfl, k⟩ := h
    refine ⟨_, PSs.nox (pss_cons (ps_if (PW.pt (pw_or (pt_cmpR op_gt (pv 1) (pe_gi T 8) (nomark _)) (pw_or1 (pt_cmpR op_ge (pv 0) (pe_gi T 256) (nomark _))))) (pss_one (ps_ret pe_bl)) pss_nil)
      (pss_one (ps_ret (pe_cmpR op_eq (pe_op op_modN (pv 0) (pe_ix ix_tup (pe_ga T) (pv 1) (fun _ _ => rfl))) pe_int (nomark _))))), ?_⟩
    have v0 : Pu (tVar 0) [some (V.int (a : Int)), some (V.int (l : Int))] H (.int a) := pu_var rfl
    have v1 : Pu (tVar 1) [some (V.int (a : Int)), some (V.int (l : Int))] H (.int l) := pu_var rfl
    refine st_if (put_or (put_test (pu_I v1 pu_c)) fun _ => put_test (pu_I v0 pu_c)) (fun e => ?_) fun e => ?_
    · refine st_ret pu_c ?_
      have e2 : Su201.isPrefix a l = false := by
        unfold Su201.isPrefix Su201.addressBits
        rw [Bool.or_eq_true, decide_eq_true_eq, decide_eq_true_eq] at e
        rcases e with e | e
        · rw [decide_eq_false (by omega), Bool.false_and]
        · rw [decide_eq_false (p := a < 2 ^ 8) (by omega), Bool.false_and, Bool.and_false]
      rw [e2] at k
      exact k
    · rw [Bool.or_eq_false_iff, decide_eq_false_iff_not, decide_eq_false_iff_not] at e
      have hl : l ≤ 8 := by omega
      have ha : a < 256 := by omega
      have hp : 0 < 2 ^ (8 - l) := Nat.pow_pos (by decide)
      refine st_ret (pu_eq (pu_IC v0 (pu_ixT pu_c v1 (T.sizes H) (sizes_at hl)) ?_) pu_c rfl) ?_
      · show ((2 ^ (8 - l) : Nat) : Int) ≠ 0
        omega
      · have e2 : decide (V.int (Int.fmod (a : Int) ((2 ^ (8 - l) : Nat) : Int)) = V.int 0) = Su201.isPrefix a l := by
          unfold Su201.isPrefix Su201.addressBits
          rw [decide_eq_true hl, decide_eq_true (p := a < 2 ^ 8) (by omega), Bool.true_and, Bool.true_and, Int.fmod_eq_emod_of_nonneg _ (by omega), dec_int, Bool.eq_iff_iff, beq_iff_eq, beq_iff_eq]
          omega
        show Q (V.bl (decide _)) H
        rw [e2]
        exact k
end
end Rs

/-! # The walk, part 2: small defs -/
namespace Rs
open PySem PySem.Spec L2 PyProof.Rows
open Su201 (Route)
section
variable {K : PySem.W.Frag} {mg : Str → Option Value} {base : Heap} {σ : L2.St} {H H1 : Hp} {ta tb tc te : TE} {a D : Addr}
/-- route[1:3] -/
theorem sl_route {r : Route} {Q : VK} (R : RtAt H a r) (ha : Pu ta σ H (.ref a)) (q : ∀ p, H p = none → Q (.ref p) (upd H p (.tup [.int (r.address : Int), .int (r.length : Int)]))) : tSl (rSlT K) ta (tPart (tC (.int 1))) (tPart (tC (.int 3))) σ H Q := by
  obtain ⟨p, h1, h2⟩ := R
  refine ha _ ⟨1, rfl, 3, rfl, a, _, rfl, SqT.of h1, ?_, fun p hp => ?_⟩
  · intro z
    have e := z.1
    revert e
    show ¬ HT.sIx 4 0 (some 1) = 0
    decide
  · exact q p hp
theorem lstRg_of {n : Int} {Q : VK} (h : Pu ta σ H (.int n)) (hn : RgOk 0 n) (q : ∀ p, H p = none → Q (.ref p) (upd H p (.lst (rgV 0 n)))) : tLstRg (tRg1 ta) σ H Q := h _ ⟨n, rfl, hn, q⟩
/-- a comprehension: I tells what holds of the list made so far -/
theorem lc_w {J : It} {n : Nat} {G : Hp → Prop} {Y : Nat → Hp → V → Hp → Prop} (w : Walk J n G Y) {g : TG} {tt : TT} {vs : List Nat} {Qd : Hp → Prop} (hD : H1 D = none) (hn : n < 100000) (I : Nat → Hp → List V → Prop)
    (hG : ∀ H, Kt K H1 H → G H) (h0 : I 0 (upd H1 D (.lst [])) []) (hl : ∀ i H acc, I i H acc → acc.length ≤ i) (hu : ∀ i H acc acc' o, I i H acc' → H D = some (.lst acc) → I i (upd H D (.lst o)) acc')
    (hs : ∀ i x H H' acc, i < n → Kt K H1 H → H D = some (.lst acc) → I i H acc → Y i H x H' → ∀ (N1 : VK) (N0 : Hp → Prop), (∀ y H4, Kt K H H4 → I (i + 1) H4 (acc ++ [y]) → N1 y H4) → (∀ H3, Kt K H H3 → I (i + 1) H3 acc → N0 H3) →
      g x (wipe σ vs) H' fun σ2 H2 => wipe σ2 vs = wipe σ vs ∧ tt σ2 H2 fun b H3 => if b = true then te σ2 H3 N1 else N0 H3)
    (hd : ∀ H acc, Kt K H1 H → H D = some (.lst acc) → I n H acc → Qd H) :
    ∃ V0 : Nat → Nat → Hp → Prop, (∃ left, V0 0 left (upd H1 D (.lst []))) ∧ ∀ i left G0, V0 i left G0 →
      (J.stop i G0 ∧ Qd G0) ∨ (J.go i G0 ∧ ∃ More : Hp → Prop, (∀ G1, More G1 → ∃ less, less < left ∧ V0 (i + 1) less G1) ∧ ∀ x G1, J.yld i G0 x G1 → g x (wipe σ vs) G1 fun τ G2 => wipe τ vs = wipe σ vs ∧ tt τ G2 fun b G3 =>
        if b = true then te τ G3 fun y G4 => ∃ made, G4 D = some (.lst made) ∧ made.length < sizeLine ∧ More (upd G4 D (.lst (made ++ [y]))) else More G3) := by
  refine lc_it w (fun i H => Kt K H1 H ∧ ∃ acc, H D = some (.lst acc) ∧ I i H acc) ⟨Kt.new hD, [], upd_same, h0⟩ (fun i H _ p => hG H p.1) ?_ ?_
  · rintro i x H H' hi ⟨k, acc, hacc, hI⟩ y
    refine hs i x H H' acc hi k hacc hI y _ _ (fun y H4 k4 h4 => ?_) fun H3 k3 h3 => ?_
    · have e4 := k4.lst hacc
      exact ⟨acc, e4, Nat.lt_of_le_of_lt (hl i H acc hI) (Nat.lt_trans (Nat.lt_trans hi hn) (by decide)), (k.trans k4).put (.of hD) e4, _, upd_same, hu _ _ _ _ _ h4 e4⟩
    · exact ⟨k.trans k3, acc, k3.lst hacc, h3⟩
  · rintro H ⟨k, acc, hacc, hI⟩
    exact hd H acc k hacc hI
end
section
variable {K : PySem.W.Frag} {mg : Str → Option Value} {base : Heap} {P : Program} {w : World}
/-! ## contains -/
theorem sc18 : FnScope ["prefix", "destination", "address", "length"] ["prefix", "destination"] (defScope (top 18)) := ⟨rfl, rfl, rfl, by decide +kernel, rfl, by decide +kernel, by decide +kernel⟩
def spContains : Sp := fun vs H Q _ => ∃ (p : Addr) (a l x : Nat), vs = [.ref p, .int x] ∧ H p = some (.tup [.int a, .int l]) ∧ Su201.isPrefix a l = true ∧ Q (.bl (Su201.prefixContains a l x)) H
theorem contains_is {a l x : Nat} (h : Su201.isPrefix a l = true) : (decide ((a : Int) ≤ x) && decide ((x : Int) < (a : Int) + ((2 ^ (8 - l) : Nat) : Int))) = Su201.prefixContains a l x := by
  unfold Su201.isPrefix Su201.addressBits at h
  rw [Bool.and_eq_true, Bool.and_eq_true, beq_iff_eq] at h
  unfold Su201.prefixContains Su201.addressBits
  have hp : 0 < 2 ^ (8 - l) := Nat.pow_pos (by decide)
  generalize 2 ^ (8 - l) = n at *
  obtain ⟨k, rfl⟩ : ∃ k, a = n * k := ⟨a / n, by have := Nat.div_add_mod a n; rw [h.2.2] at this; omega⟩
  rw [Bool.eq_iff_iff, Bool.and_eq_true, decide_eq_true_eq, decide_eq_true_eq, beq_iff_eq, Nat.mul_div_cancel_left _ hp]
  constructor
  · rintro ⟨h1, h2⟩
    refine Nat.div_eq_of_lt_le ?_ ?_
    · rw [Nat.mul_comm]
      omega
    · rw [Nat.add_mul, Nat.mul_comm]
      omega
  · intro e
    have h3 := Nat.div_add_mod x n
    have h4 := Nat.mod_lt x hp
    rw [e] at h3
    omega
theorem ok_contains (T : Tx K mg base) : OkD P w K mg base 1 (ga K "contains") ["prefix", "destination"] spContains := by
  obtain ⟨fd, F⟩ : ∃ fd, FunD K "contains" "contains" (defArgs (top 18)) (defBody (top 18)) (defScope (top 18)) [] [] (ga K "contains") fd := T.fn 1 _ rfl
  refine okD_mk F (F.ok sc18 (fun vs H Q E h => ?_) (fun cdv A outer s H vs Q E hr h => ?_)) (fun _ _ _ _ _ _ us hl => match us, hl with | [_, _], _ => rfl)
  · obtain ⟨p, a, l, x, rfl, _⟩ := h
    rfl
  · obtain ⟨p, a, l, x, rfl, hp, hpx, k⟩ := h
    refine ⟨_, PSs.nox (pss_cons (ps_asg (pv 0) (pg_tup rfl (pgs_cons (pg_name (i := 2) sc18.nd rfl (Or.inl rfl)) (pgs_cons (pg_name (i := 3) sc18.nd rfl (Or.inl rfl)) pgs_nil))))
      (pss_one (ps_ret (pe_chain op_le op_lt (pv 2) (pv 1) (pe_op op_add (pv 2) (pe_ix ix_tup (pe_ga T) (pv 3) (fun _ _ => rfl))))))), ?_⟩
    refine ⟨_, rfl, p, _, rfl, SqT.of hp, rfl, _, _, rfl, _, _, rfl, rfl, ?_⟩
    have hl : l ≤ 8 := by
      unfold Su201.isPrefix Su201.addressBits at hpx
      rw [Bool.and_eq_true, decide_eq_true_eq] at hpx
      exact hpx.1
    have v2 : Pu (tVar 2) [some (V.ref p), some (V.int (x : Int)), some (V.int (a : Int)), some (V.int (l : Int))] H (.int a) := pu_var rfl
    refine st_ret (pu_chain v2 (pu_var rfl) (pu_I v2 (pu_ixT pu_c (pu_var rfl) (T.sizes H) (sizes_at hl))) (fun Q q => ⟨_, _, rfl, rfl, q⟩) (fun Q q => ⟨_, _, rfl, rfl, q⟩)) ?_
    rw [contains_is hpx]
    exact k
/-! ## is_eligible -/
theorem sc20 : FnScope ["server", "route", "member", "announcer"] ["server", "route", "member"] (defScope (top 20)) := ⟨rfl, rfl, rfl, by decide +kernel, rfl, by decide +kernel, by decide +kernel⟩
def spIsEligible (K : PySem.W.Frag) : Sp := fun vs H Q _ => ∃ (s ra : Addr) (k : Nat) (m : M) (z : SA) (r : Route), vs = [.ref s, .ref ra, .int k] ∧ SvAt K H s m z ∧ Wf m ∧ RtAt H ra r ∧ r.announcer < m.num ∧ k < m.num ∧ Q (.bl (elig m k r)) H
theorem ok_is_eligible (T : Tx K mg base) : OkD P w K mg base 1 (ga K "is_eligible") ["server", "route", "member"] (spIsEligible K) := by
  obtain ⟨fd, F⟩ : ∃ fd, FunD K "is_eligible" "is_eligible" (defArgs (top 20)) (defBody (top 20)) (defScope (top 20)) [] [] (ga K "is_eligible") fd := T.fn 2 _ rfl
  refine okD_mk F (F.ok sc20 (fun vs H Q E h => ?_) (fun cdv A outer s H vs Q E hr h => ?_)) (fun _ _ _ _ _ _ us hl => match us, hl with | [_, _, _], _ => rfl)
  · obtain ⟨_, _, _, _, _, _, rfl, _⟩ := h
    rfl
  · obtain ⟨sv, ra, k, m, z, r, rfl, S, W, R, hra, hk, q⟩ := h
    refine ⟨_, PSs.nox (pss_cons (ps_set (i := 3) sc20.nd rfl (Or.inl rfl) (pe_ix ix_tup (pv 1) pe_int (fun _ _ => rfl)))
      (pss_cons (ps_if (pt_cmpR op_eq (pv 3) (pv 2) (nomark _)) (pss_one (ps_ret pe_bl)) pss_nil)
      (pss_cons (ps_if (PW.pt (pw_or (pt_cmpR op_eq (pe_ix ix_list (pe_ix ix_list (pe_fld (pv 0) rfl) (pv 3) (fun _ _ => rfl)) (pv 2) (fun _ _ => rfl)) pe_int (nomark _)) (pw_or1 (pt_cmpR op_eq (pe_ix ix_list (pe_ix ix_list (pe_fld (pv 0) rfl) (pv 2) (fun _ _ => rfl)) (pv 3) (fun _ _ => rfl)) pe_int (nomark _))))) (pss_one (ps_ret pe_bl)) pss_nil)
      (pss_one (ps_ret (pe_cmpR op_notIn_seq (pe_ix ix_list (pe_fld (pv 0) rfl) (pv 2) (fun _ _ => rfl)) (pe_ix ix_tup (pv 1) pe_int (fun _ _ => rfl)) (by rfl))))))), ?_⟩
    refine st_set (pu_ann R (pu_var rfl)) ?_
    refine st_if (put_test (pu_eqN (pu_var rfl) (pu_var rfl))) (fun e => st_ret pu_c ?_) fun e => ?_
    · unfold elig at q
      rw [if_pos (of_decide_eq_true e)] at q
      exact q
    · have e1 : ¬ r.announcer = k := of_decide_eq_false e
      refine st_if (put_or (put_test (pu_eqN (j := 1) (pu_cell (d := 0) S.exps W.exps.len W.exps.row hra hk (pu_exps T S (pu_var rfl)) (pu_var rfl) (pu_var rfl)) pu_c)) fun _ => put_test (pu_eqN (j := 1) (pu_cell (d := 0) S.imps W.imps.len W.imps.row hk hra (pu_imps T S (pu_var rfl)) (pu_var rfl) (pu_var rfl)) pu_c)) (fun e => st_ret pu_c ?_) fun e => ?_
      · rw [Bool.or_eq_true, decide_eq_true_eq, decide_eq_true_eq] at e
        unfold elig at q
        rw [if_neg e1, if_pos e] at q
        exact q
      · rw [Bool.or_eq_false_iff, decide_eq_false_iff_not, decide_eq_false_iff_not] at e
        obtain ⟨pp, h1, h2⟩ := pu_path (K := K) (σ := [some (.ref sv), some (.ref ra), some (.int (k : Int)), some (.int (r.announcer : Int))]) (ta := tVar 1) R (pu_var rfl)
        refine st_ret (pu_notIn (pu_ixL (pu_asns T S (pu_var rfl)) (pu_var rfl) (SqL.of S.asns) (nv_at (asn_get hk))) h1 (.inr (SqT.of h2)) rfl (nv_flat _)) ?_
        rw [nv_in]
        unfold elig at q
        rw [if_neg e1, if_neg (by omega)] at q
        exact q
/-! ## rank -/
theorem sc21 : FnScope ["server", "route", "member", "announcer"] ["server", "route", "member"] (defScope (top 21)) := ⟨rfl, rfl, rfl, by decide +kernel, rfl, by decide +kernel, by decide +kernel⟩
def rkV (x : Nat × Nat × Nat) : List V := [.int (-(x.1 : Int)), .int (x.2.1 : Int), .int (x.2.2 : Int)]
def spRank (K : PySem.W.Frag) : Sp := fun vs H Q _ => ∃ (s ra : Addr) (k : Nat) (m : M) (z : SA) (r : Route), vs = [.ref s, .ref ra, .int k] ∧ SvAt K H s m z ∧ Wf m ∧ RtAt H ra r ∧ r.announcer < m.num ∧ k < m.num ∧ ∀ p, H p = none → Q (.ref p) (upd H p (.tup (rkV (rank m k r))))
theorem ok_rank (T : Tx K mg base) : OkD P w K mg base 1 (ga K "rank") ["server", "route", "member"] (spRank K) := by
  obtain ⟨fd, F⟩ : ∃ fd, FunD K "rank" "rank" (defArgs (top 21)) (defBody (top 21)) (defScope (top 21)) [] [] (ga K "rank") fd := T.fn 3 _ rfl
  refine okD_mk F (F.ok sc21 (fun vs H Q E h => ?_) (fun cdv A outer s H vs Q E hr h => ?_)) (fun _ _ _ _ _ _ us hl => match us, hl with | [_, _, _], _ => rfl)
  · obtain ⟨_, _, _, _, _, _, rfl, _⟩ := h
    rfl
  · obtain ⟨sv, ra, k, m, z, r, rfl, S, W, R, hra, hk, q⟩ := h
    refine ⟨_, PSs.nox (pss_cons (ps_set (i := 3) sc21.nd rfl (Or.inl rfl) (pe_ix ix_tup (pv 1) pe_int (fun _ _ => rfl)))
      (pss_one (ps_ret (pe_tup (pa_cons (pe_un un_neg (pe_ix ix_list (pe_ix ix_list (pe_fld (pv 0) rfl) (pv 2) (fun _ _ => rfl)) (pv 3) (fun _ _ => rfl))) (pa_cons (pe_callB call_len_seq (by rfl) (T.free "len" (by decide +kernel)) boot_len (pa_cons (pe_ix ix_tup (pv 1) pe_int (fun _ _ => rfl)) pa_nil)) (pa_cons (pe_ix ix_list (pe_fld (pv 0) rfl) (pv 3) (fun _ _ => rfl)) pa_nil))))))), ?_⟩
    refine st_set (pu_ann R (pu_var rfl)) ?_
    obtain ⟨pp, h1, h2⟩ := pu_path (K := K) (σ := [some (.ref sv), some (.ref ra), some (.int (k : Int)), some (.int (r.announcer : Int))]) (ta := tVar 1) R (pu_var rfl)
    refine pu_neg (pu_cell (d := 5) S.prefs W.prefs.len W.prefs.row hk hra (pu_prefs T S (pu_var rfl)) (pu_var rfl) (pu_var rfl)) _ ?_
    refine pu_len h1 (.inr (SqT.of h2)) _ ?_
    refine pu_ixL (pu_asns T S (pu_var rfl)) (pu_var rfl) (SqL.of S.asns) (nv_at (asn_get hra)) _ ?_
    refine ⟨(by show 3 ≤ sizeLine; decide), fun p hp => ?_⟩
    rw [nv_len]
    exact q p hp
/-! ## Server.has_member, members -/
theorem scm3 : FnScope ["self", "member"] ["self", "member"] (defScope (inClass (top 67) 3)) := ⟨rfl, rfl, rfl, by decide +kernel, rfl, by decide +kernel, by decide +kernel⟩
def spHas (K : PySem.W.Frag) : Sp := fun vs H Q _ => ∃ (s : Addr) (k : Nat) (m : M) (z : SA), vs = [.ref s, .int k] ∧ SvAt K H s m z ∧ Q (.bl (decide (k < m.num))) H
theorem ok_has (T : Tx K mg base) : OkD P w K mg base 1 (ma K "has_member") ["self", "member"] (spHas K) := by
  obtain ⟨fd, F⟩ : ∃ fd, FunD K "has_member" "Server.has_member" (defArgs (inClass (top 67) 3)) (defBody (inClass (top 67) 3)) (defScope (inClass (top 67) 3)) [] [] (ma K "has_member") fd := T.fn 45 _ rfl
  refine okD_mk F (F.ok scm3 (fun vs H Q E h => ?_) (fun cdv A outer s H vs Q E hr h => ?_)) (fun _ _ _ _ _ _ us hl => match us, hl with | [_, _], _ => rfl)
  · obtain ⟨_, _, _, _, rfl, _⟩ := h
    rfl
  · obtain ⟨sv, k, m, z, rfl, S, q⟩ := h
    refine ⟨_, PSs.nox (pss_one (ps_ret (pe_cmpR op_lt (pv 1) (pe_callB call_len_seq (by rfl) (T.free "len" (by decide +kernel)) boot_len (pa_cons (pe_fld (pv 0) rfl) pa_nil)) (nomark _)))), ?_⟩
    refine st_ret (pu_I (pu_var rfl) (pu_len (pu_asns T S (pu_var rfl)) (.inl (SqL.of S.asns)))) ?_
    rw [nv_len]
    have e : decide ((k : Int) < (m.asns.length : Int)) = decide (k < m.num) := by
      rw [Bool.eq_iff_iff, decide_eq_true_eq, decide_eq_true_eq]
      unfold M.num
      omega
    show Q (V.bl (decide _)) H
    rw [e]
    exact q
theorem scm4 : FnScope ["self"] ["self"] (defScope (inClass (top 67) 4)) := ⟨rfl, rfl, rfl, by decide +kernel, rfl, by decide +kernel, by decide +kernel⟩
def spMembers (K : PySem.W.Frag) : Sp := fun vs H Q _ => ∃ (s : Addr) (m : M) (z : SA), vs = [.ref s] ∧ SvAt K H s m z ∧ m.num ≤ 6 ∧ ∀ p, H p = none → Q (.ref p) (upd H p (.lst (nv (List.range m.num))))
theorem rg_nv (n : Nat) : rgV 0 (n : Int) = nv (List.range n) := by
  unfold rgV nv
  rw [Int.sub_zero, Int.toNat_natCast]
  refine List.map_congr_left fun i _ => ?_
  rw [Int.zero_add]
theorem ok_members (T : Tx K mg base) : OkD P w K mg base 1 (ma K "members") ["self"] (spMembers K) := by
  obtain ⟨fd, F⟩ : ∃ fd, FunD K "members" "Server.members" (defArgs (inClass (top 67) 4)) (defBody (inClass (top 67) 4)) (defScope (inClass (top 67) 4)) [] [] (ma K "members") fd := T.fn 46 _ rfl
  refine okD_mk F (F.ok scm4 (fun vs H Q E h => ?_) (fun cdv A outer s H vs Q E hr h => ?_)) (fun _ _ _ _ _ _ us hl => match us, hl with | [_], _ => rfl)
  · obtain ⟨_, _, _, rfl, _⟩ := h
    rfl
  · obtain ⟨sv, m, z, rfl, S, hm, q⟩ := h
    refine ⟨_, PSs.nox (pss_one (ps_ret (pe_listRg rfl (by rfl) (T.free "list" (by decide +kernel)) (prg_1 (by rfl) (T.free "range" (by decide +kernel)) (pe_callB call_len_seq (by rfl) (T.free "len" (by decide +kernel)) boot_len (pa_cons (pe_fld (pv 0) rfl) pa_nil)))))), ?_⟩
    refine st_retG (lstRg_of (pu_num T S (pu_var rfl)) (RgOk.of_le (by omega) (by omega) (by omega) (by omega)) fun p hp => ?_)
    rw [rg_nv]
    exact q p hp
/-! ## counted -/
theorem sc29 : FnScope ["numbers"] ["numbers"] (defScope (top 29)) := ⟨rfl, rfl, rfl, by decide +kernel, rfl, by decide +kernel, by decide +kernel⟩
def spCounted (K : PySem.W.Frag) : Sp := fun vs H Q _ => ∃ (a : Addr) (xs : List V), vs = [.ref a] ∧ H a = some (.lst xs) ∧ xs.length ≤ 100000 ∧ ∀ p H', Kt K H H' → Nw H p → H' p = some (.lst (.int (xs.length : Int) :: xs)) → Q (.ref p) H'
theorem ok_counted (T : Tx K mg base) : OkD P w K mg base 1 (ga K "counted") ["numbers"] (spCounted K) := by
  obtain ⟨fd, F⟩ : ∃ fd, FunD K "counted" "counted" (defArgs (top 29)) (defBody (top 29)) (defScope (top 29)) [] [] (ga K "counted") fd := T.fn 10 _ rfl
  refine okD_mk F (F.ok sc29 (fun vs H Q E h => ?_) (fun cdv A outer s H vs Q E hr h => ?_)) (fun _ _ _ _ _ _ us hl => match us, hl with | [_], _ => rfl)
  · obtain ⟨_, _, rfl, _⟩ := h
    rfl
  · obtain ⟨a, xs, rfl, ha, hx, q⟩ := h
    refine ⟨_, PSs.nox (pss_one (ps_ret (pe_op op_cat (pe_lst (pa_cons (pe_callB call_len_seq (by rfl) (T.free "len" (by decide +kernel)) boot_len (pa_cons (pv 0) pa_nil)) pa_nil)) (pv 0)))), ?_⟩
    refine st_retG (op_of (lst_of (pa_c (pu_len (pu_var rfl) (.inl (SqL.of ha))) pa_n) (by show 1 ≤ 1000; decide) fun p hp => ?_))
    have k1 : Kt K H (upd H p (.lst [.int (xs.length : Int)])) := Kt.new hp
    refine ⟨_, rfl, p, a, _, _, rfl, rfl, upd_same, k1.lst ha, Nat.le_trans (show 1 + xs.length ≤ 100001 by omega) (by decide), fun p2 hp2 => ?_⟩
    refine q p2 _ (k1.trans (Kt.new hp2)) (Nw.back k1 (.of hp2)) upd_same
end
end Rs

/-! # sorted(xs, key=f) where f's calls keep what an invariant of one's own tells -/
namespace Rs
open PySem PySem.W PySem.Calls PyProof.Rows
section
variable {prog : Program} {w : World} {A : Around} {E : Value → Shared → Prop} {s : Shared} {a kS : Addr} {b : Bool} {vs : List Value} {e1 : Nat} {P : PySem.Fin → Shared → Prop}
/-- the loop over the items: J i ks tells the state when i items have been asked, whose keys are ks; J2 the state behind one more call -/
theorem rest_by {f : Value} (J : Nat → List Value → Shared → Prop) (J2 : Nat → List Value → Value → Shared → Prop) (h0 : J 0 [] s)
    (turn : ∀ i v ks s', vs[i]? = some v → J i ks s' → wpAny (model prog w) A (call f [v]) (fun u s2 => J2 i ks u s2) (fun _ _ => False) s')
    (hk : ∀ i ks u s2, J2 i ks u s2 → ks.length ≤ 1000 ∧ ∃ e, s2.heap.get? kS = some (seqObj "list" ks.toArray e))
    (put : ∀ i ks u s2, J2 i ks u s2 → J (i + 1) (ks ++ [u]) { s2 with heap := s2.heap.update kS (Obj.mapSeq (·.push u)) })
    (done : ∀ ks s', J vs.length ks s' → (∃ e, s'.heap.get? kS = some (seqObj "list" ks.toArray e)) ∧ wpAny (model prog w) A (ksk_end a b vs.toArray e1 (.ref kS) ks.toArray) P E s') :
    (wpAny (model prog w) A (ksk_rest a f b vs.toArray e1 (.ref kS)) P E s) := by
  unfold ksk_rest
  apply wpAny_bind
  apply wpAny_rule
  rw [List.forIn_toArray]
  refine wpAny_bind (ksk_fold (fun i s' => ∃ ks, J i ks s') vs 0 s ⟨[], h0⟩ (fun j x s' hx hj => ?_) fun s' hd => ?_)
  · obtain ⟨ks, hj⟩ := hj
    rw [Nat.zero_add] at hj ⊢
    refine wpAny_bind (wpAny_attempt (wpAny_mono (turn j x ks s' hx hj) (fun u s2 h2 => ?_) fun _ _ z => z.elim))
    obtain ⟨hl, ep, hK⟩ := hk j ks u s2 h2
    have z1 : ks.toArray.size ≤ sizeLine := by
      rw [List.size_toArray]
      exact Nat.le_trans hl (by decide)
    have z2 : (ks.toArray.push u).size ≤ sizeLine + 1 := by
      rw [Array.size_push]
      exact Nat.succ_le_succ z1
    try dsimp only
    refine wpAny_bind (listUpdate_at hK rfl ?_ z1 z2)
    exact wpAny_pure ⟨rfl, ks ++ [u], put j ks u s2 h2⟩
  · obtain ⟨ks, hj⟩ := hd
    rw [Nat.zero_add] at hj
    obtain ⟨⟨ep, hK⟩, hE⟩ := done ks s' hj
    try dsimp only
    exact wpAny_bind (listItems_at hK rfl hE)
/-- what stands when the loop begins: l's items in a new list at a, which is empty meanwhile; kS the list of the keys -/
structure Began (s : Shared) (vs : List Value) (a kS : Addr) (e1 : Nat) (h : Heap) : Prop where
  old : ∀ b o, s.heap.get? b = some o → h.get? b = some o
  na : s.heap.objs.size ≤ a
  nk : s.heap.objs.size ≤ kS
  ne : kS ≠ a
  ata : h.get? a = some (seqObj "list" #[] e1)
  atk : h.get? kS = some (seqObj "list" #[] 0)
theorem sorted_by {l : Addr} {f : Addr} {Q : Value → Shared → Prop} (hl : s.heap.IsList l vs.toArray) (hL : vs.length ≤ 1000)
    (h : ∀ (a kS : Addr) (e1 : Nat) (g : Heap) (E' : Value → Shared → Prop), Began s vs a kS e1 g →
      wpAny (model prog w) A.in1.in1 (ksk_rest a (.ref f) false vs.toArray e1 (.ref kS)) (fun r s' => r = .done (.ret .none) ∧ Q (.ref a) s') E' { s with heap := g }) :
    (wpAny (model prog w) A (call (.builtin "sorted") [.ref l] [(Str.ofString "key", .ref f)]) Q E s) := by
  have hZ : vs.length ≤ sizeLine := Nat.le_trans hL (by decide)
  refine sorted_of_sort hl hZ (by unfold argsOk; kernel_rfl) (fun x => by unfold argsOk; kernel_rfl) fun E' => ?_
  rw [ksk_t1]
  have ho := copyHeap_at s.heap vs
  generalize hg : copyHeap s.heap vs = g at ho
  have old : ∀ b o, s.heap.get? b = some o → g.get? b = some o := fun b o e => by
    rw [← hg]
    exact copyHeap_old e
  have hlt : s.heap.objs.size + 1 < g.objs.size := Heap.lt_size ho
  generalize ha : s.heap.objs.size + 1 = a at ho hlt ⊢
  obtain ⟨e1, ho1⟩ : ∃ e1, (g.update a (Obj.mapSeq fun _ => (#[] : Array Value))).get? a = some (seqObj "list" #[] e1) := ⟨_, get?_update_seq ho fun _ => #[]⟩
  unfold ksk_tree
  have hZ2 : vs.toArray.size ≤ sizeLine := by rw [List.size_toArray]; exact hZ
  refine wpAny_bind (listItems_at ho rfl (wpAny_bind (listUpdate_at ho rfl ?_ hZ2 (Nat.zero_le _))))
  refine wpAny_bind (seqEpoch_at ho1 rfl (wpAny_bind (wpAny_newTuple ?_ hZ)))
  refine wpAny_bind (wpAny_newList (wpAny_holding ?_) (Nat.zero_le _))
  have sb := Heap.SameBut.update g a (Obj.mapSeq fun _ => (#[] : Array Value))
  have sz : ((g.update a (Obj.mapSeq fun _ => (#[] : Array Value))).push (seqObj "tuple" vs.toArray 0)).objs.size = g.objs.size + 1 := by
    rw [size_push', Heap.size_update]
  have hsa : s.heap.objs.size ≤ a := by rw [← ha]; exact Nat.le_succ _
  refine h a _ e1 _ E' ⟨fun b o e => ?_, hsa, ?_, ?_, ?_, Heap.get?_push_size _ rfl⟩
  · have hb : b ≠ a := Nat.ne_of_lt (Nat.lt_of_lt_of_le (Heap.lt_size e) hsa)
    exact Heap.get?_push_of_some _ (Heap.get?_push_of_some _ ((sb.2 b hb).trans (old b o e)))
  · rw [sz]
    exact Nat.le_succ_of_le (Nat.le_trans hsa (Nat.le_of_lt hlt))
  · rw [sz]
    exact Nat.ne_of_gt (Nat.lt_succ_of_lt hlt)
  · exact Heap.get?_push_of_some _ (Heap.get?_push_of_some _ ho1)
end
end Rs

/-! # sorted(e, key=lambda x: body) over the hand layer -/
namespace Rs
open PySem PySem.Spec PyProof.Rows L2 LamX NdefX
/-- the lambda's words -/
def lamF (X : Cx) (params : Arguments) (scope : Scope) (c' : Addr) : NF := ⟨"<lambda>", X.env.qual ++ "<lambda>", params, [], scope, cloFrom X.env.cells scope.names [], c'⟩
section
variable {X : Cx} {pins : List (Addr × Obj)} {σ : L2.St} {H : Hp} {s : Shared}
theorem env0_in (I : Inv X pins σ H s) : Env0 X.prog X.w X.K X.mg X.base X.A.in1.in1 X.stack s H :=
  let e := I.env0
  ⟨e.frames, e.mod, e.bs, e.bsz, e.funs, e.frf, e.hok, e.bare⟩
/-- one call of the lambda -/
theorem lam_call {params : Arguments} {body : Expr} {scope : Scope} {f c' : Addr} {pm ctv : Value} {N fr : List Str} {x : Str} {ws : List (Option V)} {k : Nat} {tb : TE} {u : Value} {y : V} {Q : VK} (I : Inv X pins σ H s) (hr : Room (k + 1) X.A.in1.in1) (S : NScope N [x] fr scope)
    (ho : s.heap.get? f = some (PySem.W.kla_obj "<lambda>" (X.env.qual ++ "<lambda>") params body scope (cloFrom X.env.cells scope.names []) pm c' ctv)) (hc : H c' = some (CodeO c' (X.env.qual ++ "<lambda>")))
    (C : CellsAt (cloFrom X.env.cells scope.names []) fr ws s.heap H) (hbind : bindArgs (PySem.W.kla_fn "<lambda>" (X.env.qual ++ "<lambda>") params body scope (cloFrom X.env.cells scope.names []) pm (.ref c') ctv) ⟨[u], []⟩ = pure [(x, u)])
    (hbody : Room k (X.A.in1.in1.deeper (envF (lamF X params scope c') f s.heap.objs.size)) → PE (ncx CX0 X.prog X.w X.K X.mg X.base N (lamF X params scope c') f X.A.in1.in1 X.stack s H E0) body tb) (r : RelV y u) (q : tb (startF N [y] ws) H Q) :
    wpAny (model X.prog X.w) X.A.in1.in1 (call (.ref f) [u]) (fun v s2 => ∃ y2 H2, s2.os = s.os ∧ AllBare s2.gens ∧ Un (frs X.stack) [] H H2 s.heap s2.heap ∧ HOk X.prog X.w H2 s2.heap ∧ RelV y2 v ∧ Q y2 H2) (fun _ _ => False) s := by
  have rc : codeAny (model X.prog X.w) X.A.in1.in1 (.call (.ref f) ⟨[u], []⟩) (CR CX0 X.stack X.prog X.w H s Q E0) s := by
    refine PySem.W.kla_callFunE hr.depth ho rfl S.co S.gen rfl (codeO_at I.hok hc) ?_
    rw [hbind]
    refine wpAny_pure (wpAny_newFunctionEnv S.nocell (fun ⟨n, _⟩ hy => ?_) (fun h₁ hns hsb => ⟨I.nolimit.fresh _ hsb, ?_⟩) S.kind)
    · have hn : n ∈ ([x] : List Str) := by
        rcases List.mem_cons.mp hy with e | e
        · cases e
          exact List.mem_cons_self ..
        · cases e
      exact S.par n hn
    · show codeAny _ _ (.expr body (envF (lamF X params scope c') f s.heap.objs.size)) _ _
      have kp : ∀ p ob, s.heap.get? p = some ob → h₁.get? p = some ob := fun p ob e => hsb.extBut p ob (Nat.ne_of_lt (Heap.lt_size e)) (Heap.get?_push_of_some _ e)
      have J := inv_startN (CX := CX0) (E := E0) (F := lamF X params scope c') (f := f) (us := [u]) (vs := [y]) (tk := s.toks + 1) S hr.hd (env0_in I) rfl (.cons r .nil) C hns kp
      refine PySem.W.kla_codeExpr (wpAny_mono ((hbody (hr.deeper _)).run [] _ _ H Q J q) (fun v s2 hq => ?_) fun e s2 hq => hq)
      obtain ⟨y2, H2, J2, rv, q2⟩ := hq
      exact ⟨y2, H2, J2.os, J2.bare, J2.base, J2.hok, rv, q2⟩
  refine wpAny_call (codeAny_mono rc fun r to hq => ?_)
  cases r with
  | error _ => exact (show False from hq).elim
  | ok fl =>
    cases fl with
    | ret v => exact hq
    | next => exact False.elim hq
    | brk => exact False.elim hq
    | cont => exact False.elim hq
end
/-! ## objects that are new since s change: what is told of s stays -/
section
variable {fs : List Addr} {H H' : Hp} {h h1 h2 : Heap} {P : Program} {w : World}
theorem un_but {B : List Addr} (u : Un fs [] H H' h h1) (hB : ∀ b ∈ B, h.get? b = none) (k : ∀ b o, b ∉ B → h1.get? b = some o → h2.get? b = some o) : Un fs [] H H' h h2 where
  keep := fun b o q n hb hx => k b o (fun z => by rw [hB b z] at q; cases q) (u.keep b o q n hb hx)
  slot := fun b o q n hb hx => by
    obtain ⟨sl, e⟩ := u.slot b o q n hb hx
    exact ⟨sl, k b _ (fun z => by rw [hB b z] at q; cases q) e⟩
  free := u.free
  there := fun b o q hx => by
    obtain ⟨o', e⟩ := u.there b o q hx
    exact ⟨o', k b o' (fun z => by rw [hB b z] at q; cases q) e⟩
  tups := u.tups
  frzs := u.frzs
  tbls := u.tbls
theorem hok_but {B : List Addr} (x : HOk P w H' h1) (hB : ∀ b ∈ B, H' b = none) (k : ∀ b o, b ∉ B → h1.get? b = some o → h2.get? b = some o) : HOk P w H' h2 := fun a o e =>
  (x a o e).stay (fun b u hb q => k b u (fun z => by
    rcases hb with hb | hb
    · rw [hb] at z
      rw [hB a z] at e
      cases e
    · rw [hB b z] at hb
      cases hb) q) (fun _ q => q) fun _ _ q => q
end
/-! ## the key's order -/
def rkD (x : Nat × Nat × Nat) : PyData := .tuple [.int (-(x.1 : Int)), .int (x.2.1 : Int), .int (x.2.2 : Int)]
def rkW (x : Nat × Nat × Nat) : List V := [.int (-(x.1 : Int)), .int (x.2.1 : Int), .int (x.2.2 : Int)]
theorem rk_order {β : Type} (kf : β → Nat × Nat × Nat) : PySem.W.dataLe false (fun b => rkD (kf b)) = fun x y => rkLe (kf x) (kf y) := by
  rw [PySem.W.dataLe_eq]
  funext x y
  unfold rkD rkLe
  generalize kf x = p
  generalize kf y = q
  obtain ⟨p1, p2, p3⟩ := p
  obtain ⟨q1, q2, q3⟩ := q
  dsimp only [cond]
  have e3 : PyProof.Rows.lexLt itemOrd (PySem.W.keyToksAll []) (PySem.W.keyToksAll []) = false := lex_irrefl _
  rw [PySem.W.dataLt_tuple, PySem.W.dataLt_cons (by simp [PySem.W.alike]), PySem.W.dataLt_cons (by simp [PySem.W.alike]), PySem.W.dataLt_cons (by simp [PySem.W.alike]), PySem.W.dataLt_int, PySem.W.dataLt_int, PySem.W.dataLt_int, e3]
  simp only [PyData.eqv, beq_iff_eq]
  rw [Bool.eq_iff_iff]
  simp only [Bool.or_eq_true, Bool.and_eq_true, decide_eq_true_eq, Bool.not_eq_true']
  by_cases c1 : -(q1 : Int) = -(p1 : Int)
  · rw [if_pos c1]
    by_cases c2 : (q2 : Int) = (p2 : Int)
    · rw [if_pos c2]
      by_cases c3 : (q3 : Int) = (p3 : Int)
      · rw [if_pos c3]
        simp only [true_iff]
        omega
      · rw [if_neg c3, decide_eq_false_iff_not]
        omega
    · rw [if_neg c2, decide_eq_false_iff_not]
      omega
  · rw [if_neg c1, decide_eq_false_iff_not]
    omega
theorem rk_alike {β : Type} (kf : β → Nat × Nat × Nat) (l : List β) : PySem.W.AllAlike (l.map fun b => rkD (kf b)) := fun d hd d' hd' => by
  obtain ⟨x, _, rfl⟩ := List.mem_map.mp hd
  obtain ⟨y, _, rfl⟩ := List.mem_map.mp hd'
  simp [rkD, PySem.W.alike, PySem.W.alikeAll]
theorem rk_sortable {β : Type} (kf : β → Nat × Nat × Nat) (l : List β) : PySem.W.Sortable (l.map fun b => rkD (kf b)) := .inl fun d hd => by
  obtain ⟨x, _, rfl⟩ := List.mem_map.mp hd
  exact ⟨_, _, rfl⟩
/-- a tuple of whole numbers reads as such -/
theorem rk_reads {P : Program} {w : World} {H : Hp} {h : Heap} {p : Addr} {x : Nat × Nat × Nat} (hok : HOk P w H h) (e : H p = some (.tup (rkW x))) : ∃ as, Reads h (.ref p) (rkD x) as := by
  obtain ⟨_, its, r, o, ho, hc, n, hd⟩ := hok p _ e
  cases r with
  | cons r1 t1 =>
    cases t1 with
    | cons r2 t2 =>
      cases t2 with
      | cons r3 t3 =>
        cases t3
        obtain ⟨t1, rfl⟩ := r1
        obtain ⟨t2, rfl⟩ := r2
        obtain ⟨t3, rfl⟩ := r3
        exact ⟨_, Reads.tuple ho hc hd (ReadsAll.cons (Reads.int _ _) (ReadsAll.cons (Reads.int _ _) (ReadsAll.cons (Reads.int _ _) ReadsAll.nil)))⟩
/-! ## the loop's invariant -/
/-- i items have been asked; their keys are ks -/
structure Asked {β : Type} (X : Cx) (s : Shared) (H : Hp) (a kS : Addr) (e1 : Nat) (bs : List β) (kf : β → Nat × Nat × Nat) (i : Nat) (ks : List Value) (s' : Shared) (H' : Hp) : Prop where
  os : s'.os = s.os
  bare : AllBare s'.gens
  un : Un (frs X.stack) [] H H' s.heap s'.heap
  hok : HOk X.prog X.w H' s'.heap
  kt : Kt X.K H H'
  na : H' a = none
  nk : H' kS = none
  ata : s'.heap.get? a = some (seqObj "list" #[] e1)
  atk : ∃ e, s'.heap.get? kS = some (seqObj "list" ks.toArray e)
  le : i ≤ bs.length
  keys : Paired (fun (u : Value) (y : β) => ∃ p, u = .ref p ∧ H' p = some (.tup (rkW (kf y)))) ks (bs.take i)
end Rs

/-! # sorted(e, key=lambda x: body): the rule -/
namespace Rs
open PySem PySem.Spec PyProof.Rows L2 LamX NdefX
theorem pair_each {α β : Type} {F : α → β → Prop} : ∀ {l : List α} {r : List β}, Paired F l r → PySem.W.EachIs F l r
  | _, _, .nil => .nil
  | _, _, .cons q t => .cons q (pair_each t)
/-- values behind the abstract ones -/
theorem each_vals {β : Type} {R : V → β → Prop} : ∀ {us : List Value} {bs : List β}, PySem.W.EachIs (fun u b => ∃ x, RelV x u ∧ R x b) us bs → ∃ ys, Vals ys us ∧ Paired R ys bs
  | _, _, .nil => ⟨[], .nil, .nil⟩
  | _, _, .cons ⟨x, r, q⟩ t => by
    obtain ⟨ys, h1, h2⟩ := each_vals t
    exact ⟨x :: ys, .cons r h1, .cons q h2⟩
theorem vals_each {β : Type} {R : V → β → Prop} : ∀ {xs : List V} {us : List Value} {bs : List β}, Vals xs us → Paired R xs bs → PySem.W.EachIs (fun u b => ∃ x, RelV x u ∧ R x b) us bs
  | _, _, _, .nil, .nil => .nil
  | _, _, _, .cons r t, .cons q t2 => .cons ⟨_, r, q⟩ (vals_each t t2)
theorem take_next {α : Type} : ∀ {l : List α} {i : Nat} {x : α}, l[i]? = some x → l.take (i + 1) = l.take i ++ [x]
  | [], i, x, h => by simp at h
  | a :: l, 0, x, h => by
    have e : a = x := Option.some.inj h
    subst e
    rfl
  | a :: l, i + 1, x, h => by
    have ih := take_next (l := l) (i := i) (x := x) h
    show a :: l.take (i + 1) = a :: l.take i ++ [x]
    rw [ih]
    rfl
section
variable {X : Cx} {pins : List (Addr × Obj)} {σ : L2.St} {H : Hp} {s : Shared}
theorem not_frs (I : Inv X pins σ H s) {a : Addr} (h : s.heap.objs.size ≤ a) : a ∉ frs X.stack := fun z => by
  rcases List.mem_cons.mp (I.stkSub _ z) with e | e
  · have h1 := I.lt
    rw [← e] at h1
    exact Nat.lt_irrefl _ (Nat.lt_of_lt_of_le h1 h)
  · exact I.nofs h e
theorem Asked.inv {β : Type} {a kS : Addr} {e1 : Nat} {bs : List β} {kf : β → Nat × Nat × Nat} {i : Nat} {ks : List Value} {s' : Shared} {H' : Hp} (I : Inv X pins σ H s) (J : Asked X s H a kS e1 bs kf i ks s' H') : Inv X pins σ H' s' :=
  I.call' (ch := []) J.os J.un J.hok J.bare fun b hb => absurd hb (by simp)
/-- the new list, told at the end -/
theorem inv_end {a : Addr} {H' : Hp} {g : Heap} {tk : Nat} {s' : Shared} {ys : List V} {out : List Value} {c : Nat} (I : Inv X pins σ H s) (ho : s'.os = s.os) (hb : AllBare s'.gens) (u : Un (frs X.stack) [] H H' s.heap g) (hok : HOk X.prog X.w H' g) (na : H' a = none) (sa : s.heap.objs.size ≤ a)
    (ha : g.get? a = some (seqObj "list" out.toArray c)) (r : Vals ys out) (hl : ys.length ≤ 1000) : Inv X pins σ (upd H' a (.lst ys)) { s' with heap := g, toks := tk } := by
  refine I.call' (ch := []) ho ?_ ?_ hb fun b hb => absurd hb (by simp)
  · refine ⟨u.keep, u.slot, fun b o q n hx => ?_, u.there, fun b xs q => ?_, fun b o v q => ?_, fun b ps q => ?_⟩
    · rw [upd_ne (Nat.ne_of_lt (Nat.lt_of_lt_of_le (Heap.lt_size q) sa))]
      exact u.free b o q n hx
    · have e := u.tups b xs q
      rw [upd_ne (ne_of_none e na)]
      exact e
    · have e := u.frzs b o v q
      rw [upd_ne (ne_of_none e na)]
      exact e
    · obtain ⟨m, e⟩ := u.tbls b ps q
      exact ⟨m, by rw [upd_ne (ne_of_none e na)]; exact e⟩
  · intro b o e
    by_cases hz : b = a
    · subst hz
      rw [upd_same] at e
      cases e
      exact ⟨Nat.le_trans hl (by decide), out, c, r, ha⟩
    · rw [upd_ne hz] at e
      exact (hok b o e).stay (fun _ _ _ q => q) (fun c q => by rw [upd_ne (ne_of_none q na)]; exact q) fun c xs q => by rw [upd_ne (ne_of_none q na)]; exact q
/-- what the call asks: the items xs stand for bs; each call of the lambda gives its item's key -/
def SortAsk {β : Type} (K : PySem.W.Frag) (R : V → β → Prop) (kf : β → Nat × Nat × Nat) (tb : TE) (N : List Str) (ws : List (Option V)) (H : Hp) (xs : List V) (bs : List β) : Prop :=
  Paired R xs bs ∧ bs.length ≤ 1000 ∧ ∀ x b, R x b → b ∈ bs → ∀ (H1 : Hp) (Q : VK), Kt K H H1 → (∀ p H2, Kt K H1 H2 → H2 p = some (.tup (rkW (kf b))) → Q (.ref p) H2) → tb (startF N [x] ws) H1 Q
theorem sort_lam {β : Type} {R : V → β → Prop} {kf : β → Nat × Nat × Nat} {params : Arguments} {body : Expr} {scope : Scope} {f c' l : Addr} {pm ctv : Value} {N fr : List Str} {x : Str} {ws : List (Option V)} {k : Nat} {tb : TE} {xs : List V} {bs : List β} {Q : VK} {E : Value → Shared → Prop}
    (I : Inv X pins σ H s) (hr : Room (k + 1) X.A.in1.in1) (S : NScope N [x] fr scope)
    (hf : s.heap.get? f = some (PySem.W.kla_obj "<lambda>" (X.env.qual ++ "<lambda>") params body scope (cloFrom X.env.cells scope.names []) pm c' ctv)) (hfn : H f = none) (hfr : f ∉ frs X.stack) (hc : H c' = some (CodeO c' (X.env.qual ++ "<lambda>")))
    (C : ∀ {H' : Hp} {s' : Shared}, Inv X pins σ H' s' → CellsAt (cloFrom X.env.cells scope.names []) fr ws s'.heap H')
    (hbind : ∀ u, bindArgs (PySem.W.kla_fn "<lambda>" (X.env.qual ++ "<lambda>") params body scope (cloFrom X.env.cells scope.names []) pm (.ref c') ctv) ⟨[u], []⟩ = pure [(x, u)])
    (hbody : ∀ (A : Around) (s : Shared) (H : Hp), Room k (A.deeper (envF (lamF X params scope c') f s.heap.objs.size)) → PE (ncx CX0 X.prog X.w X.K X.mg X.base N (lamF X params scope c') f A X.stack s H E0) body tb)
    (hS : SqL X.K H l xs) (hask : SortAsk X.K R kf tb N ws H xs bs)
    (hQ : ∀ q ys H', Kt X.K H H' → H q = none → H' q = some (.lst ys) → Paired R ys (bs.mergeSort fun x y => rkLe (kf x) (kf y)) → Q (.ref q) H') :
    wpAny (model X.prog X.w) X.A (call (.builtin "sorted") [.ref l] [(Str.ofString "key", .ref f)]) (EP X pins σ Q) E s := by
  obtain ⟨hp, hlen, hkey⟩ := hask
  obtain ⟨its, rv, pl, hz⟩ := I.list hS
  have hxl : xs.length = bs.length := pair_len hp
  have hil : its.length = bs.length := by rw [← rv.length]; exact hxl
  have hE := vals_each rv hp
  refine sorted_by pl.isList (by omega) fun a kS e1 g E' B => ?_
  have nA : ∀ {H' : Hp}, HOk X.prog X.w H' s.heap → H' a = none := fun hok => hok.fresh B.na
  have fa := not_frs I B.na
  have fk := not_frs I B.nk
  have J0 : Asked X s H a kS e1 bs kf 0 [] { s with heap := g } H := ⟨rfl, I.bare, Un.kept B.old, I.hok.kept B.old, Kt.refl _, I.hok.fresh B.na, I.hok.fresh B.nk, B.ata, ⟨0, B.atk⟩, Nat.zero_le _, .nil⟩
  refine rest_by (J := fun i ks s' => ∃ H', Asked X s H a kS e1 bs kf i ks s' H')
    (J2 := fun i ks u s' => ∃ H' y, Asked X s H a kS e1 bs kf i ks s' H' ∧ bs[i]? = some y ∧ ∃ p, u = .ref p ∧ H' p = some (.tup (rkW (kf y)))) ⟨H, J0⟩ ?turn ?hk ?put ?done
  case turn =>
    rintro i u ks s' hu ⟨H', J⟩
    have I' := J.inv I
    have hi : i < bs.length := by
      have := (List.getElem?_eq_some_iff.mp hu).1
      omega
    obtain ⟨y, hy⟩ : ∃ y, bs[i]? = some y := ⟨_, List.getElem?_eq_getElem hi⟩
    obtain ⟨x', rx, hR⟩ := hE.zip (u, y) (List.mem_of_getElem? (i := i) (by rw [List.getElem?_zip_eq_some]; exact ⟨hu, hy⟩))
    have hf' : s'.heap.get? f = some (PySem.W.kla_obj "<lambda>" (X.env.qual ++ "<lambda>") params body scope (cloFrom X.env.cells scope.names []) pm c' ctv) := J.un.keep f _ hf hfn hfr (by simp)
    have hc' : H' c' = some (CodeO c' (X.env.qual ++ "<lambda>")) := J.kt.ke _ _ hc (fun ps => codeO_ne ps)
    refine wpAny_mono (lam_call (Q := fun v H3 => ∃ p, v = .ref p ∧ Kt X.K H' H3 ∧ H3 p = some (.tup (rkW (kf y)))) I' hr S hf' hc' (C I') (hbind u) (fun hr' => hbody _ _ _ hr') rx (hkey x' y hR (List.mem_of_getElem? hy) H' _ J.kt fun p H3 k3 h3 => ⟨p, rfl, k3, h3⟩)) ?_ fun _ _ z => z
    rintro v s2 ⟨y2, H2, os, bare, un, hok, rv2, p, rfl, k3, h3⟩
    obtain rfl : v = Value.ref p := rv2
    obtain ⟨ek, hek⟩ := J.atk
    exact ⟨H2, y, ⟨os.trans J.os, bare, J.un.trans un, hok, J.kt.trans k3, un.free a _ J.ata J.na (by simp), un.free kS _ hek J.nk (by simp), un.keep a _ J.ata J.na fa (by simp), ⟨ek, un.keep kS _ hek J.nk fk (by simp)⟩, J.le,
      Paired.mapP J.keys fun u b ⟨p, e, h⟩ => ⟨p, e, k3.tup h⟩⟩, hy, p, rfl, h3⟩
  case hk =>
    rintro i ks u s2 ⟨H', y, J, hy, _⟩
    refine ⟨?_, J.atk⟩
    have h1 := pair_len J.keys
    rw [List.length_take] at h1
    omega
  case put =>
    rintro i ks u s2 ⟨H', y, J, hy, p, rfl, hp'⟩
    obtain ⟨ek, hek⟩ := J.atk
    have sb := Heap.SameBut.update s2.heap kS (Obj.mapSeq (·.push (Value.ref p)))
    obtain ⟨ek2, hek2⟩ : ∃ e, (s2.heap.update kS (Obj.mapSeq (·.push (Value.ref p)))).get? kS = some (seqObj "list" (ks.toArray.push (Value.ref p)) e) := ⟨_, get?_update_seq hek (·.push (Value.ref p))⟩
    have kk : ∀ b o, b ∉ ([kS] : List Addr) → s2.heap.get? b = some o → (s2.heap.update kS (Obj.mapSeq (·.push (Value.ref p)))).get? b = some o := fun b o hb e => (sb.2 b (fun z => hb (by simp [z]))).trans e
    have ekl : ks.toArray.push (Value.ref p) = (ks ++ [Value.ref p]).toArray := by simp
    rw [ekl] at hek2
    refine ⟨H', J.os, J.bare, un_but J.un (fun b hb => ?_) kk, hok_but J.hok (fun b hb => ?_) kk, J.kt, J.na, J.nk, kk _ _ (by simpa using B.ne.symm) J.ata, ⟨ek2, hek2⟩, (List.getElem?_eq_some_iff.mp hy).1, ?_⟩
    · rw [List.mem_singleton.mp hb]
      exact Heap.get?_none_of_le B.nk
    · rw [List.mem_singleton.mp hb]
      exact J.nk
    · rw [take_next hy]
      exact J.keys.snoc ⟨p, rfl, hp'⟩
  case done =>
    rintro ks s' ⟨H', J⟩
    obtain ⟨ek, hek⟩ := J.atk
    refine ⟨⟨ek, hek⟩, ?_⟩
    have hkl : ks.length = its.length := by
      have h1 := pair_len J.keys
      rw [List.length_take] at h1
      omega
    have hkeys : Paired (fun (u : Value) (y : β) => ∃ p, u = .ref p ∧ H' p = some (.tup (rkW (kf y)))) ks bs := by
      have h1 := J.keys
      rw [List.take_of_length_le (by omega)] at h1
      exact h1
    have hreads : PySem.W.EachIs (fun v d => ∃ as, Reads s'.heap v d as) ks (bs.map fun b => rkD (kf b)) := by
      refine PySem.W.each_map _ ((pair_each hkeys).mono fun u b ⟨p, e, h⟩ => ?_)
      rw [e]
      exact rk_reads J.hok h
    have hu0 : ∀ d, d ∈ bs.map (fun b => rkD (kf b)) → X.A.in1.in1.units + d.depth < cLine := fun d hd => by
      obtain ⟨b, _, rfl⟩ := List.mem_map.mp hd
      have h1 := hr.un
      have h2 : (rkD (kf b)).depth ≤ 2 := by
        unfold rkD
        simp [PyData.depth, PyData.depthAll]
      omega
    refine PySem.W.keyH_end (κ := PySem.W.dataKind s'.heap (bs.map fun b => rkD (kf b))) (h₁ := PySem.W.hideAll s'.heap [kS]) (fun b o hb e => PySem.W.of_hideAll _ e) (PySem.W.hideAll_none _ (List.mem_singleton.mpr rfl)) hek J.ata B.ne (PySem.W.SortsAt.data (by simpa using hreads) (rk_alike kf bs) (rk_sortable kf bs) hu0)
      (by rw [List.size_toArray]; exact hkl) (by rw [hil]; exact Nat.le_trans hlen (by decide)) fun g2 tk c kp hg2 => ⟨rfl, ?_⟩
    have kk : ∀ b o, b ∉ ([a, kS] : List Addr) → s'.heap.get? b = some o → g2.get? b = some o := fun b o hb e =>
      kp b o (fun z => hb (by simp [z])) (PySem.W.hideAll_get _ e fun z => hb (by simp [List.mem_singleton.mp z]))
    have out : PySem.W.KeyedOut false (bs.map fun b => rkD (kf b)) its (PySem.W.sortVals (PySem.W.dataKind s'.heap (bs.map fun b => rkD (kf b))) false ks its) := ⟨s'.heap, ks, rk_alike kf bs, rfl, hreads⟩
    have hEo := PySem.W.keyedOut_each (fun b => rkD (kf b)) out hE
    rw [rk_order] at hEo
    obtain ⟨ys, rys, pys⟩ := each_vals hEo
    have hyl : ys.length ≤ 1000 := by
      rw [pair_len pys, List.length_mergeSort]
      exact hlen
    have Iend := inv_end (tk := tk) I J.os J.bare (un_but (B := [a, kS]) J.un (fun b hb => ?_) kk) (hok_but (B := [a, kS]) J.hok (fun b hb => ?_) kk) J.na B.na hg2 (by simpa using rys) hyl
    · exact ⟨.ref a, _, Iend, rfl, hQ a ys _ (J.kt.trans (Kt.new J.na)) (I.hok.fresh B.na) upd_same pys⟩
    · rcases List.mem_cons.mp hb with e | hb
      · rw [e]
        exact Heap.get?_none_of_le B.na
      · rw [List.mem_singleton.mp hb]
        exact Heap.get?_none_of_le B.nk
    · rcases List.mem_cons.mp hb with e | hb
      · rw [e]
        exact J.na
      · rw [List.mem_singleton.mp hb]
        exact J.nk
end
end Rs

/-! # The walk, part 3: eligible_ones -/
namespace Rs
open PySem PySem.Spec PyProof.Rows L2 LamX NdefX
open Su201 (Route)
def tSortLam (K : PySem.W.Frag) (T : List (Addr × Str)) (te tb : TE) (N : List Str) (js : List Nat) : TE := fun σ H Q => te σ H fun v H1 => Tabs T H1 ∧ ∃ (l : Addr) (xs : List V) (bs : List Route) (R : V → Route → Prop) (kf : Route → Nat × Nat × Nat),
  v = .ref l ∧ SqL K H1 l xs ∧ SortAsk K R kf tb N (js.map (slotAt σ)) H1 xs bs ∧ ∀ q ys H', Kt K H1 H' → Nw H1 q → H' q = some (.lst ys) → Paired R ys (bs.mergeSort fun x y => rkLe (kf x) (kf y)) → Q (.ref q) H'
section
variable {X : Cx}
theorem pe_sortLam {e : Expr} {te tb : TE} {params : Arguments} {body : Expr} {scope : Scope} {c P : Addr} {T : List (Addr × Str)} {N fr : List Str} {x : Str} {js : List Nat} {k : Nat} {p pos lpos kpos : Pos} (hg : Gl X "sorted") (hm : X.mg "sorted" = none) (ha : PA X [e] (tCons te tNil))
    (TB : TabB X.base X.mg c P) (hcode : X.env.code = .ref c) (hT : T = [(P, X.env.qual ++ "<lambda>")]) (hTK : T = tE X.K) (hr : Room (k + 2) X.A) (S : NScope N [x] fr scope) (hdef : defaultsOf params X.env = ([], [])) (hnd : ndefB X.env.scope scope fr = true) (hjs : js.map (fun j => X.N[j]?) = fr.map some)
    (hbind : ∀ (q : Str) (cl : List (Str × Addr)) (pm cv ctv u : Value), bindArgs (PySem.W.kla_fn "<lambda>" q params body scope cl pm cv ctv) ⟨[u], []⟩ = pure [(x, u)])
    (hbody : ∀ (f c' : Addr) (A : Around) (s : Shared) (H : Hp), Room k (A.deeper (envF (lamF X params scope c') f s.heap.objs.size)) → PE (ncx CX0 X.prog X.w X.K X.mg X.base N (lamF X params scope c') f A X.stack s H E0) body tb)
    (hst : backTo pos (starEach [e] X.env) = (false, eval e X.env) :: backTo pos (starEach [] X.env) := by rfl) (hpl : (backTo pos (starEach [e] X.env)).any (·.1) = false := by rfl) :
    PE X (.Call (.Name "sorted" p) [e] [⟨some "key", .Lambda params body scope lpos, kpos⟩] pos) (tSortLam X.K T te tb N js) := by
  refine ⟨fun pins s σ H Q I h => ?_⟩
  refine wpAny_Call_Name_kw (ld_blt (u := .builtin "sorted") I hg hm (by decide +kernel) ?_)
  have hr2 : Room (k + 1) X.A.in1.in1 := by
    refine ⟨hr.hd, ?_, ?_⟩
    · have := hr.dp
      show X.A.depth + 3 * (k + 1) + 5 < _
      omega
    · have := hr.un
      show X.A.units + 1 + 1 + 16 * (k + 1) + 200 < _
      omega
  refine PyProof.Rows.callWith_kw (thn (ha.run pos pins s σ H (fun vs H1 => ∃ v, vs = [v] ∧ Tabs T H1 ∧ ∃ (l : Addr) (xs : List V) (bs : List Route) (R : V → Route → Prop) (kf : Route → Nat × Nat × Nat),
    v = .ref l ∧ SqL X.K H1 l xs ∧ SortAsk X.K R kf tb N (js.map (slotAt σ)) H1 xs bs ∧ ∀ q ys H', Kt X.K H1 H' → Nw H1 q → H' q = some (.lst ys) → Paired R ys (bs.mergeSort fun x y => rkLe (kf x) (kf y)) → Q (.ref q) H') I ?_) fun us s1 ⟨vs, H1, I1, r1, q1⟩ => ?_) hst hpl
  · refine (?_ : te σ H _)
    have e1 : (fun (x : V) (H2 : Hp) => tNil σ H2 fun vs H3 => ∃ v, x :: vs = [v] ∧ Tabs T H3 ∧ ∃ (l : Addr) (xs : List V) (bs : List Route) (R : V → Route → Prop) (kf : Route → Nat × Nat × Nat),
        v = .ref l ∧ SqL X.K H3 l xs ∧ SortAsk X.K R kf tb N (js.map (slotAt σ)) H3 xs bs ∧ ∀ q ys H', Kt X.K H3 H' → Nw H3 q → H' q = some (.lst ys) → Paired R ys (bs.mergeSort fun x y => rkLe (kf x) (kf y)) → Q (.ref q) H') =
        fun v H1 => Tabs T H1 ∧ ∃ (l : Addr) (xs : List V) (bs : List Route) (R : V → Route → Prop) (kf : Route → Nat × Nat × Nat),
        v = .ref l ∧ SqL X.K H1 l xs ∧ SortAsk X.K R kf tb N (js.map (slotAt σ)) H1 xs bs ∧ ∀ q ys H', Kt X.K H1 H' → Nw H1 q → H' q = some (.lst ys) → Paired R ys (bs.mergeSort fun x y => rkLe (kf x) (kf y)) → Q (.ref q) H' := by
      funext v H2
      apply propext
      constructor
      · rintro ⟨v', e, h⟩
        cases e
        exact h
      · intro h
        exact ⟨v, rfl, h⟩
    rw [e1]
    exact h
  · obtain ⟨v, rfl, hTab, l, xs, bs, R, kf, rfl, hS, hask, hQ⟩ := q1
    obtain ⟨u, rfl, ru⟩ := r1.one
    obtain rfl : u = Value.ref l := ru
    have hmT : (P, X.env.qual ++ "<lambda>") ∈ T := by rw [hT]; exact List.mem_singleton.mpr rfl
    have huT : ∀ p ∈ T, p.1 = P → p.2 = X.env.qual ++ "<lambda>" := fun p hp _ => by
      rw [hT] at hp
      rw [List.mem_singleton.mp hp]
    have hfree : ∀ y ∈ scope.names, y.2 = .free → ∃ c, X.env.cells.lookup y.1 = some c := fun y hy e => (ndef_free hnd y hy e).elim (fun z => I1.ok.has _ (.inl z)) fun z => I1.ok.has _ (.inr z)
    show wpAny _ _ (evalAll ((do let v ← eval (.Lambda params body scope lpos) X.env; standAt pos; pure v) :: [])) _ _ s1
    refine wpAny_evalAll_cons (wpAny_bind (lam_make2 I1 TB hcode hmT huT hTab hdef hfree fun f c' pm ctv H2 s2 I2 eN T2 hf hfn hfr hco => wpAny_bind (wpAny_standAt (wpAny_pure (wpAny_evalAll_nil ?_)))))
    have k12 : Kt X.K H1 H2 := ⟨eN, fun _ => by rw [← hTK]; exact T2⟩
    have hcp : X.Ok → Caps X (cloFrom X.env.cells scope.names []) fr js := fun ok => Caps.made ok (ndef_free hnd) (ndef_fr hnd) hjs
    refine sort_lam (bs := bs) (R := R) (kf := kf) (fr := fr) (ws := js.map (slotAt σ)) I2 hr2 S hf hfn hfr hco (fun I' => cells_of I' (hcp I'.ok)) (fun u => hbind _ _ _ _ _ u) (fun A s H hr' => hbody f c' A s H hr') (k12.seq hS) ?_ fun q ys H' k' n' h1 h2 => hQ q ys H' (k12.trans k') (Nw.back k12 (.of n')) h1 h2
    exact ⟨hask.1, hask.2.1, fun x b hR hb H3 Q3 k3 h3 => hask.2.2 x b hR hb H3 Q3 (k12.trans k3) h3⟩
end
end Rs

/-! # The walk, part 4: eligible_ones -/
namespace Rs
open PySem PySem.Spec PyProof.Rows L2 LamX NdefX
open Su201 (Route)
theorem RtAt.upd {H : Hp} {a p : Addr} {r : Route} {o : HO} {xs : List V} (h : RtAt H a r) (hp : H p = some (.lst xs)) : RtAt (L2.upd H p o) a r := by
  obtain ⟨q, h1, h2⟩ := h
  exact ⟨q, by rw [upd_ne (ne_of h1 hp (by intro z; cases z))]; exact h1, by rw [upd_ne (ne_of h2 hp (by intro z; cases z))]; exact h2⟩
theorem eqv_pair (a b c d : Nat) : PyData.eqv (.tuple [.int (a : Int), .int (b : Int)]) (.tuple [.int (c : Int), .int (d : Int)]) = (a == c && b == d) := by
  simp only [PyData.eqv, PyData.eqvAll, Bool.and_true]
  rw [Bool.eq_iff_iff, Bool.and_eq_true, Bool.and_eq_true, beq_iff_eq, beq_iff_eq, beq_iff_eq, beq_iff_eq]
  omega
theorem dp_pair {K : PySem.W.Frag} {H : Hp} {p : Addr} {a b : Nat} (h : H p = some (.tup [.int (a : Int), .int (b : Int)])) : Dp K H (.ref p) (.tuple [.int (a : Int), .int (b : Int)]) := .tup (SqT.of h) (.cons (.int _) (.cons (.int _) .nil))
theorem sh_pair (a b : Int) : SeqAt.shaped (.tuple [.int a, .int b]) = true := by
  first
    | rfl
    | simp [SeqAt.shaped]
    | decide
section
variable {K : PySem.W.Frag} {σ : L2.St} {H1 : Hp} {l D : Addr} {as : List Addr} {rs : List Route}
theorem pair_memR {α β : Type} {F : α → β → Prop} {l : List α} {r : List β} {i : Nat} {a : α} {b : β} (h : Paired F l r) (ha : l[i]? = some a) (hb : r[i]? = some b) : F a b := by
  obtain ⟨b', e, f⟩ := pair_getL h ha
  rw [hb] at e
  cases e
  exact f
/-- [x for x in a list of routes if ..] -/
theorem lc_filter {j : Nat} {tt : TT} {Qd : Hp → Prop} (L : LsAt H1 l as rs) (hD : H1 D = none) (hn : rs.length < 100000) (t : Route → Bool) (hw : ∀ v, wipe ((wipe σ [j]).set j (some v)) [j] = wipe σ [j]) (hj : ∀ v, ((wipe σ [j]).set j (some v))[j]? = some (some v))
    (ht : ∀ H a r (Q : Bool → Hp → Prop), Kt K H1 H → RtAt H a r → r ∈ rs → (∀ H', Kt K H H' → Q (t r) H') → tt ((wipe σ [j]).set j (some (.ref a))) H Q)
    (hd : ∀ H bs, Kt K H1 H → LsAt H D bs (rs.filter t) → Qd H) :
    ∃ V0 : Nat → Nat → Hp → Prop, (∃ left, V0 0 left (upd H1 D (.lst []))) ∧ ∀ i left G0, V0 i left G0 →
      ((Itl K l).stop i G0 ∧ Qd G0) ∨ ((Itl K l).go i G0 ∧ ∃ More : Hp → Prop, (∀ G1, More G1 → ∃ less, less < left ∧ V0 (i + 1) less G1) ∧ ∀ x G1, (Itl K l).yld i G0 x G1 → gName j x (wipe σ [j]) G1 fun τ G2 => wipe τ [j] = wipe σ [j] ∧ tt τ G2 fun b G3 =>
        if b = true then tVar j τ G3 fun y G4 => ∃ made, G4 D = some (.lst made) ∧ made.length < sizeLine ∧ More (upd G4 D (.lst (made ++ [y]))) else More G3) := by
  have hlen := pair_len L.all
  refine lc_w (K := K) (n := (as.map V.ref).length) walk_list hD (by rw [List.length_map, hlen]; exact hn) (fun i H acc => ∃ bs : List Addr, acc = bs.map V.ref ∧ Paired (RtAt H) bs ((rs.take i).filter t)) (fun H k => SqL.of (k.lst L.at_)) ⟨[], rfl, .nil⟩ ?_ ?_ ?_ ?_
  · rintro i H acc ⟨bs, rfl, hp⟩
    have h1 := pair_len hp
    have h2 := List.length_filter_le t (rs.take i)
    rw [List.length_take] at h2
    rw [List.length_map]
    omega
  · rintro i H acc acc' o ⟨bs, rfl, hp⟩ hacc
    exact ⟨bs, rfl, pair_mono hp fun a r h => h.upd hacc⟩
  · rintro i x H H' acc hi k hacc ⟨bs, rfl, hp⟩ ⟨rfl, hx⟩ N1 N0 h1 h0
    rw [List.getElem?_map] at hx
    cases e : as[i]? with
    | none =>
      rw [e] at hx
      cases hx
    | some a =>
      rw [e] at hx
      obtain rfl : V.ref a = x := Option.some.inj hx
      obtain ⟨r, hr, hR⟩ := pair_getL L.all e
      have hR' := hR.keep k
      have hmem := List.mem_of_getElem? hr
      refine ⟨hw _, ht _ a r _ k hR' hmem fun H3 k3 => ?_⟩
      have etake : (rs.take (i + 1)).filter t = (rs.take i).filter t ++ (if t r = true then [r] else []) := by
        rw [take_next hr, List.filter_append]
        congr 1
        cases e2 : t r with
        | true => rw [if_pos rfl, List.filter_cons, if_pos e2, List.filter_nil]
        | false => rw [if_neg Bool.false_ne_true, List.filter_cons, if_neg (by rw [e2]; exact Bool.false_ne_true), List.filter_nil]
      have hp3 := pair_mono hp fun a r h => h.keep k3
      cases e2 : t r with
      | true =>
        rw [if_pos rfl]
        rw [e2, if_pos rfl] at etake
        refine ⟨.ref a, hj _, h1 _ _ k3 ⟨bs ++ [a], by rw [List.map_append]; rfl, ?_⟩⟩
        rw [etake]
        exact pair_app hp3 (.cons (hR'.keep k3) .nil)
      | false =>
        rw [if_neg Bool.false_ne_true]
        rw [e2, if_neg Bool.false_ne_true, List.append_nil] at etake
        refine h0 _ k3 ⟨bs, rfl, ?_⟩
        rw [etake]
        exact hp3
  · rintro H acc k hacc ⟨bs, rfl, hp⟩
    rw [List.length_map, hlen, List.take_length] at hp
    exact hd H bs k ⟨hacc, hp⟩
end
theorem pair_refs {H : Hp} : ∀ {ys : List V} {rs : List Route}, Paired (fun v r => ∃ a, v = V.ref a ∧ RtAt H a r) ys rs → ∃ bs : List Addr, ys = bs.map V.ref ∧ Paired (RtAt H) bs rs
  | _, _, .nil => ⟨[], rfl, .nil⟩
  | _, _, .cons ⟨a, e, h⟩ t => by
    obtain ⟨bs, e2, h2⟩ := pair_refs t
    exact ⟨a :: bs, by rw [e, e2]; rfl, .cons h h2⟩
theorem refs_pair {H : Hp} : ∀ {bs : List Addr} {rs : List Route}, Paired (RtAt H) bs rs → Paired (fun v r => ∃ a, v = V.ref a ∧ RtAt H a r) (bs.map V.ref) rs
  | _, _, .nil => .nil
  | _, _, .cons h t => .cons ⟨_, rfl, h⟩ (refs_pair t)
section
variable {K : PySem.W.Frag} {mg : Str → Option Value} {base : Heap} {P : Program} {w : World}
theorem sc22 : FnScope ["server", "routes", "member", "prefix", "same", "route", "found"] ["server", "routes", "member", "prefix"] (defScope (top 22)) := ⟨rfl, rfl, rfl, by decide +kernel, rfl, by decide +kernel, by decide +kernel⟩
structure ElArg (K : PySem.W.Frag) (H : Hp) (s rl pf : Addr) (k a l : Nat) (m : M) (z : SA) (as : List Addr) (rs : List Route) : Prop where
  sv : SvAt K H s m z
  wf : Wf m
  ls : LsAt H rl as rs
  ann : ∀ r ∈ rs, r.announcer < m.num
  few : rs.length ≤ 20
  mem : k < m.num
  pfx : H pf = some (.tup [.int (a : Int), .int (l : Int)])
  tabs : Tabs (tE K) H
def spEligibleOnes (K : PySem.W.Frag) : Sp := fun vs H Q _ => ∃ (s rl pf : Addr) (k a l : Nat) (m : M) (z : SA) (as : List Addr) (rs : List Route), vs = [.ref s, .ref rl, .int k, .ref pf] ∧ ElArg K H s rl pf k a l m z as rs ∧
  ∀ q bs H', Kt K H H' → Nw H q → LsAt H' q bs (eligs m rs k a l) → Q (.ref q) H'
/-- the lambda's parts -/
def lamE : Expr := match (defBody (top 22)).getD 2 (.Pass ⟨0, 0, 0, 0⟩) with
  | .Return (some (.Call _ _ (kw :: _) _)) _ => kw.value
  | _ => .Constant .none 0 ⟨0, 0, 0, 0⟩
def lamArgs : Arguments := match lamE with
  | .Lambda a _ _ _ => a
  | _ => { posonlyargs := [], args := [], vararg := none, kwonlyargs := [], kw_defaults := [], kwarg := none, defaults := [] }
def lamScope : Scope := match lamE with
  | .Lambda _ _ s _ => s
  | _ => { kind := .function, names := [], isGenerator := false, isCoroutine := false }
theorem scLam : NScope ["route", "server", "member"] ["route"] ["server", "member"] lamScope := nscope_by (by decide +kernel)
theorem ndE : ndefB (defScope (top 22)) lamScope ["server", "member"] = true := by decide +kernel
theorem ok_eligible_ones (T : Tx K mg base) : OkD P w K mg base 6 (ga K "eligible_ones") ["server", "routes", "member", "prefix"] (spEligibleOnes K) := by
  obtain ⟨fd, F⟩ : ∃ fd, FunD K "eligible_ones" "eligible_ones" (defArgs (top 22)) (defBody (top 22)) (defScope (top 22)) [] [] (ga K "eligible_ones") fd := T.fn 4 _ rfl
  obtain ⟨_, G_is_eligible, b_is_eligible, k_is_eligible⟩ := ok_is_eligible (P := P) (w := w) T
  obtain ⟨_, G_rank, b_rank, k_rank⟩ := ok_rank (P := P) (w := w) T
  refine okD_mk F ?_ (fun _ _ _ _ _ _ us hl => match us, hl with | [_, _, _, _], _ => rfl)
  obtain ⟨oc, od, dV, kV, doc, pm, an, cdv, ct, osl, rfl, lk, hcd, _, _⟩ := F.ex
  have hcdv : cdv = .ref (cdE K) := by
    obtain ⟨oc', od', fd', osl', h1, h2⟩ := T.cdf
    rw [lk] at h1
    cases h1
    exact h2
  subst hcdv
  refine fn_of lk hcd sc22 (fun vs H Q E h => ?_) (fun A outer s H vs Q E hr h => ?_)
  · obtain ⟨_, _, _, _, _, _, _, _, _, _, rfl, _⟩ := h
    rfl
  · obtain ⟨sv, rl, pf, k, a, l, m, z, as, rs, rfl, E0', q⟩ := h
    have hr1 : Room 1 _ := hr.mono (by decide)
    refine ⟨_, PSs.nox (pss_cons (ps_setLc (i := 4) (own := [("route", 5)]) (tt := tTest (tOp (rEqD K) (tSl (rSlT K) (tVar 5) (tPart (tC (.int 1))) (tPart (tC (.int 3)))) (tVar 3))) (te := tVar 5) rfl sc22.nd rfl rfl (sw_true rfl rfl rfl (by decide +kernel)) (pi_list (pv 1)) (blkOk_by (N := ["server", "routes", "member", "prefix", "same", "route", "found"]) (sc := defScope (top 22)) (by decide +kernel)) (fun _ _ _ _ _ => (pg_name (i := 5) sc22.nd rfl (Or.inl rfl))) (fun _ _ _ _ _ => pts_one (pt_cmpR (op_eqD hr1.units) (pe_slice sl_tup (pv 5) (po_some pe_int) (po_some pe_int)) (pv 3) (nomark _))) (fun _ _ _ _ _ => (pv 5)))
      (pss_cons (ps_setLc (i := 6) (own := [("route", 5)]) (tt := tB (tCall (spIsEligible K) [] E0 (tCons (tVar 0) (tCons (tVar 5) (tCons (tVar 2) tNil))))) (te := tVar 5) rfl sc22.nd rfl rfl (sw_true rfl rfl rfl (by decide +kernel)) (pi_list (pv 4)) (blkOk_by (N := ["server", "routes", "member", "prefix", "same", "route", "found"]) (sc := defScope (top 22)) (by decide +kernel)) (fun _ _ _ _ _ => (pg_name (i := 5) sc22.nd rfl (Or.inl rfl))) (fun _ _ _ _ _ => pts_one (pt_val (pe_call G_is_eligible hr1 (by rfl) (T.glo "is_eligible" (by decide +kernel)) k_is_eligible b_is_eligible .nil pass0 (pa_cons (pv 0) (pa_cons (pv 5) (pa_cons (pv 2) pa_nil)))))) (fun _ _ _ _ _ => (pv 5)))
      (pss_one (ps_ret (pe_sortLam (N := ["route", "server", "member"]) (fr := ["server", "member"]) (js := [0, 2]) (k := 2) (T := tE K) (by rfl) (T.free "sorted" (by decide +kernel)) (pa_cons (pv 6) pa_nil) T.tab rfl rfl rfl (hr.mono (by decide)) scLam rfl ndE rfl (fun _ _ _ _ _ _ => rfl)
        (fun f c' A s H hr' => pe_call G_rank (hr'.mono (by decide)) (by rfl) (T.glo "rank" (by decide +kernel)) k_rank b_rank .nil pass0 (pa_cons (pv 1) (pa_cons (pv 0) (pa_cons (pv 2) pa_nil))))))))), ?_⟩
    refine ⟨_, rfl, rl, rfl, ⟨_, SqL.of E0'.ls.at_⟩, fun D hD => lc_filter E0'.ls hD (by have := E0'.few; omega) (isTo a l) (fun _ => rfl) (fun _ => rfl) (fun H1 a1 r Q1 k1 R1 hr cont => ?_) fun H1 bs1 k1 L1 => ?_⟩
    · refine sl_route R1 (pu_var rfl) fun p hp => ?_
      refine ⟨_, rfl, _, _, dp_pair upd_same, dp_pair ((Kt.new (K := K) hp).tup (k1.tup E0'.pfx)), sh_pair _ _, sh_pair _ _, _, rfl, ?_⟩
      rw [eqv_pair]
      exact cont _ (Kt.new hp)
    have hsub : ∀ r ∈ rs.filter (isTo a l), r ∈ rs := fun r h => (List.mem_filter.mp h).1
    have hfew : (rs.filter (isTo a l)).length ≤ 20 := Nat.le_trans (List.length_filter_le _ _) E0'.few
    have S1 := E0'.sv.keep k1
    refine ⟨_, rfl, D, rfl, ⟨_, SqL.of L1.at_⟩, fun D2 hD2 => lc_filter L1 hD2 (by omega) (elig m k) (fun _ => rfl) (fun _ => rfl) (fun H2 a1 r Q1 k2 R1 hr cont => ?_) fun H2 bs2 k2 L2 => ?_⟩
    · refine call_of (pa_c (pu_var rfl) (pa_c (pu_var rfl) (pa_c (pu_var rfl) pa_n))) ⟨sv, a1, k, m, z, r, rfl, S1.keep k2, E0'.wf, R1, E0'.ann r (hsub r hr), E0'.mem, _, rfl, cont _ (Kt.refl _)⟩
    have k12 := k1.trans k2
    refine ⟨_, rfl, k12.tb E0'.tabs, D2, bs2.map V.ref, _, (fun v r => ∃ a, v = V.ref a ∧ RtAt H2 a r), rank m k, rfl, SqL.of L2.at_, ⟨refs_pair L2.all, ?_, fun x b hR hb H3 Q3 k3 cont => ?_⟩, fun q2 ys H' k' n' hq hp => ?_⟩
    · have := List.length_filter_le (elig m k) (rs.filter (isTo a l))
      omega
    · obtain ⟨ra, rfl, hR⟩ := hR
      exact call_of (pa_c (pu_var rfl) (pa_c (pu_var rfl) (pa_c (pu_var rfl) pa_n))) ⟨sv, ra, k, m, z, b, rfl, S1.keep (k2.trans k3), E0'.wf, hR.keep k3, E0'.ann b (hsub b (List.mem_filter.mp hb).1), E0'.mem, fun p hp => cont p _ (Kt.new hp) upd_same⟩
    · obtain ⟨bs3, rfl, h3⟩ := pair_refs hp
      exact q q2 bs3 H' (k12.trans k') (Nw.back k12 n') ⟨hq, pair_mono h3 fun _ _ h => h.keep k'⟩
end
end Rs

/-! # The walk, part 5: prefixes_of, table_of, tables_of -/
namespace Rs
open PySem PySem.Spec PyProof.Rows L2 LamX NdefX
open Su201 (Route)
def PrAt (H : Hp) (a : Addr) (y : Nat × Nat) : Prop := H a = some (.tup [.int (y.1 : Int), .int (y.2 : Int)])
structure PfAt (H : Hp) (l : Addr) (as : List Addr) (ys : List (Nat × Nat)) : Prop where
  at_ : H l = some (.lst (as.map V.ref))
  all : Paired (PrAt H) as ys
theorem PrAt.upd {H : Hp} {a p : Addr} {y : Nat × Nat} {o : HO} {xs : List V} (h : PrAt H a y) (hp : H p = some (.lst xs)) : PrAt (L2.upd H p o) a y := (upd_ne (ne_of h hp (by intro z; cases z))).trans h
def encP (y : Nat × Nat) : List Int := [(y.1 : Int), (y.2 : Int)]
def decP (l : List Int) : Nat × Nat := ((l.getD 0 0).toNat, (l.getD 1 0).toNat)
theorem dec_enc (y : Nat × Nat) : decP (encP y) = y := by
  obtain ⟨a, b⟩ := y
  show (((a : Int)).toNat, ((b : Int)).toNat) = (a, b)
  rw [Int.toNat_natCast, Int.toNat_natCast]
theorem pf_pairs {H : Hp} : ∀ {bs : List Addr} {ys : List (Nat × Nat)}, Paired (PrAt H) bs ys → ∃ ks : List (Addr × List Int), ks.map (·.1) = bs ∧ ks.map (·.2) = ys.map encP ∧ ∀ p ∈ ks, H p.1 = some (.tup (p.2.map V.int))
  | _, _, .nil => ⟨[], rfl, rfl, fun p h => by cases h⟩
  | _, _, .cons (a := a) (b := y) h t => by
    obtain ⟨ks, h1, h2, h3⟩ := pf_pairs t
    refine ⟨(a, encP y) :: ks, by rw [List.map_cons, h1], by rw [List.map_cons, List.map_cons, h2], fun p hp => ?_⟩
    rcases List.mem_cons.mp hp with rfl | hp
    · exact h
    · exact h3 p hp
theorem pairs_pf {H : Hp} : ∀ {ks : List (Addr × List Int)}, (∀ p ∈ ks, H p.1 = some (.tup (p.2.map V.int)) ∧ ∃ y, p.2 = encP y) → Paired (PrAt H) (ks.map (·.1)) (ks.map fun p => decP p.2)
  | [], _ => .nil
  | p :: ks, h => by
    obtain ⟨h1, y, h2⟩ := h p List.mem_cons_self
    refine .cons ?_ (pairs_pf fun q hq => h q (List.mem_cons_of_mem _ hq))
    show PrAt H p.1 (decP p.2)
    rw [h2, dec_enc]
    rw [h2] at h1
    exact h1
section
variable {K : PySem.W.Frag} {mg : Str → Option Value} {base : Heap} {P : Program} {w : World}
theorem sc23 : FnScope ["routes", "route"] ["routes"] (defScope (top 23)) := ⟨rfl, rfl, rfl, by decide +kernel, rfl, by decide +kernel, by decide +kernel⟩
def spPrefixesOf (K : PySem.W.Frag) : Sp := fun vs H Q _ => ∃ (rl : Addr) (as : List Addr) (rs : List Route), vs = [.ref rl] ∧ LsAt H rl as rs ∧ rs.length ≤ 20 ∧ (∀ r ∈ rs, Su201.isPrefix r.address r.length = true) ∧
  ∀ q bs H', Kt K H H' → Nw H q → PfAt H' q bs (pfxs rs) → Q (.ref q) H'
theorem pfx_bd {a l : Nat} (h : Su201.isPrefix a l = true) : a < 256 ∧ l ≤ 8 := by
  unfold Su201.isPrefix Su201.addressBits at h
  rw [Bool.and_eq_true, Bool.and_eq_true, decide_eq_true_eq, decide_eq_true_eq] at h
  exact ⟨h.2.1, h.1⟩
theorem code_256 (y : Nat × Nat) : TS.code 256 (encP y) = (y.1 : Int) * 256 + y.2 := by
  have e1 : (256 : Int) ^ 1 = 256 := by decide
  have e0 : (256 : Int) ^ 0 = 1 := by decide
  show (y.1 : Int) * 256 ^ 1 + ((y.2 : Int) * 256 ^ 0 + 0) = _
  rw [e1, e0, Int.mul_one, Int.add_zero]
theorem ok_prefixes_of (T : Tx K mg base) : OkD P w K mg base 1 (ga K "prefixes_of") ["routes"] (spPrefixesOf K) := by
  obtain ⟨fd, F⟩ : ∃ fd, FunD K "prefixes_of" "prefixes_of" (defArgs (top 23)) (defBody (top 23)) (defScope (top 23)) [] [] (ga K "prefixes_of") fd := T.fn 5 _ rfl
  refine okD_mk F (F.ok sc23 (fun vs H Q E h => ?_) (fun cdv A outer s H vs Q E hr h => ?_)) (fun _ _ _ _ _ _ us hl => match us, hl with | [_], _ => rfl)
  · obtain ⟨_, _, _, rfl, _⟩ := h
    rfl
  · obtain ⟨rl, as, rs, rfl, L, few, pfx, q⟩ := h
    refine ⟨_, PSs.nox (pss_one (ps_ret (pe_callB (cr_sortedT rfl) (by rfl) (T.free "sorted" (by decide +kernel)) (by decide +kernel) (pa_cons (pe_callTy (cr_setOfT rfl hr.units) (by rfl) (T.free "set" (by decide +kernel)) (by decide +kernel) (pa_cons (pe_lc (own := [("route", 1)]) (te := tSl (rSlT K) (tVar 1) (tPart (tC (.int 1))) (tPart (tC (.int 3)))) (tt := tYes) rfl sc23.nd (pi_list (pv 0)) (blkOk_by (N := ["routes", "route"]) (sc := defScope (top 23)) (by decide +kernel)) (fun _ _ _ _ _ => (pg_name (i := 1) sc23.nd rfl (Or.inl rfl))) (fun _ _ _ _ _ => pts_nil) (fun _ _ _ _ _ => (pe_slice sl_tup (pv 1) (po_some pe_int) (po_some pe_int)))) pa_nil)) pa_nil)))), ?_⟩
    have hlen := pair_len L.all
    refine ⟨_, rfl, rl, rfl, ⟨_, SqL.of L.at_⟩, fun D hD => lc_w (K := K) (n := (as.map V.ref).length) walk_list hD (by rw [List.length_map]; omega) (fun i H acc => ∃ bs : List Addr, acc = bs.map V.ref ∧ Paired (PrAt H) bs ((rs.take i).map fun r => (r.address, r.length)))
      (fun H k => SqL.of (k.lst L.at_)) ⟨[], rfl, .nil⟩ ?_ ?_ ?_ ?_⟩
    · rintro i H acc ⟨bs, rfl, hp⟩
      have h1 := pair_len hp
      rw [List.length_map, List.length_take] at h1
      rw [List.length_map]
      omega
    · rintro i H acc acc' o ⟨bs, rfl, hp⟩ hacc
      exact ⟨bs, rfl, pair_mono hp fun a y h => h.upd hacc⟩
    · rintro i x H1 H' acc hi k hacc ⟨bs, rfl, hp⟩ ⟨rfl, hx⟩ N1 N0 h1 h0
      rw [List.getElem?_map] at hx
      cases e : as[i]? with
      | none =>
        rw [e] at hx
        cases hx
      | some a =>
        rw [e] at hx
        obtain rfl : V.ref a = x := Option.some.inj hx
        obtain ⟨r, hr, hR⟩ := pair_getL L.all e
        refine ⟨rfl, iteT (B := N0 H') (sl_route (hR.keep k) (pu_var rfl) fun p hp2 => h1 _ _ (Kt.new hp2) ⟨bs ++ [p], by rw [List.map_append]; rfl, ?_⟩)⟩
        rw [take_next hr, List.map_append]
        exact pair_app (pair_mono hp fun a y h => (Kt.new (K := K) hp2).tup h) (.cons upd_same .nil)
    · rintro H1 acc k hacc ⟨bs, rfl, hp⟩
      rw [List.length_map, hlen, List.take_length] at hp
      obtain ⟨ks, e1, e2, hk⟩ := pf_pairs hp
      have hkl : ks.length = rs.length := by
        have h1 := congrArg List.length e2
        rw [List.length_map, List.length_map, List.length_map] at h1
        exact h1
      have hks : ∀ p ∈ ks, ∃ r ∈ rs, p.2 = encP (r.address, r.length) := fun p hp => by
        have h1 : p.2 ∈ ks.map (·.2) := List.mem_map_of_mem hp
        rw [e2, List.map_map] at h1
        obtain ⟨r, hr, h2⟩ := List.mem_map.mp h1
        exact ⟨r, hr, h2.symm⟩
      refine ⟨D, ks, rfl, SqL.of ?_, fun p hp => SqT.of (hk p hp), by omega, fun a2 L2 ha2 sub all => ?_⟩
      · rw [hacc, ← e1, List.map_map]
        rfl
      · have k2 : Kt K H1 (upd H1 a2 (SetTO P w a2 L2)) := Kt.new ha2
        refine ⟨a2, L2, 2, 256, rfl, upd_same, fun p hp => SqT.of (k2.tup (hk p (sub p hp))), by decide, fun p hp => ?_, fun L3 p3 perm nd few3 pw hp3 => ?_⟩
        · obtain ⟨r, hr, e⟩ := hks p (sub p hp)
          obtain ⟨b1, b2⟩ := pfx_bd (pfx r hr)
          rw [e]
          refine ⟨rfl, fun m hm => ?_⟩
          have hm' : m = (r.address : Int) ∨ m = (r.length : Int) := by simpa [encP] using hm
          omega
        · have hin : ∀ p ∈ L3, p ∈ ks := fun p hp => sub p (perm.mem_iff.mp hp)
          have henc : ∀ p ∈ L3, ∃ r ∈ rs, p.2 = encP (r.address, r.length) := fun p hp => hks p (hin p hp)
          have e : L3.map (fun p => decP p.2) = pfxs rs := by
            refine pfxs_only ?_ ?_ fun y => ⟨fun hy => ?_, fun hy => ?_⟩
            · rw [List.pairwise_map]
              refine List.Pairwise.imp_of_mem ?_ pw
              intro p p' hp hp' hle
              obtain ⟨r, hr, e⟩ := henc p hp
              obtain ⟨r', hr', e'⟩ := henc p' hp'
              rw [e, e', code_256, code_256] at hle
              rw [e, e', dec_enc, dec_enc]
              obtain ⟨b1, b2⟩ := pfx_bd (pfx r hr)
              obtain ⟨b3, b4⟩ := pfx_bd (pfx r' hr')
              dsimp only at hle
              unfold pLt
              dsimp only
              by_cases c : r.address = r'.address ∧ r.length = r'.length
              · rw [c.1, c.2]
                exact .inr rfl
              · refine .inl ?_
                omega
            · have h1 : (L3.map (·.2)).Nodup := nd
              have h2 : L3.map (fun p => decP p.2) = (L3.map (·.2)).map decP := by rw [List.map_map]; rfl
              rw [h2]
              refine List.Pairwise.map _ (fun _ _ h => h) ?_
              refine List.Pairwise.imp_of_mem ?_ h1
              intro x x' hx hx' hne heq
              obtain ⟨p, hp, rfl⟩ := List.mem_map.mp hx
              obtain ⟨p', hp', rfl⟩ := List.mem_map.mp hx'
              obtain ⟨r, hr, e⟩ := henc p hp
              obtain ⟨r', hr', e'⟩ := henc p' hp'
              rw [e, e', dec_enc, dec_enc] at heq
              rw [e, e', heq] at hne
              exact hne rfl
            · obtain ⟨p, hp, rfl⟩ := List.mem_map.mp hy
              obtain ⟨r, hr, e⟩ := henc p hp
              rw [e, dec_enc]
              exact ⟨r, hr, rfl⟩
            · obtain ⟨r, hr, rfl⟩ := hy
              have h1 : encP (r.address, r.length) ∈ ks.map (·.2) := by
                rw [e2, List.map_map]
                exact List.mem_map.mpr ⟨r, hr, rfl⟩
              obtain ⟨p, hp, h2⟩ := List.mem_map.mp h1
              obtain ⟨p2, hp2, h3⟩ := List.mem_map.mp (all p hp)
              refine List.mem_map.mpr ⟨p2, perm.mem_iff.mpr hp2, ?_⟩
              rw [h3, h2, dec_enc]
          have k3 : Kt K (upd H1 a2 (SetTO P w a2 L2)) (upd (upd H1 a2 (SetTO P w a2 L2)) p3 (.lst (L3.map fun q => V.ref q.1))) := Kt.new hp3
          refine q p3 (L3.map (·.1)) _ (k.trans (k2.trans k3)) (Nw.back (k.trans k2) (.of hp3)) ⟨?_, ?_⟩
          · rw [upd_same, List.map_map]
            rfl
          · rw [← e]
            refine pairs_pf fun p hp => ?_
            obtain ⟨r, hr, e⟩ := henc p hp
            exact ⟨(k2.trans k3).tup (hk p (hin p hp)), _, e⟩
end
end Rs

/-! # The walk, part 6: lists of routes as data; table_of -/
namespace Rs
open PySem PySem.Spec PyProof.Rows L2 LamX NdefX
open Su201 (Route)
/-! ## routes as data -/
def dN (l : List Nat) : List PyData := l.map fun (x : Nat) => PyData.int (x : Int)
def dR (r : Route) : PyData := .tuple [.int (r.announcer : Int), .int (r.address : Int), .int (r.length : Int), .tuple (dN r.asPath)]
def dL (rs : List Route) : PyData := .list (rs.map dR)
theorem dN_all : ∀ l : List Nat, PyData.canLayAll0 (dN l) = true ∧ PyData.depthAll (dN l) ≤ 1
  | [] => ⟨rfl, by simp [dN, PyData.depthAll]⟩
  | x :: l => by
    obtain ⟨h1, h2⟩ := dN_all l
    refine ⟨?_, ?_⟩
    · show (PyData.canLay0 (.int (x : Int)) && PyData.canLayAll0 (dN l)) = true
      rw [h1]
      rfl
    · show PyData.depthAll (PyData.int (x : Int) :: dN l) ≤ 1
      simp only [PyData.depthAll, PyData.depth]
      omega
theorem dR_ok (r : Route) : (dR r).canLay0 = true ∧ (dR r).depth ≤ 4 := by
  obtain ⟨h1, h2⟩ := dN_all r.asPath
  refine ⟨?_, ?_⟩
  · unfold dR
    simp only [PyData.canLay0, PyData.canLayAll0, h1, Bool.and_self]
  · unfold dR
    simp only [PyData.depth, PyData.depthAll]
    omega
theorem dRs_ok : ∀ rs : List Route, PyData.canLayAll0 (rs.map dR) = true ∧ PyData.depthAll (rs.map dR) ≤ 5
  | [] => ⟨rfl, by simp [PyData.depthAll]⟩
  | r :: rs => by
    obtain ⟨h1, h2⟩ := dRs_ok rs
    obtain ⟨h3, h4⟩ := dR_ok r
    refine ⟨?_, ?_⟩
    · show (PyData.canLay0 (dR r) && PyData.canLayAll0 (rs.map dR)) = true
      rw [h1, h3]
      rfl
    · show PyData.depthAll (dR r :: rs.map dR) ≤ 5
      simp only [PyData.depthAll]
      omega
theorem dL_shaped (rs : List Route) : SeqAt.shaped (dL rs) = true := by
  obtain ⟨h1, h2⟩ := dRs_ok rs
  unfold SeqAt.shaped dL
  rw [Bool.and_eq_true, decide_eq_true_eq]
  refine ⟨by simp only [PyData.canLay0]; exact h1, ?_⟩
  simp only [PyData.depth]
  omega
theorem dN_eqv : ∀ a b : List Nat, PyData.eqvAll (dN a) (dN b) = (a == b)
  | [], [] => by simp [dN, PyData.eqvAll]
  | [], y :: b => by simp [dN, PyData.eqvAll]
  | x :: a, [] => by simp [dN, PyData.eqvAll]
  | x :: a, y :: b => by
    show (PyData.eqv (.int (x : Int)) (.int (y : Int)) && PyData.eqvAll (dN a) (dN b)) = _
    rw [dN_eqv a b]
    simp only [PyData.eqv]
    rw [Bool.eq_iff_iff, Bool.and_eq_true, beq_iff_eq, beq_iff_eq, beq_iff_eq, List.cons.injEq]
    constructor
    · rintro ⟨h1, h2⟩
      exact ⟨by omega, h2⟩
    · rintro ⟨h1, h2⟩
      exact ⟨by omega, h2⟩
theorem dR_eqv (a b : Route) : PyData.eqv (dR a) (dR b) = (a == b) := by
  unfold dR
  simp only [PyData.eqv, PyData.eqvAll, Bool.and_true, dN_eqv]
  obtain ⟨a1, a2, a3, a4⟩ := a
  obtain ⟨b1, b2, b3, b4⟩ := b
  rw [Bool.eq_iff_iff]
  simp only [Bool.and_eq_true, beq_iff_eq, Route.mk.injEq]
  constructor
  · rintro ⟨h1, h2, h3, h4⟩
    exact ⟨by omega, by omega, by omega, h4⟩
  · rintro ⟨h1, h2, h3, h4⟩
    exact ⟨by omega, by omega, by omega, h4⟩
theorem dRs_eqv : ∀ a b : List Route, PyData.eqvAll (a.map dR) (b.map dR) = (a == b)
  | [], [] => by simp [PyData.eqvAll]
  | [], y :: b => by simp [PyData.eqvAll]
  | x :: a, [] => by simp [PyData.eqvAll]
  | x :: a, y :: b => by
    show (PyData.eqv (dR x) (dR y) && PyData.eqvAll (a.map dR) (b.map dR)) = _
    rw [dRs_eqv a b, dR_eqv]
    rw [Bool.eq_iff_iff, Bool.and_eq_true, beq_iff_eq, beq_iff_eq, beq_iff_eq, List.cons.injEq]
theorem dL_eqv (a b : List Route) : PyData.eqv (dL a) (dL b) = (a == b) := by
  unfold dL
  simp only [PyData.eqv]
  exact dRs_eqv a b
section
variable {K : PySem.W.Frag} {H H1 : Hp} {σ : L2.St}
theorem dp_nv : ∀ l : List Nat, DpAll K H (nv l) (dN l)
  | [] => .nil
  | x :: l => .cons (.int _) (dp_nv l)
theorem dp_rt {a : Addr} {r : Route} (h : RtAt H a r) : Dp K H (.ref a) (dR r) := by
  obtain ⟨p, h1, h2⟩ := h
  exact .tup (SqT.of h1) (.cons (.int _) (.cons (.int _) (.cons (.int _) (.cons (.tup (SqT.of h2) (dp_nv _)) .nil))))
theorem dp_rts : ∀ {as : List Addr} {rs : List Route}, Paired (RtAt H) as rs → DpAll K H (as.map V.ref) (rs.map dR)
  | _, _, .nil => .nil
  | _, _, .cons h t => .cons (dp_rt h) (dp_rts t)
theorem dp_ls {l : Addr} {as : List Addr} {rs : List Route} (h : LsAt H l as rs) : Dp K H (.ref l) (dL rs) := .lst (SqL.of h.at_) (dp_rts h.all)
/-- some != [] -/
theorem ne_nil_of {te : TE} {l : Addr} {as : List Addr} {rs : List Route} {Q : Bool → Hp → Prop} (h : LsAt H l as rs) (he : Pu te σ H (.ref l)) (q : ∀ H', Kt K H H' → Q (!rs.isEmpty) H') : tTest (tOp (rNeD K) te (tLst tNil)) σ H Q := by
  refine he _ (lst_of pa_n (by decide) fun p hp => ?_)
  refine ⟨_, dL [], dp_ls (h.keep (Kt.new (K := K) hp)), .lst (SqL.of upd_same) .nil, dL_shaped _, dL_shaped _, _, rfl, ?_⟩
  rw [dL_eqv]
  have e : (!(rs == [])) = !rs.isEmpty := by cases rs <;> rfl
  rw [e]
  exact q _ (Kt.new hp)
theorem eq_nil_of {te : TE} {l : Addr} {as : List Addr} {rs : List Route} {Q : Bool → Hp → Prop} (h : LsAt H l as rs) (he : Pu te σ H (.ref l)) (q : ∀ H', Kt K H H' → Q rs.isEmpty H') : tTest (tOp (rEqD K) te (tLst tNil)) σ H Q := by
  refine he _ (lst_of pa_n (by decide) fun p hp => ?_)
  refine ⟨_, dL [], dp_ls (h.keep (Kt.new (K := K) hp)), .lst (SqL.of upd_same) .nil, dL_shaped _, dL_shaped _, _, rfl, ?_⟩
  rw [dL_eqv]
  have e : (rs == []) = rs.isEmpty := by cases rs <;> rfl
  rw [e]
  exact q _ (Kt.new hp)
/-- xs.append(e), e an item that is there -/
theorem app_of {tx te : TE} {l : Addr} {xs : List V} {y : V} {D : Ends} (hx : Pu tx σ H (.ref l)) (hl : H l = some (.lst xs)) (he : Pu te σ H y) (hz : xs.length < 100000) (q : D.nx σ (upd H l (.lst (xs ++ [y])))) : tDrop (tBM K "list" rAppend tx (tCons te tNil)) D σ H :=
  hx _ ⟨.inl ⟨rfl, _, SqL.of hl⟩, he _ ⟨l, xs, y, rfl, rfl, hl, Nat.lt_trans hz (by decide), q⟩⟩
theorem head_at {as : List Addr} {rs : List Route} {r : Route} (h : Paired (RtAt H) as rs) (e : rs.head? = some r) : ∃ a, as[0]? = some a ∧ RtAt H a r := by
  cases h with
  | nil => cases e
  | cons h t =>
    cases e
    exact ⟨_, rfl, h⟩
end
section
variable {K : PySem.W.Frag} {mg : Str → Option Value} {base : Heap} {P : Program} {w : World}
structure TbArg (K : PySem.W.Frag) (H : Hp) (s rl : Addr) (m : M) (z : SA) (as : List Addr) (rs : List Route) : Prop where
  sv : SvAt K H s m z
  wf : Wf m
  ls : LsAt H rl as rs
  ok : RsOk m rs
  few : rs.length ≤ 20
  tabs : Tabs (tE K) H
theorem TbArg.keep {H H' : Hp} (k : Kt K H H') {s rl : Addr} {m : M} {z : SA} {as : List Addr} {rs : List Route} (a : TbArg K H s rl m z as rs) : TbArg K H' s rl m z as rs := ⟨a.sv.keep k, a.wf, a.ls.keep k, a.ok, a.few, k.tb a.tabs⟩
theorem sc24 : FnScope ["server", "routes", "member", "found", "prefix", "some"] ["server", "routes", "member"] (defScope (top 24)) := ⟨rfl, rfl, rfl, by decide +kernel, rfl, by decide +kernel, by decide +kernel⟩
def spTableOf (K : PySem.W.Frag) : Sp := fun vs H Q _ => ∃ (s rl : Addr) (k : Nat) (m : M) (z : SA) (as : List Addr) (rs : List Route), vs = [.ref s, .ref rl, .int k] ∧ TbArg K H s rl m z as rs ∧ k < m.num ∧
  ∀ q bs H', Kt K H H' → Nw H q → LsAt H' q bs (table m rs k) → Q (.ref q) H'
theorem ok_table_of (T : Tx K mg base) : OkD P w K mg base 7 (ga K "table_of") ["server", "routes", "member"] (spTableOf K) := by
  obtain ⟨fd, F⟩ : ∃ fd, FunD K "table_of" "table_of" (defArgs (top 24)) (defBody (top 24)) (defScope (top 24)) [] [] (ga K "table_of") fd := T.fn 6 _ rfl
  obtain ⟨_, G_prefixes_of, b_prefixes_of, k_prefixes_of⟩ := ok_prefixes_of (P := P) (w := w) T
  obtain ⟨_, G_eligible_ones, b_eligible_ones, k_eligible_ones⟩ := ok_eligible_ones (P := P) (w := w) T
  refine okD_mk F (F.ok sc24 (fun vs H Q E h => ?_) (fun cdv A outer s H vs Q E hr h => ?_)) (fun _ _ _ _ _ _ us hl => match us, hl with | [_, _, _], _ => rfl)
  · obtain ⟨_, _, _, _, _, _, _, rfl, _⟩ := h
    rfl
  · obtain ⟨sv, rl, k, m, z, as, rs, rfl, A0, hk, q⟩ := h
    refine ⟨_, PSs.nox (pss_cons (ps_set (i := 3) sc24.nd rfl (Or.inl rfl) (pe_lst pa_nil))
      (pss_cons (ps_for PassesOwn.never rfl (pi_list (pe_call G_prefixes_of (hr.mono (by decide)) (by rfl) (T.glo "prefixes_of" (by decide +kernel)) k_prefixes_of b_prefixes_of .nil pass0 (pa_cons (pv 1) pa_nil))) (pg_name (i := 4) sc24.nd rfl (Or.inl rfl)) (pss_cons (ps_set (i := 5) sc24.nd rfl (Or.inl rfl) (pe_call G_eligible_ones (hr.mono (by decide)) (by rfl) (T.glo "eligible_ones" (by decide +kernel)) k_eligible_ones b_eligible_ones .nil pass0 (pa_cons (pv 0) (pa_cons (pv 1) (pa_cons (pv 2) (pa_cons (pv 4) pa_nil))))))
      (pss_one (ps_if (pt_cmpR (op_neD hr.units) (pv 5) (pe_lst pa_nil) (nomark _)) (pss_one (ps_expr (pe_bm PySem.F.plainAttrs_list PySem.F.slot_list_append PySem.F.type_list_append mt_append (pv 3) (pa_cons (pe_ix ix_list (pv 5) pe_int (fun _ _ => rfl)) pa_nil)))) pss_nil))))
      (pss_one (ps_ret (pv 3))))), ?_⟩
    refine st_setG (lst_of pa_n (by decide) fun p hp => ?_)
    have k0 : Kt K H (upd H p (.lst [])) := Kt.new hp
    refine call_of (pa_c (pu_var rfl) pa_n) ⟨rl, as, rs, rfl, A0.ls.keep k0, A0.few, A0.ok.pfx, fun pl bp H1 k1 n1 pf => ⟨pl, rfl, ⟨_, SqL.of pf.at_⟩, ?_⟩⟩
    have hp1 : H1 p = some (.lst []) := k1.lst upd_same
    have hpl : pl ≠ p := (n1.ne upd_same fun _ z => by cases z).symm
    have hlen := pair_len pf.all
    have hnum : (pfxs rs).length ≤ 20 := Nat.le_trans (pfxs_len rs) A0.few
    refine for_it (walk_list (xs := bp.map V.ref)) (fun i σ H2 => ∃ v4 v5 bs, σ = [some (.ref sv), some (.ref rl), some (.int (k : Int)), some (.ref p), v4, v5] ∧ Kt K H H2 ∧ Kb K [p] H1 H2 ∧ H2 p = some (.lst (bs.map V.ref)) ∧
      Paired (RtAt H2) bs (((pfxs rs).take i).filterMap fun y => (eligs m rs k y.1 y.2).head?)) ⟨none, none, [], rfl, k0.trans k1, (Kt.refl _).kb, hp1, .nil⟩ ?_ ?_ ?_
    · rintro i σ H2 _ ⟨v4, v5, bs, rfl, k2, b2, h2, hp2⟩
      exact SqL.of (b2.lst (by simpa using hpl) pf.at_)
    · rintro i x σ H2 H2' hi ⟨v4, v5, bs, rfl, k2, b2, h2, hp2⟩ ⟨rfl, hx⟩
      rw [List.getElem?_map] at hx
      cases e : bp[i]? with
      | none =>
        rw [e] at hx
        cases hx
      | some a =>
        rw [e] at hx
        obtain rfl : V.ref a = x := Option.some.inj hx
        obtain ⟨y, hy, hY⟩ := pair_getL pf.all e
        have hY2 : PrAt H2' a y := b2.tup (by simpa using ne_of hY hp1 (by intro z; cases z)) hY
        have A2 := A0.keep k2
        refine call_of (pa_c (pu_var rfl) (pa_c (pu_var rfl) (pa_c (pu_var rfl) (pa_c (pu_var rfl) pa_n)))) ⟨sv, rl, a, k, y.1, y.2, m, z, as, rs, rfl, ⟨A2.sv, A2.wf, A2.ls, A2.ok.ann, A2.few, hk, hY2, A2.tabs⟩, fun q3 b3 H3 k3 n3 L3 => ?_⟩
        refine ne_nil_of L3 (pu_var rfl) fun H4 k4 => ?_
        have k34 := k3.trans k4
        have hl4 : H4 p = some (.lst (bs.map V.ref)) := k34.lst h2
        have hp4 := pair_mono hp2 fun a r h => h.keep k34
        have etake : ((pfxs rs).take (i + 1)).filterMap (fun y => (eligs m rs k y.1 y.2).head?) = ((pfxs rs).take i).filterMap (fun y => (eligs m rs k y.1 y.2).head?) ++ ((eligs m rs k y.1 y.2).head?).toList := by
          rw [take_next hy, List.filterMap_append]
          cases e2 : (eligs m rs k y.1 y.2).head? <;> simp [e2]
        cases e2 : (eligs m rs k y.1 y.2).head? with
        | none =>
          have e3 : (eligs m rs k y.1 y.2).isEmpty = true := by
            cases e4 : eligs m rs k y.1 y.2 with
            | nil => rfl
            | cons _ _ => rw [e4] at e2; cases e2
          rw [e3]
          refine iteF (A := _) ?_
          rw [e2, Option.toList_none, List.append_nil] at etake
          refine ⟨_, _, bs, rfl, k2.trans k34, b2.trans k34.kb, hl4, ?_⟩
          rw [etake]
          exact hp4
        | some r =>
          have e3 : (eligs m rs k y.1 y.2).isEmpty = false := by
            cases e4 : eligs m rs k y.1 y.2 with
            | nil => rw [e4] at e2; cases e2
            | cons _ _ => rfl
          rw [e3]
          refine iteT (B := _) ?_
          rw [e2, Option.toList_some] at etake
          obtain ⟨a5, h5, R5⟩ := head_at (L3.keep k4).all e2
          have hbs := pair_len hp4
          have hbl := List.length_filterMap_le (fun y => (eligs m rs k y.1 y.2).head?) ((pfxs rs).take i)
          rw [List.length_take] at hbl
          refine app_of (pu_var rfl) hl4 (pu_ixL (i := 0) (pu_var rfl) pu_c (SqL.of (L3.keep k4).at_) (ref_at h5)) (by rw [List.length_map]; omega) ?_
          refine ⟨_, _, bs ++ [a5], rfl, (k2.trans k34).put (.of hp) hl4, (b2.trans k34.kb).trans (Kb.put (by simp) (.inl ⟨_, hl4⟩)), ?_, ?_⟩
          · rw [upd_same, List.map_append]
            rfl
          · rw [etake]
            exact pair_app (pair_mono hp4 fun a r h => h.upd hl4) (.cons (R5.upd hl4) .nil)
    · rintro σ H2 ⟨v4, v5, bs, rfl, k2, b2, h2, hp2⟩
      rw [List.length_map, hlen, List.take_length] at hp2
      exact st_ret (pu_var rfl) (q p bs H2 k2 (.of hp) ⟨h2, hp2⟩)
end
end Rs

/-! # The walk, part 7: looked_up, place_of -/
namespace Rs
open PySem PySem.Spec PyProof.Rows L2 LamX NdefX
open Su201 (Route)
def FnAt (H : Hp) (v : V) (o : Option Route) : Prop := match o with
  | none => v = .non
  | some r => ∃ a, v = .ref a ∧ RtAt H a r
def luStep (x : Nat) (best : Option Route) (y : Route) : Option Route := if Su201.prefixContains y.address y.length x = true then (match best with
  | none => some y
  | some z => if z.length < y.length then some y else some z) else best
theorem lu_is (rs : List Route) (x : Nat) : Su201.lookupIn rs x = rs.foldl (luStep x) none := rfl
theorem FnAt.keep {K : PySem.W.Frag} {H H' : Hp} (k : Kt K H H') {v : V} {o : Option Route} (h : FnAt H v o) : FnAt H' v o := by
  cases o with
  | none => exact h
  | some r =>
    obtain ⟨a, e, h⟩ := h
    exact ⟨a, e, h.keep k⟩
theorem lu_mem {x : Nat} : ∀ (rs : List Route) (b : Option Route), (∀ r, b = some r → r ∈ rs ∨ b = some r) → ∀ r, rs.foldl (luStep x) b = some r → r ∈ rs ∨ b = some r
  | [], b, _, r, h => .inr h
  | y :: rs, b, _, r, h => by
    rcases lu_mem rs (luStep x b y) (fun r h => .inr h) r h with h | h
    · exact .inl (List.mem_cons_of_mem _ h)
    · unfold luStep at h
      by_cases c : Su201.prefixContains y.address y.length x = true
      · rw [if_pos c] at h
        cases b with
        | none =>
          cases h
          exact .inl List.mem_cons_self
        | some z =>
          dsimp only at h
          by_cases c2 : z.length < y.length
          · rw [if_pos c2] at h
            cases h
            exact .inl List.mem_cons_self
          · rw [if_neg c2] at h
            exact .inr h
      · rw [if_neg c] at h
        exact .inr h
section
variable {K : PySem.W.Frag} {mg : Str → Option Value} {base : Heap} {P : Program} {w : World}
theorem sc25 : FnScope ["table", "destination", "found", "route"] ["table", "destination"] (defScope (top 25)) := ⟨rfl, rfl, rfl, by decide +kernel, rfl, by decide +kernel, by decide +kernel⟩
def spLookedUp (K : PySem.W.Frag) : Sp := fun vs H Q _ => ∃ (t : Addr) (x : Nat) (as : List Addr) (rs : List Route), vs = [.ref t, .int x] ∧ LsAt H t as rs ∧ (∀ r ∈ rs, Su201.isPrefix r.address r.length = true) ∧ ∀ v H', Kt K H H' → FnAt H' v (Su201.lookupIn rs x) → Q v H'
theorem ok_looked_up (T : Tx K mg base) : OkD P w K mg base 2 (ga K "looked_up") ["table", "destination"] (spLookedUp K) := by
  obtain ⟨fd, F⟩ : ∃ fd, FunD K "looked_up" "looked_up" (defArgs (top 25)) (defBody (top 25)) (defScope (top 25)) [] [] (ga K "looked_up") fd := T.fn 7 _ rfl
  obtain ⟨_, G_contains, b_contains, k_contains⟩ := ok_contains (P := P) (w := w) T
  refine okD_mk F (F.ok sc25 (fun vs H Q E h => ?_) (fun cdv A outer s H vs Q E hr h => ?_)) (fun _ _ _ _ _ _ us hl => match us, hl with | [_, _], _ => rfl)
  · obtain ⟨_, _, _, _, rfl, _⟩ := h
    rfl
  · obtain ⟨t, x, as, rs, rfl, L, pfx, q⟩ := h
    refine ⟨_, PSs.nox (pss_cons (ps_set (i := 2) sc25.nd rfl (Or.inl rfl) pe_non)
      (pss_cons (ps_for PassesOwn.never rfl (pi_list (pv 0)) (pg_name (i := 3) sc25.nd rfl (Or.inl rfl)) (pss_one (ps_if (PW.pt (pw_and (pt_val (pe_call G_contains (hr.mono (by decide)) (by rfl) (T.glo "contains" (by decide +kernel)) k_contains b_contains .nil pass0 (pa_cons (pe_slice sl_tup (pv 3) (po_some pe_int) (po_some pe_int)) (pa_cons (pv 1) pa_nil)))) (pw_and1 (PW.pt (pw_or (pt_cmpR op_isN (pv 2) pe_non (nomark _)) (pw_or1 (pt_cmpR op_gt (pe_ix ix_tup (pv 3) pe_int (fun _ _ => rfl)) (pe_ix ix_tup (pv 2) pe_int (fun _ _ => rfl)) (nomark _)))))))) (pss_one (ps_set (i := 2) sc25.nd rfl (Or.inl rfl) (pv 3))) pss_nil)))
      (pss_one (ps_ret (pv 2))))), ?_⟩
    refine st_set pu_c ?_
    have hlen := pair_len L.all
    refine ⟨_, rfl, t, rfl, ⟨_, SqL.of L.at_⟩, for_it (walk_list (xs := as.map V.ref)) (fun i σ H2 => ∃ v v3, σ = [some (.ref t), some (.int (x : Int)), some v, v3] ∧ Kt K H H2 ∧ FnAt H2 v ((rs.take i).foldl (luStep x) none)) ⟨_, _, rfl, Kt.refl _, rfl⟩ ?_ ?_ ?_⟩
    · rintro i σ H2 _ ⟨v, v3, rfl, k2, hf⟩
      exact SqL.of (k2.lst L.at_)
    · rintro i y σ H2 H2' hi ⟨v, v3, rfl, k2, hf⟩ ⟨rfl, hy⟩
      rw [List.getElem?_map] at hy
      cases e : as[i]? with
      | none =>
        rw [e] at hy
        cases hy
      | some a =>
        rw [e] at hy
        obtain rfl : V.ref a = y := Option.some.inj hy
        obtain ⟨r, hr, hR⟩ := pair_getL L.all e
        have R2 := hR.keep k2
        have enext : (rs.take (i + 1)).foldl (luStep x) none = luStep x ((rs.take i).foldl (luStep x) none) r := by
          rw [take_next hr, List.foldl_append]
          rfl
        refine sl_route R2 (pu_var rfl) fun p hp => ?_
        have k3 : Kt K H2' (upd H2' p (.tup [.int (r.address : Int), .int (r.length : Int)])) := Kt.new hp
        refine ⟨_, rfl, p, r.address, r.length, x, rfl, upd_same, pfx r (List.mem_of_getElem? hr), _, rfl, ?_⟩
        cases c : Su201.prefixContains r.address r.length x with
        | true =>
          refine iteT (B := _) ?_
          generalize ho : (rs.take i).foldl (luStep x) none = o at hf enext
          have hf3 := hf.keep k3
          cases o with
          | none =>
            obtain rfl : v = .non := hf
            refine put_or (put_test (pu_isN (pu_var rfl))) (b := true) (fun z => by cases z) _ ?_
            refine iteT (B := _) (st_set (pu_var rfl) ⟨_, _, rfl, k2.trans k3, ?_⟩)
            rw [enext]
            unfold luStep
            rw [if_pos c]
            exact ⟨a, rfl, R2.keep k3⟩
          | some z =>
            obtain ⟨a2, rfl, hz⟩ := hf3
            refine put_or (put_test (pu_isN (pu_var rfl))) (b := decide ((z.length : Int) < r.length)) (fun _ => put_test (pu_I (pu_lth (R2.keep k3) (pu_var rfl)) (pu_lth hz (pu_var rfl)))) _ ?_
            show if decide ((z.length : Int) < r.length) = true then _ else _
            by_cases c2 : z.length < r.length
            · rw [if_pos (decide_eq_true (by omega))]
              refine st_set (pu_var rfl) ⟨_, _, rfl, k2.trans k3, ?_⟩
              rw [enext]
              unfold luStep
              rw [if_pos c]
              dsimp only
              rw [if_pos c2]
              exact ⟨a, rfl, R2.keep k3⟩
            · rw [if_neg (by rw [decide_eq_true_eq]; omega)]
              refine ⟨_, _, rfl, k2.trans k3, ?_⟩
              rw [enext]
              unfold luStep
              rw [if_pos c]
              dsimp only
              rw [if_neg c2]
              exact ⟨a2, rfl, hz⟩
        | false =>
          refine iteF (A := _) (iteF (A := _) ⟨_, _, rfl, k2.trans k3, ?_⟩)
          rw [enext]
          unfold luStep
          rw [c, if_neg Bool.false_ne_true]
          exact hf.keep k3
    · rintro σ H2 ⟨v, v3, rfl, k2, hf⟩
      rw [List.length_map, hlen, List.take_length, ← lu_is] at hf
      exact st_ret (pu_var rfl) (q v H2 k2 hf)
/-! ## Server.place_of -/
theorem scm5 : FnScope ["self", "member", "prefix", "place", "route"] ["self", "member", "prefix"] (defScope (inClass (top 67) 5)) := ⟨rfl, rfl, rfl, by decide +kernel, rfl, by decide +kernel, by decide +kernel⟩
def plI : Option Nat → Int
  | none => -1
  | some i => (i : Int)
def spPlaceOf (K : PySem.W.Frag) : Sp := fun vs H Q _ => ∃ (s pf : Addr) (k a l : Nat) (m : M) (z : SA), vs = [.ref s, .int k, .ref pf] ∧ SvAt K H s m z ∧ PrAt H pf (a, l) ∧ ∀ H', Kt K H H' → Q (.int (plI (place m.routes k a l))) H'
theorem find_at {p : Route → Bool} : ∀ {rs : List Route} {i : Nat} {r : Route}, (∀ x ∈ rs.take i, p x = false) → rs[i]? = some r → p r = true → rs.findIdx? p = some i
  | [], _, _, _, h, _ => by simp at h
  | y :: rs, 0, r, _, h, hp => by
    cases h
    rw [List.findIdx?_cons, hp]
    rfl
  | y :: rs, i + 1, r, h0, h, hp => by
    have h1 : p y = false := h0 y (by simp)
    have ih := find_at (rs := rs) (i := i) (r := r) (fun x hx => h0 x (by rw [List.take_succ_cons]; exact List.mem_cons_of_mem _ hx)) h hp
    rw [List.findIdx?_cons, h1, ih]
    rfl
theorem find_no {p : Route → Bool} : ∀ {rs : List Route}, (∀ x ∈ rs, p x = false) → rs.findIdx? p = none
  | [], _ => rfl
  | y :: rs, h => by
    rw [List.findIdx?_cons, h y List.mem_cons_self, find_no fun x hx => h x (List.mem_cons_of_mem _ hx)]
    rfl
theorem ok_place_of (T : Tx K mg base) : OkD P w K mg base 1 (ma K "place_of") ["self", "member", "prefix"] (spPlaceOf K) := by
  obtain ⟨fd, F⟩ : ∃ fd, FunD K "place_of" "Server.place_of" (defArgs (inClass (top 67) 5)) (defBody (inClass (top 67) 5)) (defScope (inClass (top 67) 5)) [] [] (ma K "place_of") fd := T.fn 47 _ rfl
  refine okD_mk F (F.ok scm5 (fun vs H Q E h => ?_) (fun cdv A outer s H vs Q E hr h => ?_)) (fun _ _ _ _ _ _ us hl => match us, hl with | [_, _, _], _ => rfl)
  · obtain ⟨_, _, _, _, _, _, _, rfl, _⟩ := h
    rfl
  · obtain ⟨sv, pf, k, a, l, m, z, rfl, S, hpf, q⟩ := h
    refine ⟨_, PSs.nox (pss_cons (ps_for PassesOwn.never rfl (pi_enum (by rfl) (T.free "enumerate" (by decide +kernel)) (pa_cons (pe_fld (pv 0) rfl) pa_nil)) (pg_tup rfl (pgs_cons (pg_name (i := 3) scm5.nd rfl (Or.inl rfl)) (pgs_cons (pg_name (i := 4) scm5.nd rfl (Or.inl rfl)) pgs_nil))) (pss_one (ps_if (PW.pt (pw_and (pt_cmpR op_eq (pe_ix ix_tup (pv 4) pe_int (fun _ _ => rfl)) (pv 1) (nomark _)) (pw_and1 (pt_cmpR (op_eqD hr.units) (pe_slice sl_tup (pv 4) (po_some pe_int) (po_some pe_int)) (pv 2) (nomark _))))) (pss_one (ps_ret (pv 3))) pss_nil)))
      (pss_one (ps_ret (pe_un un_neg pe_int)))), ?_⟩
    have hlen := pair_len S.rts.all
    refine pu_rts T S (pu_var rfl) _ ⟨z.rts, _, rfl, SqL.of S.rts.at_, for_it (walk_enum (xs := z.rR.map V.ref)) (fun i σ H2 => ∃ v3 v4, σ = [some (.ref sv), some (.int (k : Int)), some (.ref pf), v3, v4] ∧ Kt K H H2 ∧ ∀ r ∈ m.routes.take i, here k a l r = false)
      ⟨_, _, rfl, Kt.refl _, fun r h => by simp at h⟩ ?_ ?_ ?_⟩
    · rintro i σ H2 _ ⟨v3, v4, rfl, k2, hf⟩
      exact SqL.of (k2.lst S.rts.at_)
    · rintro i y σ H2 H2' hi ⟨v3, v4, rfl, k2, hf⟩ ⟨Tt, x1, x2, rfl, hT, rfl, h1, h2⟩
      cases h1
      have h2 : (z.rR.map V.ref)[i]? = some x2 := h2
      rw [List.getElem?_map] at h2
      cases e : z.rR[i]? with
      | none =>
        rw [e] at h2
        cases h2
      | some ra =>
        rw [e] at h2
        obtain rfl : V.ref ra = x2 := Option.some.inj h2
        obtain ⟨r, hr, hR⟩ := pair_getL S.rts.all e
        have k3 : Kt K H (upd H2 Tt (.tup [.int (i : Nat), .ref ra])) := k2.trans (Kt.new hT)
        have R3 := hR.keep k3
        refine ⟨Tt, _, rfl, SqT.of upd_same, rfl, _, _, rfl, _, _, rfl, rfl, ?_⟩
        have step : here k a l r = false → ∀ x ∈ m.routes.take (i + 1), here k a l x = false := fun h x hx => by
          rw [take_next hr] at hx
          rcases List.mem_append.mp hx with hx | hx
          · exact hf x hx
          · rw [List.mem_singleton.mp hx]
            exact h
        refine put_test (pu_eqN (pu_ann R3 (pu_var rfl)) (pu_var rfl)) _ ?_
        by_cases c : r.announcer = k
        · rw [decide_eq_true c]
          refine iteT (B := _) ?_
          refine sl_route R3 (pu_var rfl) fun p hp => ?_
          have k4 : Kt K _ (upd (upd H2 Tt (.tup [.int (i : Nat), .ref ra])) p (.tup [.int (r.address : Int), .int (r.length : Int)])) := Kt.new hp
          refine ⟨_, rfl, _, _, dp_pair upd_same, dp_pair ((k3.trans k4).tup hpf), sh_pair _ _, sh_pair _ _, _, rfl, ?_⟩
          rw [eqv_pair]
          have eh : here k a l r = (r.address == a && r.length == l) := by
            unfold here
            rw [c, beq_self_eq_true, Bool.true_and]
          cases e5 : (r.address == a && r.length == l) with
          | true =>
            refine iteT (B := _) (st_ret (pu_var rfl) ?_)
            have e6 : place m.routes k a l = some i := find_at hf hr (by rw [eh, e5])
            rw [e6] at q
            exact q _ (k3.trans k4)
          | false => exact iteF (A := _) ⟨_, _, rfl, k3.trans k4, step (by rw [eh, e5])⟩
        · rw [decide_eq_false c]
          refine iteF (A := _) (iteF (A := _) ⟨_, _, rfl, k3, step ?_⟩)
          unfold here
          rw [beq_eq_false_iff_ne.mpr c, Bool.false_and]
    · rintro σ H2 ⟨v3, v4, rfl, k2, hf⟩
      rw [List.length_map, hlen, List.take_length] at hf
      refine st_ret (σ := [some (.ref sv), some (.int (k : Int)), some (.ref pf), v3, v4]) (pu_neg pu_c) ?_
      have e6 : place m.routes k a l = none := find_no hf
      rw [e6] at q
      exact q _ k2
end
end Rs

/-! # The walk, part 8: tables_of, unlike_places, changed_since, uses -/
namespace Rs
open PySem PySem.Spec PyProof.Rows L2 LamX NdefX
open Su201 (Route)
theorem LsAt.upd {H : Hp} {l p : Addr} {as : List Addr} {rs : List Route} {o : HO} {xs : List V} (h : LsAt H l as rs) (n : l ≠ p) (hp : H p = some (.lst xs)) : LsAt (L2.upd H p o) l as rs := ⟨(upd_ne n).trans h.at_, pair_mono h.all fun _ _ q => q.upd hp⟩
/-- tables that are apart from what stands at p -/
theorem tbs_upd {H : Hp} {p : Addr} {o : HO} {xs : List V} (hp : H p = some (.lst xs)) : ∀ {as : List Addr} {ts : List (List Route)}, Paired (fun a rs => ∃ bs, LsAt H a bs rs) as ts → (∀ a ∈ as, a ≠ p) → Paired (fun a rs => ∃ bs, LsAt (L2.upd H p o) a bs rs) as ts
  | _, _, .nil, _ => .nil
  | _, _, .cons ⟨bs, h⟩ t, n => .cons ⟨bs, h.upd (n _ List.mem_cons_self) hp⟩ (tbs_upd hp t fun a ha => n a (List.mem_cons_of_mem _ ha))
section
variable {K : PySem.W.Frag} {mg : Str → Option Value} {base : Heap} {P : Program} {w : World}
theorem sc27 : FnScope ["server", "routes", "member"] ["server", "routes"] (defScope (top 27)) := ⟨rfl, rfl, rfl, by decide +kernel, rfl, by decide +kernel, by decide +kernel⟩
def spTablesOf (K : PySem.W.Frag) : Sp := fun vs H Q _ => ∃ (s rl : Addr) (m : M) (z : SA) (as : List Addr) (rs : List Route), vs = [.ref s, .ref rl] ∧ TbArg K H s rl m z as rs ∧
  ∀ q ts H', Kt K H H' → Nw H q → TbAt H' q ts (tables m rs) → (∀ t ∈ ts, Nw H t) → Q (.ref q) H'
theorem nv_range {n i : Nat} {x : V} (h : (nv (List.range n))[i]? = some x) : x = .int (i : Int) ∧ i < n := by
  unfold nv at h
  rw [List.getElem?_map] at h
  by_cases hi : i < n
  · rw [List.getElem?_range hi] at h
    cases h
    exact ⟨rfl, hi⟩
  · rw [List.getElem?_eq_none (by rw [List.length_range]; omega)] at h
    cases h
theorem ok_tables_of (T : Tx K mg base) : OkD P w K mg base 8 (ga K "tables_of") ["server", "routes"] (spTablesOf K) := by
  obtain ⟨fd, F⟩ : ∃ fd, FunD K "tables_of" "tables_of" (defArgs (top 27)) (defBody (top 27)) (defScope (top 27)) [] [] (ga K "tables_of") fd := T.fn 8 _ rfl
  obtain ⟨_, G_m_members, b_m_members, k_m_members⟩ := ok_members (P := P) (w := w) T
  obtain ⟨_, G_table_of, b_table_of, k_table_of⟩ := ok_table_of (P := P) (w := w) T
  refine okD_mk F (F.ok sc27 (fun vs H Q E h => ?_) (fun cdv A outer s H vs Q E hr h => ?_)) (fun _ _ _ _ _ _ us hl => match us, hl with | [_, _], _ => rfl)
  · obtain ⟨_, _, _, _, _, _, rfl, _⟩ := h
    rfl
  · obtain ⟨sv, rl, m, z, as, rs, rfl, A0, q⟩ := h
    refine ⟨_, PSs.nox (pss_one (ps_ret (pe_lc (own := [("member", 2)]) (tt := tYes) (te := tCall (spTableOf K) [] E0 (tCons (tVar 0) (tCons (tVar 1) (tCons (tVar 2) tNil)))) rfl sc27.nd (pi_list (pe_meth0 (pv 0) T.cl (T.me "members" (by decide +kernel)) G_m_members (hr.mono (by decide)) b_m_members .nil pass0)) (blkOk_by (N := ["server", "routes", "member"]) (sc := defScope (top 27)) (by decide +kernel)) (fun _ _ _ _ _ => (pg_name (i := 2) sc27.nd rfl (Or.inl rfl))) (fun _ _ _ _ _ => pts_nil) (fun _ _ _ _ _ => (pe_call G_table_of (hr.mono (by decide)) (by rfl) (T.glo "table_of" (by decide +kernel)) k_table_of b_table_of .nil pass0 (pa_cons (pv 0) (pa_cons (pv 1) (pa_cons (pv 2) pa_nil)))))))), ?_⟩
    refine st_retG (meth_of (pu_var rfl) A0.sv.ins (sF_none _ _ (by decide +kernel)) pa_n ⟨sv, m, z, rfl, A0.sv, A0.wf.num, fun ml hml => ⟨ml, rfl, ⟨_, SqL.of upd_same⟩, fun D hD => ?_⟩⟩)
    have k0 : Kt K H (upd H ml (.lst (nv (List.range m.num)))) := Kt.new hml
    have hnum := A0.wf.num
    generalize hH1 : upd H ml (.lst (nv (List.range m.num))) = H1 at k0 hD ⊢
    have hml1 : H1 ml = some (.lst (nv (List.range m.num))) := by rw [← hH1]; exact upd_same
    refine lc_w (K := K) (n := (nv (List.range m.num)).length) walk_list hD (by rw [nv_len, List.length_range]; omega) (fun i H2 acc => ∃ ts : List Addr, acc = ts.map V.ref ∧ Paired (fun a rs => ∃ bs, LsAt H2 a bs rs) ts ((List.range i).map (table m rs)) ∧ ∀ t ∈ ts, Nw H t ∧ t ≠ D)
      (fun H2 k => SqL.of (k.lst hml1)) ⟨[], rfl, .nil, fun t h => by cases h⟩ ?_ ?_ ?_ ?_
    · rintro i H2 acc ⟨ts, rfl, hp, _⟩
      have h1 := pair_len hp
      rw [List.length_map, List.length_range] at h1
      rw [List.length_map]
      omega
    · rintro i H2 acc acc' o ⟨ts, rfl, hp, hf⟩ hacc
      exact ⟨ts, rfl, tbs_upd hacc hp fun a ha => (hf a ha).2, hf⟩
    · rintro i x H2 H' acc hi k hacc ⟨ts, rfl, hp, hf⟩ ⟨rfl, hx⟩ N1 N0 h1 h0
      obtain ⟨rfl, hi2⟩ := nv_range hx
      have k02 := k0.trans k
      refine ⟨rfl, iteT (B := N0 H') (call_of (pa_c (pu_var rfl) (pa_c (pu_var rfl) (pa_c (pu_var rfl) pa_n))) ⟨sv, rl, i, m, z, as, rs, rfl, A0.keep k02, hi2, fun q3 bs3 H3 k3 n3 L3 => h1 _ _ k3 ⟨ts ++ [q3], by rw [List.map_append]; rfl, ?_, fun t ht => ?_⟩⟩)⟩
      · rw [List.range_succ, List.map_append]
        exact pair_app (pair_mono hp fun a r ⟨bs, h⟩ => ⟨bs, h.keep k3⟩) (.cons ⟨bs3, L3⟩ .nil)
      · rcases List.mem_append.mp ht with ht | ht
        · exact hf t ht
        · rw [List.mem_singleton.mp ht]
          exact ⟨Nw.back k02 n3, (n3.ne hacc fun _ z => by cases z).symm⟩
    · rintro H2 acc k hacc ⟨ts, rfl, hp, hf⟩
      rw [nv_len, List.length_range] at hp
      exact q D ts H2 (k0.trans k) (Nw.back k0 (.of hD)) ⟨hacc, hp⟩ fun t ht => (hf t ht).1
/-! ## unlike_places -/
theorem sc28 : FnScope ["before", "after", "place", "one"] ["before", "after"] (defScope (top 28)) := ⟨rfl, rfl, rfl, by decide +kernel, rfl, by decide +kernel, by decide +kernel⟩
def spUnlike (K : PySem.W.Frag) : Sp := fun vs H Q _ => ∃ (b a : Addr) (bs as : List Addr) (tb ta : List (List Route)), vs = [.ref b, .ref a] ∧ TbAt H b bs tb ∧ TbAt H a as ta ∧ tb.length ≤ ta.length ∧ tb.length ≤ 6 ∧
  ∀ q H', Kt K H H' → Nw H q → H' q = some (.lst (nv (unlike tb ta))) → Q (.ref q) H'
theorem getD_at {α : Type} {l : List α} {i : Nat} {x d : α} (h : l[i]? = some x) : l.getD i d = x := by
  rw [List.getD_eq_getElem?_getD, h]
  rfl
theorem ok_unlike (T : Tx K mg base) : OkD P w K mg base 1 (ga K "unlike_places") ["before", "after"] (spUnlike K) := by
  obtain ⟨fd, F⟩ : ∃ fd, FunD K "unlike_places" "unlike_places" (defArgs (top 28)) (defBody (top 28)) (defScope (top 28)) [] [] (ga K "unlike_places") fd := T.fn 9 _ rfl
  refine okD_mk F (F.ok sc28 (fun vs H Q E h => ?_) (fun cdv A outer s H vs Q E hr h => ?_)) (fun _ _ _ _ _ _ us hl => match us, hl with | [_, _], _ => rfl)
  · obtain ⟨_, _, _, _, _, _, rfl, _⟩ := h
    rfl
  · obtain ⟨b, a, bs, as, tb, ta, rfl, B, A1, hl, h6, q⟩ := h
    refine ⟨_, PSs.nox (pss_one (ps_ret (pe_lc (own := [("place", 2), ("one", 3)]) (g := gTup K 2 (gCons (gName 2) (gCons (gName 3) gNil))) (tt := tTest (tOp (rNeD K) (tVar 3) (tOp (rIxL K) (tVar 1) (tVar 2)))) (te := tVar 2) rfl sc28.nd (pi_enum (by rfl) (T.free "enumerate" (by decide +kernel)) (pa_cons (pv 0) pa_nil)) (blkOk_by (N := ["before", "after", "place", "one"]) (sc := defScope (top 28)) (by decide +kernel)) (fun _ _ _ _ _ => (pg_tup rfl (pgs_cons (pg_name (i := 2) sc28.nd rfl (Or.inl rfl)) (pgs_cons (pg_name (i := 3) sc28.nd rfl (Or.inl rfl)) pgs_nil)))) (fun _ _ _ _ _ => pts_one (pt_cmpR (op_neD hr.units) (pv 3) (pe_ix ix_list (pv 1) (pv 2) (fun _ _ => rfl)) (nomark _))) (fun _ _ _ _ _ => (pv 2))))), ?_⟩
    have hlen := pair_len B.all
    refine ⟨_, rfl, b, _, rfl, SqL.of B.at_, fun D hD => lc_w (K := K) (n := (bs.map V.ref).length) (walk_enum (xs := bs.map V.ref)) hD (by rw [List.length_map]; omega) (fun i H2 acc => acc = nv ((List.range i).filter fun i => tb.getD i [] != ta.getD i [])) (fun H2 k => SqL.of (k.lst B.at_)) rfl ?_ ?_ ?_ ?_⟩
    · rintro i H2 acc rfl
      have h1 := List.length_filter_le (fun i => tb.getD i [] != ta.getD i []) (List.range i)
      rw [List.length_range] at h1
      rw [nv_len]
      exact h1
    · rintro i H2 acc acc' o h _
      exact h
    · rintro i y H2 H2' acc hi k2 hacc rfl ⟨Tt, x1, x2, rfl, hT, rfl, h1, h2⟩ N1 N0 n1 n0
      cases h1
      have h2 : (bs.map V.ref)[i]? = some x2 := h2
      rw [List.getElem?_map] at h2
      cases e : bs[i]? with
      | none =>
        rw [e] at h2
        cases h2
      | some ra =>
        rw [e] at h2
        obtain rfl : V.ref ra = x2 := Option.some.inj h2
        obtain ⟨rb, hrb, cb, hLb⟩ := pair_getL B.all e
        have hi2 : i < ta.length := by
          have := (List.getElem?_eq_some_iff.mp hrb).1
          omega
        obtain ⟨rc, hrc⟩ : ∃ rc, ta[i]? = some rc := ⟨_, List.getElem?_eq_getElem hi2⟩
        obtain ⟨ac, hac, cc, hLc⟩ := pair_get A1.all hrc
        have kT : Kt K H2 (upd H2 Tt (.tup [.int (i : Nat), .ref ra])) := Kt.new hT
        have k3 := k2.trans kT
        refine ⟨Tt, _, rfl, SqT.of upd_same, rfl, _, _, rfl, _, _, rfl, rfl, rfl, ?_⟩
        refine ⟨_, rfl, pu_ixL (i := i) (pu_var rfl) (pu_var rfl) (SqL.of (k3.lst A1.at_)) (ref_at hac) _ ⟨_, _, dp_ls (hLb.keep k3), dp_ls (hLc.keep k3), dL_shaped _, dL_shaped _, _, rfl, ?_⟩⟩
        rw [dL_eqv]
        have e1 : (tb.getD i [] != ta.getD i []) = !(rb == rc) := by
          rw [getD_at hrb, getD_at hrc]
          rfl
        have e2 : (List.range (i + 1)).filter (fun i => tb.getD i [] != ta.getD i []) = (List.range i).filter (fun i => tb.getD i [] != ta.getD i []) ++ (if (!(rb == rc)) = true then [i] else []) := by
          rw [List.range_succ, List.filter_append, ← e1]
          congr 1
          by_cases c : (tb.getD i [] != ta.getD i []) = true
          · rw [if_pos c, List.filter_cons, if_pos c, List.filter_nil]
          · rw [if_neg c, List.filter_cons, if_neg c, List.filter_nil]
        cases c : (!(rb == rc)) with
        | true =>
          rw [c, if_pos rfl] at e2
          refine iteT (B := _) ⟨_, rfl, n1 _ _ kT ?_⟩
          rw [e2]
          unfold nv
          rw [List.map_append]
          rfl
        | false =>
          rw [c, if_neg Bool.false_ne_true, List.append_nil] at e2
          refine iteF (A := _) (n0 _ kT ?_)
          rw [e2]
    · rintro H2 acc k2 hacc rfl
      rw [List.length_map, hlen] at hacc
      exact q D H2 k2 (.of hD) hacc
/-! ## changed_since -/
theorem sc30 : FnScope ["server", "before"] ["server", "before"] (defScope (top 30)) := ⟨rfl, rfl, rfl, by decide +kernel, rfl, by decide +kernel, by decide +kernel⟩
def spChanged (K : PySem.W.Frag) : Sp := fun vs H Q _ => ∃ (s b : Addr) (m : M) (z : SA) (bs : List Addr) (tb : List (List Route)), vs = [.ref s, .ref b] ∧ SvAt K H s m z ∧ Wf m ∧ Tabs (tE K) H ∧ TbAt H b bs tb ∧ tb.length = m.num ∧
  ∀ q H', Kt K H H' → Nw H q → H' q = some (.lst ((counted (unlike tb (tables m m.routes))).map V.int)) → Q (.ref q) H'
theorem unlike_len (tb ta : List (List Route)) : (unlike tb ta).length ≤ tb.length := by
  have h1 := List.length_filter_le (fun i => tb.getD i [] != ta.getD i []) (List.range tb.length)
  rw [List.length_range] at h1
  exact h1
theorem counted_nv (l : List Nat) : V.int ((nv l).length : Int) :: nv l = (counted l).map V.int := by
  unfold counted
  rw [nv_len, List.map_cons, nv_ints]
theorem sv_args (S : SvAt K H s m z) (W : Wf m) (t : Tabs (tE K) H) : TbArg K H s z.rts m z z.rR m.routes := ⟨S, W, S.rts, W.rs, W.many, t⟩
theorem ok_changed (T : Tx K mg base) : OkD P w K mg base 9 (ga K "changed_since") ["server", "before"] (spChanged K) := by
  obtain ⟨fd, F⟩ : ∃ fd, FunD K "changed_since" "changed_since" (defArgs (top 30)) (defBody (top 30)) (defScope (top 30)) [] [] (ga K "changed_since") fd := T.fn 11 _ rfl
  obtain ⟨_, G_counted, b_counted, k_counted⟩ := ok_counted (P := P) (w := w) T
  obtain ⟨_, G_unlike_places, b_unlike_places, k_unlike_places⟩ := ok_unlike (P := P) (w := w) T
  obtain ⟨_, G_tables_of, b_tables_of, k_tables_of⟩ := ok_tables_of (P := P) (w := w) T
  refine okD_mk F (F.ok sc30 (fun vs H Q E h => ?_) (fun cdv A outer s H vs Q E hr h => ?_)) (fun _ _ _ _ _ _ us hl => match us, hl with | [_, _], _ => rfl)
  · obtain ⟨_, _, _, _, _, _, rfl, _⟩ := h
    rfl
  · obtain ⟨sv, b, m, z, bs, tb, rfl, S, W, tabs, B, hl, q⟩ := h
    refine ⟨_, PSs.nox (pss_one (ps_ret (pe_call G_counted (hr.mono (by decide)) (by rfl) (T.glo "counted" (by decide +kernel)) k_counted b_counted .nil pass0 (pa_cons (pe_call G_unlike_places (hr.mono (by decide)) (by rfl) (T.glo "unlike_places" (by decide +kernel)) k_unlike_places b_unlike_places .nil pass0 (pa_cons (pv 1) (pa_cons (pe_call G_tables_of (hr.mono (by decide)) (by rfl) (T.glo "tables_of" (by decide +kernel)) k_tables_of b_tables_of .nil pass0 (pa_cons (pv 0) (pa_cons (pe_fld (pv 0) rfl) pa_nil))) pa_nil))) pa_nil)))), ?_⟩
    refine ⟨_, rfl, call_of (pa_c (pu_var rfl) (pa_c (pu_rts T S (pu_var rfl)) pa_n)) ⟨sv, z.rts, m, z, z.rR, m.routes, rfl, sv_args S W tabs, fun q1 ts H1 k1 n1 B1 f1 => ?_⟩⟩
    have hn := W.num
    refine ⟨b, q1, bs, ts, tb, tables m m.routes, rfl, B.keep k1, B1, by unfold tables; rw [List.length_map, List.length_range]; omega, by omega, fun q2 H2 k2 n2 h2 => ?_⟩
    have hu := unlike_len tb (tables m m.routes)
    refine ⟨q2, _, rfl, h2, by rw [nv_len]; omega, fun q3 H3 k3 n3 h3 => q q3 H3 (k1.trans (k2.trans k3)) (Nw.back (k1.trans k2) n3) ?_⟩
    rw [h3, counted_nv]
/-! ## uses -/
theorem sc53 : FnScope ["table", "member", "route"] ["table", "member"] (defScope (top 53)) := ⟨rfl, rfl, rfl, by decide +kernel, rfl, by decide +kernel, by decide +kernel⟩
def spUses (K : PySem.W.Frag) : Sp := fun vs H Q _ => ∃ (t : Addr) (k : Nat) (as : List Addr) (rs : List Route), vs = [.ref t, .int k] ∧ LsAt H t as rs ∧ rs.length ≤ 20 ∧ ∀ H', Kt K H H' → Q (.bl (rs.any fun r => r.announcer == k)) H'
theorem ok_uses (T : Tx K mg base) : OkD P w K mg base 1 (ga K "uses") ["table", "member"] (spUses K) := by
  obtain ⟨fd, F⟩ : ∃ fd, FunD K "uses" "uses" (defArgs (top 53)) (defBody (top 53)) (defScope (top 53)) [] [] (ga K "uses") fd := T.fn 31 _ rfl
  refine okD_mk F (F.ok sc53 (fun vs H Q E h => ?_) (fun cdv A outer s H vs Q E hr h => ?_)) (fun _ _ _ _ _ _ us hl => match us, hl with | [_, _], _ => rfl)
  · obtain ⟨_, _, _, _, rfl, _⟩ := h
    rfl
  · obtain ⟨t, k, as, rs, rfl, L, few, q⟩ := h
    refine ⟨_, PSs.nox (pss_one (ps_ret (pe_callB (cr_any rfl) (by rfl) (T.free "any" (by decide +kernel)) (by decide +kernel) (pa_cons (pe_lc (own := [("route", 2)]) (tt := tYes) (te := tOp rEq (tOp (rIxT K) (tVar 2) (tC (.int 0))) (tVar 1)) rfl sc53.nd (pi_list (pv 0)) (blkOk_by (N := ["table", "member", "route"]) (sc := defScope (top 53)) (by decide +kernel)) (fun _ _ _ _ _ => (pg_name (i := 2) sc53.nd rfl (Or.inl rfl))) (fun _ _ _ _ _ => pts_nil) (fun _ _ _ _ _ => (pe_cmpR op_eq (pe_ix ix_tup (pv 2) pe_int (fun _ _ => rfl)) (pv 1) (nomark _)))) pa_nil)))), ?_⟩
    have hlen := pair_len L.all
    refine ⟨_, rfl, t, rfl, ⟨_, SqL.of L.at_⟩, fun D hD => lc_w (K := K) (n := (as.map V.ref).length) walk_list hD (by rw [List.length_map]; omega) (fun i H2 acc => acc = ((rs.take i).map fun r => decide (r.announcer = k)).map V.bl) (fun H2 k2 => SqL.of (k2.lst L.at_)) rfl ?_ ?_ ?_ ?_⟩
    · rintro i H2 acc rfl
      rw [List.length_map, List.length_map, List.length_take]
      omega
    · rintro i H2 acc acc' o h _
      exact h
    · rintro i x H2 H' acc hi k2 hacc rfl ⟨rfl, hx⟩ N1 N0 n1 n0
      rw [List.getElem?_map] at hx
      cases e : as[i]? with
      | none =>
        rw [e] at hx
        cases hx
      | some a =>
        rw [e] at hx
        obtain rfl : V.ref a = x := Option.some.inj hx
        obtain ⟨r, hr2, hR⟩ := pair_getL L.all e
        refine ⟨rfl, iteT (B := N0 H') (pu_eqN (pu_ann (hR.keep k2) (pu_var rfl)) (pu_var rfl) _ (n1 _ _ (Kt.refl _) ?_))⟩
        rw [take_next hr2, List.map_append, List.map_append]
        rfl
    · rintro H2 acc k2 hacc rfl
      rw [List.length_map, hlen, List.take_length] at hacc
      refine ⟨D, _, rfl, SqL.of hacc, ?_⟩
      have e : ((rs.map fun r => decide (r.announcer = k)).any id) = rs.any fun r => r.announcer == k := by
        rw [List.any_map]
        congr 1
      rw [e]
      exact q _ k2
end
end Rs

/-! # The walk, part 9: the state's methods -/
namespace Rs
open PySem PySem.Spec PyProof.Rows L2 LamX NdefX
open Su201 (Route)
theorem put_here {f : Str} {v x : V} {r : List (Str × V)} : putF f v ((f, x) :: r) = (f, v) :: r := if_pos rfl
theorem put_past {f g : Str} {v x : V} {r : List (Str × V)} (h : ¬ g = f) : putF f v ((g, x) :: r) = (g, x) :: putF f v r := if_neg h
theorem put_made (m b : Bool) (z : SA) : putF "is_made" (.bl b) (sF m z) = sF b z := put_here
theorem put_asns (m : Bool) (z : SA) (a : Addr) : putF "asns" (.ref a) (sF m z) = sF m { z with asns := a } := (put_past (by decide +kernel)).trans (congrArg _ put_here)
theorem put_exps (m : Bool) (z : SA) (a : Addr) : putF "exports" (.ref a) (sF m z) = sF m { z with exps := a } := (put_past (by decide +kernel)).trans (congrArg _ ((put_past (by decide +kernel)).trans (congrArg _ put_here)))
theorem put_imps (m : Bool) (z : SA) (a : Addr) : putF "imports" (.ref a) (sF m z) = sF m { z with imps := a } := (put_past (by decide +kernel)).trans (congrArg _ ((put_past (by decide +kernel)).trans (congrArg _ ((put_past (by decide +kernel)).trans (congrArg _ put_here)))))
theorem put_prefs (m : Bool) (z : SA) (a : Addr) : putF "preferences" (.ref a) (sF m z) = sF m { z with prefs := a } := (put_past (by decide +kernel)).trans (congrArg _ ((put_past (by decide +kernel)).trans (congrArg _ ((put_past (by decide +kernel)).trans (congrArg _ ((put_past (by decide +kernel)).trans (congrArg _ put_here)))))))
theorem put_rts (m : Bool) (z : SA) (a : Addr) : putF "routes" (.ref a) (sF m z) = sF m { z with rts := a } := (put_past (by decide +kernel)).trans (congrArg _ ((put_past (by decide +kernel)).trans (congrArg _ ((put_past (by decide +kernel)).trans (congrArg _ ((put_past (by decide +kernel)).trans (congrArg _ ((put_past (by decide +kernel)).trans (congrArg _ put_here)))))))))
theorem put_new (m : Bool) (z : SA) : putF "routes" (.ref z.rts) (putF "preferences" (.ref z.prefs) (putF "imports" (.ref z.imps) (putF "exports" (.ref z.exps) (putF "asns" (.ref z.asns) (putF "is_made" (.bl m) []))))) = sF m z := by
  have e1 : putF "asns" (.ref z.asns) (putF "is_made" (.bl m) []) = ([("is_made", .bl m), ("asns", .ref z.asns)] : List (Str × V)) := (put_past (by decide +kernel)).trans rfl
  have e2 : putF "exports" (.ref z.exps) ([("is_made", .bl m), ("asns", .ref z.asns)] : List (Str × V)) = ([("is_made", .bl m), ("asns", .ref z.asns), ("exports", .ref z.exps)] : List (Str × V)) := (put_past (by decide +kernel)).trans (congrArg _ ((put_past (by decide +kernel)).trans rfl))
  have e3 : putF "imports" (.ref z.imps) ([("is_made", .bl m), ("asns", .ref z.asns), ("exports", .ref z.exps)] : List (Str × V)) = ([("is_made", .bl m), ("asns", .ref z.asns), ("exports", .ref z.exps), ("imports", .ref z.imps)] : List (Str × V)) := (put_past (by decide +kernel)).trans (congrArg _ ((put_past (by decide +kernel)).trans (congrArg _ ((put_past (by decide +kernel)).trans rfl))))
  have e4 : putF "preferences" (.ref z.prefs) ([("is_made", .bl m), ("asns", .ref z.asns), ("exports", .ref z.exps), ("imports", .ref z.imps)] : List (Str × V)) = ([("is_made", .bl m), ("asns", .ref z.asns), ("exports", .ref z.exps), ("imports", .ref z.imps), ("preferences", .ref z.prefs)] : List (Str × V)) := (put_past (by decide +kernel)).trans (congrArg _ ((put_past (by decide +kernel)).trans (congrArg _ ((put_past (by decide +kernel)).trans (congrArg _ ((put_past (by decide +kernel)).trans rfl))))))
  rw [e1, e2, e3, e4]
  exact (put_past (by decide +kernel)).trans (congrArg _ ((put_past (by decide +kernel)).trans (congrArg _ ((put_past (by decide +kernel)).trans (congrArg _ ((put_past (by decide +kernel)).trans (congrArg _ ((put_past (by decide +kernel)).trans rfl))))))))
section
variable {K : PySem.W.Frag} {mg : Str → Option Value} {base : Heap} {σ : L2.St} {H H0 : Hp} {ta tv : TE}
def PuO (t : TO) (σ : L2.St) (H : Hp) (o : Option Int) : Prop := ∀ Q : Option Int → Hp → Prop, Q o H → t σ H Q
theorem puo_n : PuO tNoPart σ H none := fun _ q => q
theorem puo_s {te : TE} {i : Int} (h : Pu te σ H (.int i)) : PuO (tPart te) σ H (some i) := fun _ q => h _ ⟨i, rfl, q⟩
/-- xs[lo:hi] of a list -/
theorem sl_of {tl th : TO} {lo hi : Option Int} {p : Addr} {xs : List V} {Q : VK} (ha : Pu ta σ H (.ref p)) (hl : PuO tl σ H lo) (hh : PuO th σ H hi) (h : SqL K H p xs) (q : ∀ p, H p = none → Q (.ref p) (upd H p (.lst (cutV xs lo hi)))) : tSl (rSlL K) ta tl th σ H Q :=
  ha _ (hl _ (hh _ ⟨p, xs, rfl, h, q⟩))
theorem cat_of {tb : TE} {a b : Addr} {xs ys : List V} {Q : VK} (ha : Pu ta σ H (.ref a)) (hb : Pu tb σ H (.ref b)) (h : H a = some (.lst xs)) (h2 : H b = some (.lst ys)) (hz : (xs ++ ys).length ≤ 100000) (q : ∀ p, H p = none → Q (.ref p) (upd H p (.lst (xs ++ ys)))) : tOp rCat ta tb σ H Q :=
  ha _ (hb _ ⟨a, b, xs, ys, rfl, rfl, h, h2, Nat.le_trans (by rw [← List.length_append]; exact hz) (by decide), q⟩)
/-- self.f = e -/
theorem fld_of {f : Str} {p C dx : Addr} {fs : List (Str × V)} {D : Ends} {v : V} (hv : Pu tv σ H v) (ha : Pu ta σ H (.ref p)) (h : H p = some (.ins C dx fs)) (c : Cls K C) (n : NoAttr K C f) (hz : fs.length ≤ 10) (q : D.nx σ (upd H p (.ins C dx (putF f v fs)))) : sFld K ta tv f D σ H :=
  hv _ (ha _ ⟨p, C, dx, fs, rfl, h, c, n, by omega, q⟩)
/-- where the attributes are being set: the lists L are new and empty -/
structure Stg (K : PySem.W.Frag) (s dx : Addr) (H0 H : Hp) (fs : List (Str × V)) (L : List Addr) : Prop where
  kb : Kb K [s] H0 H
  ins : H s = some (.ins (cS K) dx fs)
  nil : ∀ p ∈ L, H p = some (.lst [])
  fresh : ∀ p ∈ L, Nw H0 p
theorem Stg.set {s dx : Addr} {fs fs' : List (Str × V)} {L : List Addr} (S : Stg K s dx H0 H fs L) : Stg K s dx H0 (upd H s (.ins (cS K) dx fs')) fs' L :=
  ⟨S.kb.trans (Kb.put (by simp) (.inr ⟨_, _, _, S.ins⟩)), upd_same, fun p hp => by
    rw [upd_ne (ne_of (S.nil p hp) S.ins (by intro z; cases z))]
    exact S.nil p hp, S.fresh⟩
theorem Stg.new {s dx p : Addr} {fs : List (Str × V)} {L : List Addr} (S : Stg K s dx H0 H fs L) (hp : H p = none) : Stg K s dx H0 (upd H p (.lst [])) fs (p :: L) :=
  ⟨S.kb.trans (Kt.new hp).kb, (upd_ne (ne_of_none S.ins hp)).trans S.ins, fun q hq => by
    rcases List.mem_cons.mp hq with rfl | hq
    · exact upd_same
    · exact (upd_ne (ne_of_none (S.nil q hq) hp)).trans (S.nil q hq), fun q hq => by
    rcases List.mem_cons.mp hq with rfl | hq
    · refine Kb.back S.kb (fun y => ?_) (.of hp)
      rw [List.mem_singleton.mp y, S.ins] at hp
      cases hp
    · exact S.fresh q hq⟩
/-- self.f = [] -/
theorem stg_step {f : Str} {s dx : Addr} {fs : List (Str × V)} {L : List Addr} {D : Ends} (S : Stg K s dx H0 H fs L) (T : Tx K mg base) (hf : f ∈ attN) (hz : fs.length ≤ 10) (ha : ∀ H, Pu ta σ H (.ref s)) (q : ∀ p H', Stg K s dx H0 H' (putF f (.ref p) fs) (p :: L) → D.nx σ H') : sFld K ta (tLst tNil) f D σ H :=
  lst_of pa_n (by decide) fun p hp => by
    have S1 := S.new hp
    exact ha _ _ ⟨s, _, dx, fs, rfl, S1.ins, T.cl, T.na f hf, by omega, q p _ S1.set⟩
theorem putF_len (f : Str) (v : V) : ∀ fs : List (Str × V), (putF f v fs).length ≤ fs.length + 1
  | [] => Nat.le_refl _
  | (g, x) :: r => by
    unfold putF
    split
    · exact Nat.le_succ _
    · exact Nat.succ_le_succ (putF_len f v r)
theorem Stg.sv {s dx p1 p2 p3 p4 p5 : Addr} {b : Bool} {m : M} (S : Stg K s dx H0 H (sF b ⟨dx, p1, p2, p3, p4, p5, [], [], [], []⟩) [p5, p4, p3, p2, p1]) (hm : m = ⟨b, [], [], [], [], []⟩) : SvAt K H s m ⟨dx, p1, p2, p3, p4, p5, [], [], [], []⟩ := by
  subst hm
  exact ⟨S.ins, S.nil p1 (by simp), ⟨S.nil p2 (by simp), .nil⟩, ⟨S.nil p3 (by simp), .nil⟩, ⟨S.nil p4 (by simp), .nil⟩, ⟨S.nil p5 (by simp), .nil⟩, List.nodup_nil, by simp [SA.rows]⟩
end
section
variable {K : PySem.W.Frag} {mg : Str → Option Value} {base : Heap} {P : Program} {w : World}
/-! ## __init__, begin -/
theorem scm0 : FnScope ["self"] ["self"] (defScope (inClass (top 67) 0)) := ⟨rfl, rfl, rfl, by decide +kernel, rfl, by decide +kernel, by decide +kernel⟩
def spInit (K : PySem.W.Frag) : Sp := fun vs H Q _ => ∃ (s dx : Addr), vs = [.ref s] ∧ H s = some (.ins (cS K) dx []) ∧ ∀ H' z, Kb K [s] H H' → SvAt K H' s M.start z → z.rows = [] → Q .non H'
theorem ok_init (T : Tx K mg base) : OkD P w K mg base 1 (ma K "__init__") ["self"] (spInit K) := by
  obtain ⟨fd, F⟩ : ∃ fd, FunD K "__init__" "Server.__init__" (defArgs (inClass (top 67) 0)) (defBody (inClass (top 67) 0)) (defScope (inClass (top 67) 0)) [] [] (ma K "__init__") fd := T.fn 42 _ rfl
  refine okD_mk F (F.ok scm0 (fun vs H Q E h => ?_) (fun cdv A outer s H vs Q E hr h => ?_)) (fun _ _ _ _ _ _ us hl => match us, hl with | [_], _ => rfl)
  · obtain ⟨_, _, rfl, _⟩ := h
    rfl
  · obtain ⟨sv, dx, rfl, hi, q⟩ := h
    refine ⟨_, PSs.nox (pss_cons (ps_fld (pv 0) pe_bl rfl)
      (pss_cons (ps_fld (pv 0) (pe_lst pa_nil) rfl)
      (pss_cons (ps_fld (pv 0) (pe_lst pa_nil) rfl)
      (pss_cons (ps_fld (pv 0) (pe_lst pa_nil) rfl)
      (pss_cons (ps_fld (pv 0) (pe_lst pa_nil) rfl)
      (pss_one (ps_fld (pv 0) (pe_lst pa_nil) rfl))))))), ?_⟩
    have S0 : Stg K sv dx H H [] [] := ⟨(Kt.refl _).kb, hi, fun _ h => (List.not_mem_nil h).elim, fun _ h => (List.not_mem_nil h).elim⟩
    refine fld_of pu_c (pu_var rfl) hi T.cl (T.na _ (by decide +kernel)) (by decide) ?_
    have v0 : ∀ H, Pu (tVar 0) (L2.start ["self"] [.ref sv]) H (.ref sv) := fun H => pu_var rfl
    have l1 := putF_len "is_made" (.bl false) []
    refine stg_step (S0.set (fs' := putF "is_made" (.bl false) [])) T (by decide +kernel) (by simp only [List.length_nil] at l1; omega) v0 fun p1 H1 S1 => ?_
    have l2 := putF_len "asns" (.ref p1) (putF "is_made" (.bl false) [])
    refine stg_step S1 T (by decide +kernel) (by simp only [List.length_nil] at l1; omega) v0 fun p2 H2 S2 => ?_
    have l3 := putF_len "exports" (.ref p2) (putF "asns" (.ref p1) (putF "is_made" (.bl false) []))
    refine stg_step S2 T (by decide +kernel) (by simp only [List.length_nil] at l1; omega) v0 fun p3 H3 S3 => ?_
    have l4 := putF_len "imports" (.ref p3) (putF "exports" (.ref p2) (putF "asns" (.ref p1) (putF "is_made" (.bl false) [])))
    refine stg_step S3 T (by decide +kernel) (by simp only [List.length_nil] at l1; omega) v0 fun p4 H4 S4 => ?_
    have l5 := putF_len "preferences" (.ref p4) (putF "imports" (.ref p3) (putF "exports" (.ref p2) (putF "asns" (.ref p1) (putF "is_made" (.bl false) []))))
    refine stg_step S4 T (by decide +kernel) (by simp only [List.length_nil] at l1; omega) v0 fun p5 H5 S5 => ?_
    rw [put_new false ⟨dx, p1, p2, p3, p4, p5, [], [], [], []⟩] at S5
    exact q H5 _ S5.kb (S5.sv rfl) rfl
theorem scm1 : FnScope ["self"] ["self"] (defScope (inClass (top 67) 1)) := ⟨rfl, rfl, rfl, by decide +kernel, rfl, by decide +kernel, by decide +kernel⟩
def spBegin (K : PySem.W.Frag) : Sp := fun vs H Q _ => ∃ (s : Addr) (m : M) (z : SA), vs = [.ref s] ∧ SvAt K H s m z ∧ ∀ H' z', Kb K [s] H H' → SvAt K H' s M.fresh z' → z'.rows = [] → (∀ a ∈ z'.tops, Nw H a) → Q .non H'
theorem ok_begin (T : Tx K mg base) : OkD P w K mg base 1 (ma K "begin") ["self"] (spBegin K) := by
  obtain ⟨fd, F⟩ : ∃ fd, FunD K "begin" "Server.begin" (defArgs (inClass (top 67) 1)) (defBody (inClass (top 67) 1)) (defScope (inClass (top 67) 1)) [] [] (ma K "begin") fd := T.fn 43 _ rfl
  refine okD_mk F (F.ok scm1 (fun vs H Q E h => ?_) (fun cdv A outer s H vs Q E hr h => ?_)) (fun _ _ _ _ _ _ us hl => match us, hl with | [_], _ => rfl)
  · obtain ⟨_, _, _, rfl, _⟩ := h
    rfl
  · obtain ⟨sv, m, z, rfl, S, q⟩ := h
    refine ⟨_, PSs.nox (pss_cons (ps_fld (pv 0) pe_bl rfl)
      (pss_cons (ps_fld (pv 0) (pe_lst pa_nil) rfl)
      (pss_cons (ps_fld (pv 0) (pe_lst pa_nil) rfl)
      (pss_cons (ps_fld (pv 0) (pe_lst pa_nil) rfl)
      (pss_cons (ps_fld (pv 0) (pe_lst pa_nil) rfl)
      (pss_one (ps_fld (pv 0) (pe_lst pa_nil) rfl))))))), ?_⟩
    have S0 : Stg K sv z.dx H H (sF m.made z) [] := ⟨(Kt.refl _).kb, S.ins, fun _ h => (List.not_mem_nil h).elim, fun _ h => (List.not_mem_nil h).elim⟩
    refine fld_of pu_c (pu_var rfl) S.ins T.cl (T.na _ (by decide +kernel)) (by show 6 ≤ 10; decide) ?_
    have v0 : ∀ H, Pu (tVar 0) (L2.start ["self"] [.ref sv]) H (.ref sv) := fun H => pu_var rfl
    rw [put_made]
    refine stg_step (S0.set (fs' := sF true z)) T (by decide +kernel) (by show 6 ≤ 10; decide) v0 fun p1 H1 S1 => ?_
    rw [put_asns] at S1
    refine stg_step S1 T (by decide +kernel) (by show 6 ≤ 10; decide) v0 fun p2 H2 S2 => ?_
    rw [put_exps] at S2
    refine stg_step S2 T (by decide +kernel) (by show 6 ≤ 10; decide) v0 fun p3 H3 S3 => ?_
    rw [put_imps] at S3
    refine stg_step S3 T (by decide +kernel) (by show 6 ≤ 10; decide) v0 fun p4 H4 S4 => ?_
    rw [put_prefs] at S4
    refine stg_step S4 T (by decide +kernel) (by show 6 ≤ 10; decide) v0 fun p5 H5 S5 => ?_
    rw [put_rts] at S5
    exact q H5 ⟨z.dx, p1, p2, p3, p4, p5, [], [], [], []⟩ S5.kb (Stg.sv S5 rfl) rfl fun a h => S5.fresh a (by
      unfold SA.tops at h
      simp only [List.mem_cons, List.not_mem_nil, or_false] at h ⊢
      rcases h with h | h | h | h | h <;> simp [h])
/-! ## keep_routes -/
theorem SvAt.routes {K : PySem.W.Frag} {H : Hp} {s l : Addr} {m : M} {z : SA} {as : List Addr} {rs : List Route} (S : SvAt K H s m z) (L : LsAt H l as rs) : SvAt K (upd H s (.ins (cS K) z.dx (sF m.made { z with rts := l }))) s { m with routes := rs } { z with rts := l, rR := as } := by
  have nl : ∀ {a : Addr} {xs : List V}, H a = some (.lst xs) → upd H s (.ins (cS K) z.dx (sF m.made { z with rts := l })) a = some (.lst xs) := fun h => (upd_ne (ne_of h S.ins (by intro z; cases z))).trans h
  have nt : ∀ {a : Addr} {xs : List V}, H a = some (.tup xs) → upd H s (.ins (cS K) z.dx (sF m.made { z with rts := l })) a = some (.tup xs) := fun h => (upd_ne (ne_of h S.ins (by intro z; cases z))).trans h
  have g : ∀ {a : Addr} {as : List Addr} {g : List (List Nat)}, GrAt H a as g → GrAt (upd H s (.ins (cS K) z.dx (sF m.made { z with rts := l }))) a as g := fun h => ⟨nl h.at_, pair_mono h.all fun _ _ q => nl q⟩
  exact ⟨upd_same, nl S.asns, g S.exps, g S.imps, g S.prefs, ⟨nl L.at_, pair_mono L.all fun _ _ ⟨p, h1, h2⟩ => ⟨p, nt h1, nt h2⟩⟩, S.nd, S.na⟩
theorem scm8 : FnScope ["self", "routes"] ["self", "routes"] (defScope (inClass (top 67) 8)) := ⟨rfl, rfl, rfl, by decide +kernel, rfl, by decide +kernel, by decide +kernel⟩
def spKeep (K : PySem.W.Frag) : Sp := fun vs H Q _ => ∃ (s l : Addr) (m : M) (z : SA) (as : List Addr) (rs : List Route), vs = [.ref s, .ref l] ∧ SvAt K H s m z ∧ LsAt H l as rs ∧ ∀ H' z', Kb K [s] H H' → SvAt K H' s { m with routes := rs } z' → z'.rows = z.rows → (∀ a ∈ z'.tops, a ∈ z.tops ∨ a = l) → Q .non H'
theorem ok_keep (T : Tx K mg base) : OkD P w K mg base 1 (ma K "keep_routes") ["self", "routes"] (spKeep K) := by
  obtain ⟨fd, F⟩ : ∃ fd, FunD K "keep_routes" "Server.keep_routes" (defArgs (inClass (top 67) 8)) (defBody (inClass (top 67) 8)) (defScope (inClass (top 67) 8)) [] [] (ma K "keep_routes") fd := T.fn 50 _ rfl
  refine okD_mk F (F.ok scm8 (fun vs H Q E h => ?_) (fun cdv A outer s H vs Q E hr h => ?_)) (fun _ _ _ _ _ _ us hl => match us, hl with | [_, _], _ => rfl)
  · obtain ⟨_, _, _, _, _, _, rfl, _⟩ := h
    rfl
  · obtain ⟨sv, l, m, z, as, rs, rfl, S, L, q⟩ := h
    refine ⟨_, PSs.nox (pss_one (ps_fld (pv 0) (pv 1) rfl)), ?_⟩
    refine fld_of (pu_var rfl) (pu_var rfl) S.ins T.cl (T.na _ (by decide +kernel)) (by show 6 ≤ 10; decide) ?_
    rw [put_rts]
    exact q _ _ (Kb.put (by simp) (.inr ⟨_, _, _, S.ins⟩)) (S.routes L) rfl fun a h => by
      unfold SA.tops at h ⊢
      simp only [List.mem_cons, List.not_mem_nil, or_false] at h ⊢
      rcases h with h | h | h | h | h <;> simp [h]
/-! ## routes_but, put_route -/
theorem cut_take (xs : List V) (i : Nat) : cutV xs none (some (i : Int)) = xs.take i := by
  unfold cutV
  rw [HT.sIx_none, HT.sIx_nat, List.drop_zero, Nat.sub_zero]
  by_cases h : i ≤ xs.length
  · rw [Nat.min_eq_left h]
  · rw [Nat.min_eq_right (by omega), List.take_length, List.take_of_length_le (by omega)]
theorem cut_drop (xs : List V) (i : Nat) : cutV xs (some ((i : Int) + 1)) none = xs.drop (i + 1) := by
  unfold cutV
  have e : ((i : Int) + 1) = ((i + 1 : Nat) : Int) := by omega
  rw [HT.sIx_none, e, HT.sIx_nat]
  by_cases h : i + 1 ≤ xs.length
  · rw [Nat.min_eq_left h, List.take_of_length_le]
    rw [List.length_drop]
    exact Nat.le_refl _
  · rw [Nat.min_eq_right (by omega), List.drop_length, List.drop_of_length_le (by omega), List.take_nil]
theorem pair_take {α β : Type} {F : α → β → Prop} : ∀ {l : List α} {r : List β} (i : Nat), Paired F l r → Paired F (l.take i) (r.take i)
  | _, _, 0, _ => .nil
  | _, _, _ + 1, .nil => .nil
  | _, _, i + 1, .cons h t => .cons h (pair_take i t)
theorem pair_drop {α β : Type} {F : α → β → Prop} : ∀ {l : List α} {r : List β} (i : Nat), Paired F l r → Paired F (l.drop i) (r.drop i)
  | _, _, 0, h => h
  | _, _, _ + 1, .nil => .nil
  | _, _, i + 1, .cons _ t => pair_drop i t
theorem scm7 : FnScope ["self", "member", "prefix", "place"] ["self", "member", "prefix"] (defScope (inClass (top 67) 7)) := ⟨rfl, rfl, rfl, by decide +kernel, rfl, by decide +kernel, by decide +kernel⟩
def spBut (K : PySem.W.Frag) : Sp := fun vs H Q _ => ∃ (s pf : Addr) (k a l i : Nat) (m : M) (z : SA), vs = [.ref s, .int k, .ref pf] ∧ SvAt K H s m z ∧ m.routes.length ≤ 20 ∧ PrAt H pf (a, l) ∧ place m.routes k a l = some i ∧ ∀ q bs H', Kt K H H' → Nw H q → LsAt H' q bs (but m.routes i) → Q (.ref q) H'
theorem but_is (rs : List Route) (i : Nat) : but rs i = rs.take i ++ rs.drop (i + 1) := by
  unfold but
  rw [List.eraseIdx_eq_take_drop_succ]
theorem ok_but (T : Tx K mg base) : OkD P w K mg base 2 (ma K "routes_but") ["self", "member", "prefix"] (spBut K) := by
  obtain ⟨fd, F⟩ : ∃ fd, FunD K "routes_but" "Server.routes_but" (defArgs (inClass (top 67) 7)) (defBody (inClass (top 67) 7)) (defScope (inClass (top 67) 7)) [] [] (ma K "routes_but") fd := T.fn 49 _ rfl
  obtain ⟨_, G_m_place_of, b_m_place_of, k_m_place_of⟩ := ok_place_of (P := P) (w := w) T
  refine okD_mk F (F.ok scm7 (fun vs H Q E h => ?_) (fun cdv A outer s H vs Q E hr h => ?_)) (fun _ _ _ _ _ _ us hl => match us, hl with | [_, _, _], _ => rfl)
  · obtain ⟨_, _, _, _, _, _, _, _, rfl, _⟩ := h
    rfl
  · obtain ⟨sv, pf, k, a, l, i, m, z, rfl, S, few, hpf, hpl, q⟩ := h
    refine ⟨_, PSs.nox (pss_cons (ps_set (i := 3) scm7.nd rfl (Or.inl rfl) (pe_meth (pv 0) T.cl (T.me "place_of" (by decide +kernel)) G_m_place_of (hr.mono (by decide)) b_m_place_of .nil pass0 (pa_cons (pv 1) (pa_cons (pv 2) pa_nil))))
      (pss_one (ps_ret (pe_op op_cat (pe_slice sl_list (pe_fld (pv 0) rfl) po_none (po_some (pv 3))) (pe_slice sl_list (pe_fld (pv 0) rfl) (po_some (pe_op op_add (pv 3) pe_int)) po_none))))), ?_⟩
    refine st_setG (meth_of (pu_var rfl) S.ins (sF_none _ _ (by decide +kernel)) (pa_c (pu_var rfl) (pa_c (pu_var rfl) pa_n)) ⟨sv, pf, k, a, l, m, z, rfl, S, hpf, fun H1 k1 => ?_⟩)
    rw [hpl]
    have S1 := S.keep k1
    refine st_retG (op_of (sl_of (K := K) (lo := none) (hi := some (i : Int)) (pu_rts T S1 (pu_var rfl)) puo_n (puo_s (pu_var rfl)) (SqL.of S1.rts.at_) fun p hp => ?_))
    have k2 : Kt K H1 (upd H1 p (.lst (cutV (z.rR.map V.ref) none (some (i : Int))))) := Kt.new hp
    have S2 := S1.keep k2
    refine sl_of (K := K) (lo := some ((i : Int) + 1)) (hi := none) (pu_rts T S2 (pu_var rfl)) (puo_s (pu_I (pu_var rfl) pu_c)) puo_n (SqL.of S2.rts.at_) fun p2 hp2 => ?_
    have k3 : Kt K _ (upd (upd H1 p (.lst (cutV (z.rR.map V.ref) none (some (i : Int))))) p2 (.lst (cutV (z.rR.map V.ref) (some ((i : Int) + 1)) none))) := Kt.new hp2
    have hl := pair_len S.rts.all
    refine ⟨p, p2, _, _, rfl, rfl, k3.lst upd_same, upd_same, ?_, fun p3 hp3 => ?_⟩
    · have h1 := cutV_length (z.rR.map V.ref) none (some (i : Int))
      have h2 := cutV_length (z.rR.map V.ref) (some ((i : Int) + 1)) none
      rw [List.length_map] at h1 h2
      exact Nat.le_trans (show _ ≤ 1000 by omega) (by decide)
    · have k123 := k1.trans (k2.trans k3)
      refine q p3 (z.rR.take i ++ z.rR.drop (i + 1)) _ (k123.trans (Kt.new hp3)) (Nw.back k123 (.of hp3)) ⟨?_, ?_⟩
      · rw [upd_same, cut_take, cut_drop, List.map_append, List.map_take, List.map_drop]
      · rw [but_is]
        have kk := k123.trans (Kt.new (o := .lst (cutV (z.rR.map V.ref) none (some (i : Int)) ++ cutV (z.rR.map V.ref) (some ((i : Int) + 1)) none)) hp3)
        have hp := (S.rts.keep kk).all
        exact pair_app (pair_take i hp) (pair_drop (i + 1) hp)
end
end Rs

/-! # The walk, part 10: is_asn, is_path -/
namespace Rs
open PySem PySem.Spec PyProof.Rows L2 LamX NdefX
open Su201 (Route)
/-! ## len(set(xs)) of zInts -/
def metC (ns : List Int) : Nat := (firstMet (fun i => ns.getD i 0) ns.length).length
theorem range_get (ns : List Int) : (List.range ns.length).map (fun i => ns.getD i 0) = ns := by
  refine List.ext_getElem (by rw [List.length_map, List.length_range]) fun i h1 h2 => ?_
  rw [List.getElem_map, List.getElem_range, List.getD_eq_getElem?_getD, List.getElem?_eq_getElem h2]
  rfl
theorem dd_le : ∀ (l acc : List Int), (l.foldl step_dedup acc).length ≤ acc.length + l.length
  | [], _ => Nat.le_refl _
  | y :: l, acc => by
    have h := dd_le l (step_dedup acc y)
    have h2 : (step_dedup acc y).length ≤ acc.length + 1 := by
      unfold step_dedup
      split
      · omega
      · rw [List.length_append]
        exact Nat.le_refl _
    rw [List.foldl_cons, List.length_cons]
    omega
theorem dd_lt : ∀ (l acc : List Int), (¬ l.Nodup ∨ ∃ x ∈ l, x ∈ acc) → (l.foldl step_dedup acc).length < acc.length + l.length
  | [], _, h => by
    rcases h with h | ⟨_, h, _⟩
    · exact absurd List.nodup_nil h
    · cases h
  | y :: l, acc, h => by
    rw [List.foldl_cons, List.length_cons]
    by_cases c : acc.any (· == y) = true
    · rw [show step_dedup acc y = acc from if_pos c]
      have := dd_le l acc
      omega
    · have hy : y ∉ acc := fun hy => c (List.any_eq_true.mpr ⟨y, hy, beq_self_eq_true y⟩)
      rw [show step_dedup acc y = acc ++ [y] from if_neg c]
      have h2 := dd_lt l (acc ++ [y]) (by
        rcases h with h | ⟨x, hx, h3⟩
        · rw [List.nodup_cons] at h
          by_cases d : y ∈ l
          · exact .inr ⟨y, d, by simp⟩
          · exact .inl fun z => h ⟨d, z⟩
        · rcases List.mem_cons.mp hx with rfl | hx
          · exact absurd h3 hy
          · exact .inr ⟨x, hx, by simp [h3]⟩)
      rw [List.length_append] at h2
      show _ < _
      simp only [List.length_cons, List.length_nil] at h2
      omega
theorem met_nodup {ns : List Int} (h : ns.Nodup) : metC ns = ns.length := by
  unfold metC
  rw [L2.firstMet_nodup ns h ns.length (Nat.le_refl _), List.take_length]
theorem met_twice {ns : List Int} (h : ¬ ns.Nodup) : metC ns < ns.length := by
  unfold metC firstMet
  rw [range_get]
  have := dd_lt ns [] (.inl h)
  simpa using this
section
variable {X : Cx}
def tLenSet2 (K : PySem.W.Frag) (ta : TE) : TE := fun σ H Q => ta σ H fun x H1 => ∃ (l : Addr) (ns : List Int), x = V.ref l ∧ SqL K H1 l (ns.map V.int) ∧ ns.length < 64 ∧ Q (.int (metC ns : Int)) H1
theorem pe_lenSet2 {a : Expr} {ta : TE} {p p2 q pos : Pos} (hc : X.calm = true) (hg : Gl X "len") (hm : X.mg "len" = none) (hg2 : Gl X "set") (hm2 : X.mg "set" = none) (ha : PE X a ta)
    (na : starEach [a] X.env = (false, eval a X.env) :: starEach [] X.env := by rfl) : PE X (.Call (.Name "len" p) [.Call (.Name "set" p2) [a] [] q] [] pos) (tLenSet2 X.K ta) := by
  refine ⟨fun held at0 τ G R J hw => ?_⟩
  -- len, then set, then what they are asked of
  refine Call_ (ld_blt J hg hm boot_len (callWith_builtin1 (args_cons ?_ rfl) rfl rfl))
  refine Call_ (ld_blt J hg2 hm2 boot_set (callWith_type1 (args_cons (thn (ha.run held at0 τ G _ J hw) fun _ at1 ⟨x, G1, J1, rx, qx⟩ => args_nil ?_) na) na rfl))
  obtain ⟨l, ns, rfl, lies, few, qx⟩ := qx
  cases rx
  obtain ⟨us, same, isl, _⟩ := J1.list lies
  have size : us.toArray.size = ns.length := (List.size_toArray ..).trans (same.length.symm.trans (List.length_map ..))
  refine call_set_list (ns := ns) (J1.ok.hd hc) isl.isList (by simpa using same.ints) (by unfold scanBound; omega) fun g tk made keep => ?_
  rw [size] at made
  have most := firstMet_length_le (fun i => ns.getD i 0) ns.length
  obtain ⟨_, _, _, _, m1, m2, m3, _, _, _, m4, m5⟩ := made
  have J2 : Inv X held τ G1 { at1 with heap := g, toks := tk } := J1.kept fun _ _ e => keep _ _ (Heap.lt_size e) e
  exact args_nil (call_len_set m1 m2 m3 m4 (by rw [m5] <;> omega) ⟨.int (metC ns : Int), G1, J2.tok _, ⟨_, by rw [m5]; rfl⟩, qx⟩)
end
section
variable {K : PySem.W.Frag} {mg : Str → Option Value} {base : Heap} {σ : L2.St} {H : Hp} {t u : TT} {te : TE}
theorem ite_t {b : Bool} {A B : Prop} (e : b = true) (h : A) : if b = true then A else B := by
  rw [if_pos e]
  exact h
theorem ite_f {b : Bool} {A B : Prop} (e : b = false) (h : B) : if b = true then A else B := by
  rw [e, if_neg Bool.false_ne_true]
  exact h
theorem st_ifG {c : TT} {a b : TS} {D : Ends} (h : c σ H fun k H1 => if k = true then a D σ H1 else b D σ H1) : tIfS c a b D σ H := h
theorem t_or {Q : Bool → Hp → Prop} (h : t σ H fun b H1 => if b = true then Q true H1 else u σ H1 Q) : tOr t u σ H Q := h
theorem t_not {Q : Bool → Hp → Prop} (h : t σ H fun b H1 => Q (!b) H1) : tNot t σ H Q := h
theorem t_and {Q : Bool → Hp → Prop} (h : t σ H fun b H1 => if b = true then u σ H1 Q else Q false H1) : tAnd t u σ H Q := h
theorem dNl_shaped (l : List Nat) : SeqAt.shaped (.list (dN l)) = true := by
  obtain ⟨h1, h2⟩ := dN_all l
  unfold SeqAt.shaped
  rw [Bool.and_eq_true, decide_eq_true_eq]
  refine ⟨by simp only [PyData.canLay0]; exact h1, ?_⟩
  simp only [PyData.depth]
  omega
theorem pu_lenSet {l : Addr} {ns : List Int} (he : Pu te σ H (.ref l)) (h : SqL K H l (ns.map V.int)) (hz : ns.length < 64) : Pu (tLenSet2 K te) σ H (.int (metC ns : Int)) := fun _ q => he _ ⟨l, ns, rfl, h, hz, q⟩
/-- path == [] -/
theorem eq_nilN {l : Addr} {xs : List Nat} {Q : Bool → Hp → Prop} (h : H l = some (.lst (nv xs))) (he : Pu te σ H (.ref l)) (q : ∀ H', Kt K H H' → Q xs.isEmpty H') : tTest (tOp (rEqD K) te (tLst tNil)) σ H Q := by
  refine he _ (lst_of pa_n (by decide) fun p hp => ?_)
  refine ⟨.list (dN xs), .list (dN []), .lst (SqL.of ((Kt.new (K := K) hp).lst h)) (dp_nv xs), .lst (SqL.of upd_same) .nil, dNl_shaped _, dNl_shaped _, _, rfl, ?_⟩
  have e0 : PyData.eqv (.list (dN xs)) (.list (dN [])) = xs.isEmpty := by
    simp only [PyData.eqv]
    rw [dN_eqv]
    cases xs <;> rfl
  rw [e0]
  exact q _ (Kt.new hp)
end
section
variable {K : PySem.W.Frag} {mg : Str → Option Value} {base : Heap} {P : Program} {w : World}
/-! ## is_asn -/
theorem sc33 : FnScope ["number"] ["number"] (defScope (top 33)) := ⟨rfl, rfl, rfl, by decide +kernel, rfl, by decide +kernel, by decide +kernel⟩
def isAsn (x : Nat) : Bool := decide (1 ≤ x) && decide (x ≤ 9999)
def spIsAsn : Sp := fun vs H Q _ => ∃ x : Nat, vs = [.int x] ∧ Q (.bl (isAsn x)) H
theorem ok_is_asn (T : Tx K mg base) : OkD P w K mg base 1 (ga K "is_asn") ["number"] spIsAsn := by
  obtain ⟨fd, F⟩ : ∃ fd, FunD K "is_asn" "is_asn" (defArgs (top 33)) (defBody (top 33)) (defScope (top 33)) [] [] (ga K "is_asn") fd := T.fn 13 _ rfl
  refine okD_mk F (F.ok sc33 (fun vs H Q E h => ?_) (fun cdv A outer s H vs Q E hr h => ?_)) (fun _ _ _ _ _ _ us hl => match us, hl with | [_], _ => rfl)
  · obtain ⟨_, rfl, _⟩ := h
    rfl
  · obtain ⟨x, rfl, q⟩ := h
    refine ⟨_, PSs.nox (pss_one (ps_ret (pe_chain op_le op_le pe_int (pv 0) (pe_gi T 9999)))), ?_⟩
    refine st_ret (pu_chain pu_c (pu_var rfl) pu_c (fun Q q => ⟨_, _, rfl, rfl, q⟩) (fun Q q => ⟨_, _, rfl, rfl, q⟩)) ?_
    have e : (decide ((1 : Int) ≤ (x : Int)) && decide ((x : Int) ≤ 9999)) = isAsn x := by
      unfold isAsn
      rw [Bool.eq_iff_iff, Bool.and_eq_true, Bool.and_eq_true, decide_eq_true_eq, decide_eq_true_eq, decide_eq_true_eq, decide_eq_true_eq]
      omega
    show Q (V.bl (_ && _)) H
    rw [e]
    exact q
/-! ## is_path -/
theorem sc34 : FnScope ["path", "asn", "one"] ["path", "asn"] (defScope (top 34)) := ⟨rfl, rfl, rfl, by decide +kernel, rfl, by decide +kernel, by decide +kernel⟩
def spIsPath (K : PySem.W.Frag) : Sp := fun vs H Q _ => ∃ (p : Addr) (path : List Nat) (asn : Nat), vs = [.ref p, .int asn] ∧ H p = some (.lst (nv path)) ∧ ∀ H', Kt K H H' → Q (.bl (isPath path asn)) H'
theorem isPath_f1 {path : List Nat} {asn : Nat} (h : path = [] ∨ 6 < path.length ∨ path.headD 0 ≠ asn) : isPath path asn = false := by
  unfold isPath
  rw [if_pos h]
theorem int_nodup {l : List Nat} : (zInts l).Nodup ↔ l.Nodup := by
  unfold zInts
  rw [List.nodup_iff_pairwise_ne, List.nodup_iff_pairwise_ne, List.pairwise_map]
  constructor
  · intro h
    exact h.imp fun {a b} q z => q (by rw [z])
  · intro h
    exact h.imp fun {a b} q z => q (by omega)
theorem ok_is_path (T : Tx K mg base) : OkD P w K mg base 2 (ga K "is_path") ["path", "asn"] (spIsPath K) := by
  obtain ⟨fd, F⟩ : ∃ fd, FunD K "is_path" "is_path" (defArgs (top 34)) (defBody (top 34)) (defScope (top 34)) [] [] (ga K "is_path") fd := T.fn 14 _ rfl
  obtain ⟨_, G_is_asn, b_is_asn, k_is_asn⟩ := ok_is_asn (P := P) (w := w) T
  refine okD_mk F (F.ok sc34 (fun vs H Q E h => ?_) (fun cdv A outer s H vs Q E hr h => ?_)) (fun _ _ _ _ _ _ us hl => match us, hl with | [_, _], _ => rfl)
  · obtain ⟨_, _, _, rfl, _⟩ := h
    rfl
  · obtain ⟨p, path, asn, rfl, hp, q⟩ := h
    refine ⟨_, PSs.nox (pss_cons (ps_if (PW.pt (pw_or (pt_cmpR (op_eqD hr.units) (pv 0) (pe_lst pa_nil) (nomark _)) (pw_or (pt_cmpR op_gt (pe_callB call_len_seq (by rfl) (T.free "len" (by decide +kernel)) boot_len (pa_cons (pv 0) pa_nil)) (pe_gi T 6) (nomark _)) (pw_or1 (pt_cmpR op_ne (pe_ix ix_list (pv 0) pe_int (fun _ _ => rfl)) (pv 1) (nomark _)))))) (pss_one (ps_ret pe_bl)) pss_nil)
      (pss_cons (ps_if (pt_cmpR op_lt (pe_lenSet2 rfl (by rfl) (T.free "len" (by decide +kernel)) (by rfl) (T.free "set" (by decide +kernel)) (pv 0)) (pe_callB call_len_seq (by rfl) (T.free "len" (by decide +kernel)) boot_len (pa_cons (pv 0) pa_nil)) (nomark _)) (pss_one (ps_ret pe_bl)) pss_nil)
      (pss_one (ps_ret (pe_callB (cr_all rfl) (by rfl) (T.free "all" (by decide +kernel)) (by decide +kernel) (pa_cons (pe_lc (own := [("one", 2)]) (tt := tYes) (te := tCall spIsAsn [] E0 (tCons (tVar 2) tNil)) rfl sc34.nd (pi_list (pv 0)) (blkOk_by (N := ["path", "asn", "one"]) (sc := defScope (top 34)) (by decide +kernel)) (fun _ _ _ _ _ => (pg_name (i := 2) sc34.nd rfl (Or.inl rfl))) (fun _ _ _ _ _ => pts_nil) (fun _ _ _ _ _ => (pe_call G_is_asn (hr.mono (by decide)) (by rfl) (T.glo "is_asn" (by decide +kernel)) k_is_asn b_is_asn .nil pass0 (pa_cons (pv 2) pa_nil)))) pa_nil)))))), ?_⟩
    refine st_ifG (t_or (eq_nilN hp (pu_var rfl) fun H1 k1 => ?_))
    cases path with
    | nil => 
      refine iteT (B := _) (iteT (B := _) (st_ret pu_c ?_))
      have e := isPath_f1 (path := []) (asn := asn) (.inl rfl)
      rw [e] at q
      exact q _ k1
    | cons x path =>
      refine iteF (A := _) ?_
      have hp1 := k1.lst hp
      have hlen : ((nv (x :: path)).length : Int) = ((x :: path).length : Int) := by rw [nv_len]
      refine put_or (put_test (pu_I (i := ((nv (x :: path)).length : Int)) (pu_len (pu_var rfl) (.inl (SqL.of hp1))) pu_c)) (fun _ => put_test (pu_neN (i := x) (j := asn) (pu_ixL (i := 0) (pu_var rfl) pu_c (SqL.of hp1) rfl) (pu_var rfl))) _ ?_
      rw [hlen]
      by_cases c : 6 < (x :: path).length ∨ x ≠ asn
      · have e : isPath (x :: path) asn = false := isPath_f1 (.inr c)
        rw [e] at q
        have e2 : (decide (((x :: path).length : Int) > 6) || !decide (x = asn)) = true := by
          rw [Bool.or_eq_true, decide_eq_true_eq, Bool.not_eq_true', decide_eq_false_iff_not]
          rcases c with c | c
          · exact .inl (by omega)
          · exact .inr c
        exact ite_t e2 (st_ret pu_c (q _ k1))
      · have e2 : (decide (((x :: path).length : Int) > 6) || !decide (x = asn)) = false := by
          rw [Bool.or_eq_false_iff, decide_eq_false_iff_not, Bool.not_eq_false', decide_eq_true_eq]
          refine ⟨fun z => c (.inl (by omega)), Classical.not_not.mp fun z => c (.inr z)⟩
        have h6 : (x :: path).length ≤ 6 := by
          refine Nat.le_of_not_lt fun z => c (.inl z)
        have hx : x = asn := Classical.not_not.mp fun z => c (.inr z)
        have eno : ¬ (x :: path = [] ∨ 6 < (x :: path).length ∨ (x :: path).headD 0 ≠ asn) := by
          rintro (z | z | z)
          · cases z
          · omega
          · exact z hx
        refine ite_f e2 ?_
        have hs : SqL K H1 p ((zInts (x :: path)).map V.int) := by
          rw [← nv_ints]
          exact SqL.of hp1
        have hil : (zInts (x :: path)).length = (x :: path).length := by unfold zInts; rw [List.length_map]
        refine st_if (k := decide ((metC (zInts (x :: path)) : Int) < ((nv (x :: path)).length : Int))) (put_test (pu_I (g := fun i j => .bl (decide (i < j))) (pu_lenSet (pu_var rfl) hs (by omega)) (pu_len (pu_var rfl) (.inl (SqL.of hp1))))) (fun e3 => st_ret pu_c ?_) fun e3 => ?_
        · have hn : ¬ (x :: path).Nodup := fun z => by
            have h1 := met_nodup (int_nodup.mpr z)
            rw [decide_eq_true_eq] at e3
            omega
          have e : isPath (x :: path) asn = false := by
            unfold isPath
            rw [if_neg eno, if_pos hn]
          rw [e] at q
          exact q _ k1
        · have hn : (x :: path).Nodup := Classical.not_not.mp fun z => by
            have h1 := met_twice (fun y => z (int_nodup.mp y))
            rw [decide_eq_false_iff_not] at e3
            omega
          have e : isPath (x :: path) asn = (x :: path).all isAsn := by
            unfold isPath
            rw [if_neg eno, if_neg (fun z => z hn)]
            rfl
          rw [e] at q
          refine ⟨_, rfl, p, rfl, ⟨_, SqL.of hp1⟩, fun D hD => lc_w (K := K) (n := (nv (x :: path)).length) walk_list hD (by omega) (fun i H2 acc => acc = (((x :: path).take i).map isAsn).map V.bl) (fun H2 k2 => SqL.of (k2.lst hp1)) rfl ?_ ?_ ?_ ?_⟩
          · rintro i H2 acc rfl
            rw [List.length_map, List.length_map, List.length_take]
            omega
          · rintro i H2 acc acc' o h _
            exact h
          · rintro i y H2 H' acc hi k2 hacc rfl ⟨rfl, hy⟩ N1 N0 n1 n0
            unfold nv at hy
            rw [List.getElem?_map] at hy
            cases e5 : (x :: path)[i]? with
            | none =>
              rw [e5] at hy
              cases hy
            | some y0 =>
              rw [e5] at hy
              obtain rfl : V.int (y0 : Int) = y := Option.some.inj hy
              refine ⟨rfl, iteT (B := N0 H') ?_⟩
              refine call_of (sp := spIsAsn) (vs := [.int (y0 : Int)]) (pa_c (pu_var rfl) pa_n) ⟨y0, rfl, n1 _ _ (Kt.refl _) ?_⟩
              rw [take_next e5, List.map_append, List.map_append]
              rfl
          · rintro H2 acc k2 hacc rfl
            rw [nv_len, List.take_length] at hacc
            refine ⟨D, _, rfl, SqL.of hacc, ?_⟩
            have e6 : (((x :: path).map isAsn).all id) = (x :: path).all isAsn := by
              rw [List.all_map]
              rfl
            rw [e6]
            exact q _ (k1.trans k2)
end
end Rs

/-! # The walk, part 11: put_route, the policies' cells -/
namespace Rs
open PySem PySem.Spec PyProof.Rows L2 LamX NdefX
open Su201 (Route)
section
variable {K : PySem.W.Frag} {H : Hp}
/-- all parts, set at once -/
theorem sv_put {s C dx : Addr} {fs : List (Str × V)} {m : M} {z : SA} (hs : H s = some (.ins C dx fs)) (asns : H z.asns = some (.lst (nv m.asns))) (exps : GrAt H z.exps z.eR m.exps) (imps : GrAt H z.imps z.iR m.imps) (prefs : GrAt H z.prefs z.pR m.prefs)
    (rts : LsAt H z.rts z.rR m.routes) (nd : z.rows.Nodup) (na : z.asns ∉ z.rows) : SvAt K (upd H s (.ins (cS K) z.dx (sF m.made z))) s m z := by
  have nl : ∀ {a : Addr} {xs : List V}, H a = some (.lst xs) → upd H s (.ins (cS K) z.dx (sF m.made z)) a = some (.lst xs) := fun h => (upd_ne (ne_of h hs (by intro z; cases z))).trans h
  have nt : ∀ {a : Addr} {xs : List V}, H a = some (.tup xs) → upd H s (.ins (cS K) z.dx (sF m.made z)) a = some (.tup xs) := fun h => (upd_ne (ne_of h hs (by intro z; cases z))).trans h
  have g : ∀ {a : Addr} {as : List Addr} {g : List (List Nat)}, GrAt H a as g → GrAt (upd H s (.ins (cS K) z.dx (sF m.made z))) a as g := fun h => ⟨nl h.at_, pair_mono h.all fun _ _ q => nl q⟩
  exact ⟨upd_same, nl asns, g exps, g imps, g prefs, ⟨nl rts.at_, pair_mono rts.all fun _ _ ⟨p, h1, h2⟩ => ⟨p, nt h1, nt h2⟩⟩, nd, na⟩
/-! ## a cell is set -/
theorem refs_nv {as : List Addr} {l : List Nat} (h : as.map V.ref = nv l) : l = [] := by
  cases l with
  | nil => rfl
  | cons x l =>
    cases as with
    | nil => cases h
    | cons a as => cases h
theorem nv_set (l : List Nat) (j v : Nat) : (nv l).set j (.int (v : Int)) = nv (l.set j v) := by
  unfold nv
  rw [List.map_set]
/-- a row that is none of the changed one stays -/
theorem gr_other {l a : Addr} {as : List Addr} {g : List (List Nat)} {row : List Nat} {o : HO} (G : GrAt H l as g) (ha : H a = some (.lst (nv row))) (hr : row ≠ []) (n : a ∉ as) : GrAt (upd H a o) l as g := by
  refine ⟨(upd_ne fun z => ?_).trans G.at_, ?_⟩
  · have h := G.at_
    rw [z, ha] at h
    exact hr (refs_nv (HO.lst.inj (Option.some.inj h)).symm)
  · have h := G.all
    clear G
    induction h with
    | nil => exact .nil
    | cons q t ih => exact .cons ((upd_ne fun z => n (by rw [z]; exact List.mem_cons_self)).trans q) (ih fun z => n (List.mem_cons_of_mem _ z))
theorem rows_set {a : Addr} {row : List Nat} : ∀ {as : List Addr} {g : List (List Nat)} {k : Nat}, Paired (RowAt H) as g → as.Nodup → as[k]? = some a → Paired (RowAt (upd H a (.lst (nv row)))) as (g.set k row)
  | _, _, _, .nil, _, h => by simp at h
  | _, _, 0, .cons q t, nd, h => by
    cases h
    have n := (List.nodup_cons.mp nd).1
    refine .cons upd_same ?_
    clear nd
    induction t with
    | nil => exact .nil
    | cons q t ih => exact .cons ((upd_ne fun z => n (by rw [z]; exact List.mem_cons_self)).trans q) (ih fun z => n (List.mem_cons_of_mem _ z))
  | _, _, k + 1, .cons q t, nd, h => by
    have h' : _ = some a := h
    rw [List.getElem?_cons_succ] at h'
    have n := (List.nodup_cons.mp nd).1
    exact .cons ((upd_ne fun z => n (by rw [z]; exact List.mem_of_getElem? h')).trans q) (rows_set t (List.nodup_cons.mp nd).2 h')
theorem gr_set {l a : Addr} {as : List Addr} {g : List (List Nat)} {k j v : Nat} (G : GrAt H l as g) (nd : as.Nodup) (ha : as[k]? = some a) (hr : H a = some (.lst (nv (g.getD k [])))) (hn : g.getD k [] ≠ []) :
    GrAt (upd H a (.lst ((nv (g.getD k [])).set j (.int (v : Int))))) l as (setCell g k j v) := by
  rw [nv_set]
  refine ⟨(upd_ne fun z => ?_).trans G.at_, rows_set G.all nd ha⟩
  have h := G.at_
  rw [z, hr] at h
  exact hn (refs_nv (HO.lst.inj (Option.some.inj h)).symm)
theorem ls_row {l a : Addr} {as : List Addr} {rs : List Route} {row : List Nat} {o : HO} (L : LsAt H l as rs) (ha : H a = some (.lst (nv row))) (hr : row ≠ []) : LsAt (upd H a o) l as rs := by
  refine ⟨(upd_ne fun z => ?_).trans L.at_, pair_mono L.all fun _ _ q => q.upd ha⟩
  have h := L.at_
  rw [z, ha] at h
  exact hr (refs_nv (HO.lst.inj (Option.some.inj h)).symm)
end
theorem nd_l {α : Type} {l r : List α} (h : (l ++ r).Nodup) : l.Nodup := (List.nodup_append.mp h).1
theorem nd_r {α : Type} {l r : List α} (h : (l ++ r).Nodup) : r.Nodup := (List.nodup_append.mp h).2.1
theorem nd_x {α : Type} {l r : List α} (h : (l ++ r).Nodup) {a : α} (ha : a ∈ l) : a ∉ r := fun z => (List.nodup_append.mp h).2.2 a ha a z rfl
section
variable {K : PySem.W.Frag} {mg : Str → Option Value} {base : Heap} {σ : L2.St} {H : Hp}
/-- t[i][j] = v -/
theorem cell_of {to ti tj : TE} {l a : Addr} {as : List Addr} {row : List Nat} {k j v : Nat} {Q : L2.St → Hp → Prop} (h1 : H l = some (.lst (as.map V.ref))) (ha : as[k]? = some a) (hr : H a = some (.lst (nv row))) (hj : j < row.length)
    (ho : Pu to σ H (.ref l)) (hi : Pu ti σ H (.int (k : Int))) (hjj : Pu tj σ H (.int (j : Int))) (q : Q σ (upd H a (.lst ((nv row).set j (.int (v : Int)))))) : gSub (tOp (rIxL K) to ti) tj rSetL (.int (v : Int)) σ H Q := by
  refine pu_ixL ho hi (SqL.of h1) (ref_at ha) _ (hjj _ ⟨a, _, _, j, rfl, rfl, hr, ?_, q⟩)
  unfold ixN
  rw [nv_len, if_pos (by omega), if_pos (by omega)]
  rfl
end
section
variable {K : PySem.W.Frag} {mg : Str → Option Value} {base : Heap} {P : Program} {w : World}
/-! ## set_export, set_import, set_preference -/
def spSet (K : PySem.W.Frag) (up : M → Nat → Nat → Nat → M) : Sp := fun vs H Q _ => ∃ (s : Addr) (k j v : Nat) (m : M) (z : SA), vs = [.ref s, .int k, .int j, .int v] ∧ SvAt K H s m z ∧ Wf m ∧ k < m.num ∧ j < m.num ∧ ∀ H', Kb K z.rows H H' → SvAt K H' s (up m k j v) z → Q .non H'
def upE (m : M) (k j v : Nat) : M := { m with exps := setCell m.exps k j v }
def upI (m : M) (k j v : Nat) : M := { m with imps := setCell m.imps k j v }
def upP (m : M) (k j v : Nat) : M := { m with prefs := setCell m.prefs k j v }
theorem row_in {t : List (List Nat)} {d n top k : Nat} (G : Grid n top d t) (hk : k < n) : (t.getD k []).length = n := G.row _ (getD_row (by rw [G.len]; exact hk))
theorem row_ne {t : List (List Nat)} {d n top k : Nat} (G : Grid n top d t) (hk : k < n) : t.getD k [] ≠ [] := fun z => by
  have := row_in G hk
  rw [z] at this
  simp at this
  omega
theorem scm9 : FnScope ["self", "member", "peer", "denied"] ["self", "member", "peer", "denied"] (defScope (inClass (top 67) 9)) := ⟨rfl, rfl, rfl, by decide +kernel, rfl, by decide +kernel, by decide +kernel⟩
theorem ok_setE (T : Tx K mg base) : OkD P w K mg base 1 (ma K "set_export") ["self", "member", "peer", "denied"] (spSet K upE) := by
  obtain ⟨fd, F⟩ : ∃ fd, FunD K "set_export" "Server.set_export" (defArgs (inClass (top 67) 9)) (defBody (inClass (top 67) 9)) (defScope (inClass (top 67) 9)) [] [] (ma K "set_export") fd := T.fn 51 _ rfl
  refine okD_mk F (F.ok scm9 (fun vs H Q E h => ?_) (fun cdv A outer s H vs Q E hr h => ?_)) (fun _ _ _ _ _ _ us hl => match us, hl with | [_, _, _, _], _ => rfl)
  · obtain ⟨_, _, _, _, _, _, rfl, _⟩ := h
    rfl
  · obtain ⟨sv, k, j, v, m, z, rfl, S, W, hk, hj, q⟩ := h
    refine ⟨_, PSs.nox (pss_one (ps_asg (pv 3) (pg_sub (pe_ix ix_list (pe_fld (pv 0) rfl) (pv 1) (fun _ _ => rfl)) (pv 2) set_list))), ?_⟩
    obtain ⟨a, h1, h2⟩ := gr_row S.exps W.exps.len hk
    have hin : a ∈ z.rows := List.mem_append_left _ (List.mem_of_getElem? h1)
    have hne := row_ne W.exps hk
    have nx : a ∉ z.iR ++ z.pR := nd_x S.nd (List.mem_of_getElem? h1)
    refine pu_var (i := 3) (v := .int (v : Int)) rfl _ (cell_of S.exps.at_ h1 h2 (by rw [row_in W.exps hk]; exact hj) (pu_exps T S (pu_var rfl)) (pu_var rfl) (pu_var rfl) ?_)
    refine q _ (Kb.put hin (.inl ⟨_, h2⟩)) ⟨(upd_ne fun y => ?_).trans S.ins, (upd_ne fun y => S.na (by rw [y]; exact hin)).trans S.asns, gr_set S.exps (nd_l S.nd) h1 h2 hne, gr_other S.imps h2 hne (fun y => nx (List.mem_append_left _ y)), gr_other S.prefs h2 hne (fun y => nx (List.mem_append_right _ y)), ls_row S.rts h2 hne, S.nd, S.na⟩
    have e := S.ins
    rw [y, h2] at e
    cases e
theorem scm10 : FnScope ["self", "member", "peer", "denied"] ["self", "member", "peer", "denied"] (defScope (inClass (top 67) 10)) := ⟨rfl, rfl, rfl, by decide +kernel, rfl, by decide +kernel, by decide +kernel⟩
theorem ok_setI (T : Tx K mg base) : OkD P w K mg base 1 (ma K "set_import") ["self", "member", "peer", "denied"] (spSet K upI) := by
  obtain ⟨fd, F⟩ : ∃ fd, FunD K "set_import" "Server.set_import" (defArgs (inClass (top 67) 10)) (defBody (inClass (top 67) 10)) (defScope (inClass (top 67) 10)) [] [] (ma K "set_import") fd := T.fn 52 _ rfl
  refine okD_mk F (F.ok scm10 (fun vs H Q E h => ?_) (fun cdv A outer s H vs Q E hr h => ?_)) (fun _ _ _ _ _ _ us hl => match us, hl with | [_, _, _, _], _ => rfl)
  · obtain ⟨_, _, _, _, _, _, rfl, _⟩ := h
    rfl
  · obtain ⟨sv, k, j, v, m, z, rfl, S, W, hk, hj, q⟩ := h
    refine ⟨_, PSs.nox (pss_one (ps_asg (pv 3) (pg_sub (pe_ix ix_list (pe_fld (pv 0) rfl) (pv 1) (fun _ _ => rfl)) (pv 2) set_list))), ?_⟩
    obtain ⟨a, h1, h2⟩ := gr_row S.imps W.imps.len hk
    have hin : a ∈ z.rows := List.mem_append_right _ (List.mem_append_left _ (List.mem_of_getElem? h1))
    have hne := row_ne W.imps hk
    have nx : a ∉ z.pR := nd_x (nd_r S.nd) (List.mem_of_getElem? h1)
    have ny : a ∉ z.eR := fun y => nd_x S.nd y (List.mem_append_left _ (List.mem_of_getElem? h1))
    refine pu_var (i := 3) (v := .int (v : Int)) rfl _ (cell_of S.imps.at_ h1 h2 (by rw [row_in W.imps hk]; exact hj) (pu_imps T S (pu_var rfl)) (pu_var rfl) (pu_var rfl) ?_)
    refine q _ (Kb.put hin (.inl ⟨_, h2⟩)) ⟨(upd_ne fun y => ?_).trans S.ins, (upd_ne fun y => S.na (by rw [y]; exact hin)).trans S.asns, gr_other S.exps h2 hne ny, gr_set S.imps (nd_l (nd_r S.nd)) h1 h2 hne, gr_other S.prefs h2 hne nx, ls_row S.rts h2 hne, S.nd, S.na⟩
    have e := S.ins
    rw [y, h2] at e
    cases e
theorem scm11 : FnScope ["self", "member", "peer", "preference"] ["self", "member", "peer", "preference"] (defScope (inClass (top 67) 11)) := ⟨rfl, rfl, rfl, by decide +kernel, rfl, by decide +kernel, by decide +kernel⟩
theorem ok_setP (T : Tx K mg base) : OkD P w K mg base 1 (ma K "set_preference") ["self", "member", "peer", "preference"] (spSet K upP) := by
  obtain ⟨fd, F⟩ : ∃ fd, FunD K "set_preference" "Server.set_preference" (defArgs (inClass (top 67) 11)) (defBody (inClass (top 67) 11)) (defScope (inClass (top 67) 11)) [] [] (ma K "set_preference") fd := T.fn 53 _ rfl
  refine okD_mk F (F.ok scm11 (fun vs H Q E h => ?_) (fun cdv A outer s H vs Q E hr h => ?_)) (fun _ _ _ _ _ _ us hl => match us, hl with | [_, _, _, _], _ => rfl)
  · obtain ⟨_, _, _, _, _, _, rfl, _⟩ := h
    rfl
  · obtain ⟨sv, k, j, v, m, z, rfl, S, W, hk, hj, q⟩ := h
    refine ⟨_, PSs.nox (pss_one (ps_asg (pv 3) (pg_sub (pe_ix ix_list (pe_fld (pv 0) rfl) (pv 1) (fun _ _ => rfl)) (pv 2) set_list))), ?_⟩
    obtain ⟨a, h1, h2⟩ := gr_row S.prefs W.prefs.len hk
    have hin : a ∈ z.rows := List.mem_append_right _ (List.mem_append_right _ (List.mem_of_getElem? h1))
    have hne := row_ne W.prefs hk
    have nx : a ∉ z.iR := fun y => nd_x (nd_r S.nd) y (List.mem_of_getElem? h1)
    have ny : a ∉ z.eR := fun y => nd_x S.nd y (List.mem_append_right _ (List.mem_of_getElem? h1))
    refine pu_var (i := 3) (v := .int (v : Int)) rfl _ (cell_of S.prefs.at_ h1 h2 (by rw [row_in W.prefs hk]; exact hj) (pu_prefs T S (pu_var rfl)) (pu_var rfl) (pu_var rfl) ?_)
    refine q _ (Kb.put hin (.inl ⟨_, h2⟩)) ⟨(upd_ne fun y => ?_).trans S.ins, (upd_ne fun y => S.na (by rw [y]; exact hin)).trans S.asns, gr_other S.exps h2 hne ny, gr_other S.imps h2 hne nx, gr_set S.prefs (nd_r (nd_r S.nd)) h1 h2 hne, ls_row S.rts h2 hne, S.nd, S.na⟩
    have e := S.ins
    rw [y, h2] at e
    cases e
/-! ## put_route -/
theorem scm6 : FnScope ["self", "route", "place"] ["self", "route"] (defScope (inClass (top 67) 6)) := ⟨rfl, rfl, rfl, by decide +kernel, rfl, by decide +kernel, by decide +kernel⟩
def spPut (K : PySem.W.Frag) : Sp := fun vs H Q _ => ∃ (s ra : Addr) (m : M) (z : SA) (r : Route), vs = [.ref s, .ref ra] ∧ SvAt K H s m z ∧ RtAt H ra r ∧ m.routes.length ≤ 20 ∧ ∀ H' z', Kb K [s] H H' → SvAt K H' s { m with routes := put m.routes r } z' → z'.rows = z.rows → (∀ a ∈ z'.tops, a ∈ z.tops ∨ Nw H a) → Q .non H'
theorem tops_rts {z : SA} {l : Addr} {as : List Addr} {H : Hp} (n : Nw H l) : ∀ a ∈ SA.tops { z with rts := l, rR := as }, a ∈ z.tops ∨ Nw H a := fun a h => by
  unfold SA.tops at h ⊢
  simp only [List.mem_cons, List.not_mem_nil, or_false] at h ⊢
  rcases h with h | h | h | h | h
  · simp [h]
  · simp [h]
  · simp [h]
  · simp [h]
  · rw [h]
    exact .inr n
theorem pair_set {α β : Type} {F : α → β → Prop} {a : α} {b : β} : ∀ {l : List α} {r : List β} {i : Nat}, Paired F l r → F a b → i < l.length → Paired F (l.take i ++ a :: l.drop (i + 1)) (r.set i b)
  | _, _, _, .nil, _, h => by simp at h
  | _, _, 0, .cons _ t, h, _ => .cons h t
  | _, _, i + 1, .cons q t, h, hi => .cons q (pair_set (i := i) t h (by simpa using hi))
theorem ok_put (T : Tx K mg base) : OkD P w K mg base 2 (ma K "put_route") ["self", "route"] (spPut K) := by
  obtain ⟨fd, F⟩ : ∃ fd, FunD K "put_route" "Server.put_route" (defArgs (inClass (top 67) 6)) (defBody (inClass (top 67) 6)) (defScope (inClass (top 67) 6)) [] [] (ma K "put_route") fd := T.fn 48 _ rfl
  obtain ⟨_, G_m_place_of, b_m_place_of, k_m_place_of⟩ := ok_place_of (P := P) (w := w) T
  refine okD_mk F (F.ok scm6 (fun vs H Q E h => ?_) (fun cdv A outer s H vs Q E hr h => ?_)) (fun _ _ _ _ _ _ us hl => match us, hl with | [_, _], _ => rfl)
  · obtain ⟨_, _, _, _, _, rfl, _⟩ := h
    rfl
  · obtain ⟨sv, ra, m, z, r, rfl, S, R, few, q⟩ := h
    refine ⟨_, PSs.nox (pss_cons (ps_set (i := 2) scm6.nd rfl (Or.inl rfl) (pe_meth (pv 0) T.cl (T.me "place_of" (by decide +kernel)) G_m_place_of (hr.mono (by decide)) b_m_place_of .nil pass0 (pa_cons (pe_ix ix_tup (pv 1) pe_int (fun _ _ => rfl)) (pa_cons (pe_slice sl_tup (pv 1) (po_some pe_int) (po_some pe_int)) pa_nil))))
      (pss_one (ps_if (pt_cmpR op_lt (pv 2) pe_int (nomark _)) (pss_one (ps_fld (pv 0) (pe_op op_cat (pe_fld (pv 0) rfl) (pe_lst (pa_cons (pv 1) pa_nil))) rfl)) (pss_one (ps_fld (pv 0) (pe_op op_cat (pe_op op_cat (pe_slice sl_list (pe_fld (pv 0) rfl) po_none (po_some (pv 2))) (pe_lst (pa_cons (pv 1) pa_nil))) (pe_slice sl_list (pe_fld (pv 0) rfl) (po_some (pe_op op_add (pv 2) pe_int)) po_none)) rfl))))), ?_⟩
    refine st_setG (pu_var (i := 0) rfl _ ⟨sv, _, _, rfl, S.ins, sF_none _ _ (by decide +kernel), pu_ann R (pu_var rfl) _ (sl_route R (pu_var rfl) fun p hp => ?_)⟩)
    have k0 : Kt K H (upd H p (.tup [.int (r.address : Int), .int (r.length : Int)])) := Kt.new hp
    refine ⟨sv, p, r.announcer, r.address, r.length, m, z, rfl, S.keep k0, upd_same, fun H1 k1 => ?_⟩
    have k01 := k0.trans k1
    have S1 := S.keep k01
    have R1 := R.keep k01
    have hl := pair_len S.rts.all
    have hz0 : ∀ xs : List V, xs.length = z.rR.length → (xs ++ [V.ref ra]).length ≤ 100000 := fun xs h => by
      rw [List.length_append, h, hl]
      exact Nat.le_trans (show _ ≤ 21 by simp; omega) (by decide)
    cases hpl : place m.routes r.announcer r.address r.length with
    | none =>
      have e1 : put m.routes r = m.routes ++ [r] := by
        unfold put
        rw [hpl]
      rw [e1] at q
      refine st_if (k := true) (put_test (pu_is (pu_I (g := fun i j => .bl (decide (i < j))) (i := -1) (j := 0) (pu_var rfl) pu_c) rfl)) (fun _ => ?_) fun z => by cases z
      refine op_of (pu_rts T S1 (pu_var rfl) _ (lst_of (pa_c (pu_var rfl) pa_n) (by show 1 ≤ 1000; decide) fun p2 hp2 => ?_))
      have k2 : Kt K H1 (upd H1 p2 (.lst [.ref ra])) := Kt.new hp2
      refine ⟨z.rts, p2, _, _, rfl, rfl, k2.lst S1.rts.at_, upd_same, Nat.le_trans (by rw [List.length_map, List.length_singleton]; show _ ≤ 21; omega) (show 21 ≤ sizeLine by decide), fun p3 hp3 => ?_⟩
      have k3 : Kt K (upd H1 p2 (.lst [.ref ra])) (upd (upd H1 p2 (.lst [.ref ra])) p3 (.lst (z.rR.map V.ref ++ [.ref ra]))) := Kt.new hp3
      have S3 := (S1.keep k2).keep k3
      refine pu_var (i := 0) rfl _ ⟨sv, _, _, _, rfl, S3.ins, T.cl, T.na _ (by decide +kernel), (by show 6 < 1000; decide), ?_⟩
      rw [put_rts]
      have L : LsAt (upd (upd H1 p2 (.lst [.ref ra])) p3 (.lst (z.rR.map V.ref ++ [.ref ra]))) p3 (z.rR ++ [ra]) (m.routes ++ [r]) := ⟨by rw [upd_same, List.map_append]; rfl, pair_app S3.rts.all (.cons (R1.keep (k2.trans k3)) .nil)⟩
      exact q _ _ ((k01.trans (k2.trans k3)).kb.trans (Kb.put (by simp) (.inr ⟨_, _, _, S3.ins⟩))) (S3.routes L) rfl (tops_rts (Nw.back (k01.trans k2) (.of hp3)))
    | some i =>
      have e1 : put m.routes r = m.routes.set i r := by
        unfold put
        rw [hpl]
      rw [e1] at q
      have hi : i < z.rR.length := by
        rcases find_place (rs := m.routes) (k := r.announcer) (a := r.address) (l := r.length) with ⟨h1, _⟩ | ⟨i', y, h1, h2, _⟩
        · rw [hpl] at h1
          cases h1
        · rw [hpl] at h1
          cases h1
          rw [hl]
          exact (List.getElem?_eq_some_iff.mp h2).1
      refine st_if (k := false) (put_test (pu_is (pu_I (g := fun i j => .bl (decide (i < j))) (i := (i : Int)) (j := 0) (pu_var rfl) pu_c) (by show V.bl (decide _) = _; rw [decide_eq_false (by omega)]))) (fun z => by cases z) fun _ => ?_
      refine op_of (op_of (sl_of (K := K) (lo := none) (hi := some (i : Int)) (pu_rts T S1 (pu_var rfl)) puo_n (puo_s (pu_var rfl)) (SqL.of S1.rts.at_) fun p1 hp1 => lst_of (pa_c (pu_var rfl) pa_n) (by show 1 ≤ 1000; decide) fun p2 hp2 => ?_))
      have h1 := cutV_length (z.rR.map V.ref) none (some (i : Int))
      have h2 := cutV_length (z.rR.map V.ref) (some ((i : Int) + 1)) none
      rw [List.length_map] at h1 h2
      have k1' : Kt K H1 (upd H1 p1 (.lst (cutV (z.rR.map V.ref) none (some (i : Int))))) := Kt.new hp1
      have k2 : Kt K (upd H1 p1 (.lst (cutV (z.rR.map V.ref) none (some (i : Int))))) (upd (upd H1 p1 (.lst (cutV (z.rR.map V.ref) none (some (i : Int))))) p2 (.lst [.ref ra])) := Kt.new hp2
      refine ⟨p1, p2, _, _, rfl, rfl, k2.lst upd_same, upd_same, Nat.le_trans (by rw [List.length_singleton]; show _ ≤ 21; omega) (show 21 ≤ sizeLine by decide), fun p3 hp3 => ?_⟩
      have k3 := (k1'.trans k2).trans (Kt.new (o := .lst (cutV (z.rR.map V.ref) none (some (i : Int)) ++ [.ref ra])) hp3)
      have h3 : (upd (upd (upd H1 p1 (.lst (cutV (z.rR.map V.ref) none (some (i : Int))))) p2 (.lst [.ref ra])) p3 (.lst (cutV (z.rR.map V.ref) none (some (i : Int)) ++ [.ref ra]))) p3 = some (.lst (cutV (z.rR.map V.ref) none (some (i : Int)) ++ [.ref ra])) := upd_same
      generalize upd (upd (upd H1 p1 (.lst (cutV (z.rR.map V.ref) none (some (i : Int))))) p2 (.lst [.ref ra])) p3 (.lst (cutV (z.rR.map V.ref) none (some (i : Int)) ++ [.ref ra])) = H3 at k3 h3 ⊢
      have S3 := S1.keep k3
      refine sl_of (K := K) (lo := some ((i : Int) + 1)) (hi := none) (pu_rts T S3 (pu_var rfl)) (puo_s (pu_I (pu_var rfl) pu_c)) puo_n (SqL.of S3.rts.at_) fun p4 hp4 => ?_
      have k4 : Kt K H3 (upd H3 p4 (.lst (cutV (z.rR.map V.ref) (some ((i : Int) + 1)) none))) := Kt.new hp4
      refine ⟨p3, p4, _, _, rfl, rfl, k4.lst h3, upd_same, Nat.le_trans (by rw [List.length_append, List.length_singleton]; show _ ≤ 41; omega) (show 41 ≤ sizeLine by decide), fun p5 hp5 => ?_⟩
      have n5 : Nw H p5 := Nw.back (k01.trans (k3.trans k4)) (.of hp5)
      have k5 := (k3.trans k4).trans (Kt.new (o := .lst ((cutV (z.rR.map V.ref) none (some (i : Int)) ++ [.ref ra]) ++ cutV (z.rR.map V.ref) (some ((i : Int) + 1)) none)) hp5)
      have h5 : (upd (upd H3 p4 (.lst (cutV (z.rR.map V.ref) (some ((i : Int) + 1)) none))) p5 (.lst ((cutV (z.rR.map V.ref) none (some (i : Int)) ++ [.ref ra]) ++ cutV (z.rR.map V.ref) (some ((i : Int) + 1)) none))) p5 = some (.lst ((cutV (z.rR.map V.ref) none (some (i : Int)) ++ [.ref ra]) ++ cutV (z.rR.map V.ref) (some ((i : Int) + 1)) none)) := upd_same
      generalize upd (upd H3 p4 (.lst (cutV (z.rR.map V.ref) (some ((i : Int) + 1)) none))) p5 (.lst ((cutV (z.rR.map V.ref) none (some (i : Int)) ++ [.ref ra]) ++ cutV (z.rR.map V.ref) (some ((i : Int) + 1)) none)) = H5 at k5 h5 ⊢
      have S5 := S1.keep k5
      refine pu_var (i := 0) rfl _ ⟨sv, _, _, _, rfl, S5.ins, T.cl, T.na _ (by decide +kernel), (by show 6 < 1000; decide), ?_⟩
      rw [put_rts]
      have L : LsAt H5 p5 (z.rR.take i ++ ra :: z.rR.drop (i + 1)) (m.routes.set i r) := ⟨by
        rw [h5, cut_take, cut_drop, List.map_append, List.map_take, List.map_cons, List.map_drop, List.append_assoc]
        rfl, pair_set S5.rts.all (R1.keep k5) hi⟩
      exact q _ _ ((k01.trans k5).kb.trans (Kb.put (by simp) (.inr ⟨_, _, _, S5.ins⟩))) (S5.routes L) rfl (tops_rts n5)
end
end Rs

/-! # The walk, part 12: Server.add_member -/
namespace Rs
open PySem PySem.Spec PyProof.Rows L2 LamX NdefX
open Su201 (Route)
theorem row_upd {H : Hp} {p : Addr} {o : HO} : ∀ {as : List Addr} {g : List (List Nat)}, Paired (RowAt H) as g → (∀ a ∈ as, a ≠ p) → Paired (RowAt (upd H p o)) as g
  | _, _, .nil, _ => .nil
  | _, _, .cons h t, n => .cons ((upd_ne (n _ List.mem_cons_self)).trans h) (row_upd t fun a ha => n a (List.mem_cons_of_mem _ ha))
section
variable {K : PySem.W.Frag} {mg : Str → Option Value} {base : Heap} {H : Hp}
/-- [row + [d] for row in t] -/
theorem lc_grow {a0 a1 a2 a3 a4 a5 : Option V} {ta : TE} {l : Addr} {as : List Addr} {g : List (List Nat)} {d : Nat} {Q : VK} (G : GrAt H l as g) (few : g.length ≤ 6) (rows : ∀ r ∈ g, r.length ≤ 6) (ha : Pu ta [a0, a1, a2, a3, a4, a5] H (.ref l))
    (q : ∀ D as' H', Kt K H H' → Nw H D → GrAt H' D as' (g.map (· ++ [d])) → as'.Nodup → (∀ a ∈ as', Nw H a) → Q (.ref D) H') :
    tLc (iList K ta) (gName 3) tYes (tOp rCat (tVar 3) (tLst (tCons (tC (.int (d : Int))) tNil))) [3] [a0, a1, a2, a3, a4, a5] H Q := by
  have hlen := pair_len G.all
  refine ha _ ⟨l, rfl, ⟨_, SqL.of G.at_⟩, fun D hD => lc_w (K := K) (n := (as.map V.ref).length) walk_list hD (by rw [List.length_map]; omega) (fun i H2 acc => ∃ as' : List Addr, acc = as'.map V.ref ∧ Paired (RowAt H2) as' ((g.take i).map (· ++ [d])) ∧ as'.Nodup ∧ (∀ a ∈ as', Nw H a ∧ a ≠ D) ∧ ∀ a ∈ as', ∃ o, H2 a = some o)
    (fun H2 k => SqL.of (k.lst G.at_)) ⟨[], rfl, .nil, List.nodup_nil, fun _ h => (List.not_mem_nil h).elim, fun _ h => (List.not_mem_nil h).elim⟩ ?_ ?_ ?_ ?_⟩
  · rintro i H2 acc ⟨as', rfl, hp, _⟩
    have h1 := pair_len hp
    rw [List.length_map, List.length_take] at h1
    rw [List.length_map]
    omega
  · rintro i H2 acc acc' o ⟨as', rfl, hp, nd, hf, hs⟩ hacc
    refine ⟨as', rfl, row_upd hp fun a ha => (hf a ha).2, nd, hf, fun a ha => ?_⟩
    rw [upd_ne (hf a ha).2]
    exact hs a ha
  · rintro i x H2 H' acc hi k hacc ⟨as', rfl, hp, nd, hf, hs⟩ ⟨rfl, hx⟩ N1 N0 n1 n0
    rw [List.getElem?_map] at hx
    cases e : as[i]? with
    | none =>
      rw [e] at hx
      cases hx
    | some a =>
      rw [e] at hx
      obtain rfl : V.ref a = x := Option.some.inj hx
      obtain ⟨row, hrow, hR⟩ := pair_getL G.all e
      have hR2 : H' a = some (.lst (nv row)) := k.lst hR
      refine ⟨rfl, iteT (B := N0 H') ?_⟩
      refine op_of (pu_var rfl _ (lst_of (pa_c pu_c pa_n) (by show 1 ≤ 1000; decide) fun p hp1 => ?_))
      have k1 : Kt K H' (upd H' p (.lst [.int (d : Int)])) := Kt.new hp1
      have hrl := rows row (List.mem_of_getElem? hrow)
      refine ⟨a, p, _, _, rfl, rfl, k1.lst hR2, upd_same, Nat.le_trans (by rw [nv_len, List.length_singleton]; show _ ≤ 7; omega) (show 7 ≤ sizeLine by decide), fun p2 hp2 => ?_⟩
      have k2 := k1.trans (Kt.new (o := .lst (nv row ++ [.int (d : Int)])) hp2)
      have hnew : H' p2 = none ∨ True := .inr trivial
      have hp2' : ∀ b o, H' b = some o → b ≠ p2 := fun b o hb z => by
        have h2 : upd H' p (.lst [.int (d : Int)]) b = some o := by
          rw [upd_ne (ne_of_none hb hp1)]
          exact hb
        rw [z, hp2] at h2
        cases h2
      refine n1 _ _ k2 ⟨as' ++ [p2], by rw [List.map_append]; rfl, ?_, ?_, ?_, ?_⟩
      · rw [take_next hrow, List.map_append]
        refine pair_app (pair_mono hp fun a r q => k2.lst q) (.cons ?_ .nil)
        show upd _ p2 _ p2 = some (.lst (nv (row ++ [d])))
        rw [upd_same]
        unfold nv
        rw [List.map_append]
        rfl
      · refine List.nodup_append.mpr ⟨nd, List.nodup_cons.mpr ⟨List.not_mem_nil, List.nodup_nil⟩, fun a ha b hb => ?_⟩
        rw [List.mem_singleton.mp hb]
        obtain ⟨o, ho⟩ := hs a ha
        exact hp2' a o ho
      · intro b hb
        rcases List.mem_append.mp hb with hb | hb
        · exact hf b hb
        · rw [List.mem_singleton.mp hb]
          exact ⟨Nw.back (k.trans k1) (.of hp2), (hp2' D _ hacc).symm⟩
      · intro b hb
        rcases List.mem_append.mp hb with hb | hb
        · obtain ⟨o, ho⟩ := hs b hb
          rw [upd_ne (hp2' b o ho), upd_ne (ne_of_none ho hp1)]
          exact ⟨o, ho⟩
        · rw [List.mem_singleton.mp hb]
          exact ⟨_, upd_same⟩
  · rintro H2 acc k hacc ⟨as', rfl, hp, nd, hf, _⟩
    rw [List.length_map, hlen, List.take_length] at hp
    exact q D as' H2 k (.of hD) ⟨hacc, hp⟩ nd fun a ha => (hf a ha).1
/-- [d for member in range(many)] -/
theorem lc_rep {a0 a1 a3 a4 a5 : Option V} {n d : Nat} {Q : VK} (few : n ≤ 7) (q : ∀ D H', Kt K H H' → Nw H D → H' D = some (.lst (nv (List.replicate n d))) → Q (.ref D) H') :
    tLc (iRng1 (tCons (tVar 2) tNil)) (gName 4) tYes (tC (.int (d : Int))) [4] [a0, a1, some (.int (n : Int)), a3, a4, a5] H Q := by
  refine ⟨_, rfl, (n : Int), rfl, by omega, by omega, fun D hD => lc_w (K := K) (n := n) (by rw [Int.toNat_natCast]; exact walk_range) hD (by omega) (fun i H2 acc => acc = nv (List.replicate i d)) (fun H2 k => trivial) rfl ?_ ?_ ?_ ?_⟩
  · rintro i H2 acc rfl
    rw [nv_len, List.length_replicate]
    exact Nat.le_refl _
  · rintro i H2 acc acc' o h _
    exact h
  · rintro i x H2 H' acc hi k hacc rfl ⟨rfl, rfl⟩ N1 N0 n1 n0
    refine ⟨rfl, iteT (B := N0 H') (n1 _ _ (Kt.refl _) ?_)⟩
    rw [List.replicate_succ']
    unfold nv
    rw [List.map_append]
    rfl
  · rintro H2 acc k hacc rfl
    exact q D H2 k (.of hD) hacc
/-- .. + [row] -/
theorem tail_of {D1 D2 : Addr} {as : List Addr} {g : List (List Nat)} {r : List Nat} {Q : VK} (G : GrAt H D1 as g) (few : g.length ≤ 6) (hr : H D2 = some (.lst (nv r))) (q : ∀ p H', Kt K H H' → Nw H p → GrAt H' p (as ++ [D2]) (g ++ [r]) → Q (.ref p) H') :
    ([V.ref D2].length ≤ sizeLine) ∧ ∀ p, H p = none → rCat (.ref D1) (.ref p) (upd H p (.lst [.ref D2])) Q := by
  refine ⟨(by show 1 ≤ sizeLine; decide), fun p hp => ?_⟩
  have k1 : Kt K H (upd H p (.lst [.ref D2])) := Kt.new hp
  have hlen := pair_len G.all
  refine ⟨D1, p, _, _, rfl, rfl, k1.lst G.at_, upd_same, Nat.le_trans (by rw [List.length_map, List.length_singleton]; show _ ≤ 7; omega) (show 7 ≤ sizeLine by decide), fun p2 hp2 => ?_⟩
  have k2 := k1.trans (Kt.new (o := .lst (as.map V.ref ++ [.ref D2])) hp2)
  refine q p2 _ k2 (Nw.back k1 (.of hp2)) ⟨?_, pair_app (pair_mono G.all fun a r q => k2.lst q) (.cons (k2.lst hr) .nil)⟩
  rw [upd_same, List.map_append]
  rfl
theorem lst1_of {t : TE} {σ : L2.St} {Q : VK} (h : t σ H fun x H1 => ([x].length ≤ sizeLine) ∧ ∀ p, H1 p = none → Q (.ref p) (upd H1 p (.lst [x]))) : tLst (tCons t tNil) σ H Q := h
/-- a table grows: rows by an item, a row more -/
theorem rows_grow {a0 a1 a3 a4 a5 : Option V} {ta : TE} {l : Addr} {as : List Addr} {g : List (List Nat)} {n d : Nat} {Q : VK} (G : GrAt H l as g) (few : g.length ≤ 6 ∧ ∀ r ∈ g, r.length ≤ 6) (hn : n ≤ 7) (ha : Pu ta [a0, a1, some (.int (n : Int)), a3, a4, a5] H (.ref l))
    (q : ∀ p as' H', Kt K H H' → Nw H p → GrAt H' p as' (g.map (· ++ [d]) ++ [List.replicate n d]) → as'.Nodup → (∀ a ∈ as', Nw H a) → Q (.ref p) H') :
    tOp rCat (tLc (iList K ta) (gName 3) tYes (tOp rCat (tVar 3) (tLst (tCons (tC (.int (d : Int))) tNil))) [3]) (tLst (tCons (tLc (iRng1 (tCons (tVar 2) tNil)) (gName 4) tYes (tC (.int (d : Int))) [4]) tNil)) [a0, a1, some (.int (n : Int)), a3, a4, a5] H Q := by
  refine op_of (lc_grow G few.1 few.2 ha fun D1 e1 H1 k1 n1 G1 nd1 f1 => ?_)
  refine lst1_of (lc_rep (K := K) hn fun D2 H2 k2 n2 h2 => ?_)
  refine tail_of (G1.keep k2) (by rw [List.length_map]; exact few.1) h2 fun p H3 k3 n3 G3 => q p _ H3 (k1.trans (k2.trans k3)) (Nw.back (k1.trans k2) n3) G3 ?_ ?_
  · refine List.nodup_append.mpr ⟨nd1, List.nodup_cons.mpr ⟨List.not_mem_nil, List.nodup_nil⟩, fun x hx y hy => ?_⟩
    rw [List.mem_singleton.mp hy]
    obtain ⟨i, hi⟩ := List.getElem?_of_mem hx
    obtain ⟨r, _, hr⟩ := pair_getL G1.all hi
    exact n2.ne hr fun _ z => by cases z
  · intro a h
    rcases List.mem_append.mp h with h | h
    · exact f1 a h
    · rw [List.mem_singleton.mp h]
      exact Nw.back k1 n2
theorem rows_grow5 {a0 a1 a3 a4 : Option V} {D2 : Addr} {ta : TE} {l : Addr} {as : List Addr} {g : List (List Nat)} {n d : Nat} {Q : VK} (G : GrAt H l as g) (few : g.length ≤ 6 ∧ ∀ r ∈ g, r.length ≤ 6) (h2 : H D2 = some (.lst (nv (List.replicate n d)))) (ha : Pu ta [a0, a1, some (.int (n : Int)), a3, a4, some (.ref D2)] H (.ref l))
    (q : ∀ p as' H', Kt K H H' → Nw H p → GrAt H' p as' (g.map (· ++ [d]) ++ [List.replicate n d]) → as'.Nodup → (∀ a ∈ as', Nw H a ∨ a = D2) → Q (.ref p) H') :
    tOp rCat (tLc (iList K ta) (gName 3) tYes (tOp rCat (tVar 3) (tLst (tCons (tC (.int (d : Int))) tNil))) [3]) (tLst (tCons (tVar 5) tNil)) [a0, a1, some (.int (n : Int)), a3, a4, some (.ref D2)] H Q := by
  refine op_of (lc_grow G few.1 few.2 ha fun D1 e1 H1 k1 n1 G1 nd1 f1 => ?_)
  refine pu_var (i := 5) rfl _ ?_
  refine tail_of G1 (by rw [List.length_map]; exact few.1) (k1.lst h2) fun p H3 k3 n3 G3 => q p _ H3 (k1.trans k3) (Nw.back k1 n3) G3 ?_ ?_
  · refine List.nodup_append.mpr ⟨nd1, List.nodup_cons.mpr ⟨List.not_mem_nil, List.nodup_nil⟩, fun x hx y hy => ?_⟩
    rw [List.mem_singleton.mp hy]
    exact ((f1 x hx).ne h2 fun _ z => by cases z).symm
  · intro a h
    rcases List.mem_append.mp h with h | h
    · exact .inl (f1 a h)
    · rw [List.mem_singleton.mp h]
      exact .inr rfl
theorem gr_at {l : Addr} {as : List Addr} {g : List (List Nat)} (G : GrAt H l as g) {a : Addr} (h : a ∈ as) : ∃ xs, H a = some (.lst xs) := by
  obtain ⟨i, hi⟩ := List.getElem?_of_mem h
  obtain ⟨r, _, hr⟩ := pair_getL G.all hi
  exact ⟨_, hr⟩
theorem sv_row {s : Addr} {m : M} {z : SA} (S : SvAt K H s m z) {a : Addr} (h : a ∈ z.rows) : ∃ xs, H a = some (.lst xs) := by
  rcases List.mem_append.mp h with h | h
  · exact gr_at S.exps h
  · rcases List.mem_append.mp h with h | h
    · exact gr_at S.imps h
    · exact gr_at S.prefs h
theorem nw_not {l : List Addr} {a : Addr} (h : ∀ b ∈ l, ∃ xs, H b = some (.lst xs)) (n : Nw H a) : a ∉ l := fun y => by
  obtain ⟨xs, hx⟩ := h a y
  exact n.ne hx (fun _ z => by cases z) rfl
theorem nd3 {e i p : List Addr} (h1 : e.Nodup) (h2 : i.Nodup) (h3 : p.Nodup) (x1 : ∀ a ∈ i, a ∉ e) (x2 : ∀ a ∈ p, a ∉ e) (x3 : ∀ a ∈ p, a ∉ i) : (e ++ (i ++ p)).Nodup :=
  List.nodup_append.mpr ⟨h1, List.nodup_append.mpr ⟨h2, h3, fun a ha b hb z => x3 b hb (z ▸ ha)⟩, fun a ha b hb z => by
    rcases List.mem_append.mp hb with hb | hb
    · exact x1 b hb (z ▸ ha)
    · exact x2 b hb (z ▸ ha)⟩
end
section
variable {K : PySem.W.Frag} {mg : Str → Option Value} {base : Heap} {P : Program} {w : World}
theorem scm2 : FnScope ["self", "asn", "many", "row", "member", "first"] ["self", "asn"] (defScope (inClass (top 67) 2)) := ⟨rfl, rfl, rfl, by decide +kernel, rfl, by decide +kernel, by decide +kernel⟩
def spAdd (K : PySem.W.Frag) : Sp := fun vs H Q _ => ∃ (s : Addr) (asn : Nat) (m : M) (z : SA), vs = [.ref s, .int asn] ∧ SvAt K H s m z ∧ Wf m ∧ m.num < 6 ∧ ∀ H' z', Kb K [s] H H' → SvAt K H' s (m.add asn) z' → (∀ a ∈ z'.rows, Nw H a) → (∀ a ∈ z'.tops, a ∈ z.tops ∨ Nw H a) → Q .non H'
theorem nd_add {l : List Addr} {a : Addr} (h : l.Nodup) (n : a ∉ l) : (l ++ [a]).Nodup := List.nodup_append.mpr ⟨h, List.nodup_cons.mpr ⟨List.not_mem_nil, List.nodup_nil⟩, fun x hx y hy z => n (by rw [← List.mem_singleton.mp hy, ← z]; exact hx)⟩
theorem ok_add (T : Tx K mg base) : OkD P w K mg base 1 (ma K "add_member") ["self", "asn"] (spAdd K) := by
  obtain ⟨fd, F⟩ : ∃ fd, FunD K "add_member" "Server.add_member" (defArgs (inClass (top 67) 2)) (defBody (inClass (top 67) 2)) (defScope (inClass (top 67) 2)) [] [] (ma K "add_member") fd := T.fn 44 _ rfl
  refine okD_mk F (F.ok scm2 (fun vs H Q E h => ?_) (fun cdv A outer s H vs Q E hr h => ?_)) (fun _ _ _ _ _ _ us hl => match us, hl with | [_, _], _ => rfl)
  · obtain ⟨_, _, _, _, rfl, _⟩ := h
    rfl
  · obtain ⟨sv, asn, m, z, rfl, S, W, hn, q⟩ := h
    refine ⟨_, PSs.nox (pss_cons (ps_fld (pv 0) (pe_op op_cat (pe_fld (pv 0) rfl) (pe_lst (pa_cons (pv 1) pa_nil))) rfl)
      (pss_cons (ps_set (i := 2) scm2.nd rfl (Or.inl rfl) (pe_callB call_len_seq (by rfl) (T.free "len" (by decide +kernel)) boot_len (pa_cons (pe_fld (pv 0) rfl) pa_nil)))
      (pss_cons (ps_fld (pv 0) (pe_op op_cat (pe_lc (own := [("row", 3)]) (tt := tYes) (te := tOp rCat (tVar 3) (tLst (tCons (tC (.int 0)) tNil))) rfl scm2.nd (pi_list (pe_fld (pv 0) rfl)) (blkOk_by (N := ["self", "asn", "many", "row", "member", "first"]) (sc := defScope (inClass (top 67) 2)) (by decide +kernel)) (fun _ _ _ _ _ => (pg_name (i := 3) scm2.nd rfl (Or.inl rfl))) (fun _ _ _ _ _ => pts_nil) (fun _ _ _ _ _ => (pe_op op_cat (pv 3) (pe_lst (pa_cons pe_int pa_nil))))) (pe_lst (pa_cons (pe_lc (own := [("member", 4)]) (tt := tYes) (te := tC (.int 0)) rfl scm2.nd (pi_range1 (by rfl) (T.free "range" (by decide +kernel)) (pa_cons (pv 2) pa_nil)) (blkOk_by (N := ["self", "asn", "many", "row", "member", "first"]) (sc := defScope (inClass (top 67) 2)) (by decide +kernel)) (fun _ _ _ _ _ => (pg_name (i := 4) scm2.nd rfl (Or.inl rfl))) (fun _ _ _ _ _ => pts_nil) (fun _ _ _ _ _ => pe_int)) pa_nil))) rfl)
      (pss_cons (ps_fld (pv 0) (pe_op op_cat (pe_lc (own := [("row", 3)]) (tt := tYes) (te := tOp rCat (tVar 3) (tLst (tCons (tC (.int 0)) tNil))) rfl scm2.nd (pi_list (pe_fld (pv 0) rfl)) (blkOk_by (N := ["self", "asn", "many", "row", "member", "first"]) (sc := defScope (inClass (top 67) 2)) (by decide +kernel)) (fun _ _ _ _ _ => (pg_name (i := 3) scm2.nd rfl (Or.inl rfl))) (fun _ _ _ _ _ => pts_nil) (fun _ _ _ _ _ => (pe_op op_cat (pv 3) (pe_lst (pa_cons pe_int pa_nil))))) (pe_lst (pa_cons (pe_lc (own := [("member", 4)]) (tt := tYes) (te := tC (.int 0)) rfl scm2.nd (pi_range1 (by rfl) (T.free "range" (by decide +kernel)) (pa_cons (pv 2) pa_nil)) (blkOk_by (N := ["self", "asn", "many", "row", "member", "first"]) (sc := defScope (inClass (top 67) 2)) (by decide +kernel)) (fun _ _ _ _ _ => (pg_name (i := 4) scm2.nd rfl (Or.inl rfl))) (fun _ _ _ _ _ => pts_nil) (fun _ _ _ _ _ => pe_int)) pa_nil))) rfl)
      (pss_cons (ps_setLc (i := 5) (own := [("member", 4)]) (tt := tYes) (te := tC (.int 5)) rfl scm2.nd rfl rfl (sw_true rfl rfl rfl (by decide +kernel)) (pi_range1 (by rfl) (T.free "range" (by decide +kernel)) (pa_cons (pv 2) pa_nil)) (blkOk_by (N := ["self", "asn", "many", "row", "member", "first"]) (sc := defScope (inClass (top 67) 2)) (by decide +kernel)) (fun _ _ _ _ _ => (pg_name (i := 4) scm2.nd rfl (Or.inl rfl))) (fun _ _ _ _ _ => pts_nil) (fun _ _ _ _ _ => (pe_gi T 5)))
      (pss_one (ps_fld (pv 0) (pe_op op_cat (pe_lc (own := [("row", 3)]) (tt := tYes) (te := tOp rCat (tVar 3) (tLst (tCons (tC (.int 5)) tNil))) rfl scm2.nd (pi_list (pe_fld (pv 0) rfl)) (blkOk_by (N := ["self", "asn", "many", "row", "member", "first"]) (sc := defScope (inClass (top 67) 2)) (by decide +kernel)) (fun _ _ _ _ _ => (pg_name (i := 3) scm2.nd rfl (Or.inl rfl))) (fun _ _ _ _ _ => pts_nil) (fun _ _ _ _ _ => (pe_op op_cat (pv 3) (pe_lst (pa_cons (pe_gi T 5) pa_nil))))) (pe_lst (pa_cons (pv 5) pa_nil))) rfl))))))), ?_⟩
    have few : ∀ {d top : Nat} {t : List (List Nat)}, Grid m.num top d t → t.length ≤ 6 ∧ ∀ r ∈ t, r.length ≤ 6 := fun G => ⟨by rw [G.len]; omega, fun r hr => by rw [G.row r hr]; omega⟩
    -- the ASNs
    refine op_of (pu_asns T S (pu_var rfl) _ (lst_of (pa_c (pu_var rfl) pa_n) (by show 1 ≤ 1000; decide) fun p hp => ?_))
    have k1 : Kt K H (upd H p (.lst [.int (asn : Int)])) := Kt.new hp
    refine ⟨z.asns, p, _, _, rfl, rfl, k1.lst S.asns, upd_same, Nat.le_trans (by rw [nv_len, List.length_singleton]; show _ ≤ 7; unfold M.num at hn; omega) (show 7 ≤ sizeLine by decide), fun p2 hp2 => ?_⟩
    have k2 := k1.trans (Kt.new (o := .lst (nv m.asns ++ [.int (asn : Int)])) hp2)
    have h2 : (upd (upd H p (.lst [.int (asn : Int)])) p2 (.lst (nv m.asns ++ [.int (asn : Int)]))) p2 = some (.lst (nv (m.asns ++ [asn]))) := by
      rw [upd_same]
      unfold nv
      rw [List.map_append]
      rfl
    have n2 : Nw H p2 := Nw.back k1 (.of hp2)
    generalize upd (upd H p (.lst [.int (asn : Int)])) p2 (.lst (nv m.asns ++ [.int (asn : Int)])) = H2 at k2 h2 ⊢
    have S2 := S.keep k2
    refine pu_var (i := 0) rfl _ ⟨sv, _, _, _, rfl, S2.ins, T.cl, T.na _ (by decide +kernel), (by show 6 < 1000; decide), ?_⟩
    rw [put_asns]
    have na2 : p2 ∉ z.rows := nw_not (fun b hb => sv_row S hb) n2
    have S3 := sv_put (K := K) (m := { m with asns := m.asns ++ [asn] }) (z := { z with asns := p2 }) S2.ins h2 S2.exps S2.imps S2.prefs S2.rts S2.nd na2
    have b3 : Kb K [sv] H2 (upd H2 sv (.ins (cS K) z.dx (sF m.made { z with asns := p2 }))) := Kb.put (by simp) (.inr ⟨_, _, _, S2.ins⟩)
    have B3 := k2.kb.trans b3
    generalize hH3 : upd H2 sv (.ins (cS K) z.dx (sF m.made { z with asns := p2 })) = H3 at S3 B3 ⊢
    have hsv : ∀ {a : Addr}, Nw H3 a → a ∉ [sv] := fun {a} n y => by
      rw [List.mem_singleton.mp y] at n
      exact n.ne S3.ins (fun _ z => by cases z) rfl
    -- many
    have e1 : (m.asns ++ [asn]).length = m.num + 1 := by rw [List.length_append]; rfl
    refine st_set (pu_is (pu_num T S3 (pu_var rfl)) (by show V.int ((m.asns ++ [asn]).length : Int) = V.int ((m.num + 1 : Nat) : Int); rw [e1])) ?_
    -- exports
    refine rows_grow (K := K) (d := 0) (n := m.num + 1) S3.exps (few W.exps) (by omega) (pu_exps T S3 (pu_var rfl)) fun p4 e4 H4 k4 n4 G4 nd4 f4 => ?_
    have T4 := S3.keep k4
    refine pu_var (i := 0) rfl _ ⟨sv, _, _, _, rfl, T4.ins, T.cl, T.na _ (by decide +kernel), (by show 6 < 1000; decide), ?_⟩
    rw [put_exps]
    have d3 := fun b (hb : b ∈ z.rows) => sv_row S3 hb
    have dI : ∀ a ∈ z.iR, a ∈ z.rows := fun a h => List.mem_append_right _ (List.mem_append_left _ h)
    have dP : ∀ a ∈ z.pR, a ∈ z.rows := fun a h => List.mem_append_right _ (List.mem_append_right _ h)
    have old3 : ∀ {b : Addr}, (∃ xs, H3 b = some (.lst xs)) → b ∉ e4 := fun {b} hb y => by
      obtain ⟨xs, hx⟩ := hb
      exact (f4 b y).ne hx (fun _ z => by cases z) rfl
    have S5 := sv_put (K := K) (m := { m with asns := m.asns ++ [asn], exps := m.exps.map (· ++ [0]) ++ [List.replicate (m.num + 1) 0] }) (z := { z with asns := p2, exps := p4, eR := e4 }) T4.ins T4.asns G4 T4.imps T4.prefs T4.rts
      (nd3 nd4 (nd_l (nd_r S.nd)) (nd_r (nd_r S.nd)) (fun a h => old3 (d3 a (dI a h))) (fun a h => old3 (d3 a (dP a h))) (fun a h y => nd_x (nd_r S.nd) y h))
      (fun y => by
        rcases List.mem_append.mp y with y | y
        · exact old3 ⟨_, S3.asns⟩ y
        · exact na2 (List.mem_append_right _ y))
    have B5 := k4.kb.trans (Kb.put (K := K) (B := [sv]) (o := .ins (cS K) z.dx (sF m.made { z with asns := p2, exps := p4, eR := e4 })) (by simp) (.inr ⟨_, _, _, T4.ins⟩))
    have f5 : ∀ a ∈ e4, Nw H a := fun a h => Kb.back B3 (hsv (f4 a h)) (f4 a h)
    show Ends.nx _ _ (upd H4 sv (.ins (cS K) z.dx (sF m.made { z with asns := p2, exps := p4, eR := e4 })))
    generalize upd H4 sv (.ins (cS K) z.dx (sF m.made { z with asns := p2, exps := p4, eR := e4 })) = H5 at S5 B5 ⊢
    have hsv5 : ∀ {a : Addr}, Nw H5 a → a ∉ [sv] := fun {a} n y => by
      rw [List.mem_singleton.mp y] at n
      exact n.ne S5.ins (fun _ z => by cases z) rfl
    -- imports
    refine rows_grow (K := K) (d := 0) (n := m.num + 1) (a0 := some (.ref sv)) (a1 := some (.int (asn : Int))) (a3 := none) (a4 := none) (a5 := none) S5.imps (few W.imps) (by omega) (pu_imps T S5 (pu_var (i := 0) rfl)) fun p6 e6 H6 k6 n6 G6 nd6 f6 => ?_
    have T6 := S5.keep k6
    refine pu_var (i := 0) rfl _ ⟨sv, _, _, _, rfl, T6.ins, T.cl, T.na _ (by decide +kernel), (by show 6 < 1000; decide), ?_⟩
    rw [put_imps]
    have old5 : ∀ {b : Addr}, (∃ xs, H5 b = some (.lst xs)) → b ∉ e6 := fun {b} hb y => by
      obtain ⟨xs, hx⟩ := hb
      exact (f6 b y).ne hx (fun _ z => by cases z) rfl
    have S7 := sv_put (K := K) (m := { m with asns := m.asns ++ [asn], exps := m.exps.map (· ++ [0]) ++ [List.replicate (m.num + 1) 0], imps := m.imps.map (· ++ [0]) ++ [List.replicate (m.num + 1) 0] }) (z := { z with asns := p2, exps := p4, eR := e4, imps := p6, iR := e6 }) T6.ins T6.asns T6.exps G6 T6.prefs T6.rts
      (nd3 nd4 nd6 (nd_r (nd_r S.nd)) (fun a h y => old5 (gr_at S5.exps y) h) (fun a h => old3 (d3 a (dP a h))) (fun a h => old5 (gr_at S5.prefs h)))
      (fun y => by
        rcases List.mem_append.mp y with y | y
        · exact old3 ⟨_, S3.asns⟩ y
        · rcases List.mem_append.mp y with y | y
          · exact old5 ⟨_, S5.asns⟩ y
          · exact na2 (List.mem_append_right _ (List.mem_append_right _ y)))
    have B7 := k6.kb.trans (Kb.put (K := K) (B := [sv]) (o := .ins (cS K) z.dx (sF m.made { z with asns := p2, exps := p4, eR := e4, imps := p6, iR := e6 })) (by simp) (.inr ⟨_, _, _, T6.ins⟩))
    have f7 : ∀ a ∈ e6, Nw H a := fun a h => by
      have n3 := Kb.back B5 (hsv5 (f6 a h)) (f6 a h)
      exact Kb.back B3 (hsv n3) n3
    show Ends.nx _ _ (upd H6 sv (.ins (cS K) z.dx (sF m.made { z with asns := p2, exps := p4, eR := e4, imps := p6, iR := e6 })))
    generalize upd H6 sv (.ins (cS K) z.dx (sF m.made { z with asns := p2, exps := p4, eR := e4, imps := p6, iR := e6 })) = H7 at S7 B7 ⊢
    have hsv7 : ∀ {a : Addr}, Nw H7 a → a ∉ [sv] := fun {a} n y => by
      rw [List.mem_singleton.mp y] at n
      exact n.ne S7.ins (fun _ z => by cases z) rfl
    -- first
    refine st_setG (lc_rep (K := K) (d := 5) (n := m.num + 1) (by omega) fun p8 H8 k8 n8 h8 => ?_)
    have S8 := S7.keep k8
    -- preferences
    refine rows_grow5 (K := K) (d := 5) (n := m.num + 1) (a0 := some (.ref sv)) (a1 := some (.int (asn : Int))) (a3 := none) (a4 := none) (D2 := p8) S8.prefs (few W.prefs) h8 (pu_prefs T S8 (pu_var (i := 0) rfl)) fun p9 e9 H9 k9 n9 G9 nd9 f9 => ?_
    have T9 := S8.keep k9
    refine pu_var (i := 0) rfl _ ⟨sv, _, _, _, rfl, T9.ins, T.cl, T.na _ (by decide +kernel), (by show 6 < 1000; decide), ?_⟩
    rw [put_prefs]
    have f9' : ∀ a ∈ e9, Nw H7 a := fun a h => by
      rcases f9 a h with f | rfl
      · exact Nw.back k8 f
      · exact n8
    have old7 : ∀ {b : Addr}, (∃ xs, H7 b = some (.lst xs)) → b ∉ e9 := fun {b} hb y => by
      obtain ⟨xs, hx⟩ := hb
      exact (f9' b y).ne hx (fun _ z => by cases z) rfl
    have S9 := sv_put (K := K) (m := m.add asn) (z := { z with asns := p2, exps := p4, eR := e4, imps := p6, iR := e6, prefs := p9, pR := e9 }) T9.ins T9.asns T9.exps T9.imps G9 T9.rts
      (nd3 nd4 nd6 nd9 (fun a h y => old5 (gr_at S5.exps y) h) (fun a h y => old7 (gr_at S7.exps y) h) (fun a h y => old7 (gr_at S7.imps y) h))
      (fun y => by
        rcases List.mem_append.mp y with y | y
        · exact old3 ⟨_, S3.asns⟩ y
        · rcases List.mem_append.mp y with y | y
          · exact old5 ⟨_, S5.asns⟩ y
          · exact old7 ⟨_, S7.asns⟩ y)
    have B9 := (k8.trans k9).kb.trans (Kb.put (K := K) (B := [sv]) (o := .ins (cS K) z.dx (sF m.made { z with asns := p2, exps := p4, eR := e4, imps := p6, iR := e6, prefs := p9, pR := e9 })) (by simp) (.inr ⟨_, _, _, T9.ins⟩))
    refine q _ _ (B3.trans (B5.trans (B7.trans B9))) S9 (fun a h => ?_) fun a h => ?_
    rcases List.mem_append.mp h with h | h
    · exact f5 a h
    · rcases List.mem_append.mp h with h | h
      · exact f7 a h
      · have n7 := f9' a h
        have n5 := Kb.back B7 (hsv7 n7) n7
        have n3 := Kb.back B5 (hsv5 n5) n5
        exact Kb.back B3 (hsv n3) n3
    · unfold SA.tops at h ⊢
      simp only [List.mem_cons, List.not_mem_nil, or_false] at h ⊢
      rcases h with h | h | h | h | h
      · rw [h]
        exact .inr n2
      · rw [h]
        exact .inr (Kb.back B3 (hsv n4) n4)
      · rw [h]
        have n3 := Kb.back B5 (hsv5 n6) n6
        exact .inr (Kb.back B3 (hsv n3) n3)
      · rw [h]
        have n7 := Nw.back k8 n9
        have n5 := Kb.back B7 (hsv7 n7) n7
        have n3 := Kb.back B5 (hsv5 n5) n5
        exact .inr (Kb.back B3 (hsv n3) n3)
      · simp [h]
end
end Rs

/-! # The walk, part 13: reset, add_member, withdraw, announce -/
namespace Rs
open PySem PySem.Spec PyProof.Rows L2 LamX NdefX
open Su201 (Route)
/-- where the server's parts stand: where they stood, or at new places -/
def Grow (H : Hp) (z z' : SA) : Prop := (∀ a ∈ z'.rows, a ∈ z.rows ∨ Nw H a) ∧ ∀ a ∈ z'.tops, a ∈ z.tops ∨ Nw H a
/-- what a deed promises behind -/
def PostD (K : PySem.W.Frag) (s : Addr) (z : SA) (H : Hp) (r : M × List Int) (Q : VK) : Prop := ∀ q H' z', Kb K (s :: z.rows) H H' → SvAt K H' s r.1 z' → Grow H z z' → Nw H q → H' q = some (.lst (r.2.map V.int)) → Q (.ref q) H'
def spDo (K : PySem.W.Frag) (p : Nat) : Sp := fun vs H Q _ => ∃ (s pl : Addr) (m : M) (z : SA) (xs : List Nat), vs = [.ref s, .ref pl] ∧ SvAt K H s m z ∧ (p ≠ 0 → ∃ o, Ok m o) ∧ Tabs (tE K) H ∧ H pl = some (.lst (nv xs)) ∧ CallOk (p, xs) ∧ PostD K s z H (deed m p xs) Q
section
variable {K : PySem.W.Frag} {mg : Str → Option Value} {base : Heap} {H H1 H2 : Hp} {σ : L2.St} {s : Addr} {z : SA} {m : M}
theorem post_stay {c : Int} {r : M × List Int} {Q : VK} (S : SvAt K H s m z) (k : Kt K H H1) (e : r = (m, [c])) (q : PostD K s z H r Q) : ∀ p, H1 p = none → Q (.ref p) (upd H1 p (.lst [.int c])) := fun p hp => by
  subst e
  have k2 := k.trans (Kt.new (o := .lst [.int c]) hp)
  exact q p _ z k2.kb (S.keep k2) ⟨fun a h => .inl h, fun a h => .inl h⟩ (Nw.back k (.of hp)) upd_same
theorem ret1 {c : Int} {te : TE} {D : Ends} (h : Pu te σ H (.int c)) (q : ∀ p, H p = none → D.rt (.ref p) (upd H p (.lst [.int c]))) : tRet (tLst (tCons te tNil)) D σ H := lst_of (pa_c h pa_n) (by show 1 ≤ 1000; decide) q
theorem RtAt.keepB {B : List Addr} (k : Kb K B H H1) (hB : ∀ b ∈ B, (∃ xs, H b = some (.lst xs)) ∨ ∃ C dx fs, H b = some (.ins C dx fs)) {a : Addr} {r : Route} (h : RtAt H a r) : RtAt H1 a r := by
  have n : ∀ {b : Addr} {xs : List V}, H b = some (.tup xs) → b ∉ B := fun {b} {xs} hb y => by
    rcases hB b y with ⟨_, e⟩ | ⟨_, _, _, e⟩ <;> rw [hb] at e <;> cases e
  obtain ⟨p, h1, h2⟩ := h
  exact ⟨p, k.tup (n h1) h1, k.tup (n h2) h2⟩
theorem LsAt.keepB {B : List Addr} (k : Kb K B H H1) (hB : ∀ b ∈ B, (∃ xs, H b = some (.lst xs)) ∨ ∃ C dx fs, H b = some (.ins C dx fs)) {l : Addr} (hl : l ∉ B) {as : List Addr} {rs : List Route} (h : LsAt H l as rs) : LsAt H1 l as rs := ⟨k.lst hl h.at_, pair_mono h.all fun _ _ q => q.keepB k hB⟩
theorem tbs_keepB {B : List Addr} (k : Kb K B H H1) (hB : ∀ b ∈ B, (∃ xs, H b = some (.lst xs)) ∨ ∃ C dx fs, H b = some (.ins C dx fs)) : ∀ {as : List Addr} {ts : List (List Route)}, Paired (fun a rs => ∃ bs, LsAt H a bs rs) as ts → (∀ a ∈ as, a ∉ B) → Paired (fun a rs => ∃ bs, LsAt H1 a bs rs) as ts
  | _, _, .nil, _ => .nil
  | _, _, .cons ⟨bs, h⟩ t, n => .cons ⟨bs, h.keepB k hB (n _ List.mem_cons_self)⟩ (tbs_keepB k hB t fun a ha => n a (List.mem_cons_of_mem _ ha))
theorem TbAt.keepB {B : List Addr} (k : Kb K B H H1) (hB : ∀ b ∈ B, (∃ xs, H b = some (.lst xs)) ∨ ∃ C dx fs, H b = some (.ins C dx fs)) {l : Addr} (hl : l ∉ B) {as : List Addr} {ts : List (List Route)} (ha : ∀ a ∈ as, a ∉ B) (h : TbAt H l as ts) : TbAt H1 l as ts := ⟨k.lst hl h.at_, tbs_keepB k hB h.all ha⟩
/-- what is told at the end of a change -/
theorem changed_of {q1 : Addr} {ts : List Addr} {m' : M} {z' : SA} {Q : VK} {E : XK} {r : M × List Int} (hr : r = (m', changed m m')) (B : Kb K (s :: z.rows) H H2) (S2 : SvAt K H2 s m' z') (hz : z'.rows = z.rows) (ht : ∀ a ∈ z'.tops, a ∈ z.tops ∨ Nw H a) (W : Wf m') (hn : m'.num = m.num) (tabs : Tabs (tE K) H) (B2 : TbAt H2 q1 ts (tables m m.routes))
    (q : PostD K s z H r Q) : spChanged K [.ref s, .ref q1] H2 Q E := by
  subst hr
  refine ⟨s, q1, m', z', ts, tables m m.routes, rfl, S2, W, B.tb tabs, B2, by unfold tables; rw [List.length_map, List.length_range, hn], fun q3 H3 k3 n3 h3 => ?_⟩
  refine q q3 H3 z' (B.trans k3.kb) (S2.keep k3) ⟨fun a h => .inl (by rw [← hz]; exact h), ht⟩ (Kb.back B ?_ n3) h3
  intro y
  rcases List.mem_cons.mp y with rfl | y
  · exact n3.ne S2.ins (fun _ z => by cases z) rfl
  · rw [← hz] at y
    exact nw_not (fun b hb => sv_row S2 hb) n3 y
/-- a call of a method that tells yes or no -/
theorem has_of {k : Nat} {te ta : TE} {E : XK} (S : SvAt K H s m z) (hs : Pu te σ H (.ref s)) (ha : Pu ta σ H (.int (k : Int))) : PuT (tNot (tB (tMeth (cS K) "has_member" (spHas K) [] E te (tCons ta tNil)))) σ H (!decide (k < m.num)) := fun _ q =>
  meth_of hs S.ins (sF_none _ _ (by decide +kernel)) (pa_c ha pa_n) ⟨s, k, m, z, rfl, S, _, rfl, q⟩
theorem pfx_of {a l : Nat} {ta tl : TE} {E : XK} (ha : Pu ta σ H (.int (a : Int))) (hl : Pu tl σ H (.int (l : Int))) : PuT (tNot (tB (tCall spIsPrefix [] E (tCons ta (tCons tl tNil))))) σ H (!Su201.isPrefix a l) := fun _ q =>
  call_of (pa_c ha (pa_c hl pa_n)) ⟨a, l, rfl, _, rfl, q⟩
theorem asn_of {a : Nat} {ta : TE} {E : XK} (ha : Pu ta σ H (.int (a : Int))) : PuT (tNot (tB (tCall spIsAsn [] E (tCons ta tNil)))) σ H (!isAsn a) := fun _ q =>
  call_of (pa_c ha pa_n) ⟨a, rfl, _, rfl, q⟩
end
theorem parts1 {p : Nat} {xs : List Nat} (h : CallOk (p, xs)) (e : partCounts.getD p 0 + (if p = 2 then xs.getD 3 0 else 0) = 1) : ∃ a, xs = [a] := by
  have h2 : xs.length = 1 := h.2.trans e
  match xs, h2 with
  | [a], _ => exact ⟨a, rfl⟩
theorem parts2 {p : Nat} {xs : List Nat} (h : CallOk (p, xs)) (e : partCounts.getD p 0 + (if p = 2 then xs.getD 3 0 else 0) = 2) : ∃ a b, xs = [a, b] := by
  have h2 : xs.length = 2 := h.2.trans e
  match xs, h2 with
  | [a, b], _ => exact ⟨a, b, rfl⟩
theorem parts3 {p : Nat} {xs : List Nat} (h : CallOk (p, xs)) (e : partCounts.getD p 0 + (if p = 2 then xs.getD 3 0 else 0) = 3) : ∃ a b c, xs = [a, b, c] := by
  have h2 : xs.length = 3 := h.2.trans e
  match xs, h2 with
  | [a, b, c], _ => exact ⟨a, b, c, rfl⟩
theorem parts0 {p : Nat} {xs : List Nat} (h : CallOk (p, xs)) (e : partCounts.getD p 0 + (if p = 2 then xs.getD 3 0 else 0) = 0) : xs = [] := List.eq_nil_of_length_eq_zero (h.2.trans e)
section
variable {K : PySem.W.Frag} {mg : Str → Option Value} {base : Heap} {P : Program} {w : World}
/-! ## reset -/
theorem sc32 : FnScope ["server", "parts"] ["server", "parts"] (defScope (top 32)) := ⟨rfl, rfl, rfl, by decide +kernel, rfl, by decide +kernel, by decide +kernel⟩
theorem ok_reset (T : Tx K mg base) : OkD P w K mg base 10 (ga K "reset") ["server", "parts"] (spDo K 0) := by
  obtain ⟨fd, F⟩ : ∃ fd, FunD K "reset" "reset" (defArgs (top 32)) (defBody (top 32)) (defScope (top 32)) [] [] (ga K "reset") fd := T.fn 12 _ rfl
  obtain ⟨_, G_m_begin, b_m_begin, k_m_begin⟩ := ok_begin (P := P) (w := w) T
  refine okD_mk F (F.ok sc32 (fun vs H Q E h => ?_) (fun cdv A outer s H vs Q E hr h => ?_)) (fun _ _ _ _ _ _ us hl => match us, hl with | [_, _], _ => rfl)
  · obtain ⟨_, _, _, _, _, rfl, _⟩ := h
    rfl
  · obtain ⟨sv, pl, m, z, xs, rfl, S, _, tabs, hpl, hc, q⟩ := h
    obtain rfl := parts0 hc rfl
    refine ⟨_, PSs.nox (pss_cons (ps_expr (pe_meth0 (pv 0) T.cl (T.me "begin" (by decide +kernel)) G_m_begin (hr.mono (by decide)) b_m_begin .nil pass0))
      (pss_one (ps_ret (pe_lst (pa_cons pe_int pa_nil))))), ?_⟩
    refine meth_of (pu_var rfl) S.ins (sF_none _ _ (by decide +kernel)) pa_n ⟨sv, m, z, rfl, S, fun H1 z1 b1 S1 hz ht => ?_⟩
    refine ret1 (σ := L2.start ["server", "parts"] [.ref sv, .ref pl]) pu_c fun p hp => ?_
    have k2 : Kt K H1 (upd H1 p (.lst [.int 0])) := Kt.new hp
    refine q p _ z1 ((b1.mono (by simp)).trans k2.kb) (S1.keep k2) ⟨fun a h => (by rw [hz] at h; cases h), fun a h => .inr (ht a h)⟩ (Kb.back b1 ?_ (.of hp)) upd_same
    intro y
    rw [List.mem_singleton.mp y, S1.ins] at hp
    cases hp
/-! ## add_member -/
theorem sc35 : FnScope ["server", "parts", "asn"] ["server", "parts"] (defScope (top 35)) := ⟨rfl, rfl, rfl, by decide +kernel, rfl, by decide +kernel, by decide +kernel⟩
theorem ok_addM (T : Tx K mg base) : OkD P w K mg base 10 (ga K "add_member") ["server", "parts"] (spDo K 1) := by
  obtain ⟨fd, F⟩ : ∃ fd, FunD K "add_member" "add_member" (defArgs (top 35)) (defBody (top 35)) (defScope (top 35)) [] [] (ga K "add_member") fd := T.fn 15 _ rfl
  obtain ⟨_, G_is_asn, b_is_asn, k_is_asn⟩ := ok_is_asn (P := P) (w := w) T
  obtain ⟨_, G_m_add_member, b_m_add_member, k_m_add_member⟩ := ok_add (P := P) (w := w) T
  refine okD_mk F (F.ok sc35 (fun vs H Q E h => ?_) (fun cdv A outer s H vs Q E hr h => ?_)) (fun _ _ _ _ _ _ us hl => match us, hl with | [_, _], _ => rfl)
  · obtain ⟨_, _, _, _, _, rfl, _⟩ := h
    rfl
  · obtain ⟨sv, pl, m, z, xs, rfl, S, ok, tabs, hpl, hc, q⟩ := h
    obtain ⟨asn, rfl⟩ := parts1 hc rfl
    obtain ⟨o, O⟩ := ok (by decide)
    have W := O.wf
    have q : PostD K sv z H (opAdd m asn) Q := q
    refine ⟨_, PSs.nox (pss_cons (ps_set (i := 2) sc35.nd rfl (Or.inl rfl) (pe_ix ix_list (pv 1) pe_int (fun _ _ => rfl)))
      (pss_cons (ps_if (pt_not (pt_val (pe_call G_is_asn (hr.mono (by decide)) (by rfl) (T.glo "is_asn" (by decide +kernel)) k_is_asn b_is_asn .nil pass0 (pa_cons (pv 2) pa_nil)))) (pss_one (ps_ret (pe_lst (pa_cons (pe_gi T (-22)) pa_nil)))) pss_nil)
      (pss_cons (ps_if (pt_cmpR op_in_seq (pv 2) (pe_fld (pv 0) rfl) (by rfl)) (pss_one (ps_ret (pe_lst (pa_cons (pe_gi T (-17)) pa_nil)))) pss_nil)
      (pss_cons (ps_if (pt_cmpR op_eq (pe_callB call_len_seq (by rfl) (T.free "len" (by decide +kernel)) boot_len (pa_cons (pe_fld (pv 0) rfl) pa_nil)) (pe_gi T 6) (nomark _)) (pss_one (ps_ret (pe_lst (pa_cons (pe_gi T (-28)) pa_nil)))) pss_nil)
      (pss_cons (ps_expr (pe_meth (pv 0) T.cl (T.me "add_member" (by decide +kernel)) G_m_add_member (hr.mono (by decide)) b_m_add_member .nil pass0 (pa_cons (pv 2) pa_nil)))
      (pss_one (ps_ret (pe_lst (pa_cons (pe_op op_sub (pe_callB call_len_seq (by rfl) (T.free "len" (by decide +kernel)) boot_len (pa_cons (pe_fld (pv 0) rfl) pa_nil)) pe_int) pa_nil))))))))), ?_⟩
    refine st_set (pu_ixL (i := 0) (pu_var rfl) pu_c (SqL.of hpl) rfl) ?_
    refine st_if (asn_of (a := asn) (pu_var rfl)) (fun e => ret1 pu_c (post_stay S (.refl _) ?_ q)) fun e => ?_
    · unfold opAdd
      rw [if_pos]
      intro y
      unfold isAsn at e
      rw [decide_eq_true y.1, decide_eq_true y.2] at e
      cases e
    · have e1 : 1 ≤ asn ∧ asn ≤ 9999 := by
        unfold isAsn at e
        rw [Bool.not_eq_false', Bool.and_eq_true, decide_eq_true_eq, decide_eq_true_eq] at e
        exact e
      refine st_if (k := m.asns.contains asn) (put_test (pu_is (pu_in (pu_var rfl) (pu_asns T S (pu_var rfl)) (.inl (SqL.of S.asns)) rfl (nv_flat _)) (by rw [nv_in]))) (fun e2 => ret1 pu_c (post_stay S (.refl _) ?_ q)) fun e2 => ?_
      · unfold opAdd
        rw [if_neg (fun y => y e1), if_pos (by rw [List.contains_iff_mem] at e2; exact e2)]
      · have e3 : asn ∉ m.asns := fun y => by
          rw [List.contains_iff_mem.mpr y] at e2
          cases e2
        refine st_if (put_test (pu_eqN (i := m.num) (j := 6) (pu_num T S (pu_var rfl)) pu_c)) (fun e4 => ret1 pu_c (post_stay S (.refl _) ?_ q)) fun e4 => ?_
        · unfold opAdd
          rw [if_neg (fun y => y e1), if_neg e3, if_pos (of_decide_eq_true e4)]
        · have hn := W.num
          have e5 : ¬ m.num = 6 := of_decide_eq_false e4
          refine meth_of (pu_var rfl) S.ins (sF_none _ _ (by decide +kernel)) (pa_c (pu_var rfl) pa_n) ⟨sv, asn, m, z, rfl, S, W, by omega, fun H1 z1 b1 S1 f1 ht => ?_⟩
          have er : opAdd m asn = (m.add asn, [(m.num : Int)]) := by
            unfold opAdd
            rw [if_neg (fun y => y e1), if_neg e3, if_neg e5]
          rw [er] at q
          have en : (m.add asn).num = m.num + 1 := by
            show (m.asns ++ [asn]).length = _
            rw [List.length_append]
            rfl
          refine ret1 (c := (m.num : Int)) (pu_is (pu_I (pu_num T S1 (pu_var rfl)) pu_c) ?_) fun p hp => ?_
          · show V.int (((m.add asn).num : Int) - 1) = _
            rw [en]
            congr 1
            omega
          · have k2 : Kt K H1 (upd H1 p (.lst [.int (m.num : Int)])) := Kt.new hp
            refine q p _ z1 ((b1.mono (by simp)).trans k2.kb) (S1.keep k2) ⟨fun a h => .inr (f1 a h), ht⟩ (Kb.back b1 ?_ (.of hp)) upd_same
            intro y
            rw [List.mem_singleton.mp y, S1.ins] at hp
            cases hp
end
end Rs

/-! # The walk, part 14: withdraw, announce, withdraw_all -/
namespace Rs
open PySem PySem.Spec PyProof.Rows L2 LamX NdefX
open Su201 (Route)
section
variable {K : PySem.W.Frag} {mg : Str → Option Value} {base : Heap} {H H1 H2 : Hp} {σ : L2.St} {s : Addr} {z : SA} {m : M}
theorem pl_lt (o : Option Nat) : decide (plI o < 0) = decide (o = none) := by
  cases o with
  | none => rfl
  | some i =>
    rw [decide_eq_false (p := (some i : Option Nat) = none) (by simp)]
    exact decide_eq_false (by show ¬ ((i : Int) < 0); omega)
theorem place_lt {k a l : Nat} {te tk ta tl : TE} {E : XK} {Q : Bool → Hp → Prop} (S : SvAt K H s m z) (hs : Pu te σ H (.ref s)) (hk : Pu tk σ H (.int (k : Int))) (ha : Pu ta σ H (.int (a : Int))) (hl : Pu tl σ H (.int (l : Int)))
    (q : ∀ H', Kt K H H' → Q (decide (place m.routes k a l = none)) H') : tTest (tOp (rI0 fun i j => .bl (decide (i < j))) (tMeth (cS K) "place_of" (spPlaceOf K) [] E te (tCons tk (tCons (tTup (tCons ta (tCons tl tNil))) tNil))) (tC (.int 0))) σ H Q := by
  refine hs _ ⟨s, _, _, rfl, S.ins, sF_none _ _ (by decide +kernel), hk _ (tup_of (pa_c ha (pa_c hl pa_n)) (by show 2 ≤ 1000; decide) fun p hp => ?_)⟩
  have k0 : Kt K H (upd H p (.tup [.int (a : Int), .int (l : Int)])) := Kt.new hp
  refine ⟨s, p, k, a, l, m, z, rfl, S.keep k0, upd_same, fun H1 k1 => ⟨_, _, rfl, rfl, _, rfl, ?_⟩⟩
  rw [pl_lt]
  exact q _ (k0.trans k1)
theorem sv_ne {a : Addr} (S : SvAt K H s m z) (h : ∃ xs, H a = some (.lst xs)) : a ∉ [s] := fun y => by
  obtain ⟨xs, h⟩ := h
  rw [List.mem_singleton.mp y, S.ins] at h
  cases h
theorem tb_at {l : Addr} {as : List Addr} {ts : List (List Route)} (G : TbAt H l as ts) {a : Addr} (h : a ∈ as) : ∃ xs, H a = some (.lst xs) := by
  obtain ⟨i, hi⟩ := List.getElem?_of_mem h
  obtain ⟨r, _, bs, hr⟩ := pair_getL G.all hi
  exact ⟨_, hr.at_⟩
/-- the tables of before stand while the server's fields change -/
theorem TbAt.keepS {l : Addr} {as : List Addr} {ts : List (List Route)} (S : SvAt K H s m z) (k : Kb K [s] H H1) (G : TbAt H l as ts) : TbAt H1 l as ts :=
  G.keepB k (fun b hb => .inr ⟨cS K, z.dx, sF m.made z, by rw [List.mem_singleton.mp hb]; exact S.ins⟩) (sv_ne S ⟨_, G.at_⟩) fun a ha => sv_ne S (tb_at G ha)
/-- ... and while a cell changes -/
theorem TbAt.keepR {l : Addr} {as : List Addr} {ts : List (List Route)} (S : SvAt K H s m z) (k : Kb K z.rows H1 H2) (k0 : Kt K H H1) (G : TbAt H1 l as ts) (n : Nw H l) (f : ∀ a ∈ as, Nw H a) : TbAt H2 l as ts :=
  G.keepB k (fun b hb => .inl (sv_row (S.keep k0) hb)) (nw_not (fun b hb => sv_row S hb) n) fun a ha => nw_not (fun b hb => sv_row S hb) (f a ha)
end
section
variable {K : PySem.W.Frag} {mg : Str → Option Value} {base : Heap} {P : Program} {w : World}
/-! ## withdraw -/
theorem sc37 : FnScope ["server", "parts", "member", "address", "length", "before"] ["server", "parts"] (defScope (top 37)) := ⟨rfl, rfl, rfl, by decide +kernel, rfl, by decide +kernel, by decide +kernel⟩
theorem ok_withdraw (T : Tx K mg base) : OkD P w K mg base 10 (ga K "withdraw") ["server", "parts"] (spDo K 3) := by
  obtain ⟨fd, F⟩ : ∃ fd, FunD K "withdraw" "withdraw" (defArgs (top 37)) (defBody (top 37)) (defScope (top 37)) [] [] (ga K "withdraw") fd := T.fn 17 _ rfl
  obtain ⟨_, G_m_has_member, b_m_has_member, k_m_has_member⟩ := ok_has (P := P) (w := w) T
  obtain ⟨_, G_is_prefix, b_is_prefix, k_is_prefix⟩ := ok_is_prefix (P := P) (w := w) T
  obtain ⟨_, G_m_place_of, b_m_place_of, k_m_place_of⟩ := ok_place_of (P := P) (w := w) T
  obtain ⟨_, G_tables_of, b_tables_of, k_tables_of⟩ := ok_tables_of (P := P) (w := w) T
  obtain ⟨_, G_m_routes_but, b_m_routes_but, k_m_routes_but⟩ := ok_but (P := P) (w := w) T
  obtain ⟨_, G_m_keep_routes, b_m_keep_routes, k_m_keep_routes⟩ := ok_keep (P := P) (w := w) T
  obtain ⟨_, G_changed_since, b_changed_since, k_changed_since⟩ := ok_changed (P := P) (w := w) T
  refine okD_mk F (F.ok sc37 (fun vs H Q E h => ?_) (fun cdv A outer s H vs Q E hr h => ?_)) (fun _ _ _ _ _ _ us hl => match us, hl with | [_, _], _ => rfl)
  · obtain ⟨_, _, _, _, _, rfl, _⟩ := h
    rfl
  · obtain ⟨sv, pl, m, z, xs, rfl, S, ok, tabs, hpl, hc, q⟩ := h
    obtain ⟨k, a, l, rfl⟩ := parts3 hc rfl
    obtain ⟨o, O⟩ := ok (by decide)
    have W := O.wf
    have q : PostD K sv z H (opWithdraw m k a l) Q := q
    refine ⟨_, PSs.nox (pss_cons (ps_asg (pv 1) (pg_unl rfl (pgs_cons (pg_name (i := 2) sc37.nd rfl (Or.inl rfl)) (pgs_cons (pg_name (i := 3) sc37.nd rfl (Or.inl rfl)) (pgs_cons (pg_name (i := 4) sc37.nd rfl (Or.inl rfl)) pgs_nil)))))
      (pss_cons (ps_if (pt_not (pt_val (pe_meth (pv 0) T.cl (T.me "has_member" (by decide +kernel)) G_m_has_member (hr.mono (by decide)) b_m_has_member .nil pass0 (pa_cons (pv 2) pa_nil)))) (pss_one (ps_ret (pe_lst (pa_cons (pe_gi T (-2)) pa_nil)))) pss_nil)
      (pss_cons (ps_if (pt_not (pt_val (pe_call G_is_prefix (hr.mono (by decide)) (by rfl) (T.glo "is_prefix" (by decide +kernel)) k_is_prefix b_is_prefix .nil pass0 (pa_cons (pv 3) (pa_cons (pv 4) pa_nil))))) (pss_one (ps_ret (pe_lst (pa_cons (pe_gi T (-22)) pa_nil)))) pss_nil)
      (pss_cons (ps_if (pt_cmpR op_lt (pe_meth (pv 0) T.cl (T.me "place_of" (by decide +kernel)) G_m_place_of (hr.mono (by decide)) b_m_place_of .nil pass0 (pa_cons (pv 2) (pa_cons (pe_tup (pa_cons (pv 3) (pa_cons (pv 4) pa_nil))) pa_nil))) pe_int (nomark _)) (pss_one (ps_ret (pe_lst (pa_cons (pe_gi T (-6)) pa_nil)))) pss_nil)
      (pss_cons (ps_set (i := 5) sc37.nd rfl (Or.inl rfl) (pe_call G_tables_of (hr.mono (by decide)) (by rfl) (T.glo "tables_of" (by decide +kernel)) k_tables_of b_tables_of .nil pass0 (pa_cons (pv 0) (pa_cons (pe_fld (pv 0) rfl) pa_nil))))
      (pss_cons (ps_expr (pe_meth (pv 0) T.cl (T.me "keep_routes" (by decide +kernel)) G_m_keep_routes (hr.mono (by decide)) b_m_keep_routes .nil pass0 (pa_cons (pe_meth (pv 0) T.cl (T.me "routes_but" (by decide +kernel)) G_m_routes_but (hr.mono (by decide)) b_m_routes_but .nil pass0 (pa_cons (pv 2) (pa_cons (pe_tup (pa_cons (pv 3) (pa_cons (pv 4) pa_nil))) pa_nil))) pa_nil)))
      (pss_one (ps_ret (pe_call G_changed_since (hr.mono (by decide)) (by rfl) (T.glo "changed_since" (by decide +kernel)) k_changed_since b_changed_since .nil pass0 (pa_cons (pv 0) (pa_cons (pv 5) pa_nil))))))))))), ?_⟩
    refine ⟨_, rfl, pl, _, rfl, SqL.of hpl, rfl, _, _, rfl, _, _, rfl, _, _, rfl, rfl, ?_⟩
    refine st_if (has_of (k := k) S (pu_var rfl) (pu_var rfl)) (fun e => ret1 pu_c (post_stay S (.refl _) ?_ q)) fun e => ?_
    · unfold opWithdraw
      rw [if_pos (of_decide_eq_false ((Bool.not_eq_true' _).mp e))]
    · have hk : k < m.num := of_decide_eq_true ((Bool.not_eq_false' _).mp e)
      refine st_if (pfx_of (a := a) (l := l) (pu_var rfl) (pu_var rfl)) (fun e2 => ret1 pu_c (post_stay S (.refl _) ?_ q)) fun e2 => ?_
      · unfold opWithdraw
        rw [if_neg (fun y => y hk), if_pos ((Bool.not_eq_true' _).mp e2)]
      · have e3 : ¬ Su201.isPrefix a l = false := by
          rw [(Bool.not_eq_false' _).mp e2]
          exact Bool.noConfusion
        refine st_ifG (place_lt (k := k) (a := a) (l := l) S (pu_var rfl) (pu_var rfl) (pu_var rfl) (pu_var rfl) fun H1 k1 => ?_)
        have S1 := S.keep k1
        cases e4 : place m.routes k a l with
        | none =>
          refine ite_t rfl (ret1 pu_c (post_stay S k1 ?_ q))
          unfold opWithdraw
          rw [if_neg (fun y => y hk), if_neg e3, e4]
        | some i =>
          refine ite_f rfl ?_
          have er : opWithdraw m k a l = ({ m with routes := but m.routes i }, changed m { m with routes := but m.routes i }) := by
            unfold opWithdraw
            rw [if_neg (fun y => y hk), if_neg e3, e4]
          refine st_setG (call_of (pa_c (pu_var rfl) (pa_c (pu_rts T S1 (pu_var rfl)) pa_n)) ⟨sv, z.rts, m, z, z.rR, m.routes, rfl, sv_args S1 W (k1.tb tabs), fun q1 ts H2 k2 n2 B2 f2 => ?_⟩)
          have S2 := S1.keep k2
          refine ⟨_, rfl, sv, _, _, rfl, S2.ins, sF_none _ _ (by decide +kernel), _, rfl, sv, _, _, rfl, S2.ins, sF_none _ _ (by decide +kernel), _, rfl, ?_⟩
          refine tup_of (pa_c (pu_var (i := 3) rfl) (pa_c (pu_var (i := 4) rfl) pa_n)) (by show 2 ≤ 1000; decide) fun p hp => ?_
          have k3 : Kt K H2 (upd H2 p (.tup [.int (a : Int), .int (l : Int)])) := Kt.new hp
          refine ⟨sv, p, k, a, l, i, m, z, rfl, S2.keep k3, W.many, upd_same, e4, fun q4 bs H4 k4 n4 L4 => ?_⟩
          have k34 := k3.trans k4
          have S4 := S2.keep k34
          refine ⟨sv, q4, m, z, bs, _, rfl, S4, L4, fun H5 z5 b5 S5 hz ht => ?_⟩
          have B5 := (B2.keep k34).keepS S4 b5
          refine call_of (pa_c (pu_var (i := 0) rfl) (pa_c (pu_var (i := 5) rfl) pa_n)) (changed_of er ((k1.trans (k2.trans k34)).kb.trans (b5.mono (by simp))) S5 hz (fun a h => (ht a h).imp_right fun y => by rw [y]; exact Nw.back (k1.trans (k2.trans k3)) n4) (wf_sub W (erase_sub _ _)) rfl tabs B5 q)
end
end Rs

/-! # The walk, part 15: announce, withdraw_all, the policies -/
namespace Rs
open PySem PySem.Spec PyProof.Rows L2 LamX NdefX
open Su201 (Route)
theorem parts_ann {xs : List Nat} (h : CallOk (2, xs)) : ∃ k a l c path, xs = k :: a :: l :: c :: path := by
  have h2 : xs.length = 4 + xs.getD 3 0 := h.2
  match xs, h2 with
  | k :: a :: l :: c :: path, _ => exact ⟨k, a, l, c, path, rfl⟩
  | [], h => simp at h
  | [_], h => simp at h
  | [_, _], h => simp at h
  | [_, _, _], h => simp at h
theorem and_of {u : TT} {σ : L2.St} {H : Hp} {k1 k2 : Bool} {X : Bool → Hp → Prop} (hu : PuT u σ H k2) (h : X (k1 && k2) H) : if k1 = true then u σ H X else X false H := by
  cases k1 with
  | true =>
    rw [if_pos rfl]
    exact hu _ h
  | false =>
    rw [if_neg Bool.false_ne_true]
    exact h
theorem cut_from (xs : List V) : cutV xs (some 4) none = xs.drop 4 := cut_drop xs 3
section
variable {K : PySem.W.Frag} {mg : Str → Option Value} {base : Heap} {P : Program} {w : World}
/-! ## announce -/
theorem sc36 : FnScope ["server", "parts", "member", "address", "length", "path", "before"] ["server", "parts"] (defScope (top 36)) := ⟨rfl, rfl, rfl, by decide +kernel, rfl, by decide +kernel, by decide +kernel⟩
theorem ok_announce (T : Tx K mg base) : OkD P w K mg base 10 (ga K "announce") ["server", "parts"] (spDo K 2) := by
  obtain ⟨fd, F⟩ : ∃ fd, FunD K "announce" "announce" (defArgs (top 36)) (defBody (top 36)) (defScope (top 36)) [] [] (ga K "announce") fd := T.fn 16 _ rfl
  obtain ⟨_, G_m_has_member, b_m_has_member, k_m_has_member⟩ := ok_has (P := P) (w := w) T
  obtain ⟨_, G_is_prefix, b_is_prefix, k_is_prefix⟩ := ok_is_prefix (P := P) (w := w) T
  obtain ⟨_, G_is_path, b_is_path, k_is_path⟩ := ok_is_path (P := P) (w := w) T
  obtain ⟨_, G_m_place_of, b_m_place_of, k_m_place_of⟩ := ok_place_of (P := P) (w := w) T
  obtain ⟨_, G_tables_of, b_tables_of, k_tables_of⟩ := ok_tables_of (P := P) (w := w) T
  obtain ⟨_, G_m_put_route, b_m_put_route, k_m_put_route⟩ := ok_put (P := P) (w := w) T
  obtain ⟨_, G_changed_since, b_changed_since, k_changed_since⟩ := ok_changed (P := P) (w := w) T
  refine okD_mk F (F.ok sc36 (fun vs H Q E h => ?_) (fun cdv A outer s H vs Q E hr h => ?_)) (fun _ _ _ _ _ _ us hl => match us, hl with | [_, _], _ => rfl)
  · obtain ⟨_, _, _, _, _, rfl, _⟩ := h
    rfl
  · obtain ⟨sv, pl, m, z, xs, rfl, S, ok, tabs, hpl, hc, q⟩ := h
    obtain ⟨k, a, l, c, path, rfl⟩ := parts_ann hc
    obtain ⟨o, O⟩ := ok (by decide)
    have W := O.wf
    have q : PostD K sv z H (opAnnounce m k a l path) Q := q
    refine ⟨_, PSs.nox (pss_cons (ps_par3 (i := 2) (j := 3) (l := 4) rfl sc36.nd rfl rfl rfl (by decide) (by decide) (by decide) rfl rfl rfl (pa_cons (pe_ix ix_list (pv 1) pe_int (fun _ _ => rfl)) (pa_cons (pe_ix ix_list (pv 1) pe_int (fun _ _ => rfl)) (pa_cons (pe_ix ix_list (pv 1) pe_int (fun _ _ => rfl)) pa_nil))) rfl)
      (pss_cons (ps_set (i := 5) sc36.nd rfl (Or.inl rfl) (pe_slice sl_list (pv 1) (po_some pe_int) po_none))
      (pss_cons (ps_if (pt_not (pt_val (pe_meth (pv 0) T.cl (T.me "has_member" (by decide +kernel)) G_m_has_member (hr.mono (by decide)) b_m_has_member .nil pass0 (pa_cons (pv 2) pa_nil)))) (pss_one (ps_ret (pe_lst (pa_cons (pe_gi T (-2)) pa_nil)))) pss_nil)
      (pss_cons (ps_if (PW.pt (pw_or (pt_not (pt_val (pe_call G_is_prefix (hr.mono (by decide)) (by rfl) (T.glo "is_prefix" (by decide +kernel)) k_is_prefix b_is_prefix .nil pass0 (pa_cons (pv 3) (pa_cons (pv 4) pa_nil))))) (pw_or1 (pt_not (pt_val (pe_call G_is_path (hr.mono (by decide)) (by rfl) (T.glo "is_path" (by decide +kernel)) k_is_path b_is_path .nil pass0 (pa_cons (pv 5) (pa_cons (pe_ix ix_list (pe_fld (pv 0) rfl) (pv 2) (fun _ _ => rfl)) pa_nil)))))))) (pss_one (ps_ret (pe_lst (pa_cons (pe_gi T (-22)) pa_nil)))) pss_nil)
      (pss_cons (ps_if (PW.pt (pw_and (pt_cmpR op_lt (pe_meth (pv 0) T.cl (T.me "place_of" (by decide +kernel)) G_m_place_of (hr.mono (by decide)) b_m_place_of .nil pass0 (pa_cons (pv 2) (pa_cons (pe_tup (pa_cons (pv 3) (pa_cons (pv 4) pa_nil))) pa_nil))) pe_int (nomark _)) (pw_and1 (pt_cmpR op_eq (pe_callB call_len_seq (by rfl) (T.free "len" (by decide +kernel)) boot_len (pa_cons (pe_fld (pv 0) rfl) pa_nil)) (pe_gi T 20) (nomark _))))) (pss_one (ps_ret (pe_lst (pa_cons (pe_gi T (-28)) pa_nil)))) pss_nil)
      (pss_cons (ps_set (i := 6) sc36.nd rfl (Or.inl rfl) (pe_call G_tables_of (hr.mono (by decide)) (by rfl) (T.glo "tables_of" (by decide +kernel)) k_tables_of b_tables_of .nil pass0 (pa_cons (pv 0) (pa_cons (pe_fld (pv 0) rfl) pa_nil))))
      (pss_cons (ps_expr (pe_meth (pv 0) T.cl (T.me "put_route" (by decide +kernel)) G_m_put_route (hr.mono (by decide)) b_m_put_route .nil pass0 (pa_cons (pe_tup (pa_cons (pv 2) (pa_cons (pv 3) (pa_cons (pv 4) (pa_cons (pe_callTy call_tuple_of (by rfl) (T.free "tuple" (by decide +kernel)) (by decide +kernel) (pa_cons (pv 5) pa_nil)) pa_nil))))) pa_nil)))
      (pss_one (ps_ret (pe_call G_changed_since (hr.mono (by decide)) (by rfl) (T.glo "changed_since" (by decide +kernel)) k_changed_since b_changed_since .nil pass0 (pa_cons (pv 0) (pa_cons (pv 6) pa_nil)))))))))))), ?_⟩
    have v1 : Pu (tVar 1) (L2.start ["server", "parts", "member", "address", "length", "path", "before"] [.ref sv, .ref pl]) H (.ref pl) := pu_var rfl
    refine pu_ixL (i := 0) v1 pu_c (SqL.of hpl) rfl _ (pu_ixL (i := 1) v1 pu_c (SqL.of hpl) rfl _ (pu_ixL (i := 2) v1 pu_c (SqL.of hpl) rfl _ ⟨_, _, _, rfl, ?_⟩))
    refine st_setG (sl_of (K := K) (lo := some 4) (hi := none) (pu_var rfl) (puo_s pu_c) puo_n (SqL.of hpl) fun pp hpp => ?_)
    have k1 : Kt K H (upd H pp (.lst (cutV (nv (k :: a :: l :: c :: path)) (some 4) none))) := Kt.new hpp
    have h1 : (upd H pp (.lst (cutV (nv (k :: a :: l :: c :: path)) (some 4) none))) pp = some (.lst (nv path)) := by
      rw [upd_same, cut_from]
      rfl
    generalize upd H pp (.lst (cutV (nv (k :: a :: l :: c :: path)) (some 4) none)) = H1 at k1 h1 ⊢
    have S1 := S.keep k1
    refine st_if (has_of (k := k) S1 (pu_var rfl) (pu_var rfl)) (fun e => ret1 pu_c (post_stay S k1 ?_ q)) fun e => ?_
    · unfold opAnnounce
      rw [if_pos (of_decide_eq_false ((Bool.not_eq_true' _).mp e))]
    · have hk : k < m.num := of_decide_eq_true ((Bool.not_eq_false' _).mp e)
      refine st_ifG (t_or (pfx_of (a := a) (l := l) (pu_var rfl) (pu_var rfl) _ ?_))
      cases e2 : Su201.isPrefix a l with
      | false =>
        refine iteT (B := _) (iteT (B := _) (ret1 pu_c (post_stay S k1 ?_ q)))
        unfold opAnnounce
        rw [if_neg (fun y => y hk), if_pos (.inl e2)]
      | true =>
        refine iteF (A := _) (t_not (call_of (sp := spIsPath K) (vs := [.ref pp, .int ((m.asns.getD k 0 : Nat) : Int)]) (pa_c (pu_var rfl) (pa_c (pu_ixL (pu_asns T S1 (pu_var rfl)) (pu_var rfl) (SqL.of S1.asns) (nv_at (asn_get hk))) pa_n)) ⟨pp, path, m.asns.getD k 0, rfl, h1, fun H2 k2 => ⟨_, rfl, ?_⟩⟩))
        have k12 := k1.trans k2
        cases e3 : isPath path (m.asns.getD k 0) with
        | false =>
          refine iteT (B := _) (ret1 pu_c (post_stay S k12 ?_ q))
          unfold opAnnounce
          rw [if_neg (fun y => y hk), if_pos (.inr e3)]
        | true =>
          refine iteF (A := _) ?_
          have S2 := S.keep k12
          have e23 : ¬ (Su201.isPrefix a l = false ∨ isPath path (m.asns.getD k 0) = false) := by
            rw [e2, e3]
            rintro (y | y) <;> cases y
          refine st_ifG (t_and (place_lt (k := k) (a := a) (l := l) S2 (pu_var rfl) (pu_var rfl) (pu_var rfl) (pu_var rfl) fun H3 k3 => ?_))
          have k13 := k12.trans k3
          have S3 := S.keep k13
          have hlr := pair_len S.rts.all
          refine and_of (put_test (pu_eqN (i := m.routes.length) (j := 20) (pu_is (pu_len (K := K) (pu_rts T S3 (pu_var rfl)) (.inl (SqL.of S3.rts.at_))) (by rw [List.length_map, hlr])) pu_c)) ?_
          by_cases c4 : place m.routes k a l = none ∧ m.routes.length = 20
          · refine ite_t (by rw [decide_eq_true c4.1, decide_eq_true c4.2]; rfl) (ret1 pu_c (post_stay S k13 ?_ q))
            unfold opAnnounce
            rw [if_neg (fun y => y hk), if_neg e23, if_pos c4]
          · refine ite_f (Bool.eq_false_iff.mpr fun y => c4 ?_) ?_
            · rw [Bool.and_eq_true, decide_eq_true_eq, decide_eq_true_eq] at y
              exact y
            · have er : opAnnounce m k a l path = ({ m with routes := put m.routes ⟨k, a, l, path⟩ }, changed m { m with routes := put m.routes ⟨k, a, l, path⟩ }) := by
                unfold opAnnounce
                rw [if_neg (fun y => y hk), if_neg e23, if_neg c4]
              have O' := (announce_is O k a l path).1
              rw [er] at O'
              refine st_setG (call_of (pa_c (pu_var rfl) (pa_c (pu_rts T S3 (pu_var rfl)) pa_n)) ⟨sv, z.rts, m, z, z.rR, m.routes, rfl, sv_args S3 W (k13.tb tabs), fun q1 ts H4 k4 n4 B4 f4 => ?_⟩)
              have k14 := k13.trans k4
              have S4 := S.keep k14
              refine ⟨_, rfl, sv, _, _, rfl, S4.ins, sF_none _ _ (by decide +kernel), _, rfl, _, rfl, _, rfl, _, rfl, pp, _, rfl, .inl ⟨SqL.of (((k2.trans k3).trans k4).lst h1), fun pt hpt => ⟨(by show 4 ≤ sizeLine; decide), fun pr hpr => ?_⟩⟩⟩
              have k5 : Kt K H4 (upd H4 pt (.tup (nv path))) := Kt.new hpt
              have k6 : Kt K (upd H4 pt (.tup (nv path))) (upd (upd H4 pt (.tup (nv path))) pr (.tup [.int (k : Int), .int (a : Int), .int (l : Int), .ref pt])) := Kt.new hpr
              have k56 := k5.trans k6
              have R : RtAt (upd (upd H4 pt (.tup (nv path))) pr (.tup [.int (k : Int), .int (a : Int), .int (l : Int), .ref pt])) pr ⟨k, a, l, path⟩ := ⟨pt, upd_same, k6.tup upd_same⟩
              have S6 := S4.keep k56
              refine ⟨sv, pr, m, z, ⟨k, a, l, path⟩, rfl, S6, R, W.many, fun H7 z7 b7 S7 hz ht => ?_⟩
              have B7 := (B4.keep k56).keepS S6 b7
              exact call_of (pa_c (pu_var (i := 0) rfl) (pa_c (pu_var (i := 6) rfl) pa_n)) (changed_of er ((k14.trans k56).kb.trans (b7.mono (by simp))) S7 hz (fun a h => (ht a h).imp_right (Nw.back (k14.trans k56))) O'.wf rfl tabs B7 q)
end
end Rs

/-! # The walk, part 16: withdraw_all, the policies -/
namespace Rs
open PySem PySem.Spec PyProof.Rows L2 LamX NdefX
open Su201 (Route)
section
variable {K : PySem.W.Frag} {mg : Str → Option Value} {base : Heap} {P : Program} {w : World}
/-! ## withdraw_all -/
theorem sc42 : FnScope ["server", "parts", "before", "route"] ["server", "parts"] (defScope (top 42)) := ⟨rfl, rfl, rfl, by decide +kernel, rfl, by decide +kernel, by decide +kernel⟩
theorem ok_all (T : Tx K mg base) : OkD P w K mg base 10 (ga K "withdraw_all") ["server", "parts"] (spDo K 14) := by
  obtain ⟨fd, F⟩ : ∃ fd, FunD K "withdraw_all" "withdraw_all" (defArgs (top 42)) (defBody (top 42)) (defScope (top 42)) [] [] (ga K "withdraw_all") fd := T.fn 22 _ rfl
  obtain ⟨_, G_m_has_member, b_m_has_member, k_m_has_member⟩ := ok_has (P := P) (w := w) T
  obtain ⟨_, G_tables_of, b_tables_of, k_tables_of⟩ := ok_tables_of (P := P) (w := w) T
  obtain ⟨_, G_m_keep_routes, b_m_keep_routes, k_m_keep_routes⟩ := ok_keep (P := P) (w := w) T
  obtain ⟨_, G_changed_since, b_changed_since, k_changed_since⟩ := ok_changed (P := P) (w := w) T
  refine okD_mk F (F.ok sc42 (fun vs H Q E h => ?_) (fun cdv A outer s H vs Q E hr h => ?_)) (fun _ _ _ _ _ _ us hl => match us, hl with | [_, _], _ => rfl)
  · obtain ⟨_, _, _, _, _, rfl, _⟩ := h
    rfl
  · obtain ⟨sv, pl, m, z, xs, rfl, S, ok, tabs, hpl, hc, q⟩ := h
    obtain ⟨k, rfl⟩ := parts1 hc rfl
    obtain ⟨o, O⟩ := ok (by decide)
    have W := O.wf
    have q : PostD K sv z H (opAll m k) Q := q
    refine ⟨_, PSs.nox (pss_cons (ps_if (pt_not (pt_val (pe_meth (pv 0) T.cl (T.me "has_member" (by decide +kernel)) G_m_has_member (hr.mono (by decide)) b_m_has_member .nil pass0 (pa_cons (pe_ix ix_list (pv 1) pe_int (fun _ _ => rfl)) pa_nil)))) (pss_one (ps_ret (pe_lst (pa_cons (pe_gi T (-2)) pa_nil)))) pss_nil)
      (pss_cons (ps_set (i := 2) sc42.nd rfl (Or.inl rfl) (pe_call G_tables_of (hr.mono (by decide)) (by rfl) (T.glo "tables_of" (by decide +kernel)) k_tables_of b_tables_of .nil pass0 (pa_cons (pv 0) (pa_cons (pe_fld (pv 0) rfl) pa_nil))))
      (pss_cons (ps_expr (pe_meth (pv 0) T.cl (T.me "keep_routes" (by decide +kernel)) G_m_keep_routes (hr.mono (by decide)) b_m_keep_routes .nil pass0 (pa_cons (pe_lc (own := [("route", 3)]) (tt := tTest (tOp rNe (tOp (rIxT K) (tVar 3) (tC (.int 0))) (tOp (rIxL K) (tVar 1) (tC (.int 0))))) (te := tVar 3) rfl sc42.nd (pi_list (pe_fld (pv 0) rfl)) (blkOk_by (N := ["server", "parts", "before", "route"]) (sc := defScope (top 42)) (by decide +kernel)) (fun _ _ _ _ _ => (pg_name (i := 3) sc42.nd rfl (Or.inl rfl))) (fun _ _ _ _ _ => pts_one (pt_cmpR op_ne (pe_ix ix_tup (pv 3) pe_int (fun _ _ => rfl)) (pe_ix ix_list (pv 1) pe_int (fun _ _ => rfl)) (nomark _))) (fun _ _ _ _ _ => (pv 3))) pa_nil)))
      (pss_one (ps_ret (pe_call G_changed_since (hr.mono (by decide)) (by rfl) (T.glo "changed_since" (by decide +kernel)) k_changed_since b_changed_since .nil pass0 (pa_cons (pv 0) (pa_cons (pv 2) pa_nil)))))))), ?_⟩
    refine st_if (has_of (k := k) S (pu_var rfl) (pu_ixL (i := 0) (pu_var rfl) pu_c (SqL.of hpl) rfl)) (fun e => ret1 pu_c (post_stay S (.refl _) ?_ q)) fun e => ?_
    · unfold opAll
      rw [if_pos (of_decide_eq_false ((Bool.not_eq_true' _).mp e))]
    · have hk : k < m.num := of_decide_eq_true ((Bool.not_eq_false' _).mp e)
      have er : opAll m k = ({ m with routes := m.routes.filter fun r => r.announcer != k }, changed m { m with routes := m.routes.filter fun r => r.announcer != k }) := by
        unfold opAll
        rw [if_neg (fun y => y hk)]
      refine st_setG (call_of (pa_c (pu_var rfl) (pa_c (pu_rts T S (pu_var rfl)) pa_n)) ⟨sv, z.rts, m, z, z.rR, m.routes, rfl, sv_args S W tabs, fun q1 ts H1 k1 n1 B1 f1 => ?_⟩)
      have S1 := S.keep k1
      have hlen := pair_len S.rts.all
      have hpl1 := k1.lst hpl
      have few := W.many
      refine ⟨_, rfl, sv, _, _, rfl, S1.ins, sF_none _ _ (by decide +kernel), _, rfl, sv, _, _, _, _, rfl, S1.ins, T.cl, T.na _ (by decide +kernel), sF_rts _ _, z.rts, rfl, ⟨_, SqL.of S1.rts.at_⟩, fun D hD => lc_w (K := K) (n := (z.rR.map V.ref).length) walk_list hD (by rw [List.length_map]; omega) (fun i H2 acc => ∃ bs : List Addr, acc = bs.map V.ref ∧ Paired (RtAt H2) bs ((m.routes.take i).filter fun r => r.announcer != k)) (fun H2 k2 => SqL.of (k2.lst S1.rts.at_)) ⟨[], rfl, .nil⟩ ?_ ?_ ?_ ?_⟩
      · rintro i H2 acc ⟨bs, rfl, hp⟩
        have h1 := pair_len hp
        have h2 := List.length_filter_le (fun r : Route => r.announcer != k) (m.routes.take i)
        rw [List.length_take] at h2
        rw [List.length_map]
        omega
      · rintro i H2 acc acc' o ⟨bs, rfl, hp⟩ hacc
        exact ⟨bs, rfl, pair_mono hp fun _ _ q => q.upd hacc⟩
      · rintro i x H2 H' acc hi k2 hacc ⟨bs, rfl, hp⟩ ⟨rfl, hx⟩ N1 N0 n1 n0
        rw [List.getElem?_map] at hx
        cases e5 : z.rR[i]? with
        | none =>
          rw [e5] at hx
          cases hx
        | some a =>
          rw [e5] at hx
          obtain rfl : V.ref a = x := Option.some.inj hx
          obtain ⟨r, hr2, hR⟩ := pair_getL S1.rts.all e5
          have R2 := hR.keep k2
          refine ⟨rfl, put_test (pu_neN (pu_ann R2 (pu_var rfl)) (pu_ixL (i := 0) (pu_var rfl) pu_c (SqL.of (k2.lst hpl1)) rfl)) _ ?_⟩
          have et : (m.routes.take (i + 1)).filter (fun r => r.announcer != k) = (m.routes.take i).filter (fun r => r.announcer != k) ++ (if (!decide (r.announcer = k)) = true then [r] else []) := by
            rw [take_next hr2, List.filter_append]
            congr 1
            by_cases c : r.announcer = k
            · rw [List.filter_cons_of_neg (by simp [c]), decide_eq_true c]
              rfl
            · rw [List.filter_cons_of_pos (by simp [c]), decide_eq_false c]
              rfl
          cases c : (!decide (r.announcer = k)) with
          | true =>
            rw [c, if_pos rfl] at et
            refine iteT (B := _) (pu_var rfl _ (n1 _ _ (Kt.refl _) ⟨bs ++ [a], by rw [List.map_append]; rfl, ?_⟩))
            rw [et]
            exact pair_app hp (.cons R2 .nil)
          | false =>
            rw [c, if_neg Bool.false_ne_true, List.append_nil] at et
            refine iteF (A := _) (n0 _ (Kt.refl _) ⟨bs, rfl, ?_⟩)
            rw [et]
            exact hp
      · rintro H2 acc k2 hacc ⟨bs, rfl, hp⟩
        rw [List.length_map, hlen, List.take_length] at hp
        have k12 := k1.trans k2
        have S2 := S.keep k12
        refine ⟨sv, D, m, z, bs, _, rfl, S2, ⟨hacc, hp⟩, fun H5 z5 b5 S5 hz ht => ?_⟩
        have B5 := (B1.keep k2).keepS S2 b5
        exact call_of (pa_c (pu_var (i := 0) rfl) (pa_c (pu_var (i := 2) rfl) pa_n)) (changed_of er (k12.kb.trans (b5.mono (by simp))) S5 hz (fun a h => (ht a h).imp_right fun y => by rw [y]; exact Nw.back k1 (.of hD)) (wf_sub W List.filter_sublist) rfl tabs B5 q)
/-! ## pair_refusal -/
theorem sc38 : FnScope ["server", "parts", "most", "member", "peer", "given"] ["server", "parts", "most"] (defScope (top 38)) := ⟨rfl, rfl, rfl, by decide +kernel, rfl, by decide +kernel, by decide +kernel⟩
def spPair (K : PySem.W.Frag) : Sp := fun vs H Q _ => ∃ (s pl : Addr) (k j v most : Nat) (m : M) (z : SA), vs = [.ref s, .ref pl, .int most] ∧ SvAt K H s m z ∧ H pl = some (.lst (nv [k, j, v])) ∧ Q (.int (pairNo m k j v most)) H
theorem ok_pair (T : Tx K mg base) : OkD P w K mg base 2 (ga K "pair_refusal") ["server", "parts", "most"] (spPair K) := by
  obtain ⟨fd, F⟩ : ∃ fd, FunD K "pair_refusal" "pair_refusal" (defArgs (top 38)) (defBody (top 38)) (defScope (top 38)) [] [] (ga K "pair_refusal") fd := T.fn 18 _ rfl
  obtain ⟨_, G_m_has_member, b_m_has_member, k_m_has_member⟩ := ok_has (P := P) (w := w) T
  refine okD_mk F (F.ok sc38 (fun vs H Q E h => ?_) (fun cdv A outer s H vs Q E hr h => ?_)) (fun _ _ _ _ _ _ us hl => match us, hl with | [_, _, _], _ => rfl)
  · obtain ⟨_, _, _, _, _, _, _, _, rfl, _⟩ := h
    rfl
  · obtain ⟨sv, pl, k, j, v, most, m, z, rfl, S, hpl, q⟩ := h
    refine ⟨_, PSs.nox (pss_cons (ps_asg (pv 1) (pg_unl rfl (pgs_cons (pg_name (i := 3) sc38.nd rfl (Or.inl rfl)) (pgs_cons (pg_name (i := 4) sc38.nd rfl (Or.inl rfl)) (pgs_cons (pg_name (i := 5) sc38.nd rfl (Or.inl rfl)) pgs_nil)))))
      (pss_cons (ps_if (PW.pt (pw_or (pt_not (pt_val (pe_meth (pv 0) T.cl (T.me "has_member" (by decide +kernel)) G_m_has_member (hr.mono (by decide)) b_m_has_member .nil pass0 (pa_cons (pv 3) pa_nil)))) (pw_or1 (pt_not (pt_val (pe_meth (pv 0) T.cl (T.me "has_member" (by decide +kernel)) G_m_has_member (hr.mono (by decide)) b_m_has_member .nil pass0 (pa_cons (pv 4) pa_nil))))))) (pss_one (ps_ret (pe_gi T (-2)))) pss_nil)
      (pss_cons (ps_if (PW.pt (pw_or (pt_cmpR op_eq (pv 3) (pv 4) (nomark _)) (pw_or1 (pt_cmpR op_gt (pv 5) (pv 2) (nomark _))))) (pss_one (ps_ret (pe_gi T (-22)))) pss_nil)
      (pss_one (ps_ret pe_int))))), ?_⟩
    refine ⟨_, rfl, pl, _, rfl, SqL.of hpl, rfl, _, _, rfl, _, _, rfl, _, _, rfl, rfl, ?_⟩
    refine st_if (put_or (has_of (k := k) S (pu_var rfl) (pu_var rfl)) fun _ => has_of (k := j) S (pu_var rfl) (pu_var rfl)) (fun e => st_ret pu_c ?_) fun e => ?_
    · have e2 : ¬ (k < m.num ∧ j < m.num) := fun y => by
        rw [decide_eq_true y.1, decide_eq_true y.2] at e
        cases e
      unfold pairNo at q
      rw [if_pos e2] at q
      exact q
    · have e2 : k < m.num ∧ j < m.num := by
        rw [Bool.or_eq_false_iff, Bool.not_eq_false', Bool.not_eq_false', decide_eq_true_eq, decide_eq_true_eq] at e
        exact e
      unfold pairNo at q
      rw [if_neg (fun y => y e2)] at q
      refine st_if (put_or (put_test (pu_eqN (i := k) (j := j) (pu_var rfl) (pu_var rfl))) fun _ => put_test (pu_I (g := fun i j => .bl (decide (i > j))) (i := (v : Int)) (j := (most : Int)) (pu_var rfl) (pu_var rfl))) (fun e3 => st_ret pu_c ?_) fun e3 => ?_
      · rw [Bool.or_eq_true, decide_eq_true_eq, decide_eq_true_eq] at e3
        rw [if_pos (by omega)] at q
        exact q
      · rw [Bool.or_eq_false_iff, decide_eq_false_iff_not, decide_eq_false_iff_not] at e3
        rw [if_neg (by omega)] at q
        exact q
theorem pair_go {m : M} {k j v most : Nat} (h : ¬ pairNo m k j v most < 0) : k < m.num ∧ j < m.num := by
  unfold pairNo at h
  by_cases c : k < m.num ∧ j < m.num
  · exact c
  · rw [if_pos c] at h
    exact absurd (by decide) h
/-! ## set_export -/
theorem sc39 : FnScope ["server", "parts", "refusal", "before"] ["server", "parts"] (defScope (top 39)) := ⟨rfl, rfl, rfl, by decide +kernel, rfl, by decide +kernel, by decide +kernel⟩
theorem ok_dE (T : Tx K mg base) : OkD P w K mg base 10 (ga K "set_export") ["server", "parts"] (spDo K 4) := by
  obtain ⟨fd, F⟩ : ∃ fd, FunD K "set_export" "set_export" (defArgs (top 39)) (defBody (top 39)) (defScope (top 39)) [] [] (ga K "set_export") fd := T.fn 19 _ rfl
  obtain ⟨_, G_pair_refusal, b_pair_refusal, k_pair_refusal⟩ := ok_pair (P := P) (w := w) T
  obtain ⟨_, G_tables_of, b_tables_of, k_tables_of⟩ := ok_tables_of (P := P) (w := w) T
  obtain ⟨_, G_m_set, b_m_set, k_m_set⟩ := ok_setE (P := P) (w := w) T
  obtain ⟨_, G_changed_since, b_changed_since, k_changed_since⟩ := ok_changed (P := P) (w := w) T
  refine okD_mk F (F.ok sc39 (fun vs H Q E h => ?_) (fun cdv A outer s H vs Q E hr h => ?_)) (fun _ _ _ _ _ _ us hl => match us, hl with | [_, _], _ => rfl)
  · obtain ⟨_, _, _, _, _, rfl, _⟩ := h
    rfl
  · obtain ⟨sv, pl, m, z, xs, rfl, S, ok, tabs, hpl, hc, q⟩ := h
    obtain ⟨k, j, v, rfl⟩ := parts3 hc rfl
    obtain ⟨o, O⟩ := ok (by decide)
    have W := O.wf
    have q : PostD K sv z H (opExport m k j v) Q := q
    refine ⟨_, PSs.nox (pss_cons (ps_set (i := 2) sc39.nd rfl (Or.inl rfl) (pe_call G_pair_refusal (hr.mono (by decide)) (by rfl) (T.glo "pair_refusal" (by decide +kernel)) k_pair_refusal b_pair_refusal .nil pass0 (pa_cons (pv 0) (pa_cons (pv 1) (pa_cons pe_int pa_nil)))))
      (pss_cons (ps_if (pt_cmpR op_lt (pv 2) pe_int (nomark _)) (pss_one (ps_ret (pe_lst (pa_cons (pv 2) pa_nil)))) pss_nil)
      (pss_cons (ps_set (i := 3) sc39.nd rfl (Or.inl rfl) (pe_call G_tables_of (hr.mono (by decide)) (by rfl) (T.glo "tables_of" (by decide +kernel)) k_tables_of b_tables_of .nil pass0 (pa_cons (pv 0) (pa_cons (pe_fld (pv 0) rfl) pa_nil))))
      (pss_cons (ps_expr (pe_meth (pv 0) T.cl (T.me "set_export" (by decide +kernel)) G_m_set (hr.mono (by decide)) b_m_set .nil pass0 (pa_cons (pe_ix ix_list (pv 1) pe_int (fun _ _ => rfl)) (pa_cons (pe_ix ix_list (pv 1) pe_int (fun _ _ => rfl)) (pa_cons (pe_ix ix_list (pv 1) pe_int (fun _ _ => rfl)) pa_nil)))))
      (pss_one (ps_ret (pe_call G_changed_since (hr.mono (by decide)) (by rfl) (T.glo "changed_since" (by decide +kernel)) k_changed_since b_changed_since .nil pass0 (pa_cons (pv 0) (pa_cons (pv 3) pa_nil))))))))), ?_⟩
    refine st_setG (call_of (pa_c (pu_var rfl) (pa_c (pu_var rfl) (pa_c pu_c pa_n))) ⟨sv, pl, k, j, v, 1, m, z, rfl, S, hpl, ?_⟩)
    refine st_if (put_test (pu_I (g := fun i j => .bl (decide (i < j))) (i := pairNo m k j v 1) (j := 0) (pu_var rfl) pu_c)) (fun e => ret1 (pu_var rfl) (post_stay S (.refl _) ?_ q)) fun e => ?_
    · unfold opExport
      rw [if_pos (of_decide_eq_true e)]
    · have e2 : ¬ pairNo m k j v 1 < 0 := of_decide_eq_false e
      obtain ⟨hk, hj⟩ := pair_go e2
      have er : opExport m k j v = (upE m k j v, changed m (upE m k j v)) := by
        unfold opExport
        rw [if_neg e2]
        rfl
      have O' := (export_is O k j v).1
      rw [er] at O'
      refine st_setG (call_of (pa_c (pu_var rfl) (pa_c (pu_rts T S (pu_var rfl)) pa_n)) ⟨sv, z.rts, m, z, z.rR, m.routes, rfl, sv_args S W tabs, fun q1 ts H1 k1 n1 B1 f1 => ?_⟩)
      have S1 := S.keep k1
      have hpl1 := SqL.of (K := K) (k1.lst hpl)
      refine meth_of (pu_var rfl) S1.ins (sF_none _ _ (by decide +kernel)) (pa_c (pu_ixL (i := 0) (pu_var rfl) pu_c hpl1 rfl) (pa_c (pu_ixL (i := 1) (pu_var rfl) pu_c hpl1 rfl) (pa_c (pu_ixL (i := 2) (pu_var rfl) pu_c hpl1 rfl) pa_n))) ⟨sv, k, j, v, m, z, rfl, S1, W, hk, hj, fun H2 b2 S2 => ?_⟩
      have B2 := B1.keepR S b2 k1 n1 f1
      exact call_of (pa_c (pu_var (i := 0) rfl) (pa_c (pu_var (i := 3) rfl) pa_n)) (changed_of er (k1.kb.trans (b2.mono fun b hb => List.mem_cons_of_mem _ hb)) S2 rfl (fun a h => .inl h) O'.wf rfl tabs B2 q)
/-! ## set_import -/
theorem sc40 : FnScope ["server", "parts", "refusal", "before"] ["server", "parts"] (defScope (top 40)) := ⟨rfl, rfl, rfl, by decide +kernel, rfl, by decide +kernel, by decide +kernel⟩
theorem ok_dI (T : Tx K mg base) : OkD P w K mg base 10 (ga K "set_import") ["server", "parts"] (spDo K 5) := by
  obtain ⟨fd, F⟩ : ∃ fd, FunD K "set_import" "set_import" (defArgs (top 40)) (defBody (top 40)) (defScope (top 40)) [] [] (ga K "set_import") fd := T.fn 20 _ rfl
  obtain ⟨_, G_pair_refusal, b_pair_refusal, k_pair_refusal⟩ := ok_pair (P := P) (w := w) T
  obtain ⟨_, G_tables_of, b_tables_of, k_tables_of⟩ := ok_tables_of (P := P) (w := w) T
  obtain ⟨_, G_m_set, b_m_set, k_m_set⟩ := ok_setI (P := P) (w := w) T
  obtain ⟨_, G_changed_since, b_changed_since, k_changed_since⟩ := ok_changed (P := P) (w := w) T
  refine okD_mk F (F.ok sc40 (fun vs H Q E h => ?_) (fun cdv A outer s H vs Q E hr h => ?_)) (fun _ _ _ _ _ _ us hl => match us, hl with | [_, _], _ => rfl)
  · obtain ⟨_, _, _, _, _, rfl, _⟩ := h
    rfl
  · obtain ⟨sv, pl, m, z, xs, rfl, S, ok, tabs, hpl, hc, q⟩ := h
    obtain ⟨k, j, v, rfl⟩ := parts3 hc rfl
    obtain ⟨o, O⟩ := ok (by decide)
    have W := O.wf
    have q : PostD K sv z H (opImport m k j v) Q := q
    refine ⟨_, PSs.nox (pss_cons (ps_set (i := 2) sc40.nd rfl (Or.inl rfl) (pe_call G_pair_refusal (hr.mono (by decide)) (by rfl) (T.glo "pair_refusal" (by decide +kernel)) k_pair_refusal b_pair_refusal .nil pass0 (pa_cons (pv 0) (pa_cons (pv 1) (pa_cons pe_int pa_nil)))))
      (pss_cons (ps_if (pt_cmpR op_lt (pv 2) pe_int (nomark _)) (pss_one (ps_ret (pe_lst (pa_cons (pv 2) pa_nil)))) pss_nil)
      (pss_cons (ps_set (i := 3) sc40.nd rfl (Or.inl rfl) (pe_call G_tables_of (hr.mono (by decide)) (by rfl) (T.glo "tables_of" (by decide +kernel)) k_tables_of b_tables_of .nil pass0 (pa_cons (pv 0) (pa_cons (pe_fld (pv 0) rfl) pa_nil))))
      (pss_cons (ps_expr (pe_meth (pv 0) T.cl (T.me "set_import" (by decide +kernel)) G_m_set (hr.mono (by decide)) b_m_set .nil pass0 (pa_cons (pe_ix ix_list (pv 1) pe_int (fun _ _ => rfl)) (pa_cons (pe_ix ix_list (pv 1) pe_int (fun _ _ => rfl)) (pa_cons (pe_ix ix_list (pv 1) pe_int (fun _ _ => rfl)) pa_nil)))))
      (pss_one (ps_ret (pe_call G_changed_since (hr.mono (by decide)) (by rfl) (T.glo "changed_since" (by decide +kernel)) k_changed_since b_changed_since .nil pass0 (pa_cons (pv 0) (pa_cons (pv 3) pa_nil))))))))), ?_⟩
    refine st_setG (call_of (pa_c (pu_var rfl) (pa_c (pu_var rfl) (pa_c pu_c pa_n))) ⟨sv, pl, k, j, v, 1, m, z, rfl, S, hpl, ?_⟩)
    refine st_if (put_test (pu_I (g := fun i j => .bl (decide (i < j))) (i := pairNo m k j v 1) (j := 0) (pu_var rfl) pu_c)) (fun e => ret1 (pu_var rfl) (post_stay S (.refl _) ?_ q)) fun e => ?_
    · unfold opImport
      rw [if_pos (of_decide_eq_true e)]
    · have e2 : ¬ pairNo m k j v 1 < 0 := of_decide_eq_false e
      obtain ⟨hk, hj⟩ := pair_go e2
      have er : opImport m k j v = (upI m k j v, changed m (upI m k j v)) := by
        unfold opImport
        rw [if_neg e2]
        rfl
      have O' := (import_is O k j v).1
      rw [er] at O'
      refine st_setG (call_of (pa_c (pu_var rfl) (pa_c (pu_rts T S (pu_var rfl)) pa_n)) ⟨sv, z.rts, m, z, z.rR, m.routes, rfl, sv_args S W tabs, fun q1 ts H1 k1 n1 B1 f1 => ?_⟩)
      have S1 := S.keep k1
      have hpl1 := SqL.of (K := K) (k1.lst hpl)
      refine meth_of (pu_var rfl) S1.ins (sF_none _ _ (by decide +kernel)) (pa_c (pu_ixL (i := 0) (pu_var rfl) pu_c hpl1 rfl) (pa_c (pu_ixL (i := 1) (pu_var rfl) pu_c hpl1 rfl) (pa_c (pu_ixL (i := 2) (pu_var rfl) pu_c hpl1 rfl) pa_n))) ⟨sv, k, j, v, m, z, rfl, S1, W, hk, hj, fun H2 b2 S2 => ?_⟩
      have B2 := B1.keepR S b2 k1 n1 f1
      exact call_of (pa_c (pu_var (i := 0) rfl) (pa_c (pu_var (i := 3) rfl) pa_n)) (changed_of er (k1.kb.trans (b2.mono fun b hb => List.mem_cons_of_mem _ hb)) S2 rfl (fun a h => .inl h) O'.wf rfl tabs B2 q)
/-! ## set_preference -/
theorem sc41 : FnScope ["server", "parts", "refusal", "before"] ["server", "parts"] (defScope (top 41)) := ⟨rfl, rfl, rfl, by decide +kernel, rfl, by decide +kernel, by decide +kernel⟩
theorem ok_dP (T : Tx K mg base) : OkD P w K mg base 10 (ga K "set_preference") ["server", "parts"] (spDo K 6) := by
  obtain ⟨fd, F⟩ : ∃ fd, FunD K "set_preference" "set_preference" (defArgs (top 41)) (defBody (top 41)) (defScope (top 41)) [] [] (ga K "set_preference") fd := T.fn 21 _ rfl
  obtain ⟨_, G_pair_refusal, b_pair_refusal, k_pair_refusal⟩ := ok_pair (P := P) (w := w) T
  obtain ⟨_, G_tables_of, b_tables_of, k_tables_of⟩ := ok_tables_of (P := P) (w := w) T
  obtain ⟨_, G_m_set, b_m_set, k_m_set⟩ := ok_setP (P := P) (w := w) T
  obtain ⟨_, G_changed_since, b_changed_since, k_changed_since⟩ := ok_changed (P := P) (w := w) T
  refine okD_mk F (F.ok sc41 (fun vs H Q E h => ?_) (fun cdv A outer s H vs Q E hr h => ?_)) (fun _ _ _ _ _ _ us hl => match us, hl with | [_, _], _ => rfl)
  · obtain ⟨_, _, _, _, _, rfl, _⟩ := h
    rfl
  · obtain ⟨sv, pl, m, z, xs, rfl, S, ok, tabs, hpl, hc, q⟩ := h
    obtain ⟨k, j, v, rfl⟩ := parts3 hc rfl
    obtain ⟨o, O⟩ := ok (by decide)
    have W := O.wf
    have q : PostD K sv z H (opPref m k j v) Q := q
    refine ⟨_, PSs.nox (pss_cons (ps_set (i := 2) sc41.nd rfl (Or.inl rfl) (pe_call G_pair_refusal (hr.mono (by decide)) (by rfl) (T.glo "pair_refusal" (by decide +kernel)) k_pair_refusal b_pair_refusal .nil pass0 (pa_cons (pv 0) (pa_cons (pv 1) (pa_cons (pe_gi T 9) pa_nil)))))
      (pss_cons (ps_if (pt_cmpR op_lt (pv 2) pe_int (nomark _)) (pss_one (ps_ret (pe_lst (pa_cons (pv 2) pa_nil)))) pss_nil)
      (pss_cons (ps_set (i := 3) sc41.nd rfl (Or.inl rfl) (pe_call G_tables_of (hr.mono (by decide)) (by rfl) (T.glo "tables_of" (by decide +kernel)) k_tables_of b_tables_of .nil pass0 (pa_cons (pv 0) (pa_cons (pe_fld (pv 0) rfl) pa_nil))))
      (pss_cons (ps_expr (pe_meth (pv 0) T.cl (T.me "set_preference" (by decide +kernel)) G_m_set (hr.mono (by decide)) b_m_set .nil pass0 (pa_cons (pe_ix ix_list (pv 1) pe_int (fun _ _ => rfl)) (pa_cons (pe_ix ix_list (pv 1) pe_int (fun _ _ => rfl)) (pa_cons (pe_ix ix_list (pv 1) pe_int (fun _ _ => rfl)) pa_nil)))))
      (pss_one (ps_ret (pe_call G_changed_since (hr.mono (by decide)) (by rfl) (T.glo "changed_since" (by decide +kernel)) k_changed_since b_changed_since .nil pass0 (pa_cons (pv 0) (pa_cons (pv 3) pa_nil))))))))), ?_⟩
    refine st_setG (call_of (pa_c (pu_var rfl) (pa_c (pu_var rfl) (pa_c pu_c pa_n))) ⟨sv, pl, k, j, v, 9, m, z, rfl, S, hpl, ?_⟩)
    refine st_if (put_test (pu_I (g := fun i j => .bl (decide (i < j))) (i := pairNo m k j v 9) (j := 0) (pu_var rfl) pu_c)) (fun e => ret1 (pu_var rfl) (post_stay S (.refl _) ?_ q)) fun e => ?_
    · unfold opPref
      rw [if_pos (of_decide_eq_true e)]
    · have e2 : ¬ pairNo m k j v 9 < 0 := of_decide_eq_false e
      obtain ⟨hk, hj⟩ := pair_go e2
      have er : opPref m k j v = (upP m k j v, changed m (upP m k j v)) := by
        unfold opPref
        rw [if_neg e2]
        rfl
      have O' := (pref_is O k j v).1
      rw [er] at O'
      refine st_setG (call_of (pa_c (pu_var rfl) (pa_c (pu_rts T S (pu_var rfl)) pa_n)) ⟨sv, z.rts, m, z, z.rR, m.routes, rfl, sv_args S W tabs, fun q1 ts H1 k1 n1 B1 f1 => ?_⟩)
      have S1 := S.keep k1
      have hpl1 := SqL.of (K := K) (k1.lst hpl)
      refine meth_of (pu_var rfl) S1.ins (sF_none _ _ (by decide +kernel)) (pa_c (pu_ixL (i := 0) (pu_var rfl) pu_c hpl1 rfl) (pa_c (pu_ixL (i := 1) (pu_var rfl) pu_c hpl1 rfl) (pa_c (pu_ixL (i := 2) (pu_var rfl) pu_c hpl1 rfl) pa_n))) ⟨sv, k, j, v, m, z, rfl, S1, W, hk, hj, fun H2 b2 S2 => ?_⟩
      have B2 := B1.keepR S b2 k1 n1 f1
      exact call_of (pa_c (pu_var (i := 0) rfl) (pa_c (pu_var (i := 3) rfl) pa_n)) (changed_of er (k1.kb.trans (b2.mono fun b hb => List.mem_cons_of_mem _ hb)) S2 rfl (fun a h => .inl h) O'.wf rfl tabs B2 q)
end
end Rs

/-! # The walk, part 17: tell_best, tell_eligible, tell_table, tell_lookup -/
namespace Rs
open PySem PySem.Spec PyProof.Rows L2 LamX NdefX
open Su201 (Route)
def PostQ (K : PySem.W.Frag) (H : Hp) (r : List Int) (Q : VK) : Prop := ∀ q H', Kt K H H' → Nw H q → H' q = some (.lst (r.map V.int)) → Q (.ref q) H'
def spQ (K : PySem.W.Frag) (p : Nat) : Sp := fun vs H Q _ => ∃ (s pl : Addr) (m : M) (z : SA) (xs : List Nat), vs = [.ref s, .ref pl] ∧ SvAt K H s m z ∧ Wf m ∧ Tabs (tE K) H ∧ H pl = some (.lst (nv xs)) ∧ CallOk (p, xs) ∧ PostQ K H (question m p xs) Q
section
variable {K : PySem.W.Frag} {mg : Str → Option Value} {base : Heap} {H H1 H2 : Hp} {σ : L2.St} {s : Addr} {z : SA} {m : M}
theorem post_code {c : Int} {r : List Int} {Q : VK} (k : Kt K H H1) (e : r = [c]) (q : PostQ K H r Q) : ∀ p, H1 p = none → Q (.ref p) (upd H1 p (.lst [.int c])) := fun p hp => by
  subst e
  exact q p _ (k.trans (Kt.new hp)) (Nw.back k (.of hp)) upd_same
/-- xs.extend([..]) -/
theorem ext_of {tx : TE} {t : TA} {l : Addr} {xs vs : List V} {D : Ends} (hx : Pu tx σ H (.ref l)) (hl : H l = some (.lst xs)) (he : PuA t σ H vs) (hz : (xs ++ vs).length ≤ 1000) (q : ∀ p, H p = none → D.nx σ (upd (upd H p (.lst vs)) l (.lst (xs ++ vs)))) : tDrop (tBM K "list" rExtend tx (tCons (tLst t) tNil)) D σ H := by
  rw [List.length_append] at hz
  refine hx _ ⟨.inl ⟨rfl, _, SqL.of hl⟩, lst_of he (by omega) fun p hp => ⟨l, p, xs, vs, rfl, rfl, (upd_ne (ne_of_none hl hp)).trans hl, upd_same, Nat.le_trans hz (by decide), q p hp⟩⟩
theorem call_ofG {sp : Sp} {t : TA} {E : XK} {Q : VK} (h : t σ H fun vs H1 => sp (vs ++ []) H1 Q E) : tCall sp [] E t σ H Q := h
theorem nv_app (a b : List Nat) : nv (a ++ b) = nv a ++ nv b := by
  unfold nv
  rw [List.map_append]
theorem head_nv (c : Nat) (l : List Nat) : ((c : Int) :: zInts l).map V.int = nv (c :: l) := by
  rw [List.map_cons, ← nv_ints]
  rfl
end
section
variable {K : PySem.W.Frag} {mg : Str → Option Value} {base : Heap} {P : Program} {w : World}
/-! ## place_refusal -/
theorem sc47 : FnScope ["server", "parts", "member", "address", "length"] ["server", "parts"] (defScope (top 47)) := ⟨rfl, rfl, rfl, by decide +kernel, rfl, by decide +kernel, by decide +kernel⟩
def spPlace (K : PySem.W.Frag) : Sp := fun vs H Q _ => ∃ (s pl : Addr) (k a l : Nat) (m : M) (z : SA), vs = [.ref s, .ref pl] ∧ SvAt K H s m z ∧ H pl = some (.lst (nv [k, a, l])) ∧ Q (.int (placeNo m k a l)) H
theorem ok_refusal (T : Tx K mg base) : OkD P w K mg base 2 (ga K "place_refusal") ["server", "parts"] (spPlace K) := by
  obtain ⟨fd, F⟩ : ∃ fd, FunD K "place_refusal" "place_refusal" (defArgs (top 47)) (defBody (top 47)) (defScope (top 47)) [] [] (ga K "place_refusal") fd := T.fn 25 _ rfl
  obtain ⟨_, G_m_has_member, b_m_has_member, k_m_has_member⟩ := ok_has (P := P) (w := w) T
  obtain ⟨_, G_is_prefix, b_is_prefix, k_is_prefix⟩ := ok_is_prefix (P := P) (w := w) T
  refine okD_mk F (F.ok sc47 (fun vs H Q E h => ?_) (fun cdv A outer s H vs Q E hr h => ?_)) (fun _ _ _ _ _ _ us hl => match us, hl with | [_, _], _ => rfl)
  · obtain ⟨_, _, _, _, _, _, _, rfl, _⟩ := h
    rfl
  · obtain ⟨sv, pl, k, a, l, m, z, rfl, S, hpl, q⟩ := h
    refine ⟨_, PSs.nox (pss_cons (ps_asg (pv 1) (pg_unl rfl (pgs_cons (pg_name (i := 2) sc47.nd rfl (Or.inl rfl)) (pgs_cons (pg_name (i := 3) sc47.nd rfl (Or.inl rfl)) (pgs_cons (pg_name (i := 4) sc47.nd rfl (Or.inl rfl)) pgs_nil)))))
      (pss_cons (ps_if (pt_not (pt_val (pe_meth (pv 0) T.cl (T.me "has_member" (by decide +kernel)) G_m_has_member (hr.mono (by decide)) b_m_has_member .nil pass0 (pa_cons (pv 2) pa_nil)))) (pss_one (ps_ret (pe_gi T (-2)))) pss_nil)
      (pss_cons (ps_if (pt_not (pt_val (pe_call G_is_prefix (hr.mono (by decide)) (by rfl) (T.glo "is_prefix" (by decide +kernel)) k_is_prefix b_is_prefix .nil pass0 (pa_cons (pv 3) (pa_cons (pv 4) pa_nil))))) (pss_one (ps_ret (pe_gi T (-22)))) pss_nil)
      (pss_one (ps_ret pe_int))))), ?_⟩
    refine ⟨_, rfl, pl, _, rfl, SqL.of hpl, rfl, _, _, rfl, _, _, rfl, _, _, rfl, rfl, ?_⟩
    unfold placeNo at q
    refine st_if (has_of (k := k) S (pu_var rfl) (pu_var rfl)) (fun e => st_ret pu_c ?_) fun e => ?_
    · rw [if_pos (of_decide_eq_false ((Bool.not_eq_true' _).mp e))] at q
      exact q
    · rw [if_neg (fun y => y (of_decide_eq_true ((Bool.not_eq_false' _).mp e)))] at q
      refine st_if (pfx_of (a := a) (l := l) (pu_var rfl) (pu_var rfl)) (fun e2 => st_ret pu_c ?_) fun e2 => ?_
      · rw [if_pos ((Bool.not_eq_true' _).mp e2)] at q
        exact q
      · rw [if_neg (by rw [(Bool.not_eq_false' _).mp e2]; exact Bool.noConfusion)] at q
        exact q
theorem place_go {m : M} {k a l : Nat} (h : ¬ placeNo m k a l < 0) : k < m.num := by
  unfold placeNo at h
  by_cases c : k < m.num
  · exact c
  · rw [if_pos c] at h
    exact absurd (by decide) h
/-! ## tell_best -/
theorem sc48 : FnScope ["server", "parts", "refusal", "some"] ["server", "parts"] (defScope (top 48)) := ⟨rfl, rfl, rfl, by decide +kernel, rfl, by decide +kernel, by decide +kernel⟩
theorem eligs_mem {m : M} {rs : List Route} {k a l : Nat} {r : Route} (h : r ∈ eligs m rs k a l) : r ∈ rs := by
  unfold eligs at h
  rw [List.mem_mergeSort, List.mem_filter, List.mem_filter] at h
  exact h.1.1
theorem eligs_few (m : M) (rs : List Route) (k a l : Nat) : (eligs m rs k a l).length ≤ rs.length := by
  unfold eligs
  rw [List.length_mergeSort]
  exact Nat.le_trans (List.length_filter_le _ _) (List.length_filter_le _ _)
theorem ok_best (T : Tx K mg base) : OkD P w K mg base 10 (ga K "tell_best") ["server", "parts"] (spQ K 7) := by
  obtain ⟨fd, F⟩ : ∃ fd, FunD K "tell_best" "tell_best" (defArgs (top 48)) (defBody (top 48)) (defScope (top 48)) [] [] (ga K "tell_best") fd := T.fn 26 _ rfl
  obtain ⟨_, G_place_refusal, b_place_refusal, k_place_refusal⟩ := ok_refusal (P := P) (w := w) T
  obtain ⟨_, G_eligible_ones, b_eligible_ones, k_eligible_ones⟩ := ok_eligible_ones (P := P) (w := w) T
  refine okD_mk F (F.ok sc48 (fun vs H Q E h => ?_) (fun cdv A outer s H vs Q E hr h => ?_)) (fun _ _ _ _ _ _ us hl => match us, hl with | [_, _], _ => rfl)
  · obtain ⟨_, _, _, _, _, rfl, _⟩ := h
    rfl
  · obtain ⟨sv, pl, m, z, xs, rfl, S, W, tabs, hpl, hc, q⟩ := h
    obtain ⟨k, a, l, rfl⟩ := parts3 hc rfl
    have q : PostQ K H (opBest m k a l) Q := q
    refine ⟨_, PSs.nox (pss_cons (ps_set (i := 2) sc48.nd rfl (Or.inl rfl) (pe_call G_place_refusal (hr.mono (by decide)) (by rfl) (T.glo "place_refusal" (by decide +kernel)) k_place_refusal b_place_refusal .nil pass0 (pa_cons (pv 0) (pa_cons (pv 1) pa_nil))))
      (pss_cons (ps_if (pt_cmpR op_lt (pv 2) pe_int (nomark _)) (pss_one (ps_ret (pe_lst (pa_cons (pv 2) pa_nil)))) pss_nil)
      (pss_cons (ps_set (i := 3) sc48.nd rfl (Or.inl rfl) (pe_call G_eligible_ones (hr.mono (by decide)) (by rfl) (T.glo "eligible_ones" (by decide +kernel)) k_eligible_ones b_eligible_ones .nil pass0 (pa_cons (pv 0) (pa_cons (pe_fld (pv 0) rfl) (pa_cons (pe_ix ix_list (pv 1) pe_int (fun _ _ => rfl)) (pa_cons (pe_tup (pa_cons (pe_ix ix_list (pv 1) pe_int (fun _ _ => rfl)) (pa_cons (pe_ix ix_list (pv 1) pe_int (fun _ _ => rfl)) pa_nil))) pa_nil))))))
      (pss_cons (ps_if (pt_cmpR (op_eqD hr.units) (pv 3) (pe_lst pa_nil) (nomark _)) (pss_one (ps_ret (pe_lst (pa_cons (pe_gi T (-33)) pa_nil)))) pss_nil)
      (pss_one (ps_ret (pe_op op_cat (pe_lst (pa_cons (pe_ix ix_tup (pe_ix ix_list (pv 3) pe_int (fun _ _ => rfl)) pe_int (fun _ _ => rfl)) (pa_cons (pe_callB call_len_seq (by rfl) (T.free "len" (by decide +kernel)) boot_len (pa_cons (pe_ix ix_tup (pe_ix ix_list (pv 3) pe_int (fun _ _ => rfl)) pe_int (fun _ _ => rfl)) pa_nil)) pa_nil))) (pe_callTy call_list_of (by rfl) (T.free "list" (by decide +kernel)) (by decide +kernel) (pa_cons (pe_ix ix_tup (pe_ix ix_list (pv 3) pe_int (fun _ _ => rfl)) pe_int (fun _ _ => rfl)) pa_nil))))))))), ?_⟩
    refine st_setG (call_of (pa_c (pu_var rfl) (pa_c (pu_var rfl) pa_n)) ⟨sv, pl, k, a, l, m, z, rfl, S, hpl, ?_⟩)
    refine st_if (put_test (pu_I (g := fun i j => .bl (decide (i < j))) (i := placeNo m k a l) (j := 0) (pu_var rfl) pu_c)) (fun e => ret1 (pu_var rfl) (post_code (.refl _) ?_ q)) fun e => ?_
    · unfold opBest
      rw [if_pos (of_decide_eq_true e)]
    · have e2 : ¬ placeNo m k a l < 0 := of_decide_eq_false e
      have hk := place_go e2
      have v1 : Pu (tVar 1) ((L2.start ["server", "parts", "refusal", "some"] [.ref sv, .ref pl]).set 2 (some (.int (placeNo m k a l)))) H (.ref pl) := pu_var rfl
      refine st_setG (call_ofG (cons_of (pu_var (i := 0) rfl _ (cons_of (pu_rts T S (pu_var rfl) _ (cons_of (pu_ixL (i := 0) v1 pu_c (SqL.of hpl) rfl _ (cons_of (tup_of (pa_c (pu_ixL (i := 1) v1 pu_c (SqL.of hpl) rfl) (pa_c (pu_ixL (i := 2) v1 pu_c (SqL.of hpl) rfl) pa_n)) (by show 2 ≤ 1000; decide) fun pf hpf => ?_)))))))))
      have k0 : Kt K H (upd H pf (.tup [.int (a : Int), .int (l : Int)])) := Kt.new hpf
      refine ⟨sv, z.rts, pf, k, a, l, m, z, z.rR, m.routes, rfl, ⟨S.keep k0, W, S.rts.keep k0, W.ann, W.many, hk, upd_same, k0.tb tabs⟩, fun q1 bs H1 k1 n1 L1 => ?_⟩
      have k01 := k0.trans k1
      refine st_ifG (eq_nil_of L1 (pu_var rfl) fun H2 k2 => ?_)
      have k02 := k01.trans k2
      have L2' := L1.keep k2
      cases e3 : eligs m m.routes k a l with
      | nil =>
        refine ite_t rfl (ret1 pu_c (post_code k02 ?_ q))
        unfold opBest
        rw [if_neg e2, e3]
      | cons r rest =>
        refine ite_f rfl ?_
        have er : opBest m k a l = (r.announcer : Int) :: (r.asPath.length : Int) :: zInts r.asPath := by
          unfold opBest
          rw [if_neg e2, e3]
        rw [er] at q
        have hr1 : r ∈ m.routes := eligs_mem (by rw [e3]; exact List.mem_cons_self)
        obtain ⟨a5, h5, R5⟩ := head_at L2'.all (r := r) (by rw [e3]; rfl)
        have hp6 := W.path r hr1
        have v3 : ∀ H3, LsAt H3 q1 bs (eligs m m.routes k a l) → Pu (tOp (rIxL K) (tVar 3) (tC (.int 0))) (((L2.start ["server", "parts", "refusal", "some"] [.ref sv, .ref pl]).set 2 (some (.int (placeNo m k a l)))).set 3 (some (.ref q1))) H3 (.ref a5) := fun H3 L3 => pu_ixL (i := 0) (pu_var rfl) pu_c (SqL.of L3.at_) (ref_at h5)
        obtain ⟨pp, h6, h7⟩ := pu_path R5 (v3 H2 L2')
        refine st_retG (op_of (lst_of (pa_c (pu_ann R5 (v3 H2 L2')) (pa_c (pu_len h6 (.inr (SqT.of h7))) pa_n)) (by show 2 ≤ 1000; decide) fun p8 hp8 => ?_))
        have k8 : Kt K H2 (upd H2 p8 (.lst [.int (r.announcer : Int), .int ((nv r.asPath).length : Int)])) := Kt.new hp8
        obtain ⟨pp', h9, h10⟩ := pu_path (R5.keep k8) (v3 _ (L2'.keep k8))
        refine cb_of (cons_of (h9 _ ⟨pp', _, rfl, .inr (SqT.of h10), fun p11 hp11 => ?_⟩))
        have k11 := k8.trans (Kt.new (o := .lst (nv r.asPath)) hp11)
        have hz : [V.int (r.announcer : Int), V.int ((nv r.asPath).length : Int)].length + (nv r.asPath).length ≤ sizeLine := by
          rw [nv_len]
          exact Nat.le_trans (show _ ≤ 8 by show 2 + _ ≤ 8; omega) (by decide)
        refine ⟨p8, p11, _, _, rfl, rfl, (Kt.new (K := K) (o := .lst (nv r.asPath)) hp11).lst upd_same, upd_same, hz, fun p12 hp12 => ?_⟩
        refine q p12 _ (k02.trans (k11.trans (Kt.new hp12))) (Nw.back (k02.trans k11) (.of hp12)) ?_
        rw [upd_same, nv_len]
        rw [List.map_cons, List.map_cons, ← nv_ints]
        rfl
end
end Rs

/-! # The walk, part 18: tell_eligible, tell_table, tell_lookup -/
namespace Rs
open PySem PySem.Spec PyProof.Rows L2 LamX NdefX
open Su201 (Route)
theorem flat_len {α β : Type} {f : α → List β} {n : Nat} : ∀ {l : List α}, (∀ x ∈ l, (f x).length ≤ n) → (l.flatMap f).length ≤ n * l.length
  | [], _ => Nat.zero_le _
  | x :: l, h => by
    have h1 := h x List.mem_cons_self
    have h2 := flat_len (l := l) fun y hy => h y (List.mem_cons_of_mem _ hy)
    rw [List.flatMap_cons, List.length_append, List.length_cons, Nat.mul_succ]
    omega
theorem flat_next {α β : Type} {f : α → List β} {l : List α} {i : Nat} {x : α} (h : l[i]? = some x) : (l.take (i + 1)).flatMap f = (l.take i).flatMap f ++ f x := by
  rw [take_next h, List.flatMap_append, List.flatMap_cons, List.flatMap_nil, List.append_nil]
theorem table_len (m : M) (rs : List Route) (k : Nat) : (table m rs k).length ≤ rs.length :=
  Nat.le_trans (List.length_filterMap_le _ _) (pfxs_len rs)
section
variable {K : PySem.W.Frag} {mg : Str → Option Value} {base : Heap} {P : Program} {w : World}
/-! ## tell_eligible -/
theorem sc49 : FnScope ["server", "parts", "refusal", "some", "route"] ["server", "parts"] (defScope (top 49)) := ⟨rfl, rfl, rfl, by decide +kernel, rfl, by decide +kernel, by decide +kernel⟩
theorem ok_elig (T : Tx K mg base) : OkD P w K mg base 10 (ga K "tell_eligible") ["server", "parts"] (spQ K 8) := by
  obtain ⟨fd, F⟩ : ∃ fd, FunD K "tell_eligible" "tell_eligible" (defArgs (top 49)) (defBody (top 49)) (defScope (top 49)) [] [] (ga K "tell_eligible") fd := T.fn 27 _ rfl
  obtain ⟨_, G_place_refusal, b_place_refusal, k_place_refusal⟩ := ok_refusal (P := P) (w := w) T
  obtain ⟨_, G_eligible_ones, b_eligible_ones, k_eligible_ones⟩ := ok_eligible_ones (P := P) (w := w) T
  obtain ⟨_, G_counted, b_counted, k_counted⟩ := ok_counted (P := P) (w := w) T
  refine okD_mk F (F.ok sc49 (fun vs H Q E h => ?_) (fun cdv A outer s H vs Q E hr h => ?_)) (fun _ _ _ _ _ _ us hl => match us, hl with | [_, _], _ => rfl)
  · obtain ⟨_, _, _, _, _, rfl, _⟩ := h
    rfl
  · obtain ⟨sv, pl, m, z, xs, rfl, S, W, tabs, hpl, hc, q⟩ := h
    obtain ⟨k, a, l, rfl⟩ := parts3 hc rfl
    have q : PostQ K H (opElig m k a l) Q := q
    refine ⟨_, PSs.nox (pss_cons (ps_set (i := 2) sc49.nd rfl (Or.inl rfl) (pe_call G_place_refusal (hr.mono (by decide)) (by rfl) (T.glo "place_refusal" (by decide +kernel)) k_place_refusal b_place_refusal .nil pass0 (pa_cons (pv 0) (pa_cons (pv 1) pa_nil))))
      (pss_cons (ps_if (pt_cmpR op_lt (pv 2) pe_int (nomark _)) (pss_one (ps_ret (pe_lst (pa_cons (pv 2) pa_nil)))) pss_nil)
      (pss_cons (ps_set (i := 3) sc49.nd rfl (Or.inl rfl) (pe_call G_eligible_ones (hr.mono (by decide)) (by rfl) (T.glo "eligible_ones" (by decide +kernel)) k_eligible_ones b_eligible_ones .nil pass0 (pa_cons (pv 0) (pa_cons (pe_fld (pv 0) rfl) (pa_cons (pe_ix ix_list (pv 1) pe_int (fun _ _ => rfl)) (pa_cons (pe_tup (pa_cons (pe_ix ix_list (pv 1) pe_int (fun _ _ => rfl)) (pa_cons (pe_ix ix_list (pv 1) pe_int (fun _ _ => rfl)) pa_nil))) pa_nil))))))
      (pss_one (ps_ret (pe_call G_counted (hr.mono (by decide)) (by rfl) (T.glo "counted" (by decide +kernel)) k_counted b_counted .nil pass0 (pa_cons (pe_lc (own := [("route", 4)]) (tt := tYes) (te := tOp (rIxT K) (tVar 4) (tC (.int 0))) rfl sc49.nd (pi_list (pv 3)) (blkOk_by (N := ["server", "parts", "refusal", "some", "route"]) (sc := defScope (top 49)) (by decide +kernel)) (fun _ _ _ _ _ => (pg_name (i := 4) sc49.nd rfl (Or.inl rfl))) (fun _ _ _ _ _ => pts_nil) (fun _ _ _ _ _ => (pe_ix ix_tup (pv 4) pe_int (fun _ _ => rfl)))) pa_nil))))))), ?_⟩
    refine st_setG (call_of (pa_c (pu_var rfl) (pa_c (pu_var rfl) pa_n)) ⟨sv, pl, k, a, l, m, z, rfl, S, hpl, ?_⟩)
    refine st_if (put_test (pu_I (g := fun i j => .bl (decide (i < j))) (i := placeNo m k a l) (j := 0) (pu_var rfl) pu_c)) (fun e => ret1 (pu_var rfl) (post_code (.refl _) ?_ q)) fun e => ?_
    · unfold opElig
      rw [if_pos (of_decide_eq_true e)]
    · have e2 : ¬ placeNo m k a l < 0 := of_decide_eq_false e
      have hk := place_go e2
      have er : opElig m k a l = counted ((eligs m m.routes k a l).map (·.announcer)) := by
        unfold opElig
        rw [if_neg e2]
      rw [er] at q
      have v1 : Pu (tVar 1) ((L2.start ["server", "parts", "refusal", "some", "route"] [.ref sv, .ref pl]).set 2 (some (.int (placeNo m k a l)))) H (.ref pl) := pu_var rfl
      refine st_setG (call_ofG (cons_of (pu_var (i := 0) rfl _ (cons_of (pu_rts T S (pu_var rfl) _ (cons_of (pu_ixL (i := 0) v1 pu_c (SqL.of hpl) rfl _ (cons_of (tup_of (pa_c (pu_ixL (i := 1) v1 pu_c (SqL.of hpl) rfl) (pa_c (pu_ixL (i := 2) v1 pu_c (SqL.of hpl) rfl) pa_n)) (by show 2 ≤ 1000; decide) fun pf hpf => ?_)))))))))
      have k0 : Kt K H (upd H pf (.tup [.int (a : Int), .int (l : Int)])) := Kt.new hpf
      refine ⟨sv, z.rts, pf, k, a, l, m, z, z.rR, m.routes, rfl, ⟨S.keep k0, W, S.rts.keep k0, W.ann, W.many, hk, upd_same, k0.tb tabs⟩, fun q1 bs H1 k1 n1 L1 => ?_⟩
      have k01 := k0.trans k1
      have hlen := pair_len L1.all
      have few := Nat.le_trans (eligs_few m m.routes k a l) W.many
      generalize eligs m m.routes k a l = el at L1 q hlen few
      refine ⟨_, rfl, q1, rfl, ⟨_, SqL.of L1.at_⟩, fun D hD => lc_w (K := K) (n := (bs.map V.ref).length) walk_list hD (by rw [List.length_map]; omega) (fun i H2 acc => acc = nv ((el.take i).map (·.announcer))) (fun H2 k2 => SqL.of (k2.lst L1.at_)) rfl ?_ ?_ ?_ ?_⟩
      · rintro i H2 acc rfl
        rw [nv_len, List.length_map, List.length_take]
        omega
      · rintro i H2 acc acc' o h _
        exact h
      · rintro i x H2 H' acc hi k2 hacc rfl ⟨rfl, hx⟩ N1 N0 n1 n0
        rw [List.getElem?_map] at hx
        cases e5 : bs[i]? with
        | none =>
          rw [e5] at hx
          cases hx
        | some b =>
          rw [e5] at hx
          obtain rfl : V.ref b = x := Option.some.inj hx
          obtain ⟨r, hr2, hR⟩ := pair_getL L1.all e5
          refine ⟨rfl, iteT (B := N0 H') (pu_ann (hR.keep k2) (pu_var rfl) _ (n1 _ _ (Kt.refl _) ?_))⟩
          rw [take_next hr2, List.map_append, nv_app]
          rfl
      · rintro H2 acc k2 hacc rfl
        rw [List.length_map, hlen, List.take_length] at hacc
        refine ⟨D, _, rfl, hacc, ?_, fun p H3 k3 n3 h3 => q p H3 (k01.trans (k2.trans k3)) (Nw.back (k01.trans k2) n3) ?_⟩
        · rw [nv_len, List.length_map]
          omega
        · rw [h3, counted_nv]
/-! ## tell_table -/
theorem sc50 : FnScope ["server", "parts", "table", "found", "announcer", "address", "length", "path"] ["server", "parts"] (defScope (top 50)) := ⟨rfl, rfl, rfl, by decide +kernel, rfl, by decide +kernel, by decide +kernel⟩
theorem ok_table (T : Tx K mg base) : OkD P w K mg base 10 (ga K "tell_table") ["server", "parts"] (spQ K 9) := by
  obtain ⟨fd, F⟩ : ∃ fd, FunD K "tell_table" "tell_table" (defArgs (top 50)) (defBody (top 50)) (defScope (top 50)) [] [] (ga K "tell_table") fd := T.fn 28 _ rfl
  obtain ⟨_, G_m_has_member, b_m_has_member, k_m_has_member⟩ := ok_has (P := P) (w := w) T
  obtain ⟨_, G_table_of, b_table_of, k_table_of⟩ := ok_table_of (P := P) (w := w) T
  refine okD_mk F (F.ok sc50 (fun vs H Q E h => ?_) (fun cdv A outer s H vs Q E hr h => ?_)) (fun _ _ _ _ _ _ us hl => match us, hl with | [_, _], _ => rfl)
  · obtain ⟨_, _, _, _, _, rfl, _⟩ := h
    rfl
  · obtain ⟨sv, pl, m, z, xs, rfl, S, W, tabs, hpl, hc, q⟩ := h
    obtain ⟨k, rfl⟩ := parts1 hc rfl
    have q : PostQ K H (opTable m k) Q := q
    refine ⟨_, PSs.nox (pss_cons (ps_if (pt_not (pt_val (pe_meth (pv 0) T.cl (T.me "has_member" (by decide +kernel)) G_m_has_member (hr.mono (by decide)) b_m_has_member .nil pass0 (pa_cons (pe_ix ix_list (pv 1) pe_int (fun _ _ => rfl)) pa_nil)))) (pss_one (ps_ret (pe_lst (pa_cons (pe_gi T (-2)) pa_nil)))) pss_nil)
      (pss_cons (ps_set (i := 2) sc50.nd rfl (Or.inl rfl) (pe_call G_table_of (hr.mono (by decide)) (by rfl) (T.glo "table_of" (by decide +kernel)) k_table_of b_table_of .nil pass0 (pa_cons (pv 0) (pa_cons (pe_fld (pv 0) rfl) (pa_cons (pe_ix ix_list (pv 1) pe_int (fun _ _ => rfl)) pa_nil)))))
      (pss_cons (ps_set (i := 3) sc50.nd rfl (Or.inl rfl) (pe_lst (pa_cons (pe_callB call_len_seq (by rfl) (T.free "len" (by decide +kernel)) boot_len (pa_cons (pv 2) pa_nil)) pa_nil)))
      (pss_cons (ps_for PassesOwn.never rfl (pi_list (pv 2)) (pg_tup rfl (pgs_cons (pg_name (i := 4) sc50.nd rfl (Or.inl rfl)) (pgs_cons (pg_name (i := 5) sc50.nd rfl (Or.inl rfl)) (pgs_cons (pg_name (i := 6) sc50.nd rfl (Or.inl rfl)) (pgs_cons (pg_name (i := 7) sc50.nd rfl (Or.inl rfl)) pgs_nil))))) (pss_one (ps_expr (pe_bm PySem.F.plainAttrs_list PySem.F.slot_list_extend PySem.F.type_list_extend mt_extend (pv 3) (pa_cons (pe_lst (pa_cons (pv 5) (pa_cons (pv 6) (pa_cons (pv 4) pa_nil)))) pa_nil)))))
      (pss_one (ps_ret (pv 3))))))), ?_⟩
    refine st_if (has_of (k := k) S (pu_var rfl) (pu_ixL (i := 0) (pu_var rfl) pu_c (SqL.of hpl) rfl)) (fun e => ret1 pu_c (post_code (.refl _) ?_ q)) fun e => ?_
    · unfold opTable
      rw [if_pos (of_decide_eq_false ((Bool.not_eq_true' _).mp e))]
    · have hk : k < m.num := of_decide_eq_true ((Bool.not_eq_false' _).mp e)
      have er : opTable m k = ((table m m.routes k).length : Int) :: zInts ((table m m.routes k).flatMap fun r => [r.address, r.length, r.announcer]) := by
        unfold opTable
        rw [if_neg (fun y => y hk)]
      rw [er] at q
      unfold PostQ at q
      rw [head_nv] at q
      refine st_setG (call_of (pa_c (pu_var rfl) (pa_c (pu_rts T S (pu_var rfl)) (pa_c (pu_ixL (i := 0) (pu_var rfl) pu_c (SqL.of hpl) rfl) pa_n))) ⟨sv, z.rts, k, m, z, z.rR, m.routes, rfl, sv_args S W tabs, hk, fun q1 bs H1 k1 n1 L1 => ?_⟩)
      have hlen := pair_len L1.all
      have few := Nat.le_trans (table_len m m.routes k) W.many
      generalize table m m.routes k = tb at L1 q hlen few
      refine st_setG (lst_of (pa_c (pu_len (pu_var rfl) (.inl (SqL.of L1.at_))) pa_n) (by show 1 ≤ 1000; decide) fun F0 hF => ?_)
      have kF : Kt K H1 (upd H1 F0 (.lst [.int ((bs.map V.ref).length : Int)])) := Kt.new hF
      have LF := L1.keep kF
      have hq1 : q1 ≠ F0 := ne_of_none L1.at_ hF
      have hF0 : (upd H1 F0 (.lst [.int ((bs.map V.ref).length : Int)])) F0 = some (.lst (nv (tb.length :: []))) := by
        rw [upd_same, List.length_map, hlen]
        rfl
      have nF : Nw H F0 := Nw.back k1 (.of hF)
      generalize upd H1 F0 (.lst [.int ((bs.map V.ref).length : Int)]) = HF at kF LF hF0 ⊢
      have k1F := k1.trans kF
      refine ⟨_, rfl, q1, rfl, ⟨_, SqL.of LF.at_⟩, for_it (walk_list (xs := bs.map V.ref)) (fun i σ H2 => ∃ v4 v5 v6 v7, σ = [some (.ref sv), some (.ref pl), some (.ref q1), some (.ref F0), v4, v5, v6, v7] ∧ Kt K H H2 ∧ Kb K [F0] HF H2 ∧ H2 F0 = some (.lst (nv (tb.length :: (tb.take i).flatMap fun r => [r.address, r.length, r.announcer]))))
        ⟨_, _, _, _, rfl, k1F, (Kt.refl _).kb, hF0⟩ ?_ ?_ ?_⟩
      · rintro i σ H2 _ ⟨v4, v5, v6, v7, rfl, k2, b2, h2⟩
        exact SqL.of (b2.lst (by simpa using hq1) LF.at_)
      · rintro i x σ H2 H2' hi ⟨v4, v5, v6, v7, rfl, k2, b2, h2⟩ ⟨rfl, hx⟩
        rw [List.getElem?_map] at hx
        cases e5 : bs[i]? with
        | none =>
          rw [e5] at hx
          cases hx
        | some a =>
          rw [e5] at hx
          obtain rfl : V.ref a = x := Option.some.inj hx
          obtain ⟨r, hr2, pp, g1, g2⟩ := pair_getL LF.all e5
          have n1 : a ∉ [F0] := by simpa using ne_of g1 hF0 (by intro z; cases z)
          refine ⟨a, _, rfl, SqT.of (b2.tup n1 g1), rfl, _, _, rfl, _, _, rfl, _, _, rfl, _, _, rfl, rfl, ?_⟩
          have hil := (List.getElem?_eq_some_iff.mp hr2).1
          have hfl := flat_len (f := fun r : Route => [r.address, r.length, r.announcer]) (n := 3) (l := tb.take i) fun _ _ => Nat.le_refl 3
          rw [List.length_take] at hfl
          refine ext_of (pu_var (i := 3) rfl) h2 (pa_c (pu_var (i := 5) rfl) (pa_c (pu_var (i := 6) rfl) (pa_c (pu_var (i := 4) rfl) pa_n))) ?_ fun p hp => ⟨_, _, _, _, rfl, ?_, ?_, ?_⟩
          · rw [List.length_append, nv_len, List.length_cons]
            show _ + 3 ≤ 1000
            omega
          · exact (k2.trans (Kt.new hp)).put nF ((Kt.new (K := K) hp).lst h2)
          · exact (b2.trans (Kt.new hp).kb).trans (Kb.put (by simp) (.inl ⟨_, (Kt.new (K := K) hp).lst h2⟩))
          · rw [upd_same, flat_next hr2, ← List.cons_append, nv_app]
            rfl
      · rintro σ H2 ⟨v4, v5, v6, v7, rfl, k2, b2, h2⟩
        rw [List.length_map, hlen, List.take_length] at h2
        exact st_ret (pu_var rfl) (q F0 H2 k2 nF h2)
/-! ## tell_lookup -/
theorem sc51 : FnScope ["server", "parts", "member", "destination", "found"] ["server", "parts"] (defScope (top 51)) := ⟨rfl, rfl, rfl, by decide +kernel, rfl, by decide +kernel, by decide +kernel⟩
theorem table_in {m : M} {rs : List Route} {k : Nat} {r : Route} (h : r ∈ table m rs k) : r ∈ rs := by
  unfold table at h
  obtain ⟨y, _, hy⟩ := List.mem_filterMap.mp h
  cases e : eligs m rs k y.1 y.2 with
  | nil =>
    rw [e] at hy
    cases hy
  | cons r0 t =>
    rw [e] at hy
    cases hy
    exact eligs_mem (by rw [e]; exact List.mem_cons_self)
theorem ok_lookup (T : Tx K mg base) : OkD P w K mg base 10 (ga K "tell_lookup") ["server", "parts"] (spQ K 10) := by
  obtain ⟨fd, F⟩ : ∃ fd, FunD K "tell_lookup" "tell_lookup" (defArgs (top 51)) (defBody (top 51)) (defScope (top 51)) [] [] (ga K "tell_lookup") fd := T.fn 29 _ rfl
  obtain ⟨_, G_m_has_member, b_m_has_member, k_m_has_member⟩ := ok_has (P := P) (w := w) T
  obtain ⟨_, G_table_of, b_table_of, k_table_of⟩ := ok_table_of (P := P) (w := w) T
  obtain ⟨_, G_looked_up, b_looked_up, k_looked_up⟩ := ok_looked_up (P := P) (w := w) T
  refine okD_mk F (F.ok sc51 (fun vs H Q E h => ?_) (fun cdv A outer s H vs Q E hr h => ?_)) (fun _ _ _ _ _ _ us hl => match us, hl with | [_, _], _ => rfl)
  · obtain ⟨_, _, _, _, _, rfl, _⟩ := h
    rfl
  · obtain ⟨sv, pl, m, z, xs, rfl, S, W, tabs, hpl, hc, q⟩ := h
    obtain ⟨k, x, rfl⟩ := parts2 hc rfl
    have q : PostQ K H (opLookup m k x) Q := q
    refine ⟨_, PSs.nox (pss_cons (ps_asg (pv 1) (pg_unl rfl (pgs_cons (pg_name (i := 2) sc51.nd rfl (Or.inl rfl)) (pgs_cons (pg_name (i := 3) sc51.nd rfl (Or.inl rfl)) pgs_nil))))
      (pss_cons (ps_if (pt_not (pt_val (pe_meth (pv 0) T.cl (T.me "has_member" (by decide +kernel)) G_m_has_member (hr.mono (by decide)) b_m_has_member .nil pass0 (pa_cons (pv 2) pa_nil)))) (pss_one (ps_ret (pe_lst (pa_cons (pe_gi T (-2)) pa_nil)))) pss_nil)
      (pss_cons (ps_if (pt_cmpR op_ge (pv 3) (pe_gi T 256) (nomark _)) (pss_one (ps_ret (pe_lst (pa_cons (pe_gi T (-22)) pa_nil)))) pss_nil)
      (pss_cons (ps_set (i := 4) sc51.nd rfl (Or.inl rfl) (pe_call G_looked_up (hr.mono (by decide)) (by rfl) (T.glo "looked_up" (by decide +kernel)) k_looked_up b_looked_up .nil pass0 (pa_cons (pe_call G_table_of (hr.mono (by decide)) (by rfl) (T.glo "table_of" (by decide +kernel)) k_table_of b_table_of .nil pass0 (pa_cons (pv 0) (pa_cons (pe_fld (pv 0) rfl) (pa_cons (pv 2) pa_nil)))) (pa_cons (pv 3) pa_nil))))
      (pss_cons (ps_if (pt_cmpR op_isN (pv 4) pe_non (nomark _)) (pss_one (ps_ret (pe_lst (pa_cons (pe_gi T (-33)) pa_nil)))) pss_nil)
      (pss_one (ps_ret (pe_lst (pa_cons (pe_ix ix_tup (pv 4) pe_int (fun _ _ => rfl)) (pa_cons (pe_ix ix_tup (pv 4) pe_int (fun _ _ => rfl)) (pa_cons (pe_ix ix_tup (pv 4) pe_int (fun _ _ => rfl)) pa_nil))))))))))), ?_⟩
    refine ⟨_, rfl, pl, _, rfl, SqL.of hpl, rfl, _, _, rfl, _, _, rfl, rfl, ?_⟩
    refine st_if (has_of (k := k) S (pu_var rfl) (pu_var rfl)) (fun e => ret1 pu_c (post_code (.refl _) ?_ q)) fun e => ?_
    · unfold opLookup
      rw [if_pos (of_decide_eq_false ((Bool.not_eq_true' _).mp e))]
    · have hk : k < m.num := of_decide_eq_true ((Bool.not_eq_false' _).mp e)
      refine st_if (put_test (pu_I (g := fun i j => .bl (decide (i ≥ j))) (i := (x : Int)) (j := 256) (pu_var rfl) pu_c)) (fun e2 => ret1 pu_c (post_code (.refl _) ?_ q)) fun e2 => ?_
      · unfold opLookup
        rw [decide_eq_true_eq] at e2
        rw [if_neg (fun y => y hk), if_pos (by omega)]
      · rw [decide_eq_false_iff_not] at e2
        have er : opLookup m k x = (match Su201.lookupIn (table m m.routes k) x with | none => [-33] | some r => zInts [r.announcer, r.address, r.length]) := by
          unfold opLookup
          rw [if_neg (fun y => y hk), if_neg (by omega)]
          all_goals (cases Su201.lookupIn (table m m.routes k) x <;> rfl)
        rw [er] at q
        refine st_setG (call_ofG (cons_of (call_of (pa_c (pu_var rfl) (pa_c (pu_rts T S (pu_var rfl)) (pa_c (pu_var rfl) pa_n))) ⟨sv, z.rts, k, m, z, z.rR, m.routes, rfl, sv_args S W tabs, hk, fun q1 bs H1 k1 n1 L1 => ?_⟩)))
        refine pu_var (i := 3) rfl _ ?_
        refine ⟨q1, x, bs, _, rfl, L1, fun r hr => W.pfx r (table_in hr), fun v H2 k2 hf => ?_⟩
        have k12 := k1.trans k2
        cases e3 : Su201.lookupIn (table m m.routes k) x with
        | none =>
          rw [e3] at hf q
          obtain rfl : v = .non := hf
          refine st_if (put_test (pu_isN (pu_var rfl))) (fun _ => ret1 pu_c (post_code k12 rfl q)) fun e4 => ?_
          cases e4
        | some r =>
          rw [e3] at hf q
          obtain ⟨a, rfl, R⟩ := hf
          refine st_if (k := false) (put_test (pu_is (pu_isN (pu_var rfl)) rfl)) (fun e4 => by cases e4) fun _ => ?_
          refine st_retG (lst_of (pa_c (pu_ann R (pu_var rfl)) (pa_c (pu_adr R (pu_var rfl)) (pa_c (pu_lth R (pu_var rfl)) pa_n))) (by show 3 ≤ 1000; decide) fun p hp => ?_)
          exact q p _ (k12.trans (Kt.new hp)) (Nw.back k12 (.of hp)) upd_same
end
end Rs

/-! # The walk, part 19: tell_reachable, tell_users, tell_preview -/
namespace Rs
open PySem PySem.Spec PyProof.Rows L2 LamX NdefX
open Su201 (Route)
section
variable {K : PySem.W.Frag} {mg : Str → Option Value} {base : Heap} {P : Program} {w : World}
theorem filter_next {p : Nat → Bool} {i : Nat} : (List.range (i + 1)).filter p = (List.range i).filter p ++ (if p i = true then [i] else []) := by
  rw [List.range_succ, List.filter_append]
  congr 1
  by_cases c : p i = true
  · rw [if_pos c, List.filter_cons_of_pos c, List.filter_nil]
  · rw [if_neg c, List.filter_cons_of_neg c, List.filter_nil]
theorem filter_few (p : Nat → Bool) (i : Nat) : ((List.range i).filter p).length ≤ i := by
  have h := List.length_filter_le p (List.range i)
  rw [List.length_range] at h
  exact h
theorem fn_not {H : Hp} {v : V} {o : Option Route} (h : FnAt H v o) : (!decide (v = .non)) = o.isSome := by
  cases o with
  | none =>
    obtain rfl : v = .non := h
    rfl
  | some r =>
    obtain ⟨a, rfl, _⟩ := h
    rfl
/-! ## tell_reachable -/
theorem sc52 : FnScope ["server", "parts", "table", "address"] ["server", "parts"] (defScope (top 52)) := ⟨rfl, rfl, rfl, by decide +kernel, rfl, by decide +kernel, by decide +kernel⟩
theorem ok_reach (T : Tx K mg base) : OkD P w K mg base 10 (ga K "tell_reachable") ["server", "parts"] (spQ K 11) := by
  obtain ⟨fd, F⟩ : ∃ fd, FunD K "tell_reachable" "tell_reachable" (defArgs (top 52)) (defBody (top 52)) (defScope (top 52)) [] [] (ga K "tell_reachable") fd := T.fn 30 _ rfl
  obtain ⟨_, G_m_has_member, b_m_has_member, k_m_has_member⟩ := ok_has (P := P) (w := w) T
  obtain ⟨_, G_table_of, b_table_of, k_table_of⟩ := ok_table_of (P := P) (w := w) T
  obtain ⟨_, G_looked_up, b_looked_up, k_looked_up⟩ := ok_looked_up (P := P) (w := w) T
  refine okD_mk F (F.ok sc52 (fun vs H Q E h => ?_) (fun cdv A outer s H vs Q E hr h => ?_)) (fun _ _ _ _ _ _ us hl => match us, hl with | [_, _], _ => rfl)
  · obtain ⟨_, _, _, _, _, rfl, _⟩ := h
    rfl
  · obtain ⟨sv, pl, m, z, xs, rfl, S, W, tabs, hpl, hc, q⟩ := h
    obtain ⟨k, rfl⟩ := parts1 hc rfl
    have q : PostQ K H (opReach m k) Q := q
    refine ⟨_, PSs.nox (pss_cons (ps_if (pt_not (pt_val (pe_meth (pv 0) T.cl (T.me "has_member" (by decide +kernel)) G_m_has_member (hr.mono (by decide)) b_m_has_member .nil pass0 (pa_cons (pe_ix ix_list (pv 1) pe_int (fun _ _ => rfl)) pa_nil)))) (pss_one (ps_ret (pe_lst (pa_cons (pe_gi T (-2)) pa_nil)))) pss_nil)
      (pss_cons (ps_set (i := 2) sc52.nd rfl (Or.inr rfl) (pe_call G_table_of (hr.mono (by decide)) (by rfl) (T.glo "table_of" (by decide +kernel)) k_table_of b_table_of .nil pass0 (pa_cons (pv 0) (pa_cons (pe_fld (pv 0) rfl) (pa_cons (pe_ix ix_list (pv 1) pe_int (fun _ _ => rfl)) pa_nil)))))
      (pss_one (ps_ret (pe_lst (pa_cons (pe_callB call_len_seq (by rfl) (T.free "len" (by decide +kernel)) boot_len (pa_cons (pe_lc (own := [("address", 3)]) (tt := tTest (tOp (fun x y H Q => y = .non ∧ Q (.bl (!decide (x = .non))) H) (tCall (spLookedUp K) [] E0 (tCons (tVar 2) (tCons (tVar 3) tNil))) (tC .non))) (te := tVar 3) rfl sc52.nd (pi_range1 (by rfl) (T.free "range" (by decide +kernel)) (pa_cons (pe_gi T 256) pa_nil)) (blkOk_by (N := ["server", "parts", "table", "address"]) (sc := defScope (top 52)) (by decide +kernel)) (fun _ _ _ _ _ => (pg_name (i := 3) sc52.nd rfl (Or.inl rfl))) (fun _ _ _ _ _ => pts_one (pt_cmpR op_notN (pe_call G_looked_up (hr.mono (by decide)) (by rfl) (T.glo "looked_up" (by decide +kernel)) k_looked_up b_looked_up .nil pass0 (pa_cons (pv 2) (pa_cons (pv 3) pa_nil))) pe_non (nomark _))) (fun _ _ _ _ _ => (pv 3))) pa_nil)) pa_nil)))))), ?_⟩
    refine st_if (has_of (k := k) S (pu_var rfl) (pu_ixL (i := 0) (pu_var rfl) pu_c (SqL.of hpl) rfl)) (fun e => ret1 pu_c (post_code (.refl _) ?_ q)) fun e => ?_
    · unfold opReach
      rw [if_pos (of_decide_eq_false ((Bool.not_eq_true' _).mp e))]
    · have hk : k < m.num := of_decide_eq_true ((Bool.not_eq_false' _).mp e)
      have er : opReach m k = [((reach (table m m.routes k) : Nat) : Int)] := by
        unfold opReach
        rw [if_neg (fun y => y hk)]
      refine st_setG (call_of (pa_c (pu_var rfl) (pa_c (pu_rts T S (pu_var rfl)) (pa_c (pu_ixL (i := 0) (pu_var rfl) pu_c (SqL.of hpl) rfl) pa_n))) ⟨sv, z.rts, k, m, z, z.rR, m.routes, rfl, sv_args S W tabs, hk, fun q1 bs H1 k1 n1 L1 => ?_⟩)
      dsimp only
      refine st_retG (lst1_of (cb_of (cons_of ?_)))
      refine ⟨256, rfl, by decide, by decide, fun D hD => lc_w (K := K) (n := 256) walk_range hD (by decide) (fun i H2 acc => acc = nv ((List.range i).filter fun x => (Su201.lookupIn (table m m.routes k) x).isSome)) (fun H2 k2 => trivial) rfl ?_ ?_ ?_ ?_⟩
      · rintro i H2 acc rfl
        rw [nv_len]
        exact filter_few _ _
      · rintro i H2 acc acc' o h _
        exact h
      · rintro i x H2 H' acc hi k2 hacc rfl ⟨rfl, rfl⟩ N1 N0 n1 n0
        have e0 : V.int (0 + (i : Int)) = V.int (i : Int) := by rw [Int.zero_add]
        refine ⟨rfl, ?_⟩
        refine call_of (sp := spLookedUp K) (vs := [.ref q1, .int (i : Int)]) (pa_c (pu_var rfl) (pa_c (pu_is (pu_var rfl) e0) pa_n)) ⟨q1, i, bs, _, rfl, L1.keep k2, fun r hr => W.pfx r (table_in hr), fun v H3 k3 hf => ⟨rfl, _, rfl, ?_⟩⟩
        rw [fn_not hf]
        have ef := filter_next (p := fun x => (Su201.lookupIn (table m m.routes k) x).isSome) (i := i)
        cases c : (Su201.lookupIn (table m m.routes k) i).isSome with
        | true =>
          rw [if_pos c] at ef
          refine iteT (B := _) (pu_is (pu_var rfl) e0 _ (n1 _ _ k3 ?_))
          rw [ef, nv_app]
          rfl
        | false =>
          rw [if_neg (by rw [c]; exact Bool.false_ne_true), List.append_nil] at ef
          refine iteF (A := _) (n0 _ k3 ?_)
          rw [ef]
      · rintro H2 acc k2 hacc rfl
        refine ⟨D, _, rfl, .inl (SqL.of hacc), (by show 1 ≤ sizeLine; decide), fun p hp => post_code (c := _) (k1.trans k2) ?_ q p hp⟩
        rw [er, nv_len]
        rfl
/-! ## tell_users -/
theorem sc54 : FnScope ["server", "parts", "tables", "place", "table"] ["server", "parts"] (defScope (top 54)) := ⟨rfl, rfl, rfl, by decide +kernel, rfl, by decide +kernel, by decide +kernel⟩
theorem ok_users (T : Tx K mg base) : OkD P w K mg base 10 (ga K "tell_users") ["server", "parts"] (spQ K 12) := by
  obtain ⟨fd, F⟩ : ∃ fd, FunD K "tell_users" "tell_users" (defArgs (top 54)) (defBody (top 54)) (defScope (top 54)) [] [] (ga K "tell_users") fd := T.fn 32 _ rfl
  obtain ⟨_, G_m_has_member, b_m_has_member, k_m_has_member⟩ := ok_has (P := P) (w := w) T
  obtain ⟨_, G_tables_of, b_tables_of, k_tables_of⟩ := ok_tables_of (P := P) (w := w) T
  obtain ⟨_, G_uses, b_uses, k_uses⟩ := ok_uses (P := P) (w := w) T
  obtain ⟨_, G_counted, b_counted, k_counted⟩ := ok_counted (P := P) (w := w) T
  refine okD_mk F (F.ok sc54 (fun vs H Q E h => ?_) (fun cdv A outer s H vs Q E hr h => ?_)) (fun _ _ _ _ _ _ us hl => match us, hl with | [_, _], _ => rfl)
  · obtain ⟨_, _, _, _, _, rfl, _⟩ := h
    rfl
  · obtain ⟨sv, pl, m, z, xs, rfl, S, W, tabs, hpl, hc, q⟩ := h
    obtain ⟨k, rfl⟩ := parts1 hc rfl
    have q : PostQ K H (opUsers m k) Q := q
    refine ⟨_, PSs.nox (pss_cons (ps_if (pt_not (pt_val (pe_meth (pv 0) T.cl (T.me "has_member" (by decide +kernel)) G_m_has_member (hr.mono (by decide)) b_m_has_member .nil pass0 (pa_cons (pe_ix ix_list (pv 1) pe_int (fun _ _ => rfl)) pa_nil)))) (pss_one (ps_ret (pe_lst (pa_cons (pe_gi T (-2)) pa_nil)))) pss_nil)
      (pss_cons (ps_set (i := 2) sc54.nd rfl (Or.inl rfl) (pe_call G_tables_of (hr.mono (by decide)) (by rfl) (T.glo "tables_of" (by decide +kernel)) k_tables_of b_tables_of .nil pass0 (pa_cons (pv 0) (pa_cons (pe_fld (pv 0) rfl) pa_nil))))
      (pss_one (ps_ret (pe_call G_counted (hr.mono (by decide)) (by rfl) (T.glo "counted" (by decide +kernel)) k_counted b_counted .nil pass0 (pa_cons (pe_lc (own := [("place", 3), ("table", 4)]) (g := gTup K 2 (gCons (gName 3) (gCons (gName 4) gNil))) (tt := tB (tCall (spUses K) [] E0 (tCons (tVar 4) (tCons (tOp (rIxL K) (tVar 1) (tC (.int 0))) tNil)))) (te := tVar 3) rfl sc54.nd (pi_enum (by rfl) (T.free "enumerate" (by decide +kernel)) (pa_cons (pv 2) pa_nil)) (blkOk_by (N := ["server", "parts", "tables", "place", "table"]) (sc := defScope (top 54)) (by decide +kernel)) (fun _ _ _ _ _ => (pg_tup rfl (pgs_cons (pg_name (i := 3) sc54.nd rfl (Or.inl rfl)) (pgs_cons (pg_name (i := 4) sc54.nd rfl (Or.inl rfl)) pgs_nil)))) (fun _ _ _ _ _ => pts_one (pt_val (pe_call G_uses (hr.mono (by decide)) (by rfl) (T.glo "uses" (by decide +kernel)) k_uses b_uses .nil pass0 (pa_cons (pv 4) (pa_cons (pe_ix ix_list (pv 1) pe_int (fun _ _ => rfl)) pa_nil))))) (fun _ _ _ _ _ => (pv 3))) pa_nil)))))), ?_⟩
    refine st_if (has_of (k := k) S (pu_var rfl) (pu_ixL (i := 0) (pu_var rfl) pu_c (SqL.of hpl) rfl)) (fun e => ret1 pu_c (post_code (.refl _) ?_ q)) fun e => ?_
    · unfold opUsers
      rw [if_pos (of_decide_eq_false ((Bool.not_eq_true' _).mp e))]
    · have hk : k < m.num := of_decide_eq_true ((Bool.not_eq_false' _).mp e)
      have er : opUsers m k = counted (users (tables m m.routes) k) := by
        unfold opUsers
        rw [if_neg (fun y => y hk)]
      rw [er] at q
      refine st_setG (call_of (pa_c (pu_var rfl) (pa_c (pu_rts T S (pu_var rfl)) pa_n)) ⟨sv, z.rts, m, z, z.rR, m.routes, rfl, sv_args S W tabs, fun q1 ts H1 k1 n1 B1 f1 => ?_⟩)
      have hlen := pair_len B1.all
      have hnum := W.num
      have htl : (tables m m.routes).length = m.num := by unfold tables; rw [List.length_map, List.length_range]
      have hpl1 := k1.lst hpl
      refine ⟨_, rfl, q1, _, rfl, SqL.of B1.at_, fun D hD => lc_w (K := K) (n := (ts.map V.ref).length) (walk_enum (xs := ts.map V.ref)) hD (by rw [List.length_map]; omega) (fun i H2 acc => acc = nv ((List.range i).filter fun i => ((tables m m.routes).getD i []).any fun r => r.announcer == k)) (fun H2 k2 => SqL.of (k2.lst B1.at_)) rfl ?_ ?_ ?_ ?_⟩
      · rintro i H2 acc rfl
        rw [nv_len]
        exact filter_few _ _
      · rintro i H2 acc acc' o h _
        exact h
      · rintro i y H2 H2' acc hi k2 hacc rfl ⟨Tt, x1, x2, rfl, hT, rfl, h1, h2⟩ N1 N0 n1 n0
        cases h1
        have h2 : (ts.map V.ref)[i]? = some x2 := h2
        rw [List.getElem?_map] at h2
        cases e : ts[i]? with
        | none =>
          rw [e] at h2
          cases h2
        | some ra =>
          rw [e] at h2
          obtain rfl : V.ref ra = x2 := Option.some.inj h2
          obtain ⟨rb, hrb, cb, hLb⟩ := pair_getL B1.all e
          have kT : Kt K H2 (upd H2 Tt (.tup [.int (i : Nat), .ref ra])) := Kt.new hT
          have k3 := k2.trans kT
          have hrm : rb.length ≤ 20 := by
            have h3 := List.mem_of_getElem? hrb
            unfold tables at h3
            obtain ⟨j, _, rfl⟩ := List.mem_map.mp h3
            exact Nat.le_trans (table_len m m.routes j) W.many
          refine ⟨Tt, _, rfl, SqT.of upd_same, rfl, _, _, rfl, _, _, rfl, rfl, rfl, ?_⟩
          refine call_of (sp := spUses K) (vs := [.ref ra, .int (k : Int)]) (pa_c (pu_var rfl) (pa_c (pu_ixL (i := 0) (pu_var rfl) pu_c (SqL.of (k3.lst hpl1)) rfl) pa_n)) ⟨ra, k, cb, rb, rfl, hLb.keep k3, hrm, fun H3 k4 => ⟨_, rfl, ?_⟩⟩
          have ef := filter_next (p := fun i => ((tables m m.routes).getD i []).any fun r => r.announcer == k) (i := i)
          have e1 : ((tables m m.routes).getD i []) = rb := getD_at hrb
          rw [e1] at ef
          cases c : (rb.any fun r => r.announcer == k) with
          | true =>
            rw [c, if_pos rfl] at ef
            refine iteT (B := _) (pu_var rfl _ (n1 _ _ (kT.trans k4) ?_))
            rw [ef, nv_app]
            rfl
          | false =>
            rw [c, if_neg Bool.false_ne_true, List.append_nil] at ef
            refine iteF (A := _) (n0 _ (kT.trans k4) ?_)
            rw [ef]
      · rintro H2 acc k2 hacc rfl
        rw [List.length_map, hlen] at hacc
        have hf := filter_few (fun i => ((tables m m.routes).getD i []).any fun r => r.announcer == k) (tables m m.routes).length
        refine ⟨D, _, rfl, hacc, by rw [nv_len]; omega, fun p H3 k3 n3 h3 => q p H3 (k1.trans (k2.trans k3)) (Nw.back (k1.trans k2) n3) ?_⟩
        rw [h3, counted_nv]
        rfl
/-! ## tell_preview -/
theorem sc55 : FnScope ["server", "parts", "refusal", "member", "prefix", "before"] ["server", "parts"] (defScope (top 55)) := ⟨rfl, rfl, rfl, by decide +kernel, rfl, by decide +kernel, by decide +kernel⟩
theorem ok_preview (T : Tx K mg base) : OkD P w K mg base 10 (ga K "tell_preview") ["server", "parts"] (spQ K 13) := by
  obtain ⟨fd, F⟩ : ∃ fd, FunD K "tell_preview" "tell_preview" (defArgs (top 55)) (defBody (top 55)) (defScope (top 55)) [] [] (ga K "tell_preview") fd := T.fn 33 _ rfl
  obtain ⟨_, G_place_refusal, b_place_refusal, k_place_refusal⟩ := ok_refusal (P := P) (w := w) T
  obtain ⟨_, G_m_place_of, b_m_place_of, k_m_place_of⟩ := ok_place_of (P := P) (w := w) T
  obtain ⟨_, G_m_routes_but, b_m_routes_but, k_m_routes_but⟩ := ok_but (P := P) (w := w) T
  obtain ⟨_, G_tables_of, b_tables_of, k_tables_of⟩ := ok_tables_of (P := P) (w := w) T
  obtain ⟨_, G_unlike_places, b_unlike_places, k_unlike_places⟩ := ok_unlike (P := P) (w := w) T
  obtain ⟨_, G_counted, b_counted, k_counted⟩ := ok_counted (P := P) (w := w) T
  refine okD_mk F (F.ok sc55 (fun vs H Q E h => ?_) (fun cdv A outer s H vs Q E hr h => ?_)) (fun _ _ _ _ _ _ us hl => match us, hl with | [_, _], _ => rfl)
  · obtain ⟨_, _, _, _, _, rfl, _⟩ := h
    rfl
  · obtain ⟨sv, pl, m, z, xs, rfl, S, W, tabs, hpl, hc, q⟩ := h
    obtain ⟨k, a, l, rfl⟩ := parts3 hc rfl
    have q : PostQ K H (opPreview m k a l) Q := q
    refine ⟨_, PSs.nox (pss_cons (ps_set (i := 2) sc55.nd rfl (Or.inl rfl) (pe_call G_place_refusal (hr.mono (by decide)) (by rfl) (T.glo "place_refusal" (by decide +kernel)) k_place_refusal b_place_refusal .nil pass0 (pa_cons (pv 0) (pa_cons (pv 1) pa_nil))))
      (pss_cons (ps_if (pt_cmpR op_lt (pv 2) pe_int (nomark _)) (pss_one (ps_ret (pe_lst (pa_cons (pv 2) pa_nil)))) pss_nil)
      (pss_cons (ps_par (i := 3) (j := 4) (by rfl) sc55.nd rfl rfl (by decide) rfl rfl (pa_cons (pe_ix ix_list (pv 1) pe_int (fun _ _ => rfl)) (pa_cons (pe_tup (pa_cons (pe_ix ix_list (pv 1) pe_int (fun _ _ => rfl)) (pa_cons (pe_ix ix_list (pv 1) pe_int (fun _ _ => rfl)) pa_nil))) pa_nil)) (by rfl))
      (pss_cons (ps_if (pt_cmpR op_lt (pe_meth (pv 0) T.cl (T.me "place_of" (by decide +kernel)) G_m_place_of (hr.mono (by decide)) b_m_place_of .nil pass0 (pa_cons (pv 3) (pa_cons (pv 4) pa_nil))) pe_int (nomark _)) (pss_one (ps_ret (pe_lst (pa_cons (pe_gi T (-6)) pa_nil)))) pss_nil)
      (pss_cons (ps_set (i := 5) sc55.nd rfl (Or.inl rfl) (pe_call G_tables_of (hr.mono (by decide)) (by rfl) (T.glo "tables_of" (by decide +kernel)) k_tables_of b_tables_of .nil pass0 (pa_cons (pv 0) (pa_cons (pe_fld (pv 0) rfl) pa_nil))))
      (pss_one (ps_ret (pe_call G_counted (hr.mono (by decide)) (by rfl) (T.glo "counted" (by decide +kernel)) k_counted b_counted .nil pass0 (pa_cons (pe_call G_unlike_places (hr.mono (by decide)) (by rfl) (T.glo "unlike_places" (by decide +kernel)) k_unlike_places b_unlike_places .nil pass0 (pa_cons (pv 5) (pa_cons (pe_call G_tables_of (hr.mono (by decide)) (by rfl) (T.glo "tables_of" (by decide +kernel)) k_tables_of b_tables_of .nil pass0 (pa_cons (pv 0) (pa_cons (pe_meth (pv 0) T.cl (T.me "routes_but" (by decide +kernel)) G_m_routes_but (hr.mono (by decide)) b_m_routes_but .nil pass0 (pa_cons (pv 3) (pa_cons (pv 4) pa_nil))) pa_nil))) pa_nil))) pa_nil))))))))), ?_⟩
    refine st_setG (call_of (pa_c (pu_var rfl) (pa_c (pu_var rfl) pa_n)) ⟨sv, pl, k, a, l, m, z, rfl, S, hpl, ?_⟩)
    refine st_if (put_test (pu_I (g := fun i j => .bl (decide (i < j))) (i := placeNo m k a l) (j := 0) (pu_var rfl) pu_c)) (fun e => ret1 (pu_var rfl) (post_code (.refl _) ?_ q)) fun e => ?_
    · unfold opPreview
      rw [if_pos (of_decide_eq_true e)]
    · have e2 : ¬ placeNo m k a l < 0 := of_decide_eq_false e
      have hk := place_go e2
      have v1 : Pu (tVar 1) ((L2.start ["server", "parts", "refusal", "member", "prefix", "before"] [.ref sv, .ref pl]).set 2 (some (.int (placeNo m k a l)))) H (.ref pl) := pu_var rfl
      refine pu_ixL (i := 0) v1 pu_c (SqL.of hpl) rfl _ (cons_of (tup_of (pa_c (pu_ixL (i := 1) v1 pu_c (SqL.of hpl) rfl) (pa_c (pu_ixL (i := 2) v1 pu_c (SqL.of hpl) rfl) pa_n)) (by show 2 ≤ 1000; decide) fun pf hpf => ⟨_, _, rfl, ?_⟩))
      have k0 : Kt K H (upd H pf (.tup [.int (a : Int), .int (l : Int)])) := Kt.new hpf
      have hpf0 : PrAt (upd H pf (.tup [.int (a : Int), .int (l : Int)])) pf (a, l) := upd_same
      show Ends.nx _ _ (upd H pf (.tup [.int (a : Int), .int (l : Int)]))
      generalize upd H pf (.tup [.int (a : Int), .int (l : Int)]) = H0 at k0 hpf0 ⊢
      have S0 := S.keep k0
      dsimp only
      refine st_ifG ?_
      refine ⟨_, rfl, sv, _, _, rfl, S0.ins, sF_none _ _ (by decide +kernel), _, rfl, _, rfl, sv, pf, k, a, l, m, z, rfl, S0, hpf0, fun H1 k1 => ⟨_, _, rfl, rfl, _, rfl, ?_⟩⟩
      rw [pl_lt]
      have k01 := k0.trans k1
      have S1 := S.keep k01
      have hpf1 : PrAt H1 pf (a, l) := k1.tup hpf0
      cases e4 : place m.routes k a l with
      | none =>
        refine ite_t rfl (ret1 pu_c (post_code k01 ?_ q))
        unfold opPreview
        rw [if_neg e2, e4]
      | some i =>
        refine ite_f rfl ?_
        have er : opPreview m k a l = counted (unlike (tables m m.routes) (tables m (but m.routes i))) := by
          unfold opPreview
          rw [if_neg e2, e4]
        rw [er] at q
        refine st_setG (call_of (pa_c (pu_var rfl) (pa_c (pu_rts T S1 (pu_var rfl)) pa_n)) ⟨sv, z.rts, m, z, z.rR, m.routes, rfl, sv_args S1 W (k01.tb tabs), fun q1 ts H2 k2 n2 B2 f2 => ?_⟩)
        have k02 := k01.trans k2
        have S2 := S.keep k02
        refine st_retG (call_ofG (cons_of (call_ofG (cons_of (pu_var (i := 5) rfl _ (cons_of (call_ofG (cons_of (pu_var (i := 0) rfl _ (cons_of (meth_of (pu_var (i := 0) rfl) S2.ins (sF_none _ _ (by decide +kernel)) (pa_c (pu_var (i := 3) rfl) (pa_c (pu_var (i := 4) rfl) pa_n)) ⟨sv, pf, k, a, l, i, m, z, rfl, S2, W.many, k2.tup hpf1, e4, fun q4 bs H4 k4 n4 L4 => ?_⟩)))))))))))
        have k04 := k02.trans k4
        have S4 := S.keep k04
        have hs := erase_sub m.routes i
        refine ⟨sv, q4, m, z, bs, _, rfl, ⟨S4, W, L4, W.rs.sub hs, Nat.le_trans hs.length_le W.many, k04.tb tabs⟩, fun q5 ts5 H5 k5 n5 B5 f5 => ?_⟩
        have hn := W.num
        have ht : ∀ rs, (tables m rs).length = m.num := fun rs => by unfold tables; rw [List.length_map, List.length_range]
        refine ⟨q1, q5, ts, ts5, _, _, rfl, B2.keep (k4.trans k5), B5, by rw [ht, ht]; exact Nat.le_refl _, by rw [ht]; exact hn, fun q6 H6 k6 n6 h6 => ?_⟩
        have hu := unlike_len (tables m m.routes) (tables m (but m.routes i))
        rw [ht] at hu
        have k06 := (k04.trans k5).trans k6
        refine ⟨q6, _, rfl, h6, by rw [nv_len]; omega, fun q7 H7 k7 n7 h7 => q q7 H7 (k06.trans k7) (Nw.back k06 n7) ?_⟩
        rw [h7, counted_nv]
end
end Rs

/-! # The walk, part 20: tell_prefixes, tell_routes, tell_policy -/
namespace Rs
open PySem PySem.Spec PyProof.Rows L2 LamX NdefX
open Su201 (Route)
section
variable {K : PySem.W.Frag} {mg : Str → Option Value} {base : Heap} {P : Program} {w : World}
/-! ## tell_prefixes -/
theorem sc56 : FnScope ["server", "parts", "some", "found", "address", "length"] ["server", "parts"] (defScope (top 56)) := ⟨rfl, rfl, rfl, by decide +kernel, rfl, by decide +kernel, by decide +kernel⟩
theorem ok_prefixes (T : Tx K mg base) : OkD P w K mg base 10 (ga K "tell_prefixes") ["server", "parts"] (spQ K 15) := by
  obtain ⟨fd, F⟩ : ∃ fd, FunD K "tell_prefixes" "tell_prefixes" (defArgs (top 56)) (defBody (top 56)) (defScope (top 56)) [] [] (ga K "tell_prefixes") fd := T.fn 34 _ rfl
  obtain ⟨_, G_prefixes_of, b_prefixes_of, k_prefixes_of⟩ := ok_prefixes_of (P := P) (w := w) T
  refine okD_mk F (F.ok sc56 (fun vs H Q E h => ?_) (fun cdv A outer s H vs Q E hr h => ?_)) (fun _ _ _ _ _ _ us hl => match us, hl with | [_, _], _ => rfl)
  · obtain ⟨_, _, _, _, _, rfl, _⟩ := h
    rfl
  · obtain ⟨sv, pl, m, z, xs, rfl, S, W, tabs, hpl, hc, q⟩ := h
    obtain rfl := parts0 hc rfl
    have q : PostQ K H (opPrefixes m) Q := q
    refine ⟨_, PSs.nox (pss_cons (ps_set (i := 2) sc56.nd rfl (Or.inl rfl) (pe_call G_prefixes_of (hr.mono (by decide)) (by rfl) (T.glo "prefixes_of" (by decide +kernel)) k_prefixes_of b_prefixes_of .nil pass0 (pa_cons (pe_fld (pv 0) rfl) pa_nil)))
      (pss_cons (ps_set (i := 3) sc56.nd rfl (Or.inl rfl) (pe_lst (pa_cons (pe_callB call_len_seq (by rfl) (T.free "len" (by decide +kernel)) boot_len (pa_cons (pv 2) pa_nil)) pa_nil)))
      (pss_cons (ps_for PassesOwn.never rfl (pi_list (pv 2)) (pg_tup rfl (pgs_cons (pg_name (i := 4) sc56.nd rfl (Or.inl rfl)) (pgs_cons (pg_name (i := 5) sc56.nd rfl (Or.inl rfl)) pgs_nil))) (pss_one (ps_expr (pe_bm PySem.F.plainAttrs_list PySem.F.slot_list_extend PySem.F.type_list_extend mt_extend (pv 3) (pa_cons (pe_lst (pa_cons (pv 4) (pa_cons (pv 5) pa_nil))) pa_nil)))))
      (pss_one (ps_ret (pv 3)))))), ?_⟩
    have er : opPrefixes m = ((pfxs m.routes).length : Int) :: zInts ((pfxs m.routes).flatMap fun y => [y.1, y.2]) := rfl
    rw [er] at q
    unfold PostQ at q
    rw [head_nv] at q
    refine st_setG (call_of (pa_c (pu_rts T S (pu_var rfl)) pa_n) ⟨z.rts, z.rR, m.routes, rfl, S.rts, W.many, W.pfx, fun q1 bs H1 k1 n1 L1 => ?_⟩)
    have hlen := pair_len L1.all
    have few := Nat.le_trans (pfxs_len m.routes) W.many
    generalize pfxs m.routes = tb at L1 q hlen few
    refine st_setG (lst_of (pa_c (pu_len (pu_var rfl) (.inl (SqL.of L1.at_))) pa_n) (by show 1 ≤ 1000; decide) fun F0 hF => ?_)
    have kF : Kt K H1 (upd H1 F0 (.lst [.int ((bs.map V.ref).length : Int)])) := Kt.new hF
    have hq1 : q1 ≠ F0 := ne_of_none L1.at_ hF
    have hF0 : (upd H1 F0 (.lst [.int ((bs.map V.ref).length : Int)])) F0 = some (.lst (nv (tb.length :: []))) := by
      rw [upd_same, List.length_map, hlen]
      rfl
    have nF : Nw H F0 := Nw.back k1 (.of hF)
    have LF : PfAt (upd H1 F0 (.lst [.int ((bs.map V.ref).length : Int)])) q1 bs tb := ⟨kF.lst L1.at_, pair_mono L1.all fun _ _ q => kF.tup q⟩
    generalize upd H1 F0 (.lst [.int ((bs.map V.ref).length : Int)]) = HF at kF LF hF0 ⊢
    have k1F := k1.trans kF
    refine ⟨_, rfl, q1, rfl, ⟨_, SqL.of LF.at_⟩, for_it (walk_list (xs := bs.map V.ref)) (fun i σ H2 => ∃ v4 v5, σ = [some (.ref sv), some (.ref pl), some (.ref q1), some (.ref F0), v4, v5] ∧ Kt K H H2 ∧ Kb K [F0] HF H2 ∧ H2 F0 = some (.lst (nv (tb.length :: (tb.take i).flatMap fun y => [y.1, y.2]))))
      ⟨_, _, rfl, k1F, (Kt.refl _).kb, hF0⟩ ?_ ?_ ?_⟩
    · rintro i σ H2 _ ⟨v4, v5, rfl, k2, b2, h2⟩
      exact SqL.of (b2.lst (by simpa using hq1) LF.at_)
    · rintro i x σ H2 H2' hi ⟨v4, v5, rfl, k2, b2, h2⟩ ⟨rfl, hx⟩
      rw [List.getElem?_map] at hx
      cases e5 : bs[i]? with
      | none =>
        rw [e5] at hx
        cases hx
      | some a =>
        rw [e5] at hx
        obtain rfl : V.ref a = x := Option.some.inj hx
        obtain ⟨y, hr2, g1⟩ := pair_getL LF.all e5
        have n1 : a ∉ [F0] := by simpa using ne_of g1 hF0 (by intro z; cases z)
        refine ⟨a, _, rfl, SqT.of (b2.tup n1 g1), rfl, _, _, rfl, _, _, rfl, rfl, ?_⟩
        have hil := (List.getElem?_eq_some_iff.mp hr2).1
        have hfl := flat_len (f := fun y : Nat × Nat => [y.1, y.2]) (n := 2) (l := tb.take i) fun _ _ => Nat.le_refl 2
        rw [List.length_take] at hfl
        refine ext_of (pu_var (i := 3) rfl) h2 (pa_c (pu_var (i := 4) rfl) (pa_c (pu_var (i := 5) rfl) pa_n)) ?_ fun p hp => ⟨_, _, rfl, ?_, ?_, ?_⟩
        · rw [List.length_append, nv_len, List.length_cons]
          show _ + 2 ≤ 1000
          omega
        · exact (k2.trans (Kt.new hp)).put nF ((Kt.new (K := K) hp).lst h2)
        · exact (b2.trans (Kt.new hp).kb).trans (Kb.put (by simp) (.inl ⟨_, (Kt.new (K := K) hp).lst h2⟩))
        · rw [upd_same, flat_next hr2, ← List.cons_append, nv_app]
          rfl
    · rintro σ H2 ⟨v4, v5, rfl, k2, b2, h2⟩
      rw [List.length_map, hlen, List.take_length] at h2
      exact st_ret (pu_var rfl) (q F0 H2 k2 nF h2)
/-! ## tell_policy -/
theorem sc58 : FnScope ["server", "parts", "member", "found", "peer"] ["server", "parts"] (defScope (top 58)) := ⟨rfl, rfl, rfl, by decide +kernel, rfl, by decide +kernel, by decide +kernel⟩
theorem ok_policy (T : Tx K mg base) : OkD P w K mg base 10 (ga K "tell_policy") ["server", "parts"] (spQ K 17) := by
  obtain ⟨fd, F⟩ : ∃ fd, FunD K "tell_policy" "tell_policy" (defArgs (top 58)) (defBody (top 58)) (defScope (top 58)) [] [] (ga K "tell_policy") fd := T.fn 36 _ rfl
  obtain ⟨_, G_m_has_member, b_m_has_member, k_m_has_member⟩ := ok_has (P := P) (w := w) T
  obtain ⟨_, G_m_members, b_m_members, k_m_members⟩ := ok_members (P := P) (w := w) T
  refine okD_mk F (F.ok sc58 (fun vs H Q E h => ?_) (fun cdv A outer s H vs Q E hr h => ?_)) (fun _ _ _ _ _ _ us hl => match us, hl with | [_, _], _ => rfl)
  · obtain ⟨_, _, _, _, _, rfl, _⟩ := h
    rfl
  · obtain ⟨sv, pl, m, z, xs, rfl, S, W, tabs, hpl, hc, q⟩ := h
    obtain ⟨k, rfl⟩ := parts1 hc rfl
    have q : PostQ K H (opPolicy m k) Q := q
    refine ⟨_, PSs.nox (pss_cons (ps_set (i := 2) sc58.nd rfl (Or.inl rfl) (pe_ix ix_list (pv 1) pe_int (fun _ _ => rfl)))
      (pss_cons (ps_if (pt_not (pt_val (pe_meth (pv 0) T.cl (T.me "has_member" (by decide +kernel)) G_m_has_member (hr.mono (by decide)) b_m_has_member .nil pass0 (pa_cons (pv 2) pa_nil)))) (pss_one (ps_ret (pe_lst (pa_cons (pe_gi T (-2)) pa_nil)))) pss_nil)
      (pss_cons (ps_set (i := 3) sc58.nd rfl (Or.inl rfl) (pe_lst (pa_cons (pe_ix ix_list (pe_fld (pv 0) rfl) (pv 2) (fun _ _ => rfl)) pa_nil)))
      (pss_cons (ps_for PassesOwn.never rfl (pi_list (pe_meth0 (pv 0) T.cl (T.me "members" (by decide +kernel)) G_m_members (hr.mono (by decide)) b_m_members .nil pass0)) (pg_name (i := 4) sc58.nd rfl (Or.inl rfl)) (pss_one (ps_expr (pe_bm PySem.F.plainAttrs_list PySem.F.slot_list_extend PySem.F.type_list_extend mt_extend (pv 3) (pa_cons (pe_lst (pa_cons (pe_ix ix_list (pe_ix ix_list (pe_fld (pv 0) rfl) (pv 2) (fun _ _ => rfl)) (pv 4) (fun _ _ => rfl)) (pa_cons (pe_ix ix_list (pe_ix ix_list (pe_fld (pv 0) rfl) (pv 2) (fun _ _ => rfl)) (pv 4) (fun _ _ => rfl)) (pa_cons (pe_ix ix_list (pe_ix ix_list (pe_fld (pv 0) rfl) (pv 2) (fun _ _ => rfl)) (pv 4) (fun _ _ => rfl)) pa_nil)))) pa_nil)))))
      (pss_one (ps_ret (pv 3))))))), ?_⟩
    refine st_set (pu_ixL (i := 0) (pu_var rfl) pu_c (SqL.of hpl) rfl) ?_
    refine st_if (has_of (k := k) S (pu_var rfl) (pu_var rfl)) (fun e => ret1 pu_c (post_code (.refl _) ?_ q)) fun e => ?_
    · unfold opPolicy
      rw [if_pos (of_decide_eq_false ((Bool.not_eq_true' _).mp e))]
    · have hk : k < m.num := of_decide_eq_true ((Bool.not_eq_false' _).mp e)
      have er : opPolicy m k = ((m.asns.getD k 0 : Nat) : Int) :: zInts ((List.range m.num).flatMap fun j => [cell m.exps 0 k j, cell m.imps 0 k j, cell m.prefs 5 k j]) := by
        unfold opPolicy
        rw [if_neg (fun y => y hk)]
      rw [er] at q
      unfold PostQ at q
      rw [head_nv] at q
      have hnum := W.num
      refine st_setG (lst_of (pa_c (pu_ixL (pu_asns T S (pu_var rfl)) (pu_var rfl) (SqL.of S.asns) (nv_at (asn_get hk))) pa_n) (by show 1 ≤ 1000; decide) fun F0 hF => ?_)
      have kF : Kt K H (upd H F0 (.lst [.int ((m.asns.getD k 0 : Nat) : Int)])) := Kt.new hF
      have hF0 : (upd H F0 (.lst [.int ((m.asns.getD k 0 : Nat) : Int)])) F0 = some (.lst (nv (m.asns.getD k 0 :: []))) := upd_same
      have nF : Nw H F0 := .of hF
      generalize upd H F0 (.lst [.int ((m.asns.getD k 0 : Nat) : Int)]) = HF at kF hF0 ⊢
      have SF := S.keep kF
      refine meth_of (pu_var (i := 0) rfl) SF.ins (sF_none _ _ (by decide +kernel)) pa_n ⟨sv, m, z, rfl, SF, hnum, fun q1 hq => ⟨q1, rfl, ⟨_, SqL.of upd_same⟩, ?_⟩⟩
      have k3 : Kt K HF (upd HF q1 (.lst (nv (List.range m.num)))) := Kt.new hq
      have hne : q1 ≠ F0 := (ne_of_none hF0 hq).symm
      have h3 : (upd HF q1 (.lst (nv (List.range m.num)))) q1 = some (.lst (nv (List.range m.num))) := upd_same
      have hF3 := k3.lst hF0
      generalize upd HF q1 (.lst (nv (List.range m.num))) = HG at k3 h3 hF3 ⊢
      refine for_it (walk_list (xs := nv (List.range m.num))) (fun i σ H2 => ∃ v4, σ = [some (.ref sv), some (.ref pl), some (.int (k : Int)), some (.ref F0), v4] ∧ Kt K H H2 ∧ Kb K [F0] HG H2 ∧ H2 F0 = some (.lst (nv (m.asns.getD k 0 :: (List.range i).flatMap fun j => [cell m.exps 0 k j, cell m.imps 0 k j, cell m.prefs 5 k j]))))
        ⟨_, rfl, kF.trans k3, (Kt.refl _).kb, hF3⟩ ?_ ?_ ?_
      · rintro i σ H2 _ ⟨v4, rfl, k2, b2, h2⟩
        exact SqL.of (b2.lst (by simpa using hne) h3)
      · rintro i x σ H2 H2' hi ⟨v4, rfl, k2, b2, h2⟩ ⟨rfl, hx⟩
        obtain ⟨rfl, hi2⟩ := nv_range hx
        have S2 := S.keep k2
        have hfl := flat_len (f := fun j => [cell m.exps 0 k j, cell m.imps 0 k j, cell m.prefs 5 k j]) (n := 3) (l := List.range i) fun _ _ => Nat.le_refl 3
        rw [List.length_range] at hfl
        refine ext_of (pu_var (i := 3) rfl) h2 (pa_c (pu_cell (d := 0) S2.exps W.exps.len W.exps.row hk hi2 (pu_exps T S2 (pu_var (i := 0) rfl)) (pu_var (i := 2) rfl) (pu_var (i := 4) rfl)) (pa_c (pu_cell (d := 0) S2.imps W.imps.len W.imps.row hk hi2 (pu_imps T S2 (pu_var (i := 0) rfl)) (pu_var (i := 2) rfl) (pu_var (i := 4) rfl)) (pa_c (pu_cell (d := 5) S2.prefs W.prefs.len W.prefs.row hk hi2 (pu_prefs T S2 (pu_var (i := 0) rfl)) (pu_var (i := 2) rfl) (pu_var (i := 4) rfl)) pa_n))) ?_ fun p hp => ⟨_, rfl, ?_, ?_, ?_⟩
        · rw [List.length_append, nv_len, List.length_cons]
          show _ + 3 ≤ 1000
          omega
        · exact (k2.trans (Kt.new hp)).put nF ((Kt.new (K := K) hp).lst h2)
        · exact (b2.trans (Kt.new hp).kb).trans (Kb.put (by simp) (.inl ⟨_, (Kt.new (K := K) hp).lst h2⟩))
        · rw [upd_same, List.range_succ, List.flatMap_append, List.flatMap_cons, List.flatMap_nil, List.append_nil, ← List.cons_append, nv_app]
          rfl
      · rintro σ H2 ⟨v4, rfl, k2, b2, h2⟩
        rw [nv_len, List.length_range] at h2
        exact st_ret (pu_var rfl) (q F0 H2 k2 nF h2)
/-! ## tell_routes -/
theorem sc57 : FnScope ["server", "parts", "some", "route", "found", "announcer", "address", "length", "path"] ["server", "parts"] (defScope (top 57)) := ⟨rfl, rfl, rfl, by decide +kernel, rfl, by decide +kernel, by decide +kernel⟩
theorem ok_routes (T : Tx K mg base) : OkD P w K mg base 10 (ga K "tell_routes") ["server", "parts"] (spQ K 16) := by
  obtain ⟨fd, F⟩ : ∃ fd, FunD K "tell_routes" "tell_routes" (defArgs (top 57)) (defBody (top 57)) (defScope (top 57)) [] [] (ga K "tell_routes") fd := T.fn 35 _ rfl
  obtain ⟨_, G_m_has_member, b_m_has_member, k_m_has_member⟩ := ok_has (P := P) (w := w) T
  refine okD_mk F (F.ok sc57 (fun vs H Q E h => ?_) (fun cdv A outer s H vs Q E hr h => ?_)) (fun _ _ _ _ _ _ us hl => match us, hl with | [_, _], _ => rfl)
  · obtain ⟨_, _, _, _, _, rfl, _⟩ := h
    rfl
  · obtain ⟨sv, pl, m, z, xs, rfl, S, W, tabs, hpl, hc, q⟩ := h
    obtain ⟨k, rfl⟩ := parts1 hc rfl
    have q : PostQ K H (opRoutes m k) Q := q
    refine ⟨_, PSs.nox (pss_cons (ps_if (pt_not (pt_val (pe_meth (pv 0) T.cl (T.me "has_member" (by decide +kernel)) G_m_has_member (hr.mono (by decide)) b_m_has_member .nil pass0 (pa_cons (pe_ix ix_list (pv 1) pe_int (fun _ _ => rfl)) pa_nil)))) (pss_one (ps_ret (pe_lst (pa_cons (pe_gi T (-2)) pa_nil)))) pss_nil)
      (pss_cons (ps_setLc (i := 2) (own := [("route", 3)]) (tt := tTest (tOp rEq (tOp (rIxT K) (tVar 3) (tC (.int 0))) (tOp (rIxL K) (tVar 1) (tC (.int 0))))) (te := tVar 3) rfl sc57.nd rfl rfl (sw_true rfl rfl rfl (by decide +kernel)) (pi_list (pe_fld (pv 0) rfl)) (blkOk_by (N := ["server", "parts", "some", "route", "found", "announcer", "address", "length", "path"]) (sc := defScope (top 57)) (by decide +kernel)) (fun _ _ _ _ _ => (pg_name (i := 3) sc57.nd rfl (Or.inl rfl))) (fun _ _ _ _ _ => pts_one (pt_cmpR op_eq (pe_ix ix_tup (pv 3) pe_int (fun _ _ => rfl)) (pe_ix ix_list (pv 1) pe_int (fun _ _ => rfl)) (nomark _))) (fun _ _ _ _ _ => (pv 3)))
      (pss_cons (ps_set (i := 4) sc57.nd rfl (Or.inl rfl) (pe_lst (pa_cons (pe_callB call_len_seq (by rfl) (T.free "len" (by decide +kernel)) boot_len (pa_cons (pv 2) pa_nil)) pa_nil)))
      (pss_cons (ps_for PassesOwn.never rfl (pi_list (pv 2)) (pg_tup rfl (pgs_cons (pg_name (i := 5) sc57.nd rfl (Or.inl rfl)) (pgs_cons (pg_name (i := 6) sc57.nd rfl (Or.inl rfl)) (pgs_cons (pg_name (i := 7) sc57.nd rfl (Or.inl rfl)) (pgs_cons (pg_name (i := 8) sc57.nd rfl (Or.inl rfl)) pgs_nil))))) (pss_cons (ps_expr (pe_bm PySem.F.plainAttrs_list PySem.F.slot_list_extend PySem.F.type_list_extend mt_extend (pv 4) (pa_cons (pe_lst (pa_cons (pv 6) (pa_cons (pv 7) (pa_cons (pe_callB call_len_seq (by rfl) (T.free "len" (by decide +kernel)) boot_len (pa_cons (pv 8) pa_nil)) pa_nil)))) pa_nil)))
      (pss_one (ps_expr (pe_bm PySem.F.plainAttrs_list PySem.F.slot_list_extend PySem.F.type_list_extend mt_extend (pv 4) (pa_cons (pe_callTy call_list_of (by rfl) (T.free "list" (by decide +kernel)) (by decide +kernel) (pa_cons (pv 8) pa_nil)) pa_nil))))))
      (pss_one (ps_ret (pv 4))))))), ?_⟩
    refine st_if (has_of (k := k) S (pu_var rfl) (pu_ixL (i := 0) (pu_var rfl) pu_c (SqL.of hpl) rfl)) (fun e => ret1 pu_c (post_code (.refl _) ?_ q)) fun e => ?_
    · unfold opRoutes
      rw [if_pos (of_decide_eq_false ((Bool.not_eq_true' _).mp e))]
    · have hk : k < m.num := of_decide_eq_true ((Bool.not_eq_false' _).mp e)
      have er : opRoutes m k = ((ownRoutes m k).length : Int) :: zInts ((ownRoutes m k).flatMap fun r => r.address :: r.length :: r.asPath.length :: r.asPath) := by
        unfold opRoutes
        rw [if_neg (fun y => y hk)]
      rw [er] at q
      unfold PostQ at q
      rw [head_nv] at q
      have hlen0 := pair_len S.rts.all
      have few0 := W.many
      refine ⟨_, rfl, sv, _, _, _, _, rfl, S.ins, T.cl, T.na _ (by decide +kernel), sF_rts _ _, z.rts, rfl, ⟨_, SqL.of S.rts.at_⟩, fun D hD => lc_w (K := K) (n := (z.rR.map V.ref).length) walk_list hD (by rw [List.length_map]; omega) (fun i H2 acc => ∃ bs : List Addr, acc = bs.map V.ref ∧ Paired (RtAt H2) bs ((m.routes.take i).filter fun r => r.announcer == k)) (fun H2 k2 => SqL.of (k2.lst S.rts.at_)) ⟨[], rfl, .nil⟩ ?_ ?_ ?_ ?_⟩
      · rintro i H2 acc ⟨bs, rfl, hp⟩
        have h1 := pair_len hp
        have h2 := List.length_filter_le (fun r : Route => r.announcer == k) (m.routes.take i)
        rw [List.length_take] at h2
        rw [List.length_map]
        omega
      · rintro i H2 acc acc' o ⟨bs, rfl, hp⟩ hacc
        exact ⟨bs, rfl, pair_mono hp fun _ _ q => q.upd hacc⟩
      · rintro i x H2 H' acc hi k2 hacc ⟨bs, rfl, hp⟩ ⟨rfl, hx⟩ N1 N0 n1 n0
        rw [List.getElem?_map] at hx
        cases e5 : z.rR[i]? with
        | none =>
          rw [e5] at hx
          cases hx
        | some a =>
          rw [e5] at hx
          obtain rfl : V.ref a = x := Option.some.inj hx
          obtain ⟨r, hr2, hR⟩ := pair_getL S.rts.all e5
          have R2 := hR.keep k2
          refine ⟨rfl, put_test (pu_eqN (pu_ann R2 (pu_var rfl)) (pu_ixL (i := 0) (pu_var rfl) pu_c (SqL.of (k2.lst hpl)) rfl)) _ ?_⟩
          have et : (m.routes.take (i + 1)).filter (fun r => r.announcer == k) = (m.routes.take i).filter (fun r => r.announcer == k) ++ (if decide (r.announcer = k) = true then [r] else []) := by
            rw [take_next hr2, List.filter_append]
            congr 1
            by_cases c : r.announcer = k
            · rw [List.filter_cons_of_pos (by simp [c]), decide_eq_true c]
              rfl
            · rw [List.filter_cons_of_neg (by simp [c]), decide_eq_false c]
              rfl
          cases c : decide (r.announcer = k) with
          | true =>
            rw [c, if_pos rfl] at et
            refine iteT (B := _) (pu_var rfl _ (n1 _ _ (Kt.refl _) ⟨bs ++ [a], by rw [List.map_append]; rfl, ?_⟩))
            rw [et]
            exact pair_app hp (.cons R2 .nil)
          | false =>
            rw [c, if_neg Bool.false_ne_true, List.append_nil] at et
            refine iteF (A := _) (n0 _ (Kt.refl _) ⟨bs, rfl, ?_⟩)
            rw [et]
            exact hp
      · rintro H1 acc k1 hacc ⟨bs, rfl, hp⟩
        rw [List.length_map, hlen0, List.take_length] at hp
        have n1 : Nw H D := .of hD
        have paths : ∀ r ∈ ownRoutes m k, r.asPath.length ≤ 6 := fun r hr => W.path r (List.mem_filter.mp hr).1
        have few : (ownRoutes m k).length ≤ 20 := Nat.le_trans (List.length_filter_le _ _) W.many
        have L1 : LsAt H1 D bs (ownRoutes m k) := ⟨hacc, hp⟩
        have hlen := pair_len L1.all
        clear hp hacc
        generalize ownRoutes m k = tb at L1 q hlen few paths
        dsimp only
        refine st_setG (lst_of (pa_c (pu_len (pu_var rfl) (.inl (SqL.of L1.at_))) pa_n) (by show 1 ≤ 1000; decide) fun F0 hF => ?_)
        have kF : Kt K H1 (upd H1 F0 (.lst [.int ((bs.map V.ref).length : Int)])) := Kt.new hF
        have LF := L1.keep kF
        have hq1 : D ≠ F0 := ne_of_none L1.at_ hF
        have hF0 : (upd H1 F0 (.lst [.int ((bs.map V.ref).length : Int)])) F0 = some (.lst (nv (tb.length :: []))) := by
          rw [upd_same, List.length_map, hlen]
          rfl
        have nF : Nw H F0 := Nw.back k1 (.of hF)
        generalize upd H1 F0 (.lst [.int ((bs.map V.ref).length : Int)]) = HF at kF LF hF0 ⊢
        have k1F := k1.trans kF
        refine ⟨_, rfl, D, rfl, ⟨_, SqL.of LF.at_⟩, for_it (walk_list (xs := bs.map V.ref)) (fun i σ H2 => ∃ v3 v5 v6 v7 v8, σ = [some (.ref sv), some (.ref pl), some (.ref D), v3, some (.ref F0), v5, v6, v7, v8] ∧ Kt K H H2 ∧ Kb K [F0] HF H2 ∧ H2 F0 = some (.lst (nv (tb.length :: (tb.take i).flatMap fun r => r.address :: r.length :: r.asPath.length :: r.asPath))))
          ⟨_, _, _, _, _, rfl, k1F, (Kt.refl _).kb, hF0⟩ ?_ ?_ ?_⟩
        · rintro i σ H2 _ ⟨v3, v5, v6, v7, v8, rfl, k2, b2, h2⟩
          exact SqL.of (b2.lst (by simpa using hq1) LF.at_)
        · rintro i x σ H2 H2' hi ⟨v3, v5, v6, v7, v8, rfl, k2, b2, h2⟩ ⟨rfl, hx⟩
          rw [List.getElem?_map] at hx
          cases e5 : bs[i]? with
          | none =>
            rw [e5] at hx
            cases hx
          | some a =>
            rw [e5] at hx
            obtain rfl : V.ref a = x := Option.some.inj hx
            obtain ⟨r, hr2, pp, g1, g2⟩ := pair_getL LF.all e5
            have na : a ∉ [F0] := by simpa using ne_of g1 hF0 (by intro z; cases z)
            have np : pp ∉ [F0] := by simpa using ne_of g2 hF0 (by intro z; cases z)
            have g2' := b2.tup np g2
            refine ⟨a, _, rfl, SqT.of (b2.tup na g1), rfl, _, _, rfl, _, _, rfl, _, _, rfl, _, _, rfl, rfl, ?_⟩
            have hil := (List.getElem?_eq_some_iff.mp hr2).1
            have hpl6 := paths r (List.mem_of_getElem? hr2)
            have hfl := flat_len (f := fun r : Route => r.address :: r.length :: r.asPath.length :: r.asPath) (n := 9) (l := tb.take i) fun r hr => by
              have := paths r (List.mem_of_mem_take hr)
              simp only [List.length_cons]
              omega
            rw [List.length_take] at hfl
            refine ext_of (pu_var (i := 4) rfl) h2 (pa_c (pu_var (i := 6) rfl) (pa_c (pu_var (i := 7) rfl) (pa_c (pu_len (pu_var (i := 8) rfl) (.inr (SqT.of g2'))) pa_n))) ?_ fun p hp => ?_
            · rw [List.length_append, nv_len, List.length_cons]
              show _ + 3 ≤ 1000
              omega
            · have kp : Kt K H2' (upd H2' p (.lst [.int (r.address : Int), .int (r.length : Int), .int ((nv r.asPath).length : Int)])) := Kt.new hp
              have h2p := kp.lst h2
              have g2p := kp.tup g2'
              have k2p := k2.trans kp
              have b2p := b2.trans kp.kb
              generalize upd H2' p (.lst [.int (r.address : Int), .int (r.length : Int), .int ((nv r.asPath).length : Int)]) = Hp1 at k2p b2p h2p g2p ⊢
              have k3 : Kt K H (upd Hp1 F0 (.lst (nv (tb.length :: (tb.take i).flatMap fun r => r.address :: r.length :: r.asPath.length :: r.asPath) ++ [.int (r.address : Int), .int (r.length : Int), .int ((nv r.asPath).length : Int)]))) := k2p.put nF h2p
              have b3 : Kb K [F0] HF (upd Hp1 F0 (.lst (nv (tb.length :: (tb.take i).flatMap fun r => r.address :: r.length :: r.asPath.length :: r.asPath) ++ [.int (r.address : Int), .int (r.length : Int), .int ((nv r.asPath).length : Int)]))) := b2p.trans (Kb.put (by simp) (.inl ⟨_, h2p⟩))
              have h3 : (upd Hp1 F0 (.lst (nv (tb.length :: (tb.take i).flatMap fun r => r.address :: r.length :: r.asPath.length :: r.asPath) ++ [.int (r.address : Int), .int (r.length : Int), .int ((nv r.asPath).length : Int)]))) F0 = some (.lst (nv (tb.length :: (tb.take i).flatMap fun r => r.address :: r.length :: r.asPath.length :: r.asPath) ++ [.int (r.address : Int), .int (r.length : Int), .int ((nv r.asPath).length : Int)])) := upd_same
              generalize upd Hp1 F0 (.lst (nv (tb.length :: (tb.take i).flatMap fun r => r.address :: r.length :: r.asPath.length :: r.asPath) ++ [.int (r.address : Int), .int (r.length : Int), .int ((nv r.asPath).length : Int)])) = H3 at k3 b3 h3 ⊢
              have g3 := b3.tup np g2
              refine ⟨_, rfl, .inl ⟨rfl, _, SqL.of h3⟩, _, rfl, pp, _, rfl, .inr (SqT.of g3), fun p4 hp4 => ?_⟩
              have k4 : Kt K H3 (upd H3 p4 (.lst (nv r.asPath))) := Kt.new hp4
              refine ⟨F0, p4, _, _, rfl, rfl, k4.lst h3, upd_same, Nat.le_trans ?_ (show 1000 ≤ sizeLine by decide), _, _, _, _, _, rfl, ?_, ?_, ?_⟩
              · rw [List.length_append, nv_len, nv_len, List.length_cons]
                show _ + 3 + _ ≤ 1000
                omega
              · exact (k3.trans k4).put nF (k4.lst h3)
              · exact (b3.trans k4.kb).trans (Kb.put (by simp) (.inl ⟨_, k4.lst h3⟩))
              · rw [upd_same, flat_next hr2, ← List.cons_append, nv_app, nv_len, List.append_assoc]
                rfl
        · rintro σ H2 ⟨v3, v5, v6, v7, v8, rfl, k2, b2, h2⟩
          rw [List.length_map, hlen, List.take_length] at h2
          exact st_ret (pu_var rfl) (q F0 H2 k2 nF h2)
end
end Rs

/-! # The walk, part 21: is_deed, done, asked, answered -/
namespace Rs
open PySem PySem.Spec PyProof.Rows L2 LamX NdefX
open Su201 (Route)
def deedK (K : PySem.W.Frag) : List (Key × V) := [(.inl 0, .ref (ga K "reset")), (.inl 1, .ref (ga K "add_member")), (.inl 2, .ref (ga K "announce")), (.inl 3, .ref (ga K "withdraw")), (.inl 4, .ref (ga K "set_export")), (.inl 5, .ref (ga K "set_import")), (.inl 6, .ref (ga K "set_preference")), (.inl 14, .ref (ga K "withdraw_all"))]
def queK (K : PySem.W.Frag) : List (Key × V) := [(.inl 7, .ref (ga K "tell_best")), (.inl 8, .ref (ga K "tell_eligible")), (.inl 9, .ref (ga K "tell_table")), (.inl 10, .ref (ga K "tell_lookup")), (.inl 11, .ref (ga K "tell_reachable")), (.inl 12, .ref (ga K "tell_users")),
  (.inl 13, .ref (ga K "tell_preview")), (.inl 15, .ref (ga K "tell_prefixes")), (.inl 16, .ref (ga K "tell_routes")), (.inl 17, .ref (ga K "tell_policy"))]
/-- the two tables of operations -/
structure DgAt (K : PySem.W.Frag) (H : Hp) : Prop where
  deeds : Rd H (ga K "DEEDS") (.dK (deedK K))
  ques : Rd H (ga K "QUESTIONS") (.dK (queK K))
section
variable {K : PySem.W.Frag} {H H1 : Hp} {s : Addr} {z : SA} {m : M}
theorem rd_keepB {B : List Addr} (k : Kb K B H H1) (hB : ∀ b ∈ B, (∃ xs, H b = some (.lst xs)) ∨ ∃ C dx fs, H b = some (.ins C dx fs)) {a : Addr} {kvs : List (Key × V)} (h : Rd H a (.dK kvs)) : Rd H1 a (.dK kvs) := by
  rcases h with h | ⟨o, h⟩
  · refine .inl (k.ke _ _ (fun y => ?_) h fun _ z => by cases z)
    rcases hB a y with ⟨_, e⟩ | ⟨_, _, _, e⟩ <;> rw [h] at e <;> cases e
  · refine .inr ⟨o, k.ke _ _ (fun y => ?_) h fun _ z => by cases z⟩
    rcases hB a y with ⟨_, e⟩ | ⟨_, _, _, e⟩ <;> rw [h] at e <;> cases e
theorem DgAt.keepB {B : List Addr} (k : Kb K B H H1) (hB : ∀ b ∈ B, (∃ xs, H b = some (.lst xs)) ∨ ∃ C dx fs, H b = some (.ins C dx fs)) (d : DgAt K H) : DgAt K H1 := ⟨rd_keepB k hB d.deeds, rd_keepB k hB d.ques⟩
theorem sv_B (S : SvAt K H s m z) : ∀ b ∈ s :: z.rows, (∃ xs, H b = some (.lst xs)) ∨ ∃ C dx fs, H b = some (.ins C dx fs) := fun b hb => by
  rcases List.mem_cons.mp hb with rfl | hb
  · exact .inr ⟨_, _, _, S.ins⟩
  · exact .inl (sv_row S hb)
theorem DgAt.keep (k : Kt K H H1) (d : DgAt K H) : DgAt K H1 := d.keepB (B := []) k.kb fun b hb => by cases hb
end
theorem dget_of {H : Hp} {a : Addr} {kvs : List (Key × V)} {i : Int} (h : Rd H a (.dK kvs)) : DGet H a (.int i) (valV kvs (.inl i)) := .inl ⟨kvs, .inl i, h, rfl, rfl⟩
theorem isDeed_cases {p : Nat} (h : isDeed p = true) : p = 0 ∨ p = 1 ∨ p = 2 ∨ p = 3 ∨ p = 4 ∨ p = 5 ∨ p = 6 ∨ p = 14 := by
  unfold isDeed at h
  rw [Bool.or_eq_true, decide_eq_true_eq, decide_eq_true_eq] at h
  omega
theorem deeds_has {K : PySem.W.Frag} (p : Nat) (h : p < 18) : (valV (deedK K) (.inl (p : Int))).isSome = isDeed p := by
  match p, h with
  | 0, _ | 1, _ | 2, _ | 3, _ | 4, _ | 5, _ | 6, _ | 7, _ | 8, _ | 9, _ | 10, _ | 11, _ | 12, _ | 13, _ | 14, _ | 15, _ | 16, _ | 17, _ => rfl
  | n + 18, h => omega
section
variable {K : PySem.W.Frag} {mg : Str → Option Value} {base : Heap} {P : Program} {w : World}
/-! ## is_deed -/
theorem sc44 : FnScope ["number"] ["number"] (defScope (top 44)) := ⟨rfl, rfl, rfl, by decide +kernel, rfl, by decide +kernel, by decide +kernel⟩
def spIsDeed (K : PySem.W.Frag) : Sp := fun vs H Q _ => ∃ p : Nat, vs = [.int p] ∧ p < 18 ∧ DgAt K H ∧ Q (.bl (isDeed p)) H
theorem ok_is_deed (T : Tx K mg base) : OkD P w K mg base 1 (ga K "is_deed") ["number"] (spIsDeed K) := by
  obtain ⟨fd, F⟩ : ∃ fd, FunD K "is_deed" "is_deed" (defArgs (top 44)) (defBody (top 44)) (defScope (top 44)) [] [] (ga K "is_deed") fd := T.fn 23 _ rfl
  refine okD_mk F (F.ok sc44 (fun vs H Q E h => ?_) (fun cdv A outer s H vs Q E hr h => ?_)) (fun _ _ _ _ _ _ us hl => match us, hl with | [_], _ => rfl)
  · obtain ⟨_, rfl, _⟩ := h
    rfl
  · obtain ⟨p, rfl, hp, d, q⟩ := h
    refine ⟨_, PSs.nox (pss_one (ps_ret (pe_cmp (pc_din (Nat.lt_of_le_of_lt (Nat.add_le_add_left (by decide : 1 ≤ 64) _) hr.units) (pv 0) (pe_ga T))))), ?_⟩
    refine ⟨_, rfl, _, _, rfl, dget_of d.deeds, ?_⟩
    rw [deeds_has p hp]
    exact q
/-! ## done -/
theorem sc45 : FnScope ["server", "number", "parts", "deed"] ["server", "number", "parts"] (defScope (top 45)) := ⟨rfl, rfl, rfl, by decide +kernel, rfl, by decide +kernel, by decide +kernel⟩
def spDone (K : PySem.W.Frag) : Sp := fun vs H Q _ => ∃ (s pl : Addr) (m : M) (z : SA) (p : Nat) (xs : List Nat), vs = [.ref s, .int p, .ref pl] ∧ isDeed p = true ∧ DgAt K H ∧ SvAt K H s m z ∧ (p ≠ 0 → ∃ o, Ok m o) ∧ Tabs (tE K) H ∧ H pl = some (.lst (nv xs)) ∧ CallOk (p, xs) ∧ PostD K s z H (deed m p xs) Q
theorem deed_at (T : Tx K mg base) {p : Nat} (h : isDeed p = true) : ∃ a, valV (deedK K) (.inl (p : Int)) = some (.ref a) ∧ OkD P w K mg base 10 a ["server", "parts"] (spDo K p) := by
  rcases isDeed_cases h with rfl | rfl | rfl | rfl | rfl | rfl | rfl | rfl
  · exact ⟨_, rfl, ok_reset T⟩
  · exact ⟨_, rfl, ok_addM T⟩
  · exact ⟨_, rfl, ok_announce T⟩
  · exact ⟨_, rfl, ok_withdraw T⟩
  · exact ⟨_, rfl, ok_dE T⟩
  · exact ⟨_, rfl, ok_dI T⟩
  · exact ⟨_, rfl, ok_dP T⟩
  · exact ⟨_, rfl, ok_all T⟩
theorem ok_done (T : Tx K mg base) : OkD P w K mg base 11 (ga K "done") ["server", "number", "parts"] (spDone K) := by
  obtain ⟨fd, F⟩ : ∃ fd, FunD K "done" "done" (defArgs (top 45)) (defBody (top 45)) (defScope (top 45)) [] [] (ga K "done") fd := T.fn 24 _ rfl
  refine okD_mk F (F.ok sc45 (fun vs H Q E h => ?_) (fun cdv A outer s H vs Q E hr h => ?_)) (fun _ _ _ _ _ _ us hl => match us, hl with | [_, _, _], _ => rfl)
  · obtain ⟨_, _, _, _, _, _, rfl, _⟩ := h
    rfl
  · obtain ⟨sv, pl, m, z, p, xs, rfl, hd, d, S, ok, tabs, hpl, hc, q⟩ := h
    obtain ⟨a, hv, _, G, b, k⟩ := deed_at (P := P) (w := w) T hd
    refine ⟨_, PSs.nox (pss_cons (ps_set (i := 3) sc45.nd rfl (Or.inl rfl) (pe_dget (Nat.lt_of_le_of_lt (Nat.add_le_add_left (by decide : 1 ≤ 64) _) hr.units) (pe_ga T) (pv 1) (fun _ _ => rfl)))
      (pss_one (ps_ret (pe_callL (i := 3) (E := E0) (f := a) G (hr.mono (by decide)) rfl (.inl rfl) k b .nil pass0 (pa_cons (pv 0) (pa_cons (pv 2) pa_nil)))))), ?_⟩
    refine ⟨_, rfl, _, _, rfl, by rw [← hv]; exact dget_of d.deeds, ?_⟩
    refine ⟨rfl, _, rfl, _, rfl, ?_⟩
    exact ⟨sv, pl, m, z, xs, rfl, S, ok, tabs, hpl, hc, q⟩
/-! ## asked -/
theorem sc60 : FnScope ["server", "number", "parts", "question"] ["server", "number", "parts"] (defScope (top 60)) := ⟨rfl, rfl, rfl, by decide +kernel, rfl, by decide +kernel, by decide +kernel⟩
def spAsked (K : PySem.W.Frag) : Sp := fun vs H Q _ => ∃ (s pl : Addr) (m : M) (z : SA) (p : Nat) (xs : List Nat), vs = [.ref s, .int p, .ref pl] ∧ p < 18 ∧ isDeed p = false ∧ DgAt K H ∧ SvAt K H s m z ∧ Wf m ∧ Tabs (tE K) H ∧ H pl = some (.lst (nv xs)) ∧ CallOk (p, xs) ∧ PostQ K H (question m p xs) Q
theorem question_at (T : Tx K mg base) {p : Nat} (h8 : p < 18) (h : isDeed p = false) : ∃ a, valV (queK K) (.inl (p : Int)) = some (.ref a) ∧ OkD P w K mg base 10 a ["server", "parts"] (spQ K p) := by
  have hc : p = 7 ∨ p = 8 ∨ p = 9 ∨ p = 10 ∨ p = 11 ∨ p = 12 ∨ p = 13 ∨ p = 15 ∨ p = 16 ∨ p = 17 := by
    unfold isDeed at h
    rw [Bool.or_eq_false_iff, decide_eq_false_iff_not, decide_eq_false_iff_not] at h
    omega
  rcases hc with rfl | rfl | rfl | rfl | rfl | rfl | rfl | rfl | rfl | rfl
  · exact ⟨_, rfl, ok_best T⟩
  · exact ⟨_, rfl, ok_elig T⟩
  · exact ⟨_, rfl, ok_table T⟩
  · exact ⟨_, rfl, ok_lookup T⟩
  · exact ⟨_, rfl, ok_reach T⟩
  · exact ⟨_, rfl, ok_users T⟩
  · exact ⟨_, rfl, ok_preview T⟩
  · exact ⟨_, rfl, ok_prefixes T⟩
  · exact ⟨_, rfl, ok_routes T⟩
  · exact ⟨_, rfl, ok_policy T⟩
theorem ok_asked (T : Tx K mg base) : OkD P w K mg base 11 (ga K "asked") ["server", "number", "parts"] (spAsked K) := by
  obtain ⟨fd, F⟩ : ∃ fd, FunD K "asked" "asked" (defArgs (top 60)) (defBody (top 60)) (defScope (top 60)) [] [] (ga K "asked") fd := T.fn 37 _ rfl
  refine okD_mk F (F.ok sc60 (fun vs H Q E h => ?_) (fun cdv A outer s H vs Q E hr h => ?_)) (fun _ _ _ _ _ _ us hl => match us, hl with | [_, _, _], _ => rfl)
  · obtain ⟨_, _, _, _, _, _, rfl, _⟩ := h
    rfl
  · obtain ⟨sv, pl, m, z, p, xs, rfl, h8, hd, d, S, W, tabs, hpl, hc, q⟩ := h
    obtain ⟨a, hv, _, G, b, k⟩ := question_at (P := P) (w := w) T h8 hd
    refine ⟨_, PSs.nox (pss_cons (ps_set (i := 3) sc60.nd rfl (Or.inl rfl) (pe_dget (Nat.lt_of_le_of_lt (Nat.add_le_add_left (by decide : 1 ≤ 64) _) hr.units) (pe_ga T) (pv 1) (fun _ _ => rfl)))
      (pss_one (ps_ret (pe_callL (i := 3) (E := E0) (f := a) G (hr.mono (by decide)) rfl (.inl rfl) k b .nil pass0 (pa_cons (pv 0) (pa_cons (pv 2) pa_nil)))))), ?_⟩
    refine ⟨_, rfl, _, _, rfl, by rw [← hv]; exact dget_of d.ques, ?_⟩
    refine ⟨rfl, _, rfl, _, rfl, ?_⟩
    exact ⟨sv, pl, m, z, xs, rfl, S, W, tabs, hpl, hc, q⟩
/-! ## answered -/
theorem sc70 : FnScope ["server", "number", "parts"] ["server", "number", "parts"] (defScope (top 70)) := ⟨rfl, rfl, rfl, by decide +kernel, rfl, by decide +kernel, by decide +kernel⟩
def Live (m : M) : Prop := m.made = true → ∃ o, Ok m o
def spAnswered (K : PySem.W.Frag) : Sp := fun vs H Q _ => ∃ (s pl : Addr) (m : M) (z : SA) (p : Nat) (xs : List Nat), vs = [.ref s, .int p, .ref pl] ∧ DgAt K H ∧ SvAt K H s m z ∧ Live m ∧ Tabs (tE K) H ∧ H pl = some (.lst (nv xs)) ∧ CallOk (p, xs) ∧ PostD K s z H (answered m (p, xs)) Q
theorem ok_answered (T : Tx K mg base) : OkD P w K mg base 12 (ga K "answered") ["server", "number", "parts"] (spAnswered K) := by
  obtain ⟨fd, F⟩ : ∃ fd, FunD K "answered" "answered" (defArgs (top 70)) (defBody (top 70)) (defScope (top 70)) [] [] (ga K "answered") fd := T.fn 40 _ rfl
  obtain ⟨_, G_is_deed, b_is_deed, k_is_deed⟩ := ok_is_deed (P := P) (w := w) T
  obtain ⟨_, G_done, b_done, k_done⟩ := ok_done (P := P) (w := w) T
  obtain ⟨_, G_asked, b_asked, k_asked⟩ := ok_asked (P := P) (w := w) T
  refine okD_mk F (F.ok sc70 (fun vs H Q E h => ?_) (fun cdv A outer s H vs Q E hr h => ?_)) (fun _ _ _ _ _ _ us hl => match us, hl with | [_, _, _], _ => rfl)
  · obtain ⟨_, _, _, _, _, _, rfl, _⟩ := h
    rfl
  · obtain ⟨sv, pl, m, z, p, xs, rfl, d, S, live, tabs, hpl, hc, q⟩ := h
    refine ⟨_, PSs.nox (pss_cons (ps_if (PW.pt (pw_and (pt_cmpR op_ne (pv 1) (pe_gi T 0) (nomark _)) (pw_and1 (pt_not (pt_val (pe_fld (pv 0) rfl)))))) (pss_one (ps_ret (pe_lst (pa_cons (pe_gi T (-11)) pa_nil)))) pss_nil)
      (pss_cons (ps_if (pt_val (pe_call G_is_deed (hr.mono (by decide)) (by rfl) (T.glo "is_deed" (by decide +kernel)) k_is_deed b_is_deed .nil pass0 (pa_cons (pv 1) pa_nil))) (pss_one (ps_ret (pe_call G_done (hr.mono (by decide)) (by rfl) (T.glo "done" (by decide +kernel)) k_done b_done .nil pass0 (pa_cons (pv 0) (pa_cons (pv 1) (pa_cons (pv 2) pa_nil)))))) pss_nil)
      (pss_one (ps_ret (pe_call G_asked (hr.mono (by decide)) (by rfl) (T.glo "asked" (by decide +kernel)) k_asked b_asked .nil pass0 (pa_cons (pv 0) (pa_cons (pv 1) (pa_cons (pv 2) pa_nil)))))))), ?_⟩
    refine st_if (put_and (put_test (pu_neN (i := p) (j := 0) (pu_var rfl) pu_c)) fun _ => put_not (put_B (pu_made T S (pu_var rfl)))) (fun e => ret1 pu_c (post_stay S (.refl _) ?_ q)) fun e => ?_
    · unfold answered
      rw [Bool.and_eq_true, Bool.not_eq_true', Bool.not_eq_true', decide_eq_false_iff_not] at e
      rw [if_pos e]
    · have e2 : ¬ (p ≠ 0 ∧ m.made = false) := fun y => by
        rw [decide_eq_false y.1, y.2] at e
        cases e
      have ok : p ≠ 0 → ∃ o, Ok m o := fun y => live (by
        cases e3 : m.made with
        | true => rfl
        | false => exact (e2 ⟨y, e3⟩).elim)
      have er : answered m (p, xs) = if isDeed p = true then deed m p xs else (m, question m p xs) := by
        unfold answered
        rw [if_neg e2]
      rw [er] at q
      refine st_if (k := isDeed p) (put_B fun Q' q' => call_of (sp := spIsDeed K) (pa_c (pu_var rfl) pa_n) ⟨p, rfl, hc.1, d, q'⟩) (fun e3 => ?_) fun e3 => ?_
      · rw [if_pos e3] at q
        exact call_of (pa_c (pu_var (i := 0) rfl) (pa_c (pu_var (i := 1) rfl) (pa_c (pu_var (i := 2) rfl) pa_n))) ⟨sv, pl, m, z, p, xs, rfl, e3, d, S, ok, tabs, hpl, hc, q⟩
      · rw [if_neg (by rw [e3]; exact Bool.false_ne_true)] at q
        have hp : p ≠ 0 := fun y => by
          rw [y] at e3
          cases e3
        obtain ⟨o, O⟩ := ok hp
        exact call_of (pa_c (pu_var (i := 0) rfl) (pa_c (pu_var (i := 1) rfl) (pa_c (pu_var (i := 2) rfl) pa_n))) ⟨sv, pl, m, z, p, xs, rfl, hc.1, e3, d, S, O.wf, tabs, hpl, hc, fun q1 H1 k1 n1 h1 => q q1 H1 z k1.kb (S.keep k1) ⟨fun a h => .inl h, fun a h => .inl h⟩ n1 h1⟩
end
end Rs

/-! # The walk, part 22: part_count, calls_in -/
namespace Rs
open PySem PySem.Spec PyProof.Rows L2 LamX NdefX
open Su201 (Route)
theorem counts_at {p : Nat} (h : p < 18) : (countsL.map V.int)[p]? = some (.int ((partCounts.getD p 0 : Nat) : Int)) := by
  match p, h with
  | 0, _ | 1, _ | 2, _ | 3, _ | 4, _ | 5, _ | 6, _ | 7, _ | 8, _ | 9, _ | 10, _ | 11, _ | 12, _ | 13, _ | 14, _ | 15, _ | 16, _ | 17, _ => rfl
  | n + 18, h => omega
/-- numbers[i:j] -/
theorem cut_mid (a b c : List V) : cutV (a ++ (b ++ c)) (some (a.length : Int)) (some ((a.length + b.length : Nat) : Int)) = b := by
  unfold cutV
  rw [HT.sIx_nat, HT.sIx_nat, List.length_append, List.length_append, Nat.min_eq_left (by omega), Nat.min_eq_left (by omega), List.drop_left]
  rw [show a.length + b.length - a.length = b.length by omega, List.take_left]
theorem flat_app (a b : List Call) : flat (a ++ b) = flat a ++ flat b := by
  unfold flat
  rw [List.flatMap_append]
theorem flat_at {cs : List Call} {i : Nat} {c : Call} (h : cs[i]? = some c) : flat cs = flat (cs.take i) ++ (c.1 :: c.2 ++ flat (cs.drop (i + 1))) := by
  obtain ⟨hi, e⟩ := List.getElem?_eq_some_iff.mp h
  have e2 : cs = cs.take i ++ (c :: cs.drop (i + 1)) := by
    rw [← e, List.getElem_cons_drop, List.take_append_drop]
  have e3 : flat (c :: cs.drop (i + 1)) = c.1 :: c.2 ++ flat (cs.drop (i + 1)) := by
    unfold flat
    rw [List.flatMap_cons]
  rw [← e3, ← flat_app, ← e2]
section
variable {K : PySem.W.Frag} {mg : Str → Option Value} {base : Heap} {P : Program} {w : World}
/-! ## part_count -/
theorem sc64 : FnScope ["numbers", "at", "many"] ["numbers", "at"] (defScope (top 64)) := ⟨rfl, rfl, rfl, by decide +kernel, rfl, by decide +kernel, by decide +kernel⟩
def cnt (p x : Nat) : Nat := partCounts.getD p 0 + (if p = 2 then x else 0)
def spPart (K : PySem.W.Frag) : Sp := fun vs H Q _ => ∃ (a : Addr) (l : List Nat) (i p x : Nat), vs = [.ref a, .int i] ∧ SqL K H a (nv l) ∧ l[i]? = some p ∧ p < 18 ∧ (p = 2 → l[i + 4]? = some x) ∧ Q (.int ((cnt p x : Nat) : Int)) H
theorem ok_part (T : Tx K mg base) : OkD P w K mg base 1 (ga K "part_count") ["numbers", "at"] (spPart K) := by
  obtain ⟨fd, F⟩ : ∃ fd, FunD K "part_count" "part_count" (defArgs (top 64)) (defBody (top 64)) (defScope (top 64)) [] [] (ga K "part_count") fd := T.fn 38 _ rfl
  refine okD_mk F (F.ok sc64 (fun vs H Q E h => ?_) (fun cdv A outer s H vs Q E hr h => ?_)) (fun _ _ _ _ _ _ us hl => match us, hl with | [_, _], _ => rfl)
  · obtain ⟨_, _, _, _, _, rfl, _⟩ := h
    rfl
  · obtain ⟨a, l, i, p, x, rfl, hs, hi, hp, hx, q⟩ := h
    refine ⟨_, PSs.nox (pss_cons (ps_set (i := 2) sc64.nd rfl (Or.inl rfl) (pe_ix ix_tup (pe_ga T) (pe_ix ix_list (pv 0) (pv 1) (fun _ _ => rfl)) (fun _ _ => rfl)))
      (pss_cons (ps_if (pt_cmpR op_eq (pe_ix ix_list (pv 0) (pv 1) (fun _ _ => rfl)) (pe_gi T 2) (nomark _)) (pss_one (ps_ret (pe_op op_add (pv 2) (pe_ix ix_list (pv 0) (pe_op op_add (pv 1) (pv 2)) (fun _ _ => rfl))))) pss_nil)
      (pss_one (ps_ret (pv 2))))), ?_⟩
    refine st_set (pu_ixT pu_c (pu_ixL (pu_var rfl) (pu_var rfl) hs (nv_at hi)) (T.counts H) (counts_at hp)) ?_
    refine st_if (put_test (pu_eqN (i := p) (j := 2) (pu_ixL (pu_var rfl) (pu_var rfl) hs (nv_at hi)) pu_c)) (fun e => ?_) fun e => ?_
    · have e2 : p = 2 := of_decide_eq_true e
      subst e2
      have hc : ((i : Int) + ((partCounts.getD 2 0 : Nat) : Int)) = ((i + 4 : Nat) : Int) := by
        show (i : Int) + (4 : Nat) = _
        omega
      refine st_ret (pu_is (pu_I (g := fun i j => .int (i + j)) (i := ((partCounts.getD 2 0 : Nat) : Int)) (j := (x : Int)) (pu_var rfl) (pu_ixL (i := i + 4) (pu_var rfl) (pu_is (pu_I (g := fun i j => .int (i + j)) (i := (i : Int)) (j := ((partCounts.getD 2 0 : Nat) : Int)) (pu_var rfl) (pu_var rfl)) (by rw [hc])) hs (nv_at (hx rfl)))) (w := .int ((cnt 2 x : Nat) : Int)) ?_) q
      show V.int (((4 : Nat) : Int) + (x : Int)) = V.int (((4 + x : Nat)) : Int)
      congr 1
    · have e2 : ¬ p = 2 := of_decide_eq_false e
      have ec : cnt p x = partCounts.getD p 0 := by
        unfold cnt
        rw [if_neg e2, Nat.add_zero]
      rw [ec] at q
      exact pu_var (i := 2) rfl _ q
/-! ## calls_in -/
theorem sc65 : FnScope ["numbers", "found", "at", "behind"] ["numbers"] (defScope (top 65)) := ⟨rfl, rfl, rfl, by decide +kernel, rfl, by decide +kernel, by decide +kernel⟩
/-- a call that is read: at pl stand its parts -/
structure CaAt (H0 H : Hp) (t : Addr) (c : Call) (pl : Addr) : Prop where
  tup : H t = some (.tup [.int (c.1 : Int), .ref pl])
  lst : H pl = some (.lst (nv c.2))
  new : Nw H0 pl
theorem CaAt.upd {H0 H : Hp} {t pl p : Addr} {c : Call} {o : HO} {xs : List V} (h : CaAt H0 H t c pl) (hp : H p = some (.lst xs)) (n : pl ≠ p) : CaAt H0 (L2.upd H p o) t c pl :=
  ⟨(upd_ne (ne_of h.tup hp (by intro z; cases z))).trans h.tup, (upd_ne n).trans h.lst, h.new⟩
theorem CaAt.keep {H0 H H' : Hp} {t pl : Addr} {c : Call} (k : Kt K H H') (h : CaAt H0 H t c pl) : CaAt H0 H' t c pl := ⟨k.tup h.tup, k.lst h.lst, h.new⟩
def muC (n : Nat) (σ : L2.St) : Nat := match σ[2]? with
  | some (some (V.int x)) => ((n : Int) - x).toNat
  | _ => 0
theorem tup_ofG {σ : L2.St} {H : Hp} {t : TA} {Q : VK} (h : t σ H fun vs H1 => vs.length ≤ sizeLine ∧ ∀ p, H1 p = none → Q (.ref p) (L2.upd H1 p (.tup vs))) : tTup t σ H Q := h
def spCallsIn (K : PySem.W.Frag) : Sp := fun vs H Q _ => ∃ (a : Addr) (cs : List Call), vs = [.ref a] ∧ SqL K H a (nv (flat cs)) ∧ (∀ c ∈ cs, CallOk c) ∧ cs.length ≤ 400 ∧
  ∀ q ts H', Kt K H H' → Nw H q → H' q = some (.lst (ts.map V.ref)) → Paired (fun t c => ∃ pl, CaAt H H' t c pl) ts cs → Q (.ref q) H'
theorem ok_calls (T : Tx K mg base) : OkD P w K mg base 2 (ga K "calls_in") ["numbers"] (spCallsIn K) := by
  obtain ⟨fd, F⟩ : ∃ fd, FunD K "calls_in" "calls_in" (defArgs (top 65)) (defBody (top 65)) (defScope (top 65)) [] [] (ga K "calls_in") fd := T.fn 39 _ rfl
  obtain ⟨_, G_part_count, b_part_count, k_part_count⟩ := ok_part (P := P) (w := w) T
  refine okD_mk F (F.ok sc65 (fun vs H Q E h => ?_) (fun cdv A outer s H vs Q E hr h => ?_)) (fun _ _ _ _ _ _ us hl => match us, hl with | [_], _ => rfl)
  · obtain ⟨_, _, rfl, _⟩ := h
    rfl
  · obtain ⟨a, cs, rfl, hs, hok, hn, q⟩ := h
    refine ⟨_, PSs.nox (pss_cons (ps_set (i := 1) sc65.nd rfl (Or.inl rfl) (pe_lst pa_nil))
      (pss_cons (ps_set (i := 2) sc65.nd rfl (Or.inl rfl) pe_int)
      (pss_cons (ps_while PassesOwn.never (pt_cmpR op_lt (pv 2) (pe_callB call_len_seq (by rfl) (T.free "len" (by decide +kernel)) boot_len (pa_cons (pv 0) pa_nil)) (nomark _)) (pss_cons (ps_set (i := 3) sc65.nd rfl (Or.inl rfl) (pe_op op_add (pe_op op_add (pv 2) pe_int) (pe_call G_part_count (hr.mono (by decide)) (by rfl) (T.glo "part_count" (by decide +kernel)) k_part_count b_part_count .nil pass0 (pa_cons (pv 0) (pa_cons (pv 2) pa_nil)))))
      (pss_cons (ps_expr (pe_bm PySem.F.plainAttrs_list PySem.F.slot_list_append PySem.F.type_list_append mt_append (pv 1) (pa_cons (pe_tup (pa_cons (pe_ix ix_list (pv 0) (pv 2) (fun _ _ => rfl)) (pa_cons (pe_slice sl_list (pv 0) (po_some (pe_op op_add (pv 2) pe_int)) (po_some (pv 3))) pa_nil))) pa_nil)))
      (pss_one (ps_set (i := 2) sc65.nd rfl (Or.inl rfl) (pv 3))))))
      (pss_one (ps_ret (pv 1)))))), ?_⟩
    refine st_setG (lst_of pa_n (by decide) fun F0 hF => ?_)
    have kF : Kt K H (upd H F0 (.lst [])) := Kt.new hF
    refine st_set pu_c ?_
    refine while_by (fun σ H2 => ∃ (i : Nat) (v3 : Option V) (ts : List Addr), i ≤ cs.length ∧ σ = [some (.ref a), some (.ref F0), some (.int ((flat (cs.take i)).length : Int)), v3] ∧ Kt K H H2 ∧ H2 F0 = some (.lst (ts.map V.ref)) ∧ Paired (fun t c => ∃ pl, CaAt H H2 t c pl ∧ pl ≠ F0) ts (cs.take i))
      (fun σ _ => muC (flat cs).length σ) ⟨0, none, [], Nat.zero_le _, rfl, kF, upd_same, .nil⟩ ?_ ?_
    · rintro σ H2 ⟨i, v3, ts, hi, rfl, k2, h2, hp⟩
      have hs2 := k2.seq hs
      refine put_test (pu_I (g := fun i j => .bl (decide (i < j))) (i := ((flat (cs.take i)).length : Int)) (j := ((flat cs).length : Int)) (pu_var rfl) (pu_is (pu_len (pu_var rfl) (.inl hs2)) (by rw [nv_len]))) _ ?_
      by_cases c : i < cs.length
      · obtain ⟨cc, hc⟩ : ∃ cc, cs[i]? = some cc := ⟨_, List.getElem?_eq_getElem c⟩
        have ef := flat_at hc
        have ok := hok cc (List.mem_of_getElem? hc)
        have el : (flat cs).length = (flat (cs.take i)).length + (1 + cc.2.length + (flat (cs.drop (i + 1))).length) := by
          rw [ef, List.length_append, List.length_append, List.length_cons]
          omega
        have enext : (flat (cs.take (i + 1))).length = (flat (cs.take i)).length + 1 + cc.2.length := by
          rw [take_next hc, flat_app, List.length_append]
          unfold flat
          rw [List.flatMap_cons, List.flatMap_nil, List.append_nil, List.length_cons]
          omega
        refine ite_t (decide_eq_true (by omega)) ?_
        have hat : (flat cs)[(flat (cs.take i)).length]? = some cc.1 := by
          rw [ef, List.getElem?_append_right (Nat.le_refl _), Nat.sub_self]
          rfl
        have hat4 : cc.1 = 2 → (flat cs)[(flat (cs.take i)).length + 4]? = some (cc.2.getD 3 0) := fun e2 => by
          have h4 := ok.2
          rw [e2] at h4
          have h5 : cc.2.length = 4 + cc.2.getD 3 0 := h4
          rw [ef, List.getElem?_append_right (by omega), Nat.add_sub_cancel_left, List.cons_append, List.getElem?_cons_succ, List.getElem?_append_left (by omega), List.getD_eq_getElem?_getD, List.getElem?_eq_getElem (by omega)]
          rfl
        have hlen2 : cc.2.length = cnt cc.1 (cc.2.getD 3 0) := ok.2
        have hbe : ((flat (cs.take i)).length : Int) + 1 + ((cnt cc.1 (cc.2.getD 3 0) : Nat) : Int) = ((flat (cs.take (i + 1))).length : Int) := by
          rw [enext, ← hlen2]
          omega
        refine st_setG (op_of (pu_I (g := fun i j => .int (i + j)) (i := ((flat (cs.take i)).length : Int)) (j := 1) (pu_var rfl) pu_c _ (call_of (pa_c (pu_var rfl) (pa_c (pu_var rfl) pa_n)) ⟨a, flat cs, (flat (cs.take i)).length, cc.1, cc.2.getD 3 0, rfl, hs2, hat, ok.1, hat4, _, _, rfl, rfl, ?_⟩)))
        dsimp only
        rw [hbe]
        -- the parts
        refine ⟨_, rfl, .inl ⟨rfl, _, SqL.of h2⟩, ?_⟩
        refine cons_of (tup_ofG (cons_of (pu_ixL (i := (flat (cs.take i)).length) (pu_var (i := 0) rfl) (pu_var (i := 2) rfl) hs2 (nv_at hat) _ (cons_of (sl_of (K := K) (lo := some (((flat (cs.take i)).length : Int) + 1)) (hi := some ((flat (cs.take (i + 1))).length : Int)) (pu_var (i := 0) rfl) (puo_s (pu_I (g := fun i j => .int (i + j)) (pu_var (i := 2) rfl) pu_c)) (puo_s (pu_var (i := 3) rfl)) hs2 fun pl hpl => ?_)))))
        have ecut : cutV (nv (flat cs)) (some (((flat (cs.take i)).length : Int) + 1)) (some ((flat (cs.take (i + 1))).length : Int)) = nv cc.2 := by
          have e1 : nv (flat cs) = (nv (flat (cs.take i)) ++ [V.int (cc.1 : Int)]) ++ (nv cc.2 ++ nv (flat (cs.drop (i + 1)))) := by
            rw [ef, nv_app, List.append_assoc]
            congr 1
            show nv (cc.1 :: (cc.2 ++ flat (cs.drop (i + 1)))) = _
            rw [show nv (cc.1 :: (cc.2 ++ flat (cs.drop (i + 1)))) = V.int (cc.1 : Int) :: nv (cc.2 ++ flat (cs.drop (i + 1))) from rfl, nv_app]
            rfl
          have e2 : (nv (flat (cs.take i)) ++ [V.int (cc.1 : Int)]).length = (flat (cs.take i)).length + 1 := by rw [List.length_append, nv_len]; rfl
          have h := cut_mid (nv (flat (cs.take i)) ++ [V.int (cc.1 : Int)]) (nv cc.2) (nv (flat (cs.drop (i + 1))))
          rw [e2, nv_len, ← enext] at h
          rw [e1]
          exact h
        rw [ecut]
        have k3 : Kt K H2 (upd H2 pl (.lst (nv cc.2))) := Kt.new hpl
        refine ⟨(by show 2 ≤ sizeLine; decide), fun pt hpt => ?_⟩
        have k4 := k3.trans (Kt.new (o := .tup [.int (cc.1 : Int), .ref pl]) hpt)
        have h4 := k4.lst h2
        have nF : pl ≠ F0 := (ne_of_none h2 hpl).symm
        have C4 : CaAt H (upd (upd H2 pl (.lst (nv cc.2))) pt (.tup [.int (cc.1 : Int), .ref pl])) pt cc pl := ⟨upd_same, (Kt.new (K := K) hpt).lst upd_same, Nw.back k2 (.of hpl)⟩
        generalize upd (upd H2 pl (.lst (nv cc.2))) pt (.tup [.int (cc.1 : Int), .ref pl]) = H4 at k4 h4 C4 ⊢
        have hlt := pair_len hp
        rw [List.length_take] at hlt
        refine ⟨F0, _, _, rfl, rfl, h4, Nat.lt_of_le_of_lt (show _ ≤ 400 by rw [List.length_map]; omega) (show 400 < sizeLine by decide), ?_⟩
        refine st_set (pu_var (i := 3) rfl) ?_
        refine ⟨⟨i + 1, _, ts ++ [pt], c, rfl, (k2.trans k4).put (.of hF) h4, ?_, ?_⟩, ?_⟩
        · rw [upd_same, List.map_append]
          rfl
        · rw [take_next hc]
          exact pair_app (pair_mono hp fun t c ⟨pl, h, n⟩ => ⟨pl, (h.keep k4).upd h4 n, n⟩) (.cons ⟨pl, C4.upd h4 nF, nF⟩ .nil)
        · show (((flat cs).length : Int) - ((flat (cs.take (i + 1))).length : Int)).toNat < (((flat cs).length : Int) - ((flat (cs.take i)).length : Int)).toNat
          omega
      · have ei : i = cs.length := by omega
        rw [ei, List.take_length] at hp
        rw [ei, List.take_length]
        refine ite_f (decide_eq_false (by omega)) ?_
        exact st_ret (pu_var (i := 1) rfl) (q F0 ts H2 k2 (.of hF) h2 (pair_mono hp fun t c ⟨pl, h, _⟩ => ⟨pl, h⟩))
    · rintro σ H Q Q' h ⟨v, hv, v0, hv0, p, ys, e, hs, i, j, e1, e2, k, e3, q⟩
      exact ⟨v, hv, v0, hv0, p, ys, e, hs, i, j, e1, e2, k, e3, h _ _ q⟩
end
end Rs

/-! # The walk, part 23: answers -/
namespace Rs
open PySem PySem.Spec PyProof.Rows L2 LamX NdefX
open Su201 (Route)
/-! ## a list of calls, call by call -/
def after (m : M) (cs : List Call) : M := cs.foldl (fun m c => (answered m c).1) m
theorem after_app (m : M) (cs : List Call) (c : Call) : after m (cs ++ [c]) = (answered (after m cs) c).1 := by
  unfold after
  rw [List.foldl_append]
  rfl
theorem played_app : ∀ (m : M) (cs : List Call) (c : Call), played m (cs ++ [c]) = played m cs ++ [(answered (after m cs) c).2]
  | _, [], _ => rfl
  | m, d :: cs, c => by
    show (answered m d).2 :: played (answered m d).1 (cs ++ [c]) = _
    rw [played_app]
    rfl
theorem told_app (l : List (List Int)) (x : List Int) : told (l ++ [x]) = told l ++ ((x.length : Int) :: x) := by
  unfold told
  rw [List.flatMap_append, List.flatMap_cons, List.flatMap_nil, List.append_nil]
theorem told_le {m : M} {cs : List Call} (i : Nat) : (told (played m (cs.take i))).length ≤ (told (played m cs)).length := by
  have h : ∀ (a b : List Call) (m : M), (told (played m a)).length ≤ (told (played m (a ++ b))).length := by
    intro a
    induction a with
    | nil => intro b m; exact Nat.zero_le _
    | cons c a ih =>
      intro b m
      have := ih b (answered m c).1
      unfold told at this ⊢
      show (List.flatMap _ ((answered m c).2 :: played (answered m c).1 a)).length ≤ (List.flatMap _ ((answered m c).2 :: played (answered m c).1 (a ++ b))).length
      rw [List.flatMap_cons, List.flatMap_cons, List.length_append, List.length_append]
      omega
  have e := h (cs.take i) (cs.drop i) m
  rw [List.take_append_drop] at e
  exact e
theorem live_start : Live M.start := fun h => by cases h
theorem live_step {m : M} {c : Call} (h : CallOk c) (L : Live m) : Live (answered m c).1 := by
  unfold answered
  by_cases c1 : c.1 ≠ 0 ∧ m.made = false
  · rw [if_pos c1]
    exact L
  · rw [if_neg c1]
    by_cases c2 : isDeed c.1 = true
    · rw [if_pos c2]
      obtain ⟨p, xs⟩ := c
      have go : p ≠ 0 → ∃ o, Ok m o := fun hp => L (by
        cases e : m.made with
        | true => rfl
        | false => exact (c1 ⟨hp, e⟩).elim)
      rcases isDeed_cases c2 with e | e | e | e | e | e | e | e
      · have e : p = 0 := e
        subst e
        obtain rfl := parts0 h rfl
        exact fun _ => ⟨_, ok_fresh⟩
      · have e : p = 1 := e
        subst e
        obtain ⟨x, rfl⟩ := parts1 h rfl
        obtain ⟨o, O⟩ := go (by decide)
        exact fun _ => ⟨_, (add_is O x).1⟩
      · have e : p = 2 := e
        subst e
        obtain ⟨k, a, l, n, path, rfl⟩ := parts_ann h
        obtain ⟨o, O⟩ := go (by decide)
        exact fun _ => ⟨_, (announce_is O k a l path).1⟩
      · have e : p = 3 := e
        subst e
        obtain ⟨k, a, l, rfl⟩ := parts3 h rfl
        obtain ⟨o, O⟩ := go (by decide)
        exact fun _ => ⟨_, (withdraw_is O k a l).1⟩
      · have e : p = 4 := e
        subst e
        obtain ⟨k, a, l, rfl⟩ := parts3 h rfl
        obtain ⟨o, O⟩ := go (by decide)
        exact fun _ => ⟨_, (export_is O k a l).1⟩
      · have e : p = 5 := e
        subst e
        obtain ⟨k, a, l, rfl⟩ := parts3 h rfl
        obtain ⟨o, O⟩ := go (by decide)
        exact fun _ => ⟨_, (import_is O k a l).1⟩
      · have e : p = 6 := e
        subst e
        obtain ⟨k, a, l, rfl⟩ := parts3 h rfl
        obtain ⟨o, O⟩ := go (by decide)
        exact fun _ => ⟨_, (pref_is O k a l).1⟩
      · have e : p = 14 := e
        subst e
        obtain ⟨k, rfl⟩ := parts1 h rfl
        obtain ⟨o, O⟩ := go (by decide)
        exact fun _ => ⟨_, (all_is O k).1⟩
    · rw [if_neg c2]
      exact L
theorem live_after : ∀ (cs : List Call) (m : M), (∀ c ∈ cs, CallOk c) → Live m → Live (after m cs)
  | [], _, _, L => L
  | c :: cs, m, h, L => live_after cs _ (fun d hd => h d (List.mem_cons_of_mem _ hd)) (live_step (h c List.mem_cons_self) L)
section
variable {K : PySem.W.Frag} {mg : Str → Option Value} {base : Heap} {P : Program} {w : World}
/-- a call that is read, apart from what changes -/
def CaFar (H : Hp) (B : List Addr) (F : Addr) (t : Addr) (c : Call) : Prop := ∃ pl, H t = some (.tup [.int (c.1 : Int), .ref pl]) ∧ H pl = some (.lst (nv c.2)) ∧ pl ∉ B ∧ pl ≠ F
theorem sv_top {H : Hp} {s : Addr} {m : M} {z : SA} (S : SvAt K H s m z) {a : Addr} (h : a ∈ z.tops) : ∃ xs, H a = some (.lst xs) := by
  unfold SA.tops at h
  simp only [List.mem_cons, List.not_mem_nil, or_false] at h
  rcases h with h | h | h | h | h <;> rw [h]
  · exact ⟨_, S.asns⟩
  · exact ⟨_, S.exps.at_⟩
  · exact ⟨_, S.imps.at_⟩
  · exact ⟨_, S.prefs.at_⟩
  · exact ⟨_, S.rts.at_⟩
/-- a list apart from the server changes -/
theorem SvAt.far {H : Hp} {s F : Addr} {m : M} {z : SA} {xs : List V} {o : HO} (S : SvAt K H s m z) (hF : H F = some (.lst xs)) (nt : F ∉ z.tops) (nr : F ∉ z.rows) : SvAt K (L2.upd H F o) s m z := by
  have tp : ∀ {a : Addr} {ys : List V}, a ∈ z.tops → H a = some (.lst ys) → L2.upd H F o a = some (.lst ys) := fun {a ys} h e => (upd_ne fun y => nt (by rw [← y]; exact h)).trans e
  have rw' : ∀ {as : List Addr} {g : List (List Nat)}, (∀ a ∈ as, a ∈ z.rows) → Paired (RowAt H) as g → Paired (RowAt (L2.upd H F o)) as g := fun h p => row_upd p fun a ha y => nr (by rw [← y]; exact h a ha)
  exact ⟨(upd_ne (ne_of S.ins hF (by intro z; cases z))).trans S.ins, tp (by simp [SA.tops]) S.asns, ⟨tp (by simp [SA.tops]) S.exps.at_, rw' (fun a h => List.mem_append_left _ h) S.exps.all⟩, ⟨tp (by simp [SA.tops]) S.imps.at_, rw' (fun a h => List.mem_append_right _ (List.mem_append_left _ h)) S.imps.all⟩,
    ⟨tp (by simp [SA.tops]) S.prefs.at_, rw' (fun a h => List.mem_append_right _ (List.mem_append_right _ h)) S.prefs.all⟩, S.rts.upd (fun y => nt (by rw [← y]; simp [SA.tops])) hF, S.nd, S.na⟩
theorem app_of2 {H : Hp} {σ : L2.St} {tx te : TE} {l : Addr} {xs : List V} {y : V} {D : Ends} (hx : Pu tx σ H (.ref l)) (hl : H l = some (.lst xs)) (he : Pu te σ H y) (hz : xs.length < sizeLine) (q : D.nx σ (L2.upd H l (.lst (xs ++ [y])))) : tDrop (tBM K "list" rAppend tx (tCons te tNil)) D σ H :=
  hx _ ⟨.inl ⟨rfl, _, SqL.of hl⟩, he _ ⟨l, xs, y, rfl, rfl, hl, hz, q⟩⟩
theorem ext_of2 {H : Hp} {σ : L2.St} {tx te : TE} {l b : Addr} {xs zs : List V} {D : Ends} (hx : Pu tx σ H (.ref l)) (hl : H l = some (.lst xs)) (he : Pu te σ H (.ref b)) (hb : H b = some (.lst zs)) (hz : xs.length + zs.length ≤ sizeLine) (q : D.nx σ (L2.upd H l (.lst (xs ++ zs)))) : tDrop (tBM K "list" rExtend tx (tCons te tNil)) D σ H :=
  hx _ ⟨.inl ⟨rfl, _, SqL.of hl⟩, he _ ⟨l, b, xs, zs, rfl, rfl, hl, hb, hz, q⟩⟩
theorem CaFar.far {H : Hp} {B : List Addr} {F t : Addr} {c : Call} {xs : List V} {o : HO} (h : CaFar H B F t c) (hF : H F = some (.lst xs)) : CaFar (L2.upd H F o) B F t c := by
  obtain ⟨pl, h1, h2, h3, h4⟩ := h
  exact ⟨pl, (upd_ne (ne_of h1 hF (by intro z; cases z))).trans h1, (upd_ne h4).trans h2, h3, h4⟩
/-! ## answers -/
theorem sc71 : FnScope ["calls", "server", "found", "number", "parts", "reply"] ["calls"] (defScope (top 71)) := ⟨rfl, rfl, rfl, by decide +kernel, rfl, by decide +kernel, by decide +kernel⟩
def spAnswers (K : PySem.W.Frag) : Sp := fun vs H Q _ => ∃ (a : Addr) (cs : List Call), vs = [.ref a] ∧ SqL K H a (nv (flat cs)) ∧ (∀ c ∈ cs, CallOk c) ∧ cs.length ≤ 400 ∧ (told (played M.start cs)).length ≤ 10000000 ∧ DgAt K H ∧ Tabs (tE K) H ∧
  ∀ q H', H' q = some (.lst ((told (played M.start cs)).map V.int)) → Q (.ref q) H'
theorem fn_answers (T : Tx K mg base) {fd : FuncData} (F : FunD K "answers" "answers" (defArgs (top 71)) (defBody (top 71)) (defScope (top 71)) [] [] (ga K "answers") fd) : FnOk P w K mg base CX0 13 (ga K "answers") fd ["calls"] (spAnswers K) := by
  obtain ⟨_, G_init, b_init, k_init⟩ := ok_init (P := P) (w := w) T
  obtain ⟨_, G_calls_in, b_calls_in, k_calls_in⟩ := ok_calls (P := P) (w := w) T
  obtain ⟨_, G_answered, b_answered, k_answered⟩ := ok_answered (P := P) (w := w) T
  refine F.ok sc71 (fun vs H Q E h => ?_) (fun cdv A outer s H vs Q E hr h => ?_)
  · obtain ⟨_, _, rfl, _⟩ := h
    rfl
  · obtain ⟨a, cs, rfl, hs, hok, hn, hbig, d, tabs, q⟩ := h
    refine ⟨_, PSs.nox (pss_cons (ps_set (i := 1) sc71.nd rfl (Or.inl rfl) (pe_make0 T.mkr G_init (hr.mono (by decide)) (by rfl) (T.glo "Server" (by decide +kernel)) b_init .nil pass0))
      (pss_cons (ps_set (i := 2) sc71.nd rfl (Or.inl rfl) (pe_lst pa_nil))
      (pss_cons (ps_for PassesOwn.never rfl (pi_list (pe_call G_calls_in (hr.mono (by decide)) (by rfl) (T.glo "calls_in" (by decide +kernel)) k_calls_in b_calls_in .nil pass0 (pa_cons (pv 0) pa_nil))) (pg_tup rfl (pgs_cons (pg_name (i := 3) sc71.nd rfl (Or.inl rfl)) (pgs_cons (pg_name (i := 4) sc71.nd rfl (Or.inl rfl)) pgs_nil))) (pss_cons (ps_set (i := 5) sc71.nd rfl (Or.inl rfl) (pe_call G_answered (hr.mono (by decide)) (by rfl) (T.glo "answered" (by decide +kernel)) k_answered b_answered .nil pass0 (pa_cons (pv 1) (pa_cons (pv 3) (pa_cons (pv 4) pa_nil)))))
      (pss_cons (ps_expr (pe_bm PySem.F.plainAttrs_list PySem.F.slot_list_append PySem.F.type_list_append mt_append (pv 2) (pa_cons (pe_callB call_len_seq (by rfl) (T.free "len" (by decide +kernel)) boot_len (pa_cons (pv 5) pa_nil)) pa_nil)))
      (pss_one (ps_expr (pe_bm PySem.F.plainAttrs_list PySem.F.slot_list_extend PySem.F.type_list_extend mt_extend (pv 2) (pa_cons (pv 5) pa_nil)))))))
      (pss_one (ps_ret (pv 2)))))), ?_⟩
    -- the server
    refine st_setG fun sv dx hsv hdx hne => ?_
    have k0 : Kt K H (upd (upd H dx (.own sv)) sv (.ins (cS K) dx [])) := (Kt.new hdx).trans (Kt.new ((upd_ne hne.symm).trans hsv))
    refine ⟨sv, dx, rfl, upd_same, fun H1 z1 b1 S1 hz1 => ⟨rfl, ?_⟩⟩
    have hB0 : ∀ b ∈ [sv], (∃ xs, (upd (upd H dx (.own sv)) sv (.ins (cS K) dx [])) b = some (.lst xs)) ∨ ∃ C dx' fs, (upd (upd H dx (.own sv)) sv (.ins (cS K) dx [])) b = some (.ins C dx' fs) := fun b hb => .inr ⟨cS K, dx, [], by rw [List.mem_singleton.mp hb]; exact upd_same⟩
    have d1 : DgAt K H1 := (d.keep k0).keepB b1 hB0
    have tabs1 : Tabs (tE K) H1 := b1.tb (k0.tb tabs)
    have hs1 : SqL K H1 a (nv (flat cs)) := by
      rcases k0.seq hs with (h | ⟨o, h⟩) | h
      · refine .inl (.inl (b1.lst (fun y => ?_) h))
        rw [List.mem_singleton.mp y, upd_same] at h
        cases h
      · refine .inl (.inr ⟨o, b1.ke _ _ (fun y => ?_) h fun _ z => by cases z⟩)
        rw [List.mem_singleton.mp y, upd_same] at h
        cases h
      · exact .inr h
    -- found
    refine st_setG (lst_of pa_n (by decide) fun F0 hF => ?_)
    have kF : Kt K H1 (upd H1 F0 (.lst [])) := Kt.new hF
    have hF2 : (upd H1 F0 (.lst [])) F0 = some (.lst []) := upd_same
    generalize upd H1 F0 (.lst []) = H2 at kF hF2 ⊢
    have S2 := S1.keep kF
    refine call_of (pa_c (pu_var rfl) pa_n) ⟨a, cs, rfl, kF.seq hs1, hok, hn, fun q1 ts H3 k3 n3 h3 hp3 => ⟨q1, rfl, ⟨_, SqL.of h3⟩, ?_⟩⟩
    have S3 := S2.keep k3
    have hF3 := k3.lst hF2
    have nq : q1 ≠ F0 := (n3.ne hF2 fun _ z => by cases z).symm
    have hFs : F0 ≠ sv := fun y => by
      have h := S3.ins
      rw [← y, hF3] at h
      cases h
    have hft : F0 ∉ z1.tops := fun y => by
      obtain ⟨xs, hx⟩ := sv_top S1 y
      rw [hF] at hx
      cases hx
    have far3 : Paired (CaFar H3 (sv :: z1.rows) F0) ts cs := pair_mono hp3 fun t c ⟨pl, h⟩ => ⟨pl, h.tup, h.lst, (fun y => by
        rw [hz1] at y
        have h1 := S3.ins
        rw [← List.mem_singleton.mp y, h.lst] at h1
        cases h1), (h.new.ne hF2 fun _ z => by cases z).symm⟩
    have hqs : q1 ∉ sv :: z1.rows := fun y => by
      rw [hz1] at y
      have h1 := S3.ins
      rw [← List.mem_singleton.mp y, h3] at h1
      cases h1
    have hFr : F0 ∉ sv :: z1.rows := fun y => by
      rw [hz1] at y
      exact hFs (List.mem_singleton.mp y)
    have hlen := pair_len hp3
    refine for_it (walk_list (xs := ts.map V.ref)) (fun i σ H4 => ∃ v3 v4 v5 z, σ = [some (.ref a), some (.ref sv), some (.ref F0), v3, v4, v5] ∧ SvAt K H4 sv (after M.start (cs.take i)) z ∧ Tabs (tE K) H4 ∧ DgAt K H4 ∧ H4 F0 = some (.lst ((told (played M.start (cs.take i))).map V.int)) ∧
        H4 q1 = some (.lst (ts.map V.ref)) ∧ F0 ∉ sv :: z.rows ∧ F0 ∉ z.tops ∧ q1 ∉ sv :: z.rows ∧ Paired (CaFar H4 (sv :: z.rows) F0) ts cs)
      ⟨none, none, none, z1, rfl, S3, k3.tb (kF.tb tabs1), (d1.keep kF).keep k3, hF3, h3, hFr, hft, hqs, far3⟩ ?_ ?_ ?_
    · rintro i σ H4 _ ⟨v3, v4, v5, z, rfl, S4, t4, d4, f4, q4, _⟩
      exact SqL.of q4
    · rintro i x σ H4 H4' hi ⟨v3, v4, v5, z, rfl, S4, t4, d4, f4, q4, nF, nT, nq1, far⟩ ⟨rfl, hx⟩
      rw [List.getElem?_map] at hx
      cases e : ts[i]? with
      | none =>
        rw [e] at hx
        cases hx
      | some t =>
        rw [e] at hx
        obtain rfl : V.ref t = x := Option.some.inj hx
        obtain ⟨c, hc, pl, c1, c2, c3, c4⟩ := pair_getL far e
        have okc := hok c (List.mem_of_getElem? hc)
        have live : Live (after M.start (cs.take i)) := live_after _ _ (fun c h => hok c (List.mem_of_mem_take h)) live_start
        have enext : cs.take (i + 1) = cs.take i ++ [c] := take_next hc
        have etold : told (played M.start (cs.take (i + 1))) = told (played M.start (cs.take i)) ++ (((answered (after M.start (cs.take i)) c).2.length : Int) :: (answered (after M.start (cs.take i)) c).2) := by
          rw [enext, played_app, told_app]
        have ebig : (told (played M.start (cs.take (i + 1)))).length ≤ 10000000 := Nat.le_trans (told_le _) hbig
        have eaft : after M.start (cs.take (i + 1)) = (answered (after M.start (cs.take i)) c).1 := by rw [enext, after_app]
        refine ⟨t, _, rfl, SqT.of c1, rfl, _, _, rfl, _, _, rfl, rfl, ?_⟩
        refine st_setG (call_of (pa_c (pu_var rfl) (pa_c (pu_var rfl) (pa_c (pu_var rfl) pa_n))) ⟨sv, pl, after M.start (cs.take i), z, c.1, c.2, rfl, d4, S4, live, t4, c2, okc, fun q5 H5 z5 b5 S5 r5 n5 h5 => ?_⟩)
        rw [← eaft] at S5
        generalize hans : (answered (after M.start (cs.take i)) c).2 = ans at h5 etold
        have big2 : (told (played M.start (cs.take i))).length + (1 + ans.length) ≤ 10000000 := by
          rw [etold, List.length_append, List.length_cons] at ebig
          omega
        have far_of : ∀ {p : Addr} {xs : List V}, H4' p = some (.lst xs) → p ∉ sv :: z.rows → p ∉ sv :: z5.rows := fun {p xs} hp np y => by
          rcases List.mem_cons.mp y with y | y
          · exact np (by rw [y]; exact List.mem_cons_self)
          · rcases r5.1 p y with y | y
            · exact np (List.mem_cons_of_mem _ y)
            · exact y.ne hp (fun _ z => by cases z) rfl
        have f5 := b5.lst nF f4
        have q5' := b5.lst nq1 q4
        have nq5 : q5 ≠ F0 := (n5.ne f4 fun _ z => by cases z).symm
        have far5 : Paired (CaFar H5 (sv :: z5.rows) F0) ts cs := pair_mono far fun t c ⟨pl, g1, g2, g3, g4⟩ => ⟨pl, b5.tup (fun y => by
            rcases sv_B S4 t y with ⟨_, e⟩ | ⟨_, _, _, e⟩ <;> rw [g1] at e <;> cases e) g1, b5.lst g3 g2, far_of g2 g3, g4⟩
        have d5 := d4.keepB b5 (sv_B S4)
        have t5 := b5.tb t4
        have nF5 := far_of f4 nF
        have nqq := far_of q4 nq1
        have nT5 : F0 ∉ z5.tops := fun y => by
          rcases r5.2 F0 y with y | y
          · exact nT y
          · exact y.ne f4 (fun _ z => by cases z) rfl
        have nR5 : F0 ∉ z5.rows := fun y => nF5 (List.mem_cons_of_mem _ y)
        have hB : ∀ {H6 : Hp} {xs : List V}, H6 F0 = some (.lst xs) → ∀ b ∈ [F0], (∃ xs, H6 b = some (.lst xs)) ∨ ∃ C dx fs, H6 b = some (.ins C dx fs) := fun {H6 xs} h b hb => .inl ⟨xs, by rw [List.mem_singleton.mp hb]; exact h⟩
        have hl1 : ((told (played M.start (cs.take i))).map V.int).length = (told (played M.start (cs.take i))).length := List.length_map ..
        have hl2 : (ans.map V.int).length = ans.length := List.length_map ..
        -- the two additions
        refine app_of2 (pu_var (i := 2) rfl) f5 (pu_len (pu_var (i := 5) rfl) (.inl (SqL.of h5))) (Nat.lt_of_le_of_lt (show _ ≤ 10000000 by omega) (show 10000000 < sizeLine by decide)) ?_
        have b6 : Kb K [F0] H5 (upd H5 F0 (.lst ((told (played M.start (cs.take i))).map V.int ++ [.int ((ans.map V.int).length : Int)]))) := Kb.put (by simp) (.inl ⟨_, f5⟩)
        have S6 := S5.far (o := .lst ((told (played M.start (cs.take i))).map V.int ++ [.int ((ans.map V.int).length : Int)])) f5 nT5 nR5
        have d6 := d5.keepB b6 (hB f5)
        have t6 := b6.tb t5
        have q6 := b6.lst (by simpa using nq) q5'
        have h6 := b6.lst (by simpa using nq5) h5
        have far6 := pair_mono far5 fun t c h => h.far (o := .lst ((told (played M.start (cs.take i))).map V.int ++ [.int ((ans.map V.int).length : Int)])) f5
        have f6 : (upd H5 F0 (.lst ((told (played M.start (cs.take i))).map V.int ++ [.int ((ans.map V.int).length : Int)]))) F0 = some (.lst ((told (played M.start (cs.take i))).map V.int ++ [.int ((ans.map V.int).length : Int)])) := upd_same
        generalize upd H5 F0 (.lst ((told (played M.start (cs.take i))).map V.int ++ [.int ((ans.map V.int).length : Int)])) = H6 at S6 d6 t6 q6 h6 far6 f6 ⊢
        refine ext_of2 (pu_var (i := 2) rfl) f6 (pu_var (i := 5) rfl) h6 (Nat.le_trans (show _ ≤ 10000000 by rw [List.length_append, List.length_singleton]; omega) (show 10000000 ≤ sizeLine by decide)) ?_
        have b7 : Kb K [F0] H6 (upd H6 F0 (.lst (((told (played M.start (cs.take i))).map V.int ++ [.int ((ans.map V.int).length : Int)]) ++ ans.map V.int))) := Kb.put (by simp) (.inl ⟨_, f6⟩)
        refine ⟨_, _, _, z5, rfl, S6.far f6 nT5 nR5, b7.tb t6, d6.keepB b7 (hB f6), ?_, b7.lst (by simpa using nq) q6, nF5, nT5, nqq, pair_mono far6 fun t c h => h.far f6⟩
        rw [upd_same, etold, List.map_append, List.map_cons, hl2, List.append_assoc]
        rfl
    · rintro σ H4 ⟨v3, v4, v5, z, rfl, S4, t4, d4, f4, _⟩
      rw [List.length_map, hlen, List.take_length] at f4
      exact st_ret (pu_var (i := 2) rfl) (q F0 H4 f4)
end
end Rs

/-! # The end of the row: tables of code objects, two dicts of the top, the arguments -/
namespace Rs
open PySem PySem.Spec L2 LamX PyProof.Rows
open PySem.W (Codec OpenSpec WData WellAll ReadsW)
/-- a dict that the top has left -/
structure DctB (P : Program) (w : World) (K : PySem.W.Frag) (h : Heap) (a : Addr) (o : Obj) (kvs : List (Key × V)) : Prop where
  out : K.lookup a = none
  low : 3 < a
  obj : h.get? a = some o
  dat : ∃ es ep, o.data = .dict es ep
  ok : ∀ H, ObjOk P w H h a (.dK kvs)
/-- what is tracked at the start -/
def allH (T a1 a2 : Addr) (o1 o2 : Obj) (k1 k2 : List (Key × V)) (H0 : Hp) : Hp := fun b =>
  if b = T then some (.tbl #[]) else if b = a1 then some (.frz o1 (.dK k1)) else if b = a2 then some (.frz o2 (.dK k2)) else H0 b
section
variable {P : Program} {w : World} {K : PySem.W.Frag} {h : Heap} {A : List Addr} {T a1 a2 : Addr} {o1 o2 : Obj} {k1 k2 : List (Key × V)} {H0 : Hp}
theorem allH_T : allH T a1 a2 o1 o2 k1 k2 H0 T = some (.tbl #[]) := if_pos rfl
theorem allH_1 (n : a1 ≠ T) : allH T a1 a2 o1 o2 k1 k2 H0 a1 = some (.frz o1 (.dK k1)) := (if_neg n).trans (if_pos rfl)
theorem allH_2 (n : a2 ≠ T) (n1 : a2 ≠ a1) : allH T a1 a2 o1 o2 k1 k2 H0 a2 = some (.frz o2 (.dK k2)) := (if_neg n).trans ((if_neg n1).trans (if_pos rfl))
theorem allH_o {b : Addr} (n : b ≠ T) (n1 : b ≠ a1) (n2 : b ≠ a2) : allH T a1 a2 o1 o2 k1 k2 H0 b = H0 b := (if_neg n).trans ((if_neg n1).trans (if_neg n2))
theorem allH_cases {b : Addr} {u : HO} (e : allH T a1 a2 o1 o2 k1 k2 H0 b = some u) : (b = T ∧ u = .tbl #[]) ∨ (b = a1 ∧ u = .frz o1 (.dK k1)) ∨ (b = a2 ∧ u = .frz o2 (.dK k2)) ∨ H0 b = some u := by
  by_cases n : b = T
  · rw [n, allH_T] at e
    exact .inl ⟨n, (Option.some.inj e).symm⟩
  · by_cases n1 : b = a1
    · have e2 := allH_1 (a1 := a1) (a2 := a2) (o1 := o1) (o2 := o2) (k1 := k1) (k2 := k2) (H0 := H0) (n1 ▸ n)
      rw [n1, e2] at e
      exact .inr (.inl ⟨n1, (Option.some.inj e).symm⟩)
    · by_cases n2 : b = a2
      · have e2 := allH_2 (a1 := a1) (a2 := a2) (o1 := o1) (o2 := o2) (k1 := k1) (k2 := k2) (H0 := H0) (n2 ▸ n) (n2 ▸ n1)
        rw [n2, e2] at e
        exact .inr (.inr (.inl ⟨n2, (Option.some.inj e).symm⟩))
      · rw [allH_o n n1 n2] at e
        exact .inr (.inr (.inr e))
end
theorem spec_callX {P : Program} {w : World} {K : PySem.W.Frag} {mg mb : Str → Option Value} {CX : CXT} {k : Nat} {fa c T a1 a2 : Addr} {o1 o2 : Obj} {k1 k2 : List (Key × V)} {fd : FuncData} {ps : List Str} {sp : Sp} {s₁ : Shared} {vals : List Value} {ds : List WData} {R : PySem.W.WRecords}
    {cl : Str → Option Addr} {d0 : WData} (KX : K.In s₁.heap) (hns : s₁.heap.Ns mainGlobals mg) (hb : s₁.heap.Ns builtinsNs mb) (hbb : ∀ x : Str, x ≠ "__name__" → mb x = bootBuiltins x) (hlim : s₁.heap.NoLimit) (hg : s₁.gens = #[])
    (hT : s₁.heap.get? T = some { cls := .none, data := .fields #[] }) (nT : K.lookup T = none) (C : PySem.W.CodeHd s₁.heap c T) (D1 : DctB P w K s₁.heap a1 o1 k1) (D2 : DctB P w K s₁.heap a2 o2 k2) (n12 : a2 ≠ a1)
    (lib : ∃ (m0 : Addr) (om : Obj), mg "__builtins__" = some (.ref m0) ∧ m0 ≠ builtinsNs ∧ s₁.heap.get? m0 = some om ∧ om.cls = .type "module" ∧ om.dict = some builtinsNs ∧ om.data = .plain)
    (args : WellAll w.params s₁.heap vals ds) (plain : plWs ds = true) (small : ∀ d ∈ ds, d.weight ≤ 1048576) (room : Room k callerA)
    (F : ∀ base : Heap, K.In base → base.Ns mainGlobals mg → TabB base mg c T → FnOk P w K mg base CX k fa fd ps sp) (hbind : ∀ (s : Shared) (us : List Value), us.length = ps.length → BindsTo s fd ⟨us, []⟩ (ps.zip us)) (hlen : ds.length = ps.length)
    (hsp : ∀ (H0 H : Hp) (xs : List V), (∀ b u, H0 b = some u → H b = some u) → H T = some (.tbl #[]) → Rd H a1 (.dK k1) → Rd H a2 (.dK k2) → DwAll K H0 xs ds → sp xs H (fun v H' => Dw K H' v d0) fun _ _ _ => False)
    (noX : ∀ H e t, CX [] H s₁ (fun _ _ _ => False) e t → False) :
    codeAny (model P w) callerA (.call (.ref fa) ⟨vals, []⟩) (fun r t => ∃ u as, r = .ok (.ret u) ∧ ReadsW R cl t.heap u d0 as ∧ OldK s₁.heap t.heap ∧ t.os = s₁.os ∧ AllBare t.gens) s₁ := by
  obtain ⟨A, own, ar⟩ := area_all ds vals args plain small
  -- the arguments lie apart from the rest
  have seqOf : ∀ {b u}, argH K s₁.heap A b = some u → ∃ (q : Value) (us : List Value), s₁.heap.get? b = some { cls := q, data := .seq us.toArray } ∧ ∃ o v, u = .frz o v := fun e => by
    obtain ⟨_, us, _, _, ⟨e1, e2⟩ | ⟨e1, e2⟩⟩ := argH_is ar e
    · exact ⟨_, us, e1, _, _, e2⟩
    · exact ⟨_, us, e1, _, _, e2⟩
  have apart : ∀ {b u o}, argH K s₁.heap A b = some u → s₁.heap.get? b = some o → ∃ us : List Value, o.data = .seq us.toArray := fun e g => by
    obtain ⟨q, us, e1, _⟩ := seqOf e
    rw [g] at e1
    exact ⟨us, congrArg Obj.data (Option.some.inj e1)⟩
  have bT : ∀ {b u}, argH K s₁.heap A b = some u → b ≠ T := fun e z => by
    obtain ⟨us, h⟩ := apart e (z ▸ hT)
    cases h
  have b1 : ∀ {b u}, argH K s₁.heap A b = some u → b ≠ a1 := fun e z => by
    obtain ⟨us, h⟩ := apart e (z ▸ D1.obj)
    obtain ⟨es, ep, h2⟩ := D1.dat
    rw [h] at h2
    cases h2
  have b2 : ∀ {b u}, argH K s₁.heap A b = some u → b ≠ a2 := fun e z => by
    obtain ⟨us, h⟩ := apart e (z ▸ D2.obj)
    obtain ⟨es, ep, h2⟩ := D2.dat
    rw [h] at h2
    cases h2
  have t1 : a1 ≠ T := fun z => by
    obtain ⟨es, ep, h2⟩ := D1.dat
    have g := D1.obj
    rw [z, hT] at g
    cases g
    cases h2
  have t2 : a2 ≠ T := fun z => by
    obtain ⟨es, ep, h2⟩ := D2.dat
    have g := D2.obj
    rw [z, hT] at g
    cases g
    cases h2
  have hS := dw_all KX ar ds vals args plain own
  have hV := vals_toV own
  have hA : ∀ b u, argH K s₁.heap A b = some u → ∀ H, ObjOk P w H s₁.heap b u := fun b u e H => by
    have x := argH_ok (P := P) (w := w) ar b u e
    obtain ⟨_, us, _, _, ⟨_, rfl⟩ | ⟨_, rfl⟩⟩ := argH_is ar e
    · exact x
    · exact x
  have nK : ∀ b u, argH K s₁.heap A b = some u → K.lookup b = none := fun b u q => (argH_is ar q).1
  have frA : ∀ {b u}, argH K s₁.heap A b = some u → ∃ o v, u = .frz o v := fun e => (seqOf e).elim fun _ h => h.elim fun _ h => h.2
  generalize argH K s₁.heap A = H0 at seqOf apart bT b1 b2 hS hA nK frA
  -- all that is tracked
  have grow : ∀ b u, H0 b = some u → allH T a1 a2 o1 o2 k1 k2 H0 b = some u := fun b u e => (allH_o (bT e) (b1 e) (b2 e)).trans e
  have all : ∀ {b u}, allH T a1 a2 o1 o2 k1 k2 H0 b = some u → K.lookup b = none ∧ ((b = T ∧ u = .tbl #[]) ∨ ∃ o v, u = .frz o v) := fun {b u} e => by
    rcases allH_cases e with ⟨z, y⟩ | ⟨z, y⟩ | ⟨z, y⟩ | e
    · exact ⟨z ▸ nT, .inl ⟨z, y⟩⟩
    · exact ⟨z ▸ D1.out, .inr ⟨_, _, y⟩⟩
    · exact ⟨z ▸ D2.out, .inr ⟨_, _, y⟩⟩
    · exact ⟨nK _ _ e, .inr (frA e)⟩
  have hok : HOk P w (allH T a1 a2 o1 o2 k1 k2 H0) s₁.heap := fun b u e => by
    rcases allH_cases e with ⟨rfl, rfl⟩ | ⟨rfl, rfl⟩ | ⟨rfl, rfl⟩ | e0
    · exact hT
    · exact ⟨D1.obj, D1.ok _⟩
    · exact ⟨D2.obj, D2.ok _⟩
    · exact hA b u e0 _
  have e1 := allH_1 (a1 := a1) (a2 := a2) (o1 := o1) (o2 := o2) (k1 := k1) (k2 := k2) (H0 := H0) t1
  have e2 := allH_2 (a1 := a1) (a2 := a2) (o1 := o1) (o2 := o2) (k1 := k1) (k2 := k2) (H0 := H0) t2 n12
  have eT : allH T a1 a2 o1 o2 k1 k2 H0 T = some (.tbl #[]) := allH_T
  -- what is not tracked
  have offT : ∀ {b}, b ≠ T → b ≠ a1 → b ≠ a2 → H0 b = none → allH T a1 a2 o1 o2 k1 k2 H0 b = none := fun p q r e => (allH_o p q r).trans e
  have noSeq : ∀ {b : Addr} {o : Obj}, s₁.heap.get? b = some o → (∀ us : List Value, o.data ≠ .seq us.toArray) → H0 b = none := fun {b o} g n => by
    cases q : H0 b with
    | none => rfl
    | some u =>
      obtain ⟨us, z⟩ := apart q g
      exact (n us z).elim
  have nsOff : ∀ {b : Addr} {m : Str → Option Value}, b ≤ 3 → s₁.heap.Ns b m → allH T a1 a2 o1 o2 k1 k2 H0 b = none := fun {b m} hb ⟨o, es, ep, g, d, _⟩ => by
    refine offT (fun z => ?_) (fun z => ?_) (fun z => ?_) (noSeq g fun us z => ?_)
    · rw [z, hT] at g
      cases g
      cases d
    · exact Nat.not_le_of_lt (z ▸ D1.low) hb
    · exact Nat.not_le_of_lt (z ▸ D2.low) hb
    · rw [d] at z
      cases z
  generalize hall : allH T a1 a2 o1 o2 k1 k2 H0 = H at grow all hok e1 e2 eT offT nsOff
  have nsK : ∀ {b : Addr} {m : Str → Option Value}, b ≤ 3 → s₁.heap.Ns b m → (hidT s₁.heap H).Ns b m := fun {b m} hb n => by
    have off := nsOff hb n
    obtain ⟨o, es, ep, g, d, r⟩ := n
    exact ⟨o, es, ep, hidT_get g off, d, r⟩
  have offK : ∀ b o, K.lookup b = some o → H b = none := fun b o e => by
    cases q : H b with
    | none => rfl
    | some u =>
      rw [(all q).1] at e
      cases e
  have hKb : K.In (hidT s₁.heap H) := fun b o e => hidT_get (KX b o e) (offK b o e)
  have hGb := nsK (by decide) hns
  have hM : L2.Mod K mg (hidT s₁.heap H) := ⟨hKb, hGb, ⟨mb, nsK (by decide) hb, hbb⟩, hlim.elim fun mc h => ⟨mc, nsK (by decide) h.1, h.2⟩⟩
  have hTab : TabB (hidT s₁.heap H) mg c T := by
    refine ⟨?_, ?_, fun z => ?_⟩
    · obtain ⟨o, us, file, tf, flags, tg, inF, text, tt, g, r1, r2, r⟩ := C
      have nc : us[11]? = some (.ref T) := r.1
      refine ⟨o, us, file, tf, flags, tg, inF, text, tt, hidT_get g (offT r.2.2.2.2.2.2 (fun z => ?_) (fun z => ?_) (noSeq g fun us2 z => ?_)), r1, r2, r⟩
      · obtain ⟨es, ep, d⟩ := D1.dat
        have g1 := D1.obj
        rw [← z, g] at g1
        cases g1
        rw [r2] at d
        cases d
      · obtain ⟨es, ep, d⟩ := D2.dat
        have g1 := D2.obj
        rw [← z, g] at g1
        cases g1
        rw [r2] at d
        cases d
      · rw [r2] at z
        cases z
    · obtain ⟨bm, ob, m1, m2, m3, m4, m5, m6⟩ := lib
      have dif : ∀ {b : Addr} {o : Obj}, s₁.heap.get? b = some o → o.data ≠ .plain → bm ≠ b := fun {b o} g n z => by
        rw [← z, m3] at g
        cases g
        exact n m6
      have dT : bm ≠ T := dif hT fun z => by cases z
      have dG : bm ≠ mainGlobals := by
        obtain ⟨o, es, ep, g, d, _⟩ := hns
        exact dif g fun z => by rw [d] at z; cases z
      have dA : bm ≠ a1 := by
        obtain ⟨es, ep, d⟩ := D1.dat
        exact dif D1.obj fun z => by rw [d] at z; cases z
      have dB : bm ≠ a2 := by
        obtain ⟨es, ep, d⟩ := D2.dat
        exact dif D2.obj fun z => by rw [d] at z; cases z
      exact ⟨bm, ob, m1, m2, dG, dT, hidT_get m3 (offT dT dA dB (noSeq m3 fun us z => by rw [m6] at z; cases z)), m4, m5, m6⟩
    · obtain ⟨o, es, ep, g, d, _⟩ := hns
      rw [z, hT] at g
      cases g
      cases d
  have env0 : Env0 P w K mg (hidT s₁.heap H) callerA [] s₁ H := ⟨rfl, hM, fun b o e => of_hidT e, Nat.le_of_eq (hidT_size _ _), trivial, fun b hb => (List.not_mem_nil hb).elim, hok, .of_eq hg⟩
  have hl : vals.length = ps.length := (wellAll_len args).trans hlen
  have prom := hsp H0 H _ grow eT (.inr ⟨_, e1⟩) (.inr ⟨_, e2⟩) hS
  refine codeAny_mono ((F _ hKb hGb hTab).run callerA [] s₁ H ⟨vals, []⟩ vals (vals.map toV) _ _ room env0 (hbind s₁ vals hl) hV prom) fun r s' x => ?_
  match r, x with
  | .error e, x => exact (noX H e s' x).elim
  | .ok (.ret u), x =>
    obtain ⟨v, H', sameOs, bare, un, hok', r', q⟩ := x
    -- all but the table stands
    have kept : ∀ b o, b ≠ T → s₁.heap.get? b = some o → s'.heap.get? b = some o := fun b o nb g => by
      cases z : H b with
      | none => exact un.keep b o g z List.not_mem_nil List.not_mem_nil
      | some u2 =>
        obtain ⟨_, ⟨y, _⟩ | ⟨o3, v3, y⟩⟩ := all z
        · exact (nb y).elim
        · rw [y] at z
          have p1 := (hok b _ z).1
          rw [g] at p1
          rw [Option.some.inj p1]
          exact (hok' b _ (un.frzs b _ _ z)).1
    obtain ⟨more, hm⟩ := un.tbls T #[] eT
    have hm2 : s'.heap.get? T = some { cls := .none, data := .fields (#[] ++ more) } := hok' T _ hm
    have KX' : K.In s'.heap := fun b o e => kept b o (fun z => by rw [z, nT] at e; cases e) (KX b o e)
    have told0 := Dw.reads (R := R) (cl := cl) hok' KX' d0 v u q r'
    refine told0.elim fun as hrd => ⟨u, as, rfl, hrd, ⟨fun b o g => ?_, fun b o g => ?_⟩, sameOs, bare⟩
    · by_cases y : b = T
      · subst y
        rw [hT] at g
        cases g
        exact .inr (.inl ⟨(C.tab hT).isCodeTable, rfl, #[], more, rfl, hm2⟩)
      · exact .inl (kept b o y g)
    · by_cases y : b = T
      · exact ⟨_, y ▸ hm2⟩
      · exact ⟨o, kept b o y g⟩
end Rs

/-! # What is looked at behind the top, and what it tells -/
namespace Rs
open PySem PySem.Spec L2 LamX PyProof.Rows
/-! ## which part of the heap -/
def dVals (g : Addr → Option Obj) (a : Addr) : List Addr := match g a with
  | some ⟨_, _, .dict es _, _⟩ => es.toList.flatMap fun e => He.refV e.val
  | _ => []
def codeOf (g : Addr → Option Obj) (a : Addr) : List Addr := match g a with
  | some ⟨_, _, .func fd, _⟩ => He.refV fd.code
  | _ => []
def deepOf (g : Addr → Option Obj) (a : Addr) : List Addr := match g a with
  | some ⟨_, _, .func fd, _⟩ => He.refV fd.code
  | some ⟨_, _, .cls cd, _⟩ => cd.ns :: (dVals g cd.ns ++ (dVals g cd.ns).flatMap (codeOf g))
  | _ => []
def areaOf (g : Addr → Option Obj) : List Addr := mainGlobals :: (dVals g mainGlobals ++ (dVals g mainGlobals).flatMap (deepOf g))
def fragAll (g : Addr → Option Obj) : PySem.W.Frag := He.frG g (areaOf g)
def outs (K : PySem.W.Frag) : List Addr := [tbE K, ga K "DEEDS", ga K "QUESTIONS"]
def fragOf (g : Addr → Option Obj) : PySem.W.Frag := He.frG g ((areaOf g).filter fun a => !((outs (fragAll g)).contains a))
/-! ## the facts -/
def codeB (K : PySem.W.Frag) : Bool := match K.lookup (ga K "eligible_ones") with
  | some ⟨_, _, .func fd, _⟩ => (match fd.code with
    | .ref c => (match K.lookup c with
      | some ⟨.type n, _, .fields vs, _⟩ => decide (n = "code") && ((match (vs[11]? : Option Value) with
        | some (Value.ref P) => !(c == P)
        | _ => false) && ((match vs.getD 18 .none with
        | .str _ _ => true
        | _ => false) && ((match vs.getD 7 .none with
        | .int _ _ => true
        | _ => false) && ((match vs.getD 9 .none with
        | .bool _ => true
        | _ => false) && (match vs.getD 10 .none with
        | .int _ _ => true
        | _ => false)))))
      | _ => false)
    | _ => false)
  | _ => false
def factB (K : PySem.W.Frag) : Bool := (gloN.all fun x => (He.Fa.glo x).ok K) && ((freeN.all fun x => (He.Fa.free x).ok K) && ((intN.all fun p => (He.Fa.int p.1 p.2).ok K) && ((He.Fa.cls "Server").ok K && ((attN.all fun x => (He.Fa.noat "Server" x).ok K) && ((metN.all fun x => (He.Fa.meth "Server" x).ok K) &&
  ((He.Fa.mkr "Server").ok K && (He.tupB K "SIZES" (sizesL.map He.Dv.int) && (He.tupB K "PART_COUNTS" (countsL.map He.Dv.int) && (codeB K && fns.all fun d => d.ok K)))))))))
def tabB (o : Option Obj) : Bool := match o with
  | some ⟨.none, none, .fields vs, sl⟩ => vs.toList.isEmpty && sl.toList.isEmpty
  | _ => false
def pairB : List DictEntry → List (Key × V) → Bool
  | [], [] => true
  | e :: es, (.inl i, v) :: kvs => (match e.key with
    | .int j _ => decide (j = i)
    | _ => false) && (decide (e.hash = hashInt i) && (He.relB v e.val && pairB es kvs))
  | _, _ => false
def dctB (o : Option Obj) (kvs : List (Key × V)) : Bool := match o with
  | some ⟨.type c, none, .dict es _, sl⟩ => decide (c = "dict") && (sl.toList.isEmpty && pairB es.toList kvs)
  | _ => false
def outB (K : PySem.W.Frag) (a : Addr) : Bool := (K.lookup a).isNone && Nat.blt 3 a
def heapB (g : Addr → Option Obj) (K : PySem.W.Frag) : Bool := tabB (g (tbE K)) && ((K.lookup (tbE K)).isNone && (dctB (g (ga K "DEEDS")) (deedK K) && (dctB (g (ga K "QUESTIONS")) (queK K) && (outB K (ga K "DEEDS") && (outB K (ga K "QUESTIONS") && !(ga K "QUESTIONS" == ga K "DEEDS"))))))
abbrev Seen : Type := Bool × List He.FnW
def seenK (g : Addr → Option Obj) (K : PySem.W.Frag) : Seen := (factB K && heapB g K, fns.map fun d => He.fnW K d.at_)
def seenG (g : Addr → Option Obj) : Seen := seenK g (fragOf g)
def seenV : Seen := (true, fns.map He.DefD.val)
/-- what is known of the heap from then on -/
def KnownAt (h : Heap) : Prop := ∃ K : PySem.W.Frag, K.In h ∧ factB K = true ∧ fns.map (fun d => He.fnW K d.at_) = fns.map He.DefD.val ∧ ∃ oT o1 o2, h.get? (tbE K) = some oT ∧ h.get? (ga K "DEEDS") = some o1 ∧ h.get? (ga K "QUESTIONS") = some o2 ∧
  tabB (some oT) = true ∧ (K.lookup (tbE K)).isNone = true ∧ dctB (some o1) (deedK K) = true ∧ dctB (some o2) (queK K) = true ∧ outB K (ga K "DEEDS") = true ∧ outB K (ga K "QUESTIONS") = true ∧ ga K "QUESTIONS" ≠ ga K "DEEDS"
theorem known_of {s : Shared} (e : seenG s.heap.get? = seenV) : KnownAt s.heap := by
  have e1 : (factB (fragOf s.heap.get?) && heapB s.heap.get? (fragOf s.heap.get?)) = true := congrArg (fun z : Seen => z.1) e
  have e2 : fns.map (fun d => He.fnW (fragOf s.heap.get?) d.at_) = fns.map He.DefD.val := congrArg (fun z : Seen => z.2) e
  have hK : (fragOf s.heap.get?).In s.heap := He.frG_in
  generalize fragOf s.heap.get? = K at e1 e2 hK
  obtain ⟨f, e1⟩ := He.ba e1
  obtain ⟨t1, e1⟩ := He.ba e1
  obtain ⟨t2, e1⟩ := He.ba e1
  obtain ⟨t3, e1⟩ := He.ba e1
  obtain ⟨t4, e1⟩ := He.ba e1
  obtain ⟨t5, e1⟩ := He.ba e1
  obtain ⟨t6, t7⟩ := He.ba e1
  have n7 : ga K "QUESTIONS" ≠ ga K "DEEDS" := fun z => by
    rw [z, beq_self_eq_true] at t7
    cases t7
  cases q1 : s.heap.get? (tbE K) with
  | none =>
    rw [q1] at t1
    cases t1
  | some oT =>
    cases q2 : s.heap.get? (ga K "DEEDS") with
    | none =>
      rw [q2] at t3
      cases t3
    | some o1 =>
      cases q3 : s.heap.get? (ga K "QUESTIONS") with
      | none =>
        rw [q3] at t4
        cases t4
      | some o2 =>
        rw [q1] at t1
        rw [q2] at t3
        rw [q3] at t4
        exact ⟨K, hK, f, e2, oT, o1, o2, q1, q2, q3, t1, t2, t3, t4, t5, t6, n7⟩
theorem known_keeps {h h' : Heap} (x : KnownAt h) (k : ∀ b o, h.get? b = some o → h'.get? b = some o) : KnownAt h' := by
  obtain ⟨K, hK, f, e2, oT, o1, o2, q1, q2, q3, r⟩ := x
  exact ⟨K, PySem.W.Frag.In.keeps hK k, f, e2, oT, o1, o2, k _ _ q1, k _ _ q2, k _ _ q3, r⟩
/-! ## what the facts tell -/
theorem tab_ok {oT : Obj} (h : tabB (some oT) = true) : oT = { cls := .none, data := .fields #[] } := by
  obtain ⟨c, d, dt, sl⟩ := oT
  cases c with
  | none =>
    cases d with
    | none =>
      cases dt with
      | fields vs =>
        obtain ⟨h1, h2⟩ := He.ba (show (vs.toList.isEmpty && sl.toList.isEmpty) = true from h)
        have v0 : vs = #[] := by
          have := List.isEmpty_iff.mp h1
          exact Array.toList_inj.mp this
        have s0 : sl = #[] := by
          have := List.isEmpty_iff.mp h2
          exact Array.toList_inj.mp this
        rw [v0, s0]
      | _ => cases h
    | some _ => cases dt <;> cases h
  | _ => cases d <;> cases dt <;> cases h
theorem pair_ok {P : Program} {w : World} : ∀ {es : List DictEntry} {kvs : List (Key × V)}, pairB es kvs = true → ∃ vs, KV kvs vs ∧ Pairs (mixKind P w) es vs ∧ (∀ e ∈ es, ∃ k, (mixKind P w).is k e.key = true ∧ e.hash = (mixKind P w).hash k)
  | [], [], _ => ⟨[], .nil, .nil, fun _ h => (List.not_mem_nil h).elim⟩
  | e :: es, (.inl i, v) :: kvs, h => by
    obtain ⟨h1, h⟩ := He.ba (show ((match e.key with
      | .int j _ => decide (j = i)
      | _ => false) && (decide (e.hash = hashInt i) && (He.relB v e.val && pairB es kvs))) = true from h)
    obtain ⟨h2, h⟩ := He.ba h
    obtain ⟨h3, h4⟩ := He.ba h
    obtain ⟨vs, g1, g2, g3⟩ := pair_ok (P := P) (w := w) h4
    have hk : keyIs (.inl i) e.key = true := by
      cases q : e.key with
      | int j t =>
        rw [q] at h1
        have z : j = i := of_decide_eq_true h1
        rw [z]
        exact keyIs_int i t
      | _ =>
        rw [q] at h1
        cases h1
    have hh : e.hash = hashInt i := of_decide_eq_true h2
    refine ⟨(.inl i, e.val) :: vs, .cons ⟨rfl, He.relB_ok h3⟩ g1, .cons hk rfl g2, fun d hd => ?_⟩
    rcases List.mem_cons.mp hd with rfl | hd
    · exact ⟨.inl i, hk, hh⟩
    · exact g3 d hd
  | [], _ :: _, h => by cases h
  | _ :: _, [], h => by cases h
  | _ :: _, (.inr _, _) :: _, h => by cases h
theorem kv_keys : ∀ {kvs : List (Key × V)} {vs : List (Key × Value)}, KV kvs vs → vs.map (·.1) = kvs.map (·.1)
  | _, _, .nil => rfl
  | _, _, .cons h t => by
    rw [List.map_cons, List.map_cons, kv_keys t, h.1]
theorem dct_ok {P : Program} {w : World} {K : PySem.W.Frag} {h : Heap} {a : Addr} {o : Obj} {kvs : List (Key × V)} (g : h.get? a = some o) (hd : dctB (some o) kvs = true) (hout : outB K a = true) (hz : kvs.length ≤ sizeLine) (nd : (kvs.map (·.1)).Nodup) : DctB P w K h a o kvs := by
  obtain ⟨o1, o2⟩ := He.ba hout
  have low : 3 < a := Nat.le_of_ble_eq_true o2
  obtain ⟨c, d, dt, sl⟩ := o
  cases c with
  | type c =>
    cases d with
    | none =>
      cases dt with
      | dict es ep =>
        obtain ⟨h1, hd⟩ := He.ba (show (decide (c = "dict") && (sl.toList.isEmpty && pairB es.toList kvs)) = true from hd)
        obtain ⟨h2, h3⟩ := He.ba hd
        obtain ⟨vs, g1, g2, g3⟩ := pair_ok (P := P) (w := w) h3
        have s0 : sl = #[] := Array.toList_inj.mp (List.isEmpty_iff.mp h2)
        have n1 : (a == sysModules) = false := beq_eq_false_iff_ne.mpr fun z => by
          rw [z] at low
          exact absurd low (by decide)
        refine ⟨Option.isNone_iff_eq_none.mp o1, low, g, ⟨es, ep, rfl⟩, fun H => ⟨hz, n1, vs, g1, _, es, ep, g, ⟨congrArg Value.type (of_decide_eq_true h1), rfl, s0⟩, rfl, fun e he => g3 e (Array.mem_toList_iff.mpr he), g2, ?_⟩⟩
        rw [kv_keys g1]
        exact nd
      | _ => cases hd
    | some _ => cases dt <;> cases hd
  | _ => cases d <;> cases dt <;> cases hd
theorem code_ok {K : PySem.W.Frag} (h : codeB K = true) : (∃ oc od fd osl, K.lookup (ga K "eligible_ones") = some ⟨oc, od, .func fd, osl⟩ ∧ fd.code = .ref (cdE K)) ∧ ∀ hp : Heap, K.In hp → PySem.W.CodeHd hp (cdE K) (tbE K) := by
  unfold codeB at h
  cases q : K.lookup (ga K "eligible_ones") with
  | none =>
    rw [q] at h
    cases h
  | some o =>
    obtain ⟨oc, od, dt, osl⟩ := o
    rw [q] at h
    cases dt with
    | func fd =>
      dsimp only at h
      cases qc : fd.code with
      | ref c =>
        rw [qc] at h
        dsimp only at h
        have ec : cdE K = c := by
          unfold cdE
          rw [q]
          dsimp only
          rw [qc]
        refine ⟨⟨oc, od, fd, osl, rfl, by rw [qc, ec]⟩, fun hp X => ?_⟩
        cases qo : K.lookup c with
        | none =>
          rw [qo] at h
          cases h
        | some o2 =>
          obtain ⟨oc2, od2, dt2, osl2⟩ := o2
          rw [qo] at h
          cases oc2 with
          | type n =>
            cases dt2 with
            | fields vs =>
              dsimp only at h
              obtain ⟨h1, h⟩ := He.ba h
              obtain ⟨h2, h⟩ := He.ba h
              obtain ⟨h3, h⟩ := He.ba h
              obtain ⟨h4, h⟩ := He.ba h
              obtain ⟨h5, h6⟩ := He.ba h
              cases v11 : vs[11]? with
              | none =>
                rw [v11] at h2
                cases h2
              | some x =>
                rw [v11] at h2
                cases x with
                | ref P =>
                  have g11 : vs.getD 11 .none = .ref P := by
                    rw [Array.getD_eq_getD_getElem?, v11]
                    rfl
                  have eP : tbE K = P := by
                    unfold tbE
                    rw [ec, qo]
                    dsimp only
                    rw [g11]
                  cases v18 : vs.getD 18 .none with
                  | str file tf =>
                    cases v7 : vs.getD 7 .none with
                    | int flags tg =>
                      cases v9 : vs.getD 9 .none with
                      | bool inF =>
                        cases v10 : vs.getD 10 .none with
                        | int text tt =>
                          refine ⟨_, vs, file, tf, flags, tg, inF, text, tt, by rw [ec]; exact X _ _ qo, congrArg Value.type (of_decide_eq_true h1), rfl, by rw [eP]; exact v11, by rw [eP]; exact g11, v18, v7, v9, v10, fun z => ?_⟩
                          rw [ec, eP] at z
                          have h2' : (!(c == P)) = true := h2
                          rw [z, beq_self_eq_true] at h2'
                          cases h2'
                        | _ =>
                          rw [v10] at h6
                          cases h6
                      | _ =>
                        rw [v9] at h5
                        cases h5
                    | _ =>
                      rw [v7] at h4
                      cases h4
                  | _ =>
                    rw [v18] at h3
                    cases h3
                | _ => cases h2
            | _ => cases h
          | _ => cases dt2 <;> cases h
      | _ =>
        rw [qc] at h
        cases h
    | _ => cases h
theorem fns_plain : (fns.all fun d => d.dfl.isEmpty && d.kwd.isEmpty) = true := by decide +kernel
theorem fn_at {K : PySem.W.Frag} (f : factB K = true) (e : fns.map (fun d => He.fnW K d.at_) = fns.map He.DefD.val) (i : Nat) (d : He.DefD) (h : fns[i]? = some d) : ∃ fd, FunD K d.name d.qual d.params d.body d.scope [] [] (He.fAd K d.at_) fd := by
  have f11 : (fns.all fun d => d.ok K) = true := by
    obtain ⟨_, f⟩ := He.ba f
    obtain ⟨_, f⟩ := He.ba f
    obtain ⟨_, f⟩ := He.ba f
    obtain ⟨_, f⟩ := He.ba f
    obtain ⟨_, f⟩ := He.ba f
    obtain ⟨_, f⟩ := He.ba f
    obtain ⟨_, f⟩ := He.ba f
    obtain ⟨_, f⟩ := He.ba f
    obtain ⟨_, f⟩ := He.ba f
    exact (He.ba f).2
  have e2 : (fns.map fun d => He.fnW K d.at_)[i]? = (fns.map He.DefD.val)[i]? := by rw [e]
  rw [List.getElem?_map, List.getElem?_map, h] at e2
  have hd := He.DefD.funD (Option.some.inj e2) (List.all_eq_true.mp f11 d (List.mem_of_getElem? h))
  have hdf : d.dfl = [] ∧ d.kwd = [] := by
    have hd := List.all_eq_true.mp fns_plain d (List.mem_of_getElem? h)
    obtain ⟨h1, h2⟩ := He.ba hd
    exact ⟨List.isEmpty_iff.mp h1, List.isEmpty_iff.mp h2⟩
  obtain ⟨fd, F⟩ := hd
  unfold He.DefD.dvs He.DefD.kws at F
  rw [hdf.1, hdf.2] at F
  exact ⟨fd, F⟩
theorem tx_of {K : PySem.W.Frag} {mg : Str → Option Value} {base : Heap} (X : K.In base) (G : base.Ns mainGlobals mg) (fa : factB K = true) (e : fns.map (fun d => He.fnW K d.at_) = fns.map He.DefD.val) (tab : TabB base mg (cdE K) (tbE K)) : Tx K mg base := by
  obtain ⟨f1, f⟩ := He.ba fa
  obtain ⟨f2, f⟩ := He.ba f
  obtain ⟨f3, f⟩ := He.ba f
  obtain ⟨f4, f⟩ := He.ba f
  obtain ⟨f5, f⟩ := He.ba f
  obtain ⟨f6, f⟩ := He.ba f
  obtain ⟨f7, f⟩ := He.ba f
  obtain ⟨f8, f⟩ := He.ba f
  obtain ⟨f9, f⟩ := He.ba f
  obtain ⟨f10, f11⟩ := He.ba f
  refine ⟨fun i d h => fn_at fa e i d h, fun x hx => He.glo_ok X G (List.all_eq_true.mp f1 x hx), fun x hx => He.free_ok X G (List.all_eq_true.mp f2 x hx), fun p hp => He.int_ok X G (List.all_eq_true.mp f3 p hp), He.cls_ok f4, fun x hx => He.noat_ok (List.all_eq_true.mp f5 x hx), fun x hx => He.meth_ok (List.all_eq_true.mp f6 x hx), He.mkr_ok f7,
    fun H => He.tupB_ok f8 H, fun H => He.tupB_ok f9 H, (code_ok f10).1, tab⟩
end Rs

/-! # The run of the top -/
namespace Rs
open PySem PySem.W PySem.Calls PyProof.Rows HandSHeadRun
def loose0 : List PySem.Str := ["NO_SERVER", "NO_MEMBER", "NO_ROUTE", "TAKEN", "INVALID", "FULL", "NOTHING_FOUND", "MOST_MEMBERS", "MOST_ROUTES", "MOST_ASN", "MOST_PATH", "MOST_LENGTH", "MOST_PREFERENCE", "FIRST_PREFERENCE", "ADDRESSES", "SIZES", "is_prefix", "contains", "is_eligible", "rank", "eligible_ones", "prefixes_of", "table_of", "looked_up", "tables_of", "unlike_places", "counted", "changed_since", "reset", "is_asn"]
def loose1 : List PySem.Str := ["is_path", "add_member", "announce", "withdraw", "pair_refusal", "set_export", "set_import", "set_preference", "withdraw_all", "DEEDS", "is_deed", "done", "place_refusal", "tell_best", "tell_eligible", "tell_table", "tell_lookup", "tell_reachable", "uses", "tell_users", "tell_preview", "tell_prefixes", "tell_routes", "tell_policy", "QUESTIONS", "asked", "ANNOUNCE", "PART_COUNTS", "part_count", "calls_in"]
def loose2 : List PySem.Str := ["Server", "RESET", "answered"]
def looseN : List PySem.Str := loose0 ++ loose1 ++ loose2
abbrev prg : Program := PySem.Challenge.rw_nohiddenpaths_s01_answers.prog
/-- what the walk sees of the top -/
abbrev vw : Program := view prg [71]
def lookT (s : SharedT) : Seen := seenG (getT s)
theorem look_eq (s : SharedT) : lookT s = seenG s.abs.heap.get? := by
  have e : getT s = s.abs.heap.get? := funext (getT_eq s)
  unfold lookT
  rw [e]
def RunAt (w : World) : Prop := ∀ os : OsState, (endF (stepQ (denQ tabQ) prg w) 4000 prg w os).map (fun s => (looksF prg (boot_heap w.params) s.abs, seenQ vw looseN (importedModules prg.main.body) (fun s => xlAt vw [] s && recOk [] s) s.abs, lookT s)) = some (true, openGood vw looseN, seenV)
theorem run_f (w : World) (os : OsState) : (endF (stepQ (denQ tabQ) prg (w.withFollow "special-get-raises" false)) 4000 prg (w.withFollow "special-get-raises" false) os).map (fun s => (looksF prg (boot_heap (w.withFollow "special-get-raises" false).params) s.abs, seenQ vw looseN (importedModules prg.main.body) (fun s => xlAt vw [] s && recOk [] s) s.abs, lookT s)) = some (true, openGood vw looseN, seenV) := by
  kernel_rfl
theorem run_t (w : World) (os : OsState) : (endF (stepQ (denQ tabQ) prg (w.withFollow "special-get-raises" true)) 4000 prg (w.withFollow "special-get-raises" true) os).map (fun s => (looksF prg (boot_heap (w.withFollow "special-get-raises" true).params) s.abs, seenQ vw looseN (importedModules prg.main.body) (fun s => xlAt vw [] s && recOk [] s) s.abs, lookT s)) = some (true, openGood vw looseN, seenV) := by
  kernel_rfl
theorem run_top (w : World) : RunAt w := byRow2 "special-get-raises" (P := RunAt) (fun w os => run_f w os) (fun w os => run_t w os) w
theorem left_top : LeftO prg vw looseN (fun s => xlAt vw [] s && recOk [] s) (fun s => seenG s.heap.get?) (fun _ => seenV) 4600 true :=
  left_one (M := 4000) (by kernel_rfl) (Nat.ble_eq_true_of_le (by omega)) (fun s => by kernel_rfl) (Nat.ble_eq_true_of_le (by omega)) fun w os => by
    have z : _ = _ := run_top w os
    have eo : lookT = fun s => seenG s.abs.heap.get? := funext look_eq
    rw [eo] at z
    simp only [endQ_eq, seenQ_eq]
    exact z
end Rs

/-! # The row -/
namespace Rs
open PySem PySem.Spec L2 LamX PyProof.Rows
open PySem.W (WData Codec OpenSpec)
abbrev rw0 : PySem.W.OpenSpec := PySem.Challenge.rw_nohiddenpaths_s01_answers
theorem ints_nv (l : List Nat) : (zInts l).map V.int = nv l := (nv_ints l).symm
/-- what is due, from what is handed in -/
theorem due {K : PySem.W.Frag} {H0 H : Hp} {xs : List V} {l : List Int} (grow : ∀ b u, H0 b = some u → H b = some u) (tab : H (tbE K) = some (.tbl #[])) (h1 : Rd H (ga K "DEEDS") (.dK (deedK K))) (h2 : Rd H (ga K "QUESTIONS") (.dK (queK K)))
    (asked : PySu201.answers_asked l = true) (hS : DwAll K H0 xs [.list (l.map WData.int)]) : spAnswers K xs H (fun v H' => Dw K H' v (.list ((PySu201.answers l).map WData.int))) fun _ _ _ => False := by
  obtain ⟨cs, e, hok, hn, ea, hb⟩ := Rs.law asked
  cases hS with
  | cons hv hr =>
    cases hr
    cases hv with
    | @lst a ys _ hs hy =>
      have ey := ints_dw l ys hy
      rw [ey, e, ints_nv] at hs
      have hs2 : SqL K H a (nv (flat cs)) := (Kt.of grow : Kt K H0 H).seq hs
      refine ⟨a, cs, rfl, hs2, hok, hn, hb, ⟨h1, h2⟩, fun p hp => ?_, fun q H' hq => ?_⟩
      · unfold tE at hp
        rw [List.mem_singleton.mp hp]
        exact TabS.nil tab
      · rw [ea]
        exact .lst (SqL.of hq) (dw_ints _)
theorem due2 {K : PySem.W.Frag} {H0 H : Hp} {xs : List V} (a : Codec.denoteAll rw0.args) (grow : ∀ b u, H0 b = some u → H b = some u) (tab : H (tbE K) = some (.tbl #[])) (h1 : Rd H (ga K "DEEDS") (.dK (deedK K))) (h2 : Rd H (ga K "QUESTIONS") (.dK (queK K)))
    (asked : Codec.app rw0.args rw0.asked a = true) (hS : DwAll K H0 xs (Codec.encAll rw0.args a)) : spAnswers K xs H (fun v H' => Dw K H' v (rw0.ret.enc (Codec.app rw0.args rw0.f a))) fun _ _ _ => False :=
  due (l := a.1) grow tab h1 h2 asked hS
theorem keys_d (K : PySem.W.Frag) : ((deedK K).map (·.1)).Nodup := by
  show ([.inl 0, .inl 1, .inl 2, .inl 3, .inl 4, .inl 5, .inl 6, .inl 14] : List Key).Nodup
  decide
theorem keys_q (K : PySem.W.Frag) : ((queK K).map (·.1)).Nodup := by
  show ([.inl 7, .inl 8, .inl 9, .inl 10, .inl 11, .inl 12, .inl 13, .inl 15, .inl 16, .inl 17] : List Key).Nodup
  decide
theorem well0 : rw0.wellSaid = true := by decide +kernel
theorem walk_gen {r : OpenSpec} {q : Program} {loose : List PySem.Str} {XP : (PySem.Str → Option Value) → Heap → Prop} {d : DefRec} (hwell : r.wellSaid = true) (hname : d.name = ("answers" : PySem.Str)) (hlen : r.args.length = 1)
    (hdue : ∀ (K : PySem.W.Frag) (H0 H : Hp) (xs : List V) (a : Codec.denoteAll r.args), (∀ b u, H0 b = some u → H b = some u) → H (tbE K) = some (.tbl #[]) → Rd H (ga K "DEEDS") (.dK (deedK K)) → Rd H (ga K "QUESTIONS") (.dK (queK K)) → Codec.app r.args r.asked a = true → DwAll K H0 xs (Codec.encAll r.args a) →
      spAnswers K xs H (fun v H' => Dw K H' v (r.ret.enc (Codec.app r.args r.f a))) fun _ _ _ => False) : PySem.W.WalkOS q loose XP (fun _ h => KnownAt h) r d [] (fun f vs => PySem.call f vs) := by
  intro w sB s₁ mg mb G Y fa _ _ _ _ _ _ _ _ _ _ hmg gens args vals as pre lay _ well _
  obtain ⟨a, dec, asks⟩ := PySem.W.os_pre_some pre
  obtain ⟨enc, hwi⟩ := Codec.encAll_of_decAll r.args args a dec
  subst enc
  obtain ⟨K, KX, fB, fn, oT, o1, o2, q1, q2, q3, t1, t2, t3, t4, t5, t6, n7⟩ := Y
  have hmg2 : mg ("answers" : PySem.Str) = some (.ref fa) := by
    rw [← hname]
    exact hmg
  have f10 : (codeB K && fns.all fun d => d.ok K) = true := by
    obtain ⟨_, f⟩ := He.ba fB
    obtain ⟨_, f⟩ := He.ba f
    obtain ⟨_, f⟩ := He.ba f
    obtain ⟨_, f⟩ := He.ba f
    obtain ⟨_, f⟩ := He.ba f
    obtain ⟨_, f⟩ := He.ba f
    obtain ⟨_, f⟩ := He.ba f
    obtain ⟨_, f⟩ := He.ba f
    obtain ⟨_, f⟩ := He.ba f
    exact f
  have CH := (code_ok (He.ba f10).1).2
  have hfa : fa = ga K "answers" := by
    have g := He.glo_ok KX G.T.g (List.all_eq_true.mp (He.ba fB).1 "answers" (by decide +kernel))
    rw [hmg2] at g
    cases g
    rfl
  subst hfa
  have hT : s₁.heap.get? (tbE K) = some { cls := .none, data := .fields #[] } := by rw [q1, tab_ok t1]
  have D1 : DctB r.prog w K s₁.heap (ga K "DEEDS") o1 (deedK K) := dct_ok q2 t3 t5 (by show 8 ≤ sizeLine; decide) (keys_d K)
  have D2 : DctB r.prog w K s₁.heap (ga K "QUESTIONS") o2 (queK K) := dct_ok q3 t4 t6 (by show 10 ≤ sizeLine; decide) (keys_q K)
  obtain ⟨fd, F⟩ : ∃ fd, FunD K "answers" "answers" (defArgs (top 71)) (defBody (top 71)) (defScope (top 71)) [] [] (ga K "answers") fd := fn_at fB fn 41 _ rfl
  have hb := FunD.bindsA (ps := ["calls"]) F fun _ _ _ _ _ _ us hl => match us, hl with | [_], _ => rfl
  refine PySem.W.enter_call (codeAny_mono (spec_callX (R := []) (cl := classAt sB.heap) (d0 := r.ret.enc (Codec.app r.args r.f a)) (CX := CX0) (k := 13) (ps := ["calls"]) (sp := spAnswers K) KX G.T.g G.T.b G.T.builtins G.T.nolimit gens hT (Option.isNone_iff_eq_none.mp t2) (CH _ KX) D1 D2 n7 G.T.bmain well (pl_encAll _ _) (layable_weight lay) ⟨rfl, by decide, by decide⟩
    (fun base X Gb tab => fn_answers (tx_of X Gb fB fn tab) F) hb ((encAll_len _ _).trans hlen) (fun H0 H xs grow tab h1 h2 hS => hdue K H0 H xs a grow tab h1 h2 asks hS) fun _ _ _ z => z) fun res to hq => ?_)
  obtain ⟨u, bs, rfl, tells, old, sameOs, bare⟩ := hq
  exact ⟨.inl ⟨u, _, bs, rfl, fun _ => rfl, tells, (OpenSpec.post_iff hwell hwi ..).mpr rfl, fun z => Bool.noConfusion (show false = true from z)⟩, old, sameOs, bare⟩
abbrev dA : DefRec := HandSHeadRun.topDef rw0.prog 71
theorem walk_row : PySem.W.WalkOS vw looseN (PySem.W.XL vw []) (fun _ h => KnownAt h) rw0 dA [] (fun f vs => PySem.call f vs) :=
  walk_gen well0 (by kernel_rfl) rfl fun K H0 H xs a grow tab h1 h2 asked hS => due2 a grow tab h1 h2 asked hS
end Rs
open PySem PySem.W PySem.Calls PyProof.Rows
theorem PySem.Challenge.cw_nohiddenpaths_s01_answers_holds : PySem.Challenge.rw_nohiddenpaths_s01_answers.Holds := by
  refine holds_os (r := PySem.Challenge.rw_nohiddenpaths_s01_answers) (q := Rs.vw) (loose := Rs.looseN) (XP := XL Rs.vw []) (YP := fun _ h => Rs.KnownAt h) (d := Rs.dA) (kwd := []) Rs.left_top (fun _ _ e => Rs.known_of e) (fun _ _ _ x k => Rs.known_keeps x k)
    (fun s z => xl_of s (Bool.and_eq_true_iff.mp z).1) XL.keeps (by rfl) (by rfl) (by rfl) (fun s z => recFacts_of (Bool.and_eq_true_iff.mp z).2) os_shapes (by first | assumption | decide +kernel) (by decide +kernel) ⟨rfl, rfl, rfl, rfl, rfl, by decide +kernel⟩ ⟨[.list [.int 0]], by decide +kernel, by decide +kernel⟩ Rs.walk_row
