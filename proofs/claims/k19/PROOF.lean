import PyProof.Rows.All
import PySem.Challenge.RW_ridetickets_k19_cards_step_by_step
import HandS.ForMost
import HandS.Zip
import HandS.TupAny
import HandS.IsInst
import HandS.SortInts
import HandS.Style
import HandS.Steps
import HandS.Lambda
import HandS.Conv
import HandS.TryOnly
import HandS.Strs
import HandS.SetFor
import HandS.Star
import KE.GoesMore
import KE.GoesEnum
import KE.DataMinMax
import HandS.SortRule
import PyProof.Rows.SetFrom
import HandS.HotCalls
import HandS.ExcCtx
import HandS.ExcIs
import HandS.Text
import HandS.Defaults
import HandS.EndTab
import PyProof.CodeObjX
import HandS.ClsMeth
import HandS.Property
import HandS.Codes
import HandS.OwnEq
set_option Elab.async false
set_option linter.all false
set_option maxRecDepth 100000
set_option maxHeartbeats 4000000
/-! DLa: data without a heap. -/
namespace DL
open PySem PySem.Spec PyProof.Rows L2

/-- a bag: three ints that are not negative, the third at most n -/
def bagAt (b : Addr) (n : Nat) : Heap → Prop := fun h => ∃ (i j c : Int) (t1 t2 t3 : Tok) (m : Nat),
  h.get? b = some { cls := .type "list", data := .seq [Value.int i t1, Value.int j t2, Value.int c t3].toArray m } ∧ 0 ≤ i ∧ 0 ≤ j ∧ 0 ≤ c ∧ c ≤ n

/-- a count of draws, and a log of what cards' lists of states became -/
structure Ct where
  n : Nat
  g : List (Addr × List (List V))
instance : Add Ct := ⟨fun a b => ⟨a.n + b.n, b.g ++ a.g⟩⟩
instance {m : Nat} : OfNat Ct m := ⟨⟨m, []⟩⟩
instance : LE Ct := ⟨fun a b => a.g = b.g ∧ a.n ≤ b.n⟩
def evs : List (Addr × List (List V)) → Addr → List (List V) → List (List V)
  | [], _, c => c
  | (a, d) :: r, l, c => if a = l then d else evs r l c
theorem evs_app : ∀ {g g' : List (Addr × List (List V))} {l : Addr} {c : List (List V)}, evs (g ++ g') l c = evs g l (evs g' l c)
  | [], _, _, _ => rfl
  | (a, d) :: r, g', l, c => by
    show (if a = l then d else evs (r ++ g') l c) = if a = l then d else evs r l (evs g' l c)
    rw [evs_app]
theorem Ct.assoc (a b c : Ct) : a + b + c = a + (b + c) := by
  show (⟨a.n + b.n + c.n, c.g ++ (b.g ++ a.g)⟩ : Ct) = ⟨a.n + (b.n + c.n), (c.g ++ b.g) ++ a.g⟩
  rw [Nat.add_assoc, List.append_assoc]
theorem Ct.add_zero (a : Ct) : a + 0 = a := rfl
theorem Ct.zero_add (a : Ct) : 0 + a = a := by
  show (⟨0 + a.n, a.g ++ []⟩ : Ct) = a
  rw [Nat.zero_add, List.append_nil]
theorem Ct.le_refl (a : Ct) : a ≤ a := ⟨rfl, Nat.le_refl _⟩
theorem Ct.add_n (a b : Ct) : (a + b).n = a.n + b.n := rfl
theorem Ct.add_g (a b : Ct) : (a + b).g = b.g ++ a.g := rfl
theorem Ct.lit_n {m : Nat} : (no_index (OfNat.ofNat m) : Ct).n = m := rfl
theorem Ct.lit_g {m : Nat} : (no_index (OfNat.ofNat m) : Ct).g = [] := rfl
theorem Ct.le_def {a b : Ct} : a ≤ b ↔ a.g = b.g ∧ a.n ≤ b.n := Iff.rfl
/-- a card's states -/
abbrev Ct.at (N : Ct) (l : Addr) : List (List V) := evs N.g l []
/-- a list of tuples at ts -/
def cardL (a : Addr) (ts : List Addr) : Heap → Prop := fun h => ∃ n, h.get? a = some { cls := .type "list", data := .seq (ts.map Value.ref).toArray n } ∧ ts.length ≤ sizeLine
def RepT (H : Hp) : List Addr → List (List V) → Prop
  | [], [] => True
  | t :: ts, c :: cs => H t = some (.tup c) ∧ RepT H ts cs
  | _, _ => False
def Rep (H : Hp) (l : Addr) (c : List (List V)) : Prop := ∃ ts, H l = some (.ext (cardL l ts)) ∧ RepT H ts c
theorem RepT.to {H H' : Hp} (h : ∀ a xs, H a = some (.tup xs) → H' a = some (.tup xs)) : ∀ {ts : List Addr} {c : List (List V)}, RepT H ts c → RepT H' ts c
  | [], [], _ => trivial
  | _ :: _, _ :: _, r => ⟨h _ _ r.1, RepT.to h r.2⟩
theorem Rep.to {H H' : Hp} {l : Addr} {c : List (List V)} (r : Rep H l c) (h : ∀ a xs, H a = some (.tup xs) → H' a = some (.tup xs)) (g : ∀ ts, H l = some (.ext (cardL l ts)) → H' l = some (.ext (cardL l ts))) : Rep H' l c := by
  obtain ⟨ts, h1, h2⟩ := r
  exact ⟨ts, g ts h1, h2.to h⟩
theorem Rep.upd {H : Hp} {l a : Addr} {o u : HO} {c : List (List V)} (r : Rep H l c) (h : H a = some u) (n1 : ∀ ts, u ≠ .ext (cardL a ts)) (n2 : ∀ xs, u ≠ .tup xs) : Rep (L2.upd H a o) l c :=
  r.to (fun b xs e => by rw [upd_ne (fun z => by rw [z, h] at e; exact n2 xs (Option.some.inj e))]; exact e) fun ts e => by rw [upd_ne (fun z => by rw [z, h] at e; exact n1 ts (Option.some.inj e))]; exact e
theorem Rep.wr {H : Hp} {l a : Addr} {o : HO} {xs : List V} {c : List (List V)} (r : Rep H l c) (h : H a = some (.lst xs)) : Rep (L2.upd H a o) l c := r.upd h (fun _ z => by cases z) fun _ z => by cases z
theorem bag_card {a : Addr} {n : Nat} {ts : List Addr} : HO.ext (bagAt a n) ≠ .ext (cardL a ts) := fun e => by
  have f := HO.ext.inj e
  have hg : (⟨Array.replicate (a + 1) { cls := .type "list", data := .seq [Value.int 0 0, Value.int 0 0, Value.int 0 0].toArray 0 }, {}⟩ : Heap).get? a = some { cls := .type "list", data := .seq [Value.int 0 0, Value.int 0 0, Value.int 0 0].toArray 0 } :=
    Heap.get?_some_iff.mpr ⟨by simp, rfl⟩
  have b : bagAt a n (⟨Array.replicate (a + 1) { cls := .type "list", data := .seq [Value.int 0 0, Value.int 0 0, Value.int 0 0].toArray 0 }, {}⟩ : Heap) := ⟨0, 0, 0, 0, 0, 0, 0, hg, by decide, by decide, by decide, by omega⟩
  rw [f] at b
  obtain ⟨m, h1, _⟩ := b
  rw [hg] at h1
  have h2 := Option.some.inj h1
  injection h2 with _ _ h3
  injection h3 with h4 _
  have h5 : [Value.int 0 0, Value.int 0 0, Value.int 0 0] = ts.map Value.ref := by
    have := congrArg Array.toList h4
    simpa using this
  cases ts with
  | nil => cases h5
  | cons t ts => injection h5 with h6 _; cases h6
theorem card_inj {a : Addr} {ts ts' : List Addr} (hs : ts.length ≤ sizeLine) (e : HO.ext (cardL a ts) = .ext (cardL a ts')) : ts = ts' := by
  have f := HO.ext.inj e
  have hg : (⟨Array.replicate (a + 1) { cls := .type "list", data := .seq (ts.map Value.ref).toArray 0 }, {}⟩ : Heap).get? a = some { cls := .type "list", data := .seq (ts.map Value.ref).toArray 0 } :=
    Heap.get?_some_iff.mpr ⟨by simp, rfl⟩
  have b : cardL a ts (⟨Array.replicate (a + 1) { cls := .type "list", data := .seq (ts.map Value.ref).toArray 0 }, {}⟩ : Heap) := ⟨0, hg, hs⟩
  rw [f] at b
  obtain ⟨m, h1, _⟩ := b
  rw [hg] at h1
  have h2 := Option.some.inj h1
  injection h2 with _ _ h3
  injection h3 with h4 _
  have h5 : ts.map Value.ref = ts'.map Value.ref := by
    have := congrArg Array.toList h4
    simpa using this
  exact (List.map_inj_right (fun x y h => by injection h)).mp h5
inductive D where
  | v (x : V)
  | tup (ds : List D)
  | lst (ds : List D)
  | scr (ns : List Int)
  | bag
  | fix (P : Ct → Hp → (Addr → Prop) → Addr → Prop)
abbrev D.int (i : Int) : D := .v (.int i)
abbrev D.bl (b : Bool) : D := .v (.bl b)
abbrev D.str (x : Str) : D := .v (.str x)
abbrev D.non : D := .v .non

/-- the names that the code objects of a table bear -/
class TabNames where
  nm : Addr → Str
variable [TabNames]
/-- the heap grows; bags may turn, at most k times; tables of code objects may grow; cards' lists change as the log tells -/
structure ExK (k : Ct) (H H' : Hp) : Prop where
  ob : ∀ a o, H a = some o → H' a = some o ∨ ((∃ n, o = .ext (bagAt a n)) ∧ ∀ n, o = .ext (bagAt a n) → ∃ m, m ≤ n + k.n ∧ H' a = some (.ext (bagAt a m))) ∨ ((∃ ps, o = .tbl ps) ∧ ∃ ps, H' a = some (.tbl ps)) ∨ ((∃ ts, o = .ext (cardL a ts)) ∧ ∃ ts, H' a = some (.ext (cardL a ts)))
  tb : ∀ P, LamX.TabS H P (TabNames.nm P) → LamX.TabS H' P (TabNames.nm P)
  cd : ∀ l c, Rep H l c → Rep H' l (evs k.g l c)
theorem ExK.refl (H : Hp) : ExK 0 H H := ⟨fun _ _ h => .inl h, fun _ h => h, fun _ _ h => h⟩
theorem ExK.trans {j k : Ct} {H H1 H2 : Hp} (p : ExK j H H1) (q : ExK k H1 H2) : ExK (j + k) H H2 := ⟨fun a o h => by
  rcases p.ob a o h with h1 | ⟨⟨n0, e0⟩, f⟩ | ⟨⟨ps, e0⟩, ps1, h1⟩ | ⟨⟨ts, e0⟩, ts1, h1⟩
  · rcases q.ob a o h1 with h2 | ⟨e, g⟩ | h2 | h2
    · exact .inl h2
    · refine .inr (.inl ⟨e, fun n en => ?_⟩)
      obtain ⟨m, hm, h2⟩ := g n en
      exact ⟨m, by rw [Ct.add_n]; omega, h2⟩
    · exact .inr (.inr (.inl h2))
    · exact .inr (.inr (.inr h2))
  · refine .inr (.inl ⟨⟨n0, e0⟩, fun n en => ?_⟩)
    obtain ⟨m, hm, h1⟩ := f n en
    rcases q.ob a _ h1 with h2 | ⟨_, g⟩ | ⟨⟨ps, e⟩, _⟩ | ⟨⟨ts, e⟩, _⟩
    · exact ⟨m, by rw [Ct.add_n]; omega, h2⟩
    · obtain ⟨m2, hm2, h2⟩ := g m rfl
      exact ⟨m2, by rw [Ct.add_n]; omega, h2⟩
    · cases e
    · exact (bag_card e).elim
  · rcases q.ob a _ h1 with h2 | ⟨⟨n, e⟩, _⟩ | ⟨_, h2⟩ | ⟨⟨ts, e⟩, _⟩
    · exact .inr (.inr (.inl ⟨⟨ps, e0⟩, ps1, h2⟩))
    · cases e
    · exact .inr (.inr (.inl ⟨⟨ps, e0⟩, h2⟩))
    · cases e
  · rcases q.ob a _ h1 with h2 | ⟨⟨n, e⟩, _⟩ | ⟨⟨ps, e⟩, _⟩ | ⟨_, h2⟩
    · exact .inr (.inr (.inr ⟨⟨ts, e0⟩, ts1, h2⟩))
    · exact (bag_card e.symm).elim
    · cases e
    · exact .inr (.inr (.inr ⟨⟨ts, e0⟩, h2⟩)), fun P h => q.tb P (p.tb P h), fun l c r => by
  rw [Ct.add_g, evs_app]
  exact q.cd l _ (p.cd l c r)⟩
theorem ExK.mono {j k : Ct} {H H' : Hp} (p : ExK j H H') (h : j ≤ k) : ExK k H H' := ⟨fun a o e => by
  rcases p.ob a o e with q | ⟨q, f⟩ | q
  · exact .inl q
  · refine .inr (.inl ⟨q, fun n en => ?_⟩)
    obtain ⟨m, hm, h1⟩ := f n en
    exact ⟨m, Nat.le_trans hm (Nat.add_le_add_left h.2 n), h1⟩
  · exact .inr (.inr q), p.tb, fun l c r => by rw [← h.1]; exact p.cd l c r⟩
theorem ExK.new {H : Hp} {p : Addr} {o : HO} (h : H p = none) : ExK 0 H (upd H p o) :=
  have up : ∀ a u, H a = some u → upd H p o a = some u := fun a u e => by
    rw [upd_ne (ne_of_none e h)]
    exact e
  ⟨fun a u e => .inl (up a u e), fun _ t => t.ext up, fun l c r => r.to (fun a xs e => up a _ e) fun ts e => up l _ e⟩
theorem ExK.there {k : Ct} {H H' : Hp} (p : ExK k H H') {a : Addr} {o : HO} (e : H a = some o) : ∃ o', H' a = some o' := by
  rcases p.ob a o e with h | ⟨⟨n, en⟩, f⟩ | ⟨_, ps, h⟩ | ⟨_, ps, h⟩
  · exact ⟨o, h⟩
  · obtain ⟨m, _, h⟩ := f n en
    exact ⟨_, h⟩
  · exact ⟨_, h⟩
  · exact ⟨_, h⟩
theorem ExK.back {k : Ct} {H H' : Hp} (p : ExK k H H') {a : Addr} (e : H' a = none) : H a = none := by
  cases h : H a with
  | none => rfl
  | some o =>
    obtain ⟨o', h'⟩ := p.there h
    rw [e] at h'
    cases h'
theorem ExK.kept {k : Ct} {H H' : Hp} (p : ExK k H H') {a : Addr} {o : HO} (e : H a = some o) (ne : ∀ φ, o ≠ .ext φ) (nt : ∀ ps, o ≠ .tbl ps := by intro ps h; cases h) : H' a = some o := by
  rcases p.ob a o e with h | ⟨⟨n, en⟩, f⟩ | ⟨⟨ps, en⟩, _⟩ | ⟨⟨ts, en⟩, _⟩
  · exact h
  · exact absurd en (ne _)
  · exact absurd en (nt _)
  · exact absurd en (ne _)
theorem ExK.lst {k : Ct} {H H' : Hp} (p : ExK k H H') {a : Addr} {xs : List V} (e : H a = some (.lst xs)) : H' a = some (.lst xs) := p.kept e (fun φ h => by cases h)
theorem ExK.tup {k : Ct} {H H' : Hp} (p : ExK k H H') {a : Addr} {xs : List V} (e : H a = some (.tup xs)) : H' a = some (.tup xs) := p.kept e (fun φ h => by cases h)
/-- a code object is no bag -/
theorem codeO_bag {c : Addr} {q : Str} {n : Nat} : LamX.CodeO c q ≠ .ext (bagAt c n) := fun e => by
  unfold LamX.CodeO at e
  have f := HO.ext.inj e
  have hg : (⟨Array.replicate (c + 1) { cls := .type "list", data := .seq [Value.int 0 0, Value.int 0 0, Value.int 0 0].toArray 0 }, {}⟩ : Heap).get? c = some { cls := .type "list", data := .seq [Value.int 0 0, Value.int 0 0, Value.int 0 0].toArray 0 } :=
    Heap.get?_some_iff.mpr ⟨by simp, rfl⟩
  have b : bagAt c n (⟨Array.replicate (c + 1) { cls := .type "list", data := .seq [Value.int 0 0, Value.int 0 0, Value.int 0 0].toArray 0 }, {}⟩ : Heap) := ⟨0, 0, 0, 0, 0, 0, 0, hg, by decide, by decide, by decide, by omega⟩
  rw [← f] at b
  obtain ⟨oc, vs, t, h1, h2, _⟩ := b
  rw [hg] at h1
  cases h1
  cases h2
/-- a code object is no card's list -/
theorem codeO_card {c : Addr} {q : Str} {ts : List Addr} : LamX.CodeO c q ≠ .ext (cardL c ts) := fun e => by
  unfold LamX.CodeO at e
  have f := HO.ext.inj e
  have hg : (⟨Array.replicate (c + 1) { cls := .none, data := .fields #[.none, .str q 0] }, {}⟩ : Heap).get? c = some { cls := .none, data := .fields #[.none, .str q 0] } := Heap.get?_some_iff.mpr ⟨by simp, rfl⟩
  have b : ∃ (oc : Obj) (vs : Array Value) (t : Tok), (⟨Array.replicate (c + 1) { cls := .none, data := .fields #[.none, .str q 0] }, {}⟩ : Heap).get? c = some oc ∧ oc.data = .fields vs ∧ vs[1]? = some (.str q t) := ⟨_, _, 0, hg, rfl, rfl⟩
  have b' : cardL c ts (⟨Array.replicate (c + 1) { cls := .none, data := .fields #[.none, .str q 0] }, {}⟩ : Heap) := by
    rw [← congrFun f]
    exact b
  obtain ⟨m, h1, _⟩ := b'
  rw [hg] at h1
  cases h1
theorem ExK.frz {k : Ct} {H H' : Hp} (p : ExK k H H') {a : Addr} {ob : Obj} {u : HO} (e : H a = some (.frz ob u)) : H' a = some (.frz ob u) := p.kept e (fun φ h => by cases h)
theorem codeO_tbl {c : Addr} {q : Str} {ps : Array Value} : LamX.CodeO c q ≠ .tbl ps := fun z => by
  unfold LamX.CodeO at z
  cases z
theorem codeO_lst {c : Addr} {q : Str} {ps : List V} : LamX.CodeO c q ≠ .lst ps := fun z => by
  unfold LamX.CodeO at z
  cases z
theorem ExK.cod {k : Ct} {H H' : Hp} (p : ExK k H H') {a : Addr} {q : Str} (e : H a = some (LamX.CodeO a q)) : H' a = some (LamX.CodeO a q) := by
  rcases p.ob a _ e with h | ⟨⟨n, en⟩, _⟩ | ⟨⟨ps, en⟩, _⟩ | ⟨⟨ts, en⟩, _⟩
  · exact h
  · exact absurd en codeO_bag
  · exact absurd en codeO_tbl
  · exact absurd en codeO_card
theorem ExK.rd {k : Ct} {H H' : Hp} (p : ExK k H H') {a : Addr} {xs : List V} (e : Rd H a (.lst xs)) : Rd H' a (.lst xs) := by
  rcases e with e | ⟨o, e⟩
  · exact .inl (p.lst e)
  · exact .inr ⟨o, p.kept e (fun φ h => by cases h)⟩
/-- a list is written: no table is touched -/
theorem tab_wr {H : Hp} {P a : Addr} {q : Str} {xs : List V} {o : HO} (h : H a = some (.lst xs)) (t : LamX.TabS H P q) : LamX.TabS (upd H a o) P q := by
  obtain ⟨ps, h1, h2, h3⟩ := t
  have ne : ∀ b u, (∀ ys, u ≠ HO.lst ys) → H b = some u → upd H a o b = some u := fun b u n e => by
    rw [upd_ne (fun z => by rw [z, h] at e; cases e; exact n _ rfl)]
    exact e
  refine ⟨ps, ne _ _ (fun _ z => by cases z) h1, h2, fun pos cv hc => ?_⟩
  obtain ⟨c, e1, e2⟩ := h3 pos cv hc
  exact ⟨c, e1, ne _ _ (fun _ z => by unfold LamX.CodeO at z; cases z) e2⟩
theorem ExK.sqL {k : Ct} {H H' : Hp} (p : ExK k H H') {K : PySem.W.Frag} {a : Addr} {xs : List V} (e : SqL K H a xs) : SqL K H' a xs := by
  rcases e with (e | ⟨o, e⟩) | e
  · exact .inl (.inl (p.lst e))
  · exact .inl (.inr ⟨o, p.kept e (fun φ h => by cases h)⟩)
  · exact .inr e

/-- a list that nobody writes: known to the object, or of the written part -/
def SqF (K : PySem.W.Frag) (H : Hp) (a : Addr) (xs : List V) : Prop := (∃ o, H a = some (.frz o (.lst xs))) ∨
  ∃ (o : Obj) (its : Array Value) (n : Nat), K.lookup a = some o ∧ o.cls = .type "list" ∧ o.dict = none ∧ o.data = .seq its n ∧ its.size ≤ sizeLine ∧ Vals xs its.toList
theorem SqF.l {K : PySem.W.Frag} {H : Hp} {a : Addr} {xs : List V} (h : SqF K H a xs) : SqL K H a xs := by
  rcases h with ⟨o, h⟩ | h
  · exact .inl (.inr ⟨o, h⟩)
  · exact .inr h
theorem SqF.to {K : PySem.W.Frag} {H H' : Hp} {a : Addr} {xs : List V} (h : SqF K H a xs) (e : ∀ o, H a = some (.frz o (.lst xs)) → H' a = some (.frz o (.lst xs))) : SqF K H' a xs := by
  rcases h with ⟨o, h⟩ | h
  · exact .inl ⟨o, e o h⟩
  · exact .inr h
structure Gro (K : PySem.W.Frag) (N N' : Ct) (Z Z' : Addr → Prop) (H H' : Hp) : Prop where
  tup : ∀ a xs, H a = some (.tup xs) → H' a = some (.tup xs)
  lst : ∀ a xs, H a = some (.lst xs) → ¬ Z a → H' a = some (.lst xs) ∧ ¬ Z' a
  scr : ∀ a xs, SqF K H a xs → SqF K H' a xs
  bag : ∀ a m, m ≤ N.n → H a = some (.ext (bagAt a m)) → ∃ m', m' ≤ N'.n ∧ H' a = some (.ext (bagAt a m'))
  frz : ∀ a ob u, H a = some (.frz ob u) → H' a = some (.frz ob u)
  cod : ∀ a q, H a = some (LamX.CodeO a q) → H' a = some (LamX.CodeO a q)
  ins : ∀ a C dx fs, H a = some (.ins C dx fs) → H' a = some (.ins C dx fs)
  crd : ∀ l, Rep H l (N.at l) → Rep H' l (N'.at l)
/-- what is true of a value while the heap grows -/
def Stab (K : PySem.W.Frag) (P : Ct → Hp → (Addr → Prop) → Addr → Prop) : Prop := ∀ (N N' : Ct) (Z Z' : Addr → Prop) (H H' : Hp) (v : Addr), Gro K N N' Z Z' H H' → P N H Z v → P N' H' Z' v
/-! ### which value bears which data -/
mutual
inductive Dt (K : PySem.W.Frag) (N : Ct) (H : Hp) (Z : Addr → Prop) : V → D → Prop
  | v (x : V) : Dt K N H Z x (.v x)
  | tup {a : Addr} {xs : List V} {ds : List D} : H a = some (.tup xs) → DtAll K N H Z xs ds → Dt K N H Z (.ref a) (.tup ds)
  | lst {a : Addr} {xs : List V} {ds : List D} : H a = some (.lst xs) → ¬ Z a → DtAll K N H Z xs ds → Dt K N H Z (.ref a) (.lst ds)
  | scr {a : Addr} {ns : List Int} : SqF K H a (ns.map V.int) → Dt K N H Z (.ref a) (.scr ns)
  | bag {a : Addr} {m : Nat} : m ≤ N.n → H a = some (.ext (bagAt a m)) → Dt K N H Z (.ref a) .bag
  | fix {a : Addr} {P : Ct → Hp → (Addr → Prop) → Addr → Prop} : Stab K P → P N H Z a → Dt K N H Z (.ref a) (.fix P)
inductive DtAll (K : PySem.W.Frag) (N : Ct) (H : Hp) (Z : Addr → Prop) : List V → List D → Prop
  | nil : DtAll K N H Z [] []
  | cons {v : V} {vs : List V} {d : D} {ds : List D} : Dt K N H Z v d → DtAll K N H Z vs ds → DtAll K N H Z (v :: vs) (d :: ds)
end

section
variable {K : PySem.W.Frag} {N N' : Ct} {Z Z' : Addr → Prop} {H H' : Hp}
mutual
theorem Dt.gro (g : Gro K N N' Z Z' H H') : ∀ {v : V} {d : D}, Dt K N H Z v d → Dt K N' H' Z' v d
  | _, _, .v x => .v x
  | _, _, .tup h r => .tup (g.tup _ _ h) (DtAll.gro g r)
  | _, _, .lst h z r => .lst (g.lst _ _ h z).1 (g.lst _ _ h z).2 (DtAll.gro g r)
  | _, _, .scr h => .scr (g.scr _ _ h)
  | _, _, .bag hm h => by
    obtain ⟨m', h1, h2⟩ := g.bag _ _ hm h
    exact .bag h1 h2
  | _, _, .fix s h => .fix s (s _ _ _ _ _ _ _ g h)
theorem DtAll.gro (g : Gro K N N' Z Z' H H') : ∀ {vs : List V} {ds : List D}, DtAll K N H Z vs ds → DtAll K N' H' Z' vs ds
  | _, _, .nil => .nil
  | _, _, .cons h r => .cons (Dt.gro g h) (DtAll.gro g r)
end
theorem Gro.ex {k : Ct} (e : ExK k H H') : Gro K N (N + k) Z Z H H' where
  tup := fun a xs h => e.tup h
  lst := fun a xs h z => ⟨e.lst h, z⟩
  scr := fun a xs h => h.to fun o e' => e.kept e' (fun φ h => by cases h)
  bag := fun a m hm h => by
    rcases e.ob a _ h with h1 | ⟨_, f⟩ | ⟨⟨ps, z⟩, _⟩ | ⟨⟨ts, z⟩, _⟩
    · exact ⟨m, by rw [Ct.add_n]; omega, h1⟩
    · obtain ⟨m', h1, h2⟩ := f m rfl
      exact ⟨m', by rw [Ct.add_n]; omega, h2⟩
    · cases z
    · exact (bag_card z).elim
  frz := fun a ob u h => e.frz h
  cod := fun a q h => e.cod h
  ins := fun a C dx fs h => e.kept h (fun φ z => by cases z)
  crd := fun l r => by
    have z := e.cd l _ r
    unfold Ct.at
    rw [Ct.add_g, evs_app]
    exact z
/-- another zone -/
theorem Gro.zone (hz : ∀ a, Z' a → Z a) (hN : N ≤ N') : Gro K N N' Z Z' H H where
  tup := fun a xs h => h
  lst := fun a xs h z => ⟨h, fun z' => z (hz a z')⟩
  scr := fun a xs h => h
  bag := fun a m hm h => ⟨m, Nat.le_trans hm hN.2, h⟩
  frz := fun a ob u h => h
  cod := fun a q h => h
  ins := fun a C dx fs h => h
  crd := fun l r => by
    unfold Ct.at
    rw [← hN.1]
    exact r
theorem Dt.ex {k : Ct} (e : ExK k H H') {v : V} {d : D} (h : Dt K N H Z v d) : Dt K (N + k) H' Z v d := h.gro (.ex e)
theorem DtAll.ex {k : Ct} (e : ExK k H H') {vs : List V} {ds : List D} (h : DtAll K N H Z vs ds) : DtAll K (N + k) H' Z vs ds := h.gro (.ex e)
theorem Dt.ex0 (e : ExK 0 H H') {v : V} {d : D} (h : Dt K N H Z v d) : Dt K N H' Z v d := h.ex e
theorem DtAll.ex0 (e : ExK 0 H H') {vs : List V} {ds : List D} (h : DtAll K N H Z vs ds) : DtAll K N H' Z vs ds := h.ex e
theorem DtAll.length : ∀ {vs : List V} {ds : List D}, DtAll K N H Z vs ds → vs.length = ds.length
  | _, _, .nil => rfl
  | _, _, .cons _ r => congrArg (· + 1) r.length
theorem DtAll.append : ∀ {vs ws : List V} {ds es : List D}, DtAll K N H Z vs ds → DtAll K N H Z ws es → DtAll K N H Z (vs ++ ws) (ds ++ es)
  | _, _, _, _, .nil, h => h
  | _, _, _, _, .cons a r, h => .cons a (r.append h)
theorem DtAll.take : ∀ {vs : List V} {ds : List D} (n : Nat), DtAll K N H Z vs ds → DtAll K N H Z (vs.take n) (ds.take n)
  | _, _, 0, _ => .nil
  | _, _, n + 1, .nil => .nil
  | _, _, n + 1, .cons a r => .cons a (r.take n)
theorem DtAll.drop : ∀ {vs : List V} {ds : List D} (n : Nat), DtAll K N H Z vs ds → DtAll K N H Z (vs.drop n) (ds.drop n)
  | _, _, 0, h => h
  | _, _, n + 1, .nil => .nil
  | _, _, n + 1, .cons a r => r.drop n
theorem DtAll.get : ∀ {vs : List V} {ds : List D} {i : Nat} {d : D}, DtAll K N H Z vs ds → ds[i]? = some d → ∃ v, vs[i]? = some v ∧ Dt K N H Z v d
  | _, _, _, _, .nil, h => by simp at h
  | _, _, 0, _, .cons a r, h => by
    simp at h
    subst h
    exact ⟨_, rfl, a⟩
  | _, _, i + 1, _, .cons a r, h => by
    obtain ⟨v, h1, h2⟩ := r.get (i := i) (by simpa using h)
    exact ⟨v, by simpa using h1, h2⟩
theorem DtAll.getv : ∀ {vs : List V} {ds : List D} {i : Nat} {v : V}, DtAll K N H Z vs ds → vs[i]? = some v → ∃ d, ds[i]? = some d ∧ Dt K N H Z v d
  | _, _, _, _, .nil, h => by simp at h
  | _, _, 0, _, .cons a r, h => by
    simp at h
    subst h
    exact ⟨_, rfl, a⟩
  | _, _, i + 1, _, .cons a r, h => by
    obtain ⟨v, h1, h2⟩ := r.getv (i := i) (by simpa using h)
    exact ⟨v, by simpa using h1, h2⟩
/-- scalars are themselves -/
theorem DtAll.vals : ∀ {vs : List V} {xs : List V}, DtAll K N H Z vs (xs.map D.v) → vs = xs
  | _, [], .nil => rfl
  | _, x :: xs, .cons (.v _) r => by rw [r.vals]
theorem DtAll.ofVals : ∀ (xs : List V), DtAll K N H Z xs (xs.map D.v)
  | [] => .nil
  | x :: xs => .cons (.v x) (DtAll.ofVals xs)
theorem DtAll.ints {vs : List V} {ns : List Int} (h : DtAll K N H Z vs (ns.map D.int)) : vs = ns.map V.int := by
  have e : ns.map D.int = (ns.map V.int).map D.v := by rw [List.map_map]; rfl
  rw [e] at h
  exact h.vals
theorem DtAll.ofInts (ns : List Int) : DtAll K N H Z (ns.map V.int) (ns.map D.int) := by
  have e : ns.map D.int = (ns.map V.int).map D.v := by rw [List.map_map]; rfl
  rw [e]
  exact .ofVals _
end

/-- the zone and one address more -/
abbrev Zp (Z : Addr → Prop) (p : Addr) : Addr → Prop := fun a => Z a ∨ a = p
section
variable {K : PySem.W.Frag} {N k : Ct} {Z : Addr → Prop} {H H' : Hp} {p : Addr}
theorem Gro.new (e : ExK k H H') (h : H p = none)   : Gro K N (N + k) Z (Zp Z p) H H' where
  tup := fun a xs h => e.tup h
  lst := fun a xs h1 z => ⟨e.lst h1, fun z' => z'.elim z fun e' => by rw [e', h] at h1; cases h1⟩
  scr := (Gro.ex (K := K) (N := N) (Z := Z) e).scr
  bag := (Gro.ex (K := K) (Z := Z) e).bag
  frz := fun a ob u h => e.frz h
  cod := fun a q h => e.cod h
  ins := fun a C dx fs h => e.kept h (fun φ z => by cases z)
  crd := (Gro.ex (K := K) (Z := Z) e).crd
end
/-! ### no list within: the zone does not matter -/
mutual
def D.lf : D → Bool
  | .v _ => true
  | .tup ds => D.lfs ds
  | .lst _ => false
  | .scr _ => false
  | .bag => true
  | .fix _ => false
def D.lfs : List D → Bool
  | [] => true
  | d :: ds => D.lf d && D.lfs ds
end
section
variable {K : PySem.W.Frag} {N : Ct} {Z Z' : Addr → Prop} {H : Hp}
mutual
theorem Dt.lfz : ∀ {v : V} {d : D}, Dt K N H Z v d → d.lf = true → Dt K N H Z' v d
  | _, _, .v x, _ => .v x
  | _, _, .tup h r, e => .tup h (DtAll.lfz r (by simpa [D.lf] using e))
  | _, _, .lst h z r, e => by simp [D.lf] at e
  | _, _, .scr h, e => by simp [D.lf] at e
  | _, _, .bag hm h, _ => .bag hm h
  | _, _, .fix _ _, e => by simp [D.lf] at e
theorem DtAll.lfz : ∀ {vs : List V} {ds : List D}, DtAll K N H Z vs ds → D.lfs ds = true → DtAll K N H Z' vs ds
  | _, _, .nil, _ => .nil
  | _, _, .cons h r, e => by
    simp only [D.lfs, Bool.and_eq_true] at e
    exact .cons (Dt.lfz h e.1) (DtAll.lfz r e.2)
end
end
theorem D.lfs_vals (xs : List V) : D.lfs (xs.map D.v) = true := by
  induction xs with
  | nil => rfl
  | cons x xs ih => simp [D.lfs, D.lf, ih]
theorem D.lfs_ints (ns : List Int) : D.lfs (ns.map D.int) = true := by
  induction ns with
  | nil => rfl
  | cons x xs ih => simp [D.lfs, D.lf, ih]

/-! ### what a slot holds: data, a list of the def's own, another name of such a list -/
inductive Sl where
  | dat (d : D)
  | own (ds : List D)
  | als (ds : List D)
def Sl.rd : Sl → D
  | .dat d => d
  | .own ds => .lst ds
  | .als ds => .lst ds
def Sl.nals : Sl → Bool
  | .als _ => false
  | _ => true
def Sl.lf : Sl → Bool
  | .dat d => d.lf
  | _ => false
abbrev StD := List (Option Sl)
def nth : StD → Nat → Option Sl
  | [], _ => none
  | s :: _, 0 => s
  | _ :: r, i + 1 => nth r i
def stn : StD → Nat → Sl → StD
  | [], _, _ => []
  | _ :: r, 0, s => some s :: r
  | a :: r, i + 1, s => a :: stn r i s
theorem nth_stn_same : ∀ {δ : StD} {i : Nat} {s t : Sl}, nth (stn δ i s) i = some t → t = s
  | [], _, _, _, h => by cases h
  | _ :: _, 0, _, _, h => (Option.some.inj h).symm
  | _ :: r, i + 1, _, _, h => nth_stn_same (δ := r) (i := i) h
theorem nth_stn_ne : ∀ {δ : StD} {i j : Nat} {s : Sl}, j ≠ i → nth (stn δ i s) j = nth δ j
  | [], _, _, _, _ => rfl
  | _ :: _, 0, 0, _, h => absurd rfl h
  | _ :: _, 0, _ + 1, _, _ => rfl
  | _ :: _, _ + 1, 0, _, _ => rfl
  | _ :: r, i + 1, j + 1, _, h => nth_stn_ne (δ := r) (i := i) (j := j) (fun e => h (by rw [e]))
theorem stn_length : ∀ {δ : StD} {i : Nat} {s : Sl}, (stn δ i s).length = δ.length
  | [], _, _ => rfl
  | _ :: _, 0, _ => rfl
  | _ :: r, i + 1, s => congrArg (· + 1) (stn_length (δ := r) (i := i) (s := s))
theorem nth_lt : ∀ {δ : StD} {i : Nat} {s : Sl}, nth δ i = some s → i < δ.length
  | [], _, _, h => by cases h
  | _ :: _, 0, _, _ => Nat.succ_pos _
  | _ :: r, i + 1, _, h => Nat.succ_lt_succ (nth_lt (δ := r) (i := i) h)
/-- what is global to a body: the written part, the wish about exceptions, the same by data -/
structure Gg where
  K : PySem.W.Frag
  E : XK
  Er : Value → Ct → Prop
  T : List Addr
/-- the entry: heap, zone, count -/
structure Bs where
  G : Gg
  H0 : Hp
  Z0 : Addr → Prop
  N0 : Ct
  eok : ∀ cls k H', ExK k H0 H' → G.Er cls (N0 + k) → G.E cls none H'
  tab : ∀ P ∈ G.T, LamX.TabS H0 P (TabNames.nm P)
abbrev Bs.K (B : Bs) : PySem.W.Frag := B.G.K
/-- a list of the zone, its items -/
def Zl (B : Bs) (N : Ct) (H : Hp) (Z : Addr → Prop) (v : V) (ds : List D) : Prop := ∃ a xs, v = .ref a ∧ Z a ∧ B.H0 a = none ∧ H a = some (.lst xs) ∧ DtAll B.K N H Z xs ds
/-- a slot's value -/
def Rp (B : Bs) (N : Ct) (H : Hp) (Z : Addr → Prop) (v : V) : Sl → Prop
  | .dat d => Dt B.K N H Z v d
  | .own ds => Zl B N H Z v ds
  | .als ds => Zl B N H Z v ds
/-- a value on the way: a list that is its own is fresh -/
def Tp (B : Bs) (N : Ct) (H : Hp) (Z : Addr → Prop) (v : V) : Sl → Prop
  | .dat d => Dt B.K N H Z v d
  | .own ds => Dt B.K N H Z v (.lst ds)
  | .als ds => Zl B N H Z v ds
/-- what is read: the outermost list may lie in the zone -/
def Dw (K : PySem.W.Frag) (N : Ct) (H : Hp) (Z : Addr → Prop) (v : V) : D → Prop
  | .lst ds => ∃ a xs, v = .ref a ∧ H a = some (.lst xs) ∧ DtAll K N H Z xs ds
  | d => Dt K N H Z v d
structure SD (B : Bs) (Z : Addr → Prop) (δ : StD) (σ : L2.St) (H : Hp) (N : Ct) : Prop where
  ex : ∃ k, N = B.N0 + k ∧ ExK k B.H0 H
  z0 : ∀ a, B.Z0 a → Z a
  z1 : ∀ a, B.Z0 a → B.H0 a ≠ none
  zt : ∀ a, Z a → ∃ xs, H a = some (.lst xs)
  len : δ.length = σ.length
  slot : ∀ (i : Nat) (s : Sl), nth δ i = some s → ∃ v, σ[i]? = some (some v) ∧ Rp B N H Z v s
  nals : ∀ (i : Nat) (ds : List D), nth δ i ≠ some (.als ds)
  d1 : ∀ (i j : Nat) (ds es : List D), i ≠ j → nth δ i = some (.own ds) → nth δ j = some (.own es) → σ[i]? ≠ σ[j]?
section
variable {B : Bs} {Z : Addr → Prop} {δ : StD} {σ : L2.St} {H H' : Hp} {N k : Ct}
theorem Zl.ex (e : ExK k H H') {v : V} {ds : List D} (h : Zl B N H Z v ds) : Zl B (N + k) H' Z v ds := by
  obtain ⟨a, xs, rfl, z, h0, ha, r⟩ := h
  exact ⟨a, xs, rfl, z, h0, e.lst ha, r.ex e⟩
theorem Rp.ex (e : ExK k H H') {v : V} {s : Sl} (h : Rp B N H Z v s) : Rp B (N + k) H' Z v s := by
  cases s with
  | dat d => exact Dt.ex e h
  | own ds => exact Zl.ex e h
  | als ds => exact Zl.ex e h
theorem Tp.ex (e : ExK k H H') {v : V} {s : Sl} (h : Tp B N H Z v s) : Tp B (N + k) H' Z v s := by
  cases s with
  | dat d => exact Dt.ex e h
  | own ds => exact Dt.ex e h
  | als ds => exact Zl.ex e h
theorem SD.ext (S : SD B Z δ σ H N) (e : ExK k H H') : SD B Z δ σ H' (N + k) where
  ex := by
    obtain ⟨j, hj, hx⟩ := S.ex
    exact ⟨j + k, by rw [hj, Ct.assoc], hx.trans e⟩
  z0 := S.z0
  z1 := S.z1
  zt := fun a z => by
    obtain ⟨xs, h⟩ := S.zt a z
    exact ⟨xs, e.lst h⟩
  len := S.len
  slot := fun i s h => by
    obtain ⟨v, h1, h2⟩ := S.slot i s h
    exact ⟨v, h1, h2.ex e⟩
  nals := S.nals
  d1 := S.d1
theorem SD.ext0 (S : SD B Z δ σ H N) (e : ExK 0 H H') : SD B Z δ σ H' N := S.ext e
theorem Dw.of {K : PySem.W.Frag} {v : V} {d : D} (h : Dt K N H Z v d) : Dw K N H Z v d := by
  cases h with
  | v => exact .v _
  | tup h r => exact .tup h r
  | lst h z r => exact ⟨_, _, rfl, h, r⟩
  | scr h => exact .scr h
  | bag hm h => exact .bag hm h
  | fix s h => exact .fix s h
theorem Dw.ex {K : PySem.W.Frag} {v : V} {d : D} (h : Dw K N H Z v d) (e : ExK k H H') : Dw K (N + k) H' Z v d := by
  cases d with
  | v x => exact Dt.ex e h
  | tup ds => exact Dt.ex e h
  | lst ds =>
    obtain ⟨a, xs, rfl, ha, r⟩ := h
    exact ⟨a, xs, rfl, e.lst ha, r.ex e⟩
  | scr ns => exact Dt.ex e h
  | bag => exact Dt.ex e h
  | fix P => exact Dt.ex e h
theorem Tp.dw {v : V} {s : Sl} (h : Tp B N H Z v s) : Dw B.K N H Z v s.rd := by
  cases s with
  | dat d => exact Dw.of h
  | own ds => exact Dw.of (show Dt B.K N H Z v (.lst ds) from h)
  | als ds =>
    obtain ⟨a, xs, rfl, z, h0, ha, r⟩ := h
    exact ⟨a, xs, rfl, ha, r⟩
end
end DL

/-! DLb: judgements by data; expressions. -/
namespace DL
open PySem PySem.Spec PyProof.Rows L2
variable [TabNames]

/-- a test by computation; two ways -/
def chk : Bool → Prop → Prop
  | true, p => p
  | false, _ => False
def wif : Bool → Prop → Prop → Prop
  | true, p, _ => p
  | false, _, q => q
def ng : Bool → Bool → Bool
  | true, b => !b
  | false, b => b
def shortL {α : Type} : List α → Nat → Bool
  | [], _ => true
  | _ :: r, n + 1 => shortL r n
  | _ :: _, 0 => false
@[simp] theorem chk_tt {p : Prop} : chk true p = p := rfl
@[simp] theorem chk_ff {p : Prop} : chk false p = False := rfl
@[simp] theorem wif_tt {p q : Prop} : wif true p q = p := rfl
@[simp] theorem wif_ff {p q : Prop} : wif false p q = q := rfl
@[simp] theorem ng_tt {b : Bool} : ng true b = !b := rfl
@[simp] theorem ng_ff {b : Bool} : ng false b = b := rfl
@[simp] theorem shortL_0 {α : Type} {n : Nat} : shortL ([] : List α) n = true := rfl
@[simp] theorem shortL_s {α : Type} {n : Nat} {a : α} {r : List α} : shortL (a :: r) (n + 1) = shortL r n := rfl
def lenIs {α : Type} : List α → Nat → Bool
  | [], 0 => true
  | _ :: r, n + 1 => lenIs r n
  | _, _ => false
@[simp] theorem lenIs_0 {α : Type} : lenIs ([] : List α) 0 = true := rfl
@[simp] theorem lenIs_s {α : Type} {n : Nat} {a : α} {r : List α} : lenIs (a :: r) (n + 1) = lenIs r n := rfl
theorem lenIs_len {α : Type} : ∀ {l : List α} {n : Nat}, lenIs l n = true → l.length = n
  | [], 0, _ => rfl
  | _ :: r, n + 1, h => congrArg (· + 1) (lenIs_len (l := r) (n := n) h)
  | [], n + 1, h => by cases h
  | _ :: _, 0, h => by cases h
theorem chk_iff {b : Bool} {p : Prop} : chk b p ↔ b = true ∧ p := by cases b <;> simp
theorem chk_of {b : Bool} {p : Prop} (h : b = true) (q : p) : chk b p := chk_iff.mpr ⟨h, q⟩
theorem wif_t {b : Bool} {p q : Prop} (h : b = true) (a : p) : wif b p q := by subst h; exact a
theorem wif_f {b : Bool} {p q : Prop} (h : b = false) (a : q) : wif b p q := by subst h; exact a
theorem wif_2 {b : Bool} {p q : Prop} (h1 : b = true → p) (h2 : b = false → q) : wif b p q := by
  cases b
  · exact h2 rfl
  · exact h1 rfl
theorem wif_d {c : Prop} [Decidable c] {p q : Prop} (h1 : c → p) (h2 : ¬ c → q) : wif (decide c) p q := by
  by_cases h : c
  · rw [decide_eq_true h]; exact h1 h
  · rw [decide_eq_false h]; exact h2 h
theorem wif_n {c : Prop} [Decidable c] {p q : Prop} (h1 : ¬ c → p) (h2 : c → q) : wif (!decide c) p q := by
  by_cases h : c
  · rw [decide_eq_true h]; exact h2 h
  · rw [decide_eq_false h]; exact h1 h
theorem shortL_len {α : Type} : ∀ {l : List α} {n : Nat}, shortL l n = true → l.length ≤ n
  | [], _, _ => Nat.zero_le _
  | _ :: r, n + 1, h => Nat.succ_le_succ (shortL_len (l := r) (n := n) h)
abbrev DK := Sl → Ct → Prop
abbrev DE := StD → Ct → DK → Prop
abbrev DT := StD → Ct → (Bool → Ct → Prop) → Prop
abbrev DA := StD → Ct → (List Sl → Ct → Prop) → Prop
abbrev D2 := D → D → (Sl → Prop) → Prop
abbrev DC := List D → (Sl → Prop) → Prop

/-- an expression's end, from H to H' -/
def Rs (B : Bs) (N : Ct) (H H' : Hp) (Z : Addr → Prop) (v : V) : Sl → Prop
  | .dat d => Dt B.K N H' Z v d
  | .own ds => ∃ p xs, v = .ref p ∧ H p = none ∧ H' p = some (.lst xs) ∧ DtAll B.K N H' (Zp Z p) xs ds
  | .als ds => Zl B N H' Z v ds
abbrev Zt (Z : Addr → Prop) (H : Hp) : Prop := ∀ a, Z a → ∃ xs, H a = some (.lst xs)
theorem Zt.ex {Z : Addr → Prop} {H H' : Hp} {k : Ct} (z : Zt Z H) (e : ExK k H H') : Zt Z H' := fun a h => by
  obtain ⟨xs, h1⟩ := z a h
  exact ⟨xs, e.lst h1⟩
theorem Zt.fresh {Z : Addr → Prop} {H : Hp} {p : Addr} (z : Zt Z H) (h : H p = none) : ¬ Z p := fun h' => by
  obtain ⟨xs, e⟩ := z p h'
  rw [h] at e
  cases e
theorem DtAll.new {K : PySem.W.Frag} {N : Ct} {Z : Addr → Prop} {H : Hp} {p : Addr} {o : HO} {xs : List V} {ds : List D} (h : DtAll K N H Z xs ds) (hp : H p = none) : DtAll K N (upd H p o) (Zp Z p) xs ds := h.gro (.new (ExK.new hp) hp)
theorem Rs.tp {B : Bs} {N : Ct} {H H' : Hp} {Z : Addr → Prop} {v : V} {s : Sl} (z : Zt Z H) (h : Rs B N H H' Z v s) : Tp B N H' Z v s := by
  cases s with
  | dat d => exact h
  | own ds =>
    obtain ⟨p, xs, rfl, h0, h1, r⟩ := h
    exact .lst h1 (z.fresh h0) (r.gro (.zone (fun a h => .inl h) (Ct.le_refl _)))
  | als ds => exact h
/-- a later heap; a start further back -/
theorem Rs.back {B : Bs} {N k : Ct} {H H1 H' : Hp} {Z : Addr → Prop} {v : V} {s : Sl} (e : ExK k H H1) (h : Rs B N H1 H' Z v s) : Rs B N H H' Z v s := by
  cases s with
  | dat d => exact h
  | own ds =>
    obtain ⟨p, xs, rfl, h0, h1, r⟩ := h
    exact ⟨p, xs, rfl, e.back h0, h1, r⟩
  | als ds => exact h

structure Snd (G : Gg) (te : TE) (de : DE) : Prop where
  run : ∀ (B : Bs) Z δ σ H N (C : DK) (Q : VK), B.G = G → SD B Z δ σ H N → de δ N C →
    (∀ s v H' k, ExK k H H' → Rs B (N + k) H H' Z v s → C s (N + k) → Q v H') → te σ H Q
structure SndT (G : Gg) (tt : TT) (dt : DT) : Prop where
  run : ∀ (B : Bs) Z δ σ H N (C : Bool → Ct → Prop) (Q : Bool → Hp → Prop), B.G = G → SD B Z δ σ H N → dt δ N C →
    (∀ b H' k, ExK k H H' → C b (N + k) → Q b H') → tt σ H Q
structure SndA (G : Gg) (ta : TA) (da : DA) : Prop where
  run : ∀ (B : Bs) Z δ σ H N (C : List Sl → Ct → Prop) (Q : List V → Hp → Prop), B.G = G → SD B Z δ σ H N → da δ N C →
    (∀ ss vs H' k, ExK k H H' → Paired (Tp B (N + k) H' Z) vs ss → C ss (N + k) → Q vs H') → ta σ H Q
/-- two values -/
structure Snd2 (K : PySem.W.Frag) (r : R2) (dr : D2) : Prop where
  run : ∀ (B : Bs) Z N H x y d e (C : Sl → Prop) (Q : VK), B.K = K → Zt Z H → Dw B.K N H Z x d → Dw B.K N H Z y e → dr d e C →
    (∀ s v H', ExK 0 H H' → Rs B N H H' Z v s → C s → Q v H') → r x y H Q
/-- values of a call -/
structure SndC (K : PySem.W.Frag) (r : List V → Hp → VK → Prop) (dc : DC) : Prop where
  run : ∀ (B : Bs) Z N H xs ds (C : Sl → Prop) (Q : VK), B.K = K → Zt Z H → Paired (Dw B.K N H Z) xs ds → dc ds C →
    (∀ s v H', ExK 0 H H' → Rs B N H H' Z v s → C s → Q v H') → r xs H Q

structure XE (X : Cx) (G : Gg) (e : Expr) (t : TE) (d : DE) : Prop where
  pe : PE X e t
  sn : Snd G t d
structure XT (X : Cx) (G : Gg) (e : Expr) (t : TT) (d : DT) : Prop where
  pe : PT X e t
  sn : SndT G t d
structure XW (X : Cx) (G : Gg) (e : Expr) (t : TT) (d : DT) : Prop where
  pe : PW X e t
  sn : SndT G t d
structure XA (X : Cx) (G : Gg) (es : List Expr) (t : TA) (d : DA) : Prop where
  pe : PA X es t
  sn : SndA G t d
structure X2 (X : Cx) (f : Value → Value → Sem Value) (r : R2) (dr : D2) : Prop where
  op : OpR X f r
  sn : Snd2 X.K r dr
structure X2I (X : Cx) (r : R2) (dr : D2) : Prop where
  op : IxR X r
  sn : Snd2 X.K r dr
structure XC (X : Cx) (f : Value) (r : List V → Hp → VK → Prop) (dc : DC) : Prop where
  op : CallR X f r
  sn : SndC X.K r dc

theorem SD.ztt {B : Bs} {Z : Addr → Prop} {δ : StD} {σ : L2.St} {H : Hp} {N : Ct} (S : SD B Z δ σ H N) : Zt Z H := S.zt

/-! ### names, constants -/
def Sl.ali : Sl → Sl
  | .dat d => .dat d
  | .own ds => .als ds
  | .als ds => .als ds
@[simp] def dVar (i : Nat) : DE := fun δ N C => match nth δ i with
  | some s => C s.ali N
  | none => False
@[simp] def dC (v : V) : DE := fun _ N C => C (.dat (.v v)) N
section
variable {X : Cx} {G : Gg}
theorem snd_var {i : Nat} : Snd G (tVar i) (dVar i) := by
  refine ⟨fun B Z δ σ H N C Q hB S h q => ?_⟩
  unfold dVar at h
  cases hn : nth δ i with
  | none => rw [hn] at h; exact h.elim
  | some s =>
    rw [hn] at h
    obtain ⟨v, e1, r⟩ := S.slot i s hn
    refine ⟨v, e1, q s.ali v H 0 (ExK.refl H) ?_ h⟩
    cases s with
    | dat d => exact r
    | own ds => exact r
    | als ds => exact r
theorem snd_c {v : V} : Snd G (tC v) (dC v) := ⟨fun B Z δ σ H N C Q hB S h q => q (.dat (.v v)) v H 0 (ExK.refl H) (Dt.v v) h⟩
theorem xv (i : Nat) {x : Str} {pos : Pos} (hN : X.N[i]? = some x := by rfl) (hv : Vis X.env.scope x := by first | exact Or.inl rfl | exact Or.inr (Or.inl rfl) | exact Or.inr (Or.inr rfl)) (hd : (x == ("__debug__" : Str)) = false := by decide)
    (hcd : (x == ("__classdict__" : Str)) = false := by decide) : XE X G (.Name x pos) (tVar i) (dVar i) := ⟨pe_var hN hv hd hcd, snd_var⟩
theorem x_int {i j pos} : XE X G (.Constant (.int i) j pos) (tC (.int i)) (dC (.int i)) := ⟨pe_int, snd_c⟩
theorem x_bl {b j pos} : XE X G (.Constant (.bool b) j pos) (tC (.bl b)) (dC (.bl b)) := ⟨pe_bl, snd_c⟩
theorem x_non {j pos} : XE X G (.Constant .none j pos) (tC .non) (dC .non) := ⟨pe_non, snd_c⟩
theorem x_str {x j pos} : XE X G (.Constant (.str x) j pos) (tC (.str x)) (dC (.str x)) := ⟨pe_str, snd_c⟩
theorem x_glob {x : Str} {v : V} {u : Value} {pos : Pos} (hg : Gl X x) (hm : X.mg x = some u) (r : RelV v u) (hd : (x == ("__debug__" : Str)) = false := by decide) : XE X G (.Name x pos) (tC v) (dC v) := ⟨pe_glob hg hm r hd, snd_c⟩
theorem x_bltn {x : Str} {v : V} {u : Value} {pos : Pos} (hg : Gl X x) (hm : X.mg x = none) (hv : bootBuiltins x = some u) (r : RelV v u) (hn : x ≠ "__name__" := by decide) (hd : (x == ("__debug__" : Str)) = false := by decide) : XE X G (.Name x pos) (tC v) (dC v) :=
  ⟨pe_bltn hg hm hv r hn hd, snd_c⟩
end

/-! ### two in a row -/
@[simp] def dOp (dr : D2) (da db : DE) : DE := fun δ N C => da δ N fun s N1 => db δ N1 fun u N2 => dr s.rd u.rd fun z => C z N2
section
variable {X : Cx} {G : Gg} {a b c : Expr} {ta tb tc : TE} {da db dc : DE} {r : R2} {dr : D2} {pos : Pos}
theorem snd_op (ha : Snd G ta da) (hb : Snd G tb db) (hr : Snd2 G.K r dr) : Snd G (tOp r ta tb) (dOp dr da db) := by
  refine ⟨fun B Z δ σ H N C Q hB S h q => ?_⟩
  refine ha.run B Z δ σ H N _ _ hB S h fun s x H1 k1 e1 r1 h1 => ?_
  refine hb.run B Z δ σ H1 (N + k1) _ _ hB (S.ext e1) h1 fun u y H2 k2 e2 r2 h2 => ?_
  have w1 : Dw B.K (N + k1 + k2) H2 Z x s.rd := (r1.tp S.ztt).dw.ex e2
  have w2 : Dw B.K (N + k1 + k2) H2 Z y u.rd := (r2.tp (S.ztt.ex e1)).dw
  refine hr.run B Z (N + k1 + k2) H2 x y s.rd u.rd _ Q (by rw [← hB]) ((S.ztt.ex e1).ex e2) w1 w2 h2 fun z v H3 e3 r3 h3 => ?_
  have e : ExK (k1 + k2) H H2 := e1.trans e2
  have e' : ExK (k1 + k2) H H3 := e.trans e3
  rw [Ct.assoc] at r3 h3
  exact q z v H3 (k1 + k2) e' (r3.back e) h3
theorem x_op {op : Operator} (ho : X2 X (binaryOp op) r dr) (ha : XE X G a ta da) (hb : XE X G b tb db) (hK : G.K = X.K := by rfl) : XE X G (.BinOp a op b pos) (tOp r ta tb) (dOp dr da db) :=
  ⟨pe_op ho.op ha.pe hb.pe, snd_op ha.sn hb.sn (by rw [hK]; exact ho.sn)⟩
theorem x_cmp {op : CmpOp} (ho : X2 X (compareOp op) r dr) (ha : XE X G a ta da) (hb : XE X G b tb db) (hm : behindInMarks op b = false := by first | exact nomark _ | rfl | with_unfolding_all rfl) (hK : G.K = X.K := by rfl) : XE X G (.Compare a [op] [b] pos) (tOp r ta tb) (dOp dr da db) :=
  ⟨pe_cmpR ho.op ha.pe hb.pe hm, snd_op ha.sn hb.sn (by rw [hK]; exact ho.sn)⟩
theorem x_ix (ho : X2I X r dr) (ha : XE X G a ta da) (hb : XE X G b tb db) (hs : PlainIx b := by exact fun _ _ => rfl) (hK : G.K = X.K := by rfl) : XE X G (.Subscript a b pos) (tOp r ta tb) (dOp dr da db) :=
  ⟨pe_ix ho.op ha.pe hb.pe hs, snd_op ha.sn hb.sn (by rw [hK]; exact ho.sn)⟩
/-- a value as a test -/
@[simp] def dTest (de : DE) : DT := fun δ N C => de δ N fun s N1 => match s with
  | .dat (.v (.bl b)) => C b N1
  | _ => False
theorem snd_test (h : Snd G ta da) : SndT G (tTest ta) (dTest da) := by
  refine ⟨fun B Z δ σ H N C Q hB S hd q => ?_⟩
  refine h.run B Z δ σ H N _ _ hB S hd fun s x H1 k1 e1 r1 h1 => ?_
  cases s with
  | dat d =>
    cases d with
    | v y =>
      cases y with
      | bl b =>
        have r1' : Dt B.K (N + k1) H1 Z x (.v (.bl b)) := r1
        cases r1'
        exact ⟨b, rfl, q b H1 k1 e1 h1⟩
      | _ => exact False.elim h1
    | _ => exact False.elim h1
  | own ds => exact False.elim h1
  | als ds => exact False.elim h1
theorem snd_B (h : Snd G ta da) : SndT G (tB ta) (dTest da) := ⟨(snd_test h).run⟩
theorem xt_cmp {op : CmpOp} (ho : X2 X (compareOp op) r dr) (ha : XE X G a ta da) (hb : XE X G b tb db) (hm : behindInMarks op b = false := by first | exact nomark _ | rfl | with_unfolding_all rfl) (hK : G.K = X.K := by rfl) : XT X G (.Compare a [op] [b] pos) (tTest (tOp r ta tb)) (dTest (dOp dr da db)) :=
  ⟨pt_cmpR ho.op ha.pe hb.pe hm, snd_test (snd_op ha.sn hb.sn (by rw [hK]; exact ho.sn))⟩
end
end DL

/-! DLc: operators by data. -/
namespace DL
open PySem PySem.Spec PyProof.Rows L2
variable [TabNames]

section
variable {K : PySem.W.Frag} {N : Ct} {H : Hp} {Z : Addr → Prop} {x : V}
theorem Dw.v_inv {y : V} (h : Dw K N H Z x (.v y)) : x = y := by
  have h' : Dt K N H Z x (.v y) := h
  cases h'
  rfl
theorem Dw.tup_inv {ds : List D} (h : Dw K N H Z x (.tup ds)) : ∃ a xs, x = .ref a ∧ H a = some (.tup xs) ∧ DtAll K N H Z xs ds := by
  have h' : Dt K N H Z x (.tup ds) := h
  cases h' with
  | tup h1 r => exact ⟨_, _, rfl, h1, r⟩
theorem Dw.scr_inv {ns : List Int} (h : Dw K N H Z x (.scr ns)) : ∃ a, x = .ref a ∧ SqL K H a (ns.map V.int) := by
  have h' : Dt K N H Z x (.scr ns) := h
  cases h' with
  | scr h1 => exact ⟨_, rfl, h1.l⟩
end

/-! ### ints -/
def dI (C : Int → Int → Prop) (g : Int → Int → V) : D2 := fun d e k => match d, e with
  | .v (.int i), .v (.int j) => C i j ∧ k (.dat (.v (g i j)))
  | _, _ => False
def dI0 (g : Int → Int → V) : D2 := fun d e k => match d, e with
  | .v (.int i), .v (.int j) => k (.dat (.v (g i j)))
  | _, _ => False
theorem sn_I {K : PySem.W.Frag} {C : Int → Int → Prop} {g : Int → Int → V} : Snd2 K (rI C g) (dI C g) := by
  refine ⟨fun B Z N H x y d e k Q hK hz hx hy h q => ?_⟩
  subst hK
  unfold dI at h
  split at h
  · rename_i i j
    exact ⟨i, j, hx.v_inv, hy.v_inv, h.1, q (.dat (.v (g i j))) _ H (ExK.refl H) (Dt.v _) h.2⟩
  · exact h.elim
theorem sn_I0 {K : PySem.W.Frag} {g : Int → Int → V} : Snd2 K (rI0 g) (dI0 g) := by
  refine ⟨fun B Z N H x y d e k Q hK hz hx hy h q => ?_⟩
  subst hK
  unfold dI0 at h
  split at h
  · rename_i i j
    exact ⟨i, j, hx.v_inv, hy.v_inv, q (.dat (.v (g i j))) _ H (ExK.refl H) (Dt.v _) h⟩
  · exact h.elim
section
variable {X : Cx}
theorem o_sub : X2 X (binaryOp .Sub) (rI0 fun i j => .int (i - j)) (dI0 fun i j => .int (i - j)) := ⟨op_sub, sn_I0⟩
theorem o_mul : X2 X (binaryOp .Mult) (rI CMul fun i j => .int (i * j)) (dI CMul fun i j => .int (i * j)) := ⟨op_mul, sn_I⟩
theorem o_fdiv : X2 X (binaryOp .FloorDiv) (rI CDiv fun i j => .int (i / j)) (dI CDiv fun i j => .int (i / j)) := ⟨op_fdiv, sn_I⟩
theorem o_mod : X2 X (binaryOp .Mod) (rI (fun _ j => 0 < j) fun i j => .int (i % j)) (dI (fun _ j => 0 < j) fun i j => .int (i % j)) := ⟨op_mod, sn_I⟩
theorem o_pow : X2 X (binaryOp .Pow) (rI CPow fun i j => .int (i ^ j.toNat)) (dI CPow fun i j => .int (i ^ j.toNat)) := ⟨op_pow, sn_I⟩
theorem o_lt : X2 X (compareOp .Lt) (rI0 fun i j => .bl (decide (i < j))) (dI0 fun i j => .bl (decide (i < j))) := ⟨op_lt, sn_I0⟩
theorem o_le : X2 X (compareOp .LtE) (rI0 fun i j => .bl (decide (i ≤ j))) (dI0 fun i j => .bl (decide (i ≤ j))) := ⟨op_le, sn_I0⟩
theorem o_gt : X2 X (compareOp .Gt) (rI0 fun i j => .bl (decide (j < i))) (dI0 fun i j => .bl (decide (j < i))) := ⟨op_gt, sn_I0⟩
theorem o_ge : X2 X (compareOp .GtE) (rI0 fun i j => .bl (decide (j ≤ i))) (dI0 fun i j => .bl (decide (j ≤ i))) := ⟨op_ge, sn_I0⟩
end

/-! ### + of ints, tuples, lists -/
@[simp] def dAdd : D2 := fun d e k => match d, e with
  | .v (.int i), .v (.int j) => k (.dat (.int (i + j)))
  | .tup ds, .tup es => ds.length + es.length ≤ 100000 ∧ k (.dat (.tup (ds ++ es)))
  | .lst ds, .lst es => ds.length + es.length ≤ 100000 ∧ k (.own (ds ++ es))
  | _, _ => False
def rAddA (K : PySem.W.Frag) : R2 := fun x y H Q => rI0 (fun i j => .int (i + j)) x y H Q ∨ (rCatA K x y H Q ∨ rCat x y H Q)
theorem size_of {n : Nat} (h : n ≤ 100000) : n ≤ sizeLine := Nat.le_trans h (by decide)
theorem size_lt {n : Nat} (h : n < 100000) : n < sizeLine := Nat.lt_of_lt_of_le h (by decide)
theorem sn_add {K : PySem.W.Frag} : Snd2 K (rAddA K) dAdd := by
  refine ⟨fun B Z N H x y d e k Q hK hz hx hy h q => ?_⟩
  subst hK
  unfold dAdd at h
  split at h
  · rename_i i j
    exact .inl ⟨i, j, hx.v_inv, hy.v_inv, q (.dat (.v _)) _ H (ExK.refl H) (Dt.v _) h⟩
  · rename_i ds es
    obtain ⟨a, xs, rfl, ha, ra⟩ := hx.tup_inv
    obtain ⟨b, ys, rfl, hb, rb⟩ := hy.tup_inv
    have r := ra.append rb
    refine .inr (.inl ⟨a, b, xs, ys, rfl, rfl, .of ha, .of hb, by rw [ra.length, rb.length]; exact size_of h.1, ?_, ?_, ?_⟩)
    · rintro rfl
      cases ra
      exact q (.dat (.tup es)) _ H (ExK.refl H) (Dt.tup hb rb) h.2
    · rintro _ rfl
      cases rb
      have h2 := h.2
      rw [List.append_nil] at h2
      exact q (.dat (.tup ds)) _ H (ExK.refl H) (Dt.tup ha ra) h2
    · intro _ _ p hp
      have ep := ExK.new (o := .tup (xs ++ ys)) hp
      exact q (.dat (.tup (ds ++ es))) _ _ ep (Dt.tup upd_same (r.ex0 ep)) h.2
  · rename_i ds es
    obtain ⟨a, xs, rfl, ha, ra⟩ := hx
    obtain ⟨b, ys, rfl, hb, rb⟩ := hy
    refine .inr (.inr ⟨a, b, xs, ys, rfl, rfl, ha, hb, by rw [ra.length, rb.length]; exact size_of h.1, fun p hp => ?_⟩)
    have ep := ExK.new (o := .lst (xs ++ ys)) hp
    exact q (.own (ds ++ es)) _ _ ep ⟨p, _, rfl, hp, upd_same, (ra.append rb).new hp⟩ h.2
  · exact h.elim
section
variable {X : Cx}
theorem o_add : X2 X (binaryOp .Add) (rAddA X.K) dAdd := ⟨op_add.or (op_catA.or op_cat), sn_add⟩
end

/-! ### is None, is True -/
def D.isV (y : V) : D → Bool
  | .v x => decide (x = y)
  | _ => false
@[simp] theorem isV_1 {x y : V} : D.isV y (.v x) = decide (x = y) := rfl
@[simp] theorem isV_2 {y : V} {ds : List D} : D.isV y (.tup ds) = false := rfl
@[simp] theorem isV_3 {y : V} {ds : List D} : D.isV y (.lst ds) = false := rfl
@[simp] def dIs (neg : Bool) : D2 := fun d e k => match e with
  | .v .non => k (.dat (.bl (ng neg (d.isV .non))))
  | .v (.bl b) => match d with
    | .v (.bl a) => k (.dat (.bl (ng neg (decide (a = b)))))
    | _ => False
  | _ => False
def rIsA : R2 := fun x y H Q => rIsN x y H Q ∨ rIsB x y H Q
def rNotA : R2 := fun x y H Q => rNotN x y H Q ∨ rNotB x y H Q
theorem isV_non {K : PySem.W.Frag} {N : Ct} {H : Hp} {Z : Addr → Prop} {x : V} {d : D} (h : Dw K N H Z x d) : decide (x = .non) = d.isV .non := by
  cases d with
  | v y => rw [h.v_inv]; rfl
  | tup ds =>
    obtain ⟨a, xs, rfl, _⟩ := h.tup_inv
    rfl
  | lst ds =>
    obtain ⟨a, xs, rfl, _⟩ := h
    rfl
  | scr ns =>
    obtain ⟨a, rfl, _⟩ := h.scr_inv
    rfl
  | bag =>
    have h' : Dt K N H Z x .bag := h
    cases h'
    rfl
  | fix P =>
    have h' : Dt K N H Z x (.fix P) := h
    cases h'
    rfl
theorem sn_is {K : PySem.W.Frag} : Snd2 K rIsA (dIs false) := by
  refine ⟨fun B Z N H x y d e k Q hK hz hx hy h q => ?_⟩
  subst hK
  unfold dIs at h
  split at h
  · refine .inl ⟨hy.v_inv, ?_⟩
    rw [isV_non hx]
    exact q (.dat (.v _)) _ H (ExK.refl H) (Dt.v _) h
  · split at h
    · rename_i a
      exact .inr ⟨_, _, hx.v_inv, hy.v_inv, q (.dat (.v _)) _ H (ExK.refl H) (Dt.v _) h⟩
    · exact h.elim
  · exact h.elim
theorem sn_isnot {K : PySem.W.Frag} : Snd2 K rNotA (dIs true) := by
  refine ⟨fun B Z N H x y d e k Q hK hz hx hy h q => ?_⟩
  subst hK
  unfold dIs at h
  split at h
  · refine .inl ⟨hy.v_inv, ?_⟩
    rw [isV_non hx]
    exact q (.dat (.v _)) _ H (ExK.refl H) (Dt.v _) h
  · split at h
    · rename_i a
      exact .inr ⟨_, _, hx.v_inv, hy.v_inv, q (.dat (.v _)) _ H (ExK.refl H) (Dt.v _) h⟩
    · exact h.elim
  · exact h.elim
section
variable {X : Cx}
theorem o_is : X2 X (compareOp .Is) rIsA (dIs false) := ⟨op_isN1.or op_isBl, sn_is⟩
theorem o_isnot : X2 X (compareOp .IsNot) rNotA (dIs true) := ⟨op_notN1.or op_notBl, sn_isnot⟩
end

/-! ### == of data -/
mutual
def D.py : D → PyData
  | .v .non => .none
  | .v (.bl b) => .bool b
  | .v (.int i) => .int i
  | .v (.str x) => .str x
  | .v _ => .none
  | .tup ds => .tuple (D.pys ds)
  | .lst ds => .list (D.pys ds)
  | _ => .none
def D.pys : List D → List PyData
  | [] => []
  | d :: ds => D.py d :: D.pys ds
end
mutual
def D.eqb : D → D → Bool
  | .v x, .v y => eqV x y
  | .tup ds, .tup es => D.eqbs ds es
  | .lst ds, .lst es => D.eqbs ds es
  | _, _ => false
def D.eqbs : List D → List D → Bool
  | [], [] => true
  | d :: ds, e :: es => D.eqb d e && D.eqbs ds es
  | _, _ => false
end
mutual
def D.ok : Nat → D → Bool
  | _, .v .non => true
  | _, .v (.bl _) => true
  | _, .v (.int _) => true
  | _, .v (.str x) => PyData.strOk x
  | n + 1, .tup ds => D.oks n ds
  | n + 1, .lst ds => D.oks n ds
  | _, _ => false
def D.oks : Nat → List D → Bool
  | _, [] => true
  | n, d :: ds => D.ok n d && D.oks n ds
end
mutual
theorem D.ok_shape : ∀ (n : Nat) (d : D), d.ok n = true → d.py.canLay0 = true ∧ d.py.depth ≤ n
  | _, .v .non, _ => ⟨rfl, Nat.zero_le _⟩
  | _, .v (.bl _), _ => ⟨rfl, Nat.zero_le _⟩
  | _, .v (.int _), _ => ⟨rfl, Nat.zero_le _⟩
  | _, .v (.str x), h => ⟨by simpa [D.ok, D.py, PyData.canLay0] using h, Nat.zero_le _⟩
  | n + 1, .tup ds, h => by
    have h' := D.oks_shape n ds (by simpa [D.ok] using h)
    exact ⟨by simpa [D.py, PyData.canLay0] using h'.1, by simpa [D.py, PyData.depth] using h'.2⟩
  | n + 1, .lst ds, h => by
    have h' := D.oks_shape n ds (by simpa [D.ok] using h)
    exact ⟨by simpa [D.py, PyData.canLay0] using h'.1, by simpa [D.py, PyData.depth] using h'.2⟩
  | 0, .tup ds, h => by simp [D.ok] at h
  | 0, .lst ds, h => by simp [D.ok] at h
  | _, .v (.byt _), h => by simp [D.ok] at h
  | _, .v (.flt _), h => by simp [D.ok] at h
  | _, .v (.ref _), h => by simp [D.ok] at h
  | _, .v (.ty _), h => by simp [D.ok] at h
  | _, .scr _, h => by simp [D.ok] at h
  | _, .bag, h => by simp [D.ok] at h
  | _, .fix _, h => by simp [D.ok] at h
theorem D.oks_shape : ∀ (n : Nat) (ds : List D), D.oks n ds = true → PyData.canLayAll0 (D.pys ds) = true ∧ PyData.depthAll (D.pys ds) ≤ n
  | _, [], _ => ⟨rfl, Nat.zero_le _⟩
  | n, d :: ds, h => by
    simp only [D.oks, Bool.and_eq_true] at h
    have h1 := D.ok_shape n d h.1
    have h2 := D.oks_shape n ds h.2
    refine ⟨by simp [D.pys, PyData.canLayAll0, h1.1, h2.1], ?_⟩
    simp only [D.pys, PyData.depthAll]
    exact Nat.max_le.mpr ⟨h1.2, h2.2⟩
end
theorem D.shaped {d : D} (h : d.ok 20 = true) : SeqAt.shaped d.py = true := by
  have h' := D.ok_shape 20 d h
  unfold SeqAt.shaped
  rw [Bool.and_eq_true]
  exact ⟨h'.1, decide_eq_true (Nat.le_trans h'.2 (by decide))⟩
mutual
theorem D.eqb_py : ∀ (n m : Nat) (d e : D), d.ok n = true → e.ok m = true → PyData.eqv d.py e.py = d.eqb e
  | n, m, .v x, .v y, hd, he => by
    cases x <;> first
      | (simp [D.ok] at hd; done)
      | (cases y <;> first
          | (simp [D.ok] at he; done)
          | (simp [D.py, PyData.eqv, D.eqb, eqV]; done)
          | (simp only [D.py, PyData.eqv, D.eqb, eqV]; done))
  | n + 1, m + 1, .tup ds, .tup es, hd, he => by
    have h := D.eqbs_py n m ds es (by simpa [D.ok] using hd) (by simpa [D.ok] using he)
    simpa [D.py, PyData.eqv, D.eqb] using h
  | n + 1, m + 1, .lst ds, .lst es, hd, he => by
    have h := D.eqbs_py n m ds es (by simpa [D.ok] using hd) (by simpa [D.ok] using he)
    simpa [D.py, PyData.eqv, D.eqb] using h
  | 0, _, .tup ds, _, hd, _ => by simp [D.ok] at hd
  | 0, _, .lst ds, _, hd, _ => by simp [D.ok] at hd
  | _, 0, _, .tup ds, _, hd => by simp [D.ok] at hd
  | _, 0, _, .lst ds, _, hd => by simp [D.ok] at hd
  | _, _, .scr _, _, hd, _ => by simp [D.ok] at hd
  | _, _, .bag, _, hd, _ => by simp [D.ok] at hd
  | _, _, _, .scr _, _, hd => by simp [D.ok] at hd
  | _, _, _, .bag, _, hd => by simp [D.ok] at hd
  | _, _, .fix _, _, hd, _ => by simp [D.ok] at hd
  | _, _, _, .fix _, _, hd => by simp [D.ok] at hd
  | n, m + 1, .v x, .tup es, hd, he => by
    cases x <;> first
      | (simp [D.ok] at hd; done)
      | (simp [D.py, PyData.eqv, D.eqb]; done)
  | n, m + 1, .v x, .lst es, hd, he => by
    cases x <;> first
      | (simp [D.ok] at hd; done)
      | (simp [D.py, PyData.eqv, D.eqb]; done)
  | n + 1, m, .tup es, .v x, hd, he => by
    cases x <;> first
      | (simp [D.ok] at he; done)
      | (simp [D.py, PyData.eqv, D.eqb]; done)
  | n + 1, m, .lst es, .v x, hd, he => by
    cases x <;> first
      | (simp [D.ok] at he; done)
      | (simp [D.py, PyData.eqv, D.eqb]; done)
  | n + 1, m + 1, .tup es, .lst _, hd, he => by simp [D.py, PyData.eqv, D.eqb]
  | n + 1, m + 1, .lst es, .tup _, hd, he => by simp [D.py, PyData.eqv, D.eqb]
theorem D.eqbs_py : ∀ (n m : Nat) (ds es : List D), D.oks n ds = true → D.oks m es = true → PyData.eqvAll (D.pys ds) (D.pys es) = D.eqbs ds es
  | _, _, [], [], _, _ => rfl
  | n, m, d :: ds, e :: es, hd, he => by
    simp only [D.oks, Bool.and_eq_true] at hd he
    simp [D.pys, PyData.eqvAll, D.eqbs, D.eqb_py n m d e hd.1 he.1, D.eqbs_py n m ds es hd.2 he.2]
  | _, _, [], _ :: _, _, _ => rfl
  | _, _, _ :: _, [], _, _ => rfl
end
section
variable {K : PySem.W.Frag} {N : Ct} {H : Hp} {Z : Addr → Prop}
mutual
theorem Dt.dp : ∀ (n : Nat) {x : V} {d : D}, Dt K N H Z x d → d.ok n = true → Dp K H x d.py
  | _, _, _, .v .non, _ => .non
  | _, _, _, .v (.bl b), _ => .bl b
  | _, _, _, .v (.int i), _ => .int i
  | _, _, _, .v (.str x), _ => .str x
  | _, _, _, .v (.byt _), h => by simp [D.ok] at h
  | _, _, _, .v (.flt _), h => by simp [D.ok] at h
  | _, _, _, .v (.ref _), h => by simp [D.ok] at h
  | _, _, _, .v (.ty _), h => by simp [D.ok] at h
  | n + 1, _, _, .tup h r, e => .tup (.of h) (DtAll.dp n r (by simpa [D.ok] using e))
  | n + 1, _, _, .lst h z r, e => .lst (.of h) (DtAll.dp n r (by simpa [D.ok] using e))
  | 0, _, _, .tup h r, e => by simp [D.ok] at e
  | 0, _, _, .lst h z r, e => by simp [D.ok] at e
  | _, _, _, .scr _, h => by simp [D.ok] at h
  | _, _, _, .bag _ _, h => by simp [D.ok] at h
  | _, _, _, .fix _ _, h => by simp [D.ok] at h
theorem DtAll.dp : ∀ (n : Nat) {xs : List V} {ds : List D}, DtAll K N H Z xs ds → D.oks n ds = true → DpAll K H xs (D.pys ds)
  | _, _, _, .nil, _ => .nil
  | n, _, _, .cons h r, e => by
    simp only [D.oks, Bool.and_eq_true] at e
    exact .cons (Dt.dp n h e.1) (DtAll.dp n r e.2)
end
theorem Dw.dp {x : V} {d : D} (h : Dw K N H Z x d) (e : d.ok 20 = true) : Dp K H x d.py := by
  cases d with
  | lst ds =>
    obtain ⟨a, xs, rfl, ha, r⟩ := h
    exact .lst (.of ha) (r.dp 19 (by simpa [D.ok] using e))
  | v y => exact Dt.dp 20 h e
  | tup ds => exact Dt.dp 20 h e
  | scr ns => simp [D.ok] at e
  | bag => simp [D.ok] at e
  | fix P => simp [D.ok] at e
end
def dEq (neg : Bool) : D2 := fun d e k => chk (d.ok 20 && e.ok 20) (k (.dat (.bl (ng neg (d.eqb e)))))
theorem sn_eq {K : PySem.W.Frag} : Snd2 K (rEqD K) (dEq false) := by
  refine ⟨fun B Z N H x y d e k Q hK hz hx hy h q => ?_⟩
  subst hK
  obtain ⟨h12, h3⟩ := chk_iff.mp h
  obtain ⟨h1, h2⟩ := Bool.and_eq_true_iff.mp h12
  refine ⟨d.py, e.py, hx.dp h1, hy.dp h2, D.shaped h1, D.shaped h2, ?_⟩
  rw [D.eqb_py 20 20 d e h1 h2]
  exact q (.dat (.v _)) _ H (ExK.refl H) (Dt.v _) h3
theorem sn_ne {K : PySem.W.Frag} : Snd2 K (rNeD K) (dEq true) := by
  refine ⟨fun B Z N H x y d e k Q hK hz hx hy h q => ?_⟩
  subst hK
  obtain ⟨h12, h3⟩ := chk_iff.mp h
  obtain ⟨h1, h2⟩ := Bool.and_eq_true_iff.mp h12
  refine ⟨d.py, e.py, hx.dp h1, hy.dp h2, D.shaped h1, D.shaped h2, ?_⟩
  rw [D.eqb_py 20 20 d e h1 h2]
  exact q (.dat (.v _)) _ H (ExK.refl H) (Dt.v _) h3
section
variable {X : Cx}
theorem o_eq (hu : X.A.units + 64 < cLine) : X2 X (compareOp .Eq) (rEqD X.K) (dEq false) := ⟨op_eqD hu, sn_eq⟩
theorem o_ne (hu : X.A.units + 64 < cLine) : X2 X (compareOp .NotEq) (rNeD X.K) (dEq true) := ⟨op_neD hu, sn_ne⟩
end

/-! ### in -/
def D.items : D → Option (List D)
  | .tup ds => some ds
  | .lst ds => some ds
  | _ => none
def dIn (neg : Bool) : D2 := fun d e k => match d with
  | .v (.int i) => ∃ ns : List Int, e.items = some (ns.map D.int) ∧ k (.dat (.bl (ng neg (decide (i ∈ ns)))))
  | _ => False
theorem inV_ints (i : Int) (ns : List Int) : inV (.int i) (ns.map V.int) = decide (i ∈ ns) := by
  unfold inV
  rw [List.any_map]
  induction ns with
  | nil => rfl
  | cons n ns ih =>
    rw [List.any_cons, ih]
    show ((n == i) || decide (i ∈ ns)) = decide (i ∈ n :: ns)
    rw [Bool.eq_iff_iff]
    simp only [Bool.or_eq_true, beq_iff_eq, decide_eq_true_eq, List.mem_cons]
    constructor
    · rintro (h | h)
      · exact .inl h.symm
      · exact .inr h
    · rintro (h | h)
      · exact .inl h.symm
      · exact .inr h
theorem flat_ints (ns : List Int) : (ns.map V.int).all flatV = true := by
  rw [List.all_map, List.all_eq_true]
  intro n _
  rfl
theorem sn_in {K : PySem.W.Frag} {neg : Bool} : Snd2 K (rIn K neg) (dIn neg) := by
  refine ⟨fun B Z N H x y d e k Q hK hz hx hy h q => ?_⟩
  subst hK
  unfold dIn at h
  split at h
  · rename_i i
    obtain ⟨ns, hi, h⟩ := h
    have hx' := hx.v_inv
    subst hx'
    have fin : ∀ p, (SqL B.K H p (ns.map V.int) ∨ SqT B.K H p (ns.map V.int)) → rIn B.K neg (.int i) (.ref p) H Q := fun p hp =>
      ⟨p, ns.map V.int, rfl, hp, rfl, flat_ints ns, by
        rw [inV_ints]
        have e : (if neg = true then !decide (i ∈ ns) else decide (i ∈ ns)) = ng neg (decide (i ∈ ns)) := by cases neg <;> rfl
        rw [e]
        exact q (.dat (.v _)) _ H (ExK.refl H) (Dt.v _) h⟩
    cases e with
    | tup ds =>
      obtain ⟨a, xs, rfl, ha, r⟩ := hy.tup_inv
      have e1 : ds = ns.map D.int := Option.some.inj hi
      subst e1
      have e2 := r.ints
      subst e2
      exact fin a (.inr (.of ha))
    | lst ds =>
      obtain ⟨a, xs, rfl, ha, r⟩ := hy
      have e1 : ds = ns.map D.int := Option.some.inj hi
      subst e1
      have e2 := r.ints
      subst e2
      exact fin a (.inl (.of ha))
    | v y => cases hi
    | scr ns => cases hi
    | bag => cases hi
    | fix P => cases hi
  · exact h.elim
section
variable {X : Cx}
theorem o_in : X2 X (compareOp .In) (rIn X.K false) (dIn false) := ⟨op_in_seq, sn_in⟩
theorem o_notin : X2 X (compareOp .NotIn) (rIn X.K true) (dIn true) := ⟨op_notIn_seq, sn_in⟩
end

/-! ### an item -/
theorem atI_all {K : PySem.W.Frag} {N : Ct} {H : Hp} {Z : Addr → Prop} {xs : List V} {ds : List D} {i : Int} {d : D} (r : DtAll K N H Z xs ds) (h : atI ds i = some d) : ∃ v, atI xs i = some v ∧ Dt K N H Z v d := by
  unfold atI at h ⊢
  rw [r.length]
  cases e : ixN ds.length i with
  | none => rw [e] at h; cases h
  | some j =>
    rw [e] at h
    exact r.get h
def dIx : D2 := fun d e k => match d.items, e with
  | some ds, .v (.int i) => match atI ds i with
    | some d' => k (.dat d')
    | none => False
  | _, _ => False
theorem sn_ix {K : PySem.W.Frag} : Snd2 K (rIx K) dIx := by
  refine ⟨fun B Z N H x y d e k Q hK hz hx hy h q => ?_⟩
  subst hK
  unfold dIx at h
  split at h
  · rename_i ds i hi
    have hy' := hy.v_inv
    subst hy'
    cases ha : atI ds i with
    | none => rw [ha] at h; exact h.elim
    | some d' =>
      rw [ha] at h
      cases d with
      | tup ds' =>
        obtain ⟨a, xs, rfl, hx1, r⟩ := hx.tup_inv
        have e1 : ds' = ds := Option.some.inj hi
        subst e1
        obtain ⟨v, h1, h2⟩ := atI_all r ha
        exact .inr (.inl ⟨a, xs, i, v, rfl, rfl, .of hx1, h1, q (.dat d') v H (ExK.refl H) (h2) h⟩)
      | lst ds' =>
        obtain ⟨a, xs, rfl, hx1, r⟩ := hx
        have e1 : ds' = ds := Option.some.inj hi
        subst e1
        obtain ⟨v, h1, h2⟩ := atI_all r ha
        exact .inl ⟨a, xs, i, v, rfl, rfl, .of hx1, h1, q (.dat d') v H (ExK.refl H) (h2) h⟩
      | v y => cases hi
      | scr ns => cases hi
      | bag => cases hi
      | fix P => cases hi
  · exact h.elim
section
variable {X : Cx}
theorem o_ix : X2I X (rIx X.K) dIx := ⟨ix_seq, sn_ix⟩
end
end DL

/-! DLd: tests, displays, calls, slices by data. -/
namespace DL
open PySem PySem.Spec PyProof.Rows L2
variable [TabNames]

/-! ### tests -/
@[simp] def dAnd (p q : DT) : DT := fun δ N C => p δ N fun b N1 => wif b (q δ N1 C) (C false N1)
@[simp] def dOr (p q : DT) : DT := fun δ N C => p δ N fun b N1 => wif b (C true N1) (q δ N1 C)
@[simp] def dNot (p : DT) : DT := fun δ N C => p δ N fun b N1 => C (!b) N1
section
variable {X : Cx} {G : Gg} {a b c : Expr} {ta tb tc : TE} {da db dc : DE} {tp tq : TT} {dp dq : DT} {pos : Pos} {rest : List Expr}
theorem snd_and (hp : SndT G tp dp) (hq : SndT G tq dq) : SndT G (tAnd tp tq) (dAnd dp dq) := by
  refine ⟨fun B Z δ σ H N C Q hB S h q => ?_⟩
  refine hp.run B Z δ σ H N _ _ hB S h fun b H1 k1 e1 h1 => ?_
  cases b with
  | true => exact hq.run B Z δ σ H1 (N + k1) C Q hB (S.ext e1) h1 fun b2 H2 k2 e2 h2 => q b2 H2 (k1 + k2) (e1.trans e2) (by rw [← Ct.assoc]; exact h2)
  | false => exact q false H1 k1 e1 h1
theorem snd_or (hp : SndT G tp dp) (hq : SndT G tq dq) : SndT G (tOr tp tq) (dOr dp dq) := by
  refine ⟨fun B Z δ σ H N C Q hB S h q => ?_⟩
  refine hp.run B Z δ σ H N _ _ hB S h fun b H1 k1 e1 h1 => ?_
  cases b with
  | false => exact hq.run B Z δ σ H1 (N + k1) C Q hB (S.ext e1) h1 fun b2 H2 k2 e2 h2 => q b2 H2 (k1 + k2) (e1.trans e2) (by rw [← Ct.assoc]; exact h2)
  | true => exact q true H1 k1 e1 h1
theorem snd_not (hp : SndT G tp dp) : SndT G (tNot tp) (dNot dp) :=
  ⟨fun B Z δ σ H N C Q hB S h q => hp.run B Z δ σ H N _ _ hB S h fun b H1 k1 e1 h1 => q (!b) H1 k1 e1 h1⟩
theorem xw_and1 (ha : XT X G a tp dp) : XW X G (.BoolOp .And [a] pos) tp dp := ⟨pw_and1 ha.pe, ha.sn⟩
theorem xw_or1 (ha : XT X G a tp dp) : XW X G (.BoolOp .Or [a] pos) tp dp := ⟨pw_or1 ha.pe, ha.sn⟩
theorem xw_and (ha : XT X G a tp dp) (hb : XW X G (.BoolOp .And (b :: rest) pos) tq dq) : XW X G (.BoolOp .And (a :: b :: rest) pos) (tAnd tp tq) (dAnd dp dq) := ⟨pw_and ha.pe hb.pe, snd_and ha.sn hb.sn⟩
theorem xw_or (ha : XT X G a tp dp) (hb : XW X G (.BoolOp .Or (b :: rest) pos) tq dq) : XW X G (.BoolOp .Or (a :: b :: rest) pos) (tOr tp tq) (dOr dp dq) := ⟨pw_or ha.pe hb.pe, snd_or ha.sn hb.sn⟩
theorem XW.xt (h : XW X G a tp dp) : XT X G a tp dp := ⟨h.pe.pt, h.sn⟩
theorem xt_not (ha : XT X G a tp dp) : XT X G (.UnaryOp .Not a pos) (tNot tp) (dNot dp) := ⟨pt_not ha.pe, snd_not ha.sn⟩
theorem xt_val (h : XE X G a ta da) (he : ∀ whole, isTrue a X.env whole = (do let v ← whole; standAt a.pos; holding [v] (truthy v)) := by intro _; rfl) : XT X G a (tB ta) (dTest da) := ⟨pt_val h.pe he, snd_B h.sn⟩

/-! ### and, or, not as values -/
@[simp] def dAndV (p q : DE) : DE := fun δ N C => p δ N fun s N1 => match s with
  | .dat (.v (.bl b)) => wif b (q δ N1 C) (C (.dat (.bl false)) N1)
  | _ => False
@[simp] def dOrV (p q : DE) : DE := fun δ N C => p δ N fun s N1 => match s with
  | .dat (.v (.bl b)) => wif b (C (.dat (.bl true)) N1) (q δ N1 C)
  | _ => False
@[simp] def dNotV (p : DE) : DE := fun δ N C => p δ N fun s N1 => match s with
  | .dat (.v (.bl b)) => C (.dat (.bl (!b))) N1
  | _ => False
theorem bl_of {B : Bs} {N : Ct} {H H' : Hp} {Z : Addr → Prop} {v : V} {b : Bool} (r : Rs B N H H' Z v (.dat (.v (.bl b)))) : v = .bl b := by
  have r' : Dt B.K N H' Z v (.v (.bl b)) := r
  cases r'
  rfl
theorem snd_andV (ha : Snd G ta da) (hb : Snd G tb db) : Snd G (tAndV ta tb) (dAndV da db) := by
  refine ⟨fun B Z δ σ H N C Q hB S h q => ?_⟩
  refine ha.run B Z δ σ H N _ _ hB S h fun s x H1 k1 e1 r1 h1 => ?_
  split at h1
  · rename_i b
    refine ⟨b, bl_of r1, ?_⟩
    cases b with
    | true =>
      exact hb.run B Z δ σ H1 (N + k1) C Q hB (S.ext e1) h1 fun s2 v2 H2 k2 e2 r2 h2 => by
        rw [Ct.assoc] at r2 h2
        exact q s2 v2 H2 (k1 + k2) (e1.trans e2) (r2.back e1) h2
    | false => exact q (.dat (.v _)) _ H1 k1 e1 (Dt.v _) h1
  · exact h1.elim
theorem snd_orV (ha : Snd G ta da) (hb : Snd G tb db) : Snd G (tOrV ta tb) (dOrV da db) := by
  refine ⟨fun B Z δ σ H N C Q hB S h q => ?_⟩
  refine ha.run B Z δ σ H N _ _ hB S h fun s x H1 k1 e1 r1 h1 => ?_
  split at h1
  · rename_i b
    refine ⟨b, bl_of r1, ?_⟩
    cases b with
    | false =>
      exact hb.run B Z δ σ H1 (N + k1) C Q hB (S.ext e1) h1 fun s2 v2 H2 k2 e2 r2 h2 => by
        rw [Ct.assoc] at r2 h2
        exact q s2 v2 H2 (k1 + k2) (e1.trans e2) (r2.back e1) h2
    | true => exact q (.dat (.v _)) _ H1 k1 e1 (Dt.v _) h1
  · exact h1.elim
theorem snd_notV (ha : Snd G ta da) : Snd G (tNotV ta) (dNotV da) := by
  refine ⟨fun B Z δ σ H N C Q hB S h q => ?_⟩
  refine ha.run B Z δ σ H N _ _ hB S h fun s x H1 k1 e1 r1 h1 => ?_
  split at h1
  · rename_i b
    exact ⟨b, bl_of r1, q (.dat (.v _)) _ H1 k1 e1 (Dt.v _) h1⟩
  · exact h1.elim
theorem x_one {op} (h : XE X G a ta da) : XE X G (.BoolOp op [a] pos) ta da := ⟨pe_one h.pe, h.sn⟩
theorem x_and (ha : XE X G a ta da) (hb : XE X G (.BoolOp .And (b :: rest) pos) tb db) : XE X G (.BoolOp .And (a :: b :: rest) pos) (tAndV ta tb) (dAndV da db) := ⟨pe_and ha.pe hb.pe, snd_andV ha.sn hb.sn⟩
theorem x_or (ha : XE X G a ta da) (hb : XE X G (.BoolOp .Or (b :: rest) pos) tb db) : XE X G (.BoolOp .Or (a :: b :: rest) pos) (tOrV ta tb) (dOrV da db) := ⟨pe_or ha.pe hb.pe, snd_orV ha.sn hb.sn⟩
theorem x_not (ha : XE X G a ta da) : XE X G (.UnaryOp .Not a pos) (tNotV ta) (dNotV da) := ⟨pe_not ha.pe, snd_notV ha.sn⟩

/-! ### a if t else b -/
@[simp] def dIfE (p : DT) (da db : DE) : DE := fun δ N C => p δ N fun b N1 => wif b (da δ N1 C) (db δ N1 C)
theorem snd_if (hp : SndT G tp dp) (ha : Snd G ta da) (hb : Snd G tb db) : Snd G (tIf tp ta tb) (dIfE dp da db) := by
  refine ⟨fun B Z δ σ H N C Q hB S h q => ?_⟩
  refine hp.run B Z δ σ H N _ _ hB S h fun b H1 k1 e1 h1 => ?_
  cases b with
  | true =>
    exact ha.run B Z δ σ H1 (N + k1) C Q hB (S.ext e1) h1 fun s2 v2 H2 k2 e2 r2 h2 => by
      rw [Ct.assoc] at r2 h2
      exact q s2 v2 H2 (k1 + k2) (e1.trans e2) (r2.back e1) h2
  | false =>
    exact hb.run B Z δ σ H1 (N + k1) C Q hB (S.ext e1) h1 fun s2 v2 H2 k2 e2 r2 h2 => by
      rw [Ct.assoc] at r2 h2
      exact q s2 v2 H2 (k1 + k2) (e1.trans e2) (r2.back e1) h2
theorem x_if (hp : XT X G c tp dp) (ha : XE X G a ta da) (hb : XE X G b tb db) : XE X G (.IfExp c a b pos) (tIf tp ta tb) (dIfE dp da db) := ⟨pe_ifExp hp.pe ha.pe hb.pe, snd_if hp.sn ha.sn hb.sn⟩

/-! ### -a -/
@[simp] def dNeg (da : DE) : DE := fun δ N C => da δ N fun s N1 => match s with
  | .dat (.v (.int i)) => C (.dat (.int (-i))) N1
  | _ => False
theorem snd_neg (ha : Snd G ta da) : Snd G (tUn (rU fun i => .int (-i)) ta) (dNeg da) := by
  refine ⟨fun B Z δ σ H N C Q hB S h q => ?_⟩
  refine ha.run B Z δ σ H N _ _ hB S h fun s x H1 k1 e1 r1 h1 => ?_
  split at h1
  · rename_i i
    have r' : Dt B.K (N + k1) H1 Z x (.v (.int i)) := r1
    cases r'
    exact ⟨i, rfl, q (.dat (.v _)) _ H1 k1 e1 (Dt.v _) h1⟩
  · exact h1.elim
theorem x_neg (ha : XE X G a ta da) : XE X G (.UnaryOp .USub a pos) (tUn (rU fun i => .int (-i)) ta) (dNeg da) := ⟨pe_un un_neg ha.pe, snd_neg ha.sn⟩

/-! ### a op b op c -/
@[simp] def dChain (dr dr' : D2) (da db dc : DE) : DE := fun δ N C => da δ N fun s N1 => db δ N1 fun u N2 => dr s.rd u.rd fun z => match z with
  | .dat (.v (.bl b)) => wif b (dc δ N2 fun w N3 => dr' u.rd w.rd fun z' => C z' N3) (C (.dat (.bl false)) N2)
  | _ => False
theorem snd_chain {r r' : R2} {dr dr' : D2} (ha : Snd G ta da) (hb : Snd G tb db) (hc : Snd G tc dc) (hr : Snd2 G.K r dr) (hr' : Snd2 G.K r' dr') : Snd G (tChain r r' ta tb tc) (dChain dr dr' da db dc) := by
  refine ⟨fun B Z δ σ H N C Q hB S h q => ?_⟩
  subst hB
  refine ha.run B Z δ σ H N _ _ rfl S h fun s x H1 k1 e1 r1 h1 => ?_
  refine hb.run B Z δ σ H1 (N + k1) _ _ rfl (S.ext e1) h1 fun u y H2 k2 e2 r2 h2 => ?_
  have w2 : Dw B.K (N + k1 + k2) H2 Z y u.rd := (r2.tp (S.ztt.ex e1)).dw
  refine hr.run B Z (N + k1 + k2) H2 x y s.rd u.rd _ _ rfl ((S.ztt.ex e1).ex e2) ((r1.tp S.ztt).dw.ex e2) w2 h2 fun z v H3 e3 r3 h3 => ?_
  split at h3
  · rename_i b
    refine ⟨b, bl_of r3, ?_⟩
    have e4 : ExK (k1 + k2) H H3 := (e1.trans e2).trans e3
    cases b with
    | false =>
      rw [Ct.assoc] at h3
      exact q (.dat (.v _)) _ H3 (k1 + k2) e4 (Dt.v _) h3
    | true =>
      refine hc.run B Z δ σ H3 (N + k1 + k2) _ _ rfl (((S.ext e1).ext e2).ext0 e3) h3 fun w z' H5 k5 e5 r5 h5 => ?_
      refine hr'.run B Z (N + k1 + k2 + k5) H5 y z' u.rd w.rd _ _ rfl ((((S.ztt.ex e1).ex e2).ex e3).ex e5) ((w2.ex e3).ex e5) (r5.tp (((S.ztt.ex e1).ex e2).ex e3)).dw h5 fun z2 v2 H6 e6 r6 h6 => ?_
      have e7 : ExK (k1 + k2 + k5) H H5 := e4.trans e5
      have e8 : N + k1 + k2 + k5 = N + (k1 + k2 + k5) := by simp only [Ct.assoc]
      rw [e8] at r6 h6
      exact q z2 v2 H6 (k1 + k2 + k5) (e7.trans e6) (r6.back e7) h6
  · exact h3.elim
theorem x_chain {op op' : CmpOp} {r r' : R2} {dr dr' : D2} (ho : X2 X (compareOp op) r dr) (ho' : X2 X (compareOp op') r' dr') (ha : XE X G a ta da) (hb : XE X G b tb db) (hc : XE X G c tc dc)
    (hm : lastMarks [op, op'] [b, c] = false := by with_unfolding_all rfl) (hK : G.K = X.K := by rfl) : XE X G (.Compare a [op, op'] [b, c] pos) (tChain r r' ta tb tc) (dChain dr dr' da db dc) :=
  ⟨pe_chain ho.op ho'.op ha.pe hb.pe hc.pe hm, snd_chain ha.sn hb.sn hc.sn (by rw [hK]; exact ho.sn) (by rw [hK]; exact ho'.sn)⟩
theorem xt_chain {op op' : CmpOp} {r r' : R2} {dr dr' : D2} (ho : X2 X (compareOp op) r dr) (ho' : X2 X (compareOp op') r' dr') (ha : XE X G a ta da) (hb : XE X G b tb db) (hc : XE X G c tc dc)
    (hm : lastMarks [op, op'] [b, c] = false := by with_unfolding_all rfl) (hK : G.K = X.K := by rfl) : XT X G (.Compare a [op, op'] [b, c] pos) (tTest (tChain r r' ta tb tc)) (dTest (dChain dr dr' da db dc)) :=
  ⟨pt_chain ho.op ho'.op ha.pe hb.pe hc.pe hm, snd_test (snd_chain ha.sn hb.sn hc.sn (by rw [hK]; exact ho.sn) (by rw [hK]; exact ho'.sn))⟩

/-! ### arguments, displays -/
@[simp] def dNil : DA := fun _ N C => C [] N
@[simp] def dCons (da : DE) (dr : DA) : DA := fun δ N C => da δ N fun s N1 => dr δ N1 fun ss N2 => C (s :: ss) N2
variable {e : Expr} {es : List Expr} {te : TE} {t : TA} {de : DE} {d : DA}
theorem snd_nil : SndA G tNil dNil := ⟨fun B Z δ σ H N C Q hB S h q => q [] [] H 0 (ExK.refl H) .nil h⟩
theorem snd_cons (ha : Snd G te de) (hr : SndA G t d) : SndA G (tCons te t) (dCons de d) := by
  refine ⟨fun B Z δ σ H N C Q hB S h q => ?_⟩
  refine ha.run B Z δ σ H N _ _ hB S h fun s x H1 k1 e1 r1 h1 => ?_
  refine hr.run B Z δ σ H1 (N + k1) _ _ hB (S.ext e1) h1 fun ss vs H2 k2 e2 r2 h2 => ?_
  rw [Ct.assoc] at h2 r2
  exact q (s :: ss) (x :: vs) H2 (k1 + k2) (e1.trans e2) (.cons (by rw [← Ct.assoc]; exact (r1.tp S.ztt).ex e2) r2) h2
theorem xa_nil : XA X G [] tNil dNil := ⟨pa_nil, snd_nil⟩
theorem xa_cons (ha : XE X G e te de) (hr : XA X G es t d) (hs : starEach (e :: es) X.env = (false, eval e X.env) :: starEach es X.env := by rfl) : XA X G (e :: es) (tCons te t) (dCons de d) := ⟨pa_cons ha.pe hr.pe hs, snd_cons ha.sn hr.sn⟩
def nalsA (ss : List Sl) : Bool := ss.all Sl.nals
theorem pair_all {B : Bs} {N : Ct} {H : Hp} {Z : Addr → Prop} : ∀ {vs : List V} {ss : List Sl}, Paired (Tp B N H Z) vs ss → nalsA ss = true → DtAll B.K N H Z vs (ss.map Sl.rd)
  | _, _, .nil, _ => .nil
  | _, _, .cons (b := s) r rr, h => by
    have h' : s.nals = true ∧ List.all _ Sl.nals = true := Bool.and_eq_true_iff.mp h
    refine .cons ?_ (pair_all rr h'.2)
    cases s with
    | dat d => exact r
    | own ds => exact r
    | als ds => exact absurd h'.1 (by simp [Sl.nals])
theorem pair_dw {B : Bs} {N : Ct} {H : Hp} {Z : Addr → Prop} : ∀ {vs : List V} {ss : List Sl}, Paired (Tp B N H Z) vs ss → Paired (Dw B.K N H Z) vs (ss.map Sl.rd)
  | _, _, .nil => .nil
  | _, _, .cons r rr => .cons r.dw (pair_dw rr)
/-- in no zone -/
abbrev Z00 : Addr → Prop := fun _ => False
theorem pair_free {B : Bs} {N : Ct} {H : Hp} {Z : Addr → Prop} : ∀ {vs : List V} {ss : List Sl}, Paired (Tp B N H Z) vs ss → DtAll B.K N H Z00 vs (ss.map Sl.rd)
  | _, _, .nil => .nil
  | _, _, .cons (b := s) r rr => by
    refine .cons ?_ (pair_free rr)
    have g : Gro B.K N N Z Z00 H H := .zone (fun _ z => False.elim z) (Ct.le_refl _)
    cases s with
    | dat d => exact Dt.gro g r
    | own ds => exact Dt.gro g r
    | als ds =>
      obtain ⟨a, xs, rfl, z, h0, ha, ra⟩ := r
      exact .lst ha (fun z => z) (ra.gro g)
@[simp] def dTup (d : DA) : DE := fun δ N C => d δ N fun ss N1 => chk (nalsA ss && shortL ss 40) (C (.dat (.tup (ss.map Sl.rd))) N1)
@[simp] def dLst (d : DA) : DE := fun δ N C => d δ N fun ss N1 => chk (nalsA ss && shortL ss 40) (C (.own (ss.map Sl.rd)) N1)
theorem paired_length {α β : Type} {F : α → β → Prop} : ∀ {xs : List α} {ys : List β}, Paired F xs ys → xs.length = ys.length
  | _, _, .nil => rfl
  | _, _, .cons _ r => congrArg (· + 1) (paired_length r)
theorem snd_tup (h : SndA G t d) : Snd G (tTup t) (dTup d) := by
  refine ⟨fun B Z δ σ H N C Q hB S hd q => ?_⟩
  refine h.run B Z δ σ H N _ _ hB S hd fun ss vs H1 k1 e1 r1 h1 => ?_
  obtain ⟨h23, h4⟩ := chk_iff.mp h1
  obtain ⟨h2, h3⟩ := Bool.and_eq_true_iff.mp h23
  have r := pair_all r1 h2
  refine ⟨by rw [paired_length r1]; exact size_of (Nat.le_trans (shortL_len h3) (by decide)), fun p hp => ?_⟩
  have ep := ExK.new (o := .tup vs) hp
  exact q (.dat (.tup (ss.map Sl.rd))) _ _ k1 (e1.trans ep) (Dt.tup upd_same (r.ex0 ep)) h4
theorem snd_lst (h : SndA G t d) : Snd G (tLst t) (dLst d) := by
  refine ⟨fun B Z δ σ H N C Q hB S hd q => ?_⟩
  refine h.run B Z δ σ H N _ _ hB S hd fun ss vs H1 k1 e1 r1 h1 => ?_
  obtain ⟨h23, h4⟩ := chk_iff.mp h1
  obtain ⟨h2, h3⟩ := Bool.and_eq_true_iff.mp h23
  have r := pair_all r1 h2
  refine ⟨by rw [paired_length r1]; exact size_of (Nat.le_trans (shortL_len h3) (by decide)), fun p hp => ?_⟩
  have ep := ExK.new (o := .lst vs) hp
  exact q (.own (ss.map Sl.rd)) _ _ k1 (e1.trans ep) ⟨p, vs, rfl, e1.back hp, upd_same, r.new hp⟩ h4
theorem x_tup {x1} (h : XA X G es t d) : XE X G (.Tuple es x1 pos) (tTup t) (dTup d) := ⟨pe_tup h.pe, snd_tup h.sn⟩
theorem x_lst (h : XA X G es t d) : XE X G (.List es pos) (tLst t) (dLst d) := ⟨pe_lst h.pe, snd_lst h.sn⟩

/-! ### calls of defs -/
/-- a promise by data: the arguments, the count, what is wanted of the value, of an exception's class -/
abbrev DSp := List D → Ct → DK → (Value → Ct → Prop) → Prop
def RsC (K : PySem.W.Frag) (N : Ct) (H H' : Hp) (Z : Addr → Prop) (v : V) : Sl → Prop
  | .dat d => Dt K N H' Z v d
  | .own ds => ∃ p xs, v = .ref p ∧ H p = none ∧ H' p = some (.lst xs) ∧ DtAll K N H' (Zp Z p) xs ds
  | .als _ => False
def lift (K : PySem.W.Frag) (dsp : DSp) : Sp := fun vs H Q E => ∃ (Z : Addr → Prop) (N : Ct) (ds : List D) (C : DK) (Er : Value → Ct → Prop),
  Zt Z H ∧ DtAll K N H Z vs ds ∧ dsp ds N C Er ∧ (∀ s v H' k, ExK k H H' → RsC K (N + k) H H' Z v s → C s (N + k) → Q v H') ∧ (∀ cls H' k, ExK k H H' → Er cls (N + k) → E cls none H')
@[simp] def dCall (Er : Value → Ct → Prop) (dsp : DSp) (d : DA) : DE := fun δ N C => d δ N fun ss N1 => dsp (ss.map Sl.rd) N1 (fun s N2 => chk (nalsA ss || s.lf) (C s N2)) Er
theorem snd_call {dsp : DSp} (h : SndA G t d) : Snd G (tCall (lift G.K dsp) [] G.E t) (dCall G.Er dsp d) := by
  refine ⟨fun B Z δ σ H N C Q hB S hd q => ?_⟩
  subst hB
  refine h.run B Z δ σ H N _ _ rfl S hd fun ss vs H1 k1 e1 r1 h1 => ?_
  have S1 := S.ext e1
  have eok : ∀ cls H' k, ExK k H1 H' → B.G.Er cls (N + k1 + k) → B.G.E cls none H' := fun cls H' k e w => by
    obtain ⟨j, ej0, ej⟩ := S1.ex
    rw [ej0, Ct.assoc] at w
    exact B.eok cls (j + k) H' (ej.trans e) w
  rw [List.append_nil]
  cases hn : nalsA ss with
  | true =>
    refine ⟨Z, N + k1, ss.map Sl.rd, _, B.G.Er, S1.ztt, pair_all r1 hn, h1, fun s v H2 k2 e2 r2 h2 => ?_, eok⟩
    have e3 : N + k1 + k2 = N + (k1 + k2) := by simp only [Ct.assoc]
    rw [e3] at r2 h2
    refine q s v H2 (k1 + k2) (e1.trans e2) ?_ (chk_iff.mp h2).2
    cases s with
    | dat d => exact r2
    | own ds =>
      obtain ⟨p, xs, rfl, h0, h3, r⟩ := r2
      exact ⟨p, xs, rfl, e1.back h0, h3, r⟩
    | als ds => exact r2.elim
  | false =>
    refine ⟨Z00, N + k1, ss.map Sl.rd, _, B.G.Er, fun _ z => False.elim z, pair_free r1, h1, fun s v H2 k2 e2 r2 h2 => ?_, eok⟩
    have e3 : N + k1 + k2 = N + (k1 + k2) := by simp only [Ct.assoc]
    rw [e3] at r2 h2
    rw [hn, Bool.false_or, chk_iff] at h2
    refine q s v H2 (k1 + k2) (e1.trans e2) ?_ h2.2
    cases s with
    | dat d => exact Dt.lfz r2 h2.1
    | own ds => exact absurd h2.1 (by simp [Sl.lf])
    | als ds => exact r2.elim
variable {CX : CXT} {k : Nat} {f : Addr} {fd : FuncData} {ps : List Str} {dsp : DSp} {x : Str} {p : Pos}
abbrev DFn (P : Program) (w : World) (K : PySem.W.Frag) (mg : Str → Option Value) (base : Heap) (CX : CXT) (k : Nat) (f : Addr) (fd : FuncData) (ps : List Str) (dsp : DSp) : Prop := FnOk P w K mg base CX k f fd ps (lift K dsp)
theorem x_call (F : DFn X.prog X.w X.K X.mg X.base CX k f fd ps dsp) (hr : Room k X.A) (hg : Gl X x) (hm : X.mg x = some (.ref f)) (hk : PySem.W.keepIn X.K (.ref f) = true) (hb : Binds X.K fd ps []) (hx : Passes CX X G.E)
    (ha : XA X G (e :: es) t d) (hK : G.K = X.K := by rfl) (hdb : (x == ("__debug__" : Str)) = false := by decide) (he : starEach (e :: es) X.env = (false, eval e X.env) :: starEach es X.env := by rfl) (hpl : (backTo pos (starEach es X.env)).any (·.1) = false := by rfl) :
    XE X G (.Call (.Name x p) (e :: es) [] pos) (tCall (lift G.K dsp) [] G.E t) (dCall G.Er dsp d) := by
  have F' : FnOk X.prog X.w X.K X.mg X.base CX k f fd ps (lift G.K dsp) := by rw [hK]; exact F
  exact ⟨pe_call F' hr hg hm hk hb .nil hx ha.pe hdb he hpl, snd_call ha.sn⟩

/-! ### calls of built-ins -/
@[simp] def dCB (dc : DC) (d : DA) : DE := fun δ N C => d δ N fun ss N1 => dc (ss.map Sl.rd) fun z => C z N1
theorem snd_cb {r : List V → Hp → VK → Prop} {dc : DC} (hr : SndC G.K r dc) (h : SndA G t d) : Snd G (tCB r t) (dCB dc d) := by
  refine ⟨fun B Z δ σ H N C Q hB S hd q => ?_⟩
  subst hB
  refine h.run B Z δ σ H N _ _ rfl S hd fun ss vs H1 k1 e1 r1 h1 => ?_
  refine hr.run B Z (N + k1) H1 vs (ss.map Sl.rd) _ _ rfl (S.ztt.ex e1) (pair_dw r1) h1 fun s v H2 e2 r2 h2 => ?_
  exact q s v H2 k1 (e1.trans e2) (r2.back e1) h2
theorem x_callB {id : String} {r : List V → Hp → VK → Prop} {dc : DC} (hc : XC X (.builtin id) r dc) (hg : Gl X x) (hm : X.mg x = none) (hv : bootBuiltins x = some (.builtin id)) (ha : XA X G (e :: es) t d) (hK : G.K = X.K := by rfl) (hn : x ≠ "__name__" := by decide) (hdb : (x == ("__debug__" : Str)) = false := by decide)
    (he : starEach (e :: es) X.env = (false, eval e X.env) :: starEach es X.env := by rfl) (hpl : (backTo pos (starEach es X.env)).any (·.1) = false := by rfl) : XE X G (.Call (.Name x p) (e :: es) [] pos) (tCB r t) (dCB dc d) :=
  ⟨pe_callB hc.op hg hm hv ha.pe hn hdb he hpl, snd_cb (by rw [hK]; exact hc.sn) ha.sn⟩
theorem x_callTy {T : String} {r : List V → Hp → VK → Prop} {dc : DC} (hc : XC X (.type T) r dc) (hg : Gl X x) (hm : X.mg x = none) (hv : bootBuiltins x = some (.type T)) (ha : XA X G (e :: es) t d) (hK : G.K = X.K := by rfl) (hn : x ≠ "__name__" := by decide) (hdb : (x == ("__debug__" : Str)) = false := by decide)
    (he : starEach (e :: es) X.env = (false, eval e X.env) :: starEach es X.env := by rfl) (hpl : (backTo pos (starEach es X.env)).any (·.1) = false := by rfl) : XE X G (.Call (.Name x p) (e :: es) [] pos) (tCB r t) (dCB dc d) :=
  ⟨pe_callTy hc.op hg hm hv ha.pe hn hdb he hpl, snd_cb (by rw [hK]; exact hc.sn) ha.sn⟩
end
end DL

/-! DLe: built-ins, slices, what is walked, by data. -/
namespace DL
open PySem PySem.Spec PyProof.Rows L2
variable [TabNames]

/-! ### built-ins -/
def dLen : DC := fun ds k => match ds with
  | [.tup es] => k (.dat (.int es.length))
  | [.lst es] => k (.dat (.int es.length))
  | [.scr ns] => k (.dat (.int ns.length))
  | _ => False
theorem pair1 {α β : Type} {F : α → β → Prop} {xs : List α} {y : β} (r : Paired F xs [y]) : ∃ x, xs = [x] ∧ F x y := by
  cases r with
  | cons h t => cases t; exact ⟨_, rfl, h⟩
theorem pair2 {α β : Type} {F : α → β → Prop} {xs : List α} {y z : β} (r : Paired F xs [y, z]) : ∃ x u, xs = [x, u] ∧ F x y ∧ F u z := by
  cases r with
  | cons h t =>
    obtain ⟨u, rfl, h2⟩ := pair1 t
    exact ⟨_, u, rfl, h, h2⟩
section
variable {X : Cx}
def rLenQ (K : PySem.W.Frag) : List V → Hp → VK → Prop := fun xs H Q => ∃ p ys, xs = [.ref p] ∧ (SqL K H p ys ∨ SqT K H p ys) ∧ Q (.int ys.length) H
theorem c_len : XC X (.builtin "len") (rLenQ X.K) dLen := by
  refine ⟨call_len_seq, ⟨fun B Z N H xs ds C Q hK hz hr hd q => ?_⟩⟩
  unfold dLen at hd
  split at hd
  · rename_i es
    obtain ⟨x, rfl, h⟩ := pair1 hr
    obtain ⟨a, ys, rfl, ha, r⟩ := h.tup_inv
    refine ⟨a, ys, rfl, .inr (.of ha), ?_⟩
    rw [r.length]
    exact q (.dat (.v _)) _ H (ExK.refl H) (Dt.v _) hd
  · rename_i es
    obtain ⟨x, rfl, h⟩ := pair1 hr
    obtain ⟨a, ys, rfl, ha, r⟩ := h
    refine ⟨a, ys, rfl, .inl (.of ha), ?_⟩
    rw [r.length]
    exact q (.dat (.v _)) _ H (ExK.refl H) (Dt.v _) hd
  · rename_i ns
    obtain ⟨x, rfl, h⟩ := pair1 hr
    obtain ⟨a, rfl, ha⟩ := h.scr_inv
    refine ⟨a, _, rfl, .inl (hK ▸ ha), ?_⟩
    rw [List.length_map]
    exact q (.dat (.v _)) _ H (ExK.refl H) (Dt.v _) hd
  · exact hd.elim
@[simp] def dII (g : Int → Int → Int) : DC := fun ds k => match ds with
  | [.v (.int i), .v (.int j)] => k (.dat (.int (g i j)))
  | _ => False
def rMin2 : List V → Hp → VK → Prop := fun xs H Q => ∃ i j, xs = [.int i, .int j] ∧ Q (.int (if j < i then j else i)) H
def rMax2 : List V → Hp → VK → Prop := fun xs H Q => ∃ i j, xs = [.int i, .int j] ∧ Q (.int (if j > i then j else i)) H
theorem c_min2 (hc : X.calm = true) : XC X (.builtin "min") rMin2 (dII min) := by
  refine ⟨call_min2 hc, ⟨fun B Z N H xs ds C Q hK hz hr hd q => ?_⟩⟩
  unfold dII at hd
  split at hd
  · rename_i i j
    obtain ⟨x, y, rfl, h1, h2⟩ := pair2 hr
    refine ⟨i, j, by rw [h1.v_inv, h2.v_inv], ?_⟩
    rw [show (if j < i then j else i) = min i j by omega]
    exact q (.dat (.v _)) _ H (ExK.refl H) (Dt.v _) hd
  · exact hd.elim
theorem c_max2 (hc : X.calm = true) : XC X (.builtin "max") rMax2 (dII max) := by
  refine ⟨call_max2 hc, ⟨fun B Z N H xs ds C Q hK hz hr hd q => ?_⟩⟩
  unfold dII at hd
  split at hd
  · rename_i i j
    obtain ⟨x, y, rfl, h1, h2⟩ := pair2 hr
    refine ⟨i, j, by rw [h1.v_inv, h2.v_inv], ?_⟩
    rw [show (if j > i then j else i) = max i j by omega]
    exact q (.dat (.v _)) _ H (ExK.refl H) (Dt.v _) hd
  · exact hd.elim
/-- a list of ints -/
theorem ints_of {B : Bs} {N : Ct} {H : Hp} {Z : Addr → Prop} {x : V} {ns : List Int} (h : Dw B.K N H Z x (.lst (ns.map D.int))) : ∃ a, x = .ref a ∧ SqL B.K H a (ns.map V.int) := by
  obtain ⟨a, xs, rfl, ha, r⟩ := h
  have e := r.ints
  subst e
  exact ⟨a, rfl, .of ha⟩
def dSum : DC := fun ds k => ∃ ns : List Int, ds = [.lst (ns.map D.int)] ∧ k (.dat (.int ns.sum))
def dMaxL : DC := fun ds k => ∃ ns : List Int, ds = [.lst (ns.map D.int)] ∧ ns ≠ [] ∧ ∀ m, m ∈ ns → (∀ y, y ∈ ns → y ≤ m) → k (.dat (.int m))
def dMinL : DC := fun ds k => ∃ ns : List Int, ds = [.lst (ns.map D.int)] ∧ ns ≠ [] ∧ ∀ m, m ∈ ns → (∀ y, y ∈ ns → m ≤ y) → k (.dat (.int m))
def dAll : DC := fun ds k => ∃ bs : List Bool, ds = [.lst (bs.map D.bl)] ∧ k (.dat (.bl (bs.all id)))
def dSorted : DC := fun ds k => ∃ ns : List Int, ds = [.lst (ns.map D.int)] ∧ ∀ ns' : List Int, ns'.Perm ns → ns'.Pairwise (· ≤ ·) → k (.own (ns'.map D.int))
theorem c_sum (hc : X.calm = true) : XC X (.builtin "sum") (rSum X.K) dSum := by
  refine ⟨cr_sum hc, ⟨fun B Z N H xs ds C Q hK hz hr hd q => ?_⟩⟩
  obtain ⟨ns, rfl, hd⟩ := hd
  obtain ⟨x, rfl, h⟩ := pair1 hr
  obtain ⟨a, rfl, ha⟩ := ints_of h
  exact ⟨a, ns, rfl, hK ▸ ha, q (.dat (.v _)) _ H (ExK.refl H) (Dt.v _) hd⟩
theorem c_maxL (hc : X.calm = true) : XC X (.builtin "max") (rMax X.K) dMaxL := by
  refine ⟨cr_max hc, ⟨fun B Z N H xs ds C Q hK hz hr hd q => ?_⟩⟩
  obtain ⟨ns, rfl, hn, hd⟩ := hd
  obtain ⟨x, rfl, h⟩ := pair1 hr
  obtain ⟨a, rfl, ha⟩ := ints_of h
  exact ⟨a, ns, rfl, hK ▸ ha, List.length_pos_iff.mpr hn, fun m h1 h2 => q (.dat (.v _)) _ H (ExK.refl H) (Dt.v _) (hd m h1 h2)⟩
theorem c_minL (hc : X.calm = true) : XC X (.builtin "min") (rMin X.K) dMinL := by
  refine ⟨cr_min hc, ⟨fun B Z N H xs ds C Q hK hz hr hd q => ?_⟩⟩
  obtain ⟨ns, rfl, hn, hd⟩ := hd
  obtain ⟨x, rfl, h⟩ := pair1 hr
  obtain ⟨a, rfl, ha⟩ := ints_of h
  exact ⟨a, ns, rfl, hK ▸ ha, List.length_pos_iff.mpr hn, fun m h1 h2 => q (.dat (.v _)) _ H (ExK.refl H) (Dt.v _) (hd m h1 h2)⟩
theorem c_all (hc : X.calm = true) : XC X (.builtin "all") (rAll X.K) dAll := by
  refine ⟨cr_all hc, ⟨fun B Z N H xs ds C Q hK hz hr hd q => ?_⟩⟩
  obtain ⟨bs, rfl, hd⟩ := hd
  obtain ⟨x, rfl, h⟩ := pair1 hr
  obtain ⟨a, ys, rfl, ha, r⟩ := h
  have e : bs.map D.bl = (bs.map V.bl).map D.v := by rw [List.map_map]; rfl
  rw [e] at r
  have e2 := r.vals
  subst e2
  exact ⟨a, bs, rfl, .of ha, q (.dat (.v _)) _ H (ExK.refl H) (Dt.v _) hd⟩
theorem c_sorted : XC X (.builtin "sorted") (rSortedI X.K) dSorted := by
  refine ⟨cr_sortedI, ⟨fun B Z N H xs ds C Q hK hz hr hd q => ?_⟩⟩
  obtain ⟨ns, rfl, hd⟩ := hd
  obtain ⟨x, rfl, h⟩ := pair1 hr
  obtain ⟨a, rfl, ha⟩ := ints_of h
  refine ⟨a, ns, rfl, hK ▸ ha, fun ns' p h1 h2 hp => ?_⟩
  have ep := ExK.new (o := .lst (ns'.map V.int)) hp
  exact q (.own (ns'.map D.int)) _ _ ep ⟨p, _, rfl, hp, upd_same, .ofInts ns'⟩ (hd ns' h1 h2)
/-- list(x) of a list or tuple -/
@[simp] def dList : DC := fun ds k => match ds with
  | [.tup es] => k (.own es)
  | [.lst es] => k (.own es)
  | _ => False
def rListQ (K : PySem.W.Frag) : List V → Hp → VK → Prop := fun xs H Q => ∃ p ys, xs = [.ref p] ∧ (SqL K H p ys ∨ SqT K H p ys) ∧ ∀ l, H l = none → Q (.ref l) (upd H l (.lst ys))
theorem c_list : XC X (.type "list") (rListQ X.K) dList := by
  refine ⟨call_list_of, ⟨fun B Z N H xs ds C Q hK hz hr hd q => ?_⟩⟩
  unfold dList at hd
  split at hd
  · rename_i es
    obtain ⟨x, rfl, h⟩ := pair1 hr
    obtain ⟨a, ys, rfl, ha, r⟩ := h.tup_inv
    refine ⟨a, ys, rfl, .inr (.of ha), fun p hp => ?_⟩
    have ep := ExK.new (o := .lst ys) hp
    exact q (.own es) _ _ ep ⟨p, _, rfl, hp, upd_same, r.new hp⟩ hd
  · rename_i es
    obtain ⟨x, rfl, h⟩ := pair1 hr
    obtain ⟨a, ys, rfl, ha, r⟩ := h
    refine ⟨a, ys, rfl, .inl (.of ha), fun p hp => ?_⟩
    have ep := ExK.new (o := .lst ys) hp
    exact q (.own es) _ _ ep ⟨p, _, rfl, hp, upd_same, r.new hp⟩ hd
  · exact hd.elim
/-- tuple(x) of a list or tuple -/
@[simp] def dTuple : DC := fun ds k => match ds with
  | [.tup es] => k (.dat (.tup es))
  | [.lst es] => k (.dat (.tup es))
  | _ => False
def rTupleQ (K : PySem.W.Frag) : List V → Hp → VK → Prop := fun xs H Q => ∃ p ys, xs = [.ref p] ∧ ((SqL K H p ys ∧ ∀ l, H l = none → Q (.ref l) (upd H l (.tup ys))) ∨ (SqT K H p ys ∧ Q (.ref p) H))
theorem c_tuple : XC X (.type "tuple") (rTupleQ X.K) dTuple := by
  refine ⟨call_tuple_of, ⟨fun B Z N H xs ds C Q hK hz hr hd q => ?_⟩⟩
  unfold dTuple at hd
  split at hd
  · rename_i es
    obtain ⟨x, rfl, h⟩ := pair1 hr
    obtain ⟨a, ys, rfl, ha, r⟩ := h.tup_inv
    exact ⟨a, ys, rfl, .inr ⟨.of ha, q (.dat (.tup es)) _ H (ExK.refl H) (Dt.tup ha r) hd⟩⟩
  · rename_i es
    obtain ⟨x, rfl, h⟩ := pair1 hr
    obtain ⟨a, ys, rfl, ha, r⟩ := h
    refine ⟨a, ys, rfl, .inl ⟨.of ha, fun p hp => ?_⟩⟩
    have ep := ExK.new (o := .tup ys) hp
    exact q (.dat (.tup es)) _ _ ep (Dt.tup upd_same (r.ex0 ep)) hd
  · exact hd.elim
/-- isinstance -/
def D.tyn : D → Option String
  | .v .non => some "NoneType"
  | .v (.bl _) => some "bool"
  | .v (.int _) => some "int"
  | .v (.str _) => some "str"
  | .tup _ => some "tuple"
  | .lst _ => some "list"
  | _ => none
def isaB (a T : String) : Bool := a == T || (a == "bool" && T == "int")
def tyNames : List String := ["int", "bool", "str", "tuple", "list"]
theorem kit_isa : ∀ a ∈ ["NoneType", "bool", "int", "str", "tuple", "list"], ∀ T ∈ tyNames, kitB a T = some (isaB a T) := by decide +kernel
theorem tyn_mem {d : D} {a : String} (h : d.tyn = some a) : a ∈ ["NoneType", "bool", "int", "str", "tuple", "list"] := by
  unfold D.tyn at h
  split at h <;> first
    | (cases h; decide)
    | cases h
theorem tyx_of {B : Bs} {N : Ct} {H : Hp} {Z : Addr → Prop} {x : V} {d : D} {a : String} (h : Dw B.K N H Z x d) (e : d.tyn = some a) : TyX B.K H x (.type a) := by
  cases d with
  | v y =>
    have hx := h.v_inv
    subst hx
    cases x <;> first
      | (cases e; exact .base .non)
      | (cases e; exact .base (.bl _))
      | (cases e; exact .base (.int _))
      | (cases e; exact .base (.str _))
      | (cases e)
  | tup ds =>
    obtain ⟨p, xs, rfl, ha, r⟩ := h.tup_inv
    cases e
    exact .base (.tup ha)
  | lst ds =>
    obtain ⟨p, xs, rfl, ha, r⟩ := h
    cases e
    exact .base (.lst ha)
  | scr ns => cases e
  | bag => cases e
  | fix P => cases e
def dIsi : DC := fun ds k => match ds with
  | [d, .v (.ty T)] => (T ∈ tyNames) ∧ match d.tyn with
    | some a => k (.dat (.bl (isaB a T)))
    | none => False
  | _ => False
theorem c_isi : XC X (.builtin "isinstance") (rIsi X.K) dIsi := by
  refine ⟨call_isi, ⟨fun B Z N H xs ds C Q hK hz hr hd q => ?_⟩⟩
  unfold dIsi at hd
  split at hd
  · rename_i d T
    obtain ⟨hT, hd⟩ := hd
    obtain ⟨x, y, rfl, h1, h2⟩ := pair2 hr
    have h2' := h2.v_inv
    subst h2'
    split at hd
    · rename_i a ea
      refine ⟨x, _, .type a, .type T, isaB a T, rfl, .ty T, hK ▸ tyx_of h1 ea, kit_ty (kit_isa a (tyn_mem ea) T hT), q (.dat (.v _)) _ H (ExK.refl H) (Dt.v _) hd⟩
    · exact hd.elim
  · exact hd.elim
end

inductive Ty where
  | int | bool | str | tuple | list
def Ty.nm : Ty → String
  | .int => "int" | .bool => "bool" | .str => "str" | .tuple => "tuple" | .list => "list"
def D.isa : D → Ty → Option Bool
  | .v .non, _ => some false
  | .v (.bl _), .bool => some true
  | .v (.bl _), .int => some true
  | .v (.bl _), _ => some false
  | .v (.int _), .int => some true
  | .v (.int _), _ => some false
  | .v (.str _), .str => some true
  | .v (.str _), _ => some false
  | .tup _, .tuple => some true
  | .tup _, _ => some false
  | .lst _, .list => some true
  | .lst _, _ => some false
  | _, _ => none
@[simp] theorem isa_1 {b : Bool} {i : Int} {x : Str} {ds : List D} : D.isa (.v .non) .int = some false := rfl
@[simp] theorem isa_2 {b : Bool} {i : Int} {x : Str} {ds : List D} : D.isa (.v .non) .bool = some false := rfl
@[simp] theorem isa_3 {b : Bool} {i : Int} {x : Str} {ds : List D} : D.isa (.v .non) .str = some false := rfl
@[simp] theorem isa_4 {b : Bool} {i : Int} {x : Str} {ds : List D} : D.isa (.v .non) .tuple = some false := rfl
@[simp] theorem isa_5 {b : Bool} {i : Int} {x : Str} {ds : List D} : D.isa (.v .non) .list = some false := rfl
@[simp] theorem isa_6 {b : Bool} {i : Int} {x : Str} {ds : List D} : D.isa (.v (.bl b)) .int = some true := rfl
@[simp] theorem isa_7 {b : Bool} {i : Int} {x : Str} {ds : List D} : D.isa (.v (.bl b)) .bool = some true := rfl
@[simp] theorem isa_8 {b : Bool} {i : Int} {x : Str} {ds : List D} : D.isa (.v (.bl b)) .str = some false := rfl
@[simp] theorem isa_9 {b : Bool} {i : Int} {x : Str} {ds : List D} : D.isa (.v (.bl b)) .tuple = some false := rfl
@[simp] theorem isa_10 {b : Bool} {i : Int} {x : Str} {ds : List D} : D.isa (.v (.bl b)) .list = some false := rfl
@[simp] theorem isa_11 {b : Bool} {i : Int} {x : Str} {ds : List D} : D.isa (.v (.int i)) .int = some true := rfl
@[simp] theorem isa_12 {b : Bool} {i : Int} {x : Str} {ds : List D} : D.isa (.v (.int i)) .bool = some false := rfl
@[simp] theorem isa_13 {b : Bool} {i : Int} {x : Str} {ds : List D} : D.isa (.v (.int i)) .str = some false := rfl
@[simp] theorem isa_14 {b : Bool} {i : Int} {x : Str} {ds : List D} : D.isa (.v (.int i)) .tuple = some false := rfl
@[simp] theorem isa_15 {b : Bool} {i : Int} {x : Str} {ds : List D} : D.isa (.v (.int i)) .list = some false := rfl
@[simp] theorem isa_16 {b : Bool} {i : Int} {x : Str} {ds : List D} : D.isa (.v (.str x)) .int = some false := rfl
@[simp] theorem isa_17 {b : Bool} {i : Int} {x : Str} {ds : List D} : D.isa (.v (.str x)) .bool = some false := rfl
@[simp] theorem isa_18 {b : Bool} {i : Int} {x : Str} {ds : List D} : D.isa (.v (.str x)) .str = some true := rfl
@[simp] theorem isa_19 {b : Bool} {i : Int} {x : Str} {ds : List D} : D.isa (.v (.str x)) .tuple = some false := rfl
@[simp] theorem isa_20 {b : Bool} {i : Int} {x : Str} {ds : List D} : D.isa (.v (.str x)) .list = some false := rfl
@[simp] theorem isa_21 {b : Bool} {i : Int} {x : Str} {ds : List D} : D.isa (.tup ds) .int = some false := rfl
@[simp] theorem isa_22 {b : Bool} {i : Int} {x : Str} {ds : List D} : D.isa (.tup ds) .bool = some false := rfl
@[simp] theorem isa_23 {b : Bool} {i : Int} {x : Str} {ds : List D} : D.isa (.tup ds) .str = some false := rfl
@[simp] theorem isa_24 {b : Bool} {i : Int} {x : Str} {ds : List D} : D.isa (.tup ds) .tuple = some true := rfl
@[simp] theorem isa_25 {b : Bool} {i : Int} {x : Str} {ds : List D} : D.isa (.tup ds) .list = some false := rfl
@[simp] theorem isa_26 {b : Bool} {i : Int} {x : Str} {ds : List D} : D.isa (.lst ds) .int = some false := rfl
@[simp] theorem isa_27 {b : Bool} {i : Int} {x : Str} {ds : List D} : D.isa (.lst ds) .bool = some false := rfl
@[simp] theorem isa_28 {b : Bool} {i : Int} {x : Str} {ds : List D} : D.isa (.lst ds) .str = some false := rfl
@[simp] theorem isa_29 {b : Bool} {i : Int} {x : Str} {ds : List D} : D.isa (.lst ds) .tuple = some false := rfl
@[simp] theorem isa_30 {b : Bool} {i : Int} {x : Str} {ds : List D} : D.isa (.lst ds) .list = some true := rfl
theorem isa_ty {d : D} {T : Ty} {b : Bool} (h : d.isa T = some b) : ∃ a, d.tyn = some a ∧ isaB a T.nm = b := by
  cases d with
  | v x => cases x <;> cases T <;> first
    | (cases h; exact ⟨_, rfl, by decide⟩)
    | cases h
  | tup ds => cases T <;> (cases h; exact ⟨_, rfl, by decide⟩)
  | lst ds => cases T <;> (cases h; exact ⟨_, rfl, by decide⟩)
  | scr ns => cases T <;> cases h
  | bag => cases T <;> cases h
  | fix P => cases T <;> cases h
theorem nm_mem (T : Ty) : T.nm ∈ tyNames := by cases T <;> decide
/-- isinstance(e, T) -/
@[simp] def dIsa (T : Ty) (de : DE) : DE := fun δ N C => de δ N fun s N1 => match s.rd.isa T with
  | some b => C (.dat (.bl b)) N1
  | none => False
theorem x_isa {X : Cx} {G : Gg} {e c : Expr} {te : TE} {de : DE} {p pos : Pos} (T : Ty) (hg : Gl X "isinstance") (hm : X.mg "isinstance" = none) (h : XE X G e te de) (hc : XE X G c (tC (.ty T.nm)) (dC (.ty T.nm))) (hK : G.K = X.K := by rfl)
    (hs2 : starEach (e :: [c]) X.env = (false, eval e X.env) :: starEach [c] X.env := by rfl) (hs1 : starEach [c] X.env = (false, eval c X.env) :: starEach [] X.env := by rfl) (hpl : (backTo pos (starEach [c] X.env)).any (·.1) = false := by rfl) :
    XE X G (.Call (.Name "isinstance" p) [e, c] [] pos) (tCB (rIsi G.K) (tCons te (tCons (tC (.ty T.nm)) tNil))) (dIsa T de) := by
  refine ⟨?_, ⟨fun B Z δ σ H N C Q hB S hd q => ?_⟩⟩
  · rw [hK]
    exact pe_callB (c_isi (X := X)).op hg hm PyProof.Rows.boot_isinstance (pa_cons h.pe (pa_cons hc.pe pa_nil hs1) hs2) (by decide) (by decide) hs2 hpl
  · subst hB
    refine h.sn.run B Z δ σ H N _ _ rfl S hd fun s x H1 k1 e1 r1 h1 => ?_
    split at h1
    · rename_i b eb
      obtain ⟨a, ea, hb⟩ := isa_ty eb
      have w := (r1.tp S.ztt).dw
      refine ⟨x, _, .type a, .type T.nm, b, rfl, .ty _, tyx_of w ea, kit_ty (by rw [kit_isa a (tyn_mem ea) T.nm (nm_mem T), hb]), q (.dat (.v _)) _ H1 k1 e1 (Dt.v _) h1⟩
    · exact h1.elim

/-- isinstance(e, (T, ..)) -/
def taTys : List Ty → TA
  | [] => tNil
  | T :: r => tCons (tC (.ty T.nm)) (taTys r)
theorem taTys_run {σ : L2.St} {H : Hp} : ∀ {Ts : List Ty} {Q : List V → Hp → Prop}, Q (Ts.map fun T => .ty T.nm) H → taTys Ts σ H Q
  | [], Q, h => h
  | T :: r, Q, h => taTys_run (Ts := r) (Q := fun xs H2 => Q (V.ty T.nm :: xs) H2) h
def D.isas (d : D) : List Ty → Option Bool
  | [] => some false
  | T :: r => match d.isa T, D.isas d r with
    | some a, some b => some (a || b)
    | _, _ => none
theorem kits {K : PySem.W.Frag} {d : D} {a : String} (ha : d.tyn = some a) : ∀ {Ts : List Ty} {b : Bool}, d.isas Ts = some b → PySem.W.kitAny K (.type a) (Ts.map fun T => .type T.nm) = some b
  | [], b, h => by
    cases h
    exact kitAny_nil
  | T :: r, b, h => by
    unfold D.isas at h
    split at h
    · rename_i x y hx hy
      cases h
      obtain ⟨a', ea, hb⟩ := isa_ty hx
      rw [ha] at ea
      cases ea
      have h1 : PySem.W.kitOne K (.type a) (.type T.nm) = some x := kit_ty (by rw [kit_isa a (tyn_mem ha) T.nm (nm_mem T), hb])
      refine kitAny_cons h1 (fun hx0 => ?_) (fun hx1 => by rw [hx1]; rfl)
      rw [hx0, Bool.false_or]
      exact kits ha hy
    · cases h
theorem tyn_of {d : D} {T : Ty} {b : Bool} (h : d.isa T = some b) : ∃ a, d.tyn = some a := by
  obtain ⟨a, ea, _⟩ := isa_ty h
  exact ⟨a, ea⟩
def D.isasE (d : D) (Ts : List Ty) : Option Bool := match d.isa .int with
  | some _ => d.isas Ts
  | none => none
@[simp] def dIsaT (Ts : List Ty) (de : DE) : DE := fun δ N C => de δ N fun s N1 => match s.rd.isasE Ts with
  | some b => C (.dat (.bl b)) N1
  | none => False
theorem cls_all : ∀ Ts : List Ty, Paired ClsV (Ts.map fun T => V.ty T.nm) (Ts.map fun T => Value.type T.nm)
  | [] => .nil
  | T :: r => .cons (.ty _) (cls_all r)
theorem x_isaT {X : Cx} {G : Gg} {e : Expr} {cs : List Expr} {te : TE} {de : DE} {dcs : DA} {p pos p2 : Pos} {x1} (Ts : List Ty) (hg : Gl X "isinstance") (hm : X.mg "isinstance" = none) (h : XE X G e te de) (hc : XA X G cs (taTys Ts) dcs) (hz : Ts.length ≤ 100) (hK : G.K = X.K := by rfl)
    (hs2 : starEach (e :: [.Tuple cs x1 p2]) X.env = (false, eval e X.env) :: starEach [.Tuple cs x1 p2] X.env := by rfl) (hs1 : starEach [.Tuple cs x1 p2] X.env = (false, eval (.Tuple cs x1 p2) X.env) :: starEach [] X.env := by rfl) (hpl : (backTo pos (starEach [.Tuple cs x1 p2] X.env)).any (·.1) = false := by rfl) :
    XE X G (.Call (.Name "isinstance" p) [e, .Tuple cs x1 p2] [] pos) (tCB (rIsiT G.K) (tCons te (tCons (tTup (taTys Ts)) tNil))) (dIsaT Ts de) := by
  refine ⟨?_, ⟨fun B Z δ σ H N C Q hB S hd q => ?_⟩⟩
  · rw [hK]
    exact pe_callB call_isiT hg hm PyProof.Rows.boot_isinstance (pa_cons h.pe (pa_cons (pe_tup hc.pe) pa_nil hs1) hs2) (by decide) (by decide) hs2 hpl
  · subst hB
    refine h.sn.run B Z δ σ H N _ _ rfl S hd fun s x H1 k1 e1 r1 h1 => ?_
    split at h1
    · rename_i b eb
      unfold D.isasE at eb
      split at eb
      · rename_i b0 eb0
        obtain ⟨a, ea⟩ := tyn_of eb0
        have w := (r1.tp S.ztt).dw
        refine taTys_run (Ts := Ts) ⟨by rw [List.length_map]; exact size_of (Nat.le_trans hz (by decide)), fun p hp => ?_⟩
        have ep := ExK.new (o := .tup (Ts.map fun T => .ty T.nm)) hp
        refine ⟨x, p, _, .type a, _, b, rfl, upd_same, cls_all Ts, tyx_of (w.ex ep) ea, kits ea eb, ?_⟩
        exact q (.dat (.v _)) _ _ k1 (e1.trans ep) (Dt.v _) h1
      · cases eb
    · exact h1.elim

/-! ### slices -/
abbrev DO := StD → Ct → (Option Int → Ct → Prop) → Prop
structure SndO (G : Gg) (to : TO) (d : DO) : Prop where
  run : ∀ (B : Bs) Z δ σ H N (C : Option Int → Ct → Prop) (Q : Option Int → Hp → Prop), B.G = G → SD B Z δ σ H N → d δ N C →
    (∀ o H' k, ExK k H H' → C o (N + k) → Q o H') → to σ H Q
structure XO (X : Cx) (G : Gg) (e : Option Expr) (t : TO) (d : DO) : Prop where
  pe : PO X e t
  sn : SndO G t d
@[simp] def dNoPart : DO := fun _ N C => C none N
@[simp] def dPart (de : DE) : DO := fun δ N C => de δ N fun s N1 => match s with
  | .dat (.v (.int i)) => C (some i) N1
  | _ => False
def cutD (ds : List D) (lo hi : Option Int) : List D := (ds.drop (HT.sIx ds.length 0 lo)).take (HT.sIx ds.length ds.length hi - HT.sIx ds.length 0 lo)
def cutI (ds : List Int) (lo hi : Option Int) : List Int := (ds.drop (HT.sIx ds.length 0 lo)).take (HT.sIx ds.length ds.length hi - HT.sIx ds.length 0 lo)
@[simp] def dSl (da : DE) (dl dh : DO) : DE := fun δ N C => da δ N fun s N1 => dl δ N1 fun lo N2 => dh δ N2 fun hi N3 => match s.rd with
  | .tup ds => C (.dat (.tup (cutD ds lo hi))) N3
  | .lst ds => C (.own (cutD ds lo hi)) N3
  | .scr ns => C (.own ((cutI ns lo hi).map D.int)) N3
  | _ => False
section
variable {X : Cx} {G : Gg} {e : Expr} {te : TE} {de : DE} {lo hi : Option Expr} {tl th : TO} {dl dh : DO} {pos p2 : Pos}
theorem xo_none : XO X G none tNoPart dNoPart := ⟨po_none, ⟨fun B Z δ σ H N C Q hB S h q => q none H 0 (ExK.refl H) h⟩⟩
theorem xo_some (h : XE X G e te de) : XO X G (some e) (tPart te) (dPart de) := by
  refine ⟨po_some h.pe, ⟨fun B Z δ σ H N C Q hB S hd q => ?_⟩⟩
  refine h.sn.run B Z δ σ H N _ _ hB S hd fun s x H1 k1 e1 r1 h1 => ?_
  split at h1
  · rename_i i
    have r' : Dt B.K (N + k1) H1 Z x (.v (.int i)) := r1
    cases r'
    exact ⟨i, rfl, q (some i) H1 k1 e1 h1⟩
  · exact h1.elim
theorem cut_all {K : PySem.W.Frag} {N : Ct} {H : Hp} {Z : Addr → Prop} {xs : List V} {ds : List D} {lo hi : Option Int} (r : DtAll K N H Z xs ds) : DtAll K N H Z (cutV xs lo hi) (cutD ds lo hi) := by
  unfold cutV cutD
  rw [r.length]
  exact (r.drop _).take _
theorem cutD_whole {ds : List D} {lo hi : Option Int} (h : HT.sIx ds.length 0 lo = 0 ∧ HT.sIx ds.length ds.length hi = ds.length) : cutD ds lo hi = ds := by
  unfold cutD
  rw [h.1, h.2]
  simp
theorem cutV_ints (ns : List Int) (lo hi : Option Int) : cutV (ns.map V.int) lo hi = (cutI ns lo hi).map V.int := by
  unfold cutV cutI
  rw [List.length_map, ← List.map_drop, ← List.map_take]
theorem x_slice0 (h : XE X G e te de) (hl : XO X G lo tl dl) (hu : XO X G hi th dh) (hK : G.K = X.K := by rfl) : XE X G (.Subscript e (.Slice lo hi none p2) pos) (tSl (fun x l u H Q => rSlA X.K x l u H Q ∨ rSlL X.K x l u H Q) te tl th) (dSl de dl dh) := by
  refine ⟨pe_slice (sl_tupA.or sl_list) h.pe hl.pe hu.pe, ⟨fun B Z δ σ H N C Q hB S hd q => ?_⟩⟩
  have hBK : X.K = B.K := by rw [← hK, ← hB]
  refine h.sn.run B Z δ σ H N _ _ hB S hd fun s x H1 k1 e1 r1 h1 => ?_
  refine hl.sn.run B Z δ σ H1 (N + k1) _ _ hB (S.ext e1) h1 fun l H2 k2 e2 h2 => ?_
  refine hu.sn.run B Z δ σ H2 (N + k1 + k2) _ _ hB ((S.ext e1).ext e2) h2 fun u H3 k3 e3 h3 => ?_
  have w : Dw B.K (N + (k1 + k2 + k3)) H3 Z x s.rd := by
    have w' := (((r1.tp S.ztt).dw).ex e2).ex e3
    have e8 : N + k1 + k2 + k3 = N + (k1 + k2 + k3) := by simp only [Ct.assoc]
    rw [e8] at w'
    exact w'
  have ee : ExK (k1 + k2 + k3) H H3 := (e1.trans e2).trans e3
  have e8 : N + k1 + k2 + k3 = N + (k1 + k2 + k3) := by simp only [Ct.assoc]
  rw [e8] at h3
  rw [hBK]
  split at h3
  · rename_i ds eq
    rw [eq] at w
    obtain ⟨a, xs, rfl, ha, r⟩ := w.tup_inv
    refine .inl ⟨a, xs, rfl, .of ha, fun hw => ?_, fun _ p hp => ?_⟩
    · rw [r.length] at hw
      rw [cutD_whole hw] at h3
      exact q (.dat (.tup ds)) _ H3 _ ee (Dt.tup ha r) h3
    · have ep := ExK.new (o := .tup (cutV xs l u)) hp
      exact q (.dat (.tup (cutD ds l u))) _ _ _ (ee.trans ep) (Dt.tup upd_same ((cut_all r).ex0 ep)) h3
  · rename_i ds eq
    rw [eq] at w
    obtain ⟨a, xs, rfl, ha, r⟩ := w
    refine .inr ⟨a, xs, rfl, .of ha, fun p hp => ?_⟩
    have ep := ExK.new (o := .lst (cutV xs l u)) hp
    exact q (.own (cutD ds l u)) _ _ _ (ee.trans ep) ⟨p, _, rfl, ee.back hp, upd_same, (cut_all r).new hp⟩ h3
  · rename_i ns eq
    rw [eq] at w
    obtain ⟨a, rfl, ha⟩ := w.scr_inv
    refine .inr ⟨a, _, rfl, ha, fun p hp => ?_⟩
    have ep := ExK.new (o := .lst (cutV (ns.map V.int) l u)) hp
    refine q (.own ((cutI ns l u).map D.int)) _ _ _ (ee.trans ep) ⟨p, _, rfl, ee.back hp, upd_same, ?_⟩ h3
    rw [cutV_ints]
    exact .ofInts _
  · exact h3.elim
theorem x_slice (h : XE X G e te de) (hl : XO X G lo tl dl) (hu : XO X G hi th dh) (hK : G.K = X.K := by rfl) : XE X G (.Subscript e (.Slice lo hi none p2) pos) (tSl (fun x l u H Q => rSlA G.K x l u H Q ∨ rSlL G.K x l u H Q) te tl th) (dSl de dl dh) := by
  rw [hK]
  exact x_slice0 h hl hu hK
end

/-! ### what is walked -/
abbrev DI := StD → Ct → (List D → Ct → Prop) → Prop
/-- the iterator J walks the items ds while the temps τ stand -/
structure Walks (K : PySem.W.Frag) (J : It) (τ : List (D × V)) (ds : List D) : Prop where
  go : ∀ N H Z i d, Zt Z H → (∀ p ∈ τ, Dt K N H Z p.2 p.1) → ds[i]? = some d → J.go i H ∧ ∀ x H', J.yld i H x H' → ExK 0 H H' ∧ Dt K N H' Z x d
  stop : ∀ N H Z i, (∀ p ∈ τ, Dt K N H Z p.2 p.1) → ds.length ≤ i → J.stop i H
structure SndI (G : Gg) (wi : TI) (di : DI) : Prop where
  run : ∀ (B : Bs) Z δ σ H N (C : List D → Ct → Prop) (R : It → Hp → Prop), B.G = G → SD B Z δ σ H N → di δ N C →
    (∀ J ds τ H' k, ExK k H H' → (∀ p ∈ τ, Dt B.K (N + k) H' Z p.2 p.1) → Walks B.K J τ ds → C ds (N + k) → R J H') → wi σ H R
structure XI (X : Cx) (G : Gg) (tg iter : Expr) (wi : TI) (di : DI) : Prop where
  pe : PI X tg iter wi
  sn : SndI G wi di
def iSeq (K : PySem.W.Frag) (tl : TE) : TI := fun σ H R => tl σ H fun x H1 => ∃ a, x = .ref a ∧ (((∃ xs, SqL K H1 a xs) ∧ R (Itl K a) H1) ∨ ((∃ xs, SqT K H1 a xs) ∧ R (Itt K a) H1))
theorem pi_seq {X : Cx} {tg l : Expr} {tl : TE} (hl : PE X l tl) : PI X tg l (iSeq X.K tl) := by
  refine ⟨fun pins s σ H R I h => ?_⟩
  refine thn (hl.run pins s σ H _ I h) fun v s1 ⟨x, H1, I1, r1, q1⟩ => ?_
  obtain ⟨a, e, ⟨⟨xs, hq⟩, q⟩ | ⟨⟨xs, hq⟩, q⟩⟩ := q1
  · subst e
    cases r1
    obtain ⟨its, rv, p, hz⟩ := I1.list hq
    refine wpAny_pyIter_list p.isList ?_
    refine ⟨s1.heap.objs.size, [s1.heap.objs.size], _, _, H1, rfl, I1.kept (t' := s1.toks) fun b o e => Heap.get?_push_of_some _ e, turn_list a _, ⟨_, Heap.get?_push_size _ rfl, rfl, rfl⟩, fun b hb => ?_, q⟩
    have e : b = s1.heap.objs.size := by simpa using hb
    subst e
    exact I1.fpOk (Nat.le_refl _) (I1.hok.fresh (Nat.le_refl _))
  · subst e
    cases r1
    obtain ⟨its, rv, p, hz⟩ := I1.tuple hq
    refine wpAny_pyIter_tuple (show s1.heap.IsTuple a its.toArray from p) ?_
    refine ⟨s1.heap.objs.size, [s1.heap.objs.size], _, _, H1, rfl, I1.kept (t' := s1.toks) fun b o e => Heap.get?_push_of_some _ e, turn_tuple a _, ⟨_, Heap.get?_push_size _ rfl, rfl, rfl⟩, fun b hb => ?_, q⟩
    have e : b = s1.heap.objs.size := by simpa using hb
    subst e
    exact I1.fpOk (Nat.le_refl _) (I1.hok.fresh (Nat.le_refl _))
/-- a list or tuple (no other name of an own list) -/
def itemsS : Sl → Option (List D)
  | .dat (.tup ds) => some ds
  | .dat (.lst ds) => some ds
  | .own ds => some ds
  | _ => none
@[simp] theorem itemsS_1 {ds : List D} : itemsS (.dat (.tup ds)) = some ds := rfl
@[simp] theorem itemsS_2 {ds : List D} : itemsS (.dat (.lst ds)) = some ds := rfl
@[simp] theorem itemsS_3 {ds : List D} : itemsS (.own ds) = some ds := rfl
@[simp] def dSeqI (de : DE) : DI := fun δ N C => de δ N fun s N1 => match itemsS s with
  | some ds => C ds N1
  | none => False
theorem walks_list {K : PySem.W.Frag} {a : Addr} {ds : List D} : Walks K (Itl K a) [(.lst ds, .ref a)] ds where
  go := fun N H Z i d _ ht hd => by
    have h : Dt K N H Z (.ref a) (.lst ds) := ht (.lst ds, .ref a) (by simp)
    cases h with
    | lst ha hz r =>
      obtain ⟨v, h1, h2⟩ := r.get hd
      refine ⟨⟨_, v, .of ha, h1⟩, fun x H' y => ?_⟩
      obtain ⟨rfl, y⟩ := y
      have e := y _ (.of ha)
      rw [h1] at e
      cases e
      exact ⟨ExK.refl _, h2⟩
  stop := fun N H Z i ht hi => by
    have h : Dt K N H Z (.ref a) (.lst ds) := ht (.lst ds, .ref a) (by simp)
    cases h with
    | lst ha hz r => exact ⟨_, .of ha, by rw [r.length]; exact hi⟩
theorem walks_tup {K : PySem.W.Frag} {a : Addr} {ds : List D} : Walks K (Itt K a) [(.tup ds, .ref a)] ds where
  go := fun N H Z i d _ ht hd => by
    have h : Dt K N H Z (.ref a) (.tup ds) := ht (.tup ds, .ref a) (by simp)
    cases h with
    | tup ha r =>
      obtain ⟨v, h1, h2⟩ := r.get hd
      refine ⟨⟨_, v, .of ha, h1⟩, fun x H' y => ?_⟩
      obtain ⟨rfl, y⟩ := y
      have e := y _ (.of ha)
      rw [h1] at e
      cases e
      exact ⟨ExK.refl _, h2⟩
  stop := fun N H Z i ht hi => by
    have h : Dt K N H Z (.ref a) (.tup ds) := ht (.tup ds, .ref a) (by simp)
    cases h with
    | tup ha r => exact ⟨_, .of ha, by rw [r.length]; exact hi⟩
section
variable {X : Cx} {G : Gg} {tg e a b : Expr} {te : TE} {de : DE} {ta : TA} {da : DA} {p pos : Pos}
theorem snd_seqI (h : Snd G te de) : SndI G (iSeq G.K te) (dSeqI de) := by
  refine ⟨fun B Z δ σ H N C R hB S hd q => ?_⟩
  subst hB
  refine h.run B Z δ σ H N _ _ rfl S hd fun s x H1 k1 e1 r1 h1 => ?_
  have tup : ∀ ds, Dt B.K (N + k1) H1 Z x (.tup ds) → C ds (N + k1) → ∃ a, x = .ref a ∧ (((∃ xs, SqL B.K H1 a xs) ∧ R (Itl B.K a) H1) ∨ ((∃ xs, SqT B.K H1 a xs) ∧ R (Itt B.K a) H1)) := fun ds hx hc => by
    obtain ⟨a, xs, rfl, ha, r⟩ := (Dw.of hx).tup_inv
    refine ⟨a, rfl, .inr ⟨⟨xs, .of ha⟩, q _ ds [(.tup ds, .ref a)] H1 k1 e1 (fun p hp => ?_) walks_tup hc⟩⟩
    have e : p = (.tup ds, .ref a) := by simpa using hp
    subst e
    exact hx
  have lst : ∀ ds, Dt B.K (N + k1) H1 Z x (.lst ds) → C ds (N + k1) → ∃ a, x = .ref a ∧ (((∃ xs, SqL B.K H1 a xs) ∧ R (Itl B.K a) H1) ∨ ((∃ xs, SqT B.K H1 a xs) ∧ R (Itt B.K a) H1)) := fun ds hx hc => by
    have hx' := hx
    cases hx with
    | @lst a xs _ ha hz r =>
      refine ⟨a, rfl, .inl ⟨⟨xs, .of ha⟩, q _ ds [(.lst ds, .ref a)] H1 k1 e1 (fun p hp => ?_) walks_list hc⟩⟩
      have e : p = (.lst ds, .ref a) := by simpa using hp
      subst e
      exact hx'
  have t := r1.tp S.ztt
  split at h1
  · rename_i ds eq
    unfold itemsS at eq
    split at eq
    · cases eq; exact tup _ t h1
    · cases eq; exact lst _ t h1
    · cases eq; exact lst _ t h1
    · cases eq
  · exact h1.elim
theorem xi_seq (h : XE X G e te de) (hK : G.K = X.K := by rfl) : XI X G tg e (iSeq G.K te) (dSeqI de) := ⟨by rw [hK]; exact pi_seq h.pe, snd_seqI h.sn⟩
/-- ranges -/
def rngD (lo : Int) (n : Nat) : List D := (List.range n).map fun i : Nat => D.int (lo + (i : Int))
theorem rngD_get {lo : Int} {n i : Nat} {d : D} (h : (rngD lo n)[i]? = some d) : i < n ∧ d = .int (lo + (i : Int)) := by
  unfold rngD at h
  rw [List.getElem?_map] at h
  by_cases hi : i < n
  · rw [List.getElem?_range hi] at h
    cases h
    exact ⟨hi, rfl⟩
  · rw [List.getElem?_eq_none (by rw [List.length_range]; omega)] at h
    cases h
theorem rngD_len {lo : Int} {n : Nat} : (rngD lo n).length = n := by unfold rngD; rw [List.length_map, List.length_range]
theorem walks_rng {K : PySem.W.Frag} {lo : Int} {n : Nat} : Walks K (Itr lo n) [] (rngD lo n) where
  go := fun N H Z i d _ _ hd => by
    obtain ⟨h1, rfl⟩ := rngD_get hd
    refine ⟨h1, fun x H' y => ?_⟩
    obtain ⟨rfl, rfl⟩ := y
    exact ⟨ExK.refl _, .v _⟩
  stop := fun N H Z i _ hi => by
    rw [rngD_len] at hi
    exact hi
@[simp] def dRng1 (da : DA) : DI := fun δ N C => da δ N fun ss N1 => match ss with
  | [.dat (.v (.int j))] => (-(2 ^ 62) ≤ j ∧ j < 2 ^ 62) ∧ C (rngD 0 j.toNat) N1
  | _ => False
@[simp] def dRng2 (da : DA) : DI := fun δ N C => da δ N fun ss N1 => match ss with
  | [.dat (.v (.int i)), .dat (.v (.int j))] => (-(2 ^ 62) ≤ i ∧ i < 2 ^ 62 ∧ -(2 ^ 62) ≤ j ∧ j < 2 ^ 62) ∧ C (rngD i (j - i).toNat) N1
  | _ => False
theorem snd_rng1 (h : SndA G ta da) : SndI G (iRng1 ta) (dRng1 da) := by
  refine ⟨fun B Z δ σ H N C R hB S hd q => ?_⟩
  refine h.run B Z δ σ H N _ _ hB S hd fun ss vs H1 k1 e1 r1 h1 => ?_
  split at h1
  · rename_i j
    obtain ⟨x, rfl, hx⟩ := pair1 r1
    have hx' : Dt B.K (N + k1) H1 Z x (.v (.int j)) := hx
    cases hx'
    exact ⟨j, rfl, h1.1.1, h1.1.2, q _ _ [] H1 k1 e1 (fun p hp => absurd hp (by simp)) walks_rng h1.2⟩
  · exact h1.elim
theorem snd_rng2 (h : SndA G ta da) : SndI G (iRng2 ta) (dRng2 da) := by
  refine ⟨fun B Z δ σ H N C R hB S hd q => ?_⟩
  refine h.run B Z δ σ H N _ _ hB S hd fun ss vs H1 k1 e1 r1 h1 => ?_
  split at h1
  · rename_i i j
    obtain ⟨x, y, rfl, hx, hy⟩ := pair2 r1
    have hx' : Dt B.K (N + k1) H1 Z x (.v (.int i)) := hx
    have hy' : Dt B.K (N + k1) H1 Z y (.v (.int j)) := hy
    cases hx'
    cases hy'
    exact ⟨i, j, rfl, h1.1, q _ _ [] H1 k1 e1 (fun p hp => absurd hp (by simp)) walks_rng h1.2⟩
  · exact h1.elim
theorem xi_rng1 (hg : Gl X "range") (hm : X.mg "range" = none) (ha : XA X G [a] ta da) (hs : starEach [a] X.env = [(false, eval a X.env)] := by rfl) : XI X G tg (.Call (.Name "range" p) [a] [] pos) (iRng1 ta) (dRng1 da) := ⟨pi_range1 hg hm ha.pe hs, snd_rng1 ha.sn⟩
theorem xi_rng2 (hg : Gl X "range") (hm : X.mg "range" = none) (ha : XA X G [a, b] ta da) (hs : starEach [a, b] X.env = [(false, eval a X.env), (false, eval b X.env)] := by rfl) (hs2 : starEach [b] X.env = [(false, eval b X.env)] := by rfl) :
    XI X G tg (.Call (.Name "range" p) [a, b] [] pos) (iRng2 ta) (dRng2 da) := ⟨pi_range2 hg hm ha.pe hs hs2, snd_rng2 ha.sn⟩
/-- enumerate of a list -/
def enumFrom (n : Nat) : List D → List D
  | [] => []
  | d :: ds => .tup [.int (n : Int), d] :: enumFrom (n + 1) ds
theorem enum_get : ∀ {ds : List D} {n i : Nat} {d : D}, (enumFrom n ds)[i]? = some d → ∃ e, ds[i]? = some e ∧ d = .tup [.int ((n + i : Nat) : Int), e]
  | [], _, _, _, h => by simp [enumFrom] at h
  | x :: ds, n, 0, d, h => by
    simp [enumFrom] at h
    exact ⟨x, rfl, h.symm⟩
  | x :: ds, n, i + 1, d, h => by
    obtain ⟨e, h1, h2⟩ := enum_get (ds := ds) (n := n + 1) (i := i) (d := d) (by simpa [enumFrom] using h)
    refine ⟨e, by simpa using h1, ?_⟩
    rw [h2]
    have e8 : n + 1 + i = n + (i + 1) := by omega
    rw [e8]
theorem enum_len : ∀ {ds : List D} {n : Nat}, (enumFrom n ds).length = ds.length
  | [], _ => rfl
  | x :: ds, n => congrArg (· + 1) (enum_len (ds := ds) (n := n + 1))
theorem walks_enum {K : PySem.W.Frag} {a : Addr} {ds : List D} : Walks K (Ite K a) [(.lst ds, .ref a)] (enumFrom 0 ds) where
  go := fun N H Z i d hz ht hd => by
    have h : Dt K N H Z (.ref a) (.lst ds) := ht (.lst ds, .ref a) (by simp)
    obtain ⟨e, he, rfl⟩ := enum_get hd
    cases h with
    | lst ha hz' r =>
      obtain ⟨v, h1, h2⟩ := r.get he
      refine ⟨⟨_, v, .of ha, h1⟩, fun x H' y => ?_⟩
      obtain ⟨T, x1, rfl, hT, rfl, f⟩ := y
      have e1 := f _ (.of ha)
      rw [h1] at e1
      cases e1
      have ep := ExK.new (o := .tup [.int (i : Nat), v]) hT
      refine ⟨ep, .tup upd_same (.cons ?_ (.cons (h2.ex0 ep) .nil))⟩
      rw [Nat.zero_add]
      exact .v _
  stop := fun N H Z i ht hi => by
    have h : Dt K N H Z (.ref a) (.lst ds) := ht (.lst ds, .ref a) (by simp)
    rw [enum_len] at hi
    cases h with
    | lst ha hz r => exact ⟨_, .of ha, by rw [r.length]; exact hi⟩
@[simp] def dEnum (da : DA) : DI := fun δ N C => da δ N fun ss N1 => match ss with
  | [.dat (.lst ds)] => C (enumFrom 0 ds) N1
  | [.own ds] => C (enumFrom 0 ds) N1
  | _ => False
theorem snd_enum (h : SndA G ta da) : SndI G (iEnum G.K ta) (dEnum da) := by
  refine ⟨fun B Z δ σ H N C R hB S hd q => ?_⟩
  subst hB
  refine h.run B Z δ σ H N _ _ rfl S hd fun ss vs H1 k1 e1 r1 h1 => ?_
  have fin : ∀ ds x, Dt B.K (N + k1) H1 Z x (.lst ds) → C (enumFrom 0 ds) (N + k1) → ∃ a xs, [x] = [V.ref a] ∧ SqL B.K H1 a xs ∧ R (Ite B.K a) H1 := fun ds x hx hc => by
    have hx' := hx
    cases hx with
    | @lst a xs _ ha hz r =>
      refine ⟨a, xs, rfl, .of ha, q _ _ [(.lst ds, .ref a)] H1 k1 e1 (fun p hp => ?_) walks_enum hc⟩
      have e : p = (.lst ds, .ref a) := by simpa using hp
      subst e
      exact hx'
  split at h1
  · obtain ⟨x, rfl, hx⟩ := pair1 r1
    exact fin _ x hx h1
  · obtain ⟨x, rfl, hx⟩ := pair1 r1
    exact fin _ x hx h1
  · exact h1.elim
theorem xi_enum {tpos : Pos} {elts : List Expr} {kk : Nat} (hg : Gl X "enumerate") (hm : X.mg "enumerate" = none) (ha : XA X G [e] ta da) (hK : G.K = X.K := by rfl) (hs : starEach [e] X.env = [(false, eval e X.env)] := by rfl) :
    XI X G (.Tuple elts kk tpos) (.Call (.Name "enumerate" p) [e] [] pos) (iEnum G.K ta) (dEnum da) := ⟨by rw [hK]; exact pi_enum hg hm ha.pe hs, snd_enum ha.sn⟩
/-- zip of two lists, of two tuples -/
def zipD : List D → List D → List D
  | d :: ds, e :: es => .tup [d, e] :: zipD ds es
  | _, _ => []
theorem zip_get : ∀ {ds es : List D} {i : Nat} {d : D}, (zipD ds es)[i]? = some d → ∃ x y, ds[i]? = some x ∧ es[i]? = some y ∧ d = .tup [x, y]
  | [], _, _, _, h => by simp [zipD] at h
  | _ :: _, [], _, _, h => by simp [zipD] at h
  | x :: ds, y :: es, 0, d, h => by
    simp [zipD] at h
    exact ⟨x, y, rfl, rfl, h.symm⟩
  | x :: ds, y :: es, i + 1, d, h => by
    obtain ⟨u, v, h1, h2, h3⟩ := zip_get (ds := ds) (es := es) (i := i) (d := d) (by simpa [zipD] using h)
    exact ⟨u, v, by simpa using h1, by simpa using h2, h3⟩
theorem zip_len : ∀ {ds es : List D} {i : Nat}, (zipD ds es).length ≤ i → ds.length ≤ i ∨ es.length ≤ i
  | [], _, _, _ => .inl (Nat.zero_le _)
  | _ :: _, [], _, _ => .inr (Nat.zero_le _)
  | _ :: ds, _ :: es, 0, h => by simp [zipD] at h
  | _ :: ds, _ :: es, i + 1, h => by
    rcases zip_len (ds := ds) (es := es) (i := i) (by simpa [zipD] using h) with h | h
    · exact .inl (by simpa using h)
    · exact .inr (by simpa using h)
theorem walks_zip {K : PySem.W.Frag} {a b : Addr} {ds es : List D} : Walks K (Itz K a b) [(.lst ds, .ref a), (.lst es, .ref b)] (zipD ds es) where
  go := fun N H Z i d hz ht hd => by
    have h1 : Dt K N H Z (.ref a) (.lst ds) := ht (.lst ds, .ref a) (by simp)
    have h2 : Dt K N H Z (.ref b) (.lst es) := ht (.lst es, .ref b) (by simp)
    obtain ⟨u, v, hu, hv, rfl⟩ := zip_get hd
    cases h1 with
    | lst ha _ ra =>
      cases h2 with
      | lst hb _ rb =>
        obtain ⟨x, g1, g2⟩ := ra.get hu
        obtain ⟨y, g3, g4⟩ := rb.get hv
        refine ⟨⟨_, _, x, y, .of ha, .of hb, g1, g3⟩, fun z H' yl => ?_⟩
        obtain ⟨T, x1, y1, rfl, hT, rfl, f1, f2⟩ := yl
        have e1 := f1 _ (.of ha)
        have e2 := f2 _ (.of hb)
        rw [g1] at e1
        rw [g3] at e2
        cases e1
        cases e2
        have ep := ExK.new (o := .tup [x, y]) hT
        exact ⟨ep, .tup upd_same (.cons (g2.ex0 ep) (.cons (g4.ex0 ep) .nil))⟩
  stop := fun N H Z i ht hi => by
    have h1 : Dt K N H Z (.ref a) (.lst ds) := ht (.lst ds, .ref a) (by simp)
    have h2 : Dt K N H Z (.ref b) (.lst es) := ht (.lst es, .ref b) (by simp)
    cases h1 with
    | lst ha _ ra =>
      cases h2 with
      | lst hb _ rb => exact ⟨_, _, .of ha, .of hb, by rw [ra.length, rb.length]; exact zip_len hi⟩
theorem walks_zipT {K : PySem.W.Frag} {a b : Addr} {ds es : List D} : Walks K (RZ.ItzT K a b) [(.tup ds, .ref a), (.tup es, .ref b)] (zipD ds es) where
  go := fun N H Z i d hz ht hd => by
    have h1 : Dt K N H Z (.ref a) (.tup ds) := ht (.tup ds, .ref a) (by simp)
    have h2 : Dt K N H Z (.ref b) (.tup es) := ht (.tup es, .ref b) (by simp)
    obtain ⟨u, v, hu, hv, rfl⟩ := zip_get hd
    cases h1 with
    | tup ha ra =>
      cases h2 with
      | tup hb rb =>
        obtain ⟨x, g1, g2⟩ := ra.get hu
        obtain ⟨y, g3, g4⟩ := rb.get hv
        refine ⟨⟨_, _, x, y, .of ha, .of hb, g1, g3⟩, fun z H' yl => ?_⟩
        obtain ⟨T, x1, y1, rfl, hT, rfl, f1, f2⟩ := yl
        have e1 := f1 _ (.of ha)
        have e2 := f2 _ (.of hb)
        rw [g1] at e1
        rw [g3] at e2
        cases e1
        cases e2
        have ep := ExK.new (o := .tup [x, y]) hT
        exact ⟨ep, .tup upd_same (.cons (g2.ex0 ep) (.cons (g4.ex0 ep) .nil))⟩
  stop := fun N H Z i ht hi => by
    have h1 : Dt K N H Z (.ref a) (.tup ds) := ht (.tup ds, .ref a) (by simp)
    have h2 : Dt K N H Z (.ref b) (.tup es) := ht (.tup es, .ref b) (by simp)
    cases h1 with
    | tup ha ra =>
      cases h2 with
      | tup hb rb => exact ⟨_, _, .of ha, .of hb, by rw [ra.length, rb.length]; exact zip_len hi⟩
@[simp] def dZip (da : DA) : DI := fun δ N C => da δ N fun ss N1 => chk (nalsA ss) (match ss.map Sl.rd with
  | [.lst ds, .lst es] => C (zipD ds es) N1
  | [.tup ds, .tup es] => C (zipD ds es) N1
  | _ => False)
theorem snd_zip (h : SndA G ta da) : SndI G (RZ.iZipA G.K ta) (dZip da) := by
  refine ⟨fun B Z δ σ H N C R hB S hd q => ?_⟩
  subst hB
  refine h.run B Z δ σ H N _ _ rfl S hd fun ss vs H1 k1 e1 r1 h1 => ?_
  obtain ⟨hn, h1⟩ := chk_iff.mp h1
  have rr := pair_all r1 hn
  split at h1
  · rename_i ds es eq
    rw [eq] at rr
    cases rr with
    | cons hx rr =>
      cases rr with
      | cons hy rr =>
        cases rr
        have hx' := hx
        have hy' := hy
        cases hx with
        | @lst a xs _ ha _ ra =>
          cases hy with
          | @lst b ys _ hb _ rb =>
            refine ⟨a, b, xs, ys, rfl, .inl ⟨.of ha, .of hb, q _ _ [(.lst ds, .ref a), (.lst es, .ref b)] H1 k1 e1 (fun p hp => ?_) walks_zip h1⟩⟩
            have e : p = (.lst ds, .ref a) ∨ p = (.lst es, .ref b) := by simpa using hp
            rcases e with e | e
            · subst e; exact hx'
            · subst e; exact hy'
  · rename_i ds es eq
    rw [eq] at rr
    cases rr with
    | cons hx rr =>
      cases rr with
      | cons hy rr =>
        cases rr
        have hx' := hx
        have hy' := hy
        cases hx with
        | @tup a xs _ ha ra =>
          cases hy with
          | @tup b ys _ hb rb =>
            refine ⟨a, b, xs, ys, rfl, .inr ⟨.of ha, .of hb, q _ _ [(.tup ds, .ref a), (.tup es, .ref b)] H1 k1 e1 (fun p hp => ?_) walks_zipT h1⟩⟩
            have e : p = (.tup ds, .ref a) ∨ p = (.tup es, .ref b) := by simpa using hp
            rcases e with e | e
            · subst e; exact hx'
            · subst e; exact hy'
  · exact h1.elim
theorem xi_zip {e2 : Expr} {tpos : Pos} {elts : List Expr} {kk : Nat} (hg : Gl X "zip") (hm : X.mg "zip" = none) (ha : XA X G [e, e2] ta da) (hK : G.K = X.K := by rfl)
    (hs : starEach [e, e2] X.env = (false, eval e X.env) :: starEach [e2] X.env := by rfl) (hpl : (backTo pos (starEach [e2] X.env)).any (·.1) = false := by rfl) :
    XI X G (.Tuple elts kk tpos) (.Call (.Name "zip" p) [e, e2] [] pos) (RZ.iZipA G.K ta) (dZip da) := ⟨by rw [hK]; exact RZ.pi_zipA hg hm ha.pe hs hpl, snd_zip ha.sn⟩
end
end DL

/-! DLf: targets, comprehensions, statements, defs, by data. -/
namespace DL
open PySem PySem.Spec PyProof.Rows L2
variable [TabNames]

/-! ### the state behind a store -/
section
variable {B : Bs} {Z : Addr → Prop} {δ : StD} {σ : L2.St} {H H' : Hp} {N k : Ct}
theorem set_same {σ : L2.St} {i : Nat} {x : V} (h : i < σ.length) : (σ.set i (some x))[i]? = some (some x) := by rw [List.getElem?_set_self h]
theorem set_ne {σ : L2.St} {i j : Nat} {x : Option V} (h : j ≠ i) : (σ.set i x)[j]? = σ[j]? := by rw [List.getElem?_set_ne (Ne.symm h)]
theorem SD.set (S : SD B Z δ σ H N) {i : Nat} {d : D} {x : V} (h : Dt B.K N H Z x d) : SD B Z (stn δ i (.dat d)) (σ.set i (some x)) H N where
  ex := S.ex
  z0 := S.z0
  z1 := S.z1
  zt := S.zt
  len := by rw [stn_length, List.length_set]; exact S.len
  slot := fun j s hj => by
    by_cases e : j = i
    · subst e
      have hl : j < δ.length := by
        have := nth_lt hj
        rwa [stn_length] at this
      have es := nth_stn_same hj
      subst es
      exact ⟨x, set_same (by rw [← S.len]; exact hl), h⟩
    · rw [nth_stn_ne e] at hj
      obtain ⟨v, h1, h2⟩ := S.slot j s hj
      exact ⟨v, by rw [set_ne e]; exact h1, h2⟩
  nals := fun j ds hj => by
    by_cases e : j = i
    · subst e
      have es := nth_stn_same hj
      cases es
    · rw [nth_stn_ne e] at hj
      exact S.nals j ds hj
  d1 := fun j l ds es hne hj hl => by
    by_cases e : j = i
    · subst e
      have z := nth_stn_same hj
      cases z
    · by_cases e' : l = i
      · subst e'
        have z := nth_stn_same hl
        cases z
      · rw [nth_stn_ne e] at hj
        rw [nth_stn_ne e'] at hl
        rw [set_ne e, set_ne e']
        exact S.d1 j l ds es hne hj hl
/-- a fresh list becomes a slot's own -/
theorem SD.own (S : SD B Z δ σ H N) (e : ExK k H H') {i : Nat} {ds : List D} {p : Addr} {xs : List V} (h0 : H p = none) (h1 : H' p = some (.lst xs)) (r : DtAll B.K (N + k) H' (Zp Z p) xs ds) :
    SD B (Zp Z p) (stn δ i (.own ds)) (σ.set i (some (.ref p))) H' (N + k) := by
  have hB0 : B.H0 p = none := by
    obtain ⟨j, _, ej⟩ := S.ex
    exact ej.back h0
  have g : Gro B.K N (N + k) Z (Zp Z p) H H' := .new e h0
  have npz : ¬ Z p := Zt.fresh S.zt h0
  have slot' : ∀ (j : Nat) (s : Sl), nth δ j = some s → ∃ v, σ[j]? = some (some v) ∧ Rp B (N + k) H' (Zp Z p) v s ∧ ((∃ es, s = .own es) → v ≠ .ref p) := fun j s hj => by
    obtain ⟨v, g1, g2⟩ := S.slot j s hj
    cases s with
    | dat d => exact ⟨v, g1, Dt.gro g g2, fun ⟨_, z⟩ => by cases z⟩
    | own es =>
      obtain ⟨a, ys, rfl, z, q0, qa, qr⟩ := g2
      refine ⟨_, g1, ⟨a, ys, rfl, .inl z, q0, e.lst qa, qr.gro g⟩, fun _ w => ?_⟩
      cases w
      exact npz z
    | als es => exact absurd hj (S.nals j es)
  exact {
    ex := (S.ext e).ex
    z0 := fun a h => .inl (S.z0 a h)
    z1 := S.z1
    zt := fun a h => by
      rcases h with h | rfl
      · exact (S.ext e).zt a h
      · exact ⟨xs, h1⟩
    len := by rw [stn_length, List.length_set]; exact S.len
    slot := fun j s hj => by
      by_cases ej : j = i
      · subst ej
        have hl : j < δ.length := by
          have := nth_lt hj
          rwa [stn_length] at this
        have es := nth_stn_same hj
        subst es
        exact ⟨_, set_same (by rw [← S.len]; exact hl), p, xs, rfl, .inr rfl, hB0, h1, r⟩
      · rw [nth_stn_ne ej] at hj
        obtain ⟨v, g1, g2, _⟩ := slot' j s hj
        exact ⟨v, by rw [set_ne ej]; exact g1, g2⟩
    nals := fun j es hj => by
      by_cases ej : j = i
      · subst ej
        have z := nth_stn_same hj
        cases z
      · rw [nth_stn_ne ej] at hj
        exact S.nals j es hj
    d1 := fun j l es fs hne hj hl => by
      by_cases ej : j = i
      · have el : l ≠ i := fun z => hne (ej.trans z.symm)
        subst ej
        have hlt : j < δ.length := by
          have := nth_lt hj
          rwa [stn_length] at this
        rw [nth_stn_ne el] at hl
        obtain ⟨v, g1, _, g3⟩ := slot' l _ hl
        rw [set_ne el, set_same (by rw [← S.len]; exact hlt), g1]
        intro w
        exact g3 ⟨_, rfl⟩ (Option.some.inj (Option.some.inj w)).symm
      · by_cases el : l = i
        · subst el
          have hlt : l < δ.length := by
            have := nth_lt hl
            rwa [stn_length] at this
          rw [nth_stn_ne ej] at hj
          obtain ⟨v, g1, _, g3⟩ := slot' j _ hj
          rw [set_ne ej, set_same (by rw [← S.len]; exact hlt), g1]
          intro w
          exact g3 ⟨_, rfl⟩ (Option.some.inj (Option.some.inj w))
        · rw [nth_stn_ne ej] at hj
          rw [nth_stn_ne el] at hl
          rw [set_ne ej, set_ne el]
          exact S.d1 j l es fs hne hj hl }
/-- an own list is no more written -/
theorem SD.frz (S : SD B Z δ σ H N) {i : Nat} {ds : List D} (hi : nth δ i = some (.own ds)) : ∃ Z', SD B Z' (stn δ i (.dat (.lst ds))) σ H N ∧ Gro B.K N N Z Z' H H := by
  obtain ⟨v, g1, a, xs, rfl, z, h0, ha, r⟩ := S.slot i _ hi
  have g : Gro B.K N N Z (fun b => Z b ∧ b ≠ a) H H := .zone (fun b h => h.1) (Ct.le_refl _)
  refine ⟨fun b => Z b ∧ b ≠ a, ?_, g⟩
  exact {
    ex := S.ex
    z0 := fun b h => ⟨S.z0 b h, fun e => S.z1 b h (by rw [e]; exact h0)⟩
    z1 := S.z1
    zt := fun b h => S.zt b h.1
    len := by rw [stn_length]; exact S.len
    slot := fun j s hj => by
      by_cases e : j = i
      · subst e
        have es := nth_stn_same hj
        subst es
        exact ⟨_, g1, .lst ha (fun w => w.2 rfl) (r.gro g)⟩
      · rw [nth_stn_ne e] at hj
        obtain ⟨v, q1, q2⟩ := S.slot j s hj
        refine ⟨v, q1, ?_⟩
        cases s with
        | dat d => exact Dt.gro g q2
        | own es =>
          obtain ⟨b, zs, rfl, zb, w0, wb, wr⟩ := q2
          have ne : b ≠ a := fun eb => S.d1 j i es ds e hj hi (by rw [q1, g1, eb])
          exact ⟨b, zs, rfl, ⟨zb, ne⟩, w0, wb, wr.gro g⟩
        | als es => exact absurd hj (S.nals j es)
    nals := fun j es hj => by
      by_cases e : j = i
      · subst e
        have w := nth_stn_same hj
        cases w
      · rw [nth_stn_ne e] at hj
        exact S.nals j es hj
    d1 := fun j l es fs hne hj hl => by
      have ne : ∀ {j : Nat} {es : List D}, nth (stn δ i (.dat (.lst ds))) j = some (.own es) → nth δ j = some (.own es) := fun {j es} hj => by
        by_cases e : j = i
        · subst e
          have w := nth_stn_same hj
          cases w
        · rwa [nth_stn_ne e] at hj
      exact S.d1 j l es fs hne (ne hj) (ne hl) }
/-- a list of the zone is written -/
theorem Gro.wr {K : PySem.W.Frag} {a : Addr} {xs ys : List V} (z : Z a) (h : H a = some (.lst xs)) : Gro K N N Z Z H (upd H a (.lst ys)) where
  tup := fun b zs hb => by rw [upd_ne (fun e => by rw [e, h] at hb; cases hb)]; exact hb
  lst := fun b zs hb nz => ⟨by rw [upd_ne (fun e => nz (by rw [e]; exact z))]; exact hb, nz⟩
  scr := fun b zs hb => hb.to fun o ho => by rw [upd_ne (fun e => by rw [e, h] at ho; cases ho)]; exact ho
  bag := fun b m hm hb => ⟨m, hm, by rw [upd_ne (fun e => by rw [e, h] at hb; cases hb)]; exact hb⟩
  frz := fun b ob u hb => by rw [upd_ne (fun e => by rw [e, h] at hb; cases hb)]; exact hb
  cod := fun b q hb => by rw [upd_ne (fun e => by rw [e, h] at hb; exact codeO_lst (Option.some.inj hb).symm)]; exact hb
  ins := fun b C dx fs hb => by rw [upd_ne (fun e => by rw [e, h] at hb; cases hb)]; exact hb
  crd := fun l r => r.wr h
theorem ExK.wr {k : Ct} {H0 H : Hp} {a : Addr} {o : HO} {xs : List V} (e : ExK k H0 H) (h0 : H0 a = none) (h : H a = some (.lst xs)) : ExK k H0 (upd H a o) := ⟨fun b u hb => by
  have ne : b ≠ a := ne_of_none hb h0
  rw [upd_ne ne]
  exact e.ob b u hb, fun P t => tab_wr h (e.tb P t), fun l c r => (e.cd l c r).wr h⟩
/-- a list of the zone that is no slot's is written -/
theorem SD.wr (S : SD B Z δ σ H N) {a : Addr} {xs ys : List V} (z : Z a) (h0 : B.H0 a = none) (h : H a = some (.lst xs)) (ns : ∀ i es, nth δ i = some (.own es) → σ[i]? ≠ some (some (.ref a))) :
    SD B Z δ σ (upd H a (.lst ys)) N where
  ex := by
    obtain ⟨k, e1, e2⟩ := S.ex
    exact ⟨k, e1, e2.wr h0 h⟩
  z0 := S.z0
  z1 := S.z1
  zt := fun b zb => by
    by_cases e : b = a
    · subst e
      exact ⟨ys, upd_same⟩
    · rw [upd_ne e]
      exact S.zt b zb
  len := S.len
  slot := fun i s hi => by
    obtain ⟨v, g1, g2⟩ := S.slot i s hi
    refine ⟨v, g1, ?_⟩
    cases s with
    | dat d => exact Dt.gro (.wr z h) g2
    | own es =>
      obtain ⟨b, zs, rfl, zb, q0, qb, qr⟩ := g2
      have ne : b ≠ a := fun e => ns i es hi (by rw [g1, e])
      exact ⟨b, zs, rfl, zb, q0, by rw [upd_ne ne]; exact qb, qr.gro (.wr z h)⟩
    | als es => exact absurd hi (S.nals i es)
  nals := S.nals
  d1 := S.d1
/-- x.append(y) of an own list -/
theorem SD.app (S : SD B Z δ σ H N) {i : Nat} {ds : List D} {d : D} {y : V} (hi : nth δ i = some (.own ds)) (hy : Dt B.K N H Z y d) :
    ∃ a xs, σ[i]? = some (some (.ref a)) ∧ H a = some (.lst xs) ∧ xs.length = ds.length ∧ SD B Z (stn δ i (.own (ds ++ [d]))) σ (upd H a (.lst (xs ++ [y]))) N := by
  obtain ⟨v, g1, a, xs, rfl, z, h0, ha, r⟩ := S.slot i _ hi
  refine ⟨a, xs, g1, ha, r.length, ?_⟩
  have g : Gro B.K N N Z Z H (upd H a (.lst (xs ++ [y]))) := .wr z ha
  exact {
    ex := by
      obtain ⟨k, e1, e2⟩ := S.ex
      exact ⟨k, e1, e2.wr h0 ha⟩
    z0 := S.z0
    z1 := S.z1
    zt := fun b zb => by
      by_cases e : b = a
      · subst e
        exact ⟨_, upd_same⟩
      · rw [upd_ne e]
        exact S.zt b zb
    len := by rw [stn_length]; exact S.len
    slot := fun j s hj => by
      by_cases e : j = i
      · subst e
        have es := nth_stn_same hj
        subst es
        exact ⟨_, g1, a, _, rfl, z, h0, upd_same, (r.gro g).append (.cons (hy.gro g) .nil)⟩
      · rw [nth_stn_ne e] at hj
        obtain ⟨v, q1, q2⟩ := S.slot j s hj
        refine ⟨v, q1, ?_⟩
        cases s with
        | dat d => exact Dt.gro g q2
        | own es =>
          obtain ⟨b, zs, rfl, zb, w0, wb, wr⟩ := q2
          have ne : b ≠ a := fun eb => S.d1 j i es ds e hj hi (by rw [q1, g1, eb])
          exact ⟨b, zs, rfl, zb, w0, by rw [upd_ne ne]; exact wb, wr.gro g⟩
        | als es => exact absurd hj (S.nals j es)
    nals := fun j es hj => by
      by_cases e : j = i
      · subst e
        have w := nth_stn_same hj
        cases w
      · rw [nth_stn_ne e] at hj
        exact S.nals j es hj
    d1 := fun j l es fs hne hj hl => by
      have own_of : ∀ {j : Nat} {es : List D}, nth (stn δ i (.own (ds ++ [d]))) j = some (.own es) → ∃ es', nth δ j = some (.own es') := fun {j es} hj => by
        by_cases e : j = i
        · subst e
          exact ⟨ds, hi⟩
        · rw [nth_stn_ne e] at hj
          exact ⟨es, hj⟩
      obtain ⟨es', hj'⟩ := own_of hj
      obtain ⟨fs', hl'⟩ := own_of hl
      exact S.d1 j l es' fs' hne hj' hl' }
end

/-! ### targets -/
abbrev DG := D → StD → (StD → Prop) → Prop
abbrev DGs := List D → StD → (StD → Prop) → Prop
/-- what is stored lies at js; own lists stay where they are -/
structure Sto (js : List Nat) (δ δ' : StD) (σ σ' : L2.St) : Prop where
  len : σ'.length = σ.length
  out : ∀ i, i ∉ js → σ'[i]? = σ[i]?
  own : ∀ i es, nth δ' i = some (.own es) → nth δ i = some (.own es) ∧ σ'[i]? = σ[i]?
theorem Sto.refl {js : List Nat} {δ : StD} {σ : L2.St} : Sto js δ δ σ σ := ⟨rfl, fun _ _ => rfl, fun _ _ h => ⟨h, rfl⟩⟩
structure SndG (K : PySem.W.Frag) (g : TG) (dg : DG) (js : List Nat) : Prop where
  run : ∀ (B : Bs) Z δ σ H N d x (P : StD → Prop) (Q : L2.St → Hp → Prop), B.K = K → SD B Z δ σ H N → Dt B.K N H Z x d → dg d δ P →
    (∀ δ' σ', SD B Z δ' σ' H N → Sto js δ δ' σ σ' → P δ' → Q σ' H) → g x σ H Q
structure SndGs (K : PySem.W.Frag) (g : TGs) (dg : DGs) (js : List Nat) : Prop where
  run : ∀ (B : Bs) Z δ σ H N ds xs (P : StD → Prop) (Q : L2.St → Hp → Prop), B.K = K → SD B Z δ σ H N → DtAll B.K N H Z xs ds → dg ds δ P →
    (∀ δ' σ', SD B Z δ' σ' H N → Sto js δ δ' σ σ' → P δ' → Q σ' H) → g xs σ H Q
structure XG (X : Cx) (tg : Expr) (g : TG) (dg : DG) (js : List Nat) : Prop where
  pe : PG X tg g
  sn : SndG X.K g dg js
structure XGs (X : Cx) (tgs : List Expr) (g : TGs) (dg : DGs) (js : List Nat) : Prop where
  pe : PGs X tgs g
  sn : SndGs X.K g dg js
@[simp] def dgName (i : Nat) : DG := fun d δ P => P (stn δ i (.dat d))
@[simp] def dgNil : DGs := fun ds δ P => chk (lenIs ds 0) (P δ)
@[simp] def dgCons (g : DG) (r : DGs) : DGs := fun ds δ P => match ds with
  | d :: ds' => g d δ fun δ' => r ds' δ' P
  | [] => False
@[simp] def dgTup (n : Nat) (g : DGs) : DG := fun d δ P => match d with
  | .tup ds => chk (lenIs ds n) (g ds δ P)
  | _ => False
section
variable {X : Cx} {K : PySem.W.Frag} {pos : Pos}
theorem sto_name {i : Nat} {δ : StD} {σ : L2.St} {d : D} {x : V} : Sto [i] δ (stn δ i (.dat d)) σ (σ.set i (some x)) := by
  refine ⟨List.length_set .., fun j hj => set_ne (by simpa using hj), fun j es hj => ?_⟩
  by_cases e : j = i
  · subst e
    have z := nth_stn_same hj
    cases z
  · rw [nth_stn_ne e] at hj
    exact ⟨hj, set_ne e⟩
theorem sng_name {i : Nat} : SndG K (gName i) (dgName i) [i] := ⟨fun B Z δ σ H N d x P Q hK S hx h q => q _ _ (S.set hx) sto_name h⟩
theorem xg_name {i : Nat} {x : Str} (hN : X.N.Nodup) (hi : X.N[i]? = some x) (hx : Loc X.env.scope x) (hf : X.fn x = true ∨ X.env.scope.names.lookup x = some .local := by first | exact .inl rfl | exact .inr rfl | assumption) : XG X (.Name x pos) (gName i) (dgName i) [i] :=
  ⟨pg_name hN hi hx hf, sng_name⟩
theorem xgs_nil : XGs X [] gNil dgNil [] := by
  refine ⟨pgs_nil, ⟨fun B Z δ σ H N ds xs P Q hK S hx h q => ?_⟩⟩
  obtain ⟨h0, h⟩ := chk_iff.mp h
  have h1 := lenIs_len h0
  have h2 : ds = [] := List.length_eq_zero_iff.mp h1
  subst h2
  cases hx
  exact ⟨rfl, q δ σ S .refl h⟩
theorem xgs_cons {e : Expr} {es : List Expr} {t : TG} {u : TGs} {dg : DG} {dgs : DGs} {js ls : List Nat} (h1 : XG X e t dg js) (h2 : XGs X es u dgs ls)
    (hs : (assignEach (e :: es) X.env).map (·.2) = assign e X.env :: (assignEach es X.env).map (·.2) := by rfl) : XGs X (e :: es) (gCons t u) (dgCons dg dgs) (js ++ ls) := by
  refine ⟨pgs_cons h1.pe h2.pe hs, ⟨fun B Z δ σ H N ds xs P Q hK S hx h q => ?_⟩⟩
  unfold dgCons at h
  split at h
  · rename_i d ds'
    cases hx with
    | @cons v vs _ _ hv hvs =>
      refine ⟨v, vs, rfl, ?_⟩
      refine h1.sn.run B Z δ σ H N d v _ _ hK S hv h fun δ1 σ1 S1 o1 hh => ?_
      refine h2.sn.run B Z δ1 σ1 H N ds' vs _ _ hK S1 hvs hh fun δ2 σ2 S2 o2 hh2 => ?_
      refine q δ2 σ2 S2 ⟨o2.len.trans o1.len, fun i hi => ?_, fun i es hi => ?_⟩ hh2
      · rw [List.mem_append, not_or] at hi
        rw [o2.out i hi.2, o1.out i hi.1]
      · obtain ⟨a1, a2⟩ := o2.own i es hi
        obtain ⟨b1, b2⟩ := o1.own i es a1
        exact ⟨b1, a2.trans b2⟩
  · exact h.elim
theorem xg_tup {es : List Expr} {k : Nat} {t : TGs} {dgs : DGs} {js : List Nat} {n : Nat} (hc : X.calm = true) (h : XGs X es t dgs js)
    (hn : (assignEach es X.env).length = n := by rfl) (hst : (assignEach es X.env).findIdx? (·.1) = none := by rfl) : XG X (.Tuple es k pos) (gTup X.K n t) (dgTup n dgs) js := by
  refine ⟨pg_tup hc h.pe hn hst, ⟨fun B Z δ σ H N d x P Q hK S hx hd q => ?_⟩⟩
  unfold dgTup at hd
  split at hd
  · rename_i ds
    obtain ⟨a, xs, rfl, ha, r⟩ := (Dw.of hx).tup_inv
    rw [chk_iff] at hd
    exact ⟨a, xs, rfl, .of ha, by rw [r.length]; exact lenIs_len hd.1, h.sn.run B Z δ σ H N ds xs P Q hK S r hd.2 q⟩
  · exact hd.elim
theorem xg_tupK {es : List Expr} {k : Nat} {t : TGs} {dgs : DGs} {js : List Nat} {n : Nat} {K : PySem.W.Frag} (hc : X.calm = true) (h : XGs X es t dgs js) (hK : X.K = K := by rfl)
    (hn : (assignEach es X.env).length = n := by rfl) (hst : (assignEach es X.env).findIdx? (·.1) = none := by rfl) : XG X (.Tuple es k pos) (gTup K n t) (dgTup n dgs) js := by
  subst hK
  exact xg_tup hc h hn hst
end

/-! ### comprehensions -/
def non : StD → Nat → StD
  | [], _ => []
  | _ :: r, 0 => none :: r
  | a :: r, i + 1 => a :: non r i
@[simp] def wipeD (δ : StD) : List Nat → StD
  | [] => δ
  | v :: vs => non (wipeD δ vs) v
theorem non_length : ∀ {δ : StD} {i : Nat}, (non δ i).length = δ.length
  | [], _ => by simp [non]
  | _ :: _, 0 => by simp [non]
  | _ :: r, i + 1 => by simp [non, non_length (δ := r) (i := i)]
theorem nth_non_same : ∀ {δ : StD} {i : Nat} {s : Sl}, nth (non δ i) i = some s → False
  | [], _, _, h => by simp [non, nth] at h
  | _ :: _, 0, _, h => by simp [non, nth] at h
  | _ :: r, i + 1, s, h => nth_non_same (δ := r) (i := i) (s := s) (by simpa [non, nth] using h)
theorem nth_non_ne : ∀ {δ : StD} {i j : Nat}, j ≠ i → nth (non δ i) j = nth δ j
  | [], _, _, _ => by simp [non]
  | _ :: _, 0, 0, h => absurd rfl h
  | _ :: _, 0, _ + 1, _ => by simp [non, nth]
  | _ :: _, _ + 1, 0, _ => by simp [non, nth]
  | _ :: r, i + 1, j + 1, h => by simpa [non, nth] using nth_non_ne (δ := r) (i := i) (j := j) (fun e => h (by rw [e]))
section
variable {B : Bs} {Z : Addr → Prop} {δ : StD} {σ : L2.St} {H H' : Hp} {N k : Ct}
theorem SD.non (S : SD B Z δ σ H N) (i : Nat) : SD B Z (non δ i) (σ.set i none) H N where
  ex := S.ex
  z0 := S.z0
  z1 := S.z1
  zt := S.zt
  len := by rw [non_length, List.length_set]; exact S.len
  slot := fun j s hj => by
    by_cases e : j = i
    · subst e
      exact (nth_non_same hj).elim
    · rw [nth_non_ne e] at hj
      rw [set_ne e]
      exact S.slot j s hj
  nals := fun j ds hj => by
    by_cases e : j = i
    · subst e
      exact (nth_non_same hj).elim
    · rw [nth_non_ne e] at hj
      exact S.nals j ds hj
  d1 := fun j l ds es hne hj hl => by
    by_cases e : j = i
    · subst e
      exact (nth_non_same hj).elim
    · by_cases e' : l = i
      · subst e'
        exact (nth_non_same hl).elim
      · rw [nth_non_ne e] at hj
        rw [nth_non_ne e'] at hl
        rw [set_ne e, set_ne e']
        exact S.d1 j l ds es hne hj hl
theorem SD.wipe (S : SD B Z δ σ H N) : ∀ vs : List Nat, SD B Z (wipeD δ vs) (wipe σ vs) H N
  | [] => S
  | v :: vs => (SD.wipe S vs).non v
theorem wipe_at {σ : L2.St} : ∀ {vs : List Nat} {i : Nat}, (wipe σ vs)[i]? = if i ∈ vs then (if i < σ.length then some none else none) else σ[i]?
  | [], i => by simp [wipe]
  | v :: vs, i => by
    unfold wipe
    by_cases e : i = v
    · subst e
      rw [if_pos (by simp)]
      by_cases h : i < σ.length
      · rw [List.getElem?_set_self (by rw [wipe_length]; exact h), if_pos h]
      · rw [List.getElem?_eq_none (by rw [List.length_set, wipe_length]; omega), if_neg h]
    · rw [List.getElem?_set_ne (Ne.symm e), wipe_at (vs := vs) (i := i)]
      simp [e]
/-- stores at places that are wiped -/
theorem wipe_sto {σ σ' : L2.St} {vs js : List Nat} (hl : σ'.length = (wipe σ vs).length) (ho : ∀ i, i ∉ js → σ'[i]? = (wipe σ vs)[i]?) (hj : ∀ j ∈ js, j ∈ vs) : wipe σ' vs = wipe σ vs := by
  apply List.ext_getElem?
  intro i
  rw [wipe_at, wipe_at]
  rw [wipe_length] at hl
  by_cases hi : i ∈ vs
  · rw [if_pos hi, if_pos hi, hl]
  · rw [if_neg hi, if_neg hi, ho i (fun h => hi (hj i h)), wipe_at, if_neg hi]
theorem own_wiped {vs : List Nat} {i : Nat} {es : List D} (h : nth (wipeD δ vs) i = some (.own es)) : nth δ i = some (.own es) ∧ i ∉ vs := by
  induction vs with
  | nil => exact ⟨h, by simp⟩
  | cons v vs ih =>
    by_cases e : i = v
    · subst e
      exact (nth_non_same h).elim
    · have h' : nth (DL.non (wipeD δ vs) v) i = some (.own es) := h
      rw [nth_non_ne e] at h'
      obtain ⟨a, b⟩ := ih h'
      exact ⟨a, by simp [e, b]⟩
end
def dLc (di : DI) (dg : DG) (dt : DT) (de : DE) (vs : List Nat) : DE := fun δ N C => di δ N fun ds N1 => ∃ Inv : Nat → List D → Ct → Prop, Inv 0 [] N1 ∧
  (∀ i d acc N2, ds[i]? = some d → Inv i acc N2 → dg d (wipeD δ vs) fun δ2 => dt δ2 N2 fun b N3 => wif b (de δ2 N3 fun s N4 => chk s.nals (acc.length < 100000 ∧ Inv (i + 1) (acc ++ [s.rd]) N4)) (Inv (i + 1) acc N3)) ∧
  ∀ acc N2, Inv ds.length acc N2 → C (.own acc) N2
section
variable {G : Gg} {wi : TI} {di : DI} {g : TG} {dg : DG} {js vs : List Nat} {tt : TT} {dt : DT} {te : TE} {de : DE}
theorem snd_lc (hi : SndI G wi di) (hg : SndG G.K g dg js) (ht : SndT G tt dt) (he : Snd G te de) (hj : ∀ j ∈ js, j ∈ vs) : Snd G (tLc wi g tt te vs) (dLc di dg dt de vs) := by
  refine ⟨fun B Z δ σ H N C Q hB S hd q => ?_⟩
  subst hB
  refine hi.run B Z δ σ H N _ _ rfl S hd fun J ds τ H1 k1 e1 hτ W h1 => ?_
  intro Dl hDl
  obtain ⟨Inv, i0, turn, done⟩ := h1
  have S1 := S.ext e1
  have hB0 : B.H0 Dl = none := by
    obtain ⟨j, _, ej⟩ := S1.ex
    exact ej.back hDl
  have ndz : ¬ Z Dl := Zt.fresh S1.zt hDl
  have ep := ExK.new (o := .lst []) hDl
  have own_ne : ∀ i es, nth δ i = some (.own es) → σ[i]? ≠ some (some (.ref Dl)) := fun i es h w => by
    obtain ⟨v, g1, a, xs, rfl, z, _⟩ := S1.slot i _ h
    rw [g1] at w
    cases w
    exact ndz z
  -- the state of the block, the list laid
  have S2 : SD B (Zp Z Dl) (wipeD δ vs) (wipe σ vs) (upd H1 Dl (.lst [])) (N + k1) := by
    have Sw := S1.wipe vs
    have g0 : Gro B.K (N + k1) (N + k1) Z (Zp Z Dl) H1 (upd H1 Dl (.lst [])) := .new ep hDl
    exact {
      ex := (Sw.ext0 ep).ex
      z0 := fun a h => .inl (Sw.z0 a h)
      z1 := Sw.z1
      zt := fun a h => by
        rcases h with h | rfl
        · exact (Sw.ext0 ep).zt a h
        · exact ⟨[], upd_same⟩
      len := Sw.len
      slot := fun i s h => by
        obtain ⟨v, g1, g2⟩ := Sw.slot i s h
        refine ⟨v, g1, ?_⟩
        cases s with
        | dat d => exact Dt.gro g0 g2
        | own es =>
          obtain ⟨a, xs, rfl, z, q0, qa, qr⟩ := g2
          exact ⟨a, xs, rfl, .inl z, q0, ep.lst qa, qr.gro g0⟩
        | als es => exact absurd h (Sw.nals i es)
      nals := Sw.nals
      d1 := Sw.d1 }
  have τ2 : ∀ p ∈ τ, Dt B.K (N + k1) (upd H1 Dl (.lst [])) (Zp Z Dl) p.2 p.1 := fun p hp => (hτ p hp).gro (.new ep hDl)
  have own_ne' : ∀ i es, nth (wipeD δ vs) i = some (.own es) → (wipe σ vs)[i]? ≠ some (some (.ref Dl)) := fun i es h => by
    obtain ⟨a, b⟩ := own_wiped h
    rw [wipe_at, if_neg b]
    exact own_ne i es a
  refine ⟨fun i m H' => m = ds.length - i ∧ i ≤ ds.length ∧ ∃ acc xs k2, Inv i acc (N + k1 + k2) ∧ ExK k2 H1 H' ∧ SD B (Zp Z Dl) (wipeD δ vs) (wipe σ vs) H' (N + k1 + k2) ∧ H' Dl = some (.lst xs) ∧
      DtAll B.K (N + k1 + k2) H' (Zp Z Dl) xs acc ∧ ∀ p ∈ τ, Dt B.K (N + k1 + k2) H' (Zp Z Dl) p.2 p.1, ⟨ds.length, by simp, Nat.zero_le _, [], [], 0, i0, ep, S2, upd_same, .nil, τ2⟩, ?_⟩
  rintro i m H' ⟨rfl, hle, acc, xs, k2, hI, e2, S', hD, rD, hτ'⟩
  by_cases hlt : i < ds.length
  · obtain ⟨d, hd⟩ : ∃ d, ds[i]? = some d := ⟨ds[i], by simp [hlt]⟩
    obtain ⟨go, yl⟩ := W.go _ _ _ i d S'.zt hτ' hd
    refine .inr ⟨go, _, fun H' p => p, fun x H3 hy => ?_⟩
    obtain ⟨e3, hx⟩ := yl x H3 hy
    refine hg.run B (Zp Z Dl) _ _ H3 (N + k1 + k2) d x _ _ rfl (S'.ext0 e3) hx (turn i d acc _ hd hI) fun δ2 σ2 S4 o4 h4 => ?_
    refine ⟨wipe_sto o4.len o4.out hj, ?_⟩
    have own2 : ∀ i es, nth δ2 i = some (.own es) → σ2[i]? ≠ some (some (.ref Dl)) := fun i es h => by
      obtain ⟨a, b⟩ := o4.own i es h
      rw [b]
      exact own_ne' i es a
    refine ht.run B (Zp Z Dl) δ2 σ2 H3 (N + k1 + k2) _ _ rfl S4 h4 fun b H5 k5 e5 h5 => ?_
    have SW5 : SD B (Zp Z Dl) (wipeD δ vs) (wipe σ vs) H5 (N + k1 + k2 + k5) := (S'.ext0 e3).ext e5
    have hτ5 : ∀ p ∈ τ, Dt B.K (N + k1 + k2 + k5) H5 (Zp Z Dl) p.2 p.1 := fun p hp => ((hτ' p hp).ex0 e3).ex e5
    have rD5 : DtAll B.K (N + k1 + k2 + k5) H5 (Zp Z Dl) xs acc := (rD.ex0 e3).ex e5
    have hD5 : H5 Dl = some (.lst xs) := e5.lst (e3.lst hD)
    have ee5 : ExK (k2 + k5) H1 H5 := (e2.trans e3).trans e5
    have a5 : N + k1 + k2 + k5 = N + k1 + (k2 + k5) := by simp only [Ct.assoc]
    cases b with
    | false =>
      have h5' : Inv (i + 1) acc (N + k1 + k2 + k5) := h5
      rw [a5] at h5' SW5 hτ5 rD5
      show ∃ m', m' < ds.length - i ∧ m' = ds.length - (i + 1) ∧ i + 1 ≤ ds.length ∧ _
      exact ⟨ds.length - (i + 1), by omega, rfl, hlt, acc, xs, k2 + k5, h5', ee5, SW5, hD5, rD5, hτ5⟩
    | true =>
      show te σ2 H5 _
      refine he.run B (Zp Z Dl) δ2 σ2 H5 (N + k1 + k2 + k5) _ _ rfl (S4.ext e5) h5 fun s y H6 k6 e6 r6 h6 => ?_
      obtain ⟨h7, h8, h9⟩ := chk_iff.mp h6
      have a6 : N + k1 + k2 + k5 + k6 = N + k1 + (k2 + k5 + k6) := by simp only [Ct.assoc]
      have hy6 : Dt B.K (N + k1 + k2 + k5 + k6) H6 (Zp Z Dl) y s.rd := by
        have t := r6.tp (S4.ext e5).ztt
        cases s with
        | dat d => exact t
        | own ds => exact t
        | als ds => exact absurd h7 (by simp [Sl.nals])
      have hD6 := e6.lst hD5
      have rD6 := rD5.ex e6
      refine ⟨xs, hD6, by rw [rD6.length]; exact size_lt h8, ?_⟩
      have gw : Gro B.K (N + k1 + k2 + k5 + k6) (N + k1 + k2 + k5 + k6) (Zp Z Dl) (Zp Z Dl) H6 (upd H6 Dl (.lst (xs ++ [y]))) := .wr (.inr rfl) hD6
      have SW6 : SD B (Zp Z Dl) (wipeD δ vs) (wipe σ vs) (upd H6 Dl (.lst (xs ++ [y]))) (N + k1 + k2 + k5 + k6) := (SW5.ext e6).wr (.inr rfl) hB0 hD6 own_ne'
      have rD7 := (rD6.gro gw).append (.cons (hy6.gro gw) .nil)
      have hτ7 : ∀ p ∈ τ, Dt B.K (N + k1 + k2 + k5 + k6) (upd H6 Dl (.lst (xs ++ [y]))) (Zp Z Dl) p.2 p.1 := fun p hp => ((hτ5 p hp).ex e6).gro gw
      have ee6 : ExK (k2 + k5 + k6) H1 (upd H6 Dl (.lst (xs ++ [y]))) := (ee5.trans e6).wr hDl hD6
      rw [a6] at h9 SW6 rD7 hτ7
      exact ⟨ds.length - (i + 1), by omega, rfl, hlt, acc ++ [s.rd], _, k2 + k5 + k6, h9, ee6, SW6, upd_same, rD7, hτ7⟩
  · have e : i = ds.length := by omega
    subst e
    refine .inl ⟨W.stop _ _ _ _ hτ' (Nat.le_refl _), ?_⟩
    have a : N + k1 + k2 = N + (k1 + k2) := by simp only [Ct.assoc]
    have hc := done acc _ hI
    rw [a] at hc rD
    exact q (.own acc) (.ref Dl) H' (k1 + k2) (e1.trans e2) ⟨Dl, xs, rfl, e1.back hDl, hD, rD⟩ hc
variable {X : Cx} {elt tg iter : Expr} {ifs : List Expr} {scope : Scope} {own : List (Str × Nat)} {pos : Pos}
structure XTs (X : Cx) (G : Gg) (ifs : List Expr) (t : TT) (d : DT) : Prop where
  pe : PTs X ifs t
  sn : SndT G t d
@[simp] def dYes : DT := fun _ N C => C true N
theorem xts_nil : XTs X G [] tYes dYes := ⟨pts_nil, ⟨fun B Z δ σ H N C Q hB S h q => q true H 0 (ExK.refl H) h⟩⟩
theorem xts_one {c : Expr} {t : TT} {d : DT} (h : XT X G c t d) : XTs X G [c] t d := ⟨pts_one h.pe, h.sn⟩
theorem x_lc (hc : X.calm = true) (hN : X.N.Nodup) (hi : XI X G tg iter wi di) (ok : BlkOk X.N X.env.scope scope own)
    (hg : ∀ (s : Shared) (H : Hp) (C : Addr) (cl : List (Str × Addr)) (fp : List Addr), XG (X.blk s H scope (compEnvC scope cl C X.env) fp) tg g dg js)
    (ht : ∀ (s : Shared) (H : Hp) (C : Addr) (cl : List (Str × Addr)) (fp : List Addr), XTs (X.blk s H scope (compEnvC scope cl C X.env) fp) G ifs tt dt)
    (he : ∀ (s : Shared) (H : Hp) (C : Addr) (cl : List (Str × Addr)) (fp : List Addr), XE (X.blk s H scope (compEnvC scope cl C X.env) fp) G elt te de)
    (hj : ∀ j ∈ js, j ∈ own.map (·.2) := by decide) (hK : G.K = X.K := by rfl) (hs : ∀ x, foldedSetIterable iter X.env x = pure x := by intro _; rfl) :
    XE X G (.ListComp elt [⟨tg, iter, ifs, 0⟩] scope pos) (tLc wi g tt te (own.map (·.2))) (dLc di dg dt de (own.map (·.2))) :=
  ⟨pe_lc hc hN hi.pe ok (fun s H C cl fp => (hg s H C cl fp).pe) (fun s H C cl fp => (ht s H C cl fp).pe) (fun s H C cl fp => (he s H C cl fp).pe) hs,
    snd_lc hi.sn (by rw [hK]; exact (hg X.s_0 X.H_0 0 [] []).sn) (ht X.s_0 X.H_0 0 [] []).sn (he X.s_0 X.H_0 0 [] []).sn hj⟩
end
end DL

/-! DLg: statements, defs, by data. -/
namespace DL
open PySem PySem.Spec PyProof.Rows L2
variable [TabNames]

structure DEnds where
  nx : StD → Ct → Prop
  rt : DK
  bk : StD → Ct → Prop := fun _ _ => False
  ct : StD → Ct → Prop := fun _ _ => False
abbrev DS := DEnds → StD → Ct → Prop
abbrev Tk := List (D × V)
def TOk (K : PySem.W.Frag) (N : Ct) (H : Hp) (Z : Addr → Prop) (τ : Tk) : Prop := ∀ p ∈ τ, Dt K N H Z p.2 p.1
theorem TOk.gro {K : PySem.W.Frag} {N N' : Ct} {H H' : Hp} {Z Z' : Addr → Prop} {τ : Tk} (g : Gro K N N' Z Z' H H') (h : TOk K N H Z τ) : TOk K N' H' Z' τ := fun p hp => (h p hp).gro g
/-- a value that leaves the def -/
def Sl.out : Sl → Sl
  | .dat d => .dat d
  | .own ds => .own ds
  | .als ds => .own ds
def RtOk (B : Bs) (N : Ct) (H : Hp) (v : V) : Sl → Prop
  | .dat d => Dt B.K N H B.Z0 v d
  | .own ds => ∃ p xs, v = .ref p ∧ B.H0 p = none ∧ H p = some (.lst xs) ∧ DtAll B.K N H (Zp B.Z0 p) xs ds
  | .als _ => False
structure EOk (B : Bs) (τ : Tk) (E : DEnds) (D : Ends) : Prop where
  nx : ∀ Z δ σ H N, SD B Z δ σ H N → TOk B.K N H Z τ → E.nx δ N → D.nx σ H
  bk : ∀ Z δ σ H N, SD B Z δ σ H N → TOk B.K N H Z τ → E.bk δ N → D.bk σ H
  ct : ∀ Z δ σ H N, SD B Z δ σ H N → TOk B.K N H Z τ → E.ct δ N → D.ct σ H
  rt : ∀ s v H N k, N = B.N0 + k → ExK k B.H0 H → RtOk B N H v s → E.rt s N → D.rt v H
structure SndS (G : Gg) (ts : TS) (ds : DS) : Prop where
  run : ∀ (B : Bs) Z τ E D δ σ H N, B.G = G → EOk B τ E D → SD B Z δ σ H N → TOk B.K N H Z τ → ds E δ N → ts D σ H
structure XS (X : Cx) (G : Gg) (st : Stmt) (t : TS) (d : DS) : Prop where
  pe : PS X st t
  sn : SndS G t d
structure XSs (X : Cx) (G : Gg) (st : List Stmt) (t : TS) (d : DS) : Prop where
  pe : PSs X st t
  sn : SndS G t d

@[simp] def dNext : DS := fun E δ N => E.nx δ N
@[simp] def dSeq (a b : DS) : DS := fun E δ N => a { E with nx := b E } δ N
@[simp] def dNever : DS := fun _ _ _ => False
def dBreak : DS := fun E δ N => E.bk δ N
def dCont : DS := fun E δ N => E.ct δ N
section
variable {X : Cx} {G : Gg} {st : Stmt} {rest : List Stmt} {t u : TS} {d f : DS} {e : Expr} {te : TE} {de : DE} {pos : Pos}
theorem xss_nil : XSs X G [] tNext dNext := ⟨pss_nil, ⟨fun B Z τ E D δ σ H N hB ok S T h => ok.nx Z δ σ H N S T h⟩⟩
theorem snd_seq (h1 : SndS G t d) (h2 : SndS G u f) : SndS G (tSeq t u) (dSeq d f) := by
  refine ⟨fun B Z τ E D δ σ H N hB ok S T h => ?_⟩
  exact h1.run B Z τ { E with nx := f E } { D with nx := u D } δ σ H N hB ⟨fun Z' δ' σ' H' N' S' T' h' => h2.run B Z' τ E D δ' σ' H' N' hB ok S' T' h', ok.bk, ok.ct, ok.rt⟩ S T h
theorem xss_cons (h1 : XS X G st t d) (h2 : XSs X G rest u f) : XSs X G (st :: rest) (tSeq t u) (dSeq d f) := ⟨pss_cons h1.pe h2.pe, snd_seq h1.sn h2.sn⟩
theorem xss_one (h1 : XS X G st t d) : XSs X G [st] t d := ⟨pss_one h1.pe, h1.sn⟩
theorem xs_never : XS X G st tNever dNever := ⟨ps_never, ⟨fun B Z τ E D δ σ H N hB ok S T h => h⟩⟩
theorem xss_never {sts : List Stmt} : XSs X G sts tNever dNever := ⟨pss_never, ⟨fun B Z τ E D δ σ H N hB ok S T h => h⟩⟩
theorem xs_pass : XS X G (.Pass pos) tNext dNext := ⟨ps_pass, ⟨fun B Z τ E D δ σ H N hB ok S T h => ok.nx Z δ σ H N S T h⟩⟩
theorem xs_break : XS X G (.Break pos) tBreak dBreak := ⟨ps_break, ⟨fun B Z τ E D δ σ H N hB ok S T h => ok.bk Z δ σ H N S T h⟩⟩
theorem xs_continue : XS X G (.Continue pos) tCont dCont := ⟨ps_continue, ⟨fun B Z τ E D δ σ H N hB ok S T h => ok.ct Z δ σ H N S T h⟩⟩

/-! ### x = e: keep, whether a fresh list is to be the def's own -/
@[simp] def dAsg (keep : Bool) (i : Nat) (de : DE) : DS := fun E δ N => de δ N fun s N1 => match s with
  | .dat d => E.nx (stn δ i (.dat d)) N1
  | .own ds => E.nx (stn δ i (if keep then .own ds else .dat (.lst ds))) N1
  | .als _ => False
theorem snd_asg (keep : Bool) {i : Nat} (h : Snd G te de) : SndS G (tAsg te (gName i)) (dAsg keep i de) := by
  refine ⟨fun B Z τ E D δ σ H N hB ok S T hd => ?_⟩
  refine h.run B Z δ σ H N _ _ hB S hd fun s v H1 k1 e1 r1 h1 => ?_
  have T1 : TOk B.K (N + k1) H1 Z τ := T.gro (.ex e1)
  cases s with
  | dat d => exact ok.nx Z _ _ H1 _ ((S.ext e1).set r1) T1 h1
  | own ds =>
    cases keep with
    | true =>
      obtain ⟨p, xs, rfl, h0, hp, r⟩ := r1
      exact ok.nx (Zp Z p) _ _ H1 _ (S.own e1 h0 hp r) (T.gro (.new e1 h0)) h1
    | false =>
      have r2 : Dt B.K (N + k1) H1 Z v (.lst ds) := r1.tp S.ztt
      exact ok.nx Z _ _ H1 _ ((S.ext e1).set r2) T1 h1
  | als ds => exact h1.elim
theorem xs_set (keep : Bool) {i : Nat} {x : Str} {pos' : Pos} (hN : X.N.Nodup) (hi : X.N[i]? = some x) (hx : Loc X.env.scope x) (he : XE X G e te de) (hs : swapsWith e (some (.Name x pos')) pos.line X.env = pure false := by rfl)
    (hf : X.fn x = true ∨ X.env.scope.names.lookup x = some .local := by first | exact .inl rfl | exact .inr rfl | assumption) : XS X G (.Assign [.Name x pos'] e pos) (tAsg te (gName i)) (dAsg keep i de) :=
  ⟨ps_set hN hi hx he.pe hs hf, snd_asg keep he.sn⟩
/-- name = [..] on one line, the name a local -/
theorem xs_setLc (keep : Bool) {i : Nat} {y : Str} {py : Pos} {elt tg iter : Expr} {ifs : List Expr} {scope : Scope} {own : List (Str × Nat)} {spos : Pos} {wi : TI} {g : TG} {tt : TT} {di : DI} {dg : DG} {js : List Nat} {dt : DT} (hc : X.calm = true) (hN : X.N.Nodup) (hy : X.N[i]? = some y) (hyl : X.env.scope.names.lookup y = some .local)
    (hsw : swapsWith (.ListComp elt [⟨tg, iter, ifs, 0⟩] scope pos) (some (.Name y py)) spos.line X.env = pure true) (hi : XI X G tg iter wi di) (ok : BlkOk X.N X.env.scope scope own)
    (hg : ∀ (s : Shared) (H : Hp) (C : Addr) (cl : List (Str × Addr)) (fp : List Addr), XG (X.blk s H scope (compEnvC scope cl C X.env) fp) tg g dg js)
    (ht : ∀ (s : Shared) (H : Hp) (C : Addr) (cl : List (Str × Addr)) (fp : List Addr), XTs (X.blk s H scope (compEnvC scope cl C X.env) fp) G ifs tt dt)
    (he : ∀ (s : Shared) (H : Hp) (C : Addr) (cl : List (Str × Addr)) (fp : List Addr), XE (X.blk s H scope (compEnvC scope cl C X.env) fp) G elt te de)
    (hj : ∀ j ∈ js, j ∈ own.map (·.2) := by decide) (hK : G.K = X.K := by rfl) (hs : ∀ x, foldedSetIterable iter X.env x = pure x := by intro _; rfl) :
    XS X G (.Assign [.Name y py] (.ListComp elt [⟨tg, iter, ifs, 0⟩] scope pos) spos) (tAsg (tLc wi g tt te (own.map (·.2))) (gName i)) (dAsg keep i (dLc di dg dt de (own.map (·.2)))) :=
  ⟨ps_setLc hc hN hy hyl hsw hi.pe ok (fun s H C cl fp => (hg s H C cl fp).pe) (fun s H C cl fp => (ht s H C cl fp).pe) (fun s H C cl fp => (he s H C cl fp).pe) hs,
    snd_asg keep (x_lc (pos := pos) hc hN hi ok hg ht he hj hK hs).sn⟩
/-- a target of any kind -/
@[simp] def dAsgT (dg : DG) (de : DE) : DS := fun E δ N => de δ N fun s N1 => chk s.nals (dg s.rd δ fun δ' => E.nx δ' N1)
theorem xs_asg {tg : Expr} {g : TG} {dg : DG} {js : List Nat} (he : XE X G e te de) (hg : XG X tg g dg js) (hK : G.K = X.K := by rfl) (hs : swapsWithSole [tg] e pos.line X.env = pure false := by rfl) (hw : swappedStores [tg] e X.env = pure none := by rfl)
    (h1 : (assignEach [tg] X.env).map (·.2) = [assign tg X.env] := by rfl) : XS X G (.Assign [tg] e pos) (tAsg te g) (dAsgT dg de) := by
  refine ⟨ps_asg he.pe hg.pe hs hw h1, ⟨fun B Z τ E D δ σ H N hB ok S T hd => ?_⟩⟩
  refine he.sn.run B Z δ σ H N _ _ hB S hd fun s v H1 k1 e1 r1 h1 => ?_
  rw [chk_iff] at h1
  have r2 : Dt B.K (N + k1) H1 Z v s.rd := by
    have t := r1.tp S.ztt
    cases s with
    | dat d => exact t
    | own ds => exact t
    | als ds => exact absurd h1.1 (by simp [Sl.nals])
  exact hg.sn.run B Z δ σ H1 (N + k1) s.rd v _ _ (by rw [← hK, ← hB]) (S.ext e1) r2 h1.2 fun δ' σ' S' o' h' => ok.nx Z δ' σ' H1 _ S' (T.gro (.ex e1)) h'
/-- a, b = x, y -/
def stP (δ : StD) (kp : Bool) (i : Nat) : Sl → StD
  | .dat d => stn δ i (.dat d)
  | .own ds => stn δ i (.dat (.lst ds))
  | .als _ => δ
@[simp] def dPar (i j : Nat) (da : DA) : DS := fun E δ N => da δ N fun ss N1 => match ss with
  | [s, u] => chk (nalsA [s, u]) (E.nx (stn (stn δ i (.dat s.rd)) j (.dat u.rd)) N1)
  | _ => False
theorem snd_par {i j : Nat} {ta : TA} {da : DA} (ha : SndA G ta da) : SndS G (tPar i j ta) (dPar i j da) := by
  refine ⟨fun B Z τ E D δ σ H N hB ok S T hd => ?_⟩
  refine ha.run B Z δ σ H N _ _ hB S hd fun ss vs H1 k1 e1 r1 h1 => ?_
  split at h1
  · rename_i s u
    rw [chk_iff] at h1
    have rr := pair_all r1 h1.1
    cases rr with
    | cons hx rr =>
      cases rr with
      | cons hy rr =>
        cases rr
        refine ⟨_, _, rfl, ?_⟩
        exact ok.nx Z _ _ H1 _ (((S.ext e1).set hx).set hy) (T.gro (.ex e1)) h1.2
  · exact h1.elim
theorem xs_par {i j : Nat} {x y : Str} {a b : Expr} {ta : TA} {da : DA} {px py pt : Pos} {kt k2 pt2} (hc : X.calm = true) (hN : X.N.Nodup) (hi : X.N[i]? = some x) (hj : X.N[j]? = some y) (hij : i ≠ j)
    (hx : X.env.scope.names.lookup x = some .local) (hy : X.env.scope.names.lookup y = some .local) (ha : XA X G [a, b] ta da)
    (hw : swappedStores [.Tuple [.Name x px, .Name y py] kt pt] (.Tuple [a, b] k2 pt2) X.env = pure (some [x, y]) := by rfl)
    (hs : swapsWithSole [.Tuple [.Name x px, .Name y py] kt pt] (.Tuple [a, b] k2 pt2) pos.line X.env = pure false := by rfl) :
    XS X G (.Assign [.Tuple [.Name x px, .Name y py] kt pt] (.Tuple [a, b] k2 pt2) pos) (tPar i j ta) (dPar i j da) := ⟨ps_par hc hN hi hj hij hx hy ha.pe hw hs, snd_par ha.sn⟩

/-! ### return, if -/
@[simp] def dRet (de : DE) : DS := fun E δ N => de δ N fun s N1 => E.rt s.out N1
theorem rt_ok {B : Bs} {Z : Addr → Prop} {δ : StD} {σ : L2.St} {H H1 : Hp} {N k1 : Ct} (S : SD B Z δ σ H N) (e1 : ExK k1 H H1) {v : V} {s : Sl} (r : Rs B (N + k1) H H1 Z v s) : RtOk B (N + k1) H1 v s.out := by
  have S1 := S.ext e1
  have gz : Gro B.K (N + k1) (N + k1) Z B.Z0 H1 H1 := .zone S.z0 (Ct.le_refl _)
  have h0z : ∀ a, B.Z0 a → Z a := S.z0
  cases s with
  | dat d => exact Dt.gro gz r
  | own ds =>
    obtain ⟨p, xs, rfl, h0, hp, rr⟩ := r
    obtain ⟨j, _, ej⟩ := S.ex
    refine ⟨p, xs, rfl, ej.back h0, hp, rr.gro (.zone (fun a h => ?_) (Ct.le_refl _))⟩
    rcases h with h | h
    · exact .inl (S.z0 a h)
    · exact .inr h
  | als ds =>
    obtain ⟨a, xs, rfl, z, h0, ha, rr⟩ := r
    refine ⟨a, xs, rfl, h0, ha, rr.gro (.zone (fun b h => ?_) (Ct.le_refl _))⟩
    rcases h with h | h
    · exact S.z0 b h
    · rw [h]; exact z
theorem snd_ret (h : Snd G te de) : SndS G (tRet te) (dRet de) := by
  refine ⟨fun B Z τ E D δ σ H N hB ok S T hd => ?_⟩
  refine h.run B Z δ σ H N _ _ hB S hd fun s v H1 k1 e1 r1 h1 => ?_
  obtain ⟨j, ej, ex⟩ := (S.ext e1).ex
  exact ok.rt s.out v H1 (N + k1) j ej ex (rt_ok S e1 r1) h1
theorem xs_ret (he : XE X G e te de) : XS X G (.Return (some e) pos) (tRet te) (dRet de) := ⟨ps_ret he.pe, snd_ret he.sn⟩
@[simp] def dRetN : DS := fun E _ N => E.rt (.dat .non) N
theorem xs_retN : XS X G (.Return none pos) tRetN dRetN := by
  refine ⟨ps_retN, ⟨fun B Z τ E D δ σ H N hB ok S T hd => ?_⟩⟩
  obtain ⟨j, ej, ex⟩ := S.ex
  exact ok.rt (.dat .non) .non H N j ej ex (Dt.v _) hd
@[simp] def dIf (p : DT) (a b : DS) : DS := fun E δ N => p δ N fun k N1 => wif k (a E δ N1) (b E δ N1)
theorem xs_if {c : Expr} {as bs : List Stmt} {tc : TT} {dc : DT} (hc : XT X G c tc dc) (ha : XSs X G as t d) (hb : XSs X G bs u f) : XS X G (.If c as bs pos) (tIfS tc t u) (dIf dc d f) := by
  refine ⟨ps_if hc.pe ha.pe hb.pe, ⟨fun B Z τ E D δ σ H N hB ok S T hd => ?_⟩⟩
  refine hc.sn.run B Z δ σ H N _ _ hB S hd fun k H1 k1 e1 h1 => ?_
  cases k with
  | true => exact ha.sn.run B Z τ E D δ σ H1 _ hB ok (S.ext e1) (T.gro (.ex e1)) h1
  | false => exact hb.sn.run B Z τ E D δ σ H1 _ hB ok (S.ext e1) (T.gro (.ex e1)) h1

/-! ### x.append(e), x an own list -/
@[simp] def dApp (i : Nat) (de : DE) : DS := fun E δ N => match nth δ i with
  | some (.own ds) => de δ N fun s N1 => chk s.nals (ds.length < 100000 ∧ E.nx (stn δ i (.own (ds ++ [s.rd]))) N1)
  | _ => False
theorem snd_app {K : PySem.W.Frag} {i : Nat} (h : Snd G te de) (hK : G.K = K) : SndS G (tDrop (tBM K "list" rAppend (tVar i) (tCons te tNil))) (dApp i de) := by
  refine ⟨fun B Z τ E D δ σ H N hB ok S T hd => ?_⟩
  unfold dApp at hd
  split at hd
  · rename_i ds hi
    obtain ⟨v, g1, a, xs, rfl, z, h0, ha, r⟩ := S.slot i _ hi
    refine ⟨_, g1, .inl ⟨rfl, xs, .of ha⟩, ?_⟩
    refine h.run B Z δ σ H N _ _ hB S hd fun s y H1 k1 e1 r1 h1 => ?_
    rw [chk_iff] at h1
    have r2 : Dt B.K (N + k1) H1 Z y s.rd := by
      have t := r1.tp S.ztt
      cases s with
      | dat d => exact t
      | own ds => exact t
      | als ds => exact absurd h1.1 (by simp [Sl.nals])
    obtain ⟨a', xs', g1', ha', hl, S'⟩ := (S.ext e1).app hi r2
    rw [g1] at g1'
    cases g1'
    refine ⟨a, xs', y, rfl, rfl, ha', by rw [hl]; exact size_lt h1.2.1, ?_⟩
    exact ok.nx Z _ _ _ _ S' ((T.gro (.ex e1)).gro (.wr z ha')) h1.2.2
  · exact hd.elim
theorem xs_app {i : Nat} {x : Str} {px apos cpos : Pos} (he : XE X G e te de) (hx : PE X (.Name x px) (tVar i)) (hK : G.K = X.K := by rfl)
    (hbase : attributeBase (.Name x px) "append" X.env (eval (.Name x px) X.env) = eval (.Name x px) X.env := by rfl)
    (hfew : ((backTo cpos (starEach (e :: []) X.env)).all (fun x => !x.1) && (backToKw cpos (keywordEach [] X.env)).all (fun x => x.1.isSome)
      && decide ((e :: []).length + ([] : List Keyword).length + (if ([] : List Keyword).isEmpty then 0 else 1) < 30)) = true := by rfl)
    (hline : (apos.endLine == cpos.line) = true := by rfl) (hs : starEach (e :: []) X.env = (false, eval e X.env) :: starEach [] X.env := by rfl)
    (hsw : swapsWith (.Call (.Attribute (.Name x px) "append" apos) [e] [] cpos) none pos.line X.env = pure false := by rfl) :
    XS X G (.Expr (.Call (.Attribute (.Name x px) "append" apos) [e] [] cpos) pos) (tDrop (tBM X.K "list" rAppend (tVar i) (tCons te tNil))) (dApp i de) :=
  ⟨ps_expr (pe_bm PySem.F.plainAttrs_list PySem.F.slot_list_append PySem.F.type_list_append mt_append hx (pa_cons he.pe pa_nil hs) hbase hfew hline hs rfl) hsw, snd_app he.sn hK⟩
/-- an expression for its own sake -/
@[simp] def dDrop (de : DE) : DS := fun E δ N => de δ N fun _ N1 => E.nx δ N1
theorem xs_expr (he : XE X G e te de) (hs : swapsWith e none pos.line X.env = pure false := by rfl) : XS X G (.Expr e pos) (tDrop te) (dDrop de) := by
  refine ⟨ps_expr he.pe hs, ⟨fun B Z τ E D δ σ H N hB ok S T hd => ?_⟩⟩
  exact he.sn.run B Z δ σ H N _ _ hB S hd fun s y H1 k1 e1 r1 h1 => ok.nx Z δ σ H1 _ (S.ext e1) (T.gro (.ex e1)) h1
/-- the list at slot i is no more its own -/
@[simp] def dFrz (i : Nat) (d : DS) : DS := fun E δ N => match nth δ i with
  | some (.own ds) => d E (stn δ i (.dat (.lst ds))) N
  | _ => d E δ N
theorem snd_frz {ts : TS} {d : DS} {i : Nat} (h : SndS G ts d) : SndS G ts (dFrz i d) := by
  refine ⟨fun B Z τ E D δ σ H N hB ok S T hd => ?_⟩
  unfold dFrz at hd
  split at hd
  · rename_i ds hi
    obtain ⟨Z', S', T'⟩ := S.frz hi
    exact h.run B Z' τ E D _ σ H N hB ok S' (fun p hp => (T p hp).gro T') hd
  · exact h.run B Z τ E D _ σ H N hB ok S T hd
theorem xs_frz {st : Stmt} {ts : TS} {d : DS} (i : Nat) (h : XS X G st ts d) : XS X G st ts (dFrz i d) := ⟨h.pe, snd_frz h.sn⟩

/-! ### for, while -/
def dFor (di : DI) (dg : DG) (db : DS) : DS := fun E δ N => di δ N fun ds N1 => ∃ Inv : Nat → StD → Ct → Prop, Inv 0 δ N1 ∧
  (∀ i d δ2 N2, ds[i]? = some d → Inv i δ2 N2 → dg d δ2 fun δ3 => db { E with nx := Inv (i + 1), ct := Inv (i + 1), bk := E.nx } δ3 N2) ∧
  ∀ δ2 N2, Inv ds.length δ2 N2 → E.nx δ2 N2
theorem snd_for {wi : TI} {di : DI} {g : TG} {dg : DG} {js : List Nat} {tb : TS} {db : DS} (hi : SndI G wi di) (hg : SndG G.K g dg js) (hb : SndS G tb db) : SndS G (tFor wi g tb) (dFor di dg db) := by
  refine ⟨fun B Z τ E D δ σ H N hB ok S T hd => ?_⟩
  subst hB
  refine hi.run B Z δ σ H N _ _ rfl S hd fun J ds τJ H1 k1 e1 hτ W h1 => ?_
  obtain ⟨Inv, i0, turn, done⟩ := h1
  have T1 := T.gro (.ex e1)
  refine ⟨fun i m σ' H' => m = ds.length - i ∧ i ≤ ds.length ∧ ∃ Z' δ' N', Inv i δ' N' ∧ SD B Z' δ' σ' H' N' ∧ TOk B.K N' H' Z' (τJ ++ τ), ⟨ds.length, by simp, Nat.zero_le _, Z, δ, N + k1, i0, S.ext e1, fun p hp => ?_⟩, ?_⟩
  · rcases List.mem_append.mp hp with hp | hp
    · exact hτ p hp
    · exact T1 p hp
  rintro i m σ' H' ⟨rfl, hle, Z', δ', N', hI, S', T'⟩
  have TJ : TOk B.K N' H' Z' τJ := fun p hp => T' p (List.mem_append_left _ hp)
  have Tτ : TOk B.K N' H' Z' τ := fun p hp => T' p (List.mem_append_right _ hp)
  by_cases hlt : i < ds.length
  · obtain ⟨d, hd'⟩ : ∃ d, ds[i]? = some d := ⟨ds[i], by simp [hlt]⟩
    obtain ⟨go, yl⟩ := W.go _ _ _ i d S'.ztt TJ hd'
    refine .inr ⟨go, fun σ2 H2 => ∃ Z2 δ2 N2, Inv (i + 1) δ2 N2 ∧ SD B Z2 δ2 σ2 H2 N2 ∧ TOk B.K N2 H2 Z2 (τJ ++ τ), fun σ2 H2 ⟨Z2, δ2, N2, a, b, c⟩ => ⟨ds.length - (i + 1), by omega, rfl, hlt, Z2, δ2, N2, a, b, c⟩, fun x H3 hy => ?_⟩
    obtain ⟨e3, hx⟩ := yl x H3 hy
    refine hg.run B Z' δ' σ' H3 N' d x _ _ rfl (S'.ext0 e3) hx (turn i d δ' N' hd' hI) fun δ3 σ3 S3 o3 h3 => ?_
    refine hb.run B Z' (τJ ++ τ) { E with nx := Inv (i + 1), ct := Inv (i + 1), bk := E.nx } _ δ3 σ3 H3 N' rfl ⟨fun Z4 δ4 σ4 H4 N4 S4 T4 h4 => ⟨Z4, δ4, N4, h4, S4, T4⟩, fun Z4 δ4 σ4 H4 N4 S4 T4 h4 => ok.nx Z4 δ4 σ4 H4 N4 S4 (fun p hp => T4 p (List.mem_append_right _ hp)) h4, fun Z4 δ4 σ4 H4 N4 S4 T4 h4 => ⟨Z4, δ4, N4, h4, S4, T4⟩, ok.rt⟩ S3 (T'.gro (.ex e3)) h3
  · have e : i = ds.length := by omega
    subst e
    exact .inl ⟨W.stop _ _ _ _ TJ (Nat.le_refl _), ok.nx Z' δ' σ' H' N' S' Tτ (done δ' N' hI)⟩
theorem xs_for {tg iter : Expr} {body : List Stmt} {wi : TI} {di : DI} {g : TG} {dg : DG} {js : List Nat} {tb : TS} {db : DS} (hp : PassesOwn (model X.prog X.w) X.A X.env X.xe) (hc : X.calm = true) (hi : XI X G tg iter wi di) (hg : XG X tg g dg js) (hb : XSs X G body tb db)
    (hK : G.K = X.K := by rfl) (hs : ∀ x, foldedSetIterable iter X.env x = pure x := by intro _; rfl) : XS X G (.For tg iter body [] pos) (tFor wi g tb) (dFor di dg db) :=
  ⟨ps_for hp hc hi.pe hg.pe hb.pe hs, snd_for hi.sn (by rw [hK]; exact hg.sn) hb.sn⟩
def dWhile (p : DT) (db : DS) : DS := fun E δ N => ∃ Inv : Nat → StD → Ct → Prop, (∃ m, Inv m δ N) ∧
  ∀ m δ2 N2, Inv m δ2 N2 → p δ2 N2 fun b N3 => wif b (db { E with nx := fun δ3 N4 => ∃ m', m' < m ∧ Inv m' δ3 N4, ct := fun δ3 N4 => ∃ m', m' < m ∧ Inv m' δ3 N4, bk := E.nx } δ2 N3) (E.nx δ2 N3)
theorem snd_while {tc : TT} {dc : DT} {tb : TS} {db : DS} (hc : SndT G tc dc) (hb : SndS G tb db) : SndS G (tWhile tc tb) (dWhile dc db) := by
  refine ⟨fun B Z τ E D δ σ H N hB ok S T hd => ?_⟩
  obtain ⟨Inv, ⟨m0, i0⟩, turn⟩ := hd
  refine ⟨fun m σ' H' => ∃ Z' δ' N', Inv m δ' N' ∧ SD B Z' δ' σ' H' N' ∧ TOk B.K N' H' Z' τ, ⟨m0, Z, δ, N, i0, S, T⟩, ?_⟩
  rintro m σ' H' ⟨Z', δ', N', hI, S', T'⟩
  refine hc.run B Z' δ' σ' H' N' _ _ hB S' (turn m δ' N' hI) fun b H1 k1 e1 h1 => ?_
  cases b with
  | true =>
    refine ⟨fun σ2 H2 => ∃ m', m' < m ∧ ∃ Z2 δ2 N2, Inv m' δ2 N2 ∧ SD B Z2 δ2 σ2 H2 N2 ∧ TOk B.K N2 H2 Z2 τ, fun σ2 H2 h => h, ?_⟩
    exact hb.run B Z' τ { E with nx := fun δ3 N4 => ∃ m', m' < m ∧ Inv m' δ3 N4, ct := fun δ3 N4 => ∃ m', m' < m ∧ Inv m' δ3 N4, bk := E.nx } _ δ' σ' H1 (N' + k1) hB ⟨fun Z4 δ4 σ4 H4 N4 S4 T4 ⟨m', a, b⟩ => ⟨m', a, Z4, δ4, N4, b, S4, T4⟩, ok.nx, fun Z4 δ4 σ4 H4 N4 S4 T4 ⟨m', a, b⟩ => ⟨m', a, Z4, δ4, N4, b, S4, T4⟩, ok.rt⟩ (S'.ext e1) (T'.gro (.ex e1)) h1
  | false => exact ok.nx Z' δ' σ' H1 _ (S'.ext e1) (T'.gro (.ex e1)) h1
theorem xs_while {c : Expr} {body : List Stmt} {tc : TT} {dc : DT} {tb : TS} {db : DS} (hp : PassesOwn (model X.prog X.w) X.A X.env X.xe) (hc : XT X G c tc dc) (hb : XSs X G body tb db) : XS X G (.While c body [] pos) (tWhile tc tb) (dWhile dc db) :=
  ⟨ps_while hp hc.pe hb.pe, snd_while hc.sn hb.sn⟩
end

/-! ### defs -/
@[simp] def startD (ds : List D) (n : Nat) : StD := ds.map (fun d => some (.dat d)) ++ List.replicate (n - ds.length) none
abbrev G0 (K : PySem.W.Frag) : Gg := ⟨K, E0, fun _ _ => False, []⟩
abbrev TabsN (T : List Addr) (H : Hp) : Prop := ∀ P ∈ T, LamX.TabS H P (TabNames.nm P)
theorem tabs_nil {H : Hp} : TabsN [] H := fun p hp => absurd hp (by simp)
theorem nth_get : ∀ {δ : StD} {i : Nat} {s : Sl}, nth δ i = some s → δ[i]? = some (some s)
  | [], _, _, h => by simp [nth] at h
  | _ :: _, 0, _, h => by simpa [nth] using h
  | _ :: r, i + 1, s, h => by
    have := nth_get (δ := r) (i := i) (s := s) (by simpa [nth] using h)
    simpa using this
theorem startD_get {ds : List D} {n i : Nat} {s : Sl} (h : nth (startD ds n) i = some s) : ∃ d, ds[i]? = some d ∧ s = .dat d := by
  have h1 := nth_get h
  unfold startD at h1
  by_cases hi : i < ds.length
  · rw [List.getElem?_append_left (by rw [List.length_map]; exact hi), List.getElem?_map] at h1
    cases e : ds[i]? with
    | none => rw [e] at h1; cases h1
    | some d =>
      rw [e] at h1
      cases h1
      exact ⟨d, rfl, rfl⟩
  · rw [List.getElem?_append_right (by rw [List.length_map]; omega)] at h1
    have h2 := List.mem_of_getElem? h1
    rw [List.mem_replicate] at h2
    cases h2.2
theorem sd_start {G : Gg} {H : Hp} {Z : Addr → Prop} {N : Ct} {NN : List Str} {vs : List V} {ds : List D} (hz : Zt Z H) (r : DtAll G.K N H Z vs ds) (eok : ∀ cls k H', ExK k H H' → G.Er cls (N + k) → G.E cls none H') (tab : TabsN G.T H) :
    SD ⟨G, H, Z, N, eok, tab⟩ Z (startD ds NN.length) (L2.start NN vs) H N where
  ex := ⟨0, rfl, ExK.refl H⟩
  z0 := fun _ h => h
  z1 := fun a h e => by
    obtain ⟨xs, hx⟩ := hz a h
    have e' : H a = none := e
    rw [e'] at hx
    cases hx
  zt := hz
  len := by
    unfold startD L2.start
    rw [List.length_append, List.length_append, List.length_map, List.length_map, List.length_replicate, List.length_replicate, r.length]
  slot := fun i s h => by
    obtain ⟨d, h1, rfl⟩ := startD_get h
    obtain ⟨v, h2, h3⟩ := r.get h1
    refine ⟨v, ?_, h3⟩
    unfold L2.start
    have hl := (List.getElem?_eq_some_iff.mp h2).1
    rw [List.getElem?_append_left (by rw [List.length_map]; exact hl), List.getElem?_map, h2]
    rfl
  nals := fun i ds h => by
    obtain ⟨d, _, e⟩ := startD_get h
    cases e
  d1 := fun i j ds es _ h _ => by
    obtain ⟨d, _, e⟩ := startD_get h
    cases e
section
variable {P : Program} {w : World} {K : PySem.W.Frag} {mg : Str → Option Value} {base : Heap}
/-- THE RULE for a def that no exception leaves -/
theorem dok {x qual : Str} {st : Stmt} {f : Addr} {fd : FuncData} {N ps : List Str} {k : Nat} {dsp : DSp} (F : Fun K x qual st f fd) (S : FnScope N ps (defScope st)) (len : ∀ ds n C Er, dsp ds n C Er → ds.length = ps.length)
    (hbody : ∀ (cdv : Value) (A : Around) (outer : List Env) (s : Shared) (H : Hp) (E : XK), Room k (A.deeper (envOfC qual (defScope st) s.heap.objs.size f cdv)) →
      ∃ t d, XSs (cxOf CX0 P w K mg base N qual (defScope st) f cdv A outer s H E).nox (G0 K) (defBody st) t d ∧
        ∀ ds n C Er, dsp ds n C Er → d { nx := fun _ n' => C (.dat .non) n', rt := C } (startD ds N.length) n) : DFn P w K mg base CX0 (k + 1) f fd ps dsp := by
  refine F.ok S (fun vs H Q E h => ?_) fun cdv A outer s H vs Q E hr h => ?_
  · obtain ⟨Z, n, ds, C, Er, _, r, hd, _⟩ := h
    rw [r.length]
    exact len ds n C Er hd
  · obtain ⟨t, d, hx, hd⟩ := hbody cdv A outer s H E hr
    obtain ⟨Z, n, ds, C, Er, hz, r, hs, q, _⟩ := h
    refine ⟨t, hx.pe, ?_⟩
    refine hx.sn.run ⟨G0 K, H, Z, n, fun _ _ _ _ z => z.elim, tabs_nil⟩ Z [] { nx := fun _ n' => C (.dat .non) n', rt := C } _ _ _ H n rfl ⟨fun Z' δ σ H' N' S' _ h' => ?_, fun _ _ _ _ _ _ _ z => z.elim, fun _ _ _ _ _ _ _ z => z.elim, fun s v H' N' k hN ex rt h' => ?_⟩ (sd_start (G := G0 K) hz r (fun _ _ _ _ z => z.elim) tabs_nil) (fun p hp => absurd hp (by simp)) (hd ds n C Er hs)
    · obtain ⟨j, ej, ex⟩ := S'.ex
      have ej' : N' = n + j := ej
      subst ej'
      exact q (.dat .non) .non H' j ex (Dt.v _) h'
    · have hN' : N' = n + k := hN
      subst hN'
      refine q s v H' k ex ?_ h'
      cases s with
      | dat d => exact rt
      | own ds => exact rt
      | als ds => exact rt.elim
end
end DL

/-! DLh: bags; the defs of the text and their callers. -/
namespace DL
open PySem PySem.Spec PyProof.Rows L2
variable [TabNames]

/-! ### a bag, seen and hidden -/
section
variable {X : Cx} {e : Expr} {t : TE} {sts : List Stmt} {ts : TS}
/-- a bag at b is seen as its three ints -/
def tSee (ts : TS) : TS := fun D σ H => ∃ b n, H b = some (.ext (bagAt b n)) ∧ ∀ i j c : Int, 0 ≤ i → 0 ≤ j → 0 ≤ c → (∀ m : Nat, HO.ext (bagAt b n) = HO.ext (bagAt b m) → c ≤ m) → ts D σ (upd H b (.lst [.int i, .int j, .int c]))
theorem pss_see (h : PSs X sts ts) : PSs X sts (tSee ts) := by
  refine ⟨fun pins s σ H D I hw => ?_⟩
  obtain ⟨b, n, hb, q⟩ := hw
  have hφ : ∀ m : Nat, HO.ext (bagAt b n) = HO.ext (bagAt b m) → bagAt b m s.heap := fun m e => by
    have h1 := I.hok b _ hb
    rw [e] at h1
    exact h1.1
  obtain ⟨i, j, c, t1, t2, t3, mm, hg, hi, hj, hc, hn⟩ := hφ n rfl
  have hall : ∀ m : Nat, HO.ext (bagAt b n) = HO.ext (bagAt b m) → c ≤ m := fun m e => by
    obtain ⟨i', j', c', u1, u2, u3, mm', hg', _, _, _, hm'⟩ := hφ m e
    rw [hg] at hg'
    have e1 := Option.some.inj hg'
    injection e1 with _ _ ed _
    injection ed with ea _
    have e2 := congrArg Array.toList ea
    simp only [List.cons.injEq, Value.int.injEq] at e2
    omega
  have I' : Inv X pins σ (upd H b (.lst [.int i, .int j, .int c])) s := I.write (h' := s.heap) (t' := s.toks) (x := b) (e := b) (by rw [hb]; trivial) (.inl rfl) (fun _ _ _ q => q) ⟨_, hg⟩
    ⟨by show 3 ≤ sizeLine; decide, _, mm, .cons ⟨_, rfl⟩ (.cons ⟨_, rfl⟩ (.cons ⟨_, rfl⟩ .nil)), hg⟩
  exact h.run pins s σ _ D I' (q i j c hi hj hc hall)
/-- a list of three ints becomes a bag again -/
def tHide (t : TE) : TE := fun σ H Q => t σ H fun v H' => ∃ b i j c, ∃ n : Nat, H' b = some (.lst [.int i, .int j, .int c]) ∧ 0 ≤ i ∧ 0 ≤ j ∧ 0 ≤ c ∧ c ≤ n ∧ Q v (upd H' b (.ext (bagAt b n)))
theorem pe_hide (h : PE X e t) : PE X e (tHide t) := by
  refine ⟨fun pins s σ H Q I hw => ?_⟩
  refine thn (h.run pins s σ H _ I hw) fun u s1 ⟨v, H1, I1, r1, q1⟩ => ?_
  obtain ⟨b, i, j, c, n, hb, hi, hj, hc, hn, q⟩ := q1
  obtain ⟨_, its, m, rv, hg⟩ := (show ObjOk X.prog X.w H1 s1.heap b (.lst [.int i, .int j, .int c]) from I1.hok b _ hb)
  have hbag : bagAt b n s1.heap := by
    cases rv with
    | cons r1 rv =>
      cases rv with
      | cons r2 rv =>
        cases rv with
        | cons r3 rv =>
          cases rv
          obtain ⟨t1, rfl⟩ := r1
          obtain ⟨t2, rfl⟩ := r2
          obtain ⟨t3, rfl⟩ := r3
          exact ⟨i, j, c, t1, t2, t3, m, hg, hi, hj, hc, hn⟩
  have I' : Inv X pins σ (upd H1 b (.ext (bagAt b n))) s1 := I1.write (h' := s1.heap) (t' := s1.toks) (x := b) (e := b) (by rw [hb]; trivial) (.inl rfl) (fun _ _ _ q => q) ⟨_, hg⟩
    ⟨hbag, ⟨_, hg⟩, fun h1 h2 ⟨i', j', c', u1, u2, u3, mm, g, rest⟩ k => ⟨i', j', c', u1, u2, u3, mm, k _ g, rest⟩⟩
  exact ⟨v, _, I', r1, q⟩
end
/-- a fresh list of three ints is given away as a bag -/
def tBag (t : TE) : TE := fun σ H Q => t σ H fun v H' => ∃ b i j c, ∃ n : Nat, v = .ref b ∧ H' b = some (.lst [.int i, .int j, .int c]) ∧ 0 ≤ i ∧ 0 ≤ j ∧ 0 ≤ c ∧ c ≤ n ∧ Q v (upd H' b (.ext (bagAt b n)))
@[simp] def dBag (de : DE) : DE := fun δ N C => de δ N fun s N1 => match s with
  | .own [.v (.int i), .v (.int j), .v (.int c)] => (0 ≤ i ∧ 0 ≤ j ∧ 0 ≤ c ∧ c ≤ N1.n) ∧ C (.dat .bag) N1
  | _ => False
theorem x_bag {X : Cx} {G : Gg} {e : Expr} {t : TE} {de : DE} (h : XE X G e t de) : XE X G e (tHide t) (dBag de) := by
  refine ⟨pe_hide h.pe, ⟨fun B Z δ σ H N C Q hB S hd q => ?_⟩⟩
  refine h.sn.run B Z δ σ H N _ _ hB S hd fun s x H1 k1 e1 r1 h1 => ?_
  split at h1
  · rename_i i j c
    obtain ⟨⟨hi, hj, hc, hn⟩, h2⟩ := h1
    obtain ⟨p, xs, rfl, h0, hp, rr⟩ := r1
    have e3 : [D.v (.int i), D.v (.int j), D.v (.int c)] = [i, j, c].map D.int := rfl
    rw [e3] at rr
    have exs := rr.ints
    subst exs
    refine ⟨p, i, j, c, (N + k1).n, hp, hi, hj, hc, hn, ?_⟩
    exact q (.dat .bag) _ _ k1 (e1.wr h0 hp) (Dt.bag (Nat.le_refl _) upd_same) h2
  · exact h1.elim
theorem tab_bag {H : Hp} {P b : Addr} {q : Str} {n m : Nat} (h : H b = some (.ext (bagAt b n))) (t : LamX.TabS H P q) : LamX.TabS (upd H b (.ext (bagAt b m))) P q := by
  obtain ⟨ps, h1, h2, h3⟩ := t
  refine ⟨ps, by rw [upd_ne (fun z => by rw [z, h] at h1; cases h1)]; exact h1, h2, fun pos cv hc => ?_⟩
  obtain ⟨c, e1, e2⟩ := h3 pos cv hc
  refine ⟨c, e1, ?_⟩
  rw [upd_ne (fun z => by rw [z, h] at e2; exact codeO_bag (Option.some.inj e2).symm)]
  exact e2
/-- a draw: 0 ≤ i < m, nothing else is known -/
def LIM : Nat := 2 ^ 60
def dspTake : DSp := fun ds N C _ => ∃ m : Int, ds = [.bag, .int m] ∧ (0 < m ∧ m < 1073741824 ∧ N.n ≤ LIM) ∧ ∀ i : Int, 0 ≤ i → i < m → C (.dat (.int i)) (N + 1)

/-! ### the written part by its own name (inside a comprehension) -/
section
variable {X : Cx} {K : PySem.W.Frag}
theorem o_addK (h : X.K = K := by rfl) : X2 X (binaryOp .Add) (rAddA K) dAdd := by subst h; exact o_add
theorem o_eqK (hu : X.A.units + 64 < cLine) (h : X.K = K := by rfl) : X2 X (compareOp .Eq) (rEqD K) (dEq false) := by subst h; exact o_eq hu
theorem o_neK (hu : X.A.units + 64 < cLine) (h : X.K = K := by rfl) : X2 X (compareOp .NotEq) (rNeD K) (dEq true) := by subst h; exact o_ne hu
theorem o_inK (h : X.K = K := by rfl) : X2 X (compareOp .In) (rIn K false) (dIn false) := by subst h; exact o_in
theorem o_notinK (h : X.K = K := by rfl) : X2 X (compareOp .NotIn) (rIn K true) (dIn true) := by subst h; exact o_notin
theorem o_ixK (h : X.K = K := by rfl) : X2I X (rIx K) dIx := by subst h; exact o_ix
theorem c_lenK (h : X.K = K := by rfl) : XC X (.builtin "len") (rLenQ K) dLen := by subst h; exact c_len
theorem c_sumK (hc : X.calm = true) (h : X.K = K := by rfl) : XC X (.builtin "sum") (rSum K) dSum := by subst h; exact c_sum hc
theorem c_maxLK (hc : X.calm = true) (h : X.K = K := by rfl) : XC X (.builtin "max") (rMax K) dMaxL := by subst h; exact c_maxL hc
theorem c_minLK (hc : X.calm = true) (h : X.K = K := by rfl) : XC X (.builtin "min") (rMin K) dMinL := by subst h; exact c_minL hc
theorem c_allK (hc : X.calm = true) (h : X.K = K := by rfl) : XC X (.builtin "all") (rAll K) dAll := by subst h; exact c_all hc
theorem c_sortedK (h : X.K = K := by rfl) : XC X (.builtin "sorted") (rSortedI K) dSorted := by subst h; exact c_sorted
theorem c_listK (h : X.K = K := by rfl) : XC X (.type "list") (rListQ K) dList := by subst h; exact c_list
theorem c_tupleK (h : X.K = K := by rfl) : XC X (.type "tuple") (rTupleQ K) dTuple := by subst h; exact c_tuple
end
/-! ### the defs of the text -/
section
variable (P : Program) (w : World) (K : PySem.W.Frag) (mg : Str → Option Value) (base : Heap)
/-- x is a def of the text that keeps dsp -/
def Cal (CX : CXT) (x : Str) (k : Nat) (ps : List Str) (dsp : DSp) : Prop := ∃ (f : Addr) (fd : FuncData), DFn P w K mg base CX k f fd ps dsp ∧ mg x = some (.ref f) ∧ PySem.W.keepIn K (.ref f) = true ∧ Binds K fd ps []
/-- x stands at the top as the text says -/
def Dfd (x : Str) (st : Stmt) : Prop := ∃ (f : Addr) (fd : FuncData), Fun K x x st f fd ∧ mg x = some (.ref f)
def Cint (x : Str) (i : Int) : Prop := ∃ t, mg x = some (.int i t)
end
section
variable {X : Cx} {G : Gg} {CX : CXT} {k j : Nat} {ps : List Str} {dsp : DSp} {x : Str} {p pos : Pos} {e : Expr} {es : List Expr} {t : TA} {d : DA}
theorem x_callC (C : Cal X.prog X.w X.K X.mg X.base CX x k ps dsp) (hr : Room j X.A) (hkj : k ≤ j) (hg : Gl X x) (hx : Passes CX X G.E)
    (ha : XA X G (e :: es) t d) (hK : G.K = X.K := by rfl) (hdb : (x == ("__debug__" : Str)) = false := by decide) (he : starEach (e :: es) X.env = (false, eval e X.env) :: starEach es X.env := by rfl) (hpl : (backTo pos (starEach es X.env)).any (·.1) = false := by rfl) :
    XE X G (.Call (.Name x p) (e :: es) [] pos) (tCall (lift G.K dsp) [] G.E t) (dCall G.Er dsp d) := by
  obtain ⟨f, fd, F, hm, hk, hb⟩ := C
  exact x_call F (hr.mono hkj) hg hm hk hb hx ha hK hdb he hpl
theorem x_globI {i : Int} (h : Cint X.mg x i) (hg : Gl X x) (hd : (x == ("__debug__" : Str)) = false := by decide) : XE X G (.Name x pos) (tC (.int i)) (dC (.int i)) := by
  obtain ⟨u, h⟩ := h
  exact x_glob hg h ⟨u, rfl⟩ hd
end
section
variable {P : Program} {w : World} {K : PySem.W.Frag} {mg : Str → Option Value} {base : Heap}
theorem cal_of {x : Str} {st : Stmt} {N ps : List Str} {k : Nat} {dsp : DSp} {dd : DS} (D : Dfd K mg x st) (S : FnScope N ps (defScope st)) (len : ∀ ds n C Er, dsp ds n C Er → ds.length = ps.length)
    (hb : ∀ (kV doc pm : Value) (an : Option Addr) (cdv ct : Value) (us : List Value), us.length = ps.length → bindArgs (PySem.W.fnOf x x (defArgs st) (defBody st) (defScope st) .none kV doc pm an cdv ct) ⟨us, []⟩ = pure (ps.zip us))
    (hbody : ∀ (f : Addr) (cdv : Value) (A : Around) (outer : List Env) (s : Shared) (H : Hp) (E : XK), Room k (A.deeper (envOfC x (defScope st) s.heap.objs.size f cdv)) →
      ∃ t, XSs (cxOf CX0 P w K mg base N x (defScope st) f cdv A outer s H E).nox (G0 K) (defBody st) t dd)
    (hd : ∀ ds n C Er, dsp ds n C Er → dd { nx := fun _ n' => C (.dat .non) n', rt := C } (startD ds N.length) n) : Cal P w K mg base CX0 x (k + 1) ps dsp := by
  obtain ⟨f, fd, F, hm⟩ := D
  refine ⟨f, fd, dok F S len fun cdv A outer s H E hr => ?_, hm, F.kp, F.binds hb⟩
  obtain ⟨t, hx⟩ := hbody f cdv A outer s H E hr
  exact ⟨t, dd, hx, hd⟩
end

/-- no promise -/
def dspNo : DSp := fun _ _ _ _ => False
theorem cal_false {P : Program} {w : World} {K : PySem.W.Frag} {mg : Str → Option Value} {base : Heap} {x : Str} {st : Stmt} {ps : List Str} {k : Nat} (D : Dfd K mg x st)
    (hb : ∀ (kV doc pm : Value) (an : Option Addr) (cdv ct : Value) (us : List Value), us.length = ps.length → bindArgs (PySem.W.fnOf x x (defArgs st) (defBody st) (defScope st) .none kV doc pm an cdv ct) ⟨us, []⟩ = pure (ps.zip us)) : Cal P w K mg base CX0 x k ps dspNo := by
  obtain ⟨f, fd, F, hm⟩ := D
  exact ⟨f, fd, ⟨fun vs H Q E h => by
    obtain ⟨Z, n, ds, C, Er, _, r, hd, _⟩ := h
    exact hd.elim, fun A outer s H args us vs Q E hr he hbi hv h => by
    obtain ⟨Z, n, ds, C, Er, _, r, hd, _⟩ := h
    exact hd.elim⟩, hm, F.kp, F.binds hb⟩
/-! ### names of operators -/
def dSub : D2 := dI0 fun i j => .int (i - j)
def dMul : D2 := dI CMul fun i j => .int (i * j)
def dDiv : D2 := dI CDiv fun i j => .int (i / j)
def dMod : D2 := dI (fun _ j => 0 < j) fun i j => .int (i % j)
def dPow : D2 := dI CPow fun i j => .int (i ^ j.toNat)
def dLt : D2 := dI0 fun i j => .bl (decide (i < j))
def dLe : D2 := dI0 fun i j => .bl (decide (i ≤ j))
def dGt : D2 := dI0 fun i j => .bl (decide (j < i))
def dGe : D2 := dI0 fun i j => .bl (decide (j ≤ i))
section
variable {i j : Int} {k : Sl → Prop}
@[simp] theorem e_sub : dSub (.v (.int i)) (.v (.int j)) k = k (.dat (.v (.int (i - j)))) := rfl
@[simp] theorem e_mul : dMul (.v (.int i)) (.v (.int j)) k = (CMul i j ∧ k (.dat (.v (.int (i * j))))) := rfl
@[simp] theorem e_div : dDiv (.v (.int i)) (.v (.int j)) k = (CDiv i j ∧ k (.dat (.v (.int (i / j))))) := rfl
@[simp] theorem e_mod : dMod (.v (.int i)) (.v (.int j)) k = (0 < j ∧ k (.dat (.v (.int (i % j))))) := rfl
@[simp] theorem e_pow : dPow (.v (.int i)) (.v (.int j)) k = (CPow i j ∧ k (.dat (.v (.int (i ^ j.toNat))))) := rfl
@[simp] theorem e_lt : dLt (.v (.int i)) (.v (.int j)) k = k (.dat (.v (.bl (decide (i < j))))) := rfl
@[simp] theorem e_le : dLe (.v (.int i)) (.v (.int j)) k = k (.dat (.v (.bl (decide (i ≤ j))))) := rfl
@[simp] theorem e_gt : dGt (.v (.int i)) (.v (.int j)) k = k (.dat (.v (.bl (decide (j < i))))) := rfl
@[simp] theorem e_ge : dGe (.v (.int i)) (.v (.int j)) k = k (.dat (.v (.bl (decide (j ≤ i))))) := rfl
end
abbrev E00 : Value → Ct → Prop := fun _ _ => False
end DL

/-! DLi: readings by data, evaluated. -/
namespace DL
open PySem PySem.Spec PyProof.Rows L2
variable [TabNames]

section
variable {α β : Type} {f : α → β} {a : α} {l m : List α} {b : Bool}
@[simp] theorem w_map_cons : (a :: l).map f = f a :: l.map f := rfl
@[simp] theorem w_map_nil : ([] : List α).map f = [] := rfl
@[simp] theorem w_cons_app : (a :: l) ++ m = a :: (l ++ m) := rfl
@[simp] theorem w_nil_app : [] ++ m = m := rfl
@[simp] theorem w_len_cons : (a :: l).length = l.length + 1 := rfl
@[simp] theorem w_len_nil : ([] : List α).length = 0 := rfl
@[simp] theorem w_rep_0 : List.replicate 0 a = [] := rfl
@[simp] theorem w_rep_s {n : Nat} : List.replicate (n + 1) a = a :: List.replicate n a := rfl
@[simp] theorem w_t_and : (true && b) = b := rfl
@[simp] theorem w_f_and : (false && b) = false := rfl
@[simp] theorem w_t_or : (true || b) = true := rfl
@[simp] theorem w_f_or : (false || b) = b := rfl
@[simp] theorem w_not_t : (!true) = false := rfl
@[simp] theorem w_not_f : (!false) = true := rfl
end
@[simp] theorem rd_dat {d : D} : (Sl.dat d).rd = d := rfl
@[simp] theorem rd_own {ds : List D} : (Sl.own ds).rd = .lst ds := rfl
@[simp] theorem rd_als {ds : List D} : (Sl.als ds).rd = .lst ds := rfl
@[simp] theorem ali_dat {d : D} : (Sl.dat d).ali = .dat d := rfl
@[simp] theorem ali_own {ds : List D} : (Sl.own ds).ali = .als ds := rfl
@[simp] theorem nals_dat {d : D} : (Sl.dat d).nals = true := rfl
@[simp] theorem nals_own {ds : List D} : (Sl.own ds).nals = true := rfl
@[simp] theorem nals_als {ds : List D} : (Sl.als ds).nals = false := rfl
@[simp] theorem lf_dat {d : D} : (Sl.dat d).lf = d.lf := rfl
@[simp] theorem lf_own {ds : List D} : (Sl.own ds).lf = false := rfl
@[simp] theorem lf_v {x : V} : (D.v x).lf = true := rfl
@[simp] theorem out_dat {d : D} : (Sl.dat d).out = .dat d := rfl
@[simp] theorem out_own {ds : List D} : (Sl.own ds).out = .own ds := rfl
@[simp] theorem out_als {ds : List D} : (Sl.als ds).out = .own ds := rfl
@[simp] theorem nalsA_nil : nalsA [] = true := rfl
@[simp] theorem nalsA_cons {s : Sl} {ss : List Sl} : nalsA (s :: ss) = (s.nals && nalsA ss) := rfl
@[simp] theorem nth_0 {s : Option Sl} {δ : StD} : nth (s :: δ) 0 = s := rfl
@[simp] theorem nth_s {s : Option Sl} {δ : StD} {i : Nat} : nth (s :: δ) (i + 1) = nth δ i := rfl
@[simp] theorem stn_0 {s : Option Sl} {δ : StD} {t : Sl} : stn (s :: δ) 0 t = some t :: δ := rfl
@[simp] theorem stn_s {s : Option Sl} {δ : StD} {i : Nat} {t : Sl} : stn (s :: δ) (i + 1) t = s :: stn δ i t := rfl
@[simp] theorem non_0 {s : Option Sl} {δ : StD} : non (s :: δ) 0 = none :: δ := rfl
@[simp] theorem non_s {s : Option Sl} {δ : StD} {i : Nat} : non (s :: δ) (i + 1) = s :: non δ i := rfl
theorem dVar_eq {i : Nat} {δ : StD} {N : Ct} {C : DK} {s : Sl} (h : nth δ i = some s) : dVar i δ N C = C s.ali N := by unfold dVar; rw [h]
section
variable {a b c d e f : D} {k : Sl → Prop}
@[simp] theorem ixt1_0 : dIx (.tup [a]) (.v (.int 0)) k = k (.dat a) := rfl
@[simp] theorem ixl1_0 : dIx (.lst [a]) (.v (.int 0)) k = k (.dat a) := rfl
@[simp] theorem ixt2_0 : dIx (.tup [a, b]) (.v (.int 0)) k = k (.dat a) := rfl
@[simp] theorem ixl2_0 : dIx (.lst [a, b]) (.v (.int 0)) k = k (.dat a) := rfl
@[simp] theorem ixt2_1 : dIx (.tup [a, b]) (.v (.int 1)) k = k (.dat b) := rfl
@[simp] theorem ixl2_1 : dIx (.lst [a, b]) (.v (.int 1)) k = k (.dat b) := rfl
@[simp] theorem ixt3_0 : dIx (.tup [a, b, c]) (.v (.int 0)) k = k (.dat a) := rfl
@[simp] theorem ixl3_0 : dIx (.lst [a, b, c]) (.v (.int 0)) k = k (.dat a) := rfl
@[simp] theorem ixt3_1 : dIx (.tup [a, b, c]) (.v (.int 1)) k = k (.dat b) := rfl
@[simp] theorem ixl3_1 : dIx (.lst [a, b, c]) (.v (.int 1)) k = k (.dat b) := rfl
@[simp] theorem ixt3_2 : dIx (.tup [a, b, c]) (.v (.int 2)) k = k (.dat c) := rfl
@[simp] theorem ixl3_2 : dIx (.lst [a, b, c]) (.v (.int 2)) k = k (.dat c) := rfl
@[simp] theorem ixt4_0 : dIx (.tup [a, b, c, d]) (.v (.int 0)) k = k (.dat a) := rfl
@[simp] theorem ixl4_0 : dIx (.lst [a, b, c, d]) (.v (.int 0)) k = k (.dat a) := rfl
@[simp] theorem ixt4_1 : dIx (.tup [a, b, c, d]) (.v (.int 1)) k = k (.dat b) := rfl
@[simp] theorem ixl4_1 : dIx (.lst [a, b, c, d]) (.v (.int 1)) k = k (.dat b) := rfl
@[simp] theorem ixt4_2 : dIx (.tup [a, b, c, d]) (.v (.int 2)) k = k (.dat c) := rfl
@[simp] theorem ixl4_2 : dIx (.lst [a, b, c, d]) (.v (.int 2)) k = k (.dat c) := rfl
@[simp] theorem ixt4_3 : dIx (.tup [a, b, c, d]) (.v (.int 3)) k = k (.dat d) := rfl
@[simp] theorem ixl4_3 : dIx (.lst [a, b, c, d]) (.v (.int 3)) k = k (.dat d) := rfl
@[simp] theorem ixt5_0 : dIx (.tup [a, b, c, d, e]) (.v (.int 0)) k = k (.dat a) := rfl
@[simp] theorem ixl5_0 : dIx (.lst [a, b, c, d, e]) (.v (.int 0)) k = k (.dat a) := rfl
@[simp] theorem ixt5_1 : dIx (.tup [a, b, c, d, e]) (.v (.int 1)) k = k (.dat b) := rfl
@[simp] theorem ixl5_1 : dIx (.lst [a, b, c, d, e]) (.v (.int 1)) k = k (.dat b) := rfl
@[simp] theorem ixt5_2 : dIx (.tup [a, b, c, d, e]) (.v (.int 2)) k = k (.dat c) := rfl
@[simp] theorem ixl5_2 : dIx (.lst [a, b, c, d, e]) (.v (.int 2)) k = k (.dat c) := rfl
@[simp] theorem ixt5_3 : dIx (.tup [a, b, c, d, e]) (.v (.int 3)) k = k (.dat d) := rfl
@[simp] theorem ixl5_3 : dIx (.lst [a, b, c, d, e]) (.v (.int 3)) k = k (.dat d) := rfl
@[simp] theorem ixt5_4 : dIx (.tup [a, b, c, d, e]) (.v (.int 4)) k = k (.dat e) := rfl
@[simp] theorem ixl5_4 : dIx (.lst [a, b, c, d, e]) (.v (.int 4)) k = k (.dat e) := rfl
end
/-- a block, one statement after the other -/
theorem seqR {a b : DS} {E : DEnds} {δ : StD} {N : Ct} (h : ∀ R : StD → Ct → Prop, (∀ δ N, b E δ N → R δ N) → a { E with nx := R } δ N) : dSeq a b E δ N := h (b E) fun _ _ x => x
theorem d_for {di : DI} {dg : DG} {db : DS} {E : DEnds} {δ : StD} {N : Ct} (h : di δ N fun ds N1 => ∃ Inv : Nat → StD → Ct → Prop, Inv 0 δ N1 ∧
  (∀ i d δ2 N2, ds[i]? = some d → Inv i δ2 N2 → dg d δ2 fun δ3 => db { E with nx := Inv (i + 1), ct := Inv (i + 1), bk := E.nx } δ3 N2) ∧
  ∀ δ2 N2, Inv ds.length δ2 N2 → E.nx δ2 N2) : dFor di dg db E δ N := h
/-- a comprehension: which items are taken, what is made of them -/
theorem lc_pure {dg : DG} {dt : DT} {de : DE} {vs : List Nat} {δ : StD} {N : Ct} {C : DK} {ds : List D} (p : D → Bool) (f : D → D) (hz : ds.length ≤ 100000)
    (h : ∀ d, d ∈ ds → ∀ (K : DK) (K' : Ct → Prop), (p d = true → K (.dat (f d)) N) → (p d = false → K' N) → dg d (wipeD δ vs) fun δ2 => dt δ2 N fun b N3 => wif b (de δ2 N3 K) (K' N3))
    (hC : C (.own ((ds.filter p).map f)) N) : ∃ Inv : Nat → List D → Ct → Prop, Inv 0 [] N ∧
  (∀ i d acc N2, ds[i]? = some d → Inv i acc N2 → dg d (wipeD δ vs) fun δ2 => dt δ2 N2 fun b N3 => wif b (de δ2 N3 fun s N4 => chk s.nals (acc.length < 100000 ∧ Inv (i + 1) (acc ++ [s.rd]) N4)) (Inv (i + 1) acc N3)) ∧
  ∀ acc N2, Inv ds.length acc N2 → C (.own acc) N2 := by
  have tk : ∀ i d, ds[i]? = some d → (((ds.take (i + 1)).filter p).map f) = ((ds.take i).filter p).map f ++ (if p d = true then [f d] else []) := fun i d hd => by
    rw [List.take_add_one, hd, List.filter_append, List.map_append]
    congr 1
    show List.map f (List.filter p [d]) = _
    rw [List.filter_cons]
    cases p d <;> simp
  refine ⟨fun i acc M => M = N ∧ acc = ((ds.take i).filter p).map f ∧ i ≤ ds.length, ⟨rfl, by simp, Nat.zero_le _⟩, ?_, ?_⟩
  · rintro i d acc N2 hd ⟨rfl, rfl, hi⟩
    have hlt := (List.getElem?_eq_some_iff.mp hd).1
    refine h d (List.mem_of_getElem? hd) _ _ (fun hp => ⟨?_, rfl, ?_, hlt⟩) (fun hp => ⟨rfl, ?_, hlt⟩)
    · rw [List.length_map]
      have h1 := List.length_filter_le p (ds.take i)
      rw [List.length_take] at h1
      omega
    · rw [tk i d hd, if_pos hp]
      rfl
    · rw [tk i d hd, if_neg (by rw [hp]; decide), List.append_nil]
  · rintro acc N2 ⟨rfl, rfl, _⟩
    rw [List.take_length]
    exact hC
/-! ### built-ins at written kinds -/
section
variable {i j : Int} {b : Bool} {x : Str} {ds es : List D} {k : Sl → Prop} {ns ms : List Int} {d : D}
@[simp] theorem len_tup : dLen [.tup ds] k = k (.dat (.int ds.length)) := rfl
@[simp] theorem len_lst : dLen [.lst ds] k = k (.dat (.int ds.length)) := rfl
@[simp] theorem len_scr : dLen [.scr ns] k = k (.dat (.int ns.length)) := rfl
theorem beq_dec {i j : Int} : (i == j) = decide (i = j) := rfl
@[simp] theorem eq_int : dEq false (.v (.int i)) (.v (.int j)) k = k (.dat (.bl (decide (i = j)))) := rfl
@[simp] theorem ne_int : dEq true (.v (.int i)) (.v (.int j)) k = k (.dat (.bl (!decide (i = j)))) := rfl
theorem oks_ints {n : Nat} : D.oks n (ns.map D.int) = true := by
  induction ns with
  | nil => rfl
  | cons m ns ih => simp only [List.map_cons, D.oks, ih, Bool.and_true]; cases n <;> rfl
theorem ok_tup {n : Nat} : (D.tup (ns.map D.int)).ok (n + 1) = true := by simp only [D.ok, oks_ints]
theorem ok_lst {n : Nat} : (D.lst (ns.map D.int)).ok (n + 1) = true := by simp only [D.ok, oks_ints]
theorem eqbs_ints : D.eqbs (ns.map D.int) (ms.map D.int) = decide (ns = ms) := by
  induction ns generalizing ms with
  | nil => cases ms with
    | nil => simp [D.eqbs]
    | cons m ms => simp [D.eqbs]
  | cons n ns ih => cases ms with
    | nil => simp [D.eqbs]
    | cons m ms =>
      simp only [List.map_cons, D.eqbs, ih, D.eqb, eqV, beq_dec, List.cons.injEq]
      rw [Bool.eq_iff_iff]
      simp
theorem eq_lists {neg : Bool} : dEq neg (.lst (ns.map D.int)) (.lst (ms.map D.int)) k = k (.dat (.bl (ng neg (decide (ns = ms))))) := by
  simp only [dEq, ok_lst, D.eqb, eqbs_ints, Bool.and_self, chk]
theorem eq_tups {neg : Bool} : dEq neg (.tup (ns.map D.int)) (.tup (ms.map D.int)) k = k (.dat (.bl (ng neg (decide (ns = ms))))) := by
  simp only [dEq, ok_tup, D.eqb, eqbs_ints, Bool.and_self, chk]
theorem eq_nil {neg : Bool} : dEq neg (.lst (ns.map D.int)) (.lst []) k = k (.dat (.bl (ng neg (decide (ns = []))))) := eq_lists (ms := [])
end
theorem for_w {di : DI} {dg : DG} {db : DS} {E : DEnds} {δ : StD} {N : Ct} (h : ∀ R : List D → Ct → Prop, (∀ ds N1, (∃ Inv : Nat → StD → Ct → Prop, Inv 0 δ N1 ∧
  (∀ i d δ2 N2, ds[i]? = some d → Inv i δ2 N2 → dg d δ2 fun δ3 => db { E with nx := Inv (i + 1), ct := Inv (i + 1), bk := E.nx } δ3 N2) ∧
  ∀ δ2 N2, Inv ds.length δ2 N2 → E.nx δ2 N2) → R ds N1) → di δ N R) : dFor di dg db E δ N := h _ fun _ _ x => x
theorem lc_w {di : DI} {dg : DG} {dt : DT} {de : DE} {vs : List Nat} {δ : StD} {N : Ct} {C : DK} (h : ∀ R : List D → Ct → Prop, (∀ ds N1, (∃ Inv : Nat → List D → Ct → Prop, Inv 0 [] N1 ∧
  (∀ i d acc N2, ds[i]? = some d → Inv i acc N2 → dg d (wipeD δ vs) fun δ2 => dt δ2 N2 fun b N3 => wif b (de δ2 N3 fun s N4 => chk s.nals (acc.length < 100000 ∧ Inv (i + 1) (acc ++ [s.rd]) N4)) (Inv (i + 1) acc N3)) ∧
  ∀ acc N2, Inv ds.length acc N2 → C (.own acc) N2) → R ds N1) → di δ N R) : dLc di dg dt de vs δ N C := h _ fun _ _ x => x
theorem while_w {p : DT} {db : DS} {E : DEnds} {δ : StD} {N : Ct} (Inv : Nat → StD → Ct → Prop) (m : Nat) (h0 : Inv m δ N)
  (h : ∀ m δ2 N2, Inv m δ2 N2 → p δ2 N2 fun b N3 => wif b (db { E with nx := fun δ3 N4 => ∃ m', m' < m ∧ Inv m' δ3 N4, ct := fun δ3 N4 => ∃ m', m' < m ∧ Inv m' δ3 N4, bk := E.nx } δ2 N3) (E.nx δ2 N3)) : dWhile p db E δ N := ⟨Inv, ⟨m, h0⟩, h⟩
/-- a comprehension over known items: which are taken, what is made of them -/
theorem lc_p {di : DI} {dg : DG} {dt : DT} {de : DE} {vs : List Nat} {δ : StD} {N : Ct} {C : DK} (ds : List D) (p : D → Bool) (f : D → D) (hdi : ∀ R : List D → Ct → Prop, R ds N → di δ N R) (hz : ds.length ≤ 100000)
    (h : ∀ d, d ∈ ds → ∀ (K : DK) (K' : Ct → Prop), (p d = true → K (.dat (f d)) N) → (p d = false → K' N) → dg d (wipeD δ vs) fun δ2 => dt δ2 N fun b N3 => wif b (de δ2 N3 K) (K' N3))
    (hC : C (.own ((ds.filter p).map f)) N) : dLc di dg dt de vs δ N C := hdi _ (lc_pure p f hz h hC)
/-- a for over known items -/
theorem for_i {di : DI} {dg : DG} {db : DS} {E : DEnds} {δ : StD} {N : Ct} (ds : List D) (Inv : Nat → StD → Ct → Prop) (hdi : ∀ R : List D → Ct → Prop, R ds N → di δ N R) (h0 : Inv 0 δ N)
  (hs : ∀ i d δ2 N2, ds[i]? = some d → Inv i δ2 N2 → ∀ R : StD → Ct → Prop, (∀ δ N, Inv (i + 1) δ N → R δ N) → dg d δ2 fun δ3 => db { E with nx := R, ct := R, bk := E.nx } δ3 N2)
  (hd : ∀ δ2 N2, Inv ds.length δ2 N2 → E.nx δ2 N2) : dFor di dg db E δ N := hdi _ ⟨Inv, h0, fun i d δ2 N2 h1 h2 => hs i d δ2 N2 h1 h2 _ fun _ _ h => h, hd⟩
theorem inv_i {dg : DG} {db : DS} {E : DEnds} {δ : StD} {N : Ct} {ds : List D} (Inv : Nat → StD → Ct → Prop) (h0 : Inv 0 δ N)
  (hs : ∀ i d δ2 N2, ds[i]? = some d → Inv i δ2 N2 → ∀ R : StD → Ct → Prop, (∀ δ N, Inv (i + 1) δ N → R δ N) → dg d δ2 fun δ3 => db { E with nx := R, ct := R, bk := E.nx } δ3 N2)
  (hd : ∀ δ2 N2, Inv ds.length δ2 N2 → E.nx δ2 N2) : ∃ Inv : Nat → StD → Ct → Prop, Inv 0 δ N ∧
  (∀ i d δ2 N2, ds[i]? = some d → Inv i δ2 N2 → dg d δ2 fun δ3 => db { E with nx := Inv (i + 1), ct := Inv (i + 1), bk := E.nx } δ3 N2) ∧
  ∀ δ2 N2, Inv ds.length δ2 N2 → E.nx δ2 N2 := ⟨Inv, h0, fun i d δ2 N2 h1 h2 => hs i d δ2 N2 h1 h2 _ fun _ _ h => h, hd⟩
end DL

/-! DLj: list(range(..)), x[::-1]. -/
namespace DL
open PySem PySem.Spec PyProof.Rows L2
variable [TabNames]

/-! ### a range of three parts -/
theorem small_up {a b c : Int} (hc : 0 < c) (hc' : c < 1073741824) (ha : -(2 ^ 61) ≤ a) (ha' : a < 2 ^ 61) (hb : -(2 ^ 61) ≤ b) (hb' : b < 2 ^ 61) : Builtin.Range.small a b c = true := by
  unfold Builtin.Range.small Builtin.Range.rangeSize
  rw [if_pos hc]
  have hd : a < b → 0 ≤ (b - a - 1) / c ∧ (b - a - 1) / c ≤ b - a - 1 := fun h => ⟨Int.ediv_nonneg (by omega) (by omega), Int.ediv_le_self _ (by omega)⟩
  simp only [Builtin.Range.rangeFitsLong, Bool.and_eq_true, Bool.or_eq_true, decide_eq_true_eq, beq_iff_eq, show c > 0 from hc, if_true]
  split
  · have := hd (by assumption)
    omega
  · omega
/-- how many -/
def upN (a b c : Int) : Nat := (if a < b then (b - a - 1) / c + 1 else 0).toNat
theorem size_up {a b c : Int} (hc : 0 < c) : Builtin.Range.rangeSize a b c = (upN a b c : Nat) := by
  rw [PyProof.Rows.rangeSize_toNat]
  unfold upN Builtin.Range.rangeSize
  rw [if_pos hc]
theorem upN_le {a b c : Int} (hc : 0 < c) : upN a b c ≤ (b - a).toNat := by
  unfold upN
  split
  · have := Int.ediv_le_self c (show (0 : Int) ≤ b - a - 1 by omega)
    omega
  · omega
def stV (a c : Int) (n : Nat) : List V := (List.range n).map fun i : Nat => V.int (a + (i : Int) * c)
def stepD (a c : Int) (n : Nat) : List D := (List.range n).map fun i : Nat => D.int (a + (i : Int) * c)
theorem stV_length {a c : Int} {n : Nat} : (stV a c n).length = n := by unfold stV; rw [List.length_map, List.length_range]
theorem stepD_len {a c : Int} {n : Nat} : (stepD a c n).length = n := by unfold stepD; rw [List.length_map, List.length_range]
theorem vals_st {a c : Int} {n : Nat} {acc : Array Value} (h : ItemsOf (fun i v => ∃ t, v = .int (a + i * c) t) acc n) : Vals (stV a c n) acc.toList := by
  have e : acc.toList.length = n := by rw [Array.length_toList]; exact h.1
  unfold stV
  rw [← e]
  refine vals_of_get acc.toList _ fun j u hj => ?_
  obtain ⟨t, rfl⟩ := h.2 j u (by rw [← hj, Array.getElem?_toList])
  exact ⟨t, rfl⟩
section
variable {X : Cx} {G : Gg} {a b c e : Expr} {ta : TA} {da : DA} {te : TE} {de : DE} {p p2 pos pos2 : Pos}
def tLR3 (ta : TA) : TE := fun σ H Q => ta σ H fun vs H1 => ∃ i j c : Int, vs = [.int i, .int j, .int c] ∧ (0 < c ∧ c < 1073741824 ∧ -(2 ^ 61) ≤ i ∧ i < 2 ^ 61 ∧ -(2 ^ 61) ≤ j ∧ j < 2 ^ 61 ∧ (j - i).toNat ≤ 2 ^ 24) ∧
  ∀ q, H1 q = none → Q (.ref q) (upd H1 q (.lst (stV i c (upN i j c))))
theorem pe_LR3 (hc : X.calm = true) (hg : Gl X "list") (hm : X.mg "list" = none) (hg2 : Gl X "range") (hm2 : X.mg "range" = none) (ha : PA X [a, b, c] ta)
    (hs : starEach [a, b, c] X.env = (false, eval a X.env) :: starEach [b, c] X.env := by rfl) (hpl : (backTo pos2 (starEach [b, c] X.env)).any (·.1) = false := by rfl)
    (na : starEach [.Call (.Name "range" p2) [a, b, c] [] pos2] X.env = (false, eval (.Call (.Name "range" p2) [a, b, c] [] pos2) X.env) :: starEach [] X.env := by rfl) :
    PE X (.Call (.Name "list" p) [.Call (.Name "range" p2) [a, b, c] [] pos2] [] pos) (tLR3 ta) := by
  refine ⟨fun pins s σ H Q I h => ?_⟩
  refine Call_ (ld_blt I hg hm boot_list (PyProof.Rows.callWith_type1 (args_cons (Call_ (ld_blt I hg2 hm2 boot_range (PyProof.Rows.callWith_type1 (thn (ha.run pos2 pins s σ H _ I h) fun us s1 ⟨vs, H1, I1, r1, q1⟩ => ?_) hs hpl))) na) na))
  obtain ⟨i, j, k, e, ⟨c0, c1, b1, b2, b3, b4, b5⟩, q⟩ := q1
  subst e
  cases r1 with
  | cons r rr =>
    cases rr with
    | cons r' rr =>
      cases rr with
      | cons r'' rr =>
        cases rr
        obtain ⟨t, rfl⟩ := r
        obtain ⟨t', rfl⟩ := r'
        obtain ⟨t'', rfl⟩ := r''
        refine call_range_3 (by omega) ?_ (.inl (PyProof.noPylong_small (by omega)))
        have I2 : Inv X pins σ H1 { s1 with heap := s1.heap.push { cls := .type "range", data := .fields #[.int i t, .int j t', .int k t''] } } := I1.kept (t' := s1.toks) fun b o e => Heap.get?_push_of_some _ e
        refine args_nil ?_
        refine call_list_range (n := upN i j k) (I2.ok.hd hc) (IsRange.new ..) (small_up c0 c1 b1 b2 b3 b4) (size_up c0) (Nat.le_trans (upN_le c0) b5) fun h' tk acc c' hk e' hi => ?_
        refine ⟨.ref _, upd H1 _ (.lst (stV i k (upN i j k))), I2.laid hk (Nat.le_refl _) (show ObjOk X.prog X.w _ _ _ (.lst (stV i k (upN i j k))) from ⟨?_, acc.toList, c', vals_st hi, ?_⟩), rfl, q _ (I2.hok.fresh (Nat.le_refl _))⟩
        · have := upN_le (a := i) (b := j) c0
          rw [stV_length, sizeLine_eq]; omega
        · rw [Array.toArray_toList]; exact e'
/-- list(range(i)), list(range(i, j)), list(range(i, j, c)) -/
@[simp] def dLR1 (da : DE) : DE := fun δ N C => da δ N fun s N1 => match s with
  | .dat (.v (.int j)) => (-(2 ^ 24) ≤ j ∧ j ≤ 2 ^ 24) ∧ C (.own (rngD 0 j.toNat)) N1
  | _ => False
@[simp] def dLR2 (da : DA) : DE := fun δ N C => da δ N fun ss N1 => match ss with
  | [.dat (.v (.int i)), .dat (.v (.int j))] => (-(2 ^ 24) ≤ i ∧ i ≤ 2 ^ 24 ∧ -(2 ^ 24) ≤ j ∧ j ≤ 2 ^ 24 ∧ (j - i).toNat ≤ 2 ^ 24) ∧ C (.own (rngD i (j - i).toNat)) N1
  | _ => False
@[simp] def dLR3 (da : DA) : DE := fun δ N C => da δ N fun ss N1 => match ss with
  | [.dat (.v (.int i)), .dat (.v (.int j)), .dat (.v (.int c))] => (0 < c ∧ c < 1073741824 ∧ -(2 ^ 61) ≤ i ∧ i < 2 ^ 61 ∧ -(2 ^ 61) ≤ j ∧ j < 2 ^ 61 ∧ (j - i).toNat ≤ 2 ^ 24) ∧ C (.own (stepD i c (upN i j c))) N1
  | _ => False
theorem dt_ints {K : PySem.W.Frag} {N : Ct} {H : Hp} {Z : Addr → Prop} (f : Nat → Int) (l : List Nat) : DtAll K N H Z (l.map fun i => V.int (f i)) (l.map fun i => D.int (f i)) := by
  have e1 : (l.map fun i => V.int (f i)) = (l.map f).map V.int := by rw [List.map_map]; rfl
  have e2 : (l.map fun i => D.int (f i)) = (l.map f).map D.int := by rw [List.map_map]; rfl
  rw [e1, e2]
  exact .ofInts _
theorem snd_LR1 (h : Snd G te de) : Snd G (tLstRg (tRg1 te)) (dLR1 de) := by
  refine ⟨fun B Z δ σ H N C Q hB S hd q => ?_⟩
  refine h.run B Z δ σ H N _ _ hB S hd fun s x H1 k1 e1 r1 h1 => ?_
  split at h1
  · rename_i j
    have hx : Dt B.K (N + k1) H1 Z x (.v (.int j)) := r1
    cases hx
    refine ⟨j, rfl, ⟨by omega, by omega, by omega, by omega, by omega⟩, fun p hp => ?_⟩
    have ep := ExK.new (o := .lst (rgV 0 j)) hp
    refine q (.own (rngD 0 j.toNat)) _ _ k1 (e1.trans ep) ⟨p, _, rfl, e1.back hp, upd_same, ?_⟩ h1.2
    have e : rgV 0 j = (List.range j.toNat).map fun i : Nat => V.int (0 + (i : Int)) := by
      unfold rgV
      rw [show (j - 0) = j by omega]
    rw [e]
    exact dt_ints (fun i => 0 + (i : Int)) _
  · exact h1.elim
theorem snd_LR2 {b : Expr} {tb : TE} {db : DE} (h : Snd G te de) (h2 : Snd G tb db) : Snd G (tLstRg (tRg2 te tb)) (dLR2 (dCons de (dCons db dNil))) := by
  refine ⟨fun B Z δ σ H N C Q hB S hd q => ?_⟩
  refine h.run B Z δ σ H N _ _ hB S hd fun s x H1 k1 e1 r1 h1 => ?_
  refine h2.run B Z δ σ H1 (N + k1) _ _ hB (S.ext e1) h1 fun u y H2 k2 e2 r2 h3 => ?_
  dsimp only [dNil] at h3
  split at h3
  · rename_i i j eq
    simp only [List.cons.injEq, and_true] at eq
    obtain ⟨rfl, rfl⟩ := eq
    have hx : Dt B.K (N + k1) H1 Z x (.v (.int i)) := r1
    have hy : Dt B.K (N + k1 + k2) H2 Z y (.v (.int j)) := r2
    cases hx
    cases hy
    refine ⟨i, j, rfl, rfl, ⟨by omega, by omega, by omega, by omega, h3.1.2.2.2.2⟩, fun p hp => ?_⟩
    have ep := ExK.new (o := .lst (rgV i j)) hp
    have e8 : N + k1 + k2 = N + (k1 + k2) := by simp only [Ct.assoc]
    have h9 := h3.2
    rw [e8] at h9
    exact q (.own (rngD i (j - i).toNat)) _ _ (k1 + k2) ((e1.trans e2).trans ep) ⟨p, _, rfl, e1.back (e2.back hp), upd_same, dt_ints (fun k => i + (k : Int)) _⟩ h9
  · exact h3.elim
theorem snd_LR3 (h : SndA G ta da) : Snd G (tLR3 ta) (dLR3 da) := by
  refine ⟨fun B Z δ σ H N C Q hB S hd q => ?_⟩
  refine h.run B Z δ σ H N _ _ hB S hd fun ss vs H1 k1 e1 r1 h1 => ?_
  split at h1
  · rename_i i j c
    cases r1 with
    | cons r rr =>
      cases rr with
      | cons r' rr =>
        cases rr with
        | cons r'' rr =>
          cases rr
          have hx : Dt B.K (N + k1) H1 Z _ (.v (.int i)) := r
          have hy : Dt B.K (N + k1) H1 Z _ (.v (.int j)) := r'
          have hz : Dt B.K (N + k1) H1 Z _ (.v (.int c)) := r''
          cases hx
          cases hy
          cases hz
          refine ⟨i, j, c, rfl, h1.1, fun p hp => ?_⟩
          have ep := ExK.new (o := .lst (stV i c (upN i j c))) hp
          exact q (.own (stepD i c (upN i j c))) _ _ k1 (e1.trans ep) ⟨p, _, rfl, e1.back hp, upd_same, dt_ints (fun k => i + (k : Int) * c) _⟩ h1.2
  · exact h1.elim
theorem x_LR1 (hc : X.calm = true) (hg : Gl X "list") (hm : X.mg "list" = none) (hg2 : Gl X "range") (hm2 : X.mg "range" = none) (ha : XE X G a te de)
    (na2 : starEach [a] X.env = (false, eval a X.env) :: starEach [] X.env := by rfl)
    (na : starEach [.Call (.Name "range" p2) [a] [] pos2] X.env = (false, eval (.Call (.Name "range" p2) [a] [] pos2) X.env) :: starEach [] X.env := by rfl) :
    XE X G (.Call (.Name "list" p) [.Call (.Name "range" p2) [a] [] pos2] [] pos) (tLstRg (tRg1 te)) (dLR1 de) := ⟨pe_listRg hc hg hm (prg_1 hg2 hm2 ha.pe na2) na, snd_LR1 ha.sn⟩
theorem x_LR2 {tb : TE} {db : DE} (hc : X.calm = true) (hg : Gl X "list") (hm : X.mg "list" = none) (hg2 : Gl X "range") (hm2 : X.mg "range" = none) (ha : XE X G a te de) (hb : XE X G b tb db)
    (na2 : starEach [a, b] X.env = (false, eval a X.env) :: starEach [b] X.env := by rfl) (nb : starEach [b] X.env = (false, eval b X.env) :: starEach [] X.env := by rfl) (hp : (backTo pos2 (starEach [b] X.env)).any (·.1) = false := by rfl)
    (na : starEach [.Call (.Name "range" p2) [a, b] [] pos2] X.env = (false, eval (.Call (.Name "range" p2) [a, b] [] pos2) X.env) :: starEach [] X.env := by rfl) :
    XE X G (.Call (.Name "list" p) [.Call (.Name "range" p2) [a, b] [] pos2] [] pos) (tLstRg (tRg2 te tb)) (dLR2 (dCons de (dCons db dNil))) := ⟨pe_listRg hc hg hm (prg_2 hg2 hm2 ha.pe hb.pe na2 nb hp) na, snd_LR2 (b := b) ha.sn hb.sn⟩
theorem x_LR3 (hc : X.calm = true) (hg : Gl X "list") (hm : X.mg "list" = none) (hg2 : Gl X "range") (hm2 : X.mg "range" = none) (ha : XA X G [a, b, c] ta da)
    (hs : starEach [a, b, c] X.env = (false, eval a X.env) :: starEach [b, c] X.env := by rfl) (hpl : (backTo pos2 (starEach [b, c] X.env)).any (·.1) = false := by rfl)
    (na : starEach [.Call (.Name "range" p2) [a, b, c] [] pos2] X.env = (false, eval (.Call (.Name "range" p2) [a, b, c] [] pos2) X.env) :: starEach [] X.env := by rfl) :
    XE X G (.Call (.Name "list" p) [.Call (.Name "range" p2) [a, b, c] [] pos2] [] pos) (tLR3 ta) (dLR3 da) := ⟨pe_LR3 hc hg hm hg2 hm2 ha.pe hs hpl na, snd_LR3 ha.sn⟩
end
/-! ### x[::-1] of a list -/
section
variable {X : Cx} {G : Gg} {e : Expr} {te : TE} {de : DE} {k : Nat} {p1 p2 p3 pos : Pos}
@[simp] def dRevL (de : DE) : DE := fun δ N C => de δ N fun s N1 => match s.rd with
  | .lst ds => C (.own ds.reverse) N1
  | _ => False
theorem DtAll.get2 {K : PySem.W.Frag} {N : Ct} {H : Hp} {Z : Addr → Prop} : ∀ {xs ys : List V} {ds es : List D}, DtAll K N H Z xs ds → DtAll K N H Z ys es → DtAll K N H Z (xs ++ ys) (ds ++ es)
  | _, _, _, _, .nil, h => h
  | _, _, _, _, .cons a r, h => .cons a (DtAll.get2 r h)
theorem DtAll.rev {K : PySem.W.Frag} {N : Ct} {H : Hp} {Z : Addr → Prop} : ∀ {xs : List V} {ds : List D}, DtAll K N H Z xs ds → DtAll K N H Z xs.reverse ds.reverse
  | _, _, .nil => .nil
  | _, _, .cons a r => by
    rw [List.reverse_cons, List.reverse_cons]
    exact DtAll.get2 (DtAll.rev r) (.cons a .nil)
theorem x_revL (h : XE X G e te de) (hK : G.K = X.K := by rfl) : XE X G (.Subscript e (.Slice none none (some (.UnaryOp .USub (.Constant (.int 1) k p1) p2)) p3) pos) (tRevL G.K te) (dRevL de) := by
  refine ⟨by rw [hK]; exact pe_revL h.pe, ⟨fun B Z δ σ H N C Q hB S hd q => ?_⟩⟩
  refine h.sn.run B Z δ σ H N _ _ hB S hd fun s x H1 k1 e1 r1 h1 => ?_
  have w := (r1.tp S.ztt).dw
  split at h1
  · rename_i ds eq
    rw [eq] at w
    obtain ⟨a, xs, rfl, ha, r⟩ := w
    refine ⟨a, xs, rfl, .of ha, fun p hp => ?_⟩
    have ep := ExK.new (o := .lst xs.reverse) hp
    exact q (.own ds.reverse) _ _ _ (e1.trans ep) ⟨p, _, rfl, e1.back hp, upd_same, (DtAll.rev r).new hp⟩ h1
  · exact h1.elim
end
/-! ### a, b = [], 0 : a list of the def's own -/
@[simp] def dParK (i j : Nat) (da db : DE) : DS := fun E δ N => da δ N fun s N1 => match s with
  | .own ds => db δ N1 fun u N2 => match u with
    | .dat (.v x) => E.nx (stn (stn δ i (.own ds)) j (.dat (.v x))) N2
    | _ => False
  | _ => False
section
variable {X : Cx} {G : Gg} {a b : Expr} {te tb : TE} {de db : DE}
theorem snd_parK {i j : Nat} (h : Snd G te de) (h2 : Snd G tb db) : SndS G (tPar i j (tCons te (tCons tb tNil))) (dParK i j de db) := by
  refine ⟨fun B Z τ E D δ σ H N hB ok S T hd => ?_⟩
  refine h.run B Z δ σ H N _ _ hB S hd fun s v H1 k1 e1 r1 h1 => ?_
  split at h1
  · rename_i ds
    refine h2.run B Z δ σ H1 (N + k1) _ _ hB (S.ext e1) h1 fun u w H2 k2 e2 r2 h3 => ?_
    split at h3
    · rename_i x
      refine ⟨v, w, rfl, ?_⟩
      obtain ⟨p, xs, rfl, h0, hp, r⟩ := r1
      have e8 : N + k1 + k2 = N + (k1 + k2) := by simp only [Ct.assoc]
      have r' := r.ex e2
      rw [e8] at r' h3 r2
      have S2 := S.own (e1.trans e2) (i := i) h0 (e2.lst hp) r'
      have hw : Dt B.K (N + (k1 + k2)) H2 (Zp Z p) w (.v x) := Dt.lfz r2 rfl
      exact ok.nx _ _ _ H2 _ (S2.set hw) (T.gro (.new (e1.trans e2) h0)) h3
    · exact h3.elim
  · exact h1.elim
theorem xs_parK {i j : Nat} {x y : Str} {px py pt pos : Pos} {kt k2 pt2} (hc : X.calm = true) (hN : X.N.Nodup) (hi : X.N[i]? = some x) (hj : X.N[j]? = some y) (hij : i ≠ j)
    (hx : X.env.scope.names.lookup x = some .local) (hy : X.env.scope.names.lookup y = some .local) (ha : XE X G a te de) (hb : XE X G b tb db)
    (hw : swappedStores [.Tuple [.Name x px, .Name y py] kt pt] (.Tuple [a, b] k2 pt2) X.env = pure (some [x, y]) := by rfl)
    (hs : swapsWithSole [.Tuple [.Name x px, .Name y py] kt pt] (.Tuple [a, b] k2 pt2) pos.line X.env = pure false := by rfl)
    (s1 : starEach [a, b] X.env = (false, eval a X.env) :: starEach [b] X.env := by rfl) (s2 : starEach [b] X.env = (false, eval b X.env) :: starEach [] X.env := by rfl) :
    XS X G (.Assign [.Tuple [.Name x px, .Name y py] kt pt] (.Tuple [a, b] k2 pt2) pos) (tPar i j (tCons te (tCons tb tNil))) (dParK i j de db) := ⟨ps_par hc hN hi hj hij hx hy (pa_cons ha.pe (pa_cons hb.pe pa_nil s2) s1) hw hs, snd_parK ha.sn hb.sn⟩
end
/-! ### sorted of a tuple of ints -/
section
open SrtO Srt
variable {prog : Program} {w : World} {A : Around} {E : Value → Shared → Prop} {s : Shared}
theorem call_sortedT {t : Addr} {vs : List Value} {ns : List Int} {Q : Value → Shared → Prop} (ht : IsTup s.heap t vs.toArray) (hi : IntsAre vs ns) (hz : vs.length ≤ sizeLine)
    (h : ∀ (hm h' : Heap) (a : Addr) (n : Nat) (out : List Value), (∀ b o, s.heap.get? b = some o → hm.get? b = some o) → (∀ b o, hm.get? b = some o → h'.get? b = some o) → hm.objs.size ≤ a → h'.get? a = some (seqObj "list" out.toArray n) → Srtd ltIv out → Stb ltIv out vs → Q (.ref a) { s with heap := h' }) :
    wpAny (model prog w) A (call (.builtin "sorted") [.ref t]) Q E s := by
  obtain ⟨o, ho, hc, n, hd⟩ := ht
  apply Calls.call_function_entry kind_sorted plain_sorted entry_sorted (args_sorted1 _)
  unfold Builtin.«sorted»
  apply wpAny_bind (m := checkCount "sorted" 1 1 _)
  apply wpAny_pure
  apply wpAny_bind
  refine wpAny_collect_seq (T := "tuple") t (.inr rfl) ho hc hd (fun h' hk => ?_) (by rw [List.size_toArray]; exact hz)
  apply wpAny_bind
  refine wpAny_newList (items := vs) ?_ hz
  have hL : (h'.push (seqObj "list" vs.toArray 0)).get? h'.objs.size = some (seqObj "list" vs.toArray 0) := Heap.get?_push_size h' rfl
  show wpAny _ _ _ _ _ { s with heap := h'.push (seqObj "list" vs.toArray 0) }
  apply wpAny_bind
  refine wpAny_holding (wpAny_call_entry slot_list_sort ⟨_, hL, rfl⟩ entry_list_sort ?_ (args_list_sort _))
  refine list_sort_ord swo_int hL hz (fun h2 => ints_sortable hi h2) fun out h1 h2 => ⟨_, rfl, ?_⟩
  refine wpAny_pure ⟨_, rfl, ?_⟩
  obtain ⟨e, he⟩ := sortedHeap_at (vs := vs) (out := out.toArray) hL
  refine h h' _ _ e out hk (fun b o' hb => ?_) (Nat.le_refl _) he h1 h2
  have hlt := Heap.lt_size hb
  show (sortedHeap _ _ _ _).get? b = _
  rw [sortedHeap_old (Nat.ne_of_lt hlt) (by rw [size_push']; exact Nat.lt_succ_of_lt hlt)]
  exact Heap.get?_push_of_some _ hb
end
section
variable {X : Cx}
def rSortT (K : PySem.W.Frag) : List V → Hp → VK → Prop := fun vs H Q => ∃ (a : Addr) (ns : List Int), vs = [V.ref a] ∧ SqT K H a (ns.map V.int) ∧
  ∀ (ms : List Int) (p : Addr), ms.Perm ns → ms.Pairwise (· ≤ ·) → H p = none → Q (.ref p) (upd H p (.lst (ms.map V.int)))
theorem cr_sortT : CallR X (.builtin "sorted") (rSortT X.K) := by
  intro pins s σ H vs us Q I r h
  obtain ⟨a, ns, rfl, hs, q⟩ := h
  obtain ⟨its, rv, ht, hz⟩ := I.tuple hs
  rw [Vals.ref1 r]
  have hi := rv.ints
  refine call_sortedT ht hi (by rw [← rv.length]; exact hz) fun hm h' p n out hk0 hk hp hl h1 h2 => ?_
  obtain ⟨k1, k2, k3⟩ := SrtO.ints_out hi h1 h2
  have hlen : ((out.map SrtO.iv).map V.int).length ≤ sizeLine := by
    rw [List.length_map, k2.length_eq]
    rw [List.length_map] at hz
    exact hz
  have I2 : Inv X pins σ H { s with heap := hm } := I.kept (t' := s.toks) hk0
  exact ⟨.ref p, upd H p (.lst ((out.map SrtO.iv).map V.int)), I2.laid (t' := s.toks) hk hp ⟨hlen, out, n, vals_of_ints k1, hl⟩, rfl, q _ _ k2 k3 (I2.hok.fresh hp)⟩
/-- ints in rising order -/
def insI (x : Int) : List Int → List Int
  | [] => [x]
  | y :: r => if x ≤ y then x :: y :: r else y :: insI x r
def srt : List Int → List Int
  | [] => []
  | x :: r => insI x (srt r)
theorem insI_perm (x : Int) : ∀ l, (insI x l).Perm (x :: l)
  | [] => .refl _
  | y :: r => by
    unfold insI
    split
    · exact .refl _
    · exact ((insI_perm x r).cons y).trans (.swap x y r)
theorem srt_perm : ∀ l, (srt l).Perm l
  | [] => .refl _
  | x :: r => (insI_perm x (srt r)).trans ((srt_perm r).cons x)
theorem insI_asc (x : Int) : ∀ {l : List Int}, l.Pairwise (· ≤ ·) → (insI x l).Pairwise (· ≤ ·)
  | [], _ => List.pairwise_singleton _ _
  | y :: r, h => by
    unfold insI
    have h' := List.pairwise_cons.mp h
    split
    · rename_i hxy
      refine List.pairwise_cons.mpr ⟨fun z hz => ?_, h⟩
      rcases List.mem_cons.mp hz with rfl | hz
      · exact hxy
      · exact Int.le_trans hxy (h'.1 z hz)
    · rename_i hxy
      refine List.pairwise_cons.mpr ⟨fun z hz => ?_, insI_asc x h'.2⟩
      rcases List.mem_cons.mp ((insI_perm x r).mem_iff.mp hz) with rfl | hz
      · omega
      · exact h'.1 z hz
theorem srt_asc : ∀ l, (srt l).Pairwise (· ≤ ·)
  | [] => .nil
  | x :: r => insI_asc x (srt_asc r)
theorem asc_uniq : ∀ {l m : List Int}, l.Pairwise (· ≤ ·) → m.Pairwise (· ≤ ·) → l.Perm m → l = m
  | [], m, _, _, p => (List.nil_perm.mp p).symm
  | x :: l, [], _, _, p => absurd p.length_eq (by simp)
  | x :: l, y :: m, h1, h2, p => by
    have a1 := List.pairwise_cons.mp h1
    have a2 := List.pairwise_cons.mp h2
    have e : x = y := by
      have m1 : x ∈ y :: m := p.mem_iff.mp List.mem_cons_self
      have m2 : y ∈ x :: l := p.mem_iff.mpr List.mem_cons_self
      rcases List.mem_cons.mp m1 with e | m1
      · exact e
      · rcases List.mem_cons.mp m2 with e | m2
        · exact e.symm
        · have := a1.1 y m2
          have := a2.1 x m1
          omega
    subst e
    rw [asc_uniq a1.2 a2.2 (List.perm_cons x |>.mp p)]
theorem srt_uniq {l m : List Int} (p : m.Perm l) (h : m.Pairwise (· ≤ ·)) : m = srt l := asc_uniq h (srt_asc l) (p.trans (srt_perm l).symm)
/-- sorted of a list or tuple of ints -/
def dSort : DC := fun ds k => match ds with
  | [d] => ∃ ns : List Int, d.items = some (ns.map D.int) ∧ k (.own ((srt ns).map D.int))
  | _ => False
def rSort (K : PySem.W.Frag) : List V → Hp → VK → Prop := fun vs H Q => rSortedI K vs H Q ∨ rSortT K vs H Q
theorem c_sort {K : PySem.W.Frag} (hK : X.K = K := by rfl) : XC X (.builtin "sorted") (rSort K) dSort := by
  subst hK
  refine ⟨fun pins s σ H vs us Q I r h => h.elim (cr_sortedI pins s σ H vs us Q I r) (cr_sortT pins s σ H vs us Q I r), ⟨fun B Z N H xs ds C Q hK hz hr hd q => ?_⟩⟩
  unfold dSort at hd
  split at hd
  · rename_i d
    obtain ⟨x, rfl, h⟩ := pair1 hr
    obtain ⟨ns, hi, hk⟩ := hd
    have fin : ∀ (ms : List Int) (p : Addr), ms.Perm ns → ms.Pairwise (· ≤ ·) → H p = none → Q (.ref p) (upd H p (.lst (ms.map V.int))) := fun ms p h1 h2 hp => by
      rw [srt_uniq h1 h2]
      have ep := ExK.new (o := .lst ((srt ns).map V.int)) hp
      exact q (.own ((srt ns).map D.int)) _ _ ep ⟨p, _, rfl, hp, upd_same, .ofInts _⟩ hk
    cases d with
    | tup es =>
      cases hi
      obtain ⟨a, ys, rfl, ha, r⟩ := h.tup_inv
      have e := r.ints
      subst e
      exact .inr ⟨a, ns, rfl, .of ha, fin⟩
    | lst es =>
      cases hi
      obtain ⟨a, ys, rfl, ha, r⟩ := h
      have e := r.ints
      subst e
      exact .inl ⟨a, ns, rfl, .of ha, fin⟩
    | v x => cases hi
    | scr ns => cases hi
    | bag => cases hi
    | fix P => cases hi
  · exact hd.elim
end
/-! ### a, b, .. = [], 0, .. : the first is a list of the def's own, the others are leaves -/
@[simp] def dTupO (i n : Nat) (de : DE) (da : DA) (dg : DGs) : DS := fun E δ N => de δ N fun s N1 => match s with
  | .own ds => da δ N1 fun ss N2 => chk (nalsA ss && D.lfs (ss.map Sl.rd) && lenIs ss n) (dg (ss.map Sl.rd) (stn δ i (.own ds)) fun δ' => E.nx δ' N2)
  | _ => False
section
variable {X : Cx} {G : Gg} {te : TE} {de : DE} {ta : TA} {da : DA} {t : TGs} {dg : DGs} {js : List Nat}
theorem snd_tupO {K : PySem.W.Frag} {i n : Nat} (hK : G.K = K) (h : Snd G te de) (ha : SndA G ta da) (hg : SndGs K t dg js) (hn : n ≤ 30) : SndS G (tAsg (tTup (tCons te ta)) (gTup K (n + 1) (gCons (gName i) t))) (dTupO i n de da dg) := by
  refine ⟨fun B Z τ E D δ σ H N hB ok S T hd => ?_⟩
  refine h.run B Z δ σ H N _ _ hB S hd fun s v H1 k1 e1 r1 h1 => ?_
  split at h1
  · rename_i ds
    refine ha.run B Z δ σ H1 (N + k1) _ _ hB (S.ext e1) h1 fun ss vs H2 k2 e2 r2 h3 => ?_
    obtain ⟨h4, h5⟩ := chk_iff.mp h3
    obtain ⟨h4, h6⟩ := Bool.and_eq_true_iff.mp h4
    obtain ⟨h4, h7⟩ := Bool.and_eq_true_iff.mp h4
    have r := pair_all r2 h4
    have hl : vs.length = n := by rw [paired_length r2]; exact lenIs_len h6
    refine ⟨size_of (by rw [List.length_cons, hl]; omega), fun q hq => ?_⟩
    refine ⟨q, v :: vs, rfl, .of upd_same, by rw [List.length_cons, hl], v, vs, rfl, ?_⟩
    obtain ⟨p, xs, rfl, h0, hp, rr⟩ := r1
    have ep := ExK.new (o := .tup (.ref p :: vs)) hq
    have e8 : N + k1 + k2 = N + (k1 + k2) := by simp only [Ct.assoc]
    have r' := (rr.ex e2).ex0 ep
    rw [e8] at r' h5
    have S2 := S.own ((e1.trans e2).trans ep) (i := i) h0 (ep.lst (e2.lst hp)) r'
    have rl := (r.ex0 ep).lfz (Z' := Zp Z p) h7
    rw [e8] at rl
    refine hg.run B (Zp Z p) _ _ _ _ _ vs _ _ (by rw [← hK, ← hB]) S2 rl h5 fun δ' σ' S3 _ h9 => ?_
    exact ok.nx _ δ' σ' _ _ S3 (T.gro (.new ((e1.trans e2).trans ep) h0)) h9
  · exact h1.elim
theorem xs_tupO {i n : Nat} {x : Str} {e : Expr} {es tgs : List Expr} {px p1 p2 pos : Pos} {k1 k2} (hc : X.calm = true) (hN : X.N.Nodup) (hi : X.N[i]? = some x) (hx : Loc X.env.scope x) (h : XE X G e te de) (ha : XA X G es ta da) (hg : XGs X tgs t dg js)
    (hK : G.K = X.K := by rfl) (hn : n ≤ 30 := by decide) (hf : X.fn x = true ∨ X.env.scope.names.lookup x = some .local := by first | exact .inl rfl | exact .inr rfl)
    (s1 : starEach (e :: es) X.env = (false, eval e X.env) :: starEach es X.env := by rfl) (a1 : (assignEach (.Name x px :: tgs) X.env).map (·.2) = assign (.Name x px) X.env :: (assignEach tgs X.env).map (·.2) := by rfl)
    (a2 : (assignEach (.Name x px :: tgs) X.env).length = n + 1 := by rfl) (a3 : (assignEach (.Name x px :: tgs) X.env).findIdx? (·.1) = none := by rfl)
    (hs : swapsWithSole [.Tuple (.Name x px :: tgs) k1 p1] (.Tuple (e :: es) k2 p2) pos.line X.env = pure false := by rfl) (hw : swappedStores [.Tuple (.Name x px :: tgs) k1 p1] (.Tuple (e :: es) k2 p2) X.env = pure none := by rfl)
    (h1 : (assignEach [.Tuple (.Name x px :: tgs) k1 p1] X.env).map (·.2) = [assign (.Tuple (.Name x px :: tgs) k1 p1) X.env] := by rfl) :
    XS X G (.Assign [.Tuple (.Name x px :: tgs) k1 p1] (.Tuple (e :: es) k2 p2) pos) (tAsg (tTup (tCons te ta)) (gTup X.K (n + 1) (gCons (gName i) t))) (dTupO i n de da dg) :=
  ⟨ps_asg (pe_tup (pa_cons h.pe ha.pe s1)) (pg_tup hc (pgs_cons (pg_name hN hi hx hf) hg.pe a1) a2 a3) hs hw h1, snd_tupO hK h.sn ha.sn hg.sn hn⟩
end
end DL

/-! DLk: a list unpacked into names. -/
namespace DL
open PySem PySem.Spec PyProof.Rows L2
variable [TabNames]
@[simp] def dgLst (n : Nat) (g : DGs) : DG := fun d δ P => match d with
  | .lst ds => chk (lenIs ds n) (g ds δ P)
  | _ => False
theorem xg_lstK {X : Cx} {pos : Pos} {es : List Expr} {k : Nat} {t : TGs} {dgs : DGs} {js : List Nat} {n : Nat} {K : PySem.W.Frag} (hc : X.calm = true) (h : XGs X es t dgs js) (hK : X.K = K := by rfl)
    (hn : (assignEach es X.env).length = n := by rfl) (hst : (assignEach es X.env).findIdx? (·.1) = none := by rfl) : XG X (.Tuple es k pos) (gLst K n t) (dgLst n dgs) js := by
  subst hK
  refine ⟨pg_lst hc h.pe hn hst, ⟨fun B Z δ σ H N d x P Q hK S hx hd q => ?_⟩⟩
  unfold dgLst at hd
  split at hd
  · rename_i ds
    cases hx with
    | lst ha hz r =>
      rw [chk_iff] at hd
      exact ⟨_, _, rfl, .of ha, by rw [r.length]; exact lenIs_len hd.1, h.sn.run B Z δ σ H N ds _ P Q hK S r hd.2 q⟩
  · exact hd.elim
end DL

/-! DLm: list.index; sorted(set(..)) of ints. -/
namespace DL
open PySem PySem.Spec PyProof.Rows L2
variable [TabNames]

/-! ### the first place of an int in a list -/
@[simp] def dIdx (da de : DE) : DE := fun δ N C => da δ N fun s N1 => match s.rd with
  | .lst ds => de δ N1 fun u N2 => match u.rd with
    | .v (.int i) => ∃ (ns : List Int) (j : Nat), ds = ns.map D.int ∧ (ns[j]? = some i ∧ ∀ m, m < j → ns[m]? ≠ some i) ∧ C (.dat (.int (j : Int))) N2
    | _ => False
  | _ => False
def tIdx (K : PySem.W.Frag) (ta te : TE) : TE := tBM K "list" (rIndex K) ta (tCons te tNil)
section
variable {X : Cx} {G : Gg} {a e : Expr} {ta te : TE} {da de : DE} {apos cpos : Pos}
theorem snd_idx {K : PySem.W.Frag} (ha : Snd G ta da) (h : Snd G te de) (hK : G.K = K) : Snd G (tIdx K ta te) (dIdx da de) := by
  refine ⟨fun B Z δ σ H N C Q hB S hd q => ?_⟩
  have hBK : B.K = K := by rw [← hK, ← hB]
  subst hBK
  refine ha.run B Z δ σ H N _ _ hB S hd fun s x H1 k1 e1 r1 h1 => ?_
  have w1 := (r1.tp S.ztt).dw
  split at h1
  · rename_i ds hs
    rw [hs] at w1
    obtain ⟨p, ys, rfl, hp, r⟩ := w1
    refine ⟨.inl ⟨rfl, ys, .of hp⟩, ?_⟩
    refine h.run B Z δ σ H1 (N + k1) _ _ hB (S.ext e1) h1 fun u y H2 k2 e2 r2 h2 => ?_
    have w2 := (r2.tp (S.ext e1).ztt).dw
    have rr := r.ex e2
    split at h2
    · rename_i i hu
      rw [hu] at w2
      have hy := w2.v_inv
      subst hy
      obtain ⟨ns, j, rfl, ⟨hj, hm⟩, h3⟩ := h2
      have hys := rr.ints
      subst hys
      refine ⟨p, ns.map V.int, .int i, j, .int i, rfl, rfl, .of (e2.lst hp), rfl, flat_ints ns, by rw [List.getElem?_map, hj]; rfl, by simp [eqV], fun m z hlt hz => ?_, ?_⟩
      · rw [List.getElem?_map] at hz
        cases hz' : ns[m]? with
        | none => rw [hz'] at hz; cases hz
        | some b =>
          rw [hz'] at hz
          cases hz
          have hne := hm m hlt
          rw [hz'] at hne
          have : b ≠ i := fun z => hne (by rw [z])
          simpa [eqV] using this
      · have e8 : N + k1 + k2 = N + (k1 + k2) := by simp only [Ct.assoc]
        rw [e8] at h3
        exact q (.dat (.int (j : Int))) _ H2 (k1 + k2) (e1.trans e2) (Dt.v _) h3
    · exact h2.elim
  · exact h1.elim
theorem x_idx (ha : XE X G a ta da) (he : XE X G e te de) (hK : G.K = X.K := by rfl)
    (hbase : attributeBase a "index" X.env (eval a X.env) = eval a X.env := by rfl)
    (hfew : ((backTo cpos (starEach [e] X.env)).all (fun x => !x.1) && (backToKw cpos (keywordEach [] X.env)).all (fun x => x.1.isSome) && decide ([e].length + ([] : List Keyword).length + (if ([] : List Keyword).isEmpty then 0 else 1) < 30)) = true := by rfl)
    (hline : (apos.endLine == cpos.line) = true := by rfl) (hs : starEach [e] X.env = (false, eval e X.env) :: starEach [] X.env := by rfl) :
    XE X G (.Call (.Attribute a "index" apos) [e] [] cpos) (tIdx G.K ta te) (dIdx da de) :=
  ⟨by rw [hK]; exact pe_bm PySem.F.plainAttrs_list PySem.F.slot_list_index PySem.F.type_list_index mt_index ha.pe (pa_cons he.pe pa_nil hs) hbase hfew hline hs rfl, snd_idx ha.sn he.sn rfl⟩
end

/-! ### sorted of a set of ints, of any size up to some thousands -/
section
open SrtO Srt
variable {P : Program} {w : World} {A : Around} {E : Value → Shared → Prop} {s : Shared} {a : Addr}
theorem call_sortedSB {S : Int → Bool} {n : Nat} {Q : Value → Shared → Prop} (R : SetR w s.heap a S n) (hh : A.handled = none) (hn : n ≤ 4000)
    (h : ∀ (s' : Shared) (p : Addr) (out : List Value) (c : Nat) (ns : List Int), (∀ b o, s.heap.get? b = some o → s'.heap.get? b = some o) → s'.gens = s.gens → s'.os = s.os → s.heap.objs.size ≤ p →
      s'.heap.get? p = some (seqObj "list" out.toArray c) → IntsAre out ns → ns.Pairwise (· < ·) → (∀ k, k ∈ ns ↔ S k = true) → ns.length = n → Q (.ref p) s') :
    wpAny (model P w) A (call (.builtin "sorted") [.ref a]) Q E s := by
  obtain ⟨o, es, ep, t, ho, ⟨hex, _⟩, hd, g, nd, hmem, hb, hf, hcount, hr, hled⟩ := R
  apply Calls.call_function_entry kind_sorted plain_sorted entry_sorted (args_sorted1 _)
  unfold Builtin.«sorted»
  apply wpAny_bind (m := checkCount "sorted" 1 1 _)
  apply wpAny_pure
  apply wpAny_bind
  refine collect_set hh ⟨o, ho, hex, hd⟩ hf hb hr hled fun s1 vs old size1 gens1 os1 perm => ?_
  have many : vs.length = n := perm.length_eq.trans (by rw [List.length_map, Array.length_toList]; exact hcount)
  have hi : IntsAre vs (vs.map Builtin.Re.reRawOf) := L2.ints_of vs fun v hv => by
    obtain ⟨e, he, ev⟩ := List.mem_map.mp (perm.mem_iff.mp hv)
    obtain ⟨k, tk, h1, _⟩ := g e he
    exact ⟨k, tk, ev.symm.trans h1⟩
  have hz : vs.length ≤ sizeLine := by rw [many, sizeLine_eq]; omega
  have keys : (vs.map Builtin.Re.reRawOf).Perm (es.toList.map keyOf) := (perm.map Builtin.Re.reRawOf).trans (List.Perm.of_eq (by rw [List.map_map]; rfl))
  apply wpAny_bind
  refine wpAny_newList (items := vs) ?_ hz
  have hL : (s1.heap.push (seqObj "list" vs.toArray 0)).get? s1.heap.objs.size = some (seqObj "list" vs.toArray 0) := Heap.get?_push_size _ rfl
  show wpAny _ _ _ _ _ { s1 with heap := s1.heap.push (seqObj "list" vs.toArray 0) }
  apply wpAny_bind
  refine wpAny_holding (wpAny_call_entry slot_list_sort ⟨_, hL, rfl⟩ entry_list_sort ?_ (args_list_sort _))
  refine list_sort_ord swo_int hL hz (fun h2 => ints_sortable hi h2) fun out h1 h2 => ⟨_, rfl, ?_⟩
  obtain ⟨c, hc⟩ := sortedHeap_at (vs := vs) (out := out.toArray) hL
  obtain ⟨g1, g2, g3⟩ := SrtO.ints_out hi h1 h2
  have pn := g2.trans keys
  refine wpAny_pure ⟨_, rfl, h _ s1.heap.objs.size out c _ (fun b u hb => ?_) gens1 os1 size1 hc g1 (lt_of_le_nodup _ g3 (pn.nodup_iff.mpr nd)) (fun k => by rw [pn.mem_iff, ← hmem k]) ?_⟩
  · have hb1 := old b u hb
    have hlt := Heap.lt_size hb1
    show (sortedHeap _ _ _ _).get? b = _
    rw [sortedHeap_old (Nat.ne_of_lt hlt) (by rw [size_push']; exact Nat.lt_succ_of_lt hlt)]
    exact Heap.get?_push_of_some _ hb1
  · rw [pn.length_eq, List.length_map, Array.length_toList]
    exact hcount
end
def rSortedSB (w : World) : List V → Hp → VK → Prop := fun vs H Q => ∃ (a : Addr) (S : Int → Bool) (n : Nat), vs = [V.ref a] ∧ H a = some (SetO w a S n) ∧ n ≤ 4000 ∧
  ∀ (ns : List Int) (p : Addr), ns.Pairwise (· < ·) → (∀ k : Int, k ∈ ns ↔ S k = true) → H p = none → Q (.ref p) (upd H p (.lst (ns.map V.int)))
theorem cr_sortedSB {X : Cx} (hc : X.calm = true) : CallR X (.builtin "sorted") (rSortedSB X.w) := by
  intro pins s σ H vs us Q I r h
  obtain ⟨a, S, n, rfl, ha, hn, q⟩ := h
  rw [Vals.ref1 r]
  refine call_sortedSB (setO_get I ha) (I.ok.hd hc) hn fun s' p out c ns old gens1 os1 hp hget hi hasc hmem hlen => ?_
  have hz : (ns.map V.int).length ≤ sizeLine := by rw [List.length_map, hlen, sizeLine_eq]; omega
  have free : H p = none := I.hok.fresh hp
  have J : Inv X pins σ (upd H p (.lst (ns.map V.int))) { s with heap := s'.heap, gens := s'.gens, drawn := s'.drawn, toks := s'.toks } :=
    I.call (ch := []) (Un.laid old hp free) (I.hok.laid old hp ⟨hz, out, c, vals_of_ints hi, hget⟩) (by rw [gens1]; exact I.bare) (fun _ z => nomatch z)
  have same : s' = { s with heap := s'.heap, gens := s'.gens, drawn := s'.drawn, toks := s'.toks } := by
    obtain ⟨h1, h2, h3, h4, h5⟩ := s'
    obtain ⟨k1, k2, k3, k4, k5⟩ := s
    cases os1
    rfl
  rw [same]
  exact ⟨.ref p, _, J, rfl, q ns p hasc hmem free⟩
/-! ### sorted(set(t)), t a tuple of ints -/
def rSetI (K : PySem.W.Frag) (w : World) : List V → Hp → VK → Prop := fun xs H Q => ∃ (p : Addr) (ns : List Int), xs = [.ref p] ∧ SqT K H p (ns.map V.int) ∧ ns.length ≤ 1500 ∧
  ∀ (a : Addr) (c : Nat), H a = none → c ≤ ns.length → Q (.ref a) (upd H a (SetO w a (fun j => decide (j ∈ ns)) c))
theorem cr_setI {X : Cx} (hc : X.calm = true) : CallR X (.type "set") (rSetI X.K X.w) := by
  intro pins s σ H xs us Q I r h
  obtain ⟨p, ns, rfl, hq, hl, q⟩ := h
  cases r with
  | cons r rr =>
    cases rr
    cases r
    obtain ⟨its, rv, pt, hz⟩ := I.tuple hq
    have hi : IntsAre its.toArray.toList ns := ints_of_vals rv
    refine call_set_tupI ns (I.ok.hd hc) (show s.heap.IsTuple p its.toArray from pt) hi (by unfold scanBound; omega) fun h' tk c R1 hcn kp => ?_
    have hn : H s.heap.objs.size = none := I.hok.fresh (Nat.le_refl _)
    have J : Inv X pins σ (upd H s.heap.objs.size (SetO X.w s.heap.objs.size (fun j => decide (j ∈ ns)) c)) { s with heap := h', toks := tk } :=
      I.call (ch := []) (Un.laid kp (Nat.le_refl _) hn) (I.hok.laid kp (Nat.le_refl _) (setO_new R1)) I.bare (fun _ z => nomatch z)
    exact ⟨.ref _, _, J, rfl, q _ c hn hcn⟩
def tSSet (K : PySem.W.Frag) (w : World) (te : TE) : TE := tCB (rSortedSB w) (tCons (tCB (rSetI K w) (tCons te tNil)) tNil)
@[simp] def dSSet (de : DE) : DE := fun δ N C => de δ N fun s N1 => match s.rd with
  | .tup ds => ∃ ns : List Int, ds = ns.map D.int ∧ ns.length ≤ 1500 ∧ ∀ ms : List Int, ms.Pairwise (· < ·) → (∀ k : Int, k ∈ ms ↔ k ∈ ns) → C (.own (ms.map D.int)) N1
  | _ => False
section
variable {X : Cx} {G : Gg} {e : Expr} {te : TE} {de : DE} {p p2 q pos : Pos}
theorem snd_sset {w : World} (h : Snd G te de) : Snd G (tSSet G.K w te) (dSSet de) := by
  refine ⟨fun B Z δ σ H N C Q hB S hd q => ?_⟩
  subst hB
  refine h.run B Z δ σ H N _ _ rfl S hd fun s x H1 k1 e1 r1 h1 => ?_
  have w1 := (r1.tp S.ztt).dw
  split at h1
  · rename_i ds hs
    rw [hs] at w1
    obtain ⟨a, xs, rfl, ha, r⟩ := w1.tup_inv
    obtain ⟨ns, rfl, hl, h3⟩ := h1
    have hxs := r.ints
    subst hxs
    refine ⟨a, ns, rfl, .of ha, hl, fun b c hb hcn => ?_⟩
    refine ⟨b, _, c, rfl, upd_same, by omega, fun ms l hasc hmem hll => ?_⟩
    have ep1 := ExK.new (o := SetO w b (fun j => decide (j ∈ ns)) c) hb
    have ep2 := ExK.new (o := .lst (ms.map V.int)) hll
    have ep : ExK 0 H1 _ := ep1.trans ep2
    exact q (.own (ms.map D.int)) _ _ k1 (e1.trans ep) ⟨l, _, rfl, e1.back (ep1.back hll), upd_same, .ofInts _⟩ (h3 ms hasc fun k => by rw [hmem k, decide_eq_true_eq])
  · exact h1.elim
theorem x_sset (hc : X.calm = true) (hg : Gl X "sorted") (hm : X.mg "sorted" = none) (hg2 : Gl X "set") (hm2 : X.mg "set" = none) (h : XE X G e te de) (hK : G.K = X.K := by rfl)
    (hs : starEach [e] X.env = [(false, eval e X.env)] := by rfl) (hs2 : starEach [.Call (.Name "set" p2) [e] [] q] X.env = [(false, eval (.Call (.Name "set" p2) [e] [] q) X.env)] := by rfl) :
    XE X G (.Call (.Name "sorted" p) [.Call (.Name "set" p2) [e] [] q] [] pos) (tSSet G.K X.w te) (dSSet de) :=
  ⟨by rw [hK]; exact pe_callB (cr_sortedSB hc) hg hm PyProof.Rows.boot_sorted (pa_cons (pe_callTy (cr_setI hc) hg2 hm2 PyProof.Rows.boot_set (pa_cons h.pe pa_nil hs) (by decide) (by decide) hs rfl) pa_nil hs2) (by decide) (by decide) hs2 rfl, snd_sset h.sn⟩
end
end DL

/-! DLn: slices of tuples with a written step. -/
namespace DL
open PySem PySem.Spec PyProof.Rows L2
variable [TabNames]

/-- x[start::c] -/
def stepP {α : Type} (xs : List α) (start : Option Int) (c : Int) : List α :=
  (List.range (Builtin.Slice.slicePlaces (Builtin.Slice.sliceAdjust start none c xs.length).1 (Builtin.Slice.sliceAdjust start none c xs.length).2 c)).filterMap fun m : Nat =>
    xs[((Builtin.Slice.sliceAdjust start none c xs.length).1 + (m : Int) * c).toNat]?
theorem stepP_map {α β : Type} (f : α → β) (xs : List α) (start : Option Int) (c : Int) : stepP (xs.map f) start c = (stepP xs start c).map f := by
  unfold stepP
  rw [List.length_map, List.map_filterMap]
  refine congrArg (fun g => List.filterMap g _) (funext fun m => ?_)
  rw [List.getElem?_map]
theorem stepP_rel {K : PySem.W.Frag} {N : Ct} {H : Hp} {Z : Addr → Prop} {xs : List V} {ds : List D} (r : DtAll K N H Z xs ds) (start : Option Int) (c : Int) : DtAll K N H Z (stepP xs start c) (stepP ds start c) := by
  unfold stepP
  rw [r.length]
  generalize List.range _ = ms
  induction ms with
  | nil => exact .nil
  | cons m ms ih =>
    rw [List.filterMap_cons, List.filterMap_cons]
    cases h : ds[((Builtin.Slice.sliceAdjust start none c ds.length).1 + (m : Int) * c).toNat]? with
    | none =>
      have h1 := List.getElem?_eq_none_iff.mp h
      rw [← r.length] at h1
      have h2 : xs[((Builtin.Slice.sliceAdjust start none c ds.length).1 + (m : Int) * c).toNat]? = none := List.getElem?_eq_none_iff.mpr (by rw [← r.length]; exact h1)
      rw [h2]
      exact ih
    | some d =>
      obtain ⟨v, h2, h3⟩ := r.get h
      rw [h2]
      exact .cons h3 ih
theorem stepP_vals {xs : List V} {vs : List Value} (r : Vals xs vs) (start : Option Int) (c : Int) : Vals (stepP xs start c) (stepP vs start c) := by
  unfold stepP
  rw [r.length]
  generalize List.range _ = ms
  induction ms with
  | nil => exact .nil
  | cons m ms ih =>
    rw [List.filterMap_cons, List.filterMap_cons]
    generalize ((Builtin.Slice.sliceAdjust start none c vs.length).1 + (m : Int) * c).toNat = k
    have both : ∀ {xs : List V} {vs : List Value}, Vals xs vs → ∀ k : Nat, (xs[k]? = none ∧ vs[k]? = none) ∨ ∃ x v, xs[k]? = some x ∧ vs[k]? = some v ∧ RelV x v := by
      intro xs vs r
      induction r with
      | nil => exact fun k => .inl ⟨rfl, rfl⟩
      | cons a r ih =>
        intro k
        cases k with
        | zero => exact .inr ⟨_, _, rfl, rfl, a⟩
        | succ k => simpa using ih k
    rcases both r k with ⟨h1, h2⟩ | ⟨x, v, h1, h2, h3⟩
    · rw [h1, h2]
      exact ih
    · rw [h1, h2]
      exact .cons h3 ih
theorem stepP_len {α : Type} (xs : List α) (start : Option Int) {c : Int} : (stepP xs start c).length ≤ Builtin.Slice.slicePlaces (Builtin.Slice.sliceAdjust start none c xs.length).1 (Builtin.Slice.sliceAdjust start none c xs.length).2 c := by
  unfold stepP
  exact Nat.le_trans (List.length_filterMap_le _ _) (Nat.le_of_eq List.length_range)
section
variable {prog : Program} {w : World} {A : Around} {E : Value → Shared → Prop} {s : Shared}
theorem applied_step {sl : Addr} {vl vs : Value} {start : Option Int} {c : Int} {n : Nat} {Q : Int × Int × Nat → Shared → Prop} (hs : s.heap.IsSliceOf sl vl .none vs) (pl : IsPart vl start) (ps : IsPart vs (some c)) (hc : c ≠ 0)
    (h : Q ((Builtin.Slice.sliceAdjust start none c n).1, c, Builtin.Slice.slicePlaces (Builtin.Slice.sliceAdjust start none c n).1 (Builtin.Slice.sliceAdjust start none c n).2 c) s) : wpAny (model prog w) A (Builtin.Slice.sliceApplied (.ref sl) (pure (n : Int))) Q E s := by
  obtain ⟨os, hos, _, hds⟩ := id hs
  unfold Builtin.Slice.sliceApplied Builtin.Slice.sliceFields
  refine wpAny_bind (wpAny_bind (wpAny_field hos hds (x := vl) rfl ?_))
  refine wpAny_bind (wpAny_field hos hds (x := .none) rfl ?_)
  refine wpAny_bind (wpAny_field hos hds (x := vs) rfl (wpAny_pure ?_))
  refine wpAny_bind (HT.slicePart_ ps ?_)
  show wpAny _ _ (if (c == 0) = true then _ else _) _ _ s
  rw [if_neg (by simpa using hc)]
  refine wpAny_bind (HT.slicePart_ pl ?_)
  refine wpAny_bind (HT.slicePart_ .none ?_)
  refine wpAny_bind (wpAny_pure ?_)
  exact wpAny_pure h
theorem getItem_tuple_step {t sl : Addr} {items : Array Value} {vl vs : Value} {start : Option Int} {c : Int} {Q : Value → Shared → Prop} (ht : IsTup s.heap t items) (hs : s.heap.IsSliceOf sl vl .none vs) (pl : IsPart vl start) (ps : IsPart vs (some c))
    (hc : c ≠ 0) (h1 : c ≠ 1) (hsz : Builtin.Slice.slicePlaces (Builtin.Slice.sliceAdjust start none c items.size).1 (Builtin.Slice.sliceAdjust start none c items.size).2 c ≤ sizeLine)
    (h : Q (.ref s.heap.objs.size) { s with heap := s.heap.push { cls := .type "tuple", data := .seq (stepP items.toList start c).toArray } }) : wpAny (model prog w) A (getItem (.ref t) (.ref sl)) Q E s := by
  have fits : sizeOk (.seq (stepP items.toList start c).toArray) := by
    show (stepP items.toList start c).toArray.size ≤ sizeLine
    rw [List.size_toArray]
    refine Nat.le_trans (stepP_len _ _) ?_
    rw [Array.length_toList]
    exact hsz
  obtain ⟨os, hos, hcs, _⟩ := id hs
  have kind : s.TypeIs (.ref sl) "slice" := ⟨os, hos, hcs⟩
  unfold getItem
  try (with_reducible apply wpAny_holding)
  first | refine wpAny_bind (wpAny_pure ?_) | skip
  apply wpAny_bind
  refine wpAny_sequenceKey ht.typeIs (by decide) ?_
  apply wpAny_bind
  refine wpAny_callSpecial?_slot (name := Str.ofString "__getitem__") ht.typeIs PyProof.Rows.slot_tuple_getitem ?_
  refine wpAny_call_entry PyProof.Rows.slot_tuple_getitem ht.typeIs entry_tuple_getitem ?_ (args_tuple_getitem _ _)
  show wpAny _ _ (Builtin.Tuple.tupleItemsOf (.ref t) >>= _) _ _ s
  apply wpAny_bind
  refine tupleItemsOf_ ht ?_
  apply wpAny_bind
  refine wpAny_typeOf kind ?_
  rw [if_pos (by decide)]
  apply wpAny_bind
  refine applied_step hs pl ps hc ?_
  have hno : ¬ (((Builtin.Slice.sliceAdjust start none c items.size).1 == 0 && c == 1 && Builtin.Slice.slicePlaces (Builtin.Slice.sliceAdjust start none c items.size).1 (Builtin.Slice.sliceAdjust start none c items.size).2 c == items.size) = true) := fun q => by
    rw [Bool.and_eq_true, Bool.and_eq_true] at q
    exact h1 (eq_of_beq q.1.2)
  show wpAny _ _ (if ((Builtin.Slice.sliceAdjust start none c items.size).1 == 0 && c == 1 && Builtin.Slice.slicePlaces (Builtin.Slice.sliceAdjust start none c items.size).1 (Builtin.Slice.sliceAdjust start none c items.size).2 c == items.size) = true then _ else _) _ _ s
  rw [if_neg hno]
  have pick : ((List.range (Builtin.Slice.slicePlaces (Builtin.Slice.sliceAdjust start none c items.size).1 (Builtin.Slice.sliceAdjust start none c items.size).2 c)).filterMap fun (k : Nat) => items[((Builtin.Slice.sliceAdjust start none c items.size).1 + (k : Int) * c).toNat]?).toArray = (stepP items.toList start c).toArray := by
    unfold stepP
    rw [Array.length_toList]
    simp only [Array.getElem?_toList]
  rw [pick]
  first
    | exact wpAny_bind (m := Builtin.Tuple.tupleExact _) (wpAny_newObj_type (wpAny_pure ⟨_, rfl, wpAny_pure h⟩) fits)
    | exact wpAny_bind (m := Builtin.Tuple.tupleExact _) (wpAny_newObj_type (wpAny_bind (wpAny_pure (wpAny_pure ⟨_, rfl, wpAny_pure h⟩))) fits)
    | exact wpAny_bind (wpAny_bind (m := Builtin.Tuple.tupleExact _) (wpAny_newObj_type (wpAny_pure (wpAny_pure ⟨_, rfl, wpAny_pure h⟩)) fits))
    | exact wpAny_bind (wpAny_bind (m := Builtin.Tuple.tupleExact _) (wpAny_newObj_type (wpAny_pure ⟨_, rfl, wpAny_pure h⟩) fits))
end
section
variable {X : Cx} {G : Gg} {e st : Expr} {lo : Option Expr} {te : TE} {de : DE} {tl ts : TO} {dl : DO} {c : Int} {p3 pos : Pos}
def tStepT (K : PySem.W.Frag) (te : TE) (tl ts : TO) (c : Int) : TE := fun σ H Q => te σ H fun x H1 => tl σ H1 fun l H2 => ts σ H2 fun k H3 => k = some c ∧ ∃ a xs, x = .ref a ∧ SqT K H3 a xs ∧
  Builtin.Slice.slicePlaces (Builtin.Slice.sliceAdjust l none c xs.length).1 (Builtin.Slice.sliceAdjust l none c xs.length).2 c ≤ sizeLine ∧ ∀ p, H3 p = none → Q (.ref p) (upd H3 p (.tup (stepP xs l c)))
theorem pe_stepT (he : PE X e te) (hl : PO X lo tl) (hs : PO X (some st) ts) (h0 : c ≠ 0) (h1 : c ≠ 1) : PE X (.Subscript e (.Slice lo none (some st) p3) pos) (tStepT X.K te tl ts c) := by
  refine ⟨fun pins s σ H Q I h => ?_⟩
  refine Subscript_ (thn (he.run pins s σ H _ I h) fun v s1 ⟨x, H1, I1, r1, q1⟩ => ?_)
  refine wpAny_Slice (thn (hl.run pins s1 σ H1 _ I1 q1) fun vl s2 ⟨l, H2, I2, pl, q2⟩ => ?_)
  refine thn (po_none.run pins s2 σ H2 (fun o H3 => o = none ∧ H3 = H2) I2 ⟨rfl, rfl⟩) fun vu s3 ⟨u, H3, I3, pu, eu, e3⟩ => ?_
  subst eu e3
  refine thn (hs.run pins s3 σ H3 _ I3 q2) fun vs s4 ⟨k, H4, I4, ps, ek, a, xs, ex, hx, hz, q⟩ => ?_
  subst ek ex
  cases r1
  cases pu
  obtain ⟨its, r, ht, hits⟩ := I4.tuple hx
  have hlen := r.length
  have grown : ∀ b ob, s4.heap.get? b = some ob → (s4.heap.push { cls := .type "slice", data := .fields #[vl, .none, vs] }).get? b = some ob := fun b ob q => Heap.get?_push_of_some _ q
  have I5 : Inv X pins σ H4 { s4 with heap := s4.heap.push { cls := .type "slice", data := .fields #[vl, .none, vs] } } := I4.kept (t' := s4.toks) grown
  have ht5 : IsTup (s4.heap.push { cls := .type "slice", data := .fields #[vl, .none, vs] }) a its.toArray := ht.keeps grown
  show wpAny (model X.prog X.w) X.A (subscriptTail e (.Slice lo none (some st) p3) (.ref a) (.ref s4.heap.objs.size)) (EP X pins σ Q) X.xe { s4 with heap := s4.heap.push { cls := .type "slice", data := .fields #[vl, .none, vs] } }
  refine tail_any (ops := [.ref a, .ref s4.heap.objs.size]) ht5.typeIs PyProof.Rows.slot_tuple_getitem.lookup ?_ (by with_unfolding_all rfl)
  refine getItem_tuple_step (s := { s4 with heap := s4.heap.push { cls := .type "slice", data := .fields #[vl, .none, vs] } }) ht5 (Heap.IsSliceOf.new _ vl .none vs) pl ps h0 h1 (by rw [List.size_toArray, ← hlen]; exact hz) ?_
  refine ⟨.ref _, _, I5.laid (t' := s4.toks) (o := .tup (stepP xs l c)) (fun b ob q => Heap.get?_push_of_some _ q) (Nat.le_refl _) ?_, rfl, q _ (I5.hok.fresh (Nat.le_refl _))⟩
  exact ⟨Nat.le_trans (stepP_len _ _) hz, _, stepP_vals r l c, IsTup.new _ _⟩
@[simp] def dStep (de : DE) (dl : DO) (c : Int) : DE := fun δ N C => de δ N fun s N1 => dl δ N1 fun l N2 => match s.rd with
  | .tup ds => Builtin.Slice.slicePlaces (Builtin.Slice.sliceAdjust l none c ds.length).1 (Builtin.Slice.sliceAdjust l none c ds.length).2 c ≤ 100000 ∧ C (.dat (.tup (stepP ds l c))) N2
  | _ => False
theorem snd_step {K : PySem.W.Frag} (h : Snd G te de) (hl : SndO G tl dl) (hK : G.K = K) (hts : ∀ σ H Q, Q (some c) H → ts σ H Q) : Snd G (tStepT K te tl ts c) (dStep de dl c) := by
  subst hK
  refine ⟨fun B Z δ σ H N C Q hB S hd q => ?_⟩
  subst hB
  refine h.run B Z δ σ H N _ _ rfl S hd fun s x H1 k1 e1 r1 h1 => ?_
  refine hl.run B Z δ σ H1 (N + k1) _ _ rfl (S.ext e1) h1 fun l H2 k2 e2 h2 => hts _ _ _ ⟨rfl, ?_⟩
  have w := ((r1.tp S.ztt).dw).ex e2
  have e8 : N + k1 + k2 = N + (k1 + k2) := by simp only [Ct.assoc]
  rw [e8] at w h2
  split at h2
  · rename_i ds eq
    rw [eq] at w
    obtain ⟨a, xs, rfl, ha, r⟩ := w.tup_inv
    refine ⟨a, xs, rfl, .of ha, by rw [r.length]; exact size_of h2.1, fun p hp => ?_⟩
    have ep := ExK.new (o := .tup (stepP xs l c)) hp
    exact q (.dat (.tup (stepP ds l c))) _ _ (k1 + k2) ((e1.trans e2).trans ep) (Dt.tup upd_same ((stepP_rel r l c).ex0 ep)) h2.2
  · exact h2.elim
theorem x_step2 {k : Nat} {q2 : Pos} (h : XE X G e te de) (hl : XO X G lo tl dl) (hK : G.K = X.K := by rfl) : XE X G (.Subscript e (.Slice lo none (some (.Constant (.int 2) k q2)) p3) pos) (tStepT G.K te tl (tPart (tC (.int 2))) 2) (dStep de dl 2) :=
  ⟨by rw [hK]; exact pe_stepT h.pe hl.pe (po_some pe_int) (by decide) (by decide), snd_step h.sn hl.sn rfl fun σ H Q q => ⟨2, rfl, q⟩⟩
theorem x_stepR {k : Nat} {q1 q2 : Pos} (h : XE X G e te de) (hl : XO X G lo tl dl) (hK : G.K = X.K := by rfl) : XE X G (.Subscript e (.Slice lo none (some (.UnaryOp .USub (.Constant (.int 1) k q1) q2)) p3) pos) (tStepT G.K te tl (tPart (tUn (rU fun i => .int (-i)) (tC (.int 1)))) (-1)) (dStep de dl (-1)) :=
  ⟨by rw [hK]; exact pe_stepT h.pe hl.pe (po_some (pe_un un_neg pe_int)) (by decide) (by decide), snd_step h.sn hl.sn rfl fun σ H Q q => ⟨1, rfl, -1, rfl, q⟩⟩
end
/-! ### what these slices hold -/
section
variable {α : Type}
theorem fm_congr {β : Type} {f g : β → Option α} : ∀ {l : List β}, (∀ x ∈ l, f x = g x) → l.filterMap f = l.filterMap g
  | [], _ => rfl
  | x :: l, h => by
    rw [List.filterMap_cons, List.filterMap_cons, h x List.mem_cons_self, fm_congr fun y hy => h y (List.mem_cons_of_mem _ hy)]
theorem fm_all : ∀ xs : List α, (List.range xs.length).filterMap (fun m : Nat => xs[m]?) = xs
  | [] => rfl
  | x :: xs => by
    rw [List.length_cons, List.range_succ_eq_map, List.filterMap_cons, List.filterMap_map]
    show x :: (List.range xs.length).filterMap (fun m : Nat => xs[m]?) = _
    rw [fm_all xs]
theorem stepP_rev (xs : List α) : stepP xs none (-1) = xs.reverse := by
  have hn : Builtin.Slice.slicePlaces ((xs.length : Int) - 1) (-1) (-1) = xs.length := by
    unfold Builtin.Slice.slicePlaces
    rw [if_neg (by decide), show (- -1 : Int) = 1 by decide, Int.ediv_one]
    split <;> omega
  show (List.range (Builtin.Slice.slicePlaces ((xs.length : Int) - 1) (-1) (-1))).filterMap (fun m : Nat => xs[((xs.length : Int) - 1 + (m : Int) * -1).toNat]?) = _
  rw [hn]
  refine Eq.trans (fm_congr fun m hm => ?_) (Eq.trans (by rw [List.length_reverse]) (fm_all xs.reverse))
  have hm' := List.mem_range.mp hm
  rw [List.getElem?_reverse hm', show ((xs.length : Int) - 1 + (m : Int) * -1).toNat = xs.length - 1 - m by omega]
def evens : List α → List α
  | [] => []
  | [x] => [x]
  | x :: _ :: r => x :: evens r
theorem pick2 : ∀ xs : List α, (List.range ((xs.length + 1) / 2)).filterMap (fun m : Nat => xs[2 * m]?) = evens xs
  | [] => by simp [evens]
  | [x] => by
    rw [show evens [x] = [x] by simp [evens], show ([x].length + 1) / 2 = 1 by simp]
    rfl
  | x :: y :: r => by
    rw [show ((x :: y :: r).length + 1) / 2 = (r.length + 1) / 2 + 1 by rw [List.length_cons, List.length_cons]; omega, List.range_succ_eq_map, List.filterMap_cons, List.filterMap_map]
    rw [show evens (x :: y :: r) = x :: evens r by simp [evens]]
    show x :: (List.range ((r.length + 1) / 2)).filterMap (fun m : Nat => (x :: y :: r)[2 * (m + 1)]?) = x :: evens r
    rw [← pick2 r]
    congr 1
theorem stepP_2 (xs : List α) : stepP xs none 2 = evens xs := by
  have hn : Builtin.Slice.slicePlaces 0 (xs.length : Int) 2 = (xs.length + 1) / 2 := by
    unfold Builtin.Slice.slicePlaces
    rw [if_pos (by decide)]
    split <;> omega
  show (List.range (Builtin.Slice.slicePlaces 0 (xs.length : Int) 2)).filterMap (fun m : Nat => xs[((0 : Int) + (m : Int) * 2).toNat]?) = _
  rw [hn, ← pick2]
  refine fm_congr fun m _ => ?_
  rw [show ((0 : Int) + (m : Int) * 2).toNat = 2 * m by omega]
theorem stepP_12 (xs : List α) : stepP xs (some 1) 2 = evens (xs.drop 1) := by
  cases xs with
  | nil => rfl
  | cons x r =>
    have hlo : min (1 : Int) ((x :: r).length : Int) = 1 := by rw [List.length_cons]; omega
    have hn : Builtin.Slice.slicePlaces 1 ((x :: r).length : Int) 2 = (r.length + 1) / 2 := by
      unfold Builtin.Slice.slicePlaces
      rw [if_pos (by decide), List.length_cons]
      split <;> omega
    show (List.range (Builtin.Slice.slicePlaces (min (1 : Int) ((x :: r).length : Int)) ((x :: r).length : Int) 2)).filterMap (fun m : Nat => (x :: r)[(min (1 : Int) ((x :: r).length : Int) + (m : Int) * 2).toNat]?) = evens r
    rw [hlo, hn, ← pick2]
    refine fm_congr fun m _ => ?_
    rw [show ((1 : Int) + (m : Int) * 2).toNat = 2 * m + 1 by omega]
    rfl
theorem places_rev (n : Nat) : Builtin.Slice.slicePlaces (Builtin.Slice.sliceAdjust none none (-1) n).1 (Builtin.Slice.sliceAdjust none none (-1) n).2 (-1) = n := by
  show Builtin.Slice.slicePlaces ((n : Int) - 1) (-1) (-1) = n
  unfold Builtin.Slice.slicePlaces
  rw [if_neg (by decide), show (- -1 : Int) = 1 by decide, Int.ediv_one]
  split <;> omega
theorem places_2 (n : Nat) : Builtin.Slice.slicePlaces (Builtin.Slice.sliceAdjust none none 2 n).1 (Builtin.Slice.sliceAdjust none none 2 n).2 2 ≤ n := by
  show Builtin.Slice.slicePlaces 0 (n : Int) 2 ≤ n
  unfold Builtin.Slice.slicePlaces
  rw [if_pos (by decide)]
  split <;> omega
theorem places_12 (n : Nat) : Builtin.Slice.slicePlaces (Builtin.Slice.sliceAdjust (some 1) none 2 n).1 (Builtin.Slice.sliceAdjust (some 1) none 2 n).2 2 ≤ n := by
  show Builtin.Slice.slicePlaces (min (1 : Int) (n : Int)) (n : Int) 2 ≤ n
  unfold Builtin.Slice.slicePlaces
  rw [if_pos (by decide)]
  split <;> omega
end
end DL

/-! DLo: defs with *args. -/
namespace DL
open PySem PySem.Spec PyProof.Rows L2
variable [TabNames]

/-- the promise of def f(a, .., *v) by what it binds: m names, and a tuple of the rest -/
def dspStar (m : Nat) (dsp : DSp) : DSp := fun ds N C Er => m ≤ ds.length ∧ ds.length ≤ 100000 ∧ dsp (ds.take m ++ [.tup (ds.drop m)]) N C Er
theorem lift_star {K : PySem.W.Frag} {m : Nat} {dsp : DSp} {vs : List V} {H : Hp} {Q : VK} {E : XK} (h : lift K (dspStar m dsp) vs H Q E) :
    ∃ ws rest, vs = ws ++ rest ∧ ws.length = m ∧ rest.length ≤ sizeLine ∧ ∀ p, H p = none → lift K dsp (ws ++ [V.ref p]) (upd H p (.tup rest)) Q E := by
  obtain ⟨Z, N, ds, C, Er, hz, r, ⟨hm, hl, hd⟩, q, hx⟩ := h
  have hlen := r.length
  refine ⟨vs.take m, vs.drop m, (List.take_append_drop m vs).symm, by rw [List.length_take]; omega, by rw [List.length_drop]; exact Nat.le_trans (Nat.sub_le _ _) (size_of (by omega)), fun p hp => ?_⟩
  have ep := ExK.new (o := .tup (vs.drop m)) hp
  refine ⟨Z, N, ds.take m ++ [.tup (ds.drop m)], C, Er, hz.ex ep, ((r.take m).ex0 ep).append (.cons (.tup upd_same ((r.drop m).ex0 ep)) .nil), hd, fun s v H' k e rs hc => ?_, fun cls H' k e he => ?_⟩
  · have e1 := ep.trans e
    rw [Ct.zero_add] at e1
    refine q s v H' k e1 ?_ hc
    cases s with
    | dat d => exact rs
    | own ds =>
      obtain ⟨p2, xs, rfl, h0, h1, r2⟩ := rs
      exact ⟨p2, xs, rfl, ep.back h0, h1, r2⟩
    | als ds => exact rs.elim
  · have e1 := ep.trans e
    rw [Ct.zero_add] at e1
    exact hx cls H' k e1 he
/-- x is a def of the text that keeps dsp, however its values are bound -/
def CalR (P : Program) (w : World) (K : PySem.W.Frag) (mg : Str → Option Value) (base : Heap) (CX : CXT) (x : Str) (k : Nat) (dsp : DSp) : Prop :=
  ∃ f : Addr, FnR P w K mg base CX k f (lift K dsp) ∧ mg x = some (.ref f) ∧ PySem.W.keepIn K (.ref f) = true
section
variable {P : Program} {w : World} {K : PySem.W.Frag} {mg : Str → Option Value} {base : Heap}
/-- a body by data, from its first values -/
theorem body_run {X : Cx} {sts : List Stmt} {t : TS} {dd : DS} {NN : List Str} {vs : List V} {ds : List D} {H : Hp} {Z : Addr → Prop} {n : Ct} {C : DK} {Q : VK} (hx : XSs X (G0 K) sts t dd) (hz : Zt Z H) (r : DtAll K n H Z vs ds)
    (hd : dd { nx := fun _ n' => C (.dat .non) n', rt := C } (startD ds NN.length) n) (q : ∀ s v H' k, ExK k H H' → RsC K (n + k) H H' Z v s → C s (n + k) → Q v H') : t { nx := fun _ H' => Q .non H', rt := Q } (start NN vs) H := by
  refine hx.sn.run ⟨G0 K, H, Z, n, fun _ _ _ _ z => z.elim, tabs_nil⟩ Z [] { nx := fun _ n' => C (.dat .non) n', rt := C } _ _ _ H n rfl ⟨fun Z' δ σ H' N' S' _ h' => ?_, fun _ _ _ _ _ _ _ z => z.elim, fun _ _ _ _ _ _ _ z => z.elim, fun s v H' N' k hN ex rt h' => ?_⟩ (sd_start (G := G0 K) hz r (fun _ _ _ _ z => z.elim) tabs_nil) (fun p hp => absurd hp (by simp)) hd
  · obtain ⟨j, ej, ex⟩ := S'.ex
    have ej' : N' = n + j := ej
    subst ej'
    exact q (.dat .non) .non H' j ex (Dt.v _) h'
  · have hN' : N' = n + k := hN
    subst hN'
    refine q s v H' k ex ?_ h'
    cases s with
    | dat d => exact rt
    | own ds => exact rt
    | als ds => exact rt.elim
theorem calR_of {x pv : Str} {st : Stmt} {N ps : List Str} {k : Nat} {dsp : DSp} {dd : DS} (D : Dfd K mg x st) (S : FnScope N (ps ++ [pv]) (defScope st))
    (hb : ∀ (kV doc pm : Value) (an : Option Addr) (cdv ct : Value) (us rest : List Value), us.length = ps.length → bindArgs (PySem.W.fnOf x x (defArgs st) (defBody st) (defScope st) .none kV doc pm an cdv ct) ⟨us ++ rest, []⟩ = (newTuple rest >>= fun t => pure (ps.zip us ++ [(pv, t)])))
    (hbody : ∀ (f : Addr) (cdv : Value) (A : Around) (outer : List Env) (s : Shared) (H : Hp) (E : XK), Room k (A.deeper (envOfC x (defScope st) s.heap.objs.size f cdv)) →
      ∃ t, XSs (cxOf CX0 P w K mg base N x (defScope st) f cdv A outer s H E).nox (G0 K) (defBody st) t dd)
    (hd : ∀ ds n C Er, dsp ds n C Er → dd { nx := fun _ n' => C (.dat .non) n', rt := C } (startD ds N.length) n) : CalR P w K mg base CX0 x (k + 1) (dspStar ps.length dsp) := by
  obtain ⟨f, fd, F, hm⟩ := D
  obtain ⟨oc, od, kV, doc, pm, an, cdv, ct, osl, rfl, lk, hcd⟩ := F.ex
  refine ⟨f, FnR.imp (StX.fn_star (sp := lift K dsp) (k := k) lk hcd S StX.cxUp_none (hb kV doc pm an cdv ct) fun A outer s H vs Q E hr hsp => ?_) (fun vs H Q E h => lift_star h), hm, F.kp⟩
  obtain ⟨t, hx⟩ := hbody f cdv A outer s H E hr
  obtain ⟨Z, n, ds, C, Er, hz, r, hs, q, _⟩ := hsp
  refine ⟨t, hx.pe.nox, ?_⟩
  exact body_run hx hz r (hd ds n C Er hs) q
end
section
variable {X : Cx} {G : Gg} {CX : CXT} {j k : Nat} {f : Addr} {sp : Sp} {E : XK} {dsp : DSp} {x : Str} {p pos : Pos} {e : Expr} {es : List Expr} {t : TA} {d : DA}
def tCallR (sp : Sp) (E : XK) (t : TA) : TE := fun σ H Q => t σ H fun vs H1 => sp vs H1 Q E
theorem pe_callFR (F : FnR X.prog X.w X.K X.mg X.base CX k f sp) (hr : Room k X.A) (hk : PySem.W.keepIn X.K (.ref f) = true) (hg : Gl X x) (hm : X.mg x = some (.ref f)) (hx : Passes CX X E) (ha : PA X (e :: es) t)
    (hd : (x == ("__debug__" : Str)) = false := by decide) (he : starEach (e :: es) X.env = (false, eval e X.env) :: starEach es X.env := by rfl) (hpl : (backTo pos (starEach es X.env)).any (·.1) = false := by rfl) :
    PE X (.Call (.Name x p) (e :: es) [] pos) (tCallR sp E t) := by
  refine ⟨fun pins s σ H Q I h => wpAny_Call_Name_kw (ld_glob I hg hm ?_ hd)⟩
  refine PySem.W.callWith_K (h₀ := X.base) I.ok.mod.kin hk (thn (ha.run pos pins s σ H _ I h) fun us s1 ⟨vs, H1, I1, r, q⟩ => ?_) he hpl
  exact ⟨I1.kIn, wpAny_call (run_fnR F hr hx I1 r q)⟩
theorem snd_callR (h : SndA G t d) : Snd G (tCallR (lift G.K dsp) G.E t) (dCall G.Er dsp d) := by
  have z := snd_call (dsp := dsp) h
  refine ⟨fun B Z δ σ H N C Q hB S hd q => ?_⟩
  have y := z.run B Z δ σ H N C Q hB S hd q
  show t σ H _
  have e : (fun (vs : List V) (H1 : Hp) => lift G.K dsp (vs ++ []) H1 Q G.E) = fun vs H1 => lift G.K dsp vs H1 Q G.E := by
    funext vs H1
    rw [List.append_nil]
  rw [← e]
  exact y
theorem x_callCR (C : CalR X.prog X.w X.K X.mg X.base CX x k dsp) (hr : Room j X.A) (hkj : k ≤ j) (hg : Gl X x) (hx : Passes CX X G.E)
    (ha : XA X G (e :: es) t d) (hK : G.K = X.K := by rfl) (hdb : (x == ("__debug__" : Str)) = false := by decide) (he : starEach (e :: es) X.env = (false, eval e X.env) :: starEach es X.env := by rfl) (hpl : (backTo pos (starEach es X.env)).any (·.1) = false := by rfl) :
    XE X G (.Call (.Name x p) (e :: es) [] pos) (tCallR (lift G.K dsp) G.E t) (dCall G.Er dsp d) := by
  obtain ⟨f, F, hm, hk⟩ := C
  have F2 : FnR X.prog X.w X.K X.mg X.base CX k f (lift G.K dsp) := by rw [hK]; exact F
  exact ⟨pe_callFR F2 (hr.mono hkj) hk hg hm hx ha.pe hdb he hpl, snd_callR ha.sn⟩
end
end DL

/-! DLp: enumerate(tuple). -/
namespace DL
open PySem PySem.Spec PyProof.Rows L2
variable [TabNames]

theorem meets_enum1 {v : Value} {o : Obj} {H : Heap → Prop} (B : Begins v o H) :
    Meets (Builtin.«enumerate.__new__» ⟨[.type "enumerate", v], []⟩) (fun _ R s => H s.heap ∧ R (.ok (.ret (.ref (s.heap.push o).objs.size))) { s with heap := (s.heap.push o).push { cls := .type "enumerate", data := .fields #[.none, .bool false, .ref s.heap.objs.size, rawInt 0, .none, .none] } }) :=
  .of_wp fun prog w A R s h => by
    obtain ⟨hp, g, d, tk, os⟩ := s
    obtain ⟨h1, h⟩ := h
    have hsub := sub_enumerate
    have begin1 : ∀ {A' : Around} {E : Value → Shared → Prop} {Q : Value → Shared → Prop}, Q (.ref hp.objs.size) ⟨hp.push o, g, d, tk, os⟩ → wpAny (model prog w) A' (pyIter v) Q E ⟨hp, g, d, tk, os⟩ :=
      fun q => B.iter prog w _ _ ⟨hp, g, d, tk, os⟩ _ h1 q
    wp_walk using begin1
    refine wpAny_stack_any fun st => wpAny_pure ?_
    split
    · rename_i c _ _ _ _ _
      cases (c == Value.type "enumerate") <;> (wp_walk using begin1; exact ⟨_, rfl, h⟩)
    · wp_walk using begin1
      exact ⟨_, rfl, h⟩
section
variable {prog : Program} {w : World} {A : Around} {E : Value → Shared → Prop} {s : Shared}
theorem call_enumT {v : Value} {o : Obj} {H : Heap → Prop} {Q : Value → Shared → Prop} (B : Begins v o H) (h1 : H s.heap)
    (h : ∀ h', IsEnum h' (s.heap.objs.size + 1) s.heap.objs.size 0 .none → h'.get? s.heap.objs.size = some o → (∀ b o, s.heap.get? b = some o → h'.get? b = some o) → Q (.ref (s.heap.objs.size + 1)) { s with heap := h' }) :
    wpAny (model prog w) A (call (.type "enumerate") [v]) Q E s := by
  refine callType_new F.called_enumerate (by decide) (F.typeCall_enumerate_1 _) (F.newCall_enumerate_1 _) (fun obj => F.args_object_init_2 obj _) F.entry_enumerate_new (meets_enum1 B) ⟨h1, ?_⟩
  have hz : (s.heap.push o).objs.size = s.heap.objs.size + 1 := Heap.size_push ..
  show _ ∧ _
  rw [hz]
  have he : IsEnum ((s.heap.push o).push { cls := .type "enumerate", data := .fields #[.none, .bool false, .ref s.heap.objs.size, rawInt 0, .none, .none] }) (s.heap.objs.size + 1) s.heap.objs.size 0 .none := by
    rw [← hz]
    exact Heap.get?_push_size (s.heap.push o) rfl
  exact ⟨⟨_, he, rfl⟩, h _ he (Heap.get?_push_of_some _ (Heap.get?_push_size _ B.free)) fun b o x => Heap.get?_push_of_some _ (Heap.get?_push_of_some _ x)⟩
end
/-- the tuple at a, each item in a new pair -/
def IteT (K : PySem.W.Frag) (a : Addr) : It where
  go := fun i H => ∃ (xs : List V) (x : V), SqT K H a xs ∧ xs[i]? = some x
  yld := fun i H v H' => ∃ T x, v = .ref T ∧ H T = none ∧ H' = upd H T (.tup [.int (i : Nat), x]) ∧ ∀ xs, SqT K H a xs → xs[i]? = some x
  stop := fun i H => ∃ xs : List V, SqT K H a xs ∧ xs.length ≤ i
theorem enum_tup_ne {h : Heap} {e it a : Addr} {c : Int} {old : Value} {items : Array Value} {i : Nat} (he : IsEnum h e it c old) (hit : h.IsTupleIter it a i) (ha : h.IsTuple a items) : e ≠ a ∧ a ≠ it := by
  obtain ⟨o1, g1, k1, _⟩ := hit
  obtain ⟨o2, g2, k2, _⟩ := ha
  have he' : h.get? e = some _ := he
  constructor
  · rintro rfl
    rw [he'] at g2
    cases g2
    have k3 : Value.type "enumerate" = Value.type "tuple" := k2
    exact absurd k3 (by decide)
  · rintro rfl
    rw [g1] at g2
    cases g2
    rw [k1] at k2
    exact absurd k2 (by decide)
theorem draws_end {prog : Program} {w : World} {A : Around} (hh : A.handled = none) (it a : Addr) (items : Array Value) {i : Nat} (hi : items[i]? = none) :
    Draws prog w A it [it, a] i (fun _ _ => True) (fun j h => j = i ∧ h.IsTupleIter it a j ∧ h.IsTuple a items) where
  live := fun _ _ st => let ⟨o, ho, _⟩ := st.2.1; ⟨o, ho⟩
  frame := fun _ _ _ st hk => ⟨st.1, st.2.1.at fun o e => hk it (by simp) o e, st.2.2.at fun o e => hk a (by simp) o e⟩
  item := fun j s Q E hj st _ => absurd st.1 (Nat.ne_of_lt hj)
  done := fun s Q E st hE => wpAny_nextOf_tuple_end hh st.2.1 st.2.2 hi hE
theorem turn_enumT {P : Program} {w : World} {K : PySem.W.Frag} {elts : List Expr} {kk : Nat} {tpos : Pos} (a e it : Addr) :
    Turn P w K (.Tuple elts kk tpos) (IteT K a) [e, it] e (fun i h => (∃ old, IsEnum h e it ((i : Nat) : Int) old) ∧ h.IsTupleIter it a i ∧ e ≠ it) where
  mem := by simp
  obj := fun i h st b hb => by
    obtain ⟨⟨old, he⟩, ⟨o, ho, hc, hd⟩, _⟩ := st
    have e' : b = e ∨ b = it := by simpa using hb
    rcases e' with rfl | rfl
    · exact ⟨_, he, fun v q => nomatch q⟩
    · exact ⟨o, ho, fun v q => by rw [hd] at q; cases q⟩
  keep := fun i h h' st k => by
    obtain ⟨⟨old, he⟩, hi, hne⟩ := st
    exact ⟨⟨old, k e (by simp) _ he⟩, hi.at fun o q => k it (by simp) o q, hne⟩
  item := by
    intro X hP hw hK hc i pins s σ H E I hf st hg
    subst hP hw hK
    obtain ⟨⟨old, he⟩, hit, hne⟩ := st
    obtain ⟨xs, x, hq, hx⟩ := hg
    obtain ⟨its, rv, p, hz⟩ := I.tuple hq
    have pt : s.heap.IsTuple a its.toArray := p
    obtain ⟨u, hu, ru⟩ := rv.get hx
    obtain ⟨hea, hai⟩ := enum_tup_ne he hit pt
    have hel : e < s.heap.objs.size := Heap.lt_size he
    have hil : it < s.heap.objs.size := by obtain ⟨_, q, _⟩ := hit; exact Heap.lt_size q
    have hlt : i < its.toArray.size := by rw [List.size_toArray]; exact (List.getElem?_eq_some_iff.mp hu).1
    have hh : X.A.in1.handled = none := by simp [I.ok.hd hc]
    refine wpAny_pyNext_enum_itemD (Draws.tuple hh it a hai its.toArray) he ⟨hit, pt⟩ hlt hne (by simp [hne, hea]) fun y h' tk hy ho hst hT hsz hk => ?_
    have eyu : y = u := by
      have h1 : its.toArray[i]? = some y := hy
      rw [show its.toArray[i]? = its[i]? from by simp, hu] at h1
      exact (Option.some.inj h1).symm
    subst eyu
    refine ⟨_, rfl, wpAny_letOwnedTupleGo_enum (s := { s with heap := h', toks := tk + 1 }) ho fun h'' he' sb => ?_⟩
    have hT2 : h''.get? s.heap.objs.size = some { cls := .type "tuple", data := .seq #[.int i tk, y] } := (sb.2 _ (Nat.ne_of_gt hel)).trans hT
    have new : ObjOk X.prog X.w (upd H s.heap.objs.size (.tup [.int (i : Nat), x])) h'' s.heap.objs.size (.tup [.int (i : Nat), x]) :=
      ⟨by show 2 ≤ sizeLine; decide, [.int i tk, y], .cons ⟨_, rfl⟩ (.cons ru .nil), ⟨_, hT2, rfl, _, rfl⟩⟩
    have apart : ∀ b, b ∉ [e, it] → b ≠ e ∧ b ≠ it := fun b hb => by simpa using hb
    have I1 : Inv X pins σ (upd H s.heap.objs.size (.tup [.int (i : Nat), x])) { s with heap := h'', toks := tk + 1 } :=
      I.turnedNew (ch := [e, it]) (fun b ob hb q => (sb.2 b (apart b hb).1).trans (hk b ob (apart b hb).1 (apart b hb).2 q)) hf (Nat.le_refl _) new
    refine ⟨.ref s.heap.objs.size, _, I1, rfl, ⟨_, x, rfl, I.hok.fresh (Nat.le_refl _), rfl, fun ys hy => by rw [I.tuple_inj hy hq]; exact hx⟩, ⟨⟨y, ?_⟩, hst.1.at fun o q => (sb.2 it (Ne.symm hne)).trans q, hne⟩, fun b hb => ?_⟩
    · rw [show ((i + 1 : Nat) : Int) = (i : Int) + 1 by omega]
      exact he'
    · have hb' : b < s.heap.objs.size := by
        have e' : b = e ∨ b = it := by simpa using hb
        rcases e' with rfl | rfl
        · exact hel
        · exact hil
      rw [upd_ne (Nat.ne_of_lt hb')]
      exact (hf b hb).1
  done := by
    intro X hP hw hK hc i pins s σ H E I hf st hg
    subst hP hw hK
    obtain ⟨⟨old, he⟩, hit, hne⟩ := st
    obtain ⟨xs, hq, hx⟩ := hg
    obtain ⟨its, rv, p, hz⟩ := I.tuple hq
    have pt : s.heap.IsTuple a its.toArray := p
    obtain ⟨f0, f1, f2, f3, f4, f5⟩ := hf it (by simp)
    have hl := rv.length
    have hh : X.A.in1.handled = none := by simp [I.ok.hd hc]
    exact wpAny_pyNext_enum_endD (draws_end hh it a its.toArray (i := i) (by simp; omega)) he ⟨rfl, hit, pt⟩ fun h' eb => ⟨rfl, I.turned (t' := s.toks) (fun b o hb q => eb b o hb q) f0 f1 f3 f4 f5⟩
  self := fun A i s Q E st h => let ⟨⟨_, he⟩, _⟩ := st; wpAny_pyIter_enum he h
def iEnumT (K : PySem.W.Frag) (ta : TA) : TI := fun σ H R => ta σ H fun vs H1 => ∃ a xs, vs = [.ref a] ∧ SqT K H1 a xs ∧ R (IteT K a) H1
theorem pi_enumT {X : Cx} {e : Expr} {ta : TA} {p pos tpos : Pos} {elts : List Expr} {kk : Nat} (hg : Gl X "enumerate") (hm : X.mg "enumerate" = none) (ha : PA X [e] ta) (hs : starEach [e] X.env = [(false, eval e X.env)] := by rfl) :
    PI X (.Tuple elts kk tpos) (.Call (.Name "enumerate" p) [e] [] pos) (iEnumT X.K ta) := by
  refine ⟨fun pins s σ H R I h => ?_⟩
  refine Call_ (ld_blt I hg hm boot_enumerate (PyProof.Rows.callWith_type1 (thn (ha.run pos pins s σ H _ I h) fun us s1 ⟨vs, H1, I1, r1, q1⟩ => ?_) hs rfl))
  obtain ⟨a, xs, rfl, hq, q⟩ := q1
  cases r1 with
  | cons r rr =>
    cases rr
    cases r
    obtain ⟨its, rv, p', hz⟩ := I1.tuple hq
    have pt : s1.heap.IsTuple a its.toArray := p'
    refine call_enumT (begins_tuple a its.toArray) pt fun h' he hit hk => wpAny_pyIter_enum he ?_
    have I2 : Inv X pins σ H1 { s1 with heap := h' } := I1.kept (t' := s1.toks) hk
    have young : ∀ b ∈ [s1.heap.objs.size + 1, s1.heap.objs.size], FpOk X pins H1 b := fun b hb => by
      have hle : s1.heap.objs.size ≤ b := by
        have e' : b = s1.heap.objs.size + 1 ∨ b = s1.heap.objs.size := by simpa using hb
        rcases e' with rfl | rfl
        · exact Nat.le_add_right _ _
        · exact Nat.le_refl _
      exact I1.fpOk hle (I1.hok.fresh hle)
    exact ⟨s1.heap.objs.size + 1, [s1.heap.objs.size + 1, s1.heap.objs.size], _, _, H1, rfl, I2, turn_enumT a (s1.heap.objs.size + 1) s1.heap.objs.size, ⟨⟨.none, he⟩, ⟨_, hit, rfl, rfl⟩, Nat.succ_ne_self _⟩, young, q⟩
end DL

/-! DLq: min of a list of pairs. -/
namespace DL
open PySem PySem.Spec PyProof.Rows L2 PySem.W
variable [TabNames]

def prP (k : Int × Int) : PyData := .tuple [.int k.1, .int k.2]
def lePr (m y : Int × Int) : Prop := m.1 < y.1 ∨ (m.1 = y.1 ∧ m.2 ≤ y.2)
theorem lt_prP (x y : Int × Int) : dataLt (prP x) (prP y) = true ↔ x.1 < y.1 ∨ (x.1 = y.1 ∧ x.2 < y.2) := by
  unfold prP
  rw [dataLt_tuple]
  by_cases h : x.1 = y.1
  · rw [dataLt_all_yes (by rfl) (by rw [h]; simp [PyData.eqv])]
    by_cases h2 : x.2 = y.2
    · rw [dataLt_all_yes (by rfl) (by rw [h2]; simp [PyData.eqv])]
      constructor
      · intro z
        exact absurd z (by decide)
      · omega
    · rw [dataLt_all_no (by rfl) (by simp [PyData.eqv, h2]), dataLt_int, decide_eq_true_eq]
      omega
  · rw [dataLt_all_no (by rfl) (by simp [PyData.eqv, h]), dataLt_int, decide_eq_true_eq]
    omega
theorem minP_spec : ∀ (xs : List (Int × Int)) (x : Int × Int), ∃ m, m ∈ x :: xs ∧ minD (prP x) (xs.map prP) = prP m ∧ ∀ y ∈ x :: xs, lePr m y
  | [], x => ⟨x, List.mem_cons_self, rfl, fun y hy => by
    have e : y = x := by simpa using hy
    rw [e]
    exact .inr ⟨rfl, Int.le_refl _⟩⟩
  | z :: r, x => by
    have e : ∀ w, (if dataLt (prP z) (prP x) = true then prP z else prP x) = prP w → minD (prP x) ((z :: r).map prP) = minD (prP w) (r.map prP) := fun w hw => by
      show List.foldl _ (if dataLt (prP z) (prP x) = true then prP z else prP x) (r.map prP) = _
      rw [hw]
      rfl
    by_cases h : dataLt (prP z) (prP x) = true
    · obtain ⟨m, hm, h1, h2⟩ := minP_spec r z
      refine ⟨m, List.mem_cons_of_mem _ hm, (e z (if_pos h)).trans h1, fun y hy => ?_⟩
      rcases List.mem_cons.mp hy with rfl | hy
      · have h3 := h2 z List.mem_cons_self
        have h4 := (lt_prP z y).mp h
        unfold lePr at h3 ⊢
        omega
      · exact h2 y hy
    · obtain ⟨m, hm, h1, h2⟩ := minP_spec r x
      have h3 := h2 x List.mem_cons_self
      refine ⟨m, ?_, (e x (if_neg h)).trans h1, fun y hy => ?_⟩
      · rcases List.mem_cons.mp hm with rfl | hm
        · exact List.mem_cons_self
        · exact List.mem_cons_of_mem _ (List.mem_cons_of_mem _ hm)
      · rcases List.mem_cons.mp hy with rfl | hy
        · exact h3
        · rcases List.mem_cons.mp hy with rfl | hy
          · have h4 := (not_congr (lt_prP y x)).mp h
            unfold lePr at h3 ⊢
            omega
          · exact h2 y (List.mem_cons_of_mem _ hy)
theorem reads_ints2 {h : Heap} {vs : List Value} {a b : Int × Int} {as bs : List Addr} (r1 : ReadsAll h vs [.int a.1, .int a.2] as) (r2 : ReadsAll h vs [.int b.1, .int b.2] bs) : a = b := by
  cases r1 with
  | cons p1 q1 =>
    cases q1 with
    | cons p2 q2 =>
      cases q2
      cases r2 with
      | cons p3 q3 =>
        cases q3 with
        | cons p4 q4 =>
          cases p1
          cases p2
          obtain ⟨a1, a2⟩ := a
          obtain ⟨b1, b2⟩ := b
          cases p3
          cases p4
          rfl
theorem reads_prP {h : Heap} {v : Value} {a b : Int × Int} {as bs : List Addr} (r1 : Reads h v (prP a) as) (r2 : Reads h v (prP b) bs) : a = b := by
  unfold prP at r1 r2
  cases r1 with
  | tuple g1 c1 d1 q1 =>
    cases r2 with
    | tuple g2 c2 d2 q2 =>
      rw [g1] at g2
      cases g2
      rw [d1] at d2
      cases d2
      exact reads_ints2 q1 q2
def rMinP (K : PySem.W.Frag) : List V → Hp → VK → Prop := fun vs H Q => ∃ (a : Addr) (xs : List V) (ks : List (Int × Int)), vs = [V.ref a] ∧ SqL K H a xs ∧ DpAll K H xs (ks.map prP) ∧ ks ≠ [] ∧
  ∀ (i : Nat) (v : V) (m : Int × Int), xs[i]? = some v → ks[i]? = some m → (∀ y ∈ ks, lePr m y) → Q v H
theorem cr_minP {X : Cx} (hc : X.calm = true) (hu : X.A.units + 64 < cLine) : CallR X (.builtin "min") (rMinP X.K) := by
  intro pins s σ H vs us Q I r h
  obtain ⟨a, xs, ks, rfl, hs, hdp, hne, q⟩ := h
  obtain ⟨its, rv, hl, _⟩ := I.list hs
  obtain ⟨as, hr⟩ := Dp.readsAll I _ _ its hdp rv
  rw [Vals.ref1 r]
  cases ks with
  | nil => exact absurd rfl hne
  | cons k ks =>
    have alike2 : ∀ x ∈ prP k :: ks.map prP, ∃ m : Int × Int, x = prP m := fun x hx => by
      rcases List.mem_cons.mp hx with rfl | hx
      · exact ⟨_, rfl⟩
      · obtain ⟨m, _, rfl⟩ := List.mem_map.mp hx
        exact ⟨_, rfl⟩
    have depth2 : ∀ l : List (Int × Int), PyData.depthAll (l.map prP) ≤ 2 := fun l => by
      induction l with
      | nil => exact Nat.zero_le _
      | cons x l ih => exact Nat.max_le.mpr ⟨by simp [prP, PyData.depth, PyData.depthAll], ih⟩
    have dk := depth2 (k :: ks)
    refine min_list_data (vs := its.toArray) (x := prP k) (xs := ks.map prP) (I.ok.hd hc) hl.isList (as := as) (by simpa using hr) ⟨fun x hx y hy => ?_, fun x hx => ?_⟩ (by
      have e : PyData.depthAll (prP k :: ks.map prP) ≤ 2 := dk
      omega) fun i v h' tk bs hv hrd hk => ?_
    · obtain ⟨m, rfl⟩ := alike2 x hx
      obtain ⟨m', rfl⟩ := alike2 y hy
      rfl
    · obtain ⟨m, rfl⟩ := alike2 x hx
      intro z
      cases z
    · have hv' : its[i]? = some v := by simpa using hv
      have hi := (List.getElem?_eq_some_iff.mp hv').1
      obtain ⟨x, hx⟩ : ∃ x, xs[i]? = some x := ⟨_, List.getElem?_eq_getElem (by rw [rv.length]; exact hi)⟩
      obtain ⟨u, hu2, ru⟩ := rv.get hx
      rw [hv'] at hu2
      cases hu2
      obtain ⟨cs, hrd2, hlen, _, _⟩ := readsAll_at hr i v hv'
      obtain ⟨m0, hm0⟩ : ∃ m0, (k :: ks)[i]? = some m0 := ⟨_, List.getElem?_eq_getElem (by rw [List.length_map] at hlen; exact hlen)⟩
      have e0 : (List.map prP (k :: ks)).getD i .none = prP m0 := by
        rw [List.getD_eq_getElem?_getD, List.getElem?_map, hm0]
        rfl
      rw [e0] at hrd2
      obtain ⟨m, hm, h1, h2⟩ := minP_spec ks k
      rw [h1] at hrd
      have em := reads_prP hrd (Reads.keeps hk hrd2)
      subst em
      exact ⟨x, H, I.kept (t' := tk) hk, ru, q i x m hx hm0 h2⟩
end DL

/-! DLr: set(list of ints); the data of enumerate(tuple), of min of pairs. -/
namespace DL
open PySem PySem.Spec PyProof.Rows L2
variable [TabNames]

section
variable {P : Program} {w : World} {A : Around} {E : Value → Shared → Prop} {s : Shared}
abbrev emptySet (w : World) : Obj := { cls := .type "set", dict := none, data := .set #[] 0 (.fresh 0 0 (!w.params.followText "set-order")) }
theorem call_set_lstI {l : Addr} {items : Array Value} (ns : List Int) {Q : Value → Shared → Prop} (hh : A.handled = none) (hl : s.heap.IsList l items) (hit : IntsAre items.toList ns) (hb : ns.length + 1 < scanBound)
    (h : ∀ (h' : Heap) (tk c : Nat), SetR w h' s.heap.objs.size (fun j => decide (j ∈ ns)) c → c ≤ ns.length → (∀ b o, s.heap.get? b = some o → h'.get? b = some o) → Q (.ref s.heap.objs.size) { s with heap := h', toks := tk }) :
    wpAny (model P w) A (call (.type "set") [.ref l]) Q E s := by
  have many : items.size = ns.length := by
    have q := IntsAre.length hit
    rwa [Array.length_toList] at q
  obtain ⟨c, tl, mro⟩ := F.called_set.mro
  have made := F.called_set.made
  have sub := F.called_set.sub
  refine wpAny_call (codeAny_of_tree ?_)
  show wpAny _ _ (callAny (.type "set") _) _ _ _
  refine wpAny_pure ⟨Code.quiet_builtin _ (by decide +kernel), codeAny_builtin F.entry_type_call ?_⟩
  rw [Around.under_plain (weight_type_call_type "set" [.ref l] []) rfl]
  have t1 := F.called_set.notType
  have t2 := F.called_set.canCreate
  have t3 := F.typeCall_set_1 (.ref l)
  repeat (any_goals (first | assumption | wp_step))
  refine codeAny_mono (code_set_led1 (.ref l) (E := E) (Q₁ := fun obj s₁ => obj = .ref s.heap.objs.size ∧ s₁ = { s with heap := s.heap.push (emptySet w) }) ⟨rfl, rfl⟩) fun r s₁ hr => ?_
  cases r with
  | error e => exact hr
  | ok fl =>
    cases fl with
    | ret obj =>
      obtain ⟨rfl, rfl⟩ := hr
      have here : (s.heap.push (emptySet w)).get? s.heap.objs.size = some (emptySet w) := Heap.get?_push_size _ rfl
      have kind : Shared.TypeIs { s with heap := s.heap.push (emptySet w) } (.ref s.heap.objs.size) "set" := ⟨_, here, rfl⟩
      have i1 := F.called_set.init.lookup
      have i2 := F.called_set.init.bind (.ref s.heap.objs.size)
      repeat (any_goals (first | assumption | wp_step))
      refine codeAny_mono (codeAny_call_builtin (R := wants (fun r s₂ => r = .none ∧ ∃ h' tk c, s₂ = { s with heap := h', toks := tk } ∧ SetR w h' s.heap.objs.size (fun j => decide (j ∈ ns)) c ∧ c ≤ ns.length ∧ (∀ b o, s.heap.get? b = some o → h'.get? b = some o)) E) F.called_set.init.plain F.entry_set_init (check_set_init_1 kind ?_)) fun r₂ s₂ hr₂ => ?_
      · obtain ⟨⟨ocls, odict, odata, oslots⟩, hol, hcl, nl, hdl⟩ := hl
        simp only at hcl hdl
        subst hcl
        subst hdl
        have hol' : (s.heap.push (emptySet w)).get? l = some { cls := .type "list", dict := odict, data := .seq items nl, slots := oslots } := Heap.get?_push_of_some _ hol
        have f1 := F.sub_list_set
        have f2 := F.sub_list_frozenset
        have f3 : (Value.type "list" == Value.type "dict") = false := by decide
        have hl1 : (s.heap.push (emptySet w)).IsList l items := ⟨_, hol', rfl, nl, rfl⟩
        unfold Builtin.«set.__init__» noKeywords Builtin.Frozenset.updateFrom
        generalize hPI : pyIter = PI
        wp_walk
        subst hPI
        refine wpAny_pyIter_list hl1 ?_
        refine wpAny_bind (wpAny_runValue ?_)
        have hlS : l < s.heap.objs.size := Heap.lt_size hol
        have hh3 : A.in1.in1.in1.handled = none := by simp [hh]
        have sz : (s.heap.push (emptySet w)).objs.size = s.heap.objs.size + 1 := Heap.size_push ..
        have hneI : l ≠ (s.heap.push (emptySet w)).objs.size := by
          rw [sz]
          exact Nat.ne_of_lt (Nat.lt_succ_of_lt hlS)
        have hSf : s.heap.objs.size ∉ [(s.heap.push (emptySet w)).objs.size, l] := by
          rw [sz]
          simp only [List.mem_cons, List.not_mem_nil, or_false, not_or]
          exact ⟨Nat.ne_of_lt (Nat.lt_succ_self _), Nat.ne_of_gt hlS⟩
        have hval : ∀ (i : Nat) (v : Value), items[i]? = some v → ∃ k t, ns[i]? = some k ∧ v = .int k t := fun i v hv => by
          have hi : i < ns.length := many ▸ (Array.getElem?_eq_some_iff.mp hv).1
          obtain ⟨t, e⟩ := PyProof.Rows.IntsAre.int_at hit i v (by rw [Array.getElem?_toList]; exact hv)
          refine ⟨ns[i], t, List.getElem?_eq_getElem hi, e.trans ?_⟩
          rw [List.getD_eq_getElem?_getD, List.getElem?_eq_getElem hi]
          rfl
        refine set_update_ints ((Walks.list hh3 _ l hneI items).toS) s.heap.objs.size hSf ns many hb hval (items.size - 0) 0 _ (by omega) (Nat.zero_le _) ⟨⟨_, Heap.get?_push_size _ rfl, rfl, rfl⟩, (hl1.push _)⟩ ?first ?rest
        case first => exact ⟨0, Nat.le_refl 0, setR_new_at (Heap.get?_push_of_some _ here)⟩
        case rest =>
          intro s' c' hm hc' hS'
          obtain ⟨h', g2, d', tk', os'⟩ := s'
          have eg : g2 = s.gens := hm.gens
          have ed : d' = s.drawn := hm.drawn
          have eo : os' = s.os := hm.os
          subst eg ed eo
          show wpAny _ _ _ _ _ _
          refine wpAny_pure ?_
          show wpAny _ _ (ret Value.none) _ _ _
          rw [many] at hc'
          refine wpAny_pure ⟨rfl, h', tk', c', rfl, hS', hc', fun b o e => ?_⟩
          have hb0 : b < s.heap.objs.size := Heap.lt_size e
          refine hm.heap b o ?_ (Heap.get?_push_of_some _ (Heap.get?_push_of_some _ e))
          rw [sz]
          simp only [List.mem_cons, List.not_mem_nil, or_false, not_or]
          exact ⟨Nat.ne_of_lt hb0, Nat.ne_of_lt (Nat.lt_succ_of_lt hb0)⟩
      · cases r₂ with
        | error e => exact hr₂
        | ok fl₂ =>
          cases fl₂ with
          | ret r =>
            obtain ⟨rfl, h', tk, c', rfl, hS', hc', hk'⟩ := hr₂
            repeat (any_goals (first | assumption | wp_step))
            exact h _ _ _ hS' hc' hk'
          | _ => exact hr₂.elim
    | _ => exact hr.elim
end
/-! ### sorted(set(x)), x a list of ints -/
def rSetL (K : PySem.W.Frag) (w : World) : List V → Hp → VK → Prop := fun xs H Q => ∃ (p : Addr) (ns : List Int), xs = [.ref p] ∧ SqL K H p (ns.map V.int) ∧ ns.length ≤ 1500 ∧
  ∀ (a : Addr) (c : Nat), H a = none → c ≤ ns.length → Q (.ref a) (upd H a (SetO w a (fun j => decide (j ∈ ns)) c))
theorem cr_setL {X : Cx} (hc : X.calm = true) : CallR X (.type "set") (rSetL X.K X.w) := by
  intro pins s σ H xs us Q I r h
  obtain ⟨p, ns, rfl, hq, hl, q⟩ := h
  cases r with
  | cons r rr =>
    cases rr
    cases r
    obtain ⟨its, rv, pt, hz⟩ := I.list hq
    refine call_set_lstI ns (I.ok.hd hc) pt.isList (show IntsAre its.toArray.toList ns from ints_of_vals rv) (by unfold scanBound; omega) fun h' tk c R1 hcn kp => ?_
    have hn : H s.heap.objs.size = none := I.hok.fresh (Nat.le_refl _)
    have J : Inv X pins σ (upd H s.heap.objs.size (SetO X.w s.heap.objs.size (fun j => decide (j ∈ ns)) c)) { s with heap := h', toks := tk } :=
      I.call (ch := []) (Un.laid kp (Nat.le_refl _) hn) (I.hok.laid kp (Nat.le_refl _) (setO_new R1)) I.bare (fun _ z => nomatch z)
    exact ⟨.ref _, _, J, rfl, q _ c hn hcn⟩
def tSSetL (K : PySem.W.Frag) (w : World) (te : TE) : TE := tCB (rSortedSB w) (tCons (tCB (rSetL K w) (tCons te tNil)) tNil)
@[simp] def dSSetL (de : DE) : DE := fun δ N C => de δ N fun s N1 => match s.rd with
  | .lst ds => ∃ ns : List Int, ds = ns.map D.int ∧ ns.length ≤ 1500 ∧ ∀ ms : List Int, ms.Pairwise (· < ·) → (∀ k : Int, k ∈ ms ↔ k ∈ ns) → C (.own (ms.map D.int)) N1
  | _ => False
section
variable {X : Cx} {G : Gg} {e : Expr} {te : TE} {de : DE} {p p2 q pos : Pos}
theorem snd_ssetL {w : World} (h : Snd G te de) : Snd G (tSSetL G.K w te) (dSSetL de) := by
  refine ⟨fun B Z δ σ H N C Q hB S hd q => ?_⟩
  subst hB
  refine h.run B Z δ σ H N _ _ rfl S hd fun s x H1 k1 e1 r1 h1 => ?_
  have w1 := (r1.tp S.ztt).dw
  split at h1
  · rename_i ds hs
    rw [hs] at w1
    obtain ⟨a, xs, rfl, ha, r⟩ := w1
    obtain ⟨ns, rfl, hl, h3⟩ := h1
    have hxs := r.ints
    subst hxs
    refine ⟨a, ns, rfl, .of ha, hl, fun b c hb hcn => ⟨b, _, c, rfl, upd_same, by omega, fun ms l hasc hmem hll => ?_⟩⟩
    have ep1 := ExK.new (o := SetO w b (fun j => decide (j ∈ ns)) c) hb
    have ep : ExK 0 H1 _ := ep1.trans (ExK.new (o := .lst (ms.map V.int)) hll)
    exact q (.own (ms.map D.int)) _ _ k1 (e1.trans ep) ⟨l, _, rfl, e1.back (ep1.back hll), upd_same, .ofInts _⟩ (h3 ms hasc fun k => by rw [hmem k, decide_eq_true_eq])
  · exact h1.elim
theorem x_ssetL (hc : X.calm = true) (hg : Gl X "sorted") (hm : X.mg "sorted" = none) (hg2 : Gl X "set") (hm2 : X.mg "set" = none) (h : XE X G e te de) (hK : G.K = X.K := by rfl)
    (hs : starEach [e] X.env = [(false, eval e X.env)] := by rfl) (hs2 : starEach [.Call (.Name "set" p2) [e] [] q] X.env = [(false, eval (.Call (.Name "set" p2) [e] [] q) X.env)] := by rfl) :
    XE X G (.Call (.Name "sorted" p) [.Call (.Name "set" p2) [e] [] q] [] pos) (tSSetL G.K X.w te) (dSSetL de) :=
  ⟨by rw [hK]; exact pe_callB (cr_sortedSB hc) hg hm PyProof.Rows.boot_sorted (pa_cons (pe_callTy (cr_setL hc) hg2 hm2 PyProof.Rows.boot_set (pa_cons h.pe pa_nil hs) (by decide) (by decide) hs rfl) pa_nil hs2) (by decide) (by decide) hs2 rfl, snd_ssetL h.sn⟩
end
/-! ### enumerate(t), t a tuple -/
theorem walks_enumT {K : PySem.W.Frag} {a : Addr} {ds : List D} : Walks K (IteT K a) [(.tup ds, .ref a)] (enumFrom 0 ds) where
  go := fun N H Z i d hz ht hd => by
    have h : Dt K N H Z (.ref a) (.tup ds) := ht (.tup ds, .ref a) (by simp)
    obtain ⟨e, he, rfl⟩ := enum_get hd
    cases h with
    | tup ha r =>
      obtain ⟨v, h1, h2⟩ := r.get he
      refine ⟨⟨_, v, .of ha, h1⟩, fun x H' y => ?_⟩
      obtain ⟨T, x1, rfl, hT, rfl, f⟩ := y
      have e1 := f _ (.of ha)
      rw [h1] at e1
      cases e1
      have ep := ExK.new (o := .tup [.int (i : Nat), v]) hT
      refine ⟨ep, .tup upd_same (.cons ?_ (.cons (h2.ex0 ep) .nil))⟩
      rw [Nat.zero_add]
      exact .v _
  stop := fun N H Z i ht hi => by
    have h : Dt K N H Z (.ref a) (.tup ds) := ht (.tup ds, .ref a) (by simp)
    rw [enum_len] at hi
    cases h with
    | tup ha r => exact ⟨_, .of ha, by rw [r.length]; exact hi⟩
section
variable {X : Cx} {G : Gg} {e : Expr} {ta : TA} {da : DA} {p pos : Pos}
@[simp] def dEnumT (da : DA) : DI := fun δ N C => da δ N fun ss N1 => match ss with
  | [.dat (.tup ds)] => C (enumFrom 0 ds) N1
  | _ => False
theorem snd_enumT (h : SndA G ta da) : SndI G (iEnumT G.K ta) (dEnumT da) := by
  refine ⟨fun B Z δ σ H N C R hB S hd q => ?_⟩
  subst hB
  refine h.run B Z δ σ H N _ _ rfl S hd fun ss vs H1 k1 e1 r1 h1 => ?_
  split at h1
  · rename_i ds
    obtain ⟨x, rfl, hx⟩ := pair1 r1
    have hx' : Dt B.K (N + k1) H1 Z x (.tup ds) := hx
    have hx2 := hx'
    cases hx2 with
    | @tup a xs _ ha r =>
      refine ⟨a, xs, rfl, .of ha, q _ _ [(.tup ds, .ref a)] H1 k1 e1 (fun p hp => ?_) walks_enumT h1⟩
      have e : p = (.tup ds, .ref a) := by simpa using hp
      subst e
      exact hx'
  · exact h1.elim
theorem xi_enumT {tpos : Pos} {elts : List Expr} {kk : Nat} (hg : Gl X "enumerate") (hm : X.mg "enumerate" = none) (ha : XA X G [e] ta da) (hK : G.K = X.K := by rfl) (hs : starEach [e] X.env = [(false, eval e X.env)] := by rfl) :
    XI X G (.Tuple elts kk tpos) (.Call (.Name "enumerate" p) [e] [] pos) (iEnumT G.K ta) (dEnumT da) := ⟨by rw [hK]; exact pi_enumT hg hm ha.pe hs, snd_enumT ha.sn⟩
end
/-! ### min of a list of pairs -/
def prDD (k : Int × Int) : D := .tup [.int k.1, .int k.2]
def dMinP : DC := fun ds k => ∃ ks : List (Int × Int), ds = [.lst (ks.map prDD)] ∧ ks ≠ [] ∧ ∀ (i : Nat) (m : Int × Int), ks[i]? = some m → (∀ y ∈ ks, lePr m y) → k (.dat (prDD m))
theorem pys_prDD : ∀ ks : List (Int × Int), D.pys (ks.map prDD) = ks.map prP
  | [] => rfl
  | k :: ks => by
    show D.py (prDD k) :: D.pys (ks.map prDD) = prP k :: ks.map prP
    rw [pys_prDD ks]
    rfl
theorem oks_prDD : ∀ ks : List (Int × Int), D.oks 5 (ks.map prDD) = true
  | [] => rfl
  | k :: ks => by
    show (D.ok 5 (prDD k) && D.oks 5 (ks.map prDD)) = true
    rw [oks_prDD ks]
    rfl
theorem c_minP {X : Cx} (hc : X.calm = true) (hu : X.A.units + 64 < cLine) {K : PySem.W.Frag} (hK : X.K = K := by rfl) : XC X (.builtin "min") (rMinP K) dMinP := by
  subst hK
  refine ⟨cr_minP hc hu, ⟨fun B Z N H xs ds C Q hK hz hr hd q => ?_⟩⟩
  obtain ⟨ks, rfl, hne, hk⟩ := hd
  obtain ⟨x, rfl, h⟩ := pair1 hr
  obtain ⟨a, ys, rfl, ha, r⟩ := h
  have hdp := r.dp 5 (oks_prDD ks)
  rw [pys_prDD, hK] at hdp
  refine ⟨a, ys, ks, rfl, .of ha, hdp, hne, fun i v m hv hm hmin => ?_⟩
  obtain ⟨d, hd2, hdt⟩ := r.getv hv
  rw [List.getElem?_map, hm] at hd2
  cases hd2
  exact q (.dat (prDD m)) v H (ExK.refl H) hdt (hk i m hm hmin)
end DL

/-! SPa: what the defs promise, by data (valid arguments). -/
namespace LAW
open PySem PySem.Spec PyProof.Rows L2 DL
variable [TabNames]

def capD : Option Int → D
  | none => .non
  | some c => .int c
def ruleD (p t : Int) (c : Option Int) : D := .tup [.int p, .int t, capD c]
def ridesD (ns : List Int) : D := .tup (ns.map D.int)
structure VRule (p t : Int) (c : Option Int) : Prop where
  p0 : 0 ≤ p
  p1 : p ≤ 1000
  t0 : 1 ≤ t
  t1 : t ≤ 1440
  c0 : ∀ x, c = some x → 0 ≤ x ∧ x ≤ 1000000
structure VRides (m : Nat) (ns : List Int) : Prop where
  len : ns.length ≤ m
  rg : ∀ x ∈ ns, 0 ≤ x ∧ x ≤ 1439
  asc : ns.Pairwise (· < ·)
/-- the rides for which a ticket is bought -/
def bstep (L : Int) (acc : List Int) (x : Int) : List Int := match acc.getLast? with
  | none => acc ++ [x]
  | some l => if l + L ≤ x then acc ++ [x] else acc
def boughtF (L : Int) (ns : List Int) : List Int := ns.foldl (bstep L) []
def moneyF (p : Int) (c : Option Int) (n : Int) : Int := match c with
  | none => n * p
  | some c => min (n * p) c
def costF (p t : Int) (c : Option Int) (ns : List Int) : Int := moneyF p c (boughtF t ns).length
def upF (a b : Int) : Int := (a + b - 1) / b
def natsI (n : Int) : List Int := (List.range n.toNat).map fun i : Nat => (i : Int)
/-- the numbers of tickets that cost that much -/
def ticks (p t : Int) (c : Option Int) (paid : Int) : List Int := (natsI (upF 1440 t + 1)).filter fun n => decide (moneyF p c n = paid)
/-- first and last, or None -/
def spanD : List Int → D
  | [] => .non
  | x :: r => .tup [.int x, .int ((x :: r).getLast (List.cons_ne_nil _ _))]

/-- what isinstance knows -/
def plainD : D → Bool
  | .v .non => true
  | .v (.bl _) => true
  | .v (.int _) => true
  | .v (.str _) => true
  | .tup _ => true
  | .lst _ => true
  | _ => false
/-- an int from lo to hi -/
def inRD : D → Int → Int → Bool
  | .v (.int i), lo, hi => decide (lo ≤ i) && decide (i ≤ hi)
  | _, _, _ => false
def dsp_P_in_range : DSp := fun ds N C _ => ∃ (d : D) (lo hi : Int), ds = [d, .int lo, .int hi] ∧ plainD d = true ∧ C (.dat (.bl (inRD d lo hi))) N
def dsp_P_is_rule : DSp := fun ds N C _ => ∃ p t c, ds = [ruleD p t c] ∧ VRule p t c ∧ C (.dat (.bl true)) N
def dsp_P_is_rides : DSp := fun ds N C _ => ∃ ns, ds = [ridesD ns] ∧ VRides 60 ns ∧ C (.dat (.bl true)) N
def dsp_P_check_rule : DSp := fun ds N C _ => ∃ p t c, ds = [ruleD p t c] ∧ VRule p t c ∧ C (.dat .non) N
def dsp_P_check_rides : DSp := fun ds N C _ => ∃ ns, ds = [ridesD ns] ∧ VRides 60 ns ∧ C (.dat .non) N
def dsp_P_check_number : DSp := fun ds N C _ => ∃ i lo hi : Int, ds = [.int i, .int lo, .int hi] ∧ (lo ≤ i ∧ i ≤ hi) ∧ C (.dat .non) N
/-- ints in a tuple or a list -/
def IntsD (d : D) (ns : List Int) : Prop := d = .tup (ns.map D.int) ∨ d = .lst (ns.map D.int)
def dsp_P_bought_of : DSp := fun ds N C _ => ∃ L d ns, ds = [.int L, d] ∧ (IntsD d ns ∧ ns.length ≤ 2000) ∧ C (.own ((boughtF L ns).map D.int)) N
def dsp_P_money : DSp := fun ds N C _ => ∃ p t c n, ds = [ruleD p t c, .int n] ∧ (0 ≤ p ∧ p ≤ 1000) ∧ C (.dat (.int (moneyF p c n))) N
def dsp_P_cost_of : DSp := fun ds N C _ => ∃ p t c d ns, ds = [ruleD p t c, d] ∧ (IntsD d ns ∧ ns.length ≤ 2000 ∧ 0 ≤ p ∧ p ≤ 1000) ∧ C (.dat (.int (costF p t c ns))) N
def dsp_P_bought : DSp := fun ds N C _ => ∃ p t c ns, ds = [ruleD p t c, ridesD ns] ∧ (VRule p t c ∧ VRides 60 ns) ∧ C (.own ((boughtF t ns).map D.int)) N
def dsp_P_cost : DSp := fun ds N C _ => ∃ p t c ns, ds = [ruleD p t c, ridesD ns] ∧ (VRule p t c ∧ VRides 60 ns) ∧ C (.dat (.int (costF p t c ns))) N
def dsp_P_up : DSp := fun ds N C _ => ∃ a b : Int, ds = [.int a, .int b] ∧ (0 < b ∧ b < 1073741824) ∧ C (.dat (.int (upF a b))) N
def dsp_P_most_tickets : DSp := fun ds N C _ => ∃ p t c, ds = [ruleD p t c] ∧ (1 ≤ t ∧ t ≤ 1440) ∧ C (.dat (.int (upF 1440 t))) N
def dsp_P_tickets_for : DSp := fun ds N C _ => ∃ (p t : Int) (c : Option Int) (paid : Int), ds = [ruleD p t c, .int paid] ∧ (VRule p t c ∧ 0 ≤ paid ∧ paid ≤ 10000000) ∧ C (.dat (spanD (ticks p t c paid))) N
/-- draws -/
def dsp_L_take : DSp := dspTake
def dsp_L_well : DSp := fun ds N C _ => ∃ cell turn : Int, ds = [.int cell, .int turn] ∧ (0 ≤ turn ∧ turn ≤ N.n) ∧ C (.dat .bag) N
def dsp_L_bags : DSp := fun ds N C _ => ∃ (ns : List Int) (k : Int), ds = [.scr ns, .int k] ∧ (0 ≤ k ∧ k ≤ 12 ∧ 9770 * 2 ≤ N.n ∧ ns.length ≤ 63) ∧ ∀ m : Nat, m ≤ 13 → C (.own (List.replicate m .bag)) N
def dsp_L_rule : DSp := fun ds N C _ => ds = [.bag] ∧ N.n + 20 ≤ LIM ∧ ∀ p t c N', VRule p t c → N ≤ N' → N' ≤ N + 11 → C (.dat (ruleD p t c)) N'
/-- a rule's parts -/
structure Ru where
  p : Int
  t : Int
  c : Option Int
abbrev Ru.d (R : Ru) : D := ruleD R.p R.t R.c
abbrev VR (R : Ru) : Prop := VRule R.p R.t R.c
def topsF (R : Ru) : Int := upF 1440 R.t
/-- by how much the first costs more for n rides that are one length apart -/
def excF (R S : Ru) (n : Int) : Int := moneyF R.p R.c n - moneyF S.p S.c (upF n (upF S.t R.t))
def cntI (R : Ru) : List Int := (List.range (topsF R).toNat).map fun i : Nat => 1 + (i : Int)
def excsF (R S : Ru) : List Int := (cntI R).map (excF R S)
def atmostF (R S : Ru) : Bool := (excsF R S).all fun x => decide (x ≤ 0)
def maxI : List Int → Int
  | [] => 0
  | x :: r => max x (maxI r)
def largestF (R S : Ru) : Int := maxI (excsF R S)
def fewestF (R S : Ru) : Option Int := (cntI R).find? fun n => decide (0 < excF R S n)
def dsp_P_excess : DSp := fun ds N C _ => ∃ (R S : Ru) (n : Int), ds = [R.d, S.d, .int n] ∧ (VR R ∧ VR S) ∧ C (.dat (.int (excF R S n))) N
def dsp_P_at_most : DSp := fun ds N C _ => ∃ R S : Ru, ds = [R.d, S.d] ∧ (VR R ∧ VR S) ∧ C (.dat (.bl (atmostF R S))) N
def dsp_P_never_dearer : DSp := fun ds N C _ => ∃ R S : Ru, ds = [R.d, S.d] ∧ (VR R ∧ VR S) ∧ C (.dat (.bl (atmostF R S))) N
def dsp_P_largest_excess : DSp := fun ds N C _ => ∃ R S : Ru, ds = [R.d, S.d] ∧ (VR R ∧ VR S) ∧ C (.dat (.int (largestF R S))) N
def dsp_P_fewest : DSp := fun ds N C _ => ∃ R S : Ru, ds = [R.d, S.d] ∧ (VR R ∧ VR S) ∧ C (.dat (capD (fewestF R S))) N
def dsp_P_fewest_rides : DSp := fun ds N C _ => ∃ R S : Ru, ds = [R.d, S.d] ∧ (VR R ∧ VR S) ∧ C (.dat (capD (fewestF R S))) N
def dsp_P_alike : DSp := fun ds N C _ => ∃ R S : Ru, ds = [R.d, S.d] ∧ (VR R ∧ VR S) ∧ C (.dat (.bl (atmostF R S && atmostF S R))) N
/-- a rule with another part -/
def putR (R : Ru) (k : Int) (x : Int) : Ru := if k = 0 then ⟨x, R.t, R.c⟩ else if k = 1 then ⟨R.p, x, R.c⟩ else ⟨R.p, R.t, some x⟩
/-- the two binary searches, by steps left -/
def upS (P : Int → Bool) : Nat → Int → Int → Int
  | 0, lo, _ => lo
  | m + 1, lo, hi => if lo < hi then (if P ((lo + hi + 1) / 2) = true then upS P m ((lo + hi + 1) / 2) hi else upS P m lo ((lo + hi + 1) / 2 - 1)) else lo
def dnS (P : Int → Bool) : Nat → Int → Int → Int
  | 0, lo, _ => lo
  | m + 1, lo, hi => if lo < hi then (if P ((lo + hi) / 2) = true then dnS P m lo ((lo + hi) / 2) else dnS P m ((lo + hi) / 2 + 1) hi) else lo
def greatestF (R S : Ru) (k : Int) (top : Nat) : Int := upS (fun x => atmostF (putR R k x) S) top 0 top
def leastF (R S : Ru) : Option Int := if atmostF (putR R 1 1440) S = true then some (dnS (fun x => atmostF (putR R 1 x) S) 1440 1 1440) else none
def dsp_P_with_part : DSp := fun ds N C _ => ∃ (R : Ru) (k x : Int), ds = [R.d, .int k, .int x] ∧ (k = 0 ∨ k = 1 ∨ k = 2) ∧ C (.dat (putR R k x).d) N
def dsp_P_greatest : DSp := fun ds N C _ => ∃ (R S : Ru) (k : Int) (top : Nat), ds = [R.d, S.d, .int k, .int top] ∧ (VR R ∧ VR S ∧ (k = 0 ∧ top ≤ 1000 ∨ k = 2 ∧ top ≤ 1000000)) ∧ C (.dat (.int (greatestF R S k top))) N
def dsp_P_greatest_price : DSp := fun ds N C _ => ∃ R S : Ru, ds = [R.d, S.d] ∧ (VR R ∧ VR S) ∧ C (.dat (.int (greatestF R S 0 1000))) N
def dsp_P_greatest_cap : DSp := fun ds N C _ => ∃ R S : Ru, ds = [R.d, S.d] ∧ (VR R ∧ VR S) ∧ C (.dat (.int (greatestF R S 2 1000000))) N
def dsp_P_least_length : DSp := fun ds N C _ => ∃ R S : Ru, ds = [R.d, S.d] ∧ (VR R ∧ VR S) ∧ C (.dat (capD (leastF R S))) N
def dsp_L_excesses : DSp := fun ds N C _ => ∃ R S : Ru, ds = [R.d, S.d] ∧ (VR R ∧ VR S) ∧ C (.own ((excsF R S).map D.int)) N
def dsp_L_good : DSp := fun ds N C _ => ∃ R S : Ru, ds = [R.d, S.d] ∧ (VR R ∧ VR S) ∧ C (.dat (.bl (atmostF R S))) N
def dsp_L_in : DSp := fun ds N C _ => ∃ (d : D) (lo hi : Int), ds = [d, .int lo, .int hi] ∧ plainD d = true ∧ C (.dat (.bl (inRD d lo hi))) N
def dsp_L_better : DSp := fun ds N C _ => ∃ (p t : Int) (c : Option Int), ds = [.bag, ruleD p t c] ∧ (VRule p t c ∧ N.n + 40 ≤ LIM) ∧ ∀ p' t' c' N', VRule p' t' c' → (∀ (m : Nat) (ns : List Int), VRides m ns → costF p' t' c' ns ≤ costF p t c ns) → N ≤ N' → N' ≤ N + 2 → C (.dat (ruleD p' t' c')) N'
/-- all days with rides at multiples of a number -/
def daysF (by' : Int) : Nat → List (List Int)
  | 0 => [[]]
  | n + 1 => daysF by' n ++ (daysF by' n).map fun r => r ++ [by' * (n : Int)]
def dsp_L_days : DSp := fun ds N C _ => ∃ cnt b : Int, ds = [.int cnt, .int b] ∧ (0 ≤ cnt ∧ cnt ≤ 10 ∧ 1 ≤ b ∧ b ≤ 3) ∧ C (.dat (.lst ((daysF b cnt.toNat).map ridesD))) N
def dsp_L_near : DSp := fun ds N C _ => ∃ (p t : Int) (c : Option Int), ds = [.bag, ruleD p t c] ∧ (VRule p t c ∧ N.n + 40 ≤ LIM) ∧ ∀ p t c N', VRule p t c → N ≤ N' → N' ≤ N + 12 → C (.dat (ruleD p t c)) N'
def dsp_L_rides : DSp := fun ds N C _ => ∃ (m p t : Int) (c : Option Int), ds = [.bag, .int m, ruleD p t c] ∧ (0 ≤ m ∧ m ≤ 60 ∧ 1 ≤ t ∧ t ≤ 1440 ∧ N.n + 300 ≤ LIM) ∧ ∀ ns N', VRides m.toNat ns → N ≤ N' → N' ≤ N + 243 → C (.dat (ridesD ns)) N'
def dsp_L_money : DSp := fun ds N C _ => ∃ p t c n, ds = [ruleD p t c, .int n] ∧ (0 ≤ p ∧ p ≤ 1000) ∧ C (.dat (.int (moneyF p c n))) N
/-- rides every so many ticks -/
def costFromF (p t : Int) (c : Option Int) (b s : Int) : Int := moneyF p c (upF (upF (1440 - b) s) (upF t s))
def dsp_P_cost_from : DSp := fun ds N C _ => ∃ (p t : Int) (c : Option Int) (b s : Int), ds = [ruleD p t c, .int b, .int s] ∧ (0 ≤ p ∧ p ≤ 1000 ∧ 1 ≤ t ∧ t ≤ 1440 ∧ b < 1440 ∧ 1 ≤ s ∧ s ≤ 1440) ∧ C (.dat (.int (costFromF p t c b s))) N
def dsp_P_regular : DSp := fun ds N C _ => ∃ (p t : Int) (c : Option Int) (b s : Int), ds = [ruleD p t c, .int b, .int s] ∧ (VRule p t c ∧ 0 ≤ b ∧ b ≤ 1439 ∧ 1 ≤ s ∧ s ≤ 1440) ∧ C (.dat (.int (costFromF p t c b s))) N
def dsp_L_bought : DSp := fun ds N C _ => ∃ L d ns, ds = [.int L, d] ∧ (IntsD d ns ∧ ns.length ≤ 2000 ∧ ∀ x ∈ ns, 0 ≤ x) ∧ C (.own ((boughtF L ns).map D.int)) N
def dsp_L_cost : DSp := fun ds N C _ => ∃ p t c d ns, ds = [ruleD p t c, d] ∧ (IntsD d ns ∧ ns.length ≤ 2000 ∧ (∀ x ∈ ns, 0 ≤ x) ∧ 0 ≤ p ∧ p ≤ 1000) ∧ C (.dat (.int (costF p t c ns))) N
/-- ticks of one more ride with which the day costs so much -/
def hidP (p t : Int) (c : Option Int) (ns : List Int) (paid x : Int) : Bool := !decide (x ∈ ns) && decide (costF p t c (srt (ns ++ [x])) = paid)
def hiddenF (p t : Int) (c : Option Int) (ns : List Int) (paid : Int) : List Int := (natsI 1440).filter (hidP p t c ns paid)
def dsp_P_hidden_ticks : DSp := fun ds N C _ => ∃ (p t : Int) (c : Option Int) (ns : List Int) (paid : Int), ds = [ruleD p t c, ridesD ns, .int paid] ∧ (VRule p t c ∧ VRides 60 ns ∧ 0 ≤ paid ∧ paid ≤ 10000000) ∧ C (.own ((hiddenF p t c ns paid).map D.int)) N
/-- lengths with which the rides cost so much -/
def lensI : List Int := (List.range 1440).map fun i : Nat => 1 + (i : Int)
def lensF (p : Int) (c : Option Int) (ns : List Int) (paid : Int) : List Int := lensI.filter fun L => decide (costF p L c ns = paid)
def dsp_P_lengths_for : DSp := fun ds N C _ => ∃ (p : Int) (c : Option Int) (ns : List Int) (paid : Int), ds = [.int p, capD c, ridesD ns, .int paid] ∧ (VRule p 1 c ∧ VRides 60 ns ∧ 0 ≤ paid ∧ paid ≤ 10000000) ∧ C (.dat (spanD (lensF p c ns paid))) N
/-- rides that tell -/
def stepL (t : Int) (n : Nat) : List Int := (List.range n).map fun i : Nat => t * (i : Int)
def tellD (R S : Ru) : D := match fewestF R S with
  | none => .non
  | some f => ridesD (stepL R.t f.toNat)
def dsp_P_telling_rides : DSp := fun ds N C _ => ∃ R S : Ru, ds = [R.d, S.d] ∧ (VR R ∧ VR S) ∧ C (.dat (tellD R S)) N
def dsp_P_apart : DSp := fun ds N C _ => ∃ (ns : List Int) (L : Int), ds = [ridesD ns, .int L] ∧ (VRides 60 ns ∧ 1 ≤ L ∧ L ≤ 1440) ∧ C (.dat (ridesD (boughtF L ns))) N
def dsp_L_most : DSp := fun ds N C _ => ∃ (ns : List Int) (L : Int), ds = [ridesD ns, .int L] ∧ (VRides 11 ns ∧ 1 ≤ L) ∧ C (.dat (.int ((boughtF L ns).length : Nat))) N
def dsp_L_spaced : DSp := fun ds N C _ => ∃ (ns : List Int) (L : Int), ds = [ridesD ns, .int L] ∧ (ns.length ≤ 60 ∧ 1 ≤ L ∧ ns.Pairwise fun a b => a + L ≤ b) ∧ C (.dat (.bl true)) N
/-- many days -/
def begF (s : Int) (i : Nat) : Int := (0 - 1440 * (i : Int)) % s
def dayF (R : Ru) (s : Int) (i : Nat) : Int := costFromF R.p R.t R.c (begF s i) s
def sumF (f : Nat → Int) : Nat → Int
  | 0 => 0
  | n + 1 => sumF f n + f n
def dsp_P_regular_days : DSp := fun ds N C _ => ∃ (R : Ru) (s d : Int), ds = [R.d, .int s, .int d] ∧ (VR R ∧ 1 ≤ s ∧ s ≤ 1440 ∧ 0 ≤ d ∧ d ≤ 1000000000000) ∧ C (.dat (.int (sumF (dayF R s) d.toNat))) N
def dsp_L_day : DSp := fun ds N C _ => ∃ (R : Ru) (s d : Int), ds = [R.d, .int s, .int d] ∧ (VR R ∧ 1 ≤ s ∧ s ≤ 1440 ∧ 0 ≤ d) ∧ C (.dat (.int (dayF R s d.toNat))) N
def dsp_L_far : DSp := fun ds N C _ => ∃ m : Int, ds = [.bag, .int m] ∧ (1 ≤ m ∧ m ≤ 1000000000000 ∧ N.n + 20 ≤ LIM) ∧ ∀ (i : Int) (N' : Ct), 0 ≤ i → i < m → N ≤ N' → N' ≤ N + 10 → C (.dat (.int i)) N'
/-- what several days cost -/
def totalF (p t : Int) (c : Option Int) (days : List (List Int)) : Int := (days.map (costF p t c)).sum
def dspI_P_total_cost : DSp := fun ds N C _ => ∃ p t c days, ds = [ruleD p t c, .tup (days.map ridesD)] ∧ (VRule p t c ∧ (∀ r ∈ days, VRides 60 r) ∧ days.length ≤ 1000) ∧ C (.dat (.int (totalF p t c days))) N
def dsp_P_total_cost : DSp := dspStar 1 dspI_P_total_cost
def dspI_P_week_cost : DSp := fun ds N C _ => ∃ p t c l days, ds = [ruleD p t c, .int l, .tup (days.map ridesD)] ∧ (VRule p t c ∧ 0 ≤ l ∧ l ≤ 1000000 ∧ (∀ r ∈ days, VRides 60 r) ∧ days.length ≤ 1000) ∧ C (.dat (.int (min l (totalF p t c days)))) N
def dsp_P_week_cost : DSp := dspStar 2 dspI_P_week_cost
/-- menus -/
abbrev menuD (M : List Ru) : D := .tup (M.map Ru.d)
structure VMenu (M : List Ru) : Prop where
  l0 : 1 ≤ M.length
  l1 : M.length ≤ 6
  ok : ∀ R ∈ M, VR R
/-- the rule at a place of a menu never costs more than another one, and stands further to the front if both cost the same -/
def domF (M : List Ru) (a i : Nat) : Bool := match M[a]?, M[i]? with
  | some A, some R => decide (a ≠ i) && (atmostF A R && (decide (a < i) || !atmostF R A))
  | _, _ => false
def needB (M : List Ru) (i : Nat) : Bool := (List.range M.length).any fun a => domF M a i
def needF (M : List Ru) : List Int := ((List.range M.length).filter (needB M)).map fun i : Nat => (i : Int)
def dsp_P_check_menu : DSp := fun ds N C _ => ∃ M, ds = [menuD M] ∧ VMenu M ∧ C (.dat .non) N
def dsp_P_needless : DSp := fun ds N C _ => ∃ M, ds = [menuD M] ∧ VMenu M ∧ C (.own ((needF M).map D.int)) N
def dspI_P_cheapest : DSp := fun ds N C _ => ∃ (M : List Ru) (days : List (List Int)), ds = [menuD M, .tup (days.map ridesD)] ∧ (VMenu M ∧ (∀ r ∈ days, VRides 60 r) ∧ days.length ≤ 1000) ∧
  ∀ (i : Nat) (R : Ru), M[i]? = some R → (∀ (j : Nat) (S : Ru), M[j]? = some S → totalF R.p R.t R.c days < totalF S.p S.t S.c days ∨ (totalF R.p R.t R.c days = totalF S.p S.t S.c days ∧ i ≤ j)) → C (.dat (.tup [.int (totalF R.p R.t R.c days), .int (i : Int)])) N
def dsp_P_cheapest : DSp := dspStar 1 dspI_P_cheapest
/- equal, with equal kinds at every depth -/
mutual
def sameD : D → D → Bool
  | .lst ds, .lst es => sameDs ds es
  | .tup ds, .tup es => sameDs ds es
  | .v x, .v y => decide (x = y)
  | _, _ => false
def sameDs : List D → List D → Bool
  | [], [] => true
  | d :: ds, e :: es => sameD d e && sameDs ds es
  | _, _ => false
end
/- data, nested at most n deep, no list too long -/
mutual
def oz : Nat → D → Bool
  | _, .v .non => true
  | _, .v (.bl _) => true
  | _, .v (.int _) => true
  | _, .v (.str x) => PyData.strOk x
  | n + 1, .tup ds => decide (ds.length ≤ 5000) && ozs n ds
  | n + 1, .lst ds => decide (ds.length ≤ 5000) && ozs n ds
  | _, _ => false
def ozs : Nat → List D → Bool
  | _, [] => true
  | n, d :: ds => oz n d && ozs n ds
end
def dspR_L_same : Nat → DSp
  | 0 => dspNo
  | n + 1 => fun ds N C _ => ∃ d e, ds = [d, e] ∧ (oz n d = true ∧ oz n e = true) ∧ C (.dat (.bl (sameD d e))) N
def dsp_L_same : DSp := dspR_L_same 4
end LAW

namespace LAW
open PySem PySem.Spec PyProof.Rows L2 DL
variable [TabNames]
def d_P_in_range : DS := (dRet (dAndV (dIsa .int (dVar 0)) (dAndV (dNotV (dIsa .bool (dVar 0))) (dChain dLe dLe (dVar 1) (dVar 0) (dVar 2)))))
def d_P_is_rule : DS := (dSeq (dIf (dOr (dNot (dTest (dIsa .tuple (dVar 0)))) (dTest (dOp (dEq true) (dCB dLen (dCons (dVar 0) dNil)) (dC (.int 3))))) (dRet (dC (.bl false))) dNext)
  (dSeq (dIf (dOr (dNot (dTest (dCall E00 dsp_P_in_range (dCons (dOp dIx (dVar 0) (dC (.int 0))) (dCons (dC (.int 0)) (dCons (dC (.int 1000)) dNil)))))) (dNot (dTest (dCall E00 dsp_P_in_range (dCons (dOp dIx (dVar 0) (dC (.int 1))) (dCons (dC (.int 1)) (dCons (dC (.int 1440)) dNil))))))) (dRet (dC (.bl false))) dNext)
  (dRet (dOrV (dOp (dIs false) (dOp dIx (dVar 0) (dC (.int 2))) (dC .non)) (dCall E00 dsp_P_in_range (dCons (dOp dIx (dVar 0) (dC (.int 2))) (dCons (dC (.int 0)) (dCons (dC (.int 1000000)) dNil))))))))
def d_P_is_rides : DS := (dSeq (dIf (dOr (dNot (dTest (dIsa .tuple (dVar 0)))) (dTest (dOp dGt (dCB dLen (dCons (dVar 0) dNil)) (dC (.int 60))))) (dRet (dC (.bl false))) dNext)
  (dSeq (dIf (dNot (dTest (dCB dAll (dCons (dLc (dSeqI (dVar 0)) (dgName 1) dYes (dCall E00 dsp_P_in_range (dCons (dVar 1) (dCons (dC (.int 0)) (dCons (dOp dSub (dC (.int 1440)) (dC (.int 1))) dNil)))) [1]) dNil)))) (dRet (dC (.bl false))) dNext)
  (dRet (dCB dAll (dCons (dLc (dZip (dCons (dVar 0) (dCons (dSl (dVar 0) (dPart (dC (.int 1))) dNoPart) dNil))) (dgTup 2 (dgCons (dgName 1) (dgCons (dgName 2) dgNil))) dYes (dOp dLt (dVar 1) (dVar 2)) [1, 2]) dNil)))))
def d_P_check_rule : DS := (dIf (dNot (dTest (dCall E00 dsp_P_is_rule (dCons (dVar 0) dNil)))) dNever dNext)
def d_P_check_rides : DS := (dIf (dNot (dTest (dCall E00 dsp_P_is_rides (dCons (dVar 0) dNil)))) dNever dNext)
def d_P_check_menu : DS := (dIf (dOr (dNot (dTest (dIsa .tuple (dVar 0)))) (dOr (dNot (dTest (dChain dLe dLe (dC (.int 1)) (dCB dLen (dCons (dVar 0) dNil)) (dC (.int 6))))) (dNot (dTest (dCB dAll (dCons (dLc (dSeqI (dVar 0)) (dgName 1) dYes (dCall E00 dsp_P_is_rule (dCons (dVar 1) dNil)) [1]) dNil)))))) dNever dNext)
def d_P_check_number : DS := (dIf (dNot (dTest (dCall E00 dsp_P_in_range (dCons (dVar 0) (dCons (dVar 1) (dCons (dVar 2) dNil)))))) dNever dNext)
def d_P_bought_of : DS := (dSeq (dAsg true 2 (dLst dNil))
  (dSeq (dFor (dSeqI (dVar 1)) (dgName 3) (dIf (dOr (dTest (dOp (dEq false) (dVar 2) (dLst dNil))) (dTest (dOp dGe (dVar 3) (dOp dAdd (dOp dIx (dVar 2) (dNeg (dC (.int 1)))) (dVar 0))))) (dApp 2 (dVar 3)) dNext))
  (dRet (dVar 2))))
def d_P_money : DS := (dSeq (dAsgT (dgTup 3 (dgCons (dgName 2) (dgCons (dgName 3) (dgCons (dgName 4) dgNil)))) (dVar 0))
  (dRet (dIfE (dTest (dOp (dIs false) (dVar 4) (dC .non))) (dOp dMul (dVar 1) (dVar 2)) (dCB (dII min) (dCons (dOp dMul (dVar 1) (dVar 2)) (dCons (dVar 4) dNil))))))
def d_P_cost_of : DS := (dRet (dCall E00 dsp_P_money (dCons (dVar 0) (dCons (dCB dLen (dCons (dCall E00 dsp_P_bought_of (dCons (dOp dIx (dVar 0) (dC (.int 1))) (dCons (dVar 1) dNil))) dNil)) dNil))))
def d_P_bought : DS := (dSeq (dDrop (dCall E00 dsp_P_check_rule (dCons (dVar 0) dNil)))
  (dSeq (dDrop (dCall E00 dsp_P_check_rides (dCons (dVar 1) dNil)))
  (dRet (dCall E00 dsp_P_bought_of (dCons (dOp dIx (dVar 0) (dC (.int 1))) (dCons (dVar 1) dNil))))))
def d_P_cost : DS := (dSeq (dDrop (dCall E00 dsp_P_check_rule (dCons (dVar 0) dNil)))
  (dSeq (dDrop (dCall E00 dsp_P_check_rides (dCons (dVar 1) dNil)))
  (dRet (dCall E00 dsp_P_cost_of (dCons (dVar 0) (dCons (dVar 1) dNil))))))
def d_P_total_cost : DS := (dSeq (dDrop (dCall E00 dsp_P_check_rule (dCons (dVar 0) dNil)))
  (dSeq (dFor (dSeqI (dVar 1)) (dgName 2) (dDrop (dCall E00 dsp_P_check_rides (dCons (dVar 2) dNil))))
  (dRet (dCB dSum (dCons (dLc (dSeqI (dVar 1)) (dgName 2) dYes (dCall E00 dsp_P_cost_of (dCons (dVar 0) (dCons (dVar 2) dNil))) [2]) dNil)))))
def d_P_week_cost : DS := (dSeq (dDrop (dCall E00 dsp_P_check_rule (dCons (dVar 0) dNil)))
  (dSeq (dDrop (dCall E00 dsp_P_check_number (dCons (dVar 1) (dCons (dC (.int 0)) (dCons (dC (.int 1000000)) dNil)))))
  (dSeq (dFor (dSeqI (dVar 2)) (dgName 3) (dDrop (dCall E00 dsp_P_check_rides (dCons (dVar 3) dNil))))
  (dRet (dCB (dII min) (dCons (dVar 1) (dCons (dCB dSum (dCons (dLc (dSeqI (dVar 2)) (dgName 3) dYes (dCall E00 dsp_P_cost_of (dCons (dVar 0) (dCons (dVar 3) dNil))) [3]) dNil)) dNil)))))))
def d_P_apart : DS := (dSeq (dDrop (dCall E00 dsp_P_check_rides (dCons (dVar 0) dNil)))
  (dSeq (dDrop (dCall E00 dsp_P_check_number (dCons (dVar 1) (dCons (dC (.int 1)) (dCons (dC (.int 1440)) dNil)))))
  (dRet (dCB dTuple (dCons (dCall E00 dsp_P_bought_of (dCons (dVar 1) (dCons (dVar 0) dNil))) dNil)))))
def d_P_up : DS := (dRet (dOp dDiv (dOp dSub (dOp dAdd (dVar 0) (dVar 1)) (dC (.int 1))) (dVar 1)))
def d_P_most_tickets : DS := (dRet (dCall E00 dsp_P_up (dCons (dC (.int 1440)) (dCons (dOp dIx (dVar 0) (dC (.int 1))) dNil))))
def d_P_excess : DS := (dRet (dOp dSub (dCall E00 dsp_P_money (dCons (dVar 0) (dCons (dVar 2) dNil))) (dCall E00 dsp_P_money (dCons (dVar 1) (dCons (dCall E00 dsp_P_up (dCons (dVar 2) (dCons (dCall E00 dsp_P_up (dCons (dOp dIx (dVar 1) (dC (.int 1))) (dCons (dOp dIx (dVar 0) (dC (.int 1))) dNil))) dNil))) dNil)))))
def d_P_at_most : DS := (dRet (dCB dAll (dCons (dLc (dRng2 (dCons (dC (.int 1)) (dCons (dOp dAdd (dCall E00 dsp_P_most_tickets (dCons (dVar 0) dNil)) (dC (.int 1))) dNil))) (dgName 2) dYes (dOp dLe (dCall E00 dsp_P_excess (dCons (dVar 0) (dCons (dVar 1) (dCons (dVar 2) dNil)))) (dC (.int 0))) [2]) dNil)))
def d_P_never_dearer : DS := (dSeq (dDrop (dCall E00 dsp_P_check_rule (dCons (dVar 0) dNil)))
  (dSeq (dDrop (dCall E00 dsp_P_check_rule (dCons (dVar 1) dNil)))
  (dRet (dCall E00 dsp_P_at_most (dCons (dVar 0) (dCons (dVar 1) dNil))))))
def d_P_largest_excess : DS := (dSeq (dDrop (dCall E00 dsp_P_check_rule (dCons (dVar 0) dNil)))
  (dSeq (dDrop (dCall E00 dsp_P_check_rule (dCons (dVar 1) dNil)))
  (dRet (dCB dMaxL (dCons (dOp dAdd (dLst (dCons (dC (.int 0)) dNil)) (dLc (dRng2 (dCons (dC (.int 1)) (dCons (dOp dAdd (dCall E00 dsp_P_most_tickets (dCons (dVar 0) dNil)) (dC (.int 1))) dNil))) (dgName 2) dYes (dCall E00 dsp_P_excess (dCons (dVar 0) (dCons (dVar 1) (dCons (dVar 2) dNil)))) [2])) dNil)))))
def d_P_fewest : DS := (dSeq (dFor (dRng2 (dCons (dC (.int 1)) (dCons (dOp dAdd (dCall E00 dsp_P_most_tickets (dCons (dVar 0) dNil)) (dC (.int 1))) dNil))) (dgName 2) (dIf (dTest (dOp dGt (dCall E00 dsp_P_excess (dCons (dVar 0) (dCons (dVar 1) (dCons (dVar 2) dNil)))) (dC (.int 0)))) (dRet (dVar 2)) dNext))
  (dRet (dC .non)))
def d_P_fewest_rides : DS := (dSeq (dDrop (dCall E00 dsp_P_check_rule (dCons (dVar 0) dNil)))
  (dSeq (dDrop (dCall E00 dsp_P_check_rule (dCons (dVar 1) dNil)))
  (dRet (dCall E00 dsp_P_fewest (dCons (dVar 0) (dCons (dVar 1) dNil))))))
def d_P_telling_rides : DS := (dSeq (dDrop (dCall E00 dsp_P_check_rule (dCons (dVar 0) dNil)))
  (dSeq (dDrop (dCall E00 dsp_P_check_rule (dCons (dVar 1) dNil)))
  (dSeq (dAsg false 2 (dCall E00 dsp_P_fewest (dCons (dVar 0) (dCons (dVar 1) dNil))))
  (dRet (dIfE (dTest (dOp (dIs false) (dVar 2) (dC .non))) (dC .non) (dCB dTuple (dCons (dLc (dRng1 (dCons (dVar 2) dNil)) (dgName 3) dYes (dOp dMul (dOp dIx (dVar 0) (dC (.int 1))) (dVar 3)) [3]) dNil)))))))
def d_P_alike : DS := (dSeq (dDrop (dCall E00 dsp_P_check_rule (dCons (dVar 0) dNil)))
  (dSeq (dDrop (dCall E00 dsp_P_check_rule (dCons (dVar 1) dNil)))
  (dRet (dAndV (dCall E00 dsp_P_at_most (dCons (dVar 0) (dCons (dVar 1) dNil))) (dCall E00 dsp_P_at_most (dCons (dVar 1) (dCons (dVar 0) dNil)))))))
def d_P_cost_from : DS := (dSeq (dAsg false 3 (dIfE (dTest (dOp dLt (dVar 1) (dC (.int 1440)))) (dCall E00 dsp_P_up (dCons (dOp dSub (dC (.int 1440)) (dVar 1)) (dCons (dVar 2) dNil))) (dC (.int 0))))
  (dRet (dCall E00 dsp_P_money (dCons (dVar 0) (dCons (dCall E00 dsp_P_up (dCons (dVar 3) (dCons (dCall E00 dsp_P_up (dCons (dOp dIx (dVar 0) (dC (.int 1))) (dCons (dVar 2) dNil))) dNil))) dNil)))))
def d_P_regular : DS := (dSeq (dDrop (dCall E00 dsp_P_check_rule (dCons (dVar 0) dNil)))
  (dSeq (dDrop (dCall E00 dsp_P_check_number (dCons (dVar 1) (dCons (dC (.int 0)) (dCons (dOp dSub (dC (.int 1440)) (dC (.int 1))) dNil)))))
  (dSeq (dDrop (dCall E00 dsp_P_check_number (dCons (dVar 2) (dCons (dC (.int 1)) (dCons (dC (.int 1440)) dNil)))))
  (dRet (dCall E00 dsp_P_cost_from (dCons (dVar 0) (dCons (dVar 1) (dCons (dVar 2) dNil))))))))
def d_P_regular_days : DS := (dSeq (dDrop (dCall E00 dsp_P_check_rule (dCons (dVar 0) dNil)))
  (dSeq (dDrop (dCall E00 dsp_P_check_number (dCons (dVar 1) (dCons (dC (.int 1)) (dCons (dC (.int 1440)) dNil)))))
  (dSeq (dDrop (dCall E00 dsp_P_check_number (dCons (dVar 2) (dCons (dC (.int 0)) (dCons (dC (.int 1000000000000)) dNil)))))
  (dSeq (dParK 3 4 (dLst dNil) (dC (.int 0)))
  (dSeq (dWhile (dOr (dTest (dOp (dEq false) (dVar 3) (dLst dNil))) (dTest (dOp (dEq true) (dVar 4) (dC (.int 0))))) (dSeq (dApp 3 (dCall E00 dsp_P_cost_from (dCons (dVar 0) (dCons (dVar 4) (dCons (dVar 1) dNil)))))
  (dAsg false 4 (dOp dMod (dOp dSub (dVar 4) (dC (.int 1440))) (dVar 1)))))
  (dSeq (dPar 5 6 (dCons (dOp dDiv (dVar 2) (dCB dLen (dCons (dVar 3) dNil))) (dCons (dOp dMod (dVar 2) (dCB dLen (dCons (dVar 3) dNil))) dNil)))
  (dRet (dOp dAdd (dOp dMul (dVar 5) (dCB dSum (dCons (dVar 3) dNil))) (dCB dSum (dCons (dSl (dVar 3) dNoPart (dPart (dVar 6))) dNil))))))))))
def d_P_with_part : DS := (dRet (dOp dAdd (dOp dAdd (dSl (dVar 0) dNoPart (dPart (dVar 1))) (dTup (dCons (dVar 2) dNil))) (dSl (dVar 0) (dPart (dOp dAdd (dVar 1) (dC (.int 1)))) dNoPart)))
def d_P_greatest : DS := (dSeq (dPar 4 5 (dCons (dC (.int 0)) (dCons (dVar 3) dNil)))
  (dSeq (dWhile (dTest (dOp dLt (dVar 4) (dVar 5))) (dSeq (dAsg false 6 (dOp dDiv (dOp dAdd (dOp dAdd (dVar 4) (dVar 5)) (dC (.int 1))) (dC (.int 2))))
  (dIf (dTest (dCall E00 dsp_P_at_most (dCons (dCall E00 dsp_P_with_part (dCons (dVar 0) (dCons (dVar 2) (dCons (dVar 6) dNil)))) (dCons (dVar 1) dNil)))) (dAsg false 4 (dVar 6)) (dAsg false 5 (dOp dSub (dVar 6) (dC (.int 1)))))))
  (dRet (dVar 4))))
def d_P_greatest_price : DS := (dSeq (dDrop (dCall E00 dsp_P_check_rule (dCons (dVar 0) dNil)))
  (dSeq (dDrop (dCall E00 dsp_P_check_rule (dCons (dVar 1) dNil)))
  (dRet (dCall E00 dsp_P_greatest (dCons (dVar 0) (dCons (dVar 1) (dCons (dC (.int 0)) (dCons (dC (.int 1000)) dNil))))))))
def d_P_greatest_cap : DS := (dSeq (dDrop (dCall E00 dsp_P_check_rule (dCons (dVar 0) dNil)))
  (dSeq (dDrop (dCall E00 dsp_P_check_rule (dCons (dVar 1) dNil)))
  (dRet (dCall E00 dsp_P_greatest (dCons (dVar 0) (dCons (dVar 1) (dCons (dC (.int 2)) (dCons (dC (.int 1000000)) dNil))))))))
def d_P_least_length : DS := (dSeq (dDrop (dCall E00 dsp_P_check_rule (dCons (dVar 0) dNil)))
  (dSeq (dDrop (dCall E00 dsp_P_check_rule (dCons (dVar 1) dNil)))
  (dSeq (dIf (dNot (dTest (dCall E00 dsp_P_at_most (dCons (dCall E00 dsp_P_with_part (dCons (dVar 0) (dCons (dC (.int 1)) (dCons (dC (.int 1440)) dNil)))) (dCons (dVar 1) dNil))))) (dRet (dC .non)) dNext)
  (dSeq (dPar 2 3 (dCons (dC (.int 1)) (dCons (dC (.int 1440)) dNil)))
  (dSeq (dWhile (dTest (dOp dLt (dVar 2) (dVar 3))) (dSeq (dAsg false 4 (dOp dDiv (dOp dAdd (dVar 2) (dVar 3)) (dC (.int 2))))
  (dIf (dTest (dCall E00 dsp_P_at_most (dCons (dCall E00 dsp_P_with_part (dCons (dVar 0) (dCons (dC (.int 1)) (dCons (dVar 4) dNil)))) (dCons (dVar 1) dNil)))) (dAsg false 3 (dVar 4)) (dAsg false 2 (dOp dAdd (dVar 4) (dC (.int 1)))))))
  (dRet (dVar 2)))))))
def d_P_cheapest : DS := (dSeq (dDrop (dCall E00 dsp_P_check_menu (dCons (dVar 0) dNil)))
  (dSeq (dFor (dSeqI (dVar 1)) (dgName 2) (dDrop (dCall E00 dsp_P_check_rides (dCons (dVar 2) dNil))))
  (dRet (dCB dMinP (dCons (dLc (dEnumT (dCons (dVar 0) dNil)) (dgTup 2 (dgCons (dgName 3) (dgCons (dgName 4) dgNil))) dYes (dTup (dCons (dCB dSum (dCons (dLc (dSeqI (dVar 1)) (dgName 2) dYes (dCall E00 dsp_P_cost_of (dCons (dVar 4) (dCons (dVar 2) dNil))) [2]) dNil)) (dCons (dVar 3) dNil))) [3, 4]) dNil)))))
def d_P_needless : DS := (dSeq (dDrop (dCall E00 dsp_P_check_menu (dCons (dVar 0) dNil)))
  (dSeq (dAsg true 1 (dLst dNil))
  (dSeq (dFor (dEnumT (dCons (dVar 0) dNil)) (dgTup 2 (dgCons (dgName 2) (dgCons (dgName 3) dgNil))) (dFor (dEnumT (dCons (dVar 0) dNil)) (dgTup 2 (dgCons (dgName 4) (dgCons (dgName 5) dgNil))) (dIf (dAnd (dTest (dOp (dEq true) (dVar 4) (dVar 2))) (dAnd (dTest (dCall E00 dsp_P_at_most (dCons (dVar 5) (dCons (dVar 3) dNil)))) (dOr (dTest (dOp dLt (dVar 4) (dVar 2))) (dNot (dTest (dCall E00 dsp_P_at_most (dCons (dVar 3) (dCons (dVar 5) dNil)))))))) (dApp 1 (dVar 2)) dNext)))
  (dRet (dSSetL (dVar 1))))))
def d_P_tickets_for : DS := (dSeq (dDrop (dCall E00 dsp_P_check_rule (dCons (dVar 0) dNil)))
  (dSeq (dDrop (dCall E00 dsp_P_check_number (dCons (dVar 1) (dCons (dC (.int 0)) (dCons (dC (.int 10000000)) dNil)))))
  (dSeq (dAsg false 2 (dLc (dRng1 (dCons (dOp dAdd (dCall E00 dsp_P_most_tickets (dCons (dVar 0) dNil)) (dC (.int 1))) dNil)) (dgName 3) (dTest (dOp (dEq false) (dCall E00 dsp_P_money (dCons (dVar 0) (dCons (dVar 3) dNil))) (dVar 1))) (dVar 3) [3]))
  (dRet (dIfE (dTest (dOp (dEq true) (dVar 2) (dLst dNil))) (dTup (dCons (dOp dIx (dVar 2) (dC (.int 0))) (dCons (dOp dIx (dVar 2) (dNeg (dC (.int 1)))) dNil))) (dC .non))))))
def d_P_hidden_ticks : DS := (dSeq (dDrop (dCall E00 dsp_P_check_rule (dCons (dVar 0) dNil)))
  (dSeq (dDrop (dCall E00 dsp_P_check_rides (dCons (dVar 1) dNil)))
  (dSeq (dDrop (dCall E00 dsp_P_check_number (dCons (dVar 2) (dCons (dC (.int 0)) (dCons (dC (.int 10000000)) dNil)))))
  (dSeq (dAsg true 3 (dLst dNil))
  (dSeq (dFor (dRng1 (dCons (dC (.int 1440)) dNil)) (dgName 4) (dIf (dAnd (dTest (dOp (dIn true) (dVar 4) (dVar 1))) (dTest (dOp (dEq false) (dCall E00 dsp_P_cost_of (dCons (dVar 0) (dCons (dCB dSort (dCons (dOp dAdd (dVar 1) (dTup (dCons (dVar 4) dNil))) dNil)) dNil))) (dVar 2)))) (dApp 3 (dVar 4)) dNext))
  (dRet (dVar 3)))))))
def d_P_lengths_for : DS := (dSeq (dIf (dNot (dTest (dCall E00 dsp_P_is_rule (dCons (dTup (dCons (dVar 0) (dCons (dC (.int 1)) (dCons (dVar 1) dNil)))) dNil)))) dNever dNext)
  (dSeq (dDrop (dCall E00 dsp_P_check_rides (dCons (dVar 2) dNil)))
  (dSeq (dDrop (dCall E00 dsp_P_check_number (dCons (dVar 3) (dCons (dC (.int 0)) (dCons (dC (.int 10000000)) dNil)))))
  (dSeq (dAsg false 4 (dLc (dRng2 (dCons (dC (.int 1)) (dCons (dOp dAdd (dC (.int 1440)) (dC (.int 1))) dNil))) (dgName 5) (dTest (dOp (dEq false) (dCall E00 dsp_P_cost_of (dCons (dTup (dCons (dVar 0) (dCons (dVar 5) (dCons (dVar 1) dNil)))) (dCons (dVar 2) dNil))) (dVar 3))) (dVar 5) [5]))
  (dRet (dIfE (dTest (dOp (dEq true) (dVar 4) (dLst dNil))) (dTup (dCons (dOp dIx (dVar 4) (dC (.int 0))) (dCons (dOp dIx (dVar 4) (dNeg (dC (.int 1)))) dNil))) (dC .non)))))))
def d_L_well : DS := (dSeq (dIf (dTest (dOp dGe (dVar 0) (dOp dPow (dC (.int 10)) (dC (.int 18))))) (dRet (dBag (dLst (dCons (dOp dSub (dVar 0) (dOp dPow (dC (.int 10)) (dC (.int 18)))) (dCons (dOp dMod (dVar 0) (dC (.int 2305843009213693951))) (dCons (dVar 1) dNil)))))) dNext)
  (dRet (dBag (dLst (dCons (dC (.int 0)) (dCons (dOp dMod (dVar 0) (dC (.int 2305843009213693951))) (dCons (dVar 1) dNil)))))))
def d_L_bags : DS := (dRet (dLc (dEnum (dCons (dOp dAdd (dSl (dVar 0) dNoPart (dPart (dVar 1))) (dLst (dCons (dC (.int 0)) dNil))) dNil)) (dgTup 2 (dgCons (dgName 2) (dgCons (dgName 3) dgNil))) dYes (dCall E00 dsp_L_well (dCons (dVar 3) (dCons (dOp dMul (dC (.int 977)) (dVar 2)) dNil))) [2, 3]))
def d_L_same (self : DSp) : DS := (dSeq (dIf (dOr (dAnd (dTest (dIsa .list (dVar 0))) (dTest (dIsa .list (dVar 1)))) (dAnd (dTest (dIsa .tuple (dVar 0))) (dTest (dIsa .tuple (dVar 1))))) (dRet (dAndV (dOp (dEq false) (dCB dLen (dCons (dVar 0) dNil)) (dCB dLen (dCons (dVar 1) dNil))) (dCB dAll (dCons (dLc (dZip (dCons (dVar 0) (dCons (dVar 1) dNil))) (dgTup 2 (dgCons (dgName 2) (dgCons (dgName 3) dgNil))) dYes (dCall E00 self (dCons (dVar 2) (dCons (dVar 3) dNil))) [2, 3]) dNil)))) dNext)
  (dSeq (dIf (dOr (dTest (dIsaT [.bool, .list, .tuple] (dVar 0))) (dTest (dIsaT [.bool, .list, .tuple] (dVar 1)))) (dRet (dAndV (dIsa .bool (dVar 0)) (dAndV (dIsa .bool (dVar 1)) (dOp (dEq false) (dVar 0) (dVar 1))))) dNext)
  (dSeq (dIf (dOr (dTest (dIsa .int (dVar 0))) (dTest (dIsa .int (dVar 1)))) (dRet (dAndV (dIsa .int (dVar 0)) (dAndV (dIsa .int (dVar 1)) (dOp (dEq false) (dVar 0) (dVar 1))))) dNext)
  (dSeq (dIf (dOr (dTest (dIsa .str (dVar 0))) (dTest (dIsa .str (dVar 1)))) (dRet (dAndV (dIsa .str (dVar 0)) (dAndV (dIsa .str (dVar 1)) (dOp (dEq false) (dVar 0) (dVar 1))))) dNext)
  (dRet (dAndV (dOp (dIs false) (dVar 0) (dC .non)) (dOp (dIs false) (dVar 1) (dC .non))))))))
def d_L_in : DS := (dRet (dAndV (dIsa .int (dVar 0)) (dAndV (dNotV (dIsa .bool (dVar 0))) (dChain dLe dLe (dVar 1) (dVar 0) (dVar 2)))))
def d_L_rule : DS := (dSeq (dAsg false 1 (dCall E00 dsp_L_take (dCons (dVar 0) (dCons (dOp dIx (dLst (dCons (dC (.int 6)) (dCons (dC (.int 1001)) dNil))) (dCall E00 dsp_L_take (dCons (dVar 0) (dCons (dC (.int 2)) dNil)))) dNil))))
  (dSeq (dAsg false 2 (dLst (dCons (dOp dAdd (dC (.int 1)) (dCall E00 dsp_L_take (dCons (dVar 0) (dCons (dC (.int 12)) dNil)))) (dCons (dOp dAdd (dC (.int 1)) (dCall E00 dsp_L_take (dCons (dVar 0) (dCons (dC (.int 1440)) dNil)))) (dCons (dOp dDiv (dC (.int 1440)) (dOp dAdd (dC (.int 1)) (dCall E00 dsp_L_take (dCons (dVar 0) (dCons (dC (.int 30)) dNil))))) (dCons (dC (.int 1440)) dNil))))))
  (dSeq (dAsg false 3 (dOp dIx (dVar 2) (dCall E00 dsp_L_take (dCons (dVar 0) (dCons (dC (.int 4)) dNil)))))
  (dSeq (dAsg false 4 (dLst (dCons (dC .non) (dCons (dOp dAdd (dOp dMul (dVar 1) (dCall E00 dsp_L_take (dCons (dVar 0) (dCons (dC (.int 6)) dNil)))) (dCall E00 dsp_L_take (dCons (dVar 0) (dCons (dC (.int 3)) dNil)))) (dCons (dCall E00 dsp_L_take (dCons (dVar 0) (dCons (dC (.int 30)) dNil))) (dCons (dCall E00 dsp_L_take (dCons (dVar 0) (dCons (dOp dAdd (dOp dPow (dC (.int 10)) (dC (.int 6))) (dC (.int 1))) dNil))) dNil))))))
  (dRet (dTup (dCons (dVar 1) (dCons (dVar 3) (dCons (dOp dIx (dVar 4) (dCall E00 dsp_L_take (dCons (dVar 0) (dCons (dC (.int 4)) dNil)))) dNil)))))))))
def d_L_rides : DS := (dSeq (dPar 3 4 (dCons (dTup dNil) (dCons (dCall E00 dsp_L_take (dCons (dVar 0) (dCons (dOp dIx (dLst (dCons (dC (.int 1)) (dCons (dC (.int 1440)) dNil))) (dCall E00 dsp_L_take (dCons (dVar 0) (dCons (dC (.int 2)) dNil)))) dNil))) dNil)))
  (dSeq (dFor (dRng1 (dCons (dCall E00 dsp_L_take (dCons (dVar 0) (dCons (dOp dAdd (dVar 1) (dC (.int 1))) dNil))) dNil)) (dgName 5) (dSeq (dIf (dTest (dOp dLt (dVar 4) (dC (.int 1440)))) (dAsg false 3 (dOp dAdd (dVar 3) (dTup (dCons (dVar 4) dNil)))) dNext)
  (dSeq (dAsg false 6 (dCB (dII max) (dCons (dC (.int 1)) (dCons (dOp dSub (dOp dAdd (dOp dIx (dVar 2) (dC (.int 1))) (dCall E00 dsp_L_take (dCons (dVar 0) (dCons (dC (.int 3)) dNil)))) (dC (.int 1))) dNil))))
  (dAsg false 4 (dOp dAdd (dVar 4) (dOp dIx (dLst (dCons (dC (.int 1)) (dCons (dOp dAdd (dC (.int 1)) (dCall E00 dsp_L_take (dCons (dVar 0) (dCons (dC (.int 40)) dNil)))) (dCons (dVar 6) (dCons (dOp dAdd (dC (.int 1)) (dCall E00 dsp_L_take (dCons (dVar 0) (dCons (dOp dMul (dC (.int 2)) (dOp dIx (dVar 2) (dC (.int 1)))) dNil)))) dNil))))) (dCall E00 dsp_L_take (dCons (dVar 0) (dCons (dC (.int 4)) dNil)))))))))
  (dRet (dVar 3))))
def d_L_bought : DS := (dSeq (dParK 2 3 (dLst dNil) (dNeg (dC (.int 1))))
  (dSeq (dFor (dSeqI (dVar 1)) (dgName 4) (dIf (dTest (dOp dGe (dVar 4) (dVar 3))) (dSeq (dApp 2 (dVar 4))
  (dAsg false 3 (dOp dAdd (dVar 4) (dVar 0)))) dNext))
  (dRet (dVar 2))))
def d_L_money : DS := (dSeq (dAsg false 2 (dOp dMul (dOp dIx (dVar 0) (dC (.int 0))) (dVar 1)))
  (dRet (dIfE (dOr (dTest (dOp (dIs false) (dOp dIx (dVar 0) (dC (.int 2))) (dC .non))) (dTest (dOp dLt (dVar 2) (dOp dIx (dVar 0) (dC (.int 2)))))) (dVar 2) (dOp dIx (dVar 0) (dC (.int 2))))))
def d_L_cost : DS := (dRet (dCall E00 dsp_L_money (dCons (dVar 0) (dCons (dCB dLen (dCons (dCall E00 dsp_L_bought (dCons (dOp dIx (dVar 0) (dC (.int 1))) (dCons (dVar 1) dNil))) dNil)) dNil))))
def d_L_most : DS := (dSeq (dAsg false 2 (dLst (dCons (dTup dNil) dNil)))
  (dSeq (dFor (dSeqI (dVar 0)) (dgName 3) (dAsg false 2 (dOp dAdd (dVar 2) (dLc (dSeqI (dVar 2)) (dgName 4) (dOr (dTest (dOp (dEq false) (dVar 4) (dTup dNil))) (dTest (dOp dGe (dOp dSub (dVar 3) (dOp dIx (dVar 4) (dNeg (dC (.int 1))))) (dVar 1)))) (dOp dAdd (dVar 4) (dTup (dCons (dVar 3) dNil))) [4]))))
  (dRet (dCB dMaxL (dCons (dLc (dSeqI (dVar 2)) (dgName 4) dYes (dCB dLen (dCons (dVar 4) dNil)) [4]) dNil)))))
def d_L_spaced : DS := (dRet (dOp (dEq false) (dLc (dZip (dCons (dVar 0) (dCons (dSl (dVar 0) (dPart (dC (.int 1))) dNoPart) dNil))) (dgTup 2 (dgCons (dgName 2) (dgCons (dgName 3) dgNil))) (dTest (dOp dLt (dOp dSub (dVar 3) (dVar 2)) (dVar 1))) (dC (.int 1)) [2, 3]) (dLst dNil)))
def d_L_near : DS := (dSeq (dAsgT (dgTup 3 (dgCons (dgName 2) (dgCons (dgName 3) (dgCons (dgName 4) dgNil)))) (dVar 1))
  (dSeq (dAsg false 5 (dCall E00 dsp_L_take (dCons (dVar 0) (dCons (dC (.int 6)) dNil))))
  (dSeq (dIf (dTest (dOp (dEq false) (dVar 5) (dC (.int 0)))) (dRet (dTup (dCons (dVar 2) (dCons (dCB (dII min) (dCons (dC (.int 1440)) (dCons (dCB (dII max) (dCons (dC (.int 1)) (dCons (dOp dSub (dOp dAdd (dVar 3) (dCall E00 dsp_L_take (dCons (dVar 0) (dCons (dC (.int 5)) dNil)))) (dC (.int 2))) dNil))) dNil))) (dCons (dVar 4) dNil))))) dNext)
  (dSeq (dIf (dTest (dOp (dEq false) (dVar 5) (dC (.int 1)))) (dSeq (dAsg false 6 (dOp dAdd (dC (.int 1)) (dCall E00 dsp_L_take (dCons (dVar 0) (dCons (dC (.int 4)) dNil)))))
  (dRet (dTup (dCons (dCB (dII min) (dCons (dC (.int 1000)) (dCons (dOp dMul (dVar 2) (dVar 6)) dNil))) (dCons (dCB (dII min) (dCons (dC (.int 1440)) (dCons (dOp dAdd (dOp dMul (dVar 3) (dVar 6)) (dCall E00 dsp_L_take (dCons (dVar 0) (dCons (dC (.int 2)) dNil)))) dNil))) (dCons (dVar 4) dNil)))))) dNext)
  (dSeq (dIf (dTest (dOp (dEq false) (dVar 5) (dC (.int 2)))) (dSeq (dAsg false 7 (dIfE (dOr (dTest (dOp (dEq false) (dCall E00 dsp_L_take (dCons (dVar 0) (dCons (dC (.int 3)) dNil))) (dC (.int 0)))) (dTest (dOp (dIs false) (dVar 4) (dC .non)))) (dC .non) (dCB (dII min) (dCons (dOp dPow (dC (.int 10)) (dC (.int 6))) (dCons (dOp dAdd (dVar 4) (dCall E00 dsp_L_take (dCons (dVar 0) (dCons (dC (.int 4)) dNil)))) dNil)))))
  (dRet (dTup (dCons (dCB (dII min) (dCons (dC (.int 1000)) (dCons (dOp dAdd (dVar 2) (dCall E00 dsp_L_take (dCons (dVar 0) (dCons (dC (.int 2)) dNil)))) dNil))) (dCons (dVar 3) (dCons (dVar 7) dNil)))))) dNext)
  (dSeq (dIf (dTest (dOp (dEq false) (dVar 5) (dC (.int 3)))) (dSeq (dAsg false 6 (dOp dAdd (dC (.int 1)) (dCall E00 dsp_L_take (dCons (dVar 0) (dCons (dC (.int 3)) dNil)))))
  (dRet (dTup (dCons (dOp dDiv (dVar 2) (dVar 6)) (dCons (dCB (dII max) (dCons (dC (.int 1)) (dCons (dOp dDiv (dVar 3) (dVar 6)) dNil))) (dCons (dVar 4) dNil)))))) dNext)
  (dRet (dIfE (dTest (dOp (dEq false) (dVar 5) (dC (.int 4)))) (dTup (dCons (dVar 2) (dCons (dVar 3) (dCons (dOp dMul (dC (.int 3)) (dVar 2)) dNil)))) (dCall E00 dsp_L_rule (dCons (dVar 0) dNil))))))))))
def d_L_excesses : DS := (dSeq (dTupO 2 4 (dLst dNil) (dCons (dC (.int 0)) (dCons (dNeg (dC (.int 1))) (dCons (dC (.int 0)) (dCons (dC (.int 0)) dNil)))) (dgCons (dgName 3) (dgCons (dgName 4) (dgCons (dgName 5) (dgCons (dgName 6) dgNil)))))
  (dSeq (dWhile (dTest (dOp dLt (dVar 3) (dC (.int 1440)))) (dSeq (dAsg false 6 (dOp dAdd (dVar 6) (dC (.int 1))))
  (dSeq (dIf (dTest (dOp dGe (dVar 3) (dVar 4))) (dPar 5 4 (dCons (dOp dAdd (dVar 5) (dC (.int 1))) (dCons (dOp dAdd (dVar 3) (dOp dIx (dVar 1) (dC (.int 1)))) dNil))) dNext)
  (dSeq (dApp 2 (dOp dSub (dCall E00 dsp_L_money (dCons (dVar 0) (dCons (dVar 6) dNil))) (dCall E00 dsp_L_money (dCons (dVar 1) (dCons (dVar 5) dNil)))))
  (dAsg false 3 (dOp dAdd (dVar 3) (dOp dIx (dVar 0) (dC (.int 1)))))))))
  (dRet (dVar 2))))
def d_L_better : DS := (dSeq (dAsgT (dgTup 3 (dgCons (dgName 2) (dgCons (dgName 3) (dgCons (dgName 4) dgNil)))) (dVar 1))
  (dSeq (dAsg false 5 (dCall E00 dsp_L_take (dCons (dVar 0) (dCons (dC (.int 3)) dNil))))
  (dSeq (dIf (dTest (dOp (dEq false) (dVar 5) (dC (.int 0)))) (dRet (dTup (dCons (dCB (dII max) (dCons (dC (.int 0)) (dCons (dOp dSub (dOp dSub (dVar 2) (dC (.int 1))) (dCall E00 dsp_L_take (dCons (dVar 0) (dCons (dC (.int 3)) dNil)))) dNil))) (dCons (dVar 3) (dCons (dVar 4) dNil))))) dNext)
  (dSeq (dIf (dTest (dOp (dEq false) (dVar 5) (dC (.int 1)))) (dRet (dTup (dCons (dVar 2) (dCons (dCB (dII min) (dCons (dC (.int 1440)) (dCons (dOp dAdd (dOp dAdd (dVar 3) (dC (.int 1))) (dCall E00 dsp_L_take (dCons (dVar 0) (dCons (dC (.int 9)) dNil)))) dNil))) (dCons (dVar 4) dNil))))) dNext)
  (dRet (dTup (dCons (dVar 2) (dCons (dVar 3) (dCons (dIfE (dTest (dOp (dIs false) (dVar 4) (dC .non))) (dOp dMul (dC (.int 5)) (dVar 2)) (dCB (dII max) (dCons (dC (.int 0)) (dCons (dOp dSub (dVar 4) (dC (.int 1))) dNil)))) dNil)))))))))
def d_L_good : DS := (dRet (dOp dLe (dCB dMaxL (dCons (dCall E00 dsp_L_excesses (dCons (dVar 0) (dCons (dVar 1) dNil))) dNil)) (dC (.int 0))))
def d_L_far : DS := (dSeq (dPar 2 3 (dCons (dC (.int 0)) (dCons (dVar 1) dNil)))
  (dSeq (dWhile (dTest (dOp dGt (dVar 3) (dC (.int 0)))) (dPar 2 3 (dCons (dOp dAdd (dOp dMul (dC (.int 1000)) (dVar 2)) (dCall E00 dsp_L_take (dCons (dVar 0) (dCons (dC (.int 1000)) dNil)))) (dCons (dOp dDiv (dVar 3) (dC (.int 1000))) dNil))))
  (dRet (dOp dIx (dLst (dCons (dOp dMod (dVar 2) (dVar 1)) (dCons (dC (.int 0)) (dCons (dOp dSub (dVar 1) (dC (.int 1))) (dCons (dOp dMod (dVar 2) (dVar 1)) dNil))))) (dCall E00 dsp_L_take (dCons (dVar 0) (dCons (dC (.int 4)) dNil)))))))
def d_L_day : DS := (dSeq (dAsg false 3 (dOp dSub (dC (.int 0)) (dOp dMod (dOp dMul (dC (.int 1440)) (dVar 2)) (dVar 1))))
  (dSeq (dAsg false 3 (dIfE (dTest (dOp dLt (dVar 3) (dC (.int 0)))) (dOp dAdd (dVar 3) (dVar 1)) (dVar 3)))
  (dRet (dCall E00 dsp_L_cost (dCons (dVar 0) (dCons (dLR3 (dCons (dVar 3) (dCons (dC (.int 1440)) (dCons (dVar 1) dNil)))) dNil))))))
end LAW

/-! Ra: the readings of the defs that most laws have. -/
namespace LAW
open PySem PySem.Spec PyProof.Rows L2 DL
variable [TabNames]
/-! ### the promises, at written arguments -/
theorem capD_inj {a b : Option Int} (h : capD a = capD b) : a = b := by
  cases a <;> cases b <;> simp [capD] at h <;> simp [h]
theorem ruleD_inj {p t p' t' : Int} {c c' : Option Int} (h : ruleD p t c = ruleD p' t' c') : p = p' ∧ t = t' ∧ c = c' := by
  simp only [ruleD, D.tup.injEq, List.cons.injEq, D.v.injEq, V.int.injEq, and_true] at h
  exact ⟨h.1, h.2.1, capD_inj h.2.2⟩
theorem mapD_inj {ns ms : List Int} (h : ns.map D.int = ms.map D.int) : ns = ms := by
  induction ns generalizing ms with
  | nil => cases ms with
    | nil => rfl
    | cons m ms => simp at h
  | cons n ns ih => cases ms with
    | nil => simp at h
    | cons m ms =>
      simp only [List.map_cons, List.cons.injEq, D.v.injEq, V.int.injEq] at h
      rw [h.1, ih h.2]
theorem IntsD.tup {ns : List Int} : IntsD (.tup (ns.map D.int)) ns := .inl rfl
theorem IntsD.lst {ns : List Int} : IntsD (.lst (ns.map D.int)) ns := .inr rfl
section
variable {N : Ct} {C : DK} {p t i lo hi n L a b m : Int} {c : Option Int} {d : D} {ns : List Int}
theorem s_in_range (h : C (.dat (.bl (decide (lo ≤ i) && decide (i ≤ hi)))) N) : dsp_P_in_range [.v (.int i), .v (.int lo), .v (.int hi)] N C E00 := ⟨.int i, lo, hi, rfl, rfl, h⟩
theorem s_in_rangeD {Er : Value → Ct → Prop} (v : plainD d = true) (h : C (.dat (.bl (inRD d lo hi))) N) : dsp_P_in_range [d, .v (.int lo), .v (.int hi)] N C Er := ⟨d, lo, hi, rfl, v, h⟩
theorem s_is_rule (v : VRule p t c) (h : C (.dat (.bl true)) N) : dsp_P_is_rule [ruleD p t c] N C E00 := ⟨p, t, c, rfl, v, h⟩
theorem s_is_rides (v : VRides 60 ns) (h : C (.dat (.bl true)) N) : dsp_P_is_rides [ridesD ns] N C E00 := ⟨ns, rfl, v, h⟩
theorem s_check_rule (v : VRule p t c) (h : C (.dat .non) N) : dsp_P_check_rule [ruleD p t c] N C E00 := ⟨p, t, c, rfl, v, h⟩
theorem s_check_rides (v : VRides 60 ns) (h : C (.dat .non) N) : dsp_P_check_rides [ridesD ns] N C E00 := ⟨ns, rfl, v, h⟩
theorem s_check_number (v : lo ≤ i ∧ i ≤ hi) (h : C (.dat .non) N) : dsp_P_check_number [.v (.int i), .v (.int lo), .v (.int hi)] N C E00 := ⟨i, lo, hi, rfl, v, h⟩
theorem s_bought_of (v : IntsD d ns) (z : ns.length ≤ 2000) (h : C (.own ((boughtF L ns).map D.int)) N) : dsp_P_bought_of [.v (.int L), d] N C E00 := ⟨L, d, ns, rfl, ⟨v, z⟩, h⟩
theorem s_money (v : 0 ≤ p ∧ p ≤ 1000) (h : C (.dat (.int (moneyF p c n))) N) : dsp_P_money [ruleD p t c, .v (.int n)] N C E00 := ⟨p, t, c, n, rfl, v, h⟩
theorem s_cost_of (v : IntsD d ns) (z : ns.length ≤ 2000 ∧ 0 ≤ p ∧ p ≤ 1000) (h : C (.dat (.int (costF p t c ns))) N) : dsp_P_cost_of [ruleD p t c, d] N C E00 := ⟨p, t, c, d, ns, rfl, ⟨v, z⟩, h⟩
theorem s_bought (v : VRule p t c) (r : VRides 60 ns) (h : C (.own ((boughtF t ns).map D.int)) N) : dsp_P_bought [ruleD p t c, ridesD ns] N C E00 := ⟨p, t, c, ns, rfl, ⟨v, r⟩, h⟩
theorem s_cost (v : VRule p t c) (r : VRides 60 ns) (h : C (.dat (.int (costF p t c ns))) N) : dsp_P_cost [ruleD p t c, ridesD ns] N C E00 := ⟨p, t, c, ns, rfl, ⟨v, r⟩, h⟩
theorem s_up (v : 0 < b ∧ b < 1073741824) (h : C (.dat (.int (upF a b))) N) : dsp_P_up [.v (.int a), .v (.int b)] N C E00 := ⟨a, b, rfl, v, h⟩
theorem s_most_tickets (v : 1 ≤ t ∧ t ≤ 1440) (h : C (.dat (.int (upF 1440 t))) N) : dsp_P_most_tickets [ruleD p t c] N C E00 := ⟨p, t, c, rfl, v, h⟩
theorem s_take (v : 0 < m ∧ m < 1073741824 ∧ N.n ≤ LIM) (h : ∀ i : Int, 0 ≤ i → i < m → C (.dat (.int i)) (N + 1)) : dsp_L_take [.bag, .v (.int m)] N C E00 := ⟨m, rfl, v, h⟩
theorem s_well (v : 0 ≤ a ∧ a ≤ N.n) (h : C (.dat .bag) N) : dsp_L_well [.v (.int n), .v (.int a)] N C E00 := ⟨n, a, rfl, v, h⟩
theorem s_rule (v : N.n + 20 ≤ LIM) (h : ∀ p t c N', VRule p t c → N ≤ N' → N' ≤ N + 11 → C (.dat (ruleD p t c)) N') : dsp_L_rule [.bag] N C E00 := ⟨rfl, v, h⟩
theorem s_lmoney (v : 0 ≤ p ∧ p ≤ 1000) (h : C (.dat (.int (moneyF p c n))) N) : dsp_L_money [ruleD p t c, .v (.int n)] N C E00 := ⟨p, t, c, n, rfl, v, h⟩
@[simp] theorem isa_rule : (ruleD p t c).isa .tuple = some true := rfl
@[simp] theorem items_rides : itemsS (.dat (ridesD ns)) = some (ns.map D.int) := rfl
@[simp] theorem isa_rides : (ridesD ns).isa .tuple = some true := rfl
@[simp] theorem len_rule {k : Sl → Prop} : dLen [ruleD p t c] k = k (.dat (.int 3)) := rfl
theorem len_rides {k : Sl → Prop} : dLen [ridesD ns] k = k (.dat (.int ns.length)) := by simp only [ridesD, len_tup, List.length_map]
@[simp] theorem lf_non : D.non.lf = true := rfl
@[simp] theorem rule_0 {k : Sl → Prop} : dIx (ruleD p t c) (.v (.int 0)) k = k (.dat (.int p)) := rfl
@[simp] theorem rule_1 {k : Sl → Prop} : dIx (ruleD p t c) (.v (.int 1)) k = k (.dat (.int t)) := rfl
@[simp] theorem rule_2 {k : Sl → Prop} : dIx (ruleD p t c) (.v (.int 2)) k = k (.dat (capD c)) := rfl
end
local macro_rules | `(tactic| walk_at "wp") => `(tactic| first | dsimp | skip)
local macro_rules | `(tactic| walk_at "om") => `(tactic| first | omega | (simp only [Ct.le_def, Ct.add_n, Ct.lit_n, Ct.add_g, Ct.lit_g, List.nil_append, List.append_nil] at *; first | omega | (refine ⟨?_, ?_⟩ <;> first | trivial | assumption | (symm; assumption) | omega | simp_all)))
theorem r_P_up : ∀ ds n C Er, dsp_P_up ds n C Er → d_P_up { nx := fun _ n' => C (.dat .non) n', rt := C } (startD ds 2) n := by
  rintro ds n C Er ⟨a, b, rfl, h, q⟩
  unfold d_P_up
  walk_at "wp"
  exact ⟨h, q⟩
theorem r_P_most_tickets : ∀ ds n C Er, dsp_P_most_tickets ds n C Er → d_P_most_tickets { nx := fun _ n' => C (.dat .non) n', rt := C } (startD ds 1) n := by
  rintro ds n C Er ⟨p, t, c, rfl, h, q⟩
  unfold d_P_most_tickets
  walk_at "wp"
  exact s_up (by omega) q
theorem r_P_money : ∀ ds n C Er, dsp_P_money ds n C Er → d_P_money { nx := fun _ n' => C (.dat .non) n', rt := C } (startD ds 5) n := by
  rintro ds n C Er ⟨p, t, c, m, rfl, h, q⟩
  unfold d_P_money
  have hm : CMul m p := .inr (by omega)
  cases c with
  | none =>
    simp only [ruleD, capD]
    walk_at "wp"
    exact ⟨hm, q⟩
  | some c =>
    simp only [ruleD, capD]
    walk_at "wp"
    exact ⟨hm, q⟩
theorem r_P_cost_of : ∀ ds n C Er, dsp_P_cost_of ds n C Er → d_P_cost_of { nx := fun _ n' => C (.dat .non) n', rt := C } (startD ds 2) n := by
  rintro ds n C Er ⟨p, t, c, d, ns, rfl, ⟨hd, hz, hp⟩, q⟩
  unfold d_P_cost_of
  walk_at "wp"
  refine s_bought_of hd hz ?_
  walk_at "wp"
  refine s_money hp ?_
  walk_at "wp"
  rw [List.length_map]
  exact q
theorem r_P_in_range : ∀ ds n C Er, dsp_P_in_range ds n C Er → d_P_in_range { nx := fun _ n' => C (.dat .non) n', rt := C } (startD ds 3) n := by
  rintro ds n C Er ⟨d, lo, hi, rfl, hp, q⟩
  unfold d_P_in_range
  cases d with
  | v x =>
    cases x with
    | int i =>
      have q : C (.dat (.bl (decide (lo ≤ i) && decide (i ≤ hi)))) n := q
      walk_at "wp"
      refine wif_d (fun h => ?_) fun h => ?_
      · rw [decide_eq_true h] at q
        exact q
      · rw [decide_eq_false h] at q
        exact q
    | non => walk_at "wp"; exact q
    | bl b => walk_at "wp"; exact q
    | str x => walk_at "wp"; exact q
    | byt x => cases hp
    | flt x => cases hp
    | ref x => cases hp
    | ty x => cases hp
  | tup ds => walk_at "wp"; exact q
  | lst ds => walk_at "wp"; exact q
  | scr ns => cases hp
  | bag => cases hp
  | fix P => cases hp
theorem r_P_is_rule : ∀ ds n C Er, dsp_P_is_rule ds n C Er → d_P_is_rule { nx := fun _ n' => C (.dat .non) n', rt := C } (startD ds 1) n := by
  rintro ds n C Er ⟨p, t, c, rfl, v, q⟩
  have v1 := v.p0
  have v2 := v.p1
  have v3 := v.t0
  have v4 := v.t1
  unfold d_P_is_rule
  walk_at "wp"
  refine wif_f (by decide) ?_
  refine s_in_range ?_
  simp only [decide_eq_true v1, decide_eq_true v2]
  walk_at "wp"
  refine s_in_range ?_
  simp only [decide_eq_true v3, decide_eq_true v4]
  walk_at "wp"
  cases c with
  | none =>
    simp only [capD]
    walk_at "wp"
    exact q
  | some c =>
    obtain ⟨h1, h2⟩ := v.c0 c rfl
    simp only [capD]
    walk_at "wp"
    refine s_in_range ?_
    rw [decide_eq_true h1, decide_eq_true h2]
    walk_at "wp"
    exact q
theorem zip_asc : ∀ {ns : List Int} {d : D}, ns.Pairwise (· < ·) → d ∈ zipD (ns.map D.int) ((ns.drop 1).map D.int) → ∃ x y, x < y ∧ d = .tup [.int x, .int y]
  | [], d, _, h => by simp [zipD] at h
  | [x], d, _, h => by simp [zipD] at h
  | x :: y :: r, d, hp, h => by
    simp only [List.map_cons, List.drop_succ_cons, List.drop_zero, zipD, List.mem_cons] at h
    rcases h with h | h
    · exact ⟨x, y, (List.pairwise_cons.mp hp).1 y (by simp), h⟩
    · exact zip_asc (ns := y :: r) (List.pairwise_cons.mp hp).2 (by simpa using h)
theorem cut1 (ds : List D) : DL.cutD ds (some 1) none = ds.drop 1 := by
  unfold DL.cutD
  rw [show HT.sIx ds.length 0 (some 1) = min 1 ds.length from HT.sIx_nat ds.length 0 1, HT.sIx_none]
  cases ds with
  | nil => rfl
  | cons x r =>
    rw [show min 1 (x :: r).length = 1 by rw [List.length_cons]; omega]
    show (List.take ((x :: r).length - 1) r) = r
    rw [List.length_cons, Nat.add_sub_cancel]
    exact List.take_length
theorem zipD_length : ∀ {ds es : List D}, (zipD ds es).length ≤ ds.length
  | [], _ => Nat.zero_le _
  | _ :: _, [] => Nat.zero_le _
  | _ :: ds, _ :: es => Nat.succ_le_succ (zipD_length (ds := ds) (es := es))
theorem all_true (n : Nat) : (List.replicate n true).all id = true := by
  rw [List.all_eq_true]
  intro b hb
  exact (List.mem_replicate.mp hb).2
theorem filter_all {α : Type} (ds : List α) : ds.filter (fun _ => true) = ds := List.filter_eq_self.mpr fun _ _ => rfl
theorem map_const {α β : Type} (ds : List α) (b : β) : ds.map (fun _ => b) = List.replicate ds.length b := by
  induction ds with
  | nil => rfl
  | cons d ds ih => rw [List.map_cons, ih]; rfl
theorem r_P_is_rides : ∀ ds n C Er, dsp_P_is_rides ds n C Er → d_P_is_rides { nx := fun _ n' => C (.dat .non) n', rt := C } (startD ds 3) n := by
  rintro ds n C Er ⟨ns, rfl, v, q⟩
  have vl := v.len
  unfold d_P_is_rides
  walk_at "wp"
  rw [len_rides]
  walk_at "wp"
  refine wif_f (decide_eq_false (by omega)) ?_
  refine lc_p (ns.map D.int) (fun _ => true) (fun _ => .bl true) (fun R hR => by walk_at "wp"; exact hR) (by rw [List.length_map]; omega) (fun d hd K K' h1 _ => ?_) ?_
  · obtain ⟨x, hx, rfl⟩ := List.mem_map.mp hd
    obtain ⟨g1, g2⟩ := v.rg x hx
    walk_at "wp"
    refine s_in_range ?_
    simp only [decide_eq_true g1, decide_eq_true g2]
    walk_at "wp"
    exact h1 rfl
  · rw [filter_all, map_const]
    walk_at "wp"
    refine ⟨List.replicate ns.length true, by rw [List.map_replicate, List.length_map], ?_⟩
    rw [all_true]
    walk_at "wp"
    refine lc_p (zipD (ns.map D.int) (DL.cutD (ns.map D.int) (some 1) none)) (fun _ => true) (fun _ => .bl true) (fun R hR => by walk_at "wp"; exact hR) (Nat.le_trans zipD_length (by rw [List.length_map]; omega)) (fun d hd K K' h1 _ => ?_) ?_
    · rw [cut1, ← List.map_drop] at hd
      obtain ⟨x, y, hxy, rfl⟩ := zip_asc v.asc hd
      walk_at "wp"
      rw [decide_eq_true hxy]
      exact h1 rfl
    · rw [filter_all, map_const]
      walk_at "wp"
      refine ⟨List.replicate _ true, by rw [List.map_replicate], ?_⟩
      rw [all_true]
      exact q
theorem r_P_check_rule : ∀ ds n C Er, dsp_P_check_rule ds n C Er → d_P_check_rule { nx := fun _ n' => C (.dat .non) n', rt := C } (startD ds 1) n := by
  rintro ds n C Er ⟨p, t, c, rfl, v, q⟩
  unfold d_P_check_rule
  walk_at "wp"
  refine s_is_rule v ?_
  walk_at "wp"
  exact q
theorem r_P_check_rides : ∀ ds n C Er, dsp_P_check_rides ds n C Er → d_P_check_rides { nx := fun _ n' => C (.dat .non) n', rt := C } (startD ds 1) n := by
  rintro ds n C Er ⟨ns, rfl, v, q⟩
  unfold d_P_check_rides
  walk_at "wp"
  refine s_is_rides v ?_
  walk_at "wp"
  exact q
theorem r_P_check_number : ∀ ds n C Er, dsp_P_check_number ds n C Er → d_P_check_number { nx := fun _ n' => C (.dat .non) n', rt := C } (startD ds 3) n := by
  rintro ds n C Er ⟨i, lo, hi, rfl, v, q⟩
  unfold d_P_check_number
  walk_at "wp"
  refine s_in_range ?_
  rw [decide_eq_true v.1, decide_eq_true v.2]
  walk_at "wp"
  exact q
theorem r_P_bought : ∀ ds n C Er, dsp_P_bought ds n C Er → d_P_bought { nx := fun _ n' => C (.dat .non) n', rt := C } (startD ds 2) n := by
  rintro ds n C Er ⟨p, t, c, ns, rfl, ⟨v, r⟩, q⟩
  unfold d_P_bought
  walk_at "wp"
  refine s_check_rule v ?_
  walk_at "wp"
  refine s_check_rides r ?_
  walk_at "wp"
  refine s_bought_of .tup (Nat.le_trans r.len (by decide)) ?_
  walk_at "wp"
  exact q
theorem r_P_cost : ∀ ds n C Er, dsp_P_cost ds n C Er → d_P_cost { nx := fun _ n' => C (.dat .non) n', rt := C } (startD ds 2) n := by
  rintro ds n C Er ⟨p, t, c, ns, rfl, ⟨v, r⟩, q⟩
  unfold d_P_cost
  walk_at "wp"
  refine s_check_rule v ?_
  walk_at "wp"
  refine s_check_rides r ?_
  walk_at "wp"
  refine s_cost_of .tup ⟨Nat.le_trans r.len (by decide), v.p0, v.p1⟩ ?_
  walk_at "wp"
  exact q
theorem bfold_snoc (L : Int) (ns : List Int) (i : Nat) (x : Int) (h : ns[i]? = some x) : boughtF L (ns.take (i + 1)) = bstep L (boughtF L (ns.take i)) x := by
  unfold boughtF
  rw [List.take_add_one, h, List.foldl_append]
  rfl
theorem bstep_len (L : Int) (acc : List Int) (x : Int) : (bstep L acc x).length ≤ acc.length + 1 := by
  unfold bstep
  split
  · simp
  · split <;> simp
theorem boughtF_len (L : Int) (ns : List Int) : (boughtF L ns).length ≤ ns.length := by
  have h : ∀ (ns acc : List Int), (ns.foldl (bstep L) acc).length ≤ acc.length + ns.length := by
    intro ns
    induction ns with
    | nil => intro acc; simp
    | cons x r ih =>
      intro acc
      rw [List.foldl_cons, List.length_cons]
      have h1 := ih (bstep L acc x)
      have h2 := bstep_len L acc x
      omega
  have := h ns []
  simpa [boughtF] using this
theorem atI_last {ns : List Int} {x : Int} (h : ns.getLast? = some x) : atI (ns.map D.int) (-1) = some (D.int x) := by
  have hn : ns ≠ [] := by rintro rfl; cases h
  have hl : 0 < ns.length := List.length_pos_iff.mpr hn
  rw [List.getLast?_eq_getElem?] at h
  unfold atI ixN
  rw [if_neg (by omega), if_pos (by rw [List.length_map]; omega)]
  show (ns.map D.int)[_]? = _
  rw [List.getElem?_map, List.length_map, show ((-1 : Int) + (ns.length : Int)).toNat = ns.length - 1 by omega, h]
  rfl
theorem getLast_take {ns : List Int} : True := trivial
theorem r_P_bought_of : ∀ ds n C Er, dsp_P_bought_of ds n C Er → d_P_bought_of { nx := fun _ n' => C (.dat .non) n', rt := C } (startD ds 4) n := by
  rintro ds n C Er ⟨L, d, ns, rfl, ⟨hd, hz⟩, q⟩
  unfold d_P_bought_of
  refine seqR fun R hR => ?_
  walk_at "wp"
  refine hR _ _ ?_
  refine seqR fun R hR => ?_
  have hit : itemsS (.dat d) = some (ns.map D.int) := by rcases hd with rfl | rfl <;> rfl
  refine for_i (ns.map D.int) (fun i δ N => N = n ∧ ∃ y, δ = [some (.dat (.int L)), some (.dat d), some (.own ((boughtF L (ns.take i)).map D.int)), y]) (fun R hR => by walk_at "wp"; rw [hit]; exact hR) ⟨rfl, none, rfl⟩ ?_ ?_
  · rintro i e δ N hi ⟨rfl, y, rfl⟩ R2 hR2
    obtain ⟨x, hx, rfl⟩ : ∃ x, ns[i]? = some x ∧ e = .int x := by
      rw [List.getElem?_map] at hi
      cases h : ns[i]? with
      | none => rw [h] at hi; cases hi
      | some x => rw [h] at hi; cases hi; exact ⟨x, rfl, rfl⟩
    have hb := bfold_snoc L ns i x hx
    have hl := boughtF_len L (ns.take i)
    rw [List.length_take] at hl
    walk_at "wp"
    rw [eq_nil]
    walk_at "wp"
    have app : bstep L (boughtF L (ns.take i)) x = boughtF L (ns.take i) ++ [x] → (((boughtF L (ns.take i)).map D.int).length < 100000 ∧ R2 [some (Sl.dat (D.int L)), some (Sl.dat d), some (Sl.own ((boughtF L (ns.take i)).map D.int ++ [D.int x])), some (Sl.dat (D.int x))] N) := fun h1 => by
      refine ⟨by rw [List.length_map]; omega, hR2 _ _ ⟨rfl, some (Sl.dat (D.int x)), ?_⟩⟩
      rw [hb, h1, List.map_append]
      rfl
    refine wif_d (fun h => ?_) fun h => ?_
    · refine app ?_
      rw [h]
      rfl
    · obtain ⟨l, hl'⟩ : ∃ l, (boughtF L (ns.take i)).getLast? = some l := by
        rw [List.getLast?_eq_some_getLast h]
        exact ⟨_, rfl⟩
      have hat := atI_last hl'
      have hstep : bstep L (boughtF L (ns.take i)) x = if l + L ≤ x then boughtF L (ns.take i) ++ [x] else boughtF L (ns.take i) := by
        unfold bstep
        rw [hl']
      simp only [dIx, D.items, hat]
      walk_at "wp"
      refine wif_d (fun h2 => ?_) fun h2 => ?_
      · refine app ?_
        rw [hstep, if_pos h2]
      · refine hR2 _ _ ⟨rfl, some (Sl.dat (D.int x)), ?_⟩
        rw [hb, hstep, if_neg h2]
  · rintro δ N ⟨rfl, y, rfl⟩
    rw [List.length_map, List.take_length]
    refine hR _ _ ?_
    walk_at "wp"
    exact q
end LAW

/-! Rb: the readings of the laws' own helpers. -/
namespace LAW
open PySem PySem.Spec PyProof.Rows L2 DL
variable [TabNames]
local macro_rules | `(tactic| walk_at "wp") => `(tactic| first | dsimp | skip)
local macro_rules | `(tactic| walk_at "om") => `(tactic| first | omega | (simp only [Ct.le_def, Ct.add_n, Ct.lit_n, Ct.add_g, Ct.lit_g, List.nil_append, List.append_nil] at *; first | omega | (refine ⟨?_, ?_⟩ <;> first | trivial | assumption | (symm; assumption) | omega | simp_all)))
theorem r_L_money : ∀ ds n C Er, dsp_L_money ds n C Er → d_L_money { nx := fun _ n' => C (.dat .non) n', rt := C } (startD ds 3) n := by
  rintro ds n C Er ⟨p, t, c, m, rfl, h, q⟩
  have hm : CMul p m := .inl (by walk_at "om")
  unfold d_L_money
  walk_at "wp"
  refine ⟨hm, ?_⟩
  cases c with
  | none =>
    simp only [capD]
    walk_at "wp"
    rw [Int.mul_comm]
    exact q
  | some c =>
    simp only [capD]
    walk_at "wp"
    refine wif_f (decide_eq_false (fun h => by cases h)) ?_
    have q' : C (.dat (.int (min (m * p) c))) n := q
    rw [Int.mul_comm m p] at q'
    refine wif_d (fun h2 => ?_) fun h2 => ?_
    · rw [show min (p * m) c = p * m by walk_at "om"] at q'
      exact q'
    · rw [show min (p * m) c = c by walk_at "om"] at q'
      exact q'
theorem r_L_well : ∀ ds n C Er, dsp_L_well ds n C Er → d_L_well { nx := fun _ n' => C (.dat .non) n', rt := C } (startD ds 2) n := by
  rintro ds n C Er ⟨cell, turn, rfl, ⟨h1, h2⟩, q⟩
  have hp : CPow 10 18 := ⟨by decide, by decide, by decide⟩
  have hm := Int.emod_nonneg cell (show (2305843009213693951 : Int) ≠ 0 by decide)
  unfold d_L_well
  walk_at "wp"
  refine ⟨hp, ?_⟩
  refine wif_d (fun h => ?_) fun h => ?_
  · refine ⟨hp, by decide, ⟨?_, hm, h1, h2⟩, q⟩
    exact Int.sub_nonneg.mpr h
  · exact ⟨by decide, ⟨by decide, hm, h1, h2⟩, q⟩
theorem cutI_head (ns : List Int) (k : Int) (h : 0 ≤ k) : cutI ns none (some k) = ns.take k.toNat := by
  unfold cutI
  obtain ⟨m, rfl⟩ : ∃ m : Nat, k = (m : Int) := ⟨k.toNat, by walk_at "om"⟩
  rw [HT.sIx_nat, HT.sIx_none]
  simp only [List.drop_zero, Nat.sub_zero, Int.toNat_natCast]
  rw [List.take_eq_take_iff]
  omega
theorem r_L_bags : ∀ ds n C Er, dsp_L_bags ds n C Er → d_L_bags { nx := fun _ n' => C (.dat .non) n', rt := C } (startD ds 4) n := by
  rintro ds n C Er ⟨ns, k, rfl, ⟨h0, h1, hN, hl⟩, q⟩
  unfold d_L_bags
  walk_at "wp"
  have hlen : ((ns.take k.toNat).map D.int ++ [D.int 0]).length ≤ 13 := by
    rw [List.length_append, List.length_map, List.length_take]
    show min _ _ + 1 ≤ 13
    walk_at "om"
  refine lc_p (enumFrom 0 ((ns.take k.toNat).map D.int ++ [D.int 0])) (fun _ => true) (fun _ => .bag) (fun R hR => ?_) ?_ (fun d hd K K' h2 _ => ?_) ?_
  · walk_at "wp"
    rw [cutI_head ns k h0]
    refine ⟨?_, hR⟩
    rw [List.length_append] at hlen
    exact Nat.le_trans hlen (by decide)
  · rw [enum_len]
    walk_at "om"
  · obtain ⟨i, hi⟩ := List.getElem?_of_mem hd
    obtain ⟨e, he, rfl⟩ := enum_get hi
    have hi' := (List.getElem?_eq_some_iff.mp he).1
    obtain ⟨x, rfl⟩ : ∃ x, e = .int x := by
      have hm := List.mem_of_getElem? he
      rw [List.mem_append] at hm
      rcases hm with hm | hm
      · obtain ⟨x, _, rfl⟩ := List.mem_map.mp hm
        exact ⟨x, rfl⟩
      · exact ⟨0, by simpa using hm⟩
    walk_at "wp"
    refine ⟨.inl (by walk_at "om"), s_well (by walk_at "om") ?_⟩
    walk_at "wp"
    exact h2 rfl
  · rw [filter_all, map_const]
    walk_at "wp"
    refine q _ ?_
    rw [enum_len]
    exact hlen
theorem two_of {a b : D} {i : Int} {k : Sl → Prop} (h0 : 0 ≤ i) (h1 : i < 2) (ha : i = 0 → k (.dat a)) (hb : i = 1 → k (.dat b)) : dIx (.lst [a, b]) (.v (.int i)) k := by
  have h : i = 0 ∨ i = 1 := by walk_at "om"
  rcases h with rfl | rfl
  · exact ha rfl
  · exact hb rfl
theorem four_of {a b c d : D} {i : Int} {k : Sl → Prop} (h0 : 0 ≤ i) (h1 : i < 4) (ha : k (.dat a)) (hb : k (.dat b)) (hc : k (.dat c)) (hd : k (.dat d)) : dIx (.lst [a, b, c, d]) (.v (.int i)) k := by
  have h : i = 0 ∨ i = 1 ∨ i = 2 ∨ i = 3 := by walk_at "om"
  rcases h with rfl | rfl | rfl | rfl
  · exact ha
  · exact hb
  · exact hc
  · exact hd
theorem r_L_rule : ∀ ds n C Er, dsp_L_rule ds n C Er → d_L_rule { nx := fun _ n' => C (.dat .non) n', rt := C } (startD ds 5) n := by
  rintro ds n C Er ⟨rfl, hN, q⟩
  unfold d_L_rule
  refine seqR fun R1 hR1 => ?_
  walk_at "wp"
  refine s_take ⟨by decide, by decide, by walk_at "om"⟩ fun a a0 a1 => ?_
  walk_at "wp"
  have key : ∀ p : Int, 0 ≤ p → p ≤ 1000 → R1 [some (Sl.dat D.bag), some (Sl.dat (D.int p)), none, none, none] (n + 1 + 1) := by
    intro p p0 p1
    refine hR1 _ _ ?_
    refine seqR fun R2 hR2 => ?_
    walk_at "wp"
    refine s_take ⟨by decide, by decide, by walk_at "om"⟩ fun b b0 b1 => ?_
    walk_at "wp"
    refine s_take ⟨by decide, by decide, by walk_at "om"⟩ fun c c0 c1 => ?_
    walk_at "wp"
    refine s_take ⟨by decide, by decide, by walk_at "om"⟩ fun d d0 d1 => ?_
    walk_at "wp"
    refine ⟨⟨by walk_at "om", by walk_at "om"⟩, ?_⟩
    have e0 : 1 ≤ 1440 / (1 + d) := by
      refine (Int.le_ediv_iff_mul_le (by walk_at "om")).mpr (by walk_at "om")
    have e1 : 1440 / (1 + d) ≤ 1440 := Int.ediv_le_self _ (by decide)
    refine hR2 _ _ ?_
    refine seqR fun R3 hR3 => ?_
    walk_at "wp"
    refine s_take ⟨by decide, by decide, by walk_at "om"⟩ fun e f0 f1 => ?_
    walk_at "wp"
    have key2 : ∀ t : Int, 1 ≤ t → t ≤ 1440 → R3 [some (Sl.dat D.bag), some (Sl.dat (D.int p)), some (Sl.dat (D.lst [D.v (V.int (1 + b)), D.v (V.int (1 + c)), D.v (V.int (1440 / (1 + d))), D.v (V.int 1440)])), some (Sl.dat (D.int t)), none] (n + 1 + 1 + 1 + 1 + 1 + 1) := by
      intro t t0 t1
      refine hR3 _ _ ?_
      refine seqR fun R4 hR4 => ?_
      walk_at "wp"
      refine s_take ⟨by decide, by decide, by walk_at "om"⟩ fun g g0 g1 => ?_
      walk_at "wp"
      refine ⟨.inl (by walk_at "om"), ?_⟩
      have hmul0 : 0 ≤ p * g := Int.mul_nonneg p0 g0
      have hmul1 : p * g ≤ 1000 * 5 := Int.mul_le_mul p1 (by walk_at "om") g0 (by decide)
      refine s_take ⟨by decide, by decide, by walk_at "om"⟩ fun h h0 h1 => ?_
      walk_at "wp"
      refine s_take ⟨by decide, by decide, by walk_at "om"⟩ fun i i0 i1 => ?_
      walk_at "wp"
      refine ⟨⟨by decide, by decide, by decide⟩, ?_⟩
      refine s_take ⟨by decide, by decide, by walk_at "om"⟩ fun j j0 j1 => ?_
      walk_at "wp"
      have j2 : j ≤ 1000000 := by
        have : (10 : Int) ^ (6 : Int).toNat + 1 = 1000001 := by decide
        walk_at "om"
      refine hR4 _ _ ?_
      walk_at "wp"
      refine s_take ⟨by decide, by decide, by walk_at "om"⟩ fun k k0 k1 => ?_
      walk_at "wp"
      have fin : ∀ c : Option Int, (∀ x, c = some x → 0 ≤ x ∧ x ≤ 1000000) → C (.dat (ruleD p t c)) (n + 1 + 1 + 1 + 1 + 1 + 1 + 1 + 1 + 1 + 1 + 1) := fun c hc =>
        q p t c _ ⟨p0, p1, t0, t1, hc⟩ (by walk_at "om") (by walk_at "om")
      refine four_of k0 k1 ?_ ?_ ?_ ?_
      · exact fin none (fun x hx => by cases hx)
      · exact fin (some (p * g + h)) (fun x hx => by cases hx; omega)
      · exact fin (some i) (fun x hx => by cases hx; omega)
      · exact fin (some j) (fun x hx => by cases hx; omega)
    refine four_of f0 f1 ?_ ?_ ?_ ?_
    · exact key2 _ (by walk_at "om") (by walk_at "om")
    · exact key2 _ (by walk_at "om") (by walk_at "om")
    · exact key2 _ e0 e1
    · exact key2 _ (by walk_at "om") (by walk_at "om")
  refine two_of a0 a1 (fun _ => ?_) (fun _ => ?_)
  · walk_at "wp"
    refine s_take ⟨by decide, by decide, by walk_at "om"⟩ fun b b0 b1 => ?_
    walk_at "wp"
    exact key b b0 (by walk_at "om")
  · walk_at "wp"
    refine s_take ⟨by decide, by decide, by walk_at "om"⟩ fun b b0 b1 => ?_
    walk_at "wp"
    exact key b b0 (by walk_at "om")
theorem asc_snoc {m : Nat} {ns : List Int} {x : Int} (h : VRides m ns) (hx : ∀ y ∈ ns, y < x) (h0 : 0 ≤ x) (h1 : x ≤ 1439) : VRides (m + 1) (ns ++ [x]) where
  len := by rw [List.length_append]; have := h.len; show _ + 1 ≤ _; omega
  rg := fun y hy => by
    rcases List.mem_append.mp hy with hy | hy
    · exact h.rg y hy
    · have e : y = x := by simpa using hy
      subst e
      exact ⟨h0, h1⟩
  asc := by
    rw [List.pairwise_append]
    refine ⟨h.asc, List.pairwise_singleton _ _, fun a ha b hb => ?_⟩
    have e : b = x := by simpa using hb
    subst e
    exact hx a ha
theorem VRides.mono {m k : Nat} {ns : List Int} (h : VRides m ns) (hk : m ≤ k) : VRides k ns := ⟨Nat.le_trans h.len hk, h.rg, h.asc⟩
theorem r_L_rides : ∀ ds n C Er, dsp_L_rides ds n C Er → d_L_rides { nx := fun _ n' => C (.dat .non) n', rt := C } (startD ds 7) n := by
  rintro ds n C Er ⟨m, p, t, c, rfl, ⟨m0, m1, t0, t1, hN⟩, q⟩
  unfold d_L_rides
  refine seqR fun R1 hR1 => ?_
  walk_at "wp"
  refine s_take ⟨by decide, by decide, by walk_at "om"⟩ fun a a0 a1 => ?_
  walk_at "wp"
  have key : ∀ tk : Int, 0 ≤ tk → R1 [some (Sl.dat D.bag), some (Sl.dat (D.int m)), some (Sl.dat (ruleD p t c)), some (Sl.dat (D.tup [])), some (Sl.dat (D.int tk)), none, none] (n + 1 + 1) := by
    intro tk tk0
    refine hR1 _ _ ?_
    refine seqR fun R2 hR2 => ?_
    refine for_w fun Rf hRf => ?_
    walk_at "wp"
    refine s_take ⟨by walk_at "om", by walk_at "om", by walk_at "om"⟩ fun k k0 k1 => ?_
    walk_at "wp"
    refine ⟨⟨by walk_at "om", by walk_at "om"⟩, ?_⟩
    refine hRf _ _ (inv_i (fun i δ N => ∃ ns tk y5 y6, δ = [some (Sl.dat D.bag), some (Sl.dat (D.int m)), some (Sl.dat (ruleD p t c)), some (Sl.dat (ridesD ns)), some (Sl.dat (D.int tk)), y5, y6] ∧ (n.g = N.g ∧ n.n + 3 ≤ N.n) ∧ N.n ≤ n.n + 3 + 4 * i ∧
      VRides i ns ∧ (∀ y ∈ ns, y < tk) ∧ 0 ≤ tk) ⟨[], tk, none, none, rfl, by walk_at "om", by walk_at "om", ⟨Nat.le_refl _, by simp, List.Pairwise.nil⟩, by simp, tk0⟩ ?_ ?_)
    · rintro i d δ N hi ⟨ns, tk, y5, y6, rfl, ⟨hG, hN1⟩, hN2, hv, hlt, h0⟩ RR hRR
      have hi' := (List.getElem?_eq_some_iff.mp hi).1
      rw [rngD_len] at hi'
      have hfin : ∀ ns tk y5 y6 N, (n.g = N.g ∧ n.n + 3 ≤ N.n) → N.n ≤ n.n + 3 + 4 * (i + 1) → VRides (i + 1) ns → (∀ y ∈ ns, y < tk) → 0 ≤ tk → RR [some (Sl.dat D.bag), some (Sl.dat (D.int m)), some (Sl.dat (ruleD p t c)), some (Sl.dat (ridesD ns)), some (Sl.dat (D.int tk)), y5, y6] N := fun ns tk y5 y6 N g1 g2 g3 g4 g5 =>
        hRR _ _ ⟨ns, tk, y5, y6, rfl, g1, g2, g3, g4, g5⟩
      unfold dgName
      refine seqR fun R3 hR3 => ?_
      walk_at "wp"
      have key2 : ∀ ns, VRides (i + 1) ns → (∀ y ∈ ns, y < tk + 1) → R3 [some (Sl.dat D.bag), some (Sl.dat (D.int m)), some (Sl.dat (ruleD p t c)), some (Sl.dat (ridesD ns)), some (Sl.dat (D.int tk)), some (Sl.dat d), y6] N := by
        intro ns hv hlt
        refine hR3 _ _ ?_
        refine seqR fun R4 hR4 => ?_
        walk_at "wp"
        refine s_take ⟨by decide, by decide, by walk_at "om"⟩ fun b b0 b1 => ?_
        walk_at "wp"
        refine hR4 _ _ ?_
        walk_at "wp"
        refine s_take ⟨by decide, by decide, by walk_at "om"⟩ fun e e0 e1 => ?_
        walk_at "wp"
        refine ⟨.inl (by walk_at "om"), ?_⟩
        refine s_take ⟨by walk_at "om", by walk_at "om", by walk_at "om"⟩ fun f f0 f1 => ?_
        walk_at "wp"
        refine s_take ⟨by decide, by decide, by walk_at "om"⟩ fun g g0 g1 => ?_
        walk_at "wp"
        have fin : ∀ z : Int, 1 ≤ z → RR [some (Sl.dat D.bag), some (Sl.dat (D.int m)), some (Sl.dat (ruleD p t c)), some (Sl.dat (ridesD ns)), some (Sl.dat (D.int (tk + z))), some (Sl.dat d), some (Sl.dat (D.int (max 1 (t + b - 1))))] (N + 1 + 1 + 1 + 1) := fun z hz =>
          hfin ns (tk + z) _ _ _ (by walk_at "om") (by walk_at "om") hv (fun y hy => by have := hlt y hy; omega) (by walk_at "om")
        refine four_of g0 g1 ?_ ?_ ?_ ?_
        · exact fin 1 (by walk_at "om")
        · exact fin (1 + e) (by walk_at "om")
        · exact fin (max 1 (t + b - 1)) (by walk_at "om")
        · exact fin (1 + f) (by walk_at "om")
      refine wif_d (fun h => ?_) fun h => ?_
      · have e : (ridesD ns : D) = .tup (ns.map D.int) := rfl
        have hl := hv.len
        rw [e]
        walk_at "wp"
        refine ⟨by rw [List.length_map]; omega, ?_⟩
        have e2 : ns.map D.int ++ [D.int tk] = (ns ++ [tk]).map D.int := by rw [List.map_append]; rfl
        rw [e2]
        refine key2 (ns ++ [tk]) (asc_snoc hv hlt h0 (by walk_at "om")) (fun y hy => ?_)
        rcases List.mem_append.mp hy with hy | hy
        · have := hlt y hy
          walk_at "om"
        · have e3 : y = tk := by simpa using hy
          walk_at "om"
      · exact key2 ns (hv.mono (by walk_at "om")) (fun y hy => by have := hlt y hy; omega)
    · rintro δ N ⟨ns, tk, y5, y6, rfl, ⟨hG, hN1⟩, hN2, hv, hlt, h0⟩
      rw [rngD_len] at hN2 hv
      refine hR2 _ _ ?_
      walk_at "wp"
      exact q ns N (hv.mono (by walk_at "om")) (by walk_at "om") (by walk_at "om")
  refine two_of a0 a1 (fun _ => ?_) (fun _ => ?_)
  · walk_at "wp"
    refine s_take ⟨by decide, by decide, by walk_at "om"⟩ fun b b0 b1 => ?_
    walk_at "wp"
    exact key b b0
  · walk_at "wp"
    refine s_take ⟨by decide, by decide, by walk_at "om"⟩ fun b b0 b1 => ?_
    walk_at "wp"
    exact key b b0
end LAW

/-! Rc: same. -/
namespace LAW
open PySem PySem.Spec PyProof.Rows L2 DL
variable [TabNames]
local macro_rules | `(tactic| walk_at "wp") => `(tactic| first | dsimp | skip)
local macro_rules | `(tactic| walk_at "om") => `(tactic| first | omega | (simp only [Ct.le_def, Ct.add_n, Ct.lit_n, Ct.add_g, Ct.lit_g, List.nil_append, List.append_nil] at *; first | omega | (refine ⟨?_, ?_⟩ <;> first | trivial | assumption | (symm; assumption) | omega | simp_all)))
theorem sames_len : ∀ {ds es : List D}, ds.length ≠ es.length → sameDs ds es = false
  | [], [], h => absurd rfl h
  | [], _ :: _, _ => rfl
  | _ :: _, [], _ => rfl
  | d :: ds, e :: es, h => by
    have h' : ds.length ≠ es.length := fun q => h (by simp [q])
    simp [sameDs, sames_len h']
theorem sames_zip : ∀ {ds es : List D}, ds.length = es.length → sameDs ds es = ((zipD ds es).map fun z => match z with | .tup [x, y] => sameD x y | _ => false).all id
  | [], [], _ => rfl
  | [], _ :: _, h => by simp at h
  | _ :: _, [], h => by simp at h
  | d :: ds, e :: es, h => by
    have h' : ds.length = es.length := by simpa using h
    simp [sameDs, zipD, sames_zip h']
theorem ozs_mem : ∀ {n : Nat} {ds : List D} {d : D}, ozs n ds = true → d ∈ ds → oz n d = true
  | _, [], _, _, h => by cases h
  | n, x :: r, d, h, hm => by
    simp only [ozs, Bool.and_eq_true] at h
    rcases List.mem_cons.mp hm with e | hm
    · rw [e]; exact h.1
    · exact ozs_mem h.2 hm
theorem zip_mem {ds es : List D} {z : D} (h : z ∈ zipD ds es) : ∃ x y, x ∈ ds ∧ y ∈ es ∧ z = .tup [x, y] := by
  obtain ⟨i, hi⟩ := List.getElem?_of_mem h
  obtain ⟨x, y, h1, h2, h3⟩ := DL.zip_get hi
  exact ⟨x, y, List.mem_of_getElem? h1, List.mem_of_getElem? h2, h3⟩
@[simp] theorem isas_1 {b : Bool} : D.isasE (.v (.bl b)) [.bool, .list, .tuple] = some true := rfl
@[simp] theorem isas_2 {i : Int} : D.isasE (.v (.int i)) [.bool, .list, .tuple] = some false := rfl
@[simp] theorem isas_3 {x : Str} : D.isasE (.v (.str x)) [.bool, .list, .tuple] = some false := rfl
@[simp] theorem isas_4 : D.isasE (.v .non) [.bool, .list, .tuple] = some false := rfl
@[simp] theorem isas_5 {ds : List D} : D.isasE (.tup ds) [.bool, .list, .tuple] = some true := rfl
@[simp] theorem isas_6 {ds : List D} : D.isasE (.lst ds) [.bool, .list, .tuple] = some true := rfl
theorem eq_bl {a b : Bool} {k : Sl → Prop} : dEq false (.v (.bl a)) (.v (.bl b)) k = k (.dat (.bl (decide (a = b)))) := by
  have e : (a == b) = decide (a = b) := by cases a <;> cases b <;> rfl
  show k (.dat (.bl (a == b))) = _
  rw [e]
theorem eq_strs {x y : Str} {k : Sl → Prop} (hx : PyData.strOk x = true) (hy : PyData.strOk y = true) : dEq false (.v (.str x)) (.v (.str y)) k = k (.dat (.bl (decide (x = y)))) := by
  have e : (x == y) = decide (x = y) := rfl
  show chk (PyData.strOk x && PyData.strOk y) (k (.dat (.bl (x == y)))) = _
  rw [hx, hy, e]
  rfl
theorem same_seq {m : Nat} {C : DK} {n : Ct} {ds es : List D} {σ : StD} (hd : ozs m ds = true) (he : ozs m es = true) (hz : ds.length ≤ 5000) (mk : List D → D) (hmk : (mk = .lst ∨ mk = .tup))
    (hσ : σ = [some (Sl.dat (mk ds)), some (Sl.dat (mk es)), none, none]) (q : C (.dat (.bl (sameDs ds es))) n) :
    wif (decide ((ds.length : Int) = (es.length : Int))) ((dLc (dZip (dCons (dVar 0) (dCons (dVar 1) dNil))) (dgTup 2 (dgCons (dgName 2) (dgCons (dgName 3) dgNil))) dYes (dCall E00 (dspR_L_same (m + 1)) (dCons (dVar 2) (dCons (dVar 3) dNil))) [2, 3]) σ n fun s N1 => dAll [s.rd] fun z => C z.out N1)
      (C (.dat (.bl false)) n) := by
  subst hσ
  refine wif_d (fun h => ?_) fun h => ?_
  · have hl : ds.length = es.length := by omega
    refine lc_p (zipD ds es) (fun _ => true) (fun z => .bl (match z with | .tup [x, y] => sameD x y | _ => false)) (fun R hR => ?_) (Nat.le_trans zipD_length (by omega)) (fun z hz K K' h1 _ => ?_) ?_
    · rcases hmk with rfl | rfl
      · walk_at "wp"
        exact hR
      · walk_at "wp"
        exact hR
    · obtain ⟨x, y, hx, hy, rfl⟩ := zip_mem hz
      walk_at "wp"
      refine ⟨x, y, rfl, ⟨ozs_mem hd hx, ozs_mem he hy⟩, ?_⟩
      walk_at "wp"
      exact h1 rfl
    · rw [filter_all]
      walk_at "wp"
      refine ⟨(zipD ds es).map (fun z => match z with | .tup [x, y] => sameD x y | _ => false), by rw [List.map_map]; rfl, ?_⟩
      rw [← sames_zip hl]
      exact q
  · have hl : ds.length ≠ es.length := fun e => h (by rw [e])
    rw [sames_len hl] at q
    exact q
theorem l_L_same (m : Nat) : ∀ ds n C Er, dspR_L_same m ds n C Er → ds.length = 2 := by
  cases m with
  | zero => intro ds n C Er h; exact h.elim
  | succ m => rintro ds n C Er ⟨d, e, rfl, _⟩; rfl
theorem r_L_same (m : Nat) : ∀ ds n C Er, dspR_L_same (m + 1) ds n C Er → d_L_same (dspR_L_same m) { nx := fun _ n' => C (.dat .non) n', rt := C } (startD ds 4) n := by
  rintro ds n C Er ⟨d, e, rfl, ⟨hd, he⟩, q⟩
  unfold d_L_same
  have seq : ∀ (mk : List D → D) ds es, (mk = .lst ∨ mk = .tup) → oz m (mk ds) = true → oz m (mk es) = true → C (.dat (.bl (sameDs ds es))) n →
     wif (decide ((ds.length : Int) = (es.length : Int))) ((dLc (dZip (dCons (dVar 0) (dCons (dVar 1) dNil))) (dgTup 2 (dgCons (dgName 2) (dgCons (dgName 3) dgNil))) dYes (dCall E00 (dspR_L_same m) (dCons (dVar 2) (dCons (dVar 3) dNil))) [2, 3]) [some (Sl.dat (mk ds)), some (Sl.dat (mk es)), none, none] n fun s N1 => dAll [s.rd] fun z => C z.out N1)
      (C (.dat (.bl false)) n) := by
    intro mk ds es hmk h1 h2 h3
    cases m with
    | zero => rcases hmk with rfl | rfl <;> simp [oz] at h1
    | succ m =>
      have g1 : ds.length ≤ 5000 ∧ ozs m ds = true := by rcases hmk with rfl | rfl <;> simpa [oz] using h1
      have g2 : es.length ≤ 5000 ∧ ozs m es = true := by rcases hmk with rfl | rfl <;> simpa [oz] using h2
      exact same_seq g1.2 g2.2 g1.1 mk hmk rfl h3
  have nope : ∀ d : D, (∃ ns, d = .scr ns) ∨ d = .bag ∨ (∃ x, d = .v x ∧ oz m (.v x) = false) → oz m d = true → False := by
    rintro d (⟨ns, rfl⟩ | rfl | ⟨x, rfl, hx⟩) h
    · cases m <;> simp [oz] at h
    · cases m <;> simp [oz] at h
    · rw [hx] at h; cases h
  have vk : ∀ x : V, oz m (.v x) = true → x = .non ∨ (∃ b, x = .bl b) ∨ (∃ i, x = .int i) ∨ ∃ s, x = .str s ∧ PyData.strOk s = true := by
    intro x h
    cases x with
    | non => exact .inl rfl
    | bl b => exact .inr (.inl ⟨b, rfl⟩)
    | int i => exact .inr (.inr (.inl ⟨i, rfl⟩))
    | str s => exact .inr (.inr (.inr ⟨s, rfl, by cases m <;> simpa [oz] using h⟩))
    | byt b => cases m <;> simp [oz] at h
    | flt b => cases m <;> simp [oz] at h
    | ref b => cases m <;> simp [oz] at h
    | ty b => cases m <;> simp [oz] at h
  cases d with
  | scr ns => exact (nope _ (.inl ⟨ns, rfl⟩) hd).elim
  | bag => exact (nope _ (.inr (.inl rfl)) hd).elim
  | fix P => exact (show False by cases m <;> simp [oz] at hd).elim
  | lst ds =>
    cases e with
    | scr ns => exact (nope _ (.inl ⟨ns, rfl⟩) he).elim
    | bag => exact (nope _ (.inr (.inl rfl)) he).elim
    | fix P => exact (show False by cases m <;> simp [oz] at he).elim
    | lst es =>
      walk_at "wp"
      exact seq .lst ds es (.inl rfl) hd he q
    | tup es =>
      walk_at "wp"
      exact q
    | v y =>
      rcases vk y he with rfl | ⟨b, rfl⟩ | ⟨i, rfl⟩ | ⟨s, rfl, hs⟩ <;> (walk_at "wp"; exact q)
  | tup ds =>
    cases e with
    | scr ns => exact (nope _ (.inl ⟨ns, rfl⟩) he).elim
    | bag => exact (nope _ (.inr (.inl rfl)) he).elim
    | fix P => exact (show False by cases m <;> simp [oz] at he).elim
    | lst es =>
      walk_at "wp"
      exact q
    | tup es =>
      walk_at "wp"
      exact seq .tup ds es (.inr rfl) hd he q
    | v y =>
      rcases vk y he with rfl | ⟨b, rfl⟩ | ⟨i, rfl⟩ | ⟨s, rfl, hs⟩ <;> (walk_at "wp"; exact q)
  | v x =>
    cases e with
    | scr ns => exact (nope _ (.inl ⟨ns, rfl⟩) he).elim
    | bag => exact (nope _ (.inr (.inl rfl)) he).elim
    | fix P => exact (show False by cases m <;> simp [oz] at he).elim
    | lst es =>
      rcases vk x hd with rfl | ⟨b, rfl⟩ | ⟨i, rfl⟩ | ⟨s, rfl, hs⟩ <;> (walk_at "wp"; exact q)
    | tup es =>
      rcases vk x hd with rfl | ⟨b, rfl⟩ | ⟨i, rfl⟩ | ⟨s, rfl, hs⟩ <;> (walk_at "wp"; exact q)
    | v y =>
      have q' : C (.dat (.bl (decide (x = y)))) n := q
      have ne : ∀ {x y : V}, C (.dat (.bl (decide (x = y)))) n → x ≠ y → C (.dat (.bl false)) n := fun q h => by rwa [decide_eq_false h] at q
      rcases vk x hd with rfl | ⟨b, rfl⟩ | ⟨i, rfl⟩ | ⟨s, rfl, hs⟩ <;> rcases vk y he with rfl | ⟨b2, rfl⟩ | ⟨i2, rfl⟩ | ⟨s2, rfl, hs2⟩ <;> walk_at "wp"
      · exact q'
      · exact ne q' (by simp)
      · exact ne q' (by simp)
      · exact ne q' (by simp)
      · exact ne q' (by simp)
      · rw [eq_bl]
        simpa using q'
      · exact ne q' (by simp)
      · exact ne q' (by simp)
      · exact ne q' (by simp)
      · exact ne q' (by simp)
      · simpa using q'
      · exact ne q' (by simp)
      · exact ne q' (by simp)
      · exact ne q' (by simp)
      · exact ne q' (by simp)
      · rw [eq_strs hs hs2]
        simpa using q'
end LAW

/-! Rd: tickets_for, sums of tickets, lengths of arguments. -/
namespace LAW
open PySem PySem.Spec PyProof.Rows L2 DL
variable [TabNames]
local macro_rules | `(tactic| walk_at "wp") => `(tactic| first | dsimp | skip)
local macro_rules | `(tactic| walk_at "om") => `(tactic| first | omega | (simp only [Ct.le_def, Ct.add_n, Ct.lit_n, Ct.add_g, Ct.lit_g, List.nil_append, List.append_nil] at *; first | omega | (refine ⟨?_, ?_⟩ <;> first | trivial | assumption | (symm; assumption) | omega | simp_all)))
theorem rng_nats {n : Int} : rngD 0 n.toNat = (natsI n).map D.int := by
  unfold rngD natsI
  rw [List.map_map]
  refine List.map_congr_left fun i _ => ?_
  show D.int (0 + (i : Int)) = D.int (i : Int)
  rw [Int.zero_add]
theorem nats_mem {n x : Int} : x ∈ natsI n ↔ 0 ≤ x ∧ x < n := by
  unfold natsI
  rw [List.mem_map]
  constructor
  · rintro ⟨i, hi, rfl⟩
    have := List.mem_range.mp hi
    omega
  · rintro ⟨h0, h1⟩
    exact ⟨x.toNat, List.mem_range.mpr (by omega), by omega⟩
theorem nats_len {n : Int} : (natsI n).length = n.toNat := by unfold natsI; rw [List.length_map, List.length_range]
theorem nats_asc {n : Int} : (natsI n).Pairwise (· < ·) := by
  unfold natsI
  rw [List.pairwise_map]
  exact List.pairwise_lt_range.imp fun h => by omega
theorem nats_get {n x : Int} (h0 : 0 ≤ x) (h1 : x < n) : (natsI n)[x.toNat]? = some x := by
  unfold natsI
  rw [List.getElem?_map, List.getElem?_range (by omega)]
  show some ((x.toNat : Int)) = some x
  rw [Int.toNat_of_nonneg h0]
theorem up_le {t : Int} (h0 : 1 ≤ t) (h1 : t ≤ 1440) : 1 ≤ upF 1440 t ∧ upF 1440 t ≤ 1440 := by
  unfold upF
  constructor
  · exact (Int.le_ediv_iff_mul_le (by omega)).mpr (by omega)
  · refine Int.ediv_le_of_le_mul (by omega) ?_
    have : t * 1440 ≥ t * 1 := by omega
    omega
theorem filter_map_int (p : Int → Bool) (q : D → Bool) (h : ∀ x : Int, q (D.int x) = p x) (ns : List Int) : (ns.map D.int).filter q = (ns.filter p).map D.int := by
  induction ns with
  | nil => rfl
  | cons x r ih =>
    rw [List.map_cons, List.filter_cons, List.filter_cons, h, ih]
    cases p x <;> rfl
theorem atI_int {ns : List Int} {i x : Int} (h0 : 0 ≤ i) (h : ns[i.toNat]? = some x) : atI (ns.map D.int) i = some (D.int x) := by
  have hl := (List.getElem?_eq_some_iff.mp h).1
  unfold atI ixN
  rw [if_pos h0, if_pos (by rw [List.length_map]; omega)]
  show (ns.map D.int)[_]? = _
  rw [List.getElem?_map, h]
  rfl
/-- x[0], x[-1] or None -/
theorem span_of {xs : List Int} {N : Ct} {C : DK} {δ : StD} {i : Nat} (hi : dVar i δ = dVar 0 [some (.dat (.lst (xs.map D.int)))]) (q : C (.dat (spanD xs)) N) : dIfE (dTest (dOp (dEq true) (dVar i) (dLst dNil))) (dTup (dCons (dOp dIx (dVar i) (dC (.int 0))) (dCons (dOp dIx (dVar i) (dNeg (dC (.int 1)))) dNil))) (dC .non) δ N C := by
  simp only [dIfE, dTest, dOp, dTup, dCons, hi]
  walk_at "wp"
  rw [eq_nil]
  walk_at "wp"
  cases xs with
  | nil =>
    refine wif_f rfl ?_
    exact q
  | cons x r =>
    refine wif_t (by simp [ng]) ?_
    have h1 : atI ((x :: r).map D.int) 0 = some (D.int x) := atI_int (by decide) rfl
    have h2 : atI ((x :: r).map D.int) (-1) = some (D.int ((x :: r).getLast (List.cons_ne_nil _ _))) := atI_last (List.getLast?_eq_some_getLast _)
    simp only [dIx, D.items]
    rw [h1]
    walk_at "wp"
    have h2' : atI (D.int x :: r.map D.int) (-1) = some (D.int ((x :: r).getLast (List.cons_ne_nil _ _))) := h2
    rw [h2']
    exact q
theorem s_tickets_for {p t paid : Int} {c : Option Int} {N : Ct} {C : DK} (v : VRule p t c) (h : 0 ≤ paid ∧ paid ≤ 10000000) (q : C (.dat (spanD (ticks p t c paid))) N) : dsp_P_tickets_for [ruleD p t c, .v (.int paid)] N C E00 := ⟨p, t, c, paid, rfl, ⟨v, h⟩, q⟩
theorem r_P_tickets_for : ∀ ds n C Er, dsp_P_tickets_for ds n C Er → d_P_tickets_for { nx := fun _ n' => C (.dat .non) n', rt := C } (startD ds 4) n := by
  rintro ds n C Er ⟨p, t, c, paid, rfl, ⟨v, h⟩, q⟩
  have hu := up_le v.t0 v.t1
  unfold d_P_tickets_for
  walk_at "wp"
  refine s_check_rule v ?_
  walk_at "wp"
  refine s_check_number h ?_
  walk_at "wp"
  refine lc_p ((natsI (upF 1440 t + 1)).map D.int) (fun d => match d with | .v (.int x) => decide (moneyF p c x = paid) | _ => false) (fun d => d) (fun R hR => ?_) (by rw [List.length_map, nats_len]; omega) (fun d hd K K' h1 h2 => ?_) ?_
  · walk_at "wp"
    refine s_most_tickets ⟨v.t0, v.t1⟩ ?_
    walk_at "wp"
    refine ⟨⟨by omega, by omega⟩, ?_⟩
    rw [rng_nats]
    exact hR
  · obtain ⟨x, hx, rfl⟩ := List.mem_map.mp hd
    walk_at "wp"
    refine s_money ⟨v.p0, v.p1⟩ ?_
    walk_at "wp"
    refine wif_d (fun e => ?_) fun e => ?_
    · exact h1 (decide_eq_true e)
    · exact h2 (decide_eq_false e)
  · rw [filter_map_int (fun x => decide (moneyF p c x = paid)) _ (fun _ => rfl), List.map_id']
    exact span_of (xs := ticks p t c paid) (δ := [some (.dat (.lst ((ticks p t c paid).map D.int)))]) (i := 0) rfl q
/-! ### how many arguments -/
theorem l_P_in_range : ∀ ds n C Er, dsp_P_in_range ds n C Er → ds.length = 3 := by rintro ds n C Er ⟨_, _, _, rfl, _⟩; rfl
theorem l_P_is_rule : ∀ ds n C Er, dsp_P_is_rule ds n C Er → ds.length = 1 := by rintro ds n C Er ⟨_, _, _, rfl, _⟩; rfl
theorem l_P_is_rides : ∀ ds n C Er, dsp_P_is_rides ds n C Er → ds.length = 1 := by rintro ds n C Er ⟨_, rfl, _⟩; rfl
theorem l_P_check_rule : ∀ ds n C Er, dsp_P_check_rule ds n C Er → ds.length = 1 := by rintro ds n C Er ⟨_, _, _, rfl, _⟩; rfl
theorem l_P_check_rides : ∀ ds n C Er, dsp_P_check_rides ds n C Er → ds.length = 1 := by rintro ds n C Er ⟨_, rfl, _⟩; rfl
theorem l_P_check_number : ∀ ds n C Er, dsp_P_check_number ds n C Er → ds.length = 3 := by rintro ds n C Er ⟨_, _, _, rfl, _⟩; rfl
theorem l_P_bought_of : ∀ ds n C Er, dsp_P_bought_of ds n C Er → ds.length = 2 := by rintro ds n C Er ⟨_, _, _, rfl, _⟩; rfl
theorem l_P_money : ∀ ds n C Er, dsp_P_money ds n C Er → ds.length = 2 := by rintro ds n C Er ⟨_, _, _, _, rfl, _⟩; rfl
theorem l_P_cost_of : ∀ ds n C Er, dsp_P_cost_of ds n C Er → ds.length = 2 := by rintro ds n C Er ⟨_, _, _, _, _, rfl, _⟩; rfl
theorem l_P_bought : ∀ ds n C Er, dsp_P_bought ds n C Er → ds.length = 2 := by rintro ds n C Er ⟨_, _, _, _, rfl, _⟩; rfl
theorem l_P_cost : ∀ ds n C Er, dsp_P_cost ds n C Er → ds.length = 2 := by rintro ds n C Er ⟨_, _, _, _, rfl, _⟩; rfl
theorem l_P_up : ∀ ds n C Er, dsp_P_up ds n C Er → ds.length = 2 := by rintro ds n C Er ⟨_, _, rfl, _⟩; rfl
theorem l_P_most_tickets : ∀ ds n C Er, dsp_P_most_tickets ds n C Er → ds.length = 1 := by rintro ds n C Er ⟨_, _, _, rfl, _⟩; rfl
theorem l_P_tickets_for : ∀ ds n C Er, dsp_P_tickets_for ds n C Er → ds.length = 2 := by rintro ds n C Er ⟨_, _, _, _, rfl, _⟩; rfl
theorem l_L_take : ∀ ds n C Er, dsp_L_take ds n C Er → ds.length = 2 := by rintro ds n C Er ⟨_, rfl, _⟩; rfl
theorem l_L_well : ∀ ds n C Er, dsp_L_well ds n C Er → ds.length = 2 := by rintro ds n C Er ⟨_, _, rfl, _⟩; rfl
theorem l_L_bags : ∀ ds n C Er, dsp_L_bags ds n C Er → ds.length = 2 := by rintro ds n C Er ⟨_, _, rfl, _⟩; rfl
theorem l_L_rule : ∀ ds n C Er, dsp_L_rule ds n C Er → ds.length = 1 := by rintro ds n C Er ⟨rfl, _⟩; rfl
theorem l_L_rides : ∀ ds n C Er, dsp_L_rides ds n C Er → ds.length = 3 := by rintro ds n C Er ⟨_, _, _, _, rfl, _⟩; rfl
theorem l_L_money : ∀ ds n C Er, dsp_L_money ds n C Er → ds.length = 2 := by rintro ds n C Er ⟨_, _, _, _, rfl, _⟩; rfl
theorem same_refl_ints : ∀ ns : List Int, sameDs (ns.map D.int) (ns.map D.int) = true
  | [] => rfl
  | n :: ns => by
    show (sameD (D.int n) (D.int n) && sameDs (ns.map D.int) (ns.map D.int)) = true
    rw [same_refl_ints ns]
    simp [sameD]
theorem oz_span (ns : List Int) : oz 3 (spanD ns) = true := by
  cases ns with
  | nil => rfl
  | cons x r => rfl
theorem same_span (ns : List Int) : sameD (spanD ns) (spanD ns) = true := by
  cases ns with
  | nil => rfl
  | cons x r => exact same_refl_ints [x, _]
theorem s_same {d e : D} {N : Ct} {C : DK} (h : oz 3 d = true ∧ oz 3 e = true) (q : C (.dat (.bl (sameD d e))) N) : dsp_L_same [d, e] N C E00 := ⟨d, e, rfl, h, q⟩
theorem s_rides {m p t : Int} {c : Option Int} {N : Ct} {C : DK} (h : 0 ≤ m ∧ m ≤ 60 ∧ 1 ≤ t ∧ t ≤ 1440 ∧ N.n + 300 ≤ LIM) (q : ∀ ns N', VRides m.toNat ns → N ≤ N' → N' ≤ N + 243 → C (.dat (ridesD ns)) N') : dsp_L_rides [.bag, .v (.int m), ruleD p t c] N C E00 := ⟨m, p, t, c, rfl, h, q⟩
theorem s_bags {ns : List Int} {k : Int} {N : Ct} {C : DK} (h : 0 ≤ k ∧ k ≤ 12 ∧ 9770 * 2 ≤ N.n ∧ ns.length ≤ 63) (q : ∀ m : Nat, m ≤ 13 → C (.own (List.replicate m .bag)) N) : dsp_L_bags [.scr ns, .v (.int k)] N C E00 := ⟨ns, k, rfl, h, q⟩
def dsp_law : DSp := fun ds N C _ => ∃ ns, ds = [.scr ns] ∧ (ns.length ≤ 63 ∧ N = 20000) ∧ ∀ N', C (.dat (.bl true)) N'
theorem l_law : ∀ ds n C Er, dsp_law ds n C Er → ds.length = 1 := by rintro ds n C Er ⟨_, rfl, _⟩; rfl
/-- the law answers -/
theorem end_law {K : PySem.W.Frag} {H : Hp} {a : Addr} {ns : List Int} (hl : ns.length ≤ 63) (ho : Only H) (hS : SqL K H a (ns.map V.int)) : lift K dsp_law [.ref a] H (fun v _ => v = .bl true) (fun _ _ _ => False) := by
  have hf : SqF K H a (ns.map V.int) := by
    rcases hS with (h | h) | h
    · rcases ho a with h2 | ⟨o, ys, h2⟩ <;> rw [h2] at h <;> cases h
    · exact .inl h
    · exact .inr h
  refine ⟨Z00, 20000, [.scr ns], fun s _ => s = .dat (.bl true), fun _ _ => False, fun _ z => z.elim, .cons (.scr hf) .nil, ⟨ns, rfl, ⟨hl, rfl⟩, fun _ => rfl⟩, fun s v H' k _ r hs => ?_, fun _ _ _ _ z => z.elim⟩
  have hs' : s = .dat (.bl true) := hs
  subst hs'
  cases r; rfl
end LAW

/-! Re: regular, the laws' own bought and cost. -/
namespace LAW
open PySem PySem.Spec PyProof.Rows L2 DL
variable [TabNames]
local macro_rules | `(tactic| walk_at "wp") => `(tactic| first | dsimp | skip)
local macro_rules | `(tactic| walk_at "om") => `(tactic| first | omega | (simp only [Ct.le_def, Ct.add_n, Ct.lit_n, Ct.add_g, Ct.lit_g, List.nil_append, List.append_nil] at *; first | omega | (refine ⟨?_, ?_⟩ <;> first | trivial | assumption | (symm; assumption) | omega | simp_all)))
section
variable {N : Ct} {C : DK} {p t b s L : Int} {c : Option Int} {d : D} {ns : List Int}
theorem s_cost_from (v : 0 ≤ p ∧ p ≤ 1000 ∧ 1 ≤ t ∧ t ≤ 1440 ∧ b < 1440 ∧ 1 ≤ s ∧ s ≤ 1440) (h : C (.dat (.int (costFromF p t c b s))) N) : dsp_P_cost_from [ruleD p t c, .v (.int b), .v (.int s)] N C E00 := ⟨p, t, c, b, s, rfl, v, h⟩
theorem s_regular (v : VRule p t c) (v2 : 0 ≤ b ∧ b ≤ 1439 ∧ 1 ≤ s ∧ s ≤ 1440) (h : C (.dat (.int (costFromF p t c b s))) N) : dsp_P_regular [ruleD p t c, .v (.int b), .v (.int s)] N C E00 := ⟨p, t, c, b, s, rfl, ⟨v, v2⟩, h⟩
theorem s_lbought (v : IntsD d ns) (z : ns.length ≤ 2000) (g : ∀ x ∈ ns, 0 ≤ x) (h : C (.own ((boughtF L ns).map D.int)) N) : dsp_L_bought [.v (.int L), d] N C E00 := ⟨L, d, ns, rfl, ⟨v, z, g⟩, h⟩
theorem s_lcost (v : IntsD d ns) (z : ns.length ≤ 2000) (g : ∀ x ∈ ns, 0 ≤ x) (hp : 0 ≤ p ∧ p ≤ 1000) (h : C (.dat (.int (costF p t c ns))) N) : dsp_L_cost [ruleD p t c, d] N C E00 := ⟨p, t, c, d, ns, rfl, ⟨v, z, g, hp⟩, h⟩
end
theorem l_P_cost_from : ∀ ds n C Er, dsp_P_cost_from ds n C Er → ds.length = 3 := by rintro ds n C Er ⟨_, _, _, _, _, rfl, _⟩; rfl
theorem l_P_regular : ∀ ds n C Er, dsp_P_regular ds n C Er → ds.length = 3 := by rintro ds n C Er ⟨_, _, _, _, _, rfl, _⟩; rfl
theorem l_L_bought : ∀ ds n C Er, dsp_L_bought ds n C Er → ds.length = 2 := by rintro ds n C Er ⟨_, _, _, rfl, _⟩; rfl
theorem l_L_cost : ∀ ds n C Er, dsp_L_cost ds n C Er → ds.length = 2 := by rintro ds n C Er ⟨_, _, _, _, _, rfl, _⟩; rfl
theorem up_pos {a b : Int} (ha : 0 ≤ a) (hb : 1 ≤ b) : 0 ≤ upF a b ∧ upF a b ≤ a := by
  unfold upF
  constructor
  · exact Int.ediv_nonneg (by omega) (by omega)
  · by_cases h : a = 0
    · subst h
      rw [Int.ediv_eq_zero_of_lt (by omega) (by omega)]
      exact Int.le_refl _
    · refine Int.ediv_le_of_le_mul (by omega) ?_
      have h1 : 0 ≤ (a - 1) * (b - 1) := Int.mul_nonneg (by omega) (by omega)
      have h2 : (a - 1) * (b - 1) = a * b - a - b + 1 := by
        rw [Int.sub_mul, Int.mul_sub, Int.mul_sub]
        omega
      omega
theorem up_one {a b : Int} (ha : 1 ≤ a) (hb : 1 ≤ b) : 1 ≤ upF a b := by
  unfold upF
  exact (Int.le_ediv_iff_mul_le (by omega)).mpr (by omega)
theorem r_P_cost_from : ∀ ds n C Er, dsp_P_cost_from ds n C Er → d_P_cost_from { nx := fun _ n' => C (.dat .non) n', rt := C } (startD ds 4) n := by
  rintro ds n C Er ⟨p, t, c, b, s, rfl, ⟨p0, p1, t0, t1, b1, s0, s1⟩, q⟩
  have h1 := up_one t0 s0
  have h2 := up_pos (a := t) (b := s) (by omega) s0
  unfold d_P_cost_from
  refine seqR fun R hR => ?_
  walk_at "wp"
  refine wif_t (decide_eq_true b1) ?_
  refine s_up ⟨by omega, by omega⟩ ?_
  walk_at "wp"
  refine hR _ _ ?_
  walk_at "wp"
  refine s_up ⟨by omega, by omega⟩ ?_
  walk_at "wp"
  refine s_up ⟨by omega, by omega⟩ ?_
  walk_at "wp"
  refine s_money ⟨p0, p1⟩ ?_
  walk_at "wp"
  exact q
theorem r_P_regular : ∀ ds n C Er, dsp_P_regular ds n C Er → d_P_regular { nx := fun _ n' => C (.dat .non) n', rt := C } (startD ds 3) n := by
  rintro ds n C Er ⟨p, t, c, b, s, rfl, ⟨v, b0, b1, s0, s1⟩, q⟩
  unfold d_P_regular
  walk_at "wp"
  refine s_check_rule v ?_
  walk_at "wp"
  refine s_check_number ⟨b0, by omega⟩ ?_
  walk_at "wp"
  refine s_check_number ⟨s0, s1⟩ ?_
  walk_at "wp"
  refine s_cost_from ⟨v.p0, v.p1, v.t0, v.t1, by omega, s0, s1⟩ ?_
  walk_at "wp"
  exact q
def untilF (L : Int) (acc : List Int) : Int := match acc.getLast? with
  | none => -1
  | some l => l + L
theorem until_step {L x : Int} {acc : List Int} (hx : 0 ≤ x) : bstep L acc x = if untilF L acc ≤ x then acc ++ [x] else acc := by
  unfold bstep untilF
  cases h : acc.getLast? with
  | none =>
    dsimp only
    rw [if_pos (by omega)]
  | some l => rfl
theorem r_L_bought : ∀ ds n C Er, dsp_L_bought ds n C Er → d_L_bought { nx := fun _ n' => C (.dat .non) n', rt := C } (startD ds 5) n := by
  rintro ds n C Er ⟨L, d, ns, rfl, ⟨hd, hz, hg⟩, q⟩
  unfold d_L_bought
  refine seqR fun R hR => ?_
  walk_at "wp"
  refine hR _ _ ?_
  refine seqR fun R hR => ?_
  have hit : itemsS (.dat d) = some (ns.map D.int) := by rcases hd with rfl | rfl <;> rfl
  refine for_i (ns.map D.int) (fun i δ N => N = n ∧ ∃ y, δ = [some (.dat (.int L)), some (.dat d), some (.own ((boughtF L (ns.take i)).map D.int)), some (.dat (.int (untilF L (boughtF L (ns.take i))))), y]) (fun R hR => by walk_at "wp"; rw [hit]; exact hR) ⟨rfl, none, rfl⟩ ?_ ?_
  · rintro i e δ N hi ⟨rfl, y, rfl⟩ R2 hR2
    obtain ⟨x, hx, rfl⟩ : ∃ x, ns[i]? = some x ∧ e = .int x := by
      rw [List.getElem?_map] at hi
      cases h : ns[i]? with
      | none => rw [h] at hi; cases hi
      | some x => rw [h] at hi; cases hi; exact ⟨x, rfl, rfl⟩
    have hx0 := hg x (List.mem_of_getElem? hx)
    have hb := bfold_snoc L ns i x hx
    rw [until_step hx0] at hb
    have hl := boughtF_len L (ns.take i)
    rw [List.length_take] at hl
    walk_at "wp"
    refine wif_d (fun h => ?_) fun h => ?_
    · rw [if_pos h] at hb
      refine ⟨by rw [List.length_map]; omega, hR2 _ _ ⟨rfl, some (Sl.dat (D.int x)), ?_⟩⟩
      rw [hb, List.map_append]
      have e : untilF L (boughtF L (ns.take i) ++ [x]) = x + L := by
        unfold untilF
        rw [List.getLast?_append]
        rfl
      rw [e]
      rfl
    · rw [if_neg h] at hb
      refine hR2 _ _ ⟨rfl, some (Sl.dat (D.int x)), ?_⟩
      rw [hb]
  · rintro δ N ⟨rfl, y, rfl⟩
    rw [List.length_map, List.take_length]
    refine hR _ _ ?_
    walk_at "wp"
    exact q
theorem r_L_cost : ∀ ds n C Er, dsp_L_cost ds n C Er → d_L_cost { nx := fun _ n' => C (.dat .non) n', rt := C } (startD ds 2) n := by
  rintro ds n C Er ⟨p, t, c, d, ns, rfl, ⟨hd, hz, hg, hp⟩, q⟩
  unfold d_L_cost
  walk_at "wp"
  refine s_lbought hd hz hg ?_
  walk_at "wp"
  refine s_lmoney hp ?_
  walk_at "wp"
  rw [List.length_map]
  exact q
end LAW

/-! Rf: hidden_ticks; loops that pick. -/
namespace LAW
open PySem PySem.Spec PyProof.Rows L2 DL
variable [TabNames]
local macro_rules | `(tactic| walk_at "wp") => `(tactic| first | dsimp | skip)
local macro_rules | `(tactic| walk_at "om") => `(tactic| first | omega | (simp only [Ct.le_def, Ct.add_n, Ct.lit_n, Ct.add_g, Ct.lit_g, List.nil_append, List.append_nil] at *; first | omega | (refine ⟨?_, ?_⟩ <;> first | trivial | assumption | (symm; assumption) | omega | simp_all)))
theorem pick_snoc {α : Type} (p : α → Bool) {l : List α} {i : Nat} {x : α} (h : l[i]? = some x) : (l.take (i + 1)).filter p = (l.take i).filter p ++ (if p x = true then [x] else []) := by
  rw [List.take_add_one, h, List.filter_append]
  congr 1
  show List.filter p [x] = _
  rw [List.filter_cons]
  cases p x <;> rfl
theorem pick_len {α : Type} (p : α → Bool) {l : List α} {i : Nat} : ((l.take i).filter p).length ≤ l.length := by
  refine Nat.le_trans (List.length_filter_le _ _) ?_
  rw [List.length_take]
  omega
theorem get_ints {ns : List Int} {i : Nat} {e : D} (hi : (ns.map D.int)[i]? = some e) : ∃ x, ns[i]? = some x ∧ e = .int x := by
  rw [List.getElem?_map] at hi
  cases h : ns[i]? with
  | none => rw [h] at hi; cases hi
  | some x => rw [h] at hi; cases hi; exact ⟨x, rfl, rfl⟩
theorem srt_len {l : List Int} : (srt l).length = l.length := (srt_perm l).length_eq
theorem notin_tup {i : Int} {ns : List Int} {k : Sl → Prop} (h : k (.dat (.bl (!decide (i ∈ ns))))) : dIn true (.v (.int i)) (ridesD ns) k := ⟨ns, rfl, h⟩
theorem sort_tup {ns : List Int} {k : Sl → Prop} (h : k (.own ((srt ns).map D.int))) : dSort [.tup (ns.map D.int)] k := ⟨ns, rfl, h⟩
theorem sort_lst {ns : List Int} {k : Sl → Prop} (h : k (.own ((srt ns).map D.int))) : dSort [.lst (ns.map D.int)] k := ⟨ns, rfl, h⟩
section
variable {N : Ct} {C : DK} {p t paid : Int} {c : Option Int} {ns : List Int}
theorem s_hidden_ticks (v : VRule p t c) (r : VRides 60 ns) (h : 0 ≤ paid ∧ paid ≤ 10000000) (q : C (.own ((hiddenF p t c ns paid).map D.int)) N) : dsp_P_hidden_ticks [ruleD p t c, ridesD ns, .v (.int paid)] N C E00 := ⟨p, t, c, ns, paid, rfl, ⟨v, r, h⟩, q⟩
end
theorem l_P_hidden_ticks : ∀ ds n C Er, dsp_P_hidden_ticks ds n C Er → ds.length = 3 := by rintro ds n C Er ⟨_, _, _, _, _, rfl, _⟩; rfl
theorem hidP_f1 {p t paid x : Int} {c : Option Int} {ns : List Int} (h : x ∈ ns) : hidP p t c ns paid x = false := by
  unfold hidP
  rw [decide_eq_true h]
  rfl
theorem hidP_2 {p t paid x : Int} {c : Option Int} {ns : List Int} (h : x ∉ ns) : hidP p t c ns paid x = decide (costF p t c (srt (ns ++ [x])) = paid) := by
  unfold hidP
  rw [decide_eq_false h]
  rfl
theorem map_snoc {ns : List Int} {x : Int} : ns.map D.int ++ [D.v (V.int x)] = (ns ++ [x]).map D.int := by rw [List.map_append]; rfl
theorem r_P_hidden_ticks : ∀ ds n C Er, dsp_P_hidden_ticks ds n C Er → d_P_hidden_ticks { nx := fun _ n' => C (.dat .non) n', rt := C } (startD ds 5) n := by
  rintro ds n C Er ⟨p, t, c, ns, paid, rfl, ⟨v, r, h⟩, q⟩
  have rl := r.len
  unfold d_P_hidden_ticks
  walk_at "wp"
  refine s_check_rule v ?_
  walk_at "wp"
  refine s_check_rides r ?_
  walk_at "wp"
  refine s_check_number h ?_
  refine for_i ((natsI 1440).map D.int) (fun i δ N => N = n ∧ ∃ y, δ = [some (.dat (ruleD p t c)), some (.dat (ridesD ns)), some (.dat (.int paid)), some (.own (((natsI 1440).take i |>.filter (hidP p t c ns paid)).map D.int)), y])
    (fun R hR => by walk_at "wp"; refine ⟨⟨by decide, by decide⟩, ?_⟩; rw [show rngD 0 1440 = (natsI 1440).map D.int from rng_nats (n := 1440)]; exact hR) ⟨rfl, none, rfl⟩ ?_ ?_
  · rintro i e δ N hi ⟨rfl, y, rfl⟩ R2 hR2
    obtain ⟨x, hx, rfl⟩ := get_ints hi
    have hs := pick_snoc (hidP p t c ns paid) hx
    have hl := pick_len (hidP p t c ns paid) (l := natsI 1440) (i := i)
    rw [nats_len] at hl
    walk_at "wp"
    refine notin_tup ?_
    walk_at "wp"
    refine wif_n (fun hn => ?_) fun hn => ?_
    · have e : (ridesD ns : D) = .tup (ns.map D.int) := rfl
      rw [e]
      walk_at "wp"
      refine ⟨by rw [List.length_map]; omega, ?_⟩
      rw [map_snoc]
      refine sort_tup ?_
      rw [← e]
      walk_at "wp"
      refine s_cost_of .lst ⟨by rw [srt_len, List.length_append]; show _ + 1 ≤ _; omega, v.p0, v.p1⟩ ?_
      walk_at "wp"
      rw [hidP_2 hn] at hs
      refine wif_d (fun hc => ?_) fun hc => ?_
      · rw [if_pos (decide_eq_true hc)] at hs
        refine ⟨by rw [List.length_map]; omega, hR2 _ _ ⟨rfl, some (.dat (.int x)), ?_⟩⟩
        rw [hs, List.map_append]
        rfl
      · rw [if_neg (by simpa using hc), List.append_nil] at hs
        refine hR2 _ _ ⟨rfl, some (.dat (.int x)), ?_⟩
        rw [hs]
    · rw [hidP_f1 hn, if_neg (by decide), List.append_nil] at hs
      refine hR2 _ _ ⟨rfl, some (.dat (.int x)), ?_⟩
      rw [hs]
  · rintro δ N ⟨rfl, y, rfl⟩
    rw [List.length_map, List.take_length]
    walk_at "wp"
    exact q
end LAW

/-! Rg: lengths_for. -/
namespace LAW
open PySem PySem.Spec PyProof.Rows L2 DL
variable [TabNames]
local macro_rules | `(tactic| walk_at "wp") => `(tactic| first | dsimp | skip)
local macro_rules | `(tactic| walk_at "om") => `(tactic| first | omega | (simp only [Ct.le_def, Ct.add_n, Ct.lit_n, Ct.add_g, Ct.lit_g, List.nil_append, List.append_nil] at *; first | omega | (refine ⟨?_, ?_⟩ <;> first | trivial | assumption | (symm; assumption) | omega | simp_all)))
theorem asc_head {x : Int} {r : List Int} {n : Int} (h : (x :: r).Pairwise (· < ·)) (hn : n ∈ x :: r) : x ≤ n := by
  rcases List.mem_cons.mp hn with rfl | hn
  · exact Int.le_refl _
  · exact Int.le_of_lt ((List.pairwise_cons.mp h).1 n hn)
theorem asc_last : ∀ {ns : List Int} {n : Int} (h : ns.Pairwise (· < ·)) (hn : n ∈ ns) (ne : ns ≠ []), n ≤ ns.getLast ne
  | [x], n, _, hn, _ => by simp at hn; subst hn; exact Int.le_refl _
  | x :: y :: r, n, h, hn, ne => by
    rw [List.getLast_cons (List.cons_ne_nil _ _)]
    rcases List.mem_cons.mp hn with e | hn
    · have h1 := (List.pairwise_cons.mp h).1 _ (List.getLast_mem (List.cons_ne_nil y r))
      omega
    · exact asc_last (List.pairwise_cons.mp h).2 hn _
theorem oz_ints : ∀ {m : Nat} {ns : List Int}, ozs m (ns.map D.int) = true
  | _, [] => by cases ‹Nat› <;> rfl
  | m, n :: ns => by
    show (oz m (D.int n) && ozs m (ns.map D.int)) = true
    rw [oz_ints]
    cases m <;> rfl
theorem oz_lst {ns : List Int} (h : ns.length ≤ 5000) : oz 3 (.lst (ns.map D.int)) = true := by
  show (decide ((ns.map D.int).length ≤ 5000) && ozs 2 (ns.map D.int)) = true
  rw [oz_ints, List.length_map, decide_eq_true h]
  rfl
theorem same_lst (ns : List Int) : sameD (.lst (ns.map D.int)) (.lst (ns.map D.int)) = true := same_refl_ints ns
theorem money_le {p n m : Int} {c : Option Int} {t : Int} (v : VRule p t c) (h0 : 0 ≤ n) (h1 : n ≤ m) : 0 ≤ moneyF p c n ∧ moneyF p c n ≤ m * 1000 := by
  have hp := v.p0
  have hp1 := v.p1
  have e0 : 0 ≤ n * p := Int.mul_nonneg h0 hp
  have e1 : n * p ≤ m * 1000 := Int.mul_le_mul h1 hp1 hp (by omega)
  cases c with
  | none => exact ⟨e0, e1⟩
  | some c =>
    have hc := v.c0 c rfl
    show 0 ≤ min (n * p) c ∧ min (n * p) c ≤ m * 1000
    omega
theorem dgN {i : Nat} {d : D} {δ : StD} {P : StD → Prop} (h : P (stn δ i (.dat d))) : dgName i d δ P := h
theorem dgT2 {i j : Nat} {a b : D} {δ : StD} {P : StD → Prop} (h : P (stn (stn δ i (.dat a)) j (.dat b))) : dgTup 2 (dgCons (dgName i) (dgCons (dgName j) dgNil)) (.tup [a, b]) δ P := by dsimp; exact h
theorem dgT3 {i j k : Nat} {a b c : D} {δ : StD} {P : StD → Prop} (h : P (stn (stn (stn δ i (.dat a)) j (.dat b)) k (.dat c))) : dgTup 3 (dgCons (dgName i) (dgCons (dgName j) (dgCons (dgName k) dgNil))) (.tup [a, b, c]) δ P := by dsimp; exact h
theorem lens_rng : rngD 1 1440 = lensI.map D.int := by
  unfold rngD lensI
  rw [List.map_map]
  rfl
theorem lens_mem {x : Int} : x ∈ lensI ↔ 1 ≤ x ∧ x ≤ 1440 := by
  unfold lensI
  rw [List.mem_map]
  constructor
  · rintro ⟨i, hi, rfl⟩
    have := List.mem_range.mp hi
    omega
  · rintro ⟨h0, h1⟩
    exact ⟨(x - 1).toNat, List.mem_range.mpr (by omega), by omega⟩
theorem lens_len : lensI.length = 1440 := by unfold lensI; rw [List.length_map, List.length_range]
theorem lens_asc : lensI.Pairwise (· < ·) := by
  unfold lensI
  rw [List.pairwise_map]
  exact List.pairwise_lt_range.imp fun h => by omega
section
variable {N : Ct} {C : DK} {p paid : Int} {c : Option Int} {ns : List Int}
theorem s_lengths_for (v : VRule p 1 c) (r : VRides 60 ns) (h : 0 ≤ paid ∧ paid ≤ 10000000) (q : C (.dat (spanD (lensF p c ns paid))) N) : dsp_P_lengths_for [.v (.int p), capD c, ridesD ns, .v (.int paid)] N C E00 := ⟨p, c, ns, paid, rfl, ⟨v, r, h⟩, q⟩
end
theorem l_P_lengths_for : ∀ ds n C Er, dsp_P_lengths_for ds n C Er → ds.length = 4 := by rintro ds n C Er ⟨_, _, _, _, rfl, _⟩; rfl
theorem r_P_lengths_for : ∀ ds n C Er, dsp_P_lengths_for ds n C Er → d_P_lengths_for { nx := fun _ n' => C (.dat .non) n', rt := C } (startD ds 6) n := by
  rintro ds n C Er ⟨p, c, ns, paid, rfl, ⟨v, r, h⟩, q⟩
  have rl := r.len
  unfold d_P_lengths_for
  walk_at "wp"
  refine s_is_rule (p := p) (t := 1) (c := c) v ?_
  walk_at "wp"
  refine s_check_rides r ?_
  walk_at "wp"
  refine s_check_number h ?_
  walk_at "wp"
  refine lc_p (lensI.map D.int) (fun d => match d with | .v (.int x) => decide (costF p x c ns = paid) | _ => false) (fun d => d) (fun R hR => ?_) (by rw [List.length_map, lens_len]; decide) (fun d hd K K' h1 h2 => ?_) ?_
  · walk_at "wp"
    refine ⟨⟨by decide, by decide, by decide, by decide⟩, ?_⟩
    rw [lens_rng]
    exact hR
  · obtain ⟨x, hx, rfl⟩ := List.mem_map.mp hd
    have hx' := lens_mem.mp hx
    walk_at "wp"
    refine s_cost_of (p := p) (t := x) (c := c) (ns := ns) .tup ⟨by omega, v.p0, v.p1⟩ ?_
    walk_at "wp"
    refine wif_d (fun e => ?_) fun e => ?_
    · exact h1 (decide_eq_true e)
    · exact h2 (decide_eq_false e)
  · rw [filter_map_int (fun x => decide (costF p x c ns = paid)) _ (fun _ => rfl), List.map_id']
    exact span_of (xs := lensF p c ns paid) (δ := [some (.dat (.lst ((lensF p c ns paid).map D.int)))]) (i := 0) rfl q
end LAW

/-! Rh: rules near another one. -/
namespace LAW
open PySem PySem.Spec PyProof.Rows L2 DL
variable [TabNames]
local macro_rules | `(tactic| walk_at "wp") => `(tactic| first | dsimp | skip)
local macro_rules | `(tactic| walk_at "om") => `(tactic| first | omega | (simp only [Ct.le_def, Ct.add_n, Ct.lit_n, Ct.add_g, Ct.lit_g, List.nil_append, List.append_nil] at *; first | omega | (refine ⟨?_, ?_⟩ <;> first | trivial | assumption | (symm; assumption) | omega | simp_all)))
theorem l_L_near : ∀ ds n C Er, dsp_L_near ds n C Er → ds.length = 2 := by rintro ds n C Er ⟨_, _, _, rfl, _⟩; rfl
theorem s_near {p t : Int} {c : Option Int} {N : Ct} {C : DK} (v : VRule p t c) (h : N.n + 40 ≤ LIM) (q : ∀ p t c N', VRule p t c → N ≤ N' → N' ≤ N + 12 → C (.dat (ruleD p t c)) N') : dsp_L_near [.bag, ruleD p t c] N C E00 := ⟨p, t, c, rfl, ⟨v, h⟩, q⟩
theorem r_L_near : ∀ ds n C Er, dsp_L_near ds n C Er → d_L_near { nx := fun _ n' => C (.dat .non) n', rt := C } (startD ds 8) n := by
  rintro ds n C Er ⟨p, t, c, rfl, ⟨v, hN⟩, q⟩
  have p0 := v.p0
  have p1 := v.p1
  have t0 := v.t0
  have t1 := v.t1
  unfold d_L_near
  simp only [ruleD]
  refine seqR fun R1 hR1 => ?_
  walk_at "wp"
  refine hR1 _ _ ?_
  refine seqR fun R2 hR2 => ?_
  walk_at "wp"
  refine s_take ⟨by decide, by decide, by walk_at "om"⟩ fun a a0 a1 => ?_
  walk_at "wp"
  refine hR2 _ _ ?_
  refine seqR fun R3 hR3 => ?_
  walk_at "wp"
  refine wif_d (fun _ => ?_) fun _ => ?_
  · refine s_take ⟨by decide, by decide, by walk_at "om"⟩ fun b b0 b1 => ?_
    walk_at "wp"
    exact q p (min 1440 (max 1 (t + b - 2))) c _ ⟨p0, p1, by walk_at "om", by walk_at "om", v.c0⟩ (by walk_at "om") (by walk_at "om")
  refine hR3 _ _ ?_
  refine seqR fun R4 hR4 => ?_
  walk_at "wp"
  refine wif_d (fun _ => ?_) fun _ => ?_
  · refine s_take ⟨by decide, by decide, by walk_at "om"⟩ fun b b0 b1 => ?_
    walk_at "wp"
    refine ⟨.inr (by walk_at "om"), .inr (by walk_at "om"), ?_⟩
    refine s_take ⟨by decide, by decide, by walk_at "om"⟩ fun e e0 e1 => ?_
    walk_at "wp"
    have h1 : 0 ≤ p * (1 + b) := Int.mul_nonneg p0 (by walk_at "om")
    have h2 : 1 * 1 ≤ t * (1 + b) := Int.mul_le_mul t0 (by walk_at "om") (by decide) (by walk_at "om")
    exact q (min 1000 (p * (1 + b))) (min 1440 (t * (1 + b) + e)) c _ ⟨by walk_at "om", by walk_at "om", by walk_at "om", by walk_at "om", v.c0⟩ (by walk_at "om") (by walk_at "om")
  refine hR4 _ _ ?_
  refine seqR fun R5 hR5 => ?_
  walk_at "wp"
  refine wif_d (fun _ => ?_) fun _ => ?_
  · refine s_take ⟨by decide, by decide, by walk_at "om"⟩ fun b b0 b1 => ?_
    walk_at "wp"
    have hnone : dsp_L_take [.bag, .v (.int 2)] (n + 1 + 1) (fun s N2 => match D.int p, s.rd with
        | .v (.int i), .v (.int j) => C (.dat (.tup [.int (min 1000 (i + j)), .int t, .v .non])) N2
        | .tup ds, .tup es => ds.length + es.length ≤ 100000 ∧ False
        | .lst ds, .lst es => ds.length + es.length ≤ 100000 ∧ False
        | _, _ => False) E00 := by
      refine s_take ⟨by decide, by decide, by walk_at "om"⟩ fun e e0 e1 => ?_
      walk_at "wp"
      exact q (min 1000 (p + e)) t none _ ⟨by walk_at "om", by walk_at "om", t0, t1, fun x hx => by cases hx⟩ (by walk_at "om") (by walk_at "om")
    refine wif_d (fun _ => hnone) fun _ => ?_
    cases c with
    | none => exact wif_t rfl hnone
    | some c =>
      have hc := v.c0 c rfl
      refine wif_f rfl ⟨⟨by decide, by decide, by decide⟩, ?_⟩
      refine s_take ⟨by decide, by decide, by walk_at "om"⟩ fun e e0 e1 => ?_
      simp only [capD]
      walk_at "wp"
      refine s_take ⟨by decide, by decide, by walk_at "om"⟩ fun f f0 f1 => ?_
      walk_at "wp"
      exact q (min 1000 (p + f)) t (some (min 1000000 (c + e))) _ ⟨by walk_at "om", by walk_at "om", t0, t1, fun x hx => by cases hx; omega⟩ (by walk_at "om") (by walk_at "om")
  refine hR5 _ _ ?_
  refine seqR fun R6 hR6 => ?_
  walk_at "wp"
  refine wif_d (fun _ => ?_) fun _ => ?_
  · refine s_take ⟨by decide, by decide, by walk_at "om"⟩ fun b b0 b1 => ?_
    walk_at "wp"
    refine ⟨⟨by walk_at "om", by walk_at "om"⟩, ⟨by walk_at "om", by walk_at "om"⟩, ?_⟩
    have h1 : 0 ≤ p / (1 + b) := Int.ediv_nonneg p0 (by walk_at "om")
    have h2 : p / (1 + b) ≤ p := Int.ediv_le_self _ p0
    have h3 : t / (1 + b) ≤ t := Int.ediv_le_self _ (by walk_at "om")
    exact q (p / (1 + b)) (max 1 (t / (1 + b))) c _ ⟨h1, by walk_at "om", by walk_at "om", by walk_at "om", v.c0⟩ (by walk_at "om") (by walk_at "om")
  refine hR6 _ _ ?_
  walk_at "wp"
  refine wif_d (fun _ => ?_) fun _ => ?_
  · refine ⟨.inr (by walk_at "om"), ?_⟩
    exact q p t (some (3 * p)) _ ⟨p0, p1, t0, t1, fun x hx => by cases hx; omega⟩ (by walk_at "om") (by walk_at "om")
  · exact s_rule (by walk_at "om") fun p t c N' v h1 h2 => q p t c N' v ⟨h1.1, Nat.le_trans (Nat.le_add_right _ _) h1.2⟩ ⟨h2.1, Nat.le_trans h2.2 (Nat.le_of_eq rfl)⟩
end LAW

/-! Rm: what holds of bought rides. -/
namespace LAW
open PySem PySem.Spec PyProof.Rows L2 DL
variable [TabNames]
/-! ### rides every so many ticks: every k-th one buys a ticket -/
def stepI (b s : Int) (n : Nat) : List Int := (List.range n).map fun i : Nat => b + (i : Int) * s
theorem stepI_len {b s : Int} {n : Nat} : (stepI b s n).length = n := by unfold stepI; rw [List.length_map, List.length_range]
theorem stepD_ints {b s : Int} {n : Nat} : stepD b s n = (stepI b s n).map D.int := by unfold stepD stepI; rw [List.map_map]; rfl
theorem stepI_succ {b s : Int} {n : Nat} : stepI b s (n + 1) = stepI b s n ++ [b + (n : Int) * s] := by
  unfold stepI
  rw [List.range_succ, List.map_append]
  rfl
theorem boughtF_snoc (L : Int) (ns : List Int) (x : Int) : boughtF L (ns ++ [x]) = bstep L (boughtF L ns) x := by
  unfold boughtF
  rw [List.foldl_append]
  rfl
theorem le_up {L s q : Int} (hs : 1 ≤ s) : L ≤ s * q ↔ upF L s ≤ q := by
  unfold upF
  constructor
  · intro h
    have h1 : (L + s - 1) / s < q + 1 := by
      refine Int.ediv_lt_of_lt_mul (by omega) ?_
      rw [Int.add_mul, Int.one_mul, Int.mul_comm]
      omega
    omega
  · intro h
    have h1 : L + s - 1 < (q + 1) * s := by
      refine Int.lt_mul_of_ediv_lt (by omega) ?_
      omega
    rw [Int.add_mul, Int.one_mul, Int.mul_comm] at h1
    omega
theorem step_bought {b s L : Int} (hs : 1 ≤ s) (hL : 1 ≤ L) (n : Nat) : ∃ m : Nat, (boughtF L (stepI b s n)).length = m ∧ (n : Int) ≤ upF L s * m ∧ (m = 0 → n = 0) ∧ (m ≠ 0 → upF L s * ((m : Int) - 1) < n ∧ (boughtF L (stepI b s n)).getLast? = some (b + s * (upF L s * ((m : Int) - 1)))) := by
  have hk : 1 ≤ upF L s := up_one hL hs
  generalize hK : upF L s = k at hk
  induction n with
  | zero => exact ⟨0, rfl, by omega, fun _ => rfl, fun h => absurd rfl h⟩
  | succ n ih =>
    obtain ⟨m, hm, h1, h2, h3⟩ := ih
    rw [stepI_succ, boughtF_snoc]
    have hle : ∀ q, L ≤ s * q ↔ k ≤ q := fun q => by rw [← hK]; exact le_up hs
    by_cases m0 : m = 0
    · subst m0
      have hn := h2 rfl
      subst hn
      have he : boughtF L (stepI b s 0) = [] := rfl
      rw [he]
      refine ⟨1, rfl, ?_, fun h => by omega, fun _ => ⟨?_, ?_⟩⟩
      · omega
      · omega
      · show some (b + ((0 : Nat) : Int) * s) = some (b + s * (k * (((1 : Nat) : Int) - 1)))
        simp
    · obtain ⟨h4, h5⟩ := h3 m0
      have hst : bstep L (boughtF L (stepI b s n)) (b + (n : Int) * s) = if b + s * (k * ((m : Int) - 1)) + L ≤ b + (n : Int) * s then boughtF L (stepI b s n) ++ [b + (n : Int) * s] else boughtF L (stepI b s n) := by
        unfold bstep
        rw [h5]
      have hc : b + s * (k * ((m : Int) - 1)) + L ≤ b + (n : Int) * s ↔ k * m ≤ n := by
        have e1 : (n : Int) * s = s * n := Int.mul_comm _ _
        have e2 : s * ((n : Int) - k * ((m : Int) - 1)) = s * n - s * (k * ((m : Int) - 1)) := Int.mul_sub _ _ _
        have e3 : k * ((m : Int) - 1) = k * m - k := by rw [Int.mul_sub, Int.mul_one]
        have := hle ((n : Int) - k * ((m : Int) - 1))
        rw [e1]
        rw [e2] at this
        constructor
        · intro h
          have h6 := this.mp (by omega)
          omega
        · intro h
          have h6 := this.mpr (by omega)
          omega
      rw [hst]
      have ek : k * (((m + 1 : Nat) : Int)) = k * m + k := by
        rw [show ((m + 1 : Nat) : Int) = (m : Int) + 1 by omega, Int.mul_add, Int.mul_one]
      by_cases hq : k * m ≤ n
      · rw [if_pos (hc.mpr hq)]
        refine ⟨m + 1, by rw [List.length_append, hm]; rfl, ?_, fun h => by omega, fun _ => ⟨?_, ?_⟩⟩
        · rw [ek]; omega
        · rw [show (((m + 1 : Nat) : Int) - 1) = (m : Int) by omega]; omega
        · rw [List.getLast?_append]
          have hnk : (n : Int) = k * m := by omega
          show some (b + (n : Int) * s) = _
          rw [show (((m + 1 : Nat) : Int) - 1) = (m : Int) by omega, ← hnk, Int.mul_comm]
      · rw [if_neg (fun h => hq (hc.mp h))]
        exact ⟨m, hm, by omega, fun h => absurd h m0, fun _ => ⟨by omega, h5⟩⟩
theorem step_count {b s L : Int} (hs : 1 ≤ s) (hL : 1 ≤ L) (n : Nat) : ((boughtF L (stepI b s n)).length : Int) = upF n (upF L s) := by
  obtain ⟨m, hm, h1, h2, h3⟩ := step_bought (b := b) hs hL n
  have hk : 1 ≤ upF L s := up_one hL hs
  rw [hm]
  generalize upF L s = k at *
  by_cases m0 : m = 0
  · subst m0
    have hn := h2 rfl
    subst hn
    unfold upF
    rw [Int.ediv_eq_zero_of_lt (by omega) (by omega)]
    rfl
  · obtain ⟨h4, _⟩ := h3 m0
    unfold upF
    have e3 : k * ((m : Int) - 1) = k * m - k := by rw [Int.mul_sub, Int.mul_one]
    have ec : (m : Int) * k = k * m := Int.mul_comm _ _
    have g1 : (m : Int) ≤ (n + k - 1) / k := (Int.le_ediv_iff_mul_le (by omega)).mpr (by omega)
    have g2 : ((n : Int) + k - 1) / k < m + 1 := by
      refine Int.ediv_lt_of_lt_mul (by omega) ?_
      rw [Int.add_mul, Int.one_mul]
      omega
    omega
theorem upN_up {b s : Int} (h0 : b ≤ 1439) (hs : 1 ≤ s) : ((upN b 1440 s : Nat) : Int) = upF (1440 - b) s := by
  have h1 := up_pos (a := 1440 - b) (b := s) (by omega) hs
  have e : (1440 - b - 1) / s + 1 = upF (1440 - b) s := by
    unfold upF
    rw [show 1440 - b + s - 1 = (1440 - b - 1) + 1 * s by omega, Int.add_mul_ediv_right _ _ (by omega)]
  unfold upN
  rw [if_pos (by omega), e]
  omega
theorem step_cost {p t b s : Int} {c : Option Int} (ht : 1 ≤ t) (h0 : b ≤ 1439) (hs : 1 ≤ s) : costF p t c (stepI b s (upN b 1440 s)) = costFromF p t c b s := by
  unfold costF costFromF
  rw [step_count hs ht, upN_up h0 hs]
theorem step_rg {b s x : Int} (h0 : 0 ≤ b) (h1 : b ≤ 1439) (hs : 1 ≤ s) (hx : x ∈ stepI b s (upN b 1440 s)) : 0 ≤ x ∧ x ≤ 1439 := by
  unfold stepI at hx
  obtain ⟨i, hi, rfl⟩ := List.mem_map.mp hx
  have hi' := List.mem_range.mp hi
  have h2 := upN_up h1 hs
  have h3 : (i : Int) + 1 ≤ upF (1440 - b) s := by omega
  have h4 : ¬ upF (1440 - b) s ≤ i := by omega
  rw [← le_up hs] at h4
  have h5 : 0 ≤ (i : Int) * s := Int.mul_nonneg (by omega) (by omega)
  have h6 : (i : Int) * s = s * i := Int.mul_comm _ _
  omega
theorem step_asc {b s : Int} {n : Nat} (hs : 1 ≤ s) : (stepI b s n).Pairwise (· < ·) := by
  unfold stepI
  rw [List.pairwise_map]
  refine List.pairwise_lt_range.imp fun {i j} h => ?_
  have h1 : (i : Int) * s < (j : Int) * s := Int.mul_lt_mul_of_pos_right (by omega) (by omega)
  omega
theorem same_int (x : Int) : sameD (D.int x) (D.int x) = true := by simp [sameD]
/-! ### longer lengths, fewer tickets -/
def Fewer (a b : List Int) (x : Int) : Prop := (∀ y, b.getLast? = some y → y ≤ x) ∧ (a.length < b.length ∨ (a.length = b.length ∧ (a = [] ∨ ∃ y z, a.getLast? = some y ∧ b.getLast? = some z ∧ z ≤ y)))
theorem bstep_cases (L : Int) (acc : List Int) (x : Int) : (bstep L acc x = acc ++ [x] ∧ ∀ l, acc.getLast? = some l → l + L ≤ x) ∨ (bstep L acc x = acc ∧ ∃ l, acc.getLast? = some l ∧ ¬ l + L ≤ x) := by
  unfold bstep
  split
  · rename_i h
    exact .inl ⟨rfl, fun l hl => by rw [h] at hl; cases hl⟩
  · rename_i l h
    split
    · rename_i hle
      exact .inl ⟨rfl, fun l' hl => by rw [h] at hl; cases hl; exact hle⟩
    · rename_i hle
      exact .inr ⟨rfl, l, h, hle⟩
theorem last_app {acc : List Int} {x : Int} : (acc ++ [x]).getLast? = some x := by rw [List.getLast?_append]; rfl
theorem fewer_step {L M x x' : Int} {a b : List Int} (hL : M ≤ L) (hx : x ≤ x') (h : Fewer a b x) : Fewer (bstep L a x') (bstep M b x') x' := by
  obtain ⟨hb, h⟩ := h
  have hb' : ∀ y, (bstep M b x').getLast? = some y → y ≤ x' := fun y hy => by
    rcases bstep_cases M b x' with ⟨e, _⟩ | ⟨e, _⟩ <;> rw [e] at hy
    · rw [last_app] at hy
      cases hy
      exact Int.le_refl _
    · exact Int.le_trans (hb y hy) hx
  refine ⟨hb', ?_⟩
  rcases bstep_cases L a x' with ⟨e1, g1⟩ | ⟨e1, l, g1, g2⟩
  · rcases bstep_cases M b x' with ⟨e2, k1⟩ | ⟨e2, l2, k1, k2⟩
    · rw [e1, e2, List.length_append, List.length_append]
      rcases h with h | ⟨h, h2⟩
      · exact .inl (by omega)
      · exact .inr ⟨by rw [h], .inr ⟨x', x', last_app, last_app, Int.le_refl _⟩⟩
    · rw [e1, e2, List.length_append]
      have hl : [x'].length = 1 := rfl
      rcases h with h | ⟨h, h2⟩
      · by_cases hq : a.length + 1 < b.length
        · exact .inl hq
        · exact .inr ⟨by omega, .inr ⟨x', l2, last_app, k1, Int.le_trans (hb l2 k1) hx⟩⟩
      · exfalso
        rcases h2 with rfl | ⟨y, z, hy, hz, hzy⟩
        · have hb0 : b = [] := List.length_eq_zero_iff.mp h.symm
          rw [hb0] at k1
          cases k1
        · rw [hz] at k1
          cases k1
          have := g1 y hy
          omega
  · rcases bstep_cases M b x' with ⟨e2, k1⟩ | ⟨e2, l2, k1, k2⟩
    · rw [e1, e2, List.length_append]
      rcases h with h | ⟨h, h2⟩
      · exact .inl (by omega)
      · exact .inl (by rw [h]; exact Nat.lt_succ_self _)
    · rw [e1, e2]
      exact h
theorem fewer_fold {L M : Int} (hL : M ≤ L) : ∀ (ns : List Int) (a b : List Int) (x : Int), (x :: ns).Pairwise (· ≤ ·) → Fewer a b x → (ns.foldl (bstep L) a).length ≤ (ns.foldl (bstep M) b).length
  | [], a, b, x, _, h => by
    rcases h.2 with h | h
    · exact Nat.le_of_lt h
    · exact Nat.le_of_eq h.1
  | y :: r, a, b, x, hp, h => by
    have h1 := List.pairwise_cons.mp hp
    exact fewer_fold hL r _ _ y h1.2 (fewer_step hL (h1.1 y List.mem_cons_self) h)
theorem bought_anti {L M : Int} {m : Nat} {ns : List Int} (hL : M ≤ L) (v : VRides m ns) : (boughtF L ns).length ≤ (boughtF M ns).length := by
  refine fewer_fold hL ns [] [] 0 (List.pairwise_cons.mpr ⟨fun x hx => (v.rg x hx).1, v.asc.imp fun h => Int.le_of_lt h⟩) ⟨(fun y hy => by cases hy), .inr ⟨rfl, .inl rfl⟩⟩
theorem money_mono {p n m : Int} {c : Option Int} (hp : 0 ≤ p) (h : n ≤ m) : moneyF p c n ≤ moneyF p c m := by
  have e : n * p ≤ m * p := Int.mul_le_mul_of_nonneg_right h hp
  cases c with
  | none => exact e
  | some c =>
    show min (n * p) c ≤ min (m * p) c
    omega
theorem cost_anti {p L M : Int} {c : Option Int} {m : Nat} {ns : List Int} (hp : 0 ≤ p) (hL : M ≤ L) (v : VRides m ns) : costF p L c ns ≤ costF p M c ns := by
  unfold costF
  exact money_mono hp (by have := bought_anti hL v; omega)
theorem cost_le {p L : Int} {c : Option Int} {t : Int} {m : Nat} {rs : List Int} (v : VRule p t c) (r : VRides m rs) : 0 ≤ costF p L c rs ∧ costF p L c rs ≤ m * 1000 := by
  unfold costF
  have h1 := boughtF_len L rs
  have h2 := r.len
  exact money_le v (by omega) (by omega)
/-! ### bought rides are far apart -/
theorem bok_step {t x : Int} {acc : List Int} (h0 : 1 ≤ t) (hx : 0 ≤ x ∧ x ≤ 1439) (h : ∀ l, acc.getLast? = some l → ((acc.length : Int) - 1) * t ≤ l ∧ l ≤ 1439) :
    ∀ l, (bstep t acc x).getLast? = some l → (((bstep t acc x).length : Int) - 1) * t ≤ l ∧ l ≤ 1439 := by
  intro l hl
  unfold bstep at hl ⊢
  split at hl
  · rename_i hn
    rw [List.getLast?_eq_none_iff] at hn
    subst hn
    simp at hl
    subst hl
    simp only [List.nil_append, List.getLast?_nil, List.length_cons, List.length_nil]
    refine ⟨?_, hx.2⟩
    show ((0 + 1 : Nat) - 1 : Int) * t ≤ x
    omega
  · rename_i y hy
    obtain ⟨h1, h2⟩ := h y hy
    split at hl
    · rename_i hle
      rw [if_pos hle]
      have e : l = x := by simpa using hl.symm
      subst e
      refine ⟨?_, hx.2⟩
      rw [List.length_append, List.length_cons, List.length_nil]
      have e2 : (((acc.length + (0 + 1) : Nat) : Int) - 1) * t = ((acc.length : Int) - 1) * t + t := by
        rw [show (((acc.length + (0 + 1) : Nat) : Int) - 1) = ((acc.length : Int) - 1) + 1 by omega, Int.add_mul, Int.one_mul]
      omega
    · rename_i hle
      rw [if_neg hle]
      exact h l hl
theorem bok_fold {t : Int} (h0 : 1 ≤ t) : ∀ (ns acc : List Int), (∀ x ∈ ns, 0 ≤ x ∧ x ≤ 1439) → (∀ l, acc.getLast? = some l → ((acc.length : Int) - 1) * t ≤ l ∧ l ≤ 1439) →
    ∀ l, (ns.foldl (bstep t) acc).getLast? = some l → (((ns.foldl (bstep t) acc).length : Int) - 1) * t ≤ l ∧ l ≤ 1439
  | [], _, _, h => h
  | x :: r, acc, hr, h => bok_fold h0 r (bstep t acc x) (fun y hy => hr y (List.mem_cons_of_mem _ hy)) (bok_step h0 (hr x (List.mem_cons_self ..)) h)
theorem bought_up {t : Int} {m : Nat} {ns : List Int} (h0 : 1 ≤ t) (h1 : t ≤ 1440) (v : VRides m ns) : ((boughtF t ns).length : Int) ≤ upF 1440 t := by
  cases hl : (boughtF t ns).getLast? with
  | none =>
    rw [List.getLast?_eq_none_iff] at hl
    rw [hl]
    have := up_le h0 h1
    show (0 : Int) ≤ _
    omega
  | some l =>
    obtain ⟨h2, h3⟩ := bok_fold h0 ns [] v.rg (fun l h => by simp at h) l hl
    have h2' : (((boughtF t ns).length : Int) - 1) * t ≤ l := h2
    rw [Int.sub_mul, Int.one_mul] at h2'
    unfold upF
    exact (Int.le_ediv_iff_mul_le (by omega)).mpr (by omega)
/-! ### k short lengths make a long one -/
structure Bd (L k : Int) (a b : List Int) (x : Int) : Prop where
  xb : ∀ z, b.getLast? = some z → z ≤ x
  e0 : a = [] → b = []
  b0 : b = [] → a = []
  le : (a.length : Int) ≤ k * b.length
  st : ∀ y z, a.getLast? = some y → b.getLast? = some z → k * ((b.length : Int) - 1) < a.length → z + ((a.length : Int) - k * ((b.length : Int) - 1) - 1) * L ≤ y
theorem bd_step {L M k x x' : Int} {a b : List Int} (hL : 1 ≤ L) (hk : 1 ≤ k) (hM : M ≤ L * k) (hx : x ≤ x') (h : Bd L k a b x) : Bd L k (bstep L a x') (bstep M b x') x' := by
  have l1 : ∀ l : List Int, ((l ++ [x']).length : Int) = (l.length : Int) + 1 := fun l => by rw [List.length_append]; rfl
  have hb1 : k * (((b ++ [x']).length : Int) - 1) = k * b.length := by rw [l1]; congr 1; omega
  have hb2 : k * ((b ++ [x']).length : Int) = k * b.length + k := by rw [l1, Int.mul_add, Int.mul_one]
  have hb3 : k * ((b.length : Int) - 1) = k * b.length - k := by rw [Int.mul_sub, Int.mul_one]
  rcases bstep_cases L a x' with ⟨e1, g1⟩ | ⟨e1, l, g1, g2⟩
  · rcases bstep_cases M b x' with ⟨e2, k1⟩ | ⟨e2, z, k1, k2⟩
    · rw [e1, e2]
      refine ⟨fun z hz => ?_, fun q => absurd q (by simp), fun q => absurd q (by simp), ?_, fun y z hy hz hlt => ?_⟩
      · rw [last_app] at hz; cases hz; exact Int.le_refl _
      · rw [hb2, l1]; have := h.le; omega
      · rw [last_app] at hy hz
        cases hy
        cases hz
        rw [hb1, l1] at hlt ⊢
        have h9 := h.le
        have e9 : ((a.length : Int) + 1 - k * b.length - 1) = 0 := by omega
        rw [e9, Int.zero_mul]
        omega
    · rw [e1, e2]
      have hz1 := Int.le_trans (h.xb z k1) hx
      have hbn : b ≠ [] := fun e => by rw [e] at k1; cases k1
      have han : a ≠ [] := fun e => hbn (h.e0 e)
      obtain ⟨y, hy⟩ : ∃ y, a.getLast? = some y := ⟨_, List.getLast?_eq_some_getLast han⟩
      have hyx := g1 y hy
      -- the stretch so far
      have key : z + ((a.length : Int) - k * ((b.length : Int) - 1)) * L ≤ x' ∨ (a.length : Int) < k * ((b.length : Int) - 1) := by
        by_cases q : k * ((b.length : Int) - 1) < a.length
        · have hst := h.st y z hy k1 q
          have e9 : ((a.length : Int) - k * ((b.length : Int) - 1)) * L = ((a.length : Int) - k * ((b.length : Int) - 1) - 1) * L + L := by rw [Int.sub_mul _ 1, Int.one_mul]; omega
          left; omega
        · by_cases q2 : (a.length : Int) = k * ((b.length : Int) - 1)
          · left
            rw [q2, Int.sub_self, Int.zero_mul]
            omega
          · right; omega
      refine ⟨fun z' hz => by rw [k1] at hz; cases hz; exact hz1, fun q => absurd q (by simp), fun q => absurd q hbn, ?_, fun y' z' hy' hz' hlt => ?_⟩
      · rw [l1]
        rcases key with key | key
        · -- fewer than k so far
          have hlt : ((a.length : Int) - k * ((b.length : Int) - 1)) * L < k * L := by
            have : L * k = k * L := Int.mul_comm _ _
            omega
          have := Int.lt_of_mul_lt_mul_right hlt (by omega)
          omega
        · omega
      · rw [last_app] at hy'
        cases hy'
        rw [k1] at hz'
        cases hz'
        rw [l1] at hlt ⊢
        rcases key with key | key
        · have e9 : ((a.length : Int) + 1 - k * ((b.length : Int) - 1) - 1) = (a.length : Int) - k * ((b.length : Int) - 1) := by omega
          rw [e9]
          exact key
        · omega
  · have han : a ≠ [] := fun e => by rw [e] at g1; cases g1
    rcases bstep_cases M b x' with ⟨e2, k1⟩ | ⟨e2, z, k1, k2⟩
    · rw [e1, e2]
      refine ⟨fun z hz => ?_, fun q => absurd q han, fun q => absurd q (by simp), ?_, fun y z hy hz hlt => ?_⟩
      · rw [last_app] at hz; cases hz; exact Int.le_refl _
      · rw [hb2]; have := h.le; omega
      · rw [hb1] at hlt
        have := h.le
        omega
    · rw [e1, e2]
      exact ⟨fun z' hz => Int.le_trans (h.xb z' hz) hx, h.e0, h.b0, h.le, h.st⟩
theorem bd_fold {L M k : Int} (hL : 1 ≤ L) (hk : 1 ≤ k) (hM : M ≤ L * k) : ∀ (ns a b : List Int) (x : Int), (x :: ns).Pairwise (· ≤ ·) → Bd L k a b x → ((ns.foldl (bstep L) a).length : Int) ≤ k * (ns.foldl (bstep M) b).length
  | [], a, b, x, _, h => h.le
  | y :: r, a, b, x, hp, h => by
    have h1 := List.pairwise_cons.mp hp
    exact bd_fold hL hk hM r _ _ y h1.2 (bd_step hL hk hM (h1.1 y List.mem_cons_self) h)
theorem bought_mult {L M : Int} {m : Nat} {ns : List Int} (hL : 1 ≤ L) (hM : 1 ≤ M) (v : VRides m ns) : ((boughtF L ns).length : Int) ≤ upF M L * (boughtF M ns).length := by
  refine bd_fold hL (up_one hM hL) ((le_up hL).mpr (Int.le_refl _)) ns [] [] 0 (List.pairwise_cons.mpr ⟨fun x hx => (v.rg x hx).1, v.asc.imp fun h => Int.le_of_lt h⟩) ⟨fun y hy => (by cases hy), fun _ => rfl, fun _ => rfl, (by simp), fun y z hy => (by cases hy)⟩
end LAW

/-! Ri: rules compared. -/
namespace LAW
open PySem PySem.Spec PyProof.Rows L2 DL
variable [TabNames]
local macro_rules | `(tactic| walk_at "wp") => `(tactic| first | dsimp | skip)
local macro_rules | `(tactic| walk_at "om") => `(tactic| first | omega | (simp only [Ct.le_def, Ct.add_n, Ct.lit_n, Ct.add_g, Ct.lit_g, List.nil_append, List.append_nil] at *; first | omega | (refine ⟨?_, ?_⟩ <;> first | trivial | assumption | (symm; assumption) | omega | simp_all)))
section
variable {N : Ct} {C : DK} {p t p' t' n i lo hi : Int} {c c' : Option Int}
theorem s_excess (v : VRule p t c) (v' : VRule p' t' c') (h : C (.dat (.int (excF ⟨p, t, c⟩ ⟨p', t', c'⟩ n))) N) : dsp_P_excess [ruleD p t c, ruleD p' t' c', .v (.int n)] N C E00 := ⟨⟨p, t, c⟩, ⟨p', t', c'⟩, n, rfl, ⟨v, v'⟩, h⟩
theorem s_at_most (v : VRule p t c) (v' : VRule p' t' c') (h : C (.dat (.bl (atmostF ⟨p, t, c⟩ ⟨p', t', c'⟩))) N) : dsp_P_at_most [ruleD p t c, ruleD p' t' c'] N C E00 := ⟨⟨p, t, c⟩, ⟨p', t', c'⟩, rfl, ⟨v, v'⟩, h⟩
theorem s_never_dearer (v : VRule p t c) (v' : VRule p' t' c') (h : C (.dat (.bl (atmostF ⟨p, t, c⟩ ⟨p', t', c'⟩))) N) : dsp_P_never_dearer [ruleD p t c, ruleD p' t' c'] N C E00 := ⟨⟨p, t, c⟩, ⟨p', t', c'⟩, rfl, ⟨v, v'⟩, h⟩
theorem s_largest_excess (v : VRule p t c) (v' : VRule p' t' c') (h : C (.dat (.int (largestF ⟨p, t, c⟩ ⟨p', t', c'⟩))) N) : dsp_P_largest_excess [ruleD p t c, ruleD p' t' c'] N C E00 := ⟨⟨p, t, c⟩, ⟨p', t', c'⟩, rfl, ⟨v, v'⟩, h⟩
theorem s_fewest (v : VRule p t c) (v' : VRule p' t' c') (h : C (.dat (capD (fewestF ⟨p, t, c⟩ ⟨p', t', c'⟩))) N) : dsp_P_fewest [ruleD p t c, ruleD p' t' c'] N C E00 := ⟨⟨p, t, c⟩, ⟨p', t', c'⟩, rfl, ⟨v, v'⟩, h⟩
theorem s_fewest_rides (v : VRule p t c) (v' : VRule p' t' c') (h : C (.dat (capD (fewestF ⟨p, t, c⟩ ⟨p', t', c'⟩))) N) : dsp_P_fewest_rides [ruleD p t c, ruleD p' t' c'] N C E00 := ⟨⟨p, t, c⟩, ⟨p', t', c'⟩, rfl, ⟨v, v'⟩, h⟩
theorem s_alike (v : VRule p t c) (v' : VRule p' t' c') (h : C (.dat (.bl (atmostF ⟨p, t, c⟩ ⟨p', t', c'⟩ && atmostF ⟨p', t', c'⟩ ⟨p, t, c⟩))) N) : dsp_P_alike [ruleD p t c, ruleD p' t' c'] N C E00 := ⟨⟨p, t, c⟩, ⟨p', t', c'⟩, rfl, ⟨v, v'⟩, h⟩
theorem s_excesses (v : VRule p t c) (v' : VRule p' t' c') (h : C (.own ((excsF ⟨p, t, c⟩ ⟨p', t', c'⟩).map D.int)) N) : dsp_L_excesses [ruleD p t c, ruleD p' t' c'] N C E00 := ⟨⟨p, t, c⟩, ⟨p', t', c'⟩, rfl, ⟨v, v'⟩, h⟩
theorem s_good (v : VRule p t c) (v' : VRule p' t' c') (h : C (.dat (.bl (atmostF ⟨p, t, c⟩ ⟨p', t', c'⟩))) N) : dsp_L_good [ruleD p t c, ruleD p' t' c'] N C E00 := ⟨⟨p, t, c⟩, ⟨p', t', c'⟩, rfl, ⟨v, v'⟩, h⟩
theorem s_lin (h : C (.dat (.bl (decide (lo ≤ i) && decide (i ≤ hi)))) N) : dsp_L_in [.v (.int i), .v (.int lo), .v (.int hi)] N C E00 := ⟨.int i, lo, hi, rfl, rfl, h⟩
end
theorem l_P_excess : ∀ ds n C Er, dsp_P_excess ds n C Er → ds.length = 3 := by rintro ds n C Er ⟨_, _, _, rfl, _⟩; rfl
theorem l_P_at_most : ∀ ds n C Er, dsp_P_at_most ds n C Er → ds.length = 2 := by rintro ds n C Er ⟨_, _, rfl, _⟩; rfl
theorem l_P_never_dearer : ∀ ds n C Er, dsp_P_never_dearer ds n C Er → ds.length = 2 := by rintro ds n C Er ⟨_, _, rfl, _⟩; rfl
theorem l_P_largest_excess : ∀ ds n C Er, dsp_P_largest_excess ds n C Er → ds.length = 2 := by rintro ds n C Er ⟨_, _, rfl, _⟩; rfl
theorem l_P_fewest : ∀ ds n C Er, dsp_P_fewest ds n C Er → ds.length = 2 := by rintro ds n C Er ⟨_, _, rfl, _⟩; rfl
theorem l_P_fewest_rides : ∀ ds n C Er, dsp_P_fewest_rides ds n C Er → ds.length = 2 := by rintro ds n C Er ⟨_, _, rfl, _⟩; rfl
theorem l_P_alike : ∀ ds n C Er, dsp_P_alike ds n C Er → ds.length = 2 := by rintro ds n C Er ⟨_, _, rfl, _⟩; rfl
theorem l_L_excesses : ∀ ds n C Er, dsp_L_excesses ds n C Er → ds.length = 2 := by rintro ds n C Er ⟨_, _, rfl, _⟩; rfl
theorem l_L_good : ∀ ds n C Er, dsp_L_good ds n C Er → ds.length = 2 := by rintro ds n C Er ⟨_, _, rfl, _⟩; rfl
theorem l_L_in : ∀ ds n C Er, dsp_L_in ds n C Er → ds.length = 3 := by rintro ds n C Er ⟨_, _, _, rfl, _⟩; rfl
theorem r_L_in : ∀ ds n C Er, dsp_L_in ds n C Er → d_L_in { nx := fun _ n' => C (.dat .non) n', rt := C } (startD ds 3) n := fun ds n C Er h => r_P_in_range ds n C Er h
theorem tops_ok {R : Ru} (v : VR R) : 1 ≤ topsF R ∧ topsF R ≤ 1440 := up_le v.t0 v.t1
theorem cnt_mem {R : Ru} {x : Int} : x ∈ cntI R ↔ 1 ≤ x ∧ x ≤ topsF R := by
  unfold cntI
  rw [List.mem_map]
  constructor
  · rintro ⟨i, hi, rfl⟩
    have := List.mem_range.mp hi
    omega
  · rintro ⟨h0, h1⟩
    exact ⟨(x - 1).toNat, List.mem_range.mpr (by omega), by omega⟩
theorem cnt_len {R : Ru} : (cntI R).length = (topsF R).toNat := by unfold cntI; rw [List.length_map, List.length_range]
theorem cnt_get {R : Ru} {i : Nat} (h : i < (topsF R).toNat) : (cntI R)[i]? = some (1 + (i : Int)) := by
  unfold cntI
  rw [List.getElem?_map, List.getElem?_range h]
  rfl
theorem cnt_rng {R : Ru} : rngD 1 (topsF R + 1 - 1).toNat = (cntI R).map D.int := by
  rw [show topsF R + 1 - 1 = topsF R by omega]
  unfold rngD cntI
  rw [List.map_map]
  rfl
theorem r_P_excess : ∀ ds n C Er, dsp_P_excess ds n C Er → d_P_excess { nx := fun _ n' => C (.dat .non) n', rt := C } (startD ds 3) n := by
  rintro ds n C Er ⟨R, S, m, rfl, ⟨v, v'⟩, q⟩
  have h1 := up_one v'.t0 v.t0
  have h2 := up_pos (a := S.t) (b := R.t) (by have := v'.t0; omega) v.t0
  have h3 := v'.t1
  have h4 := v.t0
  have h5 := v.t1
  unfold d_P_excess
  walk_at "wp"
  refine s_money ⟨v.p0, v.p1⟩ ?_
  walk_at "wp"
  refine s_up ⟨by omega, by omega⟩ ?_
  walk_at "wp"
  refine s_up ⟨by omega, by omega⟩ ?_
  walk_at "wp"
  refine s_money ⟨v'.p0, v'.p1⟩ ?_
  walk_at "wp"
  exact q
theorem all_map {α : Type} (f : α → Bool) (l : List α) : (l.map f).all id = l.all f := by rw [List.all_map]; rfl
theorem r_P_at_most : ∀ ds n C Er, dsp_P_at_most ds n C Er → d_P_at_most { nx := fun _ n' => C (.dat .non) n', rt := C } (startD ds 3) n := by
  rintro ds n C Er ⟨R, S, rfl, ⟨v, v'⟩, q⟩
  have ht := tops_ok v
  unfold d_P_at_most
  walk_at "wp"
  refine lc_p ((cntI R).map D.int) (fun _ => true) (fun d => match d with | .v (.int x) => .bl (decide (excF R S x ≤ 0)) | _ => .non) (fun K hK => ?_) (by rw [List.length_map, cnt_len]; omega) (fun d hd K K' h1 h2 => ?_) ?_
  · walk_at "wp"
    refine s_most_tickets ⟨v.t0, v.t1⟩ ?_
    walk_at "wp"
    have e : upF 1440 R.t = topsF R := rfl
    rw [e]
    refine ⟨⟨by decide, by decide, by omega, by omega⟩, ?_⟩
    rw [cnt_rng]
    exact hK
  · obtain ⟨x, hx, rfl⟩ := List.mem_map.mp hd
    walk_at "wp"
    refine s_excess v v' ?_
    walk_at "wp"
    exact h1 rfl
  · rw [filter_all]
    walk_at "wp"
    refine ⟨(cntI R).map fun x => decide (excF R S x ≤ 0), by rw [List.map_map, List.map_map]; rfl, ?_⟩
    rw [all_map]
    have e : atmostF R S = (cntI R).all fun x => decide (excF R S x ≤ 0) := by
      unfold atmostF excsF
      rw [List.all_map]
      rfl
    rw [← e]
    exact q
theorem r_P_never_dearer : ∀ ds n C Er, dsp_P_never_dearer ds n C Er → d_P_never_dearer { nx := fun _ n' => C (.dat .non) n', rt := C } (startD ds 2) n := by
  rintro ds n C Er ⟨R, S, rfl, ⟨v, v'⟩, q⟩
  unfold d_P_never_dearer
  walk_at "wp"
  refine s_check_rule v ?_
  walk_at "wp"
  refine s_check_rule v' ?_
  walk_at "wp"
  refine s_at_most v v' ?_
  exact q
theorem r_P_alike : ∀ ds n C Er, dsp_P_alike ds n C Er → d_P_alike { nx := fun _ n' => C (.dat .non) n', rt := C } (startD ds 2) n := by
  rintro ds n C Er ⟨R, S, rfl, ⟨v, v'⟩, q⟩
  unfold d_P_alike
  walk_at "wp"
  refine s_check_rule v ?_
  walk_at "wp"
  refine s_check_rule v' ?_
  walk_at "wp"
  refine s_at_most v v' ?_
  walk_at "wp"
  refine wif_2 (fun h => ?_) fun h => ?_
  · refine s_at_most v' v ?_
    walk_at "wp"
    have h' : atmostF R S = true := h
    rw [h'] at q
    exact q
  · have h' : atmostF R S = false := h
    rw [h'] at q
    exact q
theorem maxI_ge : ∀ {l : List Int} {y : Int}, y ∈ (0 : Int) :: l → y ≤ maxI l
  | [], y, h => by
    have e : y = 0 := by simpa using h
    rw [e]
    exact Int.le_refl _
  | x :: r, y, h => by
    show y ≤ max x (maxI r)
    rcases List.mem_cons.mp h with e | h
    · have := maxI_ge (l := r) (y := 0) List.mem_cons_self
      omega
    · rcases List.mem_cons.mp h with e | h
      · omega
      · have := maxI_ge (l := r) (y := y) (List.mem_cons_of_mem _ h)
        omega
theorem maxI_mem : ∀ {l : List Int}, maxI l ∈ (0 : Int) :: l
  | [] => List.mem_cons_self
  | x :: r => by
    have h := maxI_mem (l := r)
    show max x (maxI r) ∈ _
    by_cases hx : maxI r ≤ x
    · rw [show max x (maxI r) = x by omega]
      exact List.mem_cons_of_mem _ List.mem_cons_self
    · rw [show max x (maxI r) = maxI r by omega]
      rcases List.mem_cons.mp h with e | h
      · rw [e]; exact List.mem_cons_self
      · exact List.mem_cons_of_mem _ (List.mem_cons_of_mem _ h)
theorem r_P_largest_excess : ∀ ds n C Er, dsp_P_largest_excess ds n C Er → d_P_largest_excess { nx := fun _ n' => C (.dat .non) n', rt := C } (startD ds 3) n := by
  rintro ds n C Er ⟨R, S, rfl, ⟨v, v'⟩, q⟩
  have ht := tops_ok v
  unfold d_P_largest_excess
  walk_at "wp"
  refine s_check_rule v ?_
  walk_at "wp"
  refine s_check_rule v' ?_
  walk_at "wp"
  refine lc_p ((cntI R).map D.int) (fun _ => true) (fun d => match d with | .v (.int x) => .int (excF R S x) | _ => .non) (fun K hK => ?_) (by rw [List.length_map, cnt_len]; omega) (fun d hd K K' h1 h2 => ?_) ?_
  · walk_at "wp"
    refine s_most_tickets ⟨v.t0, v.t1⟩ ?_
    walk_at "wp"
    have e : upF 1440 R.t = topsF R := rfl
    rw [e]
    refine ⟨⟨by decide, by decide, by omega, by omega⟩, ?_⟩
    rw [cnt_rng]
    exact hK
  · obtain ⟨x, hx, rfl⟩ := List.mem_map.mp hd
    walk_at "wp"
    refine s_excess v v' ?_
    walk_at "wp"
    exact h1 rfl
  · rw [filter_all, List.map_map]
    have e : List.map ((fun d => match d with | .v (.int x) => D.int (excF R S x) | _ => D.non) ∘ D.int) (cntI R) = (excsF R S).map D.int := by
      unfold excsF
      rw [List.map_map]
      rfl
    rw [e]
    walk_at "wp"
    refine ⟨by rw [List.length_map]; unfold excsF; rw [List.length_map, cnt_len]; omega, ?_⟩
    refine ⟨0 :: excsF R S, rfl, by simp, fun m hm hmax => ?_⟩
    have em : m = maxI (excsF R S) := Int.le_antisymm (maxI_ge hm) (hmax _ maxI_mem)
    rw [em]
    exact q
theorem find_at {α : Type} (p : α → Bool) : ∀ {l : List α} {i : Nat} {x : α}, l[i]? = some x → p x = true → (∀ y ∈ l.take i, p y = false) → l.find? p = some x
  | a :: l, 0, x, h, hp, _ => by
    have e : a = x := by simpa using h
    rw [e, List.find?_cons, hp]
  | a :: l, i + 1, x, h, hp, hn => by
    have ha : p a = false := hn a (by simp)
    rw [List.find?_cons, ha]
    exact find_at p (l := l) (i := i) (by simpa using h) hp fun y hy => hn y (by simp [hy])
theorem r_P_fewest : ∀ ds n C Er, dsp_P_fewest ds n C Er → d_P_fewest { nx := fun _ n' => C (.dat .non) n', rt := C } (startD ds 3) n := by
  rintro ds n C Er ⟨R, S, rfl, ⟨v, v'⟩, q⟩
  have ht := tops_ok v
  unfold d_P_fewest
  refine seqR fun K0 hK0 => ?_
  refine for_i ((cntI R).map D.int) (fun i δ N => N = n ∧ (∀ y ∈ (cntI R).take i, decide (0 < excF R S y) = false) ∧ ∃ y2, δ = [some (.dat R.d), some (.dat S.d), y2]) (fun K hK => ?_) ⟨rfl, (by simp), none, rfl⟩ ?_ ?_
  · walk_at "wp"
    refine s_most_tickets ⟨v.t0, v.t1⟩ ?_
    walk_at "wp"
    have e : upF 1440 R.t = topsF R := rfl
    rw [e]
    refine ⟨⟨by decide, by decide, by omega, by omega⟩, ?_⟩
    rw [cnt_rng]
    exact hK
  · rintro i d δ N hi ⟨rfl, hn, y2, rfl⟩ K2 hK2
    obtain ⟨x, hx, rfl⟩ := get_ints hi
    walk_at "wp"
    refine s_excess v v' ?_
    walk_at "wp"
    refine wif_d (fun h => ?_) fun h => ?_
    · have e : fewestF R S = some x := find_at _ hx (decide_eq_true h) hn
      rw [e] at q
      exact q
    · refine hK2 _ _ ⟨rfl, fun y hy => ?_, some (.dat (.int x)), rfl⟩
      rw [List.take_add_one, hx] at hy
      rcases List.mem_append.mp hy with hy | hy
      · exact hn y hy
      · have e : y = x := by simpa using hy
        rw [e]
        exact decide_eq_false h
  · rintro δ N ⟨rfl, hn, y2, rfl⟩
    rw [List.length_map, List.take_length] at hn
    refine hK0 _ _ ?_
    walk_at "wp"
    have e : fewestF R S = none := List.find?_eq_none.mpr fun y hy => by rw [hn y hy]; decide
    rw [e] at q
    exact q
theorem r_P_fewest_rides : ∀ ds n C Er, dsp_P_fewest_rides ds n C Er → d_P_fewest_rides { nx := fun _ n' => C (.dat .non) n', rt := C } (startD ds 2) n := by
  rintro ds n C Er ⟨R, S, rfl, ⟨v, v'⟩, q⟩
  unfold d_P_fewest_rides
  walk_at "wp"
  refine s_check_rule v ?_
  walk_at "wp"
  refine s_check_rule v' ?_
  walk_at "wp"
  refine s_fewest v v' ?_
  exact q
end LAW

/-! Rj: the laws' own excesses. -/
namespace LAW
open PySem PySem.Spec PyProof.Rows L2 DL
variable [TabNames]
local macro_rules | `(tactic| walk_at "wp") => `(tactic| first | dsimp | skip)
local macro_rules | `(tactic| walk_at "om") => `(tactic| first | omega | (simp only [Ct.le_def, Ct.add_n, Ct.lit_n, Ct.add_g, Ct.lit_g, List.nil_append, List.append_nil] at *; first | omega | (refine ⟨?_, ?_⟩ <;> first | trivial | assumption | (symm; assumption) | omega | simp_all)))
theorem excs_len {R S : Ru} : (excsF R S).length = (topsF R).toNat := by unfold excsF; rw [List.length_map, cnt_len]
theorem excs_take {R S : Ru} {k : Nat} (h : k < (topsF R).toNat) : (excsF R S).take (k + 1) = (excsF R S).take k ++ [excF R S (1 + (k : Int))] := by
  rw [List.take_add_one]
  congr 1
  unfold excsF
  rw [List.getElem?_map, cnt_get h]
  rfl
theorem while_i {p : DT} {db : DS} {E : DEnds} {δ : StD} {N : Ct} (Inv : Nat → StD → Ct → Prop) (m : Nat) (h0 : Inv m δ N)
  (h : ∀ m δ2 N2, Inv m δ2 N2 → ∀ R B : StD → Ct → Prop, (∀ m' δ3 N4, m' < m → Inv m' δ3 N4 → R δ3 N4) → (∀ δ3 N3, db { E with nx := R, ct := R, bk := E.nx } δ3 N3 → B δ3 N3) → p δ2 N2 fun b N3 => wif b (B δ2 N3) (E.nx δ2 N3)) : dWhile p db E δ N :=
  while_w Inv m h0 fun m δ2 N2 hi => h m δ2 N2 hi _ _ (fun m' _ _ hm hi' => ⟨m', hm, hi'⟩) (fun _ _ hb => hb)
theorem r_L_excesses : ∀ ds n C Er, dsp_L_excesses ds n C Er → d_L_excesses { nx := fun _ n' => C (.dat .non) n', rt := C } (startD ds 7) n := by
  rintro ds n C Er ⟨R, S, rfl, ⟨v, v'⟩, q⟩
  have ht := tops_ok v
  have t0 := v.t0
  have t1 := v.t1
  have t0' := v'.t0
  have hul : ∀ k : Int, 1440 ≤ R.t * k ↔ topsF R ≤ k := fun k => le_up t0
  unfold d_L_excesses
  refine seqR fun K1 hK1 => ?_
  walk_at "wp"
  refine hK1 _ _ ?_
  refine seqR fun K2 hK2 => ?_
  refine while_i (fun m δ N => N = n ∧ ∃ (k : Nat) (tick u o cnt : Int), k ≤ (topsF R).toNat ∧ m = (topsF R).toNat - k ∧ tick = k * R.t ∧ u = untilF S.t (boughtF S.t (stepI 0 R.t k)) ∧ o = ((boughtF S.t (stepI 0 R.t k)).length : Nat) ∧ cnt = k ∧
    δ = [some (.dat R.d), some (.dat S.d), some (.own (((excsF R S).take k).map D.int)), some (.dat (.int tick)), some (.dat (.int u)), some (.dat (.int o)), some (.dat (.int cnt))]) (topsF R).toNat ⟨rfl, 0, _, _, _, _, Nat.zero_le _, rfl, (by simp), rfl, rfl, rfl, rfl⟩ ?_
  rintro m δ N ⟨rfl, k, tick, u, o, cnt, hk, rfl, htick, hu, ho, hcnt, rfl⟩ K3 KB hK3 hKB
  have htk : tick = R.t * k := by rw [htick, Int.mul_comm]
  have htk0 : 0 ≤ tick := by rw [htick]; exact Int.mul_nonneg (by omega) (by omega)
  walk_at "wp"
  refine wif_d (fun hlt => ?_) fun hge => ?_
  · have hkt : k < (topsF R).toNat := by
      have h1 : ¬ topsF R ≤ (k : Int) := fun h => by
        have := (hul k).mpr h
        omega
      omega
    have hst : boughtF S.t (stepI 0 R.t (k + 1)) = if u ≤ tick then boughtF S.t (stepI 0 R.t k) ++ [tick] else boughtF S.t (stepI 0 R.t k) := by
      rw [stepI_succ, boughtF_snoc, show 0 + (k : Int) * R.t = tick by omega, until_step htk0, ← hu]
    have hcount := step_count (b := 0) t0 t0' (k + 1)
    have hl2 : ((excsF R S).take k).length ≤ 1440 := by
      rw [List.length_take, excs_len]
      omega
    have fin : ∀ (u' o' : Int), u' = untilF S.t (boughtF S.t (stepI 0 R.t (k + 1))) → o' = ((boughtF S.t (stepI 0 R.t (k + 1))).length : Nat) →
        K3 [some (Sl.dat R.d), some (.dat S.d), some (.own (((excsF R S).take k).map D.int ++ [D.int (moneyF R.p R.c (cnt + 1) - moneyF S.p S.c o')])), some (.dat (.int (tick + R.t))), some (.dat (.int u')), some (.dat (.int o')), some (.dat (.int (cnt + 1)))] N := fun u' o' hu' ho' => by
      refine hK3 ((topsF R).toNat - (k + 1)) _ _ (by omega) ⟨rfl, k + 1, tick + R.t, u', o', cnt + 1, hkt, rfl, ?_, hu', ho', ?_, ?_⟩
      · rw [htick, show ((k + 1 : Nat) : Int) = (k : Int) + 1 by omega, Int.add_mul, Int.one_mul]
      · omega
      · rw [excs_take hkt, List.map_append]
        have e1 : moneyF R.p R.c (cnt + 1) - moneyF S.p S.c o' = excF R S (1 + (k : Int)) := by
          unfold excF
          rw [ho', hcount, hcnt, show (k : Int) + 1 = 1 + (k : Int) by omega, show ((k + 1 : Nat) : Int) = 1 + (k : Int) by omega]
        rw [e1]
        rfl
    have mid : ∀ (u' o' : Int), u' = untilF S.t (boughtF S.t (stepI 0 R.t (k + 1))) → o' = ((boughtF S.t (stepI 0 R.t (k + 1))).length : Nat) → dSeq (dApp 2 (dOp dSub (dCall E00 dsp_L_money (dCons (dVar 0) (dCons (dVar 6) dNil))) (dCall E00 dsp_L_money (dCons (dVar 1) (dCons (dVar 5) dNil)))))
      (dAsg false 3 (dOp dAdd (dVar 3) (dOp dIx (dVar 0) (dC (.int 1))))) { nx := K3, rt := C, bk := K2, ct := K3 } [some (Sl.dat R.d), some (.dat S.d), some (.own (((excsF R S).take k).map D.int)), some (.dat (.int tick)), some (.dat (.int u')), some (.dat (.int o')), some (.dat (.int (cnt + 1)))] N := fun u' o' hu' ho' => by
      walk_at "wp"
      refine s_lmoney ⟨v.p0, v.p1⟩ ?_
      walk_at "wp"
      refine s_lmoney ⟨v'.p0, v'.p1⟩ ?_
      walk_at "wp"
      exact ⟨by rw [List.length_map]; omega, fin u' o' hu' ho'⟩
    refine hKB _ _ ?_
    refine seqR fun K4 hK4 => ?_
    walk_at "wp"
    refine hK4 _ _ ?_
    refine seqR fun K5 hK5 => ?_
    walk_at "wp"
    refine wif_d (fun h => ?_) fun h => ?_
    · rw [if_pos h] at hst
      refine hK5 _ _ (mid (tick + S.t) (o + 1) ?_ ?_)
      · rw [hst]
        unfold untilF
        rw [last_app]
      · rw [hst, List.length_append, ho]
        rfl
    · rw [if_neg h] at hst
      refine hK5 _ _ (mid u o ?_ ?_)
      · rw [hst]; exact hu
      · rw [hst]; exact ho
  · have hkt : k = (topsF R).toNat := by
      have := (hul k).mp (by omega)
      omega
    refine hK2 _ _ ?_
    walk_at "wp"
    rw [hkt, ← excs_len (R := R) (S := S), List.take_length]
    exact q
theorem r_L_good : ∀ ds n C Er, dsp_L_good ds n C Er → d_L_good { nx := fun _ n' => C (.dat .non) n', rt := C } (startD ds 2) n := by
  rintro ds n C Er ⟨R, S, rfl, ⟨v, v'⟩, q⟩
  have ht := tops_ok v
  unfold d_L_good
  walk_at "wp"
  refine s_excesses v v' ?_
  walk_at "wp"
  refine ⟨excsF R S, rfl, fun e => ?_, fun m hm hmax => ?_⟩
  · have h1 := excs_len (R := R) (S := S)
    have e' : excsF R S = [] := e
    rw [e'] at h1
    simp at h1
    omega
  · walk_at "wp"
    have e : decide (m ≤ 0) = atmostF R S := by
      rw [Bool.eq_iff_iff, decide_eq_true_iff]
      unfold atmostF
      rw [List.all_eq_true]
      constructor
      · intro h y hy
        exact decide_eq_true (Int.le_trans (hmax y hy) h)
      · intro h
        exact of_decide_eq_true (h m hm)
    rw [e]
    exact q
end LAW

/-! Rk: rules with another part, the binary searches. -/
namespace LAW
open PySem PySem.Spec PyProof.Rows L2 DL
variable [TabNames]
local macro_rules | `(tactic| walk_at "wp") => `(tactic| first | dsimp | skip)
local macro_rules | `(tactic| walk_at "om") => `(tactic| first | omega | (simp only [Ct.le_def, Ct.add_n, Ct.lit_n, Ct.add_g, Ct.lit_g, List.nil_append, List.append_nil] at *; first | omega | (refine ⟨?_, ?_⟩ <;> first | trivial | assumption | (symm; assumption) | omega | simp_all)))
section
variable {N : Ct} {C : DK} {p t p' t' k x : Int} {c c' : Option Int} {top : Nat}
theorem s_with_part (hk : k = 0 ∨ k = 1 ∨ k = 2) (h : C (.dat (putR ⟨p, t, c⟩ k x).d) N) : dsp_P_with_part [ruleD p t c, .v (.int k), .v (.int x)] N C E00 := ⟨⟨p, t, c⟩, k, x, rfl, hk, h⟩
theorem s_greatest (v : VRule p t c) (v' : VRule p' t' c') (hk : k = 0 ∧ top ≤ 1000 ∨ k = 2 ∧ top ≤ 1000000) (h : C (.dat (.int (greatestF ⟨p, t, c⟩ ⟨p', t', c'⟩ k top))) N) : dsp_P_greatest [ruleD p t c, ruleD p' t' c', .v (.int k), .v (.int top)] N C E00 := ⟨⟨p, t, c⟩, ⟨p', t', c'⟩, k, top, rfl, ⟨v, v', hk⟩, h⟩
theorem s_greatest_price (v : VRule p t c) (v' : VRule p' t' c') (h : C (.dat (.int (greatestF ⟨p, t, c⟩ ⟨p', t', c'⟩ 0 1000))) N) : dsp_P_greatest_price [ruleD p t c, ruleD p' t' c'] N C E00 := ⟨⟨p, t, c⟩, ⟨p', t', c'⟩, rfl, ⟨v, v'⟩, h⟩
theorem s_greatest_cap (v : VRule p t c) (v' : VRule p' t' c') (h : C (.dat (.int (greatestF ⟨p, t, c⟩ ⟨p', t', c'⟩ 2 1000000))) N) : dsp_P_greatest_cap [ruleD p t c, ruleD p' t' c'] N C E00 := ⟨⟨p, t, c⟩, ⟨p', t', c'⟩, rfl, ⟨v, v'⟩, h⟩
theorem s_least_length (v : VRule p t c) (v' : VRule p' t' c') (h : C (.dat (capD (leastF ⟨p, t, c⟩ ⟨p', t', c'⟩))) N) : dsp_P_least_length [ruleD p t c, ruleD p' t' c'] N C E00 := ⟨⟨p, t, c⟩, ⟨p', t', c'⟩, rfl, ⟨v, v'⟩, h⟩
end
theorem l_P_with_part : ∀ ds n C Er, dsp_P_with_part ds n C Er → ds.length = 3 := by rintro ds n C Er ⟨_, _, _, rfl, _⟩; rfl
theorem l_P_greatest : ∀ ds n C Er, dsp_P_greatest ds n C Er → ds.length = 4 := by rintro ds n C Er ⟨_, _, _, _, rfl, _⟩; rfl
theorem l_P_greatest_price : ∀ ds n C Er, dsp_P_greatest_price ds n C Er → ds.length = 2 := by rintro ds n C Er ⟨_, _, rfl, _⟩; rfl
theorem l_P_greatest_cap : ∀ ds n C Er, dsp_P_greatest_cap ds n C Er → ds.length = 2 := by rintro ds n C Er ⟨_, _, rfl, _⟩; rfl
theorem l_P_least_length : ∀ ds n C Er, dsp_P_least_length ds n C Er → ds.length = 2 := by rintro ds n C Er ⟨_, _, rfl, _⟩; rfl
theorem cut_a {a b c : D} : DL.cutD [a, b, c] none (some 0) = [] := rfl
theorem cut_b {a b c : D} : DL.cutD [a, b, c] none (some 1) = [a] := rfl
theorem cut_c {a b c : D} : DL.cutD [a, b, c] none (some 2) = [a, b] := rfl
theorem cut_d {a b c : D} : DL.cutD [a, b, c] (some 1) none = [b, c] := rfl
theorem cut_e {a b c : D} : DL.cutD [a, b, c] (some 2) none = [c] := rfl
theorem cut_f {a b c : D} : DL.cutD [a, b, c] (some 3) none = [] := rfl
theorem put_ok {R : Ru} {k x : Int} (v : VR R) (h : k = 0 ∧ 0 ≤ x ∧ x ≤ 1000 ∨ k = 1 ∧ 1 ≤ x ∧ x ≤ 1440 ∨ k = 2 ∧ 0 ≤ x ∧ x ≤ 1000000) : VR (putR R k x) := by
  have p0 := v.p0
  have p1 := v.p1
  have t0 := v.t0
  have t1 := v.t1
  rcases h with ⟨rfl, h0, h1⟩ | ⟨rfl, h0, h1⟩ | ⟨rfl, h0, h1⟩
  · exact ⟨h0, h1, t0, t1, v.c0⟩
  · exact ⟨p0, p1, h0, h1, v.c0⟩
  · exact ⟨p0, p1, t0, t1, fun y hy => by
      have e : x = y := Option.some.inj hy
      omega⟩
theorem r_P_with_part : ∀ ds n C Er, dsp_P_with_part ds n C Er → d_P_with_part { nx := fun _ n' => C (.dat .non) n', rt := C } (startD ds 3) n := by
  rintro ds n C Er ⟨R, k, x, rfl, hk, q⟩
  unfold d_P_with_part
  rcases hk with rfl | rfl | rfl
  · simp only [Ru.d, ruleD]
    walk_at "wp"
    rw [cut_a]
    walk_at "wp"
    refine ⟨by decide, ?_⟩
    rw [cut_d]
    walk_at "wp"
    exact ⟨by decide, q⟩
  · simp only [Ru.d, ruleD]
    walk_at "wp"
    rw [cut_b]
    walk_at "wp"
    refine ⟨by decide, ?_⟩
    rw [cut_e]
    walk_at "wp"
    exact ⟨by decide, q⟩
  · simp only [Ru.d, ruleD]
    walk_at "wp"
    rw [cut_c]
    walk_at "wp"
    refine ⟨by decide, ?_⟩
    rw [cut_f]
    walk_at "wp"
    exact ⟨by decide, q⟩
theorem r_P_greatest_price : ∀ ds n C Er, dsp_P_greatest_price ds n C Er → d_P_greatest_price { nx := fun _ n' => C (.dat .non) n', rt := C } (startD ds 2) n := by
  rintro ds n C Er ⟨R, S, rfl, ⟨v, v'⟩, q⟩
  unfold d_P_greatest_price
  walk_at "wp"
  refine s_check_rule v ?_
  walk_at "wp"
  refine s_check_rule v' ?_
  walk_at "wp"
  exact s_greatest (top := 1000) v v' (.inl ⟨rfl, by decide⟩) q
theorem r_P_greatest_cap : ∀ ds n C Er, dsp_P_greatest_cap ds n C Er → d_P_greatest_cap { nx := fun _ n' => C (.dat .non) n', rt := C } (startD ds 2) n := by
  rintro ds n C Er ⟨R, S, rfl, ⟨v, v'⟩, q⟩
  unfold d_P_greatest_cap
  walk_at "wp"
  refine s_check_rule v ?_
  walk_at "wp"
  refine s_check_rule v' ?_
  walk_at "wp"
  exact s_greatest (top := 1000000) v v' (.inr ⟨rfl, by decide⟩) q
theorem r_P_greatest : ∀ ds n C Er, dsp_P_greatest ds n C Er → d_P_greatest { nx := fun _ n' => C (.dat .non) n', rt := C } (startD ds 7) n := by
  rintro ds n C Er ⟨R, S, k, top, rfl, ⟨v, v', hk⟩, q⟩
  have hk3 : k = 0 ∨ k = 1 ∨ k = 2 := by omega
  unfold d_P_greatest
  refine seqR fun K1 hK1 => ?_
  walk_at "wp"
  refine hK1 _ _ ?_
  refine seqR fun K2 hK2 => ?_
  refine while_i (fun m δ N => N = n ∧ ∃ (lo hi : Int) (y6 : Option Sl), 0 ≤ lo ∧ lo ≤ hi ∧ hi ≤ top ∧ (hi - lo).toNat ≤ m ∧ upS (fun x => atmostF (putR R k x) S) m lo hi = greatestF R S k top ∧
    δ = [some (.dat R.d), some (.dat S.d), some (.dat (.int k)), some (.dat (.int top)), some (.dat (.int lo)), some (.dat (.int hi)), y6]) top ⟨rfl, 0, top, none, (by decide), (by omega), Int.le_refl _, (by omega), rfl, rfl⟩ ?_
  rintro m δ N ⟨rfl, lo, hi, y6, h0, h1, h2, hm, hres, rfl⟩ K3 KB hK3 hKB
  walk_at "wp"
  refine wif_d (fun hlt => ?_) fun hge => ?_
  · obtain ⟨m', rfl⟩ : ∃ m', m = m' + 1 := ⟨m - 1, by omega⟩
    have hres' : (if atmostF (putR R k ((lo + hi + 1) / 2)) S = true then upS (fun x => atmostF (putR R k x) S) m' ((lo + hi + 1) / 2) hi else upS (fun x => atmostF (putR R k x) S) m' lo ((lo + hi + 1) / 2 - 1)) = greatestF R S k top := by
      rw [← hres]
      show _ = (if lo < hi then _ else _)
      rw [if_pos hlt]
    refine hKB _ _ ?_
    refine seqR fun K4 hK4 => ?_
    walk_at "wp"
    refine ⟨⟨by decide, by decide⟩, ?_⟩
    refine hK4 _ _ ?_
    generalize hmid : (lo + hi + 1) / 2 = mid at hres'
    have hm1 : lo < mid ∧ mid ≤ hi := by omega
    walk_at "wp"
    refine s_with_part hk3 ?_
    walk_at "wp"
    have vp : VR (putR R k mid) := put_ok v (by omega)
    refine s_at_most vp v' ?_
    walk_at "wp"
    refine wif_2 (fun h => ?_) fun h => ?_
    · have h' : atmostF (putR R k mid) S = true := h
      rw [if_pos h'] at hres'
      exact hK3 m' _ _ (by omega) ⟨rfl, mid, hi, _, by omega, by omega, h2, by omega, hres', rfl⟩
    · have h' : atmostF (putR R k mid) S = false := h
      rw [if_neg (by rw [h']; decide)] at hres'
      exact hK3 m' _ _ (by omega) ⟨rfl, lo, mid - 1, _, h0, by omega, by omega, by omega, hres', rfl⟩
  · refine hK2 _ _ ?_
    walk_at "wp"
    have e : greatestF R S k top = lo := by
      rw [← hres]
      cases m with
      | zero => rfl
      | succ m =>
        show (if lo < hi then _ else _) = _
        rw [if_neg hge]
    rw [e] at q
    exact q
theorem r_P_least_length : ∀ ds n C Er, dsp_P_least_length ds n C Er → d_P_least_length { nx := fun _ n' => C (.dat .non) n', rt := C } (startD ds 5) n := by
  rintro ds n C Er ⟨R, S, rfl, ⟨v, v'⟩, q⟩
  have hk3 : (1 : Int) = 0 ∨ (1 : Int) = 1 ∨ (1 : Int) = 2 := by omega
  unfold d_P_least_length
  refine seqR fun K1 hK1 => ?_
  walk_at "wp"
  refine s_check_rule v ?_
  walk_at "wp"
  refine hK1 _ _ ?_
  refine seqR fun K2 hK2 => ?_
  walk_at "wp"
  refine s_check_rule v' ?_
  walk_at "wp"
  refine hK2 _ _ ?_
  refine seqR fun K3 hK3 => ?_
  walk_at "wp"
  refine s_with_part (k := 1) hk3 ?_
  walk_at "wp"
  refine s_at_most (put_ok v (by omega)) v' ?_
  walk_at "wp"
  refine wif_2 (fun h => ?_) fun h => ?_
  · have h' : atmostF (putR R 1 1440) S = false := by simpa using h
    have e : leastF R S = none := by unfold leastF; rw [if_neg (by rw [h']; decide)]
    rw [e] at q
    exact q
  have h' : atmostF (putR R 1 1440) S = true := by simpa using h
  refine hK3 _ _ ?_
  refine seqR fun K4 hK4 => ?_
  walk_at "wp"
  refine hK4 _ _ ?_
  refine seqR fun K5 hK5 => ?_
  refine while_i (fun m δ N => N = n ∧ ∃ (lo hi : Int) (y6 : Option Sl), 1 ≤ lo ∧ lo ≤ hi ∧ hi ≤ 1440 ∧ (hi - lo).toNat ≤ m ∧ dnS (fun x => atmostF (putR R 1 x) S) m lo hi = dnS (fun x => atmostF (putR R 1 x) S) 1440 1 1440 ∧
    δ = [some (.dat R.d), some (.dat S.d), some (.dat (.int lo)), some (.dat (.int hi)), y6]) 1440 ⟨rfl, 1, 1440, none, (by decide), (by decide), (by decide), (by decide), rfl, rfl⟩ ?_
  rintro m δ N ⟨rfl, lo, hi, y6, h0, h1, h2, hm, hres, rfl⟩ K6 KB hK6 hKB
  walk_at "wp"
  refine wif_d (fun hlt => ?_) fun hge => ?_
  · obtain ⟨m', rfl⟩ : ∃ m', m = m' + 1 := ⟨m - 1, by omega⟩
    have hres' : (if atmostF (putR R 1 ((lo + hi) / 2)) S = true then dnS (fun x => atmostF (putR R 1 x) S) m' lo ((lo + hi) / 2) else dnS (fun x => atmostF (putR R 1 x) S) m' ((lo + hi) / 2 + 1) hi) = dnS (fun x => atmostF (putR R 1 x) S) 1440 1 1440 := by
      rw [← hres]
      show _ = (if lo < hi then _ else _)
      rw [if_pos hlt]
    refine hKB _ _ ?_
    refine seqR fun K7 hK7 => ?_
    walk_at "wp"
    refine ⟨⟨by decide, by decide⟩, ?_⟩
    refine hK7 _ _ ?_
    generalize hmid : (lo + hi) / 2 = mid at hres'
    have hm1 : lo ≤ mid ∧ mid < hi := by omega
    walk_at "wp"
    refine s_with_part (k := 1) hk3 ?_
    walk_at "wp"
    have vp : VR (putR R 1 mid) := put_ok v (by omega)
    refine s_at_most vp v' ?_
    walk_at "wp"
    refine wif_2 (fun h => ?_) fun h => ?_
    · have h' : atmostF (putR R 1 mid) S = true := h
      rw [if_pos h'] at hres'
      exact hK6 m' _ _ (by omega) ⟨rfl, lo, mid, _, h0, by omega, by omega, by omega, hres', rfl⟩
    · have h' : atmostF (putR R 1 mid) S = false := h
      rw [if_neg (by rw [h']; decide)] at hres'
      exact hK6 m' _ _ (by omega) ⟨rfl, mid + 1, hi, _, by omega, by omega, h2, by omega, hres', rfl⟩
  · refine hK5 _ _ ?_
    walk_at "wp"
    have e : leastF R S = some lo := by
      unfold leastF
      rw [if_pos h', ← hres]
      cases m with
      | zero => rfl
      | succ m =>
        show some (if lo < hi then _ else _) = _
        rw [if_neg hge]
    rw [e] at q
    exact q
end LAW

/-! Rn: what compared rules mean for rides. -/
namespace LAW
open PySem PySem.Spec PyProof.Rows L2 DL
variable [TabNames]
def costR (R : Ru) (ns : List Int) : Int := costF R.p R.t R.c ns
theorem up_mono {a b k : Int} (hk : 1 ≤ k) (h : a ≤ b) : upF a k ≤ upF b k := by
  unfold upF
  exact Int.ediv_le_ediv (by omega) (by omega)
theorem largest_ge0 {R S : Ru} : 0 ≤ largestF R S := maxI_ge List.mem_cons_self
theorem largest_ge {R S : Ru} {n : Int} (h0 : 1 ≤ n) (h1 : n ≤ topsF R) : excF R S n ≤ largestF R S :=
  maxI_ge (List.mem_cons_of_mem _ (List.mem_map.mpr ⟨n, cnt_mem.mpr ⟨h0, h1⟩, rfl⟩))
theorem largest_le {R S : Ru} {x : Int} (h0 : 0 ≤ x) (h : ∀ n, 1 ≤ n → n ≤ topsF R → excF R S n ≤ x) : largestF R S ≤ x := by
  unfold largestF
  rcases List.mem_cons.mp (maxI_mem (l := excsF R S)) with e | e
  · rw [e]; exact h0
  · obtain ⟨n, hn, he⟩ := List.mem_map.mp e
    obtain ⟨a, b⟩ := cnt_mem.mp hn
    rw [← he]
    exact h n a b
theorem atmost_iff {R S : Ru} : atmostF R S = true ↔ ∀ n, 1 ≤ n → n ≤ topsF R → excF R S n ≤ 0 := by
  unfold atmostF excsF
  rw [List.all_map, List.all_eq_true]
  constructor
  · intro h n a b
    exact of_decide_eq_true (h n (cnt_mem.mpr ⟨a, b⟩))
  · intro h n hn
    obtain ⟨a, b⟩ := cnt_mem.mp hn
    exact decide_eq_true (h n a b)
theorem atmost_large {R S : Ru} : atmostF R S = true ↔ largestF R S ≤ 0 := by
  rw [atmost_iff]
  constructor
  · exact fun h => largest_le (Int.le_refl _) h
  · exact fun h n a b => Int.le_trans (largest_ge a b) h
/-- the rides that tell -/
theorem tell_ok {R : Ru} (v : VR R) {n : Int} (h0 : 0 ≤ n) (h1 : n ≤ topsF R) : VRides 1440 (stepI 0 R.t n.toNat) where
  len := by
    have := (tops_ok v).2
    rw [stepI_len]
    omega
  rg := fun x hx => by
    unfold stepI at hx
    obtain ⟨i, hi, rfl⟩ := List.mem_map.mp hx
    have hi' := List.mem_range.mp hi
    have t0 := v.t0
    have h4 : ¬ topsF R ≤ (i : Int) := by omega
    have h4' : ¬ 1440 ≤ R.t * (i : Int) := fun q => h4 ((le_up t0).mp q)
    have h5 : 0 ≤ (i : Int) * R.t := Int.mul_nonneg (by omega) (by omega)
    have h6 : (i : Int) * R.t = R.t * i := Int.mul_comm _ _
    omega
  asc := step_asc v.t0
theorem tell_self {R : Ru} (v : VR R) {n : Int} (h0 : 0 ≤ n) : ((boughtF R.t (stepI 0 R.t n.toNat)).length : Int) = n := by
  have e1 : upF R.t R.t = 1 := by
    have := v.t0
    unfold upF
    rw [show R.t + R.t - 1 = (R.t - 1) + 1 * R.t by omega, Int.add_mul_ediv_right _ _ (by omega), Int.ediv_eq_zero_of_lt (by omega) (by omega)]
    rfl
  rw [step_count v.t0 v.t0, e1]
  unfold upF
  rw [Int.ediv_one]
  omega
theorem tell_cost {R S : Ru} (v : VR R) (vS : VR S) {n : Int} (h0 : 0 ≤ n) : excF R S n = costR R (stepI 0 R.t n.toNat) - costR S (stepI 0 R.t n.toNat) := by
  unfold excF costR costF
  rw [tell_self v h0, step_count v.t0 vS.t0]
  congr 3
  omega
theorem money_0 {p : Int} {c : Option Int} {t : Int} (v : VRule p t c) : moneyF p c 0 = 0 := by
  cases c with
  | none => exact Int.zero_mul _
  | some c =>
    have := v.c0 c rfl
    show min (0 * p) c = 0
    rw [Int.zero_mul]
    omega
/-- no rides cost more by more than the excess at their tickets -/
theorem exc_sound {R S : Ru} (v : VR R) (vS : VR S) {m : Nat} {ns : List Int} (r : VRides m ns) : costR R ns - costR S ns ≤ excF R S ((boughtF R.t ns).length : Nat) := by
  unfold excF costR costF
  have hm := bought_mult (L := R.t) (M := S.t) v.t0 vS.t0 r
  have hu := (le_up (L := ((boughtF R.t ns).length : Nat)) (s := upF S.t R.t) (q := ((boughtF S.t ns).length : Nat)) (up_one vS.t0 v.t0)).mp hm
  have := money_mono (p := S.p) (c := S.c) vS.p0 hu
  omega
theorem cost_large {R S : Ru} (v : VR R) (vS : VR S) {m : Nat} {ns : List Int} (r : VRides m ns) : costR R ns - costR S ns ≤ largestF R S := by
  have h1 := exc_sound v vS r
  by_cases h0 : ((boughtF R.t ns).length : Int) = 0
  · have h2 : costR R ns = 0 := by
      unfold costR costF
      rw [h0]
      exact money_0 v
    have h3 := (cost_le (L := S.t) vS r).1
    have h4 : 0 ≤ costR S ns := h3
    have := largest_ge0 (R := R) (S := S)
    omega
  · have h2 := bought_up v.t0 v.t1 r
    exact Int.le_trans h1 (largest_ge (by omega) h2)
theorem cost_never {R S : Ru} (v : VR R) (vS : VR S) (h : atmostF R S = true) {m : Nat} {ns : List Int} (r : VRides m ns) : costR R ns ≤ costR S ns := by
  have h1 := cost_large v vS r
  have h2 := atmost_large.mp h
  omega
theorem atmost_cost {R S : Ru} (v : VR R) (vS : VR S) (h : ∀ (m : Nat) (ns : List Int), VRides m ns → costR R ns ≤ costR S ns) : atmostF R S = true := by
  rw [atmost_iff]
  intro n h0 h1
  rw [tell_cost v vS (by omega)]
  have := h _ _ (tell_ok v (n := n) (by omega) h1)
  omega
theorem large_cost {R S : Ru} (v : VR R) (vS : VR S) {x : Int} (hx : 0 ≤ x) (h : ∀ (m : Nat) (ns : List Int), VRides m ns → costR R ns - costR S ns ≤ x) : largestF R S ≤ x := by
  refine largest_le hx fun n h0 h1 => ?_
  rw [tell_cost v vS (by omega)]
  exact h _ _ (tell_ok v (n := n) (by omega) h1)
/-- the fewest rides -/
theorem fewest_some {R S : Ru} {f : Int} (h : fewestF R S = some f) : 1 ≤ f ∧ f ≤ topsF R ∧ 0 < excF R S f := by
  unfold fewestF at h
  have h1 := List.mem_of_find?_eq_some h
  have h2 := List.find?_some h
  obtain ⟨a, b⟩ := cnt_mem.mp h1
  exact ⟨a, b, of_decide_eq_true h2⟩
theorem fewest_none {R S : Ru} (h : fewestF R S = none) : atmostF R S = true := by
  unfold fewestF at h
  rw [List.find?_eq_none] at h
  rw [atmost_iff]
  intro n a b
  have := h n (cnt_mem.mpr ⟨a, b⟩)
  simp at this
  omega
theorem cnt_asc {R : Ru} : (cntI R).Pairwise (· < ·) := by
  unfold cntI
  rw [List.pairwise_map]
  exact List.pairwise_lt_range.imp fun h => by omega
theorem find_least {p : Int → Bool} : ∀ {l : List Int}, l.Pairwise (· < ·) → ∀ {n : Int}, n ∈ l → p n = true → ∃ f, l.find? p = some f ∧ f ≤ n
  | [], _, n, hn, _ => by cases hn
  | x :: r, h, n, hn, hp => by
    have h1 := List.pairwise_cons.mp h
    rw [List.find?_cons]
    cases hx : p x with
    | true =>
      refine ⟨x, rfl, ?_⟩
      rcases List.mem_cons.mp hn with e | hn
      · omega
      · exact Int.le_of_lt (h1.1 n hn)
    | false =>
      rcases List.mem_cons.mp hn with e | hn
      · rw [← e] at hx
        rw [hx] at hp
        cases hp
      · exact find_least h1.2 hn hp
theorem fewest_at {R S : Ru} {n : Int} (h0 : 1 ≤ n) (h1 : n ≤ topsF R) (h : 0 < excF R S n) : ∃ f, fewestF R S = some f ∧ f ≤ n :=
  find_least cnt_asc (cnt_mem.mpr ⟨h0, h1⟩) (decide_eq_true h)
/-- rides for which the first costs more are at least so many -/
theorem fewest_cost {R S : Ru} (v : VR R) (vS : VR S) {m : Nat} {ns : List Int} (r : VRides m ns) (h : costR S ns < costR R ns) : ∃ f, fewestF R S = some f ∧ f ≤ ns.length := by
  have h1 := exc_sound v vS r
  have h2 := bought_up v.t0 v.t1 r
  have h3 := boughtF_len R.t ns
  have h0 : 1 ≤ ((boughtF R.t ns).length : Int) := by
    by_cases e : ((boughtF R.t ns).length : Int) = 0
    · have h4 : costR R ns = 0 := by
        unfold costR costF
        rw [e]
        exact money_0 v
      have h5 : 0 ≤ costR S ns := (cost_le (L := S.t) vS r).1
      omega
    · omega
  obtain ⟨f, hf, hle⟩ := fewest_at (S := S) h0 h2 (by omega)
  exact ⟨f, hf, by omega⟩
end LAW

/-! Ro: better rules. -/
namespace LAW
open PySem PySem.Spec PyProof.Rows L2 DL
variable [TabNames]
local macro_rules | `(tactic| walk_at "wp") => `(tactic| first | dsimp | skip)
local macro_rules | `(tactic| walk_at "om") => `(tactic| first | omega | (simp only [Ct.le_def, Ct.add_n, Ct.lit_n, Ct.add_g, Ct.lit_g, List.nil_append, List.append_nil] at *; first | omega | (refine ⟨?_, ?_⟩ <;> first | trivial | assumption | (symm; assumption) | omega | simp_all)))
theorem l_L_better : ∀ ds n C Er, dsp_L_better ds n C Er → ds.length = 2 := by rintro ds n C Er ⟨_, _, _, rfl, _⟩; rfl
theorem s_better {p t : Int} {c : Option Int} {N : Ct} {C : DK} (v : VRule p t c) (h : N.n + 40 ≤ LIM) (q : ∀ p' t' c' N', VRule p' t' c' → (∀ (m : Nat) (ns : List Int), VRides m ns → costF p' t' c' ns ≤ costF p t c ns) → N ≤ N' → N' ≤ N + 2 → C (.dat (ruleD p' t' c')) N') : dsp_L_better [.bag, ruleD p t c] N C E00 := ⟨p, t, c, rfl, ⟨v, h⟩, q⟩
theorem money_price {p p' n : Int} {c : Option Int} (h : p' ≤ p) (hn : 0 ≤ n) : moneyF p' c n ≤ moneyF p c n := by
  have e : n * p' ≤ n * p := Int.mul_le_mul_of_nonneg_left h hn
  cases c with
  | none => exact e
  | some c =>
    show min (n * p') c ≤ min (n * p) c
    omega
theorem r_L_better : ∀ ds n C Er, dsp_L_better ds n C Er → d_L_better { nx := fun _ n' => C (.dat .non) n', rt := C } (startD ds 6) n := by
  rintro ds n C Er ⟨p, t, c, rfl, ⟨v, hN⟩, q⟩
  have p0 := v.p0
  have p1 := v.p1
  have t0 := v.t0
  have t1 := v.t1
  unfold d_L_better
  simp only [ruleD]
  refine seqR fun R1 hR1 => ?_
  walk_at "wp"
  refine hR1 _ _ ?_
  refine seqR fun R2 hR2 => ?_
  walk_at "wp"
  refine s_take ⟨by decide, by decide, by walk_at "om"⟩ fun a a0 a1 => ?_
  walk_at "wp"
  refine hR2 _ _ ?_
  refine seqR fun R3 hR3 => ?_
  walk_at "wp"
  refine wif_d (fun _ => ?_) fun _ => ?_
  · refine s_take ⟨by decide, by decide, by walk_at "om"⟩ fun b b0 b1 => ?_
    walk_at "wp"
    refine q (max 0 (p - 1 - b)) t c _ ⟨by walk_at "om", by walk_at "om", t0, t1, v.c0⟩ (fun m ns r => ?_) (by walk_at "om") (by walk_at "om")
    exact money_price (by walk_at "om") (by walk_at "om")
  refine hR3 _ _ ?_
  refine seqR fun R4 hR4 => ?_
  walk_at "wp"
  refine wif_d (fun _ => ?_) fun _ => ?_
  · refine s_take ⟨by decide, by decide, by walk_at "om"⟩ fun b b0 b1 => ?_
    walk_at "wp"
    refine q p (min 1440 (t + 1 + b)) c _ ⟨p0, p1, by walk_at "om", by walk_at "om", v.c0⟩ (fun m ns r => ?_) (by walk_at "om") (by walk_at "om")
    exact cost_anti p0 (by walk_at "om") r
  refine hR4 _ _ ?_
  cases c with
  | none =>
    simp only [capD]
    walk_at "wp"
    refine wif_t rfl ?_
    refine ⟨.inr (by walk_at "om"), ?_⟩
    refine q p t (some (5 * p)) _ ⟨p0, p1, t0, t1, fun x hx => by cases hx; omega⟩ (fun m ns r => ?_) (by walk_at "om") (by walk_at "om")
    show min (_ * p) (5 * p) ≤ _ * p
    omega
  | some c =>
    have hc := v.c0 c rfl
    simp only [capD]
    walk_at "wp"
    refine wif_f rfl ?_
    refine q p t (some (max 0 (c - 1))) _ ⟨p0, p1, t0, t1, fun x hx => by cases hx; omega⟩ (fun m ns r => ?_) (by walk_at "om") (by walk_at "om")
    show min (_ * p) (max 0 (c - 1)) ≤ min (_ * p) c
    omega
end LAW

/-! Rp: bought rides are as many as can be that are a length apart. -/
namespace LAW
open PySem PySem.Spec PyProof.Rows L2 DL
variable [TabNames]
def Apart (L : Int) (s : List Int) : Prop := s.Pairwise fun a b => a + L ≤ b
theorem asc_same : ∀ {l m : List Int}, l.Pairwise (· < ·) → m.Pairwise (· < ·) → (∀ k, k ∈ l ↔ k ∈ m) → l = m
  | [], [], _, _, _ => rfl
  | [], y :: m, _, _, h => absurd ((h y).mpr List.mem_cons_self) (by simp)
  | x :: l, [], _, _, h => absurd ((h x).mp List.mem_cons_self) (by simp)
  | x :: l, y :: m, hl, hm, h => by
    have al := List.pairwise_cons.mp hl
    have am := List.pairwise_cons.mp hm
    have e : x = y := by
      rcases List.mem_cons.mp ((h x).mp List.mem_cons_self) with e | h1
      · exact e
      · rcases List.mem_cons.mp ((h y).mpr List.mem_cons_self) with e | h2
        · exact e.symm
        · have := am.1 x h1
          have := al.1 y h2
          omega
    subst e
    congr 1
    refine asc_same al.2 am.2 fun k => ⟨fun hk => ?_, fun hk => ?_⟩
    · rcases List.mem_cons.mp ((h k).mp (List.mem_cons_of_mem _ hk)) with e | h1
      · have := al.1 k hk
        omega
      · exact h1
    · rcases List.mem_cons.mp ((h k).mpr (List.mem_cons_of_mem _ hk)) with e | h1
      · have := am.1 k hk
        omega
      · exact h1
/-- what is bought so far, b, is at least as many as s, and ends no later if just as many -/
structure Mx (b s : List Int) : Prop where
  le : s.length ≤ b.length
  last : s.length = b.length → ∀ l y, b.getLast? = some l → s.getLast? = some y → l ≤ y
theorem mx_skip {L x : Int} {b s : List Int} (h : Mx b s) : Mx (bstep L b x) s := by
  rcases bstep_cases L b x with ⟨e, _⟩ | ⟨e, _⟩ <;> rw [e]
  · have := h.le
    refine ⟨by rw [List.length_append]; omega, fun q => ?_⟩
    rw [List.length_append] at q
    have : [x].length = 1 := rfl
    omega
  · exact h
theorem mx_take {L x : Int} {b s : List Int} (hL : 1 ≤ L) (h : Mx b s) (hs : ∀ y, s.getLast? = some y → y + L ≤ x) (hb : ∀ l, b.getLast? = some l → l ≤ x) : Mx (bstep L b x) (s ++ [x]) := by
  have hle := h.le
  have h1 : [x].length = 1 := rfl
  rcases bstep_cases L b x with ⟨e, _⟩ | ⟨e, l, g1, g2⟩ <;> rw [e]
  · refine ⟨by rw [List.length_append, List.length_append]; omega, fun _ l y hl hy => ?_⟩
    rw [last_app] at hl hy
    cases hl
    cases hy
    exact Int.le_refl _
  · have hlt : s.length < b.length := by
      by_cases q : s.length = b.length
      · exfalso
        have hbn : b ≠ [] := fun z => by rw [z] at g1; cases g1
        have hsn : s ≠ [] := fun z => by
          rw [z] at q
          exact hbn (List.length_eq_zero_iff.mp q.symm)
        have := h.last q l _ g1 (List.getLast?_eq_some_getLast hsn)
        have := hs _ (List.getLast?_eq_some_getLast hsn)
        omega
      · omega
    refine ⟨by rw [List.length_append]; omega, fun _ l' y hl hy => ?_⟩
    rw [last_app] at hy
    cases hy
    exact hb l' hl
theorem mx_fold {L : Int} (hL : 1 ≤ L) : ∀ (ns b s t : List Int), ns.Pairwise (· ≤ ·) → (∀ l, b.getLast? = some l → ∀ y ∈ ns, l ≤ y) → Mx b s → t.Sublist ns → Apart L (s ++ t) → Mx (ns.foldl (bstep L) b) (s ++ t)
  | [], b, s, t, _, _, h, hs, _ => by
    rw [List.sublist_nil.mp hs, List.append_nil]
    exact h
  | x :: r, b, s, t, ha, hb, h, hs, hap => by
    have a1 := List.pairwise_cons.mp ha
    have hb' : ∀ l, (bstep L b x).getLast? = some l → ∀ y ∈ r, l ≤ y := fun l hl y hy => by
      rcases bstep_cases L b x with ⟨e, _⟩ | ⟨e, _⟩ <;> rw [e] at hl
      · rw [last_app] at hl
        cases hl
        exact a1.1 y hy
      · exact hb l hl y (List.mem_cons_of_mem _ hy)
    cases hs with
    | cons _ hs => exact mx_fold hL r _ s t a1.2 hb' (mx_skip h) hs hap
    | cons_cons _ hs =>
      rename_i t'
      have e : s ++ x :: t' = (s ++ [x]) ++ t' := by rw [List.append_assoc]; rfl
      rw [e] at hap ⊢
      refine mx_fold hL r _ (s ++ [x]) t' a1.2 hb' (mx_take hL h (fun y hy => ?_) fun l hl => hb l hl x List.mem_cons_self) hs hap
      have p1 := (List.pairwise_append.mp hap).1
      exact (List.pairwise_append.mp p1).2.2 y (List.mem_of_getLast? hy) x List.mem_cons_self
theorem bought_max {L : Int} {ns s : List Int} (hL : 1 ≤ L) (ha : ns.Pairwise (· ≤ ·)) (hs : s.Sublist ns) (hap : Apart L s) : s.length ≤ (boughtF L ns).length :=
  (mx_fold hL ns [] [] s ha (fun l h => by cases h) ⟨Nat.le_refl _, fun _ l y h => by cases h⟩ hs hap).le
theorem apart_lt {L : Int} {s : List Int} (hL : 1 ≤ L) (h : Apart L s) : s.Pairwise (· < ·) := h.imp fun q => by omega
theorem apart_snoc {L x : Int} {b : List Int} (hL : 1 ≤ L) (h : Apart L b) (hl : ∀ l, b.getLast? = some l → l + L ≤ x) : Apart L (b ++ [x]) := by
  refine List.pairwise_append.mpr ⟨h, List.pairwise_singleton _ _, fun y hy z hz => ?_⟩
  have e : z = x := by simpa using hz
  subst e
  have hbn : b ≠ [] := List.ne_nil_of_mem hy
  have h1 := hl _ (List.getLast?_eq_some_getLast hbn)
  have h2 := asc_last (apart_lt hL h) hy hbn
  omega
theorem bought_both {L : Int} (hL : 1 ≤ L) : ∀ (ns b c : List Int), Apart L b → b.Sublist c → Apart L (ns.foldl (bstep L) b) ∧ (ns.foldl (bstep L) b).Sublist (c ++ ns)
  | [], b, c, h1, h2 => ⟨h1, by rw [List.append_nil]; exact h2⟩
  | x :: r, b, c, h1, h2 => by
    have e : c ++ x :: r = (c ++ [x]) ++ r := by rw [List.append_assoc]; rfl
    rw [e]
    refine bought_both hL r _ _ ?_ ?_
    · rcases bstep_cases L b x with ⟨e, g⟩ | ⟨e, _⟩ <;> rw [e]
      · exact apart_snoc hL h1 g
      · exact h1
    · rcases bstep_cases L b x with ⟨e, _⟩ | ⟨e, _⟩ <;> rw [e]
      · exact List.Sublist.append h2 (List.Sublist.refl _)
      · exact h2.trans (List.sublist_append_left _ _)
theorem bought_apart {L : Int} {ns : List Int} (hL : 1 ≤ L) : Apart L (boughtF L ns) := (bought_both hL ns [] [] List.Pairwise.nil (List.Sublist.refl _)).1
theorem bought_sub {L : Int} {ns : List Int} (hL : 1 ≤ L) : (boughtF L ns).Sublist ns := (bought_both hL ns [] [] List.Pairwise.nil (List.Sublist.refl _)).2
/-- a larger day needs at least as many -/
theorem bought_sublist {L : Int} {ns ms : List Int} (hL : 1 ≤ L) (ha : ns.Pairwise (· ≤ ·)) (h : ms.Sublist ns) : (boughtF L ms).length ≤ (boughtF L ns).length :=
  bought_max hL ha ((bought_sub hL).trans h) (bought_apart hL)
end LAW

/-! Rq: telling rides, apart, many days, the laws' own helpers about these. -/
namespace LAW
open PySem PySem.Spec PyProof.Rows L2 DL
variable [TabNames]
local macro_rules | `(tactic| walk_at "wp") => `(tactic| first | dsimp | skip)
local macro_rules | `(tactic| walk_at "om") => `(tactic| first | omega | (simp only [Ct.le_def, Ct.add_n, Ct.lit_n, Ct.add_g, Ct.lit_g, List.nil_append, List.append_nil] at *; first | omega | (refine ⟨?_, ?_⟩ <;> first | trivial | assumption | (symm; assumption) | omega | simp_all)))
section
variable {N : Ct} {C : DK} {p t p' t' L s d m : Int} {c c' : Option Int} {ns : List Int} {R : Ru}
theorem s_telling (v : VRule p t c) (v' : VRule p' t' c') (h : C (.dat (tellD ⟨p, t, c⟩ ⟨p', t', c'⟩)) N) : dsp_P_telling_rides [ruleD p t c, ruleD p' t' c'] N C E00 := ⟨⟨p, t, c⟩, ⟨p', t', c'⟩, rfl, ⟨v, v'⟩, h⟩
theorem s_apart (v : VRides 60 ns) (hL : 1 ≤ L ∧ L ≤ 1440) (h : C (.dat (ridesD (boughtF L ns))) N) : dsp_P_apart [ridesD ns, .v (.int L)] N C E00 := ⟨ns, L, rfl, ⟨v, hL⟩, h⟩
theorem s_most (v : VRides 11 ns) (hL : 1 ≤ L) (h : C (.dat (.int ((boughtF L ns).length : Nat))) N) : dsp_L_most [ridesD ns, .v (.int L)] N C E00 := ⟨ns, L, rfl, ⟨v, hL⟩, h⟩
theorem s_spaced (v : ns.length ≤ 60 ∧ 1 ≤ L ∧ ns.Pairwise fun a b => a + L ≤ b) (h : C (.dat (.bl true)) N) : dsp_L_spaced [ridesD ns, .v (.int L)] N C E00 := ⟨ns, L, rfl, v, h⟩
theorem s_regular_days (v : VRule p t c) (hs : 1 ≤ s ∧ s ≤ 1440 ∧ 0 ≤ d ∧ d ≤ 1000000000000) (h : C (.dat (.int (sumF (dayF ⟨p, t, c⟩ s) d.toNat))) N) : dsp_P_regular_days [ruleD p t c, .v (.int s), .v (.int d)] N C E00 := ⟨⟨p, t, c⟩, s, d, rfl, ⟨v, hs⟩, h⟩
theorem s_lday (v : VRule p t c) (hs : 1 ≤ s ∧ s ≤ 1440 ∧ 0 ≤ d) (h : C (.dat (.int (dayF ⟨p, t, c⟩ s d.toNat))) N) : dsp_L_day [ruleD p t c, .v (.int s), .v (.int d)] N C E00 := ⟨⟨p, t, c⟩, s, d, rfl, ⟨v, hs⟩, h⟩
theorem s_far (hm : 1 ≤ m ∧ m ≤ 1000000000000 ∧ N.n + 20 ≤ LIM) (h : ∀ (i : Int) (N' : Ct), 0 ≤ i → i < m → N ≤ N' → N' ≤ N + 10 → C (.dat (.int i)) N') : dsp_L_far [.bag, .v (.int m)] N C E00 := ⟨m, rfl, hm, h⟩
end
theorem l_P_telling_rides : ∀ ds n C Er, dsp_P_telling_rides ds n C Er → ds.length = 2 := by rintro ds n C Er ⟨_, _, rfl, _⟩; rfl
theorem l_P_apart : ∀ ds n C Er, dsp_P_apart ds n C Er → ds.length = 2 := by rintro ds n C Er ⟨_, _, rfl, _⟩; rfl
theorem l_L_most : ∀ ds n C Er, dsp_L_most ds n C Er → ds.length = 2 := by rintro ds n C Er ⟨_, _, rfl, _⟩; rfl
theorem l_L_spaced : ∀ ds n C Er, dsp_L_spaced ds n C Er → ds.length = 2 := by rintro ds n C Er ⟨_, _, rfl, _⟩; rfl
theorem l_P_regular_days : ∀ ds n C Er, dsp_P_regular_days ds n C Er → ds.length = 3 := by rintro ds n C Er ⟨_, _, _, rfl, _⟩; rfl
theorem l_L_day : ∀ ds n C Er, dsp_L_day ds n C Er → ds.length = 3 := by rintro ds n C Er ⟨_, _, _, rfl, _⟩; rfl
theorem l_L_far : ∀ ds n C Er, dsp_L_far ds n C Er → ds.length = 2 := by rintro ds n C Er ⟨_, rfl, _⟩; rfl
theorem stepL_rng {t : Int} {n : Nat} : List.map (fun d => match d with | .v (.int i) => D.int (t * i) | _ => D.non) (rngD 0 n) = (stepL t n).map D.int := by
  unfold rngD stepL
  rw [List.map_map, List.map_map]
  refine List.map_congr_left fun i _ => ?_
  show D.int (t * (0 + (i : Int))) = D.int (t * (i : Int))
  rw [Int.zero_add]
theorem stepL_I {t : Int} {n : Nat} : stepL t n = stepI 0 t n := by
  unfold stepL stepI
  refine List.map_congr_left fun i _ => ?_
  rw [Int.zero_add, Int.mul_comm]
theorem r_P_telling_rides : ∀ ds n C Er, dsp_P_telling_rides ds n C Er → d_P_telling_rides { nx := fun _ n' => C (.dat .non) n', rt := C } (startD ds 4) n := by
  rintro ds n C Er ⟨R, S, rfl, ⟨v, v'⟩, q⟩
  have t0 := v.t0
  have t1 := v.t1
  have ht := tops_ok v
  unfold d_P_telling_rides
  walk_at "wp"
  refine s_check_rule v ?_
  walk_at "wp"
  refine s_check_rule v' ?_
  walk_at "wp"
  refine s_fewest v v' ?_
  unfold tellD at q
  cases hf : fewestF R S with
  | none =>
    rw [hf] at q
    simp only [capD]
    walk_at "wp"
    refine wif_t rfl ?_
    exact q
  | some f =>
    rw [hf] at q
    obtain ⟨f0, f1, _⟩ := fewest_some hf
    simp only [capD]
    walk_at "wp"
    refine wif_f rfl ?_
    refine lc_p (rngD 0 f.toNat) (fun _ => true) (fun d => match d with | .v (.int i) => .int (R.t * i) | _ => .non) (fun K hK => ?_) (by rw [rngD_len]; omega) (fun d hd K K' h1 h2 => ?_) ?_
    · walk_at "wp"
      exact ⟨⟨by omega, by omega⟩, hK⟩
    · obtain ⟨i, hi⟩ := List.getElem?_of_mem hd
      obtain ⟨hi1, rfl⟩ := rngD_get hi
      walk_at "wp"
      exact ⟨.inl (by omega), h1 rfl⟩
    rw [filter_all, stepL_rng]
    walk_at "wp"
    exact q
theorem r_P_apart : ∀ ds n C Er, dsp_P_apart ds n C Er → d_P_apart { nx := fun _ n' => C (.dat .non) n', rt := C } (startD ds 2) n := by
  rintro ds n C Er ⟨ns, L, rfl, ⟨v, hL⟩, q⟩
  have vl := v.len
  unfold d_P_apart
  walk_at "wp"
  refine s_check_rides v ?_
  walk_at "wp"
  refine s_check_number hL ?_
  walk_at "wp"
  refine s_bought_of .tup (by omega) ?_
  walk_at "wp"
  exact q
theorem zip_apart {L : Int} : ∀ {ns : List Int} {d : D}, (ns.Pairwise fun a b => a + L ≤ b) → d ∈ zipD (ns.map D.int) ((ns.drop 1).map D.int) → ∃ x y, x + L ≤ y ∧ d = .tup [.int x, .int y]
  | [], d, _, h => by simp [zipD] at h
  | [x], d, _, h => by simp [zipD] at h
  | x :: y :: r, d, hp, h => by
    simp only [List.map_cons, List.drop_succ_cons, List.drop_zero, zipD, List.mem_cons] at h
    rcases h with h | h
    · exact ⟨x, y, (List.pairwise_cons.mp hp).1 y (by simp), h⟩
    · exact zip_apart (ns := y :: r) (List.pairwise_cons.mp hp).2 (by simpa using h)
theorem r_L_spaced : ∀ ds n C Er, dsp_L_spaced ds n C Er → d_L_spaced { nx := fun _ n' => C (.dat .non) n', rt := C } (startD ds 4) n := by
  rintro ds n C Er ⟨ns, L, rfl, ⟨hl, hL, hp⟩, q⟩
  unfold d_L_spaced
  walk_at "wp"
  refine lc_p (zipD (ns.map D.int) (DL.cutD (ns.map D.int) (some 1) none)) (fun _ => false) (fun _ => .int 1) (fun R hR => by walk_at "wp"; exact hR) (Nat.le_trans zipD_length (by rw [List.length_map]; omega)) (fun d hd K K' h1 h2 => ?_) ?_
  · rw [cut1, ← List.map_drop] at hd
    obtain ⟨x, y, hxy, rfl⟩ := zip_apart hp hd
    walk_at "wp"
    exact wif_f (decide_eq_false (by omega)) (h2 rfl)
  · rw [show ∀ l : List D, l.filter (fun _ => false) = [] from fun l => List.filter_eq_nil_iff.mpr fun _ _ => by decide]
    walk_at "wp"
    exact q
/-! ### all rows that are apart -/
def okM (L x : Int) (r : List Int) : Bool := match r.getLast? with
  | none => true
  | some l => decide (l + L ≤ x)
def stepM (L : Int) (F : List (List Int)) (x : Int) : List (List Int) := F ++ (F.filter (okM L x)).map fun r => r ++ [x]
def mostM (L : Int) (ns : List Int) : List (List Int) := ns.foldl (stepM L) [[]]
theorem mostM_take {L : Int} {ns : List Int} {i : Nat} {x : Int} (h : ns[i]? = some x) : mostM L (ns.take (i + 1)) = stepM L (mostM L (ns.take i)) x := by
  unfold mostM
  rw [List.take_add_one, h, List.foldl_append]
  rfl
theorem mostM_inv {L : Int} (hL : 1 ≤ L) : ∀ (ns : List Int), ns.Pairwise (· < ·) → ∀ i, i ≤ ns.length → boughtF L (ns.take i) ∈ mostM L (ns.take i) ∧ (∀ r ∈ mostM L (ns.take i), Mx (boughtF L (ns.take i)) r ∧ r.length ≤ i) ∧ (mostM L (ns.take i)).length ≤ 2 ^ i
  | ns, ha, 0, _ => by
    refine ⟨List.mem_cons_self, fun r hr => ?_, Nat.le_refl _⟩
    have e : r = [] := by simpa [mostM] using hr
    rw [e]
    exact ⟨⟨Nat.le_refl _, fun _ l y h => by cases h⟩, Nat.le_refl _⟩
  | ns, ha, i + 1, hi => by
    obtain ⟨h1, h2, h3⟩ := mostM_inv hL ns ha i (by omega)
    obtain ⟨x, hx⟩ : ∃ x, ns[i]? = some x := ⟨ns[i], List.getElem?_eq_getElem (by omega)⟩
    have hb := bfold_snoc L ns i x hx
    rw [mostM_take hx, hb]
    have hlast : ∀ l, (boughtF L (ns.take i)).getLast? = some l → l ≤ x := fun l hl => by
      have hm := (bought_sub hL).subset (List.mem_of_getLast? hl)
      obtain ⟨j, hj⟩ := List.getElem?_of_mem hm
      have hji : j < i := by
        have := (List.getElem?_eq_some_iff.mp hj).1
        rw [List.length_take] at this
        omega
      rw [List.getElem?_take_of_lt hji] at hj
      obtain ⟨g1, e1⟩ := List.getElem?_eq_some_iff.mp hj
      obtain ⟨g2, e2⟩ := List.getElem?_eq_some_iff.mp hx
      have := List.pairwise_iff_getElem.mp ha j i g1 g2 hji
      omega
    refine ⟨?_, fun r hr => ?_, ?_⟩
    · unfold stepM
      rcases bstep_cases L (boughtF L (ns.take i)) x with ⟨e, g⟩ | ⟨e, _⟩ <;> rw [e]
      · refine List.mem_append_right _ (List.mem_map.mpr ⟨_, List.mem_filter.mpr ⟨h1, ?_⟩, rfl⟩)
        unfold okM
        split
        · rfl
        · rename_i l hl
          exact decide_eq_true (g l hl)
      · exact List.mem_append_left _ h1
    · rcases List.mem_append.mp (show r ∈ mostM L (ns.take i) ++ _ from hr) with hr | hr
      · obtain ⟨g1, g2⟩ := h2 r hr
        exact ⟨mx_skip g1, by omega⟩
      · obtain ⟨s, hs, rfl⟩ := List.mem_map.mp hr
        obtain ⟨hs1, hs2⟩ := List.mem_filter.mp hs
        obtain ⟨g1, g2⟩ := h2 s hs1
        refine ⟨mx_take hL g1 (fun y hy => ?_) hlast, by rw [List.length_append]; show _ + 1 ≤ _; omega⟩
        unfold okM at hs2
        rw [hy] at hs2
        exact of_decide_eq_true hs2
    · unfold stepM
      rw [List.length_append, List.length_map, Nat.pow_succ]
      have := List.length_filter_le (okM L x) (mostM L (ns.take i))
      omega
def okD (L x : Int) : D → Bool
  | .tup es => match es.getLast? with
    | none => true
    | some (.v (.int l)) => decide (l + L ≤ x)
    | _ => false
  | _ => false
theorem okD_rides {L x : Int} {r : List Int} : okD L x (ridesD r) = okM L x r := by
  show (match (r.map D.int).getLast? with
    | none => true
    | some (.v (.int l)) => decide (l + L ≤ x)
    | _ => false) = okM L x r
  unfold okM
  rw [List.getLast?_map]
  cases r.getLast? <;> rfl
theorem eq_unit {neg : Bool} {ns : List Int} {k : Sl → Prop} : dEq neg (.tup (ns.map D.int)) (.tup []) k = k (.dat (.bl (ng neg (decide (ns = []))))) := eq_tups (ms := [])
theorem r_L_most : ∀ ds n C Er, dsp_L_most ds n C Er → d_L_most { nx := fun _ n' => C (.dat .non) n', rt := C } (startD ds 5) n := by
  rintro ds n C Er ⟨ns, L, rfl, ⟨v, hL⟩, q⟩
  have hlen := v.len
  have inv := mostM_inv hL ns v.asc
  unfold d_L_most
  refine seqR fun R1 hR1 => ?_
  walk_at "wp"
  refine hR1 _ _ ?_
  refine seqR fun R2 hR2 => ?_
  refine for_i (ns.map D.int) (fun i δ N => N = n ∧ ∃ y3 y4, δ = [some (.dat (ridesD ns)), some (.dat (.int L)), some (.dat (.lst ((mostM L (ns.take i)).map ridesD))), y3, y4]) (fun R hR => by walk_at "wp"; exact hR) ⟨rfl, none, none, rfl⟩ ?_ ?_
  · rintro i d δ N hi ⟨rfl, y3, y4, rfl⟩ R3 hR3
    obtain ⟨x, hx, rfl⟩ := get_ints hi
    have hi1 := (List.getElem?_eq_some_iff.mp hx).1
    obtain ⟨i1, i2, i3⟩ := inv i (by omega)
    have hp : 2 ^ i ≤ 2 ^ 11 := Nat.pow_le_pow_right (by decide) (by omega)
    refine dgN ?_
    walk_at "wp"
    refine lc_p ((mostM L (ns.take i)).map ridesD) (okD L x) (fun d => match d with | .tup es => .tup (es ++ [.int x]) | _ => .non) (fun R hR => by walk_at "wp"; exact hR) (by rw [List.length_map]; omega) (fun d hd K K' h1 h2 => ?_) ?_
    · obtain ⟨r, hr, rfl⟩ := List.mem_map.mp hd
      have hrl := (i2 r hr).2
      rw [okD_rides] at h1 h2
      have e : (ridesD r : D) = .tup (r.map D.int) := rfl
      rw [e] at h1 ⊢
      walk_at "wp"
      rw [eq_unit]
      walk_at "wp"
      have add : okM L x r = true → (r.map D.int).length + 1 ≤ 100000 ∧ K (Sl.dat (D.tup (r.map D.int ++ [D.int x]))) N := fun h => ⟨by rw [List.length_map]; omega, h1 h⟩
      refine wif_d (fun h => ?_) fun h => ?_
      · refine add ?_
        rw [h]
        rfl
      · have hl := List.getLast?_eq_some_getLast h
        simp only [dIx, D.items, atI_last hl]
        walk_at "wp"
        have ho : okM L x r = decide (r.getLast h + L ≤ x) := by
          unfold okM
          rw [hl]
        refine wif_d (fun h3 => ?_) fun h3 => ?_
        · refine add ?_
          rw [ho]
          exact decide_eq_true (by omega)
        · refine h2 ?_
          rw [ho]
          exact decide_eq_false (by omega)
    · walk_at "wp"
      have e : (mostM L (ns.take i)).map ridesD ++ List.map (fun d => match d with | .tup es => D.tup (es ++ [.int x]) | _ => D.non) (((mostM L (ns.take i)).map ridesD).filter (okD L x)) = (mostM L (ns.take (i + 1))).map ridesD := by
        rw [mostM_take hx]
        show _ = List.map ridesD (_ ++ _)
        rw [List.map_append, List.filter_map]
        congr 1
        rw [List.map_map, List.map_map, show okD L x ∘ ridesD = okM L x from funext fun r => okD_rides]
        refine List.map_congr_left fun r _ => ?_
        show D.tup (r.map D.int ++ [.int x]) = D.tup ((r ++ [x]).map D.int)
        rw [List.map_append]
        rfl
      rw [e]
      refine ⟨?_, hR3 _ _ ⟨rfl, _, _, rfl⟩⟩
      have hfl := List.length_filter_le (okD L x) ((mostM L (ns.take i)).map ridesD)
      rw [List.length_map] at hfl
      rw [List.length_map, List.length_map]
      omega
  · rintro δ N ⟨rfl, y3, y4, rfl⟩
    rw [List.length_map, List.take_length]
    obtain ⟨i1, i2, i3⟩ := inv ns.length (Nat.le_refl _)
    rw [List.take_length] at i1 i2 i3
    have hp : 2 ^ ns.length ≤ 2 ^ 11 := Nat.pow_le_pow_right (by decide) (by omega)
    refine hR2 _ _ ?_
    walk_at "wp"
    refine lc_p ((mostM L ns).map ridesD) (fun _ => true) (fun d => match d with | .tup es => .int es.length | _ => .non) (fun R hR => by walk_at "wp"; exact hR) (by rw [List.length_map]; omega) (fun d hd K K' h1 h2 => ?_) ?_
    · obtain ⟨r, hr, rfl⟩ := List.mem_map.mp hd
      have e : (ridesD r : D) = .tup (r.map D.int) := rfl
      rw [e] at h1 ⊢
      walk_at "wp"
      exact h1 rfl
    · rw [filter_all, List.map_map]
      walk_at "wp"
      refine ⟨(mostM L ns).map fun r => (r.length : Int), ?_, ?_, fun m hm hmax => ?_⟩
      · rw [List.map_map]
        congr 2
        refine List.map_congr_left fun r _ => ?_
        show D.int ((r.map D.int).length : Int) = D.int (r.length : Int)
        rw [List.length_map]
      · intro h
        have := List.map_eq_nil_iff.mp h
        rw [this] at i1
        cases i1
      · have e : m = ((boughtF L ns).length : Int) := by
          refine Int.le_antisymm ?_ (hmax _ (List.mem_map.mpr ⟨_, i1, rfl⟩))
          obtain ⟨r, hr, rfl⟩ := List.mem_map.mp hm
          have := (i2 r hr).1.le
          omega
        rw [e]
        exact q
theorem cutD_head {ns : List Int} {k : Int} (h : 0 ≤ k) : DL.cutD (ns.map D.int) none (some k) = (ns.take k.toNat).map D.int := by
  have h1 := cutI_head ns k h
  unfold cutI at h1
  unfold DL.cutD
  rw [List.length_map, ← List.map_drop, ← List.map_take, h1]
theorem rides_take {m k : Nat} {ns : List Int} (v : VRides m ns) : VRides m (ns.take k) :=
  ⟨by have := v.len; rw [List.length_take]; omega, fun x hx => v.rg x (List.mem_of_mem_take hx), v.asc.sublist (List.take_sublist _ _)⟩
end LAW

/-! Rs: many days. -/
namespace LAW
open PySem PySem.Spec PyProof.Rows L2 DL
variable [TabNames]
local macro_rules | `(tactic| walk_at "wp") => `(tactic| first | dsimp | skip)
local macro_rules | `(tactic| walk_at "om") => `(tactic| first | omega | (simp only [Ct.le_def, Ct.add_n, Ct.lit_n, Ct.add_g, Ct.lit_g, List.nil_append, List.append_nil] at *; first | omega | (refine ⟨?_, ?_⟩ <;> first | trivial | assumption | (symm; assumption) | omega | simp_all)))
theorem sumF_add (f : Nat → Int) (a : Nat) : ∀ b, sumF f (a + b) = sumF f a + sumF (fun i => f (a + i)) b
  | 0 => by show sumF f a = sumF f a + 0; omega
  | b + 1 => by
    show sumF f (a + b) + f (a + b) = sumF f a + (sumF (fun i => f (a + i)) b + f (a + b))
    rw [sumF_add f a b]
    omega
theorem sumF_congr {f g : Nat → Int} (h : ∀ i, f i = g i) (n : Nat) : sumF f n = sumF g n := by rw [funext h]
theorem sumF_le {f g : Nat → Int} (h : ∀ i, f i ≤ g i) : ∀ n, sumF f n ≤ sumF g n
  | 0 => Int.le_refl _
  | n + 1 => Int.add_le_add (sumF_le h n) (h n)
theorem sumF_const {f : Nat → Int} {c : Int} (h : ∀ i, f i = c) : ∀ n : Nat, sumF f n = n * c
  | 0 => by show (0 : Int) = ((0 : Nat) : Int) * c; rw [show ((0 : Nat) : Int) = 0 from rfl, Int.zero_mul]
  | n + 1 => by
    show sumF f n + f n = _
    rw [sumF_const h n, h n, show ((n + 1 : Nat) : Int) = (n : Int) + 1 by omega, Int.add_mul, Int.one_mul]
/-- f goes round after m -/
def Rnd (f : Nat → Int) (m : Nat) : Prop := ∀ i, f (m + i) = f i
theorem sumF_round {f : Nat → Int} {m : Nat} (h : Rnd f m) (n : Nat) : sumF f (m + n) = sumF f m + sumF f n := by
  rw [sumF_add, sumF_congr h]
theorem sumF_rounds {f : Nat → Int} {m : Nat} (h : Rnd f m) (r : Nat) : ∀ q : Nat, sumF f (m * q + r) = q * sumF f m + sumF f r
  | 0 => by rw [Nat.mul_zero, Nat.zero_add, show ((0 : Nat) : Int) = 0 from rfl, Int.zero_mul, Int.zero_add]
  | q + 1 => by
    rw [show m * (q + 1) + r = m + (m * q + r) by rw [Nat.mul_add, Nat.mul_one]; omega, sumF_round h, sumF_rounds h r q, show ((q + 1 : Nat) : Int) = (q : Int) + 1 by omega, Int.add_mul, Int.one_mul]
    omega
theorem begF_rg {s : Int} (hs : 1 ≤ s) (i : Nat) : 0 ≤ begF s i ∧ begF s i < s := ⟨Int.emod_nonneg _ (by omega), Int.emod_lt_of_pos _ (by omega)⟩
theorem begF_succ {s : Int} (i : Nat) : begF s (i + 1) = (begF s i - 1440) % s := by
  unfold begF
  rw [show (0 : Int) - 1440 * ((i + 1 : Nat) : Int) = (0 - 1440 * (i : Int)) - 1440 by omega, Int.sub_emod]
  conv => rhs; rw [Int.sub_emod, Int.emod_emod_of_dvd _ (Int.dvd_refl s)]
theorem begF_add {s : Int} {m : Nat} (h : begF s m = 0) (i : Nat) : begF s (m + i) = begF s i := by
  unfold begF at h ⊢
  rw [show (0 : Int) - 1440 * ((m + i : Nat) : Int) = (0 - 1440 * (m : Int)) + (0 - 1440 * (i : Int)) by omega, Int.add_emod, h, Int.zero_add, Int.emod_emod_of_dvd _ (Int.dvd_refl s)]
theorem begF_self {s : Int} (hs : 1 ≤ s) : begF s s.toNat = 0 := by
  unfold begF
  refine Int.emod_eq_zero_of_dvd ⟨-1440, ?_⟩
  rw [show (s.toNat : Int) = s by omega]
  omega
theorem dayF_round {R : Ru} {s : Int} {m : Nat} (h : begF s m = 0) : Rnd (dayF R s) m := fun i => by
  unfold dayF
  rw [begF_add h]
def dayL (R : Ru) (s : Int) (k : Nat) : List Int := (List.range k).map (dayF R s)
theorem dayL_len {R : Ru} {s : Int} {k : Nat} : (dayL R s k).length = k := by unfold dayL; rw [List.length_map, List.length_range]
theorem dayL_succ {R : Ru} {s : Int} {k : Nat} : dayL R s (k + 1) = dayL R s k ++ [dayF R s k] := by
  unfold dayL
  rw [List.range_succ, List.map_append]
  rfl
theorem dayL_sum {R : Ru} {s : Int} : ∀ k, (dayL R s k).sum = sumF (dayF R s) k
  | 0 => rfl
  | k + 1 => by
    rw [dayL_succ, List.sum_append, dayL_sum k]
    show _ + (dayF R s k + 0) = _ + dayF R s k
    rw [Int.add_zero]
theorem dayL_take {R : Ru} {s : Int} {j k : Nat} (h : j ≤ k) : (dayL R s k).take j = dayL R s j := by
  unfold dayL
  rw [← List.map_take, List.take_range, Nat.min_eq_left h]
theorem begF_0 {s : Int} : begF s 0 = 0 := by
  unfold begF
  exact Int.zero_emod _
theorem r_P_regular_days : ∀ ds n C Er, dsp_P_regular_days ds n C Er → d_P_regular_days { nx := fun _ n' => C (.dat .non) n', rt := C } (startD ds 7) n := by
  rintro ds n C Er ⟨R, s, d, rfl, ⟨v, s0, s1, d0, d1⟩, q⟩
  unfold d_P_regular_days
  refine seqR fun K1 hK1 => ?_
  walk_at "wp"
  refine s_check_rule v ?_
  walk_at "wp"
  refine hK1 _ _ ?_
  refine seqR fun K2 hK2 => ?_
  walk_at "wp"
  refine s_check_number ⟨s0, s1⟩ ?_
  walk_at "wp"
  refine hK2 _ _ ?_
  refine seqR fun K3 hK3 => ?_
  walk_at "wp"
  refine s_check_number ⟨d0, d1⟩ ?_
  walk_at "wp"
  refine hK3 _ _ ?_
  refine seqR fun K4 hK4 => ?_
  walk_at "wp"
  refine hK4 _ _ ?_
  refine seqR fun K5 hK5 => ?_
  refine while_i (fun mm δ N => N = n ∧ ∃ k : Nat, k ≤ s.toNat ∧ mm = s.toNat - k ∧ δ = [some (.dat R.d), some (.dat (.int s)), some (.dat (.int d)), some (.own ((dayL R s k).map D.int)), some (.dat (.int (begF s k))), none, none]) s.toNat
    ⟨rfl, 0, Nat.zero_le _, rfl, by rw [begF_0]; rfl⟩ ?_
  rintro mm δ N ⟨rfl, k, hk, rfl, rfl⟩ K6 KB hK6 hKB
  walk_at "wp"
  rw [eq_nil]
  walk_at "wp"
  have hb := begF_rg s0 k
  have go : k ≠ s.toNat → KB [some (.dat R.d), some (.dat (.int s)), some (.dat (.int d)), some (.own ((dayL R s k).map D.int)), some (.dat (.int (begF s k))), none, none] N := by
    intro hne
    refine hKB _ _ ?_
    refine seqR fun K7 hK7 => ?_
    walk_at "wp"
    refine s_cost_from ⟨v.p0, v.p1, v.t0, v.t1, by omega, s0, s1⟩ ?_
    walk_at "wp"
    refine ⟨by rw [List.length_map, dayL_len]; omega, ?_⟩
    refine hK7 _ _ ?_
    walk_at "wp"
    refine ⟨by omega, ?_⟩
    rw [← begF_succ]
    refine hK6 _ _ _ ?_ ⟨rfl, k + 1, by omega, rfl, ?_⟩
    · omega
    · rw [dayL_succ, List.map_append]
      rfl
  refine wif_d (fun h => ?_) fun h => ?_
  · refine go ?_
    have h2 := congrArg List.length h
    rw [dayL_len] at h2
    have : k = 0 := h2
    omega
  · refine wif_n (fun h2 => ?_) fun h2 => ?_
    · refine go fun e => h2 ?_
      rw [e]
      exact begF_self s0
    · have hk0 : k ≠ 0 := fun e => h (by rw [e]; rfl)
      refine hK5 _ _ ?_
      refine seqR fun K7 hK7 => ?_
      walk_at "wp"
      have e0 : begF s k = 0 := h2
      have hrnd := dayF_round (R := R) e0
      have hq0 : 0 ≤ d / (k : Int) := Int.ediv_nonneg d0 (by omega)
      have hq1 : d / (k : Int) ≤ d := Int.ediv_le_self _ d0
      have hr0 : 0 ≤ d % (k : Int) := Int.emod_nonneg _ (by omega)
      have hr1 : d % (k : Int) < k := Int.emod_lt_of_pos _ (by omega)
      rw [List.length_map, dayL_len]
      refine ⟨⟨by omega, by omega⟩, by omega, ?_⟩
      refine hK7 _ _ ?_
      walk_at "wp"
      refine ⟨dayL R s k, rfl, ?_⟩
      walk_at "wp"
      refine ⟨.inl (by omega), ?_⟩
      rw [cutD_head hr0]
      refine ⟨(dayL R s k).take (d % (k : Int)).toNat, rfl, ?_⟩
      rw [dayL_take (by omega), dayL_sum, dayL_sum]
      have hd : d.toNat = k * (d / (k : Int)).toNat + (d % (k : Int)).toNat := by
        have h3 := Int.mul_ediv_add_emod d (k : Int)
        have h4 : ((k * (d / (k : Int)).toNat : Nat) : Int) = (k : Int) * (d / (k : Int)) := by
          rw [Int.natCast_mul, Int.toNat_of_nonneg hq0]
        omega
      rw [hd, sumF_rounds hrnd, Int.toNat_of_nonneg hq0] at q
      exact q
theorem r_L_day : ∀ ds n C Er, dsp_L_day ds n C Er → d_L_day { nx := fun _ n' => C (.dat .non) n', rt := C } (startD ds 4) n := by
  rintro ds n C Er ⟨R, s, d, rfl, ⟨v, s0, s1, d0⟩, q⟩
  have t0 := v.t0
  have hr0 : 0 ≤ (1440 * d) % s := Int.emod_nonneg _ (by omega)
  have hr1 : (1440 * d) % s < s := Int.emod_lt_of_pos _ (by omega)
  have key : ∀ (K : DK) b, K (.dat (.int (dayF R s d.toNat))) n → b = begF s d.toNat → 0 ≤ b → b < s → dsp_L_cost [R.d, .lst (stepD b s (upN b 1440 s))] n K E00 := fun K b q hb b0 b1 => by
    rw [stepD_ints]
    have hlen : (stepI b s (upN b 1440 s)).length ≤ 2000 := by
      rw [stepI_len]
      have := upN_le (a := b) (b := 1440) (c := s) (by omega)
      omega
    refine s_lcost .lst hlen (fun x hx => (step_rg b0 (by omega) s0 hx).1) ⟨v.p0, v.p1⟩ ?_
    rw [step_cost t0 (by omega) s0, hb]
    exact q
  have hbeg : begF s d.toNat = if 0 - (1440 * d) % s < 0 then 0 - (1440 * d) % s + s else 0 - (1440 * d) % s := by
    unfold begF
    rw [Int.toNat_of_nonneg d0]
    have h1 : (0 - 1440 * d) % s = ((0 : Int) - (1440 * d) % s) % s := by
      rw [Int.sub_emod]
      conv => rhs; rw [Int.sub_emod, Int.emod_emod_of_dvd _ (Int.dvd_refl s)]
    rw [h1]
    split
    · rename_i h
      rw [← Int.add_mul_emod_self_left _ s 1, Int.mul_one, Int.emod_eq_of_lt (by omega) (by omega)]
    · rename_i h
      exact Int.emod_eq_of_lt (by omega) (by omega)
  unfold d_L_day
  refine seqR fun K1 hK1 => ?_
  walk_at "wp"
  refine ⟨.inl (by omega), by omega, ?_⟩
  refine hK1 _ _ ?_
  refine seqR fun K2 hK2 => ?_
  walk_at "wp"
  have fin : ∀ b, b = begF s d.toNat → 0 ≤ b → b < s → K2 [some (.dat R.d), some (.dat (.int s)), some (.dat (.int d)), some (.dat (.int b))] n := fun b hb b0 b1 => by
    refine hK2 _ _ ?_
    walk_at "wp"
    exact ⟨⟨by omega, by omega, by omega, by omega, by decide, by decide, by omega⟩, key _ b q hb b0 b1⟩
  refine wif_d (fun h => ?_) fun h => ?_
  · refine fin _ ?_ (by omega) (by omega)
    rw [hbeg, if_pos h]
  · refine fin _ ?_ (by omega) (by omega)
    rw [hbeg, if_neg h]
end LAW

/-! Rt: several days. -/
namespace LAW
open PySem PySem.Spec PyProof.Rows L2 DL
variable [TabNames]
local macro_rules | `(tactic| walk_at "wp") => `(tactic| first | dsimp | skip)
local macro_rules | `(tactic| walk_at "om") => `(tactic| first | omega | (simp only [Ct.le_def, Ct.add_n, Ct.lit_n, Ct.add_g, Ct.lit_g, List.nil_append, List.append_nil] at *; first | omega | (refine ⟨?_, ?_⟩ <;> first | trivial | assumption | (symm; assumption) | omega | simp_all)))
section
variable {N : Ct} {C : DK} {p t l : Int} {c : Option Int} {days : List (List Int)}
theorem s_total_cost (v : VRule p t c) (r : ∀ r ∈ days, VRides 60 r) (hl : days.length ≤ 1000) (h : C (.dat (.int (totalF p t c days))) N) : dsp_P_total_cost (ruleD p t c :: days.map ridesD) N C E00 :=
  ⟨Nat.le_add_left _ _, by rw [List.length_cons, List.length_map]; omega, p, t, c, days, rfl, ⟨v, r, hl⟩, h⟩
theorem s_week_cost (v : VRule p t c) (h0 : 0 ≤ l ∧ l ≤ 1000000) (r : ∀ r ∈ days, VRides 60 r) (hl : days.length ≤ 1000) (h : C (.dat (.int (min l (totalF p t c days)))) N) : dsp_P_week_cost (ruleD p t c :: .v (.int l) :: days.map ridesD) N C E00 :=
  ⟨Nat.le_add_left _ _, by rw [List.length_cons, List.length_cons, List.length_map]; omega, p, t, c, l, days, rfl, ⟨v, h0.1, h0.2, r, hl⟩, h⟩
end
def unR : D → List Int
  | .tup es => es.map fun e => match e with
    | .v (.int x) => x
    | _ => 0
  | _ => []
theorem unR_rides {r : List Int} : unR (ridesD r) = r := by
  show ((r.map D.int).map fun e => match e with
    | .v (.int x) => x
    | _ => 0) = r
  rw [List.map_map]
  exact List.map_id' r
theorem days_costs {p t : Int} {c : Option Int} {days : List (List Int)} : (days.map ridesD).map (fun d => D.int (costF p t c (unR d))) = (days.map (costF p t c)).map D.int := by
  rw [List.map_map, List.map_map]
  refine List.map_congr_left fun r _ => ?_
  show D.int (costF p t c (unR (ridesD r))) = _
  rw [unR_rides]
  rfl
theorem r_P_total_cost : ∀ ds n C Er, dspI_P_total_cost ds n C Er → d_P_total_cost { nx := fun _ n' => C (.dat .non) n', rt := C } (startD ds 3) n := by
  rintro ds n C Er ⟨p, t, c, days, rfl, ⟨v, r, hl⟩, q⟩
  unfold d_P_total_cost
  refine seqR fun R1 hR1 => ?_
  walk_at "wp"
  refine s_check_rule v ?_
  walk_at "wp"
  refine hR1 _ _ ?_
  refine seqR fun R2 hR2 => ?_
  refine for_i (days.map ridesD) (fun i δ N => N = n ∧ ∃ y2, δ = [some (.dat (ruleD p t c)), some (.dat (.tup (days.map ridesD))), y2]) (fun R hR => by walk_at "wp"; exact hR) ⟨rfl, none, rfl⟩ ?_ ?_
  · rintro i d δ N hi ⟨rfl, y2, rfl⟩ R3 hR3
    obtain ⟨x, hx, rfl⟩ := List.mem_map.mp (List.mem_of_getElem? hi)
    refine dgN ?_
    walk_at "wp"
    refine s_check_rides (r x hx) ?_
    walk_at "wp"
    exact hR3 _ _ ⟨rfl, _, rfl⟩
  · rintro δ N ⟨rfl, y2, rfl⟩
    refine hR2 _ _ ?_
    walk_at "wp"
    refine lc_p (days.map ridesD) (fun _ => true) (fun d => .int (costF p t c (unR d))) (fun R hR => by walk_at "wp"; exact hR) (by rw [List.length_map]; omega) (fun d hd K K' h1 h2 => ?_) ?_
    · obtain ⟨x, hx, rfl⟩ := List.mem_map.mp hd
      rw [unR_rides] at h1
      walk_at "wp"
      exact s_cost_of (d := .tup (x.map D.int)) .tup ⟨Nat.le_trans (r x hx).len (by decide), v.p0, v.p1⟩ (h1 rfl)
    · rw [filter_all, days_costs]
      walk_at "wp"
      exact ⟨days.map (costF p t c), rfl, q⟩
theorem r_P_week_cost : ∀ ds n C Er, dspI_P_week_cost ds n C Er → d_P_week_cost { nx := fun _ n' => C (.dat .non) n', rt := C } (startD ds 4) n := by
  rintro ds n C Er ⟨p, t, c, l, days, rfl, ⟨v, l0, l1, r, hl⟩, q⟩
  unfold d_P_week_cost
  refine seqR fun R1 hR1 => ?_
  walk_at "wp"
  refine s_check_rule v ?_
  walk_at "wp"
  refine hR1 _ _ ?_
  refine seqR fun R2 hR2 => ?_
  walk_at "wp"
  refine s_check_number ⟨l0, l1⟩ ?_
  walk_at "wp"
  refine hR2 _ _ ?_
  refine seqR fun R3 hR3 => ?_
  refine for_i (days.map ridesD) (fun i δ N => N = n ∧ ∃ y3, δ = [some (.dat (ruleD p t c)), some (.dat (.int l)), some (.dat (.tup (days.map ridesD))), y3]) (fun R hR => by walk_at "wp"; exact hR) ⟨rfl, none, rfl⟩ ?_ ?_
  · rintro i d δ N hi ⟨rfl, y2, rfl⟩ R4 hR4
    obtain ⟨x, hx, rfl⟩ := List.mem_map.mp (List.mem_of_getElem? hi)
    refine dgN ?_
    walk_at "wp"
    refine s_check_rides (r x hx) ?_
    walk_at "wp"
    exact hR4 _ _ ⟨rfl, _, rfl⟩
  · rintro δ N ⟨rfl, y2, rfl⟩
    refine hR3 _ _ ?_
    walk_at "wp"
    refine lc_p (days.map ridesD) (fun _ => true) (fun d => .int (costF p t c (unR d))) (fun R hR => by walk_at "wp"; exact hR) (by rw [List.length_map]; omega) (fun d hd K K' h1 h2 => ?_) ?_
    · obtain ⟨x, hx, rfl⟩ := List.mem_map.mp hd
      rw [unR_rides] at h1
      walk_at "wp"
      exact s_cost_of (d := .tup (x.map D.int)) .tup ⟨Nat.le_trans (r x hx).len (by decide), v.p0, v.p1⟩ (h1 rfl)
    · rw [filter_all, days_costs]
      walk_at "wp"
      refine ⟨days.map (costF p t c), rfl, ?_⟩
      walk_at "wp"
      exact q
end LAW

/-! Rv: menus. -/
namespace LAW
open PySem PySem.Spec PyProof.Rows L2 DL
variable [TabNames]
local macro_rules | `(tactic| walk_at "wp") => `(tactic| first | dsimp | skip)
local macro_rules | `(tactic| walk_at "om") => `(tactic| first | omega | (simp only [Ct.le_def, Ct.add_n, Ct.lit_n, Ct.add_g, Ct.lit_g, List.nil_append, List.append_nil] at *; first | omega | (refine ⟨?_, ?_⟩ <;> first | trivial | assumption | (symm; assumption) | omega | simp_all)))
section
variable {N : Ct} {C : DK} {M : List Ru} {days : List (List Int)}
theorem s_check_menu (v : VMenu M) (h : C (.dat .non) N) : dsp_P_check_menu [menuD M] N C E00 := ⟨M, rfl, v, h⟩
theorem s_needless (v : VMenu M) (h : C (.own ((needF M).map D.int)) N) : dsp_P_needless [menuD M] N C E00 := ⟨M, rfl, v, h⟩
theorem s_cheapest (v : VMenu M) (r : ∀ r ∈ days, VRides 60 r) (hl : days.length ≤ 1000) (h : ∀ (i : Nat) (R : Ru), M[i]? = some R → (∀ (j : Nat) (S : Ru), M[j]? = some S → totalF R.p R.t R.c days < totalF S.p S.t S.c days ∨ (totalF R.p R.t R.c days = totalF S.p S.t S.c days ∧ i ≤ j)) → C (.dat (.tup [.int (totalF R.p R.t R.c days), .int (i : Int)])) N) :
    dsp_P_cheapest (menuD M :: days.map ridesD) N C E00 :=
  ⟨Nat.le_add_left _ _, by rw [List.length_cons, List.length_map]; omega, M, days, rfl, ⟨v, r, hl⟩, h⟩
end
theorem l_P_check_menu : ∀ ds n C Er, dsp_P_check_menu ds n C Er → ds.length = 1 := by rintro ds n C Er ⟨_, rfl, _⟩; rfl
theorem l_P_needless : ∀ ds n C Er, dsp_P_needless ds n C Er → ds.length = 1 := by rintro ds n C Er ⟨_, rfl, _⟩; rfl
theorem r_P_check_menu : ∀ ds n C Er, dsp_P_check_menu ds n C Er → d_P_check_menu { nx := fun _ n' => C (.dat .non) n', rt := C } (startD ds 2) n := by
  rintro ds n C Er ⟨M, rfl, v, q⟩
  have l0 := v.l0
  have l1 := v.l1
  unfold d_P_check_menu
  walk_at "wp"
  rw [List.length_map]
  refine wif_t (decide_eq_true (by omega)) ?_
  refine wif_f (by rw [decide_eq_true (show (M.length : Int) ≤ 6 by omega)]; rfl) ?_
  refine lc_p (M.map Ru.d) (fun _ => true) (fun _ => .bl true) (fun K hK => by walk_at "wp"; exact hK) (by rw [List.length_map]; omega) (fun d hd K K' h1 h2 => ?_) ?_
  · obtain ⟨R, hR, rfl⟩ := List.mem_map.mp hd
    walk_at "wp"
    exact s_is_rule (v.ok R hR) (h1 rfl)
  · rw [filter_all, map_const]
    walk_at "wp"
    refine ⟨List.replicate (M.map Ru.d).length true, by rw [List.map_replicate], ?_⟩
    rw [all_true]
    walk_at "wp"
    exact q
theorem enum_menu {M : List Ru} {i : Nat} {d : D} (h : (enumFrom 0 (M.map Ru.d))[i]? = some d) : ∃ R, M[i]? = some R ∧ d = .tup [.int (i : Int), R.d] := by
  obtain ⟨e, he, rfl⟩ := enum_get h
  rw [List.getElem?_map] at he
  cases hm : M[i]? with
  | none => rw [hm] at he; cases he
  | some R =>
    rw [hm] at he
    cases he
    exact ⟨R, rfl, by rw [Nat.zero_add]⟩
theorem pair_ix {α β : Type} {f : Nat → α → β} {l : List α} {ks : List β} (h : ks = l.zipIdx.map fun x => f x.2 x.1) {i : Nat} {m : β} (hm : ks[i]? = some m) : ∃ a, l[i]? = some a ∧ m = f i a := by
  rw [h, List.getElem?_map, List.getElem?_zipIdx] at hm
  cases hl : l[i]? with
  | none => rw [hl] at hm; cases hm
  | some a =>
    rw [hl] at hm
    cases hm
    exact ⟨a, rfl, by rw [Nat.zero_add]⟩
theorem enum_zip {M : List Ru} : ∀ k, enumFrom k (M.map Ru.d) = (M.zipIdx k).map fun x => D.tup [.int (x.2 : Int), x.1.d] := by
  induction M with
  | nil => exact fun k => rfl
  | cons R M ih =>
    intro k
    show D.tup [.int (k : Int), R.d] :: enumFrom (k + 1) (M.map Ru.d) = _
    rw [ih (k + 1), List.zipIdx_cons]
    rfl
def unRu : D → Ru
  | .tup [.v (.int p), .v (.int t), .v (.int c)] => ⟨p, t, some c⟩
  | .tup [.v (.int p), .v (.int t), _] => ⟨p, t, none⟩
  | _ => ⟨0, 1, none⟩
theorem unRu_d {R : Ru} : unRu R.d = R := by
  obtain ⟨p, t, c⟩ := R
  cases c <;> rfl
theorem r_P_cheapest : ∀ ds n C Er, dspI_P_cheapest ds n C Er → d_P_cheapest { nx := fun _ n' => C (.dat .non) n', rt := C } (startD ds 5) n := by
  rintro ds n C Er ⟨M, days, rfl, ⟨v, r, hl⟩, q⟩
  have l0 := v.l0
  have l1 := v.l1
  unfold d_P_cheapest
  refine seqR fun R1 hR1 => ?_
  walk_at "wp"
  refine s_check_menu v ?_
  walk_at "wp"
  refine hR1 _ _ ?_
  refine seqR fun R2 hR2 => ?_
  refine for_i (days.map ridesD) (fun i δ N => N = n ∧ ∃ y2, δ = [some (.dat (menuD M)), some (.dat (.tup (days.map ridesD))), y2, none, none]) (fun R hR => by walk_at "wp"; exact hR) ⟨rfl, none, rfl⟩ ?_ ?_
  · rintro i d δ N hi ⟨rfl, y2, rfl⟩ R3 hR3
    obtain ⟨x, hx, rfl⟩ := List.mem_map.mp (List.mem_of_getElem? hi)
    refine dgN ?_
    walk_at "wp"
    refine s_check_rides (r x hx) ?_
    walk_at "wp"
    exact hR3 _ _ ⟨rfl, _, rfl⟩
  · rintro δ N ⟨rfl, y2, rfl⟩
    refine hR2 _ _ ?_
    walk_at "wp"
    refine lc_p (enumFrom 0 (M.map Ru.d)) (fun _ => true) (fun d => match d with | .tup [.v (.int i), e] => .tup [.int (totalF (unRu e).p (unRu e).t (unRu e).c days), .int i] | _ => .non) (fun K hK => by walk_at "wp"; exact hK) (by rw [enum_len, List.length_map]; omega) (fun d hd K K' h1 h2 => ?_) ?_
    · obtain ⟨i, hi⟩ := List.getElem?_of_mem hd
      obtain ⟨R, hR, rfl⟩ := enum_menu hi
      have vR := v.ok R (List.mem_of_getElem? hR)
      have h1' := h1 rfl
      dsimp only at h1'
      rw [unRu_d] at h1'
      refine dgT2 ?_
      walk_at "wp"
      refine lc_p (days.map ridesD) (fun _ => true) (fun d => .int (costF R.p R.t R.c (unR d))) (fun K hK => by walk_at "wp"; exact hK) (by rw [List.length_map]; omega) (fun d hd K2 K2' g1 g2 => ?_) ?_
      · obtain ⟨x, hx, rfl⟩ := List.mem_map.mp hd
        rw [unR_rides] at g1
        walk_at "wp"
        exact s_cost_of (d := .tup (x.map D.int)) .tup ⟨Nat.le_trans (r x hx).len (by decide), vR.p0, vR.p1⟩ (g1 rfl)
      · rw [filter_all, days_costs]
        walk_at "wp"
        exact ⟨days.map (costF R.p R.t R.c), rfl, h1'⟩
    · rw [filter_all]
      walk_at "wp"
      have eks : List.map (fun d => match d with | .tup [.v (.int i), e] => D.tup [.int (totalF (unRu e).p (unRu e).t (unRu e).c days), .int i] | _ => .non) (enumFrom 0 (M.map Ru.d)) = (M.zipIdx.map fun x => (totalF x.1.p x.1.t x.1.c days, (x.2 : Int))).map prDD := by
        rw [enum_zip, List.map_map, List.map_map]
        refine List.map_congr_left fun x _ => ?_
        show D.tup [.int (totalF (unRu x.1.d).p (unRu x.1.d).t (unRu x.1.d).c days), .int (x.2 : Int)] = D.tup [.int (totalF x.1.p x.1.t x.1.c days), .int (x.2 : Int)]
        rw [unRu_d]
      rw [eks]
      refine ⟨_, rfl, ?_, fun i m hm hmin => ?_⟩
      · intro h
        have := congrArg List.length h
        rw [List.length_map, List.length_zipIdx] at this
        have : M.length = 0 := this
        omega
      · obtain ⟨R, hR, rfl⟩ := pair_ix (f := fun i (R : Ru) => (totalF R.p R.t R.c days, (i : Int))) rfl hm
        refine q i R hR fun j S hS => ?_
        have hj : ((M.zipIdx.map fun x => (totalF x.1.p x.1.t x.1.c days, (x.2 : Int))) : List (Int × Int))[j]? = some (totalF S.p S.t S.c days, (j : Int)) := by
          rw [List.getElem?_map, List.getElem?_zipIdx, hS]
          show some (totalF S.p S.t S.c days, ((0 + j : Nat) : Int)) = _
          rw [Nat.zero_add]
        have h3 := hmin _ (List.mem_of_getElem? hj)
        unfold lePr at h3
        dsimp only at h3
        omega
theorem dom_at {M : List Ru} {a i : Nat} {A R : Ru} (ha : M[a]? = some A) (hi : M[i]? = some R) : domF M a i = (decide (a ≠ i) && (atmostF A R && (decide (a < i) || !atmostF R A))) := by
  unfold domF
  rw [ha, hi]
theorem need_iff {M : List Ru} {i : Nat} : needB M i = true ↔ ∃ a, a < M.length ∧ domF M a i = true := by
  unfold needB
  rw [List.any_eq_true]
  constructor
  · rintro ⟨a, h1, h2⟩
    exact ⟨a, List.mem_range.mp h1, h2⟩
  · rintro ⟨a, h1, h2⟩
    exact ⟨a, List.mem_range.mpr h1, h2⟩
theorem needF_mem {M : List Ru} {x : Int} : x ∈ needF M ↔ ∃ i : Nat, i < M.length ∧ x = i ∧ needB M i = true := by
  unfold needF
  rw [List.mem_map]
  constructor
  · rintro ⟨i, h, rfl⟩
    obtain ⟨h1, h2⟩ := List.mem_filter.mp h
    exact ⟨i, List.mem_range.mp h1, rfl, h2⟩
  · rintro ⟨i, h1, rfl, h2⟩
    exact ⟨i, List.mem_filter.mpr ⟨List.mem_range.mpr h1, h2⟩, rfl⟩
theorem needF_asc {M : List Ru} : (needF M).Pairwise (· < ·) := by
  unfold needF
  rw [List.pairwise_map]
  exact (List.pairwise_lt_range.sublist List.filter_sublist).imp fun h => by omega
theorem r_P_needless : ∀ ds n C Er, dsp_P_needless ds n C Er → d_P_needless { nx := fun _ n' => C (.dat .non) n', rt := C } (startD ds 6) n := by
  rintro ds n C Er ⟨M, rfl, v, q⟩
  have l0 := v.l0
  have l1 := v.l1
  unfold d_P_needless
  refine seqR fun R1 hR1 => ?_
  walk_at "wp"
  refine s_check_menu v ?_
  walk_at "wp"
  refine hR1 _ _ ?_
  refine seqR fun R2 hR2 => ?_
  walk_at "wp"
  refine hR2 _ _ ?_
  refine seqR fun R3 hR3 => ?_
  refine for_i (enumFrom 0 (M.map Ru.d)) (fun k δ N => N = n ∧ ∃ (fl : List Int) (y2 y3 y4 y5 : Option Sl), fl.length ≤ 6 * k ∧ (∀ x, x ∈ fl ↔ ∃ i : Nat, i < k ∧ x = i ∧ needB M i = true) ∧ δ = [some (.dat (menuD M)), some (.own (fl.map D.int)), y2, y3, y4, y5])
    (fun R hR => by walk_at "wp"; exact hR) ⟨rfl, [], none, none, none, none, Nat.zero_le _, (fun x => ⟨(fun h => by cases h), (fun ⟨i, h, _⟩ => absurd h (Nat.not_lt_zero i))⟩), rfl⟩ ?_ ?_
  · rintro k d δ N hk ⟨rfl, fl, y2, y3, y4, y5, hfl, hmem, rfl⟩ R4 hR4
    obtain ⟨R, hR, rfl⟩ := enum_menu hk
    have hkM := (List.getElem?_eq_some_iff.mp hR).1
    have vR := v.ok R (List.mem_of_getElem? hR)
    refine dgT2 ?_
    refine for_i (enumFrom 0 (M.map Ru.d)) (fun a δ N' => N' = N ∧ ∃ (gl : List Int) (y4 y5 : Option Sl), gl.length ≤ 6 * k + a ∧ (∀ x, x ∈ gl ↔ (∃ i : Nat, i < k ∧ x = i ∧ needB M i = true) ∨ (x = k ∧ ∃ b, b < a ∧ domF M b k = true)) ∧ δ = [some (.dat (menuD M)), some (.own (gl.map D.int)), some (.dat (.int (k : Int))), some (.dat R.d), y4, y5])
      (fun R hR => by walk_at "wp"; exact hR) ⟨rfl, fl, y4, y5, hfl, fun x => ⟨fun h => .inl ((hmem x).mp h), fun h => h.elim (hmem x).mpr fun ⟨_, b, hb, _⟩ => absurd hb (Nat.not_lt_zero b)⟩, rfl⟩ ?_ ?_
    · rintro a d δ N ha ⟨rfl, gl, y4, y5, hgl, hmem2, rfl⟩ R5 hR5
      obtain ⟨A, hA, rfl⟩ := enum_menu ha
      have haM := (List.getElem?_eq_some_iff.mp hA).1
      have vA := v.ok A (List.mem_of_getElem? hA)
      have hdom := dom_at hA hR
      refine dgT2 ?_
      have no : domF M a k = false → R5 [some (.dat (menuD M)), some (.own (gl.map D.int)), some (.dat (.int (k : Int))), some (.dat R.d), some (.dat (.int (a : Int))), some (.dat A.d)] N := fun hd =>
        hR5 _ _ ⟨rfl, gl, _, _, by omega, fun x => (hmem2 x).trans ⟨fun h => h.imp id fun ⟨e, b, hb, hb2⟩ => ⟨e, b, by omega, hb2⟩, fun h => h.imp id fun ⟨e, b, hb, hb2⟩ => ⟨e, b, by
          by_cases hba : b = a
          · rw [hba, hd] at hb2
            cases hb2
          · omega, hb2⟩⟩, rfl⟩
      have yes : domF M a k = true → ((gl.map D.int).length < 100000 ∧ R5 [some (.dat (menuD M)), some (.own (gl.map D.int ++ [D.int (k : Int)])), some (.dat (.int (k : Int))), some (.dat R.d), some (.dat (.int (a : Int))), some (.dat A.d)] N) := fun hd => by
        refine ⟨by rw [List.length_map]; omega, hR5 _ _ ⟨rfl, gl ++ [(k : Int)], _, _, by rw [List.length_append]; show _ + 1 ≤ _; omega, fun x => ?_, by rw [List.map_append]; rfl⟩⟩
        rw [List.mem_append, hmem2 x]
        constructor
        · rintro (h | h)
          · exact h.imp id fun ⟨e, b, hb, hb2⟩ => ⟨e, b, by omega, hb2⟩
          · exact .inr ⟨by simpa using h, a, Nat.lt_succ_self a, hd⟩
        · rintro (h | ⟨e, b, hb, hb2⟩)
          · exact .inl (.inl h)
          · exact .inr (by simpa using e)
      walk_at "wp"
      refine wif_n (fun hne => ?_) fun heq => no ?_
      · have hne' : a ≠ k := fun e => hne (by rw [e])
        rw [decide_eq_true hne', Bool.true_and] at hdom
        refine s_at_most vA vR ?_
        walk_at "wp"
        refine wif_2 (fun h1 => ?_) fun h1 => no ?_
        · have h1' : atmostF A R = true := h1
          rw [h1', Bool.true_and] at hdom
          refine wif_d (fun hlt => yes ?_) fun hge => ?_
          · rw [hdom, decide_eq_true (show a < k by omega)]
            rfl
          · rw [decide_eq_false (show ¬ a < k by omega), Bool.false_or] at hdom
            refine s_at_most vR vA ?_
            walk_at "wp"
            exact wif_2 (fun h2 => yes (hdom.trans h2)) fun h2 => no (hdom.trans h2)
        · have h1' : atmostF A R = false := h1
          rw [hdom, h1']
          rfl
      · rw [hdom, decide_eq_false (fun h => h (by omega))]
        rfl
    · rintro δ N ⟨rfl, gl, y4, y5, hgl, hmem2, rfl⟩
      rw [enum_len, List.length_map] at hgl hmem2
      refine hR4 _ _ ⟨rfl, gl, _, _, _, _, by omega, fun x => (hmem2 x).trans ?_, rfl⟩
      rw [← need_iff]
      constructor
      · rintro (⟨i, h1, h2⟩ | ⟨h1, h2⟩)
        · exact ⟨i, by omega, h2⟩
        · exact ⟨k, Nat.lt_succ_self k, h1, h2⟩
      · rintro ⟨i, h1, h2, h3⟩
        by_cases e : i = k
        · subst e
          exact .inr ⟨h2, h3⟩
        · exact .inl ⟨i, by omega, h2, h3⟩
  · rintro δ N ⟨rfl, fl, y2, y3, y4, y5, hfl, hmem, rfl⟩
    rw [enum_len, List.length_map] at hfl hmem
    refine hR3 _ _ ?_
    walk_at "wp"
    refine ⟨fl, rfl, by omega, fun ms hasc hm => ?_⟩
    rw [asc_same hasc needF_asc fun x => (hm x).trans ((hmem x).trans needF_mem.symm)]
    exact q
end LAW

/-! DXa: the end of zip(list, list) while an exception is handled. -/
namespace DL
open PySem PySem.Spec PyProof.Rows HotX
variable [TabNames]
section
variable {prog : Program} {w : World} {A : Around} {E : Value → Shared → Prop} {s : Shared}
theorem nextOf_list_hot {it l x1 : Addr} {i : Nat} {items : Array Value} {Q : Value → Shared → Prop} (hot : HotAt A x1 s.heap) (n1 : x1 ≠ it)
    (hit : s.heap.IsListIter it l i) (hl : s.heap.IsList l items) (hx : items[i]? = none)
    (hE : ∀ h' e, Heap.ExtBut it s.heap h' → (∃ o, h'.get? e = some o ∧ o.cls = .type "StopIteration") → E (.ref e) { s with heap := h' }) :
    wpAny (model prog w) A (Builtin.SmallTypes.nextOf (.ref it)) Q E s := by
  obtain ⟨o, ho, hc, hd⟩ := id hit
  obtain ⟨ol, hol, _, nl, hdl⟩ := hl
  obtain ⟨hh, o1, vs1, h1, d1, c1⟩ := hot
  unfold Builtin.SmallTypes.nextOf
  refine wpAny_bind (wpAny_callSpecial?_slot (name := Str.ofString "__next__") hit.typeIs slot_listiter_next (wpAny_call_entry slot_listiter_next hit.typeIs entry_listiter_next ?_ (args_listiter_next _)))
  show wpAny _ _ (field (.ref it) 0 >>= _) _ _ s
  refine wpAny_bind (wpAny_field ho hd (x := .ref l) rfl ?_)
  show wpAny _ _ (if (Value.ref l == Value.none) = true then _ else _) _ _ s
  rw [if_neg (show ¬ ((Value.ref l == Value.none) = true) from Bool.false_ne_true)]
  show wpAny _ _ (field (.ref it) 1 >>= _) _ _ s
  refine wpAny_bind (wpAny_field ho hd (x := .int i 0) rfl ?_)
  show wpAny _ _ (seqItems? (.ref l) >>= _) _ _ s
  refine wpAny_bind (wpAny_seqItems hol hdl ?_)
  simp only [Int.toNat_natCast, hx]
  refine wpAny_bind (wpAny_rule (wpAny_bind (wpAny_setField ho hd (by simp) ?_)))
  have h1' := (Heap.get?_update_other s.heap (Obj.mapFields (·.setIfInBounds 0 .none)) (Ne.symm n1)).trans h1
  show wpAny _ _ (newExc (.type "StopIteration") [] >>= _) _ _ _
  refine wpAny_bind ?_
  simp only [newExc, newTuple]
  refine wpAny_bind (wpAny_newObj_type ?_ (by size_fits))
  refine wpAny_bind (m := firstArgMember _ _) (wpAny_of_eq (a := Value.none) (by first | rfl | (simp only [firstArgMember]; rfl)) ?_)
  refine wpAny_newObj_type ?_ (by size_fits)
  refine raiseNew_hot ⟨hh, o1, vs1, Heap.get?_push_of_some _ (Heap.get?_push_of_some _ h1'), d1, c1⟩ (Nat.ne_of_lt (Heap.lt_size (Heap.get?_push_of_some _ h1'))) (Heap.get?_push_size _ rfl) rfl (by first | (simp; done) | (simp; omega)) ?_
  refine hE _ _ (fun b u nb e => ?_) ⟨_, Heap.get?_update_self _ (Heap.get?_push_size _ rfl) rfl, rfl⟩
  have e1 := (Heap.get?_update_other s.heap (Obj.mapFields (·.setIfInBounds 0 .none)) (Ne.symm nb)).trans e
  rw [Heap.get?_update_other _ _ (Nat.ne_of_gt (Heap.lt_size (Heap.get?_push_of_some _ e1)))]
  exact Heap.get?_push_of_some _ (Heap.get?_push_of_some _ e1)
/-- the first list is over -/
theorem zip_hot {z TI TO i1 i2 l1 l2 x1 : Addr} {k1 : Nat} {xs : Array Value} {Q : Option Value → Shared → Prop} (hot : HotAt A x1 s.heap) (nz : x1 ≠ z) (n1 : x1 ≠ i1) (D : ZipApart z TI TO i1 i2 l1 l2)
    (hz : IsZip s.heap z TI TO .none) (hTI : IsPair s.heap TI (.ref i1) (.ref i2)) (h1 : s.heap.IsListIter i1 l1 k1) (hl1 : s.heap.IsList l1 xs) (hx : xs[k1]? = none)
    (hQ : ∀ h', (∀ c o, c ≠ z → c ≠ TO → c ≠ i1 → c ≠ i2 → s.heap.get? c = some o → h'.get? c = some o) → Q none { s with heap := h' }) : wpAny (model prog w) A (pyNext (.ref z)) Q E s := by
  have hT : s.TypeIs (.ref z) "zip" := ⟨_, hz, rfl⟩
  obtain ⟨hh, o1, vs1, e1, d1, c1⟩ := hot
  unfold pyNext
  refine wpAny_bind (wpAny_attempt (wpAny_callSpecial?_slot (name := Str.ofString "__next__") hT F.slot_zip_next (wpAny_call_entry F.slot_zip_next hT F.entry_zip_next ?_ (F.args_zip_next_1 _))))
  show wpAny _ _ (field (.ref z) 2 >>= _) _ _ _
  refine wpAny_bind (wpAny_field hz rfl (x := .bool false) rfl ?_)
  show wpAny _ _ (field (.ref z) 3 >>= _) _ _ _
  refine wpAny_bind (wpAny_field hz rfl (x := .ref TI) rfl ?_)
  refine wpAny_bind (wpAny_seqItems hTI rfl ?_)
  show wpAny _ _ (Builtin.SmallTypes.ownedTupleIsFree (.ref z) >>= _) _ _ _
  refine wpAny_bind ?_
  unfold Builtin.SmallTypes.ownedTupleIsFree
  refine wpAny_bind (wpAny_field hz rfl (x := .none) rfl (wpAny_pure ?_))
  simp only [if_true]
  refine wpAny_bind (wpAny_rule (wpAny_bind (wpAny_field hz rfl (x := .ref TO) rfl ?_)))
  refine wpAny_bind (wpAny_setField_rec hz (by simp) fun h₁ hz₁ hs₁ => ?_)
  replace hz₁ : IsZip h₁ z TI TO .ellipsis := hz₁
  refine wpAny_bind ?_
  simp only [List.zipIdx_cons, List.zipIdx_nil, List.forIn_cons, List.forIn_nil]
  refine wpAny_bind (wpAny_bind (wpAny_onRaise ?_))
  show wpAny _ _ (Builtin.SmallTypes.nextOf (.ref i1) >>= _) _ _ _
  refine wpAny_bind (nextOf_list_hot (x1 := x1) ⟨hh, o1, vs1, hs₁.extBut _ _ nz e1, d1, c1⟩ n1 (h1.extBut hs₁.extBut D.i1z) (hl1.extBut hs₁.extBut D.l1z) hx fun h₂ e hs₂ he => ?_)
  obtain ⟨oe, hoe, hce⟩ := he
  have hz₂ : IsZip h₂ z TI TO .ellipsis := hs₂ _ _ D.i1z.symm hz₁
  have hez : e ≠ z := fun q => by subst q; rw [hz₂] at hoe; cases hoe; simp at hce
  refine wpAny_setField_rec hz₂ (by simp) fun h₃ _ hs₃ => ?_
  refine wpAny_bind (wpAny_isInstance (T := "StopIteration") (b := true) ⟨oe, hs₃.extBut _ _ hez hoe, hce⟩ isSubtype_stop ?_)
  exact wpAny_pure (hQ _ fun c o n1 _ n3 _ q => hs₃.extBut _ _ n1 (hs₂ _ _ n3 (hs₁.extBut _ _ n1 q)))
end
end DL

/-! DXb: raise, by data. -/
namespace DL
open PySem PySem.Spec PyProof.Rows L2
variable [TabNames]
/-- raise X('..'): cls is the class -/
@[simp] def dRaise (Er : Value → Ct → Prop) (cls : Value) : DS := fun _ _ N => Er cls N
section
variable {X : Cx} {G : Gg} {C : Addr} {bmB : List Value} {B newId initId : String} {x m : Str} {j : Nat} {p p2 pos pos' : Pos}
theorem xs_raise (hc : X.calm = true) (tk : L2N.Takes X (fun cls d _ H => G.E cls d H)) (F : ExcBaseFacts B newId initId bmB) (q : PySem.W.excIn X.K C bmB newId = true) (gC : X.mg x = some (.ref C)) (kC : PySem.W.keepIn X.K (.ref C) = true) (r : Raises X (.ref C)) (hg : Gl X x)
    (hdb : (x == ("__debug__" : Str)) = false := by decide) :
    XS X G (.Raise (some (.Call (.Name x p) [.Constant (.str m) j p2] [] pos)) none pos') (fun _ _ H => G.E (.ref C) none H) (dRaise G.Er (.ref C)) := by
  refine ⟨L2N.ps_raise (W := fun cls d _ H => G.E cls d H) hc tk (L2N.pmk_own F q gC kC r hg hdb), ⟨fun B Z τ E En δ σ H N hB ok S T hd => ?_⟩⟩
  subst hB
  obtain ⟨k, ek, ex⟩ := S.ex
  refine B.eok (.ref C) k H ex ?_
  rw [← ek]
  exact hd
end
end DL

/-! DXc: the ground under a call; lambdas made. -/
namespace DL
open PySem PySem.Spec PyProof.Rows L2 LamX
variable [TabNames]

/-! ### what a callee cannot reach becomes its base -/
def hidX (H : Hp) (outer : List Env) : Hp := fun a => if a ∈ frs outer then some (.own 0) else H a
def ground (s : Shared) (H : Hp) (outer : List Env) : Heap := hidT s.heap (hidX H outer)
section
variable {P : Program} {w : World} {K : PySem.W.Frag} {mg : Str → Option Value} {base : Heap} {A : Around} {outer : List Env} {s : Shared} {H : Hp}
theorem ground_get {a : Addr} {o : Obj} (e : s.heap.get? a = some o) (n : H a = none) (f : a ∉ frs outer) : (ground s H outer).get? a = some o :=
  hidT_get e (by unfold hidX; rw [if_neg f]; exact n)
theorem ground_of {a : Addr} {o : Obj} (e : (ground s H outer).get? a = some o) : s.heap.get? a = some o ∧ H a = none ∧ a ∉ frs outer := by
  obtain ⟨h1, h2⟩ := of_hidT e
  unfold hidX at h2
  by_cases f : a ∈ frs outer
  · rw [if_pos f] at h2; cases h2
  · rw [if_neg f] at h2; exact ⟨h1, h2, f⟩
theorem ground_ge (e : Env0 P w K mg base A outer s H) {a : Addr} {o : Obj} (h : base.get? a = some o) : (ground s H outer).get? a = some o :=
  ground_get (e.bs a o h).1 (e.bs a o h).2 fun hm => by
    obtain ⟨hn, _⟩ := e.funs.mem hm
    rw [h] at hn
    cases hn
theorem Env0.grounded (e : Env0 P w K mg base A outer s H) : Env0 P w K mg (ground s H outer) A outer s H where
  frames := e.frames
  mod := by
    have up : ∀ b o, base.get? b = some o → (ground s H outer).get? b = some o := fun b o h => ground_ge e h
    obtain ⟨mb, h1, h2⟩ := e.mod.blt
    exact ⟨e.mod.kin.keeps up, e.mod.glob.keeps up, ⟨mb, h1.keeps up, h2⟩, e.mod.nolimit.keeps up⟩
  bs := fun b o h => ⟨(ground_of h).1, (ground_of h).2.1⟩
  bsz := Nat.le_of_eq (hidT_size _ _)
  funs := funFrames_none e.funs fun L hL => by
    cases q : (ground s H outer).get? L with
    | none => rfl
    | some o => exact absurd hL (ground_of q).2.2
  frf := e.frf
  hok := e.hok
  bare := e.bare
/-- a call on that ground, seen from the ground below -/
theorem run_ground {X : Cx} {pins : List (Addr × Obj)} {σ : L2.St} {Q : VK} {us : List Value} {CX : CXT} {k : Nat} {f : Addr} {fd : FuncData} {ps : List Str} {sp : Sp} {E : XK} {vs : List V}
    (I : Inv X pins σ H s) (F : FnOk X.prog X.w X.K X.mg (ground s H X.stack) CX k f fd ps sp) (hr : Room k X.A) (hb : Binds X.K fd ps []) (hx : Passes CX X E) (r : Vals vs us) (h : sp vs H Q E) :
    wpAny (model X.prog X.w) X.A (call (.ref f) us) (EP X pins σ Q) X.xe s := by
  have hl : us.length = ps.length := by rw [← r.length]; exact F.len _ _ _ _ h
  have b := hb s us I.kIn (by rw [List.append_nil]; exact hl)
  rw [List.append_nil] at b
  refine wpAny_call (codeAny_mono (F.run X.A X.stack s H ⟨us, []⟩ us vs Q E hr (Env0.grounded I.env0) b r h) fun z s2 hq => ?_)
  cases z with
  | error e => exact hx pins σ H s e s2 I hq
  | ok fl =>
    cases fl with
    | ret u => exact I.after hq
    | next => exact False.elim hq
    | brk => exact False.elim hq
    | cont => exact False.elim hq
end

/-! ### lambdas -/
/-- a lambda's name and text -/
structure Lam where
  q : Str
  params : Arguments
  body : Expr
  scope : Scope
abbrev lamO (L : Lam) (clo : List (Str × Addr)) (pm : Value) (c : Addr) (ct : Value) : Obj := PySem.W.kla_obj "<lambda>" L.q L.params L.body L.scope clo pm c ct
/-- f is such a lambda, over the cells clo -/
def lamP (L : Lam) (clo : List (Str × Addr)) : Ct → Hp → (Addr → Prop) → Addr → Prop := fun _ H _ f =>
  ∃ c pm ct, H f = some (.frz (lamO L clo pm c ct) (.own f)) ∧ H c = some (CodeO c L.q)
theorem lamP_stab {K : PySem.W.Frag} {L : Lam} {clo : List (Str × Addr)} : Stab K (lamP L clo) := fun N N' Z Z' H H' f g ⟨c, pm, ct, h1, h2⟩ => ⟨c, pm, ct, g.frz _ _ _ h1, g.cod _ _ h2⟩
theorem codeO_same {c : Addr} {q q' : Str} (h : CodeO c q = CodeO c q') : q = q' := by
  unfold CodeO at h
  have f := HO.ext.inj h
  have hg : (⟨Array.replicate (c + 1) { cls := .none, data := .fields #[.none, .str q 0] }, {}⟩ : Heap).get? c = some { cls := .none, data := .fields #[.none, .str q 0] } := Heap.get?_some_iff.mpr ⟨by simp, rfl⟩
  have b : ∃ (oc : Obj) (vs : Array Value) (t : Tok), (⟨Array.replicate (c + 1) { cls := .none, data := .fields #[.none, .str q 0] }, {}⟩ : Heap).get? c = some oc ∧ oc.data = .fields vs ∧ vs[1]? = some (.str q t) := ⟨_, _, 0, hg, rfl, rfl⟩
  have b' : ∃ (oc : Obj) (vs : Array Value) (t : Tok), (⟨Array.replicate (c + 1) { cls := .none, data := .fields #[.none, .str q 0] }, {}⟩ : Heap).get? c = some oc ∧ oc.data = .fields vs ∧ vs[1]? = some (.str q' t) := by
    rw [← congrFun f]
    exact b
  obtain ⟨oc, vs, t, h1, h2, h3⟩ := b'
  rw [hg] at h1
  cases h1
  cases h2
  cases h3
  rfl
section
variable {X : Cx} {pins : List (Addr × Obj)} {σ : L2.St} {H : Hp} {s : Shared}
/-- the lambda is laid and known -/
theorem lam_laid {L : Lam} {clo : List (Str × Addr)} {pm ct : Value} {c : Addr} {h1 : Heap} {g : Array GenState} {d : Drawn} {t t' : Nat} {os : OsState} {H1 : Hp} (I : Inv X pins σ H1 ⟨h1, g, d, t, os⟩) :
    Inv X pins σ (upd H1 h1.objs.size (.frz (lamO L clo pm c ct) (.own h1.objs.size))) ⟨h1.push (lamO L clo pm c ct), g, d, t', os⟩ := by
  have hg : (h1.push (lamO L clo pm c ct)).get? h1.objs.size = some (lamO L clo pm c ct) := Heap.get?_push_size _ rfl
  exact I.laid (fun b u e => Heap.get?_push_of_some _ e) (Nat.le_refl _) ⟨hg, _, hg⟩
/-- a lambda is made -/
theorem lam_made {T : List Addr} {c P : Addr} {L : Lam} {pos : Pos} {E Q : Value → Shared → Prop} (I : Inv X pins σ H s) (TB : TabB X.base X.mg c P) (hcode : X.env.code = .ref c) (hq : L.q = X.env.qual ++ "<lambda>") (hP : P ∈ T) (hn : TabNames.nm P = L.q)
    (hT : TabsN T H) (hdef : defaultsOf L.params X.env = ([], [])) (hfree : ∀ y ∈ L.scope.names, y.2 = .free → ∃ c, X.env.cells.lookup y.1 = some c)
    (h : ∀ (f c1 : Addr) (pm ct : Value) (H1 : Hp) (s1 : Shared), Inv X pins σ H1 s1 → ExK 0 H H1 → H f = none → H1 f = some (.frz (lamO L (cloFrom X.env.cells L.scope.names []) pm c1 ct) (.own f)) → H1 c1 = some (CodeO c1 L.q) → Q (.ref f) s1) :
    wpAny (model X.prog X.w) X.A (eval (.Lambda L.params L.body L.scope pos) X.env) Q E s := by
  obtain ⟨qual, params, body, scope⟩ := L
  dsimp only at hq hn hdef hfree h ⊢
  subst hq
  obtain ⟨ps, hPs, ht, ha⟩ := hT P hP
  rw [hn] at ha
  have bP := TB.bm.keeps I.bk
  have hP' : s.heap.get? P = some { cls := .none, data := .fields ps } := I.hok P _ hPs
  have lifted : ∀ {H1 : Hp} {f c1 : Addr} {pm ct : Value}, H1 f = none → H1 c1 = some (CodeO c1 (X.env.qual ++ "<lambda>")) → upd H1 f (.frz (lamO ⟨X.env.qual ++ "<lambda>", params, body, scope⟩ (cloFrom X.env.cells scope.names []) pm c1 ct) (.own f)) c1 = some (CodeO c1 (X.env.qual ++ "<lambda>")) := fun {H1 f c1 pm ct} h0 h1 => by
    rw [upd_ne (ne_of_none h1 h0)]
    exact h1
  refine PySem.W.kla_eval hdef ?_
  cases hc : codeAmong pos ps.toList with
  | none =>
    refine PySem.W.kla_makeFunction (ps := ps) (P := P) (c := c) (mg := X.mg) (closure_ok hfree) I.ok.glob (I.mod.glob.keeps I.bk) hcode (TB.code.keeps I.bk) hP' ht hc TB.gP bP fun c1 ct h1 tk hx hge hlt hrec htb => ?_
    obtain ⟨_, oc, vs, t, e2, hoc, hd, hv⟩ := hrec
    cases e2
    have nC : H c1 = none := I.hok.fresh hge
    have I1 := inv_table (t' := tk) (more := #[rawInt pos.line, rawInt pos.col, .ref c1]) (h' := h1) I hPs (fun b o hb e => hx b o hb e) htb hge ⟨oc, vs, t, hoc, hd, hv⟩
    have e1 : ExK 0 H (upd (upd H P (.tbl (ps ++ #[rawInt pos.line, rawInt pos.col, .ref c1]))) c1 (CodeO c1 (X.env.qual ++ "<lambda>"))) := by
      have nt : ∀ b u, H b = some u → (∀ z, u ≠ .tbl z) → upd (upd H P (.tbl (ps ++ #[rawInt pos.line, rawInt pos.col, .ref c1]))) c1 (CodeO c1 (X.env.qual ++ "<lambda>")) b = some u := fun b u e n => by
        rw [upd_ne (ne_of_none e nC), upd_ne (fun z => by rw [z, hPs] at e; exact n ps (Option.some.inj e).symm)]
        exact e
      refine ⟨fun b u e => ?_, fun P2 hP2 => ?_, fun l c r => r.to (fun b xs e => nt b _ e fun z q => by cases q) fun ts e => nt l _ e fun z q => by cases q⟩
      · by_cases hb : b = P
        · subst hb
          rw [hPs] at e
          cases e
          exact .inr (.inr (.inl ⟨⟨ps, rfl⟩, _, by rw [upd_ne (ne_of_none hPs nC), upd_same]⟩))
        · exact .inl (by rw [upd_ne (ne_of_none e nC), upd_ne hb]; exact e)
      · obtain ⟨ps2, g1, g2, g3⟩ := hP2
        by_cases hb : P2 = P
        · subst hb
          refine ⟨_, by rw [upd_ne (ne_of_none hPs nC), upd_same], by rw [show (ps ++ #[rawInt pos.line, rawInt pos.col, Value.ref c1]).toList = ps.toList ++ [rawInt pos.line, rawInt pos.col, .ref c1] by simp]; exact PySem.TriplesOk_snoc _ _ _ _ ht, fun p2 cv hcv => ?_⟩
          rw [show (ps ++ #[rawInt pos.line, rawInt pos.col, Value.ref c1]).toList = ps.toList ++ [rawInt pos.line, rawInt pos.col, .ref c1] by simp] at hcv
          rw [hn]
          rcases among_app _ ht hcv with z | z
          · obtain ⟨c0, i1, i2⟩ := ha p2 cv z
            exact ⟨c0, i1, nt _ _ i2 fun z => codeO_tbl⟩
          · exact ⟨c1, z, upd_same⟩
        · refine ⟨ps2, by rw [upd_ne (ne_of_none g1 nC), upd_ne hb]; exact g1, g2, fun p2 cv hcv => ?_⟩
          obtain ⟨c0, i1, i2⟩ := g3 p2 cv hcv
          exact ⟨c0, i1, nt _ _ i2 fun z => codeO_tbl⟩
    have nf := I1.hok.fresh (Nat.le_refl _)
    have e2 := ExK.new (o := .frz (lamO ⟨X.env.qual ++ "<lambda>", params, body, scope⟩ (cloFrom X.env.cells scope.names []) ((X.mg "__name__").getD .none) c1 ct) (.own h1.objs.size)) nf
    exact h _ c1 _ ct _ _ (lam_laid I1) (e1.trans e2) (e1.back nf) upd_same (lifted nf upd_same)
  | some cv =>
    obtain ⟨c1, e, hco⟩ := ha pos cv hc
    subst e
    refine PySem.W.kla_makeFunctionHit (ps := ps) (P := P) (c := c) (mg := X.mg) (closure_ok hfree) I.ok.glob (I.mod.glob.keeps I.bk) hcode (TB.code.keeps I.bk) hP' ht hc bP fun ct h1 tk hx hsz => ?_
    have I1 : Inv X pins σ H { s with heap := h1, toks := tk } := I.kept hx
    have nf := I1.hok.fresh (Nat.le_refl _)
    exact h _ c1 _ ct _ _ (lam_laid I1) (ExK.new nf) nf upd_same (lifted nf hco)
end
end DL

/-! DXd: what is called without arguments. -/
namespace DL
open PySem PySem.Spec PyProof.Rows L2 LamX
variable [TabNames]

abbrev PT := Ct → Hp → (Addr → Prop) → Addr → Prop
/-- what a call without arguments does: the count, what is wanted of the value, of an exception's class -/
abbrev Beh := Ct → DK → (Value → Ct → Prop) → Prop
/-- what bears Pt may be called, and does b -/
def CallsV (P : Program) (w : World) (K : PySem.W.Frag) (mg : Str → Option Value) (base : Heap) (k : Nat) (Pt : PT) (b : Beh) : Prop :=
  ∀ (N : Ct) (H : Hp) (Z : Addr → Prop) (a : Addr), Pt N H Z a → ∀ (A : Around) (outer : List Env) (s : Shared) (Q : VK) (E : XK) (C : DK) (Er : Value → Ct → Prop), Room k A → Env0 P w K mg base A outer s H → Zt Z H → b N C Er →
    (∀ u v H' j, ExK j H H' → RsC K (N + j) H H' Z v u → C u (N + j) → Q v H') → (∀ cls H' j, ExK j H H' → Er cls (N + j) → E cls none H') →
    PySem.W.FnAt a s.heap ∧ codeAny (model P w) A (.call (.ref a) ⟨[], []⟩) (CR (L2N.CX P w) outer P w H s Q E) s

/-! ### a lambda's context, on a base that knows its cells -/
section
variable {X : Cx} {σ : L2.St} {H : Hp} {s : Shared} {A : Around} {outer : List Env} {E : XK} {scope : Scope} {f c1 : Addr} {h1 : Heap} {tk : Nat}
/-- a lambda's context: what leaves it was raised where nothing is handled -/
abbrev lamN (X : Cx) (A : Around) (outer : List Env) (s : Shared) (H : Hp) (E : XK) (scope : Scope) (f c1 : Addr) : Cx :=
  { lamCx X A outer s H E scope f c1 with xe := fun e s1 => wpAny (model X.prog X.w) (A.deeper (lamEnv X scope s.heap.objs.size f c1)) (leaving (lamEnv X scope s.heap.objs.size f c1) e) (fun _ s2 => L2N.CX X.prog X.w outer H s E e s2) (fun e2 s2 => L2N.CX X.prog X.w outer H s E e2 s2) s1 }
theorem clo_look {cells : List (Str × Addr)} {names : List (Str × NameKind)} {y : Str} {c : Addr} (has : ∀ z ∈ names, z.2 = .free → ∃ c, cells.lookup z.1 = some c) (e : (cloFrom cells names []).lookup y = some c) : (y, NameKind.free) ∈ names ∧ cells.lookup y = some c := by
  rcases cloFrom_mem (PySem.mem_of_lookup e) with z | ⟨z1, z2⟩
  · simp at z
  · obtain ⟨c2, q⟩ := has _ z1 rfl
    refine ⟨z1, ?_⟩
    have q' : cells.lookup y = some c2 := q
    rw [q'] at z2 ⊢
    rw [z2]
    rfl
theorem lam_inv (L : LamS X.env.scope scope) (hd : A.handled = none) (e0 : Env0 X.prog X.w X.K X.mg X.base A outer s H) (inj : ∀ x y c, X.env.cells.lookup x = some c → X.env.cells.lookup y = some c → x = y)
    (has : ∀ y ∈ scope.names, y.2 = .free → ∃ c, X.env.cells.lookup y.1 = some c) (cel : ∀ y c, X.env.cells.lookup y = some c → ∃ v, X.base.IsCell c v)
    (loc : ∀ (i : Nat) (y : Str) (v : V) (c : Addr), X.N[i]? = some y → σ[i]? = some (some v) → (y, NameKind.free) ∈ scope.names → X.env.cells.lookup y = some c → ∃ u, RelV v u ∧ X.base.IsCell c (some u)) (len : σ.length = X.N.length)
    (hns : h1.Ns s.heap.objs.size fun y => ([] : List (Str × Value)).reverse.lookup y) (kp : ∀ b o, s.heap.get? b = some o → h1.get? b = some o) :
    Inv (lamCx X A outer s H E scope f c1) [] σ H { s with heap := h1, toks := tk } := by
  have look : ∀ {y}, scope.names.lookup y = some .free → ∃ c, (cloFrom X.env.cells scope.names []).lookup y = some c := fun {y} hl => mem_lookup (cloFrom_has (cells := X.env.cells) (acc := []) (PySem.mem_of_lookup hl))
  have nol : ∀ {y : Str} {z : NameKind}, scope.names.lookup y = some z → z = .free ∨ (z ≠ .local ∧ z ≠ .cell) := fun {y z} hl => .inr (L.own _ (PySem.mem_of_lookup hl))
  have cellH : ∀ {c : Addr} {v : Option Value}, X.base.IsCell c v → h1.IsCell c v := fun {c v} ⟨o, ho, hv⟩ => ⟨o, kp _ _ (e0.bs _ _ ho).1, hv⟩
  have ok : (lamCx X A outer s H E scope f c1).Ok := {
    mod := e0.mod
    kind := L.kind
    glob := rfl
    blt := rfl
    above := Nat.le_refl _
    inj := fun x y c h2 h3 => inj x y c (clo_look has h2).2 (clo_look has h3).2
    has := fun y hy => by
      have hy' : scope.names.lookup y = some .cell ∨ scope.names.lookup y = some .free := hy
      rcases hy' with q | q
      · exact absurd rfl (L.own _ (PySem.mem_of_lookup q)).2
      · exact look q
    cab := fun y c q _ => Bool.noConfusion (show false = true from q)
    hd := fun _ => hd
    frames := Around.frames_deeper e0.frames
    stk := .inr ⟨rfl, rfl⟩
    exf := fun b q => absurd (show b ∈ ([] : List Addr) from q) (by simp)
    bs := e0.bs
    bsz := e0.bsz
    noex := fun b o _ q => absurd (show b ∈ ([] : List Addr) from q) (by simp)
    exfs := fun b q => absurd (show b ∈ ([] : List Addr) from q) (by simp)
    funs := e0.funs
    frf := e0.frf }
  exact {
    ok := ok
    os := rfl
    bare := e0.bare
    base := Un.kept kp
    loc := ⟨_, hns, fun i y v q1 q2 q3 => by
      have q3' : Vis scope y := q3
      rcases q3' with q | q | q
      · exact absurd rfl (L.own _ (PySem.mem_of_lookup q)).1
      · exact absurd rfl (L.own _ (PySem.mem_of_lookup q)).2
      · obtain ⟨c, hc⟩ := look q
        obtain ⟨m1, m2⟩ := clo_look has hc
        obtain ⟨u, r, hu⟩ := loc i y v c q1 q2 m1 m2
        exact ⟨u, r, .inr ⟨.inr q, c, hc, cellH hu⟩⟩⟩
    cell := fun y c q => by
      obtain ⟨v, hv⟩ := cel y c (clo_look has q).2
      exact ⟨v, cellH hv⟩
    free := e0.hok.fresh (Nat.le_refl _)
    freeC := fun y c q => by
      obtain ⟨v, o, ho, _⟩ := cel y c (clo_look has q).2
      exact (e0.bs _ _ ho).2
    pin := fun p q => absurd (show p ∈ ([] : List (Addr × Obj)) ++ [] from q) (by simp)
    hok := e0.hok.kept kp
    len := len }
end
/-! ### the captured names, as data -/
def pkD : Bool → Option Sl → Option Sl
  | true, some (.dat d) => some (.dat d)
  | _, _ => none
def keepD : List Bool → StD → StD
  | _, [] => []
  | [], _ :: r => none :: keepD [] r
  | b :: m, s :: r => pkD b s :: keepD m r
@[simp] theorem keepD_nil {m : List Bool} : keepD m [] = [] := by cases m <;> rfl
@[simp] theorem keepD_td {m : List Bool} {d : D} {r : StD} : keepD (true :: m) (some (.dat d) :: r) = some (.dat d) :: keepD m r := rfl
@[simp] theorem keepD_to {m : List Bool} {ds : List D} {r : StD} : keepD (true :: m) (some (.own ds) :: r) = none :: keepD m r := rfl
@[simp] theorem keepD_tn {m : List Bool} {r : StD} : keepD (true :: m) (none :: r) = none :: keepD m r := rfl
@[simp] theorem keepD_f {m : List Bool} {s : Option Sl} {r : StD} : keepD (false :: m) (s :: r) = none :: keepD m r := rfl
@[simp] theorem keepD_e {s : Option Sl} {r : StD} : keepD [] (s :: r) = none :: keepD [] r := rfl
theorem pkD_some {b : Bool} {u : Option Sl} {s : Sl} (h : pkD b u = some s) : u = some s ∧ ∃ d, s = .dat d := by
  cases b with
  | false => cases h
  | true =>
    cases u with
    | none => cases h
    | some u =>
      cases u with
      | dat d => cases h; exact ⟨rfl, d, rfl⟩
      | own d => cases h
      | als d => cases h
theorem keepD_get : ∀ {m : List Bool} {δ : StD} {i : Nat} {s : Sl}, nth (keepD m δ) i = some s → nth δ i = some s ∧ ∃ d, s = .dat d
  | m, [], i, s, h => by rw [keepD_nil] at h; cases h
  | b :: m, u :: r, 0, s, h => pkD_some h
  | b :: m, u :: r, i + 1, s, h => keepD_get (m := m) (δ := r) (i := i) h
  | [], u :: r, 0, s, h => by
    have h' : (none : Option Sl) = some s := h
    cases h'
  | [], u :: r, i + 1, s, h => keepD_get (m := []) (δ := r) (i := i) h
theorem keepD_length : ∀ {m : List Bool} {δ : StD}, (keepD m δ).length = δ.length
  | m, [] => by rw [keepD_nil]
  | b :: m, u :: r => congrArg (· + 1) (keepD_length (m := m) (δ := r))
  | [], u :: r => congrArg (· + 1) (keepD_length (m := []) (δ := r))
/-- .. and the data δ of the slots σ hold -/
def capP (K : PySem.W.Frag) (σ : L2.St) (δ : StD) (Pt : PT) : PT := fun N H Z a => Pt N H Z a ∧ ∀ i d, nth δ i = some (.dat d) → ∃ v, σ[i]? = some (some v) ∧ Dt K N H Z v d
theorem capP_stab {K : PySem.W.Frag} {σ : L2.St} {δ : StD} {Pt : PT} (h : Stab K Pt) : Stab K (capP K σ δ Pt) := fun N N' Z Z' H H' a g ⟨h1, h2⟩ => ⟨h N N' Z Z' H H' a g h1, fun i d hi => by
  obtain ⟨v, q1, q2⟩ := h2 i d hi
  exact ⟨v, q1, q2.gro g⟩⟩
/-- what is known of a lambda of the context X, whatever base knows its cells -/
structure LamRun (X : Cx) (k : Nat) (L : Lam) (b : (Value → Ct → Prop) → DE) : Prop where
  q : L.q = X.env.qual ++ "<lambda>"
  sc : LamS X.env.scope L.scope
  bind : ∀ (cl : List (Str × Addr)) (pm cv ct : Value), bindArgs (PySem.W.kla_fn "<lambda>" L.q L.params L.body L.scope cl pm cv ct) ⟨[], []⟩ = pure []
  body : ∀ (base : Heap) (A : Around) (outer : List Env) (s : Shared) (H : Hp) (E : XK) (Er : Value → Ct → Prop) (f c1 : Addr), Room k (A.deeper (lamEnv X L.scope s.heap.objs.size f c1)) →
    ∃ t, XE (lamN { X with base := base } A outer s H E L.scope f c1) ⟨X.K, E, Er, []⟩ L.body t (b Er)
/-- the data of a call -/
def behOf (b : (Value → Ct → Prop) → DE) (δ : StD) : Beh := fun N C Er => b Er δ N fun s N' => chk s.nals (C s N')
theorem calls_lam {X : Cx} {k : Nat} {L : Lam} {b : (Value → Ct → Prop) → DE} {σ : L2.St} {δ : StD} {base : Heap} (R : LamRun X k L b) (inj : ∀ x y c, X.env.cells.lookup x = some c → X.env.cells.lookup y = some c → x = y)
    (has : ∀ y ∈ L.scope.names, y.2 = .free → ∃ c, X.env.cells.lookup y.1 = some c) (cel : ∀ y c, X.env.cells.lookup y = some c → ∃ v, base.IsCell c v)
    (loc : ∀ (i : Nat) (y : Str) (v : V) (c : Addr), X.N[i]? = some y → σ[i]? = some (some v) → (y, NameKind.free) ∈ L.scope.names → X.env.cells.lookup y = some c → ∃ u, RelV v u ∧ base.IsCell c (some u)) (len : σ.length = X.N.length) (hδ : δ.length = σ.length) (hd : ∀ i s, nth δ i = some s → ∃ d, s = .dat d) :
    CallsV X.prog X.w X.K X.mg base (k + 1) (capP X.K σ δ (lamP L (cloFrom X.env.cells L.scope.names []))) (behOf b δ) := by
  rintro N H Z a ⟨⟨c1, pm, ct, hf, hc⟩, hcap⟩ A outer s Q E C Er hr e0 hz hb hq hx
  obtain ⟨lq, params, body, scope⟩ := L
  obtain ⟨Rq, Rsc, Rb, Rbody⟩ := R
  dsimp only at Rq Rsc Rb Rbody has loc hf hc
  subst Rq
  have of1 : s.heap.get? a = some _ := (e0.hok a _ hf).1
  obtain ⟨⟨oc, vs, t, hoc, hdc, hvc⟩, _, _⟩ := e0.hok c1 _ hc
  refine ⟨⟨_, _, _, _, of1⟩, ?_⟩
  refine PySem.W.kla_callFunE hr.depth of1 rfl Rsc.co Rsc.gen rfl ⟨c1, oc, vs, t, rfl, hoc, hdc, hvc⟩ ?_
  rw [Rb]
  have lim : s.heap.NoLimit := e0.mod.nolimit.keeps fun b o e => (e0.bs b o e).1
  refine wpAny_pure (wpAny_newFunctionEnv (fun y hy => (Rsc.own y hy).2) (fun y hy => absurd hy (by simp)) (fun h1 hns hsb => ⟨lim.fresh _ hsb, ?_⟩) Rsc.kind)
  show codeAny _ _ (.expr body (lamEnv X scope s.heap.objs.size a c1)) _ _
  have kp : ∀ b o, s.heap.get? b = some o → h1.get? b = some o := fun b o e => hsb.extBut b o (Nat.ne_of_lt (Heap.lt_size e)) (Heap.get?_push_of_some _ e)
  obtain ⟨tb, hxe⟩ := Rbody base A outer s H E Er a c1 (hr.deeper _)
  have J : Inv (lamN { X with base := base } A outer s H E scope a c1) [] σ H { s with heap := h1, toks := s.toks + ([] : List (Str × Value)).length } := (lam_inv (X := { X with base := base }) (E := E) Rsc hr.hd e0 inj has cel loc len hns kp).wish _
  have SDD : SD ⟨⟨X.K, E, Er, []⟩, H, Z, N, fun cls k H' e h => hx cls H' k e h, tabs_nil⟩ Z δ σ H N := {
    ex := ⟨0, rfl, ExK.refl H⟩
    z0 := fun _ h => h
    z1 := fun a h e => by
      obtain ⟨xs, q⟩ := hz a h
      have e' : H a = none := e
      rw [e'] at q
      cases q
    zt := hz
    len := hδ
    slot := fun i u hu => by
      obtain ⟨d, rfl⟩ := hd i u hu
      obtain ⟨v, q1, q2⟩ := hcap i d hu
      exact ⟨v, q1, q2⟩
    nals := fun i ds hu => by
      obtain ⟨d, q⟩ := hd i _ hu
      cases q
    d1 := fun i j ds es _ hu _ => by
      obtain ⟨d, q⟩ := hd i _ hu
      cases q }
  have ht : tb σ H Q := hxe.sn.run _ Z δ σ H N _ Q rfl SDD hb fun u v H' j ex rs hc2 => by
    obtain ⟨h2, h3⟩ := chk_iff.mp hc2
    refine hq u v H' j ex ?_ h3
    cases u with
    | dat d => exact rs
    | own ds => exact rs
    | als ds => exact absurd h2 (by simp [Sl.nals])
  refine PySem.W.kla_codeExpr (wpAny_mono (hxe.pe.run [] _ _ H Q J ht) (fun v s2 hv => ?_) fun e s2 he => he)
  obtain ⟨w', H', J', rv, q⟩ := hv
  exact ⟨w', H', J'.os, J'.bare, J'.base, J'.hok, rv, q⟩
end DL

/-! DXe: lambdas by data; calls that are handed lambdas; defs with tables; defs that raise. -/
namespace DL
open PySem PySem.Spec PyProof.Rows L2 LamX
variable [TabNames]

/-! ### a lambda, by data -/
/-- P is the i-th lambda of the running def, whose readings are b -/
def isL (X : Cx) (k : Nat) (b : Nat → (Value → Ct → Prop) → DE) (i : Nat) (Pt : PT) : Prop := ∃ L : Lam, Pt = lamP L (cloFrom X.env.cells L.scope.names []) ∧ LamRun X k L (b i)
@[simp] def dLam (isl : Nat → PT → Prop) (i : Nat) : DE := fun _ N C => ∀ Pt, isl i Pt → C (.dat (.fix Pt)) N
def tLamM (T : List Addr) (L : Lam) (clo : List (Str × Addr)) : TE := fun _ H Q => TabsN T H ∧
  ∀ f c1 pm ct H1, ExK 0 H H1 → H f = none → H1 f = some (.frz (lamO L clo pm c1 ct) (.own f)) → H1 c1 = some (CodeO c1 L.q) → Q (.ref f) H1
theorem SD.tabs {B : Bs} {Z : Addr → Prop} {δ : StD} {σ : L2.St} {H : Hp} {N : Ct} (S : SD B Z δ σ H N) : TabsN B.G.T H := fun P hP => by
  obtain ⟨k, _, ex⟩ := S.ex
  exact ex.tb P (B.tab P hP)
section
variable {X : Cx} {G : Gg}
theorem x_lam {b : Nat → (Value → Ct → Prop) → DE} (i : Nat) {k : Nat} {params : Arguments} {body : Expr} {scope : Scope} {c P : Addr} {pos : Pos} (sc : lamSB X.env.scope scope = true)
    (bind : ∀ (cl : List (Str × Addr)) (pm cv ct : Value), bindArgs (PySem.W.kla_fn "<lambda>" (X.env.qual ++ "<lambda>") params body scope cl pm cv ct) ⟨[], []⟩ = pure []) (TB : TabB X.base X.mg c P) (hcode : X.env.code = .ref c) (hP : P ∈ G.T)
    (hn : TabNames.nm P = X.env.qual ++ "<lambda>") (hdef : defaultsOf params X.env = ([], []))
    (hb : ∀ (base : Heap) (A : Around) (outer : List Env) (s : Shared) (H : Hp) (E : XK) (Er : Value → Ct → Prop) (f c1 : Addr), Room k (A.deeper (lamEnv X scope s.heap.objs.size f c1)) →
      ∃ t, XE (lamN { X with base := base } A outer s H E scope f c1) ⟨X.K, E, Er, []⟩ body t (b i Er)) :
    XE X G (.Lambda params body scope pos) (tLamM G.T ⟨X.env.qual ++ "<lambda>", params, body, scope⟩ (cloFrom X.env.cells scope.names [])) (dLam (isL X k b) i) := by
  have R : LamRun X k ⟨X.env.qual ++ "<lambda>", params, body, scope⟩ (b i) := ⟨rfl, lamS_by sc, bind, hb⟩
  refine ⟨⟨fun pins s σ H Q I h => ?_⟩, ⟨fun B Z δ σ H N C Q hB S hd q => ?_⟩⟩
  · exact lam_made (L := ⟨X.env.qual ++ "<lambda>", params, body, scope⟩) I TB hcode rfl hP hn h.1 hdef (R.sc.has I.ok) fun f c1 pm ct H1 s1 I1 e h0 hf hc => ⟨.ref f, H1, I1, rfl, h.2 f c1 pm ct H1 e h0 hf hc⟩
  · subst hB
    refine ⟨S.tabs, fun f c1 pm ct H1 e h0 hf hc => ?_⟩
    exact q (.dat (.fix _)) _ H1 0 e (Dt.fix lamP_stab ⟨c1, pm, ct, hf, hc⟩) (hd _ ⟨_, rfl, R⟩)

/-! ### a call that is handed lambdas -/
mutual
def D.cap (cap : PT → PT) : D → D
  | .fix Pt => .fix (cap Pt)
  | .tup ds => .tup (D.caps cap ds)
  | .lst ds => .lst (D.caps cap ds)
  | .v x => .v x
  | .scr ns => .scr ns
  | .bag => .bag
def D.caps (cap : PT → PT) : List D → List D
  | [] => []
  | d :: ds => D.cap cap d :: D.caps cap ds
end
@[simp] theorem cap_fix {cap : PT → PT} {Pt : PT} : D.cap cap (.fix Pt) = .fix (cap Pt) := rfl
@[simp] theorem cap_v {cap : PT → PT} {x : V} : D.cap cap (.v x) = .v x := rfl
@[simp] theorem cap_tup {cap : PT → PT} {ds : List D} : D.cap cap (.tup ds) = .tup (D.caps cap ds) := rfl
@[simp] theorem cap_lst {cap : PT → PT} {ds : List D} : D.cap cap (.lst ds) = .lst (D.caps cap ds) := rfl
@[simp] theorem caps_nil {cap : PT → PT} : D.caps cap [] = [] := rfl
@[simp] theorem caps_cons {cap : PT → PT} {d : D} {ds : List D} : D.caps cap (d :: ds) = D.cap cap d :: D.caps cap ds := rfl
theorem caps_app {cap : PT → PT} {ds es : List D} : D.caps cap (ds ++ es) = D.caps cap ds ++ D.caps cap es := by
  induction ds with
  | nil => rfl
  | cons d ds ih => simp [ih]
section
variable {K : PySem.W.Frag} {N : Ct} {H : Hp} {Z : Addr → Prop} {σ : L2.St} {δ : StD}
mutual
theorem Dt.cap (hc : ∀ i d, nth δ i = some (.dat d) → ∃ v, σ[i]? = some (some v) ∧ Dt K N H Z v d) : ∀ {v : V} {d : D}, Dt K N H Z v d → Dt K N H Z v (d.cap (capP K σ δ))
  | _, _, .v x => .v x
  | _, _, .tup h r => .tup h (DtAll.cap hc r)
  | _, _, .lst h z r => .lst h z (DtAll.cap hc r)
  | _, _, .scr h => .scr h
  | _, _, .bag hm h => .bag hm h
  | _, _, .fix s h => .fix (capP_stab s) ⟨h, hc⟩
theorem DtAll.cap (hc : ∀ i d, nth δ i = some (.dat d) → ∃ v, σ[i]? = some (some v) ∧ Dt K N H Z v d) : ∀ {vs : List V} {ds : List D}, DtAll K N H Z vs ds → DtAll K N H Z vs (D.caps (capP K σ δ) ds)
  | _, _, .nil => .nil
  | _, _, .cons h r => .cons (Dt.cap hc h) (DtAll.cap hc r)
end
end
/-- the base knows the cells of the running def -/
structure GF (X : Cx) (σ : L2.St) (base : Heap) : Prop where
  ok : X.Ok
  len : σ.length = X.N.length
  cel : ∀ y c, X.env.cells.lookup y = some c → ∃ v, base.IsCell c v
  loc : ∀ (i : Nat) (y : Str) (v : V) (c : Addr), X.N[i]? = some y → σ[i]? = some (some v) → (X.env.scope.names.lookup y = some .cell ∨ X.env.scope.names.lookup y = some .free) → X.env.cells.lookup y = some c → ∃ u, RelV v u ∧ base.IsCell c (some u)
theorem gf_ground {pins : List (Addr × Obj)} {σ : L2.St} {H : Hp} {s : Shared} (hfn : ∀ y, X.fn y = true) (I : Inv X pins σ H s) : GF X σ (ground s H X.stack) := by
  have key : ∀ {y c}, X.env.cells.lookup y = some c → ∀ v, s.heap.IsCell c v → (ground s H X.stack).IsCell c v := fun {y c} e v ⟨o, ho, hv⟩ => by
    refine ⟨o, ground_get ho (I.freeC y c e) fun hm => ?_, hv⟩
    rcases List.mem_cons.mp (I.stkSub _ hm) with z | z
    · exact I.cne y c e z
    · obtain ⟨_, o2, ho2, _⟩ := I.ok.funs.mem z
      exact absurd (Nat.lt_of_lt_of_le (Heap.lt_size ho2) (I.ok.cab y c (hfn y) e)) (Nat.lt_irrefl _)
  refine ⟨I.ok, I.len, fun y c e => ?_, fun i y v c h1 h2 h3 h4 => ?_⟩
  · obtain ⟨v, hv⟩ := I.cell y c e
    exact ⟨v, key e v hv⟩
  · obtain ⟨m, _, hl⟩ := I.loc
    have hv : Vis X.env.scope y := h3.elim (fun z => .inr (.inl z)) (fun z => .inr (.inr z))
    obtain ⟨u, r, q⟩ := hl i y v h1 h2 hv
    refine ⟨u, r, ?_⟩
    rcases q with ⟨k, _⟩ | ⟨_, c2, e2, z⟩
    · have k' : X.env.scope.names.lookup y = some .local := k
      rcases h3 with h3 | h3 <;> rw [h3] at k' <;> cases k'
    · rw [h4] at e2
      cases e2
      exact key h4 _ z
def dCallL (isl : Nat → PT → Prop) (b : Nat → (Value → Ct → Prop) → DE) (m : List Bool) (dspf : (PT → Beh → Prop) → DSp) (Er : Value → Ct → Prop) (da : DA) : DE := fun δ N C => da δ N fun ss N1 =>
  ∀ (CV : PT → Beh → Prop) (cap : PT → PT), (∀ i Pt, isl i Pt → CV (cap Pt) (behOf (b i) (keepD m δ))) → dspf CV (ss.map fun s => D.cap cap s.rd) N1 (fun s N2 => chk s.lf (C s N2)) Er
def tCallL (X : Cx) (G : Gg) (k : Nat) (dspf : (PT → Beh → Prop) → DSp) (t : TA) : TE := fun σ H Q => t σ H fun vs H1 => ∀ base, GF X σ base → lift G.K (dspf (CallsV X.prog X.w X.K X.mg base (k + 1))) vs H1 Q G.E
variable {k kk j : Nat} {b : Nat → (Value → Ct → Prop) → DE} {m : List Bool} {dspf : (PT → Beh → Prop) → DSp} {t : TA} {d : DA} {x : Str} {p pos : Pos} {e : Expr} {es : List Expr} {ps : List Str} {CX : CXT}
theorem snd_callL (hK : G.K = X.K) (h : SndA G t d) : Snd G (tCallL X G k dspf t) (dCallL (isL X k b) b m dspf G.Er d) := by
  refine ⟨fun B Z δ σ H N C Q hB S hd q => ?_⟩
  subst hB
  refine h.run B Z δ σ H N _ _ rfl S hd fun ss vs H1 k1 e1 r1 h1 base gf => ?_
  have S1 := S.ext e1
  have eok : ∀ cls H' k, ExK k H1 H' → B.G.Er cls (N + k1 + k) → B.G.E cls none H' := fun cls H' k e w => by
    obtain ⟨j, ej0, ej⟩ := S1.ex
    rw [ej0, Ct.assoc] at w
    exact B.eok cls (j + k) H' (ej.trans e) w
  have hk1 : ∀ i s, nth (keepD m δ) i = some s → ∃ d, s = .dat d := fun i s hs => (keepD_get hs).2
  have hlen : (keepD m δ).length = σ.length := keepD_length.trans S.len
  have sl : ∀ i d, nth (keepD m δ) i = some (.dat d) → ∃ v, σ[i]? = some (some v) ∧ Dt B.K (N + k1) H1 Z v d := fun i d hs => by
    obtain ⟨v, q1, q2⟩ := S1.slot i _ (keepD_get hs).1
    exact ⟨v, q1, q2⟩
  have g0 : Gro B.K (N + k1) (N + k1) Z Z00 H1 H1 := .zone (fun _ z => False.elim z) (Ct.le_refl _)
  have h2 := h1 (CallsV X.prog X.w X.K X.mg base (k + 1)) (capP X.K σ (keepD m δ)) fun i Pt hi => by
    obtain ⟨L, rfl, R⟩ := hi
    exact calls_lam R gf.ok.inj (R.sc.has gf.ok) gf.cel (fun i y v c a1 a2 a3 a4 => gf.loc i y v c a1 a2 (R.sc.free _ a3 rfl) a4) gf.len hlen hk1
  have em : (ss.map fun s => D.cap (capP X.K σ (keepD m δ)) s.rd) = D.caps (capP X.K σ (keepD m δ)) (ss.map Sl.rd) := by
    clear h1 h2 r1
    induction ss with
    | nil => rfl
    | cons s ss ih => simp [ih]
  rw [em] at h2
  have done : ∀ s v H' kk, ExK kk H1 H' → RsC B.K (N + k1 + kk) H1 H' Z00 v s → chk s.lf (C s (N + k1 + kk)) → Q v H' := fun s v H2 k2 e2 r2 h3 => by
    have e3 : N + k1 + k2 = N + (k1 + k2) := by simp only [Ct.assoc]
    rw [e3] at r2 h3
    obtain ⟨hl, h3⟩ := chk_iff.mp h3
    refine q s v H2 (k1 + k2) (e1.trans e2) ?_ h3
    cases s with
    | dat d => exact Dt.lfz r2 hl
    | own ds => exact absurd hl (by simp [Sl.lf])
    | als ds => exact r2.elim
  refine ⟨Z00, N + k1, _, _, B.G.Er, fun _ z => False.elim z, ?_, h2, done, eok⟩
  have r0 := pair_free r1
  have hKB : B.K = X.K := hK
  rw [← hKB]
  exact r0.cap fun i d hs => by
    obtain ⟨v, q1, q2⟩ := sl i d hs
    exact ⟨v, q1, q2.gro g0⟩
theorem x_callL (hC : ∀ base, Cal X.prog X.w X.K X.mg base CX x kk ps (dspf (CallsV X.prog X.w X.K X.mg base (k + 1)))) (hr : Room j X.A) (hkj : kk ≤ j) (hg : Gl X x) (hx : Passes CX X G.E) (ha : XA X G (e :: es) t d) (hfn : ∀ y, X.fn y = true := by intros; rfl) (hK : G.K = X.K := by rfl)
    (hdb : (x == ("__debug__" : Str)) = false := by decide) (he : starEach (e :: es) X.env = (false, eval e X.env) :: starEach es X.env := by rfl) (hpl : (backTo pos (starEach es X.env)).any (·.1) = false := by rfl) :
    XE X G (.Call (.Name x p) (e :: es) [] pos) (tCallL X G k dspf t) (dCallL (isL X k b) b m dspf G.Er d) := by
  refine ⟨⟨fun pins s σ H Q I h => ?_⟩, snd_callL hK ha.sn⟩
  obtain ⟨f, fd, _, hm, hk, _⟩ := hC X.base
  refine wpAny_Call_Name_kw (ld_glob I hg hm ?_ hdb)
  refine PySem.W.callWith_K (h₀ := X.base) I.ok.mod.kin hk (thn (ha.pe.run pos pins s σ H _ I h) fun us s1 hh => ?_) he hpl
  obtain ⟨vs, H1, I1, r, q⟩ := hh
  refine ⟨I1.kIn, ?_⟩
  obtain ⟨f2, fd2, F2, hm2, _, hb2⟩ := hC (ground s1 H1 X.stack)
  have ef : f2 = f := by
    rw [hm] at hm2
    cases hm2
    rfl
  subst ef
  have q2 := q (ground s1 H1 X.stack) (gf_ground hfn I1)
  rw [hK] at q2
  exact run_ground I1 F2 (hr.mono hkj) hb2 hx r q2
end

/-! ### defs with tables -/
def liftT (T : List Addr) (K : PySem.W.Frag) (dsp : DSp) : Sp := fun vs H Q E => TabsN T H ∧ lift K dsp vs H Q E
abbrev GT (K : PySem.W.Frag) (T : List Addr) : Gg := ⟨K, E0, fun _ _ => False, T⟩
section
variable {P : Program} {w : World} {K : PySem.W.Frag} {mg : Str → Option Value} {base : Heap} {T : List Addr}
theorem dokT {x qual : Str} {st : Stmt} {f : Addr} {fd : FuncData} {N ps : List Str} {k : Nat} {dsp : DSp} (F : Fun K x qual st f fd) (S : FnScope N ps (defScope st)) (len : ∀ ds n C Er, dsp ds n C Er → ds.length = ps.length)
    (hbody : ∀ (cdv : Value) (A : Around) (outer : List Env) (s : Shared) (H : Hp) (E : XK), fd.code = cdv → Room k (A.deeper (envOfC qual (defScope st) s.heap.objs.size f cdv)) →
      ∃ t d, XSs (cxOf CX0 P w K mg base N qual (defScope st) f cdv A outer s H E).nox (GT K T) (defBody st) t d ∧
        ∀ ds n C Er, dsp ds n C Er → d { nx := fun _ n' => C (.dat .non) n', rt := C } (startD ds N.length) n) : FnOk P w K mg base CX0 (k + 1) f fd ps (liftT T K dsp) := by
  obtain ⟨oc, od, kV, doc, pm, an, cdv, ct, osl, rfl, lk, hcd⟩ := F.ex
  refine fn_of lk hcd S (fun vs H Q E h => ?_) fun A outer s H vs Q E hr h => ?_
  · obtain ⟨_, Z, n, ds, C, Er, _, r, hd, _⟩ := h
    rw [r.length]
    exact len ds n C Er hd
  · obtain ⟨t, d, hx, hd⟩ := hbody cdv A outer s H E rfl hr
    obtain ⟨hT, Z, n, ds, C, Er, hz, r, hs, q, _⟩ := h
    refine ⟨t, hx.pe.nox, ?_⟩
    refine hx.sn.run ⟨GT K T, H, Z, n, fun _ _ _ _ z => z.elim, hT⟩ Z [] { nx := fun _ n' => C (.dat .non) n', rt := C } _ _ _ H n rfl ⟨fun Z' δ σ H' N' S' _ h' => ?_, fun _ _ _ _ _ _ _ z => z.elim, fun _ _ _ _ _ _ _ z => z.elim, fun s v H' N' k hN ex rt h' => ?_⟩ (sd_start (G := GT K T) hz r (fun _ _ _ _ z => z.elim) hT) (fun p hp => absurd hp (by simp)) (hd ds n C Er hs)
    · obtain ⟨j, ej, ex⟩ := S'.ex
      have ej' : N' = n + j := ej
      subst ej'
      exact q (.dat .non) .non H' j ex (Dt.v _) h'
    · have hN' : N' = n + k := hN
      subst hN'
      refine q s v H' k ex ?_ h'
      cases s with
      | dat d => exact rt
      | own ds => exact rt
      | als ds => exact rt.elim
/-! ### defs that raise -/
abbrev GE (K : PySem.W.Frag) (E : XK) (Er : Value → Ct → Prop) : Gg := ⟨K, E, Er, []⟩
theorem calE_of {x : Str} {st : Stmt} {N ps : List Str} {k : Nat} {dsp : DSp} {dd : (Value → Ct → Prop) → DS} (D : Dfd K mg x st) (S : FnScope N ps (defScope st)) (len : ∀ ds n C Er, dsp ds n C Er → ds.length = ps.length)
    (hb : ∀ (kV doc pm : Value) (an : Option Addr) (cdv ct : Value) (us : List Value), us.length = ps.length → bindArgs (PySem.W.fnOf x x (defArgs st) (defBody st) (defScope st) .none kV doc pm an cdv ct) ⟨us, []⟩ = pure (ps.zip us))
    (hbody : ∀ (f : Addr) (cdv : Value) (A : Around) (outer : List Env) (s : Shared) (H : Hp) (E : XK) (Er : Value → Ct → Prop), Room k (A.deeper (envOfC x (defScope st) s.heap.objs.size f cdv)) →
      ∃ t, XSs (cxOf (L2N.CX P w) P w K mg base N x (defScope st) f cdv A outer s H E) (GE K E Er) (defBody st) t (dd Er))
    (hd : ∀ ds n C Er, dsp ds n C Er → dd Er { nx := fun _ n' => C (.dat .non) n', rt := C } (startD ds N.length) n) : Cal P w K mg base (L2N.CX P w) x (k + 1) ps dsp := by
  obtain ⟨f, fd, F, hm⟩ := D
  refine ⟨f, fd, ?_, hm, F.kp, F.binds hb⟩
  obtain ⟨oc, od, kV, doc, pm, an, cdv, ct, osl, rfl, lk, hcd⟩ := F.ex
  refine fn_of lk hcd S (fun vs H Q E h => ?_) fun A outer s H vs Q E hr h => ?_
  · obtain ⟨Z, n, ds, C, Er, _, r, hd, _⟩ := h
    rw [r.length]
    exact len ds n C Er hd
  · obtain ⟨Z, n, ds, C, Er, hz, r, hs, q, hx⟩ := h
    obtain ⟨t, hxs⟩ := hbody f cdv A outer s H E Er hr
    refine ⟨t, hxs.pe, ?_⟩
    refine hxs.sn.run ⟨GE K E Er, H, Z, n, fun cls k H' e z => hx cls H' k e z, tabs_nil⟩ Z [] { nx := fun _ n' => C (.dat .non) n', rt := C } _ _ _ H n rfl ⟨fun Z' δ σ H' N' S' _ h' => ?_, fun _ _ _ _ _ _ _ z => z.elim, fun _ _ _ _ _ _ _ z => z.elim, fun s v H' N' k hN ex rt h' => ?_⟩ (sd_start (G := GE K E Er) hz r (fun cls k H' e z => hx cls H' k e z) tabs_nil) (fun p hp => absurd hp (by simp)) (hd ds n C Er hs)
    · obtain ⟨j, ej, ex⟩ := S'.ex
      have ej' : N' = n + j := ej
      subst ej'
      exact q (.dat .non) .non H' j ex (Dt.v _) h'
    · have hN' : N' = n + k := hN
      subst hN'
      refine q s v H' k ex ?_ h'
      cases s with
      | dat d => exact rt
      | own ds => exact rt
      | als ds => exact rt.elim
end
end DL

/-! DXf: a pair unpacked, two lists walked while an exception is handled. -/
namespace DL
open PySem PySem.Spec PyProof.Rows L2 HotX
variable [TabNames]
section
variable {prog : Program} {w : World} {A : Around} {E : Value → Shared → Prop} {s : Shared}
theorem tup_end_hot {it t x1 : Addr} {i : Nat} {items : Array Value} {Q : Option Value → Shared → Prop} (hot : HotAt A x1 s.heap) (n1 : x1 ≠ it) (hit : IsTupIter s.heap it t i) (ht : IsTup s.heap t items) (hx : items[i]? = none)
    (hQ : ∀ h1, Heap.ExtBut it s.heap h1 → Q none { s with heap := h1 }) : wpAny (model prog w) A (pyNext (.ref it)) Q E s := by
  obtain ⟨o, ho, hc, hd⟩ := id hit
  obtain ⟨ol, hol, _, nl, hdl⟩ := ht
  obtain ⟨hh, o1, vs1, e1, d1, c1⟩ := hot
  have hT : s.TypeIs (.ref it) "tuple_iterator" := ⟨o, ho, hc⟩
  unfold pyNext
  refine wpAny_bind (wpAny_attempt (wpAny_callSpecial?_slot (name := Str.ofString "__next__") hT F.slot_tuple_iterator_next (wpAny_call_entry F.slot_tuple_iterator_next hT F.entry_tuple_iterator_next ?_ (F.args_tuple_iterator_next_1 _))))
  show wpAny _ _ (field (.ref it) 0 >>= _) _ _ s
  refine wpAny_bind (wpAny_field ho hd (x := .ref t) rfl ?_)
  show wpAny _ _ (if (Value.ref t == Value.none) = true then _ else _) _ _ s
  rw [if_neg (show ¬ ((Value.ref t == Value.none) = true) from Bool.false_ne_true)]
  show wpAny _ _ (field (.ref it) 1 >>= _) _ _ s
  refine wpAny_bind (wpAny_field ho hd (x := .int i 0) rfl ?_)
  show wpAny _ _ (seqItems? (.ref t) >>= _) _ _ s
  refine wpAny_bind (wpAny_seqItems hol hdl ?_)
  simp only [Int.toNat_natCast, hx]
  refine wpAny_bind (wpAny_rule (wpAny_bind (wpAny_setField ho hd (by simp) ?_)))
  have e1' := (Heap.get?_update_other s.heap (Obj.mapFields (·.setIfInBounds 0 .none)) (Ne.symm n1)).trans e1
  show wpAny _ _ (newExc (.type "StopIteration") [] >>= _) _ _ _
  refine wpAny_bind ?_
  simp only [newExc, newTuple]
  refine wpAny_bind (wpAny_newObj_type ?_ (by size_fits))
  refine wpAny_bind (m := firstArgMember _ _) (wpAny_of_eq (a := Value.none) (by first | rfl | (simp only [firstArgMember]; rfl)) ?_)
  refine wpAny_newObj_type ?_ (by size_fits)
  refine raiseNew_hot ⟨hh, o1, vs1, Heap.get?_push_of_some _ (Heap.get?_push_of_some _ e1'), d1, c1⟩ (Nat.ne_of_lt (Heap.lt_size (Heap.get?_push_of_some _ e1'))) (Heap.get?_push_size _ rfl) rfl (by first | (simp; done) | (simp; omega)) ?_
  refine wpAny_bind (wpAny_isInstance (T := "StopIteration") (b := true) ⟨_, Heap.get?_update_self _ (Heap.get?_push_size _ rfl) rfl, rfl⟩ isSubtype_stop ?_)
  refine wpAny_pure (hQ _ fun b u nb e => ?_)
  have e2 := (Heap.get?_update_other s.heap (Obj.mapFields (·.setIfInBounds 0 .none)) (Ne.symm nb)).trans e
  rw [Heap.get?_update_other _ _ (Nat.ne_of_gt (Heap.lt_size (Heap.get?_push_of_some _ e2)))]
  exact Heap.get?_push_of_some _ (Heap.get?_push_of_some _ e2)
theorem asg_tup_hot {env : Env} {elts : List Expr} {k} {pos : Pos} {t x1 : Addr} {items : Array Value} {Q : Unit → Shared → Prop} (hot : HotAt A x1 s.heap) (ht : IsTup s.heap t items)
    (hn : (assignEach elts env).length = items.size) (hst : (assignEach elts env).findIdx? (·.1) = none)
    (h : ∀ h1, Heap.ExtBut s.heap.objs.size s.heap h1 → wpAny (model prog w) A (assignInOrder ((assignEach elts env).map (·.2)) items.toList) Q E { s with heap := h1 }) :
    wpAny (model prog w) A (assign (.Tuple elts k pos) env (.ref t)) Q E s := by
  rw [assign_Tuple]
  refine wpAny_bind (wpAny_standAt ?_)
  unfold unpack
  rw [hn, hst]
  refine wpAny_bind (wpAny_holding ?_)
  obtain ⟨ot, hot1, _⟩ := id ht
  have tl : t ≠ s.heap.objs.size := Nat.ne_of_lt (Heap.lt_size hot1)
  obtain ⟨hh, o1, vs1, e1, d1, c1⟩ := hot
  have xl : x1 ≠ s.heap.objs.size := Nat.ne_of_lt (Heap.lt_size e1)
  unfold unpackItems
  refine wpAny_bind ?_
  unfold notIterableAtAll
  refine wpAny_bind (wpAny_specialOf ht.typeIs slot_tuple_iter.lookup (wpAny_pure ?_))
  simp only [Bool.false_eq_true, if_false]
  refine wpAny_bind (wpAny_holding (iter_tuple ht ?_))
  refine wpAny_bind (wpAny_holding (draw_tuple tl items.size 0 _ _ ⟨_, Heap.get?_push_size _ rfl, rfl, rfl⟩ (ht.push _) (by omega) fun h1 hit1 sb1 => ?_))
  rw [show List.take items.size (List.drop 0 items.toList) = items.toList by rw [List.drop_zero]; exact List.take_of_length_le (by simp)]
  rw [if_neg (by simp)]
  refine wpAny_bind (wpAny_holding (tup_end_hot (x1 := x1) ⟨hh, o1, vs1, sb1.extBut _ _ xl (Heap.get?_push_of_some _ e1), d1, c1⟩ xl hit1 ((ht.push _).extBut sb1.extBut tl) (by simp) fun h2 he2 => ?_))
  simp only [Option.isSome_none, Bool.false_eq_true, if_false]
  exact wpAny_pure (h h2 fun b o nb e => he2 b o nb (sb1.extBut b o nb (Heap.get?_push_of_some _ e)))
end
/-- (a, b) = a pair -/
theorem pg_tup_hot {Y : Cx} {pins : List (Addr × Obj)} {σ : L2.St} {H : Hp} {s : Shared} {es : List Expr} {k : Nat} {pos : Pos} {t : TGs} {n : Nat} {x1 T : Addr} {xs : List V} {Q : L2.St → Hp → Prop} (h : PGs Y es t) (I : Inv Y pins σ H s) (hot : HotAt Y.A x1 s.heap) (hT : SqT Y.K H T xs) (hl : xs.length = n) (hw : t xs σ H Q)
    (hn : (assignEach es Y.env).length = n := by rfl) (hst : (assignEach es Y.env).findIdx? (·.1) = none := by rfl) :
    wpAny (model Y.prog Y.w) Y.A (assign (.Tuple es k pos) Y.env (.ref T)) (fun _ s1 => ∃ σ1 H1, Inv Y pins σ1 H1 s1 ∧ Q σ1 H1) Y.xe s := by
  obtain ⟨its, rv, ht, hz⟩ := I.tuple hT
  refine asg_tup_hot hot ht (by simp [hn, ← hl, rv.length]) hst fun h1 hx => ?_
  have I1 : Inv Y pins σ H { s with heap := h1 } := I.kept (t' := s.toks) fun b o e => hx b o (Nat.ne_of_lt (Heap.lt_size e)) e
  exact h.run pins _ σ H xs _ Q I1 (by simpa using rv) hw
/-! ### zip of two lists -/
abbrev ZSt (a b z TI TO i1 i2 : Addr) (i : Nat) (h : Heap) : Prop := IsZip h z TI TO .none ∧ IsPair h TI (.ref i1) (.ref i2) ∧ (∃ x y, IsPair h TO x y) ∧ h.IsListIter i1 a i ∧ h.IsListIter i2 b i
section
variable {Y : Cx} {pins : List (Addr × Obj)} {σ : L2.St} {H : Hp} {s : Shared} {E : Value → Shared → Prop} {a b z TI TO i1 i2 : Addr} {i : Nat} {xs ys : List V}
theorem zst_keep {h h1 : Heap} (st : ZSt a b z TI TO i1 i2 i h) (k : ∀ c ∈ [z, TI, TO, i1, i2], ∀ o, h.get? c = some o → h1.get? c = some o) : ZSt a b z TI TO i1 i2 i h1 := by
  obtain ⟨hz, hTI, ⟨x, y, hTO⟩, hi1, hi2⟩ := st
  exact ⟨k z (by simp) _ hz, k TI (by simp) _ hTI, ⟨x, y, k TO (by simp) _ hTO⟩, hi1.at fun o q => k i1 (by simp) o q, hi2.at fun o q => k i2 (by simp) o q⟩
theorem zst_obj {h : Heap} (st : ZSt a b z TI TO i1 i2 i h) : ∀ c ∈ [z, TI, TO, i1, i2], ∃ o, h.get? c = some o ∧ ∀ v, o.data ≠ .cell v := by
  obtain ⟨hz, hTI, ⟨x, y, hTO⟩, ⟨o1, e1, _, d1⟩, ⟨o2, e2, _, d2⟩⟩ := st
  intro c hc
  simp only [List.mem_cons, List.mem_nil_iff, or_false] at hc
  rcases hc with rfl | rfl | rfl | rfl | rfl
  · exact ⟨_, hz, fun v q => nomatch q⟩
  · exact ⟨_, hTI, fun v q => nomatch q⟩
  · exact ⟨_, hTO, fun v q => nomatch q⟩
  · exact ⟨o1, e1, fun v q => by rw [d1] at q; cases q⟩
  · exact ⟨o2, e2, fun v q => by rw [d2] at q; cases q⟩
/-- a pair is drawn -/
theorem zip_item_hot {elts : List Expr} {kk : Nat} {tpos : Pos} {x y : V} (D : ZipApart z TI TO i1 i2 a b) (I : Inv Y pins σ H s) (hf : ∀ c ∈ [z, TI, TO, i1, i2], FpOk Y pins H c) (st : ZSt a b z TI TO i1 i2 i s.heap) (qx : SqL Y.K H a xs) (qy : SqL Y.K H b ys)
    (hx : xs[i]? = some x) (hy : ys[i]? = some y) :
    wpAny (model Y.prog Y.w) Y.A (pyNext (.ref z)) (fun r s1 => ∃ u, r = some u ∧ wpAny (model Y.prog Y.w) Y.A (letOwnedTupleGo (.Tuple elts kk tpos) (.ref z) u) (fun _ s2 => ∃ T H1, u = .ref T ∧ H T = none ∧ H1 = upd H T (.tup [x, y]) ∧ Inv Y pins σ H1 s2 ∧ ZSt a b z TI TO i1 i2 (i + 1) s2.heap ∧ (∀ c ∈ [z, TI, TO, i1, i2], H1 c = none)) E s1) E s := by
  obtain ⟨hz, hTI, ⟨x0, y0, hTO⟩, h1, h2⟩ := st
  obtain ⟨its, rv, p, _⟩ := I.list qx
  obtain ⟨its2, rv2, p2, _⟩ := I.list qy
  obtain ⟨u, hu, ru⟩ := rv.get hx
  obtain ⟨u2, hu2, ru2⟩ := rv2.get hy
  have zl : z < s.heap.objs.size := Heap.lt_size hz
  have far : ∀ c ∈ [z, TI, TO, i1, i2], c < s.heap.objs.size := fun c hc => by
    obtain ⟨o, e, _⟩ := zst_obj (a := a) (b := b) (i := i) ⟨hz, hTI, ⟨x0, y0, hTO⟩, h1, h2⟩ c hc
    exact Heap.lt_size e
  refine wpAny_pyNext_zip_item D hz hTI hTO h1 h2 p.isList p2.isList (x := u) (y := u2) (by simpa using hu) (by simpa using hu2) fun g1 z1 TO1 j1 j2 hT hsz hk => ?_
  refine ⟨_, rfl, wpAny_letOwnedTupleGo_zip (s := { s with heap := g1 }) z1 fun g2 z2 sb => ?_⟩
  have hT2 : g2.get? s.heap.objs.size = some { cls := .type "tuple", data := .seq #[u, u2] } := (sb.2 _ (Nat.ne_of_gt zl)).trans hT
  have new : ObjOk Y.prog Y.w (upd H s.heap.objs.size (.tup [x, y])) g2 s.heap.objs.size (.tup [x, y]) := ⟨by show 2 ≤ sizeLine; decide, [u, u2], .cons ru (.cons ru2 .nil), ⟨_, hT2, rfl, _, rfl⟩⟩
  have kp : ∀ c o, c ∉ [z, TI, TO, i1, i2] → s.heap.get? c = some o → g2.get? c = some o := fun c o nc q => by
    simp only [List.mem_cons, List.mem_nil_iff, or_false, not_or] at nc
    obtain ⟨n1, n2, n3, n4, n5⟩ := nc
    exact (sb.2 c n1).trans (hk c o n1 n3 n4 n5 q)
  have J : Inv Y pins σ (upd H s.heap.objs.size (.tup [x, y])) { s with heap := g2 } := I.turnedNew (t' := s.toks) (ch := [z, TI, TO, i1, i2]) kp hf (Nat.le_refl _) new
  refine ⟨s.heap.objs.size, _, rfl, I.hok.fresh (Nat.le_refl _), rfl, J, ⟨z2, ?_, ⟨u, u2, ?_⟩, ?_, ?_⟩, fun c hc => ?_⟩
  · exact (sb.2 _ D.TIz).trans (hk _ _ D.TIz D.TITO D.TIi1 D.TIi2 hTI)
  · exact (sb.2 _ D.TOz).trans TO1
  · exact j1.at fun o q => (sb.2 _ D.i1z).trans q
  · exact j2.at fun o q => (sb.2 _ D.i2z).trans q
  · rw [upd_ne (Nat.ne_of_lt (far c hc))]
    exact (hf c hc).1
/-- the first list is over -/
theorem zip_done_hot {x1 : Addr} (hot : HotAt Y.A x1 s.heap) (nz : x1 ∉ [z, TI, TO, i1, i2]) (D : ZipApart z TI TO i1 i2 a b) (I : Inv Y pins σ H s) (hf : ∀ c ∈ [z, TI, TO, i1, i2], FpOk Y pins H c) (st : ZSt a b z TI TO i1 i2 i s.heap) (qx : SqL Y.K H a xs) (hx : xs.length ≤ i) :
    wpAny (model Y.prog Y.w) Y.A (pyNext (.ref z)) (fun r s1 => r = none ∧ Inv Y pins σ H s1) E s := by
  obtain ⟨hz, hTI, ⟨x0, y0, hTO⟩, h1, h2⟩ := st
  obtain ⟨its, rv, p, _⟩ := I.list qx
  have l1 := rv.length
  have nz' := nz
  simp only [List.mem_cons, List.mem_nil_iff, or_false, not_or] at nz'
  obtain ⟨n1, n2, n3, n4, n5⟩ := nz'
  refine zip_hot (x1 := x1) hot n1 n4 D hz hTI h1 p.isList (by simp; omega) fun g hk => ⟨rfl, I.turnedL (t' := s.toks) (ch := [z, TI, TO, i1, i2]) (fun c o nc q => ?_) hf⟩
  simp only [List.mem_cons, List.mem_nil_iff, or_false, not_or] at nc
  obtain ⟨m1, m2, m3, m4, m5⟩ := nc
  exact hk c o m1 m3 m4 m5 q
end
end DL

/-! DXg: [x for x, y in zip(xs, ys) if y] while an exception is handled. -/
namespace DL
open PySem PySem.Spec PyProof.Rows L2 HotX
open L2H (HotC Hot1 HotC.at)
variable [TabNames]
def selV : List V → List Bool → List V
  | x :: xs, true :: bs => x :: selV xs bs
  | _ :: xs, false :: bs => selV xs bs
  | _, _ => []
theorem selV_step : ∀ {xs : List V} {bs : List Bool} {i : Nat} {x : V} {y : Bool}, xs[i]? = some x → bs[i]? = some y → selV (xs.take (i + 1)) (bs.take (i + 1)) = selV (xs.take i) (bs.take i) ++ (if y = true then [x] else [])
  | [], _, _, _, _, h, _ => by simp at h
  | _ :: _, [], _, _, _, _, h => by simp at h
  | x :: xs, b :: bs, 0, u, y, h1, h2 => by
    simp at h1 h2
    subst h1 h2
    cases b <;> simp [selV]
  | x :: xs, b :: bs, i + 1, u, y, h1, h2 => by
    have ih := selV_step (xs := xs) (bs := bs) (i := i) (x := u) (y := y) (by simpa using h1) (by simpa using h2)
    cases b <;> simp only [List.take_succ_cons, selV] at ih ⊢
    · exact ih
    · rw [ih]; rfl
theorem selV_len : ∀ {xs : List V} {bs : List Bool}, (selV xs bs).length ≤ xs.length
  | [], bs => by cases bs <;> exact Nat.zero_le _
  | x :: xs, [] => Nat.zero_le _
  | x :: xs, true :: bs => Nat.succ_le_succ (selV_len (xs := xs) (bs := bs))
  | x :: xs, false :: bs => Nat.le_succ_of_le (selV_len (xs := xs) (bs := bs))
def tLcZ (ta : TA) : TE := fun σ H Q => ta σ H fun zs H1 => ∃ a b xs bs, zs = [.ref a, .ref b] ∧ H1 a = some (.lst xs) ∧ H1 b = some (.lst (bs.map V.bl)) ∧ xs.length = bs.length ∧ xs.length < 1000 ∧
  ∀ D H2, (∀ c o, H1 c = some o → H2 c = some o) → H1 D = none → H2 D = some (.lst (selV xs bs)) → Q (.ref D) H2
section
variable {X : Cx} {x y : Str} {ix iy : Nat} {scope : Scope} {e1 e2 : Expr} {ta : TA} {p1 p2 p3 p4 p5 p6 p7 pos : Pos} {kk : Nat}
theorem pe_lcZ (hot : HotC X) (hN : X.N.Nodup) (ok : BlkOk X.N X.env.scope scope [(x, ix), (y, iy)]) (hix : X.N[ix]? = some x) (hiy : X.N[iy]? = some y) (hne : ix ≠ iy) (hg : Gl X "zip") (hm : X.mg "zip" = none) (ha : PA X [e1, e2] ta)
    (lx : ∀ (s : Shared) (H : Hp) (C : Addr) (cl : List (Str × Addr)) (fp : List Addr), (X.blk s H scope (compEnvC scope cl C X.env) fp).env.scope.names.lookup x = some .local) (ly : ∀ (s : Shared) (H : Hp) (C : Addr) (cl : List (Str × Addr)) (fp : List Addr), (X.blk s H scope (compEnvC scope cl C X.env) fp).env.scope.names.lookup y = some .local)
    (dx : (x == ("__debug__" : Str)) = false := by decide) (cx : (x == ("__classdict__" : Str)) = false := by decide) (dy : (y == ("__debug__" : Str)) = false := by decide) (cy : (y == ("__classdict__" : Str)) = false := by decide)
    (hs : starEach [e1, e2] X.env = (false, eval e1 X.env) :: starEach [e2] X.env := by rfl) (hpl : (backTo p6 (starEach [e2] X.env)).any (·.1) = false := by rfl) :
    PE X (.ListComp (.Name x p1) [⟨.Tuple [.Name x p2, .Name y p3] kk p4, .Call (.Name "zip" p5) [e1, e2] [] p6, [.Name y p7], 0⟩] scope pos) (tLcZ ta) := by
  refine ⟨fun pins s σ H Q I h => ?_⟩
  rw [eval_ListComp]
  have hfree : ∀ z ∈ scope.names, z.2 = .free → ∃ c, X.env.cells.lookup z.1 = some c := fun z hz e => (ok.free z hz e).elim (fun k => I.ok.has _ (.inl k)) fun k => I.ok.has _ (.inr k)
  refine wpAny_comprehension_free (use := none) rfl (fun _ => rfl) (closure_ok hfree) ok.kind (fun z hz e => by rw [ok.uniq z hz, e]) ?_
  refine Call_ (ld_blt I hg hm PyProof.Rows.boot_zip (PyProof.Rows.callWith_type1 (thn (ha.run p6 pins s σ H _ I h) fun us s1 hh => ?_) hs hpl))
  obtain ⟨vs, H1, I1, r1, a, b, xs, bs, rfl, ha1, hb1, hl, hz, q⟩ := hh
  cases r1 with
  | cons r rr =>
    cases rr with
    | cons r2 rr =>
      cases rr
      cases r
      cases r2
      obtain ⟨its, rv, pl1, _⟩ := I1.list (.inl (.of ha1))
      obtain ⟨its2, rv2, pl2, _⟩ := I1.list (.inl (.of hb1))
      refine call_zip_2 pl1.isList pl2.isList fun g hzp hTI hTO j1 j2 hsz hk => wpAny_pyIter_zip hzp ?_
      generalize hZ : s1.heap.objs.size + 4 = z at hzp
      generalize hTIe : s1.heap.objs.size + 2 = TI at hzp hTI
      generalize hTOe : s1.heap.objs.size + 3 = TO at hzp hTO
      generalize hi1e : s1.heap.objs.size = i1 at hTI j1
      have AP : ZipApart z TI TO i1 (i1 + 1) a b := by
        rw [← hZ, ← hTIe, ← hTOe, hi1e]
        exact PySem.W.ktu_apart i1 a b (by rw [← hi1e]; exact pl1.lt) (by rw [← hi1e]; exact pl2.lt)
      rw [hi1e] at j2
      have I2 : Inv X pins σ H1 { s1 with heap := g } := I1.kept (t' := s1.toks) hk
      have f2 : ∀ c ∈ [z, TI, TO, i1, i1 + 1], FpOk X pins H1 c := fun c hc => by
        have hle : s1.heap.objs.size ≤ c := by
          simp only [List.mem_cons, List.mem_nil_iff, or_false] at hc
          omega
        exact I1.fpOk hle (I1.hok.fresh hle)
      have st2 : ZSt a b z TI TO i1 (i1 + 1) 0 g := ⟨hzp, hTI, ⟨_, _, hTO⟩, j1, j2⟩
      generalize hfp : [z, TI, TO, i1, i1 + 1] = fp at f2
      have st2obj := zst_obj st2
      rw [hfp] at st2obj
      refine wpAny_newObj_type (newEnv_comp ?_) (by show 0 ≤ sizeLine; decide)
      generalize hs2 : ({ s1 with heap := g } : Shared) = s2 at I2 ⊢
      have eg : g = s2.heap := by rw [← hs2]
      subst eg
      generalize hD : s2.heap.objs.size = D
      have hDn : H1 D = none := I2.hok.fresh (Nat.le_of_eq hD)
      generalize hs3 : ({ s2 with heap := s2.heap.push { cls := .type "list", data := .seq ([] : List Value).toArray } } : Shared) = s3
      have h3 : s3.heap = s2.heap.push { cls := .type "list", data := .seq ([] : List Value).toArray } := by rw [← hs3]
      have I3 : Inv X pins σ (upd H1 D (.lst [])) s3 := by
        rw [← hs3]
        refine I2.laid (t' := s2.toks) (fun c o e => Heap.get?_push_of_some _ e) (Nat.le_of_eq hD) ⟨Nat.zero_le _, [], 0, .nil, ?_⟩
        rw [← hD]
        exact Heap.get?_push_size _ rfl
      have lt2 : ∀ c ∈ fp, c < s2.heap.objs.size := fun c hc => by
        obtain ⟨o, e, _⟩ := st2obj c hc
        exact Heap.lt_size e
      have f3 : ∀ c ∈ fp, FpOk X pins (upd H1 D (.lst [])) c ∧ c < s3.heap.objs.size := fun c hc => by
        have hlt := lt2 c hc
        refine ⟨⟨?_, (f2 c hc).2⟩, by rw [h3, Heap.size_push]; exact Nat.lt_succ_of_lt hlt⟩
        rw [upd_ne (by rw [← hD]; exact Nat.ne_of_lt hlt)]
        exact (f2 c hc).1
      have st3 : ZSt a b z TI TO i1 (i1 + 1) 0 s3.heap := zst_keep st2 fun c _ o e => by rw [h3]; exact Heap.get?_push_of_some _ e
      have I4 := block_start I3 ok hN f3
      have hs2e : s2 = { s1 with heap := s2.heap } := hs2.symm
      have goal4 : codeAny (model X.prog X.w) X.A (.compStart (.ListComp (.Name x p1) [⟨.Tuple [.Name x p2, .Name y p3] kk p4, .Call (.Name "zip" p5) [e1, e2] [] p6, [.Name y p7], 0⟩] scope pos) 0 (.ref z) (.ref D) (compEnvC scope (cellsFrom (s3.heap.objs.size + 1) scope.names (cloFrom X.env.cells scope.names [])) s3.heap.objs.size X.env)) (compPost (model X.prog X.w) X.A X.xe none (EP X pins σ Q) (.ref D) s3.heap.objs.size) { s3 with heap := pushCells (s3.heap.push { cls := .type "dict", data := .dict #[] }) scope.names } := by
        generalize hce : compEnvC scope (cellsFrom (s3.heap.objs.size + 1) scope.names (cloFrom X.env.cells scope.names [])) s3.heap.objs.size X.env = ce at I4 ⊢
        have cL : ce.locals = s3.heap.objs.size := by rw [← hce]; rfl
        have lx' := lx s3 (upd H1 D (.lst [])) s3.heap.objs.size (cellsFrom (s3.heap.objs.size + 1) scope.names (cloFrom X.env.cells scope.names [])) fp
        have ly' := ly s3 (upd H1 D (.lst [])) s3.heap.objs.size (cellsFrom (s3.heap.objs.size + 1) scope.names (cloFrom X.env.cells scope.names [])) fp
        rw [hce] at lx' ly'
        -- the handled exception
        obtain ⟨p, ⟨hh, v1, d1, c1⟩, hp⟩ := hot
        obtain ⟨pg, ph, pl, pf, pc⟩ := I3.pin p (List.mem_append_left _ hp)
        have pstk : p.1 ∉ frs X.stack := fun hm => (List.mem_cons.mp (I3.stkSub p.1 hm)).elim pl pf
        have pfp : p.1 ∉ fp := fun hm => (f2 p.1 hm).2.2.2.2.2 p (List.mem_append_left _ hp) rfl
        have nD3 : ∀ c o, H1 c = some o → c ≠ D := fun c o e => ne_of_none e hDn
        have hH3 : upd H1 D (.lst []) D = some (.lst []) := upd_same
        have old3 : ∀ c o, H1 c = some o → upd H1 D (.lst []) c = some o := fun c o e => by rw [upd_ne (nD3 c o e)]; exact e
        have nfp : ∀ c ∈ fp, (upd H1 D (.lst [])) c = none := fun c hc => (f3 c hc).1.1
        generalize hG : upd H1 D (.lst []) = H3 at I3 I4 lx' ly' ph f3 hH3 old3 nfp
        have hotB : ∀ {σ5 : L2.St} {H5 : Hp} {s5 : Shared} {pn5 : List (Addr × Obj)}, Inv (X.blk s3 H3 scope ce fp) pn5 σ5 H5 s5 → HotAt X.A p.1 s5.heap := fun {σ5 H5 s5 pn5} J => ⟨hh, p.2, v1, J.base.keep p.1 p.2 pg ph pstk pfp, d1, c1⟩
        have stat : ∀ {σ5 : L2.St} {H5 : Hp} {s5 : Shared}, Inv (X.blk s3 H3 scope ce fp) [] σ5 H5 s5 → (∀ c ∈ fp, H5 c = none) → ∀ c ∈ fp, FpOk (X.blk s3 H3 scope ce fp) [] H5 c := fun {σ5 H5 s5} J hn c hc =>
          ⟨hn c hc, (J.ok.exf c hc).1, J.ok.exfs c hc, .inl hc, fun u d e => (J.ok.exf c hc).2 u d e, fun u hu => absurd (show u ∈ ([] : List (Addr × Obj)) ++ [] from hu) (by simp)⟩
        have names : PGs (X.blk s3 H3 scope ce fp) [.Name x p2, .Name y p3] (gCons (gName ix) (gCons (gName iy) gNil)) := pgs_cons (pg_name hN hix (.inl lx') (.inr lx')) (pgs_cons (pg_name hN hiy (.inl ly') (.inr ly')) pgs_nil)
        have tst : PTs (X.blk s3 H3 scope ce fp) [.Name y p7] (tTest (tVar iy)) := pts_one (pt_val (pe_var hiy (.inl ly') dy cy))
        have elx : PE (X.blk s3 H3 scope ce fp) (.Name x p1) (tVar ix) := pe_var hix (.inl lx') dx cx
        generalize hs4 : ({ s3 with heap := pushCells (s3.heap.push { cls := .type "dict", data := .dict #[] }) scope.names } : Shared) = s4 at I4 ⊢
        have st4 : ZSt a b z TI TO i1 (i1 + 1) 0 s4.heap := zst_keep st3 fun c _ o e => by rw [← hs4]; exact pushCells_keeps _ _ _ _ (Heap.get?_push_of_some _ e)
        have lenX : σ.length = X.N.length := I3.len
        have loop : codeAny (model X.prog X.w) X.A (.compLoop (.ListComp (.Name x p1) [⟨.Tuple [.Name x p2, .Name y p3] kk p4, .Call (.Name "zip" p5) [e1, e2] [] p6, [.Name y p7], 0⟩] scope pos) 0 (.ref z) (.ref D) ce) (compPost (model X.prog X.w) X.A X.xe none (EP X pins σ Q) (.ref D) s3.heap.objs.size) s4 := by
          refine compLoop_any (fun n s5 => ∃ i H5, Inv (X.blk s3 H3 scope ce fp) [] (wipe σ [ix, iy]) H5 s5 ∧ ZSt a b z TI TO i1 (i1 + 1) i s5.heap ∧ (∀ c ∈ fp, H5 c = none) ∧ i ≤ xs.length ∧ n = xs.length - i ∧ (∀ c o, H1 c = some o → H5 c = some o) ∧ H5 D = some (.lst (selV (xs.take i) (bs.take i)))) ?_ xs.length ⟨0, H3, I4, st4, nfp, Nat.zero_le _, rfl, old3, by simpa [selV] using hH3⟩
          rintro n s5 ⟨i, H5, I5, st5, n5, hi, rfl, o5, d5⟩
          by_cases hlt : i < xs.length
          · obtain ⟨u, hu⟩ : ∃ u, xs[i]? = some u := ⟨_, List.getElem?_eq_getElem hlt⟩
            obtain ⟨bb, hbb⟩ : ∃ bb, bs[i]? = some bb := ⟨_, List.getElem?_eq_getElem (by omega)⟩
            have hy2 : (bs.map V.bl)[i]? = some (.bl bb) := by rw [List.getElem?_map, hbb]; rfl
            have F5 := stat I5 n5
            have it := zip_item_hot (elts := [.Name x p2, .Name y p3]) (kk := kk) (tpos := p4) (E := fun _ _ => False) AP I5 (by rw [hfp]; exact F5) st5 (.inl (.of (o5 a _ ha1))) (.inl (.of (o5 b _ hb1))) hu hy2
            refine thnF it fun r s6 hr6 => ?_
            obtain ⟨uu, hr, h6⟩ := hr6
            subst hr
            refine thnF h6 fun _ s7 h7 => ?_
            obtain ⟨T, H7, rfl, hT0, rfl, I7, st7, n7⟩ := h7
            rw [hfp] at n7
            have I7' := I7.pinned (stat I7 n7) (by have w := zst_obj st7; rw [hfp] at w; exact w)
            have hTD : D ≠ T := ne_of_none d5 hT0
            -- the turn's end
            have fin : ∀ {σ8 : L2.St} {s9 : Shared} {H9 : Hp}, Inv (X.blk s3 H3 scope ce fp) ([] ++ pinsAt fp s7.heap) σ8 H9 s9 → σ8.length = σ.length → (∀ j, j ≠ ix → j ≠ iy → σ8[j]? = (wipe σ [ix, iy])[j]?) → (∀ c o, H1 c = some o → H9 c = some o) → H9 D = some (.lst (selV (xs.take (i + 1)) (bs.take (i + 1)))) →
                ∃ m, m < xs.length - i ∧ ∃ i' H', Inv (X.blk s3 H3 scope ce fp) [] (wipe σ [ix, iy]) H' s9 ∧ ZSt a b z TI TO i1 (i1 + 1) i' s9.heap ∧ (∀ c ∈ fp, H' c = none) ∧ i' ≤ xs.length ∧ m = xs.length - i' ∧ (∀ c o, H1 c = some o → H' c = some o) ∧ H' D = some (.lst (selV (xs.take i') (bs.take i'))) := fun {σ8 s9 H9} J hl8 hj o9 d9 => by
              have pinv : ∀ c ∈ fp, ∀ o, s7.heap.get? c = some o → s9.heap.get? c = some o ∧ H9 c = none := fun c hc o e =>
                let w := J.pin (c, o) (List.mem_append_right _ (List.mem_append_right _ (mem_pinsAt hc e)))
                ⟨w.1, w.2.1⟩
              refine ⟨xs.length - (i + 1), by omega, i + 1, H9, (J.unpinned (pins := [])).weak (by rw [wipe_length, hl8]) (fun j v e => ?_), zst_keep st7 fun c hc o e => (pinv c (by rw [← hfp]; exact hc) o e).1, fun c hc => ?_, hlt, rfl, o9, d9⟩
              · have w := (wipe_some e).2
                simp only [List.mem_cons, List.mem_nil_iff, or_false, not_or] at w
                rw [hj j w.1 w.2]
                exact e
              · have w := zst_obj st7
                rw [hfp] at w
                obtain ⟨o, e, _⟩ := w c hc
                exact (pinv c hc o e).2
            have o7 : ∀ c o, H1 c = some o → upd H5 T (.tup [u, .bl bb]) c = some o := fun c o e => by rw [upd_ne (ne_of_none (o5 c o e) hT0)]; exact o5 c o e
            have d7 : upd H5 T (.tup [u, .bl bb]) D = some (.lst (selV (xs.take i) (bs.take i))) := by rw [upd_ne hTD]; exact d5
            have stp := selV_step hu hbb
            have lenB : (wipe σ [ix, iy]).length = σ.length := wipe_length _ _
            have lix : ix < σ.length := by rw [lenX]; exact (List.getElem?_eq_some_iff.mp hix).1
            have liy : iy < σ.length := by rw [lenX]; exact (List.getElem?_eq_some_iff.mp hiy).1
            have asg := pg_tup_hot (Y := X.blk s3 H3 scope ce fp) (k := kk) (pos := p4) (n := 2) (Q := fun σ8 H8 => σ8 = ((wipe σ [ix, iy]).set ix (some u)).set iy (some (.bl bb)) ∧ H8 = upd H5 T (.tup [u, .bl bb])) names I7' (hotB I7') (.of upd_same) rfl ⟨u, _, rfl, .bl bb, _, rfl, rfl, rfl, rfl⟩
            refine wpAny_mono asg (fun _ s8 h8 => ?_) fun e s8 he => absurd he (by intro q; exact q)
            obtain ⟨σ8, H8, I8, rfl, rfl⟩ := h8
            have g8x : (((wipe σ [ix, iy]).set ix (some u)).set iy (some (.bl bb)))[ix]? = some (some u) := by
              rw [List.getElem?_set_ne (Ne.symm hne), List.getElem?_set_self (by rw [lenB]; exact lix)]
            have g8y : (((wipe σ [ix, iy]).set ix (some u)).set iy (some (.bl bb)))[iy]? = some (some (.bl bb)) := List.getElem?_set_self (by rw [List.length_set, lenB]; exact liy)
            have l8 : (((wipe σ [ix, iy]).set ix (some u)).set iy (some (.bl bb))).length = σ.length := by rw [List.length_set, List.length_set, lenB]
            have j8 : ∀ j, j ≠ ix → j ≠ iy → (((wipe σ [ix, iy]).set ix (some u)).set iy (some (.bl bb)))[j]? = (wipe σ [ix, iy])[j]? := fun j n1 n2 => by
              rw [List.getElem?_set_ne (Ne.symm n2), List.getElem?_set_ne (Ne.symm n1)]
            refine thnF (tst.run _ s8 _ _ (fun c H9 => c = bb ∧ H9 = upd H5 T (.tup [u, .bl bb])) I8 ⟨.bl bb, g8y, bb, rfl, rfl, rfl⟩) fun c s9 h9 => ?_
            obtain ⟨H9, I9, rfl, rfl⟩ := h9
            cases c with
            | false =>
              simp only [Bool.false_eq_true, if_false, List.append_nil] at stp ⊢
              exact fin I9 l8 j8 o7 (by rw [stp]; exact d7)
            | true =>
              simp only [if_true] at stp ⊢
              refine thnF (elx.run _ s9 _ _ (fun v H10 => v = u ∧ H10 = upd H5 T (.tup [u, .bl true])) I9 ⟨u, g8x, rfl, rfl⟩) fun w s10 h10 => ?_
              obtain ⟨yv, H10, I10, r10, rfl, rfl⟩ := h10
              have hsz : (selV (xs.take i) (bs.take i)).length < sizeLine := Nat.lt_of_le_of_lt (Nat.le_trans selV_len (by rw [List.length_take]; omega)) (size_lt (n := i) (by omega))
              refine app_ok (X := X.blk s3 H3 scope ce fp) I10 d7 hsz r10 fun s11 I11 => fin I11 l8 j8 (fun c o e => ?_) ?_
              · rw [upd_ne (nD3 c o e)]
                exact o7 c o e
              · rw [stp]
                exact upd_same
          · have ei : i = xs.length := by omega
            subst ei
            have td := zip_done_hot (Y := X.blk s3 H3 scope ce fp) (E := fun _ _ => False) (hotB I5) (by rw [hfp]; exact pfp) AP I5 (by rw [hfp]; exact stat I5 n5) st5 (.inl (.of (o5 a _ ha1))) (Nat.le_refl _)
            refine thnF td fun r s6 hr6 => ?_
            obtain ⟨hr, I6⟩ := hr6
            subst hr
            have I7 : Inv X pins σ H5 s6 := I3.call' (ch := fp) I6.os I6.base I6.hok I6.bare fun c hc => ⟨(f3 c hc).1.2.2.2.1, (f3 c hc).1.2.1, (f3 c hc).1.2.2.2.2.1, (f3 c hc).1.2.2.2.2.2⟩
            have nC : H5 s3.heap.objs.size = none := by
              have w : H5 ce.locals = none := I6.free
              rw [cL] at w
              exact w
            obtain ⟨m, hn, _⟩ := I6.loc
            have hn' : s6.heap.Ns ce.locals m := hn
            rw [cL] at hn'
            refine ⟨m, hn', fun g2 sb => ?_⟩
            obtain ⟨k0, k1, k2, k3, k4, k5⟩ := I3.fpOk (H' := H5) (Nat.le_refl _) nC
            rw [List.take_length, hl, List.take_length] at d5
            exact ⟨.ref D, H5, I7.turned (t' := s6.toks) (fun c o hb e => (sb.2 c hb).trans e) k0 k1 k3 k4 k5, rfl, q D H5 o5 hDn d5⟩
        exact codeAny_compStart_list loop (wpAny_pyIter_zip st4.1 loop)
      exact goal4
end
end DL

/-! DXh: the name of a caught error; what a call returned, or its error's name. -/
namespace DL
open PySem PySem.Spec PyProof.Rows L2 HotX
open L2H (HotC Hot1 HotC.at RoomH PinOk roomH_of cxH inv_startH)
variable [TabNames]

/-! ### isinstance(e, C), e the handled exception -/
theorem isE_of {X : Cx} {a D : Addr} {oe : Obj} (C : ExcC X.K D) (hz : Zc (.ref D) none oe) (hf : ∃ vs, oe.data = .fields vs) (hp : (a, oe) ∈ X.pn) : CallR X (.builtin "isinstance") (rIsE X.K D a) := by
  rintro pins s σ H xs us Q I r ⟨c, cv, b, rfl, hcv, e, q⟩
  obtain ⟨vs, hv⟩ := hf
  cases r with
  | cons r1 rr =>
    cases rr with
    | cons r2 rr =>
      cases rr
      cases r1
      have ec := hcv _ r2
      subst ec
      have hget := (I.pin (a, oe) (List.mem_append_left _ hp)).1
      have J : PySem.W.InstAt s.heap a oe D none := by
        obtain ⟨oc, od, oda, osl⟩ := oe
        obtain ⟨z1, z2⟩ := hz
        dsimp only at z1 z2 hv
        subst z1 z2 hv
        exact ⟨hget, rfl, rfl, trivial⟩
      refine PySem.W.kia_one (PySem.W.handS_kitx_exc C.hg C.hk C.hs C.hd C.ha C.hn C.ht C.hm) I.kIn J e (fun z => nomatch z) fun tk => ?_
      exact ⟨.bl b, H, I.kept (t' := tk) fun _ _ z => z, rfl, q⟩

/-! ### a def that is called in an except suite with the exception -/
def ErrFn (P : Program) (w : World) (K : PySem.W.Frag) (mg : Str → Option Value) (base : Heap) (k : Nat) (f : Addr) (nmv : Value → Str → Prop) : Prop :=
  ∀ (A : Around) (outer : List Env) (s : Shared) (H : Hp) (Q : VK) (a : Addr) (oe : Obj) (cls : Value) (word : Str), RoomH k A → Hot1 A (a, oe) → PinOk outer H s (a, oe) → Env0 P w K mg base A outer s H → Zc cls none oe → nmv cls word →
    (∀ H1, (∀ c o, H c = some o → H1 c = some o) → Q (.str word) H1) → codeAny (model P w) A (.call (.ref f) ⟨[.ref a], []⟩) (CR CX0 outer P w H s Q E0) s
theorem errFn_of {P : Program} {w : World} {K : PySem.W.Frag} {mg : Str → Option Value} {base : Heap} {k : Nat} {f : Addr} {x e : Str} {st : Stmt} {N : List Str} {nmv : Value → Str → Prop} {fd : FuncData} (F : Fun K x x st f fd) (S : FnScope N [e] (defScope st))
    (hb : ∀ (kV doc pm : Value) (an : Option Addr) (cdv ct : Value) (u : Value), bindArgs (PySem.W.fnOf x x (defArgs st) (defBody st) (defScope st) .none kV doc pm an cdv ct) ⟨[u], []⟩ = pure [(e, u)])
    (hbody : ∀ (cdv : Value) (A : Around) (outer : List Env) (s : Shared) (H : Hp) (Q : VK) (a : Addr) (oe : Obj) (cls : Value) (word : Str), Hot1 A (a, oe) → RoomH k (A.deeper (envOfC x (defScope st) s.heap.objs.size f cdv)) → Zc cls none oe → nmv cls word →
      (∀ H1, (∀ c o, H c = some o → H1 c = some o) → Q (.str word) H1) →
      ∃ t, PSs (cxH CX0 P w K mg base N x (defScope st) f cdv A outer s H E0 (a, oe)) (defBody st) t ∧ t { nx := fun _ H' => Q .non H', rt := Q } (L2.start N [.ref a]) H) : ErrFn P w K mg base (k + 1) f nmv := by
  obtain ⟨oc, od, kV, doc, pm, an, cdv, ct, osl, rfl, lk, hcd⟩ := F.ex
  intro A outer s H Q a oe cls word hr hot hpin e0 hz hn hq
  have KX : K.In s.heap := e0.mod.kin.keeps fun b o e => (e0.bs b o e).1
  have lim : s.heap.NoLimit := e0.mod.nolimit.keeps fun b o e => (e0.bs b o e).1
  have kinds : ∀ y ∈ ([e].zip [Value.ref a]), (defScope st).names.lookup y.1 = some .local ∨ ((defScope st).names.lookup y.1 = some .cell ∧ ((cellsFrom (s.heap.objs.size + 1) (defScope st).names []).lookup y.1).isSome = true) := fun y hy => by
    rcases S.par y.1 (List.of_mem_zip hy).1 with q | q
    · exact .inl q
    · exact .inr ⟨q, PySem.W.cellsFrom_some _ _ _ (.inl q)⟩
  refine codeAny_call_function hr.depth (KX _ _ lk) rfl S.co S.gen rfl (PySem.W.codeRec_of KX hcd) ((show BindsTo s _ ⟨[.ref a], []⟩ ([e].zip [Value.ref a]) from .of_eq (hb kV doc pm an cdv ct (.ref a))) _ _ _ _ ?_)
  refine wpAny_newFunctionEnv_cells S.kind kinds fun env he s1 xx => ?_
  subst he
  refine ⟨lim.keeps xx.toInCall.keep, codeAny_func ?_⟩
  obtain ⟨t, ht, hd⟩ := hbody cdv A outer s H Q a oe cls word hot (hr.deeper _) hz hn hq
  have I : Inv (cxH CX0 P w K mg base N x (defScope st) f cdv A outer s H E0 (a, oe)) [] (L2.start N [.ref a]) H s1 := inv_startH S hpin e0 rfl (.cons rfl .nil) xx
  refine wpAny_mono (ht.run [] s1 (L2.start N [.ref a]) H _ I hd) (fun fl s2 hs => ?_) fun _ _ z => z
  have fin : ∀ {σ1 : L2.St} {H1 : Hp} {v : V} {u : Value}, Inv (cxH CX0 P w K mg base N x (defScope st) f cdv A outer s H E0 (a, oe)) [] σ1 H1 s2 → RelV v u → Q v H1 → CE outer P w H s Q u s2 := fun {σ1 H1 v u} J rv q => ⟨v, H1, J.os, J.bare, J.base, J.hok, rv, q⟩
  cases fl with
  | ret u =>
    obtain ⟨v, σ1, H1, J, rv, q⟩ := hs
    exact fin J rv q
  | next =>
    obtain ⟨σ1, H1, J, q⟩ := hs
    exact fin (v := V.non) (u := Value.none) J rfl q
  | brk =>
    obtain ⟨_, _, _, q⟩ := hs
    exact False.elim q
  | cont =>
    obtain ⟨_, _, _, q⟩ := hs
    exact False.elim q
/-- g(e) in the suite -/
def tErr (nmv : Value → Str → Prop) (i : Nat) (a : Addr) (cls : Value) (d : Option Addr) : TE := fun σ H Q => σ[i]? = some (some (.ref a)) ∧ d = none ∧ ∃ word, nmv cls word ∧ ∀ H1, (∀ c o, H c = some o → H1 c = some o) → Q (.str word) H1
theorem pe_err {X : Cx} {a : Addr} {oe : Obj} {cls : Value} {d : Option Addr} {pn : List (Addr × Obj)} {nmv : Value → Str → Prop} {k j i : Nat} {f : Addr} {x y : Str} {p1 p2 pos : Pos} (F : ErrFn X.prog X.w X.K X.mg X.base k f nmv) (hr : Room j X.A) (hkj : k ≤ j) (hz : L2N.Zn cls d oe) (hf : ∃ vs, oe.data = .fields vs)
    (hg : Gl X x) (hm : X.mg x = some (.ref f)) (hk : PySem.W.keepIn X.K (.ref f) = true) (hN : X.N[i]? = some y) (hv : Vis X.env.scope y) (hy : (y == ("__debug__" : Str)) = false := by decide) (hy2 : (y == ("__classdict__" : Str)) = false := by decide) (hdb : (x == ("__debug__" : Str)) = false := by decide)
    (he : starEach [.Name y p2] X.env = (false, eval (.Name y p2) X.env) :: starEach [] X.env := by rfl) (hpl : (backTo pos (starEach [] X.env)).any (·.1) = false := by rfl) :
    PE (X.suite a ((a, oe) :: pn)) (.Call (.Name x p1) [.Name y p2] [] pos) (tErr nmv i a cls d) := by
  refine ⟨fun pins s σ H Q I h => ?_⟩
  obtain ⟨hi, hd, word, hw, hq⟩ := h
  subst hd
  have ha : PA (X.suite a ((a, oe) :: pn)) [.Name y p2] (tCons (tVar i) tNil) := pa_cons (pe_var hN hv hy hy2) pa_nil he
  refine wpAny_Call_Name_kw (ld_glob (X := X.suite a ((a, oe) :: pn)) I hg hm ?_ hdb)
  refine PySem.W.callWith_K (h₀ := X.base) I.ok.mod.kin hk (thn (ha.run pos pins s σ H (fun vs H1 => vs = [V.ref a] ∧ H1 = H) I ⟨.ref a, hi, rfl, rfl⟩) fun us s1 hh => ?_) he hpl
  obtain ⟨vs, H1, I1, r, ev, eH⟩ := hh
  subst ev eH
  refine ⟨I1.kIn, ?_⟩
  cases r with
  | cons r1 rr =>
    cases rr
    cases r1
    obtain ⟨P1, P2, P3, P4, P5⟩ := I1.pin (a, oe) (List.mem_append_left _ List.mem_cons_self)
    have stk := I1.stkSub
    have hpin : PinOk X.stack H1 s1 (a, oe) := ⟨P1, P2, fun hm => (List.mem_cons.mp (stk a hm)).elim P3 P4, P5⟩
    obtain ⟨ws, hws⟩ := hf
    have hr' : RoomH k (X.A.mark (some (.ref a))) := ⟨by have := (hr.mono hkj).dp; exact this, by have := (hr.mono hkj).un; exact this⟩
    refine wpAny_call (codeAny_mono (F (X.A.mark (some (.ref a))) X.stack s1 H1 Q a oe cls word hr' ⟨rfl, ws, hws, hz.2.2 ws hws⟩ hpin I1.env0 hz.zc hw hq) fun z s2 hz2 => ?_)
    cases z with
    | error e => exact (show False from hz2).elim
    | ok fl =>
      cases fl with
      | ret u => exact I1.after hz2
      | next => exact False.elim hz2
      | brk => exact False.elim hz2
      | cont => exact False.elim hz2

/-! ### x(), x a name that is called without arguments -/
def tTok (P : Program) (w : World) (K : PySem.W.Frag) (mg : Str → Option Value) (base : Heap) (k i : Nat) (W : WX) : TE := fun σ H Q => ∃ a, σ[i]? = some (some (.ref a)) ∧
  ∃ (N : Ct) (Z : Addr → Prop) (Pt : PT) (b : Beh) (C : DK) (Er : Value → Ct → Prop), Pt N H Z a ∧ CallsV P w K mg base k Pt b ∧ Zt Z H ∧ b N C Er ∧ (∀ u v H' j, ExK j H H' → RsC K (N + j) H H' Z v u → C u (N + j) → Q v H') ∧ (∀ cls H' j, ExK j H H' → Er cls (N + j) → W cls none σ H')
theorem pe_tok {X : Cx} {W : WX} {k j i : Nat} {x : Str} {p1 pos : Pos} (tk : L2N.Takes X W) (hr : Room j X.A) (hkj : k ≤ j) (hN : X.N[i]? = some x) (hv : Vis X.env.scope x) (hd : (x == ("__debug__" : Str)) = false := by decide) (hcd : (x == ("__classdict__" : Str)) = false := by decide) :
    PE X (.Call (.Name x p1) [] [] pos) (tTok X.prog X.w X.K X.mg X.base k i W) := by
  refine ⟨fun pins s σ H Q I h => ?_⟩
  obtain ⟨a, hi, N, Z, Pt, b, C, Er, hP, hc, hz, hb, hq, hx⟩ := h
  refine wpAny_Call_Name_kw (thn ((pe_var (pos := p1) (i := i) hN hv hd hcd).run pins s σ H (fun v H1 => v = .ref a ∧ H1 = H) I ⟨.ref a, hi, rfl, rfl⟩) fun u s1 hh => ?_)
  obtain ⟨v, H1, I1, r1, ev, eH⟩ := hh
  subst ev eH
  cases r1
  obtain ⟨fa, rc⟩ := hc N H1 Z a hP X.A X.stack s1 Q (WE W σ) C Er (hr.mono hkj) I1.env0 hz hb hq (fun cls H' j e w => hx cls H' j e w)
  refine PySem.W.callWith_F0 fa (wpAny_call (codeAny_mono rc fun z s2 hz2 => ?_))
  cases z with
  | error e => exact L2N.passAt tk σ pins H1 s1 e s2 I1 hz2
  | ok fl =>
    cases fl with
    | ret u => exact I1.after hz2
    | next => exact False.elim hz2
    | brk => exact False.elim hz2
    | cont => exact False.elim hz2
/-- what a call returned, or its error's name -/
def dspOut (nmv : Value → Str → Prop) (CV : PT → Beh → Prop) : DSp := fun ds N C _ => ∃ Pt b, ds = [.fix Pt] ∧ CV Pt b ∧ b N (fun s N' => ∃ d, s = .dat d ∧ C (.dat (.tup [.str "value", d])) N') (fun cls N' => ∃ word, nmv cls word ∧ C (.dat (.tup [.str word])) N')
end DL

/-! DXi: keyword-only parameters. -/
namespace DL
open PySem PySem.Spec PyProof.Rows L2
variable [TabNames]
/-- x stands at the top, with keyword-only parameters -/
def DfdK (K : PySem.W.Frag) (mg : Str → Option Value) (x : Str) (st : Stmt) (kws : List (Str × V)) : Prop := ∃ (f : Addr) (fd : FuncData), FunD K x x (defArgs st) (defBody st) (defScope st) [] kws f fd ∧ mg x = some (.ref f)
def CalK (P : Program) (w : World) (K : PySem.W.Frag) (mg : Str → Option Value) (base : Heap) (CX : CXT) (x : Str) (k : Nat) (st : Stmt) (ps : List Str) (kws : List (Str × V)) (dsp : DSp) : Prop :=
  ∃ (f : Addr) (fd : FuncData), DFn P w K mg base CX k f fd ps dsp ∧ mg x = some (.ref f) ∧ FunD K x x (defArgs st) (defBody st) (defScope st) [] kws f fd
section
variable {P : Program} {w : World} {K : PySem.W.Frag} {mg : Str → Option Value} {base : Heap}
theorem calKE_of {x : Str} {st : Stmt} {N ps : List Str} {kws : List (Str × V)} {k : Nat} {dsp : DSp} {dd : (Value → Ct → Prop) → DS} (D : DfdK K mg x st kws) (S : FnScope N ps (defScope st)) (len : ∀ ds n C Er, dsp ds n C Er → ds.length = ps.length)
    (hbody : ∀ (f : Addr) (cdv : Value) (A : Around) (outer : List Env) (s : Shared) (H : Hp) (E : XK) (Er : Value → Ct → Prop), Room k (A.deeper (envOfC x (defScope st) s.heap.objs.size f cdv)) →
      ∃ t, XSs (cxOf (L2N.CX P w) P w K mg base N x (defScope st) f cdv A outer s H E) (GE K E Er) (defBody st) t (dd Er))
    (hd : ∀ ds n C Er, dsp ds n C Er → dd Er { nx := fun _ n' => C (.dat .non) n', rt := C } (startD ds N.length) n) : CalK P w K mg base (L2N.CX P w) x (k + 1) st ps kws dsp := by
  obtain ⟨f, fd, F, hm⟩ := D
  refine ⟨f, fd, ?_, hm, F⟩
  refine F.ok S (fun vs H Q E h => ?_) fun cdv A outer s H vs Q E hr h => ?_
  · obtain ⟨Z, n, ds, C, Er, _, r, hd, _⟩ := h
    rw [r.length]
    exact len ds n C Er hd
  · obtain ⟨Z, n, ds, C, Er, hz, r, hs, q, hx⟩ := h
    obtain ⟨t, hxs⟩ := hbody f cdv A outer s H E Er hr
    refine ⟨t, hxs.pe, ?_⟩
    refine hxs.sn.run ⟨GE K E Er, H, Z, n, fun cls k H' e z => hx cls H' k e z, tabs_nil⟩ Z [] { nx := fun _ n' => C (.dat .non) n', rt := C } _ _ _ H n rfl ⟨fun Z' δ σ H' N' S' _ h' => ?_, fun _ _ _ _ _ _ _ z => z.elim, fun _ _ _ _ _ _ _ z => z.elim, fun s v H' N' k hN ex rt h' => ?_⟩ (sd_start (G := GE K E Er) hz r (fun cls k H' e z => hx cls H' k e z) tabs_nil) (fun p hp => absurd hp (by simp)) (hd ds n C Er hs)
    · obtain ⟨j, ej, ex⟩ := S'.ex
      have ej' : N' = n + j := ej
      subst ej'
      exact q (.dat .non) .non H' j ex (Dt.v _) h'
    · have hN' : N' = n + k := hN
      subst hN'
      refine q s v H' k ex ?_ h'
      cases s with
      | dat d => exact rt
      | own ds => exact rt
      | als ds => exact rt.elim
theorem calK_of {x : Str} {st : Stmt} {N ps : List Str} {kws : List (Str × V)} {k : Nat} {dsp : DSp} {dd : DS} (D : DfdK K mg x st kws) (S : FnScope N ps (defScope st)) (len : ∀ ds n C Er, dsp ds n C Er → ds.length = ps.length)
    (hbody : ∀ (f : Addr) (cdv : Value) (A : Around) (outer : List Env) (s : Shared) (H : Hp) (E : XK), Room k (A.deeper (envOfC x (defScope st) s.heap.objs.size f cdv)) →
      ∃ t, XSs (cxOf CX0 P w K mg base N x (defScope st) f cdv A outer s H E).nox (G0 K) (defBody st) t dd)
    (hd : ∀ ds n C Er, dsp ds n C Er → dd { nx := fun _ n' => C (.dat .non) n', rt := C } (startD ds N.length) n) : CalK P w K mg base CX0 x (k + 1) st ps kws dsp := by
  obtain ⟨f, fd, F, hm⟩ := D
  refine ⟨f, fd, ?_, hm, F⟩
  refine F.ok S (fun vs H Q E h => ?_) fun cdv A outer s H vs Q E hr h => ?_
  · obtain ⟨Z, n, ds, C, Er, _, r, hd, _⟩ := h
    rw [r.length]
    exact len ds n C Er hd
  · obtain ⟨Z, n, ds, C, Er, hz, r, hs, q, _⟩ := h
    obtain ⟨t, hx⟩ := hbody f cdv A outer s H E hr
    refine ⟨t, hx.pe.nox, ?_⟩
    exact body_run hx hz r (hd ds n C Er hs) q
/-- what is bound: the written ones, some that lack, the keywords', more that lack -/
theorem kbn_of {x qual : Str} {params : Arguments} {body : List Stmt} {scope : Scope} {kws : List (Str × V)} {f : Addr} {fd : FuncData} {ps : List Str} (F : FunD K x qual params body scope [] kws f fd) (n : Nat) (ks : List Str) (mid tl : List (Str × V)) (hm : ∀ q ∈ mid ++ tl, q ∈ kws) (hk : kws ≠ [])
    (h : ∀ (D : Addr) (doc pm : Value) (an : Option Addr) (cdv ct : Value) (us mv tv ws : List Value), us.length = n → mv.length = mid.length → tv.length = tl.length → ws.length = ks.length →
      KwChain D (((mid ++ tl).map (·.1)).zip (mv ++ tv)) (bindArgs (PySem.W.fnOf x qual params body scope .none (.ref D) doc pm an cdv ct) ⟨us, ks.zip ws⟩) (ps.zip (us ++ (mv ++ (ws ++ tv))))) :
    ∃ g : List Value → List Value → List Value, KBn K fd ps n ks g (fun vs zs => vs ++ (mid.map (·.2) ++ (zs ++ tl.map (·.2)))) := by
  obtain ⟨oc, od, dV, kV, doc, pm, an, cdv, ct, osl, rfl, lk, hcd, hD, hK⟩ := F.ex
  rcases hD with ⟨_, rfl⟩ | ⟨e, _⟩
  · rcases hK with e | ⟨D, rfl, hq⟩
    · exact absurd e hk
    · obtain ⟨mt, hl, rk, hks⟩ := kwd_vals (ms := mid ++ tl) fun q hq2 => hq q (hm q hq2)
      have hl2 : mt.length = mid.length + tl.length := by rw [hl, List.length_append]
      have e : mt.take mid.length ++ mt.drop mid.length = mt := List.take_append_drop _ _
      have r1 : Vals (mid.map (·.2)) (mt.take mid.length) := by
        have z := rk.take mid.length
        rw [List.map_append, List.take_append_of_le_length (by rw [List.length_map]; exact Nat.le_refl _), List.take_of_length_le (by rw [List.length_map]; exact Nat.le_refl _)] at z
        exact z
      have r2 : Vals (tl.map (·.2)) (mt.drop mid.length) := by
        have z := rk.drop mid.length
        rw [List.map_append, List.drop_append_of_le_length (by rw [List.length_map]; exact Nat.le_refl _), List.drop_of_length_le (by rw [List.length_map]; exact Nat.le_refl _), List.nil_append] at z
        exact z
      refine ⟨fun us ws => us ++ (mt.take mid.length ++ (ws ++ mt.drop mid.length)), ⟨fun s us ws X l1 l2 => ?_, fun a b => a.append (r1.append (b.append r2))⟩⟩
      refine BindsTo.of_looks fun M => KwChain.looks X (l := ((mid ++ tl).map (·.1)).zip mt) hks ?_
      have z := h D doc pm an cdv ct us (mt.take mid.length) (mt.drop mid.length) ws l1 (by rw [List.length_take]; omega) (by rw [List.length_drop]; omega) l2
      rw [e] at z
      exact z
  · exact absurd rfl e
end
/-! ### the calls -/
@[simp] def dCallK (n m : Nat) (Er : Value → Ct → Prop) (dsp : DSp) (mid tl : List V) (d dk : DA) : DE := fun δ N C => d δ N fun ss N1 => dk δ N1 fun zz N2 => chk (lenIs ss n && lenIs zz m)
  (dsp (ss.map Sl.rd ++ (mid.map D.v ++ (zz.map Sl.rd ++ tl.map D.v))) N2 (fun s N3 => chk (nalsA ss && nalsA zz || s.lf) (C s N3)) Er)
section
variable {X : Cx} {G : Gg} {n m : Nat} {mid tl : List V} {t tk : TA} {d dk : DA} {dsp : DSp} {CX : CXT} {x : Str} {st : Stmt} {ps ks : List Str} {kws : List (Str × V)} {k j : Nat} {e : Expr} {es : List Expr} {kwl : List Keyword} {p pos : Pos}
theorem snd_callK (h : SndA G t d) (hk : SndA G tk dk) :
    Snd G (tCallN n m (lift G.K dsp) (fun vs zs => vs ++ (mid ++ (zs ++ tl))) G.E t tk) (dCallK n m G.Er dsp mid tl d dk) := by
  refine ⟨fun B Z δ σ H N C Q hB S hd q => ?_⟩
  subst hB
  refine h.run B Z δ σ H N _ _ rfl S hd fun ss vs H1 k1 e1 r1 h1 => ?_
  have S1 := S.ext e1
  refine hk.run B Z δ σ H1 (N + k1) _ _ rfl S1 h1 fun zz zs H2 k2 e2 r2 h2 => ?_
  obtain ⟨h12, h2⟩ := chk_iff.mp h2
  obtain ⟨i1, i2⟩ := Bool.and_eq_true_iff.mp h12
  have S2 := S1.ext e2
  refine ⟨(paired_length r1).trans (lenIs_len i1), (paired_length r2).trans (lenIs_len i2), ?_⟩
  have eok : ∀ cls H' k, ExK k H2 H' → B.G.Er cls (N + k1 + k2 + k) → B.G.E cls none H' := fun cls H' k e w => by
    obtain ⟨j, ej0, ej⟩ := S2.ex
    rw [ej0, Ct.assoc] at w
    exact B.eok cls (j + k) H' (ej.trans e) w
  have back : ∀ {Z' : Addr → Prop} {s : Sl} {v : V} {H3 : Hp} {k3 : Ct}, (Z' = Z ∨ s.lf = true) → ExK k3 H2 H3 → RsC B.K (N + k1 + k2 + k3) H2 H3 Z' v s → C s (N + k1 + k2 + k3) → Q v H3 := fun {Z' s v H3 k3} hz e3 r3 h3 => by
    have e4 : N + k1 + k2 + k3 = N + (k1 + k2 + k3) := by simp only [Ct.assoc]
    rw [e4] at r3 h3
    refine q s v H3 (k1 + k2 + k3) ((e1.trans e2).trans e3) ?_ h3
    cases s with
    | dat d =>
      rcases hz with rfl | hz
      · exact r3
      · exact Dt.lfz r3 hz
    | own ds =>
      rcases hz with rfl | hz
      · obtain ⟨p, xs, rfl, h0, h4, r⟩ := r3
        exact ⟨p, xs, rfl, (e1.trans e2).back h0, h4, r⟩
      · exact absurd hz (by simp [Sl.lf])
    | als ds => exact r3.elim
  cases hn : nalsA ss && nalsA zz with
  | true =>
    obtain ⟨a1, a2⟩ := Bool.and_eq_true_iff.mp hn
    refine ⟨Z, N + k1 + k2, _, _, B.G.Er, S2.ztt, ((pair_all r1 a1).ex e2).append ((DtAll.ofVals mid).append ((pair_all r2 a2).append (DtAll.ofVals tl))), h2, fun s v H3 k3 e3 r3 h3 => ?_, eok⟩
    exact back (.inl rfl) e3 r3 (chk_iff.mp h3).2
  | false =>
    refine ⟨Z00, N + k1 + k2, _, _, B.G.Er, fun _ z => False.elim z, ((pair_free r1).ex e2).append ((DtAll.ofVals mid).append ((pair_free r2).append (DtAll.ofVals tl))), h2, fun s v H3 k3 e3 r3 h3 => ?_, eok⟩
    rw [hn, Bool.false_or, chk_iff] at h3
    exact back (.inr h3.1) e3 r3 h3.2
/-- the keywords' values -/
structure XK2 (X : Cx) (G : Gg) (kws : List Keyword) (t : TA) (d : DA) : Prop where
  pe : PK X kws t
  sn : SndA G t d
theorem xk_nil : XK2 X G [] tNil dNil := ⟨pk_nil, snd_nil⟩
theorem xk_cons {te : TE} {de : DE} {nm : Option Str} {kpos : Pos} (ha : XE X G e te de) (hr : XK2 X G kwl tk dk) : XK2 X G (⟨nm, e, kpos⟩ :: kwl) (tCons te tk) (dCons de dk) := ⟨pk_cons ha.pe hr.pe, snd_cons ha.sn hr.sn⟩
/-- x(e, .., y=z, ..) -/
theorem x_callK (n : Nat) (ks : List Str) (mid tl : List (Str × V)) (C : CalK X.prog X.w X.K X.mg X.base CX x k st ps kws dsp) (hr : Room j X.A) (hkj : k ≤ j) (hg : Gl X x) (hx : Passes CX X G.E) (hm : ∀ q ∈ mid ++ tl, q ∈ kws) (hk : kws ≠ [])
    (h : ∀ (D : Addr) (doc pm : Value) (an : Option Addr) (cdv ct : Value) (us mv tv ws : List Value), us.length = n → mv.length = mid.length → tv.length = tl.length → ws.length = ks.length →
      KwChain D (((mid ++ tl).map (·.1)).zip (mv ++ tv)) (bindArgs (PySem.W.fnOf x x (defArgs st) (defBody st) (defScope st) .none (.ref D) doc pm an cdv ct) ⟨us, ks.zip ws⟩) (ps.zip (us ++ (mv ++ (ws ++ tv)))))
    (ha : XA X G (e :: es) t d) (hkw : XK2 X G kwl tk dk) (hK : G.K = X.K := by rfl) (hall : (backToKw pos (keywordEach kwl X.env)).all (·.1.isSome) = true := by rfl) (hks : (backToKw pos (keywordEach kwl X.env)).filterMap (·.1) = ks := by rfl)
    (hdb : (x == ("__debug__" : Str)) = false := by decide) (he : starEach (e :: es) X.env = (false, eval e X.env) :: starEach es X.env := by rfl)
    (hpl : ((backTo pos (starEach (e :: es) X.env)).any (·.1) || (backToKw pos (keywordEach kwl X.env)).any (·.1.isNone)) = false := by rfl) :
    XE X G (.Call (.Name x p) (e :: es) kwl pos) (tCallN n ks.length (lift G.K dsp) (fun vs zs => vs ++ (mid.map (·.2) ++ (zs ++ tl.map (·.2)))) G.E t tk) (dCallK n ks.length G.Er dsp (mid.map (·.2)) (tl.map (·.2)) d dk) := by
  obtain ⟨f, fd, F, hmm, FD⟩ := C
  have F2 : FnOk X.prog X.w X.K X.mg X.base CX k f fd ps (lift G.K dsp) := by rw [hK]; exact F
  obtain ⟨g, hb⟩ := kbn_of FD n ks mid tl hm hk h
  exact ⟨pe_callN F2 (hr.mono hkj) hg hmm FD.kp hb hx ha.pe hkw.pe hall hks hdb he hpl, snd_callK ha.sn hkw.sn⟩
/-- x(e, ..): all keyword-only ones lack -/
@[simp] def dCallD (Er : Value → Ct → Prop) (dsp : DSp) (tl : List V) (d : DA) : DE := fun δ N C => d δ N fun ss N1 => dsp (ss.map Sl.rd ++ tl.map D.v) N1 (fun s N2 => chk (nalsA ss || s.lf) (C s N2)) Er
theorem snd_callD (h : SndA G t d) : Snd G (tCall (lift G.K dsp) tl G.E t) (dCallD G.Er dsp tl d) := by
  have z := snd_call (dsp := fun ds N C Er => dsp (ds ++ tl.map D.v) N C Er) h
  refine ⟨fun B Z δ σ H N C Q hB S hd q => ?_⟩
  subst hB
  have h2 := z.run B Z δ σ H N C Q rfl S hd q
  refine (h.run B Z δ σ H N (fun ss N1 => dsp (ss.map Sl.rd ++ tl.map D.v) N1 (fun s N2 => chk (nalsA ss || s.lf) (C s N2)) B.G.Er) _ rfl S hd fun ss vs H1 k1 e1 r1 h1 => ?_)
  have S1 := S.ext e1
  have eok : ∀ cls H' k, ExK k H1 H' → B.G.Er cls (N + k1 + k) → B.G.E cls none H' := fun cls H' k e w => by
    obtain ⟨j, ej0, ej⟩ := S1.ex
    rw [ej0, Ct.assoc] at w
    exact B.eok cls (j + k) H' (ej.trans e) w
  have back : ∀ {Z' : Addr → Prop} {s : Sl} {v : V} {H3 : Hp} {k3 : Ct}, (Z' = Z ∨ s.lf = true) → ExK k3 H1 H3 → RsC B.K (N + k1 + k3) H1 H3 Z' v s → C s (N + k1 + k3) → Q v H3 := fun {Z' s v H3 k3} hz e3 r3 h3 => by
    have e4 : N + k1 + k3 = N + (k1 + k3) := by simp only [Ct.assoc]
    rw [e4] at r3 h3
    refine q s v H3 (k1 + k3) (e1.trans e3) ?_ h3
    cases s with
    | dat d =>
      rcases hz with rfl | hz
      · exact r3
      · exact Dt.lfz r3 hz
    | own ds =>
      rcases hz with rfl | hz
      · obtain ⟨p, xs, rfl, h0, h4, r⟩ := r3
        exact ⟨p, xs, rfl, e1.back h0, h4, r⟩
      · exact absurd hz (by simp [Sl.lf])
    | als ds => exact r3.elim
  cases hn : nalsA ss with
  | true => exact ⟨Z, N + k1, _, _, B.G.Er, S1.ztt, (pair_all r1 hn).append (DtAll.ofVals tl), h1, fun s v H3 k3 e3 r3 h3 => back (.inl rfl) e3 r3 (chk_iff.mp h3).2, eok⟩
  | false =>
    refine ⟨Z00, N + k1, _, _, B.G.Er, fun _ z => False.elim z, (pair_free r1).append (DtAll.ofVals tl), h1, fun s v H3 k3 e3 r3 h3 => ?_, eok⟩
    rw [hn, Bool.false_or, chk_iff] at h3
    exact back (.inr h3.1) e3 r3 h3.2
theorem x_callD (n : Nat) (C : CalK X.prog X.w X.K X.mg X.base CX x k st ps kws dsp) (hr : Room j X.A) (hkj : k ≤ j) (hg : Gl X x) (hx : Passes CX X G.E) (hk : kws ≠ []) (hn : n + kws.length = ps.length)
    (h : ∀ (D : Addr) (doc pm : Value) (an : Option Addr) (cdv ct : Value) (us ks : List Value), us.length = n → ks.length = kws.length →
      KwChain D ((kws.map (·.1)).zip ks) (bindArgs (PySem.W.fnOf x x (defArgs st) (defBody st) (defScope st) .none (.ref D) doc pm an cdv ct) ⟨us, []⟩) (ps.zip (us ++ ks)))
    (ha : XA X G (e :: es) t d) (hK : G.K = X.K := by rfl) (hdb : (x == ("__debug__" : Str)) = false := by decide) (he : starEach (e :: es) X.env = (false, eval e X.env) :: starEach es X.env := by rfl) (hpl : (backTo pos (starEach es X.env)).any (·.1) = false := by rfl) :
    XE X G (.Call (.Name x p) (e :: es) [] pos) (tCall (lift G.K dsp) (kws.map (·.2)) G.E t) (dCallD G.Er dsp (kws.map (·.2)) d) := by
  obtain ⟨f, fd, F, hmm, FD⟩ := C
  have F2 : FnOk X.prog X.w X.K X.mg X.base CX k f fd ps (lift G.K dsp) := by rw [hK]; exact F
  obtain ⟨ds, rd, hb⟩ := FD.binds0 n hk hn h
  exact ⟨pe_call F2 (hr.mono hkj) hg hmm FD.kp hb rd hx ha.pe hdb he hpl, snd_callD ha.sn⟩
end
end DL

/-! DXj: words for laws that catch errors; their end. -/
namespace DL
open PySem PySem.Spec PyProof.Rows L2
variable [TabNames]
theorem pass00 {X : Cx} {E : XK} : Passes CX0 X E := fun _ _ _ _ _ _ _ h => h.elim
/-- the classes by their names -/
def cnOf (mg : Str → Option Value) (x : Str) : Value := (mg x).getD .none
def nmvOf (cn : Str → Value) (R : List Str) : Value → Str → Prop := fun cls word => word ∈ R ∧ cls = cn word
/-- x is an own exception class of the top -/
structure Exc1 (K : PySem.W.Frag) (mg : Str → Option Value) (x : Str) (C : Addr) : Prop where
  g : mg x = some (.ref C)
  kp : PySem.W.keepIn K (.ref C) = true
  made : ∃ (B newId initId : String) (bmB : List Value), ExcBaseFacts B newId initId bmB ∧ PySem.W.excIn K C bmB newId = true
  sub : PySem.W.subIn K (.ref C) (.type "BaseException") = some true
  ty : PySem.W.typeIn K (.ref C) = some (.type "type")
theorem Exc1.cn {K : PySem.W.Frag} {mg : Str → Option Value} {x : Str} {C : Addr} (e : Exc1 K mg x C) : cnOf mg x = .ref C := by
  unfold cnOf
  rw [e.g]
  rfl
theorem xs_raise_of {X : Cx} {G : Gg} {C : Addr} {x m : Str} {j : Nat} {p p2 pos pos' : Pos} (e : Exc1 X.K X.mg x C) (hc : X.calm = true) (tk : L2N.Takes X (fun cls d _ H => G.E cls d H)) (hg : Gl X x) (hdb : (x == ("__debug__" : Str)) = false := by decide) :
    XS X G (.Raise (some (.Call (.Name x p) [.Constant (.str m) j p2] [] pos)) none pos') (fun _ _ H => G.E (.ref C) none H) (dRaise G.Er (cnOf X.mg x)) := by
  obtain ⟨B, newId, initId, bmB, F, q⟩ := e.made
  rw [e.cn]
  exact xs_raise hc tk F q e.g e.kp (raises_own e.sub e.ty) hg hdb
/-! ### a script that may be written: it is not -/
theorem un_thaw {fs : List Addr} {H H2 : Hp} {h h2 : Heap} {a : Addr} {xs : List V} {o : Obj} (ha : H a = some (.lst xs)) (u : Un fs [] (upd H a (.frz o (.lst xs))) H2 h h2) : Un fs [] H H2 h h2 where
  keep := fun b ob e n => u.keep b ob e (by rw [upd_ne (fun z => by rw [z, ha] at n; cases n)]; exact n)
  slot := fun b ob e n => u.slot b ob e (by rw [upd_ne (fun z => by rw [z, ha] at n; cases n)]; exact n)
  free := fun b ob e n => u.free b ob e (by rw [upd_ne (fun z => by rw [z, ha] at n; cases n)]; exact n)
  there := u.there
  tups := fun b zs e => u.tups b zs (by rw [upd_ne (fun z => by rw [z, ha] at e; cases e)]; exact e)
  frzs := fun b ob v e => u.frzs b ob v (by rw [upd_ne (fun z => by rw [z, ha] at e; cases e)]; exact e)
  tbls := fun b ps e => u.tbls b ps (by rw [upd_ne (fun z => by rw [z, ha] at e; cases e)]; exact e)
def spThaw (sp : Sp) : Sp := fun vs H Q E => sp vs H Q E ∨ ∃ a xs, vs = [V.ref a] ∧ H a = some (.lst xs) ∧ ∀ o, sp vs (upd H a (.frz o (.lst xs))) Q E
theorem fn_thaw {P : Program} {w : World} {K : PySem.W.Frag} {mg : Str → Option Value} {base : Heap} {k : Nat} {f : Addr} {fd : FuncData} {ps : List Str} {sp : Sp} (F : FnOk P w K mg base CX0 k f fd ps sp) : FnOk P w K mg base CX0 k f fd ps (spThaw sp) := by
  refine ⟨fun vs H Q E h => ?_, fun A outer s H args us vs Q E hr e0 hb r h => ?_⟩
  · rcases h with h | ⟨a, xs, rfl, ha, h⟩
    · exact F.len _ _ _ _ h
    · exact F.len _ _ _ _ (h { cls := .none, data := .plain })
  · rcases h with h | ⟨a, xs, rfl, ha, h⟩
    · exact F.run A outer s H args us vs Q E hr e0 hb r h
    · obtain ⟨hz, its, n, rv, hg⟩ := e0.hok a _ ha
      have ne : ∀ {b : Addr} {u : HO}, H b = some u → (∀ ys, u ≠ .lst ys) → b ≠ a := fun {b u} e q z => by
        rw [z, ha] at e
        exact q xs (Option.some.inj e).symm
      have e1 : Env0 P w K mg base A outer s (upd H a (.frz _ (.lst xs))) := {
        frames := e0.frames
        mod := e0.mod
        bs := fun b o e => ⟨(e0.bs b o e).1, by rw [upd_ne (fun z => by have q := (e0.bs b o e).2; rw [z, ha] at q; cases q)]; exact (e0.bs b o e).2⟩
        bsz := e0.bsz
        funs := e0.funs
        frf := fun b hb => by rw [upd_ne (fun z => by have q := e0.frf b hb; rw [z, ha] at q; cases q)]; exact e0.frf b hb
        hok := fun b u e => by
          by_cases hb : b = a
          · rw [hb, upd_same] at e
            cases e
            rw [hb]
            exact ⟨hg, hz, its, n, rv, hg⟩
          · rw [upd_ne hb] at e
            exact (e0.hok b u e).stay (fun c v _ q => q) (fun c q => by rw [upd_ne (ne q fun ys z => by cases z)]; exact q) fun c zs q => by rw [upd_ne (ne q fun ys z => by cases z)]; exact q
        bare := e0.bare }
      refine codeAny_mono (F.run A outer s _ args us _ Q E hr e1 hb r (h _)) fun z s2 hz2 => ?_
      cases z with
      | error e => exact hz2
      | ok fl =>
        cases fl with
        | ret u =>
          obtain ⟨v, H2, q1, q2, q3, q4, q5, q6⟩ := hz2
          exact ⟨v, H2, q1, q2, un_thaw ha q3, q4, q5, q6⟩
        | next => exact hz2
        | brk => exact hz2
        | cont => exact hz2
end DL
namespace LamX
open PySem PySem.Spec PyProof.Rows L2
/-- the defs' code objects and tables, at the head's heap -/
def TabOf (K : PySem.W.Frag) (mg : Str → Option Value) (h : Heap) (m : Str) : Prop := ∀ (f c P : Addr) (o : Obj) (fd : FuncData) (e : Value) (dd : Option Addr) (vs : Array Value) (sl : Array (Option Value)), mg m = some (.ref f) → K.lookup f = some o → o.data = .func fd → fd.code = .ref c →
  K.lookup c = some ⟨e, dd, .fields vs, sl⟩ → vs[11]? = some (.ref P) → h.get? P = some { cls := .none, data := .fields #[] } ∧ PySem.W.CodeHd h c P
theorem walk_tabs {l : PySem.W.OpenLaw} {n k : Nat} {q : Program} {loose : List Str} {XP : (Str → Option Value) → Heap → Prop} {YP : World → Heap → Prop} {d : DefRec} {K : Params → PySem.W.Frag} {CX : World → CXT} {x : Str} (names : List Str) (hnm : ∀ m ∈ names, ((recsOf q).any fun e => e.name == m) = true)
    (hn : l.most = some n) (hn2 : n ≤ sizeLine) (hdf : d.params.defaults = []) (hr : Room k callerA) (hY : ∀ (w : World) (h : Heap), YP w h → (K w.params).In h)
    (F : ∀ (w : World) (mg : Str → Option Value) (fa : Addr) (h : Heap), YP w h → (K w.params).In h → h.Ns mainGlobals mg → mg d.name = some (.ref fa) → (∀ m ∈ names, TabOf (K w.params) mg h m) → LawAtS l w (K w.params) (CX w) k n x mg fa h)
    (hCX : ∀ (w : World) (H : Hp) (s : Shared) (e : Value) (s' : Shared), CX w [] H s (fun _ _ _ => False) e s' → False) :
    PySem.W.WalkO q loose XP YP l.row.toRowW d [] (fun f vs => PySem.call f vs) := by
  refine Att.attach_callB hn hdf fun w s₀ s1 mg mb fa o pm cd doc a vs ns G Y ho hd hcd hmg hobj hints hlen hbits hg => ?_
  have KX := hY w _ Y
  have tabs : ∀ m ∈ names, TabOf (K w.params) mg s1.heap m := fun m hm f c P o1 fd1 e dd vs1 sl g1 g2 g3 g4 g5 g6 => by
    obtain ⟨dL, m1, m2⟩ := List.any_eq_true.mp (hnm m hm)
    have m3 : dL.name = m := beq_iff_eq.mp m2
    obtain ⟨a2, o2, fd2, c2, P2, h1, h2, h3, h4, h5, h6⟩ := G.T.tab dL m1
    rw [m3, g1] at h1
    cases h1
    have z1 := KX _ _ g2
    rw [z1] at h2
    cases h2
    rw [g3] at h3
    cases h3
    rw [g4] at h4
    cases h4
    obtain ⟨⟨oc, vc, e1, ec, e3, e4⟩, hP⟩ := h6
    have z2 := KX _ _ g5
    rw [z2] at e1
    cases e1
    cases e3
    rw [g6] at e4
    cases e4
    obtain ⟨o3, vs3, file, tf, flags, tg, inF, text, tt, op, r0, r1, r2, r3, r4, r5, r6, r7, r8, r9, r10⟩ := h5
    rw [z2] at r0
    cases r0
    cases r1
    exact ⟨hP, _, _, file, tf, flags, tg, inF, text, tt, z2, ec, rfl, g6, r2, r3, r4, r5, r6, r10⟩
  obtain ⟨fd, cs, sp, hT, nT, C, hb, hsp, hF⟩ := F w mg fa _ Y KX G.T.g hmg tabs
  exact law_callTs KX G.T.g G.T.b G.T.builtins G.T.nolimit hg hT nT C G.T.bmain hobj hints (Nat.le_trans hlen hn2) hr hF hb (fun H hH hS => hsp H a ns hlen hbits hH hS) fun H e s2 => hCX w H s1 e s2
end LamX

/-! DXk: the exception classes of the top. -/
namespace DL
open PySem PySem.Spec PyProof.Rows L2
variable [TabNames]
def errWords : List Str := ["InvalidRule", "InvalidRides", "InvalidMenu", "InvalidNumber", "InvalidTick", "NothingToUndo"]
/-- the classes that are named, those that are raised (R), their base -/
structure ErrT (K : PySem.W.Frag) (mg : Str → Option Value) (R : List Str) (aT : Addr) (as : Str → Addr) : Prop where
  gT : mg "TicketError" = some (.ref aT)
  gA : ∀ x ∈ errWords, mg x = some (.ref (as x))
  ex : ∀ x ∈ R, Exc1 K mg x (as x)
  ec : ∀ x ∈ R, ExcC K (as x)
  em : ∀ x ∈ R, PySem.W.exmOne K (.ref (as x)) (.ref aT) = some true
  kit : ∀ x ∈ R, ∀ y ∈ errWords, PySem.W.kitOne K (.ref (as x)) (.ref (as y)) = some (decide (x = y))
def ErrE (K : PySem.W.Frag) (mg : Str → Option Value) (R : List Str) : Prop := ∃ aT as, ErrT K mg R aT as
theorem exc_of {K : PySem.W.Frag} {mg : Str → Option Value} {R : List Str} {x : Str} (h : ErrE K mg R) (hx : x ∈ R) : ∃ C, Exc1 K mg x C := by
  obtain ⟨aT, as, e⟩ := h
  exact ⟨_, e.ex x hx⟩
theorem xs_raise_in {X : Cx} {G : Gg} {x m : Str} {j : Nat} {p p2 pos pos' : Pos} (e : ∃ C, Exc1 X.K X.mg x C) (hc : X.calm = true) (tk : L2N.Takes X (fun cls d _ H => G.E cls d H)) (hg : Gl X x) (hdb : (x == ("__debug__" : Str)) = false := by decide) :
    XS X G (.Raise (some (.Call (.Name x p) [.Constant (.str m) j p2] [] pos)) none pos') (fun _ _ H => G.E (cnOf X.mg x) none H) (dRaise G.Er (cnOf X.mg x)) := by
  obtain ⟨C, e⟩ := e
  have h := xs_raise_of (m := m) (j := j) (p := p) (p2 := p2) (pos := pos) (pos' := pos') e hc tk hg hdb
  rw [← e.cn] at h
  exact h
theorem upd_old {H : Hp} {c p : Addr} {o v : HO} (e : H c = some o) (hp : H p = none) : upd H p v c = some o := (upd_ne (ne_of_none e hp)).trans e
theorem upd_diff {H : Hp} {p q : Addr} {v : HO} (hq : upd H p v q = none) : p ≠ q := fun z => by
  rw [← z, upd_same] at hq
  cases hq
/-- the name that a lambda in the def n carries -/
def qlam (n : Str) : Str := n ++ ".<locals>." ++ "<lambda>"
theorem takes0N {X : Cx} : L2N.Takes X (fun _ _ _ _ => False) := fun _ _ x => by
  obtain ⟨_, _, _, _, _, _, _, _, _, _, _, _, _, _, _, _, z⟩ := x
  exact z.elim
theorem ExK.all {H H1 : Hp} (h : ∀ c o, H c = some o → H1 c = some o) : ExK 0 H H1 := ⟨fun a o e => .inl (h a o e), fun P t => t.ext h, fun l c r => r.to (fun a xs e => h a _ e) fun ts e => h l _ e⟩
theorem sel_word : ∀ x ∈ errWords, selV (errWords.map V.str) (errWords.map fun y => decide (x = y)) = [V.str x] := by decide +kernel
theorem join_word (x : Str) : Txt.join "" [x] = x := by first | rfl | simp [Txt.join]
end DL

/-! DXm: the end of a law with tables and errors. -/
namespace DL
open PySem PySem.Spec PyProof.Rows L2
/-! ### the classes, from what the top has -/
def asOf (D0 D1 D2 D3 D4 D5 : Addr) (x : Str) : Addr := if x = "InvalidRule" then D0 else if x = "InvalidRides" then D1 else if x = "InvalidMenu" then D2 else if x = "InvalidNumber" then D3 else if x = "InvalidTick" then D4 else D5
structure ErrC (K : PySem.W.Frag) (DT : Addr) (as : Str → Addr) (x : Str) : Prop where
  kp : PySem.W.keepIn K (.ref (as x)) = true
  ex : PySem.W.excIn K (as x) [.type "ValueError", .type "Exception", .type "BaseException", .type "object"] "ValueError.__new__" = true
  sb : PySem.W.subIn K (.ref (as x)) (.type "BaseException") = some true
  ty : PySem.W.typeIn K (.ref (as x)) = some (.type "type")
  ec : ExcC K (as x)
  em : PySem.W.exmOne K (.ref (as x)) (.ref DT) = some true
  kit : ∀ y ∈ errWords, PySem.W.kitOne K (.ref (as x)) (.ref (as y)) = some (decide (x = y))
section
variable {K : PySem.W.Frag} {D DT D0 D1 D2 D3 D4 D5 : Addr} {x : Str} {b0 b1 b2 b3 b4 b5 : Bool}
theorem errC_mk (hD : asOf D0 D1 D2 D3 D4 D5 x = D) (kp : PySem.W.keepIn K (.ref D) = true) (ex : PySem.W.excIn K D [.type "ValueError", .type "Exception", .type "BaseException", .type "object"] "ValueError.__new__" = true)
    (sb : PySem.W.subIn K (.ref D) (.type "BaseException") = some true) (ty : PySem.W.typeIn K (.ref D) = some (.type "type"))
    (hg : PySem.W.findIn K (.ref D) "__getattribute__" = some (some (.builtin "BaseException.__getattribute__"))) (hk : PySem.W.findIn K (.ref D) "__getattr__" = some none) (hd : PySem.W.hasDictIn K D = true)
    (ha : PySem.W.findIn K (.ref D) "__class__" = some (some (.builtin "object.__class__"))) (hn : PySem.W.specialIn K (.builtin "object.__class__") "__get__" = some (some (.builtin "getset_descriptor.__get__"))) (ht : PySem.W.takesIn K (.builtin "object.__class__") = some true)
    (hm : PySem.W.mroIn K D (.type "object") = some true)
    (t1 : PySem.W.subIn K (.ref DT) (.type "BaseException") = some true) (t2 : PySem.W.hasDictIn K DT = true) (t3 : PySem.W.typeIn K (.ref DT) = some (.type "type")) (t4 : PySem.W.subIn K (.ref D) (.ref DT) = some true)
    (k0 : PySem.W.kitOne K (.ref D) (.ref D0) = some b0) (k1 : PySem.W.kitOne K (.ref D) (.ref D1) = some b1) (k2 : PySem.W.kitOne K (.ref D) (.ref D2) = some b2) (k3 : PySem.W.kitOne K (.ref D) (.ref D3) = some b3) (k4 : PySem.W.kitOne K (.ref D) (.ref D4) = some b4) (k5 : PySem.W.kitOne K (.ref D) (.ref D5) = some b5)
    (h0 : decide (x = "InvalidRule") = b0) (h1 : decide (x = "InvalidRides") = b1) (h2 : decide (x = "InvalidMenu") = b2) (h3 : decide (x = "InvalidNumber") = b3) (h4 : decide (x = "InvalidTick") = b4) (h5 : decide (x = "NothingToUndo") = b5) :
    ErrC K DT (asOf D0 D1 D2 D3 D4 D5) x := by
  subst hD
  refine ⟨kp, ex, sb, ty, ⟨hg, hk, sb, hd, ha, hn, ht, hm⟩, PySem.W.exm_ref t1 t2 t3 t4, fun y hy => ?_⟩
  subst h0 h1 h2 h3 h4 h5
  have e0 : asOf D0 D1 D2 D3 D4 D5 "InvalidRule" = D0 := if_pos rfl
  have e1 : asOf D0 D1 D2 D3 D4 D5 "InvalidRides" = D1 := (if_neg (by decide)).trans (if_pos rfl)
  have e2 : asOf D0 D1 D2 D3 D4 D5 "InvalidMenu" = D2 := (if_neg (by decide)).trans ((if_neg (by decide)).trans (if_pos rfl))
  have e3 : asOf D0 D1 D2 D3 D4 D5 "InvalidNumber" = D3 := (if_neg (by decide)).trans ((if_neg (by decide)).trans ((if_neg (by decide)).trans (if_pos rfl)))
  have e4 : asOf D0 D1 D2 D3 D4 D5 "InvalidTick" = D4 := (if_neg (by decide)).trans ((if_neg (by decide)).trans ((if_neg (by decide)).trans ((if_neg (by decide)).trans (if_pos rfl))))
  have e5 : asOf D0 D1 D2 D3 D4 D5 "NothingToUndo" = D5 := (if_neg (by decide)).trans ((if_neg (by decide)).trans ((if_neg (by decide)).trans ((if_neg (by decide)).trans (if_neg (by decide)))))
  rcases List.mem_cons.mp hy with rfl | hy
  · rw [e0]; exact k0
  rcases List.mem_cons.mp hy with rfl | hy
  · rw [e1]; exact k1
  rcases List.mem_cons.mp hy with rfl | hy
  · rw [e2]; exact k2
  rcases List.mem_cons.mp hy with rfl | hy
  · rw [e3]; exact k3
  rcases List.mem_cons.mp hy with rfl | hy
  · rw [e4]; exact k4
  rcases List.mem_cons.mp hy with rfl | hy
  · rw [e5]; exact k5
  cases hy
theorem errE_mk {mg : Str → Option Value} {h : Heap} {R : List Str} (X : K.In h) (G : h.Ns mainGlobals mg) (aT : PySem.W.nsIn K mainGlobals "TicketError" = some (some (.ref DT)))
    (a0 : PySem.W.nsIn K mainGlobals "InvalidRule" = some (some (.ref D0))) (a1 : PySem.W.nsIn K mainGlobals "InvalidRides" = some (some (.ref D1))) (a2 : PySem.W.nsIn K mainGlobals "InvalidMenu" = some (some (.ref D2)))
    (a3 : PySem.W.nsIn K mainGlobals "InvalidNumber" = some (some (.ref D3))) (a4 : PySem.W.nsIn K mainGlobals "InvalidTick" = some (some (.ref D4))) (a5 : PySem.W.nsIn K mainGlobals "NothingToUndo" = some (some (.ref D5)))
    (hs : ∀ x ∈ R, x ∈ errWords) (hR : ∀ x ∈ R, ErrC K DT (asOf D0 D1 D2 D3 D4 D5) x) : ErrE K mg R := by
  have e0 : asOf D0 D1 D2 D3 D4 D5 "InvalidRule" = D0 := if_pos rfl
  have e1 : asOf D0 D1 D2 D3 D4 D5 "InvalidRides" = D1 := (if_neg (by decide)).trans (if_pos rfl)
  have e2 : asOf D0 D1 D2 D3 D4 D5 "InvalidMenu" = D2 := (if_neg (by decide)).trans ((if_neg (by decide)).trans (if_pos rfl))
  have e3 : asOf D0 D1 D2 D3 D4 D5 "InvalidNumber" = D3 := (if_neg (by decide)).trans ((if_neg (by decide)).trans ((if_neg (by decide)).trans (if_pos rfl)))
  have e4 : asOf D0 D1 D2 D3 D4 D5 "InvalidTick" = D4 := (if_neg (by decide)).trans ((if_neg (by decide)).trans ((if_neg (by decide)).trans ((if_neg (by decide)).trans (if_pos rfl))))
  have e5 : asOf D0 D1 D2 D3 D4 D5 "NothingToUndo" = D5 := (if_neg (by decide)).trans ((if_neg (by decide)).trans ((if_neg (by decide)).trans ((if_neg (by decide)).trans (if_neg (by decide)))))
  have gA : ∀ x ∈ errWords, mg x = some (.ref (asOf D0 D1 D2 D3 D4 D5 x)) := fun x hx => by
    rcases List.mem_cons.mp hx with rfl | hx
    · rw [e0]; exact PySem.W.mg_of X G a0
    rcases List.mem_cons.mp hx with rfl | hx
    · rw [e1]; exact PySem.W.mg_of X G a1
    rcases List.mem_cons.mp hx with rfl | hx
    · rw [e2]; exact PySem.W.mg_of X G a2
    rcases List.mem_cons.mp hx with rfl | hx
    · rw [e3]; exact PySem.W.mg_of X G a3
    rcases List.mem_cons.mp hx with rfl | hx
    · rw [e4]; exact PySem.W.mg_of X G a4
    rcases List.mem_cons.mp hx with rfl | hx
    · rw [e5]; exact PySem.W.mg_of X G a5
    cases hx
  exact ⟨DT, _, PySem.W.mg_of X G aT, gA, fun x hx => ⟨gA x (hs x hx), (hR x hx).kp, ⟨_, _, _, _, PySem.F.excBase_ValueError, (hR x hx).ex⟩, (hR x hx).sb, (hR x hx).ty⟩, fun x hx => (hR x hx).ec, fun x hx => (hR x hx).em, fun x hx => (hR x hx).kit⟩
end
/-! ### keyword-only defaults -/
section
variable {K : PySem.W.Frag} {x qual : Str} {st : Stmt} {f Dk : Addr} {od an : Option Addr} {oc doc pm cdv ct : Value} {sl : Array (Option Value)} {kws : List (Str × V)}
theorem funK_mk (l : K.lookup f = some ⟨oc, od, .func (PySem.W.fnOf x qual (defArgs st) (defBody st) (defScope st) .none (.ref Dk) doc pm an cdv ct), sl⟩) (c : PySem.W.codeIn K cdv qual = true) (k : PySem.W.keepIn K (.ref f) = true)
    (hq : ∀ q ∈ kws, ∃ u, PySem.W.nsIn K Dk q.1 = some (some u) ∧ RelV q.2 u) : FunD K x qual (defArgs st) (defBody st) (defScope st) [] kws f (PySem.W.fnOf x qual (defArgs st) (defBody st) (defScope st) .none (.ref Dk) doc pm an cdv ct) :=
  ⟨⟨_, _, _, _, _, _, _, _, _, _, rfl, l, c, .inl ⟨rfl, rfl⟩, .inr ⟨Dk, rfl, hq⟩⟩, k⟩
end
/-! ### the end -/
theorem end_lawT [TabNames] {K : PySem.W.Frag} {H : Hp} {a : Addr} {T : List Addr} {ns : List Int} {dsp : DSp} (hd : dsp [.scr ns] 20000 (fun s _ => s = .dat (.bl true)) (fun _ _ => False)) (hT : ∀ P ∈ T, H P = some (.tbl #[])) (hS : SqL K H a (ns.map V.int)) :
    spThaw (liftT T K dsp) [.ref a] H (fun v _ => v = .bl true) (fun _ _ _ => False) := by
  have key : ∀ H : Hp, (∀ P ∈ T, H P = some (.tbl #[])) → SqF K H a (ns.map V.int) → liftT T K dsp [.ref a] H (fun v _ => v = .bl true) (fun _ _ _ => False) := fun H hT hf => by
    refine ⟨fun P hP => LamX.TabS.nil (hT P hP), Z00, 20000, [.scr ns], fun s _ => s = .dat (.bl true), fun _ _ => False, fun _ z => z.elim, .cons (.scr hf) .nil, hd, fun s v H' k _ r hs => ?_, fun _ _ _ _ z => z.elim⟩
    have hs' : s = .dat (.bl true) := hs
    subst hs'
    cases r; rfl
  rcases hS with (h | h) | h
  · refine .inr ⟨a, _, rfl, h, fun o => key _ (fun P hP => ?_) (.inl ⟨o, upd_same⟩)⟩
    have q := hT P hP
    rw [upd_ne (fun z => by rw [z, h] at q; cases q)]
    exact q
  · exact .inl (key H hT (.inl h))
  · exact .inl (key H hT (.inr h))
/-- the law's table, at the head -/
theorem law_tab {l : PySem.W.OpenLaw} {w : World} {K : PySem.W.Frag} {mg : Str → Option Value} {h : Heap} {k n : Nat} {y : Str} {fa c P0 : Addr} {fd : FuncData} {o : Obj} {e : Value} {dd : Option Addr} {vs : Array Value} {sl : Array (Option Value)} {dsp : DSp} (q : Str)
    (tabs : LamX.TabOf K mg h "law") (hm : mg "law" = some (.ref fa)) (lf : K.lookup fa = some o) (ho : o.data = .func fd) (hc : fd.code = .ref c) (lc : K.lookup c = some ⟨e, dd, .fields vs, sl⟩) (lv : vs[11]? = some (.ref P0)) (nP : K.lookup P0 = none)
    (hb : ∀ (s : Shared) (u : Value), BindsTo s fd ⟨[u], []⟩ [(y, u)]) (hd : ∀ ns : List Int, ns.length ≤ n → dsp [.scr ns] 20000 (fun s _ => s = .dat (.bl true)) (fun _ _ => False))
    (F : ∀ (_ : TabNames) (base : Heap), TabNames.nm P0 = q → K.In base → base.Ns mainGlobals mg → LamX.TabB base mg c P0 → FnOk l.prog w K mg base CX0 k fa fd [y] (liftT [P0] K dsp)) : LamX.LawAtS l w K CX0 k n y mg fa h := by
  obtain ⟨t1, t2⟩ := tabs fa c P0 o fd e dd vs sl hm lf ho hc lc lv
  letI : TabNames := ⟨fun _ => q⟩
  refine ⟨fd, [(c, P0)], spThaw (liftT [P0] K dsp), fun p hp => ?_, fun p hp => ?_, fun p hp => ?_, hb, fun H a ns hl _ hH hS => ?_, fun base h1 h2 h3 => fn_thaw (F _ base rfl h1 h2 (h3 _ (List.mem_singleton.mpr rfl)))⟩
  · obtain rfl := List.mem_singleton.mp hp
    exact t1
  · obtain rfl := List.mem_singleton.mp hp
    exact nP
  · obtain rfl := List.mem_singleton.mp hp
    exact t2
  · refine end_lawT (hd ns hl) (fun P hP => ?_) hS
    obtain rfl := List.mem_singleton.mp hP
    exact hH (c, P) (List.mem_singleton.mpr rfl)
end DL

/-! DXn: more defs that raise; defs that make lambdas, called. -/
namespace DL
open PySem PySem.Spec PyProof.Rows L2
variable [TabNames]

theorem cxUpN {P : Program} {w : World} : StX.CXUp (L2N.CX P w) := by
  rintro outer s H s2 H2 E e s' un kp ho ⟨a, B, H', cls, d, ea, fl, hok, ub, na, os, ag, he⟩
  refine ⟨a, B, H', cls, d, ea, fl, hok, ⟨fun b o q n hb => ub.keep b o (kp b o q) (un.free b o q n (by simp)) hb, fun b o q hb => ub.slot b o (kp b o q) hb, fun b o q n => ub.free b o (kp b o q) (un.free b o q n (by simp)),
    fun b o q hb => ub.there b o (kp b o q) hb, fun b xs q => ub.tups b xs (un.tups b xs q), fun b o xs q => ub.frzs b o xs (un.frzs b o xs q), fun b ps q => ?_⟩, na, os.trans ho, ag, he⟩
  obtain ⟨m1, e1⟩ := un.tbls b ps q
  obtain ⟨m2, e2⟩ := ub.tbls b _ e1
  exact ⟨m1 ++ m2, by rw [e2, Array.append_assoc]⟩
section
variable {P : Program} {w : World} {K : PySem.W.Frag} {mg : Str → Option Value} {base : Heap}
/-- a raising body by data, from its first values -/
theorem bodyE_run {X : Cx} {sts : List Stmt} {t : TS} {dd : DS} {NN : List Str} {vs : List V} {ds : List D} {H : Hp} {Z : Addr → Prop} {n : Ct} {C : DK} {Q : VK} {E : XK} {Er : Value → Ct → Prop} (hxs : XSs X (GE K E Er) sts t dd) (hz : Zt Z H) (r : DtAll K n H Z vs ds)
    (hd : dd { nx := fun _ n' => C (.dat .non) n', rt := C } (startD ds NN.length) n) (q : ∀ s v H' k, ExK k H H' → RsC K (n + k) H H' Z v s → C s (n + k) → Q v H') (hx : ∀ cls H' k, ExK k H H' → Er cls (n + k) → E cls none H') : t { nx := fun _ H' => Q .non H', rt := Q } (start NN vs) H := by
  refine hxs.sn.run ⟨GE K E Er, H, Z, n, fun cls k H' e z => hx cls H' k e z, tabs_nil⟩ Z [] { nx := fun _ n' => C (.dat .non) n', rt := C } _ _ _ H n rfl ⟨fun Z' δ σ H' N' S' _ h' => ?_, fun _ _ _ _ _ _ _ z => z.elim, fun _ _ _ _ _ _ _ z => z.elim, fun s v H' N' k hN ex rt h' => ?_⟩ (sd_start (G := GE K E Er) hz r (fun cls k H' e z => hx cls H' k e z) tabs_nil) (fun p hp => absurd hp (by simp)) hd
  · obtain ⟨j, ej, ex⟩ := S'.ex
    have ej' : N' = n + j := ej
    subst ej'
    exact q (.dat .non) .non H' j ex (Dt.v _) h'
  · have hN' : N' = n + k := hN
    subst hN'
    refine q s v H' k ex ?_ h'
    cases s with
    | dat d => exact rt
    | own ds => exact rt
    | als ds => exact rt.elim
/-- a raising def, wherever it stands -/
theorem fnE_of {x qual : Str} {st : Stmt} {kws : List (Str × V)} {f : Addr} {fd : FuncData} {N ps : List Str} {k : Nat} {dsp : DSp} {dd : (Value → Ct → Prop) → DS} (F : FunD K x qual (defArgs st) (defBody st) (defScope st) [] kws f fd) (S : FnScope N ps (defScope st)) (len : ∀ ds n C Er, dsp ds n C Er → ds.length = ps.length)
    (hbody : ∀ (f : Addr) (cdv : Value) (A : Around) (outer : List Env) (s : Shared) (H : Hp) (E : XK) (Er : Value → Ct → Prop), Room k (A.deeper (envOfC qual (defScope st) s.heap.objs.size f cdv)) →
      ∃ t, XSs (cxOf (L2N.CX P w) P w K mg base N qual (defScope st) f cdv A outer s H E) (GE K E Er) (defBody st) t (dd Er))
    (hd : ∀ ds n C Er, dsp ds n C Er → dd Er { nx := fun _ n' => C (.dat .non) n', rt := C } (startD ds N.length) n) : DFn P w K mg base (L2N.CX P w) (k + 1) f fd ps dsp := by
  refine F.ok S (fun vs H Q E h => ?_) fun cdv A outer s H vs Q E hr h => ?_
  · obtain ⟨Z, n, ds, C, Er, _, r, hd, _⟩ := h
    rw [r.length]
    exact len ds n C Er hd
  · obtain ⟨Z, n, ds, C, Er, hz, r, hs, q, hx⟩ := h
    obtain ⟨t, hxs⟩ := hbody f cdv A outer s H E Er hr
    exact ⟨t, hxs.pe, bodyE_run hxs hz r (hd ds n C Er hs) q hx⟩
/-- a raising def with *args, wherever it stands -/
theorem fnRE_of {x qual pv : Str} {st : Stmt} {f : Addr} {fd : FuncData} {N ps : List Str} {k : Nat} {dsp : DSp} {dd : (Value → Ct → Prop) → DS} (F : Fun K x qual st f fd) (S : FnScope N (ps ++ [pv]) (defScope st))
    (hb : ∀ (kV doc pm : Value) (an : Option Addr) (cdv ct : Value) (us rest : List Value), us.length = ps.length → bindArgs (PySem.W.fnOf x qual (defArgs st) (defBody st) (defScope st) .none kV doc pm an cdv ct) ⟨us ++ rest, []⟩ = (newTuple rest >>= fun t => pure (ps.zip us ++ [(pv, t)])))
    (hbody : ∀ (f : Addr) (cdv : Value) (A : Around) (outer : List Env) (s : Shared) (H : Hp) (E : XK) (Er : Value → Ct → Prop), Room k (A.deeper (envOfC qual (defScope st) s.heap.objs.size f cdv)) →
      ∃ t, XSs (cxOf (L2N.CX P w) P w K mg base N qual (defScope st) f cdv A outer s H E) (GE K E Er) (defBody st) t (dd Er))
    (hd : ∀ ds n C Er, dsp ds n C Er → dd Er { nx := fun _ n' => C (.dat .non) n', rt := C } (startD ds N.length) n) : FnR P w K mg base (L2N.CX P w) (k + 1) f (lift K (dspStar ps.length dsp)) := by
  obtain ⟨oc, od, kV, doc, pm, an, cdv, ct, osl, rfl, lk, hcd⟩ := F.ex
  refine FnR.imp (StX.fn_star (sp := lift K dsp) (k := k) lk hcd S cxUpN (hb kV doc pm an cdv ct) fun A outer s H vs Q E hr hsp => ?_) (fun vs H Q E h => lift_star h)
  obtain ⟨Z, n, ds, C, Er, hz, r, hs, q, hx⟩ := hsp
  obtain ⟨t, hxs⟩ := hbody f cdv A outer s H E Er hr
  exact ⟨t, hxs.pe, bodyE_run hxs hz r (hd ds n C Er hs) q hx⟩
theorem calRE_of {x pv : Str} {st : Stmt} {N ps : List Str} {k : Nat} {dsp : DSp} {dd : (Value → Ct → Prop) → DS} (D : Dfd K mg x st) (S : FnScope N (ps ++ [pv]) (defScope st))
    (hb : ∀ (kV doc pm : Value) (an : Option Addr) (cdv ct : Value) (us rest : List Value), us.length = ps.length → bindArgs (PySem.W.fnOf x x (defArgs st) (defBody st) (defScope st) .none kV doc pm an cdv ct) ⟨us ++ rest, []⟩ = (newTuple rest >>= fun t => pure (ps.zip us ++ [(pv, t)])))
    (hbody : ∀ (f : Addr) (cdv : Value) (A : Around) (outer : List Env) (s : Shared) (H : Hp) (E : XK) (Er : Value → Ct → Prop), Room k (A.deeper (envOfC x (defScope st) s.heap.objs.size f cdv)) →
      ∃ t, XSs (cxOf (L2N.CX P w) P w K mg base N x (defScope st) f cdv A outer s H E) (GE K E Er) (defBody st) t (dd Er))
    (hd : ∀ ds n C Er, dsp ds n C Er → dd Er { nx := fun _ n' => C (.dat .non) n', rt := C } (startD ds N.length) n) : CalR P w K mg base (L2N.CX P w) x (k + 1) (dspStar ps.length dsp) := by
  obtain ⟨f, fd, F, hm⟩ := D
  exact ⟨f, fnRE_of F S hb hbody hd, hm, F.kp⟩

theorem fd0_of {x qual : Str} {st : Stmt} {f : Addr} {fd : FuncData} (F : Fun K x qual st f fd) : FunD K x qual (defArgs st) (defBody st) (defScope st) [] [] f fd := by
  obtain ⟨oc, od, kV, doc, pm, an, cdv, ct, osl, e, lk, hcd⟩ := F.ex
  exact ⟨⟨oc, od, .none, kV, doc, pm, an, cdv, ct, osl, e, lk, hcd, .inl ⟨rfl, rfl⟩, .inl rfl⟩, F.kp⟩
/-! ### a def that makes lambdas -/
def CalT (P : Program) (w : World) (K : PySem.W.Frag) (mg : Str → Option Value) (base : Heap) (CX : CXT) (x : Str) (k : Nat) (T : List Addr) (ps : List Str) (dsp : DSp) : Prop :=
  ∃ (f : Addr) (fd : FuncData), FnOk P w K mg base CX k f fd ps (liftT T K dsp) ∧ mg x = some (.ref f) ∧ PySem.W.keepIn K (.ref f) = true ∧ Binds K fd ps []
end
section
variable {X : Cx} {G : Gg} {CX : CXT} {j k : Nat} {T : List Addr} {ps : List Str} {dsp : DSp} {x : Str} {p pos : Pos} {e : Expr} {es : List Expr} {t : TA} {d : DA}
theorem snd_callT (hT : ∀ P ∈ T, P ∈ G.T) (h : SndA G t d) : Snd G (tCall (liftT T G.K dsp) [] G.E t) (dCall G.Er dsp d) := by
  have z := snd_call (dsp := dsp) h
  refine ⟨fun B Z δ σ H N C Q hB S hd q => ?_⟩
  subst hB
  have key : t σ H (fun vs H1 => lift B.G.K dsp (vs ++ []) H1 Q B.G.E ∧ TabsN T H1) := by
    refine h.run B Z δ σ H N _ _ rfl S hd fun ss vs H1 k1 e1 r1 h1 => ?_
    have S1 := S.ext e1
    refine ⟨?_, fun P hP => S1.tabs P (hT P hP)⟩
    have eok : ∀ cls H' k, ExK k H1 H' → B.G.Er cls (N + k1 + k) → B.G.E cls none H' := fun cls H' k e w => by
      obtain ⟨j, ej0, ej⟩ := S1.ex
      rw [ej0, Ct.assoc] at w
      exact B.eok cls (j + k) H' (ej.trans e) w
    rw [List.append_nil]
    cases hn : nalsA ss with
    | true =>
      refine ⟨Z, N + k1, ss.map Sl.rd, _, B.G.Er, S1.ztt, pair_all r1 hn, h1, fun s v H2 k2 e2 r2 h2 => ?_, eok⟩
      have e3 : N + k1 + k2 = N + (k1 + k2) := by simp only [Ct.assoc]
      rw [e3] at r2 h2
      refine q s v H2 (k1 + k2) (e1.trans e2) ?_ (chk_iff.mp h2).2
      cases s with
      | dat d => exact r2
      | own ds =>
        obtain ⟨p, xs, rfl, h0, h3, r⟩ := r2
        exact ⟨p, xs, rfl, e1.back h0, h3, r⟩
      | als ds => exact r2.elim
    | false =>
      refine ⟨Z00, N + k1, ss.map Sl.rd, _, B.G.Er, fun _ z => False.elim z, pair_free r1, h1, fun s v H2 k2 e2 r2 h2 => ?_, eok⟩
      have e3 : N + k1 + k2 = N + (k1 + k2) := by simp only [Ct.assoc]
      rw [e3] at r2 h2
      rw [hn, Bool.false_or, chk_iff] at h2
      refine q s v H2 (k1 + k2) (e1.trans e2) ?_ h2.2
      cases s with
      | dat d => exact Dt.lfz r2 h2.1
      | own ds => exact absurd h2.1 (by simp [Sl.lf])
      | als ds => exact r2.elim
  have e : (fun (vs : List V) (H1 : Hp) => lift B.G.K dsp (vs ++ []) H1 Q B.G.E ∧ TabsN T H1) = fun vs H1 => liftT T B.G.K dsp (vs ++ []) H1 Q B.G.E := by
    funext vs H1
    exact propext ⟨fun z => ⟨z.2, z.1⟩, fun z => ⟨z.2, z.1⟩⟩
  rw [e] at key
  exact key
theorem x_callT (C : CalT X.prog X.w X.K X.mg X.base CX x k T ps dsp) (hT : ∀ P ∈ T, P ∈ G.T) (hr : Room j X.A) (hkj : k ≤ j) (hg : Gl X x) (hx : Passes CX X G.E)
    (ha : XA X G (e :: es) t d) (hK : G.K = X.K := by rfl) (hdb : (x == ("__debug__" : Str)) = false := by decide) (he : starEach (e :: es) X.env = (false, eval e X.env) :: starEach es X.env := by rfl) (hpl : (backTo pos (starEach es X.env)).any (·.1) = false := by rfl) :
    XE X G (.Call (.Name x p) (e :: es) [] pos) (tCall (liftT T G.K dsp) [] G.E t) (dCall G.Er dsp d) := by
  obtain ⟨f, fd, F, hm, hk, hb⟩ := C
  have F' : FnOk X.prog X.w X.K X.mg X.base CX k f fd ps (liftT T G.K dsp) := by rw [hK]; exact F
  exact ⟨pe_call F' (hr.mono hkj) hg hm hk hb .nil hx ha.pe hdb he hpl, snd_callT hT ha.sn⟩
end

/-! ### two tables at the head -/
theorem law_tab2 {l : PySem.W.OpenLaw} {w : World} {K : PySem.W.Frag} {mg : Str → Option Value} {h : Heap} {k n : Nat} {y : Str} {fa c P0 fb cb P1 : Addr} {fd fdb : FuncData} {o ob : Obj} {e eb : Value} {dd ddb : Option Addr} {vs vsb : Array Value} {sl slb : Array (Option Value)} {dsp : DSp} {m : Str} (q q1 : Str)
    (tabs : LamX.TabOf K mg h "law") (tabs1 : LamX.TabOf K mg h m) (hm : mg "law" = some (.ref fa)) (lf : K.lookup fa = some o) (ho : o.data = .func fd) (hc : fd.code = .ref c) (lc : K.lookup c = some ⟨e, dd, .fields vs, sl⟩) (lv : vs[11]? = some (.ref P0)) (nP : K.lookup P0 = none)
    (hm1 : mg m = some (.ref fb)) (lf1 : K.lookup fb = some ob) (ho1 : ob.data = .func fdb) (hc1 : fdb.code = .ref cb) (lc1 : K.lookup cb = some ⟨eb, ddb, .fields vsb, slb⟩) (lv1 : vsb[11]? = some (.ref P1)) (nP1 : K.lookup P1 = none) (hne : (P1 == P0) = false)
    (hb : ∀ (s : Shared) (u : Value), BindsTo s fd ⟨[u], []⟩ [(y, u)]) (hd : ∀ ns : List Int, ns.length ≤ n → dsp [.scr ns] 20000 (fun s _ => s = .dat (.bl true)) (fun _ _ => False))
    (F : ∀ (_ : TabNames) (base : Heap), TabNames.nm P0 = q → TabNames.nm P1 = q1 → K.In base → base.Ns mainGlobals mg → LamX.TabB base mg c P0 → LamX.TabB base mg cb P1 → FnOk l.prog w K mg base CX0 k fa fd [y] (liftT [P0, P1] K dsp)) : LamX.LawAtS l w K CX0 k n y mg fa h := by
  obtain ⟨t1, t2⟩ := tabs fa c P0 o fd e dd vs sl hm lf ho hc lc lv
  obtain ⟨t3, t4⟩ := tabs1 fb cb P1 ob fdb eb ddb vsb slb hm1 lf1 ho1 hc1 lc1 lv1
  have ne : ¬ P1 = P0 := fun z => by rw [z, beq_self_eq_true] at hne; cases hne
  letI : TabNames := ⟨fun P => if P = P0 then q else q1⟩
  refine ⟨fd, [(c, P0), (cb, P1)], spThaw (liftT [P0, P1] K dsp), fun p hp => ?_, fun p hp => ?_, fun p hp => ?_, hb, fun H a ns hl _ hH hS => ?_, fun base h1 h2 h3 => fn_thaw (F _ base (if_pos rfl) (if_neg ne) h1 h2 (h3 _ (List.mem_cons_self ..)) (h3 _ (List.mem_cons_of_mem _ (List.mem_singleton.mpr rfl))))⟩
  · rcases List.mem_cons.mp hp with rfl | hp
    · exact t1
    · obtain rfl := List.mem_singleton.mp hp
      exact t3
  · rcases List.mem_cons.mp hp with rfl | hp
    · exact nP
    · obtain rfl := List.mem_singleton.mp hp
      exact nP1
  · rcases List.mem_cons.mp hp with rfl | hp
    · exact t2
    · obtain rfl := List.mem_singleton.mp hp
      exact t4
  · refine end_lawT (hd ns hl) (fun P hP => ?_) hS
    rcases List.mem_cons.mp hP with rfl | hP
    · exact hH (c, P) (List.mem_cons_self ..)
    · obtain rfl := List.mem_singleton.mp hP
      exact hH (cb, P) (List.mem_cons_of_mem _ (List.mem_singleton.mpr rfl))
end DL

/-! DXo: the list of states of a card. -/
namespace DL
open PySem PySem.Spec PyProof.Rows L2
variable [TabNames]

/-! ### a card's list, seen and hidden -/
theorem refs_vals : ∀ (ts : List Addr), Vals (ts.map V.ref) (ts.map Value.ref)
  | [] => .nil
  | _ :: ts => .cons rfl (refs_vals ts)
theorem vals_refs : ∀ {ts : List Addr} {its : List Value}, Vals (ts.map V.ref) its → its = ts.map Value.ref
  | [], _, .nil => rfl
  | _ :: _, _, .cons r rr => by
    cases r
    rw [vals_refs rr]
    rfl
section
variable {X : Cx} {pins : List (Addr × Obj)} {σ : L2.St} {H : Hp} {s : Shared} {l : Addr} {ts : List Addr}
theorem card_get (I : Inv X pins σ H s) (h : H l = some (.ext (cardL l ts))) : ∃ n, s.heap.get? l = some { cls := .type "list", data := .seq (ts.map Value.ref).toArray n } ∧ ts.length ≤ sizeLine := (I.hok l _ h).1
theorem card_see (I : Inv X pins σ H s) (h : H l = some (.ext (cardL l ts))) : Inv X pins σ (upd H l (.lst (ts.map V.ref))) s := by
  obtain ⟨n, hg, hz⟩ := card_get I h
  exact I.write (h' := s.heap) (t' := s.toks) (x := l) (e := l) (by rw [h]; trivial) (.inl rfl) (fun _ _ _ q => q) ⟨_, hg⟩ ⟨by rw [List.length_map]; exact hz, _, n, refs_vals ts, hg⟩
theorem card_hide (I : Inv X pins σ H s) (h : H l = some (.lst (ts.map V.ref))) : Inv X pins σ (upd H l (.ext (cardL l ts))) s := by
  obtain ⟨hz, its, n, rv, hg⟩ := (show ObjOk X.prog X.w H s.heap l (.lst (ts.map V.ref)) from I.hok l _ h)
  have e := vals_refs rv
  subst e
  rw [List.length_map] at hz
  exact I.write (h' := s.heap) (t' := s.toks) (x := l) (e := l) (by rw [h]; trivial) (.inl rfl) (fun _ _ _ q => q) ⟨_, hg⟩ ⟨⟨n, hg, hz⟩, ⟨_, hg⟩, fun h1 h2 ⟨m, g, z⟩ k => ⟨m, k _ g, z⟩⟩
theorem upd_self {H : Hp} {a : Addr} {o : HO} (h : H a = some o) : upd H a o = H := by
  funext b
  by_cases e : b = a
  · rw [e, upd_same, h]
  · rw [upd_ne e]
theorem atI_map {α β : Type} {f : α → β} {xs : List α} {i : Int} {x : α} (h : atI xs i = some x) : atI (xs.map f) i = some (f x) := by
  unfold atI at h ⊢
  rw [List.length_map]
  cases e : ixN xs.length i with
  | none => rw [e] at h; cases h
  | some j =>
    rw [e] at h
    have h' : xs[j]? = some x := h
    show (xs.map f)[j]? = some (f x)
    rw [List.getElem?_map, h']
    rfl
/-- states[i] -/
def rIxC : R2 := fun x y H Q => ∃ l ts i t, x = .ref l ∧ y = .int i ∧ H l = some (.ext (cardL l ts)) ∧ atI ts i = some t ∧ Q (.ref t) H
theorem ix_card : IxR X rIxC := by
  intro value slice pins s σ H x y v u Q I rx ry h hs
  obtain ⟨l, ts, i, t, rfl, rfl, hH, he, q⟩ := h
  refine wpAny_mono (ix_list value slice pins s σ (upd H l (.lst (ts.map V.ref))) _ _ v u (fun z H1 => z = .ref t ∧ H1 = upd H l (.lst (ts.map V.ref))) (card_see I hH) rx ry ⟨l, ts.map V.ref, i, .ref t, rfl, rfl, .of upd_same, atI_map he, rfl, rfl⟩ hs) (fun w s1 hz => ?_) fun _ _ e => e
  obtain ⟨z, H1, I1, rz, ez, eH⟩ := hz
  subst ez eH
  have I2 := card_hide I1 upd_same
  rw [upd_upd, upd_self hH] at I2
  exact ⟨.ref t, H, I2, rz, q⟩
/-- len(states) -/
def rLenC : List V → Hp → VK → Prop := fun xs H Q => ∃ l ts, xs = [.ref l] ∧ H l = some (.ext (cardL l ts)) ∧ Q (.int (ts.length : Nat)) H
theorem call_lenC : CallR X (.builtin "len") rLenC := by
  intro pins s σ H xs us Q I r h
  obtain ⟨l, ts, rfl, hH, q⟩ := h
  refine wpAny_mono (call_len_seq pins s σ (upd H l (.lst (ts.map V.ref))) _ us (fun z H1 => z = .int (ts.length : Nat) ∧ H1 = upd H l (.lst (ts.map V.ref))) (card_see I hH) r ⟨l, ts.map V.ref, rfl, .inl (.of upd_same), by rw [List.length_map], rfl⟩) (fun w s1 hz => ?_) fun _ _ e => e
  obtain ⟨z, H1, I1, rz, ez, eH⟩ := hz
  subst ez eH
  have I2 := card_hide I1 upd_same
  rw [upd_upd, upd_self hH] at I2
  exact ⟨_, H, I2, rz, q⟩
def rAppC : V → List V → Hp → VK → Prop := fun x vs H Q => ∃ l ts t, x = .ref l ∧ vs = [.ref t] ∧ H l = some (.ext (cardL l ts)) ∧ ts.length < sizeLine ∧ Q .non (upd H l (.ext (cardL l (ts ++ [t]))))
theorem mt_appC : MtR X "list.append" rAppC := by
  intro pins s σ H x vs v us Q I rx rv h
  obtain ⟨l, ts, t, rfl, rfl, hH, hz, q⟩ := h
  refine wpAny_mono (mt_append pins s σ (upd H l (.lst (ts.map V.ref))) _ _ v us (fun z H1 => z = .non ∧ H1 = upd (upd H l (.lst (ts.map V.ref))) l (.lst (ts.map V.ref ++ [.ref t]))) (card_see I hH) rx rv ⟨l, ts.map V.ref, .ref t, rfl, rfl, upd_same, by rw [List.length_map]; exact hz, rfl, rfl⟩) (fun w s1 hz => ?_) fun _ _ e => e
  obtain ⟨z, H1, I1, rz, ez, eH⟩ := hz
  subst ez eH
  rw [upd_upd] at I1
  have I2 := card_hide (ts := ts ++ [t]) I1 (by rw [upd_same, List.map_append]; rfl)
  rw [upd_upd] at I2
  exact ⟨.non, _, I2, rz, q⟩
def rPopC : V → List V → Hp → VK → Prop := fun x vs H Q => ∃ l ts t, x = .ref l ∧ vs = [] ∧ H l = some (.ext (cardL l ts)) ∧ ts.getLast? = some t ∧ Q (.ref t) (upd H l (.ext (cardL l ts.dropLast)))
theorem mt_popC : MtR X "list.pop" rPopC := by
  intro pins s σ H x vs v us Q I rx rv h
  obtain ⟨l, ts, t, rfl, rfl, hH, ht, q⟩ := h
  refine wpAny_mono (mt_pop pins s σ (upd H l (.lst (ts.map V.ref))) _ _ v us (fun z H1 => z = .ref t ∧ H1 = upd (upd H l (.lst (ts.map V.ref))) l (.lst (ts.map V.ref).dropLast)) (card_see I hH) rx rv ⟨l, ts.map V.ref, .ref t, rfl, rfl, upd_same, ?_, rfl, rfl⟩) (fun w s1 hz => ?_) fun _ _ e => e
  · rw [List.length_map, List.getElem?_map, ← List.getLast?_eq_getElem?, ht]
    rfl
  · obtain ⟨z, H1, I1, rz, ez, eH⟩ := hz
    subst ez eH
    rw [upd_upd] at I1
    have I2 := card_hide (ts := ts.dropLast) I1 (by rw [upd_same, List.map_dropLast])
    rw [upd_upd] at I2
    exact ⟨_, _, I2, rz, q⟩
/-- o.m(..), o a card's list -/
def tBMC (r : V → List V → Hp → VK → Prop) (to : TE) (t : TA) : TE := fun σ H Q => to σ H fun x H1 => (∃ l ts, x = .ref l ∧ H1 l = some (.ext (cardL l ts))) ∧ t σ H1 fun xs H2 => r x xs H2 Q
theorem isC_list {v : Value} {x : V} (I : Inv X pins σ H s) (rx : RelV x v) (h : ∃ l ts, x = .ref l ∧ H l = some (.ext (cardL l ts))) : s.TypeIs v "list" ∧ ∀ a, v = .ref a → ∃ ob, s.heap.get? a = some ob ∧ ob.dict = none := by
  obtain ⟨l, ts, rfl, hH⟩ := h
  cases rx
  obtain ⟨n, hg, _⟩ := card_get I hH
  refine ⟨⟨_, hg, rfl⟩, fun a e => ?_⟩
  cases e
  exact ⟨_, hg, rfl⟩
variable {o e : Expr} {es : List Expr} {to : TE} {t : TA} {name : Str} {apos cpos : Pos} {id : String} {r : V → List V → Hp → VK → Prop}
theorem pe_bmC0 (pa : PlainAttrs "list") (slot : Slot "list" name id) (hty : typeOf (.builtin id) = pure (.type "method_descriptor")) (hm : MtR X id r) (ho : PE X o to)
    (hbase : attributeBase o name X.env (eval o X.env) = eval o X.env := by rfl) (hline : (apos.endLine == cpos.line) = true := by rfl) : PE X (.Call (.Attribute o name apos) [] [] cpos) (tBMC r to tNil) := by
  refine ⟨fun pins s σ H Q I h => ?_⟩
  refine wpAny_Call_method0_late hbase hline (thn (ho.run pins s σ H _ I h) fun v s1 ⟨x, H1, I1, r1, ty, q1⟩ => ?_)
  obtain ⟨h1, h2⟩ := isC_list I1 r1 ty
  exact ⟨"list", id, pa, slot, hty, h1, h2, Calls.callWith_builtin rfl (PySem.evalArgs_none (hm pins s1 σ H1 x [] v [] Q I1 r1 .nil q1))⟩
theorem pe_bmC (pa : PlainAttrs "list") (slot : Slot "list" name id) (hty : typeOf (.builtin id) = pure (.type "method_descriptor")) (hm : MtR X id r) (ho : PE X o to) (ha : PA X (e :: es) t)
    (hbase : attributeBase o name X.env (eval o X.env) = eval o X.env := by rfl)
    (hfew : ((backTo cpos (starEach (e :: es) X.env)).all (fun x => !x.1) && (backToKw cpos (keywordEach [] X.env)).all (fun x => x.1.isSome)
      && decide ((e :: es).length + ([] : List Keyword).length + (if ([] : List Keyword).isEmpty then 0 else 1) < 30)) = true := by rfl)
    (hline : (apos.endLine == cpos.line) = true := by rfl) (hs : starEach (e :: es) X.env = (false, eval e X.env) :: starEach es X.env := by rfl) (hplain : (backTo cpos (starEach es X.env)).any (·.1) = false := by rfl) :
    PE X (.Call (.Attribute o name apos) (e :: es) [] cpos) (tBMC r to t) := by
  refine ⟨fun pins s σ H Q I h => ?_⟩
  refine wpAny_Call_method_late hbase hfew hline rfl (thn (ho.run pins s σ H _ I h) fun v s1 ⟨x, H1, I1, r1, ty, q1⟩ => ?_)
  obtain ⟨h1, h2⟩ := isC_list I1 r1 ty
  refine ⟨"list", id, pa, slot, hty, h1, h2, ?_⟩
  have hA := ha.run cpos pins s1 σ H1 _ I1 q1
  rw [hs] at hA ⊢
  refine Calls.callWith_builtin (by show (false || (backTo cpos (starEach es X.env)).any (·.1)) = false; rw [hplain] <;> rfl) (Calls.evalArgs_plain ?_)
  exact thn hA fun us s2 ⟨vs, H2, I2, r2, q2⟩ => hm pins s2 σ H2 x vs v us Q I2 r1 r2 q2
/-- a list is hidden behind an expression -/
def tHideC (t : TE) : TE := fun σ H Q => t σ H fun v H' => ∃ l ts, H' l = some (.lst (ts.map V.ref)) ∧ Q v (upd H' l (.ext (cardL l ts)))
theorem pe_hideC (h : PE X e to) : PE X e (tHideC to) := by
  refine ⟨fun pins s σ H Q I hw => ?_⟩
  refine thn (h.run pins s σ H _ I hw) fun u s1 ⟨v, H1, I1, r1, q1⟩ => ?_
  obtain ⟨l, ts, hl, q⟩ := q1
  exact ⟨v, _, card_hide I1 hl, r1, q⟩
end

/-! ### the log -/
abbrev Ct.put (N : Ct) (l : Addr) (c : List (List V)) : Ct := N + ⟨0, [(l, c)]⟩
theorem at_put {N : Ct} {l : Addr} {c : List (List V)} : (N.put l c).at l = c := if_pos rfl
theorem at_put_ne {N : Ct} {l l' : Addr} {c : List (List V)} (h : l ≠ l') : (N.put l c).at l' = N.at l' := if_neg h
theorem tab_card {H : Hp} {P b : Addr} {q : Str} {ts ts' : List Addr} (h : H b = some (.ext (cardL b ts))) (t : LamX.TabS H P q) : LamX.TabS (upd H b (.ext (cardL b ts'))) P q := by
  obtain ⟨ps, h1, h2, h3⟩ := t
  refine ⟨ps, by rw [upd_ne (fun z => by rw [z, h] at h1; cases h1)]; exact h1, h2, fun pos cv hc => ?_⟩
  obtain ⟨c, e1, e2⟩ := h3 pos cv hc
  refine ⟨c, e1, ?_⟩
  rw [upd_ne (fun z => by rw [z, h] at e2; exact codeO_card (Option.some.inj e2).symm)]
  exact e2
theorem exk_card {H : Hp} {l : Addr} {ts ts' : List Addr} {c' : List (List V)} (h : H l = some (.ext (cardL l ts))) (r : RepT H ts' c') : ExK ⟨0, [(l, c')]⟩ H (upd H l (.ext (cardL l ts'))) := by
  have tp : ∀ a xs, H a = some (.tup xs) → upd H l (.ext (cardL l ts')) a = some (.tup xs) := fun a xs e => by
    rw [upd_ne (fun z => by rw [z, h] at e; cases e)]
    exact e
  refine ⟨fun a o e => ?_, fun P t => tab_card h t, fun l2 c2 r2 => ?_⟩
  · by_cases ea : a = l
    · subst ea
      rw [h] at e
      cases e
      exact .inr (.inr (.inr ⟨⟨ts, rfl⟩, ts', upd_same⟩))
    · exact .inl (by rw [upd_ne ea]; exact e)
  · show Rep _ l2 (if l = l2 then c' else c2)
    by_cases el : l = l2
    · subst el
      rw [if_pos rfl]
      exact ⟨ts', upd_same, r.to tp⟩
    · rw [if_neg el]
      exact r2.to tp fun ts e => by rw [upd_ne (Ne.symm el)]; exact e
/-- a list that was not there is told of -/
theorem ExK.log {k : Ct} {H H' : Hp} {l : Addr} {c : List (List V)} (e : ExK k H H') (h : H l = none) : ExK (k + ⟨0, [(l, c)]⟩) H H' := ⟨e.ob, e.tb, fun l2 c2 r => by
  have ne : l ≠ l2 := fun z => by
    obtain ⟨ts, h1, _⟩ := r
    rw [← z, h] at h1
    cases h1
  show Rep H' l2 (if l = l2 then c else evs k.g l2 c2)
  rw [if_neg ne]
  exact e.cd l2 c2 r⟩
theorem RepT.length {H : Hp} : ∀ {ts : List Addr} {c : List (List V)}, RepT H ts c → ts.length = c.length
  | [], [], _ => rfl
  | _ :: _, _ :: _, r => congrArg (· + 1) (RepT.length r.2)
theorem RepT.app {H : Hp} {t : Addr} {st : List V} (h : H t = some (.tup st)) : ∀ {ts : List Addr} {c : List (List V)}, RepT H ts c → RepT H (ts ++ [t]) (c ++ [st])
  | [], [], _ => ⟨h, trivial⟩
  | _ :: _, _ :: _, r => ⟨r.1, RepT.app h r.2⟩
theorem RepT.drop {H : Hp} : ∀ {ts : List Addr} {c : List (List V)}, RepT H ts c → RepT H ts.dropLast c.dropLast
  | [], [], _ => trivial
  | [_], [_], _ => trivial
  | _ :: _ :: _, _ :: _ :: _, r => ⟨r.1, RepT.drop r.2⟩
  | [_], _ :: _ :: _, r => r.2.elim
  | _ :: _ :: _, [_], r => r.2.elim
theorem RepT.last {H : Hp} {st : List V} : ∀ {ts : List Addr} {c : List (List V)}, RepT H ts c → c.getLast? = some st → ∃ t, ts.getLast? = some t ∧ H t = some (.tup st)
  | [], [], _, h => by cases h
  | [t], [c], r, h => by
    cases h
    exact ⟨t, rfl, r.1⟩
  | _ :: t :: ts, _ :: c :: cs, r, h => by
    rw [List.getLast?_cons_cons] at h
    obtain ⟨t', h1, h2⟩ := RepT.last (ts := t :: ts) (c := c :: cs) r.2 h
    exact ⟨t', by rw [List.getLast?_cons_cons]; exact h1, h2⟩
  | [_], _ :: _ :: _, r, _ => r.2.elim
  | _ :: _ :: _, [_], r, _ => r.2.elim
theorem atI_last1 {α : Type} {ts : List α} {t : α} (h : ts.getLast? = some t) : atI ts (-1) = some t := by
  rw [List.getLast?_eq_getElem?] at h
  have hl : ts.length ≠ 0 := fun z => by
    have := List.length_eq_zero_iff.mp z
    subst this
    cases h
  have hx : ixN ts.length (-1) = some (ts.length - 1) := by
    unfold ixN
    first
      | (rw [if_neg (by decide), if_pos (by omega)]; congr 1; omega)
      | (simp only []; split <;> first | omega | (congr 1; omega))
  unfold atI
  rw [hx]
  exact h
end DL

/-! DXp: an own class whose objects keep a list of states. -/
namespace DL
open PySem PySem.Spec PyProof.Rows L2
variable [TabNames]

/-- the first state -/
def st0V : List V := [.int 0, .int 0, .int (-1), .non, .int 0]
/-- a card with a rule, its list at an address; the class -/
class CardD where
  cd : D → Addr → D
  cl : D
def cardP (K : PySem.W.Frag) (C : Addr) (r : D) (l : Addr) : PT := fun N H Z a => ∃ (dx : Addr) (v : V), H a = some (.ins C dx [("rule", v), ("states", .ref l)]) ∧ Dt K N H Z v r ∧ Rep H l (N.at l)
theorem cardP_stab {K : PySem.W.Frag} {C : Addr} {r : D} {l : Addr} : Stab K (cardP K C r l) := fun N N' Z Z' H H' a g ⟨dx, v, h1, h2, h3⟩ => ⟨dx, v, g.ins _ _ _ _ h1, h2.gro g, g.crd _ h3⟩
def notFld (m : Str) : Bool := !(m == ("rule" : Str)) && !(m == ("states" : Str))
theorem notFld_lookup {m : Str} {x y : V} (h : notFld m = true) : [(("rule" : Str), x), (("states" : Str), y)].lookup m = none := by
  unfold notFld at h
  simp only [List.lookup]
  cases h1 : (m == ("rule" : Str)) <;> cases h2 : (m == ("states" : Str)) <;> simp_all
theorem pass_E0 {P : Program} {w : World} {X : Cx} : Passes (L2N.CX P w) X E0 := fun pins σ H s e s' I h => by
  obtain ⟨_, _, _, _, _, _, _, _, _, _, _, _, z⟩ := h
  exact z.elim
section
variable [CardD]
structure CardF (K : PySem.W.Frag) (C : Addr) : Prop where
  cd : ∀ r l, CardD.cd r l = .fix (cardP K C r l)
  cl : CardD.cl = .v (.ref C)
  c : Cls K C
  n1 : NoAttr K C "rule"
  n2 : NoAttr K C "states"
  day : ∃ u, Con K C "DAY" (.int 1440) u
theorem card_dt {K : PySem.W.Frag} {C : Addr} (c : CardF K C) {N : Ct} {H : Hp} {Z : Addr → Prop} {x : V} {r : D} {l : Addr} (h : Dt K N H Z x (CardD.cd r l)) : ∃ a, x = .ref a ∧ cardP K C r l N H Z a := by
  rw [c.cd] at h
  cases h with
  | fix st hp => exact ⟨_, rfl, hp⟩
/-! ### what is read of it -/
@[simp] def dFldR (da : DE) : DE := fun δ N C => da δ N fun s N' => ∃ r l, s = .dat (CardD.cd r l) ∧ C (.dat r) N'
@[simp] def dFldD (da : DE) : DE := fun δ N C => da δ N fun s N' => ∃ r l, s = .dat (CardD.cd r l) ∧ C (.dat (.int 1440)) N'
/-- e.states[-1] -/
@[simp] def dStL (da : DE) : DE := fun δ N C => da δ N fun s N' => ∃ r l st, s = .dat (CardD.cd r l) ∧ (N'.at l).getLast? = some st ∧ C (.dat (.tup (st.map D.v))) N'
/-- len(e.states) -/
@[simp] def dStN (da : DE) : DE := fun δ N C => da δ N fun s N' => ∃ r l, s = .dat (CardD.cd r l) ∧ C (.dat (.int ((N'.at l).length : Nat))) N'
/-- e.states.append(a) -/
@[simp] def dStA (de da : DE) : DE := fun δ N C => de δ N fun s N1 => ∃ r l, s = .dat (CardD.cd r l) ∧ da δ N1 fun s2 N2 => ∃ st, s2 = .dat (.tup (st.map D.v)) ∧ (N2.at l).length < 100000 ∧ C (.dat .non) (N2.put l (N2.at l ++ [st]))
/-- e.states.pop() -/
@[simp] def dStP (de : DE) : DE := fun δ N C => de δ N fun s N1 => ∃ r l st, s = .dat (CardD.cd r l) ∧ (N1.at l).getLast? = some st ∧ C (.dat (.tup (st.map D.v))) (N1.put l (N1.at l).dropLast)
section
variable {X : Cx} {G : Gg} {e a : Expr} {te ta : TE} {de da : DE} {pos p1 p2 p3 p4 : Pos} {C : Addr}
theorem snd_fldR (c : CardF G.K C) (ha : Snd G te de) : Snd G (tFld G.K te "rule") (dFldR de) := by
  refine ⟨fun B Z δ σ H N Cc Q hB S h q => ?_⟩
  subst hB
  refine ha.run B Z δ σ H N _ _ rfl S h fun s x H1 k1 e1 r1 h1 => ?_
  obtain ⟨r, l, rfl, h1⟩ := h1
  obtain ⟨a, rfl, dx, v, ha, hv, hl⟩ := card_dt c (show Dt B.G.K (N + k1) H1 Z x (CardD.cd r l) from r1)
  exact ⟨_, C, dx, _, v, rfl, ha, c.c, c.n1, rfl, q (.dat r) v H1 k1 e1 hv h1⟩
theorem snd_fldD (c : CardF G.K C) (ha : Snd G te de) : Snd G (tCon G.K te "DAY") (dFldD de) := by
  refine ⟨fun B Z δ σ H N Cc Q hB S h q => ?_⟩
  subst hB
  refine ha.run B Z δ σ H N _ _ rfl S h fun s x H1 k1 e1 r1 h1 => ?_
  obtain ⟨r, l, rfl, h1⟩ := h1
  obtain ⟨u, hu⟩ := c.day
  obtain ⟨a, rfl, dx, v, ha, hv, hl⟩ := card_dt c (show Dt B.G.K (N + k1) H1 Z x (CardD.cd r l) from r1)
  exact ⟨_, C, dx, _, .int 1440, u, rfl, ha, c.c, hu, rfl, q (.dat (.int 1440)) (.int 1440) H1 k1 e1 (Dt.v _) h1⟩
theorem x_fldR (c : CardF X.K C) (h : XE X G e te de) (hK : G.K = X.K := by rfl) (hb : attributeBase e "rule" X.env (eval e X.env) = eval e X.env := by rfl) : XE X G (.Attribute e "rule" pos) (tFld X.K te "rule") (dFldR de) :=
  ⟨pe_fld h.pe hb, by rw [← hK]; exact snd_fldR (by rw [hK]; exact c) h.sn⟩
theorem x_fldD (c : CardF X.K C) (h : XE X G e te de) (hK : G.K = X.K := by rfl) (hb : attributeBase e "DAY" X.env (eval e X.env) = eval e X.env := by rfl) : XE X G (.Attribute e "DAY" pos) (tCon X.K te "DAY") (dFldD de) :=
  ⟨pe_con h.pe hb, by rw [← hK]; exact snd_fldD (by rw [hK]; exact c) h.sn⟩
theorem x_stL {j : Nat} (c : CardF X.K C) (h : XE X G e te de) (hK : G.K = X.K := by rfl) (hb : attributeBase e "states" X.env (eval e X.env) = eval e X.env := by rfl) : XE X G (.Subscript (.Attribute e "states" p1) (.UnaryOp .USub (.Constant (.int 1) j p2) p3) pos) (tOp rIxC (tFld X.K te "states") (tUn (rU fun i => .int (-i)) (tC (.int 1)))) (dStL de) := by
  refine ⟨pe_ix ix_card (pe_fld h.pe hb) (pe_un un_neg pe_int) (by exact fun _ _ => rfl), ⟨fun B Z δ σ H N Cc Q hB S hd q => ?_⟩⟩
  subst hB
  have c' : CardF B.G.K C := by rw [hK]; exact c
  refine h.sn.run B Z δ σ H N _ _ rfl S hd fun s x H1 k1 e1 r1 h1 => ?_
  obtain ⟨r, l, st, rfl, hst, h1⟩ := h1
  obtain ⟨a, rfl, dx, v, ha, hv, ts, hl, hr⟩ := card_dt c' (show Dt B.G.K (N + k1) H1 Z x (CardD.cd r l) from r1)
  obtain ⟨t, ht, hT⟩ := hr.last hst
  exact ⟨_, C, dx, _, .ref l, rfl, ha, c.c, c.n2, rfl, 1, rfl, l, ts, -1, t, rfl, rfl, hl, atI_last1 ht, q (.dat (.tup (st.map D.v))) (.ref t) H1 k1 e1 (Dt.tup hT (DtAll.ofVals st)) h1⟩
theorem x_stN {p : Pos} (c : CardF X.K C) (hg : Gl X "len") (hm : X.mg "len" = none) (h : XE X G e te de) (hK : G.K = X.K := by rfl) (hb : attributeBase e "states" X.env (eval e X.env) = eval e X.env := by rfl)
    (he : starEach [.Attribute e "states" p1] X.env = (false, eval (.Attribute e "states" p1) X.env) :: starEach [] X.env := by rfl) : XE X G (.Call (.Name "len" p) [.Attribute e "states" p1] [] pos) (tCB rLenC (tCons (tFld X.K te "states") tNil)) (dStN de) := by
  refine ⟨pe_callB call_lenC hg hm PySem.boot_len (pa_cons (pe_fld h.pe hb) pa_nil he), ⟨fun B Z δ σ H N Cc Q hB S hd q => ?_⟩⟩
  subst hB
  have c' : CardF B.G.K C := by rw [hK]; exact c
  refine h.sn.run B Z δ σ H N _ _ rfl S hd fun s x H1 k1 e1 r1 h1 => ?_
  obtain ⟨r, l, rfl, h1⟩ := h1
  obtain ⟨a, rfl, dx, v, ha, hv, ts, hl, hr⟩ := card_dt c' (show Dt B.G.K (N + k1) H1 Z x (CardD.cd r l) from r1)
  refine ⟨_, C, dx, _, .ref l, rfl, ha, c.c, c.n2, rfl, l, ts, rfl, hl, ?_⟩
  rw [hr.length]
  exact q (.dat (.v _)) _ H1 k1 e1 (Dt.v _) h1
theorem x_stA (c : CardF X.K C) (h : XE X G e te de) (h2 : XE X G a ta da) (hK : G.K = X.K := by rfl) (hb : attributeBase e "states" X.env (eval e X.env) = eval e X.env := by rfl)
    (hbase : attributeBase (.Attribute e "states" p1) "append" X.env (eval (.Attribute e "states" p1) X.env) = eval (.Attribute e "states" p1) X.env := by rfl)
    (hfew : ((backTo pos (starEach [a] X.env)).all (fun x => !x.1) && (backToKw pos (keywordEach [] X.env)).all (fun x => x.1.isSome)
      && decide ([a].length + ([] : List Keyword).length + (if ([] : List Keyword).isEmpty then 0 else 1) < 30)) = true := by rfl)
    (hline : (p2.endLine == pos.line) = true := by rfl) (hs : starEach [a] X.env = (false, eval a X.env) :: starEach [] X.env := by rfl) (hplain : (backTo pos (starEach [] X.env)).any (·.1) = false := by rfl) :
    XE X G (.Call (.Attribute (.Attribute e "states" p1) "append" p2) [a] [] pos) (tBMC rAppC (tFld X.K te "states") (tCons ta tNil)) (dStA de da) := by
  refine ⟨pe_bmC PySem.F.plainAttrs_list PySem.F.slot_list_append PySem.F.type_list_append mt_appC (pe_fld h.pe hb) (pa_cons h2.pe pa_nil hs) hbase hfew hline hs hplain, ⟨fun B Z δ σ H N Cc Q hB S hd q => ?_⟩⟩
  subst hB
  have c' : CardF B.G.K C := by rw [hK]; exact c
  refine h.sn.run B Z δ σ H N _ _ rfl S hd fun s x H1 k1 e1 r1 h1 => ?_
  obtain ⟨r, l, rfl, h1⟩ := h1
  have r1' : Dt B.G.K (N + k1) H1 Z x (CardD.cd r l) := r1
  obtain ⟨a, rfl, dx, v, ha, hv, ts, hl, hr⟩ := card_dt c' r1'
  refine ⟨_, C, dx, _, .ref l, rfl, ha, c.c, c.n2, rfl, ⟨l, ts, rfl, hl⟩, ?_⟩
  refine h2.sn.run B Z δ σ H1 (N + k1) _ _ rfl (S.ext e1) h1 fun s2 y H2 k2 e2 r2 h2 => ?_
  obtain ⟨st, rfl, hz, h2⟩ := h2
  obtain ⟨a', _, dx', v', ha', hv', ts2, hl2, hr2⟩ := card_dt c' (r1'.ex e2)
  obtain ⟨t, xs, rfl, ht, rx⟩ := (Dw.of (show Dt B.K (N + k1 + k2) H2 Z y (.tup (st.map D.v)) from r2)).tup_inv
  have exs := rx.vals
  subst exs
  refine ⟨l, ts2, t, rfl, rfl, hl2, ?_, ?_⟩
  · rw [hr2.length]
    exact size_lt hz
  · have e3 := (e1.trans e2).trans (exk_card hl2 (hr2.app ht))
    have ea : ∀ y : Ct, N + k1 + k2 + y = N + (k1 + k2 + y) := fun y => by simp only [Ct.assoc]
    have eN : (N + k1 + k2).put l ((N + k1 + k2).at l ++ [xs]) = N + (k1 + k2 + ⟨0, [(l, (N + k1 + k2).at l ++ [xs])]⟩) := ea _
    rw [eN] at h2
    exact q (.dat (.v .non)) _ _ _ e3 (Dt.v _) h2
theorem x_stP (c : CardF X.K C) (h : XE X G e te de) (hK : G.K = X.K := by rfl) (hb : attributeBase e "states" X.env (eval e X.env) = eval e X.env := by rfl)
    (hbase : attributeBase (.Attribute e "states" p1) "pop" X.env (eval (.Attribute e "states" p1) X.env) = eval (.Attribute e "states" p1) X.env := by rfl)
    (hline : (p2.endLine == pos.line) = true := by rfl) :
    XE X G (.Call (.Attribute (.Attribute e "states" p1) "pop" p2) [] [] pos) (tBMC rPopC (tFld X.K te "states") tNil) (dStP de) := by
  refine ⟨pe_bmC0 PySem.F.plainAttrs_list PySem.F.slot_list_pop PySem.F.type_list_pop mt_popC (pe_fld h.pe hb) hbase hline, ⟨fun B Z δ σ H N Cc Q hB S hd q => ?_⟩⟩
  subst hB
  have c' : CardF B.G.K C := by rw [hK]; exact c
  refine h.sn.run B Z δ σ H N _ _ rfl S hd fun s x H1 k1 e1 r1 h1 => ?_
  obtain ⟨r, l, st, rfl, hst, h1⟩ := h1
  obtain ⟨a, rfl, dx, v, ha, hv, ts, hl, hr⟩ := card_dt c' (show Dt B.G.K (N + k1) H1 Z x (CardD.cd r l) from r1)
  obtain ⟨t, ht, hT⟩ := hr.last hst
  refine ⟨_, C, dx, _, .ref l, rfl, ha, c.c, c.n2, rfl, ⟨l, ts, rfl, hl⟩, l, ts, t, rfl, rfl, hl, ht, ?_⟩
  have e3 := e1.trans (exk_card hl hr.drop)
  have eN : (N + k1).put l ((N + k1).at l).dropLast = N + (k1 + ⟨0, [(l, ((N + k1).at l).dropLast)]⟩) := Ct.assoc _ _ _
  rw [eN] at h1
  refine q (.dat (.tup (st.map D.v))) (.ref t) _ _ e3 (Dt.tup ?_ (DtAll.ofVals st)) h1
  rw [upd_ne (fun z => by rw [z, hl] at hT; cases hT)]
  exact hT
end
end
end DL

/-! DXq: methods, properties, in, ==, new cards. -/
namespace DL
open PySem PySem.Spec PyProof.Rows L2
variable [TabNames] [CardD]

/-! ### methods -/
@[simp] def dMeth (Er : Value → Ct → Prop) (dsp : DSp) (de : DE) (d : DA) : DE := fun δ N C => de δ N fun s N1 => ∃ r l, s = .dat (CardD.cd r l) ∧ d δ N1 fun ss N2 => dsp (CardD.cd r l :: ss.map Sl.rd) N2 (fun s2 N3 => chk s2.lf (C s2 N3)) Er
def tMethK (C : Addr) (m : Str) (n : Nat) (sp : Sp) (gV : List V → List V → List V) (E : XK) (ta : TE) (tk : TA) : TE := fun σ H Q => ta σ H fun x H1 => ∃ a dx fs, x = .ref a ∧ H1 a = some (.ins C dx fs) ∧ fs.lookup m = none ∧ tk σ H1 fun zs H2 => zs.length = n ∧ sp (gV [x] zs) H2 Q E
@[simp] def dMethK (Er : Value → Ct → Prop) (n : Nat) (dsp : DSp) (de : DE) (d : DA) : DE := fun δ N C => de δ N fun s N1 => ∃ r l, s = .dat (CardD.cd r l) ∧ d δ N1 fun ss N2 => chk (lenIs ss n) (dsp (CardD.cd r l :: ss.map Sl.rd) N2 (fun s2 N3 => chk s2.lf (C s2 N3)) Er)
@[simp] def dMethD (Er : Value → Ct → Prop) (dsp : DSp) (tl : List V) (de : DE) : DE := fun δ N C => de δ N fun s N1 => ∃ r l, s = .dat (CardD.cd r l) ∧ dsp (CardD.cd r l :: tl.map D.v) N1 (fun s2 N3 => chk s2.lf (C s2 N3)) Er
@[simp] def dProp (dsp : DSp) (de : DE) : DE := fun δ N C => de δ N fun s N1 => ∃ r l, s = .dat (CardD.cd r l) ∧ dsp [CardD.cd r l] N1 (fun s2 N3 => chk s2.lf (C s2 N3)) (fun _ _ => False)
section
variable {X : Cx} {G : Gg} {o e e2 : Expr} {es : List Expr} {te to te2 : TE} {de do_ de2 : DE} {t tk : TA} {d dk : DA} {pos apos : Pos} {C f : Addr} {m : Str} {fd : FuncData} {dsp : DSp} {CX : CXT} {k j : Nat} {ps ks : List Str} {kwl : List Keyword} {pl : Sem Bool}
/-- the arguments are there: the call -/
theorem meth_go {B : Bs} {E : XK} {Er : Value → Ct → Prop} {Z : Addr → Prop} {H1 H2 : Hp} {N1 k2 : Ct} {a : Addr} {r : D} {l : Addr} {es : List D} {vs : List V} {δ : StD} {σ : L2.St} {Cc : DK} {Q : VK} (S : SD B Z δ σ H1 N1) (hr : Dt B.G.K N1 H1 Z (.ref a) (CardD.cd r l)) (e2 : ExK k2 H1 H2) (r2 : DtAll B.G.K (N1 + k2) H2 Z00 vs es)
    (eok : ∀ cls H' k, ExK k H2 H' → Er cls (N1 + k2 + k) → E cls none H') (hd : dsp (CardD.cd r l :: es) (N1 + k2) (fun s2 N3 => chk s2.lf (Cc s2 N3)) Er) (q : ∀ s v H' k, ExK k H1 H' → Rs B (N1 + k) H1 H' Z v s → Cc s (N1 + k) → Q v H') : lift B.G.K dsp (.ref a :: vs) H2 Q E := by
  have g : Gro B.K (N1 + k2) (N1 + k2) Z Z00 H2 H2 := .zone (fun _ z => False.elim z) (Ct.le_refl _)
  refine ⟨Z00, N1 + k2, _, _, Er, fun _ z => False.elim z, .cons ((hr.ex e2).gro g) r2, hd, fun s v H3 k3 e3 r3 h3 => ?_, eok⟩
  have e4 : N1 + k2 + k3 = N1 + (k2 + k3) := Ct.assoc _ _ _
  rw [e4] at r3 h3
  obtain ⟨hl, h3⟩ := chk_iff.mp h3
  refine q s v H3 (k2 + k3) (e2.trans e3) ?_ h3
  cases s with
  | dat d => exact Dt.lfz r3 hl
  | own ds => exact absurd hl (by simp [Sl.lf])
  | als ds => exact r3.elim
theorem eok_of {B : Bs} {Z : Addr → Prop} {δ : StD} {σ : L2.St} {H2 : Hp} {N2 : Ct} (S : SD B Z δ σ H2 N2) : ∀ cls H' k, ExK k H2 H' → B.G.Er cls (N2 + k) → B.G.E cls none H' := fun cls H' k e w => by
  obtain ⟨j, ej0, ej⟩ := S.ex
  rw [ej0, Ct.assoc] at w
  exact B.eok cls (j + k) H' (ej.trans e) w
theorem snd_meth (c : CardF G.K C) (ho : Snd G to do_) (ha : SndA G t d) (hl : notFld m = true) : Snd G (tMethR C m (lift G.K dsp) G.E to t) (dMeth G.Er dsp do_ d) := by
  refine ⟨fun B Z δ σ H N Cc Q hB S h q => ?_⟩
  subst hB
  refine ho.run B Z δ σ H N _ _ rfl S h fun s x H1 k1 e1 r1 h1 => ?_
  obtain ⟨r, l, rfl, h1⟩ := h1
  have r0 : Dt B.G.K (N + k1) H1 Z x (CardD.cd r l) := r1
  obtain ⟨a, rfl, dx, v, hins, _⟩ := card_dt c r0
  refine ⟨a, dx, _, rfl, hins, notFld_lookup hl, ?_⟩
  have S1 := S.ext e1
  refine ha.run B Z δ σ H1 (N + k1) _ _ rfl S1 h1 fun ss vs H2 k2 e2 r2 h2 => ?_
  refine meth_go S1 r0 e2 (pair_free r2) (eok_of (S1.ext e2)) h2 fun s v H' k e rs hc => ?_
  rw [Ct.assoc] at rs hc
  exact q s v H' (k1 + k) (e1.trans e) (rs.back e1) hc
theorem snd_methK {n : Nat} (c : CardF G.K C) (ho : Snd G to do_) (ha : SndA G tk dk) (hl : notFld m = true) : Snd G (tMethK C m n (lift G.K dsp) (fun vs zs => vs ++ ([] ++ (zs ++ []))) G.E to tk) (dMethK G.Er n dsp do_ dk) := by
  refine ⟨fun B Z δ σ H N Cc Q hB S h q => ?_⟩
  subst hB
  refine ho.run B Z δ σ H N _ _ rfl S h fun s x H1 k1 e1 r1 h1 => ?_
  obtain ⟨r, l, rfl, h1⟩ := h1
  have r0 : Dt B.G.K (N + k1) H1 Z x (CardD.cd r l) := r1
  obtain ⟨a, rfl, dx, v, hins, _⟩ := card_dt c r0
  refine ⟨a, dx, _, rfl, hins, notFld_lookup hl, ?_⟩
  have S1 := S.ext e1
  refine ha.run B Z δ σ H1 (N + k1) _ _ rfl S1 h1 fun ss vs H2 k2 e2 r2 h2 => ?_
  obtain ⟨h3, h2⟩ := chk_iff.mp h2
  refine ⟨(paired_length r2).trans (lenIs_len h3), ?_⟩
  show lift B.G.K dsp ([V.ref a] ++ ([] ++ (vs ++ []))) H2 Q B.G.E
  rw [List.append_nil]
  refine meth_go S1 r0 e2 (pair_free r2) (eok_of (S1.ext e2)) h2 fun s v H' k e rs hc => ?_
  rw [Ct.assoc] at rs hc
  exact q s v H' (k1 + k) (e1.trans e) (rs.back e1) hc
theorem snd_methD {tl : List V} (c : CardF G.K C) (ho : Snd G to do_) (hl : notFld m = true) : Snd G (tMeth C m (lift G.K dsp) tl G.E to tNil) (dMethD G.Er dsp tl do_) := by
  refine ⟨fun B Z δ σ H N Cc Q hB S h q => ?_⟩
  subst hB
  refine ho.run B Z δ σ H N _ _ rfl S h fun s x H1 k1 e1 r1 h1 => ?_
  obtain ⟨r, l, rfl, h1⟩ := h1
  have r0 : Dt B.G.K (N + k1) H1 Z x (CardD.cd r l) := r1
  obtain ⟨a, rfl, dx, v, hins, _⟩ := card_dt c r0
  refine ⟨a, dx, _, rfl, hins, notFld_lookup hl, ?_⟩
  have S1 := S.ext e1
  refine meth_go S1 r0 (ExK.refl H1) (DtAll.ofVals tl) (eok_of S1) h1 fun s v H' k e rs hc => ?_
  rw [Ct.assoc] at rs hc
  exact q s v H' (k1 + k) (e1.trans e) (rs.back e1) hc
theorem snd_prop (c : CardF G.K C) (ho : Snd G to do_) : Snd G (tProp C (lift G.K dsp) [] E0 to) (dProp dsp do_) := by
  refine ⟨fun B Z δ σ H N Cc Q hB S h q => ?_⟩
  subst hB
  refine ho.run B Z δ σ H N _ _ rfl S h fun s x H1 k1 e1 r1 h1 => ?_
  obtain ⟨r, l, rfl, h1⟩ := h1
  have r0 : Dt B.G.K (N + k1) H1 Z x (CardD.cd r l) := r1
  obtain ⟨a, rfl, dx, v, hins, _⟩ := card_dt c r0
  refine ⟨a, dx, _, rfl, hins, ?_⟩
  have S1 := S.ext e1
  refine meth_go S1 r0 (ExK.refl H1) .nil (fun _ _ _ _ z => z.elim) h1 fun s v H' k e rs hc => ?_
  rw [Ct.assoc] at rs hc
  exact q s v H' (k1 + k) (e1.trans e) (rs.back e1) hc
theorem pe_methK0 {sp : Sp} {g : List Value → List Value → List Value} {gV : List V → List V → List V} {E : XK} (he : PE X o to) (c : Cls X.K C) (hm : Meth X.K C m f) (F : FnOk X.prog X.w X.K X.mg X.base CX k f fd ps sp) (hr : Room k X.A) (hb : KBn X.K fd ps 1 ks g gV) (hx : Passes CX X E) (hkw : PK X kwl tk)
    (hall : (backToKw pos (keywordEach kwl X.env)).all (·.1.isSome) = true := by rfl) (hks : (backToKw pos (keywordEach kwl X.env)).filterMap (·.1) = ks := by rfl)
    (hpl : ((backTo pos (starEach [] X.env)).any (·.1) || (backToKw pos (keywordEach kwl X.env)).any (·.1.isNone)) = false := by rfl)
    (ht : eval (.Call (.Attribute o m apos) [] kwl pos) X.env = (do
      let ov ← eval o X.env
      standAt apos.atName
      let (f, first) ← holding [ov] (getMethod ov m pl)
      callWith pos f first (backTo pos (starEach [] X.env)) (backToKw pos (keywordEach kwl X.env))) := by rfl) :
    PE X (.Call (.Attribute o m apos) [] kwl pos) (tMethK C m ks.length sp gV E to tk) := by
  refine ⟨fun pins s σ H Q I h => ?_⟩
  refine PySem.W.methodCall_KW (pl := pl) (thn (he.run pins s σ H _ I h) fun u s1 ⟨x, H1, I1, rx, a, dx, fs, ex, ea, l, q⟩ => ?_) ht
  subst ex
  obtain rfl : u = Value.ref a := rx
  refine getmeth_ok I1 ea c hm l ?_
  refine PySem.W.callWith_KW0 (h₀ := X.base) (first := [.ref a]) I1.ok.mod.kin hm.kp hall ?_ hpl
  refine thn (hkw.run pos pins s1 σ H1 _ I1 q) fun ws s2 ⟨zs, H2, I2, rz, l2, q2⟩ => ⟨I2.kIn, ?_⟩
  rw [hks]
  exact run_fnN (us := [.ref a]) (vs := [.ref a]) F hr hb hx I2 (.cons rfl .nil) rz rfl l2 q2
def CalMR (P : Program) (w : World) (K : PySem.W.Frag) (mg : Str → Option Value) (base : Heap) (CX : CXT) (C : Addr) (m : Str) (k : Nat) (dsp : DSp) : Prop := ∃ f, Meth K C m f ∧ FnR P w K mg base CX k f (lift K dsp)
def CalM0 (P : Program) (w : World) (K : PySem.W.Frag) (mg : Str → Option Value) (base : Heap) (CX : CXT) (C : Addr) (m : Str) (k : Nat) (ps : List Str) (dsp : DSp) : Prop := ∃ f fd, Meth K C m f ∧ DFn P w K mg base CX k f fd ps dsp ∧ Binds K fd ps []
def CalMK (P : Program) (w : World) (K : PySem.W.Frag) (mg : Str → Option Value) (base : Heap) (CX : CXT) (C : Addr) (m qual : Str) (k : Nat) (st : Stmt) (ps : List Str) (kws : List (Str × V)) (dsp : DSp) : Prop :=
  ∃ f fd, Meth K C m f ∧ DFn P w K mg base CX k f fd ps dsp ∧ FunD K m qual (defArgs st) (defBody st) (defScope st) [] kws f fd
def CalPr (P : Program) (w : World) (K : PySem.W.Frag) (mg : Str → Option Value) (base : Heap) (CX : CXT) (C : Addr) (m : Str) (k : Nat) (dsp : DSp) : Prop := ∃ p g fd, PropOf K C m p g ∧ DFn P w K mg base CX k g fd ["self"] dsp ∧ Binds K fd ["self"] []
theorem x_methR (cf : CardF X.K C) (M : CalMR X.prog X.w X.K X.mg X.base CX C m k dsp) (hr : Room j X.A) (hkj : k ≤ j) (hx : Passes CX X G.E) (hl : notFld m = true) (ho : XE X G o to do_) (ha : XA X G (e :: es) t d) (hK : G.K = X.K := by rfl)
    (hst : starEach (e :: es) X.env = (false, eval e X.env) :: starEach es X.env := by rfl) (hpl : (backTo pos (starEach es X.env)).any (·.1) = false := by rfl)
    (ht : eval (.Call (.Attribute o m apos) (e :: es) [] pos) X.env = (do
      let ov ← eval o X.env
      standAt apos.atName
      let (f, first) ← holding [ov] (getMethod ov m pl)
      callWith pos f first (backTo pos (starEach (e :: es) X.env)) (backToKw pos (keywordEach [] X.env))) := by rfl) :
    XE X G (.Call (.Attribute o m apos) (e :: es) [] pos) (tMethR C m (lift G.K dsp) G.E to t) (dMeth G.Er dsp do_ d) := by
  obtain ⟨f, hm, F⟩ := M
  have F2 : FnR X.prog X.w X.K X.mg X.base CX k f (lift G.K dsp) := by rw [hK]; exact F
  exact ⟨pe_methR ho.pe cf.c hm F2 (hr.mono hkj) hx ha.pe hst hpl ht, snd_meth (by rw [hK]; exact cf) ho.sn ha.sn hl⟩
/-- o.m(), m with *args -/
def tMethR0 (C : Addr) (m : Str) (sp : Sp) (E : XK) (ta : TE) : TE := fun σ H Q => ta σ H fun x H1 => ∃ a dx fs, x = .ref a ∧ H1 a = some (.ins C dx fs) ∧ fs.lookup m = none ∧ sp [x] H1 Q E
theorem x_methR0 (cf : CardF X.K C) (M : CalMR X.prog X.w X.K X.mg X.base CX C m k dsp) (hr : Room j X.A) (hkj : k ≤ j) (hx : Passes CX X G.E) (hl : notFld m = true) (ho : XE X G o to do_) (hK : G.K = X.K := by rfl)
    (ht : eval (.Call (.Attribute o m apos) [] [] pos) X.env = (do
      let ov ← eval o X.env
      standAt apos.atName
      let (f, first) ← holding [ov] (getMethod ov m pl)
      callWith pos f first (backTo pos (starEach [] X.env)) (backToKw pos (keywordEach [] X.env))) := by rfl) :
    XE X G (.Call (.Attribute o m apos) [] [] pos) (tMethR0 C m (lift G.K dsp) G.E to) (dMeth G.Er dsp do_ dNil) := by
  obtain ⟨f, hm, F⟩ := M
  have F2 : FnR X.prog X.w X.K X.mg X.base CX k f (lift G.K dsp) := by rw [hK]; exact F
  refine ⟨⟨fun pins s σ H Q I h => ?_⟩, (snd_meth (by rw [hK]; exact cf) ho.sn snd_nil hl : Snd G (tMethR C m (lift G.K dsp) G.E to tNil) _)⟩
  refine PySem.W.methodCall_KW (pl := pl) (thn (ho.pe.run pins s σ H _ I h) fun u s1 ⟨x, H1, I1, rx, a, dx, fs, ex, ea, l, q⟩ => ?_) ht
  subst ex
  obtain rfl : u = Value.ref a := rx
  refine getmeth_ok I1 ea cf.c hm l ?_
  exact PySem.W.callWith_K0 (first := [.ref a]) I1.kIn hm.kp (wpAny_call (run_fnR (us := [.ref a]) (vs := [.ref a]) F2 (hr.mono hkj) hx I1 (.cons rfl .nil) q))
theorem x_meth0 (cf : CardF X.K C) (M : CalM0 X.prog X.w X.K X.mg X.base CX C m k ps dsp) (hr : Room j X.A) (hkj : k ≤ j) (hx : Passes CX X G.E) (hl : notFld m = true) (ho : XE X G o to do_) (hK : G.K = X.K := by rfl)
    (ht : eval (.Call (.Attribute o m apos) [] [] pos) X.env = (do
      let ov ← eval o X.env
      standAt apos.atName
      let (f, first) ← holding [ov] (getMethod ov m pl)
      callWith pos f first (backTo pos (starEach [] X.env)) (backToKw pos (keywordEach [] X.env))) := by rfl) :
    XE X G (.Call (.Attribute o m apos) [] [] pos) (tMeth C m (lift G.K dsp) [] G.E to tNil) (dMeth G.Er dsp do_ dNil) := by
  obtain ⟨f, fd, hm, F, hb⟩ := M
  have F2 : FnOk X.prog X.w X.K X.mg X.base CX k f fd ps (lift G.K dsp) := by rw [hK]; exact F
  exact ⟨pe_meth0 ho.pe cf.c hm F2 (hr.mono hkj) hb .nil hx ht, snd_meth (by rw [hK]; exact cf) ho.sn snd_nil hl⟩
theorem x_methK {qual : Str} {st : Stmt} {kws : List (Str × V)} (ks : List Str) (cf : CardF X.K C) (M : CalMK X.prog X.w X.K X.mg X.base CX C m qual k st ps kws dsp) (hr : Room j X.A) (hkj : k ≤ j) (hx : Passes CX X G.E) (hl : notFld m = true) (hk : kws ≠ [])
    (h : ∀ (D : Addr) (doc pm : Value) (an : Option Addr) (cdv ct : Value) (us mv tv ws : List Value), us.length = 1 → mv.length = 0 → tv.length = 0 → ws.length = ks.length →
      KwChain D ((([] ++ [] : List (Str × V)).map (·.1)).zip (mv ++ tv)) (bindArgs (PySem.W.fnOf m qual (defArgs st) (defBody st) (defScope st) .none (.ref D) doc pm an cdv ct) ⟨us, ks.zip ws⟩) (ps.zip (us ++ (mv ++ (ws ++ tv)))))
    (ho : XE X G o to do_) (hkw : XK2 X G kwl tk dk) (hK : G.K = X.K := by rfl) (hall : (backToKw pos (keywordEach kwl X.env)).all (·.1.isSome) = true := by rfl) (hks : (backToKw pos (keywordEach kwl X.env)).filterMap (·.1) = ks := by rfl)
    (hpl : ((backTo pos (starEach [] X.env)).any (·.1) || (backToKw pos (keywordEach kwl X.env)).any (·.1.isNone)) = false := by rfl)
    (ht : eval (.Call (.Attribute o m apos) [] kwl pos) X.env = (do
      let ov ← eval o X.env
      standAt apos.atName
      let (f, first) ← holding [ov] (getMethod ov m pl)
      callWith pos f first (backTo pos (starEach [] X.env)) (backToKw pos (keywordEach kwl X.env))) := by rfl) :
    XE X G (.Call (.Attribute o m apos) [] kwl pos) (tMethK C m ks.length (lift G.K dsp) (fun vs zs => vs ++ ([] ++ (zs ++ []))) G.E to tk) (dMethK G.Er ks.length dsp do_ dk) := by
  obtain ⟨f, fd, hm, F, FD⟩ := M
  have F2 : FnOk X.prog X.w X.K X.mg X.base CX k f fd ps (lift G.K dsp) := by rw [hK]; exact F
  obtain ⟨g, hb⟩ := kbn_of FD 1 ks [] [] (fun q hq => by cases hq) hk h
  exact ⟨pe_methK0 ho.pe cf.c hm F2 (hr.mono hkj) hb hx hkw.pe hall hks hpl ht, snd_methK (by rw [hK]; exact cf) ho.sn hkw.sn hl⟩
/-- o.m(), all keyword-only ones lack -/
theorem x_methD {qual : Str} {st : Stmt} {kws : List (Str × V)} (cf : CardF X.K C) (M : CalMK X.prog X.w X.K X.mg X.base CX C m qual k st ps kws dsp) (hr : Room j X.A) (hkj : k ≤ j) (hx : Passes CX X G.E) (hl : notFld m = true) (hk : kws ≠ []) (hn : 1 + kws.length = ps.length)
    (h : ∀ (D : Addr) (doc pm : Value) (an : Option Addr) (cdv ct : Value) (us ks : List Value), us.length = 1 → ks.length = kws.length →
      KwChain D ((kws.map (·.1)).zip ks) (bindArgs (PySem.W.fnOf m qual (defArgs st) (defBody st) (defScope st) .none (.ref D) doc pm an cdv ct) ⟨us, []⟩) (ps.zip (us ++ ks)))
    (ho : XE X G o to do_) (hK : G.K = X.K := by rfl)
    (ht : eval (.Call (.Attribute o m apos) [] [] pos) X.env = (do
      let ov ← eval o X.env
      standAt apos.atName
      let (f, first) ← holding [ov] (getMethod ov m pl)
      callWith pos f first (backTo pos (starEach [] X.env)) (backToKw pos (keywordEach [] X.env))) := by rfl) :
    XE X G (.Call (.Attribute o m apos) [] [] pos) (tMeth C m (lift G.K dsp) (kws.map (·.2)) G.E to tNil) (dMethD G.Er dsp (kws.map (·.2)) do_) := by
  obtain ⟨f, fd, hm, F, FD⟩ := M
  have F2 : FnOk X.prog X.w X.K X.mg X.base CX k f fd ps (lift G.K dsp) := by rw [hK]; exact F
  obtain ⟨ds, rd, hb⟩ := FD.binds0 1 hk hn h
  exact ⟨pe_meth0 ho.pe cf.c hm F2 (hr.mono hkj) hb rd hx ht, snd_methD (by rw [hK]; exact cf) ho.sn hl⟩
theorem x_prop (cf : CardF X.K C) (M : CalPr X.prog X.w X.K X.mg X.base (L2N.CX X.prog X.w) C m k dsp) (hr : Room (j + 1) X.A) (hkj : k ≤ j) (ho : XE X G o to do_) (hK : G.K = X.K := by rfl) (hab : attributeBase o m X.env (eval o X.env) = eval o X.env := by rfl) :
    XE X G (.Attribute o m pos) (tProp C (lift G.K dsp) [] E0 to) (dProp dsp do_) := by
  obtain ⟨p, g, fd, hp, F, hb⟩ := M
  have F2 : FnOk X.prog X.w X.K X.mg X.base (L2N.CX X.prog X.w) k g fd ["self"] (lift G.K dsp) := by rw [hK]; exact F
  exact ⟨pe_prop ho.pe cf.c hp F2 (hr.mono (Nat.succ_le_succ hkj)) hb .nil pass_E0 hab, snd_prop (by rw [hK]; exact cf) ho.sn⟩

/-! ### e in card -/
def rInC (C : Addr) (sp : Sp) : R2 := fun x y H Q => ∃ a dx fs, y = .ref a ∧ H a = some (.ins C dx fs) ∧ sp [.ref a, x] H (fun v H' => ∃ b, v = .bl b ∧ Q (.bl b) H') E0
def CalIn (P : Program) (w : World) (K : PySem.W.Frag) (mg : Str → Option Value) (base : Heap) (C : Addr) (m : Str) (k : Nat) (ps : List Str) (dsp : DSp) : Prop := ∃ f fd, PySem.W.findIn K (.ref C) m = some (some (.ref f)) ∧ PySem.W.isFn K (.ref f) = true ∧ DFn P w K mg base (L2N.CX P w) k f fd ps dsp ∧ Binds K fd ps []
theorem op_inC (M : CalIn X.prog X.w X.K X.mg X.base C "__contains__" k ps dsp) (hr : Room k X.A) : OpR X (compareOp .In) (rInC C (lift X.K dsp)) := by
  obtain ⟨f, fd, hs, hf, F, hb⟩ := M
  intro pins s σ H x y v u Q I rx ry h
  obtain ⟨a, dx, fs, rfl, ha, q⟩ := h
  cases ry
  obtain ⟨mA, J, _⟩ := ins_get I.hok ha
  obtain ⟨od, J, _⟩ := J.look
  obtain ⟨m, hF⟩ := I.fr
  refine PySem.W.in_K hF I.ok.mod.kin J hs hf ?_
  refine wpAny_mono (run_fn (us := [.ref a, v]) (vs := [.ref a, x]) F hr hb .nil pass_E0 I (.cons rfl (.cons rx .nil)) (by rw [List.append_nil]; exact q)) (fun w s1 hz => ?_) fun _ _ e => e
  obtain ⟨z, H1, I1, rz, b, rfl, qz⟩ := hz
  cases rz
  exact wpAny_pure ⟨.bl b, H1, I1, rfl, qz⟩
@[simp] def dInC (dsp : DSp) (da db : DE) : DE := fun δ N C => da δ N fun s N1 => db δ N1 fun u N2 => ∃ d r l, s = .dat d ∧ u = .dat (CardD.cd r l) ∧ dsp [CardD.cd r l, d] N2 (fun z N3 => ∃ b, z = .dat (.bl b) ∧ C (.dat (.bl b)) N3) (fun _ _ => False)
theorem lift_bl {B : Bs} {Z : Addr → Prop} {N1 : Ct} {H1 : Hp} {a : Addr} {r d : D} {l : Addr} {v : V} {δ : StD} {σ : L2.St} {Cc : DK} {Q : VK} (S : SD B Z δ σ H1 N1) (hr : Dt B.G.K N1 H1 Z (.ref a) (CardD.cd r l)) (hv : Dt B.G.K N1 H1 Z v d)
    (hd : dsp [CardD.cd r l, d] N1 (fun z N3 => ∃ b, z = .dat (.bl b) ∧ Cc (.dat (.bl b)) N3) (fun _ _ => False)) (q : ∀ s v H' k, ExK k H1 H' → Rs B (N1 + k) H1 H' Z v s → Cc s (N1 + k) → Q v H') : lift B.G.K dsp [.ref a, v] H1 (fun v H' => ∃ b, v = .bl b ∧ Q (.bl b) H') E0 := by
  refine ⟨Z, N1, _, _, _, S.ztt, .cons hr (.cons hv .nil), hd, fun s v H' k e rs hc => ?_, fun _ _ _ _ z => z.elim⟩
  obtain ⟨b, rfl, hc⟩ := hc
  have rs' : Dt B.G.K (N1 + k) H' Z v (.v (.bl b)) := rs
  cases rs'
  exact ⟨b, rfl, q (.dat (.bl b)) _ H' k e (Dt.v _) hc⟩
theorem x_inC (cf : CardF X.K C) (M : CalIn X.prog X.w X.K X.mg X.base C "__contains__" k ps dsp) (hr : Room j X.A) (hkj : k ≤ j) (ha : XE X G e te de) (hb : XE X G e2 te2 de2) (hm : behindInMarks .In e2 = false := by with_unfolding_all rfl) (hK : G.K = X.K := by rfl) :
    XE X G (.Compare e [.In] [e2] pos) (tOp (rInC C (lift G.K dsp)) te te2) (dInC dsp de de2) := by
  refine ⟨by rw [hK]; exact pe_cmpR (op_inC M (hr.mono hkj)) ha.pe hb.pe hm, ⟨fun B Z δ σ H N Cc Q hB S hd q => ?_⟩⟩
  subst hB
  have c' : CardF B.G.K C := by rw [hK]; exact cf
  refine ha.sn.run B Z δ σ H N _ _ rfl S hd fun s x H1 k1 e1 r1 h1 => ?_
  have S1 := S.ext e1
  refine hb.sn.run B Z δ σ H1 (N + k1) _ _ rfl S1 h1 fun u y H2 k2 e2 r2 h2 => ?_
  obtain ⟨d, r, l, rfl, rfl, h2⟩ := h2
  have r2' : Dt B.G.K (N + k1 + k2) H2 Z y (CardD.cd r l) := r2
  have r1' : Dt B.G.K (N + k1) H1 Z x d := r1
  obtain ⟨a, rfl, dx, v, hins, _⟩ := card_dt c' r2'
  refine ⟨a, dx, _, rfl, hins, lift_bl (S1.ext e2) r2' (r1'.ex e2) h2 fun s v H' k e rs hc => ?_⟩
  have ea : N + k1 + k2 + k = N + (k1 + k2 + k) := by simp only [Ct.assoc]
  rw [ea] at rs hc
  exact q s v H' (k1 + k2 + k) ((e1.trans e2).trans e) (rs.back (e1.trans e2)) hc

/-! ### card == e -/
def KTy (K : PySem.W.Frag) (C : Addr) (y : V) (H : Hp) : Prop := (∃ b dx fs, y = .ref b ∧ H b = some (.ins C dx fs)) ∨ ∃ b xs, y = .ref b ∧ H b = some (.tup xs)
def rEqC (K : PySem.W.Frag) (C : Addr) (sp : Sp) : R2 := fun x y H Q => ∃ a dx fs, x = .ref a ∧ H a = some (.ins C dx fs) ∧ KTy K C y H ∧ sp [.ref a, y] H (fun v H' => ∃ b, v = .bl b ∧ Q (.bl b) H') E0
theorem op_eqC (ht : PySem.W.subIn X.K (.type "tuple") (.ref C) = some false) (M : CalIn X.prog X.w X.K X.mg X.base C "__eq__" k ps dsp) (hr : Room k X.A) : OpR X (compareOp .Eq) (rEqC X.K C (lift X.K dsp)) := by
  obtain ⟨f, fd, hs, hf, F, hb⟩ := M
  intro pins s σ H x y v u Q I rx ry h
  obtain ⟨a, dx, fs, rfl, ha, hy, q⟩ := h
  cases rx
  obtain ⟨mA, J, _⟩ := ins_get I.hok ha
  obtain ⟨od, J, _⟩ := J.look
  obtain ⟨m, hF⟩ := I.fr
  have fin : wpAny (model X.prog X.w) X.A (call (.ref f) [.ref a, u]) (PySem.W.CmpBack (EP X pins σ Q)) X.xe s := by
    refine wpAny_mono (run_fn (us := [.ref a, u]) (vs := [.ref a, y]) F hr hb .nil pass_E0 I (.cons rfl (.cons ry .nil)) (by rw [List.append_nil]; exact q)) (fun w s1 hz => ?_) fun _ _ e => e
    obtain ⟨z, H1, I1, rz, b, rfl, qz⟩ := hz
    cases rz
    exact ⟨.bl b, H1, I1, rfl, qz⟩
  show wpAny (model X.prog X.w) X.A (richCompare .Eq (.ref a) u) (EP X pins σ Q) X.xe s
  rcases hy with ⟨b, dy, gs, rfl, hb'⟩ | ⟨b, xs, rfl, hb'⟩
  · cases ry
    obtain ⟨mB, J', _⟩ := ins_get I.hok hb'
    obtain ⟨od', J', _⟩ := J'.look
    exact PySem.W.cmp_K (op := .Eq) (tb := .ref C) hr.units0 hF I.ok.mod.kin J J'.type (by simp [PySem.W.notFirst]) hs hf fin
  · cases ry
    obtain ⟨_, its, _, o, ho, hc, _⟩ := (show ObjOk X.prog X.w H s.heap b (.tup xs) from I.hok b _ hb')
    exact PySem.W.cmp_K (op := .Eq) (tb := .type "tuple") hr.units0 hF I.ok.mod.kin J (hc ▸ (PySem.W.Looks.ld ho).andThen .now) (by simp [PySem.W.notFirst, ht]) hs hf fin
@[simp] def dEqC (dsp : DSp) (da db : DE) : DE := fun δ N C => da δ N fun s N1 => db δ N1 fun u N2 => ∃ d r l, s = .dat (CardD.cd r l) ∧ u = .dat d ∧ ((∃ r' l', d = CardD.cd r' l') ∨ ∃ ds, d = .tup ds) ∧ dsp [CardD.cd r l, d] N2 (fun z N3 => ∃ b, z = .dat (.bl b) ∧ C (.dat (.bl b)) N3) (fun _ _ => False)
theorem x_eqC (cf : CardF X.K C) (htp : PySem.W.subIn X.K (.type "tuple") (.ref C) = some false) (M : CalIn X.prog X.w X.K X.mg X.base C "__eq__" k ps dsp) (hr : Room j X.A) (hkj : k ≤ j) (ha : XE X G e te de) (hb : XE X G e2 te2 de2) (hm : behindInMarks .Eq e2 = false := by first | exact nomark _ | rfl | with_unfolding_all rfl) (hK : G.K = X.K := by rfl) :
    XE X G (.Compare e [.Eq] [e2] pos) (tOp (rEqC G.K C (lift G.K dsp)) te te2) (dEqC dsp de de2) := by
  refine ⟨by rw [hK]; exact pe_cmpR (op_eqC htp M (hr.mono hkj)) ha.pe hb.pe hm, ⟨fun B Z δ σ H N Cc Q hB S hd q => ?_⟩⟩
  subst hB
  have c' : CardF B.G.K C := by rw [hK]; exact cf
  refine ha.sn.run B Z δ σ H N _ _ rfl S hd fun s x H1 k1 e1 r1 h1 => ?_
  have S1 := S.ext e1
  refine hb.sn.run B Z δ σ H1 (N + k1) _ _ rfl S1 h1 fun u y H2 k2 e2 r2 h2 => ?_
  obtain ⟨d, r, l, rfl, rfl, hk, h2⟩ := h2
  have r2' : Dt B.G.K (N + k1 + k2) H2 Z y d := r2
  have r1' : Dt B.G.K (N + k1 + k2) H2 Z x (CardD.cd r l) := Dt.ex e2 (show Dt B.G.K (N + k1) H1 Z x (CardD.cd r l) from r1)
  obtain ⟨a, rfl, dx, v, hins, _⟩ := card_dt c' r1'
  have ky : KTy B.G.K C y H2 := by
    rcases hk with ⟨r', l', rfl⟩ | ⟨ds, rfl⟩
    · obtain ⟨b, rfl, dy, v', hins', _⟩ := card_dt c' r2'
      exact .inl ⟨b, dy, _, rfl, hins'⟩
    · obtain ⟨b, xs, rfl, hx, _⟩ := (Dw.of r2').tup_inv
      exact .inr ⟨b, xs, rfl, hx⟩
  refine ⟨a, dx, _, rfl, hins, ky, lift_bl (S1.ext e2) r1' r2' h2 fun s v H' k e rs hc => ?_⟩
  have ea : N + k1 + k2 + k = N + (k1 + k2 + k) := by simp only [Ct.assoc]
  rw [ea] at rs hc
  exact q s v H' (k1 + k2 + k) ((e1.trans e2).trans e) (rs.back (e1.trans e2)) hc

theorem xt_inC (cf : CardF X.K C) (M : CalIn X.prog X.w X.K X.mg X.base C "__contains__" k ps dsp) (hr : Room j X.A) (hkj : k ≤ j) (ha : XE X G e te de) (hb : XE X G e2 te2 de2) (hm : behindInMarks .In e2 = false := by with_unfolding_all rfl) (hK : G.K = X.K := by rfl) :
    XT X G (.Compare e [.In] [e2] pos) (tTest (tOp (rInC C (lift G.K dsp)) te te2)) (dTest (dInC dsp de de2)) :=
  ⟨by rw [hK]; exact pt_cmpR (op_inC M (hr.mono hkj)) ha.pe hb.pe hm, snd_test (x_inC (pos := pos) cf M hr hkj ha hb hm hK).sn⟩
theorem xt_eqC (cf : CardF X.K C) (htp : PySem.W.subIn X.K (.type "tuple") (.ref C) = some false) (M : CalIn X.prog X.w X.K X.mg X.base C "__eq__" k ps dsp) (hr : Room j X.A) (hkj : k ≤ j) (ha : XE X G e te de) (hb : XE X G e2 te2 de2) (hm : behindInMarks .Eq e2 = false := by first | exact nomark _ | rfl | with_unfolding_all rfl) (hK : G.K = X.K := by rfl) :
    XT X G (.Compare e [.Eq] [e2] pos) (tTest (tOp (rEqC G.K C (lift G.K dsp)) te te2)) (dTest (dEqC dsp de de2)) :=
  ⟨by rw [hK]; exact pt_cmpR (op_eqC htp M (hr.mono hkj)) ha.pe hb.pe hm, snd_test (x_eqC (pos := pos) cf htp M hr hkj ha hb hm hK).sn⟩
/-! ### isinstance(e, Card) -/
structure IsC (K : PySem.W.Frag) (C : Addr) : Prop where
  ha : PySem.W.findIn K (.ref C) "__class__" = some (some (.builtin "object.__class__"))
  hn : PySem.W.specialIn K (.builtin "object.__class__") "__get__" = some (some (.builtin "getset_descriptor.__get__"))
  ht : PySem.W.takesIn K (.builtin "object.__class__") = some true
  hm : PySem.W.mroIn K C (.type "object") = some true
  k1 : PySem.W.kitOne K (.ref C) (.ref C) = some true
  k2 : PySem.W.kitOne K (.type "tuple") (.ref C) = some false
@[simp] def dIsC (da : DE) : DE := fun δ N C => da δ N fun s N1 => (∃ r l, s = .dat (CardD.cd r l) ∧ C (.dat (.bl true)) N1) ∨ ∃ ds, s = .dat (.tup ds) ∧ C (.dat (.bl false)) N1
theorem x_isC {x : Str} {p px : Pos} (cf : CardF X.K C) (ic : IsC X.K C) (hgi : Gl X "isinstance") (hmi : X.mg "isinstance" = none) (hg : Gl X x) (hmg : X.mg x = some (.ref C)) (ha : XE X G e te de) (hK : G.K = X.K := by rfl) (hdb : (x == ("__debug__" : Str)) = false := by decide)
    (hs1 : starEach [.Name x px] X.env = (false, eval (.Name x px) X.env) :: starEach [] X.env := by rfl) (hs2 : starEach [e, .Name x px] X.env = (false, eval e X.env) :: starEach [.Name x px] X.env := by rfl) (hpl : (backTo pos (starEach [.Name x px] X.env)).any (·.1) = false := by rfl) :
    XE X G (.Call (.Name "isinstance" p) [e, .Name x px] [] pos) (tCB (rIsi G.K) (tCons te (tCons (tC (.ref C)) tNil))) (dIsC de) := by
  refine ⟨by rw [hK]; exact pe_callB call_isi hgi hmi PyProof.Rows.boot_isinstance (pa_cons ha.pe (pa_cons (pe_glob (v := .ref C) hg hmg rfl hdb) pa_nil hs1) hs2) (by decide) (by decide) hs2 hpl, ⟨fun B Z δ σ H N Cc Q hB S hd q => ?_⟩⟩
  subst hB
  have c' : CardF B.G.K C := by rw [hK]; exact cf
  have i' : IsC B.G.K C := by rw [hK]; exact ic
  refine ha.sn.run B Z δ σ H N _ _ rfl S hd fun s y H1 k1 e1 r1 h1 => ?_
  rcases h1 with ⟨r, l, rfl, h1⟩ | ⟨ds, rfl, h1⟩
  · obtain ⟨a, rfl, dx, v, hins, _⟩ := card_dt c' (show Dt B.G.K (N + k1) H1 Z y (CardD.cd r l) from r1)
    exact ⟨_, _, _, _, true, rfl, .own C, .base (.ins hins c'.c i'.ha i'.hn i'.ht i'.hm), i'.k1, q (.dat (.bl true)) _ H1 k1 e1 (Dt.v _) h1⟩
  · obtain ⟨b, xs, rfl, hx, _⟩ := (Dw.of (show Dt B.K (N + k1) H1 Z y (.tup ds) from r1)).tup_inv
    exact ⟨_, _, _, _, false, rfl, .own C, .base (.tup hx), i'.k2, q (.dat (.bl false)) _ H1 k1 e1 (Dt.v _) h1⟩
/-! ### Card.DAY -/
theorem x_cday {x : Str} {px : Pos} {mc u : Value} (rd : ClX.CRead X.K C mc) (cv : ClX.CVal X.K C mc "DAY" (.int 1440) u) (hg : Gl X x) (hmg : X.mg x = some (.ref C)) (hK : G.K = X.K := by rfl) (hdb : (x == ("__debug__" : Str)) = false := by decide)
    (hb : attributeBase (.Name x px) "DAY" X.env (eval (.Name x px) X.env) = eval (.Name x px) X.env := by rfl) : XE X G (.Attribute (.Name x px) "DAY" pos) (ClX.tCVal X.K (tC (.ref C)) "DAY") (dC (.int 1440)) :=
  ⟨ClX.pe_cval (pe_glob (v := .ref C) hg hmg rfl hdb) hb, ⟨fun B Z δ σ H N Cc Q hB S hd q => ⟨C, mc, .int 1440, u, rfl, rd, cv, q (.dat (.int 1440)) _ H 0 (ExK.refl H) (Dt.v _) hd⟩⟩⟩
end
end DL

/-! DXr: new cards. -/
namespace DL
open PySem PySem.Spec PyProof.Rows L2
variable [TabNames] [CardD]

def initH (H1 : Hp) (C a dx t l : Addr) (v : V) : Hp := upd (upd (upd (upd H1 a (.ins C dx (putF "rule" v []))) t (.tup st0V)) l (.lst [.ref t])) a (.ins C dx (putF "states" (.ref l) (putF "rule" v [])))
def spNew (K : PySem.W.Frag) (C : Addr) (dspc : DSp) : Sp := fun vs H Q E => ∃ (a dx : Addr) (v : V) (Z : Addr → Prop) (N : Ct) (r : D) (Cc : DK) (Er : Value → Ct → Prop), vs = [.ref a, v] ∧ H a = some (.ins C dx []) ∧ Zt Z H ∧ Dt K N H Z v r ∧ dspc [r] N Cc Er ∧
  (∀ s H1 k t l, ExK k H H1 → Cc s (N + k) → H1 t = none → H1 l = none → l ≠ t → Q .non (initH H1 C a dx t l v)) ∧ (∀ cls H' k, ExK k H H' → Er cls (N + k) → E cls none H')
theorem tab_ins {H : Hp} {P a C dx : Addr} {q : Str} {fs : List (Str × V)} {o : HO} (h : H a = some (.ins C dx fs)) (t : LamX.TabS H P q) : LamX.TabS (upd H a o) P q := by
  obtain ⟨ps, h1, h2, h3⟩ := t
  have ne : ∀ b u, (∀ C dx fs, u ≠ HO.ins C dx fs) → H b = some u → upd H a o b = some u := fun b u n e => by
    rw [upd_ne (fun z => by rw [z, h] at e; cases e; exact n _ _ _ rfl)]
    exact e
  refine ⟨ps, ne _ _ (fun _ _ _ z => by cases z) h1, h2, fun pos cv hc => ?_⟩
  obtain ⟨c, e1, e2⟩ := h3 pos cv hc
  exact ⟨c, e1, ne _ _ (fun _ _ _ z => by unfold LamX.CodeO at z; cases z) e2⟩
theorem ExK.wrI {k : Ct} {H H1 : Hp} {a C dx : Addr} {fs : List (Str × V)} {o : HO} (e : ExK k H H1) (h : H a = none) (h1 : H1 a = some (.ins C dx fs)) : ExK k H (upd H1 a o) := by
  have ne : ∀ b u, H b = some u → b ≠ a := fun b u q z => by rw [z, h] at q; cases q
  refine ⟨fun b u q => ?_, fun P t => tab_ins h1 (e.tb P t), fun l c r => (e.cd l c r).upd h1 (fun _ z => by cases z) fun _ z => by cases z⟩
  rcases e.ob b u q with z | ⟨z, f⟩ | ⟨z, ps, f⟩ | ⟨z, ps, f⟩
  · exact .inl (by rw [upd_ne (ne b u q)]; exact z)
  · refine .inr (.inl ⟨z, fun n en => ?_⟩)
    obtain ⟨m, hm, y⟩ := f n en
    exact ⟨m, hm, by rw [upd_ne (ne b u q)]; exact y⟩
  · exact .inr (.inr (.inl ⟨z, ps, by rw [upd_ne (ne b u q)]; exact f⟩))
  · exact .inr (.inr (.inr ⟨z, ps, by rw [upd_ne (ne b u q)]; exact f⟩))
/-- a new card at x, its list at l -/
def spMk (K : PySem.W.Frag) (dspc : DSp) : Sp := fun vs H Q E => ∃ (Z : Addr → Prop) (N : Ct) (r : D) (Cc : DK) (Er : Value → Ct → Prop), Zt Z H ∧ DtAll K N H Z vs [r] ∧ dspc [r] N Cc Er ∧
  (∀ s x l t H' k, ExK k H H' → H x = none → H l = none → H' l = some (.lst ([t].map V.ref)) → (∀ o, ExK (k + ⟨0, [(l, [st0V])]⟩) H (upd H' l o)) → (Zt Z H → Dt K (N + k + ⟨0, [(l, [st0V])]⟩) (upd H' l (.ext (cardL l [t]))) Z (.ref x) (CardD.cd r l)) → Cc s (N + k) → Q (.ref x) H') ∧
  (∀ cls H' k, ExK k H H' → Er cls (N + k) → E cls none H')
section
variable {P : Program} {w : World} {K : PySem.W.Frag} {mg : Str → Option Value} {base : Heap} {C : Addr} {dspc : DSp}
theorem new_of (c : CardF K C) {vs : List V} {H : Hp} {Q : VK} {E : XK} (h : spMk K dspc vs H Q E) (x dx : Addr) (hx : H x = none) (hdx : H dx = none) (hne : dx ≠ x) :
    spNew K C dspc (.ref x :: vs) (upd (upd H dx (.own x)) x (.ins C dx [])) (fun v H2 => v = .non ∧ Q (.ref x) H2) E := by
  obtain ⟨Z, N, rr, Cc, Er, hz, r, hd, q, hE⟩ := h
  cases r with
  | @cons v vs1 _ _ rv r2 =>
  cases r2
  have e1 := ExK.new (o := .own x) hdx
  have e2 : ExK 0 (upd H dx (.own x)) (upd (upd H dx (.own x)) x (.ins C dx [])) := ExK.new (by rw [upd_ne (Ne.symm hne)]; exact hx)
  have e3 : ExK 0 H (upd (upd H dx (.own x)) x (.ins C dx [])) := e1.trans e2
  refine ⟨x, dx, v, Z, N, rr, Cc, Er, rfl, upd_same, hz.ex e3, rv.ex0 e3, hd, fun s H1 k t l e hc ht hl hlt => ⟨rfl, ?_⟩, fun cls H' k e w => ?_⟩
  · have e4 := e3.trans e
    rw [Ct.zero_add] at e4
    have h1 : H1 x = some (.ins C dx []) := e.kept upd_same (fun φ z => by cases z)
    have a1 : ExK k H (upd H1 x (.ins C dx (putF "rule" v []))) := e4.wrI hx h1
    have nt : t ≠ x := fun z => by rw [z, h1] at ht; cases ht
    have nl : l ≠ x := fun z => by rw [z, h1] at hl; cases hl
    have a2 : ExK k H (upd (upd H1 x (.ins C dx (putF "rule" v []))) t (.tup st0V)) := a1.trans (ExK.new (by rw [upd_ne nt]; exact ht))
    have a3 := a2.trans (ExK.new (p := l) (o := .lst [.ref t]) (by rw [upd_ne hlt, upd_ne nl]; exact hl))
    have hI : (upd (upd (upd H1 x (.ins C dx (putF "rule" v []))) t (.tup st0V)) l (.lst [.ref t])) x = some (.ins C dx (putF "rule" v [])) := by rw [upd_ne (Ne.symm nl), upd_ne (Ne.symm nt), upd_same]
    have a4 : ExK k H (initH H1 C x dx t l v) := ExK.wrI (k := k) a3 hx hI
    have h0l : H l = none := e4.back hl
    have hT : initH H1 C x dx t l v t = some (.tup st0V) := by unfold initH; rw [upd_ne nt, upd_ne (Ne.symm hlt), upd_same]
    have hL : initH H1 C x dx t l v l = some (.lst [.ref t]) := by unfold initH; rw [upd_ne nl, upd_same]
    have a5 : ∀ o, ExK (k + ⟨0, [(l, [st0V])]⟩) H (upd (initH H1 C x dx t l v) l o) := fun o => (a4.wr h0l hL).log h0l
    refine q s x l t _ k a4 hx h0l hL a5 (fun _ => ?_) hc
    rw [c.cd]
    have rv' := rv.ex (a5 (.ext (cardL l [t])))
    rw [← Ct.assoc] at rv'
    refine .fix cardP_stab ⟨dx, v, ?_, rv', [t], upd_same, ?_⟩
    · rw [upd_ne (Ne.symm nl)]
      exact upd_same
    · rw [show (N + k + ⟨0, [(l, [st0V])]⟩ : Ct).at l = [st0V] from if_pos rfl]
      exact ⟨by rw [upd_ne (Ne.symm hlt)]; exact hT, trivial⟩
  · have e4 := e3.trans e
    rw [Ct.zero_add] at e4
    exact hE cls H' k e4 w
/-- the class, called -/
def CalC (P : Program) (w : World) (K : PySem.W.Frag) (mg : Str → Option Value) (base : Heap) (CX : CXT) (x : Str) (k : Nat) (C : Addr) (dspc : DSp) : Prop :=
  ∃ f fd ps, Mk K C f ∧ FnOk P w K mg base CX k f fd ps (spNew K C dspc) ∧ Binds K fd ps [] ∧ mg x = some (.ref C)
end
/-- no card of the def's has its list at l -/
def FreshL (δ : StD) (l : Addr) : Prop := ∀ i r' l', nth δ i = some (.dat (CardD.cd r' l')) → l' ≠ l
@[simp] def dNewC (Er : Value → Ct → Prop) (dspc : DSp) (d : DA) : DE := fun δ N C => d δ N fun ss N1 => ∃ r, ss = [.dat r] ∧ dspc [r] N1 (fun _ N2 => ∀ l, FreshL δ l → C (.dat (CardD.cd r l)) (N2.put l [st0V])) Er
section
variable {X : Cx} {G : Gg} {e e2 : Expr} {es : List Expr} {t t2 : TA} {d d2 : DA} {p pos p2 pos2 : Pos} {C : Addr} {x : Str} {dspc : DSp} {CX : CXT} {k j : Nat} {te te2 : TE} {de de2 : DE}
theorem fresh_of {B : Bs} {Z : Addr → Prop} {δ : StD} {σ : L2.St} {H : Hp} {N : Ct} {l : Addr} (cf : CardF B.G.K C) (S : SD B Z δ σ H N) (h : H l = none) : FreshL δ l := fun i r' l' hn e => by
  obtain ⟨v, _, rv⟩ := S.slot i _ hn
  obtain ⟨a, _, dx, u, _, _, ts, hl, _⟩ := card_dt cf (show Dt B.G.K N H Z v (CardD.cd r' l') from rv)
  rw [e, h] at hl
  cases hl
/-- a card is made, told as it stands: with where its list lies -/
theorem mk_run {B : Bs} {Z : Addr → Prop} {δ : StD} {σ : L2.St} {H : Hp} {N : Ct} {Q : VK} {C' : D → Addr → Ct → Prop} (S : SD B Z δ σ H N) {ta : TA} {da : DA} (ha : SndA B.G ta da)
    (h : da δ N fun ss N1 => ∃ r, ss = [.dat r] ∧ dspc [r] N1 (fun _ N2 => ∀ l, C' r l N2) B.G.Er)
    (q : ∀ r l x t k H', ExK k H H' → H l = none → H' l = some (.lst ([t].map V.ref)) → (∀ o, ExK (k + ⟨0, [(l, [st0V])]⟩) H (upd H' l o)) → Dt B.G.K (N + (k + ⟨0, [(l, [st0V])]⟩)) (upd H' l (.ext (cardL l [t]))) Z (.ref x) (CardD.cd r l) → C' r l (N + k) → Q (.ref x) H') :
    tCall (spMk B.G.K dspc) [] B.G.E ta σ H Q := by
  refine ha.run B Z δ σ H N _ _ rfl S h fun ss vs H1 k1 e1 r1 h1 => ?_
  obtain ⟨r, rfl, hd⟩ := h1
  have S1 := S.ext e1
  have hz1 := S1.ztt
  rw [List.append_nil]
  refine ⟨Z, N + k1, r, _, B.G.Er, hz1, pair_all r1 rfl, hd, fun s y l t' H' k2 e2 hx hl hL hE hD hc => ?_, eok_of S1⟩
  have h0l : H l = none := e1.back hl
  have ea : ∀ z : Ct, N + k1 + z = N + (k1 + z) := fun z => Ct.assoc _ _ _
  have eb : N + k1 + k2 + ⟨0, [(l, [st0V])]⟩ = N + (k1 + k2 + ⟨0, [(l, [st0V])]⟩) := by simp only [Ct.assoc]
  have hD' := hD hz1
  rw [eb] at hD'
  have hc' := hc l
  rw [ea] at hc'
  refine q r l y t' (k1 + k2) H' (e1.trans e2) h0l hL (fun o => ?_) hD' hc'
  have := e1.trans (hE o)
  rw [← Ct.assoc] at this
  exact this
theorem pe_make1 (cf : CardF X.K C) (M : CalC X.prog X.w X.K X.mg X.base CX x k C dspc) (hr : Room (j + 1) X.A) (hkj : k ≤ j) (hg : Gl X x) (hx : Passes CX X G.E) (ha : PA X (e :: es) t) (hK : G.K = X.K)
    (hdb : (x == ("__debug__" : Str)) = false) (he : starEach (e :: es) X.env = (false, eval e X.env) :: starEach es X.env) (hpl : (backTo pos (starEach es X.env)).any (·.1) = false) :
    PE X (.Call (.Name x p) (e :: es) [] pos) (tHideC (tCall (spMk G.K dspc) [] G.E t)) := by
  obtain ⟨f, fd, ps, M, F, hb, hm⟩ := M
  refine pe_hideC ⟨fun pins s σ H Q I h => ?_⟩
  refine wpAny_Call_Name_kw (ld_glob I hg hm ?_ hdb)
  refine PySem.W.callWith_K (h₀ := X.base) I.ok.mod.kin M.kp (thn (ha.run pos pins s σ H _ I h) fun us s1 hh => ?_) he hpl
  obtain ⟨vs, H1, I1, r, q⟩ := hh
  rw [List.append_nil, hK] at q
  refine ⟨I1.kIn, run_make M F (hr.mono (Nat.succ_le_succ hkj)) hb .nil hx I1 r fun x dx h1 h2 h3 => ?_⟩
  rw [List.append_nil]
  exact new_of cf q x dx h1 h2 h3
theorem snd_make (cf : CardF G.K C) (ha : SndA G t d) : Snd G (tHideC (tCall (spMk G.K dspc) [] G.E t)) (dNewC G.Er dspc d) := by
  refine ⟨fun B Z δ σ H N Cc Q hB S h q => ?_⟩
  subst hB
  show tCall (spMk B.G.K dspc) [] B.G.E t σ H _
  refine mk_run (C' := fun r l N2 => FreshL δ l → Cc (.dat (CardD.cd r l)) (N2.put l [st0V])) S ha h fun r l x t k H' e hl hL hE hD hc => ⟨l, [t], hL, ?_⟩
  have hc' := hc (fresh_of cf S hl)
  rw [show (N + k).put l [st0V] = N + (k + ⟨0, [(l, [st0V])]⟩) from Ct.assoc _ _ _] at hc'
  exact q (.dat (CardD.cd r l)) _ _ _ (hE _) hD hc'
theorem x_make (cf : CardF X.K C) (M : CalC X.prog X.w X.K X.mg X.base CX x k C dspc) (hr : Room (j + 1) X.A) (hkj : k ≤ j) (hg : Gl X x) (hx : Passes CX X G.E) (ha : XA X G (e :: es) t d) (hK : G.K = X.K := by rfl)
    (hdb : (x == ("__debug__" : Str)) = false := by decide) (he : starEach (e :: es) X.env = (false, eval e X.env) :: starEach es X.env := by rfl) (hpl : (backTo pos (starEach es X.env)).any (·.1) = false := by rfl) :
    XE X G (.Call (.Name x p) (e :: es) [] pos) (tHideC (tCall (spMk G.K dspc) [] G.E t)) (dNewC G.Er dspc d) :=
  ⟨pe_make1 cf M hr hkj hg hx ha.pe hK hdb he hpl, snd_make (by rw [hK]; exact cf) ha.sn⟩
/-- c(e), c a name that bears the class -/
def tNewV (i : Nat) (C : Addr) (t : TE) : TE := fun σ H Q => σ[i]? = some (some (.ref C)) ∧ t σ H Q
@[simp] def dNewV (i : Nat) (Er : Value → Ct → Prop) (dspc : DSp) (d : DA) : DE := fun δ N C => nth δ i = some (.dat CardD.cl) ∧ dNewC Er dspc d δ N C
theorem x_newV {y : Str} {i : Nat} (cf : CardF X.K C) (M : CalC X.prog X.w X.K X.mg X.base CX x k C dspc) (hr : Room (j + 1) X.A) (hkj : k ≤ j) (hx : Passes CX X G.E) (hN : X.N[i]? = some y) (hv : Vis X.env.scope y) (ha : XA X G (e :: es) t d) (hK : G.K = X.K := by rfl)
    (hdb : (y == ("__debug__" : Str)) = false := by decide) (hcd : (y == ("__classdict__" : Str)) = false := by decide) (he : starEach (e :: es) X.env = (false, eval e X.env) :: starEach es X.env := by rfl) (hpl : (backTo pos (starEach es X.env)).any (·.1) = false := by rfl) :
    XE X G (.Call (.Name y p) (e :: es) [] pos) (tHideC (tNewV i C (tCall (spMk G.K dspc) [] G.E t))) (dNewV i G.Er dspc d) := by
  obtain ⟨f, fd, ps, M, F, hb, hm⟩ := M
  refine ⟨pe_hideC ⟨fun pins s σ H Q I h => ?_⟩, ⟨fun B Z δ σ H N Cc Q hB S h q => ?_⟩⟩
  · obtain ⟨hi, h⟩ := h
    refine wpAny_Call_Name_kw (thn ((pe_var (pos := p) (i := i) hN hv hdb hcd).run pins s σ H (fun v H1 => v = .ref C ∧ H1 = H) I ⟨.ref C, hi, rfl, rfl⟩) fun u s1 hh => ?_)
    obtain ⟨v, H1, I1, r1, ev, eH⟩ := hh
    subst ev eH
    cases r1
    refine PySem.W.callWith_K (h₀ := X.base) I1.ok.mod.kin M.kp (thn (ha.pe.run pos pins s1 σ H1 _ I1 h) fun us s2 hh => ?_) he hpl
    obtain ⟨vs, H2, I2, r, q⟩ := hh
    rw [List.append_nil, hK] at q
    refine ⟨I2.kIn, run_make M F (hr.mono (Nat.succ_le_succ hkj)) hb .nil hx I2 r fun x dx h1 h2 h3 => ?_⟩
    rw [List.append_nil]
    exact new_of cf q x dx h1 h2 h3
  · have cf2 : CardF B.G.K C := by rw [hB, hK]; exact cf
    obtain ⟨v, q1, q2⟩ := S.slot i _ h.1
    have q3 : Dt B.G.K N H Z v CardD.cl := q2
    rw [cf2.cl] at q3
    cases q3
    have cf3 : CardF G.K C := by rw [hK]; exact cf
    exact ⟨q1, (snd_make (dspc := dspc) cf3 ha.sn).run B Z δ σ H N Cc Q hB S h.2 q⟩
/-- two cards, one behind the other: their lists stand apart -/
@[simp] def dNew2 (Er : Value → Ct → Prop) (dspc : DSp) (d d2 : DA) : DA := fun δ N C => d δ N fun ss N1 => ∃ r, ss = [.dat r] ∧ dspc [r] N1 (fun _ N2 => ∀ l, FreshL δ l → d2 δ (N2.put l [st0V]) fun ss2 N3 => ∃ r2, ss2 = [.dat r2] ∧
  dspc [r2] N3 (fun _ N4 => ∀ l2, FreshL δ l2 → l ≠ l2 → C [.dat (CardD.cd r l), .dat (CardD.cd r2 l2)] (N4.put l2 [st0V])) Er) Er
theorem x_new2 (cf : CardF X.K C) (M : CalC X.prog X.w X.K X.mg X.base CX x k C dspc) (hr : Room (j + 1) X.A) (hkj : k ≤ j) (hg : Gl X x) (hx : Passes CX X G.E) (ha : XA X G [e] t d) (ha2 : XA X G [e2] t2 d2) (hK : G.K = X.K := by rfl)
    (hdb : (x == ("__debug__" : Str)) = false := by decide) (he : starEach [e] X.env = (false, eval e X.env) :: starEach [] X.env := by rfl) (hpl : (backTo pos (starEach [] X.env)).any (·.1) = false := by rfl)
    (he2 : starEach [e2] X.env = (false, eval e2 X.env) :: starEach [] X.env := by rfl) (hpl2 : (backTo pos2 (starEach [] X.env)).any (·.1) = false := by rfl)
    (hs : starEach [.Call (.Name x p) [e] [] pos, .Call (.Name x p2) [e2] [] pos2] X.env = (false, eval (.Call (.Name x p) [e] [] pos) X.env) :: starEach [.Call (.Name x p2) [e2] [] pos2] X.env := by rfl)
    (hs2 : starEach [.Call (.Name x p2) [e2] [] pos2] X.env = (false, eval (.Call (.Name x p2) [e2] [] pos2) X.env) :: starEach [] X.env := by rfl) :
    XA X G [.Call (.Name x p) [e] [] pos, .Call (.Name x p2) [e2] [] pos2] (tCons (tHideC (tCall (spMk G.K dspc) [] G.E t)) (tCons (tHideC (tCall (spMk G.K dspc) [] G.E t2)) tNil)) (dNew2 G.Er dspc d d2) := by
  refine ⟨pa_cons (pe_make1 cf M hr hkj hg hx ha.pe hK hdb he hpl) (pa_cons (pe_make1 cf M hr hkj hg hx ha2.pe hK hdb he2 hpl2) pa_nil hs2) hs, ⟨fun B Z δ σ H N Cc Q hB S h q => ?_⟩⟩
  subst hB
  have cf' : CardF B.G.K C := by rw [hK]; exact cf
  show tCall (spMk B.G.K dspc) [] B.G.E t σ H _
  refine mk_run (C' := fun r l N2 => FreshL δ l → d2 δ (N2.put l [st0V]) fun ss2 N3 => ∃ r2, ss2 = [.dat r2] ∧ dspc [r2] N3 (fun _ N4 => ∀ l2, FreshL δ l2 → l ≠ l2 → Cc [.dat (CardD.cd r l), .dat (CardD.cd r2 l2)] (N4.put l2 [st0V])) B.G.Er) S ha.sn h fun r l x t k H' e hl hL hE hD hc => ⟨l, [t], hL, ?_⟩
  have hc' := hc (fresh_of cf' S hl)
  rw [show (N + k).put l [st0V] = N + (k + ⟨0, [(l, [st0V])]⟩) from Ct.assoc _ _ _] at hc'
  have S1 := S.ext (hE (.ext (cardL l [t])))
  show tCall (spMk B.G.K dspc) [] B.G.E t2 σ _ _
  refine mk_run (C' := fun r2 l2 N4 => FreshL δ l2 → l ≠ l2 → Cc [.dat (CardD.cd r l), .dat (CardD.cd r2 l2)] (N4.put l2 [st0V])) S1 ha2.sn hc' fun r2 l2 x2 t3 k2 H2 ee hl2 hL2 hE2 hD2 hc2 => ⟨l2, [t3], hL2, ?_⟩
  have nl : l ≠ l2 := fun z => by rw [← z, upd_same] at hl2; cases hl2
  have hc3 := hc2 (fresh_of cf' S1 hl2) nl
  have ez : (N + (k + ⟨0, [(l, [st0V])]⟩) + k2).put l2 [st0V] = N + (k + ⟨0, [(l, [st0V])]⟩ + (k2 + ⟨0, [(l2, [st0V])]⟩)) := by
    show N + (k + ⟨0, [(l, [st0V])]⟩) + k2 + ⟨0, [(l2, [st0V])]⟩ = _
    simp only [Ct.assoc]
  rw [ez] at hc3
  refine q _ _ _ _ ((hE _).trans (hE2 _)) ?_ hc3
  have ey : N + (k + ⟨0, [(l, [st0V])]⟩) + (k2 + ⟨0, [(l2, [st0V])]⟩) = N + (k + ⟨0, [(l, [st0V])]⟩ + (k2 + ⟨0, [(l2, [st0V])]⟩)) := Ct.assoc _ _ _
  refine .cons ?_ (.cons ?_ .nil)
  · have z := Dt.ex (hE2 (.ext (cardL l2 [t3]))) hD
    rw [ey] at z
    exact z
  · rw [ey] at hD2
    exact hD2
/-! ### Card.m(..), m a classmethod -/
@[simp] def dCMeth (Er : Value → Ct → Prop) (dsp : DSp) (d : DA) : DE := fun δ N C => d δ N fun ss N2 => chk (nalsA ss) (dsp (CardD.cl :: ss.map Sl.rd) N2 C Er)
def CalCM (P : Program) (w : World) (K : PySem.W.Frag) (mg : Str → Option Value) (base : Heap) (CX : CXT) (C : Addr) (m : Str) (k : Nat) (dsp : DSp) : Prop := ∃ mc p g, ClX.CRead K C mc ∧ ClX.CMet K C mc m p g ∧ FnR P w K mg base CX k g (lift K dsp)
theorem x_cmeth {m : Str} {apos : Pos} {pl : Sem Bool} {dsp : DSp} (cf : CardF X.K C) (hg : Gl X x) (hmg : X.mg x = some (.ref C)) (M : CalCM X.prog X.w X.K X.mg X.base CX C m k dsp) (hr : Room j X.A) (hkj : k ≤ j) (hx : Passes CX X G.E) (ha : XA X G (e :: es) t d) (hK : G.K = X.K := by rfl) (hdb : (x == ("__debug__" : Str)) = false := by decide)
    (hst : starEach (e :: es) X.env = (false, eval e X.env) :: starEach es X.env := by rfl) (hpl : (backTo pos (starEach es X.env)).any (·.1) = false := by rfl)
    (ht : eval (.Call (.Attribute (.Name x p) m apos) (e :: es) [] pos) X.env = (do
      let ov ← eval (.Name x p) X.env
      standAt apos.atName
      let (f, first) ← holding [ov] (getMethod ov m pl)
      callWith pos f first (backTo pos (starEach (e :: es) X.env)) (backToKw pos (keywordEach [] X.env))) := by rfl) :
    XE X G (.Call (.Attribute (.Name x p) m apos) (e :: es) [] pos) (ClX.tCMeth C (lift G.K dsp) G.E (tC (.ref C)) t) (dCMeth G.Er dsp d) := by
  obtain ⟨mc, q0, g, rd, cm, F⟩ := M
  have F2 : FnR X.prog X.w X.K X.mg X.base CX k g (lift G.K dsp) := by rw [hK]; exact F
  have cf2 : CardF G.K C := by rw [hK]; exact cf
  refine ⟨ClX.pe_cmeth (pe_glob (v := .ref C) hg hmg rfl hdb) rd cm F2 (hr.mono hkj) hx ha.pe hst hpl ht, ⟨fun B Z δ σ H N Cc Q hB S h q => ?_⟩⟩
  subst hB
  refine ⟨rfl, ha.sn.run B Z δ σ H N _ _ rfl S h fun ss vs H2 k2 e2 r2 h2 => ?_⟩
  obtain ⟨hn, h2⟩ := chk_iff.mp h2
  have S1 := S.ext e2
  have rc : Dt B.G.K (N + k2) H2 Z (.ref C) CardD.cl := by rw [cf2.cl]; exact Dt.v _
  refine ⟨Z, N + k2, _, _, B.G.Er, S1.ztt, .cons rc (pair_all r2 hn), h2, fun s v H3 k3 e3 r3 h3 => ?_, eok_of S1⟩
  rw [Ct.assoc] at r3 h3
  refine q s v H3 (k2 + k3) (e2.trans e3) ?_ h3
  cases s with
  | dat d => exact r3
  | own ds =>
    obtain ⟨p, xs, rfl, h0, h4, r⟩ := r3
    exact ⟨p, xs, rfl, e2.back h0, h4, r⟩
  | als ds => exact r3.elim
end
end DL

/-! S19: what the defs of k19 promise. -/
namespace LAW
open PySem PySem.Spec PyProof.Rows L2 DL
variable [TabNames] [CardD]
/-- a state of a card -/
structure St5 where
  done : Int
  paid : Int
  last : Int
  start : Option Int
  count : Int
def optV : Option Int → V
  | none => .non
  | some x => .int x
def stV (s : St5) : List V := [.int s.done, .int s.paid, .int s.last, optV s.start, .int s.count]
def s0 : St5 := ⟨0, 0, -1, none, 0⟩
/-- a ride; days slept -/
def rideS (t : Int) (s : St5) (x : Int) : St5 := match s.start with
  | none => ⟨s.done, s.paid, x, some x, s.count + 1⟩
  | some b => if b + t ≤ x then ⟨s.done, s.paid, x, some x, s.count + 1⟩ else ⟨s.done, s.paid, x, some b, s.count⟩
def sleepS (p : Int) (c : Option Int) (s : St5) (k : Int) : St5 := ⟨s.done + k, s.paid + moneyF p c s.count, -1, none, 0⟩
def okT : Int → List Int → Prop
  | _, [] => True
  | m, x :: r => (m < x ∧ x ≤ 1439) ∧ okT x r
/-- the list at l holds these states -/
structure Sts (N : Ct) (l : Addr) (sts : List St5) (s : St5) : Prop where
  at_ : N.at l = sts.map stV
  last : sts.getLast? = some s
  len : sts.length ≤ 50000
/-- is a value a tick for which the last ticket is valid -/
def validD (t : Int) (s : St5) (d : D) : Bool := match s.start with
  | none => false
  | some b => inRD d b (min 1440 (b + t) - 1)
def eqS (s s' : St5) : Bool := D.eqb (.tup ((stV s).map D.v)) (.tup ((stV s').map D.v))
def dspIE_M_ride (cn : Str → Value) : DSp := fun ds N C Er => ∃ p t c l d sts s, ds = [CardD.cd (ruleD p t c) l, d] ∧ (VRule p t c ∧ Sts N l sts s) ∧
  ((∃ ns, d = ridesD ns ∧ okT s.last ns ∧ ns.length ≤ 1000 ∧ C (.dat (.int (moneyF p c (ns.foldl (rideS t) s).count - moneyF p c s.count))) (N.put l ((sts ++ [ns.foldl (rideS t) s]).map stV))) ∨
   ∃ x, d = .tup [x] ∧ plainD x = true ∧ inRD x (s.last + 1) 1439 = false ∧ Er (cn "InvalidTick") N)
def dspE_M_ride (cn : Str → Value) : DSp := dspStar 1 (dspIE_M_ride cn)
def dspE_M_sleep (cn : Str → Value) : DSp := fun ds N C Er => ∃ p t c l d sts s, ds = [CardD.cd (ruleD p t c) l, d] ∧ (VRule p t c ∧ Sts N l sts s) ∧
  ((∃ k : Int, d = .int k ∧ (1 ≤ k ∧ k ≤ 1000000) ∧ C (.dat (.int (s.paid + moneyF p c s.count))) (N.put l ((sts ++ [sleepS p c s k]).map stV))) ∨
   plainD d = true ∧ inRD d 1 1000000 = false ∧ Er (cn "InvalidNumber") N)
def dspE_M_undo (cn : Str → Value) : DSp := fun ds N C Er => ∃ p t c l sts s, ds = [CardD.cd (ruleD p t c) l] ∧ Sts N l sts s ∧
  ((sts.length = 1 ∧ Er (cn "NothingToUndo") N) ∨ (1 < sts.length ∧ C (.dat .non) (N.put l (sts.dropLast.map stV))))
def dspE_M_single (cn : Str → Value) : DSp := fun ds N C _ => ∃ p : Int, ds = [CardD.cl, .int p] ∧ (0 ≤ p ∧ p ≤ 1000) ∧ ∀ l, C (.dat (CardD.cd (ruleD p 1 none) l)) (N.put l [st0V])
def dspE_M_paid (cn : Str → Value) : DSp := fun ds N C _ => ∃ p t c l sts s, ds = [CardD.cd (ruleD p t c) l] ∧ (VRule p t c ∧ Sts N l sts s) ∧ C (.dat (.int (s.paid + moneyF p c s.count))) N
def dspE_M_today (cn : Str → Value) : DSp := fun ds N C _ => ∃ p t c l sts s, ds = [CardD.cd (ruleD p t c) l] ∧ (VRule p t c ∧ Sts N l sts s) ∧ C (.dat (.int (moneyF p c s.count))) N
def dspE_M_tickets (cn : Str → Value) : DSp := fun ds N C _ => ∃ p t c l sts s, ds = [CardD.cd (ruleD p t c) l] ∧ (VRule p t c ∧ Sts N l sts s) ∧ C (.dat (.int s.count)) N
def dspE_M_until (cn : Str → Value) : DSp := fun ds N C _ => ∃ p t c l sts s, ds = [CardD.cd (ruleD p t c) l] ∧ (VRule p t c ∧ Sts N l sts s) ∧ C (.dat (capD (s.start.map (· + t)))) N
def dspE_M_days (cn : Str → Value) : DSp := fun ds N C _ => ∃ p t c l sts s, ds = [CardD.cd (ruleD p t c) l] ∧ (VRule p t c ∧ Sts N l sts s) ∧ C (.dat (.int s.done)) N
def dspE_M_contains (cn : Str → Value) : DSp := fun ds N C _ => ∃ p t c l d sts s, ds = [CardD.cd (ruleD p t c) l, d] ∧ (VRule p t c ∧ Sts N l sts s) ∧ plainD d = true ∧ C (.dat (.bl (validD t s d))) N
def dspE_M_eq (cn : Str → Value) : DSp := fun ds N C _ => ∃ p t c l d sts s, ds = [CardD.cd (ruleD p t c) l, d] ∧ (VRule p t c ∧ Sts N l sts s) ∧
  ((∃ p' t' c' l' sts' s', d = CardD.cd (ruleD p' t' c') l' ∧ Sts N l' sts' s' ∧ C (.dat (.bl (D.eqb (ruleD p t c) (ruleD p' t' c') && eqS s s'))) N) ∨ (∃ es, d = .tup es ∧ C (.dat (.bl false)) N))
def dsp_L_ride : DSp := fun ds N C _ => ∃ p t c l ns sts s, ds = [CardD.cd (ruleD p t c) l, ridesD ns] ∧ (VRule p t c ∧ Sts N l sts s) ∧ (okT s.last ns ∧ ns.length ≤ 3) ∧
  C (.dat (.int (moneyF p c (ns.foldl (rideS t) s).count - moneyF p c s.count))) (N.put l ((sts ++ [ns.foldl (rideS t) s]).map stV))
/-- a state as the law keeps it -/
structure Day3 where
  days : Int
  paid : Int
  rides : List Int
def dayD (x : Day3) : D := .tup [.int x.days, .int x.paid, .lst (x.rides.map D.int)]
structure Rel (t : Int) (s : St5) (x : Day3) : Prop where
  d : s.done = x.days
  p : s.paid = x.paid
  v : VRides 1440 x.rides
  l : s.last = x.rides.getLast?.getD (-1)
  b : s.start = (boughtF t x.rides).getLast?
  c : s.count = (boughtF t x.rides).length
def dsp_L_right : DSp := fun ds N C _ => ∃ p t c l sts s x, ds = [CardD.cd (ruleD p t c) l, ruleD p t c, dayD x] ∧ (VRule p t c ∧ Sts N l sts s) ∧ Rel t s x ∧ C (.dat (.bl true)) N
def dsp_L_step : DSp := fun ds N C _ => ∃ p t c l sts s x, ds = [.bag, CardD.cd (ruleD p t c) l, ruleD p t c, dayD x] ∧ (VRule p t c ∧ Sts N l sts s) ∧ (Rel t s x ∧ N.n + 40 ≤ LIM) ∧
  ∀ (more : List (St5 × Day3)) N', more.length ≤ 1 → (∀ q ∈ more, Rel t q.1 q.2) → N.n ≤ N'.n → N'.n ≤ N.n + 20 → N'.at l = (sts ++ more.map (·.1)).map stV → C (.dat (.tup [.bl true, .lst (more.map fun q => dayD q.2)])) N'
def caught : List Str := ["InvalidNumber", "InvalidTick", "NothingToUndo"]
theorem caught_sub : ∀ x ∈ caught, x ∈ errWords := by decide
def dspf_L_outcome (cn : Str → Value) : (PT → Beh → Prop) → DSp := dspOut (nmvOf cn caught)
end LAW

namespace LAW
open PySem PySem.Spec PyProof.Rows L2 DL
variable [TabNames] [CardD]
def d_L_ride (cn : Str → Value) : DS := (dSeq (dIf (dTest (dOp (dEq false) (dVar 1) (dTup dNil))) (dRet (dMeth E00 (dspE_M_ride cn) (dVar 0) dNil)) dNext)
  (dSeq (dIf (dTest (dOp (dEq false) (dCB dLen (dCons (dVar 1) dNil)) (dC (.int 1)))) (dRet (dMeth E00 (dspE_M_ride cn) (dVar 0) (dCons (dOp dIx (dVar 1) (dC (.int 0))) dNil))) dNext)
  (dRet (dIfE (dTest (dOp (dEq false) (dCB dLen (dCons (dVar 1) dNil)) (dC (.int 2)))) (dMeth E00 (dspE_M_ride cn) (dVar 0) (dCons (dOp dIx (dVar 1) (dC (.int 0))) (dCons (dOp dIx (dVar 1) (dC (.int 1))) dNil))) (dMeth E00 (dspE_M_ride cn) (dVar 0) (dCons (dOp dIx (dVar 1) (dC (.int 0))) (dCons (dOp dIx (dVar 1) (dC (.int 1))) (dCons (dOp dIx (dVar 1) (dC (.int 2))) dNil))))))))
def d_L_right (cn : Str → Value) : DS := (dSeq (dAsgT (dgTup 3 (dgCons (dgName 3) (dgCons (dgName 4) (dgCons (dgName 5) dgNil)))) (dVar 2))
  (dSeq (dAsg false 6 (dCall E00 dsp_L_bought (dCons (dOp dIx (dVar 1) (dC (.int 1))) (dCons (dVar 5) dNil))))
  (dSeq (dAsg false 7 (dCall E00 dsp_L_money (dCons (dVar 1) (dCons (dCB dLen (dCons (dVar 6) dNil)) dNil))))
  (dSeq (dAsg false 8 (dIfE (dTest (dOp (dEq true) (dVar 6) (dLst dNil))) (dOp dAdd (dOp dIx (dVar 6) (dNeg (dC (.int 1)))) (dOp dIx (dVar 1) (dC (.int 1)))) (dC .non)))
  (dSeq (dAsg false 9 (dLst (dCons (dProp (dspE_M_paid cn) (dVar 0)) (dCons (dProp (dspE_M_today cn) (dVar 0)) (dCons (dProp (dspE_M_tickets cn) (dVar 0)) (dCons (dProp (dspE_M_until cn) (dVar 0)) (dCons (dProp (dspE_M_days cn) (dVar 0)) dNil)))))))
  (dSeq (dIf (dNot (dTest (dCall E00 dsp_L_same (dCons (dVar 9) (dCons (dLst (dCons (dOp dAdd (dVar 4) (dVar 7)) (dCons (dVar 7) (dCons (dCB dLen (dCons (dVar 6) dNil)) (dCons (dVar 8) (dCons (dVar 3) dNil)))))) dNil))))) (dRet (dC (.bl false))) dNext)
  (dSeq (dFor (dSeqI (dOp dAdd (dOp dAdd (dLst (dCons (dC .non) (dCons (dC (.bl true)) (dCons (dC (.str "0")) (dCons (dNeg (dC (.int 1))) (dCons (dC (.int 0)) (dCons (dC (.int 1439)) (dCons (dC (.int 1440)) dNil)))))))) (dVar 5)) (dLc (dSeqI (dSl (dVar 5) (dPart (dNeg (dC (.int 2)))) dNoPart)) (dgName 12) dYes (dOp dAdd (dVar 12) (dC (.int 1))) [12]))) (dgName 10) (dSeq (dAsg false 11 (dAndV (dOp (dIs true) (dVar 8) (dC .non)) (dAndV (dCall E00 dsp_L_in (dCons (dVar 10) (dCons (dOp dIx (dVar 6) (dNeg (dC (.int 1)))) (dCons (dC (.int 1439)) dNil)))) (dOp dLt (dVar 10) (dVar 8)))))
  (dIf (dTest (dOp (dEq true) (dInC (dspE_M_contains cn) (dVar 10) (dVar 0)) (dVar 11))) (dRet (dC (.bl false))) dNext)))
  (dSeq (dIf (dTest (dOp (dIs true) (dVar 8) (dC .non))) (dRet (dAndV (dOp (dIs false) (dInC (dspE_M_contains cn) (dVar 8) (dVar 0)) (dC (.bl false))) (dOp (dEq false) (dInC (dspE_M_contains cn) (dOp dSub (dVar 8) (dC (.int 1))) (dVar 0)) (dOp dLe (dVar 8) (dC (.int 1440)))))) dNext)
  (dRet (dC (.bl true)))))))))))
def b_L_step (cn : Str → Value) : Nat → (Value → Ct → Prop) → DE := fun i Er => match i with
  | 0 => (dCall Er dsp_L_ride (dCons (dVar 1) (dCons (dVar 16) dNil)))
  | 1 => (dMethK Er 1 (dspE_M_sleep cn) (dVar 1) (dCons (dVar 14) dNil))
  | 2 => (dMeth Er (dspE_M_ride cn) (dVar 1) (dCons (dVar 15) dNil))
  | 3 => (dMethK Er 1 (dspE_M_sleep cn) (dVar 1) (dCons (dC (.int 0)) dNil))
  | _ => fun _ _ _ => False
def d_L_step (cn : Str → Value) (isl : Nat → PT → Prop) : DS := (dSeq (dAsgT (dgTup 3 (dgCons (dgName 4) (dgCons (dgName 5) (dgCons (dgName 6) dgNil)))) (dVar 3))
  (dSeq (dPar 7 8 (dCons (dCall E00 dsp_L_take (dCons (dVar 0) (dCons (dC (.int 8)) dNil))) (dCons (dIfE (dTest (dOp (dEq true) (dVar 6) (dLst dNil))) (dOp dIx (dVar 6) (dNeg (dC (.int 1)))) (dNeg (dC (.int 1)))) dNil)))
  (dSeq (dIf (dTest (dOp dLt (dVar 7) (dC (.int 5)))) (dSeq (dAsgT (dgTup 2 (dgCons (dgName 16) (dgCons (dgName 9) dgNil))) (dTup (dCons (dTup dNil) (dCons (dVar 8) dNil))))
  (dSeq (dFor (dRng1 (dCons (dCall E00 dsp_L_take (dCons (dVar 0) (dCons (dC (.int 4)) dNil))) dNil)) (dgName 10) (dSeq (dAsg false 9 (dOp dAdd (dOp dAdd (dVar 9) (dC (.int 1))) (dCall E00 dsp_L_take (dCons (dVar 0) (dCons (dOp dIx (dLst (dCons (dC (.int 3)) (dCons (dOp dMul (dC (.int 2)) (dOp dIx (dVar 2) (dC (.int 1)))) dNil))) (dCall E00 dsp_L_take (dCons (dVar 0) (dCons (dC (.int 2)) dNil)))) dNil)))))
  (dIf (dTest (dOp dLt (dVar 9) (dC (.int 1440)))) (dAsg false 16 (dOp dAdd (dVar 16) (dTup (dCons (dVar 9) dNil)))) dNext)))
  (dSeq (dAsg false 11 (dCallL isl (b_L_step cn) [false, true, false, false, false, false, false, false, false, false, false, false, false, false, true, true, true] (dspf_L_outcome cn) E00 (dCons (dLam isl 0) dNil)))
  (dSeq (dAsg false 12 (dOp dSub (dCall E00 dsp_L_cost (dCons (dVar 2) (dCons (dOp dAdd (dVar 6) (dCB dList (dCons (dVar 16) dNil))) dNil))) (dCall E00 dsp_L_cost (dCons (dVar 2) (dCons (dVar 6) dNil)))))
  (dRet (dTup (dCons (dCall E00 dsp_L_same (dCons (dVar 11) (dCons (dTup (dCons (dC (.str "value")) (dCons (dVar 12) dNil))) dNil))) (dCons (dLst (dCons (dTup (dCons (dVar 4) (dCons (dVar 5) (dCons (dOp dAdd (dVar 6) (dCB dList (dCons (dVar 16) dNil))) dNil)))) dNil)) dNil)))))))) dNext)
  (dSeq (dIf (dTest (dOp dLt (dVar 7) (dC (.int 7)))) (dSeq (dAsg false 14 (dOp dAdd (dC (.int 1)) (dCall E00 dsp_L_take (dCons (dVar 0) (dCons (dOp dIx (dLst (dCons (dC (.int 1)) (dCons (dOp dPow (dC (.int 10)) (dC (.int 6))) dNil))) (dCall E00 dsp_L_take (dCons (dVar 0) (dCons (dC (.int 2)) dNil)))) dNil)))))
  (dSeq (dAsg false 11 (dCallL isl (b_L_step cn) [false, true, false, false, false, false, false, false, false, false, false, false, false, false, true, true, true] (dspf_L_outcome cn) E00 (dCons (dLam isl 1) dNil)))
  (dSeq (dAsg false 5 (dOp dAdd (dVar 5) (dCall E00 dsp_L_cost (dCons (dVar 2) (dCons (dVar 6) dNil)))))
  (dRet (dTup (dCons (dCall E00 dsp_L_same (dCons (dVar 11) (dCons (dTup (dCons (dC (.str "value")) (dCons (dVar 5) dNil))) dNil))) (dCons (dLst (dCons (dTup (dCons (dOp dAdd (dVar 4) (dVar 14)) (dCons (dVar 5) (dCons (dLst dNil) dNil)))) dNil)) dNil))))))) dNext)
  (dSeq (dAsg false 15 (dOp dIx (dLst (dCons (dC .non) (dCons (dC (.bl true)) (dCons (dNeg (dC (.int 1))) (dCons (dC (.int 1440)) (dCons (dC (.str "3")) (dCons (dVar 8) dNil))))))) (dCall E00 dsp_L_take (dCons (dVar 0) (dCons (dC (.int 6)) dNil)))))
  (dSeq (dAsg false 13 (dOp (dEq false) (dCallL isl (b_L_step cn) [false, true, false, false, false, false, false, false, false, false, false, false, false, false, true, true, true] (dspf_L_outcome cn) E00 (dCons (dLam isl 2) dNil)) (dTup (dCons (dC (.str "InvalidTick")) dNil))))
  (dRet (dTup (dCons (dAndV (dVar 13) (dOp (dEq false) (dCallL isl (b_L_step cn) [false, true, false, false, false, false, false, false, false, false, false, false, false, false, true, true, true] (dspf_L_outcome cn) E00 (dCons (dLam isl 3) dNil)) (dTup (dCons (dC (.str "InvalidNumber")) dNil)))) (dCons (dLst dNil) dNil))))))))))
def b_law (cn : Str → Value) : Nat → (Value → Ct → Prop) → DE := fun i Er => match i with
  | 0 => (dMeth Er (dspE_M_undo cn) (dVar 13) dNil)
  | _ => fun _ _ _ => False
def d_law (cn : Str → Value) (isl : Nat → PT → Prop) : DS := (dSeq (dFor (dSeqI (dCall E00 dsp_L_bags (dCons (dVar 0) (dCons (dC (.int 5)) dNil)))) (dgName 1) (dSeq (dAsg false 2 (dCall E00 dsp_L_rule (dCons (dVar 1) dNil)))
  (dSeq (dAsgT (dgTup 2 (dgCons (dgName 13) (dgCons (dgName 3) dgNil))) (dTup (dCons (dNewC E00 dsp_P_check_rule (dCons (dVar 2) dNil)) (dCons (dLst (dCons (dTup (dCons (dC (.int 0)) (dCons (dC (.int 0)) (dCons (dLst dNil) dNil)))) dNil)) dNil))))
  (dSeq (dFor (dRng1 (dCons (dC (.int 30)) dNil)) (dgName 4) (dSeq (dIf (dTest (dOp (dEq false) (dCall E00 dsp_L_take (dCons (dVar 1) (dCons (dC (.int 6)) dNil))) (dC (.int 0)))) (dSeq (dAsg false 5 (dIfE (dTest (dOp dGt (dCB dLen (dCons (dVar 3) dNil)) (dC (.int 1)))) (dTup (dCons (dC (.str "value")) (dCons (dC .non) dNil))) (dTup (dCons (dC (.str "NothingToUndo")) dNil))))
  (dSeq (dAsg false 6 (dCall E00 dsp_L_same (dCons (dCallL isl (b_law cn) [false, false, false, false, false, false, false, false, false, false, false, false, false, true] (dspf_L_outcome cn) E00 (dCons (dLam isl 0) dNil)) (dCons (dVar 5) dNil))))
  (dAsg false 3 (dSl (dVar 3) dNoPart (dPart (dCB (dII max) (dCons (dC (.int 1)) (dCons (dOp dSub (dCB dLen (dCons (dVar 3) dNil)) (dC (.int 1))) dNil)))))))) (dSeq (dAsgT (dgTup 2 (dgCons (dgName 6) (dgCons (dgName 7) dgNil))) (dCall E00 dsp_L_step (dCons (dVar 1) (dCons (dVar 13) (dCons (dVar 2) (dCons (dOp dIx (dVar 3) (dNeg (dC (.int 1)))) dNil))))))
  (dAsg false 3 (dOp dAdd (dVar 3) (dVar 7)))))
  (dIf (dOr (dNot (dTest (dVar 6))) (dNot (dTest (dCall E00 dsp_L_right (dCons (dVar 13) (dCons (dVar 2) (dCons (dOp dIx (dVar 3) (dNeg (dC (.int 1)))) dNil))))))) (dRet (dC (.bl false))) dNext)))
  (dSeq (dAsg false 8 (dCall E00 dsp_L_rides (dCons (dVar 1) (dCons (dC (.int 30)) (dCons (dVar 2) dNil)))))
  (dSeq (dPar 9 10 (dNew2 E00 dsp_P_check_rule (dCons (dVar 2) dNil) (dCons (dVar 2) dNil)))
  (dSeq (dFor (dSeqI (dVar 8)) (dgName 11) (dSeq (dDrop (dMeth E00 (dspE_M_ride cn) (dVar 9) (dCons (dVar 11) dNil)))
  (dDrop (dMeth E00 (dspE_M_ride cn) (dVar 10) (dCons (dVar 11) dNil)))))
  (dSeq (dIf (dOr (dNot (dTest (dEqC (dspE_M_eq cn) (dVar 9) (dVar 10)))) (dOr (dTest (dOp (dEq true) (dProp (dspE_M_paid cn) (dVar 9)) (dCall E00 dsp_P_cost (dCons (dVar 2) (dCons (dVar 8) dNil))))) (dTest (dEqC (dspE_M_eq cn) (dVar 9) (dVar 2))))) (dRet (dC (.bl false))) dNext)
  (dSeq (dIf (dTest (dEqC (dspE_M_eq cn) (dVar 9) (dNewC E00 dsp_P_check_rule (dCons (dTup (dCons (dOp dMod (dOp dAdd (dOp dIx (dVar 2) (dC (.int 0))) (dC (.int 1))) (dC (.int 1001))) (dCons (dOp dIx (dVar 2) (dC (.int 1))) (dCons (dOp dIx (dVar 2) (dC (.int 2))) dNil)))) dNil)))) (dRet (dC (.bl false))) dNext)
  (dIf (dOr (dTest (dOp (dEq true) (dMethD E00 (dspE_M_sleep cn) [(V.int 1)] (dVar 9)) (dCall E00 dsp_P_cost (dCons (dVar 2) (dCons (dVar 8) dNil))))) (dOr (dTest (dEqC (dspE_M_eq cn) (dVar 9) (dVar 10))) (dTest (dOp (dEq true) (dProp (dspE_M_days cn) (dVar 9)) (dC (.int 1)))))) (dRet (dC (.bl false))) dNext))))))))))
  (dSeq (dAsg false 12 (dCMeth E00 (dspE_M_single cn) (dCons (dC (.int 4)) dNil)))
  (dSeq (dIf (dOr (dTest (dOp (dEq true) (dMeth E00 (dspE_M_ride cn) (dVar 12) (dCons (dC (.int 3)) (dCons (dC (.int 4)) dNil))) (dC (.int 8)))) (dOr (dTest (dOp (dEq true) (dProp (dspE_M_until cn) (dVar 12)) (dC (.int 5)))) (dTest (dOp (dEq true) (dC (.int 1440)) (dC (.int 1440)))))) (dRet (dC (.bl false))) dNext)
  (dRet (dAndV (dOp (dEq false) (dMethK E00 1 (dspE_M_sleep cn) (dVar 12) (dCons (dC (.int 3)) dNil)) (dC (.int 8))) (dOp (dEq false) (dProp (dspE_M_days cn) (dVar 12)) (dC (.int 3))))))))
def dE_M_ride (cn : Str → Value) (Er : Value → Ct → Prop) : DS := (dSeq (dAsgT (dgTup 5 (dgCons (dgName 2) (dgCons (dgName 3) (dgCons (dgName 4) (dgCons (dgName 5) (dgCons (dgName 6) dgNil)))))) (dStL (dVar 0)))
  (dSeq (dAsg false 7 (dCall Er dsp_P_money (dCons (dFldR (dVar 0)) (dCons (dVar 6) dNil))))
  (dSeq (dFor (dSeqI (dVar 1)) (dgName 8) (dSeq (dIf (dNot (dTest (dCall Er dsp_P_in_range (dCons (dVar 8) (dCons (dOp dAdd (dVar 4) (dC (.int 1))) (dCons (dOp dSub (dFldD (dVar 0)) (dC (.int 1))) dNil)))))) (dRaise Er (cn "InvalidTick")) dNext)
  (dSeq (dAsg false 4 (dVar 8))
  (dIf (dOr (dTest (dOp (dIs false) (dVar 5) (dC .non))) (dTest (dOp dGe (dVar 8) (dOp dAdd (dVar 5) (dOp dIx (dFldR (dVar 0)) (dC (.int 1))))))) (dPar 5 6 (dCons (dVar 8) (dCons (dOp dAdd (dVar 6) (dC (.int 1))) dNil))) dNext))))
  (dSeq (dDrop (dStA (dVar 0) (dTup (dCons (dVar 2) (dCons (dVar 3) (dCons (dVar 4) (dCons (dVar 5) (dCons (dVar 6) dNil))))))))
  (dRet (dOp dSub (dCall Er dsp_P_money (dCons (dFldR (dVar 0)) (dCons (dVar 6) dNil))) (dVar 7)))))))
def dE_M_sleep (cn : Str → Value) (Er : Value → Ct → Prop) : DS := (dSeq (dIf (dNot (dTest (dCall Er dsp_P_in_range (dCons (dVar 1) (dCons (dC (.int 1)) (dCons (dOp dPow (dC (.int 10)) (dC (.int 6))) dNil)))))) (dRaise Er (cn "InvalidNumber")) dNext)
  (dSeq (dAsgT (dgTup 5 (dgCons (dgName 2) (dgCons (dgName 3) (dgCons (dgName 4) (dgCons (dgName 5) (dgCons (dgName 6) dgNil)))))) (dStL (dVar 0)))
  (dSeq (dAsg false 3 (dOp dAdd (dVar 3) (dCall Er dsp_P_money (dCons (dFldR (dVar 0)) (dCons (dVar 6) dNil)))))
  (dSeq (dDrop (dStA (dVar 0) (dTup (dCons (dOp dAdd (dVar 2) (dVar 1)) (dCons (dVar 3) (dCons (dNeg (dC (.int 1))) (dCons (dC .non) (dCons (dC (.int 0)) dNil))))))))
  (dRet (dVar 3))))))
def dE_M_undo (cn : Str → Value) (Er : Value → Ct → Prop) : DS := (dSeq (dIf (dTest (dOp (dEq false) (dStN (dVar 0)) (dC (.int 1)))) (dRaise Er (cn "NothingToUndo")) dNext)
  (dDrop (dStP (dVar 0))))
def dE_M_single (cn : Str → Value) (Er : Value → Ct → Prop) : DS := (dRet (dNewV 0 Er dsp_P_check_rule (dCons (dTup (dCons (dVar 1) (dCons (dC (.int 1)) (dCons (dC .non) dNil)))) dNil)))
def dE_M_paid (cn : Str → Value) (Er : Value → Ct → Prop) : DS := (dRet (dOp dAdd (dOp dIx (dStL (dVar 0)) (dC (.int 1))) (dCall Er dsp_P_money (dCons (dFldR (dVar 0)) (dCons (dOp dIx (dStL (dVar 0)) (dC (.int 4))) dNil)))))
def dE_M_today (cn : Str → Value) (Er : Value → Ct → Prop) : DS := (dRet (dCall Er dsp_P_money (dCons (dFldR (dVar 0)) (dCons (dOp dIx (dStL (dVar 0)) (dC (.int 4))) dNil))))
def dE_M_tickets (cn : Str → Value) (Er : Value → Ct → Prop) : DS := (dRet (dOp dIx (dStL (dVar 0)) (dC (.int 4))))
def dE_M_until (cn : Str → Value) (Er : Value → Ct → Prop) : DS := (dSeq (dAsg false 1 (dOp dIx (dStL (dVar 0)) (dC (.int 3))))
  (dRet (dIfE (dTest (dOp (dIs false) (dVar 1) (dC .non))) (dC .non) (dOp dAdd (dVar 1) (dOp dIx (dFldR (dVar 0)) (dC (.int 1)))))))
def dE_M_contains (cn : Str → Value) (Er : Value → Ct → Prop) : DS := (dSeq (dAsg false 2 (dOp dIx (dStL (dVar 0)) (dC (.int 3))))
  (dRet (dAndV (dOp (dIs true) (dVar 2) (dC .non)) (dCall Er dsp_P_in_range (dCons (dVar 1) (dCons (dVar 2) (dCons (dOp dSub (dCB (dII min) (dCons (dFldD (dVar 0)) (dCons (dOp dAdd (dVar 2) (dOp dIx (dFldR (dVar 0)) (dC (.int 1)))) dNil))) (dC (.int 1))) dNil)))))))
def dE_M_days (cn : Str → Value) (Er : Value → Ct → Prop) : DS := (dRet (dOp dIx (dStL (dVar 0)) (dC (.int 0))))
def dE_M_eq (cn : Str → Value) (Er : Value → Ct → Prop) : DS := (dRet (dAndV (dIsC (dVar 1)) (dAndV (dOp (dEq false) (dFldR (dVar 0)) (dFldR (dVar 1))) (dOp (dEq false) (dStL (dVar 0)) (dStL (dVar 1))))))
end LAW

/-! R9a: the card's methods. -/
namespace LAW
open PySem PySem.Spec PyProof.Rows L2 DL
variable [TabNames] [CardD]
local macro_rules | `(tactic| walk_at "wp") => `(tactic| first | dsimp | skip)
local macro_rules | `(tactic| walk_at "om") => `(tactic| first | omega | (simp only [Ct.le_def, Ct.add_n, Ct.lit_n, Ct.add_g, Ct.lit_g, List.nil_append, List.append_nil] at *; first | omega | (refine ⟨?_, ?_⟩ <;> first | trivial | assumption | (symm; assumption) | omega | simp_all)))
section
variable {cn : Str → Value}
theorem lE_M_sleep : ∀ ds n C Er, dspE_M_sleep cn ds n C Er → ds.length = 2 := by rintro ds n C Er ⟨_, _, _, _, _, _, _, rfl, _⟩; rfl
theorem lE_M_undo : ∀ ds n C Er, dspE_M_undo cn ds n C Er → ds.length = 1 := by rintro ds n C Er ⟨_, _, _, _, _, _, rfl, _⟩; rfl
theorem lE_M_single : ∀ ds n C Er, dspE_M_single cn ds n C Er → ds.length = 2 := by rintro ds n C Er ⟨_, rfl, _⟩; rfl
theorem lE_M_paid : ∀ ds n C Er, dspE_M_paid cn ds n C Er → ds.length = 1 := by rintro ds n C Er ⟨_, _, _, _, _, _, rfl, _⟩; rfl
theorem lE_M_today : ∀ ds n C Er, dspE_M_today cn ds n C Er → ds.length = 1 := by rintro ds n C Er ⟨_, _, _, _, _, _, rfl, _⟩; rfl
theorem lE_M_tickets : ∀ ds n C Er, dspE_M_tickets cn ds n C Er → ds.length = 1 := by rintro ds n C Er ⟨_, _, _, _, _, _, rfl, _⟩; rfl
theorem lE_M_until : ∀ ds n C Er, dspE_M_until cn ds n C Er → ds.length = 1 := by rintro ds n C Er ⟨_, _, _, _, _, _, rfl, _⟩; rfl
theorem lE_M_days : ∀ ds n C Er, dspE_M_days cn ds n C Er → ds.length = 1 := by rintro ds n C Er ⟨_, _, _, _, _, _, rfl, _⟩; rfl
theorem lE_M_contains : ∀ ds n C Er, dspE_M_contains cn ds n C Er → ds.length = 2 := by rintro ds n C Er ⟨_, _, _, _, _, _, _, rfl, _⟩; rfl
theorem lE_M_eq : ∀ ds n C Er, dspE_M_eq cn ds n C Er → ds.length = 2 := by rintro ds n C Er ⟨_, _, _, _, _, _, _, rfl, _⟩; rfl
theorem l_L_ride : ∀ ds n C Er, dsp_L_ride ds n C Er → ds.length = 2 := by rintro ds n C Er ⟨_, _, _, _, _, _, _, rfl, _⟩; rfl
theorem l_L_right : ∀ ds n C Er, dsp_L_right ds n C Er → ds.length = 3 := by rintro ds n C Er ⟨_, _, _, _, _, _, _, rfl, _⟩; rfl
theorem l_L_step : ∀ ds n C Er, dsp_L_step ds n C Er → ds.length = 4 := by rintro ds n C Er ⟨_, _, _, _, _, _, _, rfl, _⟩; rfl
end
theorem Sts.lst {N : Ct} {l : Addr} {sts : List St5} {s : St5} (h : Sts N l sts s) : (N.at l).getLast? = some (stV s) := by
  rw [h.at_, List.getLast?_map, h.last]
  rfl
theorem stD (s : St5) : (stV s).map D.v = [D.int s.done, D.int s.paid, D.int s.last, D.v (optV s.start), D.int s.count] := rfl
theorem capV (x : Option Int) : capD x = .v (optV x) := by cases x <;> rfl
theorem Sts.more {N : Ct} {l : Addr} {sts : List St5} {s s' : St5} (h : Sts N l sts s) : N.at l ++ [stV s'] = (sts ++ [s']).map stV := by
  rw [h.at_, List.map_append]
  rfl
section
variable {cn : Str → Value} {N : Ct} {C : DK} {Er : Value → Ct → Prop} {p t lo hi m : Int} {c : Option Int} {d d1 d2 : D}
theorem s_inr (v : plainD d = true) (h : C (.dat (.bl (inRD d lo hi))) N) : dsp_P_in_range [d, .v (.int lo), .v (.int hi)] N C Er := ⟨d, lo, hi, rfl, v, h⟩
theorem s_moneyE (v : VRule p t c) (h : C (.dat (.int (moneyF p c m))) N) : dsp_P_money [ruleD p t c, .v (.int m)] N C Er := ⟨p, t, c, m, rfl, ⟨v.p0, v.p1⟩, h⟩
end
theorem rE_M_paid (cn : Str → Value) : ∀ ds n C Er, dspE_M_paid cn ds n C Er → dE_M_paid cn Er { nx := fun _ n' => C (.dat .non) n', rt := C } (startD ds 1) n := by
  rintro ds n C Er ⟨p, t, c, l, sts, s, rfl, ⟨v, hs⟩, q⟩
  unfold dE_M_paid
  walk_at "wp"
  refine ⟨_, _, _, rfl, hs.lst, ?_⟩
  rw [stD]
  walk_at "wp"
  refine ⟨_, _, rfl, _, _, _, rfl, hs.lst, ?_⟩
  rw [stD]
  walk_at "wp"
  refine s_moneyE v ?_
  walk_at "wp"
  exact q
theorem rE_M_today (cn : Str → Value) : ∀ ds n C Er, dspE_M_today cn ds n C Er → dE_M_today cn Er { nx := fun _ n' => C (.dat .non) n', rt := C } (startD ds 1) n := by
  rintro ds n C Er ⟨p, t, c, l, sts, s, rfl, ⟨v, hs⟩, q⟩
  unfold dE_M_today
  walk_at "wp"
  refine ⟨_, _, rfl, _, _, _, rfl, hs.lst, ?_⟩
  rw [stD]
  walk_at "wp"
  refine s_moneyE v ?_
  walk_at "wp"
  exact q
theorem rE_M_tickets (cn : Str → Value) : ∀ ds n C Er, dspE_M_tickets cn ds n C Er → dE_M_tickets cn Er { nx := fun _ n' => C (.dat .non) n', rt := C } (startD ds 1) n := by
  rintro ds n C Er ⟨p, t, c, l, sts, s, rfl, ⟨v, hs⟩, q⟩
  unfold dE_M_tickets
  walk_at "wp"
  refine ⟨_, _, _, rfl, hs.lst, ?_⟩
  rw [stD]
  walk_at "wp"
  exact q
theorem rE_M_days (cn : Str → Value) : ∀ ds n C Er, dspE_M_days cn ds n C Er → dE_M_days cn Er { nx := fun _ n' => C (.dat .non) n', rt := C } (startD ds 1) n := by
  rintro ds n C Er ⟨p, t, c, l, sts, s, rfl, ⟨v, hs⟩, q⟩
  unfold dE_M_days
  walk_at "wp"
  refine ⟨_, _, _, rfl, hs.lst, ?_⟩
  rw [stD]
  walk_at "wp"
  exact q
theorem rE_M_until (cn : Str → Value) : ∀ ds n C Er, dspE_M_until cn ds n C Er → dE_M_until cn Er { nx := fun _ n' => C (.dat .non) n', rt := C } (startD ds 2) n := by
  rintro ds n C Er ⟨p, t, c, l, sts, s, rfl, ⟨v, hs⟩, q⟩
  obtain ⟨done, paid, last, start, count⟩ := s
  unfold dE_M_until
  refine seqR fun K1 hK1 => ?_
  walk_at "wp"
  refine ⟨_, _, _, rfl, hs.lst, ?_⟩
  rw [stD]
  walk_at "wp"
  refine hK1 _ _ ?_
  cases start with
  | none =>
    show dRet _ _ [some (.dat (CardD.cd (ruleD p t c) l)), some (.dat (.v .non))] n
    walk_at "wp"
    exact q
  | some b =>
    show dRet _ _ [some (.dat (CardD.cd (ruleD p t c) l)), some (.dat (.int b))] n
    walk_at "wp"
    refine ⟨_, _, rfl, ?_⟩
    rw [rule_1]
    walk_at "wp"
    exact q
theorem rE_M_contains (cn : Str → Value) : ∀ ds n C Er, dspE_M_contains cn ds n C Er → dE_M_contains cn Er { nx := fun _ n' => C (.dat .non) n', rt := C } (startD ds 3) n := by
  rintro ds n C Er ⟨p, t, c, l, d, sts, s, rfl, ⟨v, hs⟩, hd, q⟩
  obtain ⟨done, paid, last, start, count⟩ := s
  unfold dE_M_contains
  refine seqR fun K1 hK1 => ?_
  walk_at "wp"
  refine ⟨_, _, _, rfl, hs.lst, ?_⟩
  rw [stD]
  walk_at "wp"
  refine hK1 _ _ ?_
  cases start with
  | none =>
    show dRet _ _ [some (.dat (CardD.cd (ruleD p t c) l)), some (.dat d), some (.dat (.v .non))] n
    walk_at "wp"
    exact q
  | some b =>
    show dRet _ _ [some (.dat (CardD.cd (ruleD p t c) l)), some (.dat d), some (.dat (.int b))] n
    walk_at "wp"
    refine ⟨_, _, rfl, _, _, rfl, ?_⟩
    rw [rule_1]
    walk_at "wp"
    refine s_inr hd ?_
    exact q
theorem rE_M_single (cn : Str → Value) : ∀ ds n C Er, dspE_M_single cn ds n C Er → dE_M_single cn Er { nx := fun _ n' => C (.dat .non) n', rt := C } (startD ds 2) n := by
  rintro ds n C Er ⟨p, rfl, ⟨h0, h1⟩, q⟩
  unfold dE_M_single
  walk_at "wp"
  refine ⟨rfl, _, rfl, p, 1, none, rfl, ⟨h0, h1, by decide, by decide, fun _ h => by cases h⟩, fun l _ => ?_⟩
  walk_at "wp"
  exact q l
theorem rE_M_undo (cn : Str → Value) : ∀ ds n C Er, dspE_M_undo cn ds n C Er → dE_M_undo cn Er { nx := fun _ n' => C (.dat .non) n', rt := C } (startD ds 1) n := by
  rintro ds n C Er ⟨p, t, c, l, sts, s, rfl, hs, q⟩
  unfold dE_M_undo
  refine seqR fun K1 hK1 => ?_
  walk_at "wp"
  refine ⟨_, _, rfl, ?_⟩
  have e : (n.at l).length = sts.length := by rw [hs.at_, List.length_map]
  rw [e]
  rcases q with ⟨h, q⟩ | ⟨h, q⟩
  · rw [h]
    walk_at "wp"
    exact q
  · walk_at "wp"
    refine wif_f (decide_eq_false (by omega)) ?_
    refine hK1 _ _ ?_
    walk_at "wp"
    refine ⟨_, _, _, rfl, hs.lst, ?_⟩
    rw [hs.at_, ← List.map_dropLast]
    exact q
end LAW

/-! R9b: ride, sleep, ==. -/
namespace LAW
open PySem PySem.Spec PyProof.Rows L2 DL
variable [TabNames] [CardD]
local macro_rules | `(tactic| walk_at "wp") => `(tactic| first | dsimp | skip)
local macro_rules | `(tactic| walk_at "om") => `(tactic| first | omega | (simp only [Ct.le_def, Ct.add_n, Ct.lit_n, Ct.add_g, Ct.lit_g, List.nil_append, List.append_nil] at *; first | omega | (refine ⟨?_, ?_⟩ <;> first | trivial | assumption | (symm; assumption) | omega | simp_all)))
theorem ride_last (t : Int) (s : St5) (x : Int) : (rideS t s x).last = x := by
  unfold rideS
  cases s.start with
  | none => rfl
  | some b => by_cases h : b + t ≤ x <;> simp [h]
theorem okT_at {t : Int} : ∀ {ns : List Int} {s : St5} {i : Nat} {y : Int}, okT s.last ns → ns[i]? = some y → ((ns.take i).foldl (rideS t) s).last < y ∧ y ≤ 1439
  | [], _, _, _, _, e => by simp at e
  | x :: r, s, 0, y, h, e => by
    simp at e
    subst e
    exact h.1
  | x :: r, s, i + 1, y, h, e => okT_at (ns := r) (s := rideS t s x) (i := i) (by rw [ride_last]; exact h.2) (by simpa using e)
theorem fold_snoc {t : Int} {ns : List Int} {s : St5} {i : Nat} {y : Int} (e : ns[i]? = some y) : (ns.take (i + 1)).foldl (rideS t) s = rideS t ((ns.take i).foldl (rideS t) s) y := by
  rw [List.take_add_one, e, List.foldl_append]
  rfl
theorem inR_ok {y lo hi : Int} (h : lo ≤ y ∧ y ≤ hi) : inRD (D.int y) lo hi = true := by
  show (decide (lo ≤ y) && decide (y ≤ hi)) = true
  rw [decide_eq_true h.1, decide_eq_true h.2]
  rfl
theorem stT (s : St5) (N : Ct) : (D.tup [D.int s.done, D.int s.paid, D.int s.last, D.v (optV s.start), D.int s.count]) = .tup ((stV s).map D.v) := rfl
theorem rE_M_sleep (cn : Str → Value) : ∀ ds n C Er, dspE_M_sleep cn ds n C Er → dE_M_sleep cn Er { nx := fun _ n' => C (.dat .non) n', rt := C } (startD ds 7) n := by
  rintro ds n C Er ⟨p, t, c, l, d, sts, s, rfl, ⟨v, hs⟩, q⟩
  have c106 : CPow 10 6 := ⟨by decide, by decide, by decide⟩
  unfold dE_M_sleep
  refine seqR fun K1 hK1 => ?_
  walk_at "wp"
  refine ⟨c106, ?_⟩
  have e6 : (10 : Int) ^ (6 : Int).toNat = 1000000 := by decide
  rcases q with ⟨k, rfl, hk, q⟩ | ⟨hd, hr, q⟩
  · refine s_inr (d := D.int k) (hi := 1000000) rfl ?_
    rw [inR_ok hk]
    walk_at "wp"
    refine hK1 _ _ (seqR fun K2 hK2 => ?_)
    walk_at "wp"
    refine ⟨_, _, _, rfl, hs.lst, ?_⟩
    rw [stD]
    walk_at "wp"
    refine hK2 _ _ (seqR fun K3 hK3 => ?_)
    walk_at "wp"
    refine ⟨_, _, rfl, ?_⟩
    refine s_moneyE v ?_
    walk_at "wp"
    refine hK3 _ _ (seqR fun K4 hK4 => ?_)
    walk_at "wp"
    refine ⟨_, _, rfl, stV (sleepS p c s k), rfl, ?_, ?_⟩
    · rw [hs.at_, List.length_map]
      exact Nat.lt_of_le_of_lt hs.len (by decide)
    · rw [hs.more]
      refine hK4 _ _ ?_
      walk_at "wp"
      exact q
  · refine s_inr (hi := 1000000) hd ?_
    rw [hr]
    walk_at "wp"
    exact q
theorem rE_M_ride (cn : Str → Value) : ∀ ds n C Er, dspIE_M_ride cn ds n C Er → dE_M_ride cn Er { nx := fun _ n' => C (.dat .non) n', rt := C } (startD ds 9) n := by
  rintro ds n C Er ⟨p, t, c, l, d, sts, s, rfl, ⟨v, hs⟩, q⟩
  unfold dE_M_ride
  refine seqR fun K1 hK1 => ?_
  walk_at "wp"
  refine ⟨_, _, _, rfl, hs.lst, ?_⟩
  rw [stD]
  walk_at "wp"
  refine hK1 _ _ (seqR fun K2 hK2 => ?_)
  walk_at "wp"
  refine ⟨_, _, rfl, ?_⟩
  refine s_moneyE v ?_
  walk_at "wp"
  refine hK2 _ _ (seqR fun K3 hK3 => ?_)
  rcases q with ⟨ns, rfl, hok, hlen, q⟩ | ⟨x, rfl, hx, hr, q⟩
  · have e : (ridesD ns : D) = .tup (ns.map D.int) := rfl
    rw [e]
    refine for_i (ns.map D.int) (fun i δ N => N = n ∧ ∃ s' y8, s' = (ns.take i).foldl (rideS t) s ∧ δ = [some (.dat (CardD.cd (ruleD p t c) l)), some (.dat (.tup (ns.map D.int))), some (.dat (.int s.done)), some (.dat (.int s.paid)), some (.dat (.int s'.last)), some (.dat (.v (optV s'.start))), some (.dat (.int s'.count)), some (.dat (.int (moneyF p c s.count))), y8]) (fun R hR => by walk_at "wp"; exact hR) ⟨rfl, s, none, rfl, rfl⟩ ?_ ?_
    · rintro i d δ N hi ⟨rfl, s', y8, hs', rfl⟩ RR hRR
      obtain ⟨y, rfl, hy⟩ : ∃ y, d = .int y ∧ ns[i]? = some y := by
        rw [List.getElem?_map] at hi
        cases hz : ns[i]? with
        | none => rw [hz] at hi; cases hi
        | some y => rw [hz] at hi; exact ⟨y, (Option.some.inj hi).symm, rfl⟩
      obtain ⟨h1, h2⟩ := okT_at (t := t) hok hy
      rw [← hs'] at h1
      refine dgN ?_
      refine seqR fun K4 hK4 => ?_
      walk_at "wp"
      refine ⟨_, _, rfl, ?_⟩
      walk_at "wp"
      refine s_inr (d := D.int y) (hi := 1439) rfl ?_
      rw [inR_ok ⟨by omega, h2⟩]
      walk_at "wp"
      refine hK4 _ _ (seqR fun K5 hK5 => ?_)
      walk_at "wp"
      refine hK5 _ _ ?_
      have fin : ∀ s2 : St5, s2 = rideS t s' y → RR [some (.dat (CardD.cd (ruleD p t c) l)), some (.dat (.tup (ns.map D.int))), some (.dat (.int s.done)), some (.dat (.int s.paid)), some (.dat (.int y)), some (.dat (.v (optV s2.start))), some (.dat (.int s2.count)), some (.dat (.int (moneyF p c s.count))), some (.dat (.int y))] N := fun s2 e2 => by
        have e3 : s2.last = y := by rw [e2, ride_last]
        refine hRR _ _ ⟨rfl, s2, some (.dat (.int y)), ?_, ?_⟩
        · rw [fold_snoc hy, ← hs', e2]
        · rw [e3]
      obtain ⟨done, paid, last, start, count⟩ := s'
      cases start with
      | none =>
        show dIf _ _ _ _ [some (.dat (CardD.cd (ruleD p t c) l)), some (.dat (.tup (ns.map D.int))), some (.dat (.int s.done)), some (.dat (.int s.paid)), some (.dat (.int y)), some (.dat (.v .non)), some (.dat (.int count)), some (.dat (.int (moneyF p c s.count))), some (.dat (.int y))] N
        walk_at "wp"
        exact fin ⟨done, paid, y, some y, count + 1⟩ rfl
      | some b =>
        show dIf _ _ _ _ [some (.dat (CardD.cd (ruleD p t c) l)), some (.dat (.tup (ns.map D.int))), some (.dat (.int s.done)), some (.dat (.int s.paid)), some (.dat (.int y)), some (.dat (.int b)), some (.dat (.int count)), some (.dat (.int (moneyF p c s.count))), some (.dat (.int y))] N
        walk_at "wp"
        refine ⟨_, _, rfl, ?_⟩
        rw [rule_1]
        walk_at "wp"
        refine wif_d (fun h => ?_) fun h => ?_
        · walk_at "wp"
          refine fin ⟨done, paid, y, some y, count + 1⟩ ?_
          show _ = if b + t ≤ y then _ else _
          rw [if_pos h]
        · refine fin ⟨done, paid, y, some b, count⟩ ?_
          show _ = if b + t ≤ y then _ else _
          rw [if_neg h]
    · rintro δ N ⟨rfl, s', y8, hs', rfl⟩
      have hs2 : s' = ns.foldl (rideS t) s := by
        rw [hs', List.length_map, List.take_length]
      have hd2 : ∀ (ms : List Int) (z : St5), (ms.foldl (rideS t) z).done = z.done ∧ (ms.foldl (rideS t) z).paid = z.paid := by
        intro ms
        induction ms with
        | nil => exact fun z => ⟨rfl, rfl⟩
        | cons x r ih =>
          intro z
          obtain ⟨a, b⟩ := ih (rideS t z x)
          have e1 : (rideS t z x).done = z.done ∧ (rideS t z x).paid = z.paid := by
            unfold rideS
            cases z.start with
            | none => exact ⟨rfl, rfl⟩
            | some b => by_cases h : b + t ≤ x <;> simp [h]
          exact ⟨a.trans e1.1, b.trans e1.2⟩
      refine hK3 _ _ (seqR fun K6 hK6 => ?_)
      walk_at "wp"
      refine ⟨_, _, rfl, stV s', ?_, ?_, ?_⟩
      · rw [stD, hs2, (hd2 ns s).1, (hd2 ns s).2]
      · rw [hs.at_, List.length_map]
        exact Nat.lt_of_le_of_lt hs.len (by decide)
      · rw [hs.more]
        refine hK6 _ _ ?_
        walk_at "wp"
        refine ⟨_, _, rfl, ?_⟩
        refine s_moneyE v ?_
        walk_at "wp"
        rw [hs2]
        exact q
  · refine for_i [x] (fun i δ N => N = n ∧ i = 0 ∧ δ = [some (.dat (CardD.cd (ruleD p t c) l)), some (.dat (.tup [x])), some (.dat (.int s.done)), some (.dat (.int s.paid)), some (.dat (.int s.last)), some (.dat (.v (optV s.start))), some (.dat (.int s.count)), some (.dat (.int (moneyF p c s.count))), none]) (fun R hR => by walk_at "wp"; exact hR) ⟨rfl, rfl, rfl⟩ ?_ ?_
    · rintro i d δ N hi ⟨rfl, rfl, rfl⟩ RR hRR
      have hd : d = x := by simpa using hi.symm
      subst hd
      refine dgN ?_
      refine seqR fun K4 hK4 => ?_
      walk_at "wp"
      refine ⟨_, _, rfl, ?_⟩
      walk_at "wp"
      refine s_inr (hi := 1439) hx ?_
      rw [hr]
      walk_at "wp"
      exact q
    · rintro δ N ⟨rfl, h, rfl⟩
      cases h
theorem rE_M_eq (cn : Str → Value) : ∀ ds n C Er, dspE_M_eq cn ds n C Er → dE_M_eq cn Er { nx := fun _ n' => C (.dat .non) n', rt := C } (startD ds 2) n := by
  rintro ds n C Er ⟨p, t, c, l, d, sts, s, rfl, ⟨v, hs⟩, q⟩
  unfold dE_M_eq
  walk_at "wp"
  rcases q with ⟨p', t', c', l', sts', s', rfl, hs', q⟩ | ⟨es, rfl, q⟩
  · refine .inl ⟨_, _, rfl, ?_⟩
    walk_at "wp"
    refine ⟨_, _, rfl, _, _, rfl, ?_⟩
    have ok1 : ∀ (p t : Int) (c : Option Int), D.ok 20 (ruleD p t c) = true := fun p t c => by cases c <;> rfl
    have ok2 : ∀ s : St5, D.ok 20 (.tup ((stV s).map D.v)) = true := fun s => by
      obtain ⟨_, _, _, start, _⟩ := s
      cases start <;> rfl
    refine chk_of (by rw [ok1, ok1]; rfl) ?_
    walk_at "wp"
    refine wif_2 (fun h1 => ?_) fun h1 => ?_
    · refine ⟨_, _, _, rfl, hs.lst, _, _, _, rfl, hs'.lst, ?_⟩
      refine chk_of (by rw [ok2, ok2]; rfl) ?_
      rw [h1] at q
      exact q
    · rw [h1] at q
      exact q
  · refine .inr ⟨_, rfl, ?_⟩
    walk_at "wp"
    exact q
end LAW

/-! M19: plain: states of cards, days. -/
namespace LAW
open PySem PySem.Spec PyProof.Rows L2 DL
variable [TabNames] [CardD]
theorem asc_cnt : ∀ {ns : List Int} {m : Int}, ns.Pairwise (· < ·) → (∀ x ∈ ns, m < x ∧ x ≤ 1439) → (ns.length : Int) ≤ max 0 (1439 - m)
  | [], m, _, _ => by show ((0 : Nat) : Int) ≤ _; omega
  | x :: r, m, h, hr => by
    obtain ⟨h1, h2⟩ := List.pairwise_cons.mp h
    have ih := asc_cnt (ns := r) (m := x) h2 fun y hy => ⟨h1 y hy, (hr y (List.mem_cons_of_mem _ hy)).2⟩
    have hx := hr x (List.mem_cons_self ..)
    rw [List.length_cons]
    omega
theorem VRides.full {m : Nat} {ns : List Int} (rg : ∀ x ∈ ns, 0 ≤ x ∧ x ≤ 1439) (asc : ns.Pairwise (· < ·)) : VRides 1440 ns where
  len := by
    have := asc_cnt (m := -1) asc fun x hx => ⟨by have := (rg x hx).1; omega, (rg x hx).2⟩
    omega
  rg := rg
  asc := asc
theorem last_getD {ns : List Int} {x : Int} (h : x ∈ ns) (asc : ns.Pairwise (· < ·)) : x ≤ ns.getLast?.getD (-1) := by
  have ne : ns ≠ [] := fun z => by rw [z] at h; cases h
  rw [List.getLast?_eq_some_getLast ne]
  exact asc_last asc h ne
theorem rel_0 (t : Int) : Rel t s0 ⟨0, 0, []⟩ := ⟨rfl, rfl, ⟨Nat.zero_le _, fun _ h => by simp at h, .nil⟩, rfl, rfl, rfl⟩
theorem rel_one {t y : Int} {s : St5} {x : Day3} (h : Rel t s x) (h0 : s.last < y) (h1 : y ≤ 1439) : Rel t (rideS t s y) ⟨x.days, x.paid, x.rides ++ [y]⟩ := by
  obtain ⟨hd, hp, hv, hl, hb, hc⟩ := h
  obtain ⟨days, paid, rs⟩ := x
  obtain ⟨done, pd, last, start, count⟩ := s
  dsimp only at hd hp hv hl hb hc h0 ⊢
  have hy : 0 ≤ y := by
    rw [hl] at h0
    cases hz : rs.getLast? with
    | none => rw [hz] at h0; have h0' : (-1 : Int) < y := h0; omega
    | some z =>
      rw [hz] at h0
      have h0' : z < y := h0
      have hm := List.mem_of_getLast? hz
      have := (hv.rg z hm).1
      omega
  have hv2 : VRides 1440 (rs ++ [y]) := VRides.full (m := 0) (fun z hz => by
      rcases List.mem_append.mp hz with hz | hz
      · exact hv.rg z hz
      · have e : z = y := by simpa using hz
        subst e
        exact ⟨hy, h1⟩) (by
      rw [List.pairwise_append]
      refine ⟨hv.asc, List.pairwise_singleton _ _, fun a ha b hb' => ?_⟩
      have e : b = y := by simpa using hb'
      subst e
      have := last_getD ha hv.asc
      rw [← hl] at this
      omega)
  have hlast : (rs ++ [y]).getLast?.getD (-1) = y := by rw [List.getLast?_append]; rfl
  have key : boughtF t (rs ++ [y]) = bstep t (boughtF t rs) y := boughtF_snoc t rs y
  unfold bstep at key
  rw [← hb] at key
  cases start with
  | none =>
    have key' : boughtF t (rs ++ [y]) = boughtF t rs ++ [y] := key
    refine ⟨hd, hp, hv2, hlast.symm, ?_, ?_⟩
    · show some y = _
      rw [key', List.getLast?_append]
      rfl
    · show count + 1 = _
      rw [key', List.length_append, hc]
      rfl
  | some b =>
    have key' : boughtF t (rs ++ [y]) = if b + t ≤ y then boughtF t rs ++ [y] else boughtF t rs := key
    by_cases hby : b + t ≤ y
    · rw [if_pos hby] at key'
      have e : rideS t ⟨done, pd, last, some b, count⟩ y = ⟨done, pd, y, some y, count + 1⟩ := if_pos hby
      rw [e]
      refine ⟨hd, hp, hv2, hlast.symm, ?_, ?_⟩
      · show some y = _
        rw [key', List.getLast?_append]
        rfl
      · show count + 1 = _
        rw [key', List.length_append, hc]
        rfl
    · rw [if_neg hby] at key'
      have e : rideS t ⟨done, pd, last, some b, count⟩ y = ⟨done, pd, y, some b, count⟩ := if_neg hby
      rw [e]
      exact ⟨hd, hp, hv2, hlast.symm, by rw [key']; exact hb, by rw [key']; exact hc⟩
theorem rel_fold {t : Int} : ∀ {ns : List Int} {s : St5} {x : Day3}, Rel t s x → okT s.last ns → Rel t (ns.foldl (rideS t) s) ⟨x.days, x.paid, x.rides ++ ns⟩
  | [], s, ⟨days, paid, rs⟩, h, _ => by
    show Rel t s ⟨days, paid, rs ++ []⟩
    rw [List.append_nil]
    exact h
  | y :: r, s, ⟨days, paid, rs⟩, h, hk => by
    have h1 := rel_one h hk.1.1 hk.1.2
    have h2 := rel_fold (ns := r) h1 (by rw [ride_last]; exact hk.2)
    have e : (rs ++ [y]) ++ r = rs ++ y :: r := by simp
    show Rel t (r.foldl (rideS t) (rideS t s y)) ⟨days, paid, rs ++ y :: r⟩
    rw [← e]
    exact h2
theorem rel_sleep {p t k : Int} {c : Option Int} {s : St5} {x : Day3} (h : Rel t s x) : Rel t (sleepS p c s k) ⟨x.days + k, x.paid + costF p t c x.rides, []⟩ := by
  refine ⟨?_, ?_, ⟨Nat.zero_le _, fun _ h => by simp at h, .nil⟩, rfl, rfl, rfl⟩
  · show s.done + k = _
    rw [h.d]
  · show s.paid + moneyF p c s.count = _
    rw [h.p, h.c]
    rfl
theorem rel_money {p t : Int} {c : Option Int} {s : St5} {x : Day3} (h : Rel t s x) : moneyF p c s.count = costF p t c x.rides := by rw [h.c]; rfl
theorem okT_of : ∀ {ns : List Int} {m : Int}, ns.Pairwise (· < ·) → (∀ x ∈ ns, m < x ∧ x ≤ 1439) → okT m ns
  | [], _, _, _ => trivial
  | x :: r, m, h, hr => by
    obtain ⟨h1, h2⟩ := List.pairwise_cons.mp h
    exact ⟨hr x (List.mem_cons_self ..), okT_of h2 fun y hy => ⟨h1 y hy, (hr y (List.mem_cons_of_mem _ hy)).2⟩⟩
theorem okT_rides {m : Nat} {ns : List Int} (v : VRides m ns) : okT (-1) ns := okT_of v.asc fun x hx => ⟨by have := (v.rg x hx).1; omega, (v.rg x hx).2⟩
theorem okT_snoc : ∀ {ns : List Int} {m y : Int}, okT m ns → ns.getLast?.getD m < y → y ≤ 1439 → okT m (ns ++ [y])
  | [], _, _, _, h1, h2 => ⟨⟨h1, h2⟩, trivial⟩
  | [x], _, _, h, h1, h2 => ⟨h.1, ⟨h1, h2⟩, trivial⟩
  | x :: z :: r, m, y, h, h1, h2 => ⟨h.1, okT_snoc (ns := z :: r) (m := x) h.2 (by
      rw [List.getLast?_cons_cons] at h1
      cases hz : (z :: r).getLast? with
      | none => simp at hz
      | some w => rw [hz] at h1; exact h1) h2⟩
theorem valid_int {t : Int} {s : St5} {b i : Int} (ht : 1 ≤ t) (hs : s.start = some b) : validD t s (.int i) = (decide (b ≤ i) && decide (i ≤ 1439) && decide (i < b + t)) := by
  unfold validD
  rw [hs]
  show (decide (b ≤ i) && decide (i ≤ min 1440 (b + t) - 1)) = _
  have e : decide (i ≤ min 1440 (b + t) - 1) = (decide (i ≤ 1439) && decide (i < b + t)) := by
    rw [Bool.eq_iff_iff]
    simp only [Bool.and_eq_true, decide_eq_true_eq]
    omega
  rw [e, Bool.and_assoc]
end LAW

/-! R9c: the law's helpers over a card. -/
namespace LAW
open PySem PySem.Spec PyProof.Rows L2 DL
variable [TabNames] [CardD]
local macro_rules | `(tactic| walk_at "wp") => `(tactic| first | dsimp | skip)
local macro_rules | `(tactic| walk_at "om") => `(tactic| first | omega | (simp only [Ct.le_def, Ct.add_n, Ct.lit_n, Ct.add_g, Ct.lit_g, List.nil_append, List.append_nil] at *; first | omega | (refine ⟨?_, ?_⟩ <;> first | trivial | assumption | (symm; assumption) | omega | simp_all)))
theorem eq_is {d e : D} {r b : Bool} {k : Sl → Prop} (h1 : D.ok 20 d = true) (h2 : D.ok 20 e = true) (h3 : D.eqb d e = r) (h : k (.dat (.bl (ng b r)))) : dEq b d e k := by
  unfold dEq
  rw [h1, h2, h3]
  exact h
theorem s_rideE {cn : Str → Value} {N : Ct} {C : DK} {Er : Value → Ct → Prop} {p t : Int} {c : Option Int} {l : Addr} {sts : List St5} {s : St5} {ns : List Int} (v : VRule p t c) (hs : Sts N l sts s) (hk : okT s.last ns) (hn : ns.length ≤ 1000)
    (q : C (.dat (.int (moneyF p c (ns.foldl (rideS t) s).count - moneyF p c s.count))) (N.put l ((sts ++ [ns.foldl (rideS t) s]).map stV))) : dspE_M_ride cn (CardD.cd (ruleD p t c) l :: ns.map D.int) N C Er := by
  refine ⟨by simp, by rw [List.length_cons, List.length_map]; omega, p, t, c, l, _, sts, s, rfl, ⟨v, hs⟩, .inl ⟨ns, rfl, hk, hn, q⟩⟩
theorem r_L_ride (cn : Str → Value) : ∀ ds n C Er, dsp_L_ride ds n C Er → d_L_ride cn { nx := fun _ n' => C (.dat .non) n', rt := C } (startD ds 2) n := by
  rintro ds n C Er ⟨p, t, c, l, ns, sts, s, rfl, ⟨v, hs⟩, ⟨hk, hn⟩, q⟩
  unfold d_L_ride
  refine seqR fun K1 hK1 => ?_
  match ns, hk, hn, q with
  | [], hk, hn, q =>
    show dIf _ _ _ _ [some (.dat (CardD.cd (ruleD p t c) l)), some (.dat (.tup []))] n
    walk_at "wp"
    refine eq_is rfl rfl rfl ?_
    walk_at "wp"
    refine ⟨_, _, rfl, ?_⟩
    exact s_rideE (ns := []) v hs hk (by decide) q
  | [a], hk, hn, q =>
    show dIf _ _ _ _ [some (.dat (CardD.cd (ruleD p t c) l)), some (.dat (.tup [D.int a]))] n
    walk_at "wp"
    refine eq_is rfl rfl rfl ?_
    walk_at "wp"
    refine hK1 _ _ ?_
    walk_at "wp"
    refine ⟨_, _, rfl, ?_⟩
    exact s_rideE (ns := [a]) v hs hk (by simp) q
  | [a, b], hk, hn, q =>
    show dIf _ _ _ _ [some (.dat (CardD.cd (ruleD p t c) l)), some (.dat (.tup [D.int a, D.int b]))] n
    walk_at "wp"
    refine eq_is rfl rfl rfl ?_
    walk_at "wp"
    refine hK1 _ _ ?_
    walk_at "wp"
    refine ⟨_, _, rfl, ?_⟩
    exact s_rideE (ns := [a, b]) v hs hk (by simp) q
  | [a, b, c'], hk, hn, q =>
    show dIf _ _ _ _ [some (.dat (CardD.cd (ruleD p t c) l)), some (.dat (.tup [D.int a, D.int b, D.int c']))] n
    walk_at "wp"
    refine eq_is rfl rfl rfl ?_
    walk_at "wp"
    refine hK1 _ _ ?_
    walk_at "wp"
    refine ⟨_, _, rfl, ?_⟩
    exact s_rideE (ns := [a, b, c']) v hs hk (by simp) q
  | _ :: _ :: _ :: _ :: _, hk, hn, q => exact absurd hn (by simp)
section
variable {cn : Str → Value} {N : Ct} {C : DK} {Er : Value → Ct → Prop} {p t : Int} {c : Option Int} {l : Addr} {sts : List St5} {s : St5} {d : D}
theorem s_paid (v : VRule p t c) (hs : Sts N l sts s) (q : C (.dat (.int (s.paid + moneyF p c s.count))) N) : dspE_M_paid cn [CardD.cd (ruleD p t c) l] N C Er := ⟨p, t, c, l, sts, s, rfl, ⟨v, hs⟩, q⟩
theorem s_today (v : VRule p t c) (hs : Sts N l sts s) (q : C (.dat (.int (moneyF p c s.count))) N) : dspE_M_today cn [CardD.cd (ruleD p t c) l] N C Er := ⟨p, t, c, l, sts, s, rfl, ⟨v, hs⟩, q⟩
theorem s_tickets (v : VRule p t c) (hs : Sts N l sts s) (q : C (.dat (.int s.count)) N) : dspE_M_tickets cn [CardD.cd (ruleD p t c) l] N C Er := ⟨p, t, c, l, sts, s, rfl, ⟨v, hs⟩, q⟩
theorem s_until (v : VRule p t c) (hs : Sts N l sts s) (q : C (.dat (capD (s.start.map (· + t)))) N) : dspE_M_until cn [CardD.cd (ruleD p t c) l] N C Er := ⟨p, t, c, l, sts, s, rfl, ⟨v, hs⟩, q⟩
theorem s_days (v : VRule p t c) (hs : Sts N l sts s) (q : C (.dat (.int s.done)) N) : dspE_M_days cn [CardD.cd (ruleD p t c) l] N C Er := ⟨p, t, c, l, sts, s, rfl, ⟨v, hs⟩, q⟩
theorem s_contains (v : VRule p t c) (hs : Sts N l sts s) (hd : plainD d = true) (q : C (.dat (.bl (validD t s d))) N) : dspE_M_contains cn [CardD.cd (ruleD p t c) l, d] N C Er := ⟨p, t, c, l, d, sts, s, rfl, ⟨v, hs⟩, hd, q⟩
end
theorem s_linE {N : Ct} {C : DK} {Er : Value → Ct → Prop} {d : D} {lo hi : Int} (v : plainD d = true) (h : C (.dat (.bl (inRD d lo hi))) N) : dsp_L_in [d, .v (.int lo), .v (.int hi)] N C Er := ⟨d, lo, hi, rfl, v, h⟩
theorem ix_last {ns : List Int} {b : Int} {k : Sl → Prop} (h : ns.getLast? = some b) (q : k (.dat (.int b))) : dIx (.lst (ns.map D.int)) (.v (.int (-1))) k := by
  show (match atI (ns.map D.int) (-1) with | some d' => k (.dat d') | none => False)
  rw [atI_last h]
  exact q
theorem lf_cap {x : Option Int} : (capD x).lf = true := by cases x <;> rfl
theorem eq_bls {neg a b : Bool} {k : Sl → Prop} : dEq neg (D.bl a) (D.bl b) k = k (.dat (.bl (ng neg (decide (a = b))))) := by cases a <;> cases b <;> rfl
/-- what is asked at each tick -/
def dueD (t : Int) (b : Option Int) (d : D) : Bool := match b with
  | none => false
  | some b => inRD d b 1439 && (match d with | .v (.int i) => decide (i < b + t) | _ => false)
theorem due_valid {t : Int} {s : St5} {d : D} (ht : 1 ≤ t) : validD t s d = dueD t s.start d := by
  unfold validD dueD
  cases s.start with
  | none => rfl
  | some b =>
    cases d with
    | v x =>
      cases x with
      | int i =>
        show (decide (b ≤ i) && decide (i ≤ min 1440 (b + t) - 1)) = ((decide (b ≤ i) && decide (i ≤ 1439)) && decide (i < b + t))
        rw [Bool.eq_iff_iff]
        simp only [Bool.and_eq_true, decide_eq_true_eq]
        omega
      | _ => rfl
    | _ => rfl
theorem r_L_right (cn : Str → Value) : ∀ ds n C Er, dsp_L_right ds n C Er → d_L_right cn { nx := fun _ n' => C (.dat .non) n', rt := C } (startD ds 13) n := by
  rintro ds n C Er ⟨p, t, c, l, sts, s, ⟨days, paid, rs⟩, rfl, ⟨v, hs⟩, hr, q⟩
  have hrl : rs.length ≤ 1440 := hr.v.len
  have hbl := boughtF_len t rs
  have hrg : ∀ y ∈ rs, 0 ≤ y ∧ y ≤ 1439 := hr.v.rg
  unfold d_L_right
  refine seqR fun K1 hK1 => ?_
  have e : dayD ⟨days, paid, rs⟩ = .tup [.int days, .int paid, .lst (rs.map D.int)] := rfl
  rw [e]
  walk_at "wp"
  refine hK1 _ _ (seqR fun K2 hK2 => ?_)
  walk_at "wp"
  refine s_lbought IntsD.lst (by omega) (fun y hy => (hrg y hy).1) ?_
  walk_at "wp"
  refine hK2 _ _ (seqR fun K3 hK3 => ?_)
  walk_at "wp"
  rw [List.length_map]
  refine s_lmoney ⟨v.p0, v.p1⟩ ?_
  walk_at "wp"
  refine hK3 _ _ (seqR fun K4 hK4 => ?_)
  -- until
  have hun : K4 [some (.dat (CardD.cd (ruleD p t c) l)), some (.dat (ruleD p t c)), some (.dat (.tup [.int days, .int paid, .lst (rs.map D.int)])), some (.dat (.int days)), some (.dat (.int paid)), some (.dat (.lst (rs.map D.int))), some (.dat (.lst ((boughtF t rs).map D.int))), some (.dat (.int (moneyF p c ((boughtF t rs).length : Nat)))), some (.dat (capD (s.start.map (· + t)))), none, none, none, none] n := by
    refine hK4 _ _ (seqR fun K5 hK5 => ?_)
    walk_at "wp"
    refine ⟨_, _, rfl, ?_⟩
    refine s_paid v hs ?_
    walk_at "wp"
    refine ⟨_, _, rfl, ?_⟩
    refine s_today v hs ?_
    walk_at "wp"
    refine ⟨_, _, rfl, ?_⟩
    refine s_tickets v hs ?_
    walk_at "wp"
    refine ⟨_, _, rfl, ?_⟩
    refine s_until v hs ?_
    refine chk_of lf_cap ?_
    walk_at "wp"
    refine ⟨_, _, rfl, ?_⟩
    refine s_days v hs ?_
    walk_at "wp"
    refine hK5 _ _ (seqR fun K6 hK6 => ?_)
    walk_at "wp"
    rw [List.length_map]
    have es1 : s.paid + moneyF p c s.count = paid + moneyF p c ((boughtF t rs).length : Nat) := by rw [hr.p, hr.c]
    have es2 : moneyF p c s.count = moneyF p c ((boughtF t rs).length : Nat) := by rw [hr.c]
    have es3 : s.count = ((boughtF t rs).length : Nat) := hr.c
    have es4 : s.done = days := hr.d
    have hoz : ∀ (a b c d : Int) (x : Option Int), oz 3 (D.lst [D.int a, D.int b, D.int c, capD x, D.int d]) = true := fun a b c d x => by cases x <;> rfl
    have hsm : ∀ (a b c d : Int) (x : Option Int), sameD (D.lst [D.int a, D.int b, D.int c, capD x, D.int d]) (D.lst [D.int a, D.int b, D.int c, capD x, D.int d]) = true := fun a b c d x => by cases x <;> simp [sameD, sameDs, capD]
    refine s_same ⟨hoz _ _ _ _ _, hoz _ _ _ _ _⟩ ?_
    rw [es1, es2, es3, es4, hsm]
    walk_at "wp"
    refine hK6 _ _ (seqR fun K7 hK7 => ?_)
    -- the ticks
    let inc : D → D := fun d => match d with | .v (.int x) => .int (x + 1) | _ => .non
    let items : List D := [.non, .bl true, .str "0", .int (-1), .int 0, .int 1439, .int 1440] ++ rs.map D.int ++ (DL.cutD (rs.map D.int) (some (-2)) none).map inc
    have hcut : ∀ d ∈ DL.cutD (rs.map D.int) (some (-2)) none, ∃ x, d = D.int x := fun d hd => by
      have h1 : d ∈ rs.map D.int := List.mem_of_mem_drop (List.mem_of_mem_take hd)
      obtain ⟨x, _, rfl⟩ := List.mem_map.mp h1
      exact ⟨x, rfl⟩
    have hcl : (DL.cutD (rs.map D.int) (some (-2)) none).length ≤ 1440 := by
      unfold DL.cutD
      rw [List.length_take, List.length_drop, List.length_map]
      omega
    have hit : ∀ d ∈ items, plainD d = true := fun d hd => by
      rcases List.mem_append.mp hd with hd | hd
      · rcases List.mem_append.mp hd with hd | hd
        · simp only [List.mem_cons, List.not_mem_nil, or_false] at hd
          rcases hd with rfl | rfl | rfl | rfl | rfl | rfl | rfl <;> rfl
        · obtain ⟨x, _, rfl⟩ := List.mem_map.mp hd
          rfl
      · obtain ⟨x, hx, rfl⟩ := List.mem_map.mp hd
        obtain ⟨y, rfl⟩ := hcut x hx
        rfl
    refine for_i items (fun i δ N => N = n ∧ ∃ y10 y11, δ = [some (.dat (CardD.cd (ruleD p t c) l)), some (.dat (ruleD p t c)), some (.dat (.tup [.int days, .int paid, .lst (rs.map D.int)])), some (.dat (.int days)), some (.dat (.int paid)), some (.dat (.lst (rs.map D.int))), some (.dat (.lst ((boughtF t rs).map D.int))), some (.dat (.int (moneyF p c ((boughtF t rs).length : Nat)))), some (.dat (capD (s.start.map (· + t)))), some (.dat (.lst [.int (paid + moneyF p c ((boughtF t rs).length : Nat)), .int (moneyF p c ((boughtF t rs).length : Nat)), .int ((boughtF t rs).length : Nat), capD (s.start.map (· + t)), .int days])), y10, y11, none])
      (fun R hR => ?_) ⟨rfl, none, none, rfl⟩ ?_ ?_
    · walk_at "wp"
      refine ⟨by rw [List.length_map]; omega, ?_⟩
      refine lc_p (DL.cutD (rs.map D.int) (some (-2)) none) (fun _ => true) inc (fun R hR => by walk_at "wp"; exact hR) (by omega) (fun d hd K K' h1 h2 => ?_) ?_
      · obtain ⟨x, rfl⟩ := hcut d hd
        walk_at "wp"
        exact h1 rfl
      · rw [filter_all]
        walk_at "wp"
        refine ⟨?_, hR⟩
        simp only [List.length_cons, List.length_map]
        omega
    · rintro i d δ N hi ⟨rfl, y10, y11, rfl⟩ RR hRR
      have hd := hit d (List.mem_of_getElem? hi)
      have hRR' : ∀ y11, RR _ _ := fun y11 => hRR _ _ ⟨rfl, some (.dat d), y11, rfl⟩
      refine dgN ?_
      refine seqR fun K8 hK8 => ?_
      have key : K8 [some (.dat (CardD.cd (ruleD p t c) l)), some (.dat (ruleD p t c)), some (.dat (.tup [.int days, .int paid, .lst (rs.map D.int)])), some (.dat (.int days)), some (.dat (.int paid)), some (.dat (.lst (rs.map D.int))), some (.dat (.lst ((boughtF t rs).map D.int))), some (.dat (.int (moneyF p c ((boughtF t rs).length : Nat)))), some (.dat (capD (s.start.map (· + t)))), some (.dat (.lst [.int (paid + moneyF p c ((boughtF t rs).length : Nat)), .int (moneyF p c ((boughtF t rs).length : Nat)), .int ((boughtF t rs).length : Nat), capD (s.start.map (· + t)), .int days])), some (.dat d), some (.dat (.bl (dueD t s.start d))), none] N := by
        refine hK8 _ _ ?_
        walk_at "wp"
        refine ⟨_, _, _, rfl, rfl, ?_⟩
        refine s_contains v hs hd ⟨_, rfl, ?_⟩
        walk_at "wp"
        rw [eq_bls, due_valid v.t0]
        refine wif_f (by simp) ?_
        exact hRR' _
      walk_at "wp"
      cases hst : s.start with
      | none =>
        rw [hst] at key
        exact key
      | some b =>
        have hlast : (boughtF t rs).getLast? = some b := by rw [← hst]; exact hr.b.symm
        rw [hst] at key
        refine wif_t (by show (!decide (V.int (b + t) = V.non)) = true; rw [decide_eq_false (fun h => by cases h)]; rfl) ?_
        refine ix_last hlast ?_
        refine s_linE hd ?_
        refine chk_of rfl ?_
        cases h1 : inRD d b 1439 with
        | false =>
          have e1 : dueD t (some b) d = false := by show (inRD d b 1439 && _) = false; rw [h1]; rfl
          rw [e1] at key
          exact key
        | true =>
          cases d with
          | v x =>
            cases x with
            | int i =>
              have e1 : dueD t (some b) (.int i) = decide (i < b + t) := by show (inRD (D.int i) b 1439 && decide (i < b + t)) = _; rw [h1]; rfl
              rw [e1] at key
              exact key
            | _ => cases h1
          | _ => cases h1
    · rintro δ N ⟨rfl, y10, y11, rfl⟩
      refine hK7 _ _ (seqR fun K9 hK9 => ?_)
      walk_at "wp"
      cases hst : s.start with
      | none =>
        refine hK9 _ _ ?_
        walk_at "wp"
        exact q
      | some b =>
        refine wif_t (by show (!decide (V.int (b + t) = V.non)) = true; rw [decide_eq_false (fun h => by cases h)]; rfl) ?_
        refine ⟨_, _, _, rfl, rfl, ?_⟩
        refine s_contains v hs rfl ⟨_, rfl, ?_⟩
        have e1 : validD t s (D.int (b + t)) = false := by
          rw [valid_int v.t0 hst, decide_eq_false (show ¬ b + t < b + t by omega), Bool.and_false]
        have e2 : validD t s (D.int (b + t - 1)) = decide (b + t ≤ 1440) := by
          rw [valid_int v.t0 hst, Bool.eq_iff_iff]
          simp only [Bool.and_eq_true, decide_eq_true_eq]
          have := v.t0
          omega
        refine wif_t (by show decide (validD t s (D.int (b + t)) = false) = true; rw [e1]; rfl) ?_
        show dSub (D.int (b + t)) (D.int 1) _
        walk_at "wp"
        refine ⟨_, _, _, rfl, rfl, ?_⟩
        refine s_contains v hs rfl ⟨_, rfl, ?_⟩
        show dLe (D.int (b + t)) (D.int 1440) _
        walk_at "wp"
        rw [e2, eq_bls]
        have e3 : ng false (decide (decide (b + t ≤ 1440) = decide (b + t ≤ 1440))) = true := by simp
        rw [e3]
        exact q
  walk_at "wp"
  rw [eq_nil]
  cases hst : s.start with
  | none =>
    have hn : boughtF t rs = [] := List.getLast?_eq_none_iff.mp (by rw [← hst]; exact hr.b.symm)
    rw [hst] at hun
    refine wif_f (by rw [hn]; rfl) ?_
    exact hun
  | some b =>
    have hlast : (boughtF t rs).getLast? = some b := by rw [← hst]; exact hr.b.symm
    have hn : boughtF t rs ≠ [] := fun z => by rw [z] at hlast; cases hlast
    rw [hst] at hun
    refine wif_t (by show (!decide (boughtF t rs = [])) = true; rw [decide_eq_false hn]; rfl) ?_
    refine ix_last hlast ?_
    exact hun
end LAW

/-! R9d: a drawn step. -/
namespace LAW
open PySem PySem.Spec PyProof.Rows L2 DL
variable [TabNames] [CardD]
local macro_rules | `(tactic| walk_at "wp") => `(tactic| first | dsimp | skip)
local macro_rules | `(tactic| walk_at "om") => `(tactic| first | omega | (simp only [Ct.le_def, Ct.add_n, Ct.lit_n, Ct.add_g, Ct.lit_g, List.nil_append, List.append_nil] at *; first | omega | (refine ⟨?_, ?_⟩ <;> first | trivial | assumption | (symm; assumption) | omega | simp_all)))
theorem Sts.g {N M : Ct} {l : Addr} {sts : List St5} {s : St5} (h : Sts N l sts s) (e : N.g = M.g) : Sts M l sts s := ⟨by show evs M.g l [] = _; rw [← e]; exact h.at_, h.last, h.len⟩
theorem rel_last {t : Int} {s : St5} {x : Day3} (h : Rel t s x) : -1 ≤ s.last ∧ s.last ≤ 1439 := by
  rw [h.l]
  cases hz : x.rides.getLast? with
  | none => show -1 ≤ (-1 : Int) ∧ (-1 : Int) ≤ 1439; omega
  | some z =>
    have := h.v.rg z (List.mem_of_getLast? hz)
    show -1 ≤ z ∧ z ≤ 1439
    omega
theorem six_of {a b c d e f : D} {i : Int} {k : Sl → Prop} (h0 : 0 ≤ i) (h1 : i < 6) (h : ∀ x ∈ [a, b, c, d, e, f], k (.dat x)) : dIx (.lst [a, b, c, d, e, f]) (.v (.int i)) k := by
  have hh : i = 0 ∨ i = 1 ∨ i = 2 ∨ i = 3 ∨ i = 4 ∨ i = 5 := by omega
  rcases hh with rfl | rfl | rfl | rfl | rfl | rfl
  · exact h a (by simp)
  · exact h b (by simp)
  · exact h c (by simp)
  · exact h d (by simp)
  · exact h e (by simp)
  · exact h f (by simp)
theorem cost_val {x : Int} : sameD (D.tup [D.str "value", D.int x]) (D.tup [D.str "value", D.int x]) = true := by simp [sameD, sameDs]
theorem oz_val {x : Int} : oz 3 (D.tup [D.str "value", D.int x]) = true := by
  have h : PyData.strOk ("value" : Str) = true := by decide +kernel
  simp [oz, ozs, h]
theorem ifR {p : DT} {a b : DS} {E : DEnds} {δ : StD} {N : Ct} (h : ∀ A B : StD → Ct → Prop, (∀ δ N, a E δ N → A δ N) → (∀ δ N, b E δ N → B δ N) → dIf p (fun _ δ N => A δ N) (fun _ δ N => B δ N) E δ N) : dIf p a b E δ N := h (a E) (b E) (fun _ _ x => x) fun _ _ x => x
theorem ten6 : (10 : Int) ^ (6 : Int).toNat = 1000000 := by decide
theorem word_eq {wd : Str} (hw : wd ∈ caught) {b : Bool} {k : Sl → Prop} (h : k (.dat (.bl (ng b true)))) : dEq b (D.tup [D.str wd]) (D.tup [D.str wd]) k := by
  have : ∀ wd ∈ caught, D.ok 20 (D.tup [D.str wd]) = true ∧ D.eqb (D.tup [D.str wd]) (D.tup [D.str wd]) = true := by decide +kernel
  exact eq_is (this wd hw).1 (this wd hw).1 (this wd hw).2 h
theorem r_L_step (cn : Str → Value) (isl : Nat → PT → Prop) : ∀ ds n C Er, dsp_L_step ds n C Er → d_L_step cn isl { nx := fun _ n' => C (.dat .non) n', rt := C } (startD ds 17) n := by
  rintro ds n C Er ⟨p, t, c, l, sts, s, ⟨days, paid, rs⟩, rfl, ⟨v, hs⟩, ⟨hr, hN⟩, q⟩
  have hlim : LIM = 1152921504606846976 := rfl
  have c106 : CPow 10 6 := ⟨by decide, by decide, by decide⟩
  have hrl : rs.length ≤ 1440 := hr.v.len
  have hrg : ∀ y ∈ rs, 0 ≤ y ∧ y ≤ 1439 := hr.v.rg
  obtain ⟨hl0, hl1⟩ := rel_last hr
  have v0 := v.t0
  have v1 := v.t1
  unfold d_L_step
  refine seqR fun K1 hK1 => ?_
  have e : dayD ⟨days, paid, rs⟩ = .tup [.int days, .int paid, .lst (rs.map D.int)] := rfl
  rw [e]
  walk_at "wp"
  refine hK1 _ _ (seqR fun K2 hK2 => ?_)
  walk_at "wp"
  refine s_take ⟨by decide, by decide, by walk_at "om"⟩ fun way w0 w1 => ?_
  have key : K2 [some (.dat .bag), some (.dat (CardD.cd (ruleD p t c) l)), some (.dat (ruleD p t c)), some (.dat (.tup [.int days, .int paid, .lst (rs.map D.int)])), some (.dat (.int days)), some (.dat (.int paid)), some (.dat (.lst (rs.map D.int))), some (.dat (.int way)), some (.dat (.int s.last)), none, none, none, none, none, none, none, none] (n + 1) := by
    refine hK2 _ _ (seqR fun K3 hK3 => ?_)
    walk_at "wp"
    refine wif_d (fun hw => ?_) fun hw => ?_
    · -- rides
      refine for_w fun Rf hRf => ?_
      walk_at "wp"
      refine s_take ⟨by decide, by decide, by walk_at "om"⟩ fun k k0 k1 => ?_
      walk_at "wp"
      refine ⟨⟨by omega, by omega⟩, ?_⟩
      refine hRf _ _ (inv_i (fun i δ N => ∃ ns tk y10, δ = [some (.dat .bag), some (.dat (CardD.cd (ruleD p t c) l)), some (.dat (ruleD p t c)), some (.dat (.tup [.int days, .int paid, .lst (rs.map D.int)])), some (.dat (.int days)), some (.dat (.int paid)), some (.dat (.lst (rs.map D.int))), some (.dat (.int way)), some (.dat (.int s.last)), some (.dat (.int tk)), y10, none, none, none, none, none, some (.dat (.tup (ns.map D.int)))] ∧
        (n.g = N.g ∧ n.n + 2 ≤ N.n) ∧ N.n ≤ n.n + 2 + 2 * i ∧ okT s.last ns ∧ ns.length ≤ i ∧ ns.getLast?.getD s.last ≤ tk) ⟨[], s.last, none, rfl, ⟨rfl, Nat.le_refl _⟩, Nat.le_refl _, trivial, Nat.le_refl _, by show s.last ≤ s.last; omega⟩ ?_ ?_)
      · rintro i d δ N hi ⟨ns, tk, y10, rfl, ⟨hG, hN1⟩, hN2, hok, hlen, htk⟩ RR hRR
        have hi' := (List.getElem?_eq_some_iff.mp hi).1
        rw [rngD_len] at hi'
        refine dgN ?_
        refine seqR fun A3 hA3 => ?_
        walk_at "wp"
        refine ⟨.inl (by omega), ?_⟩
        refine s_take ⟨by decide, by decide, by walk_at "om"⟩ fun a a0 a1 => ?_
        walk_at "wp"
        have hgap : ∀ g : Int, 0 ≤ g → A3 [some (.dat .bag), some (.dat (CardD.cd (ruleD p t c) l)), some (.dat (ruleD p t c)), some (.dat (.tup [.int days, .int paid, .lst (rs.map D.int)])), some (.dat (.int days)), some (.dat (.int paid)), some (.dat (.lst (rs.map D.int))), some (.dat (.int way)), some (.dat (.int s.last)), some (.dat (.int (tk + 1 + g))), some (.dat d), none, none, none, none, none, some (.dat (.tup (ns.map D.int)))] (N + 1 + 1) := by
          intro g g0
          refine hA3 _ _ ?_
          walk_at "wp"
          refine wif_d (fun h => ?_) fun h => ?_
          · refine ⟨by rw [List.length_map]; omega, ?_⟩
            refine hRR _ _ ⟨ns ++ [tk + 1 + g], tk + 1 + g, some (.dat d), by rw [List.map_append]; rfl, ⟨hG, by show n.n + 2 ≤ N.n + 1 + 1; omega⟩, by show N.n + 1 + 1 ≤ _; omega, okT_snoc hok (by omega) (by omega), by rw [List.length_append]; show _ + 1 ≤ _; omega, by rw [List.getLast?_append]; show tk + 1 + g ≤ _; omega⟩
          · refine hRR _ _ ⟨ns, tk + 1 + g, some (.dat d), rfl, ⟨hG, by show n.n + 2 ≤ N.n + 1 + 1; omega⟩, by show N.n + 1 + 1 ≤ _; omega, hok, by omega, by omega⟩
        refine two_of a0 a1 (fun _ => ?_) (fun _ => ?_)
        · walk_at "wp"
          refine s_take ⟨by decide, by decide, by walk_at "om"⟩ fun g g0 g1 => ?_
          walk_at "wp"
          exact hgap g g0
        · walk_at "wp"
          refine s_take ⟨by omega, by omega, by walk_at "om"⟩ fun g g0 g1 => ?_
          walk_at "wp"
          exact hgap g g0
      · rintro δ N ⟨ns, tk, y10, rfl, ⟨hG, hN1⟩, hN2, hok, hlen, htk⟩
        rw [rngD_len] at hN2 hlen
        have hln : ns.length ≤ 3 := by omega
        have hsN := hs.g hG
        refine seqR fun A4 hA4 => ?_
        walk_at "wp"
        refine hA4 _ _ (seqR fun A5 hA5 => ?_)
        walk_at "wp"
        intro P0 h0
        walk_at "wp"
        intro CV cap hc
        refine ⟨_, _, rfl, hc 0 _ h0, ?_⟩
        unfold behOf
        rw [show ∀ Er, b_L_step cn 0 Er = (dCall Er dsp_L_ride (dCons (dVar 1) (dCons (dVar 16) dNil))) from fun _ => rfl]
        walk_at "wp"
        refine ⟨p, t, c, l, ns, sts, s, rfl, ⟨v, hsN⟩, ⟨hok, hln⟩, ?_⟩
        walk_at "wp"
        refine ⟨_, rfl, ?_⟩
        walk_at "wp"
        refine chk_of rfl ?_
        refine hA5 _ _ (seqR fun A6 hA6 => ?_)
        walk_at "wp"
        have hrel : Rel t (ns.foldl (rideS t) s) ⟨days, paid, rs ++ ns⟩ := rel_fold hr hok
        have hm1 : moneyF p c (ns.foldl (rideS t) s).count = costF p t c (rs ++ ns) := rel_money hrel
        have hm2 : moneyF p c s.count = costF p t c rs := rel_money hr
        have hz1 : (rs.map D.int).length + (ns.map D.int).length ≤ 100000 := by rw [List.length_map, List.length_map]; omega
        have hl2 : (rs ++ ns).length ≤ 2000 := Nat.le_trans hrel.v.len (by decide)
        refine ⟨hz1, ?_⟩
        rw [← List.map_append]
        refine s_lcost IntsD.lst hl2 (fun y hy => (hrel.v.rg y hy).1) ⟨v.p0, v.p1⟩ ?_
        walk_at "wp"
        refine s_lcost IntsD.lst (by omega) (fun y hy => (hrg y hy).1) ⟨v.p0, v.p1⟩ ?_
        walk_at "wp"
        refine hA6 _ _ ?_
        walk_at "wp"
        rw [hm1, hm2]
        refine s_same ⟨oz_val, oz_val⟩ ?_
        rw [cost_val]
        walk_at "wp"
        refine ⟨hz1, ?_⟩
        rw [← List.map_append]
        exact q [(ns.foldl (rideS t) s, ⟨days, paid, rs ++ ns⟩)] _ (Nat.le_refl _) (fun x hx => by obtain rfl := List.mem_singleton.mp hx; exact hrel) (by show n.n ≤ N.n + 0; omega) (by show N.n + 0 ≤ n.n + 20; omega) at_put
    · refine hK3 _ _ (seqR fun K4 hK4 => ?_)
      refine ifR fun PA PB hPA hPB => ?_
      walk_at "wp"
      refine wif_d (fun h7 => hPA _ _ ?_) fun h7 => hPB _ _ ?_
      · -- sleeps
        refine seqR fun B1 hB1 => ?_
        walk_at "wp"
        refine ⟨c106, ?_⟩
        refine s_take ⟨by decide, by decide, by walk_at "om"⟩ fun a a0 a1 => ?_
        walk_at "wp"
        have hgo : ∀ g : Int, 0 ≤ g → g < 1000000 → B1 [some (.dat .bag), some (.dat (CardD.cd (ruleD p t c) l)), some (.dat (ruleD p t c)), some (.dat (.tup [.int days, .int paid, .lst (rs.map D.int)])), some (.dat (.int days)), some (.dat (.int paid)), some (.dat (.lst (rs.map D.int))), some (.dat (.int way)), some (.dat (.int s.last)), none, none, none, none, none, some (.dat (.int (1 + g))), none, none] (n + 1 + 1 + 1) := by
          intro g g0 g1
          have hsN : Sts (n + 1 + 1 + 1) l sts s := hs.g rfl
          have hrel : Rel t (sleepS p c s (1 + g)) ⟨days + (1 + g), paid + costF p t c rs, []⟩ := rel_sleep hr
          refine hB1 _ _ (seqR fun B2 hB2 => ?_)
          walk_at "wp"
          intro P1 h1
          walk_at "wp"
          intro CV cap hc
          refine ⟨_, _, rfl, hc 1 _ h1, ?_⟩
          unfold behOf
          rw [show ∀ Er, b_L_step cn 1 Er = (dMethK Er 1 (dspE_M_sleep cn) (dVar 1) (dCons (dVar 14) dNil)) from fun _ => rfl]
          walk_at "wp"
          refine ⟨_, _, rfl, ?_⟩
          refine ⟨p, t, c, l, _, sts, s, rfl, ⟨v, hsN⟩, .inl ⟨1 + g, rfl, ⟨by omega, by omega⟩, ?_⟩⟩
          walk_at "wp"
          refine ⟨_, rfl, ?_⟩
          walk_at "wp"
          refine chk_of rfl ?_
          refine hB2 _ _ (seqR fun B3 hB3 => ?_)
          walk_at "wp"
          refine s_lcost IntsD.lst (by omega) (fun y hy => (hrg y hy).1) ⟨v.p0, v.p1⟩ ?_
          walk_at "wp"
          refine hB3 _ _ ?_
          walk_at "wp"
          have hm2 : s.paid + moneyF p c s.count = paid + costF p t c rs := by rw [hr.p, rel_money hr]
          rw [hm2]
          refine s_same ⟨oz_val, oz_val⟩ ?_
          rw [cost_val]
          walk_at "wp"
          exact q [(sleepS p c s (1 + g), ⟨days + (1 + g), paid + costF p t c rs, []⟩)] _ (Nat.le_refl _) (fun x hx => by obtain rfl := List.mem_singleton.mp hx; exact hrel) (by show n.n ≤ n.n + 1 + 1 + 1 + 0; omega) (by show n.n + 1 + 1 + 1 + 0 ≤ n.n + 20; omega) at_put
        refine two_of a0 a1 (fun _ => ?_) (fun _ => ?_)
        · walk_at "wp"
          refine s_take ⟨by decide, by decide, by walk_at "om"⟩ fun g g0 g1 => ?_
          walk_at "wp"
          exact hgo g g0 (by omega)
        · walk_at "wp"
          refine s_take ⟨by decide, by decide, by walk_at "om"⟩ fun g g0 g1 => ?_
          walk_at "wp"
          exact hgo g g0 g1
      · refine hK4 _ _ (seqR fun B1 hB1 => ?_)
        walk_at "wp"
        refine s_take ⟨by decide, by decide, by walk_at "om"⟩ fun a a0 a1 => ?_
        walk_at "wp"
        refine six_of a0 a1 fun x hx => ?_
        have hx2 : plainD x = true ∧ inRD x (s.last + 1) 1439 = false := by
          simp only [List.mem_cons, List.not_mem_nil, or_false] at hx
          rcases hx with rfl | rfl | rfl | rfl | rfl | rfl
          · exact ⟨rfl, rfl⟩
          · exact ⟨rfl, rfl⟩
          · refine ⟨rfl, ?_⟩
            show (decide (s.last + 1 ≤ -1) && decide ((-1 : Int) ≤ 1439)) = false
            rw [decide_eq_false (by omega)]
            rfl
          · refine ⟨rfl, ?_⟩
            show (decide (s.last + 1 ≤ 1440) && decide ((1440 : Int) ≤ 1439)) = false
            rw [show decide ((1440 : Int) ≤ 1439) = false from rfl, Bool.and_false]
          · exact ⟨rfl, rfl⟩
          · refine ⟨rfl, ?_⟩
            show (decide (s.last + 1 ≤ s.last) && decide (s.last ≤ 1439)) = false
            rw [decide_eq_false (by omega)]
            rfl
        have hsN : Sts (n + 1 + 1) l sts s := hs.g rfl
        walk_at "wp"
        refine hB1 _ _ (seqR fun B2 hB2 => ?_)
        walk_at "wp"
        intro P2 h2
        walk_at "wp"
        intro CV cap hc
        refine ⟨_, _, rfl, hc 2 _ h2, ?_⟩
        unfold behOf
        rw [show ∀ Er, b_L_step cn 2 Er = (dMeth Er (dspE_M_ride cn) (dVar 1) (dCons (dVar 15) dNil)) from fun _ => rfl]
        walk_at "wp"
        refine ⟨_, _, rfl, ?_⟩
        refine ⟨by simp, by simp, p, t, c, l, _, sts, s, rfl, ⟨v, hsN⟩, .inr ⟨x, rfl, hx2.1, hx2.2, ?_⟩⟩
        refine ⟨"InvalidTick", ⟨by decide, rfl⟩, ?_⟩
        walk_at "wp"
        refine chk_of rfl ?_
        refine word_eq (by decide) ?_
        walk_at "wp"
        refine hB2 _ _ ?_
        walk_at "wp"
        intro P3 h3
        walk_at "wp"
        intro CV cap hc
        refine ⟨_, _, rfl, hc 3 _ h3, ?_⟩
        unfold behOf
        rw [show ∀ Er, b_L_step cn 3 Er = (dMethK Er 1 (dspE_M_sleep cn) (dVar 1) (dCons (dC (.int 0)) dNil)) from fun _ => rfl]
        walk_at "wp"
        refine ⟨_, _, rfl, ?_⟩
        refine ⟨p, t, c, l, _, sts, s, rfl, ⟨v, hsN⟩, .inr ⟨rfl, rfl, ?_⟩⟩
        refine ⟨"InvalidNumber", ⟨by decide, rfl⟩, ?_⟩
        walk_at "wp"
        refine chk_of rfl ?_
        refine word_eq (by decide) ?_
        walk_at "wp"
        exact q [] _ (Nat.zero_le _) (fun x hx => by cases hx) (by show n.n ≤ n.n + 1 + 1; omega) (by show n.n + 1 + 1 ≤ n.n + 20; omega) (by rw [List.map_nil, List.append_nil]; exact hsN.at_)
  walk_at "wp"
  rw [eq_nil]
  cases hz : rs.getLast? with
  | none =>
    have hn : rs = [] := List.getLast?_eq_none_iff.mp hz
    have hl : s.last = -1 := by rw [hr.l]; show rs.getLast?.getD (-1) = -1; rw [hz]; rfl
    rw [hl] at key
    refine wif_f (by rw [hn]; rfl) ?_
    exact key
  | some b =>
    have hl : s.last = b := by rw [hr.l]; show rs.getLast?.getD (-1) = b; rw [hz]; rfl
    have hn : rs ≠ [] := fun z => by rw [z] at hz; cases hz
    rw [hl] at key
    refine wif_t (by show (!decide (rs = [])) = true; rw [decide_eq_false hn]; rfl) ?_
    refine ix_last hz ?_
    exact key
end LAW

/-! R9e: the law k19. -/
namespace LAW
open PySem PySem.Spec PyProof.Rows L2 DL
variable [TabNames] [CardD]
local macro_rules | `(tactic| walk_at "wp") => `(tactic| first | dsimp | skip)
local macro_rules | `(tactic| walk_at "om") => `(tactic| first | omega | (simp only [Ct.le_def, Ct.add_n, Ct.lit_n, Ct.add_g, Ct.lit_g, List.nil_append, List.append_nil] at *; first | omega | (refine ⟨?_, ?_⟩ <;> first | trivial | assumption | (symm; assumption) | omega | simp_all)))
theorem oz_word {wd : Str} (hw : wd ∈ caught) : oz 3 (D.tup [D.str wd]) = true := by
  have : ∀ wd ∈ caught, oz 3 (D.tup [D.str wd]) = true := by decide +kernel
  exact this wd hw
theorem oz_valn : oz 3 (D.tup [D.str "value", D.non]) = true := by decide +kernel
theorem same_valn : sameD (D.tup [D.str "value", D.non]) (D.tup [D.str "value", D.non]) = true := by decide +kernel
theorem same_word {wd : Str} : sameD (D.tup [D.str wd]) (D.tup [D.str wd]) = true := by simp [sameD, sameDs]
theorem ix_lastD {ds : List D} {d : D} {k : Sl → Prop} (h : ds.getLast? = some d) (q : k (.dat d)) : dIx (.lst ds) (.v (.int (-1))) k := by
  show (match atI ds (-1) with | some d' => k (.dat d') | none => False)
  rw [atI_last1 h]
  exact q
theorem cut_to (ds : List D) (j : Nat) : DL.cutD ds none (some (j : Int)) = ds.take j := by
  unfold DL.cutD
  rw [HT.sIx_none, HT.sIx_nat]
  simp only [List.drop_zero, Nat.sub_zero]
  rw [List.take_eq_take_iff]
  omega
/-- the states of the card, as both keep them -/
structure Pairs (t : Int) (N : Ct) (l : Addr) (ps : List (St5 × Day3)) : Prop where
  ne : ps ≠ []
  rel : ∀ q ∈ ps, Rel t q.1 q.2
  at_ : N.at l = (ps.map (·.1)).map stV
  len : ps.length ≤ 40
theorem Pairs.last {t : Int} {N : Ct} {l : Addr} {ps : List (St5 × Day3)} (h : Pairs t N l ps) : ∃ q, ps.getLast? = some q ∧ Rel t q.1 q.2 ∧ Sts N l (ps.map (·.1)) q.1 := by
  refine ⟨ps.getLast h.ne, List.getLast?_eq_some_getLast h.ne, h.rel _ (List.getLast_mem h.ne), h.at_, ?_, ?_⟩
  · rw [List.getLast?_map, List.getLast?_eq_some_getLast h.ne]
    rfl
  · rw [List.length_map]
    have := h.len
    omega
theorem Pairs.g {t : Int} {N M : Ct} {l : Addr} {ps : List (St5 × Day3)} (h : Pairs t N l ps) (e : N.g = M.g) : Pairs t M l ps := ⟨h.ne, h.rel, by show evs M.g l [] = _; rw [← e]; exact h.at_, h.len⟩
abbrev dayZ (ps : List (St5 × Day3)) : D := .lst (ps.map fun q => dayD q.2)
theorem dayZ_last {ps : List (St5 × Day3)} {q : St5 × Day3} (h : ps.getLast? = some q) : (ps.map fun q => dayD q.2).getLast? = some (dayD q.2) := by rw [List.getLast?_map, h]; rfl
theorem s_right {N : Ct} {C : DK} {Er : Value → Ct → Prop} {p t : Int} {c : Option Int} {l : Addr} {sts : List St5} {s : St5} {x : Day3} (v : VRule p t c) (hs : Sts N l sts s) (hr : Rel t s x) (q : C (.dat (.bl true)) N) : dsp_L_right [CardD.cd (ruleD p t c) l, ruleD p t c, dayD x] N C Er := ⟨p, t, c, l, sts, s, x, rfl, ⟨v, hs⟩, hr, q⟩
theorem eqS_refl (s : St5) : eqS s s = true := by
  obtain ⟨a, b, c, start, e⟩ := s
  cases start <;> simp [eqS, stV, optV, D.eqb, D.eqbs, eqV]
theorem eqS_done {s s' : St5} (h : s.done ≠ s'.done) : eqS s s' = false := by
  obtain ⟨a, b, c, start, e⟩ := s
  obtain ⟨a', b', c', start', e'⟩ := s'
  have h' : a ≠ a' := h
  simp [eqS, stV, optV, D.eqb, D.eqbs, eqV, h']
theorem eqb_rule (p t : Int) (c : Option Int) : D.eqb (ruleD p t c) (ruleD p t c) = true := by cases c <;> simp [ruleD, capD, D.eqb, D.eqbs, eqV]
theorem eqb_price {p p' t : Int} {c : Option Int} (h : p ≠ p') : D.eqb (ruleD p t c) (ruleD p' t c) = false := by cases c <;> simp [ruleD, capD, D.eqb, D.eqbs, eqV, h]
theorem Sts.put {N : Ct} {l l' : Addr} {sts : List St5} {s : St5} {c : List (List V)} (h : Sts N l sts s) (ne : l' ≠ l) : Sts (N.put l' c) l sts s := ⟨(at_put_ne ne).trans h.at_, h.last, h.len⟩
theorem Sts.new {N : Ct} {l : Addr} {sts : List St5} {s : St5} (hz : sts.length < 50000) : Sts (N.put l ((sts ++ [s]).map stV)) l (sts ++ [s]) s := ⟨at_put, by rw [List.getLast?_append]; rfl, by rw [List.length_append]; show _ + 1 ≤ _; omega⟩
theorem Sts.st0 {N : Ct} {l : Addr} : Sts (N.put l [st0V]) l [s0] s0 := ⟨at_put, rfl, by decide⟩
theorem r_law (cn : Str → Value) (isl : Nat → PT → Prop) : ∀ ds n C Er, dsp_law ds n C Er → d_law cn isl { nx := fun _ n' => C (.dat .non) n', rt := C } (startD ds 14) n := by
  rintro ds n C Er ⟨ns, rfl, ⟨hl, rfl⟩, q⟩
  have hlim : LIM = 1152921504606846976 := rfl
  unfold d_law
  refine seqR fun R1 hR1 => ?_
  refine for_w fun Rf hRf => ?_
  walk_at "wp"
  refine s_bags ⟨by decide, by decide, by decide, hl⟩ fun m hm => ?_
  walk_at "wp"
  refine hRf _ _ (inv_i (fun i δ N => 20000 ≤ N.n ∧ N.n ≤ 20000 + 3000 * i ∧ ∃ y1 y2 y3 y4 y5 y6 y7 y8 y9 y10 y11 y12 y13, δ = [some (Sl.dat (.scr ns)), y1, y2, y3, y4, y5, y6, y7, y8, y9, y10, y11, y12, y13])
    ⟨Nat.le_refl _, by show 20000 ≤ _; omega, none, none, none, none, none, none, none, none, none, none, none, none, none, rfl⟩ ?_ ?_)
  · rintro i d δ N hi ⟨hN0, hN1, y1, y2, y3, y4, y5, y6, y7, y8, y9, y10, y11, y12, y13, rfl⟩ RR hRR
    have hd : d = .bag := (List.mem_replicate.mp (List.mem_of_getElem? hi)).2
    subst hd
    have hi13 : i < 13 := by
      have := (List.getElem?_eq_some_iff.mp hi).1
      rw [List.length_replicate] at this
      omega
    refine dgN ?_
    refine seqR fun R2 hR2 => ?_
    walk_at "wp"
    refine s_rule (by omega) fun p t c N1 v n0 n1 => ?_
    have n0' := n0.2
    have n1' : N1.n ≤ N.n + 11 := n1.2
    walk_at "wp"
    refine hR2 _ _ (seqR fun R3 hR3 => ?_)
    walk_at "wp"
    refine ⟨_, rfl, p, t, c, rfl, v, fun l _ => ?_⟩
    walk_at "wp"
    refine hR3 _ _ (seqR fun R4 hR4 => ?_)
    have hP0 : Pairs t (N1.put l [st0V]) l [(s0, ⟨0, 0, []⟩)] := ⟨by simp, fun q hq => by obtain rfl := List.mem_singleton.mp hq; exact rel_0 t, at_put, by decide⟩
    refine for_w fun Rg hRg => ?_
    walk_at "wp"
    refine ⟨⟨by decide, by decide⟩, ?_⟩
    refine hRg _ _ (inv_i (fun k δ M => ∃ ps y4 y5 y6 y7, δ = [some (Sl.dat (.scr ns)), some (.dat .bag), some (.dat (ruleD p t c)), some (.dat (dayZ ps)), y4, y5, y6, y7, y8, y9, y10, y11, y12, some (.dat (CardD.cd (ruleD p t c) l))] ∧
      Pairs t M l ps ∧ ps.length ≤ k + 1 ∧ N1.n ≤ M.n ∧ M.n ≤ N1.n + 30 * k) ⟨[(s0, ⟨0, 0, []⟩)], y4, y5, y6, y7, rfl, hP0, Nat.le_refl _, Nat.le_refl _, Nat.le_refl _⟩ ?_ ?_)
    · rintro k d δ M hk ⟨ps, y4, y5, y6, y7, rfl, hP, hpl, hM0, hM1⟩ K1 hK1
      have hk30 : k < 30 := by
        have := (List.getElem?_eq_some_iff.mp hk).1
        rw [rngD_len] at this
        exact this
      refine dgN ?_
      refine seqR fun K2 hK2 => ?_
      have hright : ∀ ps' M' y5 y7, Pairs t M' l ps' → ps'.length ≤ k + 2 → M.n ≤ M'.n → M'.n ≤ M.n + 30 → K2 [some (Sl.dat (.scr ns)), some (.dat .bag), some (.dat (ruleD p t c)), some (.dat (dayZ ps')), some (.dat d), y5, some (.dat (.bl true)), y7, y8, y9, y10, y11, y12, some (.dat (CardD.cd (ruleD p t c) l))] M' := by
        intro ps' M' y5 y7 hP' hl' m0 m1
        obtain ⟨w, hw, hrel, hst⟩ := hP'.last
        refine hK2 _ _ ?_
        walk_at "wp"
        refine ix_lastD (dayZ_last hw) ?_
        walk_at "wp"
        refine s_right v hst hrel ?_
        walk_at "wp"
        exact hK1 _ _ ⟨ps', _, _, _, _, rfl, hP', hl', by omega, by omega⟩
      refine ifR fun PA PB hPA hPB => ?_
      walk_at "wp"
      refine s_take ⟨by decide, by decide, by omega⟩ fun a a0 a1 => ?_
      walk_at "wp"
      obtain ⟨w, hw, hrel, hst⟩ := hP.last
      have hst1 : Sts (M + 1) l (ps.map (·.1)) w.1 := hst.g rfl
      have hpl40 := hP.len
      refine wif_d (fun h0 => hPA _ _ ?_) fun h0 => hPB _ _ ?_
      · -- undo
        have hpos : 1 ≤ ps.length := List.length_pos_iff.mpr hP.ne
        refine seqR fun U1 hU1 => ?_
        walk_at "wp"
        rw [List.length_map]
        refine wif_d (fun h1 => ?_) fun h1 => ?_
        · refine hU1 _ _ (seqR fun U2 hU2 => ?_)
          walk_at "wp"
          intro P0 h00
          walk_at "wp"
          intro CV cap hc
          refine ⟨_, _, rfl, hc 0 _ h00, ?_⟩
          unfold behOf
          rw [show ∀ Er, b_law cn 0 Er = (dMeth Er (dspE_M_undo cn) (dVar 13) dNil) from fun _ => rfl]
          walk_at "wp"
          refine ⟨_, _, rfl, ?_⟩
          refine ⟨p, t, c, l, ps.map (·.1), w.1, rfl, hst1, .inr ⟨by rw [List.length_map]; omega, ?_⟩⟩
          walk_at "wp"
          refine ⟨_, rfl, ?_⟩
          walk_at "wp"
          refine chk_of rfl ?_
          refine s_same ⟨oz_valn, oz_valn⟩ ?_
          rw [same_valn]
          walk_at "wp"
          refine hU2 _ _ ?_
          walk_at "wp"
          rw [List.length_map, show max 1 ((ps.length : Int) - 1) = ((ps.length - 1 : Nat) : Int) by omega, cut_to, show ∀ f : St5 × Day3 → D, (ps.map f).take (ps.length - 1) = ps.dropLast.map f from fun f => by rw [List.map_dropLast, List.dropLast_eq_take, List.length_map]]
          have hdl : ps.dropLast.length = ps.length - 1 := List.length_dropLast
          refine hright ps.dropLast _ _ _ ⟨fun z => ?_, fun q hq => hP.rel q (List.dropLast_subset _ hq), ?_, by omega⟩ (by omega) (by show M.n ≤ M.n + 1 + 0; omega) (by show M.n + 1 + 0 ≤ _; omega)
          · rw [z] at hdl
            have : 0 = ps.length - 1 := hdl
            omega
          · rw [at_put]
            simp only [List.map_dropLast]
        · refine hU1 _ _ (seqR fun U2 hU2 => ?_)
          walk_at "wp"
          intro P0 h00
          walk_at "wp"
          intro CV cap hc
          refine ⟨_, _, rfl, hc 0 _ h00, ?_⟩
          unfold behOf
          rw [show ∀ Er, b_law cn 0 Er = (dMeth Er (dspE_M_undo cn) (dVar 13) dNil) from fun _ => rfl]
          walk_at "wp"
          refine ⟨_, _, rfl, ?_⟩
          refine ⟨p, t, c, l, ps.map (·.1), w.1, rfl, hst1, .inl ⟨by rw [List.length_map]; omega, ?_⟩⟩
          refine ⟨"NothingToUndo", ⟨by decide, rfl⟩, ?_⟩
          walk_at "wp"
          refine chk_of rfl ?_
          refine s_same ⟨oz_word (by decide), oz_word (by decide)⟩ ?_
          rw [same_word]
          walk_at "wp"
          refine hU2 _ _ ?_
          walk_at "wp"
          rw [List.length_map, show max 1 ((ps.length : Int) - 1) = ((1 : Nat) : Int) by omega, cut_to, List.take_of_length_le (by rw [List.length_map]; omega)]
          exact hright ps _ _ _ (hP.g (M := M + 1) rfl) (by omega) (by show M.n ≤ M.n + 1; omega) (by show M.n + 1 ≤ _; omega)
      · -- a step
        refine seqR fun U1 hU1 => ?_
        walk_at "wp"
        refine ix_lastD (dayZ_last hw) ?_
        walk_at "wp"
        refine ⟨p, t, c, l, ps.map (·.1), w.1, w.2, rfl, ⟨v, hst1⟩, ⟨hrel, by show M.n + 1 + 40 ≤ LIM; omega⟩, fun more N' m1 m2 m3 m4 m5 => ?_⟩
        have m3' : M.n + 1 ≤ N'.n := m3
        have m4' : N'.n ≤ M.n + 1 + 20 := m4
        walk_at "wp"
        refine hU1 _ _ ?_
        walk_at "wp"
        refine ⟨by rw [List.length_map, List.length_map]; omega, ?_⟩
        rw [← List.map_append]
        refine hright (ps ++ more) _ _ _ ⟨by simp [hP.ne], fun q hq => (List.mem_append.mp hq).elim (hP.rel q) (m2 q), by rw [m5, List.map_append]; simp, by rw [List.length_append]; omega⟩ (by rw [List.length_append]; omega) (by omega) (by omega)
    · rintro δ M ⟨ps, y4, y5, y6, y7, rfl, hP, hpl, hM0, hM1⟩
      rw [rngD_len] at hM1
      have hM2 : M.n ≤ N1.n + 30 * 30 := hM1
      refine hR4 _ _ (seqR fun R5 hR5 => ?_)
      walk_at "wp"
      refine s_rides ⟨by decide, by decide, v.t0, v.t1, by omega⟩ fun rs N3 w0 n2 n3 => ?_
      have w : VRides 60 rs := ⟨Nat.le_trans w0.len (by decide), w0.rg, w0.asc⟩
      have n3' : N3.n ≤ M.n + 243 := n3.2
      have n2' : M.n ≤ N3.n := n2.2
      walk_at "wp"
      refine hR5 _ _ (seqR fun R6 hR6 => ?_)
      walk_at "wp"
      refine ⟨_, rfl, p, t, c, rfl, v, fun l1 f1 => ⟨_, rfl, p, t, c, rfl, v, fun l2 f2 ne => ?_⟩⟩
      walk_at "wp"
      refine hR6 _ _ (seqR fun R7 hR7 => ?_)
      have e8 : (ridesD rs : D) = .tup (rs.map D.int) := rfl
      rw [e8]
      refine for_i (rs.map D.int) (fun k δ M4 => ∃ sts1 sts2 y11, δ = [some (Sl.dat (.scr ns)), some (.dat .bag), some (.dat (ruleD p t c)), some (.dat (dayZ ps)), y4, y5, y6, y7, some (.dat (.tup (rs.map D.int))), some (.dat (CardD.cd (ruleD p t c) l1)), some (.dat (CardD.cd (ruleD p t c) l2)), y11, y12, some (.dat (CardD.cd (ruleD p t c) l))] ∧
        Sts M4 l1 sts1 ((rs.take k).foldl (rideS t) s0) ∧ Sts M4 l2 sts2 ((rs.take k).foldl (rideS t) s0) ∧ sts1.length = k + 1 ∧ sts2.length = k + 1 ∧ M4.n = N3.n) (fun R hR => by walk_at "wp"; exact hR) ⟨[s0], [s0], y11, rfl, Sts.st0.put (Ne.symm ne), Sts.st0, rfl, rfl, rfl⟩ ?_ ?_
      · rintro k d δ M4 hk ⟨sts1, sts2, y11, rfl, h1, h2, g1, g2, g3⟩ K1 hK1
        obtain ⟨y, rfl, hy⟩ : ∃ y, d = .int y ∧ rs[k]? = some y := by
          rw [List.getElem?_map] at hk
          cases hz : rs[k]? with
          | none => rw [hz] at hk; cases hk
          | some y => rw [hz] at hk; exact ⟨y, (Option.some.inj hk).symm, rfl⟩
        have hk60 : k < 60 := Nat.lt_of_lt_of_le (List.getElem?_eq_some_iff.mp hy).1 w.len
        have hok := okT_at (t := t) (s := s0) (okT_rides w) hy
        refine dgN ?_
        refine seqR fun K2 hK2 => ?_
        walk_at "wp"
        refine ⟨_, _, rfl, ?_⟩
        refine s_rideE (ns := [y]) v h1 ⟨hok, trivial⟩ (by simp) ?_
        walk_at "wp"
        refine hK2 _ _ ?_
        walk_at "wp"
        refine ⟨_, _, rfl, ?_⟩
        refine s_rideE (ns := [y]) v (h2.put ne) ⟨hok, trivial⟩ (by simp) ?_
        walk_at "wp"
        have es : [y].foldl (rideS t) ((rs.take k).foldl (rideS t) s0) = (rs.take (k + 1)).foldl (rideS t) s0 := (fold_snoc hy).symm
        refine hK1 _ _ ⟨sts1 ++ [[y].foldl (rideS t) ((rs.take k).foldl (rideS t) s0)], sts2 ++ [[y].foldl (rideS t) ((rs.take k).foldl (rideS t) s0)], some (.dat (.int y)), rfl, ?_, ?_, by rw [List.length_append, g1]; rfl, by rw [List.length_append, g2]; rfl, g3⟩
        · rw [← es]
          exact (Sts.new (by omega)).put (Ne.symm ne)
        · rw [← es]
          exact Sts.new (by omega)
      · rintro δ M4 ⟨sts1, sts2, y11, rfl, h1, h2, g1, g2, g3⟩
        rw [List.length_map, List.take_length] at h1 h2
        rw [List.length_map] at g1 g2
        generalize hs : rs.foldl (rideS t) s0 = s at h1 h2
        have hrel : Rel t s ⟨0, 0, [] ++ rs⟩ := by rw [← hs]; exact rel_fold (rel_0 t) (okT_rides w)
        have hwl := w.len
        refine hR7 _ _ (seqR fun R8 hR8 => ?_)
        walk_at "wp"
        refine ⟨_, _, _, rfl, rfl, .inl ⟨_, _, rfl⟩, ?_⟩
        refine ⟨p, t, c, l1, _, sts1, s, rfl, ⟨v, h1⟩, .inl ⟨p, t, c, l2, sts2, s, rfl, h2, _, rfl, ?_⟩⟩
        rw [eqb_rule, eqS_refl]
        walk_at "wp"
        refine ⟨_, _, rfl, ?_⟩
        refine s_paid v h1 ?_
        walk_at "wp"
        refine s_cost v w ?_
        have hc : s.paid + moneyF p c s.count = costF p t c rs := by
          rw [rel_money hrel, hrel.p]
          show 0 + costF p t c ([] ++ rs) = _
          rw [List.nil_append]
          omega
        walk_at "wp"
        refine wif_f (by rw [hc]; simp) ?_
        refine ⟨_, _, _, rfl, rfl, .inr ⟨_, rfl⟩, ?_⟩
        refine ⟨p, t, c, l1, _, sts1, s, rfl, ⟨v, h1⟩, .inr ⟨_, rfl, _, rfl, ?_⟩⟩
        walk_at "wp"
        refine hR8 _ _ (seqR fun R9 hR9 => ?_)
        walk_at "wp"
        have v3 : VRule ((p + 1) % 1001) t c := ⟨Int.emod_nonneg _ (by decide), by have := Int.emod_lt_of_pos (p + 1) (show (0 : Int) < 1001 by decide); omega, v.t0, v.t1, v.c0⟩
        have hne : p ≠ (p + 1) % 1001 := by
          have := v.p0
          have := v.p1
          omega
        refine ⟨by decide, ruleD ((p + 1) % 1001) t c, rfl, _, t, c, rfl, v3, fun l3 f3 => ?_⟩
        have n13 : l1 ≠ l3 := f3 9 _ _ rfl
        have n23 : l2 ≠ l3 := f3 10 _ _ rfl
        have h1' : Sts (M4.put l3 [st0V]) l1 sts1 s := h1.put (Ne.symm n13)
        have h2' : Sts (M4.put l3 [st0V]) l2 sts2 s := h2.put (Ne.symm n23)
        refine ⟨_, _, _, rfl, rfl, .inl ⟨_, _, rfl⟩, ?_⟩
        refine ⟨p, t, c, l1, _, sts1, s, rfl, ⟨v, h1'⟩, .inl ⟨_, t, c, l3, [s0], s0, rfl, Sts.st0, _, rfl, ?_⟩⟩
        rw [eqb_price hne]
        walk_at "wp"
        refine hR9 _ _ ?_
        walk_at "wp"
        refine ⟨_, _, rfl, ?_⟩
        refine ⟨p, t, c, l1, _, sts1, s, rfl, ⟨v, h1'⟩, .inl ⟨1, rfl, ⟨by decide, by decide⟩, ?_⟩⟩
        walk_at "wp"
        refine s_cost v w ?_
        walk_at "wp"
        refine wif_f (by rw [hc]; simp) ?_
        have h1s : Sts ((M4.put l3 [st0V]).put l1 ((sts1 ++ [sleepS p c s 1]).map stV)) l1 (sts1 ++ [sleepS p c s 1]) (sleepS p c s 1) := Sts.new (by omega)
        have h2s : Sts ((M4.put l3 [st0V]).put l1 ((sts1 ++ [sleepS p c s 1]).map stV)) l2 sts2 s := h2'.put ne
        refine ⟨_, _, _, rfl, rfl, .inl ⟨_, _, rfl⟩, ?_⟩
        refine ⟨p, t, c, l1, _, _, _, rfl, ⟨v, h1s⟩, .inl ⟨p, t, c, l2, sts2, s, rfl, h2s, _, rfl, ?_⟩⟩
        have hdn : s.done = 0 := hrel.d
        rw [eqS_done (show (sleepS p c s 1).done ≠ s.done by show s.done + 1 ≠ s.done; omega), Bool.and_false]
        walk_at "wp"
        refine ⟨_, _, rfl, ?_⟩
        refine s_days v h1s ?_
        walk_at "wp"
        refine wif_f (by show (!decide (s.done + 1 = 1)) = false; rw [hdn]; rfl) ?_
        exact hRR _ _ ⟨by show 20000 ≤ M4.n + 0 + 0; omega, by show M4.n + 0 + 0 ≤ 20000 + 3000 * (i + 1); omega, _, _, _, _, _, _, _, _, _, _, _, _, _, rfl⟩
  · rintro δ N ⟨hN0, hN1, y1, y2, y3, y4, y5, y6, y7, y8, y9, y10, y11, y12, y13, rfl⟩
    have v4 : VRule 4 1 none := ⟨by decide, by decide, by decide, by decide, fun _ h => by cases h⟩
    refine hR1 _ _ (seqR fun R2 hR2 => ?_)
    walk_at "wp"
    refine ⟨4, rfl, ⟨by decide, by decide⟩, fun l => ?_⟩
    walk_at "wp"
    refine hR2 _ _ (seqR fun R3 hR3 => ?_)
    walk_at "wp"
    refine ⟨_, _, rfl, ?_⟩
    refine s_rideE (ns := [3, 4]) v4 Sts.st0 ⟨⟨by decide, by decide⟩, ⟨by decide, by decide⟩, trivial⟩ (by simp) ?_
    walk_at "wp"
    refine wif_f (by decide) ?_
    have hs2 : Sts ((N.put l [st0V]).put l (([s0] ++ [[3, 4].foldl (rideS 1) s0]).map stV)) l ([s0] ++ [[3, 4].foldl (rideS 1) s0]) ([3, 4].foldl (rideS 1) s0) := Sts.new (by decide)
    refine ⟨_, _, rfl, ?_⟩
    refine s_until v4 hs2 ?_
    have es : [3, 4].foldl (rideS 1) s0 = ⟨0, 0, 4, some 4, 2⟩ := by simp [rideS, s0]
    have eu : capD (Option.map (fun x => x + 1) ([3, 4].foldl (rideS 1) s0).start) = D.int 5 := by rw [es]; rfl
    rw [eu]
    walk_at "wp"
    refine hR3 _ _ ?_
    walk_at "wp"
    refine ⟨_, _, rfl, ?_⟩
    refine ⟨4, 1, none, l, _, _, _, rfl, ⟨v4, hs2⟩, .inl ⟨3, rfl, ⟨by decide, by decide⟩, ?_⟩⟩
    walk_at "wp"
    refine wif_t (by decide +kernel) ?_
    refine ⟨_, _, rfl, ?_⟩
    refine s_days v4 (Sts.new (sts := [s0] ++ [[3, 4].foldl (rideS 1) s0]) (by decide)) ?_
    walk_at "wp"
    rw [show rideS 1 (rideS 1 s0 3) 4 = ⟨0, 0, 4, some 4, 2⟩ from es]
    exact q _
end LAW

namespace LAW
open PySem PySem.Spec PyProof.Rows L2 DL
variable [TabNames]
-- NO WALK of _law_error: name InvalidMenu
-- NO WALK of _law_outcome: stmt Try(body=[Assign(targets=[Name(id='_law_found', ctx=Store())], value=Tuple(elts=[Constant(value='value'), Call(func=Name(id='_law_call', ctx=Load()), args=[], keywords=[])], ctx=Load()))], handlers=[E
/-! ### the text, by gen.py -/
section
variable [CardD]
def topS (i : Nat) : Stmt := PySem.Challenge.pw_ridetickets_k19_cards_step_by_step.main.body.getD i (.Pass ⟨0, 0, 0, 0⟩)
abbrev s_P_in_range : Stmt := topS 13
abbrev names_P_in_range : List Str := ["value", "low", "high"]
theorem sc_P_in_range : FnScope names_P_in_range ["value", "low", "high"] (defScope s_P_in_range) := ⟨rfl, rfl, rfl, by decide +kernel, rfl, by decide +kernel, by decide +kernel⟩
abbrev s_P_is_rule : Stmt := topS 14
abbrev names_P_is_rule : List Str := ["value"]
theorem sc_P_is_rule : FnScope names_P_is_rule ["value"] (defScope s_P_is_rule) := ⟨rfl, rfl, rfl, by decide +kernel, rfl, by decide +kernel, by decide +kernel⟩
abbrev s_P_is_rides : Stmt := topS 15
abbrev names_P_is_rides : List Str := ["value", "tick", "later"]
theorem sc_P_is_rides : FnScope names_P_is_rides ["value"] (defScope s_P_is_rides) := ⟨rfl, rfl, rfl, by decide +kernel, rfl, by decide +kernel, by decide +kernel⟩
abbrev s_P_check_rule : Stmt := topS 16
abbrev names_P_check_rule : List Str := ["value"]
theorem sc_P_check_rule : FnScope names_P_check_rule ["value"] (defScope s_P_check_rule) := ⟨rfl, rfl, rfl, by decide +kernel, rfl, by decide +kernel, by decide +kernel⟩
abbrev s_P_check_rides : Stmt := topS 17
abbrev names_P_check_rides : List Str := ["value"]
theorem sc_P_check_rides : FnScope names_P_check_rides ["value"] (defScope s_P_check_rides) := ⟨rfl, rfl, rfl, by decide +kernel, rfl, by decide +kernel, by decide +kernel⟩
abbrev s_P_bought_of : Stmt := topS 18
abbrev names_P_bought_of : List Str := ["length", "rides", "found", "tick"]
theorem sc_P_bought_of : FnScope names_P_bought_of ["length", "rides"] (defScope s_P_bought_of) := ⟨rfl, rfl, rfl, by decide +kernel, rfl, by decide +kernel, by decide +kernel⟩
abbrev s_P_money : Stmt := topS 19
abbrev names_P_money : List Str := ["rule", "count", "price", "length", "cap"]
theorem sc_P_money : FnScope names_P_money ["rule", "count"] (defScope s_P_money) := ⟨rfl, rfl, rfl, by decide +kernel, rfl, by decide +kernel, by decide +kernel⟩
abbrev s_P_cost_of : Stmt := topS 20
abbrev names_P_cost_of : List Str := ["rule", "rides"]
theorem sc_P_cost_of : FnScope names_P_cost_of ["rule", "rides"] (defScope s_P_cost_of) := ⟨rfl, rfl, rfl, by decide +kernel, rfl, by decide +kernel, by decide +kernel⟩
abbrev s_P_cost : Stmt := topS 21
abbrev names_P_cost : List Str := ["rule", "rides"]
theorem sc_P_cost : FnScope names_P_cost ["rule", "rides"] (defScope s_P_cost) := ⟨rfl, rfl, rfl, by decide +kernel, rfl, by decide +kernel, by decide +kernel⟩
abbrev s_L_well : Stmt := topS 25
abbrev names_L_well : List Str := ["_law_cell", "_law_turn"]
theorem sc_L_well : FnScope names_L_well ["_law_cell", "_law_turn"] (defScope s_L_well) := ⟨rfl, rfl, rfl, by decide +kernel, rfl, by decide +kernel, by decide +kernel⟩
abbrev s_L_take : Stmt := topS 26
abbrev names_L_take : List Str := ["_law_bag", "_law_many", "_law_found", "_law_p", "_law_n"]
theorem sc_L_take : FnScope names_L_take ["_law_bag", "_law_many"] (defScope s_L_take) := ⟨rfl, rfl, rfl, by decide +kernel, rfl, by decide +kernel, by decide +kernel⟩
abbrev s_L_bags : Stmt := topS 27
abbrev names_L_bags : List Str := ["_law_script", "_law_most", "_law_k", "_law_cell"]
theorem sc_L_bags : FnScope names_L_bags ["_law_script", "_law_most"] (defScope s_L_bags) := ⟨rfl, rfl, rfl, by decide +kernel, rfl, by decide +kernel, by decide +kernel⟩
abbrev s_L_same : Stmt := topS 28
abbrev names_L_same : List Str := ["_law_a", "_law_b", "_law_x", "_law_y"]
theorem sc_L_same : FnScope names_L_same ["_law_a", "_law_b"] (defScope s_L_same) := ⟨rfl, rfl, rfl, by decide +kernel, rfl, by decide +kernel, by decide +kernel⟩
abbrev s_L_in : Stmt := topS 29
abbrev names_L_in : List Str := ["_law_x", "_law_low", "_law_high"]
theorem sc_L_in : FnScope names_L_in ["_law_x", "_law_low", "_law_high"] (defScope s_L_in) := ⟨rfl, rfl, rfl, by decide +kernel, rfl, by decide +kernel, by decide +kernel⟩
abbrev s_L_error : Stmt := topS 30
abbrev names_L_error : List Str := ["_law_e", "_law_some", "_law_words", "_law_word", "_law_good"]
theorem sc_L_error : FnScope names_L_error ["_law_e"] (defScope s_L_error) := ⟨rfl, rfl, rfl, by decide +kernel, rfl, by decide +kernel, by decide +kernel⟩
abbrev s_L_outcome : Stmt := topS 31
abbrev names_L_outcome : List Str := ["_law_call", "_law_found", "_law_e"]
theorem sc_L_outcome : FnScope names_L_outcome ["_law_call"] (defScope s_L_outcome) := ⟨rfl, rfl, rfl, by decide +kernel, rfl, by decide +kernel, by decide +kernel⟩
abbrev s_L_rule : Stmt := topS 32
abbrev names_L_rule : List Str := ["_law_bag", "_law_price", "_law_some", "_law_length", "_law_caps"]
theorem sc_L_rule : FnScope names_L_rule ["_law_bag"] (defScope s_L_rule) := ⟨rfl, rfl, rfl, by decide +kernel, rfl, by decide +kernel, by decide +kernel⟩
abbrev s_L_rides : Stmt := topS 33
abbrev names_L_rides : List Str := ["_law_bag", "_law_most", "_law_rule_here", "_law_found", "_law_tick", "_law_turn", "_law_near"]
theorem sc_L_rides : FnScope names_L_rides ["_law_bag", "_law_most", "_law_rule_here"] (defScope s_L_rides) := ⟨rfl, rfl, rfl, by decide +kernel, rfl, by decide +kernel, by decide +kernel⟩
abbrev s_L_bought : Stmt := topS 34
abbrev names_L_bought : List Str := ["_law_length", "_law_rides_here", "_law_found", "_law_until", "_law_tick"]
theorem sc_L_bought : FnScope names_L_bought ["_law_length", "_law_rides_here"] (defScope s_L_bought) := ⟨rfl, rfl, rfl, by decide +kernel, rfl, by decide +kernel, by decide +kernel⟩
abbrev s_L_money : Stmt := topS 35
abbrev names_L_money : List Str := ["_law_rule_here", "_law_count", "_law_whole"]
theorem sc_L_money : FnScope names_L_money ["_law_rule_here", "_law_count"] (defScope s_L_money) := ⟨rfl, rfl, rfl, by decide +kernel, rfl, by decide +kernel, by decide +kernel⟩
abbrev s_L_cost : Stmt := topS 36
abbrev names_L_cost : List Str := ["_law_rule_here", "_law_rides_here"]
theorem sc_L_cost : FnScope names_L_cost ["_law_rule_here", "_law_rides_here"] (defScope s_L_cost) := ⟨rfl, rfl, rfl, by decide +kernel, rfl, by decide +kernel, by decide +kernel⟩
abbrev s_L_ride : Stmt := topS 37
abbrev names_L_ride : List Str := ["_law_run", "_law_ticks"]
theorem sc_L_ride : FnScope names_L_ride ["_law_run", "_law_ticks"] (defScope s_L_ride) := ⟨rfl, rfl, rfl, by decide +kernel, rfl, by decide +kernel, by decide +kernel⟩
abbrev s_L_right : Stmt := topS 38
abbrev names_L_right : List Str := ["_law_run", "_law_rule_here", "_law_state", "_law_days1", "_law_paid", "_law_rides_here", "_law_rows", "_law_today", "_law_until", "_law_told", "_law_tick", "_law_due", "_law_later"]
theorem sc_L_right : FnScope names_L_right ["_law_run", "_law_rule_here", "_law_state"] (defScope s_L_right) := ⟨rfl, rfl, rfl, by decide +kernel, rfl, by decide +kernel, by decide +kernel⟩
abbrev s_L_step : Stmt := topS 39
abbrev names_L_step : List Str := ["_law_bag", "_law_run", "_law_rule_here", "_law_state", "_law_days1", "_law_paid", "_law_rides_here", "_law_way", "_law_last", "_law_tick", "_law_turn", "_law_told", "_law_more", "_law_good", "_law_number", "_law_odd", "_law_some"]
theorem sc_L_step : FnScope names_L_step ["_law_bag", "_law_run", "_law_rule_here", "_law_state"] (defScope s_L_step) := ⟨rfl, rfl, rfl, by decide +kernel, rfl, by decide +kernel, by decide +kernel⟩
abbrev s_law : Stmt := topS 40
abbrev names_law : List Str := ["_law_script", "_law_bag", "_law_rule_here", "_law_states", "_law_turn", "_law_due", "_law_good", "_law_later", "_law_rides_here", "_law_twin", "_law_other", "_law_tick", "_law_card", "_law_run"]
theorem sc_law : FnScope names_law ["_law_script"] (defScope s_law) := ⟨rfl, rfl, rfl, by decide +kernel, rfl, by decide +kernel, by decide +kernel⟩
def clsS (i j : Nat) : Stmt := match topS i with
  | .ClassDef _ _ _ body _ _ _ _ _ _ _ => body.getD j (.Pass ⟨0, 0, 0, 0⟩)
  | _ => .Pass ⟨0, 0, 0, 0⟩
abbrev s_M_init : Stmt := clsS 23 1
abbrev names_M_init : List Str := ["self", "rule"]
theorem sc_M_init : FnScope names_M_init ["self", "rule"] (defScope s_M_init) := ⟨rfl, rfl, rfl, by decide +kernel, rfl, by decide +kernel, by decide +kernel⟩
abbrev s_M_ride : Stmt := clsS 23 3
abbrev names_M_ride : List Str := ["self", "ticks", "days", "paid", "last", "start", "count", "before", "tick"]
theorem sc_M_ride : FnScope names_M_ride ["self", "ticks"] (defScope s_M_ride) := ⟨rfl, rfl, rfl, by decide +kernel, rfl, by decide +kernel, by decide +kernel⟩
abbrev s_M_sleep : Stmt := clsS 23 4
abbrev names_M_sleep : List Str := ["self", "days", "done", "paid", "last", "start", "count"]
theorem sc_M_sleep : FnScope names_M_sleep ["self", "days"] (defScope s_M_sleep) := ⟨rfl, rfl, rfl, by decide +kernel, rfl, by decide +kernel, by decide +kernel⟩
abbrev s_M_undo : Stmt := clsS 23 5
abbrev names_M_undo : List Str := ["self"]
theorem sc_M_undo : FnScope names_M_undo ["self"] (defScope s_M_undo) := ⟨rfl, rfl, rfl, by decide +kernel, rfl, by decide +kernel, by decide +kernel⟩
abbrev s_M_single : Stmt := clsS 23 2
abbrev names_M_single : List Str := ["cls", "price"]
theorem sc_M_single : FnScope names_M_single ["cls", "price"] (defScope s_M_single) := ⟨rfl, rfl, rfl, by decide +kernel, rfl, by decide +kernel, by decide +kernel⟩
abbrev s_M_paid : Stmt := clsS 23 6
abbrev names_M_paid : List Str := ["self"]
theorem sc_M_paid : FnScope names_M_paid ["self"] (defScope s_M_paid) := ⟨rfl, rfl, rfl, by decide +kernel, rfl, by decide +kernel, by decide +kernel⟩
abbrev s_M_today : Stmt := clsS 23 7
abbrev names_M_today : List Str := ["self"]
theorem sc_M_today : FnScope names_M_today ["self"] (defScope s_M_today) := ⟨rfl, rfl, rfl, by decide +kernel, rfl, by decide +kernel, by decide +kernel⟩
abbrev s_M_tickets : Stmt := clsS 23 8
abbrev names_M_tickets : List Str := ["self"]
theorem sc_M_tickets : FnScope names_M_tickets ["self"] (defScope s_M_tickets) := ⟨rfl, rfl, rfl, by decide +kernel, rfl, by decide +kernel, by decide +kernel⟩
abbrev s_M_until : Stmt := clsS 23 9
abbrev names_M_until : List Str := ["self", "start"]
theorem sc_M_until : FnScope names_M_until ["self"] (defScope s_M_until) := ⟨rfl, rfl, rfl, by decide +kernel, rfl, by decide +kernel, by decide +kernel⟩
abbrev s_M_contains : Stmt := clsS 23 10
abbrev names_M_contains : List Str := ["self", "tick", "start"]
theorem sc_M_contains : FnScope names_M_contains ["self", "tick"] (defScope s_M_contains) := ⟨rfl, rfl, rfl, by decide +kernel, rfl, by decide +kernel, by decide +kernel⟩
abbrev s_M_days : Stmt := clsS 23 11
abbrev names_M_days : List Str := ["self"]
theorem sc_M_days : FnScope names_M_days ["self"] (defScope s_M_days) := ⟨rfl, rfl, rfl, by decide +kernel, rfl, by decide +kernel, by decide +kernel⟩
abbrev s_M_eq : Stmt := clsS 23 12
abbrev names_M_eq : List Str := ["self", "other"]
theorem sc_M_eq : FnScope names_M_eq ["self", "other"] (defScope s_M_eq) := ⟨rfl, rfl, rfl, by decide +kernel, rfl, by decide +kernel, by decide +kernel⟩
structure CardT (K : PySem.W.Frag) (mg : Str → Option Value) (C : Addr) : Prop where
  g : mg "Card" = some (.ref C)
  f : CardF K C
  i : ∃ f fd, Mk K C f ∧ Fun K "__init__" "Card.__init__" s_M_init f fd
  tp : PySem.W.subIn K (.type "tuple") (.ref C) = some false
  ic : IsC K C
  cdy : ∃ mc u, ClX.CRead K C mc ∧ ClX.CVal K C mc "DAY" (.int 1440) u
  m_ride : ∃ f fd, Meth K C "ride" f ∧ Fun K "ride" "Card.ride" s_M_ride f fd
  m_sleep : ∃ f fd, Meth K C "sleep" f ∧ FunD K "sleep" "Card.sleep" (defArgs s_M_sleep) (defBody s_M_sleep) (defScope s_M_sleep) [] [("days", (V.int 1))] f fd
  m_undo : ∃ f fd, Meth K C "undo" f ∧ Fun K "undo" "Card.undo" s_M_undo f fd
  m_single : ∃ mc p f fd, ClX.CRead K C mc ∧ ClX.CMet K C mc "single" p f ∧ Fun K "single" "Card.single" s_M_single f fd
  m_paid : ∃ p f fd, PropOf K C "paid" p f ∧ Fun K "paid" "Card.paid" s_M_paid f fd
  m_today : ∃ p f fd, PropOf K C "today" p f ∧ Fun K "today" "Card.today" s_M_today f fd
  m_tickets : ∃ p f fd, PropOf K C "tickets" p f ∧ Fun K "tickets" "Card.tickets" s_M_tickets f fd
  m_until : ∃ p f fd, PropOf K C "until" p f ∧ Fun K "until" "Card.until" s_M_until f fd
  m_contains : ∃ f fd, PySem.W.findIn K (.ref C) "__contains__" = some (some (.ref f)) ∧ PySem.W.isFn K (.ref f) = true ∧ Fun K "__contains__" "Card.__contains__" s_M_contains f fd
  m_days : ∃ p f fd, PropOf K C "days" p f ∧ Fun K "days" "Card.days" s_M_days f fd
  m_eq : ∃ f fd, PySem.W.findIn K (.ref C) "__eq__" = some (some (.ref f)) ∧ PySem.W.isFn K (.ref f) = true ∧ Fun K "__eq__" "Card.__eq__" s_M_eq f fd
/-- what the top has written -/
structure Top (K : PySem.W.Frag) (mg : Str → Option Value) : Prop where
  f_P_in_range : Dfd K mg "in_range" s_P_in_range
  f_P_is_rule : Dfd K mg "is_rule" s_P_is_rule
  f_P_is_rides : Dfd K mg "is_rides" s_P_is_rides
  f_P_check_rule : Dfd K mg "check_rule" s_P_check_rule
  f_P_check_rides : Dfd K mg "check_rides" s_P_check_rides
  f_P_bought_of : Dfd K mg "bought_of" s_P_bought_of
  f_P_money : Dfd K mg "money" s_P_money
  f_P_cost_of : Dfd K mg "cost_of" s_P_cost_of
  f_P_cost : Dfd K mg "cost" s_P_cost
  f_L_well : Dfd K mg "_law_well" s_L_well
  f_L_take : Dfd K mg "_law_take" s_L_take
  f_L_bags : Dfd K mg "_law_bags" s_L_bags
  f_L_same : Dfd K mg "_law_same" s_L_same
  f_L_in : Dfd K mg "_law_in" s_L_in
  f_L_error : Dfd K mg "_law_error" s_L_error
  f_L_outcome : Dfd K mg "_law_outcome" s_L_outcome
  f_L_rule : Dfd K mg "_law_rule" s_L_rule
  f_L_rides : Dfd K mg "_law_rides" s_L_rides
  f_L_bought : Dfd K mg "_law_bought" s_L_bought
  f_L_money : Dfd K mg "_law_money" s_L_money
  f_L_cost : Dfd K mg "_law_cost" s_L_cost
  f_L_ride : Dfd K mg "_law_ride" s_L_ride
  f_L_right : Dfd K mg "_law_right" s_L_right
  f_L_step : Dfd K mg "_law_step" s_L_step
  f_law : Dfd K mg "law" s_law
  er : ErrE K mg caught
  crd : ∃ C, CardT K mg C
  g_DAY : Cint mg "DAY" 1440
  g_MOST_PRICE : Cint mg "MOST_PRICE" 1000
  g_MOST_CAP : Cint mg "MOST_CAP" 1000000
  g_MOST_RIDES : Cint mg "MOST_RIDES" 60
  n_all : mg "all" = none
  n_bool : mg "bool" = none
  n_enumerate : mg "enumerate" = none
  n_int : mg "int" = none
  n_isinstance : mg "isinstance" = none
  n_len : mg "len" = none
  n_list : mg "list" = none
  n_max : mg "max" = none
  n_min : mg "min" = none
  n_range : mg "range" = none
  n_str : mg "str" = none
  n_tuple : mg "tuple" = none
  n_zip : mg "zip" = none

-- NO WALK of _law_error: name InvalidMenu
-- NO WALK of _law_outcome: stmt Try(body=[Assign(targets=[Name(id='_law_found', ctx=Store())], value=Tuple(elts=[Constant(value='value'), Call(func=Name(id='_law_call', ctx=Load()), args=[], keywords=[])], ctx=Load()))], handlers=[E
section
variable {P : Program} {w : World} {K : PySem.W.Frag} {mg : Str → Option Value} {base : Heap}
theorem c_P_in_range (T : Top K mg) : Cal P w K mg base CX0 "in_range" 1 ["value", "low", "high"] dsp_P_in_range := by
  refine cal_of (N := names_P_in_range) (dd := d_P_in_range) T.f_P_in_range sc_P_in_range l_P_in_range (fun _ _ _ _ _ _ us hl => match us, hl with | [_, _, _], _ => rfl) (fun f cdv A outer s H E hr => ?_) r_P_in_range
  have hu := hr.units
  exact ⟨_, (xss_one (xs_ret (x_and (x_isa .int (by rfl) T.n_isinstance (xv 0) (x_bltn (v := .ty "int") (by rfl) T.n_int PyProof.Rows.boot_int rfl)) (x_and (x_not (x_isa .bool (by rfl) T.n_isinstance (xv 0) (x_bltn (v := .ty "bool") (by rfl) T.n_bool PyProof.Rows.boot_bool rfl))) (x_one (x_chain o_le o_le (xv 1) (xv 0) (xv 2)))))))⟩
theorem c_P_is_rule (T : Top K mg) : Cal P w K mg base CX0 "is_rule" 2 ["value"] dsp_P_is_rule := by
  have c_P_in_range := c_P_in_range (P := P) (w := w) (base := base) T
  refine cal_of (N := names_P_is_rule) (dd := d_P_is_rule) T.f_P_is_rule sc_P_is_rule l_P_is_rule (fun _ _ _ _ _ _ us hl => match us, hl with | [_], _ => rfl) (fun f cdv A outer s H E hr => ?_) r_P_is_rule
  have hu := hr.units
  exact ⟨_, (xss_cons (xs_if (XW.xt (xw_or (xt_not (xt_val (x_isa .tuple (by rfl) T.n_isinstance (xv 0) (x_bltn (v := .ty "tuple") (by rfl) T.n_tuple PyProof.Rows.boot_tuple rfl)))) (xw_or1 (xt_cmp (o_neK hu (K := K)) (x_callB (c_lenK (K := K)) (by rfl) T.n_len PySem.boot_len (xa_cons (xv 0) xa_nil)) x_int)))) (xss_one (xs_ret x_bl)) xss_nil)
    (xss_cons (xs_if (XW.xt (xw_or (xt_not (xt_val (x_callC c_P_in_range hr (by decide) (by rfl) pass0 (xa_cons (x_ix (o_ixK (K := K)) (xv 0) x_int) (xa_cons x_int (xa_cons (x_globI T.g_MOST_PRICE (by rfl)) xa_nil)))))) (xw_or1 (xt_not (xt_val (x_callC c_P_in_range hr (by decide) (by rfl) pass0 (xa_cons (x_ix (o_ixK (K := K)) (xv 0) x_int) (xa_cons x_int (xa_cons (x_globI T.g_DAY (by rfl)) xa_nil))))))))) (xss_one (xs_ret x_bl)) xss_nil)
    (xss_one (xs_ret (x_or (x_cmp o_is (x_ix (o_ixK (K := K)) (xv 0) x_int) x_non) (x_one (x_callC c_P_in_range hr (by decide) (by rfl) pass0 (xa_cons (x_ix (o_ixK (K := K)) (xv 0) x_int) (xa_cons x_int (xa_cons (x_globI T.g_MOST_CAP (by rfl)) xa_nil))))))))))⟩
theorem c_P_is_rides (T : Top K mg) : Cal P w K mg base CX0 "is_rides" 2 ["value"] dsp_P_is_rides := by
  have c_P_in_range := c_P_in_range (P := P) (w := w) (base := base) T
  refine cal_of (N := names_P_is_rides) (dd := d_P_is_rides) T.f_P_is_rides sc_P_is_rides l_P_is_rides (fun _ _ _ _ _ _ us hl => match us, hl with | [_], _ => rfl) (fun f cdv A outer s H E hr => ?_) r_P_is_rides
  have hu := hr.units
  exact ⟨_, (xss_cons (xs_if (XW.xt (xw_or (xt_not (xt_val (x_isa .tuple (by rfl) T.n_isinstance (xv 0) (x_bltn (v := .ty "tuple") (by rfl) T.n_tuple PyProof.Rows.boot_tuple rfl)))) (xw_or1 (xt_cmp o_gt (x_callB (c_lenK (K := K)) (by rfl) T.n_len PySem.boot_len (xa_cons (xv 0) xa_nil)) (x_globI T.g_MOST_RIDES (by rfl)))))) (xss_one (xs_ret x_bl)) xss_nil)
    (xss_cons (xs_if (xt_not (xt_val (x_callB (c_allK (K := K) rfl) (by rfl) T.n_all PyProof.Rows.boot_all (xa_cons (x_lc (own := [("tick", 1)]) rfl sc_P_is_rides.nd (xi_seq (xv 0)) (blkOk_by (own := [("tick", 1)]) (N := names_P_is_rides) (sc := defScope s_P_is_rides) (by decide +kernel)) (fun _ _ _ _ _ => (xg_name (i := 1) sc_P_is_rides.nd rfl (Or.inl rfl))) (fun _ _ _ _ _ => xts_nil) (fun _ _ _ _ _ => (x_callC c_P_in_range hr (by decide) (by rfl) pass0 (xa_cons (xv 1) (xa_cons x_int (xa_cons (x_op o_sub (x_globI T.g_DAY (by rfl)) x_int) xa_nil)))))) xa_nil)))) (xss_one (xs_ret x_bl)) xss_nil)
    (xss_one (xs_ret (x_callB (c_allK (K := K) rfl) (by rfl) T.n_all PyProof.Rows.boot_all (xa_cons (x_lc (own := [("tick", 1), ("later", 2)]) rfl sc_P_is_rides.nd (xi_zip (by rfl) T.n_zip (xa_cons (xv 0) (xa_cons (x_slice (xv 0) (xo_some x_int) xo_none) xa_nil))) (blkOk_by (own := [("tick", 1), ("later", 2)]) (N := names_P_is_rides) (sc := defScope s_P_is_rides) (by decide +kernel)) (fun _ _ _ _ _ => (xg_tupK (K := K) rfl (xgs_cons (xg_name (i := 1) sc_P_is_rides.nd rfl (Or.inl rfl)) (xgs_cons (xg_name (i := 2) sc_P_is_rides.nd rfl (Or.inl rfl)) xgs_nil)))) (fun _ _ _ _ _ => xts_nil) (fun _ _ _ _ _ => (x_cmp o_lt (xv 1) (xv 2)))) xa_nil))))))⟩
theorem c_P_check_rule (T : Top K mg) : Cal P w K mg base CX0 "check_rule" 3 ["value"] dsp_P_check_rule := by
  have c_P_is_rule := c_P_is_rule (P := P) (w := w) (base := base) T
  refine cal_of (N := names_P_check_rule) (dd := d_P_check_rule) T.f_P_check_rule sc_P_check_rule l_P_check_rule (fun _ _ _ _ _ _ us hl => match us, hl with | [_], _ => rfl) (fun f cdv A outer s H E hr => ?_) r_P_check_rule
  have hu := hr.units
  exact ⟨_, (xss_one (xs_if (xt_not (xt_val (x_callC c_P_is_rule hr (by decide) (by rfl) pass0 (xa_cons (xv 0) xa_nil)))) (xss_one xs_never) xss_nil))⟩
theorem c_P_check_rides (T : Top K mg) : Cal P w K mg base CX0 "check_rides" 3 ["value"] dsp_P_check_rides := by
  have c_P_is_rides := c_P_is_rides (P := P) (w := w) (base := base) T
  refine cal_of (N := names_P_check_rides) (dd := d_P_check_rides) T.f_P_check_rides sc_P_check_rides l_P_check_rides (fun _ _ _ _ _ _ us hl => match us, hl with | [_], _ => rfl) (fun f cdv A outer s H E hr => ?_) r_P_check_rides
  have hu := hr.units
  exact ⟨_, (xss_one (xs_if (xt_not (xt_val (x_callC c_P_is_rides hr (by decide) (by rfl) pass0 (xa_cons (xv 0) xa_nil)))) (xss_one xs_never) xss_nil))⟩
theorem c_P_bought_of (T : Top K mg) : Cal P w K mg base CX0 "bought_of" 1 ["length", "rides"] dsp_P_bought_of := by
  refine cal_of (N := names_P_bought_of) (dd := d_P_bought_of) T.f_P_bought_of sc_P_bought_of l_P_bought_of (fun _ _ _ _ _ _ us hl => match us, hl with | [_, _], _ => rfl) (fun f cdv A outer s H E hr => ?_) r_P_bought_of
  have hu := hr.units
  exact ⟨_, (xss_cons (xs_set true (i := 2) sc_P_bought_of.nd rfl (Or.inl rfl) (x_lst xa_nil))
    (xss_cons (xs_for PassesOwn.never rfl (xi_seq (xv 1)) (xg_name (i := 3) sc_P_bought_of.nd rfl (Or.inl rfl)) (xss_one (xs_if (XW.xt (xw_or (xt_cmp (o_eqK hu (K := K)) (xv 2) (x_lst xa_nil)) (xw_or1 (xt_cmp o_ge (xv 3) (x_op (o_addK (K := K)) (x_ix (o_ixK (K := K)) (xv 2) (x_neg x_int)) (xv 0)))))) (xss_one (xs_app (xv 3) (pv 2))) xss_nil)))
    (xss_one (xs_ret (xv 2)))))⟩
theorem c_P_money (T : Top K mg) : Cal P w K mg base CX0 "money" 1 ["rule", "count"] dsp_P_money := by
  refine cal_of (N := names_P_money) (dd := d_P_money) T.f_P_money sc_P_money l_P_money (fun _ _ _ _ _ _ us hl => match us, hl with | [_, _], _ => rfl) (fun f cdv A outer s H E hr => ?_) r_P_money
  have hu := hr.units
  exact ⟨_, (xss_cons (xs_asg (xv 0) (xg_tupK (K := K) rfl (xgs_cons (xg_name (i := 2) sc_P_money.nd rfl (Or.inl rfl)) (xgs_cons (xg_name (i := 3) sc_P_money.nd rfl (Or.inl rfl)) (xgs_cons (xg_name (i := 4) sc_P_money.nd rfl (Or.inl rfl)) xgs_nil)))))
    (xss_one (xs_ret (x_if (xt_cmp o_is (xv 4) x_non) (x_op o_mul (xv 1) (xv 2)) (x_callB (c_min2 rfl) (by rfl) T.n_min PyProof.Rows.boot_min (xa_cons (x_op o_mul (xv 1) (xv 2)) (xa_cons (xv 4) xa_nil)))))))⟩
theorem x_Card (T : Top K mg) {C : Addr} (TC : CardT K mg C) : CalC P w K mg base CX0 "Card" 4 C dsp_P_check_rule := by
  obtain ⟨fi, fdi, M, F⟩ := TC.i
  obtain ⟨f1, fd1, F1, hm1, hk1, hb1⟩ := c_P_check_rule (P := P) (w := w) (base := base) T
  refine ⟨fi, fdi, ["self", "rule"], M, (fd0_of F).ok (CX := CX0) sc_M_init (fun vs H Q E h => ?_) (fun cdv A outer s H vs Q E hr h => ?_), F.binds (fun _ _ _ _ _ _ us hl => match us, hl with | [_, _], _ => rfl), TC.g⟩
  · obtain ⟨a, dx, v, Z, N, r, Cc, Er, rfl, _⟩ := h
    rfl
  obtain ⟨a, dx, v, Z, N, r, Cc, Er, rfl, ha, hz, hv, hd, hq, hE⟩ := h
  refine ⟨_, pss_cons (ps_expr (pe_call F1 (hr.mono (by decide)) (by rfl) hm1 hk1 hb1 .nil (E := E) pass0 (pa_cons (pv 1) pa_nil)))
    (pss_cons (ps_fld (pv 0) (pv 1) (by rfl)) (pss_one (ps_fld (pv 0) (pe_lst (pa_cons (pe_tup (pa_cons pe_int (pa_cons pe_int (pa_cons (pe_un un_neg pe_int) (pa_cons pe_non (pa_cons pe_int pa_nil)))))) pa_nil)) (by rfl)))), ?_⟩
  have hz5 : (5 : Nat) ≤ sizeLine := by decide
  have hz1 : (1 : Nat) ≤ sizeLine := by decide
  refine ⟨v, rfl, Z, N, [r], Cc, Er, hz, .cons hv .nil, hd, fun s v' H1 k e1 rs hc => ?_, fun cls H' k e w => hE cls H' k e w⟩
  have h1 : H1 a = some (.ins C dx []) := e1.kept ha (fun φ z => by cases z)
  refine ⟨v, rfl, .ref a, rfl, a, C, dx, [], rfl, h1, TC.f.c, TC.f.n1, by decide, ?_⟩
  refine ⟨1, rfl, hz5, fun t ht => ?_⟩
  have nt := upd_diff ht
  refine ⟨hz1, fun l hl => ?_⟩
  have nlt := upd_diff hl
  have hl2 : upd H1 a (.ins C dx (putF "rule" v [])) l = none := by rw [upd_ne (Ne.symm nlt)] at hl; exact hl
  have nl := upd_diff hl2
  have ht1 : H1 t = none := by rw [upd_ne (Ne.symm nt)] at ht; exact ht
  have hl1 : H1 l = none := by rw [upd_ne (Ne.symm nl)] at hl2; exact hl2
  refine ⟨.ref a, rfl, a, C, dx, putF "rule" v [], rfl, ?_, TC.f.c, TC.f.n2, by show 1 < 1000; decide, ?_⟩
  · rw [upd_ne nl, upd_ne nt, upd_same]
  · exact hq s H1 k t l e1 hc ht1 hl1 (Ne.symm nlt)
theorem x_M_undo (T : Top K mg) {C : Addr} (TC : CardT K mg C) : CalM0 P w K mg base (L2N.CX P w) C "undo" 1 ["self"] (dspE_M_undo (cnOf mg)) := by
  obtain ⟨f0, fd0, hM, F⟩ := TC.m_undo
  refine ⟨f0, fd0, hM, fnE_of (N := names_M_undo) (ps := ["self"]) (dd := dE_M_undo (cnOf mg)) (fd0_of F) sc_M_undo lE_M_undo (fun f cdv A outer s H E Er hr => ?_) (rE_M_undo (cnOf mg)), F.binds (fun _ _ _ _ _ _ us hl => match us, hl with | [_], _ => rfl)⟩
  have hu := hr.units
  exact ⟨_, (xss_cons (xs_if (xt_cmp (o_eqK hu (K := K)) (x_stN TC.f (by rfl) T.n_len (xv 0)) x_int) (xss_one (xs_raise_in (exc_of T.er (by decide)) rfl (L2N.takes_of rfl rfl rfl rfl) (by rfl))) xss_nil)
    (xss_one (xs_expr (x_stP TC.f (xv 0)))))⟩
theorem x_M_tickets (T : Top K mg) {C : Addr} (TC : CardT K mg C) : CalPr P w K mg base (L2N.CX P w) C "tickets" 1 (dspE_M_tickets (cnOf mg)) := by
  obtain ⟨p0, f0, fd0, hM, F⟩ := TC.m_tickets
  refine ⟨p0, f0, fd0, hM, fnE_of (N := names_M_tickets) (ps := ["self"]) (dd := dE_M_tickets (cnOf mg)) (fd0_of F) sc_M_tickets lE_M_tickets (fun f cdv A outer s H E Er hr => ?_) (rE_M_tickets (cnOf mg)), F.binds (fun _ _ _ _ _ _ us hl => match us, hl with | [_], _ => rfl)⟩
  have hu := hr.units
  exact ⟨_, (xss_one (xs_ret (x_ix (o_ixK (K := K)) (x_stL TC.f (xv 0)) x_int)))⟩
theorem x_M_until (T : Top K mg) {C : Addr} (TC : CardT K mg C) : CalPr P w K mg base (L2N.CX P w) C "until" 1 (dspE_M_until (cnOf mg)) := by
  obtain ⟨p0, f0, fd0, hM, F⟩ := TC.m_until
  refine ⟨p0, f0, fd0, hM, fnE_of (N := names_M_until) (ps := ["self"]) (dd := dE_M_until (cnOf mg)) (fd0_of F) sc_M_until lE_M_until (fun f cdv A outer s H E Er hr => ?_) (rE_M_until (cnOf mg)), F.binds (fun _ _ _ _ _ _ us hl => match us, hl with | [_], _ => rfl)⟩
  have hu := hr.units
  exact ⟨_, (xss_cons (xs_set false (i := 1) sc_M_until.nd rfl (Or.inl rfl) (x_ix (o_ixK (K := K)) (x_stL TC.f (xv 0)) x_int))
    (xss_one (xs_ret (x_if (xt_cmp o_is (xv 1) x_non) x_non (x_op (o_addK (K := K)) (xv 1) (x_ix (o_ixK (K := K)) (x_fldR TC.f (xv 0)) x_int))))))⟩
theorem x_M_days (T : Top K mg) {C : Addr} (TC : CardT K mg C) : CalPr P w K mg base (L2N.CX P w) C "days" 1 (dspE_M_days (cnOf mg)) := by
  obtain ⟨p0, f0, fd0, hM, F⟩ := TC.m_days
  refine ⟨p0, f0, fd0, hM, fnE_of (N := names_M_days) (ps := ["self"]) (dd := dE_M_days (cnOf mg)) (fd0_of F) sc_M_days lE_M_days (fun f cdv A outer s H E Er hr => ?_) (rE_M_days (cnOf mg)), F.binds (fun _ _ _ _ _ _ us hl => match us, hl with | [_], _ => rfl)⟩
  have hu := hr.units
  exact ⟨_, (xss_one (xs_ret (x_ix (o_ixK (K := K)) (x_stL TC.f (xv 0)) x_int)))⟩
theorem x_M_eq (T : Top K mg) {C : Addr} (TC : CardT K mg C) : CalIn P w K mg base C "__eq__" 1 ["self", "other"] (dspE_M_eq (cnOf mg)) := by
  obtain ⟨f0, fd0, hM, hF, F⟩ := TC.m_eq
  refine ⟨f0, fd0, hM, hF, fnE_of (N := names_M_eq) (ps := ["self", "other"]) (dd := dE_M_eq (cnOf mg)) (fd0_of F) sc_M_eq lE_M_eq (fun f cdv A outer s H E Er hr => ?_) (rE_M_eq (cnOf mg)), F.binds (fun _ _ _ _ _ _ us hl => match us, hl with | [_, _], _ => rfl)⟩
  have hu := hr.units
  exact ⟨_, (xss_one (xs_ret (x_and (x_isC TC.f TC.ic (by rfl) T.n_isinstance (by rfl) TC.g (xv 1)) (x_and (x_cmp (o_eqK hu (K := K)) (x_fldR TC.f (xv 0)) (x_fldR TC.f (xv 1))) (x_one (x_cmp (o_eqK hu (K := K)) (x_stL TC.f (xv 0)) (x_stL TC.f (xv 1))))))))⟩
theorem x_M_ride (T : Top K mg) {C : Addr} (TC : CardT K mg C) : CalMR P w K mg base (L2N.CX P w) C "ride" 2 (dspE_M_ride (cnOf mg)) := by
  have c_P_money := c_P_money (P := P) (w := w) (base := base) T
  have c_P_in_range := c_P_in_range (P := P) (w := w) (base := base) T
  obtain ⟨f0, fd0, hM, F⟩ := TC.m_ride
  refine ⟨f0, hM, fnRE_of (N := names_M_ride) (ps := ["self"]) (pv := "ticks") (dd := dE_M_ride (cnOf mg)) F sc_M_ride (fun _ _ _ _ _ _ us rest hl => match us, hl with | [_], _ => by cases rest <;> rfl) (fun f cdv A outer s H E Er hr => ?_) (rE_M_ride (cnOf mg))⟩
  have hu := hr.units
  exact ⟨_, (xss_cons (xs_asg (x_stL TC.f (xv 0)) (xg_tupK (K := K) rfl (xgs_cons (xg_name (i := 2) sc_M_ride.nd rfl (Or.inl rfl)) (xgs_cons (xg_name (i := 3) sc_M_ride.nd rfl (Or.inl rfl)) (xgs_cons (xg_name (i := 4) sc_M_ride.nd rfl (Or.inl rfl)) (xgs_cons (xg_name (i := 5) sc_M_ride.nd rfl (Or.inl rfl)) (xgs_cons (xg_name (i := 6) sc_M_ride.nd rfl (Or.inl rfl)) xgs_nil)))))))
    (xss_cons (xs_set false (i := 7) sc_M_ride.nd rfl (Or.inl rfl) (x_callC c_P_money hr (by decide) (by rfl) pass00 (xa_cons (x_fldR TC.f (xv 0)) (xa_cons (xv 6) xa_nil))))
    (xss_cons (xs_for (passes_of rfl) rfl (xi_seq (xv 1)) (xg_name (i := 8) sc_M_ride.nd rfl (Or.inl rfl)) (xss_cons (xs_if (xt_not (xt_val (x_callC c_P_in_range hr (by decide) (by rfl) pass00 (xa_cons (xv 8) (xa_cons (x_op (o_addK (K := K)) (xv 4) x_int) (xa_cons (x_op o_sub (x_fldD TC.f (xv 0)) x_int) xa_nil)))))) (xss_one (xs_raise_in (exc_of T.er (by decide)) rfl (L2N.takes_of rfl rfl rfl rfl) (by rfl))) xss_nil)
    (xss_cons (xs_set false (i := 4) sc_M_ride.nd rfl (Or.inl rfl) (xv 8))
    (xss_one (xs_if (XW.xt (xw_or (xt_cmp o_is (xv 5) x_non) (xw_or1 (xt_cmp o_ge (xv 8) (x_op (o_addK (K := K)) (xv 5) (x_ix (o_ixK (K := K)) (x_fldR TC.f (xv 0)) x_int)))))) (xss_one (xs_par (i := 5) (j := 6) rfl sc_M_ride.nd rfl rfl (by decide) rfl rfl (xa_cons (xv 8) (xa_cons (x_op (o_addK (K := K)) (xv 6) x_int) xa_nil)) (by rfl))) xss_nil)))))
    (xss_cons (xs_expr (x_stA TC.f (xv 0) (x_tup (xa_cons (xv 2) (xa_cons (xv 3) (xa_cons (xv 4) (xa_cons (xv 5) (xa_cons (xv 6) xa_nil))))))))
    (xss_one (xs_ret (x_op o_sub (x_callC c_P_money hr (by decide) (by rfl) pass00 (xa_cons (x_fldR TC.f (xv 0)) (xa_cons (xv 6) xa_nil))) (xv 7))))))))⟩
theorem x_M_sleep (T : Top K mg) {C : Addr} (TC : CardT K mg C) : CalMK P w K mg base (L2N.CX P w) C "sleep" "Card.sleep" 2 s_M_sleep ["self", "days"] [("days", (V.int 1))] (dspE_M_sleep (cnOf mg)) := by
  have c_P_in_range := c_P_in_range (P := P) (w := w) (base := base) T
  have c_P_money := c_P_money (P := P) (w := w) (base := base) T
  obtain ⟨f0, fd0, hM, F⟩ := TC.m_sleep
  refine ⟨f0, fd0, hM, fnE_of (N := names_M_sleep) (ps := ["self", "days"]) (dd := dE_M_sleep (cnOf mg)) F sc_M_sleep lE_M_sleep (fun f cdv A outer s H E Er hr => ?_) (rE_M_sleep (cnOf mg)), F⟩
  have hu := hr.units
  exact ⟨_, (xss_cons (xs_if (xt_not (xt_val (x_callC c_P_in_range hr (by decide) (by rfl) pass00 (xa_cons (xv 1) (xa_cons x_int (xa_cons (x_op o_pow x_int x_int) xa_nil)))))) (xss_one (xs_raise_in (exc_of T.er (by decide)) rfl (L2N.takes_of rfl rfl rfl rfl) (by rfl))) xss_nil)
    (xss_cons (xs_asg (x_stL TC.f (xv 0)) (xg_tupK (K := K) rfl (xgs_cons (xg_name (i := 2) sc_M_sleep.nd rfl (Or.inl rfl)) (xgs_cons (xg_name (i := 3) sc_M_sleep.nd rfl (Or.inl rfl)) (xgs_cons (xg_name (i := 4) sc_M_sleep.nd rfl (Or.inl rfl)) (xgs_cons (xg_name (i := 5) sc_M_sleep.nd rfl (Or.inl rfl)) (xgs_cons (xg_name (i := 6) sc_M_sleep.nd rfl (Or.inl rfl)) xgs_nil)))))))
    (xss_cons (xs_set false (i := 3) sc_M_sleep.nd rfl (Or.inl rfl) (x_op (o_addK (K := K)) (xv 3) (x_callC c_P_money hr (by decide) (by rfl) pass00 (xa_cons (x_fldR TC.f (xv 0)) (xa_cons (xv 6) xa_nil)))))
    (xss_cons (xs_expr (x_stA TC.f (xv 0) (x_tup (xa_cons (x_op (o_addK (K := K)) (xv 2) (xv 1)) (xa_cons (xv 3) (xa_cons (x_neg x_int) (xa_cons x_non (xa_cons x_int xa_nil))))))))
    (xss_one (xs_ret (xv 3)))))))⟩
theorem x_M_paid (T : Top K mg) {C : Addr} (TC : CardT K mg C) : CalPr P w K mg base (L2N.CX P w) C "paid" 2 (dspE_M_paid (cnOf mg)) := by
  have c_P_money := c_P_money (P := P) (w := w) (base := base) T
  obtain ⟨p0, f0, fd0, hM, F⟩ := TC.m_paid
  refine ⟨p0, f0, fd0, hM, fnE_of (N := names_M_paid) (ps := ["self"]) (dd := dE_M_paid (cnOf mg)) (fd0_of F) sc_M_paid lE_M_paid (fun f cdv A outer s H E Er hr => ?_) (rE_M_paid (cnOf mg)), F.binds (fun _ _ _ _ _ _ us hl => match us, hl with | [_], _ => rfl)⟩
  have hu := hr.units
  exact ⟨_, (xss_one (xs_ret (x_op (o_addK (K := K)) (x_ix (o_ixK (K := K)) (x_stL TC.f (xv 0)) x_int) (x_callC c_P_money hr (by decide) (by rfl) pass00 (xa_cons (x_fldR TC.f (xv 0)) (xa_cons (x_ix (o_ixK (K := K)) (x_stL TC.f (xv 0)) x_int) xa_nil))))))⟩
theorem x_M_today (T : Top K mg) {C : Addr} (TC : CardT K mg C) : CalPr P w K mg base (L2N.CX P w) C "today" 2 (dspE_M_today (cnOf mg)) := by
  have c_P_money := c_P_money (P := P) (w := w) (base := base) T
  obtain ⟨p0, f0, fd0, hM, F⟩ := TC.m_today
  refine ⟨p0, f0, fd0, hM, fnE_of (N := names_M_today) (ps := ["self"]) (dd := dE_M_today (cnOf mg)) (fd0_of F) sc_M_today lE_M_today (fun f cdv A outer s H E Er hr => ?_) (rE_M_today (cnOf mg)), F.binds (fun _ _ _ _ _ _ us hl => match us, hl with | [_], _ => rfl)⟩
  have hu := hr.units
  exact ⟨_, (xss_one (xs_ret (x_callC c_P_money hr (by decide) (by rfl) pass00 (xa_cons (x_fldR TC.f (xv 0)) (xa_cons (x_ix (o_ixK (K := K)) (x_stL TC.f (xv 0)) x_int) xa_nil)))))⟩
theorem x_M_contains (T : Top K mg) {C : Addr} (TC : CardT K mg C) : CalIn P w K mg base C "__contains__" 2 ["self", "tick"] (dspE_M_contains (cnOf mg)) := by
  have c_P_in_range := c_P_in_range (P := P) (w := w) (base := base) T
  obtain ⟨f0, fd0, hM, hF, F⟩ := TC.m_contains
  refine ⟨f0, fd0, hM, hF, fnE_of (N := names_M_contains) (ps := ["self", "tick"]) (dd := dE_M_contains (cnOf mg)) (fd0_of F) sc_M_contains lE_M_contains (fun f cdv A outer s H E Er hr => ?_) (rE_M_contains (cnOf mg)), F.binds (fun _ _ _ _ _ _ us hl => match us, hl with | [_, _], _ => rfl)⟩
  have hu := hr.units
  exact ⟨_, (xss_cons (xs_set false (i := 2) sc_M_contains.nd rfl (Or.inl rfl) (x_ix (o_ixK (K := K)) (x_stL TC.f (xv 0)) x_int))
    (xss_one (xs_ret (x_and (x_cmp o_isnot (xv 2) x_non) (x_one (x_callC c_P_in_range hr (by decide) (by rfl) pass00 (xa_cons (xv 1) (xa_cons (xv 2) (xa_cons (x_op o_sub (x_callB (c_min2 rfl) (by rfl) T.n_min PyProof.Rows.boot_min (xa_cons (x_fldD TC.f (xv 0)) (xa_cons (x_op (o_addK (K := K)) (xv 2) (x_ix (o_ixK (K := K)) (x_fldR TC.f (xv 0)) x_int)) xa_nil))) x_int) xa_nil)))))))))⟩
theorem x_M_single (T : Top K mg) {C : Addr} (TC : CardT K mg C) : CalCM P w K mg base (L2N.CX P w) C "single" 6 (dspE_M_single (cnOf mg)) := by
  have x_Card := x_Card (P := P) (w := w) (base := base) T TC
  obtain ⟨mc, p, f0, fd0, hR, hM, F⟩ := TC.m_single
  refine ⟨mc, p, f0, hR, hM, FnR.imp (FnOk.raw (fnE_of (N := names_M_single) (ps := ["cls", "price"]) (dd := dE_M_single (cnOf mg)) (fd0_of F) sc_M_single lE_M_single (fun f cdv A outer s H E Er hr => ?_) (rE_M_single (cnOf mg))) (F.binds (fun _ _ _ _ _ _ us hl => match us, hl with | [_, _], _ => rfl)) .nil) (fun vs H Q E h => by rw [List.append_nil]; exact h)⟩
  have hu := hr.units
  exact ⟨_, (xss_one (xs_ret (x_newV (i := 0) TC.f x_Card hr (by decide) pass00 rfl (.inl rfl) (xa_cons (x_tup (xa_cons (xv 1) (xa_cons x_int (xa_cons x_non xa_nil)))) xa_nil))))⟩
theorem c_P_cost_of (T : Top K mg) : Cal P w K mg base CX0 "cost_of" 2 ["rule", "rides"] dsp_P_cost_of := by
  have c_P_bought_of := c_P_bought_of (P := P) (w := w) (base := base) T
  have c_P_money := c_P_money (P := P) (w := w) (base := base) T
  refine cal_of (N := names_P_cost_of) (dd := d_P_cost_of) T.f_P_cost_of sc_P_cost_of l_P_cost_of (fun _ _ _ _ _ _ us hl => match us, hl with | [_, _], _ => rfl) (fun f cdv A outer s H E hr => ?_) r_P_cost_of
  have hu := hr.units
  exact ⟨_, (xss_one (xs_ret (x_callC c_P_money hr (by decide) (by rfl) pass0 (xa_cons (xv 0) (xa_cons (x_callB (c_lenK (K := K)) (by rfl) T.n_len PySem.boot_len (xa_cons (x_callC c_P_bought_of hr (by decide) (by rfl) pass0 (xa_cons (x_ix (o_ixK (K := K)) (xv 0) x_int) (xa_cons (xv 1) xa_nil))) xa_nil)) xa_nil)))))⟩
theorem c_P_cost (T : Top K mg) : Cal P w K mg base CX0 "cost" 4 ["rule", "rides"] dsp_P_cost := by
  have c_P_check_rule := c_P_check_rule (P := P) (w := w) (base := base) T
  have c_P_check_rides := c_P_check_rides (P := P) (w := w) (base := base) T
  have c_P_cost_of := c_P_cost_of (P := P) (w := w) (base := base) T
  refine cal_of (N := names_P_cost) (dd := d_P_cost) T.f_P_cost sc_P_cost l_P_cost (fun _ _ _ _ _ _ us hl => match us, hl with | [_, _], _ => rfl) (fun f cdv A outer s H E hr => ?_) r_P_cost
  have hu := hr.units
  exact ⟨_, (xss_cons (xs_expr (x_callC c_P_check_rule hr (by decide) (by rfl) pass0 (xa_cons (xv 0) xa_nil)))
    (xss_cons (xs_expr (x_callC c_P_check_rides hr (by decide) (by rfl) pass0 (xa_cons (xv 1) xa_nil)))
    (xss_one (xs_ret (x_callC c_P_cost_of hr (by decide) (by rfl) pass0 (xa_cons (xv 0) (xa_cons (xv 1) xa_nil)))))))⟩
theorem c_L_well (T : Top K mg) : Cal P w K mg base CX0 "_law_well" 1 ["_law_cell", "_law_turn"] dsp_L_well := by
  refine cal_of (N := names_L_well) (dd := d_L_well) T.f_L_well sc_L_well l_L_well (fun _ _ _ _ _ _ us hl => match us, hl with | [_, _], _ => rfl) (fun f cdv A outer s H E hr => ?_) r_L_well
  have hu := hr.units
  exact ⟨_, (xss_cons (xs_if (xt_cmp o_ge (xv 0) (x_op o_pow x_int x_int)) (xss_one (xs_ret (x_bag (x_lst (xa_cons (x_op o_sub (xv 0) (x_op o_pow x_int x_int)) (xa_cons (x_op o_mod (xv 0) x_int) (xa_cons (xv 1) xa_nil))))))) xss_nil)
    (xss_one (xs_ret (x_bag (x_lst (xa_cons x_int (xa_cons (x_op o_mod (xv 0) x_int) (xa_cons (xv 1) xa_nil))))))))⟩
theorem c_L_take (T : Top K mg) : Cal P w K mg base CX0 "_law_take" 1 ["_law_bag", "_law_many"] dsp_L_take := by
  obtain ⟨f, fd, F, hm⟩ := T.f_L_take
  refine ⟨f, fd, F.ok sc_L_take (fun vs H Q E h => ?_) (fun cdv A outer s H vs Q E hr h => ?_), hm, F.kp, F.binds (fun _ _ _ _ _ _ us hl => match us, hl with | [_, _], _ => rfl)⟩
  · obtain ⟨Z, n, ds, C, Er, _, r, hd, _⟩ := h
    rw [r.length]
    exact l_L_take ds n C Er hd
  obtain ⟨Z, n, ds, C, Er, hz, r, ⟨m, rfl, ⟨hm0, hm1, hN⟩, hC⟩, q, _⟩ := h
  obtain ⟨b, nb, hnb, hb, rfl⟩ : ∃ b nb, nb ≤ n.n ∧ H b = some (.ext (bagAt b nb)) ∧ vs = [.ref b, .int m] := by
    cases r with
    | cons h1 r =>
      cases r with
      | cons h2 r =>
        cases r
        cases h1 with
        | bag hn hb =>
          cases h2
          exact ⟨_, _, hn, hb, rfl⟩
  have nd := sc_L_take.nd
  refine ⟨_, pss_see
    (pss_cons (ps_if (pt_cmpR op_gt (pe_ix ix_list (pv 0) pe_int (fun _ _ => rfl)) pe_int (nomark _))
        (pss_cons (ps_set (i := 2) nd rfl (.inl rfl) (pe_op op_mod (pe_ix ix_list (pv 0) pe_int (fun _ _ => rfl)) (pv 1)))
        (pss_cons (ps_asg (pe_op op_fdiv (pe_ix ix_list (pv 0) pe_int (fun _ _ => rfl)) (pv 1)) (pg_sub (pv 0) pe_int set_list))
        (pss_one (ps_ret (pe_hide (pv 2)))))) pss_nil)
    (pss_cons (ps_asg (pe_op op_add (pe_ix ix_list (pv 0) pe_int (fun _ _ => rfl)) pe_int) (pg_sub (pv 0) pe_int set_list))
    (pss_cons (ps_set (i := 3) nd rfl (.inl rfl) pe_int)
    (pss_cons (ps_set (i := 4) nd rfl (.inl rfl) (pe_op op_mod (pe_op op_add (pe_ix ix_list (pv 0) pe_int (fun _ _ => rfl)) (pe_op op_mul pe_int (pe_ix ix_list (pv 0) pe_int (fun _ _ => rfl)))) (pv 3)))
    (pss_cons (ps_set (i := 4) nd rfl (.inl rfl) (pe_op op_mod (pe_op op_add (pe_op op_add (pe_op op_mul (pv 4) (pv 4)) (pe_op op_mul pe_int (pe_op op_pow (pe_ix ix_list (pv 0) pe_int (fun _ _ => rfl)) pe_int))) pe_int) (pv 3)))
    (pss_one (ps_ret (pe_hide (pe_op op_mod (pe_op op_fdiv (pe_op op_mod (pe_op op_pow (pv 4) pe_int) (pv 3)) pe_int) (pv 1)))))))))), ?_⟩
  refine ⟨b, nb, hb, fun i j c hi hj hc hall => ?_⟩
  have ix0 : ∀ {x y z : Int}, atI [V.int x, V.int y, V.int z] 0 = some (V.int x) := rfl
  have ix1 : ∀ {x y z : Int}, atI [V.int x, V.int y, V.int z] 1 = some (V.int y) := rfl
  have ix2 : ∀ {x y z : Int}, atI [V.int x, V.int y, V.int z] 2 = some (V.int z) := rfl
  -- what is left behind: the bag with its count
  have fin : ∀ (v : Int) (xs : List V) (c' : Nat), 0 ≤ v → v < m → (∀ k : Nat, HO.ext (bagAt b nb) = HO.ext (bagAt b k) → c' ≤ k + 1) → Q (.int v) (upd (upd H b (.lst xs)) b (.ext (bagAt b c'))) := fun v xs c' h0 h1 hk => by
    rw [upd_upd]
    have ex : ExK 1 H (upd H b (.ext (bagAt b c'))) := ⟨fun a o ha => by
      by_cases e : a = b
      · subst e
        rw [hb] at ha
        cases ha
        exact .inr (.inl ⟨⟨nb, rfl⟩, fun k ek => ⟨c', hk k ek, upd_same⟩⟩)
      · exact .inl (by rw [upd_ne e]; exact ha), fun _ t => tab_bag hb t, fun l c r => r.upd hb (fun ts z => bag_card z) fun _ z => by cases z⟩
    exact q (.dat (.int v)) _ _ 1 ex (Dt.v _) (hC v h0 h1)
  have hcn : c ≤ nb := hall nb rfl
  refine ⟨.ref b, rfl, b, _, 0, _, rfl, rfl, .of upd_same, ix0, i, 0, rfl, rfl, _, rfl, ite2 (fun hpos => ?_) fun hneg => ?_⟩
  · refine ⟨.ref b, rfl, b, _, 0, _, rfl, rfl, .of upd_same, ix0, .int m, rfl, i, m, rfl, rfl, hm0, ?_⟩
    refine ⟨.ref b, rfl, b, _, 0, _, rfl, rfl, .of upd_same, ix0, .int m, rfl, i, m, rfl, rfl, ⟨hm0, hm1⟩, ?_⟩
    refine ⟨.ref b, rfl, b, _, 0, 0, rfl, rfl, upd_same, rfl, ?_⟩
    refine ⟨.int (i % m), rfl, b, i / m, j, c, c.toNat, upd_same, Int.ediv_nonneg hi (by omega), hj, hc, by omega, ?_⟩
    rw [upd_upd]
    refine fin (i % m) _ c.toNat (Int.emod_nonneg _ (by omega)) (Int.emod_lt_of_pos _ hm0) (fun k ek => ?_)
    have := hall k ek
    omega
  · refine ⟨.ref b, rfl, b, _, 2, _, rfl, rfl, .of upd_same, ix2, c, 1, rfl, rfl, ?_⟩
    refine ⟨.ref b, rfl, b, _, 2, 2, rfl, rfl, upd_same, rfl, ?_⟩
    refine ⟨.ref b, rfl, b, _, 1, _, rfl, rfl, .of upd_same, ix1, .ref b, rfl, b, _, 2, _, rfl, rfl, .of upd_same, ix2, 1000003, c + 1, rfl, rfl, .inl (by decide), j, 1000003 * (c + 1), rfl, rfl, .int 2305843009213693951, rfl, _, _, rfl, rfl, show (0 : Int) < 2305843009213693951 by decide, ?_⟩
    simp only []
    generalize hn1 : (j + 1000003 * (c + 1)) % 2305843009213693951 = n1
    have n10 : 0 ≤ n1 := by rw [← hn1]; exact Int.emod_nonneg _ (by decide)
    have n11 : n1 < 2305843009213693951 := by rw [← hn1]; exact Int.emod_lt_of_pos _ (by decide)
    have hlim : LIM = 1152921504606846976 := rfl
    refine ⟨.int n1, rfl, .int n1, rfl, n1, n1, rfl, rfl, .inl ⟨by omega, by omega⟩, .ref b, rfl, b, _, 2, _, rfl, rfl, .of upd_same, ix2, c + 1, 2, rfl, rfl, ⟨by decide, by decide, by omega⟩, 7919, (c + 1) ^ (2 : Int).toNat, rfl, rfl, .inl (by decide), n1 * n1, 7919 * (c + 1) ^ (2 : Int).toNat, rfl, rfl, _, 5, rfl, rfl, .int 2305843009213693951, rfl, _, _, rfl, rfl, show (0 : Int) < 2305843009213693951 by decide, ?_⟩
    simp only []
    generalize hn2 : (n1 * n1 + 7919 * (c + 1) ^ (2 : Int).toNat + 5) % 2305843009213693951 = n2
    have n20 : 0 ≤ n2 := by rw [← hn2]; exact Int.emod_nonneg _ (by decide)
    have n21 : n2 < 2305843009213693951 := by rw [← hn2]; exact Int.emod_lt_of_pos _ (by decide)
    refine ⟨.int n2, rfl, n2, 3, rfl, rfl, ⟨by decide, by decide, by omega⟩, .int 2305843009213693951, rfl, _, _, rfl, rfl, show (0 : Int) < 2305843009213693951 by decide, _, 13, rfl, rfl, ⟨by decide, by decide⟩, .int m, rfl, _, m, rfl, rfl, hm0, ?_⟩
    refine ⟨b, i, j, c + 1, c.toNat + 1, upd_same, hi, hj, by omega, by omega, ?_⟩
    rw [upd_upd]
    refine fin _ _ (c.toNat + 1) (Int.emod_nonneg _ (by omega)) (Int.emod_lt_of_pos _ hm0) (fun k ek => ?_)
    have := hall k ek
    omega
theorem c_L_bags (T : Top K mg) : Cal P w K mg base CX0 "_law_bags" 2 ["_law_script", "_law_most"] dsp_L_bags := by
  have c_L_well := c_L_well (P := P) (w := w) (base := base) T
  refine cal_of (N := names_L_bags) (dd := d_L_bags) T.f_L_bags sc_L_bags l_L_bags (fun _ _ _ _ _ _ us hl => match us, hl with | [_, _], _ => rfl) (fun f cdv A outer s H E hr => ?_) r_L_bags
  have hu := hr.units
  exact ⟨_, (xss_one (xs_ret (x_lc (own := [("_law_k", 2), ("_law_cell", 3)]) rfl sc_L_bags.nd (xi_enum (by rfl) T.n_enumerate (xa_cons (x_op (o_addK (K := K)) (x_slice (xv 0) xo_none (xo_some (xv 1))) (x_lst (xa_cons x_int xa_nil))) xa_nil)) (blkOk_by (own := [("_law_k", 2), ("_law_cell", 3)]) (N := names_L_bags) (sc := defScope s_L_bags) (by decide +kernel)) (fun _ _ _ _ _ => (xg_tupK (K := K) rfl (xgs_cons (xg_name (i := 2) sc_L_bags.nd rfl (Or.inl rfl)) (xgs_cons (xg_name (i := 3) sc_L_bags.nd rfl (Or.inl rfl)) xgs_nil)))) (fun _ _ _ _ _ => xts_nil) (fun _ _ _ _ _ => (x_callC c_L_well hr (by decide) (by rfl) pass0 (xa_cons (xv 3) (xa_cons (x_op o_mul x_int (xv 2)) xa_nil)))))))⟩
theorem cr_L_same (T : Top K mg) : ∀ m : Nat, Cal P w K mg base CX0 "_law_same" m ["_law_a", "_law_b"] (dspR_L_same m)
  | 0 => cal_false T.f_L_same (fun _ _ _ _ _ _ us hl => match us, hl with | [_, _], _ => rfl)
  | m + 1 => by
    have c_self := cr_L_same T m
    refine cal_of (N := names_L_same) (dd := d_L_same (dspR_L_same m)) T.f_L_same sc_L_same (l_L_same (m + 1)) (fun _ _ _ _ _ _ us hl => match us, hl with | [_, _], _ => rfl) (fun f cdv A outer s H E hr => ?_) (r_L_same m)
    have hu := hr.units
    exact ⟨_, (xss_cons (xs_if (XW.xt (xw_or (XW.xt (xw_and (xt_val (x_isa .list (by rfl) T.n_isinstance (xv 0) (x_bltn (v := .ty "list") (by rfl) T.n_list PyProof.Rows.boot_list rfl))) (xw_and1 (xt_val (x_isa .list (by rfl) T.n_isinstance (xv 1) (x_bltn (v := .ty "list") (by rfl) T.n_list PyProof.Rows.boot_list rfl)))))) (xw_or1 (XW.xt (xw_and (xt_val (x_isa .tuple (by rfl) T.n_isinstance (xv 0) (x_bltn (v := .ty "tuple") (by rfl) T.n_tuple PyProof.Rows.boot_tuple rfl))) (xw_and1 (xt_val (x_isa .tuple (by rfl) T.n_isinstance (xv 1) (x_bltn (v := .ty "tuple") (by rfl) T.n_tuple PyProof.Rows.boot_tuple rfl))))))))) (xss_one (xs_ret (x_and (x_cmp (o_eqK hu (K := K)) (x_callB (c_lenK (K := K)) (by rfl) T.n_len PySem.boot_len (xa_cons (xv 0) xa_nil)) (x_callB (c_lenK (K := K)) (by rfl) T.n_len PySem.boot_len (xa_cons (xv 1) xa_nil))) (x_one (x_callB (c_allK (K := K) rfl) (by rfl) T.n_all PyProof.Rows.boot_all (xa_cons (x_lc (own := [("_law_x", 2), ("_law_y", 3)]) rfl sc_L_same.nd (xi_zip (by rfl) T.n_zip (xa_cons (xv 0) (xa_cons (xv 1) xa_nil))) (blkOk_by (own := [("_law_x", 2), ("_law_y", 3)]) (N := names_L_same) (sc := defScope s_L_same) (by decide +kernel)) (fun _ _ _ _ _ => (xg_tupK (K := K) rfl (xgs_cons (xg_name (i := 2) sc_L_same.nd rfl (Or.inl rfl)) (xgs_cons (xg_name (i := 3) sc_L_same.nd rfl (Or.inl rfl)) xgs_nil)))) (fun _ _ _ _ _ => xts_nil) (fun _ _ _ _ _ => (x_callC c_self hr (Nat.le_refl _) (by rfl) pass0 (xa_cons (xv 2) (xa_cons (xv 3) xa_nil))))) xa_nil)))))) xss_nil)
    (xss_cons (xs_if (XW.xt (xw_or (xt_val (x_isaT [.bool, .list, .tuple] (by rfl) T.n_isinstance (xv 0) (xa_cons (x_bltn (v := .ty "bool") (by rfl) T.n_bool PyProof.Rows.boot_bool rfl) (xa_cons (x_bltn (v := .ty "list") (by rfl) T.n_list PyProof.Rows.boot_list rfl) (xa_cons (x_bltn (v := .ty "tuple") (by rfl) T.n_tuple PyProof.Rows.boot_tuple rfl) xa_nil))) (by decide))) (xw_or1 (xt_val (x_isaT [.bool, .list, .tuple] (by rfl) T.n_isinstance (xv 1) (xa_cons (x_bltn (v := .ty "bool") (by rfl) T.n_bool PyProof.Rows.boot_bool rfl) (xa_cons (x_bltn (v := .ty "list") (by rfl) T.n_list PyProof.Rows.boot_list rfl) (xa_cons (x_bltn (v := .ty "tuple") (by rfl) T.n_tuple PyProof.Rows.boot_tuple rfl) xa_nil))) (by decide)))))) (xss_one (xs_ret (x_and (x_isa .bool (by rfl) T.n_isinstance (xv 0) (x_bltn (v := .ty "bool") (by rfl) T.n_bool PyProof.Rows.boot_bool rfl)) (x_and (x_isa .bool (by rfl) T.n_isinstance (xv 1) (x_bltn (v := .ty "bool") (by rfl) T.n_bool PyProof.Rows.boot_bool rfl)) (x_one (x_cmp (o_eqK hu (K := K)) (xv 0) (xv 1))))))) xss_nil)
    (xss_cons (xs_if (XW.xt (xw_or (xt_val (x_isa .int (by rfl) T.n_isinstance (xv 0) (x_bltn (v := .ty "int") (by rfl) T.n_int PyProof.Rows.boot_int rfl))) (xw_or1 (xt_val (x_isa .int (by rfl) T.n_isinstance (xv 1) (x_bltn (v := .ty "int") (by rfl) T.n_int PyProof.Rows.boot_int rfl)))))) (xss_one (xs_ret (x_and (x_isa .int (by rfl) T.n_isinstance (xv 0) (x_bltn (v := .ty "int") (by rfl) T.n_int PyProof.Rows.boot_int rfl)) (x_and (x_isa .int (by rfl) T.n_isinstance (xv 1) (x_bltn (v := .ty "int") (by rfl) T.n_int PyProof.Rows.boot_int rfl)) (x_one (x_cmp (o_eqK hu (K := K)) (xv 0) (xv 1))))))) xss_nil)
    (xss_cons (xs_if (XW.xt (xw_or (xt_val (x_isa .str (by rfl) T.n_isinstance (xv 0) (x_bltn (v := .ty "str") (by rfl) T.n_str PyProof.Rows.boot_str rfl))) (xw_or1 (xt_val (x_isa .str (by rfl) T.n_isinstance (xv 1) (x_bltn (v := .ty "str") (by rfl) T.n_str PyProof.Rows.boot_str rfl)))))) (xss_one (xs_ret (x_and (x_isa .str (by rfl) T.n_isinstance (xv 0) (x_bltn (v := .ty "str") (by rfl) T.n_str PyProof.Rows.boot_str rfl)) (x_and (x_isa .str (by rfl) T.n_isinstance (xv 1) (x_bltn (v := .ty "str") (by rfl) T.n_str PyProof.Rows.boot_str rfl)) (x_one (x_cmp (o_eqK hu (K := K)) (xv 0) (xv 1))))))) xss_nil)
    (xss_one (xs_ret (x_and (x_cmp o_is (xv 0) x_non) (x_one (x_cmp o_is (xv 1) x_non)))))))))⟩
theorem c_L_same (T : Top K mg) : Cal P w K mg base CX0 "_law_same" 4 ["_law_a", "_law_b"] dsp_L_same := cr_L_same T 4
theorem c_L_in (T : Top K mg) : Cal P w K mg base CX0 "_law_in" 1 ["_law_x", "_law_low", "_law_high"] dsp_L_in := by
  refine cal_of (N := names_L_in) (dd := d_L_in) T.f_L_in sc_L_in l_L_in (fun _ _ _ _ _ _ us hl => match us, hl with | [_, _, _], _ => rfl) (fun f cdv A outer s H E hr => ?_) r_L_in
  have hu := hr.units
  exact ⟨_, (xss_one (xs_ret (x_and (x_isa .int (by rfl) T.n_isinstance (xv 0) (x_bltn (v := .ty "int") (by rfl) T.n_int PyProof.Rows.boot_int rfl)) (x_and (x_not (x_isa .bool (by rfl) T.n_isinstance (xv 0) (x_bltn (v := .ty "bool") (by rfl) T.n_bool PyProof.Rows.boot_bool rfl))) (x_one (x_chain o_le o_le (xv 1) (xv 0) (xv 2)))))))⟩
theorem k_L_error (T : Top K mg) : ∃ f, ErrFn P w K mg base 1 f (nmvOf (cnOf mg) caught) ∧ mg "_law_error" = some (.ref f) ∧ PySem.W.keepIn K (.ref f) = true := by
  obtain ⟨f, fd, F, hm⟩ := T.f_L_error
  obtain ⟨aT, as, er⟩ := T.er
  refine ⟨f, errFn_of (N := names_L_error) F sc_L_error (fun _ _ _ _ _ _ _ => rfl) (fun cdv A outer s H Q a oe cls word hot hr hz hn hq => ?_), hm, F.kp⟩
  obtain ⟨hR, rfl⟩ := hn
  have hcn : cnOf mg word = .ref (as word) := (er.ex word hR).cn
  rw [hcn] at hz
  have hf : ∃ vs, oe.data = .fields vs := by
    obtain ⟨_, vs, hvs, _⟩ := hot
    exact ⟨vs, hvs⟩
  have hw : word ∈ errWords := caught_sub word hR
  have nd := sc_L_error.nd
  have hz6 : (6 : Nat) ≤ sizeLine := by decide
  have hz3 : (3 : Nat) ≤ sizeLine := by decide
  have ky := er.kit word hR
  refine ⟨_, pss_cons (ps_set (i := 1) nd rfl (.inl rfl) (pe_lst
      (pa_cons (pe_callB (isE_of (er.ec word hR) hz hf (by exact List.mem_singleton.mpr rfl)) (by rfl) T.n_isinstance PyProof.Rows.boot_isinstance (pa_cons (pv 0) (pa_cons (pe_glob (v := .ref (as "InvalidRule")) (by rfl) (er.gA "InvalidRule" (by decide)) rfl) pa_nil)))
      (pa_cons (pe_callB (isE_of (er.ec word hR) hz hf (by exact List.mem_singleton.mpr rfl)) (by rfl) T.n_isinstance PyProof.Rows.boot_isinstance (pa_cons (pv 0) (pa_cons (pe_glob (v := .ref (as "InvalidRides")) (by rfl) (er.gA "InvalidRides" (by decide)) rfl) pa_nil)))
      (pa_cons (pe_callB (isE_of (er.ec word hR) hz hf (by exact List.mem_singleton.mpr rfl)) (by rfl) T.n_isinstance PyProof.Rows.boot_isinstance (pa_cons (pv 0) (pa_cons (pe_glob (v := .ref (as "InvalidMenu")) (by rfl) (er.gA "InvalidMenu" (by decide)) rfl) pa_nil)))
      pa_nil)))))
    (pss_cons (ps_set (i := 1) nd rfl (.inl rfl) (pe_op op_cat (pv 1) (pe_lst
      (pa_cons (pe_callB (isE_of (er.ec word hR) hz hf (by exact List.mem_singleton.mpr rfl)) (by rfl) T.n_isinstance PyProof.Rows.boot_isinstance (pa_cons (pv 0) (pa_cons (pe_glob (v := .ref (as "InvalidNumber")) (by rfl) (er.gA "InvalidNumber" (by decide)) rfl) pa_nil)))
      (pa_cons (pe_callB (isE_of (er.ec word hR) hz hf (by exact List.mem_singleton.mpr rfl)) (by rfl) T.n_isinstance PyProof.Rows.boot_isinstance (pa_cons (pv 0) (pa_cons (pe_glob (v := .ref (as "InvalidTick")) (by rfl) (er.gA "InvalidTick" (by decide)) rfl) pa_nil)))
      (pa_cons (pe_callB (isE_of (er.ec word hR) hz hf (by exact List.mem_singleton.mpr rfl)) (by rfl) T.n_isinstance PyProof.Rows.boot_isinstance (pa_cons (pv 0) (pa_cons (pe_glob (v := .ref (as "NothingToUndo")) (by rfl) (er.gA "NothingToUndo" (by decide)) rfl) pa_nil)))
      pa_nil))))))
    (pss_cons (ps_set (i := 2) nd rfl (.inl rfl) (pe_lst (pa_cons pe_str (pa_cons pe_str (pa_cons pe_str (pa_cons pe_str (pa_cons pe_str (pa_cons pe_str pa_nil))))))))
    (pss_one (ps_ret (pe_join pe_str (pe_lcZ (ix := 3) (iy := 4) ⟨(a, oe), hot, List.mem_singleton.mpr rfl⟩ nd (blkOk_by (own := [("_law_word", 3), ("_law_good", 4)]) (N := names_L_error) (sc := defScope s_L_error) (by decide +kernel)) rfl rfl (by decide) (by rfl) T.n_zip
      (pa_cons (pv 2) (pa_cons (pv 1) pa_nil)) (fun _ _ _ _ _ => rfl) (fun _ _ _ _ _ => rfl))))))), ?_⟩
  refine ⟨.ref a, rfl, .ref (as "InvalidRule"), .ref (as "InvalidRule"), _, rfl, fun u h => h, ky "InvalidRule" (by decide), ?_⟩
  refine ⟨.ref a, rfl, .ref (as "InvalidRides"), .ref (as "InvalidRides"), _, rfl, fun u h => h, ky "InvalidRides" (by decide), ?_⟩
  refine ⟨.ref a, rfl, .ref (as "InvalidMenu"), .ref (as "InvalidMenu"), _, rfl, fun u h => h, ky "InvalidMenu" (by decide), ?_⟩
  refine ⟨hz3, fun p1 hp1 => ?_⟩
  refine ⟨.ref p1, rfl, ?_⟩
  refine ⟨.ref a, rfl, .ref (as "InvalidNumber"), .ref (as "InvalidNumber"), _, rfl, fun u h => h, ky "InvalidNumber" (by decide), ?_⟩
  refine ⟨.ref a, rfl, .ref (as "InvalidTick"), .ref (as "InvalidTick"), _, rfl, fun u h => h, ky "InvalidTick" (by decide), ?_⟩
  refine ⟨.ref a, rfl, .ref (as "NothingToUndo"), .ref (as "NothingToUndo"), _, rfl, fun u h => h, ky "NothingToUndo" (by decide), ?_⟩
  refine ⟨hz3, fun p2 hp2 => ?_⟩
  have n21 := upd_diff hp2
  refine ⟨p1, p2, _, _, rfl, rfl, (upd_ne n21).trans upd_same, upd_same, hz6, fun p3 hp3 => ?_⟩
  refine ⟨hz6, fun p4 hp4 => ?_⟩
  have n43 := upd_diff hp4
  refine ⟨⟨_, rfl⟩, .ref p4, rfl, .ref p3, rfl, p4, p3, errWords.map V.str, errWords.map fun y => decide (word = y), rfl, upd_same, (upd_ne n43).trans upd_same, rfl, by decide, fun D H2 hk hD hH2 => ?_⟩
  rw [sel_word word hw] at hH2
  refine ⟨_, D, [word], rfl, rfl, .inl (.inl (.of hH2)), ?_, ?_⟩
  · have : ∀ x ∈ errWords, (([x].map (·.length)).sum + [x].length * ("" : Str).length) ≤ 16777216 := by decide +kernel
    exact this word hw
  · rw [show Txt.join "" [word] = word from join_word word]
    exact hq _ fun c o e => hk c o (upd_old (upd_old (upd_old (upd_old e hp1) hp2) hp3) hp4)

theorem c_L_outcome (T : Top K mg) : Cal P w K mg base CX0 "_law_outcome" 11 ["_law_call"] (dspf_L_outcome (cnOf mg) (CallsV P w K mg base 9)) := by
  obtain ⟨f, fd, F, hm⟩ := T.f_L_outcome
  obtain ⟨fe, EF, hme, hke⟩ := k_L_error (P := P) (w := w) (base := base) T
  obtain ⟨aT, as, er⟩ := T.er
  have nd := sc_L_outcome.nd
  refine ⟨f, fd, F.ok sc_L_outcome (fun vs H Q E h => ?_) (fun cdv A outer s H vs Q E hr h => ?_), hm, F.kp, F.binds (fun _ _ _ _ _ _ us hl => match us, hl with | [_], _ => rfl)⟩
  · obtain ⟨Z, n, ds, C, Er, _, r, ⟨Pt, b, rfl, _⟩, _⟩ := h
    rw [r.length]
    rfl
  obtain ⟨Z, n, ds, C, Er, hz, r, ⟨Pt, b, rfl, hc, hb⟩, q, _⟩ := h
  obtain ⟨a, st, hP, rfl⟩ : ∃ a, Stab K Pt ∧ Pt n H Z a ∧ vs = [.ref a] := by
    cases r with
    | cons r1 rr =>
      cases rr
      cases r1 with
      | fix st hP => exact ⟨_, st, hP, rfl⟩
  refine ⟨_, pss_cons (ps_set (i := 1) nd rfl (.inl rfl) (pe_tup (pa_cons pe_str pa_nil)))
    (pss_cons (L2N.ps_try_as (i := 2) (Wout := fun _ _ _ _ => False) (tb := fun W => tAsg (tTup (tCons (tC (.str "value")) (tCons (tTok P w K mg base 9 0 W) tNil))) (gName 1))
        (ts := fun a cls d => tAsg (tTup (tCons (tErr (nmvOf (cnOf mg) caught) 2 a cls d) tNil)) (gName 1)) rfl rfl nd rfl rfl ⟨rfl, by decide, .inl er.gT⟩ takes0N
        (fun W pn xe tk _ => pss_one (ps_set (i := 1) nd rfl (.inl rfl) (pe_tup (pa_cons pe_str (pa_cons (pe_tok (i := 0) tk hr (by decide) rfl (.inl rfl)) pa_nil)))))
        (fun a oe cls d pn hz hf => pss_one (ps_set (i := 1) nd rfl (.inl rfl) (pe_tup (pa_cons (pe_err (i := 2) EF hr (by decide) hz hf (by rfl) hme hke rfl (.inl rfl)) pa_nil)))))
    (pss_one (ps_ret (pv 1)))), ?_⟩
  have hz1 : (1 : Nat) ≤ sizeLine := by decide
  have hz2 : (2 : Nat) ≤ sizeLine := by decide
  refine ⟨hz1, fun p hp => ?_⟩
  have ep := ExK.new (o := .tup [V.str "nothing"]) hp
  refine ⟨a, rfl, n, Z, Pt, b, _, _, st _ _ _ _ _ _ _ (Gro.ex ep) hP, hc, hz.ex ep, hb, fun u v H1 j ex rs hcu => ?_, fun cls H1 j ex he => ?_⟩
  · obtain ⟨d, rfl, hC⟩ := hcu
    refine ⟨hz2, fun p2 hp2 => ?_⟩
    have e2 := ExK.new (o := .tup [V.str "value", v]) hp2
    have e3 := (ep.trans ex).trans e2
    rw [Ct.zero_add] at e3
    have rd : Dt K (n + j) H1 Z v d := rs
    exact ⟨.ref p2, rfl, q (.dat (.tup [.str "value", d])) _ _ _ e3 (Dt.tup upd_same (.cons (.v _) (.cons (rd.ex0 e2) .nil))) hC⟩
  · obtain ⟨word, ⟨hR, rfl⟩, hC⟩ := he
    have hcn : cnOf mg word = .ref (as word) := (er.ex word hR).cn
    refine ⟨true, by rw [hcn]; exact er.em word hR, fun _ a2 na => ?_, fun h => by cases h⟩
    refine ⟨rfl, rfl, word, ⟨hR, rfl⟩, fun H2 hk => ?_⟩
    refine ⟨hz1, fun p2 hp2 => ?_⟩
    have e2 := ExK.new (o := .tup [V.str word]) hp2
    have e3 := ((ep.trans ex).trans (ExK.all hk)).trans e2
    rw [Ct.zero_add] at e3
    exact ⟨.ref p2, rfl, q (.dat (.tup [.str word])) _ _ _ e3 (Dt.tup upd_same (.cons (.v _) .nil)) hC⟩

theorem c_L_rule (T : Top K mg) : Cal P w K mg base CX0 "_law_rule" 2 ["_law_bag"] dsp_L_rule := by
  have c_L_take := c_L_take (P := P) (w := w) (base := base) T
  refine cal_of (N := names_L_rule) (dd := d_L_rule) T.f_L_rule sc_L_rule l_L_rule (fun _ _ _ _ _ _ us hl => match us, hl with | [_], _ => rfl) (fun f cdv A outer s H E hr => ?_) r_L_rule
  have hu := hr.units
  exact ⟨_, (xss_cons (xs_set false (i := 1) sc_L_rule.nd rfl (Or.inl rfl) (x_callC c_L_take hr (by decide) (by rfl) pass0 (xa_cons (xv 0) (xa_cons (x_ix (o_ixK (K := K)) (x_lst (xa_cons x_int (xa_cons x_int xa_nil))) (x_callC c_L_take hr (by decide) (by rfl) pass0 (xa_cons (xv 0) (xa_cons x_int xa_nil)))) xa_nil))))
    (xss_cons (xs_set false (i := 2) sc_L_rule.nd rfl (Or.inl rfl) (x_lst (xa_cons (x_op (o_addK (K := K)) x_int (x_callC c_L_take hr (by decide) (by rfl) pass0 (xa_cons (xv 0) (xa_cons x_int xa_nil)))) (xa_cons (x_op (o_addK (K := K)) x_int (x_callC c_L_take hr (by decide) (by rfl) pass0 (xa_cons (xv 0) (xa_cons x_int xa_nil)))) (xa_cons (x_op o_fdiv x_int (x_op (o_addK (K := K)) x_int (x_callC c_L_take hr (by decide) (by rfl) pass0 (xa_cons (xv 0) (xa_cons x_int xa_nil))))) (xa_cons x_int xa_nil))))))
    (xss_cons (xs_set false (i := 3) sc_L_rule.nd rfl (Or.inl rfl) (x_ix (o_ixK (K := K)) (xv 2) (x_callC c_L_take hr (by decide) (by rfl) pass0 (xa_cons (xv 0) (xa_cons x_int xa_nil)))))
    (xss_cons (xs_set false (i := 4) sc_L_rule.nd rfl (Or.inl rfl) (x_lst (xa_cons x_non (xa_cons (x_op (o_addK (K := K)) (x_op o_mul (xv 1) (x_callC c_L_take hr (by decide) (by rfl) pass0 (xa_cons (xv 0) (xa_cons x_int xa_nil)))) (x_callC c_L_take hr (by decide) (by rfl) pass0 (xa_cons (xv 0) (xa_cons x_int xa_nil)))) (xa_cons (x_callC c_L_take hr (by decide) (by rfl) pass0 (xa_cons (xv 0) (xa_cons x_int xa_nil))) (xa_cons (x_callC c_L_take hr (by decide) (by rfl) pass0 (xa_cons (xv 0) (xa_cons (x_op (o_addK (K := K)) (x_op o_pow x_int x_int) x_int) xa_nil))) xa_nil))))))
    (xss_one (xs_ret (x_tup (xa_cons (xv 1) (xa_cons (xv 3) (xa_cons (x_ix (o_ixK (K := K)) (xv 4) (x_callC c_L_take hr (by decide) (by rfl) pass0 (xa_cons (xv 0) (xa_cons x_int xa_nil)))) xa_nil))))))))))⟩
theorem c_L_rides (T : Top K mg) : Cal P w K mg base CX0 "_law_rides" 2 ["_law_bag", "_law_most", "_law_rule_here"] dsp_L_rides := by
  have c_L_take := c_L_take (P := P) (w := w) (base := base) T
  refine cal_of (N := names_L_rides) (dd := d_L_rides) T.f_L_rides sc_L_rides l_L_rides (fun _ _ _ _ _ _ us hl => match us, hl with | [_, _, _], _ => rfl) (fun f cdv A outer s H E hr => ?_) r_L_rides
  have hu := hr.units
  exact ⟨_, (xss_cons (xs_par (i := 3) (j := 4) rfl sc_L_rides.nd rfl rfl (by decide) rfl rfl (xa_cons (x_tup xa_nil) (xa_cons (x_callC c_L_take hr (by decide) (by rfl) pass0 (xa_cons (xv 0) (xa_cons (x_ix (o_ixK (K := K)) (x_lst (xa_cons x_int (xa_cons x_int xa_nil))) (x_callC c_L_take hr (by decide) (by rfl) pass0 (xa_cons (xv 0) (xa_cons x_int xa_nil)))) xa_nil))) xa_nil)) (by rfl))
    (xss_cons (xs_for PassesOwn.never rfl (xi_rng1 (by rfl) T.n_range (xa_cons (x_callC c_L_take hr (by decide) (by rfl) pass0 (xa_cons (xv 0) (xa_cons (x_op (o_addK (K := K)) (xv 1) x_int) xa_nil))) xa_nil)) (xg_name (i := 5) sc_L_rides.nd rfl (Or.inl rfl)) (xss_cons (xs_if (xt_cmp o_lt (xv 4) x_int) (xss_one (xs_set false (i := 3) sc_L_rides.nd rfl (Or.inl rfl) (x_op (o_addK (K := K)) (xv 3) (x_tup (xa_cons (xv 4) xa_nil))))) xss_nil)
    (xss_cons (xs_set false (i := 6) sc_L_rides.nd rfl (Or.inl rfl) (x_callB (c_max2 rfl) (by rfl) T.n_max PyProof.Rows.boot_max (xa_cons x_int (xa_cons (x_op o_sub (x_op (o_addK (K := K)) (x_ix (o_ixK (K := K)) (xv 2) x_int) (x_callC c_L_take hr (by decide) (by rfl) pass0 (xa_cons (xv 0) (xa_cons x_int xa_nil)))) x_int) xa_nil))))
    (xss_one (xs_set false (i := 4) sc_L_rides.nd rfl (Or.inl rfl) (x_op (o_addK (K := K)) (xv 4) (x_ix (o_ixK (K := K)) (x_lst (xa_cons x_int (xa_cons (x_op (o_addK (K := K)) x_int (x_callC c_L_take hr (by decide) (by rfl) pass0 (xa_cons (xv 0) (xa_cons x_int xa_nil)))) (xa_cons (xv 6) (xa_cons (x_op (o_addK (K := K)) x_int (x_callC c_L_take hr (by decide) (by rfl) pass0 (xa_cons (xv 0) (xa_cons (x_op o_mul x_int (x_ix (o_ixK (K := K)) (xv 2) x_int)) xa_nil)))) xa_nil))))) (x_callC c_L_take hr (by decide) (by rfl) pass0 (xa_cons (xv 0) (xa_cons x_int xa_nil))))))))))
    (xss_one (xs_ret (xv 3)))))⟩
theorem c_L_bought (T : Top K mg) : Cal P w K mg base CX0 "_law_bought" 1 ["_law_length", "_law_rides_here"] dsp_L_bought := by
  refine cal_of (N := names_L_bought) (dd := d_L_bought) T.f_L_bought sc_L_bought l_L_bought (fun _ _ _ _ _ _ us hl => match us, hl with | [_, _], _ => rfl) (fun f cdv A outer s H E hr => ?_) r_L_bought
  have hu := hr.units
  exact ⟨_, (xss_cons (xs_parK (i := 2) (j := 3) rfl sc_L_bought.nd rfl rfl (by decide) rfl rfl (x_lst xa_nil) (x_neg x_int) (by rfl))
    (xss_cons (xs_for PassesOwn.never rfl (xi_seq (xv 1)) (xg_name (i := 4) sc_L_bought.nd rfl (Or.inl rfl)) (xss_one (xs_if (xt_cmp o_ge (xv 4) (xv 3)) (xss_cons (xs_app (xv 4) (pv 2))
    (xss_one (xs_set false (i := 3) sc_L_bought.nd rfl (Or.inl rfl) (x_op (o_addK (K := K)) (xv 4) (xv 0))))) xss_nil)))
    (xss_one (xs_ret (xv 2)))))⟩
theorem c_L_money (T : Top K mg) : Cal P w K mg base CX0 "_law_money" 1 ["_law_rule_here", "_law_count"] dsp_L_money := by
  refine cal_of (N := names_L_money) (dd := d_L_money) T.f_L_money sc_L_money l_L_money (fun _ _ _ _ _ _ us hl => match us, hl with | [_, _], _ => rfl) (fun f cdv A outer s H E hr => ?_) r_L_money
  have hu := hr.units
  exact ⟨_, (xss_cons (xs_set false (i := 2) sc_L_money.nd rfl (Or.inl rfl) (x_op o_mul (x_ix (o_ixK (K := K)) (xv 0) x_int) (xv 1)))
    (xss_one (xs_ret (x_if (XW.xt (xw_or (xt_cmp o_is (x_ix (o_ixK (K := K)) (xv 0) x_int) x_non) (xw_or1 (xt_cmp o_lt (xv 2) (x_ix (o_ixK (K := K)) (xv 0) x_int))))) (xv 2) (x_ix (o_ixK (K := K)) (xv 0) x_int)))))⟩
theorem c_L_cost (T : Top K mg) : Cal P w K mg base CX0 "_law_cost" 2 ["_law_rule_here", "_law_rides_here"] dsp_L_cost := by
  have c_L_bought := c_L_bought (P := P) (w := w) (base := base) T
  have c_L_money := c_L_money (P := P) (w := w) (base := base) T
  refine cal_of (N := names_L_cost) (dd := d_L_cost) T.f_L_cost sc_L_cost l_L_cost (fun _ _ _ _ _ _ us hl => match us, hl with | [_, _], _ => rfl) (fun f cdv A outer s H E hr => ?_) r_L_cost
  have hu := hr.units
  exact ⟨_, (xss_one (xs_ret (x_callC c_L_money hr (by decide) (by rfl) pass0 (xa_cons (xv 0) (xa_cons (x_callB (c_lenK (K := K)) (by rfl) T.n_len PySem.boot_len (xa_cons (x_callC c_L_bought hr (by decide) (by rfl) pass0 (xa_cons (x_ix (o_ixK (K := K)) (xv 0) x_int) (xa_cons (xv 1) xa_nil))) xa_nil)) xa_nil)))))⟩
theorem c_L_ride (T : Top K mg) : Cal P w K mg base CX0 "_law_ride" 3 ["_law_run", "_law_ticks"] dsp_L_ride := by
  obtain ⟨C, TC⟩ := T.crd
  have x_M_ride := x_M_ride (P := P) (w := w) (base := base) T TC
  refine cal_of (N := names_L_ride) (dd := d_L_ride (cnOf mg)) T.f_L_ride sc_L_ride l_L_ride (fun _ _ _ _ _ _ us hl => match us, hl with | [_, _], _ => rfl) (fun f cdv A outer s H E hr => ?_) (r_L_ride (cnOf mg))
  have hu := hr.units
  exact ⟨_, (xss_cons (xs_if (xt_cmp (o_eqK hu (K := K)) (xv 1) (x_tup xa_nil)) (xss_one (xs_ret (x_methR0 TC.f x_M_ride hr (by decide) pass_E0 (by rfl) (xv 0)))) xss_nil)
    (xss_cons (xs_if (xt_cmp (o_eqK hu (K := K)) (x_callB (c_lenK (K := K)) (by rfl) T.n_len PySem.boot_len (xa_cons (xv 1) xa_nil)) x_int) (xss_one (xs_ret (x_methR TC.f x_M_ride hr (by decide) pass_E0 (by rfl) (xv 0) (xa_cons (x_ix (o_ixK (K := K)) (xv 1) x_int) xa_nil)))) xss_nil)
    (xss_one (xs_ret (x_if (xt_cmp (o_eqK hu (K := K)) (x_callB (c_lenK (K := K)) (by rfl) T.n_len PySem.boot_len (xa_cons (xv 1) xa_nil)) x_int) (x_methR TC.f x_M_ride hr (by decide) pass_E0 (by rfl) (xv 0) (xa_cons (x_ix (o_ixK (K := K)) (xv 1) x_int) (xa_cons (x_ix (o_ixK (K := K)) (xv 1) x_int) xa_nil))) (x_methR TC.f x_M_ride hr (by decide) pass_E0 (by rfl) (xv 0) (xa_cons (x_ix (o_ixK (K := K)) (xv 1) x_int) (xa_cons (x_ix (o_ixK (K := K)) (xv 1) x_int) (xa_cons (x_ix (o_ixK (K := K)) (xv 1) x_int) xa_nil)))))))))⟩
theorem c_L_right (T : Top K mg) : Cal P w K mg base CX0 "_law_right" 5 ["_law_run", "_law_rule_here", "_law_state"] dsp_L_right := by
  obtain ⟨C, TC⟩ := T.crd
  have c_L_bought := c_L_bought (P := P) (w := w) (base := base) T
  have c_L_money := c_L_money (P := P) (w := w) (base := base) T
  have x_M_days := x_M_days (P := P) (w := w) (base := base) T TC
  have x_M_until := x_M_until (P := P) (w := w) (base := base) T TC
  have x_M_tickets := x_M_tickets (P := P) (w := w) (base := base) T TC
  have x_M_today := x_M_today (P := P) (w := w) (base := base) T TC
  have x_M_paid := x_M_paid (P := P) (w := w) (base := base) T TC
  have c_L_same := c_L_same (P := P) (w := w) (base := base) T
  have c_L_in := c_L_in (P := P) (w := w) (base := base) T
  have x_M_contains := x_M_contains (P := P) (w := w) (base := base) T TC
  refine cal_of (N := names_L_right) (dd := d_L_right (cnOf mg)) T.f_L_right sc_L_right l_L_right (fun _ _ _ _ _ _ us hl => match us, hl with | [_, _, _], _ => rfl) (fun f cdv A outer s H E hr => ?_) (r_L_right (cnOf mg))
  have hu := hr.units
  exact ⟨_, (xss_cons (xs_asg (xv 2) (xg_tupK (K := K) rfl (xgs_cons (xg_name (i := 3) sc_L_right.nd rfl (Or.inl rfl)) (xgs_cons (xg_name (i := 4) sc_L_right.nd rfl (Or.inl rfl)) (xgs_cons (xg_name (i := 5) sc_L_right.nd rfl (Or.inl rfl)) xgs_nil)))))
    (xss_cons (xs_set false (i := 6) sc_L_right.nd rfl (Or.inl rfl) (x_callC c_L_bought hr (by decide) (by rfl) pass0 (xa_cons (x_ix (o_ixK (K := K)) (xv 1) x_int) (xa_cons (xv 5) xa_nil))))
    (xss_cons (xs_set false (i := 7) sc_L_right.nd rfl (Or.inl rfl) (x_callC c_L_money hr (by decide) (by rfl) pass0 (xa_cons (xv 1) (xa_cons (x_callB (c_lenK (K := K)) (by rfl) T.n_len PySem.boot_len (xa_cons (xv 6) xa_nil)) xa_nil))))
    (xss_cons (xs_set false (i := 8) sc_L_right.nd rfl (Or.inl rfl) (x_if (xt_cmp (o_neK hu (K := K)) (xv 6) (x_lst xa_nil)) (x_op (o_addK (K := K)) (x_ix (o_ixK (K := K)) (xv 6) (x_neg x_int)) (x_ix (o_ixK (K := K)) (xv 1) x_int)) x_non))
    (xss_cons (xs_set false (i := 9) sc_L_right.nd rfl (Or.inl rfl) (x_lst (xa_cons (x_prop TC.f x_M_paid hr (by decide) (xv 0)) (xa_cons (x_prop TC.f x_M_today hr (by decide) (xv 0)) (xa_cons (x_prop TC.f x_M_tickets hr (by decide) (xv 0)) (xa_cons (x_prop TC.f x_M_until hr (by decide) (xv 0)) (xa_cons (x_prop TC.f x_M_days hr (by decide) (xv 0)) xa_nil)))))))
    (xss_cons (xs_if (xt_not (xt_val (x_callC c_L_same hr (by decide) (by rfl) pass0 (xa_cons (xv 9) (xa_cons (x_lst (xa_cons (x_op (o_addK (K := K)) (xv 4) (xv 7)) (xa_cons (xv 7) (xa_cons (x_callB (c_lenK (K := K)) (by rfl) T.n_len PySem.boot_len (xa_cons (xv 6) xa_nil)) (xa_cons (xv 8) (xa_cons (xv 3) xa_nil)))))) xa_nil))))) (xss_one (xs_ret x_bl)) xss_nil)
    (xss_cons (xs_for PassesOwn.never rfl (xi_seq (x_op (o_addK (K := K)) (x_op (o_addK (K := K)) (x_lst (xa_cons x_non (xa_cons x_bl (xa_cons x_str (xa_cons (x_neg x_int) (xa_cons x_int (xa_cons x_int (xa_cons x_int xa_nil)))))))) (xv 5)) (x_lc (own := [("_law_later", 12)]) rfl sc_L_right.nd (xi_seq (x_slice (xv 5) (xo_some (x_neg x_int)) xo_none)) (blkOk_by (own := [("_law_later", 12)]) (N := names_L_right) (sc := defScope s_L_right) (by decide +kernel)) (fun _ _ _ _ _ => (xg_name (i := 12) sc_L_right.nd rfl (Or.inl rfl))) (fun _ _ _ _ _ => xts_nil) (fun _ _ _ _ _ => (x_op (o_addK (K := K)) (xv 12) x_int))))) (xg_name (i := 10) sc_L_right.nd rfl (Or.inl rfl)) (xss_cons (xs_set false (i := 11) sc_L_right.nd rfl (Or.inl rfl) (x_and (x_cmp o_isnot (xv 8) x_non) (x_and (x_callC c_L_in hr (by decide) (by rfl) pass0 (xa_cons (xv 10) (xa_cons (x_ix (o_ixK (K := K)) (xv 6) (x_neg x_int)) (xa_cons x_int xa_nil)))) (x_one (x_cmp o_lt (xv 10) (xv 8))))))
    (xss_one (xs_if (xt_cmp (o_neK hu (K := K)) (x_inC TC.f x_M_contains hr (by decide) (xv 10) (xv 0)) (xv 11)) (xss_one (xs_ret x_bl)) xss_nil))))
    (xss_cons (xs_if (xt_cmp o_isnot (xv 8) x_non) (xss_one (xs_ret (x_and (x_cmp o_is (x_inC TC.f x_M_contains hr (by decide) (xv 8) (xv 0)) x_bl) (x_one (x_cmp (o_eqK hu (K := K)) (x_inC TC.f x_M_contains hr (by decide) (x_op o_sub (xv 8) x_int) (xv 0)) (x_cmp o_le (xv 8) x_int)))))) xss_nil)
    (xss_one (xs_ret x_bl))))))))))⟩
theorem c_L_step (T : Top K mg) {f : Addr} {fd : FuncData} (F : Fun K "_law_step" "_law_step" s_L_step f fd) (hmf : mg "_law_step" = some (.ref f)) {c P0 : Addr} {TT : List Addr} (TB : LamX.TabB base mg c P0) (hfc : fd.code = .ref c) (hPT : P0 ∈ TT) (hnm : TabNames.nm P0 = qlam "_law_step") : CalT P w K mg base CX0 "_law_step" 12 TT ["_law_bag", "_law_run", "_law_rule_here", "_law_state"] dsp_L_step := by
  obtain ⟨C, TC⟩ := T.crd
  have c_L_take := c_L_take (P := P) (w := w) (base := base) T
  have c_L_outcome := c_L_outcome (P := P) (w := w) (base := base) T
  have c_L_cost := c_L_cost (P := P) (w := w) (base := base) T
  have c_L_same := c_L_same (P := P) (w := w) (base := base) T
  refine ⟨f, fd, ?_, hmf, F.kp, F.binds (fun _ _ _ _ _ _ us hl => match us, hl with | [_, _, _, _], _ => rfl)⟩
  refine dokT F sc_L_step l_L_step (fun cdv A outer s H E hcdv hr => ?_)
  have hcode : cdv = .ref c := hcdv.symm.trans hfc
  have hu := hr.units
  exact ⟨_, d_L_step (cnOf mg) _, (xss_cons (xs_asg (xv 3) (xg_tupK (K := K) rfl (xgs_cons (xg_name (i := 4) sc_L_step.nd rfl (Or.inl rfl)) (xgs_cons (xg_name (i := 5) sc_L_step.nd rfl (Or.inl rfl)) (xgs_cons (xg_name (i := 6) sc_L_step.nd rfl (Or.inl rfl)) xgs_nil)))))
    (xss_cons (xs_par (i := 7) (j := 8) rfl sc_L_step.nd rfl rfl (by decide) rfl rfl (xa_cons (x_callC c_L_take hr (by decide) (by rfl) pass0 (xa_cons (xv 0) (xa_cons x_int xa_nil))) (xa_cons (x_if (xt_cmp (o_neK hu (K := K)) (xv 6) (x_lst xa_nil)) (x_ix (o_ixK (K := K)) (xv 6) (x_neg x_int)) (x_neg x_int)) xa_nil)) (by rfl))
    (xss_cons (xs_if (xt_cmp o_lt (xv 7) x_int) (xss_cons (xs_asg (x_tup (xa_cons (x_tup xa_nil) (xa_cons (xv 8) xa_nil))) (xg_tupK (K := K) rfl (xgs_cons (xg_name (i := 16) sc_L_step.nd rfl (Or.inr rfl)) (xgs_cons (xg_name (i := 9) sc_L_step.nd rfl (Or.inl rfl)) xgs_nil))))
    (xss_cons (xs_for PassesOwn.never rfl (xi_rng1 (by rfl) T.n_range (xa_cons (x_callC c_L_take hr (by decide) (by rfl) pass0 (xa_cons (xv 0) (xa_cons x_int xa_nil))) xa_nil)) (xg_name (i := 10) sc_L_step.nd rfl (Or.inl rfl)) (xss_cons (xs_set false (i := 9) sc_L_step.nd rfl (Or.inl rfl) (x_op (o_addK (K := K)) (x_op (o_addK (K := K)) (xv 9) x_int) (x_callC c_L_take hr (by decide) (by rfl) pass0 (xa_cons (xv 0) (xa_cons (x_ix (o_ixK (K := K)) (x_lst (xa_cons x_int (xa_cons (x_op o_mul x_int (x_ix (o_ixK (K := K)) (xv 2) x_int)) xa_nil))) (x_callC c_L_take hr (by decide) (by rfl) pass0 (xa_cons (xv 0) (xa_cons x_int xa_nil)))) xa_nil)))))
    (xss_one (xs_if (xt_cmp o_lt (xv 9) x_int) (xss_one (xs_set false (i := 16) sc_L_step.nd rfl (Or.inr rfl) (x_op (o_addK (K := K)) (xv 16) (x_tup (xa_cons (xv 9) xa_nil))))) xss_nil))))
    (xss_cons (xs_set false (i := 11) sc_L_step.nd rfl (Or.inl rfl) (x_callL (b := b_L_step (cnOf mg)) (m := [false, true, false, false, false, false, false, false, false, false, false, false, false, false, true, true, true]) (k := 8) (dspf := dspf_L_outcome (cnOf mg)) (fun base => LAW.c_L_outcome (P := P) (w := w) (base := base) T) hr (by decide) (by rfl) pass0 (xa_cons (x_lam (b := b_L_step (cnOf mg)) 0 (by show LamX.lamSB (defScope s_L_step) _ = true; decide +kernel) (fun _ _ _ _ => rfl) TB hcode hPT hnm rfl (fun base A outer s H E Er f c1 hr => by have c_L_ride := c_L_ride (P := P) (w := w) (base := base) T; have hu := hr.units; exact ⟨_, (x_callC c_L_ride hr (by decide) (by rfl) pass00 (xa_cons (xv 1) (xa_cons (xv 16) xa_nil)))⟩)) xa_nil)))
    (xss_cons (xs_set false (i := 12) sc_L_step.nd rfl (Or.inl rfl) (x_op o_sub (x_callC c_L_cost hr (by decide) (by rfl) pass0 (xa_cons (xv 2) (xa_cons (x_op (o_addK (K := K)) (xv 6) (x_callTy (c_listK (K := K)) (by rfl) T.n_list PyProof.Rows.boot_list (xa_cons (xv 16) xa_nil))) xa_nil))) (x_callC c_L_cost hr (by decide) (by rfl) pass0 (xa_cons (xv 2) (xa_cons (xv 6) xa_nil)))))
    (xss_one (xs_ret (x_tup (xa_cons (x_callC c_L_same hr (by decide) (by rfl) pass0 (xa_cons (xv 11) (xa_cons (x_tup (xa_cons x_str (xa_cons (xv 12) xa_nil))) xa_nil))) (xa_cons (x_lst (xa_cons (x_tup (xa_cons (xv 4) (xa_cons (xv 5) (xa_cons (x_op (o_addK (K := K)) (xv 6) (x_callTy (c_listK (K := K)) (by rfl) T.n_list PyProof.Rows.boot_list (xa_cons (xv 16) xa_nil))) xa_nil)))) xa_nil)) xa_nil))))))))) xss_nil)
    (xss_cons (xs_if (xt_cmp o_lt (xv 7) x_int) (xss_cons (xs_set false (i := 14) sc_L_step.nd rfl (Or.inr rfl) (x_op (o_addK (K := K)) x_int (x_callC c_L_take hr (by decide) (by rfl) pass0 (xa_cons (xv 0) (xa_cons (x_ix (o_ixK (K := K)) (x_lst (xa_cons x_int (xa_cons (x_op o_pow x_int x_int) xa_nil))) (x_callC c_L_take hr (by decide) (by rfl) pass0 (xa_cons (xv 0) (xa_cons x_int xa_nil)))) xa_nil)))))
    (xss_cons (xs_set false (i := 11) sc_L_step.nd rfl (Or.inl rfl) (x_callL (b := b_L_step (cnOf mg)) (m := [false, true, false, false, false, false, false, false, false, false, false, false, false, false, true, true, true]) (k := 8) (dspf := dspf_L_outcome (cnOf mg)) (fun base => LAW.c_L_outcome (P := P) (w := w) (base := base) T) hr (by decide) (by rfl) pass0 (xa_cons (x_lam (b := b_L_step (cnOf mg)) 1 (by show LamX.lamSB (defScope s_L_step) _ = true; decide +kernel) (fun _ _ _ _ => rfl) TB hcode hPT hnm rfl (fun base A outer s H E Er f c1 hr => by have x_M_sleep := x_M_sleep (P := P) (w := w) (base := base) T TC; have hu := hr.units; exact ⟨_, (x_methK ["days"] TC.f x_M_sleep hr (by decide) (L2N.passes_call (L2N.takes_of rfl rfl rfl rfl) (fun _ _ _ _ h => h)) (by rfl) (by simp) (fun _ _ _ _ _ _ us mv tv ws h1 h2 h3 h4 => match us, mv, tv, ws, h1, h2, h3, h4 with | [_], [], [], [_], _, _, _, _ => rfl) (xv 1) (xk_cons (xv 14) xk_nil))⟩)) xa_nil)))
    (xss_cons (xs_set false (i := 5) sc_L_step.nd rfl (Or.inl rfl) (x_op (o_addK (K := K)) (xv 5) (x_callC c_L_cost hr (by decide) (by rfl) pass0 (xa_cons (xv 2) (xa_cons (xv 6) xa_nil)))))
    (xss_one (xs_ret (x_tup (xa_cons (x_callC c_L_same hr (by decide) (by rfl) pass0 (xa_cons (xv 11) (xa_cons (x_tup (xa_cons x_str (xa_cons (xv 5) xa_nil))) xa_nil))) (xa_cons (x_lst (xa_cons (x_tup (xa_cons (x_op (o_addK (K := K)) (xv 4) (xv 14)) (xa_cons (xv 5) (xa_cons (x_lst xa_nil) xa_nil)))) xa_nil)) xa_nil)))))))) xss_nil)
    (xss_cons (xs_set false (i := 15) sc_L_step.nd rfl (Or.inr rfl) (x_ix (o_ixK (K := K)) (x_lst (xa_cons x_non (xa_cons x_bl (xa_cons (x_neg x_int) (xa_cons x_int (xa_cons x_str (xa_cons (xv 8) xa_nil))))))) (x_callC c_L_take hr (by decide) (by rfl) pass0 (xa_cons (xv 0) (xa_cons x_int xa_nil)))))
    (xss_cons (xs_set false (i := 13) sc_L_step.nd rfl (Or.inl rfl) (x_cmp (o_eqK hu (K := K)) (x_callL (b := b_L_step (cnOf mg)) (m := [false, true, false, false, false, false, false, false, false, false, false, false, false, false, true, true, true]) (k := 8) (dspf := dspf_L_outcome (cnOf mg)) (fun base => LAW.c_L_outcome (P := P) (w := w) (base := base) T) hr (by decide) (by rfl) pass0 (xa_cons (x_lam (b := b_L_step (cnOf mg)) 2 (by show LamX.lamSB (defScope s_L_step) _ = true; decide +kernel) (fun _ _ _ _ => rfl) TB hcode hPT hnm rfl (fun base A outer s H E Er f c1 hr => by have x_M_ride := x_M_ride (P := P) (w := w) (base := base) T TC; have hu := hr.units; exact ⟨_, (x_methR TC.f x_M_ride hr (by decide) (L2N.passes_call (L2N.takes_of rfl rfl rfl rfl) (fun _ _ _ _ h => h)) (by rfl) (xv 1) (xa_cons (xv 15) xa_nil))⟩)) xa_nil)) (x_tup (xa_cons x_str xa_nil))))
    (xss_one (xs_ret (x_tup (xa_cons (x_and (xv 13) (x_one (x_cmp (o_eqK hu (K := K)) (x_callL (b := b_L_step (cnOf mg)) (m := [false, true, false, false, false, false, false, false, false, false, false, false, false, false, true, true, true]) (k := 8) (dspf := dspf_L_outcome (cnOf mg)) (fun base => LAW.c_L_outcome (P := P) (w := w) (base := base) T) hr (by decide) (by rfl) pass0 (xa_cons (x_lam (b := b_L_step (cnOf mg)) 3 (by show LamX.lamSB (defScope s_L_step) _ = true; decide +kernel) (fun _ _ _ _ => rfl) TB hcode hPT hnm rfl (fun base A outer s H E Er f c1 hr => by have x_M_sleep := x_M_sleep (P := P) (w := w) (base := base) T TC; have hu := hr.units; exact ⟨_, (x_methK ["days"] TC.f x_M_sleep hr (by decide) (L2N.passes_call (L2N.takes_of rfl rfl rfl rfl) (fun _ _ _ _ h => h)) (by rfl) (by simp) (fun _ _ _ _ _ _ us mv tv ws h1 h2 h3 h4 => match us, mv, tv, ws, h1, h2, h3, h4 with | [_], [], [], [_], _, _, _, _ => rfl) (xv 1) (xk_cons x_int xk_nil))⟩)) xa_nil)) (x_tup (xa_cons x_str xa_nil))))) (xa_cons (x_lst xa_nil) xa_nil))))))))))), r_L_step (cnOf mg) _⟩
theorem fn_law (T : Top K mg) {f : Addr} {fd : FuncData} (F : Fun K "law" "law" s_law f fd) {c P0 : Addr} {TT : List Addr} (TB : LamX.TabB base mg c P0) (hfc : fd.code = .ref c) (hPT : P0 ∈ TT) (hnm : TabNames.nm P0 = qlam "law") {f1 : Addr} {fd1 : FuncData} (F1 : Fun K "_law_step" "_law_step" s_L_step f1 fd1) (hmf1 : mg "_law_step" = some (.ref f1)) {c1 P1 : Addr} (TB1 : LamX.TabB base mg c1 P1) (hfc1 : fd1.code = .ref c1) (hPT1 : P1 ∈ TT) (hnm1 : TabNames.nm P1 = qlam "_law_step") : FnOk P w K mg base CX0 13 f fd ["_law_script"] (liftT TT K dsp_law) := by
  obtain ⟨C, TC⟩ := T.crd
  have c_L_step := c_L_step (P := P) (w := w) (base := base) T F1 hmf1 TB1 hfc1 hPT1 hnm1
  have c_L_bags := c_L_bags (P := P) (w := w) (base := base) T
  have c_L_rule := c_L_rule (P := P) (w := w) (base := base) T
  have x_Card := x_Card (P := P) (w := w) (base := base) T TC
  have c_L_take := c_L_take (P := P) (w := w) (base := base) T
  have c_L_outcome := c_L_outcome (P := P) (w := w) (base := base) T
  have c_L_same := c_L_same (P := P) (w := w) (base := base) T
  have c_L_right := c_L_right (P := P) (w := w) (base := base) T
  have c_L_rides := c_L_rides (P := P) (w := w) (base := base) T
  have x_M_ride := x_M_ride (P := P) (w := w) (base := base) T TC
  have x_M_eq := x_M_eq (P := P) (w := w) (base := base) T TC
  have x_M_paid := x_M_paid (P := P) (w := w) (base := base) T TC
  have c_P_cost := c_P_cost (P := P) (w := w) (base := base) T
  have x_M_sleep := x_M_sleep (P := P) (w := w) (base := base) T TC
  have x_M_days := x_M_days (P := P) (w := w) (base := base) T TC
  have x_M_single := x_M_single (P := P) (w := w) (base := base) T TC
  have x_M_until := x_M_until (P := P) (w := w) (base := base) T TC
  refine dokT F sc_law l_law (fun cdv A outer s H E hcdv hr => ?_)
  have hcode : cdv = .ref c := hcdv.symm.trans hfc
  have hu := hr.units
  exact ⟨_, d_law (cnOf mg) _, (xss_cons (xs_for PassesOwn.never rfl (xi_seq (x_callC c_L_bags hr (by decide) (by rfl) pass0 (xa_cons (xv 0) (xa_cons x_int xa_nil)))) (xg_name (i := 1) sc_law.nd rfl (Or.inl rfl)) (xss_cons (xs_set false (i := 2) sc_law.nd rfl (Or.inl rfl) (x_callC c_L_rule hr (by decide) (by rfl) pass0 (xa_cons (xv 1) xa_nil)))
    (xss_cons (xs_asg (x_tup (xa_cons (x_make TC.f x_Card hr (by decide) (by rfl) pass00 (xa_cons (xv 2) xa_nil)) (xa_cons (x_lst (xa_cons (x_tup (xa_cons x_int (xa_cons x_int (xa_cons (x_lst xa_nil) xa_nil)))) xa_nil)) xa_nil))) (xg_tupK (K := K) rfl (xgs_cons (xg_name (i := 13) sc_law.nd rfl (Or.inr rfl)) (xgs_cons (xg_name (i := 3) sc_law.nd rfl (Or.inl rfl)) xgs_nil))))
    (xss_cons (xs_for PassesOwn.never rfl (xi_rng1 (by rfl) T.n_range (xa_cons x_int xa_nil)) (xg_name (i := 4) sc_law.nd rfl (Or.inl rfl)) (xss_cons (xs_if (xt_cmp (o_eqK hu (K := K)) (x_callC c_L_take hr (by decide) (by rfl) pass0 (xa_cons (xv 1) (xa_cons x_int xa_nil))) x_int) (xss_cons (xs_set false (i := 5) sc_law.nd rfl (Or.inl rfl) (x_if (xt_cmp o_gt (x_callB (c_lenK (K := K)) (by rfl) T.n_len PySem.boot_len (xa_cons (xv 3) xa_nil)) x_int) (x_tup (xa_cons x_str (xa_cons x_non xa_nil))) (x_tup (xa_cons x_str xa_nil))))
    (xss_cons (xs_set false (i := 6) sc_law.nd rfl (Or.inl rfl) (x_callC c_L_same hr (by decide) (by rfl) pass0 (xa_cons (x_callL (b := b_law (cnOf mg)) (m := [false, false, false, false, false, false, false, false, false, false, false, false, false, true]) (k := 8) (dspf := dspf_L_outcome (cnOf mg)) (fun base => LAW.c_L_outcome (P := P) (w := w) (base := base) T) hr (by decide) (by rfl) pass0 (xa_cons (x_lam (b := b_law (cnOf mg)) 0 (by show LamX.lamSB (defScope s_law) _ = true; decide +kernel) (fun _ _ _ _ => rfl) TB hcode hPT hnm rfl (fun base A outer s H E Er f c1 hr => by have x_M_undo := x_M_undo (P := P) (w := w) (base := base) T TC; have hu := hr.units; exact ⟨_, (x_meth0 TC.f x_M_undo hr (by decide) (L2N.passes_call (L2N.takes_of rfl rfl rfl rfl) (fun _ _ _ _ h => h)) (by rfl) (xv 13))⟩)) xa_nil)) (xa_cons (xv 5) xa_nil))))
    (xss_one (xs_set false (i := 3) sc_law.nd rfl (Or.inl rfl) (x_slice (xv 3) xo_none (xo_some (x_callB (c_max2 rfl) (by rfl) T.n_max PyProof.Rows.boot_max (xa_cons x_int (xa_cons (x_op o_sub (x_callB (c_lenK (K := K)) (by rfl) T.n_len PySem.boot_len (xa_cons (xv 3) xa_nil)) x_int) xa_nil))))))))) (xss_cons (xs_asg (x_callT c_L_step (fun _ h => h) hr (by decide) (by rfl) pass0 (xa_cons (xv 1) (xa_cons (xv 13) (xa_cons (xv 2) (xa_cons (x_ix (o_ixK (K := K)) (xv 3) (x_neg x_int)) xa_nil))))) (xg_tupK (K := K) rfl (xgs_cons (xg_name (i := 6) sc_law.nd rfl (Or.inl rfl)) (xgs_cons (xg_name (i := 7) sc_law.nd rfl (Or.inl rfl)) xgs_nil))))
    (xss_one (xs_set false (i := 3) sc_law.nd rfl (Or.inl rfl) (x_op (o_addK (K := K)) (xv 3) (xv 7))))))
    (xss_one (xs_if (XW.xt (xw_or (xt_not (xt_val (xv 6))) (xw_or1 (xt_not (xt_val (x_callC c_L_right hr (by decide) (by rfl) pass0 (xa_cons (xv 13) (xa_cons (xv 2) (xa_cons (x_ix (o_ixK (K := K)) (xv 3) (x_neg x_int)) xa_nil))))))))) (xss_one (xs_ret x_bl)) xss_nil))))
    (xss_cons (xs_set false (i := 8) sc_law.nd rfl (Or.inl rfl) (x_callC c_L_rides hr (by decide) (by rfl) pass0 (xa_cons (xv 1) (xa_cons x_int (xa_cons (xv 2) xa_nil)))))
    (xss_cons (xs_par (i := 9) (j := 10) rfl sc_law.nd rfl rfl (by decide) rfl rfl (x_new2 TC.f x_Card hr (by decide) (by rfl) pass00 (xa_cons (xv 2) xa_nil) (xa_cons (xv 2) xa_nil)) (by rfl))
    (xss_cons (xs_for PassesOwn.never rfl (xi_seq (xv 8)) (xg_name (i := 11) sc_law.nd rfl (Or.inl rfl)) (xss_cons (xs_expr (x_methR TC.f x_M_ride hr (by decide) pass_E0 (by rfl) (xv 9) (xa_cons (xv 11) xa_nil)))
    (xss_one (xs_expr (x_methR TC.f x_M_ride hr (by decide) pass_E0 (by rfl) (xv 10) (xa_cons (xv 11) xa_nil))))))
    (xss_cons (xs_if (XW.xt (xw_or (xt_not (xt_eqC TC.f TC.tp x_M_eq hr (by decide) (xv 9) (xv 10))) (xw_or (xt_cmp (o_neK hu (K := K)) (x_prop TC.f x_M_paid hr (by decide) (xv 9)) (x_callC c_P_cost hr (by decide) (by rfl) pass0 (xa_cons (xv 2) (xa_cons (xv 8) xa_nil)))) (xw_or1 (xt_eqC TC.f TC.tp x_M_eq hr (by decide) (xv 9) (xv 2)))))) (xss_one (xs_ret x_bl)) xss_nil)
    (xss_cons (xs_if (xt_eqC TC.f TC.tp x_M_eq hr (by decide) (xv 9) (x_make TC.f x_Card hr (by decide) (by rfl) pass00 (xa_cons (x_tup (xa_cons (x_op o_mod (x_op (o_addK (K := K)) (x_ix (o_ixK (K := K)) (xv 2) x_int) x_int) x_int) (xa_cons (x_ix (o_ixK (K := K)) (xv 2) x_int) (xa_cons (x_ix (o_ixK (K := K)) (xv 2) x_int) xa_nil)))) xa_nil))) (xss_one (xs_ret x_bl)) xss_nil)
    (xss_one (xs_if (XW.xt (xw_or (xt_cmp (o_neK hu (K := K)) (x_methD (kws := [("days", (V.int 1))]) TC.f x_M_sleep hr (by decide) pass_E0 (by rfl) (by simp) (by rfl) (by exact fun _ _ _ _ _ _ us ks h1 h2 => match us, ks, h1, h2 with | [_], [_], _, _ => ⟨_, _, _, _, _, _, rfl, rfl, rfl⟩) (xv 9)) (x_callC c_P_cost hr (by decide) (by rfl) pass0 (xa_cons (xv 2) (xa_cons (xv 8) xa_nil)))) (xw_or (xt_eqC TC.f TC.tp x_M_eq hr (by decide) (xv 9) (xv 10)) (xw_or1 (xt_cmp (o_neK hu (K := K)) (x_prop TC.f x_M_days hr (by decide) (xv 9)) x_int))))) (xss_one (xs_ret x_bl)) xss_nil)))))))))))
    (xss_cons (xs_set false (i := 12) sc_law.nd rfl (Or.inl rfl) (x_cmeth TC.f (by rfl) TC.g x_M_single hr (by decide) pass_E0 (xa_cons x_int xa_nil)))
    (xss_cons (xs_if (XW.xt (xw_or (xt_cmp (o_neK hu (K := K)) (x_methR TC.f x_M_ride hr (by decide) pass_E0 (by rfl) (xv 12) (xa_cons x_int (xa_cons x_int xa_nil))) x_int) (xw_or (xt_cmp (o_neK hu (K := K)) (x_prop TC.f x_M_until hr (by decide) (xv 12)) x_int) (xw_or1 (xt_cmp (o_neK hu (K := K)) (x_cday TC.cdy.choose_spec.choose_spec.1 TC.cdy.choose_spec.choose_spec.2 (by rfl) TC.g) x_int))))) (xss_one (xs_ret x_bl)) xss_nil)
    (xss_one (xs_ret (x_and (x_cmp (o_eqK hu (K := K)) (x_methK ["days"] TC.f x_M_sleep hr (by decide) pass_E0 (by rfl) (by simp) (fun _ _ _ _ _ _ us mv tv ws h1 h2 h3 h4 => match us, mv, tv, ws, h1, h2, h3, h4 with | [_], [], [], [_], _, _, _, _ => rfl) (xv 12) (xk_cons x_int xk_nil)) x_int) (x_one (x_cmp (o_eqK hu (K := K)) (x_prop TC.f x_M_days hr (by decide) (xv 12)) x_int)))))))), r_law (cnOf mg) _⟩
end
end

-- NO WALK of _law_error: name InvalidMenu
-- NO WALK of _law_outcome: stmt Try(body=[Assign(targets=[Name(id='_law_found', ctx=Store())], value=Tuple(elts=[Constant(value='value'), Call(func=Name(id='_law_call', ctx=Load()), args=[], keywords=[])], ctx=Load()))], handlers=[E
omit [TabNames] in
theorem all_mk {l : PySem.W.OpenLaw} {w : World} {K : PySem.W.Frag} {h : Heap} {mg : Str → Option Value} {fa : Addr} (X : K.In h) (G : h.Ns mainGlobals mg) (hfa : mg "law" = some (.ref fa)) (tabs : LamX.TabOf K mg h "law") (tabs1 : LamX.TabOf K mg h "_law_step")
    {f0 : Addr} {od0 an0 : Option Addr} {sl0 : Array (Option Value)} {oc0 dc0 pm0 ct0 kV0 cd0 : Value}
    (a0 : PySem.W.nsIn K mainGlobals "in_range" = some (some (.ref f0)))
    (l0 : K.lookup f0 = some ⟨oc0, od0, .func (PySem.W.fnOf "in_range" "in_range" (defArgs s_P_in_range) (defBody s_P_in_range) (defScope s_P_in_range) .none kV0 dc0 pm0 an0 cd0 ct0), sl0⟩)
    (c0 : PySem.W.codeIn K cd0 "in_range" = true)
    (k0 : PySem.W.keepIn K (.ref f0) = true)
    {f1 : Addr} {od1 an1 : Option Addr} {sl1 : Array (Option Value)} {oc1 dc1 pm1 ct1 kV1 cd1 : Value}
    (a1 : PySem.W.nsIn K mainGlobals "is_rule" = some (some (.ref f1)))
    (l1 : K.lookup f1 = some ⟨oc1, od1, .func (PySem.W.fnOf "is_rule" "is_rule" (defArgs s_P_is_rule) (defBody s_P_is_rule) (defScope s_P_is_rule) .none kV1 dc1 pm1 an1 cd1 ct1), sl1⟩)
    (c1 : PySem.W.codeIn K cd1 "is_rule" = true)
    (k1 : PySem.W.keepIn K (.ref f1) = true)
    {f2 : Addr} {od2 an2 : Option Addr} {sl2 : Array (Option Value)} {oc2 dc2 pm2 ct2 kV2 cd2 : Value}
    (a2 : PySem.W.nsIn K mainGlobals "is_rides" = some (some (.ref f2)))
    (l2 : K.lookup f2 = some ⟨oc2, od2, .func (PySem.W.fnOf "is_rides" "is_rides" (defArgs s_P_is_rides) (defBody s_P_is_rides) (defScope s_P_is_rides) .none kV2 dc2 pm2 an2 cd2 ct2), sl2⟩)
    (c2 : PySem.W.codeIn K cd2 "is_rides" = true)
    (k2 : PySem.W.keepIn K (.ref f2) = true)
    {f3 : Addr} {od3 an3 : Option Addr} {sl3 : Array (Option Value)} {oc3 dc3 pm3 ct3 kV3 cd3 : Value}
    (a3 : PySem.W.nsIn K mainGlobals "check_rule" = some (some (.ref f3)))
    (l3 : K.lookup f3 = some ⟨oc3, od3, .func (PySem.W.fnOf "check_rule" "check_rule" (defArgs s_P_check_rule) (defBody s_P_check_rule) (defScope s_P_check_rule) .none kV3 dc3 pm3 an3 cd3 ct3), sl3⟩)
    (c3 : PySem.W.codeIn K cd3 "check_rule" = true)
    (k3 : PySem.W.keepIn K (.ref f3) = true)
    {f4 : Addr} {od4 an4 : Option Addr} {sl4 : Array (Option Value)} {oc4 dc4 pm4 ct4 kV4 cd4 : Value}
    (a4 : PySem.W.nsIn K mainGlobals "check_rides" = some (some (.ref f4)))
    (l4 : K.lookup f4 = some ⟨oc4, od4, .func (PySem.W.fnOf "check_rides" "check_rides" (defArgs s_P_check_rides) (defBody s_P_check_rides) (defScope s_P_check_rides) .none kV4 dc4 pm4 an4 cd4 ct4), sl4⟩)
    (c4 : PySem.W.codeIn K cd4 "check_rides" = true)
    (k4 : PySem.W.keepIn K (.ref f4) = true)
    {f5 : Addr} {od5 an5 : Option Addr} {sl5 : Array (Option Value)} {oc5 dc5 pm5 ct5 kV5 cd5 : Value}
    (a5 : PySem.W.nsIn K mainGlobals "bought_of" = some (some (.ref f5)))
    (l5 : K.lookup f5 = some ⟨oc5, od5, .func (PySem.W.fnOf "bought_of" "bought_of" (defArgs s_P_bought_of) (defBody s_P_bought_of) (defScope s_P_bought_of) .none kV5 dc5 pm5 an5 cd5 ct5), sl5⟩)
    (c5 : PySem.W.codeIn K cd5 "bought_of" = true)
    (k5 : PySem.W.keepIn K (.ref f5) = true)
    {f6 : Addr} {od6 an6 : Option Addr} {sl6 : Array (Option Value)} {oc6 dc6 pm6 ct6 kV6 cd6 : Value}
    (a6 : PySem.W.nsIn K mainGlobals "money" = some (some (.ref f6)))
    (l6 : K.lookup f6 = some ⟨oc6, od6, .func (PySem.W.fnOf "money" "money" (defArgs s_P_money) (defBody s_P_money) (defScope s_P_money) .none kV6 dc6 pm6 an6 cd6 ct6), sl6⟩)
    (c6 : PySem.W.codeIn K cd6 "money" = true)
    (k6 : PySem.W.keepIn K (.ref f6) = true)
    {f7 : Addr} {od7 an7 : Option Addr} {sl7 : Array (Option Value)} {oc7 dc7 pm7 ct7 kV7 cd7 : Value}
    (a7 : PySem.W.nsIn K mainGlobals "cost_of" = some (some (.ref f7)))
    (l7 : K.lookup f7 = some ⟨oc7, od7, .func (PySem.W.fnOf "cost_of" "cost_of" (defArgs s_P_cost_of) (defBody s_P_cost_of) (defScope s_P_cost_of) .none kV7 dc7 pm7 an7 cd7 ct7), sl7⟩)
    (c7 : PySem.W.codeIn K cd7 "cost_of" = true)
    (k7 : PySem.W.keepIn K (.ref f7) = true)
    {f8 : Addr} {od8 an8 : Option Addr} {sl8 : Array (Option Value)} {oc8 dc8 pm8 ct8 kV8 cd8 : Value}
    (a8 : PySem.W.nsIn K mainGlobals "cost" = some (some (.ref f8)))
    (l8 : K.lookup f8 = some ⟨oc8, od8, .func (PySem.W.fnOf "cost" "cost" (defArgs s_P_cost) (defBody s_P_cost) (defScope s_P_cost) .none kV8 dc8 pm8 an8 cd8 ct8), sl8⟩)
    (c8 : PySem.W.codeIn K cd8 "cost" = true)
    (k8 : PySem.W.keepIn K (.ref f8) = true)
    {f9 : Addr} {od9 an9 : Option Addr} {sl9 : Array (Option Value)} {oc9 dc9 pm9 ct9 kV9 cd9 : Value}
    (a9 : PySem.W.nsIn K mainGlobals "_law_well" = some (some (.ref f9)))
    (l9 : K.lookup f9 = some ⟨oc9, od9, .func (PySem.W.fnOf "_law_well" "_law_well" (defArgs s_L_well) (defBody s_L_well) (defScope s_L_well) .none kV9 dc9 pm9 an9 cd9 ct9), sl9⟩)
    (c9 : PySem.W.codeIn K cd9 "_law_well" = true)
    (k9 : PySem.W.keepIn K (.ref f9) = true)
    {f10 : Addr} {od10 an10 : Option Addr} {sl10 : Array (Option Value)} {oc10 dc10 pm10 ct10 kV10 cd10 : Value}
    (a10 : PySem.W.nsIn K mainGlobals "_law_take" = some (some (.ref f10)))
    (l10 : K.lookup f10 = some ⟨oc10, od10, .func (PySem.W.fnOf "_law_take" "_law_take" (defArgs s_L_take) (defBody s_L_take) (defScope s_L_take) .none kV10 dc10 pm10 an10 cd10 ct10), sl10⟩)
    (c10 : PySem.W.codeIn K cd10 "_law_take" = true)
    (k10 : PySem.W.keepIn K (.ref f10) = true)
    {f11 : Addr} {od11 an11 : Option Addr} {sl11 : Array (Option Value)} {oc11 dc11 pm11 ct11 kV11 cd11 : Value}
    (a11 : PySem.W.nsIn K mainGlobals "_law_bags" = some (some (.ref f11)))
    (l11 : K.lookup f11 = some ⟨oc11, od11, .func (PySem.W.fnOf "_law_bags" "_law_bags" (defArgs s_L_bags) (defBody s_L_bags) (defScope s_L_bags) .none kV11 dc11 pm11 an11 cd11 ct11), sl11⟩)
    (c11 : PySem.W.codeIn K cd11 "_law_bags" = true)
    (k11 : PySem.W.keepIn K (.ref f11) = true)
    {f12 : Addr} {od12 an12 : Option Addr} {sl12 : Array (Option Value)} {oc12 dc12 pm12 ct12 kV12 cd12 : Value}
    (a12 : PySem.W.nsIn K mainGlobals "_law_same" = some (some (.ref f12)))
    (l12 : K.lookup f12 = some ⟨oc12, od12, .func (PySem.W.fnOf "_law_same" "_law_same" (defArgs s_L_same) (defBody s_L_same) (defScope s_L_same) .none kV12 dc12 pm12 an12 cd12 ct12), sl12⟩)
    (c12 : PySem.W.codeIn K cd12 "_law_same" = true)
    (k12 : PySem.W.keepIn K (.ref f12) = true)
    {f13 : Addr} {od13 an13 : Option Addr} {sl13 : Array (Option Value)} {oc13 dc13 pm13 ct13 kV13 cd13 : Value}
    (a13 : PySem.W.nsIn K mainGlobals "_law_in" = some (some (.ref f13)))
    (l13 : K.lookup f13 = some ⟨oc13, od13, .func (PySem.W.fnOf "_law_in" "_law_in" (defArgs s_L_in) (defBody s_L_in) (defScope s_L_in) .none kV13 dc13 pm13 an13 cd13 ct13), sl13⟩)
    (c13 : PySem.W.codeIn K cd13 "_law_in" = true)
    (k13 : PySem.W.keepIn K (.ref f13) = true)
    {f14 : Addr} {od14 an14 : Option Addr} {sl14 : Array (Option Value)} {oc14 dc14 pm14 ct14 kV14 cd14 : Value}
    (a14 : PySem.W.nsIn K mainGlobals "_law_error" = some (some (.ref f14)))
    (l14 : K.lookup f14 = some ⟨oc14, od14, .func (PySem.W.fnOf "_law_error" "_law_error" (defArgs s_L_error) (defBody s_L_error) (defScope s_L_error) .none kV14 dc14 pm14 an14 cd14 ct14), sl14⟩)
    (c14 : PySem.W.codeIn K cd14 "_law_error" = true)
    (k14 : PySem.W.keepIn K (.ref f14) = true)
    {f15 : Addr} {od15 an15 : Option Addr} {sl15 : Array (Option Value)} {oc15 dc15 pm15 ct15 kV15 cd15 : Value}
    (a15 : PySem.W.nsIn K mainGlobals "_law_outcome" = some (some (.ref f15)))
    (l15 : K.lookup f15 = some ⟨oc15, od15, .func (PySem.W.fnOf "_law_outcome" "_law_outcome" (defArgs s_L_outcome) (defBody s_L_outcome) (defScope s_L_outcome) .none kV15 dc15 pm15 an15 cd15 ct15), sl15⟩)
    (c15 : PySem.W.codeIn K cd15 "_law_outcome" = true)
    (k15 : PySem.W.keepIn K (.ref f15) = true)
    {f16 : Addr} {od16 an16 : Option Addr} {sl16 : Array (Option Value)} {oc16 dc16 pm16 ct16 kV16 cd16 : Value}
    (a16 : PySem.W.nsIn K mainGlobals "_law_rule" = some (some (.ref f16)))
    (l16 : K.lookup f16 = some ⟨oc16, od16, .func (PySem.W.fnOf "_law_rule" "_law_rule" (defArgs s_L_rule) (defBody s_L_rule) (defScope s_L_rule) .none kV16 dc16 pm16 an16 cd16 ct16), sl16⟩)
    (c16 : PySem.W.codeIn K cd16 "_law_rule" = true)
    (k16 : PySem.W.keepIn K (.ref f16) = true)
    {f17 : Addr} {od17 an17 : Option Addr} {sl17 : Array (Option Value)} {oc17 dc17 pm17 ct17 kV17 cd17 : Value}
    (a17 : PySem.W.nsIn K mainGlobals "_law_rides" = some (some (.ref f17)))
    (l17 : K.lookup f17 = some ⟨oc17, od17, .func (PySem.W.fnOf "_law_rides" "_law_rides" (defArgs s_L_rides) (defBody s_L_rides) (defScope s_L_rides) .none kV17 dc17 pm17 an17 cd17 ct17), sl17⟩)
    (c17 : PySem.W.codeIn K cd17 "_law_rides" = true)
    (k17 : PySem.W.keepIn K (.ref f17) = true)
    {f18 : Addr} {od18 an18 : Option Addr} {sl18 : Array (Option Value)} {oc18 dc18 pm18 ct18 kV18 cd18 : Value}
    (a18 : PySem.W.nsIn K mainGlobals "_law_bought" = some (some (.ref f18)))
    (l18 : K.lookup f18 = some ⟨oc18, od18, .func (PySem.W.fnOf "_law_bought" "_law_bought" (defArgs s_L_bought) (defBody s_L_bought) (defScope s_L_bought) .none kV18 dc18 pm18 an18 cd18 ct18), sl18⟩)
    (c18 : PySem.W.codeIn K cd18 "_law_bought" = true)
    (k18 : PySem.W.keepIn K (.ref f18) = true)
    {f19 : Addr} {od19 an19 : Option Addr} {sl19 : Array (Option Value)} {oc19 dc19 pm19 ct19 kV19 cd19 : Value}
    (a19 : PySem.W.nsIn K mainGlobals "_law_money" = some (some (.ref f19)))
    (l19 : K.lookup f19 = some ⟨oc19, od19, .func (PySem.W.fnOf "_law_money" "_law_money" (defArgs s_L_money) (defBody s_L_money) (defScope s_L_money) .none kV19 dc19 pm19 an19 cd19 ct19), sl19⟩)
    (c19 : PySem.W.codeIn K cd19 "_law_money" = true)
    (k19 : PySem.W.keepIn K (.ref f19) = true)
    {f20 : Addr} {od20 an20 : Option Addr} {sl20 : Array (Option Value)} {oc20 dc20 pm20 ct20 kV20 cd20 : Value}
    (a20 : PySem.W.nsIn K mainGlobals "_law_cost" = some (some (.ref f20)))
    (l20 : K.lookup f20 = some ⟨oc20, od20, .func (PySem.W.fnOf "_law_cost" "_law_cost" (defArgs s_L_cost) (defBody s_L_cost) (defScope s_L_cost) .none kV20 dc20 pm20 an20 cd20 ct20), sl20⟩)
    (c20 : PySem.W.codeIn K cd20 "_law_cost" = true)
    (k20 : PySem.W.keepIn K (.ref f20) = true)
    {f21 : Addr} {od21 an21 : Option Addr} {sl21 : Array (Option Value)} {oc21 dc21 pm21 ct21 kV21 cd21 : Value}
    (a21 : PySem.W.nsIn K mainGlobals "_law_ride" = some (some (.ref f21)))
    (l21 : K.lookup f21 = some ⟨oc21, od21, .func (PySem.W.fnOf "_law_ride" "_law_ride" (defArgs s_L_ride) (defBody s_L_ride) (defScope s_L_ride) .none kV21 dc21 pm21 an21 cd21 ct21), sl21⟩)
    (c21 : PySem.W.codeIn K cd21 "_law_ride" = true)
    (k21 : PySem.W.keepIn K (.ref f21) = true)
    {f22 : Addr} {od22 an22 : Option Addr} {sl22 : Array (Option Value)} {oc22 dc22 pm22 ct22 kV22 cd22 : Value}
    (a22 : PySem.W.nsIn K mainGlobals "_law_right" = some (some (.ref f22)))
    (l22 : K.lookup f22 = some ⟨oc22, od22, .func (PySem.W.fnOf "_law_right" "_law_right" (defArgs s_L_right) (defBody s_L_right) (defScope s_L_right) .none kV22 dc22 pm22 an22 cd22 ct22), sl22⟩)
    (c22 : PySem.W.codeIn K cd22 "_law_right" = true)
    (k22 : PySem.W.keepIn K (.ref f22) = true)
    {f23 : Addr} {od23 an23 : Option Addr} {sl23 : Array (Option Value)} {oc23 dc23 pm23 ct23 kV23 : Value}
    {lc1 lP1 : Addr} {le1 : Value} {ld1 : Option Addr} {lvs1 : Array Value} {lsl1 : Array (Option Value)}
    (a23 : PySem.W.nsIn K mainGlobals "_law_step" = some (some (.ref f23)))
    (l23 : K.lookup f23 = some ⟨oc23, od23, .func (PySem.W.fnOf "_law_step" "_law_step" (defArgs s_L_step) (defBody s_L_step) (defScope s_L_step) .none kV23 dc23 pm23 an23 (.ref lc1) ct23), sl23⟩)
    (c23 : PySem.W.codeIn K (.ref lc1) "_law_step" = true)
    (k23 : PySem.W.keepIn K (.ref f23) = true)
    {f24 : Addr} {od24 an24 : Option Addr} {sl24 : Array (Option Value)} {oc24 dc24 pm24 ct24 kV24 : Value}
    {lc0 lP0 : Addr} {le0 : Value} {ld0 : Option Addr} {lvs0 : Array Value} {lsl0 : Array (Option Value)}
    (a24 : PySem.W.nsIn K mainGlobals "law" = some (some (.ref f24)))
    (l24 : K.lookup f24 = some ⟨oc24, od24, .func (PySem.W.fnOf "law" "law" (defArgs s_law) (defBody s_law) (defScope s_law) .none kV24 dc24 pm24 an24 (.ref lc0) ct24), sl24⟩)
    (c24 : PySem.W.codeIn K (.ref lc0) "law" = true)
    (k24 : PySem.W.keepIn K (.ref f24) = true)
    (tc0 : K.lookup lc0 = some ⟨le0, ld0, .fields lvs0, lsl0⟩)
    (tv0 : lvs0[11]? = some (.ref lP0))
    (tn0 : K.lookup lP0 = none)
    (tc1 : K.lookup lc1 = some ⟨le1, ld1, .fields lvs1, lsl1⟩)
    (tv1 : lvs1[11]? = some (.ref lP1))
    (tn1 : K.lookup lP1 = none)
    (hne : (lP1 == lP0) = false)
    {DC : Addr}
    (cC : PySem.W.nsIn K mainGlobals "Card" = some (some (.ref DC)))
    {fM0 : Addr} {odM0 anM0 : Option Addr} {slM0 : Array (Option Value)} {ocM0 dcM0 pmM0 cdM0 ctM0 kVM0 : Value}
    (mf0 : PySem.W.findIn K (.ref DC) "__init__" = some (some (.ref fM0)))
    (mi0 : PySem.W.isFn K (.ref fM0) = true)
    (ml0 : K.lookup fM0 = some ⟨ocM0, odM0, .func (PySem.W.fnOf "__init__" "Card.__init__" (defArgs s_M_init) (defBody s_M_init) (defScope s_M_init) .none kVM0 dcM0 pmM0 anM0 cdM0 ctM0), slM0⟩)
    (mc0 : PySem.W.codeIn K cdM0 "Card.__init__" = true)
    (mk0 : PySem.W.keepIn K (.ref fM0) = true)
    {fM1 : Addr} {odM1 anM1 : Option Addr} {slM1 : Array (Option Value)} {ocM1 dcM1 pmM1 cdM1 ctM1 kVM1 : Value}
    (mf1 : PySem.W.findIn K (.ref DC) "ride" = some (some (.ref fM1)))
    (mi1 : PySem.W.isFn K (.ref fM1) = true)
    (ml1 : K.lookup fM1 = some ⟨ocM1, odM1, .func (PySem.W.fnOf "ride" "Card.ride" (defArgs s_M_ride) (defBody s_M_ride) (defScope s_M_ride) .none kVM1 dcM1 pmM1 anM1 cdM1 ctM1), slM1⟩)
    (mc1 : PySem.W.codeIn K cdM1 "Card.ride" = true)
    (mk1 : PySem.W.keepIn K (.ref fM1) = true)
    {fM2 : Addr} {odM2 anM2 : Option Addr} {slM2 : Array (Option Value)} {ocM2 dcM2 pmM2 cdM2 ctM2 : Value}
    {kDM2 : Addr}
    (mf2 : PySem.W.findIn K (.ref DC) "sleep" = some (some (.ref fM2)))
    (mi2 : PySem.W.isFn K (.ref fM2) = true)
    (ml2 : K.lookup fM2 = some ⟨ocM2, odM2, .func (PySem.W.fnOf "sleep" "Card.sleep" (defArgs s_M_sleep) (defBody s_M_sleep) (defScope s_M_sleep) .none (.ref kDM2) dcM2 pmM2 anM2 cdM2 ctM2), slM2⟩)
    (mc2 : PySem.W.codeIn K cdM2 "Card.sleep" = true)
    (mk2 : PySem.W.keepIn K (.ref fM2) = true)
    {ktM2_0 : Tok}
    (mkd2_0 : PySem.W.nsIn K kDM2 "days" = some (some (.int 1 ktM2_0)))
    {fM3 : Addr} {odM3 anM3 : Option Addr} {slM3 : Array (Option Value)} {ocM3 dcM3 pmM3 cdM3 ctM3 kVM3 : Value}
    (mf3 : PySem.W.findIn K (.ref DC) "undo" = some (some (.ref fM3)))
    (mi3 : PySem.W.isFn K (.ref fM3) = true)
    (ml3 : K.lookup fM3 = some ⟨ocM3, odM3, .func (PySem.W.fnOf "undo" "Card.undo" (defArgs s_M_undo) (defBody s_M_undo) (defScope s_M_undo) .none kVM3 dcM3 pmM3 anM3 cdM3 ctM3), slM3⟩)
    (mc3 : PySem.W.codeIn K cdM3 "Card.undo" = true)
    (mk3 : PySem.W.keepIn K (.ref fM3) = true)
    {fM4 : Addr} {odM4 anM4 : Option Addr} {slM4 : Array (Option Value)} {ocM4 dcM4 pmM4 cdM4 ctM4 kVM4 : Value}
    {pS : Addr} {rS : List Value}
    (mf4 : PySem.W.findCls K (.ref DC) (.type "type") "single" = some (.get (.builtin "classmethod.__get__") (.ref pS) .none (.ref DC)))
    (mr4 : PySem.W.recIn K pS "classmethod" = some (.ref fM4 :: rS))
    (mi4 : PySem.W.fnIn K fM4 = true)
    (ml4 : K.lookup fM4 = some ⟨ocM4, odM4, .func (PySem.W.fnOf "single" "Card.single" (defArgs s_M_single) (defBody s_M_single) (defScope s_M_single) .none kVM4 dcM4 pmM4 anM4 cdM4 ctM4), slM4⟩)
    (mc4 : PySem.W.codeIn K cdM4 "Card.single" = true)
    (mk4 : PySem.W.keepIn K (.ref fM4) = true)
    {fM5 : Addr} {odM5 anM5 : Option Addr} {slM5 : Array (Option Value)} {ocM5 dcM5 pmM5 cdM5 ctM5 kVM5 : Value}
    {pP5 : Addr} {rP5 : List Value}
    (mf5 : PySem.W.findIn K (.ref DC) "paid" = some (some (.ref pP5)))
    (mg5 : PySem.W.specialIn K (.ref pP5) "__get__" = some (some (.builtin "property.__get__")))
    (mt5 : PySem.W.takesIn K (.ref pP5) = some true)
    (mr5 : PySem.W.recIn K pP5 "property" = some (.ref fM5 :: rP5))
    (ml5 : K.lookup fM5 = some ⟨ocM5, odM5, .func (PySem.W.fnOf "paid" "Card.paid" (defArgs s_M_paid) (defBody s_M_paid) (defScope s_M_paid) .none kVM5 dcM5 pmM5 anM5 cdM5 ctM5), slM5⟩)
    (mc5 : PySem.W.codeIn K cdM5 "Card.paid" = true)
    (mk5 : PySem.W.keepIn K (.ref fM5) = true)
    {fM6 : Addr} {odM6 anM6 : Option Addr} {slM6 : Array (Option Value)} {ocM6 dcM6 pmM6 cdM6 ctM6 kVM6 : Value}
    {pP6 : Addr} {rP6 : List Value}
    (mf6 : PySem.W.findIn K (.ref DC) "today" = some (some (.ref pP6)))
    (mg6 : PySem.W.specialIn K (.ref pP6) "__get__" = some (some (.builtin "property.__get__")))
    (mt6 : PySem.W.takesIn K (.ref pP6) = some true)
    (mr6 : PySem.W.recIn K pP6 "property" = some (.ref fM6 :: rP6))
    (ml6 : K.lookup fM6 = some ⟨ocM6, odM6, .func (PySem.W.fnOf "today" "Card.today" (defArgs s_M_today) (defBody s_M_today) (defScope s_M_today) .none kVM6 dcM6 pmM6 anM6 cdM6 ctM6), slM6⟩)
    (mc6 : PySem.W.codeIn K cdM6 "Card.today" = true)
    (mk6 : PySem.W.keepIn K (.ref fM6) = true)
    {fM7 : Addr} {odM7 anM7 : Option Addr} {slM7 : Array (Option Value)} {ocM7 dcM7 pmM7 cdM7 ctM7 kVM7 : Value}
    {pP7 : Addr} {rP7 : List Value}
    (mf7 : PySem.W.findIn K (.ref DC) "tickets" = some (some (.ref pP7)))
    (mg7 : PySem.W.specialIn K (.ref pP7) "__get__" = some (some (.builtin "property.__get__")))
    (mt7 : PySem.W.takesIn K (.ref pP7) = some true)
    (mr7 : PySem.W.recIn K pP7 "property" = some (.ref fM7 :: rP7))
    (ml7 : K.lookup fM7 = some ⟨ocM7, odM7, .func (PySem.W.fnOf "tickets" "Card.tickets" (defArgs s_M_tickets) (defBody s_M_tickets) (defScope s_M_tickets) .none kVM7 dcM7 pmM7 anM7 cdM7 ctM7), slM7⟩)
    (mc7 : PySem.W.codeIn K cdM7 "Card.tickets" = true)
    (mk7 : PySem.W.keepIn K (.ref fM7) = true)
    {fM8 : Addr} {odM8 anM8 : Option Addr} {slM8 : Array (Option Value)} {ocM8 dcM8 pmM8 cdM8 ctM8 kVM8 : Value}
    {pP8 : Addr} {rP8 : List Value}
    (mf8 : PySem.W.findIn K (.ref DC) "until" = some (some (.ref pP8)))
    (mg8 : PySem.W.specialIn K (.ref pP8) "__get__" = some (some (.builtin "property.__get__")))
    (mt8 : PySem.W.takesIn K (.ref pP8) = some true)
    (mr8 : PySem.W.recIn K pP8 "property" = some (.ref fM8 :: rP8))
    (ml8 : K.lookup fM8 = some ⟨ocM8, odM8, .func (PySem.W.fnOf "until" "Card.until" (defArgs s_M_until) (defBody s_M_until) (defScope s_M_until) .none kVM8 dcM8 pmM8 anM8 cdM8 ctM8), slM8⟩)
    (mc8 : PySem.W.codeIn K cdM8 "Card.until" = true)
    (mk8 : PySem.W.keepIn K (.ref fM8) = true)
    {fM9 : Addr} {odM9 anM9 : Option Addr} {slM9 : Array (Option Value)} {ocM9 dcM9 pmM9 cdM9 ctM9 kVM9 : Value}
    (mf9 : PySem.W.findIn K (.ref DC) "__contains__" = some (some (.ref fM9)))
    (mi9 : PySem.W.isFn K (.ref fM9) = true)
    (ml9 : K.lookup fM9 = some ⟨ocM9, odM9, .func (PySem.W.fnOf "__contains__" "Card.__contains__" (defArgs s_M_contains) (defBody s_M_contains) (defScope s_M_contains) .none kVM9 dcM9 pmM9 anM9 cdM9 ctM9), slM9⟩)
    (mc9 : PySem.W.codeIn K cdM9 "Card.__contains__" = true)
    (mk9 : PySem.W.keepIn K (.ref fM9) = true)
    {fM10 : Addr} {odM10 anM10 : Option Addr} {slM10 : Array (Option Value)} {ocM10 dcM10 pmM10 cdM10 ctM10 kVM10 : Value}
    {pP10 : Addr} {rP10 : List Value}
    (mf10 : PySem.W.findIn K (.ref DC) "days" = some (some (.ref pP10)))
    (mg10 : PySem.W.specialIn K (.ref pP10) "__get__" = some (some (.builtin "property.__get__")))
    (mt10 : PySem.W.takesIn K (.ref pP10) = some true)
    (mr10 : PySem.W.recIn K pP10 "property" = some (.ref fM10 :: rP10))
    (ml10 : K.lookup fM10 = some ⟨ocM10, odM10, .func (PySem.W.fnOf "days" "Card.days" (defArgs s_M_days) (defBody s_M_days) (defScope s_M_days) .none kVM10 dcM10 pmM10 anM10 cdM10 ctM10), slM10⟩)
    (mc10 : PySem.W.codeIn K cdM10 "Card.days" = true)
    (mk10 : PySem.W.keepIn K (.ref fM10) = true)
    {fM11 : Addr} {odM11 anM11 : Option Addr} {slM11 : Array (Option Value)} {ocM11 dcM11 pmM11 cdM11 ctM11 kVM11 : Value}
    (mf11 : PySem.W.findIn K (.ref DC) "__eq__" = some (some (.ref fM11)))
    (mi11 : PySem.W.isFn K (.ref fM11) = true)
    (ml11 : K.lookup fM11 = some ⟨ocM11, odM11, .func (PySem.W.fnOf "__eq__" "Card.__eq__" (defArgs s_M_eq) (defBody s_M_eq) (defScope s_M_eq) .none kVM11 dcM11 pmM11 anM11 cdM11 ctM11), slM11⟩)
    (mc11 : PySem.W.codeIn K cdM11 "Card.__eq__" = true)
    (mk11 : PySem.W.keepIn K (.ref fM11) = true)
    {tD : Tok}
    (ck1 : PySem.W.makesIn K DC = true)
    (ck2 : PySem.W.keepIn K (.ref DC) = true)
    (cp1 : PySem.W.plainGet K DC Str.empty = true)
    (cp2 : PySem.W.hasDictIn K DC = true)
    (cp3 : PySem.W.plainOver K DC = true)
    (cp4 : PySem.W.findIn K (.ref DC) "__setattr__" = some (some (.builtin "object.__setattr__")))
    (cn1 : PySem.W.findIn K (.ref DC) "rule" = some none)
    (cn2 : PySem.W.findIn K (.ref DC) "states" = some none)
    (cd1 : PySem.W.findIn K (.ref DC) "DAY" = some (some (.int 1440 tD)))
    (cd2 : PySem.W.specialIn K (.int 1440 tD) "__get__" = some none)
    (cr1 : PySem.W.readsIn K DC (.type "type") = true)
    (cr2 : PySem.W.specialIn K (.ref DC) "__getattribute__" = some (some (.builtin "type.__getattribute__")))
    {tD2 : Tok}
    (cv1 : PySem.W.findCls K (.ref DC) (.type "type") "DAY" = some (.val (.int 1440 tD2)))
    (ctp : PySem.W.subIn K (.type "tuple") (.ref DC) = some false)
    (ci1 : PySem.W.findIn K (.ref DC) "__class__" = some (some (.builtin "object.__class__")))
    (ci2 : PySem.W.specialIn K (.builtin "object.__class__") "__get__" = some (some (.builtin "getset_descriptor.__get__")))
    (ci3 : PySem.W.takesIn K (.builtin "object.__class__") = some true)
    (ci4 : PySem.W.mroIn K DC (.type "object") = some true)
    (ci5 : PySem.W.kitOne K (.ref DC) (.ref DC) = some true)
    (ci6 : PySem.W.kitOne K (.type "tuple") (.ref DC) = some false)
    {DT D0 D1 D2 D3 D4 D5 : Addr}
    (eT : PySem.W.nsIn K mainGlobals "TicketError" = some (some (.ref DT)))
    (e0 : PySem.W.nsIn K mainGlobals "InvalidRule" = some (some (.ref D0)))
    (e1 : PySem.W.nsIn K mainGlobals "InvalidRides" = some (some (.ref D1)))
    (e2 : PySem.W.nsIn K mainGlobals "InvalidMenu" = some (some (.ref D2)))
    (e3 : PySem.W.nsIn K mainGlobals "InvalidNumber" = some (some (.ref D3)))
    (e4 : PySem.W.nsIn K mainGlobals "InvalidTick" = some (some (.ref D4)))
    (e5 : PySem.W.nsIn K mainGlobals "NothingToUndo" = some (some (.ref D5)))
    (t1 : PySem.W.subIn K (.ref DT) (.type "BaseException") = some true)
    (t2 : PySem.W.hasDictIn K DT = true)
    (t3 : PySem.W.typeIn K (.ref DT) = some (.type "type"))
    (kp_3 : PySem.W.keepIn K (.ref D3) = true)
    (ex_3 : PySem.W.excIn K D3 [.type "ValueError", .type "Exception", .type "BaseException", .type "object"] "ValueError.__new__" = true)
    (sb_3 : PySem.W.subIn K (.ref D3) (.type "BaseException") = some true)
    (ty_3 : PySem.W.typeIn K (.ref D3) = some (.type "type"))
    (hg_3 : PySem.W.findIn K (.ref D3) "__getattribute__" = some (some (.builtin "BaseException.__getattribute__")))
    (hk_3 : PySem.W.findIn K (.ref D3) "__getattr__" = some none)
    (hd_3 : PySem.W.hasDictIn K D3 = true)
    (ha_3 : PySem.W.findIn K (.ref D3) "__class__" = some (some (.builtin "object.__class__")))
    (hn_3 : PySem.W.specialIn K (.builtin "object.__class__") "__get__" = some (some (.builtin "getset_descriptor.__get__")))
    (ht_3 : PySem.W.takesIn K (.builtin "object.__class__") = some true)
    (hm_3 : PySem.W.mroIn K D3 (.type "object") = some true)
    (t4_3 : PySem.W.subIn K (.ref D3) (.ref DT) = some true)
    (q3_0 : PySem.W.kitOne K (.ref D3) (.ref D0) = some false)
    (q3_1 : PySem.W.kitOne K (.ref D3) (.ref D1) = some false)
    (q3_2 : PySem.W.kitOne K (.ref D3) (.ref D2) = some false)
    (q3_3 : PySem.W.kitOne K (.ref D3) (.ref D3) = some true)
    (q3_4 : PySem.W.kitOne K (.ref D3) (.ref D4) = some false)
    (q3_5 : PySem.W.kitOne K (.ref D3) (.ref D5) = some false)
    (kp_4 : PySem.W.keepIn K (.ref D4) = true)
    (ex_4 : PySem.W.excIn K D4 [.type "ValueError", .type "Exception", .type "BaseException", .type "object"] "ValueError.__new__" = true)
    (sb_4 : PySem.W.subIn K (.ref D4) (.type "BaseException") = some true)
    (ty_4 : PySem.W.typeIn K (.ref D4) = some (.type "type"))
    (hg_4 : PySem.W.findIn K (.ref D4) "__getattribute__" = some (some (.builtin "BaseException.__getattribute__")))
    (hk_4 : PySem.W.findIn K (.ref D4) "__getattr__" = some none)
    (hd_4 : PySem.W.hasDictIn K D4 = true)
    (ha_4 : PySem.W.findIn K (.ref D4) "__class__" = some (some (.builtin "object.__class__")))
    (hn_4 : PySem.W.specialIn K (.builtin "object.__class__") "__get__" = some (some (.builtin "getset_descriptor.__get__")))
    (ht_4 : PySem.W.takesIn K (.builtin "object.__class__") = some true)
    (hm_4 : PySem.W.mroIn K D4 (.type "object") = some true)
    (t4_4 : PySem.W.subIn K (.ref D4) (.ref DT) = some true)
    (q4_0 : PySem.W.kitOne K (.ref D4) (.ref D0) = some false)
    (q4_1 : PySem.W.kitOne K (.ref D4) (.ref D1) = some false)
    (q4_2 : PySem.W.kitOne K (.ref D4) (.ref D2) = some false)
    (q4_3 : PySem.W.kitOne K (.ref D4) (.ref D3) = some false)
    (q4_4 : PySem.W.kitOne K (.ref D4) (.ref D4) = some true)
    (q4_5 : PySem.W.kitOne K (.ref D4) (.ref D5) = some false)
    (kp_5 : PySem.W.keepIn K (.ref D5) = true)
    (ex_5 : PySem.W.excIn K D5 [.type "ValueError", .type "Exception", .type "BaseException", .type "object"] "ValueError.__new__" = true)
    (sb_5 : PySem.W.subIn K (.ref D5) (.type "BaseException") = some true)
    (ty_5 : PySem.W.typeIn K (.ref D5) = some (.type "type"))
    (hg_5 : PySem.W.findIn K (.ref D5) "__getattribute__" = some (some (.builtin "BaseException.__getattribute__")))
    (hk_5 : PySem.W.findIn K (.ref D5) "__getattr__" = some none)
    (hd_5 : PySem.W.hasDictIn K D5 = true)
    (ha_5 : PySem.W.findIn K (.ref D5) "__class__" = some (some (.builtin "object.__class__")))
    (hn_5 : PySem.W.specialIn K (.builtin "object.__class__") "__get__" = some (some (.builtin "getset_descriptor.__get__")))
    (ht_5 : PySem.W.takesIn K (.builtin "object.__class__") = some true)
    (hm_5 : PySem.W.mroIn K D5 (.type "object") = some true)
    (t4_5 : PySem.W.subIn K (.ref D5) (.ref DT) = some true)
    (q5_0 : PySem.W.kitOne K (.ref D5) (.ref D0) = some false)
    (q5_1 : PySem.W.kitOne K (.ref D5) (.ref D1) = some false)
    (q5_2 : PySem.W.kitOne K (.ref D5) (.ref D2) = some false)
    (q5_3 : PySem.W.kitOne K (.ref D5) (.ref D3) = some false)
    (q5_4 : PySem.W.kitOne K (.ref D5) (.ref D4) = some false)
    (q5_5 : PySem.W.kitOne K (.ref D5) (.ref D5) = some true)
    {t_0 : Tok}
    (g0 : PySem.W.nsIn K mainGlobals "DAY" = some (some (.int 1440 t_0)))
    {t_1 : Tok}
    (g1 : PySem.W.nsIn K mainGlobals "MOST_PRICE" = some (some (.int 1000 t_1)))
    {t_2 : Tok}
    (g2 : PySem.W.nsIn K mainGlobals "MOST_CAP" = some (some (.int 1000000 t_2)))
    {t_3 : Tok}
    (g3 : PySem.W.nsIn K mainGlobals "MOST_RIDES" = some (some (.int 60 t_3)))
    (z0 : PySem.W.nsIn K mainGlobals "all" = some none)
    (z1 : PySem.W.nsIn K mainGlobals "bool" = some none)
    (z2 : PySem.W.nsIn K mainGlobals "enumerate" = some none)
    (z3 : PySem.W.nsIn K mainGlobals "int" = some none)
    (z4 : PySem.W.nsIn K mainGlobals "isinstance" = some none)
    (z5 : PySem.W.nsIn K mainGlobals "len" = some none)
    (z6 : PySem.W.nsIn K mainGlobals "list" = some none)
    (z7 : PySem.W.nsIn K mainGlobals "max" = some none)
    (z8 : PySem.W.nsIn K mainGlobals "min" = some none)
    (z9 : PySem.W.nsIn K mainGlobals "range" = some none)
    (z10 : PySem.W.nsIn K mainGlobals "str" = some none)
    (z11 : PySem.W.nsIn K mainGlobals "tuple" = some none)
    (z12 : PySem.W.nsIn K mainGlobals "zip" = some none)
    : LamX.LawAtS l w K CX0 13 63 "_law_script" mg fa h := by
  have e := hfa.symm.trans (PySem.W.mg_of X G a24)
  cases e
  letI : CardD := ⟨fun r l => .fix (cardP K DC r l), .v (.ref DC)⟩
  have T : Top K mg := {
    crd := ⟨DC, ⟨PySem.W.mg_of X G cC, ⟨fun _ _ => rfl, rfl, ⟨cp1, cp2, cp3, cp4⟩, cn1, cn2, ⟨_, ⟨cd1, ⟨_, rfl⟩, cd2, by decide⟩⟩⟩, ⟨_, _, ⟨ck1, mf0, mi0, ck2⟩, fun_mk (st := s_M_init) ml0 mc0 mk0⟩, ctp, ⟨ci1, ci2, ci3, ci4, ci5, ci6⟩, ⟨.type "type", _, ⟨cr1, cr2⟩, ⟨cv1, ⟨_, rfl⟩⟩⟩, ⟨_, _, ⟨mf1, mi1, mk1⟩, fun_mk (st := s_M_ride) ml1 mc1 mk1⟩, ⟨_, _, ⟨mf2, mi2, mk2⟩, funK_mk (st := s_M_sleep) ml2 mc2 mk2 (List.forall_mem_cons.mpr ⟨⟨_, mkd2_0, ⟨_, rfl⟩⟩, fun _ h => nomatch h⟩)⟩, ⟨_, _, ⟨mf3, mi3, mk3⟩, fun_mk (st := s_M_undo) ml3 mc3 mk3⟩, ⟨.type "type", _, _, _, ⟨cr1, cr2⟩, ⟨mf4, ⟨_, mr4⟩, mi4⟩, fun_mk (st := s_M_single) ml4 mc4 mk4⟩, ⟨_, _, _, ⟨mf5, mg5, mt5, ⟨_, mr5⟩⟩, fun_mk (st := s_M_paid) ml5 mc5 mk5⟩, ⟨_, _, _, ⟨mf6, mg6, mt6, ⟨_, mr6⟩⟩, fun_mk (st := s_M_today) ml6 mc6 mk6⟩, ⟨_, _, _, ⟨mf7, mg7, mt7, ⟨_, mr7⟩⟩, fun_mk (st := s_M_tickets) ml7 mc7 mk7⟩, ⟨_, _, _, ⟨mf8, mg8, mt8, ⟨_, mr8⟩⟩, fun_mk (st := s_M_until) ml8 mc8 mk8⟩, ⟨_, _, mf9, mi9, fun_mk (st := s_M_contains) ml9 mc9 mk9⟩, ⟨_, _, _, ⟨mf10, mg10, mt10, ⟨_, mr10⟩⟩, fun_mk (st := s_M_days) ml10 mc10 mk10⟩, ⟨_, _, mf11, mi11, fun_mk (st := s_M_eq) ml11 mc11 mk11⟩⟩⟩
    f_P_in_range := ⟨_, _, fun_mk (st := s_P_in_range) l0 c0 k0, PySem.W.mg_of X G a0⟩
    f_P_is_rule := ⟨_, _, fun_mk (st := s_P_is_rule) l1 c1 k1, PySem.W.mg_of X G a1⟩
    f_P_is_rides := ⟨_, _, fun_mk (st := s_P_is_rides) l2 c2 k2, PySem.W.mg_of X G a2⟩
    f_P_check_rule := ⟨_, _, fun_mk (st := s_P_check_rule) l3 c3 k3, PySem.W.mg_of X G a3⟩
    f_P_check_rides := ⟨_, _, fun_mk (st := s_P_check_rides) l4 c4 k4, PySem.W.mg_of X G a4⟩
    f_P_bought_of := ⟨_, _, fun_mk (st := s_P_bought_of) l5 c5 k5, PySem.W.mg_of X G a5⟩
    f_P_money := ⟨_, _, fun_mk (st := s_P_money) l6 c6 k6, PySem.W.mg_of X G a6⟩
    f_P_cost_of := ⟨_, _, fun_mk (st := s_P_cost_of) l7 c7 k7, PySem.W.mg_of X G a7⟩
    f_P_cost := ⟨_, _, fun_mk (st := s_P_cost) l8 c8 k8, PySem.W.mg_of X G a8⟩
    f_L_well := ⟨_, _, fun_mk (st := s_L_well) l9 c9 k9, PySem.W.mg_of X G a9⟩
    f_L_take := ⟨_, _, fun_mk (st := s_L_take) l10 c10 k10, PySem.W.mg_of X G a10⟩
    f_L_bags := ⟨_, _, fun_mk (st := s_L_bags) l11 c11 k11, PySem.W.mg_of X G a11⟩
    f_L_same := ⟨_, _, fun_mk (st := s_L_same) l12 c12 k12, PySem.W.mg_of X G a12⟩
    f_L_in := ⟨_, _, fun_mk (st := s_L_in) l13 c13 k13, PySem.W.mg_of X G a13⟩
    f_L_error := ⟨_, _, fun_mk (st := s_L_error) l14 c14 k14, PySem.W.mg_of X G a14⟩
    f_L_outcome := ⟨_, _, fun_mk (st := s_L_outcome) l15 c15 k15, PySem.W.mg_of X G a15⟩
    f_L_rule := ⟨_, _, fun_mk (st := s_L_rule) l16 c16 k16, PySem.W.mg_of X G a16⟩
    f_L_rides := ⟨_, _, fun_mk (st := s_L_rides) l17 c17 k17, PySem.W.mg_of X G a17⟩
    f_L_bought := ⟨_, _, fun_mk (st := s_L_bought) l18 c18 k18, PySem.W.mg_of X G a18⟩
    f_L_money := ⟨_, _, fun_mk (st := s_L_money) l19 c19 k19, PySem.W.mg_of X G a19⟩
    f_L_cost := ⟨_, _, fun_mk (st := s_L_cost) l20 c20 k20, PySem.W.mg_of X G a20⟩
    f_L_ride := ⟨_, _, fun_mk (st := s_L_ride) l21 c21 k21, PySem.W.mg_of X G a21⟩
    f_L_right := ⟨_, _, fun_mk (st := s_L_right) l22 c22 k22, PySem.W.mg_of X G a22⟩
    f_L_step := ⟨_, _, fun_mk (st := s_L_step) l23 c23 k23, PySem.W.mg_of X G a23⟩
    f_law := ⟨_, _, fun_mk (st := s_law) l24 c24 k24, PySem.W.mg_of X G a24⟩
    er := errE_mk X G eT e0 e1 e2 e3 e4 e5 (by letI : TabNames := ⟨fun _ => ""⟩; exact caught_sub) (List.forall_mem_cons.mpr ⟨errC_mk (x := "InvalidNumber") rfl kp_3 ex_3 sb_3 ty_3 hg_3 hk_3 hd_3 ha_3 hn_3 ht_3 hm_3 t1 t2 t3 t4_3 q3_0 q3_1 q3_2 q3_3 q3_4 q3_5 rfl rfl rfl rfl rfl rfl, List.forall_mem_cons.mpr ⟨errC_mk (x := "InvalidTick") rfl kp_4 ex_4 sb_4 ty_4 hg_4 hk_4 hd_4 ha_4 hn_4 ht_4 hm_4 t1 t2 t3 t4_4 q4_0 q4_1 q4_2 q4_3 q4_4 q4_5 rfl rfl rfl rfl rfl rfl, List.forall_mem_cons.mpr ⟨errC_mk (x := "NothingToUndo") rfl kp_5 ex_5 sb_5 ty_5 hg_5 hk_5 hd_5 ha_5 hn_5 ht_5 hm_5 t1 t2 t3 t4_5 q5_0 q5_1 q5_2 q5_3 q5_4 q5_5 rfl rfl rfl rfl rfl rfl, fun _ h => nomatch h⟩⟩⟩)
    g_DAY := ⟨_, PySem.W.mg_of X G g0⟩
    g_MOST_PRICE := ⟨_, PySem.W.mg_of X G g1⟩
    g_MOST_CAP := ⟨_, PySem.W.mg_of X G g2⟩
    g_MOST_RIDES := ⟨_, PySem.W.mg_of X G g3⟩
    n_all := PySem.W.mg_none_of X G z0
    n_bool := PySem.W.mg_none_of X G z1
    n_enumerate := PySem.W.mg_none_of X G z2
    n_int := PySem.W.mg_none_of X G z3
    n_isinstance := PySem.W.mg_none_of X G z4
    n_len := PySem.W.mg_none_of X G z5
    n_list := PySem.W.mg_none_of X G z6
    n_max := PySem.W.mg_none_of X G z7
    n_min := PySem.W.mg_none_of X G z8
    n_range := PySem.W.mg_none_of X G z9
    n_str := PySem.W.mg_none_of X G z10
    n_tuple := PySem.W.mg_none_of X G z11
    n_zip := PySem.W.mg_none_of X G z12
  }
  letI : TabNames := ⟨fun _ => ""⟩
  exact law_tab2 (qlam "law") (qlam "_law_step") tabs tabs1 (PySem.W.mg_of X G a24) l24 rfl rfl tc0 tv0 tn0 (PySem.W.mg_of X G a23) l23 rfl rfl tc1 tv1 tn1 hne (fun s v => .of_eq rfl) (fun ns hl => ⟨ns, rfl, ⟨hl, rfl⟩, fun _ => rfl⟩) fun _ base hn hn1 _ _ TB TB1 => fn_law T (fun_mk (st := s_law) l24 c24 k24) TB rfl (List.mem_cons_self ..) hn (fun_mk (st := s_L_step) l23 c23 k23) (PySem.W.mg_of X G a23) TB1 rfl (List.mem_cons_of_mem _ (List.mem_singleton.mpr rfl)) hn1
end LAW
open PySem PySem.W PyProof.Rows
set_option maxHeartbeats 0 in
theorem PySem.Challenge.cw_ridetickets_k19_cards_step_by_step_holds : PySem.Challenge.rw_ridetickets_k19_cards_step_by_step.Holds := by
  w_on; o_law; k_head; (case hw => w_witness2)
  k_fill
  refine LamX.walk_tabs (l := PySem.Challenge.rw_ridetickets_k19_cards_step_by_step) (n := 63) (k := 13) (x := "_law_script") (CX := fun _ => L2.CX0) ["law", "_law_step"] (by decide +kernel) rfl (by decide) rfl ⟨rfl, by decide, by decide⟩ (fun w h Y => by first | exact PySem.W.kIn_of Y | exact PySem.W.km_in_of Y) ?F (fun _ _ _ _ _ h => h)
  case F =>
    intro w mg fa h Y KX G hmg tabs
    refine' LAW.all_mk KX G hmg (tabs _ (List.mem_cons_self ..)) (tabs _ (List.mem_cons_of_mem _ (List.mem_singleton.mpr rfl))) ?qa0 ?ql0 ?qc0 ?qk0 ?qa1 ?ql1 ?qc1 ?qk1 ?qa2 ?ql2 ?qc2 ?qk2 ?qa3 ?ql3 ?qc3 ?qk3 ?qa4 ?ql4 ?qc4 ?qk4 ?qa5 ?ql5 ?qc5 ?qk5 ?qa6 ?ql6 ?qc6 ?qk6 ?qa7 ?ql7 ?qc7 ?qk7 ?qa8 ?ql8 ?qc8 ?qk8 ?qa9 ?ql9 ?qc9 ?qk9 ?qa10 ?ql10 ?qc10 ?qk10 ?qa11 ?ql11 ?qc11 ?qk11 ?qa12 ?ql12 ?qc12 ?qk12 ?qa13 ?ql13 ?qc13 ?qk13 ?qa14 ?ql14 ?qc14 ?qk14 ?qa15 ?ql15 ?qc15 ?qk15 ?qa16 ?ql16 ?qc16 ?qk16 ?qa17 ?ql17 ?qc17 ?qk17 ?qa18 ?ql18 ?qc18 ?qk18 ?qa19 ?ql19 ?qc19 ?qk19 ?qa20 ?ql20 ?qc20 ?qk20 ?qa21 ?ql21 ?qc21 ?qk21 ?qa22 ?ql22 ?qc22 ?qk22 ?qa23 ?ql23 ?qc23 ?qk23 ?qa24 ?ql24 ?qc24 ?qk24 ?qtc0 ?qtv0 ?qtn0 ?qtc1 ?qtv1 ?qtn1 ?qhne ?qcC ?qmf0 ?qmi0 ?qml0 ?qmc0 ?qmk0 ?qmf1 ?qmi1 ?qml1 ?qmc1 ?qmk1 ?qmf2 ?qmi2 ?qml2 ?qmc2 ?qmk2 ?qmkd2_0 ?qmf3 ?qmi3 ?qml3 ?qmc3 ?qmk3 ?qmf4 ?qmr4 ?qmi4 ?qml4 ?qmc4 ?qmk4 ?qmf5 ?qmg5 ?qmt5 ?qmr5 ?qml5 ?qmc5 ?qmk5 ?qmf6 ?qmg6 ?qmt6 ?qmr6 ?qml6 ?qmc6 ?qmk6 ?qmf7 ?qmg7 ?qmt7 ?qmr7 ?qml7 ?qmc7 ?qmk7 ?qmf8 ?qmg8 ?qmt8 ?qmr8 ?qml8 ?qmc8 ?qmk8 ?qmf9 ?qmi9 ?qml9 ?qmc9 ?qmk9 ?qmf10 ?qmg10 ?qmt10 ?qmr10 ?qml10 ?qmc10 ?qmk10 ?qmf11 ?qmi11 ?qml11 ?qmc11 ?qmk11 ?qck1 ?qck2 ?qcp1 ?qcp2 ?qcp3 ?qcp4 ?qcn1 ?qcn2 ?qcd1 ?qcd2 ?qcr1 ?qcr2 ?qcv1 ?qctp ?qci1 ?qci2 ?qci3 ?qci4 ?qci5 ?qci6 ?qeT ?qe0 ?qe1 ?qe2 ?qe3 ?qe4 ?qe5 ?qt1 ?qt2 ?qt3 ?qkp_3 ?qex_3 ?qsb_3 ?qty_3 ?qhg_3 ?qhk_3 ?qhd_3 ?qha_3 ?qhn_3 ?qht_3 ?qhm_3 ?qt4_3 ?qq3_0 ?qq3_1 ?qq3_2 ?qq3_3 ?qq3_4 ?qq3_5 ?qkp_4 ?qex_4 ?qsb_4 ?qty_4 ?qhg_4 ?qhk_4 ?qhd_4 ?qha_4 ?qhn_4 ?qht_4 ?qhm_4 ?qt4_4 ?qq4_0 ?qq4_1 ?qq4_2 ?qq4_3 ?qq4_4 ?qq4_5 ?qkp_5 ?qex_5 ?qsb_5 ?qty_5 ?qhg_5 ?qhk_5 ?qhd_5 ?qha_5 ?qhn_5 ?qht_5 ?qhm_5 ?qt4_5 ?qq5_0 ?qq5_1 ?qq5_2 ?qq5_3 ?qq5_4 ?qq5_5 ?qg0 ?qg1 ?qg2 ?qg3 ?qz0 ?qz1 ?qz2 ?qz3 ?qz4 ?qz5 ?qz6 ?qz7 ?qz8 ?qz9 ?qz10 ?qz11 ?qz12
    (case qa0 => k_is)
    (case ql0 => k_is)
    (case qc0 => k_is)
    (case qk0 => k_is)
    (case qa1 => k_is)
    (case ql1 => k_is)
    (case qc1 => k_is)
    (case qk1 => k_is)
    (case qa2 => k_is)
    (case ql2 => k_is)
    (case qc2 => k_is)
    (case qk2 => k_is)
    (case qa3 => k_is)
    (case ql3 => k_is)
    (case qc3 => k_is)
    (case qk3 => k_is)
    (case qa4 => k_is)
    (case ql4 => k_is)
    (case qc4 => k_is)
    (case qk4 => k_is)
    (case qa5 => k_is)
    (case ql5 => k_is)
    (case qc5 => k_is)
    (case qk5 => k_is)
    (case qa6 => k_is)
    (case ql6 => k_is)
    (case qc6 => k_is)
    (case qk6 => k_is)
    (case qa7 => k_is)
    (case ql7 => k_is)
    (case qc7 => k_is)
    (case qk7 => k_is)
    (case qa8 => k_is)
    (case ql8 => k_is)
    (case qc8 => k_is)
    (case qk8 => k_is)
    (case qa9 => k_is)
    (case ql9 => k_is)
    (case qc9 => k_is)
    (case qk9 => k_is)
    (case qa10 => k_is)
    (case ql10 => k_is)
    (case qc10 => k_is)
    (case qk10 => k_is)
    (case qa11 => k_is)
    (case ql11 => k_is)
    (case qc11 => k_is)
    (case qk11 => k_is)
    (case qa12 => k_is)
    (case ql12 => k_is)
    (case qc12 => k_is)
    (case qk12 => k_is)
    (case qa13 => k_is)
    (case ql13 => k_is)
    (case qc13 => k_is)
    (case qk13 => k_is)
    (case qa14 => k_is)
    (case ql14 => k_is)
    (case qc14 => k_is)
    (case qk14 => k_is)
    (case qa15 => k_is)
    (case ql15 => k_is)
    (case qc15 => k_is)
    (case qk15 => k_is)
    (case qa16 => k_is)
    (case ql16 => k_is)
    (case qc16 => k_is)
    (case qk16 => k_is)
    (case qa17 => k_is)
    (case ql17 => k_is)
    (case qc17 => k_is)
    (case qk17 => k_is)
    (case qa18 => k_is)
    (case ql18 => k_is)
    (case qc18 => k_is)
    (case qk18 => k_is)
    (case qa19 => k_is)
    (case ql19 => k_is)
    (case qc19 => k_is)
    (case qk19 => k_is)
    (case qa20 => k_is)
    (case ql20 => k_is)
    (case qc20 => k_is)
    (case qk20 => k_is)
    (case qa21 => k_is)
    (case ql21 => k_is)
    (case qc21 => k_is)
    (case qk21 => k_is)
    (case qa22 => k_is)
    (case ql22 => k_is)
    (case qc22 => k_is)
    (case qk22 => k_is)
    (case qa23 => k_is)
    (case ql23 => k_is)
    (case qc23 => k_is)
    (case qk23 => k_is)
    (case qa24 => k_is)
    (case ql24 => k_is)
    (case qc24 => k_is)
    (case qk24 => k_is)
    (case qtc0 => k_is)
    (case qtv0 => exact rfl)
    (case qtn0 => kernel_rfl)
    (case qtc1 => k_is)
    (case qtv1 => exact rfl)
    (case qtn1 => kernel_rfl)
    (case qhne => exact rfl)
    (case qcC => k_is)
    (case qmf0 => k_is)
    (case qmi0 => k_is)
    (case qml0 => k_is)
    (case qmc0 => k_is)
    (case qmk0 => k_is)
    (case qmf1 => k_is)
    (case qmi1 => k_is)
    (case qml1 => k_is)
    (case qmc1 => k_is)
    (case qmk1 => k_is)
    (case qmf2 => k_is)
    (case qmi2 => k_is)
    (case qml2 => k_is)
    (case qmc2 => k_is)
    (case qmk2 => k_is)
    (case qmkd2_0 => k_is)
    (case qmf3 => k_is)
    (case qmi3 => k_is)
    (case qml3 => k_is)
    (case qmc3 => k_is)
    (case qmk3 => k_is)
    (case qmf4 => k_is)
    (case qmr4 => k_is)
    (case qmi4 => k_is)
    (case qml4 => k_is)
    (case qmc4 => k_is)
    (case qmk4 => k_is)
    (case qmf5 => k_is)
    (case qmg5 => k_is)
    (case qmt5 => k_is)
    (case qmr5 => k_is)
    (case qml5 => k_is)
    (case qmc5 => k_is)
    (case qmk5 => k_is)
    (case qmf6 => k_is)
    (case qmg6 => k_is)
    (case qmt6 => k_is)
    (case qmr6 => k_is)
    (case qml6 => k_is)
    (case qmc6 => k_is)
    (case qmk6 => k_is)
    (case qmf7 => k_is)
    (case qmg7 => k_is)
    (case qmt7 => k_is)
    (case qmr7 => k_is)
    (case qml7 => k_is)
    (case qmc7 => k_is)
    (case qmk7 => k_is)
    (case qmf8 => k_is)
    (case qmg8 => k_is)
    (case qmt8 => k_is)
    (case qmr8 => k_is)
    (case qml8 => k_is)
    (case qmc8 => k_is)
    (case qmk8 => k_is)
    (case qmf9 => k_is)
    (case qmi9 => k_is)
    (case qml9 => k_is)
    (case qmc9 => k_is)
    (case qmk9 => k_is)
    (case qmf10 => k_is)
    (case qmg10 => k_is)
    (case qmt10 => k_is)
    (case qmr10 => k_is)
    (case qml10 => k_is)
    (case qmc10 => k_is)
    (case qmk10 => k_is)
    (case qmf11 => k_is)
    (case qmi11 => k_is)
    (case qml11 => k_is)
    (case qmc11 => k_is)
    (case qmk11 => k_is)
    (case qck1 => k_is)
    (case qck2 => k_is)
    (case qcp1 => k_is)
    (case qcp2 => k_is)
    (case qcp3 => k_is)
    (case qcp4 => k_is)
    (case qcn1 => k_is)
    (case qcn2 => k_is)
    (case qcd1 => k_is)
    (case qcd2 => k_is)
    (case qcr1 => k_is)
    (case qcr2 => k_is)
    (case qcv1 => k_is)
    (case qctp => k_is)
    (case qci1 => k_is)
    (case qci2 => k_is)
    (case qci3 => k_is)
    (case qci4 => k_is)
    (case qci5 => kit_is)
    (case qci6 => kit_is)
    (case qeT => k_is)
    (case qe0 => k_is)
    (case qe1 => k_is)
    (case qe2 => k_is)
    (case qe3 => k_is)
    (case qe4 => k_is)
    (case qe5 => k_is)
    (case qt1 => k_is)
    (case qt2 => k_is)
    (case qt3 => k_is)
    (case qkp_3 => k_is)
    (case qex_3 => k_exc)
    (case qsb_3 => k_is)
    (case qty_3 => k_is)
    (case qhg_3 => k_is)
    (case qhk_3 => k_is)
    (case qhd_3 => k_is)
    (case qha_3 => k_is)
    (case qhn_3 => k_is)
    (case qht_3 => k_is)
    (case qhm_3 => k_is)
    (case qt4_3 => k_is)
    (case qq3_0 => kit_is)
    (case qq3_1 => kit_is)
    (case qq3_2 => kit_is)
    (case qq3_3 => kit_is)
    (case qq3_4 => kit_is)
    (case qq3_5 => kit_is)
    (case qkp_4 => k_is)
    (case qex_4 => k_exc)
    (case qsb_4 => k_is)
    (case qty_4 => k_is)
    (case qhg_4 => k_is)
    (case qhk_4 => k_is)
    (case qhd_4 => k_is)
    (case qha_4 => k_is)
    (case qhn_4 => k_is)
    (case qht_4 => k_is)
    (case qhm_4 => k_is)
    (case qt4_4 => k_is)
    (case qq4_0 => kit_is)
    (case qq4_1 => kit_is)
    (case qq4_2 => kit_is)
    (case qq4_3 => kit_is)
    (case qq4_4 => kit_is)
    (case qq4_5 => kit_is)
    (case qkp_5 => k_is)
    (case qex_5 => k_exc)
    (case qsb_5 => k_is)
    (case qty_5 => k_is)
    (case qhg_5 => k_is)
    (case qhk_5 => k_is)
    (case qhd_5 => k_is)
    (case qha_5 => k_is)
    (case qhn_5 => k_is)
    (case qht_5 => k_is)
    (case qhm_5 => k_is)
    (case qt4_5 => k_is)
    (case qq5_0 => kit_is)
    (case qq5_1 => kit_is)
    (case qq5_2 => kit_is)
    (case qq5_3 => kit_is)
    (case qq5_4 => kit_is)
    (case qq5_5 => kit_is)
    (case qg0 => k_is)
    (case qg1 => k_is)
    (case qg2 => k_is)
    (case qg3 => k_is)
    (case qz0 => k_is)
    (case qz1 => k_is)
    (case qz2 => k_is)
    (case qz3 => k_is)
    (case qz4 => k_is)
    (case qz5 => k_is)
    (case qz6 => k_is)
    (case qz7 => k_is)
    (case qz8 => k_is)
    (case qz9 => k_is)
    (case qz10 => k_is)
    (case qz11 => k_is)
    (case qz12 => k_is)

