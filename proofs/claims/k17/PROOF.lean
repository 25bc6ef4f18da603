import PyProof.Rows.All
import PySem.Challenge.RW_ridetickets_k17_whole_lengths_from_what
import HandS.ForMost
import HandS.Zip
import HandS.TupAny
import HandS.IsInst
import HandS.SortInts
import HandS.Style
import HandS.Steps
import HandS.Lambda
import HandS.Conv
import HandS.TryOnly
import HandS.Strs
import HandS.SetFor
import HandS.Star
import KE.GoesMore
import KE.GoesEnum
import KE.DataMinMax
import HandS.SortRule
import PyProof.Rows.SetFrom
set_option Elab.async false
set_option linter.all false
set_option maxRecDepth 100000
set_option maxHeartbeats 4000000
/-! DLa: data without a heap. -/
namespace DL
open PySem PySem.Spec PyProof.Rows L2

/-- a bag: three ints that are not negative, the third at most n -/
def bagAt (b : Addr) (n : Nat) : Heap → Prop := fun h => ∃ (i j c : Int) (t1 t2 t3 : Tok) (m : Nat),
  h.get? b = some { cls := .type "list", data := .seq [Value.int i t1, Value.int j t2, Value.int c t3].toArray m } ∧ 0 ≤ i ∧ 0 ≤ j ∧ 0 ≤ c ∧ c ≤ n

inductive D where
  | v (x : V)
  | tup (ds : List D)
  | lst (ds : List D)
  | scr (ns : List Int)
  | bag
  | fix (P : Nat → Hp → (Addr → Prop) → Addr → Prop)
abbrev D.int (i : Int) : D := .v (.int i)
abbrev D.bl (b : Bool) : D := .v (.bl b)
abbrev D.str (x : Str) : D := .v (.str x)
abbrev D.non : D := .v .non

/-- the names that the code objects of a table bear -/
class TabNames where
  nm : Addr → Str
variable [TabNames]
/-- the heap grows; bags may turn, at most k times; tables of code objects may grow -/
structure ExK (k : Nat) (H H' : Hp) : Prop where
  ob : ∀ a o, H a = some o → H' a = some o ∨ ((∃ n, o = .ext (bagAt a n)) ∧ ∀ n, o = .ext (bagAt a n) → ∃ m, m ≤ n + k ∧ H' a = some (.ext (bagAt a m))) ∨ ((∃ ps, o = .tbl ps) ∧ ∃ ps, H' a = some (.tbl ps))
  tb : ∀ P, LamX.TabS H P (TabNames.nm P) → LamX.TabS H' P (TabNames.nm P)
theorem ExK.refl (H : Hp) : ExK 0 H H := ⟨fun _ _ h => .inl h, fun _ h => h⟩
theorem ExK.trans {j k : Nat} {H H1 H2 : Hp} (p : ExK j H H1) (q : ExK k H1 H2) : ExK (j + k) H H2 := ⟨fun a o h => by
  rcases p.ob a o h with h1 | ⟨⟨n0, e0⟩, f⟩ | ⟨⟨ps, e0⟩, ps1, h1⟩
  · rcases q.ob a o h1 with h2 | ⟨e, g⟩ | h2
    · exact .inl h2
    · refine .inr (.inl ⟨e, fun n en => ?_⟩)
      obtain ⟨m, hm, h2⟩ := g n en
      exact ⟨m, by omega, h2⟩
    · exact .inr (.inr h2)
  · refine .inr (.inl ⟨⟨n0, e0⟩, fun n en => ?_⟩)
    obtain ⟨m, hm, h1⟩ := f n en
    rcases q.ob a _ h1 with h2 | ⟨_, g⟩ | ⟨⟨ps, e⟩, _⟩
    · exact ⟨m, by omega, h2⟩
    · obtain ⟨m2, hm2, h2⟩ := g m rfl
      exact ⟨m2, by omega, h2⟩
    · cases e
  · rcases q.ob a _ h1 with h2 | ⟨⟨n, e⟩, _⟩ | ⟨_, h2⟩
    · exact .inr (.inr ⟨⟨ps, e0⟩, ps1, h2⟩)
    · cases e
    · exact .inr (.inr ⟨⟨ps, e0⟩, h2⟩), fun P h => q.tb P (p.tb P h)⟩
theorem ExK.mono {j k : Nat} {H H' : Hp} (p : ExK j H H') (h : j ≤ k) : ExK k H H' := ⟨fun a o e => by
  rcases p.ob a o e with q | ⟨q, f⟩ | q
  · exact .inl q
  · refine .inr (.inl ⟨q, fun n en => ?_⟩)
    obtain ⟨m, hm, h1⟩ := f n en
    exact ⟨m, by omega, h1⟩
  · exact .inr (.inr q), p.tb⟩
theorem ExK.new {H : Hp} {p : Addr} {o : HO} (h : H p = none) : ExK 0 H (upd H p o) :=
  have up : ∀ a u, H a = some u → upd H p o a = some u := fun a u e => by
    rw [upd_ne (ne_of_none e h)]
    exact e
  ⟨fun a u e => .inl (up a u e), fun _ t => t.ext up⟩
theorem ExK.there {k : Nat} {H H' : Hp} (p : ExK k H H') {a : Addr} {o : HO} (e : H a = some o) : ∃ o', H' a = some o' := by
  rcases p.ob a o e with h | ⟨⟨n, en⟩, f⟩ | ⟨_, ps, h⟩
  · exact ⟨o, h⟩
  · obtain ⟨m, _, h⟩ := f n en
    exact ⟨_, h⟩
  · exact ⟨_, h⟩
theorem ExK.back {k : Nat} {H H' : Hp} (p : ExK k H H') {a : Addr} (e : H' a = none) : H a = none := by
  cases h : H a with
  | none => rfl
  | some o =>
    obtain ⟨o', h'⟩ := p.there h
    rw [e] at h'
    cases h'
theorem ExK.kept {k : Nat} {H H' : Hp} (p : ExK k H H') {a : Addr} {o : HO} (e : H a = some o) (ne : ∀ φ, o ≠ .ext φ) (nt : ∀ ps, o ≠ .tbl ps := by intro ps h; cases h) : H' a = some o := by
  rcases p.ob a o e with h | ⟨⟨n, en⟩, f⟩ | ⟨⟨ps, en⟩, _⟩
  · exact h
  · exact absurd en (ne _)
  · exact absurd en (nt _)
theorem ExK.lst {k : Nat} {H H' : Hp} (p : ExK k H H') {a : Addr} {xs : List V} (e : H a = some (.lst xs)) : H' a = some (.lst xs) := p.kept e (fun φ h => by cases h)
theorem ExK.tup {k : Nat} {H H' : Hp} (p : ExK k H H') {a : Addr} {xs : List V} (e : H a = some (.tup xs)) : H' a = some (.tup xs) := p.kept e (fun φ h => by cases h)
/-- a code object is no bag -/
theorem codeO_bag {c : Addr} {q : Str} {n : Nat} : LamX.CodeO c q ≠ .ext (bagAt c n) := fun e => by
  unfold LamX.CodeO at e
  have f := HO.ext.inj e
  have hg : (⟨Array.replicate (c + 1) { cls := .type "list", data := .seq [Value.int 0 0, Value.int 0 0, Value.int 0 0].toArray 0 }, {}⟩ : Heap).get? c = some { cls := .type "list", data := .seq [Value.int 0 0, Value.int 0 0, Value.int 0 0].toArray 0 } :=
    Heap.get?_some_iff.mpr ⟨by simp, rfl⟩
  have b : bagAt c n (⟨Array.replicate (c + 1) { cls := .type "list", data := .seq [Value.int 0 0, Value.int 0 0, Value.int 0 0].toArray 0 }, {}⟩ : Heap) := ⟨0, 0, 0, 0, 0, 0, 0, hg, by decide, by decide, by decide, by omega⟩
  rw [← f] at b
  obtain ⟨oc, vs, t, h1, h2, _⟩ := b
  rw [hg] at h1
  cases h1
  cases h2
theorem ExK.frz {k : Nat} {H H' : Hp} (p : ExK k H H') {a : Addr} {ob : Obj} {u : HO} (e : H a = some (.frz ob u)) : H' a = some (.frz ob u) := p.kept e (fun φ h => by cases h)
theorem codeO_tbl {c : Addr} {q : Str} {ps : Array Value} : LamX.CodeO c q ≠ .tbl ps := fun z => by
  unfold LamX.CodeO at z
  cases z
theorem codeO_lst {c : Addr} {q : Str} {ps : List V} : LamX.CodeO c q ≠ .lst ps := fun z => by
  unfold LamX.CodeO at z
  cases z
theorem ExK.cod {k : Nat} {H H' : Hp} (p : ExK k H H') {a : Addr} {q : Str} (e : H a = some (LamX.CodeO a q)) : H' a = some (LamX.CodeO a q) := by
  rcases p.ob a _ e with h | ⟨⟨n, en⟩, _⟩ | ⟨⟨ps, en⟩, _⟩
  · exact h
  · exact absurd en codeO_bag
  · exact absurd en codeO_tbl
theorem ExK.rd {k : Nat} {H H' : Hp} (p : ExK k H H') {a : Addr} {xs : List V} (e : Rd H a (.lst xs)) : Rd H' a (.lst xs) := by
  rcases e with e | ⟨o, e⟩
  · exact .inl (p.lst e)
  · exact .inr ⟨o, p.kept e (fun φ h => by cases h)⟩
/-- a list is written: no table is touched -/
theorem tab_wr {H : Hp} {P a : Addr} {q : Str} {xs : List V} {o : HO} (h : H a = some (.lst xs)) (t : LamX.TabS H P q) : LamX.TabS (upd H a o) P q := by
  obtain ⟨ps, h1, h2, h3⟩ := t
  have ne : ∀ b u, (∀ ys, u ≠ HO.lst ys) → H b = some u → upd H a o b = some u := fun b u n e => by
    rw [upd_ne (fun z => by rw [z, h] at e; cases e; exact n _ rfl)]
    exact e
  refine ⟨ps, ne _ _ (fun _ z => by cases z) h1, h2, fun pos cv hc => ?_⟩
  obtain ⟨c, e1, e2⟩ := h3 pos cv hc
  exact ⟨c, e1, ne _ _ (fun _ z => by unfold LamX.CodeO at z; cases z) e2⟩
theorem ExK.sqL {k : Nat} {H H' : Hp} (p : ExK k H H') {K : PySem.W.Frag} {a : Addr} {xs : List V} (e : SqL K H a xs) : SqL K H' a xs := by
  rcases e with (e | ⟨o, e⟩) | e
  · exact .inl (.inl (p.lst e))
  · exact .inl (.inr ⟨o, p.kept e (fun φ h => by cases h)⟩)
  · exact .inr e

/-- a list that nobody writes: known to the object, or of the written part -/
def SqF (K : PySem.W.Frag) (H : Hp) (a : Addr) (xs : List V) : Prop := (∃ o, H a = some (.frz o (.lst xs))) ∨
  ∃ (o : Obj) (its : Array Value) (n : Nat), K.lookup a = some o ∧ o.cls = .type "list" ∧ o.dict = none ∧ o.data = .seq its n ∧ its.size ≤ sizeLine ∧ Vals xs its.toList
theorem SqF.l {K : PySem.W.Frag} {H : Hp} {a : Addr} {xs : List V} (h : SqF K H a xs) : SqL K H a xs := by
  rcases h with ⟨o, h⟩ | h
  · exact .inl (.inr ⟨o, h⟩)
  · exact .inr h
theorem SqF.to {K : PySem.W.Frag} {H H' : Hp} {a : Addr} {xs : List V} (h : SqF K H a xs) (e : ∀ o, H a = some (.frz o (.lst xs)) → H' a = some (.frz o (.lst xs))) : SqF K H' a xs := by
  rcases h with ⟨o, h⟩ | h
  · exact .inl ⟨o, e o h⟩
  · exact .inr h
structure Gro (K : PySem.W.Frag) (N N' : Nat) (Z Z' : Addr → Prop) (H H' : Hp) : Prop where
  tup : ∀ a xs, H a = some (.tup xs) → H' a = some (.tup xs)
  lst : ∀ a xs, H a = some (.lst xs) → ¬ Z a → H' a = some (.lst xs) ∧ ¬ Z' a
  scr : ∀ a xs, SqF K H a xs → SqF K H' a xs
  bag : ∀ a m, m ≤ N → H a = some (.ext (bagAt a m)) → ∃ m', m' ≤ N' ∧ H' a = some (.ext (bagAt a m'))
  frz : ∀ a ob u, H a = some (.frz ob u) → H' a = some (.frz ob u)
  cod : ∀ a q, H a = some (LamX.CodeO a q) → H' a = some (LamX.CodeO a q)
  ins : ∀ a C dx fs, H a = some (.ins C dx fs) → H' a = some (.ins C dx fs)
/-- what is true of a value while the heap grows -/
def Stab (K : PySem.W.Frag) (P : Nat → Hp → (Addr → Prop) → Addr → Prop) : Prop := ∀ (N N' : Nat) (Z Z' : Addr → Prop) (H H' : Hp) (v : Addr), Gro K N N' Z Z' H H' → P N H Z v → P N' H' Z' v
/-! ### which value bears which data -/
mutual
inductive Dt (K : PySem.W.Frag) (N : Nat) (H : Hp) (Z : Addr → Prop) : V → D → Prop
  | v (x : V) : Dt K N H Z x (.v x)
  | tup {a : Addr} {xs : List V} {ds : List D} : H a = some (.tup xs) → DtAll K N H Z xs ds → Dt K N H Z (.ref a) (.tup ds)
  | lst {a : Addr} {xs : List V} {ds : List D} : H a = some (.lst xs) → ¬ Z a → DtAll K N H Z xs ds → Dt K N H Z (.ref a) (.lst ds)
  | scr {a : Addr} {ns : List Int} : SqF K H a (ns.map V.int) → Dt K N H Z (.ref a) (.scr ns)
  | bag {a : Addr} {m : Nat} : m ≤ N → H a = some (.ext (bagAt a m)) → Dt K N H Z (.ref a) .bag
  | fix {a : Addr} {P : Nat → Hp → (Addr → Prop) → Addr → Prop} : Stab K P → P N H Z a → Dt K N H Z (.ref a) (.fix P)
inductive DtAll (K : PySem.W.Frag) (N : Nat) (H : Hp) (Z : Addr → Prop) : List V → List D → Prop
  | nil : DtAll K N H Z [] []
  | cons {v : V} {vs : List V} {d : D} {ds : List D} : Dt K N H Z v d → DtAll K N H Z vs ds → DtAll K N H Z (v :: vs) (d :: ds)
end

section
variable {K : PySem.W.Frag} {N N' : Nat} {Z Z' : Addr → Prop} {H H' : Hp}
mutual
theorem Dt.gro (g : Gro K N N' Z Z' H H') : ∀ {v : V} {d : D}, Dt K N H Z v d → Dt K N' H' Z' v d
  | _, _, .v x => .v x
  | _, _, .tup h r => .tup (g.tup _ _ h) (DtAll.gro g r)
  | _, _, .lst h z r => .lst (g.lst _ _ h z).1 (g.lst _ _ h z).2 (DtAll.gro g r)
  | _, _, .scr h => .scr (g.scr _ _ h)
  | _, _, .bag hm h => by
    obtain ⟨m', h1, h2⟩ := g.bag _ _ hm h
    exact .bag h1 h2
  | _, _, .fix s h => .fix s (s _ _ _ _ _ _ _ g h)
theorem DtAll.gro (g : Gro K N N' Z Z' H H') : ∀ {vs : List V} {ds : List D}, DtAll K N H Z vs ds → DtAll K N' H' Z' vs ds
  | _, _, .nil => .nil
  | _, _, .cons h r => .cons (Dt.gro g h) (DtAll.gro g r)
end
theorem Gro.ex {k : Nat} (e : ExK k H H') : Gro K N (N + k) Z Z H H' where
  tup := fun a xs h => e.tup h
  lst := fun a xs h z => ⟨e.lst h, z⟩
  scr := fun a xs h => h.to fun o e' => e.kept e' (fun φ h => by cases h)
  bag := fun a m hm h => by
    rcases e.ob a _ h with h1 | ⟨_, f⟩ | ⟨⟨ps, z⟩, _⟩
    · exact ⟨m, by omega, h1⟩
    · obtain ⟨m', h1, h2⟩ := f m rfl
      exact ⟨m', by omega, h2⟩
    · cases z
  frz := fun a ob u h => e.frz h
  cod := fun a q h => e.cod h
  ins := fun a C dx fs h => e.kept h (fun φ z => by cases z)
/-- another zone -/
theorem Gro.zone (hz : ∀ a, Z' a → Z a) (hN : N ≤ N') : Gro K N N' Z Z' H H where
  tup := fun a xs h => h
  lst := fun a xs h z => ⟨h, fun z' => z (hz a z')⟩
  scr := fun a xs h => h
  bag := fun a m hm h => ⟨m, by omega, h⟩
  frz := fun a ob u h => h
  cod := fun a q h => h
  ins := fun a C dx fs h => h
theorem Dt.ex {k : Nat} (e : ExK k H H') {v : V} {d : D} (h : Dt K N H Z v d) : Dt K (N + k) H' Z v d := h.gro (.ex e)
theorem DtAll.ex {k : Nat} (e : ExK k H H') {vs : List V} {ds : List D} (h : DtAll K N H Z vs ds) : DtAll K (N + k) H' Z vs ds := h.gro (.ex e)
theorem Dt.ex0 (e : ExK 0 H H') {v : V} {d : D} (h : Dt K N H Z v d) : Dt K N H' Z v d := h.ex e
theorem DtAll.ex0 (e : ExK 0 H H') {vs : List V} {ds : List D} (h : DtAll K N H Z vs ds) : DtAll K N H' Z vs ds := h.ex e
theorem DtAll.length : ∀ {vs : List V} {ds : List D}, DtAll K N H Z vs ds → vs.length = ds.length
  | _, _, .nil => rfl
  | _, _, .cons _ r => congrArg (· + 1) r.length
theorem DtAll.append : ∀ {vs ws : List V} {ds es : List D}, DtAll K N H Z vs ds → DtAll K N H Z ws es → DtAll K N H Z (vs ++ ws) (ds ++ es)
  | _, _, _, _, .nil, h => h
  | _, _, _, _, .cons a r, h => .cons a (r.append h)
theorem DtAll.take : ∀ {vs : List V} {ds : List D} (n : Nat), DtAll K N H Z vs ds → DtAll K N H Z (vs.take n) (ds.take n)
  | _, _, 0, _ => .nil
  | _, _, n + 1, .nil => .nil
  | _, _, n + 1, .cons a r => .cons a (r.take n)
theorem DtAll.drop : ∀ {vs : List V} {ds : List D} (n : Nat), DtAll K N H Z vs ds → DtAll K N H Z (vs.drop n) (ds.drop n)
  | _, _, 0, h => h
  | _, _, n + 1, .nil => .nil
  | _, _, n + 1, .cons a r => r.drop n
theorem DtAll.get : ∀ {vs : List V} {ds : List D} {i : Nat} {d : D}, DtAll K N H Z vs ds → ds[i]? = some d → ∃ v, vs[i]? = some v ∧ Dt K N H Z v d
  | _, _, _, _, .nil, h => by simp at h
  | _, _, 0, _, .cons a r, h => by
    simp at h
    subst h
    exact ⟨_, rfl, a⟩
  | _, _, i + 1, _, .cons a r, h => by
    obtain ⟨v, h1, h2⟩ := r.get (i := i) (by simpa using h)
    exact ⟨v, by simpa using h1, h2⟩
theorem DtAll.getv : ∀ {vs : List V} {ds : List D} {i : Nat} {v : V}, DtAll K N H Z vs ds → vs[i]? = some v → ∃ d, ds[i]? = some d ∧ Dt K N H Z v d
  | _, _, _, _, .nil, h => by simp at h
  | _, _, 0, _, .cons a r, h => by
    simp at h
    subst h
    exact ⟨_, rfl, a⟩
  | _, _, i + 1, _, .cons a r, h => by
    obtain ⟨v, h1, h2⟩ := r.getv (i := i) (by simpa using h)
    exact ⟨v, by simpa using h1, h2⟩
/-- scalars are themselves -/
theorem DtAll.vals : ∀ {vs : List V} {xs : List V}, DtAll K N H Z vs (xs.map D.v) → vs = xs
  | _, [], .nil => rfl
  | _, x :: xs, .cons (.v _) r => by rw [r.vals]
theorem DtAll.ofVals : ∀ (xs : List V), DtAll K N H Z xs (xs.map D.v)
  | [] => .nil
  | x :: xs => .cons (.v x) (DtAll.ofVals xs)
theorem DtAll.ints {vs : List V} {ns : List Int} (h : DtAll K N H Z vs (ns.map D.int)) : vs = ns.map V.int := by
  have e : ns.map D.int = (ns.map V.int).map D.v := by rw [List.map_map]; rfl
  rw [e] at h
  exact h.vals
theorem DtAll.ofInts (ns : List Int) : DtAll K N H Z (ns.map V.int) (ns.map D.int) := by
  have e : ns.map D.int = (ns.map V.int).map D.v := by rw [List.map_map]; rfl
  rw [e]
  exact .ofVals _
end

/-- the zone and one address more -/
abbrev Zp (Z : Addr → Prop) (p : Addr) : Addr → Prop := fun a => Z a ∨ a = p
section
variable {K : PySem.W.Frag} {N k : Nat} {Z : Addr → Prop} {H H' : Hp} {p : Addr}
theorem Gro.new (e : ExK k H H') (h : H p = none)   : Gro K N (N + k) Z (Zp Z p) H H' where
  tup := fun a xs h => e.tup h
  lst := fun a xs h1 z => ⟨e.lst h1, fun z' => z'.elim z fun e' => by rw [e', h] at h1; cases h1⟩
  scr := (Gro.ex (K := K) (N := N) (Z := Z) e).scr
  bag := (Gro.ex (K := K) (Z := Z) e).bag
  frz := fun a ob u h => e.frz h
  cod := fun a q h => e.cod h
  ins := fun a C dx fs h => e.kept h (fun φ z => by cases z)
end
/-! ### no list within: the zone does not matter -/
mutual
def D.lf : D → Bool
  | .v _ => true
  | .tup ds => D.lfs ds
  | .lst _ => false
  | .scr _ => false
  | .bag => true
  | .fix _ => false
def D.lfs : List D → Bool
  | [] => true
  | d :: ds => D.lf d && D.lfs ds
end
section
variable {K : PySem.W.Frag} {N : Nat} {Z Z' : Addr → Prop} {H : Hp}
mutual
theorem Dt.lfz : ∀ {v : V} {d : D}, Dt K N H Z v d → d.lf = true → Dt K N H Z' v d
  | _, _, .v x, _ => .v x
  | _, _, .tup h r, e => .tup h (DtAll.lfz r (by simpa [D.lf] using e))
  | _, _, .lst h z r, e => by simp [D.lf] at e
  | _, _, .scr h, e => by simp [D.lf] at e
  | _, _, .bag hm h, _ => .bag hm h
  | _, _, .fix _ _, e => by simp [D.lf] at e
theorem DtAll.lfz : ∀ {vs : List V} {ds : List D}, DtAll K N H Z vs ds → D.lfs ds = true → DtAll K N H Z' vs ds
  | _, _, .nil, _ => .nil
  | _, _, .cons h r, e => by
    simp only [D.lfs, Bool.and_eq_true] at e
    exact .cons (Dt.lfz h e.1) (DtAll.lfz r e.2)
end
end
theorem D.lfs_vals (xs : List V) : D.lfs (xs.map D.v) = true := by
  induction xs with
  | nil => rfl
  | cons x xs ih => simp [D.lfs, D.lf, ih]
theorem D.lfs_ints (ns : List Int) : D.lfs (ns.map D.int) = true := by
  induction ns with
  | nil => rfl
  | cons x xs ih => simp [D.lfs, D.lf, ih]

/-! ### what a slot holds: data, a list of the def's own, another name of such a list -/
inductive Sl where
  | dat (d : D)
  | own (ds : List D)
  | als (ds : List D)
def Sl.rd : Sl → D
  | .dat d => d
  | .own ds => .lst ds
  | .als ds => .lst ds
def Sl.nals : Sl → Bool
  | .als _ => false
  | _ => true
def Sl.lf : Sl → Bool
  | .dat d => d.lf
  | _ => false
abbrev StD := List (Option Sl)
def nth : StD → Nat → Option Sl
  | [], _ => none
  | s :: _, 0 => s
  | _ :: r, i + 1 => nth r i
def stn : StD → Nat → Sl → StD
  | [], _, _ => []
  | _ :: r, 0, s => some s :: r
  | a :: r, i + 1, s => a :: stn r i s
theorem nth_stn_same : ∀ {δ : StD} {i : Nat} {s t : Sl}, nth (stn δ i s) i = some t → t = s
  | [], _, _, _, h => by cases h
  | _ :: _, 0, _, _, h => (Option.some.inj h).symm
  | _ :: r, i + 1, _, _, h => nth_stn_same (δ := r) (i := i) h
theorem nth_stn_ne : ∀ {δ : StD} {i j : Nat} {s : Sl}, j ≠ i → nth (stn δ i s) j = nth δ j
  | [], _, _, _, _ => rfl
  | _ :: _, 0, 0, _, h => absurd rfl h
  | _ :: _, 0, _ + 1, _, _ => rfl
  | _ :: _, _ + 1, 0, _, _ => rfl
  | _ :: r, i + 1, j + 1, _, h => nth_stn_ne (δ := r) (i := i) (j := j) (fun e => h (by rw [e]))
theorem stn_length : ∀ {δ : StD} {i : Nat} {s : Sl}, (stn δ i s).length = δ.length
  | [], _, _ => rfl
  | _ :: _, 0, _ => rfl
  | _ :: r, i + 1, s => congrArg (· + 1) (stn_length (δ := r) (i := i) (s := s))
theorem nth_lt : ∀ {δ : StD} {i : Nat} {s : Sl}, nth δ i = some s → i < δ.length
  | [], _, _, h => by cases h
  | _ :: _, 0, _, _ => Nat.succ_pos _
  | _ :: r, i + 1, _, h => Nat.succ_lt_succ (nth_lt (δ := r) (i := i) h)
/-- what is global to a body: the written part, the wish about exceptions, the same by data -/
structure Gg where
  K : PySem.W.Frag
  E : XK
  Er : Value → Nat → Prop
  T : List Addr
/-- the entry: heap, zone, count -/
structure Bs where
  G : Gg
  H0 : Hp
  Z0 : Addr → Prop
  N0 : Nat
  eok : ∀ cls k H', ExK k H0 H' → G.Er cls (N0 + k) → G.E cls none H'
  tab : ∀ P ∈ G.T, LamX.TabS H0 P (TabNames.nm P)
abbrev Bs.K (B : Bs) : PySem.W.Frag := B.G.K
/-- a list of the zone, its items -/
def Zl (B : Bs) (N : Nat) (H : Hp) (Z : Addr → Prop) (v : V) (ds : List D) : Prop := ∃ a xs, v = .ref a ∧ Z a ∧ B.H0 a = none ∧ H a = some (.lst xs) ∧ DtAll B.K N H Z xs ds
/-- a slot's value -/
def Rp (B : Bs) (N : Nat) (H : Hp) (Z : Addr → Prop) (v : V) : Sl → Prop
  | .dat d => Dt B.K N H Z v d
  | .own ds => Zl B N H Z v ds
  | .als ds => Zl B N H Z v ds
/-- a value on the way: a list that is its own is fresh -/
def Tp (B : Bs) (N : Nat) (H : Hp) (Z : Addr → Prop) (v : V) : Sl → Prop
  | .dat d => Dt B.K N H Z v d
  | .own ds => Dt B.K N H Z v (.lst ds)
  | .als ds => Zl B N H Z v ds
/-- what is read: the outermost list may lie in the zone -/
def Dw (K : PySem.W.Frag) (N : Nat) (H : Hp) (Z : Addr → Prop) (v : V) : D → Prop
  | .lst ds => ∃ a xs, v = .ref a ∧ H a = some (.lst xs) ∧ DtAll K N H Z xs ds
  | d => Dt K N H Z v d
structure SD (B : Bs) (Z : Addr → Prop) (δ : StD) (σ : L2.St) (H : Hp) (N : Nat) : Prop where
  ex : ∃ k, N = B.N0 + k ∧ ExK k B.H0 H
  z0 : ∀ a, B.Z0 a → Z a
  z1 : ∀ a, B.Z0 a → B.H0 a ≠ none
  zt : ∀ a, Z a → ∃ xs, H a = some (.lst xs)
  len : δ.length = σ.length
  slot : ∀ (i : Nat) (s : Sl), nth δ i = some s → ∃ v, σ[i]? = some (some v) ∧ Rp B N H Z v s
  nals : ∀ (i : Nat) (ds : List D), nth δ i ≠ some (.als ds)
  d1 : ∀ (i j : Nat) (ds es : List D), i ≠ j → nth δ i = some (.own ds) → nth δ j = some (.own es) → σ[i]? ≠ σ[j]?
section
variable {B : Bs} {Z : Addr → Prop} {δ : StD} {σ : L2.St} {H H' : Hp} {N k : Nat}
theorem Zl.ex (e : ExK k H H') {v : V} {ds : List D} (h : Zl B N H Z v ds) : Zl B (N + k) H' Z v ds := by
  obtain ⟨a, xs, rfl, z, h0, ha, r⟩ := h
  exact ⟨a, xs, rfl, z, h0, e.lst ha, r.ex e⟩
theorem Rp.ex (e : ExK k H H') {v : V} {s : Sl} (h : Rp B N H Z v s) : Rp B (N + k) H' Z v s := by
  cases s with
  | dat d => exact Dt.ex e h
  | own ds => exact Zl.ex e h
  | als ds => exact Zl.ex e h
theorem Tp.ex (e : ExK k H H') {v : V} {s : Sl} (h : Tp B N H Z v s) : Tp B (N + k) H' Z v s := by
  cases s with
  | dat d => exact Dt.ex e h
  | own ds => exact Dt.ex e h
  | als ds => exact Zl.ex e h
theorem SD.ext (S : SD B Z δ σ H N) (e : ExK k H H') : SD B Z δ σ H' (N + k) where
  ex := by
    obtain ⟨j, hj, hx⟩ := S.ex
    exact ⟨j + k, by omega, hx.trans e⟩
  z0 := S.z0
  z1 := S.z1
  zt := fun a z => by
    obtain ⟨xs, h⟩ := S.zt a z
    exact ⟨xs, e.lst h⟩
  len := S.len
  slot := fun i s h => by
    obtain ⟨v, h1, h2⟩ := S.slot i s h
    exact ⟨v, h1, h2.ex e⟩
  nals := S.nals
  d1 := S.d1
theorem SD.ext0 (S : SD B Z δ σ H N) (e : ExK 0 H H') : SD B Z δ σ H' N := S.ext e
theorem Dw.of {K : PySem.W.Frag} {v : V} {d : D} (h : Dt K N H Z v d) : Dw K N H Z v d := by
  cases h with
  | v => exact .v _
  | tup h r => exact .tup h r
  | lst h z r => exact ⟨_, _, rfl, h, r⟩
  | scr h => exact .scr h
  | bag hm h => exact .bag hm h
  | fix s h => exact .fix s h
theorem Dw.ex {K : PySem.W.Frag} {v : V} {d : D} (h : Dw K N H Z v d) (e : ExK k H H') : Dw K (N + k) H' Z v d := by
  cases d with
  | v x => exact Dt.ex e h
  | tup ds => exact Dt.ex e h
  | lst ds =>
    obtain ⟨a, xs, rfl, ha, r⟩ := h
    exact ⟨a, xs, rfl, e.lst ha, r.ex e⟩
  | scr ns => exact Dt.ex e h
  | bag => exact Dt.ex e h
  | fix P => exact Dt.ex e h
theorem Tp.dw {v : V} {s : Sl} (h : Tp B N H Z v s) : Dw B.K N H Z v s.rd := by
  cases s with
  | dat d => exact Dw.of h
  | own ds => exact Dw.of (show Dt B.K N H Z v (.lst ds) from h)
  | als ds =>
    obtain ⟨a, xs, rfl, z, h0, ha, r⟩ := h
    exact ⟨a, xs, rfl, ha, r⟩
end
end DL

/-! DLb: judgements by data; expressions. -/
namespace DL
open PySem PySem.Spec PyProof.Rows L2
variable [TabNames]

/-- a test by computation; two ways -/
def chk : Bool → Prop → Prop
  | true, p => p
  | false, _ => False
def wif : Bool → Prop → Prop → Prop
  | true, p, _ => p
  | false, _, q => q
def ng : Bool → Bool → Bool
  | true, b => !b
  | false, b => b
def shortL {α : Type} : List α → Nat → Bool
  | [], _ => true
  | _ :: r, n + 1 => shortL r n
  | _ :: _, 0 => false
@[simp] theorem chk_tt {p : Prop} : chk true p = p := rfl
@[simp] theorem chk_ff {p : Prop} : chk false p = False := rfl
@[simp] theorem wif_tt {p q : Prop} : wif true p q = p := rfl
@[simp] theorem wif_ff {p q : Prop} : wif false p q = q := rfl
@[simp] theorem ng_tt {b : Bool} : ng true b = !b := rfl
@[simp] theorem ng_ff {b : Bool} : ng false b = b := rfl
@[simp] theorem shortL_0 {α : Type} {n : Nat} : shortL ([] : List α) n = true := rfl
@[simp] theorem shortL_s {α : Type} {n : Nat} {a : α} {r : List α} : shortL (a :: r) (n + 1) = shortL r n := rfl
def lenIs {α : Type} : List α → Nat → Bool
  | [], 0 => true
  | _ :: r, n + 1 => lenIs r n
  | _, _ => false
@[simp] theorem lenIs_0 {α : Type} : lenIs ([] : List α) 0 = true := rfl
@[simp] theorem lenIs_s {α : Type} {n : Nat} {a : α} {r : List α} : lenIs (a :: r) (n + 1) = lenIs r n := rfl
theorem lenIs_len {α : Type} : ∀ {l : List α} {n : Nat}, lenIs l n = true → l.length = n
  | [], 0, _ => rfl
  | _ :: r, n + 1, h => congrArg (· + 1) (lenIs_len (l := r) (n := n) h)
  | [], n + 1, h => by cases h
  | _ :: _, 0, h => by cases h
theorem chk_iff {b : Bool} {p : Prop} : chk b p ↔ b = true ∧ p := by cases b <;> simp
theorem chk_of {b : Bool} {p : Prop} (h : b = true) (q : p) : chk b p := chk_iff.mpr ⟨h, q⟩
theorem wif_t {b : Bool} {p q : Prop} (h : b = true) (a : p) : wif b p q := by subst h; exact a
theorem wif_f {b : Bool} {p q : Prop} (h : b = false) (a : q) : wif b p q := by subst h; exact a
theorem wif_2 {b : Bool} {p q : Prop} (h1 : b = true → p) (h2 : b = false → q) : wif b p q := by
  cases b
  · exact h2 rfl
  · exact h1 rfl
theorem wif_d {c : Prop} [Decidable c] {p q : Prop} (h1 : c → p) (h2 : ¬ c → q) : wif (decide c) p q := by
  by_cases h : c
  · rw [decide_eq_true h]; exact h1 h
  · rw [decide_eq_false h]; exact h2 h
theorem wif_n {c : Prop} [Decidable c] {p q : Prop} (h1 : ¬ c → p) (h2 : c → q) : wif (!decide c) p q := by
  by_cases h : c
  · rw [decide_eq_true h]; exact h2 h
  · rw [decide_eq_false h]; exact h1 h
theorem shortL_len {α : Type} : ∀ {l : List α} {n : Nat}, shortL l n = true → l.length ≤ n
  | [], _, _ => Nat.zero_le _
  | _ :: r, n + 1, h => Nat.succ_le_succ (shortL_len (l := r) (n := n) h)
abbrev DK := Sl → Nat → Prop
abbrev DE := StD → Nat → DK → Prop
abbrev DT := StD → Nat → (Bool → Nat → Prop) → Prop
abbrev DA := StD → Nat → (List Sl → Nat → Prop) → Prop
abbrev D2 := D → D → (Sl → Prop) → Prop
abbrev DC := List D → (Sl → Prop) → Prop

/-- an expression's end, from H to H' -/
def Rs (B : Bs) (N : Nat) (H H' : Hp) (Z : Addr → Prop) (v : V) : Sl → Prop
  | .dat d => Dt B.K N H' Z v d
  | .own ds => ∃ p xs, v = .ref p ∧ H p = none ∧ H' p = some (.lst xs) ∧ DtAll B.K N H' (Zp Z p) xs ds
  | .als ds => Zl B N H' Z v ds
abbrev Zt (Z : Addr → Prop) (H : Hp) : Prop := ∀ a, Z a → ∃ xs, H a = some (.lst xs)
theorem Zt.ex {Z : Addr → Prop} {H H' : Hp} {k : Nat} (z : Zt Z H) (e : ExK k H H') : Zt Z H' := fun a h => by
  obtain ⟨xs, h1⟩ := z a h
  exact ⟨xs, e.lst h1⟩
theorem Zt.fresh {Z : Addr → Prop} {H : Hp} {p : Addr} (z : Zt Z H) (h : H p = none) : ¬ Z p := fun h' => by
  obtain ⟨xs, e⟩ := z p h'
  rw [h] at e
  cases e
theorem DtAll.new {K : PySem.W.Frag} {N : Nat} {Z : Addr → Prop} {H : Hp} {p : Addr} {o : HO} {xs : List V} {ds : List D} (h : DtAll K N H Z xs ds) (hp : H p = none) : DtAll K N (upd H p o) (Zp Z p) xs ds := h.gro (.new (ExK.new hp) hp)
theorem Rs.tp {B : Bs} {N : Nat} {H H' : Hp} {Z : Addr → Prop} {v : V} {s : Sl} (z : Zt Z H) (h : Rs B N H H' Z v s) : Tp B N H' Z v s := by
  cases s with
  | dat d => exact h
  | own ds =>
    obtain ⟨p, xs, rfl, h0, h1, r⟩ := h
    exact .lst h1 (z.fresh h0) (r.gro (.zone (fun a h => .inl h) (Nat.le_refl _)))
  | als ds => exact h
/-- a later heap; a start further back -/
theorem Rs.back {B : Bs} {N k : Nat} {H H1 H' : Hp} {Z : Addr → Prop} {v : V} {s : Sl} (e : ExK k H H1) (h : Rs B N H1 H' Z v s) : Rs B N H H' Z v s := by
  cases s with
  | dat d => exact h
  | own ds =>
    obtain ⟨p, xs, rfl, h0, h1, r⟩ := h
    exact ⟨p, xs, rfl, e.back h0, h1, r⟩
  | als ds => exact h

structure Snd (G : Gg) (te : TE) (de : DE) : Prop where
  run : ∀ (B : Bs) Z δ σ H N (C : DK) (Q : VK), B.G = G → SD B Z δ σ H N → de δ N C →
    (∀ s v H' k, ExK k H H' → Rs B (N + k) H H' Z v s → C s (N + k) → Q v H') → te σ H Q
structure SndT (G : Gg) (tt : TT) (dt : DT) : Prop where
  run : ∀ (B : Bs) Z δ σ H N (C : Bool → Nat → Prop) (Q : Bool → Hp → Prop), B.G = G → SD B Z δ σ H N → dt δ N C →
    (∀ b H' k, ExK k H H' → C b (N + k) → Q b H') → tt σ H Q
structure SndA (G : Gg) (ta : TA) (da : DA) : Prop where
  run : ∀ (B : Bs) Z δ σ H N (C : List Sl → Nat → Prop) (Q : List V → Hp → Prop), B.G = G → SD B Z δ σ H N → da δ N C →
    (∀ ss vs H' k, ExK k H H' → Paired (Tp B (N + k) H' Z) vs ss → C ss (N + k) → Q vs H') → ta σ H Q
/-- two values -/
structure Snd2 (K : PySem.W.Frag) (r : R2) (dr : D2) : Prop where
  run : ∀ (B : Bs) Z N H x y d e (C : Sl → Prop) (Q : VK), B.K = K → Zt Z H → Dw B.K N H Z x d → Dw B.K N H Z y e → dr d e C →
    (∀ s v H', ExK 0 H H' → Rs B N H H' Z v s → C s → Q v H') → r x y H Q
/-- values of a call -/
structure SndC (K : PySem.W.Frag) (r : List V → Hp → VK → Prop) (dc : DC) : Prop where
  run : ∀ (B : Bs) Z N H xs ds (C : Sl → Prop) (Q : VK), B.K = K → Zt Z H → Paired (Dw B.K N H Z) xs ds → dc ds C →
    (∀ s v H', ExK 0 H H' → Rs B N H H' Z v s → C s → Q v H') → r xs H Q

structure XE (X : Cx) (G : Gg) (e : Expr) (t : TE) (d : DE) : Prop where
  pe : PE X e t
  sn : Snd G t d
structure XT (X : Cx) (G : Gg) (e : Expr) (t : TT) (d : DT) : Prop where
  pe : PT X e t
  sn : SndT G t d
structure XW (X : Cx) (G : Gg) (e : Expr) (t : TT) (d : DT) : Prop where
  pe : PW X e t
  sn : SndT G t d
structure XA (X : Cx) (G : Gg) (es : List Expr) (t : TA) (d : DA) : Prop where
  pe : PA X es t
  sn : SndA G t d
structure X2 (X : Cx) (f : Value → Value → Sem Value) (r : R2) (dr : D2) : Prop where
  op : OpR X f r
  sn : Snd2 X.K r dr
structure X2I (X : Cx) (r : R2) (dr : D2) : Prop where
  op : IxR X r
  sn : Snd2 X.K r dr
structure XC (X : Cx) (f : Value) (r : List V → Hp → VK → Prop) (dc : DC) : Prop where
  op : CallR X f r
  sn : SndC X.K r dc

theorem SD.ztt {B : Bs} {Z : Addr → Prop} {δ : StD} {σ : L2.St} {H : Hp} {N : Nat} (S : SD B Z δ σ H N) : Zt Z H := S.zt

/-! ### names, constants -/
def Sl.ali : Sl → Sl
  | .dat d => .dat d
  | .own ds => .als ds
  | .als ds => .als ds
@[simp] def dVar (i : Nat) : DE := fun δ N C => match nth δ i with
  | some s => C s.ali N
  | none => False
@[simp] def dC (v : V) : DE := fun _ N C => C (.dat (.v v)) N
section
variable {X : Cx} {G : Gg}
theorem snd_var {i : Nat} : Snd G (tVar i) (dVar i) := by
  refine ⟨fun B Z δ σ H N C Q hB S h q => ?_⟩
  unfold dVar at h
  cases hn : nth δ i with
  | none => rw [hn] at h; exact h.elim
  | some s =>
    rw [hn] at h
    obtain ⟨v, e1, r⟩ := S.slot i s hn
    refine ⟨v, e1, q s.ali v H 0 (ExK.refl H) ?_ h⟩
    cases s with
    | dat d => exact r
    | own ds => exact r
    | als ds => exact r
theorem snd_c {v : V} : Snd G (tC v) (dC v) := ⟨fun B Z δ σ H N C Q hB S h q => q (.dat (.v v)) v H 0 (ExK.refl H) (Dt.v v) h⟩
theorem xv (i : Nat) {x : Str} {pos : Pos} (hN : X.N[i]? = some x := by rfl) (hv : Vis X.env.scope x := by first | exact Or.inl rfl | exact Or.inr (Or.inl rfl) | exact Or.inr (Or.inr rfl)) (hd : (x == ("__debug__" : Str)) = false := by decide)
    (hcd : (x == ("__classdict__" : Str)) = false := by decide) : XE X G (.Name x pos) (tVar i) (dVar i) := ⟨pe_var hN hv hd hcd, snd_var⟩
theorem x_int {i j pos} : XE X G (.Constant (.int i) j pos) (tC (.int i)) (dC (.int i)) := ⟨pe_int, snd_c⟩
theorem x_bl {b j pos} : XE X G (.Constant (.bool b) j pos) (tC (.bl b)) (dC (.bl b)) := ⟨pe_bl, snd_c⟩
theorem x_non {j pos} : XE X G (.Constant .none j pos) (tC .non) (dC .non) := ⟨pe_non, snd_c⟩
theorem x_str {x j pos} : XE X G (.Constant (.str x) j pos) (tC (.str x)) (dC (.str x)) := ⟨pe_str, snd_c⟩
theorem x_glob {x : Str} {v : V} {u : Value} {pos : Pos} (hg : Gl X x) (hm : X.mg x = some u) (r : RelV v u) (hd : (x == ("__debug__" : Str)) = false := by decide) : XE X G (.Name x pos) (tC v) (dC v) := ⟨pe_glob hg hm r hd, snd_c⟩
theorem x_bltn {x : Str} {v : V} {u : Value} {pos : Pos} (hg : Gl X x) (hm : X.mg x = none) (hv : bootBuiltins x = some u) (r : RelV v u) (hn : x ≠ "__name__" := by decide) (hd : (x == ("__debug__" : Str)) = false := by decide) : XE X G (.Name x pos) (tC v) (dC v) :=
  ⟨pe_bltn hg hm hv r hn hd, snd_c⟩
end

/-! ### two in a row -/
@[simp] def dOp (dr : D2) (da db : DE) : DE := fun δ N C => da δ N fun s N1 => db δ N1 fun u N2 => dr s.rd u.rd fun z => C z N2
section
variable {X : Cx} {G : Gg} {a b c : Expr} {ta tb tc : TE} {da db dc : DE} {r : R2} {dr : D2} {pos : Pos}
theorem snd_op (ha : Snd G ta da) (hb : Snd G tb db) (hr : Snd2 G.K r dr) : Snd G (tOp r ta tb) (dOp dr da db) := by
  refine ⟨fun B Z δ σ H N C Q hB S h q => ?_⟩
  refine ha.run B Z δ σ H N _ _ hB S h fun s x H1 k1 e1 r1 h1 => ?_
  refine hb.run B Z δ σ H1 (N + k1) _ _ hB (S.ext e1) h1 fun u y H2 k2 e2 r2 h2 => ?_
  have w1 : Dw B.K (N + k1 + k2) H2 Z x s.rd := (r1.tp S.ztt).dw.ex e2
  have w2 : Dw B.K (N + k1 + k2) H2 Z y u.rd := (r2.tp (S.ztt.ex e1)).dw
  refine hr.run B Z (N + k1 + k2) H2 x y s.rd u.rd _ Q (by rw [← hB]) ((S.ztt.ex e1).ex e2) w1 w2 h2 fun z v H3 e3 r3 h3 => ?_
  have e : ExK (k1 + k2) H H2 := e1.trans e2
  have e' : ExK (k1 + k2) H H3 := e.trans e3
  rw [Nat.add_assoc] at r3 h3
  exact q z v H3 (k1 + k2) e' (r3.back e) h3
theorem x_op {op : Operator} (ho : X2 X (binaryOp op) r dr) (ha : XE X G a ta da) (hb : XE X G b tb db) (hK : G.K = X.K := by rfl) : XE X G (.BinOp a op b pos) (tOp r ta tb) (dOp dr da db) :=
  ⟨pe_op ho.op ha.pe hb.pe, snd_op ha.sn hb.sn (by rw [hK]; exact ho.sn)⟩
theorem x_cmp {op : CmpOp} (ho : X2 X (compareOp op) r dr) (ha : XE X G a ta da) (hb : XE X G b tb db) (hm : behindInMarks op b = false := by first | exact nomark _ | rfl | with_unfolding_all rfl) (hK : G.K = X.K := by rfl) : XE X G (.Compare a [op] [b] pos) (tOp r ta tb) (dOp dr da db) :=
  ⟨pe_cmpR ho.op ha.pe hb.pe hm, snd_op ha.sn hb.sn (by rw [hK]; exact ho.sn)⟩
theorem x_ix (ho : X2I X r dr) (ha : XE X G a ta da) (hb : XE X G b tb db) (hs : PlainIx b := by exact fun _ _ => rfl) (hK : G.K = X.K := by rfl) : XE X G (.Subscript a b pos) (tOp r ta tb) (dOp dr da db) :=
  ⟨pe_ix ho.op ha.pe hb.pe hs, snd_op ha.sn hb.sn (by rw [hK]; exact ho.sn)⟩
/-- a value as a test -/
@[simp] def dTest (de : DE) : DT := fun δ N C => de δ N fun s N1 => match s with
  | .dat (.v (.bl b)) => C b N1
  | _ => False
theorem snd_test (h : Snd G ta da) : SndT G (tTest ta) (dTest da) := by
  refine ⟨fun B Z δ σ H N C Q hB S hd q => ?_⟩
  refine h.run B Z δ σ H N _ _ hB S hd fun s x H1 k1 e1 r1 h1 => ?_
  cases s with
  | dat d =>
    cases d with
    | v y =>
      cases y with
      | bl b =>
        have r1' : Dt B.K (N + k1) H1 Z x (.v (.bl b)) := r1
        cases r1'
        exact ⟨b, rfl, q b H1 k1 e1 h1⟩
      | _ => exact False.elim h1
    | _ => exact False.elim h1
  | own ds => exact False.elim h1
  | als ds => exact False.elim h1
theorem snd_B (h : Snd G ta da) : SndT G (tB ta) (dTest da) := ⟨(snd_test h).run⟩
theorem xt_cmp {op : CmpOp} (ho : X2 X (compareOp op) r dr) (ha : XE X G a ta da) (hb : XE X G b tb db) (hm : behindInMarks op b = false := by first | exact nomark _ | rfl | with_unfolding_all rfl) (hK : G.K = X.K := by rfl) : XT X G (.Compare a [op] [b] pos) (tTest (tOp r ta tb)) (dTest (dOp dr da db)) :=
  ⟨pt_cmpR ho.op ha.pe hb.pe hm, snd_test (snd_op ha.sn hb.sn (by rw [hK]; exact ho.sn))⟩
end
end DL

/-! DLc: operators by data. -/
namespace DL
open PySem PySem.Spec PyProof.Rows L2
variable [TabNames]

section
variable {K : PySem.W.Frag} {N : Nat} {H : Hp} {Z : Addr → Prop} {x : V}
theorem Dw.v_inv {y : V} (h : Dw K N H Z x (.v y)) : x = y := by
  have h' : Dt K N H Z x (.v y) := h
  cases h'
  rfl
theorem Dw.tup_inv {ds : List D} (h : Dw K N H Z x (.tup ds)) : ∃ a xs, x = .ref a ∧ H a = some (.tup xs) ∧ DtAll K N H Z xs ds := by
  have h' : Dt K N H Z x (.tup ds) := h
  cases h' with
  | tup h1 r => exact ⟨_, _, rfl, h1, r⟩
theorem Dw.scr_inv {ns : List Int} (h : Dw K N H Z x (.scr ns)) : ∃ a, x = .ref a ∧ SqL K H a (ns.map V.int) := by
  have h' : Dt K N H Z x (.scr ns) := h
  cases h' with
  | scr h1 => exact ⟨_, rfl, h1.l⟩
end

/-! ### ints -/
def dI (C : Int → Int → Prop) (g : Int → Int → V) : D2 := fun d e k => match d, e with
  | .v (.int i), .v (.int j) => C i j ∧ k (.dat (.v (g i j)))
  | _, _ => False
def dI0 (g : Int → Int → V) : D2 := fun d e k => match d, e with
  | .v (.int i), .v (.int j) => k (.dat (.v (g i j)))
  | _, _ => False
theorem sn_I {K : PySem.W.Frag} {C : Int → Int → Prop} {g : Int → Int → V} : Snd2 K (rI C g) (dI C g) := by
  refine ⟨fun B Z N H x y d e k Q hK hz hx hy h q => ?_⟩
  subst hK
  unfold dI at h
  split at h
  · rename_i i j
    exact ⟨i, j, hx.v_inv, hy.v_inv, h.1, q (.dat (.v (g i j))) _ H (ExK.refl H) (Dt.v _) h.2⟩
  · exact h.elim
theorem sn_I0 {K : PySem.W.Frag} {g : Int → Int → V} : Snd2 K (rI0 g) (dI0 g) := by
  refine ⟨fun B Z N H x y d e k Q hK hz hx hy h q => ?_⟩
  subst hK
  unfold dI0 at h
  split at h
  · rename_i i j
    exact ⟨i, j, hx.v_inv, hy.v_inv, q (.dat (.v (g i j))) _ H (ExK.refl H) (Dt.v _) h⟩
  · exact h.elim
section
variable {X : Cx}
theorem o_sub : X2 X (binaryOp .Sub) (rI0 fun i j => .int (i - j)) (dI0 fun i j => .int (i - j)) := ⟨op_sub, sn_I0⟩
theorem o_mul : X2 X (binaryOp .Mult) (rI CMul fun i j => .int (i * j)) (dI CMul fun i j => .int (i * j)) := ⟨op_mul, sn_I⟩
theorem o_fdiv : X2 X (binaryOp .FloorDiv) (rI CDiv fun i j => .int (i / j)) (dI CDiv fun i j => .int (i / j)) := ⟨op_fdiv, sn_I⟩
theorem o_mod : X2 X (binaryOp .Mod) (rI (fun _ j => 0 < j) fun i j => .int (i % j)) (dI (fun _ j => 0 < j) fun i j => .int (i % j)) := ⟨op_mod, sn_I⟩
theorem o_pow : X2 X (binaryOp .Pow) (rI CPow fun i j => .int (i ^ j.toNat)) (dI CPow fun i j => .int (i ^ j.toNat)) := ⟨op_pow, sn_I⟩
theorem o_lt : X2 X (compareOp .Lt) (rI0 fun i j => .bl (decide (i < j))) (dI0 fun i j => .bl (decide (i < j))) := ⟨op_lt, sn_I0⟩
theorem o_le : X2 X (compareOp .LtE) (rI0 fun i j => .bl (decide (i ≤ j))) (dI0 fun i j => .bl (decide (i ≤ j))) := ⟨op_le, sn_I0⟩
theorem o_gt : X2 X (compareOp .Gt) (rI0 fun i j => .bl (decide (j < i))) (dI0 fun i j => .bl (decide (j < i))) := ⟨op_gt, sn_I0⟩
theorem o_ge : X2 X (compareOp .GtE) (rI0 fun i j => .bl (decide (j ≤ i))) (dI0 fun i j => .bl (decide (j ≤ i))) := ⟨op_ge, sn_I0⟩
end

/-! ### + of ints, tuples, lists -/
@[simp] def dAdd : D2 := fun d e k => match d, e with
  | .v (.int i), .v (.int j) => k (.dat (.int (i + j)))
  | .tup ds, .tup es => ds.length + es.length ≤ 100000 ∧ k (.dat (.tup (ds ++ es)))
  | .lst ds, .lst es => ds.length + es.length ≤ 100000 ∧ k (.own (ds ++ es))
  | _, _ => False
def rAddA (K : PySem.W.Frag) : R2 := fun x y H Q => rI0 (fun i j => .int (i + j)) x y H Q ∨ (rCatA K x y H Q ∨ rCat x y H Q)
theorem size_of {n : Nat} (h : n ≤ 100000) : n ≤ sizeLine := Nat.le_trans h (by decide)
theorem size_lt {n : Nat} (h : n < 100000) : n < sizeLine := Nat.lt_of_lt_of_le h (by decide)
theorem sn_add {K : PySem.W.Frag} : Snd2 K (rAddA K) dAdd := by
  refine ⟨fun B Z N H x y d e k Q hK hz hx hy h q => ?_⟩
  subst hK
  unfold dAdd at h
  split at h
  · rename_i i j
    exact .inl ⟨i, j, hx.v_inv, hy.v_inv, q (.dat (.v _)) _ H (ExK.refl H) (Dt.v _) h⟩
  · rename_i ds es
    obtain ⟨a, xs, rfl, ha, ra⟩ := hx.tup_inv
    obtain ⟨b, ys, rfl, hb, rb⟩ := hy.tup_inv
    have r := ra.append rb
    refine .inr (.inl ⟨a, b, xs, ys, rfl, rfl, .of ha, .of hb, by rw [ra.length, rb.length]; exact size_of h.1, ?_, ?_, ?_⟩)
    · rintro rfl
      cases ra
      exact q (.dat (.tup es)) _ H (ExK.refl H) (Dt.tup hb rb) h.2
    · rintro _ rfl
      cases rb
      have h2 := h.2
      rw [List.append_nil] at h2
      exact q (.dat (.tup ds)) _ H (ExK.refl H) (Dt.tup ha ra) h2
    · intro _ _ p hp
      have ep := ExK.new (o := .tup (xs ++ ys)) hp
      exact q (.dat (.tup (ds ++ es))) _ _ ep (Dt.tup upd_same (r.ex0 ep)) h.2
  · rename_i ds es
    obtain ⟨a, xs, rfl, ha, ra⟩ := hx
    obtain ⟨b, ys, rfl, hb, rb⟩ := hy
    refine .inr (.inr ⟨a, b, xs, ys, rfl, rfl, ha, hb, by rw [ra.length, rb.length]; exact size_of h.1, fun p hp => ?_⟩)
    have ep := ExK.new (o := .lst (xs ++ ys)) hp
    exact q (.own (ds ++ es)) _ _ ep ⟨p, _, rfl, hp, upd_same, (ra.append rb).new hp⟩ h.2
  · exact h.elim
section
variable {X : Cx}
theorem o_add : X2 X (binaryOp .Add) (rAddA X.K) dAdd := ⟨op_add.or (op_catA.or op_cat), sn_add⟩
end

/-! ### is None, is True -/
def D.isV (y : V) : D → Bool
  | .v x => decide (x = y)
  | _ => false
@[simp] theorem isV_1 {x y : V} : D.isV y (.v x) = decide (x = y) := rfl
@[simp] theorem isV_2 {y : V} {ds : List D} : D.isV y (.tup ds) = false := rfl
@[simp] theorem isV_3 {y : V} {ds : List D} : D.isV y (.lst ds) = false := rfl
@[simp] def dIs (neg : Bool) : D2 := fun d e k => match e with
  | .v .non => k (.dat (.bl (ng neg (d.isV .non))))
  | .v (.bl b) => match d with
    | .v (.bl a) => k (.dat (.bl (ng neg (decide (a = b)))))
    | _ => False
  | _ => False
def rIsA : R2 := fun x y H Q => rIsN x y H Q ∨ rIsB x y H Q
def rNotA : R2 := fun x y H Q => rNotN x y H Q ∨ rNotB x y H Q
theorem isV_non {K : PySem.W.Frag} {N : Nat} {H : Hp} {Z : Addr → Prop} {x : V} {d : D} (h : Dw K N H Z x d) : decide (x = .non) = d.isV .non := by
  cases d with
  | v y => rw [h.v_inv]; rfl
  | tup ds =>
    obtain ⟨a, xs, rfl, _⟩ := h.tup_inv
    rfl
  | lst ds =>
    obtain ⟨a, xs, rfl, _⟩ := h
    rfl
  | scr ns =>
    obtain ⟨a, rfl, _⟩ := h.scr_inv
    rfl
  | bag =>
    have h' : Dt K N H Z x .bag := h
    cases h'
    rfl
  | fix P =>
    have h' : Dt K N H Z x (.fix P) := h
    cases h'
    rfl
theorem sn_is {K : PySem.W.Frag} : Snd2 K rIsA (dIs false) := by
  refine ⟨fun B Z N H x y d e k Q hK hz hx hy h q => ?_⟩
  subst hK
  unfold dIs at h
  split at h
  · refine .inl ⟨hy.v_inv, ?_⟩
    rw [isV_non hx]
    exact q (.dat (.v _)) _ H (ExK.refl H) (Dt.v _) h
  · split at h
    · rename_i a
      exact .inr ⟨_, _, hx.v_inv, hy.v_inv, q (.dat (.v _)) _ H (ExK.refl H) (Dt.v _) h⟩
    · exact h.elim
  · exact h.elim
theorem sn_isnot {K : PySem.W.Frag} : Snd2 K rNotA (dIs true) := by
  refine ⟨fun B Z N H x y d e k Q hK hz hx hy h q => ?_⟩
  subst hK
  unfold dIs at h
  split at h
  · refine .inl ⟨hy.v_inv, ?_⟩
    rw [isV_non hx]
    exact q (.dat (.v _)) _ H (ExK.refl H) (Dt.v _) h
  · split at h
    · rename_i a
      exact .inr ⟨_, _, hx.v_inv, hy.v_inv, q (.dat (.v _)) _ H (ExK.refl H) (Dt.v _) h⟩
    · exact h.elim
  · exact h.elim
section
variable {X : Cx}
theorem o_is : X2 X (compareOp .Is) rIsA (dIs false) := ⟨op_isN1.or op_isBl, sn_is⟩
theorem o_isnot : X2 X (compareOp .IsNot) rNotA (dIs true) := ⟨op_notN1.or op_notBl, sn_isnot⟩
end

/-! ### == of data -/
mutual
def D.py : D → PyData
  | .v .non => .none
  | .v (.bl b) => .bool b
  | .v (.int i) => .int i
  | .v (.str x) => .str x
  | .v _ => .none
  | .tup ds => .tuple (D.pys ds)
  | .lst ds => .list (D.pys ds)
  | _ => .none
def D.pys : List D → List PyData
  | [] => []
  | d :: ds => D.py d :: D.pys ds
end
mutual
def D.eqb : D → D → Bool
  | .v x, .v y => eqV x y
  | .tup ds, .tup es => D.eqbs ds es
  | .lst ds, .lst es => D.eqbs ds es
  | _, _ => false
def D.eqbs : List D → List D → Bool
  | [], [] => true
  | d :: ds, e :: es => D.eqb d e && D.eqbs ds es
  | _, _ => false
end
mutual
def D.ok : Nat → D → Bool
  | _, .v .non => true
  | _, .v (.bl _) => true
  | _, .v (.int _) => true
  | _, .v (.str x) => PyData.strOk x
  | n + 1, .tup ds => D.oks n ds
  | n + 1, .lst ds => D.oks n ds
  | _, _ => false
def D.oks : Nat → List D → Bool
  | _, [] => true
  | n, d :: ds => D.ok n d && D.oks n ds
end
mutual
theorem D.ok_shape : ∀ (n : Nat) (d : D), d.ok n = true → d.py.canLay0 = true ∧ d.py.depth ≤ n
  | _, .v .non, _ => ⟨rfl, Nat.zero_le _⟩
  | _, .v (.bl _), _ => ⟨rfl, Nat.zero_le _⟩
  | _, .v (.int _), _ => ⟨rfl, Nat.zero_le _⟩
  | _, .v (.str x), h => ⟨by simpa [D.ok, D.py, PyData.canLay0] using h, Nat.zero_le _⟩
  | n + 1, .tup ds, h => by
    have h' := D.oks_shape n ds (by simpa [D.ok] using h)
    exact ⟨by simpa [D.py, PyData.canLay0] using h'.1, by simpa [D.py, PyData.depth] using h'.2⟩
  | n + 1, .lst ds, h => by
    have h' := D.oks_shape n ds (by simpa [D.ok] using h)
    exact ⟨by simpa [D.py, PyData.canLay0] using h'.1, by simpa [D.py, PyData.depth] using h'.2⟩
  | 0, .tup ds, h => by simp [D.ok] at h
  | 0, .lst ds, h => by simp [D.ok] at h
  | _, .v (.byt _), h => by simp [D.ok] at h
  | _, .v (.flt _), h => by simp [D.ok] at h
  | _, .v (.ref _), h => by simp [D.ok] at h
  | _, .v (.ty _), h => by simp [D.ok] at h
  | _, .scr _, h => by simp [D.ok] at h
  | _, .bag, h => by simp [D.ok] at h
  | _, .fix _, h => by simp [D.ok] at h
theorem D.oks_shape : ∀ (n : Nat) (ds : List D), D.oks n ds = true → PyData.canLayAll0 (D.pys ds) = true ∧ PyData.depthAll (D.pys ds) ≤ n
  | _, [], _ => ⟨rfl, Nat.zero_le _⟩
  | n, d :: ds, h => by
    simp only [D.oks, Bool.and_eq_true] at h
    have h1 := D.ok_shape n d h.1
    have h2 := D.oks_shape n ds h.2
    refine ⟨by simp [D.pys, PyData.canLayAll0, h1.1, h2.1], ?_⟩
    simp only [D.pys, PyData.depthAll]
    exact Nat.max_le.mpr ⟨h1.2, h2.2⟩
end
theorem D.shaped {d : D} (h : d.ok 20 = true) : SeqAt.shaped d.py = true := by
  have h' := D.ok_shape 20 d h
  unfold SeqAt.shaped
  rw [Bool.and_eq_true]
  exact ⟨h'.1, decide_eq_true (Nat.le_trans h'.2 (by decide))⟩
mutual
theorem D.eqb_py : ∀ (n m : Nat) (d e : D), d.ok n = true → e.ok m = true → PyData.eqv d.py e.py = d.eqb e
  | n, m, .v x, .v y, hd, he => by
    cases x <;> first
      | (simp [D.ok] at hd; done)
      | (cases y <;> first
          | (simp [D.ok] at he; done)
          | (simp [D.py, PyData.eqv, D.eqb, eqV]; done)
          | (simp only [D.py, PyData.eqv, D.eqb, eqV]; done))
  | n + 1, m + 1, .tup ds, .tup es, hd, he => by
    have h := D.eqbs_py n m ds es (by simpa [D.ok] using hd) (by simpa [D.ok] using he)
    simpa [D.py, PyData.eqv, D.eqb] using h
  | n + 1, m + 1, .lst ds, .lst es, hd, he => by
    have h := D.eqbs_py n m ds es (by simpa [D.ok] using hd) (by simpa [D.ok] using he)
    simpa [D.py, PyData.eqv, D.eqb] using h
  | 0, _, .tup ds, _, hd, _ => by simp [D.ok] at hd
  | 0, _, .lst ds, _, hd, _ => by simp [D.ok] at hd
  | _, 0, _, .tup ds, _, hd => by simp [D.ok] at hd
  | _, 0, _, .lst ds, _, hd => by simp [D.ok] at hd
  | _, _, .scr _, _, hd, _ => by simp [D.ok] at hd
  | _, _, .bag, _, hd, _ => by simp [D.ok] at hd
  | _, _, _, .scr _, _, hd => by simp [D.ok] at hd
  | _, _, _, .bag, _, hd => by simp [D.ok] at hd
  | _, _, .fix _, _, hd, _ => by simp [D.ok] at hd
  | _, _, _, .fix _, _, hd => by simp [D.ok] at hd
  | n, m + 1, .v x, .tup es, hd, he => by
    cases x <;> first
      | (simp [D.ok] at hd; done)
      | (simp [D.py, PyData.eqv, D.eqb]; done)
  | n, m + 1, .v x, .lst es, hd, he => by
    cases x <;> first
      | (simp [D.ok] at hd; done)
      | (simp [D.py, PyData.eqv, D.eqb]; done)
  | n + 1, m, .tup es, .v x, hd, he => by
    cases x <;> first
      | (simp [D.ok] at he; done)
      | (simp [D.py, PyData.eqv, D.eqb]; done)
  | n + 1, m, .lst es, .v x, hd, he => by
    cases x <;> first
      | (simp [D.ok] at he; done)
      | (simp [D.py, PyData.eqv, D.eqb]; done)
  | n + 1, m + 1, .tup es, .lst _, hd, he => by simp [D.py, PyData.eqv, D.eqb]
  | n + 1, m + 1, .lst es, .tup _, hd, he => by simp [D.py, PyData.eqv, D.eqb]
theorem D.eqbs_py : ∀ (n m : Nat) (ds es : List D), D.oks n ds = true → D.oks m es = true → PyData.eqvAll (D.pys ds) (D.pys es) = D.eqbs ds es
  | _, _, [], [], _, _ => rfl
  | n, m, d :: ds, e :: es, hd, he => by
    simp only [D.oks, Bool.and_eq_true] at hd he
    simp [D.pys, PyData.eqvAll, D.eqbs, D.eqb_py n m d e hd.1 he.1, D.eqbs_py n m ds es hd.2 he.2]
  | _, _, [], _ :: _, _, _ => rfl
  | _, _, _ :: _, [], _, _ => rfl
end
section
variable {K : PySem.W.Frag} {N : Nat} {H : Hp} {Z : Addr → Prop}
mutual
theorem Dt.dp : ∀ (n : Nat) {x : V} {d : D}, Dt K N H Z x d → d.ok n = true → Dp K H x d.py
  | _, _, _, .v .non, _ => .non
  | _, _, _, .v (.bl b), _ => .bl b
  | _, _, _, .v (.int i), _ => .int i
  | _, _, _, .v (.str x), _ => .str x
  | _, _, _, .v (.byt _), h => by simp [D.ok] at h
  | _, _, _, .v (.flt _), h => by simp [D.ok] at h
  | _, _, _, .v (.ref _), h => by simp [D.ok] at h
  | _, _, _, .v (.ty _), h => by simp [D.ok] at h
  | n + 1, _, _, .tup h r, e => .tup (.of h) (DtAll.dp n r (by simpa [D.ok] using e))
  | n + 1, _, _, .lst h z r, e => .lst (.of h) (DtAll.dp n r (by simpa [D.ok] using e))
  | 0, _, _, .tup h r, e => by simp [D.ok] at e
  | 0, _, _, .lst h z r, e => by simp [D.ok] at e
  | _, _, _, .scr _, h => by simp [D.ok] at h
  | _, _, _, .bag _ _, h => by simp [D.ok] at h
  | _, _, _, .fix _ _, h => by simp [D.ok] at h
theorem DtAll.dp : ∀ (n : Nat) {xs : List V} {ds : List D}, DtAll K N H Z xs ds → D.oks n ds = true → DpAll K H xs (D.pys ds)
  | _, _, _, .nil, _ => .nil
  | n, _, _, .cons h r, e => by
    simp only [D.oks, Bool.and_eq_true] at e
    exact .cons (Dt.dp n h e.1) (DtAll.dp n r e.2)
end
theorem Dw.dp {x : V} {d : D} (h : Dw K N H Z x d) (e : d.ok 20 = true) : Dp K H x d.py := by
  cases d with
  | lst ds =>
    obtain ⟨a, xs, rfl, ha, r⟩ := h
    exact .lst (.of ha) (r.dp 19 (by simpa [D.ok] using e))
  | v y => exact Dt.dp 20 h e
  | tup ds => exact Dt.dp 20 h e
  | scr ns => simp [D.ok] at e
  | bag => simp [D.ok] at e
  | fix P => simp [D.ok] at e
end
def dEq (neg : Bool) : D2 := fun d e k => chk (d.ok 20 && e.ok 20) (k (.dat (.bl (ng neg (d.eqb e)))))
theorem sn_eq {K : PySem.W.Frag} : Snd2 K (rEqD K) (dEq false) := by
  refine ⟨fun B Z N H x y d e k Q hK hz hx hy h q => ?_⟩
  subst hK
  obtain ⟨h12, h3⟩ := chk_iff.mp h
  obtain ⟨h1, h2⟩ := Bool.and_eq_true_iff.mp h12
  refine ⟨d.py, e.py, hx.dp h1, hy.dp h2, D.shaped h1, D.shaped h2, ?_⟩
  rw [D.eqb_py 20 20 d e h1 h2]
  exact q (.dat (.v _)) _ H (ExK.refl H) (Dt.v _) h3
theorem sn_ne {K : PySem.W.Frag} : Snd2 K (rNeD K) (dEq true) := by
  refine ⟨fun B Z N H x y d e k Q hK hz hx hy h q => ?_⟩
  subst hK
  obtain ⟨h12, h3⟩ := chk_iff.mp h
  obtain ⟨h1, h2⟩ := Bool.and_eq_true_iff.mp h12
  refine ⟨d.py, e.py, hx.dp h1, hy.dp h2, D.shaped h1, D.shaped h2, ?_⟩
  rw [D.eqb_py 20 20 d e h1 h2]
  exact q (.dat (.v _)) _ H (ExK.refl H) (Dt.v _) h3
section
variable {X : Cx}
theorem o_eq (hu : X.A.units + 64 < cLine) : X2 X (compareOp .Eq) (rEqD X.K) (dEq false) := ⟨op_eqD hu, sn_eq⟩
theorem o_ne (hu : X.A.units + 64 < cLine) : X2 X (compareOp .NotEq) (rNeD X.K) (dEq true) := ⟨op_neD hu, sn_ne⟩
end

/-! ### in -/
def D.items : D → Option (List D)
  | .tup ds => some ds
  | .lst ds => some ds
  | _ => none
def dIn (neg : Bool) : D2 := fun d e k => match d with
  | .v (.int i) => ∃ ns : List Int, e.items = some (ns.map D.int) ∧ k (.dat (.bl (ng neg (decide (i ∈ ns)))))
  | _ => False
theorem inV_ints (i : Int) (ns : List Int) : inV (.int i) (ns.map V.int) = decide (i ∈ ns) := by
  unfold inV
  rw [List.any_map]
  induction ns with
  | nil => rfl
  | cons n ns ih =>
    rw [List.any_cons, ih]
    show ((n == i) || decide (i ∈ ns)) = decide (i ∈ n :: ns)
    rw [Bool.eq_iff_iff]
    simp only [Bool.or_eq_true, beq_iff_eq, decide_eq_true_eq, List.mem_cons]
    constructor
    · rintro (h | h)
      · exact .inl h.symm
      · exact .inr h
    · rintro (h | h)
      · exact .inl h.symm
      · exact .inr h
theorem flat_ints (ns : List Int) : (ns.map V.int).all flatV = true := by
  rw [List.all_map, List.all_eq_true]
  intro n _
  rfl
theorem sn_in {K : PySem.W.Frag} {neg : Bool} : Snd2 K (rIn K neg) (dIn neg) := by
  refine ⟨fun B Z N H x y d e k Q hK hz hx hy h q => ?_⟩
  subst hK
  unfold dIn at h
  split at h
  · rename_i i
    obtain ⟨ns, hi, h⟩ := h
    have hx' := hx.v_inv
    subst hx'
    have fin : ∀ p, (SqL B.K H p (ns.map V.int) ∨ SqT B.K H p (ns.map V.int)) → rIn B.K neg (.int i) (.ref p) H Q := fun p hp =>
      ⟨p, ns.map V.int, rfl, hp, rfl, flat_ints ns, by
        rw [inV_ints]
        have e : (if neg = true then !decide (i ∈ ns) else decide (i ∈ ns)) = ng neg (decide (i ∈ ns)) := by cases neg <;> rfl
        rw [e]
        exact q (.dat (.v _)) _ H (ExK.refl H) (Dt.v _) h⟩
    cases e with
    | tup ds =>
      obtain ⟨a, xs, rfl, ha, r⟩ := hy.tup_inv
      have e1 : ds = ns.map D.int := Option.some.inj hi
      subst e1
      have e2 := r.ints
      subst e2
      exact fin a (.inr (.of ha))
    | lst ds =>
      obtain ⟨a, xs, rfl, ha, r⟩ := hy
      have e1 : ds = ns.map D.int := Option.some.inj hi
      subst e1
      have e2 := r.ints
      subst e2
      exact fin a (.inl (.of ha))
    | v y => cases hi
    | scr ns => cases hi
    | bag => cases hi
    | fix P => cases hi
  · exact h.elim
section
variable {X : Cx}
theorem o_in : X2 X (compareOp .In) (rIn X.K false) (dIn false) := ⟨op_in_seq, sn_in⟩
theorem o_notin : X2 X (compareOp .NotIn) (rIn X.K true) (dIn true) := ⟨op_notIn_seq, sn_in⟩
end

/-! ### an item -/
theorem atI_all {K : PySem.W.Frag} {N : Nat} {H : Hp} {Z : Addr → Prop} {xs : List V} {ds : List D} {i : Int} {d : D} (r : DtAll K N H Z xs ds) (h : atI ds i = some d) : ∃ v, atI xs i = some v ∧ Dt K N H Z v d := by
  unfold atI at h ⊢
  rw [r.length]
  cases e : ixN ds.length i with
  | none => rw [e] at h; cases h
  | some j =>
    rw [e] at h
    exact r.get h
def dIx : D2 := fun d e k => match d.items, e with
  | some ds, .v (.int i) => match atI ds i with
    | some d' => k (.dat d')
    | none => False
  | _, _ => False
theorem sn_ix {K : PySem.W.Frag} : Snd2 K (rIx K) dIx := by
  refine ⟨fun B Z N H x y d e k Q hK hz hx hy h q => ?_⟩
  subst hK
  unfold dIx at h
  split at h
  · rename_i ds i hi
    have hy' := hy.v_inv
    subst hy'
    cases ha : atI ds i with
    | none => rw [ha] at h; exact h.elim
    | some d' =>
      rw [ha] at h
      cases d with
      | tup ds' =>
        obtain ⟨a, xs, rfl, hx1, r⟩ := hx.tup_inv
        have e1 : ds' = ds := Option.some.inj hi
        subst e1
        obtain ⟨v, h1, h2⟩ := atI_all r ha
        exact .inr (.inl ⟨a, xs, i, v, rfl, rfl, .of hx1, h1, q (.dat d') v H (ExK.refl H) (h2) h⟩)
      | lst ds' =>
        obtain ⟨a, xs, rfl, hx1, r⟩ := hx
        have e1 : ds' = ds := Option.some.inj hi
        subst e1
        obtain ⟨v, h1, h2⟩ := atI_all r ha
        exact .inl ⟨a, xs, i, v, rfl, rfl, .of hx1, h1, q (.dat d') v H (ExK.refl H) (h2) h⟩
      | v y => cases hi
      | scr ns => cases hi
      | bag => cases hi
      | fix P => cases hi
  · exact h.elim
section
variable {X : Cx}
theorem o_ix : X2I X (rIx X.K) dIx := ⟨ix_seq, sn_ix⟩
end
end DL

/-! DLd: tests, displays, calls, slices by data. -/
namespace DL
open PySem PySem.Spec PyProof.Rows L2
variable [TabNames]

/-! ### tests -/
@[simp] def dAnd (p q : DT) : DT := fun δ N C => p δ N fun b N1 => wif b (q δ N1 C) (C false N1)
@[simp] def dOr (p q : DT) : DT := fun δ N C => p δ N fun b N1 => wif b (C true N1) (q δ N1 C)
@[simp] def dNot (p : DT) : DT := fun δ N C => p δ N fun b N1 => C (!b) N1
section
variable {X : Cx} {G : Gg} {a b c : Expr} {ta tb tc : TE} {da db dc : DE} {tp tq : TT} {dp dq : DT} {pos : Pos} {rest : List Expr}
theorem snd_and (hp : SndT G tp dp) (hq : SndT G tq dq) : SndT G (tAnd tp tq) (dAnd dp dq) := by
  refine ⟨fun B Z δ σ H N C Q hB S h q => ?_⟩
  refine hp.run B Z δ σ H N _ _ hB S h fun b H1 k1 e1 h1 => ?_
  cases b with
  | true => exact hq.run B Z δ σ H1 (N + k1) C Q hB (S.ext e1) h1 fun b2 H2 k2 e2 h2 => q b2 H2 (k1 + k2) (e1.trans e2) (by rw [← Nat.add_assoc]; exact h2)
  | false => exact q false H1 k1 e1 h1
theorem snd_or (hp : SndT G tp dp) (hq : SndT G tq dq) : SndT G (tOr tp tq) (dOr dp dq) := by
  refine ⟨fun B Z δ σ H N C Q hB S h q => ?_⟩
  refine hp.run B Z δ σ H N _ _ hB S h fun b H1 k1 e1 h1 => ?_
  cases b with
  | false => exact hq.run B Z δ σ H1 (N + k1) C Q hB (S.ext e1) h1 fun b2 H2 k2 e2 h2 => q b2 H2 (k1 + k2) (e1.trans e2) (by rw [← Nat.add_assoc]; exact h2)
  | true => exact q true H1 k1 e1 h1
theorem snd_not (hp : SndT G tp dp) : SndT G (tNot tp) (dNot dp) :=
  ⟨fun B Z δ σ H N C Q hB S h q => hp.run B Z δ σ H N _ _ hB S h fun b H1 k1 e1 h1 => q (!b) H1 k1 e1 h1⟩
theorem xw_and1 (ha : XT X G a tp dp) : XW X G (.BoolOp .And [a] pos) tp dp := ⟨pw_and1 ha.pe, ha.sn⟩
theorem xw_or1 (ha : XT X G a tp dp) : XW X G (.BoolOp .Or [a] pos) tp dp := ⟨pw_or1 ha.pe, ha.sn⟩
theorem xw_and (ha : XT X G a tp dp) (hb : XW X G (.BoolOp .And (b :: rest) pos) tq dq) : XW X G (.BoolOp .And (a :: b :: rest) pos) (tAnd tp tq) (dAnd dp dq) := ⟨pw_and ha.pe hb.pe, snd_and ha.sn hb.sn⟩
theorem xw_or (ha : XT X G a tp dp) (hb : XW X G (.BoolOp .Or (b :: rest) pos) tq dq) : XW X G (.BoolOp .Or (a :: b :: rest) pos) (tOr tp tq) (dOr dp dq) := ⟨pw_or ha.pe hb.pe, snd_or ha.sn hb.sn⟩
theorem XW.xt (h : XW X G a tp dp) : XT X G a tp dp := ⟨h.pe.pt, h.sn⟩
theorem xt_not (ha : XT X G a tp dp) : XT X G (.UnaryOp .Not a pos) (tNot tp) (dNot dp) := ⟨pt_not ha.pe, snd_not ha.sn⟩
theorem xt_val (h : XE X G a ta da) (he : ∀ whole, isTrue a X.env whole = (do let v ← whole; standAt a.pos; holding [v] (truthy v)) := by intro _; rfl) : XT X G a (tB ta) (dTest da) := ⟨pt_val h.pe he, snd_B h.sn⟩

/-! ### and, or, not as values -/
@[simp] def dAndV (p q : DE) : DE := fun δ N C => p δ N fun s N1 => match s with
  | .dat (.v (.bl b)) => wif b (q δ N1 C) (C (.dat (.bl false)) N1)
  | _ => False
@[simp] def dOrV (p q : DE) : DE := fun δ N C => p δ N fun s N1 => match s with
  | .dat (.v (.bl b)) => wif b (C (.dat (.bl true)) N1) (q δ N1 C)
  | _ => False
@[simp] def dNotV (p : DE) : DE := fun δ N C => p δ N fun s N1 => match s with
  | .dat (.v (.bl b)) => C (.dat (.bl (!b))) N1
  | _ => False
theorem bl_of {B : Bs} {N : Nat} {H H' : Hp} {Z : Addr → Prop} {v : V} {b : Bool} (r : Rs B N H H' Z v (.dat (.v (.bl b)))) : v = .bl b := by
  have r' : Dt B.K N H' Z v (.v (.bl b)) := r
  cases r'
  rfl
theorem snd_andV (ha : Snd G ta da) (hb : Snd G tb db) : Snd G (tAndV ta tb) (dAndV da db) := by
  refine ⟨fun B Z δ σ H N C Q hB S h q => ?_⟩
  refine ha.run B Z δ σ H N _ _ hB S h fun s x H1 k1 e1 r1 h1 => ?_
  split at h1
  · rename_i b
    refine ⟨b, bl_of r1, ?_⟩
    cases b with
    | true =>
      exact hb.run B Z δ σ H1 (N + k1) C Q hB (S.ext e1) h1 fun s2 v2 H2 k2 e2 r2 h2 => by
        rw [Nat.add_assoc] at r2 h2
        exact q s2 v2 H2 (k1 + k2) (e1.trans e2) (r2.back e1) h2
    | false => exact q (.dat (.v _)) _ H1 k1 e1 (Dt.v _) h1
  · exact h1.elim
theorem snd_orV (ha : Snd G ta da) (hb : Snd G tb db) : Snd G (tOrV ta tb) (dOrV da db) := by
  refine ⟨fun B Z δ σ H N C Q hB S h q => ?_⟩
  refine ha.run B Z δ σ H N _ _ hB S h fun s x H1 k1 e1 r1 h1 => ?_
  split at h1
  · rename_i b
    refine ⟨b, bl_of r1, ?_⟩
    cases b with
    | false =>
      exact hb.run B Z δ σ H1 (N + k1) C Q hB (S.ext e1) h1 fun s2 v2 H2 k2 e2 r2 h2 => by
        rw [Nat.add_assoc] at r2 h2
        exact q s2 v2 H2 (k1 + k2) (e1.trans e2) (r2.back e1) h2
    | true => exact q (.dat (.v _)) _ H1 k1 e1 (Dt.v _) h1
  · exact h1.elim
theorem snd_notV (ha : Snd G ta da) : Snd G (tNotV ta) (dNotV da) := by
  refine ⟨fun B Z δ σ H N C Q hB S h q => ?_⟩
  refine ha.run B Z δ σ H N _ _ hB S h fun s x H1 k1 e1 r1 h1 => ?_
  split at h1
  · rename_i b
    exact ⟨b, bl_of r1, q (.dat (.v _)) _ H1 k1 e1 (Dt.v _) h1⟩
  · exact h1.elim
theorem x_one {op} (h : XE X G a ta da) : XE X G (.BoolOp op [a] pos) ta da := ⟨pe_one h.pe, h.sn⟩
theorem x_and (ha : XE X G a ta da) (hb : XE X G (.BoolOp .And (b :: rest) pos) tb db) : XE X G (.BoolOp .And (a :: b :: rest) pos) (tAndV ta tb) (dAndV da db) := ⟨pe_and ha.pe hb.pe, snd_andV ha.sn hb.sn⟩
theorem x_or (ha : XE X G a ta da) (hb : XE X G (.BoolOp .Or (b :: rest) pos) tb db) : XE X G (.BoolOp .Or (a :: b :: rest) pos) (tOrV ta tb) (dOrV da db) := ⟨pe_or ha.pe hb.pe, snd_orV ha.sn hb.sn⟩
theorem x_not (ha : XE X G a ta da) : XE X G (.UnaryOp .Not a pos) (tNotV ta) (dNotV da) := ⟨pe_not ha.pe, snd_notV ha.sn⟩

/-! ### a if t else b -/
@[simp] def dIfE (p : DT) (da db : DE) : DE := fun δ N C => p δ N fun b N1 => wif b (da δ N1 C) (db δ N1 C)
theorem snd_if (hp : SndT G tp dp) (ha : Snd G ta da) (hb : Snd G tb db) : Snd G (tIf tp ta tb) (dIfE dp da db) := by
  refine ⟨fun B Z δ σ H N C Q hB S h q => ?_⟩
  refine hp.run B Z δ σ H N _ _ hB S h fun b H1 k1 e1 h1 => ?_
  cases b with
  | true =>
    exact ha.run B Z δ σ H1 (N + k1) C Q hB (S.ext e1) h1 fun s2 v2 H2 k2 e2 r2 h2 => by
      rw [Nat.add_assoc] at r2 h2
      exact q s2 v2 H2 (k1 + k2) (e1.trans e2) (r2.back e1) h2
  | false =>
    exact hb.run B Z δ σ H1 (N + k1) C Q hB (S.ext e1) h1 fun s2 v2 H2 k2 e2 r2 h2 => by
      rw [Nat.add_assoc] at r2 h2
      exact q s2 v2 H2 (k1 + k2) (e1.trans e2) (r2.back e1) h2
theorem x_if (hp : XT X G c tp dp) (ha : XE X G a ta da) (hb : XE X G b tb db) : XE X G (.IfExp c a b pos) (tIf tp ta tb) (dIfE dp da db) := ⟨pe_ifExp hp.pe ha.pe hb.pe, snd_if hp.sn ha.sn hb.sn⟩

/-! ### -a -/
@[simp] def dNeg (da : DE) : DE := fun δ N C => da δ N fun s N1 => match s with
  | .dat (.v (.int i)) => C (.dat (.int (-i))) N1
  | _ => False
theorem snd_neg (ha : Snd G ta da) : Snd G (tUn (rU fun i => .int (-i)) ta) (dNeg da) := by
  refine ⟨fun B Z δ σ H N C Q hB S h q => ?_⟩
  refine ha.run B Z δ σ H N _ _ hB S h fun s x H1 k1 e1 r1 h1 => ?_
  split at h1
  · rename_i i
    have r' : Dt B.K (N + k1) H1 Z x (.v (.int i)) := r1
    cases r'
    exact ⟨i, rfl, q (.dat (.v _)) _ H1 k1 e1 (Dt.v _) h1⟩
  · exact h1.elim
theorem x_neg (ha : XE X G a ta da) : XE X G (.UnaryOp .USub a pos) (tUn (rU fun i => .int (-i)) ta) (dNeg da) := ⟨pe_un un_neg ha.pe, snd_neg ha.sn⟩

/-! ### a op b op c -/
@[simp] def dChain (dr dr' : D2) (da db dc : DE) : DE := fun δ N C => da δ N fun s N1 => db δ N1 fun u N2 => dr s.rd u.rd fun z => match z with
  | .dat (.v (.bl b)) => wif b (dc δ N2 fun w N3 => dr' u.rd w.rd fun z' => C z' N3) (C (.dat (.bl false)) N2)
  | _ => False
theorem snd_chain {r r' : R2} {dr dr' : D2} (ha : Snd G ta da) (hb : Snd G tb db) (hc : Snd G tc dc) (hr : Snd2 G.K r dr) (hr' : Snd2 G.K r' dr') : Snd G (tChain r r' ta tb tc) (dChain dr dr' da db dc) := by
  refine ⟨fun B Z δ σ H N C Q hB S h q => ?_⟩
  subst hB
  refine ha.run B Z δ σ H N _ _ rfl S h fun s x H1 k1 e1 r1 h1 => ?_
  refine hb.run B Z δ σ H1 (N + k1) _ _ rfl (S.ext e1) h1 fun u y H2 k2 e2 r2 h2 => ?_
  have w2 : Dw B.K (N + k1 + k2) H2 Z y u.rd := (r2.tp (S.ztt.ex e1)).dw
  refine hr.run B Z (N + k1 + k2) H2 x y s.rd u.rd _ _ rfl ((S.ztt.ex e1).ex e2) ((r1.tp S.ztt).dw.ex e2) w2 h2 fun z v H3 e3 r3 h3 => ?_
  split at h3
  · rename_i b
    refine ⟨b, bl_of r3, ?_⟩
    have e4 : ExK (k1 + k2) H H3 := (e1.trans e2).trans e3
    cases b with
    | false =>
      rw [Nat.add_assoc] at h3
      exact q (.dat (.v _)) _ H3 (k1 + k2) e4 (Dt.v _) h3
    | true =>
      refine hc.run B Z δ σ H3 (N + k1 + k2) _ _ rfl (((S.ext e1).ext e2).ext0 e3) h3 fun w z' H5 k5 e5 r5 h5 => ?_
      refine hr'.run B Z (N + k1 + k2 + k5) H5 y z' u.rd w.rd _ _ rfl ((((S.ztt.ex e1).ex e2).ex e3).ex e5) ((w2.ex e3).ex e5) (r5.tp (((S.ztt.ex e1).ex e2).ex e3)).dw h5 fun z2 v2 H6 e6 r6 h6 => ?_
      have e7 : ExK (k1 + k2 + k5) H H5 := e4.trans e5
      have e8 : N + k1 + k2 + k5 = N + (k1 + k2 + k5) := by omega
      rw [e8] at r6 h6
      exact q z2 v2 H6 (k1 + k2 + k5) (e7.trans e6) (r6.back e7) h6
  · exact h3.elim
theorem x_chain {op op' : CmpOp} {r r' : R2} {dr dr' : D2} (ho : X2 X (compareOp op) r dr) (ho' : X2 X (compareOp op') r' dr') (ha : XE X G a ta da) (hb : XE X G b tb db) (hc : XE X G c tc dc)
    (hm : lastMarks [op, op'] [b, c] = false := by with_unfolding_all rfl) (hK : G.K = X.K := by rfl) : XE X G (.Compare a [op, op'] [b, c] pos) (tChain r r' ta tb tc) (dChain dr dr' da db dc) :=
  ⟨pe_chain ho.op ho'.op ha.pe hb.pe hc.pe hm, snd_chain ha.sn hb.sn hc.sn (by rw [hK]; exact ho.sn) (by rw [hK]; exact ho'.sn)⟩
theorem xt_chain {op op' : CmpOp} {r r' : R2} {dr dr' : D2} (ho : X2 X (compareOp op) r dr) (ho' : X2 X (compareOp op') r' dr') (ha : XE X G a ta da) (hb : XE X G b tb db) (hc : XE X G c tc dc)
    (hm : lastMarks [op, op'] [b, c] = false := by with_unfolding_all rfl) (hK : G.K = X.K := by rfl) : XT X G (.Compare a [op, op'] [b, c] pos) (tTest (tChain r r' ta tb tc)) (dTest (dChain dr dr' da db dc)) :=
  ⟨pt_chain ho.op ho'.op ha.pe hb.pe hc.pe hm, snd_test (snd_chain ha.sn hb.sn hc.sn (by rw [hK]; exact ho.sn) (by rw [hK]; exact ho'.sn))⟩

/-! ### arguments, displays -/
@[simp] def dNil : DA := fun _ N C => C [] N
@[simp] def dCons (da : DE) (dr : DA) : DA := fun δ N C => da δ N fun s N1 => dr δ N1 fun ss N2 => C (s :: ss) N2
variable {e : Expr} {es : List Expr} {te : TE} {t : TA} {de : DE} {d : DA}
theorem snd_nil : SndA G tNil dNil := ⟨fun B Z δ σ H N C Q hB S h q => q [] [] H 0 (ExK.refl H) .nil h⟩
theorem snd_cons (ha : Snd G te de) (hr : SndA G t d) : SndA G (tCons te t) (dCons de d) := by
  refine ⟨fun B Z δ σ H N C Q hB S h q => ?_⟩
  refine ha.run B Z δ σ H N _ _ hB S h fun s x H1 k1 e1 r1 h1 => ?_
  refine hr.run B Z δ σ H1 (N + k1) _ _ hB (S.ext e1) h1 fun ss vs H2 k2 e2 r2 h2 => ?_
  rw [Nat.add_assoc] at h2 r2
  exact q (s :: ss) (x :: vs) H2 (k1 + k2) (e1.trans e2) (.cons (by rw [← Nat.add_assoc]; exact (r1.tp S.ztt).ex e2) r2) h2
theorem xa_nil : XA X G [] tNil dNil := ⟨pa_nil, snd_nil⟩
theorem xa_cons (ha : XE X G e te de) (hr : XA X G es t d) (hs : starEach (e :: es) X.env = (false, eval e X.env) :: starEach es X.env := by rfl) : XA X G (e :: es) (tCons te t) (dCons de d) := ⟨pa_cons ha.pe hr.pe hs, snd_cons ha.sn hr.sn⟩
def nalsA (ss : List Sl) : Bool := ss.all Sl.nals
theorem pair_all {B : Bs} {N : Nat} {H : Hp} {Z : Addr → Prop} : ∀ {vs : List V} {ss : List Sl}, Paired (Tp B N H Z) vs ss → nalsA ss = true → DtAll B.K N H Z vs (ss.map Sl.rd)
  | _, _, .nil, _ => .nil
  | _, _, .cons (b := s) r rr, h => by
    have h' : s.nals = true ∧ List.all _ Sl.nals = true := Bool.and_eq_true_iff.mp h
    refine .cons ?_ (pair_all rr h'.2)
    cases s with
    | dat d => exact r
    | own ds => exact r
    | als ds => exact absurd h'.1 (by simp [Sl.nals])
theorem pair_dw {B : Bs} {N : Nat} {H : Hp} {Z : Addr → Prop} : ∀ {vs : List V} {ss : List Sl}, Paired (Tp B N H Z) vs ss → Paired (Dw B.K N H Z) vs (ss.map Sl.rd)
  | _, _, .nil => .nil
  | _, _, .cons r rr => .cons r.dw (pair_dw rr)
/-- in no zone -/
abbrev Z00 : Addr → Prop := fun _ => False
theorem pair_free {B : Bs} {N : Nat} {H : Hp} {Z : Addr → Prop} : ∀ {vs : List V} {ss : List Sl}, Paired (Tp B N H Z) vs ss → DtAll B.K N H Z00 vs (ss.map Sl.rd)
  | _, _, .nil => .nil
  | _, _, .cons (b := s) r rr => by
    refine .cons ?_ (pair_free rr)
    have g : Gro B.K N N Z Z00 H H := .zone (fun _ z => False.elim z) (Nat.le_refl _)
    cases s with
    | dat d => exact Dt.gro g r
    | own ds => exact Dt.gro g r
    | als ds =>
      obtain ⟨a, xs, rfl, z, h0, ha, ra⟩ := r
      exact .lst ha (fun z => z) (ra.gro g)
@[simp] def dTup (d : DA) : DE := fun δ N C => d δ N fun ss N1 => chk (nalsA ss && shortL ss 40) (C (.dat (.tup (ss.map Sl.rd))) N1)
@[simp] def dLst (d : DA) : DE := fun δ N C => d δ N fun ss N1 => chk (nalsA ss && shortL ss 40) (C (.own (ss.map Sl.rd)) N1)
theorem paired_length {α β : Type} {F : α → β → Prop} : ∀ {xs : List α} {ys : List β}, Paired F xs ys → xs.length = ys.length
  | _, _, .nil => rfl
  | _, _, .cons _ r => congrArg (· + 1) (paired_length r)
theorem snd_tup (h : SndA G t d) : Snd G (tTup t) (dTup d) := by
  refine ⟨fun B Z δ σ H N C Q hB S hd q => ?_⟩
  refine h.run B Z δ σ H N _ _ hB S hd fun ss vs H1 k1 e1 r1 h1 => ?_
  obtain ⟨h23, h4⟩ := chk_iff.mp h1
  obtain ⟨h2, h3⟩ := Bool.and_eq_true_iff.mp h23
  have r := pair_all r1 h2
  refine ⟨by rw [paired_length r1]; exact size_of (Nat.le_trans (shortL_len h3) (by decide)), fun p hp => ?_⟩
  have ep := ExK.new (o := .tup vs) hp
  exact q (.dat (.tup (ss.map Sl.rd))) _ _ k1 (e1.trans ep) (Dt.tup upd_same (r.ex0 ep)) h4
theorem snd_lst (h : SndA G t d) : Snd G (tLst t) (dLst d) := by
  refine ⟨fun B Z δ σ H N C Q hB S hd q => ?_⟩
  refine h.run B Z δ σ H N _ _ hB S hd fun ss vs H1 k1 e1 r1 h1 => ?_
  obtain ⟨h23, h4⟩ := chk_iff.mp h1
  obtain ⟨h2, h3⟩ := Bool.and_eq_true_iff.mp h23
  have r := pair_all r1 h2
  refine ⟨by rw [paired_length r1]; exact size_of (Nat.le_trans (shortL_len h3) (by decide)), fun p hp => ?_⟩
  have ep := ExK.new (o := .lst vs) hp
  exact q (.own (ss.map Sl.rd)) _ _ k1 (e1.trans ep) ⟨p, vs, rfl, e1.back hp, upd_same, r.new hp⟩ h4
theorem x_tup {x1} (h : XA X G es t d) : XE X G (.Tuple es x1 pos) (tTup t) (dTup d) := ⟨pe_tup h.pe, snd_tup h.sn⟩
theorem x_lst (h : XA X G es t d) : XE X G (.List es pos) (tLst t) (dLst d) := ⟨pe_lst h.pe, snd_lst h.sn⟩

/-! ### calls of defs -/
/-- a promise by data: the arguments, the count, what is wanted of the value, of an exception's class -/
abbrev DSp := List D → Nat → DK → (Value → Nat → Prop) → Prop
def RsC (K : PySem.W.Frag) (N : Nat) (H H' : Hp) (Z : Addr → Prop) (v : V) : Sl → Prop
  | .dat d => Dt K N H' Z v d
  | .own ds => ∃ p xs, v = .ref p ∧ H p = none ∧ H' p = some (.lst xs) ∧ DtAll K N H' (Zp Z p) xs ds
  | .als _ => False
def lift (K : PySem.W.Frag) (dsp : DSp) : Sp := fun vs H Q E => ∃ (Z : Addr → Prop) (N : Nat) (ds : List D) (C : DK) (Er : Value → Nat → Prop),
  Zt Z H ∧ DtAll K N H Z vs ds ∧ dsp ds N C Er ∧ (∀ s v H' k, ExK k H H' → RsC K (N + k) H H' Z v s → C s (N + k) → Q v H') ∧ (∀ cls H' k, ExK k H H' → Er cls (N + k) → E cls none H')
@[simp] def dCall (Er : Value → Nat → Prop) (dsp : DSp) (d : DA) : DE := fun δ N C => d δ N fun ss N1 => dsp (ss.map Sl.rd) N1 (fun s N2 => chk (nalsA ss || s.lf) (C s N2)) Er
theorem snd_call {dsp : DSp} (h : SndA G t d) : Snd G (tCall (lift G.K dsp) [] G.E t) (dCall G.Er dsp d) := by
  refine ⟨fun B Z δ σ H N C Q hB S hd q => ?_⟩
  subst hB
  refine h.run B Z δ σ H N _ _ rfl S hd fun ss vs H1 k1 e1 r1 h1 => ?_
  have S1 := S.ext e1
  have eok : ∀ cls H' k, ExK k H1 H' → B.G.Er cls (N + k1 + k) → B.G.E cls none H' := fun cls H' k e w => by
    obtain ⟨j, ej0, ej⟩ := S1.ex
    rw [ej0, Nat.add_assoc] at w
    exact B.eok cls (j + k) H' (ej.trans e) w
  rw [List.append_nil]
  cases hn : nalsA ss with
  | true =>
    refine ⟨Z, N + k1, ss.map Sl.rd, _, B.G.Er, S1.ztt, pair_all r1 hn, h1, fun s v H2 k2 e2 r2 h2 => ?_, eok⟩
    have e3 : N + k1 + k2 = N + (k1 + k2) := by omega
    rw [e3] at r2 h2
    refine q s v H2 (k1 + k2) (e1.trans e2) ?_ (chk_iff.mp h2).2
    cases s with
    | dat d => exact r2
    | own ds =>
      obtain ⟨p, xs, rfl, h0, h3, r⟩ := r2
      exact ⟨p, xs, rfl, e1.back h0, h3, r⟩
    | als ds => exact r2.elim
  | false =>
    refine ⟨Z00, N + k1, ss.map Sl.rd, _, B.G.Er, fun _ z => False.elim z, pair_free r1, h1, fun s v H2 k2 e2 r2 h2 => ?_, eok⟩
    have e3 : N + k1 + k2 = N + (k1 + k2) := by omega
    rw [e3] at r2 h2
    rw [hn, Bool.false_or, chk_iff] at h2
    refine q s v H2 (k1 + k2) (e1.trans e2) ?_ h2.2
    cases s with
    | dat d => exact Dt.lfz r2 h2.1
    | own ds => exact absurd h2.1 (by simp [Sl.lf])
    | als ds => exact r2.elim
variable {CX : CXT} {k : Nat} {f : Addr} {fd : FuncData} {ps : List Str} {dsp : DSp} {x : Str} {p : Pos}
abbrev DFn (P : Program) (w : World) (K : PySem.W.Frag) (mg : Str → Option Value) (base : Heap) (CX : CXT) (k : Nat) (f : Addr) (fd : FuncData) (ps : List Str) (dsp : DSp) : Prop := FnOk P w K mg base CX k f fd ps (lift K dsp)
theorem x_call (F : DFn X.prog X.w X.K X.mg X.base CX k f fd ps dsp) (hr : Room k X.A) (hg : Gl X x) (hm : X.mg x = some (.ref f)) (hk : PySem.W.keepIn X.K (.ref f) = true) (hb : Binds X.K fd ps []) (hx : Passes CX X G.E)
    (ha : XA X G (e :: es) t d) (hK : G.K = X.K := by rfl) (hdb : (x == ("__debug__" : Str)) = false := by decide) (he : starEach (e :: es) X.env = (false, eval e X.env) :: starEach es X.env := by rfl) (hpl : (backTo pos (starEach es X.env)).any (·.1) = false := by rfl) :
    XE X G (.Call (.Name x p) (e :: es) [] pos) (tCall (lift G.K dsp) [] G.E t) (dCall G.Er dsp d) := by
  have F' : FnOk X.prog X.w X.K X.mg X.base CX k f fd ps (lift G.K dsp) := by rw [hK]; exact F
  exact ⟨pe_call F' hr hg hm hk hb .nil hx ha.pe hdb he hpl, snd_call ha.sn⟩

/-! ### calls of built-ins -/
@[simp] def dCB (dc : DC) (d : DA) : DE := fun δ N C => d δ N fun ss N1 => dc (ss.map Sl.rd) fun z => C z N1
theorem snd_cb {r : List V → Hp → VK → Prop} {dc : DC} (hr : SndC G.K r dc) (h : SndA G t d) : Snd G (tCB r t) (dCB dc d) := by
  refine ⟨fun B Z δ σ H N C Q hB S hd q => ?_⟩
  subst hB
  refine h.run B Z δ σ H N _ _ rfl S hd fun ss vs H1 k1 e1 r1 h1 => ?_
  refine hr.run B Z (N + k1) H1 vs (ss.map Sl.rd) _ _ rfl (S.ztt.ex e1) (pair_dw r1) h1 fun s v H2 e2 r2 h2 => ?_
  exact q s v H2 k1 (e1.trans e2) (r2.back e1) h2
theorem x_callB {id : String} {r : List V → Hp → VK → Prop} {dc : DC} (hc : XC X (.builtin id) r dc) (hg : Gl X x) (hm : X.mg x = none) (hv : bootBuiltins x = some (.builtin id)) (ha : XA X G (e :: es) t d) (hK : G.K = X.K := by rfl) (hn : x ≠ "__name__" := by decide) (hdb : (x == ("__debug__" : Str)) = false := by decide)
    (he : starEach (e :: es) X.env = (false, eval e X.env) :: starEach es X.env := by rfl) (hpl : (backTo pos (starEach es X.env)).any (·.1) = false := by rfl) : XE X G (.Call (.Name x p) (e :: es) [] pos) (tCB r t) (dCB dc d) :=
  ⟨pe_callB hc.op hg hm hv ha.pe hn hdb he hpl, snd_cb (by rw [hK]; exact hc.sn) ha.sn⟩
theorem x_callTy {T : String} {r : List V → Hp → VK → Prop} {dc : DC} (hc : XC X (.type T) r dc) (hg : Gl X x) (hm : X.mg x = none) (hv : bootBuiltins x = some (.type T)) (ha : XA X G (e :: es) t d) (hK : G.K = X.K := by rfl) (hn : x ≠ "__name__" := by decide) (hdb : (x == ("__debug__" : Str)) = false := by decide)
    (he : starEach (e :: es) X.env = (false, eval e X.env) :: starEach es X.env := by rfl) (hpl : (backTo pos (starEach es X.env)).any (·.1) = false := by rfl) : XE X G (.Call (.Name x p) (e :: es) [] pos) (tCB r t) (dCB dc d) :=
  ⟨pe_callTy hc.op hg hm hv ha.pe hn hdb he hpl, snd_cb (by rw [hK]; exact hc.sn) ha.sn⟩
end
end DL

/-! DLe: built-ins, slices, what is walked, by data. -/
namespace DL
open PySem PySem.Spec PyProof.Rows L2
variable [TabNames]

/-! ### built-ins -/
def dLen : DC := fun ds k => match ds with
  | [.tup es] => k (.dat (.int es.length))
  | [.lst es] => k (.dat (.int es.length))
  | [.scr ns] => k (.dat (.int ns.length))
  | _ => False
theorem pair1 {α β : Type} {F : α → β → Prop} {xs : List α} {y : β} (r : Paired F xs [y]) : ∃ x, xs = [x] ∧ F x y := by
  cases r with
  | cons h t => cases t; exact ⟨_, rfl, h⟩
theorem pair2 {α β : Type} {F : α → β → Prop} {xs : List α} {y z : β} (r : Paired F xs [y, z]) : ∃ x u, xs = [x, u] ∧ F x y ∧ F u z := by
  cases r with
  | cons h t =>
    obtain ⟨u, rfl, h2⟩ := pair1 t
    exact ⟨_, u, rfl, h, h2⟩
section
variable {X : Cx}
def rLenQ (K : PySem.W.Frag) : List V → Hp → VK → Prop := fun xs H Q => ∃ p ys, xs = [.ref p] ∧ (SqL K H p ys ∨ SqT K H p ys) ∧ Q (.int ys.length) H
theorem c_len : XC X (.builtin "len") (rLenQ X.K) dLen := by
  refine ⟨call_len_seq, ⟨fun B Z N H xs ds C Q hK hz hr hd q => ?_⟩⟩
  unfold dLen at hd
  split at hd
  · rename_i es
    obtain ⟨x, rfl, h⟩ := pair1 hr
    obtain ⟨a, ys, rfl, ha, r⟩ := h.tup_inv
    refine ⟨a, ys, rfl, .inr (.of ha), ?_⟩
    rw [r.length]
    exact q (.dat (.v _)) _ H (ExK.refl H) (Dt.v _) hd
  · rename_i es
    obtain ⟨x, rfl, h⟩ := pair1 hr
    obtain ⟨a, ys, rfl, ha, r⟩ := h
    refine ⟨a, ys, rfl, .inl (.of ha), ?_⟩
    rw [r.length]
    exact q (.dat (.v _)) _ H (ExK.refl H) (Dt.v _) hd
  · rename_i ns
    obtain ⟨x, rfl, h⟩ := pair1 hr
    obtain ⟨a, rfl, ha⟩ := h.scr_inv
    refine ⟨a, _, rfl, .inl (hK ▸ ha), ?_⟩
    rw [List.length_map]
    exact q (.dat (.v _)) _ H (ExK.refl H) (Dt.v _) hd
  · exact hd.elim
@[simp] def dII (g : Int → Int → Int) : DC := fun ds k => match ds with
  | [.v (.int i), .v (.int j)] => k (.dat (.int (g i j)))
  | _ => False
def rMin2 : List V → Hp → VK → Prop := fun xs H Q => ∃ i j, xs = [.int i, .int j] ∧ Q (.int (if j < i then j else i)) H
def rMax2 : List V → Hp → VK → Prop := fun xs H Q => ∃ i j, xs = [.int i, .int j] ∧ Q (.int (if j > i then j else i)) H
theorem c_min2 (hc : X.calm = true) : XC X (.builtin "min") rMin2 (dII min) := by
  refine ⟨call_min2 hc, ⟨fun B Z N H xs ds C Q hK hz hr hd q => ?_⟩⟩
  unfold dII at hd
  split at hd
  · rename_i i j
    obtain ⟨x, y, rfl, h1, h2⟩ := pair2 hr
    refine ⟨i, j, by rw [h1.v_inv, h2.v_inv], ?_⟩
    rw [show (if j < i then j else i) = min i j by omega]
    exact q (.dat (.v _)) _ H (ExK.refl H) (Dt.v _) hd
  · exact hd.elim
theorem c_max2 (hc : X.calm = true) : XC X (.builtin "max") rMax2 (dII max) := by
  refine ⟨call_max2 hc, ⟨fun B Z N H xs ds C Q hK hz hr hd q => ?_⟩⟩
  unfold dII at hd
  split at hd
  · rename_i i j
    obtain ⟨x, y, rfl, h1, h2⟩ := pair2 hr
    refine ⟨i, j, by rw [h1.v_inv, h2.v_inv], ?_⟩
    rw [show (if j > i then j else i) = max i j by omega]
    exact q (.dat (.v _)) _ H (ExK.refl H) (Dt.v _) hd
  · exact hd.elim
/-- a list of ints -/
theorem ints_of {B : Bs} {N : Nat} {H : Hp} {Z : Addr → Prop} {x : V} {ns : List Int} (h : Dw B.K N H Z x (.lst (ns.map D.int))) : ∃ a, x = .ref a ∧ SqL B.K H a (ns.map V.int) := by
  obtain ⟨a, xs, rfl, ha, r⟩ := h
  have e := r.ints
  subst e
  exact ⟨a, rfl, .of ha⟩
def dSum : DC := fun ds k => ∃ ns : List Int, ds = [.lst (ns.map D.int)] ∧ k (.dat (.int ns.sum))
def dMaxL : DC := fun ds k => ∃ ns : List Int, ds = [.lst (ns.map D.int)] ∧ ns ≠ [] ∧ ∀ m, m ∈ ns → (∀ y, y ∈ ns → y ≤ m) → k (.dat (.int m))
def dMinL : DC := fun ds k => ∃ ns : List Int, ds = [.lst (ns.map D.int)] ∧ ns ≠ [] ∧ ∀ m, m ∈ ns → (∀ y, y ∈ ns → m ≤ y) → k (.dat (.int m))
def dAll : DC := fun ds k => ∃ bs : List Bool, ds = [.lst (bs.map D.bl)] ∧ k (.dat (.bl (bs.all id)))
def dSorted : DC := fun ds k => ∃ ns : List Int, ds = [.lst (ns.map D.int)] ∧ ∀ ns' : List Int, ns'.Perm ns → ns'.Pairwise (· ≤ ·) → k (.own (ns'.map D.int))
theorem c_sum (hc : X.calm = true) : XC X (.builtin "sum") (rSum X.K) dSum := by
  refine ⟨cr_sum hc, ⟨fun B Z N H xs ds C Q hK hz hr hd q => ?_⟩⟩
  obtain ⟨ns, rfl, hd⟩ := hd
  obtain ⟨x, rfl, h⟩ := pair1 hr
  obtain ⟨a, rfl, ha⟩ := ints_of h
  exact ⟨a, ns, rfl, hK ▸ ha, q (.dat (.v _)) _ H (ExK.refl H) (Dt.v _) hd⟩
theorem c_maxL (hc : X.calm = true) : XC X (.builtin "max") (rMax X.K) dMaxL := by
  refine ⟨cr_max hc, ⟨fun B Z N H xs ds C Q hK hz hr hd q => ?_⟩⟩
  obtain ⟨ns, rfl, hn, hd⟩ := hd
  obtain ⟨x, rfl, h⟩ := pair1 hr
  obtain ⟨a, rfl, ha⟩ := ints_of h
  exact ⟨a, ns, rfl, hK ▸ ha, List.length_pos_iff.mpr hn, fun m h1 h2 => q (.dat (.v _)) _ H (ExK.refl H) (Dt.v _) (hd m h1 h2)⟩
theorem c_minL (hc : X.calm = true) : XC X (.builtin "min") (rMin X.K) dMinL := by
  refine ⟨cr_min hc, ⟨fun B Z N H xs ds C Q hK hz hr hd q => ?_⟩⟩
  obtain ⟨ns, rfl, hn, hd⟩ := hd
  obtain ⟨x, rfl, h⟩ := pair1 hr
  obtain ⟨a, rfl, ha⟩ := ints_of h
  exact ⟨a, ns, rfl, hK ▸ ha, List.length_pos_iff.mpr hn, fun m h1 h2 => q (.dat (.v _)) _ H (ExK.refl H) (Dt.v _) (hd m h1 h2)⟩
theorem c_all (hc : X.calm = true) : XC X (.builtin "all") (rAll X.K) dAll := by
  refine ⟨cr_all hc, ⟨fun B Z N H xs ds C Q hK hz hr hd q => ?_⟩⟩
  obtain ⟨bs, rfl, hd⟩ := hd
  obtain ⟨x, rfl, h⟩ := pair1 hr
  obtain ⟨a, ys, rfl, ha, r⟩ := h
  have e : bs.map D.bl = (bs.map V.bl).map D.v := by rw [List.map_map]; rfl
  rw [e] at r
  have e2 := r.vals
  subst e2
  exact ⟨a, bs, rfl, .of ha, q (.dat (.v _)) _ H (ExK.refl H) (Dt.v _) hd⟩
theorem c_sorted : XC X (.builtin "sorted") (rSortedI X.K) dSorted := by
  refine ⟨cr_sortedI, ⟨fun B Z N H xs ds C Q hK hz hr hd q => ?_⟩⟩
  obtain ⟨ns, rfl, hd⟩ := hd
  obtain ⟨x, rfl, h⟩ := pair1 hr
  obtain ⟨a, rfl, ha⟩ := ints_of h
  refine ⟨a, ns, rfl, hK ▸ ha, fun ns' p h1 h2 hp => ?_⟩
  have ep := ExK.new (o := .lst (ns'.map V.int)) hp
  exact q (.own (ns'.map D.int)) _ _ ep ⟨p, _, rfl, hp, upd_same, .ofInts ns'⟩ (hd ns' h1 h2)
/-- list(x) of a list or tuple -/
@[simp] def dList : DC := fun ds k => match ds with
  | [.tup es] => k (.own es)
  | [.lst es] => k (.own es)
  | _ => False
def rListQ (K : PySem.W.Frag) : List V → Hp → VK → Prop := fun xs H Q => ∃ p ys, xs = [.ref p] ∧ (SqL K H p ys ∨ SqT K H p ys) ∧ ∀ l, H l = none → Q (.ref l) (upd H l (.lst ys))
theorem c_list : XC X (.type "list") (rListQ X.K) dList := by
  refine ⟨call_list_of, ⟨fun B Z N H xs ds C Q hK hz hr hd q => ?_⟩⟩
  unfold dList at hd
  split at hd
  · rename_i es
    obtain ⟨x, rfl, h⟩ := pair1 hr
    obtain ⟨a, ys, rfl, ha, r⟩ := h.tup_inv
    refine ⟨a, ys, rfl, .inr (.of ha), fun p hp => ?_⟩
    have ep := ExK.new (o := .lst ys) hp
    exact q (.own es) _ _ ep ⟨p, _, rfl, hp, upd_same, r.new hp⟩ hd
  · rename_i es
    obtain ⟨x, rfl, h⟩ := pair1 hr
    obtain ⟨a, ys, rfl, ha, r⟩ := h
    refine ⟨a, ys, rfl, .inl (.of ha), fun p hp => ?_⟩
    have ep := ExK.new (o := .lst ys) hp
    exact q (.own es) _ _ ep ⟨p, _, rfl, hp, upd_same, r.new hp⟩ hd
  · exact hd.elim
/-- tuple(x) of a list or tuple -/
@[simp] def dTuple : DC := fun ds k => match ds with
  | [.tup es] => k (.dat (.tup es))
  | [.lst es] => k (.dat (.tup es))
  | _ => False
def rTupleQ (K : PySem.W.Frag) : List V → Hp → VK → Prop := fun xs H Q => ∃ p ys, xs = [.ref p] ∧ ((SqL K H p ys ∧ ∀ l, H l = none → Q (.ref l) (upd H l (.tup ys))) ∨ (SqT K H p ys ∧ Q (.ref p) H))
theorem c_tuple : XC X (.type "tuple") (rTupleQ X.K) dTuple := by
  refine ⟨call_tuple_of, ⟨fun B Z N H xs ds C Q hK hz hr hd q => ?_⟩⟩
  unfold dTuple at hd
  split at hd
  · rename_i es
    obtain ⟨x, rfl, h⟩ := pair1 hr
    obtain ⟨a, ys, rfl, ha, r⟩ := h.tup_inv
    exact ⟨a, ys, rfl, .inr ⟨.of ha, q (.dat (.tup es)) _ H (ExK.refl H) (Dt.tup ha r) hd⟩⟩
  · rename_i es
    obtain ⟨x, rfl, h⟩ := pair1 hr
    obtain ⟨a, ys, rfl, ha, r⟩ := h
    refine ⟨a, ys, rfl, .inl ⟨.of ha, fun p hp => ?_⟩⟩
    have ep := ExK.new (o := .tup ys) hp
    exact q (.dat (.tup es)) _ _ ep (Dt.tup upd_same (r.ex0 ep)) hd
  · exact hd.elim
/-- isinstance -/
def D.tyn : D → Option String
  | .v .non => some "NoneType"
  | .v (.bl _) => some "bool"
  | .v (.int _) => some "int"
  | .v (.str _) => some "str"
  | .tup _ => some "tuple"
  | .lst _ => some "list"
  | _ => none
def isaB (a T : String) : Bool := a == T || (a == "bool" && T == "int")
def tyNames : List String := ["int", "bool", "str", "tuple", "list"]
theorem kit_isa : ∀ a ∈ ["NoneType", "bool", "int", "str", "tuple", "list"], ∀ T ∈ tyNames, kitB a T = some (isaB a T) := by decide +kernel
theorem tyn_mem {d : D} {a : String} (h : d.tyn = some a) : a ∈ ["NoneType", "bool", "int", "str", "tuple", "list"] := by
  unfold D.tyn at h
  split at h <;> first
    | (cases h; decide)
    | cases h
theorem tyx_of {B : Bs} {N : Nat} {H : Hp} {Z : Addr → Prop} {x : V} {d : D} {a : String} (h : Dw B.K N H Z x d) (e : d.tyn = some a) : TyX B.K H x (.type a) := by
  cases d with
  | v y =>
    have hx := h.v_inv
    subst hx
    cases x <;> first
      | (cases e; exact .base .non)
      | (cases e; exact .base (.bl _))
      | (cases e; exact .base (.int _))
      | (cases e; exact .base (.str _))
      | (cases e)
  | tup ds =>
    obtain ⟨p, xs, rfl, ha, r⟩ := h.tup_inv
    cases e
    exact .base (.tup ha)
  | lst ds =>
    obtain ⟨p, xs, rfl, ha, r⟩ := h
    cases e
    exact .base (.lst ha)
  | scr ns => cases e
  | bag => cases e
  | fix P => cases e
def dIsi : DC := fun ds k => match ds with
  | [d, .v (.ty T)] => (T ∈ tyNames) ∧ match d.tyn with
    | some a => k (.dat (.bl (isaB a T)))
    | none => False
  | _ => False
theorem c_isi : XC X (.builtin "isinstance") (rIsi X.K) dIsi := by
  refine ⟨call_isi, ⟨fun B Z N H xs ds C Q hK hz hr hd q => ?_⟩⟩
  unfold dIsi at hd
  split at hd
  · rename_i d T
    obtain ⟨hT, hd⟩ := hd
    obtain ⟨x, y, rfl, h1, h2⟩ := pair2 hr
    have h2' := h2.v_inv
    subst h2'
    split at hd
    · rename_i a ea
      refine ⟨x, _, .type a, .type T, isaB a T, rfl, .ty T, hK ▸ tyx_of h1 ea, kit_ty (kit_isa a (tyn_mem ea) T hT), q (.dat (.v _)) _ H (ExK.refl H) (Dt.v _) hd⟩
    · exact hd.elim
  · exact hd.elim
end

inductive Ty where
  | int | bool | str | tuple | list
def Ty.nm : Ty → String
  | .int => "int" | .bool => "bool" | .str => "str" | .tuple => "tuple" | .list => "list"
def D.isa : D → Ty → Option Bool
  | .v .non, _ => some false
  | .v (.bl _), .bool => some true
  | .v (.bl _), .int => some true
  | .v (.bl _), _ => some false
  | .v (.int _), .int => some true
  | .v (.int _), _ => some false
  | .v (.str _), .str => some true
  | .v (.str _), _ => some false
  | .tup _, .tuple => some true
  | .tup _, _ => some false
  | .lst _, .list => some true
  | .lst _, _ => some false
  | _, _ => none
@[simp] theorem isa_1 {b : Bool} {i : Int} {x : Str} {ds : List D} : D.isa (.v .non) .int = some false := rfl
@[simp] theorem isa_2 {b : Bool} {i : Int} {x : Str} {ds : List D} : D.isa (.v .non) .bool = some false := rfl
@[simp] theorem isa_3 {b : Bool} {i : Int} {x : Str} {ds : List D} : D.isa (.v .non) .str = some false := rfl
@[simp] theorem isa_4 {b : Bool} {i : Int} {x : Str} {ds : List D} : D.isa (.v .non) .tuple = some false := rfl
@[simp] theorem isa_5 {b : Bool} {i : Int} {x : Str} {ds : List D} : D.isa (.v .non) .list = some false := rfl
@[simp] theorem isa_6 {b : Bool} {i : Int} {x : Str} {ds : List D} : D.isa (.v (.bl b)) .int = some true := rfl
@[simp] theorem isa_7 {b : Bool} {i : Int} {x : Str} {ds : List D} : D.isa (.v (.bl b)) .bool = some true := rfl
@[simp] theorem isa_8 {b : Bool} {i : Int} {x : Str} {ds : List D} : D.isa (.v (.bl b)) .str = some false := rfl
@[simp] theorem isa_9 {b : Bool} {i : Int} {x : Str} {ds : List D} : D.isa (.v (.bl b)) .tuple = some false := rfl
@[simp] theorem isa_10 {b : Bool} {i : Int} {x : Str} {ds : List D} : D.isa (.v (.bl b)) .list = some false := rfl
@[simp] theorem isa_11 {b : Bool} {i : Int} {x : Str} {ds : List D} : D.isa (.v (.int i)) .int = some true := rfl
@[simp] theorem isa_12 {b : Bool} {i : Int} {x : Str} {ds : List D} : D.isa (.v (.int i)) .bool = some false := rfl
@[simp] theorem isa_13 {b : Bool} {i : Int} {x : Str} {ds : List D} : D.isa (.v (.int i)) .str = some false := rfl
@[simp] theorem isa_14 {b : Bool} {i : Int} {x : Str} {ds : List D} : D.isa (.v (.int i)) .tuple = some false := rfl
@[simp] theorem isa_15 {b : Bool} {i : Int} {x : Str} {ds : List D} : D.isa (.v (.int i)) .list = some false := rfl
@[simp] theorem isa_16 {b : Bool} {i : Int} {x : Str} {ds : List D} : D.isa (.v (.str x)) .int = some false := rfl
@[simp] theorem isa_17 {b : Bool} {i : Int} {x : Str} {ds : List D} : D.isa (.v (.str x)) .bool = some false := rfl
@[simp] theorem isa_18 {b : Bool} {i : Int} {x : Str} {ds : List D} : D.isa (.v (.str x)) .str = some true := rfl
@[simp] theorem isa_19 {b : Bool} {i : Int} {x : Str} {ds : List D} : D.isa (.v (.str x)) .tuple = some false := rfl
@[simp] theorem isa_20 {b : Bool} {i : Int} {x : Str} {ds : List D} : D.isa (.v (.str x)) .list = some false := rfl
@[simp] theorem isa_21 {b : Bool} {i : Int} {x : Str} {ds : List D} : D.isa (.tup ds) .int = some false := rfl
@[simp] theorem isa_22 {b : Bool} {i : Int} {x : Str} {ds : List D} : D.isa (.tup ds) .bool = some false := rfl
@[simp] theorem isa_23 {b : Bool} {i : Int} {x : Str} {ds : List D} : D.isa (.tup ds) .str = some false := rfl
@[simp] theorem isa_24 {b : Bool} {i : Int} {x : Str} {ds : List D} : D.isa (.tup ds) .tuple = some true := rfl
@[simp] theorem isa_25 {b : Bool} {i : Int} {x : Str} {ds : List D} : D.isa (.tup ds) .list = some false := rfl
@[simp] theorem isa_26 {b : Bool} {i : Int} {x : Str} {ds : List D} : D.isa (.lst ds) .int = some false := rfl
@[simp] theorem isa_27 {b : Bool} {i : Int} {x : Str} {ds : List D} : D.isa (.lst ds) .bool = some false := rfl
@[simp] theorem isa_28 {b : Bool} {i : Int} {x : Str} {ds : List D} : D.isa (.lst ds) .str = some false := rfl
@[simp] theorem isa_29 {b : Bool} {i : Int} {x : Str} {ds : List D} : D.isa (.lst ds) .tuple = some false := rfl
@[simp] theorem isa_30 {b : Bool} {i : Int} {x : Str} {ds : List D} : D.isa (.lst ds) .list = some true := rfl
theorem isa_ty {d : D} {T : Ty} {b : Bool} (h : d.isa T = some b) : ∃ a, d.tyn = some a ∧ isaB a T.nm = b := by
  cases d with
  | v x => cases x <;> cases T <;> first
    | (cases h; exact ⟨_, rfl, by decide⟩)
    | cases h
  | tup ds => cases T <;> (cases h; exact ⟨_, rfl, by decide⟩)
  | lst ds => cases T <;> (cases h; exact ⟨_, rfl, by decide⟩)
  | scr ns => cases T <;> cases h
  | bag => cases T <;> cases h
  | fix P => cases T <;> cases h
theorem nm_mem (T : Ty) : T.nm ∈ tyNames := by cases T <;> decide
/-- isinstance(e, T) -/
@[simp] def dIsa (T : Ty) (de : DE) : DE := fun δ N C => de δ N fun s N1 => match s.rd.isa T with
  | some b => C (.dat (.bl b)) N1
  | none => False
theorem x_isa {X : Cx} {G : Gg} {e c : Expr} {te : TE} {de : DE} {p pos : Pos} (T : Ty) (hg : Gl X "isinstance") (hm : X.mg "isinstance" = none) (h : XE X G e te de) (hc : XE X G c (tC (.ty T.nm)) (dC (.ty T.nm))) (hK : G.K = X.K := by rfl)
    (hs2 : starEach (e :: [c]) X.env = (false, eval e X.env) :: starEach [c] X.env := by rfl) (hs1 : starEach [c] X.env = (false, eval c X.env) :: starEach [] X.env := by rfl) (hpl : (backTo pos (starEach [c] X.env)).any (·.1) = false := by rfl) :
    XE X G (.Call (.Name "isinstance" p) [e, c] [] pos) (tCB (rIsi G.K) (tCons te (tCons (tC (.ty T.nm)) tNil))) (dIsa T de) := by
  refine ⟨?_, ⟨fun B Z δ σ H N C Q hB S hd q => ?_⟩⟩
  · rw [hK]
    exact pe_callB (c_isi (X := X)).op hg hm PyProof.Rows.boot_isinstance (pa_cons h.pe (pa_cons hc.pe pa_nil hs1) hs2) (by decide) (by decide) hs2 hpl
  · subst hB
    refine h.sn.run B Z δ σ H N _ _ rfl S hd fun s x H1 k1 e1 r1 h1 => ?_
    split at h1
    · rename_i b eb
      obtain ⟨a, ea, hb⟩ := isa_ty eb
      have w := (r1.tp S.ztt).dw
      refine ⟨x, _, .type a, .type T.nm, b, rfl, .ty _, tyx_of w ea, kit_ty (by rw [kit_isa a (tyn_mem ea) T.nm (nm_mem T), hb]), q (.dat (.v _)) _ H1 k1 e1 (Dt.v _) h1⟩
    · exact h1.elim

/-- isinstance(e, (T, ..)) -/
def taTys : List Ty → TA
  | [] => tNil
  | T :: r => tCons (tC (.ty T.nm)) (taTys r)
theorem taTys_run {σ : L2.St} {H : Hp} : ∀ {Ts : List Ty} {Q : List V → Hp → Prop}, Q (Ts.map fun T => .ty T.nm) H → taTys Ts σ H Q
  | [], Q, h => h
  | T :: r, Q, h => taTys_run (Ts := r) (Q := fun xs H2 => Q (V.ty T.nm :: xs) H2) h
def D.isas (d : D) : List Ty → Option Bool
  | [] => some false
  | T :: r => match d.isa T, D.isas d r with
    | some a, some b => some (a || b)
    | _, _ => none
theorem kits {K : PySem.W.Frag} {d : D} {a : String} (ha : d.tyn = some a) : ∀ {Ts : List Ty} {b : Bool}, d.isas Ts = some b → PySem.W.kitAny K (.type a) (Ts.map fun T => .type T.nm) = some b
  | [], b, h => by
    cases h
    exact kitAny_nil
  | T :: r, b, h => by
    unfold D.isas at h
    split at h
    · rename_i x y hx hy
      cases h
      obtain ⟨a', ea, hb⟩ := isa_ty hx
      rw [ha] at ea
      cases ea
      have h1 : PySem.W.kitOne K (.type a) (.type T.nm) = some x := kit_ty (by rw [kit_isa a (tyn_mem ha) T.nm (nm_mem T), hb])
      refine kitAny_cons h1 (fun hx0 => ?_) (fun hx1 => by rw [hx1]; rfl)
      rw [hx0, Bool.false_or]
      exact kits ha hy
    · cases h
theorem tyn_of {d : D} {T : Ty} {b : Bool} (h : d.isa T = some b) : ∃ a, d.tyn = some a := by
  obtain ⟨a, ea, _⟩ := isa_ty h
  exact ⟨a, ea⟩
def D.isasE (d : D) (Ts : List Ty) : Option Bool := match d.isa .int with
  | some _ => d.isas Ts
  | none => none
@[simp] def dIsaT (Ts : List Ty) (de : DE) : DE := fun δ N C => de δ N fun s N1 => match s.rd.isasE Ts with
  | some b => C (.dat (.bl b)) N1
  | none => False
theorem cls_all : ∀ Ts : List Ty, Paired ClsV (Ts.map fun T => V.ty T.nm) (Ts.map fun T => Value.type T.nm)
  | [] => .nil
  | T :: r => .cons (.ty _) (cls_all r)
theorem x_isaT {X : Cx} {G : Gg} {e : Expr} {cs : List Expr} {te : TE} {de : DE} {dcs : DA} {p pos p2 : Pos} {x1} (Ts : List Ty) (hg : Gl X "isinstance") (hm : X.mg "isinstance" = none) (h : XE X G e te de) (hc : XA X G cs (taTys Ts) dcs) (hz : Ts.length ≤ 100) (hK : G.K = X.K := by rfl)
    (hs2 : starEach (e :: [.Tuple cs x1 p2]) X.env = (false, eval e X.env) :: starEach [.Tuple cs x1 p2] X.env := by rfl) (hs1 : starEach [.Tuple cs x1 p2] X.env = (false, eval (.Tuple cs x1 p2) X.env) :: starEach [] X.env := by rfl) (hpl : (backTo pos (starEach [.Tuple cs x1 p2] X.env)).any (·.1) = false := by rfl) :
    XE X G (.Call (.Name "isinstance" p) [e, .Tuple cs x1 p2] [] pos) (tCB (rIsiT G.K) (tCons te (tCons (tTup (taTys Ts)) tNil))) (dIsaT Ts de) := by
  refine ⟨?_, ⟨fun B Z δ σ H N C Q hB S hd q => ?_⟩⟩
  · rw [hK]
    exact pe_callB call_isiT hg hm PyProof.Rows.boot_isinstance (pa_cons h.pe (pa_cons (pe_tup hc.pe) pa_nil hs1) hs2) (by decide) (by decide) hs2 hpl
  · subst hB
    refine h.sn.run B Z δ σ H N _ _ rfl S hd fun s x H1 k1 e1 r1 h1 => ?_
    split at h1
    · rename_i b eb
      unfold D.isasE at eb
      split at eb
      · rename_i b0 eb0
        obtain ⟨a, ea⟩ := tyn_of eb0
        have w := (r1.tp S.ztt).dw
        refine taTys_run (Ts := Ts) ⟨by rw [List.length_map]; exact size_of (Nat.le_trans hz (by decide)), fun p hp => ?_⟩
        have ep := ExK.new (o := .tup (Ts.map fun T => .ty T.nm)) hp
        refine ⟨x, p, _, .type a, _, b, rfl, upd_same, cls_all Ts, tyx_of (w.ex ep) ea, kits ea eb, ?_⟩
        exact q (.dat (.v _)) _ _ k1 (e1.trans ep) (Dt.v _) h1
      · cases eb
    · exact h1.elim

/-! ### slices -/
abbrev DO := StD → Nat → (Option Int → Nat → Prop) → Prop
structure SndO (G : Gg) (to : TO) (d : DO) : Prop where
  run : ∀ (B : Bs) Z δ σ H N (C : Option Int → Nat → Prop) (Q : Option Int → Hp → Prop), B.G = G → SD B Z δ σ H N → d δ N C →
    (∀ o H' k, ExK k H H' → C o (N + k) → Q o H') → to σ H Q
structure XO (X : Cx) (G : Gg) (e : Option Expr) (t : TO) (d : DO) : Prop where
  pe : PO X e t
  sn : SndO G t d
@[simp] def dNoPart : DO := fun _ N C => C none N
@[simp] def dPart (de : DE) : DO := fun δ N C => de δ N fun s N1 => match s with
  | .dat (.v (.int i)) => C (some i) N1
  | _ => False
def cutD (ds : List D) (lo hi : Option Int) : List D := (ds.drop (HT.sIx ds.length 0 lo)).take (HT.sIx ds.length ds.length hi - HT.sIx ds.length 0 lo)
def cutI (ds : List Int) (lo hi : Option Int) : List Int := (ds.drop (HT.sIx ds.length 0 lo)).take (HT.sIx ds.length ds.length hi - HT.sIx ds.length 0 lo)
@[simp] def dSl (da : DE) (dl dh : DO) : DE := fun δ N C => da δ N fun s N1 => dl δ N1 fun lo N2 => dh δ N2 fun hi N3 => match s.rd with
  | .tup ds => C (.dat (.tup (cutD ds lo hi))) N3
  | .lst ds => C (.own (cutD ds lo hi)) N3
  | .scr ns => C (.own ((cutI ns lo hi).map D.int)) N3
  | _ => False
section
variable {X : Cx} {G : Gg} {e : Expr} {te : TE} {de : DE} {lo hi : Option Expr} {tl th : TO} {dl dh : DO} {pos p2 : Pos}
theorem xo_none : XO X G none tNoPart dNoPart := ⟨po_none, ⟨fun B Z δ σ H N C Q hB S h q => q none H 0 (ExK.refl H) h⟩⟩
theorem xo_some (h : XE X G e te de) : XO X G (some e) (tPart te) (dPart de) := by
  refine ⟨po_some h.pe, ⟨fun B Z δ σ H N C Q hB S hd q => ?_⟩⟩
  refine h.sn.run B Z δ σ H N _ _ hB S hd fun s x H1 k1 e1 r1 h1 => ?_
  split at h1
  · rename_i i
    have r' : Dt B.K (N + k1) H1 Z x (.v (.int i)) := r1
    cases r'
    exact ⟨i, rfl, q (some i) H1 k1 e1 h1⟩
  · exact h1.elim
theorem cut_all {K : PySem.W.Frag} {N : Nat} {H : Hp} {Z : Addr → Prop} {xs : List V} {ds : List D} {lo hi : Option Int} (r : DtAll K N H Z xs ds) : DtAll K N H Z (cutV xs lo hi) (cutD ds lo hi) := by
  unfold cutV cutD
  rw [r.length]
  exact (r.drop _).take _
theorem cutD_whole {ds : List D} {lo hi : Option Int} (h : HT.sIx ds.length 0 lo = 0 ∧ HT.sIx ds.length ds.length hi = ds.length) : cutD ds lo hi = ds := by
  unfold cutD
  rw [h.1, h.2]
  simp
theorem cutV_ints (ns : List Int) (lo hi : Option Int) : cutV (ns.map V.int) lo hi = (cutI ns lo hi).map V.int := by
  unfold cutV cutI
  rw [List.length_map, ← List.map_drop, ← List.map_take]
theorem x_slice0 (h : XE X G e te de) (hl : XO X G lo tl dl) (hu : XO X G hi th dh) (hK : G.K = X.K := by rfl) : XE X G (.Subscript e (.Slice lo hi none p2) pos) (tSl (fun x l u H Q => rSlA X.K x l u H Q ∨ rSlL X.K x l u H Q) te tl th) (dSl de dl dh) := by
  refine ⟨pe_slice (sl_tupA.or sl_list) h.pe hl.pe hu.pe, ⟨fun B Z δ σ H N C Q hB S hd q => ?_⟩⟩
  have hBK : X.K = B.K := by rw [← hK, ← hB]
  refine h.sn.run B Z δ σ H N _ _ hB S hd fun s x H1 k1 e1 r1 h1 => ?_
  refine hl.sn.run B Z δ σ H1 (N + k1) _ _ hB (S.ext e1) h1 fun l H2 k2 e2 h2 => ?_
  refine hu.sn.run B Z δ σ H2 (N + k1 + k2) _ _ hB ((S.ext e1).ext e2) h2 fun u H3 k3 e3 h3 => ?_
  have w : Dw B.K (N + (k1 + k2 + k3)) H3 Z x s.rd := by
    have w' := (((r1.tp S.ztt).dw).ex e2).ex e3
    have e8 : N + k1 + k2 + k3 = N + (k1 + k2 + k3) := by omega
    rw [e8] at w'
    exact w'
  have ee : ExK (k1 + k2 + k3) H H3 := (e1.trans e2).trans e3
  have e8 : N + k1 + k2 + k3 = N + (k1 + k2 + k3) := by omega
  rw [e8] at h3
  rw [hBK]
  split at h3
  · rename_i ds eq
    rw [eq] at w
    obtain ⟨a, xs, rfl, ha, r⟩ := w.tup_inv
    refine .inl ⟨a, xs, rfl, .of ha, fun hw => ?_, fun _ p hp => ?_⟩
    · rw [r.length] at hw
      rw [cutD_whole hw] at h3
      exact q (.dat (.tup ds)) _ H3 _ ee (Dt.tup ha r) h3
    · have ep := ExK.new (o := .tup (cutV xs l u)) hp
      exact q (.dat (.tup (cutD ds l u))) _ _ _ (ee.trans ep) (Dt.tup upd_same ((cut_all r).ex0 ep)) h3
  · rename_i ds eq
    rw [eq] at w
    obtain ⟨a, xs, rfl, ha, r⟩ := w
    refine .inr ⟨a, xs, rfl, .of ha, fun p hp => ?_⟩
    have ep := ExK.new (o := .lst (cutV xs l u)) hp
    exact q (.own (cutD ds l u)) _ _ _ (ee.trans ep) ⟨p, _, rfl, ee.back hp, upd_same, (cut_all r).new hp⟩ h3
  · rename_i ns eq
    rw [eq] at w
    obtain ⟨a, rfl, ha⟩ := w.scr_inv
    refine .inr ⟨a, _, rfl, ha, fun p hp => ?_⟩
    have ep := ExK.new (o := .lst (cutV (ns.map V.int) l u)) hp
    refine q (.own ((cutI ns l u).map D.int)) _ _ _ (ee.trans ep) ⟨p, _, rfl, ee.back hp, upd_same, ?_⟩ h3
    rw [cutV_ints]
    exact .ofInts _
  · exact h3.elim
theorem x_slice (h : XE X G e te de) (hl : XO X G lo tl dl) (hu : XO X G hi th dh) (hK : G.K = X.K := by rfl) : XE X G (.Subscript e (.Slice lo hi none p2) pos) (tSl (fun x l u H Q => rSlA G.K x l u H Q ∨ rSlL G.K x l u H Q) te tl th) (dSl de dl dh) := by
  rw [hK]
  exact x_slice0 h hl hu hK
end

/-! ### what is walked -/
abbrev DI := StD → Nat → (List D → Nat → Prop) → Prop
/-- the iterator J walks the items ds while the temps τ stand -/
structure Walks (K : PySem.W.Frag) (J : It) (τ : List (D × V)) (ds : List D) : Prop where
  go : ∀ N H Z i d, Zt Z H → (∀ p ∈ τ, Dt K N H Z p.2 p.1) → ds[i]? = some d → J.go i H ∧ ∀ x H', J.yld i H x H' → ExK 0 H H' ∧ Dt K N H' Z x d
  stop : ∀ N H Z i, (∀ p ∈ τ, Dt K N H Z p.2 p.1) → ds.length ≤ i → J.stop i H
structure SndI (G : Gg) (wi : TI) (di : DI) : Prop where
  run : ∀ (B : Bs) Z δ σ H N (C : List D → Nat → Prop) (R : It → Hp → Prop), B.G = G → SD B Z δ σ H N → di δ N C →
    (∀ J ds τ H' k, ExK k H H' → (∀ p ∈ τ, Dt B.K (N + k) H' Z p.2 p.1) → Walks B.K J τ ds → C ds (N + k) → R J H') → wi σ H R
structure XI (X : Cx) (G : Gg) (tg iter : Expr) (wi : TI) (di : DI) : Prop where
  pe : PI X tg iter wi
  sn : SndI G wi di
def iSeq (K : PySem.W.Frag) (tl : TE) : TI := fun σ H R => tl σ H fun x H1 => ∃ a, x = .ref a ∧ (((∃ xs, SqL K H1 a xs) ∧ R (Itl K a) H1) ∨ ((∃ xs, SqT K H1 a xs) ∧ R (Itt K a) H1))
theorem pi_seq {X : Cx} {tg l : Expr} {tl : TE} (hl : PE X l tl) : PI X tg l (iSeq X.K tl) := by
  refine ⟨fun pins s σ H R I h => ?_⟩
  refine thn (hl.run pins s σ H _ I h) fun v s1 ⟨x, H1, I1, r1, q1⟩ => ?_
  obtain ⟨a, e, ⟨⟨xs, hq⟩, q⟩ | ⟨⟨xs, hq⟩, q⟩⟩ := q1
  · subst e
    cases r1
    obtain ⟨its, rv, p, hz⟩ := I1.list hq
    refine wpAny_pyIter_list p.isList ?_
    refine ⟨s1.heap.objs.size, [s1.heap.objs.size], _, _, H1, rfl, I1.kept (t' := s1.toks) fun b o e => Heap.get?_push_of_some _ e, turn_list a _, ⟨_, Heap.get?_push_size _ rfl, rfl, rfl⟩, fun b hb => ?_, q⟩
    have e : b = s1.heap.objs.size := by simpa using hb
    subst e
    exact I1.fpOk (Nat.le_refl _) (I1.hok.fresh (Nat.le_refl _))
  · subst e
    cases r1
    obtain ⟨its, rv, p, hz⟩ := I1.tuple hq
    refine wpAny_pyIter_tuple (show s1.heap.IsTuple a its.toArray from p) ?_
    refine ⟨s1.heap.objs.size, [s1.heap.objs.size], _, _, H1, rfl, I1.kept (t' := s1.toks) fun b o e => Heap.get?_push_of_some _ e, turn_tuple a _, ⟨_, Heap.get?_push_size _ rfl, rfl, rfl⟩, fun b hb => ?_, q⟩
    have e : b = s1.heap.objs.size := by simpa using hb
    subst e
    exact I1.fpOk (Nat.le_refl _) (I1.hok.fresh (Nat.le_refl _))
/-- a list or tuple (no other name of an own list) -/
def itemsS : Sl → Option (List D)
  | .dat (.tup ds) => some ds
  | .dat (.lst ds) => some ds
  | .own ds => some ds
  | _ => none
@[simp] theorem itemsS_1 {ds : List D} : itemsS (.dat (.tup ds)) = some ds := rfl
@[simp] theorem itemsS_2 {ds : List D} : itemsS (.dat (.lst ds)) = some ds := rfl
@[simp] theorem itemsS_3 {ds : List D} : itemsS (.own ds) = some ds := rfl
@[simp] def dSeqI (de : DE) : DI := fun δ N C => de δ N fun s N1 => match itemsS s with
  | some ds => C ds N1
  | none => False
theorem walks_list {K : PySem.W.Frag} {a : Addr} {ds : List D} : Walks K (Itl K a) [(.lst ds, .ref a)] ds where
  go := fun N H Z i d _ ht hd => by
    have h : Dt K N H Z (.ref a) (.lst ds) := ht (.lst ds, .ref a) (by simp)
    cases h with
    | lst ha hz r =>
      obtain ⟨v, h1, h2⟩ := r.get hd
      refine ⟨⟨_, v, .of ha, h1⟩, fun x H' y => ?_⟩
      obtain ⟨rfl, y⟩ := y
      have e := y _ (.of ha)
      rw [h1] at e
      cases e
      exact ⟨ExK.refl _, h2⟩
  stop := fun N H Z i ht hi => by
    have h : Dt K N H Z (.ref a) (.lst ds) := ht (.lst ds, .ref a) (by simp)
    cases h with
    | lst ha hz r => exact ⟨_, .of ha, by rw [r.length]; exact hi⟩
theorem walks_tup {K : PySem.W.Frag} {a : Addr} {ds : List D} : Walks K (Itt K a) [(.tup ds, .ref a)] ds where
  go := fun N H Z i d _ ht hd => by
    have h : Dt K N H Z (.ref a) (.tup ds) := ht (.tup ds, .ref a) (by simp)
    cases h with
    | tup ha r =>
      obtain ⟨v, h1, h2⟩ := r.get hd
      refine ⟨⟨_, v, .of ha, h1⟩, fun x H' y => ?_⟩
      obtain ⟨rfl, y⟩ := y
      have e := y _ (.of ha)
      rw [h1] at e
      cases e
      exact ⟨ExK.refl _, h2⟩
  stop := fun N H Z i ht hi => by
    have h : Dt K N H Z (.ref a) (.tup ds) := ht (.tup ds, .ref a) (by simp)
    cases h with
    | tup ha r => exact ⟨_, .of ha, by rw [r.length]; exact hi⟩
section
variable {X : Cx} {G : Gg} {tg e a b : Expr} {te : TE} {de : DE} {ta : TA} {da : DA} {p pos : Pos}
theorem snd_seqI (h : Snd G te de) : SndI G (iSeq G.K te) (dSeqI de) := by
  refine ⟨fun B Z δ σ H N C R hB S hd q => ?_⟩
  subst hB
  refine h.run B Z δ σ H N _ _ rfl S hd fun s x H1 k1 e1 r1 h1 => ?_
  have tup : ∀ ds, Dt B.K (N + k1) H1 Z x (.tup ds) → C ds (N + k1) → ∃ a, x = .ref a ∧ (((∃ xs, SqL B.K H1 a xs) ∧ R (Itl B.K a) H1) ∨ ((∃ xs, SqT B.K H1 a xs) ∧ R (Itt B.K a) H1)) := fun ds hx hc => by
    obtain ⟨a, xs, rfl, ha, r⟩ := (Dw.of hx).tup_inv
    refine ⟨a, rfl, .inr ⟨⟨xs, .of ha⟩, q _ ds [(.tup ds, .ref a)] H1 k1 e1 (fun p hp => ?_) walks_tup hc⟩⟩
    have e : p = (.tup ds, .ref a) := by simpa using hp
    subst e
    exact hx
  have lst : ∀ ds, Dt B.K (N + k1) H1 Z x (.lst ds) → C ds (N + k1) → ∃ a, x = .ref a ∧ (((∃ xs, SqL B.K H1 a xs) ∧ R (Itl B.K a) H1) ∨ ((∃ xs, SqT B.K H1 a xs) ∧ R (Itt B.K a) H1)) := fun ds hx hc => by
    have hx' := hx
    cases hx with
    | @lst a xs _ ha hz r =>
      refine ⟨a, rfl, .inl ⟨⟨xs, .of ha⟩, q _ ds [(.lst ds, .ref a)] H1 k1 e1 (fun p hp => ?_) walks_list hc⟩⟩
      have e : p = (.lst ds, .ref a) := by simpa using hp
      subst e
      exact hx'
  have t := r1.tp S.ztt
  split at h1
  · rename_i ds eq
    unfold itemsS at eq
    split at eq
    · cases eq; exact tup _ t h1
    · cases eq; exact lst _ t h1
    · cases eq; exact lst _ t h1
    · cases eq
  · exact h1.elim
theorem xi_seq (h : XE X G e te de) (hK : G.K = X.K := by rfl) : XI X G tg e (iSeq G.K te) (dSeqI de) := ⟨by rw [hK]; exact pi_seq h.pe, snd_seqI h.sn⟩
/-- ranges -/
def rngD (lo : Int) (n : Nat) : List D := (List.range n).map fun i : Nat => D.int (lo + (i : Int))
theorem rngD_get {lo : Int} {n i : Nat} {d : D} (h : (rngD lo n)[i]? = some d) : i < n ∧ d = .int (lo + (i : Int)) := by
  unfold rngD at h
  rw [List.getElem?_map] at h
  by_cases hi : i < n
  · rw [List.getElem?_range hi] at h
    cases h
    exact ⟨hi, rfl⟩
  · rw [List.getElem?_eq_none (by rw [List.length_range]; omega)] at h
    cases h
theorem rngD_len {lo : Int} {n : Nat} : (rngD lo n).length = n := by unfold rngD; rw [List.length_map, List.length_range]
theorem walks_rng {K : PySem.W.Frag} {lo : Int} {n : Nat} : Walks K (Itr lo n) [] (rngD lo n) where
  go := fun N H Z i d _ _ hd => by
    obtain ⟨h1, rfl⟩ := rngD_get hd
    refine ⟨h1, fun x H' y => ?_⟩
    obtain ⟨rfl, rfl⟩ := y
    exact ⟨ExK.refl _, .v _⟩
  stop := fun N H Z i _ hi => by
    rw [rngD_len] at hi
    exact hi
@[simp] def dRng1 (da : DA) : DI := fun δ N C => da δ N fun ss N1 => match ss with
  | [.dat (.v (.int j))] => (-(2 ^ 62) ≤ j ∧ j < 2 ^ 62) ∧ C (rngD 0 j.toNat) N1
  | _ => False
@[simp] def dRng2 (da : DA) : DI := fun δ N C => da δ N fun ss N1 => match ss with
  | [.dat (.v (.int i)), .dat (.v (.int j))] => (-(2 ^ 62) ≤ i ∧ i < 2 ^ 62 ∧ -(2 ^ 62) ≤ j ∧ j < 2 ^ 62) ∧ C (rngD i (j - i).toNat) N1
  | _ => False
theorem snd_rng1 (h : SndA G ta da) : SndI G (iRng1 ta) (dRng1 da) := by
  refine ⟨fun B Z δ σ H N C R hB S hd q => ?_⟩
  refine h.run B Z δ σ H N _ _ hB S hd fun ss vs H1 k1 e1 r1 h1 => ?_
  split at h1
  · rename_i j
    obtain ⟨x, rfl, hx⟩ := pair1 r1
    have hx' : Dt B.K (N + k1) H1 Z x (.v (.int j)) := hx
    cases hx'
    exact ⟨j, rfl, h1.1.1, h1.1.2, q _ _ [] H1 k1 e1 (fun p hp => absurd hp (by simp)) walks_rng h1.2⟩
  · exact h1.elim
theorem snd_rng2 (h : SndA G ta da) : SndI G (iRng2 ta) (dRng2 da) := by
  refine ⟨fun B Z δ σ H N C R hB S hd q => ?_⟩
  refine h.run B Z δ σ H N _ _ hB S hd fun ss vs H1 k1 e1 r1 h1 => ?_
  split at h1
  · rename_i i j
    obtain ⟨x, y, rfl, hx, hy⟩ := pair2 r1
    have hx' : Dt B.K (N + k1) H1 Z x (.v (.int i)) := hx
    have hy' : Dt B.K (N + k1) H1 Z y (.v (.int j)) := hy
    cases hx'
    cases hy'
    exact ⟨i, j, rfl, h1.1, q _ _ [] H1 k1 e1 (fun p hp => absurd hp (by simp)) walks_rng h1.2⟩
  · exact h1.elim
theorem xi_rng1 (hg : Gl X "range") (hm : X.mg "range" = none) (ha : XA X G [a] ta da) (hs : starEach [a] X.env = [(false, eval a X.env)] := by rfl) : XI X G tg (.Call (.Name "range" p) [a] [] pos) (iRng1 ta) (dRng1 da) := ⟨pi_range1 hg hm ha.pe hs, snd_rng1 ha.sn⟩
theorem xi_rng2 (hg : Gl X "range") (hm : X.mg "range" = none) (ha : XA X G [a, b] ta da) (hs : starEach [a, b] X.env = [(false, eval a X.env), (false, eval b X.env)] := by rfl) (hs2 : starEach [b] X.env = [(false, eval b X.env)] := by rfl) :
    XI X G tg (.Call (.Name "range" p) [a, b] [] pos) (iRng2 ta) (dRng2 da) := ⟨pi_range2 hg hm ha.pe hs hs2, snd_rng2 ha.sn⟩
/-- enumerate of a list -/
def enumFrom (n : Nat) : List D → List D
  | [] => []
  | d :: ds => .tup [.int (n : Int), d] :: enumFrom (n + 1) ds
theorem enum_get : ∀ {ds : List D} {n i : Nat} {d : D}, (enumFrom n ds)[i]? = some d → ∃ e, ds[i]? = some e ∧ d = .tup [.int ((n + i : Nat) : Int), e]
  | [], _, _, _, h => by simp [enumFrom] at h
  | x :: ds, n, 0, d, h => by
    simp [enumFrom] at h
    exact ⟨x, rfl, h.symm⟩
  | x :: ds, n, i + 1, d, h => by
    obtain ⟨e, h1, h2⟩ := enum_get (ds := ds) (n := n + 1) (i := i) (d := d) (by simpa [enumFrom] using h)
    refine ⟨e, by simpa using h1, ?_⟩
    rw [h2]
    have e8 : n + 1 + i = n + (i + 1) := by omega
    rw [e8]
theorem enum_len : ∀ {ds : List D} {n : Nat}, (enumFrom n ds).length = ds.length
  | [], _ => rfl
  | x :: ds, n => congrArg (· + 1) (enum_len (ds := ds) (n := n + 1))
theorem walks_enum {K : PySem.W.Frag} {a : Addr} {ds : List D} : Walks K (Ite K a) [(.lst ds, .ref a)] (enumFrom 0 ds) where
  go := fun N H Z i d hz ht hd => by
    have h : Dt K N H Z (.ref a) (.lst ds) := ht (.lst ds, .ref a) (by simp)
    obtain ⟨e, he, rfl⟩ := enum_get hd
    cases h with
    | lst ha hz' r =>
      obtain ⟨v, h1, h2⟩ := r.get he
      refine ⟨⟨_, v, .of ha, h1⟩, fun x H' y => ?_⟩
      obtain ⟨T, x1, rfl, hT, rfl, f⟩ := y
      have e1 := f _ (.of ha)
      rw [h1] at e1
      cases e1
      have ep := ExK.new (o := .tup [.int (i : Nat), v]) hT
      refine ⟨ep, .tup upd_same (.cons ?_ (.cons (h2.ex0 ep) .nil))⟩
      rw [Nat.zero_add]
      exact .v _
  stop := fun N H Z i ht hi => by
    have h : Dt K N H Z (.ref a) (.lst ds) := ht (.lst ds, .ref a) (by simp)
    rw [enum_len] at hi
    cases h with
    | lst ha hz r => exact ⟨_, .of ha, by rw [r.length]; exact hi⟩
@[simp] def dEnum (da : DA) : DI := fun δ N C => da δ N fun ss N1 => match ss with
  | [.dat (.lst ds)] => C (enumFrom 0 ds) N1
  | [.own ds] => C (enumFrom 0 ds) N1
  | _ => False
theorem snd_enum (h : SndA G ta da) : SndI G (iEnum G.K ta) (dEnum da) := by
  refine ⟨fun B Z δ σ H N C R hB S hd q => ?_⟩
  subst hB
  refine h.run B Z δ σ H N _ _ rfl S hd fun ss vs H1 k1 e1 r1 h1 => ?_
  have fin : ∀ ds x, Dt B.K (N + k1) H1 Z x (.lst ds) → C (enumFrom 0 ds) (N + k1) → ∃ a xs, [x] = [V.ref a] ∧ SqL B.K H1 a xs ∧ R (Ite B.K a) H1 := fun ds x hx hc => by
    have hx' := hx
    cases hx with
    | @lst a xs _ ha hz r =>
      refine ⟨a, xs, rfl, .of ha, q _ _ [(.lst ds, .ref a)] H1 k1 e1 (fun p hp => ?_) walks_enum hc⟩
      have e : p = (.lst ds, .ref a) := by simpa using hp
      subst e
      exact hx'
  split at h1
  · obtain ⟨x, rfl, hx⟩ := pair1 r1
    exact fin _ x hx h1
  · obtain ⟨x, rfl, hx⟩ := pair1 r1
    exact fin _ x hx h1
  · exact h1.elim
theorem xi_enum {tpos : Pos} {elts : List Expr} {kk : Nat} (hg : Gl X "enumerate") (hm : X.mg "enumerate" = none) (ha : XA X G [e] ta da) (hK : G.K = X.K := by rfl) (hs : starEach [e] X.env = [(false, eval e X.env)] := by rfl) :
    XI X G (.Tuple elts kk tpos) (.Call (.Name "enumerate" p) [e] [] pos) (iEnum G.K ta) (dEnum da) := ⟨by rw [hK]; exact pi_enum hg hm ha.pe hs, snd_enum ha.sn⟩
/-- zip of two lists, of two tuples -/
def zipD : List D → List D → List D
  | d :: ds, e :: es => .tup [d, e] :: zipD ds es
  | _, _ => []
theorem zip_get : ∀ {ds es : List D} {i : Nat} {d : D}, (zipD ds es)[i]? = some d → ∃ x y, ds[i]? = some x ∧ es[i]? = some y ∧ d = .tup [x, y]
  | [], _, _, _, h => by simp [zipD] at h
  | _ :: _, [], _, _, h => by simp [zipD] at h
  | x :: ds, y :: es, 0, d, h => by
    simp [zipD] at h
    exact ⟨x, y, rfl, rfl, h.symm⟩
  | x :: ds, y :: es, i + 1, d, h => by
    obtain ⟨u, v, h1, h2, h3⟩ := zip_get (ds := ds) (es := es) (i := i) (d := d) (by simpa [zipD] using h)
    exact ⟨u, v, by simpa using h1, by simpa using h2, h3⟩
theorem zip_len : ∀ {ds es : List D} {i : Nat}, (zipD ds es).length ≤ i → ds.length ≤ i ∨ es.length ≤ i
  | [], _, _, _ => .inl (Nat.zero_le _)
  | _ :: _, [], _, _ => .inr (Nat.zero_le _)
  | _ :: ds, _ :: es, 0, h => by simp [zipD] at h
  | _ :: ds, _ :: es, i + 1, h => by
    rcases zip_len (ds := ds) (es := es) (i := i) (by simpa [zipD] using h) with h | h
    · exact .inl (by simpa using h)
    · exact .inr (by simpa using h)
theorem walks_zip {K : PySem.W.Frag} {a b : Addr} {ds es : List D} : Walks K (Itz K a b) [(.lst ds, .ref a), (.lst es, .ref b)] (zipD ds es) where
  go := fun N H Z i d hz ht hd => by
    have h1 : Dt K N H Z (.ref a) (.lst ds) := ht (.lst ds, .ref a) (by simp)
    have h2 : Dt K N H Z (.ref b) (.lst es) := ht (.lst es, .ref b) (by simp)
    obtain ⟨u, v, hu, hv, rfl⟩ := zip_get hd
    cases h1 with
    | lst ha _ ra =>
      cases h2 with
      | lst hb _ rb =>
        obtain ⟨x, g1, g2⟩ := ra.get hu
        obtain ⟨y, g3, g4⟩ := rb.get hv
        refine ⟨⟨_, _, x, y, .of ha, .of hb, g1, g3⟩, fun z H' yl => ?_⟩
        obtain ⟨T, x1, y1, rfl, hT, rfl, f1, f2⟩ := yl
        have e1 := f1 _ (.of ha)
        have e2 := f2 _ (.of hb)
        rw [g1] at e1
        rw [g3] at e2
        cases e1
        cases e2
        have ep := ExK.new (o := .tup [x, y]) hT
        exact ⟨ep, .tup upd_same (.cons (g2.ex0 ep) (.cons (g4.ex0 ep) .nil))⟩
  stop := fun N H Z i ht hi => by
    have h1 : Dt K N H Z (.ref a) (.lst ds) := ht (.lst ds, .ref a) (by simp)
    have h2 : Dt K N H Z (.ref b) (.lst es) := ht (.lst es, .ref b) (by simp)
    cases h1 with
    | lst ha _ ra =>
      cases h2 with
      | lst hb _ rb => exact ⟨_, _, .of ha, .of hb, by rw [ra.length, rb.length]; exact zip_len hi⟩
theorem walks_zipT {K : PySem.W.Frag} {a b : Addr} {ds es : List D} : Walks K (RZ.ItzT K a b) [(.tup ds, .ref a), (.tup es, .ref b)] (zipD ds es) where
  go := fun N H Z i d hz ht hd => by
    have h1 : Dt K N H Z (.ref a) (.tup ds) := ht (.tup ds, .ref a) (by simp)
    have h2 : Dt K N H Z (.ref b) (.tup es) := ht (.tup es, .ref b) (by simp)
    obtain ⟨u, v, hu, hv, rfl⟩ := zip_get hd
    cases h1 with
    | tup ha ra =>
      cases h2 with
      | tup hb rb =>
        obtain ⟨x, g1, g2⟩ := ra.get hu
        obtain ⟨y, g3, g4⟩ := rb.get hv
        refine ⟨⟨_, _, x, y, .of ha, .of hb, g1, g3⟩, fun z H' yl => ?_⟩
        obtain ⟨T, x1, y1, rfl, hT, rfl, f1, f2⟩ := yl
        have e1 := f1 _ (.of ha)
        have e2 := f2 _ (.of hb)
        rw [g1] at e1
        rw [g3] at e2
        cases e1
        cases e2
        have ep := ExK.new (o := .tup [x, y]) hT
        exact ⟨ep, .tup upd_same (.cons (g2.ex0 ep) (.cons (g4.ex0 ep) .nil))⟩
  stop := fun N H Z i ht hi => by
    have h1 : Dt K N H Z (.ref a) (.tup ds) := ht (.tup ds, .ref a) (by simp)
    have h2 : Dt K N H Z (.ref b) (.tup es) := ht (.tup es, .ref b) (by simp)
    cases h1 with
    | tup ha ra =>
      cases h2 with
      | tup hb rb => exact ⟨_, _, .of ha, .of hb, by rw [ra.length, rb.length]; exact zip_len hi⟩
@[simp] def dZip (da : DA) : DI := fun δ N C => da δ N fun ss N1 => chk (nalsA ss) (match ss.map Sl.rd with
  | [.lst ds, .lst es] => C (zipD ds es) N1
  | [.tup ds, .tup es] => C (zipD ds es) N1
  | _ => False)
theorem snd_zip (h : SndA G ta da) : SndI G (RZ.iZipA G.K ta) (dZip da) := by
  refine ⟨fun B Z δ σ H N C R hB S hd q => ?_⟩
  subst hB
  refine h.run B Z δ σ H N _ _ rfl S hd fun ss vs H1 k1 e1 r1 h1 => ?_
  obtain ⟨hn, h1⟩ := chk_iff.mp h1
  have rr := pair_all r1 hn
  split at h1
  · rename_i ds es eq
    rw [eq] at rr
    cases rr with
    | cons hx rr =>
      cases rr with
      | cons hy rr =>
        cases rr
        have hx' := hx
        have hy' := hy
        cases hx with
        | @lst a xs _ ha _ ra =>
          cases hy with
          | @lst b ys _ hb _ rb =>
            refine ⟨a, b, xs, ys, rfl, .inl ⟨.of ha, .of hb, q _ _ [(.lst ds, .ref a), (.lst es, .ref b)] H1 k1 e1 (fun p hp => ?_) walks_zip h1⟩⟩
            have e : p = (.lst ds, .ref a) ∨ p = (.lst es, .ref b) := by simpa using hp
            rcases e with e | e
            · subst e; exact hx'
            · subst e; exact hy'
  · rename_i ds es eq
    rw [eq] at rr
    cases rr with
    | cons hx rr =>
      cases rr with
      | cons hy rr =>
        cases rr
        have hx' := hx
        have hy' := hy
        cases hx with
        | @tup a xs _ ha ra =>
          cases hy with
          | @tup b ys _ hb rb =>
            refine ⟨a, b, xs, ys, rfl, .inr ⟨.of ha, .of hb, q _ _ [(.tup ds, .ref a), (.tup es, .ref b)] H1 k1 e1 (fun p hp => ?_) walks_zipT h1⟩⟩
            have e : p = (.tup ds, .ref a) ∨ p = (.tup es, .ref b) := by simpa using hp
            rcases e with e | e
            · subst e; exact hx'
            · subst e; exact hy'
  · exact h1.elim
theorem xi_zip {e2 : Expr} {tpos : Pos} {elts : List Expr} {kk : Nat} (hg : Gl X "zip") (hm : X.mg "zip" = none) (ha : XA X G [e, e2] ta da) (hK : G.K = X.K := by rfl)
    (hs : starEach [e, e2] X.env = (false, eval e X.env) :: starEach [e2] X.env := by rfl) (hpl : (backTo pos (starEach [e2] X.env)).any (·.1) = false := by rfl) :
    XI X G (.Tuple elts kk tpos) (.Call (.Name "zip" p) [e, e2] [] pos) (RZ.iZipA G.K ta) (dZip da) := ⟨by rw [hK]; exact RZ.pi_zipA hg hm ha.pe hs hpl, snd_zip ha.sn⟩
end
end DL

/-! DLf: targets, comprehensions, statements, defs, by data. -/
namespace DL
open PySem PySem.Spec PyProof.Rows L2
variable [TabNames]

/-! ### the state behind a store -/
section
variable {B : Bs} {Z : Addr → Prop} {δ : StD} {σ : L2.St} {H H' : Hp} {N k : Nat}
theorem set_same {σ : L2.St} {i : Nat} {x : V} (h : i < σ.length) : (σ.set i (some x))[i]? = some (some x) := by rw [List.getElem?_set_self h]
theorem set_ne {σ : L2.St} {i j : Nat} {x : Option V} (h : j ≠ i) : (σ.set i x)[j]? = σ[j]? := by rw [List.getElem?_set_ne (Ne.symm h)]
theorem SD.set (S : SD B Z δ σ H N) {i : Nat} {d : D} {x : V} (h : Dt B.K N H Z x d) : SD B Z (stn δ i (.dat d)) (σ.set i (some x)) H N where
  ex := S.ex
  z0 := S.z0
  z1 := S.z1
  zt := S.zt
  len := by rw [stn_length, List.length_set]; exact S.len
  slot := fun j s hj => by
    by_cases e : j = i
    · subst e
      have hl : j < δ.length := by
        have := nth_lt hj
        rwa [stn_length] at this
      have es := nth_stn_same hj
      subst es
      exact ⟨x, set_same (by rw [← S.len]; exact hl), h⟩
    · rw [nth_stn_ne e] at hj
      obtain ⟨v, h1, h2⟩ := S.slot j s hj
      exact ⟨v, by rw [set_ne e]; exact h1, h2⟩
  nals := fun j ds hj => by
    by_cases e : j = i
    · subst e
      have es := nth_stn_same hj
      cases es
    · rw [nth_stn_ne e] at hj
      exact S.nals j ds hj
  d1 := fun j l ds es hne hj hl => by
    by_cases e : j = i
    · subst e
      have z := nth_stn_same hj
      cases z
    · by_cases e' : l = i
      · subst e'
        have z := nth_stn_same hl
        cases z
      · rw [nth_stn_ne e] at hj
        rw [nth_stn_ne e'] at hl
        rw [set_ne e, set_ne e']
        exact S.d1 j l ds es hne hj hl
/-- a fresh list becomes a slot's own -/
theorem SD.own (S : SD B Z δ σ H N) (e : ExK k H H') {i : Nat} {ds : List D} {p : Addr} {xs : List V} (h0 : H p = none) (h1 : H' p = some (.lst xs)) (r : DtAll B.K (N + k) H' (Zp Z p) xs ds) :
    SD B (Zp Z p) (stn δ i (.own ds)) (σ.set i (some (.ref p))) H' (N + k) := by
  have hB0 : B.H0 p = none := by
    obtain ⟨j, _, ej⟩ := S.ex
    exact ej.back h0
  have g : Gro B.K N (N + k) Z (Zp Z p) H H' := .new e h0
  have npz : ¬ Z p := Zt.fresh S.zt h0
  have slot' : ∀ (j : Nat) (s : Sl), nth δ j = some s → ∃ v, σ[j]? = some (some v) ∧ Rp B (N + k) H' (Zp Z p) v s ∧ ((∃ es, s = .own es) → v ≠ .ref p) := fun j s hj => by
    obtain ⟨v, g1, g2⟩ := S.slot j s hj
    cases s with
    | dat d => exact ⟨v, g1, Dt.gro g g2, fun ⟨_, z⟩ => by cases z⟩
    | own es =>
      obtain ⟨a, ys, rfl, z, q0, qa, qr⟩ := g2
      refine ⟨_, g1, ⟨a, ys, rfl, .inl z, q0, e.lst qa, qr.gro g⟩, fun _ w => ?_⟩
      cases w
      exact npz z
    | als es => exact absurd hj (S.nals j es)
  exact {
    ex := (S.ext e).ex
    z0 := fun a h => .inl (S.z0 a h)
    z1 := S.z1
    zt := fun a h => by
      rcases h with h | rfl
      · exact (S.ext e).zt a h
      · exact ⟨xs, h1⟩
    len := by rw [stn_length, List.length_set]; exact S.len
    slot := fun j s hj => by
      by_cases ej : j = i
      · subst ej
        have hl : j < δ.length := by
          have := nth_lt hj
          rwa [stn_length] at this
        have es := nth_stn_same hj
        subst es
        exact ⟨_, set_same (by rw [← S.len]; exact hl), p, xs, rfl, .inr rfl, hB0, h1, r⟩
      · rw [nth_stn_ne ej] at hj
        obtain ⟨v, g1, g2, _⟩ := slot' j s hj
        exact ⟨v, by rw [set_ne ej]; exact g1, g2⟩
    nals := fun j es hj => by
      by_cases ej : j = i
      · subst ej
        have z := nth_stn_same hj
        cases z
      · rw [nth_stn_ne ej] at hj
        exact S.nals j es hj
    d1 := fun j l es fs hne hj hl => by
      by_cases ej : j = i
      · have el : l ≠ i := fun z => hne (ej.trans z.symm)
        subst ej
        have hlt : j < δ.length := by
          have := nth_lt hj
          rwa [stn_length] at this
        rw [nth_stn_ne el] at hl
        obtain ⟨v, g1, _, g3⟩ := slot' l _ hl
        rw [set_ne el, set_same (by rw [← S.len]; exact hlt), g1]
        intro w
        exact g3 ⟨_, rfl⟩ (Option.some.inj (Option.some.inj w)).symm
      · by_cases el : l = i
        · subst el
          have hlt : l < δ.length := by
            have := nth_lt hl
            rwa [stn_length] at this
          rw [nth_stn_ne ej] at hj
          obtain ⟨v, g1, _, g3⟩ := slot' j _ hj
          rw [set_ne ej, set_same (by rw [← S.len]; exact hlt), g1]
          intro w
          exact g3 ⟨_, rfl⟩ (Option.some.inj (Option.some.inj w))
        · rw [nth_stn_ne ej] at hj
          rw [nth_stn_ne el] at hl
          rw [set_ne ej, set_ne el]
          exact S.d1 j l es fs hne hj hl }
/-- an own list is no more written -/
theorem SD.frz (S : SD B Z δ σ H N) {i : Nat} {ds : List D} (hi : nth δ i = some (.own ds)) : ∃ Z', SD B Z' (stn δ i (.dat (.lst ds))) σ H N ∧ Gro B.K N N Z Z' H H := by
  obtain ⟨v, g1, a, xs, rfl, z, h0, ha, r⟩ := S.slot i _ hi
  have g : Gro B.K N N Z (fun b => Z b ∧ b ≠ a) H H := .zone (fun b h => h.1) (Nat.le_refl _)
  refine ⟨fun b => Z b ∧ b ≠ a, ?_, g⟩
  exact {
    ex := S.ex
    z0 := fun b h => ⟨S.z0 b h, fun e => S.z1 b h (by rw [e]; exact h0)⟩
    z1 := S.z1
    zt := fun b h => S.zt b h.1
    len := by rw [stn_length]; exact S.len
    slot := fun j s hj => by
      by_cases e : j = i
      · subst e
        have es := nth_stn_same hj
        subst es
        exact ⟨_, g1, .lst ha (fun w => w.2 rfl) (r.gro g)⟩
      · rw [nth_stn_ne e] at hj
        obtain ⟨v, q1, q2⟩ := S.slot j s hj
        refine ⟨v, q1, ?_⟩
        cases s with
        | dat d => exact Dt.gro g q2
        | own es =>
          obtain ⟨b, zs, rfl, zb, w0, wb, wr⟩ := q2
          have ne : b ≠ a := fun eb => S.d1 j i es ds e hj hi (by rw [q1, g1, eb])
          exact ⟨b, zs, rfl, ⟨zb, ne⟩, w0, wb, wr.gro g⟩
        | als es => exact absurd hj (S.nals j es)
    nals := fun j es hj => by
      by_cases e : j = i
      · subst e
        have w := nth_stn_same hj
        cases w
      · rw [nth_stn_ne e] at hj
        exact S.nals j es hj
    d1 := fun j l es fs hne hj hl => by
      have ne : ∀ {j : Nat} {es : List D}, nth (stn δ i (.dat (.lst ds))) j = some (.own es) → nth δ j = some (.own es) := fun {j es} hj => by
        by_cases e : j = i
        · subst e
          have w := nth_stn_same hj
          cases w
        · rwa [nth_stn_ne e] at hj
      exact S.d1 j l es fs hne (ne hj) (ne hl) }
/-- a list of the zone is written -/
theorem Gro.wr {K : PySem.W.Frag} {a : Addr} {xs ys : List V} (z : Z a) (h : H a = some (.lst xs)) : Gro K N N Z Z H (upd H a (.lst ys)) where
  tup := fun b zs hb => by rw [upd_ne (fun e => by rw [e, h] at hb; cases hb)]; exact hb
  lst := fun b zs hb nz => ⟨by rw [upd_ne (fun e => nz (by rw [e]; exact z))]; exact hb, nz⟩
  scr := fun b zs hb => hb.to fun o ho => by rw [upd_ne (fun e => by rw [e, h] at ho; cases ho)]; exact ho
  bag := fun b m hm hb => ⟨m, hm, by rw [upd_ne (fun e => by rw [e, h] at hb; cases hb)]; exact hb⟩
  frz := fun b ob u hb => by rw [upd_ne (fun e => by rw [e, h] at hb; cases hb)]; exact hb
  cod := fun b q hb => by rw [upd_ne (fun e => by rw [e, h] at hb; exact codeO_lst (Option.some.inj hb).symm)]; exact hb
  ins := fun b C dx fs hb => by rw [upd_ne (fun e => by rw [e, h] at hb; cases hb)]; exact hb
theorem ExK.wr {k : Nat} {H0 H : Hp} {a : Addr} {o : HO} {xs : List V} (e : ExK k H0 H) (h0 : H0 a = none) (h : H a = some (.lst xs)) : ExK k H0 (upd H a o) := ⟨fun b u hb => by
  have ne : b ≠ a := ne_of_none hb h0
  rw [upd_ne ne]
  exact e.ob b u hb, fun P t => tab_wr h (e.tb P t)⟩
/-- a list of the zone that is no slot's is written -/
theorem SD.wr (S : SD B Z δ σ H N) {a : Addr} {xs ys : List V} (z : Z a) (h0 : B.H0 a = none) (h : H a = some (.lst xs)) (ns : ∀ i es, nth δ i = some (.own es) → σ[i]? ≠ some (some (.ref a))) :
    SD B Z δ σ (upd H a (.lst ys)) N where
  ex := by
    obtain ⟨k, e1, e2⟩ := S.ex
    exact ⟨k, e1, e2.wr h0 h⟩
  z0 := S.z0
  z1 := S.z1
  zt := fun b zb => by
    by_cases e : b = a
    · subst e
      exact ⟨ys, upd_same⟩
    · rw [upd_ne e]
      exact S.zt b zb
  len := S.len
  slot := fun i s hi => by
    obtain ⟨v, g1, g2⟩ := S.slot i s hi
    refine ⟨v, g1, ?_⟩
    cases s with
    | dat d => exact Dt.gro (.wr z h) g2
    | own es =>
      obtain ⟨b, zs, rfl, zb, q0, qb, qr⟩ := g2
      have ne : b ≠ a := fun e => ns i es hi (by rw [g1, e])
      exact ⟨b, zs, rfl, zb, q0, by rw [upd_ne ne]; exact qb, qr.gro (.wr z h)⟩
    | als es => exact absurd hi (S.nals i es)
  nals := S.nals
  d1 := S.d1
/-- x.append(y) of an own list -/
theorem SD.app (S : SD B Z δ σ H N) {i : Nat} {ds : List D} {d : D} {y : V} (hi : nth δ i = some (.own ds)) (hy : Dt B.K N H Z y d) :
    ∃ a xs, σ[i]? = some (some (.ref a)) ∧ H a = some (.lst xs) ∧ xs.length = ds.length ∧ SD B Z (stn δ i (.own (ds ++ [d]))) σ (upd H a (.lst (xs ++ [y]))) N := by
  obtain ⟨v, g1, a, xs, rfl, z, h0, ha, r⟩ := S.slot i _ hi
  refine ⟨a, xs, g1, ha, r.length, ?_⟩
  have g : Gro B.K N N Z Z H (upd H a (.lst (xs ++ [y]))) := .wr z ha
  exact {
    ex := by
      obtain ⟨k, e1, e2⟩ := S.ex
      exact ⟨k, e1, e2.wr h0 ha⟩
    z0 := S.z0
    z1 := S.z1
    zt := fun b zb => by
      by_cases e : b = a
      · subst e
        exact ⟨_, upd_same⟩
      · rw [upd_ne e]
        exact S.zt b zb
    len := by rw [stn_length]; exact S.len
    slot := fun j s hj => by
      by_cases e : j = i
      · subst e
        have es := nth_stn_same hj
        subst es
        exact ⟨_, g1, a, _, rfl, z, h0, upd_same, (r.gro g).append (.cons (hy.gro g) .nil)⟩
      · rw [nth_stn_ne e] at hj
        obtain ⟨v, q1, q2⟩ := S.slot j s hj
        refine ⟨v, q1, ?_⟩
        cases s with
        | dat d => exact Dt.gro g q2
        | own es =>
          obtain ⟨b, zs, rfl, zb, w0, wb, wr⟩ := q2
          have ne : b ≠ a := fun eb => S.d1 j i es ds e hj hi (by rw [q1, g1, eb])
          exact ⟨b, zs, rfl, zb, w0, by rw [upd_ne ne]; exact wb, wr.gro g⟩
        | als es => exact absurd hj (S.nals j es)
    nals := fun j es hj => by
      by_cases e : j = i
      · subst e
        have w := nth_stn_same hj
        cases w
      · rw [nth_stn_ne e] at hj
        exact S.nals j es hj
    d1 := fun j l es fs hne hj hl => by
      have own_of : ∀ {j : Nat} {es : List D}, nth (stn δ i (.own (ds ++ [d]))) j = some (.own es) → ∃ es', nth δ j = some (.own es') := fun {j es} hj => by
        by_cases e : j = i
        · subst e
          exact ⟨ds, hi⟩
        · rw [nth_stn_ne e] at hj
          exact ⟨es, hj⟩
      obtain ⟨es', hj'⟩ := own_of hj
      obtain ⟨fs', hl'⟩ := own_of hl
      exact S.d1 j l es' fs' hne hj' hl' }
end

/-! ### targets -/
abbrev DG := D → StD → (StD → Prop) → Prop
abbrev DGs := List D → StD → (StD → Prop) → Prop
/-- what is stored lies at js; own lists stay where they are -/
structure Sto (js : List Nat) (δ δ' : StD) (σ σ' : L2.St) : Prop where
  len : σ'.length = σ.length
  out : ∀ i, i ∉ js → σ'[i]? = σ[i]?
  own : ∀ i es, nth δ' i = some (.own es) → nth δ i = some (.own es) ∧ σ'[i]? = σ[i]?
theorem Sto.refl {js : List Nat} {δ : StD} {σ : L2.St} : Sto js δ δ σ σ := ⟨rfl, fun _ _ => rfl, fun _ _ h => ⟨h, rfl⟩⟩
structure SndG (K : PySem.W.Frag) (g : TG) (dg : DG) (js : List Nat) : Prop where
  run : ∀ (B : Bs) Z δ σ H N d x (P : StD → Prop) (Q : L2.St → Hp → Prop), B.K = K → SD B Z δ σ H N → Dt B.K N H Z x d → dg d δ P →
    (∀ δ' σ', SD B Z δ' σ' H N → Sto js δ δ' σ σ' → P δ' → Q σ' H) → g x σ H Q
structure SndGs (K : PySem.W.Frag) (g : TGs) (dg : DGs) (js : List Nat) : Prop where
  run : ∀ (B : Bs) Z δ σ H N ds xs (P : StD → Prop) (Q : L2.St → Hp → Prop), B.K = K → SD B Z δ σ H N → DtAll B.K N H Z xs ds → dg ds δ P →
    (∀ δ' σ', SD B Z δ' σ' H N → Sto js δ δ' σ σ' → P δ' → Q σ' H) → g xs σ H Q
structure XG (X : Cx) (tg : Expr) (g : TG) (dg : DG) (js : List Nat) : Prop where
  pe : PG X tg g
  sn : SndG X.K g dg js
structure XGs (X : Cx) (tgs : List Expr) (g : TGs) (dg : DGs) (js : List Nat) : Prop where
  pe : PGs X tgs g
  sn : SndGs X.K g dg js
@[simp] def dgName (i : Nat) : DG := fun d δ P => P (stn δ i (.dat d))
@[simp] def dgNil : DGs := fun ds δ P => chk (lenIs ds 0) (P δ)
@[simp] def dgCons (g : DG) (r : DGs) : DGs := fun ds δ P => match ds with
  | d :: ds' => g d δ fun δ' => r ds' δ' P
  | [] => False
@[simp] def dgTup (n : Nat) (g : DGs) : DG := fun d δ P => match d with
  | .tup ds => chk (lenIs ds n) (g ds δ P)
  | _ => False
section
variable {X : Cx} {K : PySem.W.Frag} {pos : Pos}
theorem sto_name {i : Nat} {δ : StD} {σ : L2.St} {d : D} {x : V} : Sto [i] δ (stn δ i (.dat d)) σ (σ.set i (some x)) := by
  refine ⟨List.length_set .., fun j hj => set_ne (by simpa using hj), fun j es hj => ?_⟩
  by_cases e : j = i
  · subst e
    have z := nth_stn_same hj
    cases z
  · rw [nth_stn_ne e] at hj
    exact ⟨hj, set_ne e⟩
theorem sng_name {i : Nat} : SndG K (gName i) (dgName i) [i] := ⟨fun B Z δ σ H N d x P Q hK S hx h q => q _ _ (S.set hx) sto_name h⟩
theorem xg_name {i : Nat} {x : Str} (hN : X.N.Nodup) (hi : X.N[i]? = some x) (hx : Loc X.env.scope x) (hf : X.fn x = true ∨ X.env.scope.names.lookup x = some .local := by first | exact .inl rfl | exact .inr rfl | assumption) : XG X (.Name x pos) (gName i) (dgName i) [i] :=
  ⟨pg_name hN hi hx hf, sng_name⟩
theorem xgs_nil : XGs X [] gNil dgNil [] := by
  refine ⟨pgs_nil, ⟨fun B Z δ σ H N ds xs P Q hK S hx h q => ?_⟩⟩
  obtain ⟨h0, h⟩ := chk_iff.mp h
  have h1 := lenIs_len h0
  have h2 : ds = [] := List.length_eq_zero_iff.mp h1
  subst h2
  cases hx
  exact ⟨rfl, q δ σ S .refl h⟩
theorem xgs_cons {e : Expr} {es : List Expr} {t : TG} {u : TGs} {dg : DG} {dgs : DGs} {js ls : List Nat} (h1 : XG X e t dg js) (h2 : XGs X es u dgs ls)
    (hs : (assignEach (e :: es) X.env).map (·.2) = assign e X.env :: (assignEach es X.env).map (·.2) := by rfl) : XGs X (e :: es) (gCons t u) (dgCons dg dgs) (js ++ ls) := by
  refine ⟨pgs_cons h1.pe h2.pe hs, ⟨fun B Z δ σ H N ds xs P Q hK S hx h q => ?_⟩⟩
  unfold dgCons at h
  split at h
  · rename_i d ds'
    cases hx with
    | @cons v vs _ _ hv hvs =>
      refine ⟨v, vs, rfl, ?_⟩
      refine h1.sn.run B Z δ σ H N d v _ _ hK S hv h fun δ1 σ1 S1 o1 hh => ?_
      refine h2.sn.run B Z δ1 σ1 H N ds' vs _ _ hK S1 hvs hh fun δ2 σ2 S2 o2 hh2 => ?_
      refine q δ2 σ2 S2 ⟨o2.len.trans o1.len, fun i hi => ?_, fun i es hi => ?_⟩ hh2
      · rw [List.mem_append, not_or] at hi
        rw [o2.out i hi.2, o1.out i hi.1]
      · obtain ⟨a1, a2⟩ := o2.own i es hi
        obtain ⟨b1, b2⟩ := o1.own i es a1
        exact ⟨b1, a2.trans b2⟩
  · exact h.elim
theorem xg_tup {es : List Expr} {k : Nat} {t : TGs} {dgs : DGs} {js : List Nat} {n : Nat} (hc : X.calm = true) (h : XGs X es t dgs js)
    (hn : (assignEach es X.env).length = n := by rfl) (hst : (assignEach es X.env).findIdx? (·.1) = none := by rfl) : XG X (.Tuple es k pos) (gTup X.K n t) (dgTup n dgs) js := by
  refine ⟨pg_tup hc h.pe hn hst, ⟨fun B Z δ σ H N d x P Q hK S hx hd q => ?_⟩⟩
  unfold dgTup at hd
  split at hd
  · rename_i ds
    obtain ⟨a, xs, rfl, ha, r⟩ := (Dw.of hx).tup_inv
    rw [chk_iff] at hd
    exact ⟨a, xs, rfl, .of ha, by rw [r.length]; exact lenIs_len hd.1, h.sn.run B Z δ σ H N ds xs P Q hK S r hd.2 q⟩
  · exact hd.elim
theorem xg_tupK {es : List Expr} {k : Nat} {t : TGs} {dgs : DGs} {js : List Nat} {n : Nat} {K : PySem.W.Frag} (hc : X.calm = true) (h : XGs X es t dgs js) (hK : X.K = K := by rfl)
    (hn : (assignEach es X.env).length = n := by rfl) (hst : (assignEach es X.env).findIdx? (·.1) = none := by rfl) : XG X (.Tuple es k pos) (gTup K n t) (dgTup n dgs) js := by
  subst hK
  exact xg_tup hc h hn hst
end

/-! ### comprehensions -/
def non : StD → Nat → StD
  | [], _ => []
  | _ :: r, 0 => none :: r
  | a :: r, i + 1 => a :: non r i
@[simp] def wipeD (δ : StD) : List Nat → StD
  | [] => δ
  | v :: vs => non (wipeD δ vs) v
theorem non_length : ∀ {δ : StD} {i : Nat}, (non δ i).length = δ.length
  | [], _ => by simp [non]
  | _ :: _, 0 => by simp [non]
  | _ :: r, i + 1 => by simp [non, non_length (δ := r) (i := i)]
theorem nth_non_same : ∀ {δ : StD} {i : Nat} {s : Sl}, nth (non δ i) i = some s → False
  | [], _, _, h => by simp [non, nth] at h
  | _ :: _, 0, _, h => by simp [non, nth] at h
  | _ :: r, i + 1, s, h => nth_non_same (δ := r) (i := i) (s := s) (by simpa [non, nth] using h)
theorem nth_non_ne : ∀ {δ : StD} {i j : Nat}, j ≠ i → nth (non δ i) j = nth δ j
  | [], _, _, _ => by simp [non]
  | _ :: _, 0, 0, h => absurd rfl h
  | _ :: _, 0, _ + 1, _ => by simp [non, nth]
  | _ :: _, _ + 1, 0, _ => by simp [non, nth]
  | _ :: r, i + 1, j + 1, h => by simpa [non, nth] using nth_non_ne (δ := r) (i := i) (j := j) (fun e => h (by rw [e]))
section
variable {B : Bs} {Z : Addr → Prop} {δ : StD} {σ : L2.St} {H H' : Hp} {N k : Nat}
theorem SD.non (S : SD B Z δ σ H N) (i : Nat) : SD B Z (non δ i) (σ.set i none) H N where
  ex := S.ex
  z0 := S.z0
  z1 := S.z1
  zt := S.zt
  len := by rw [non_length, List.length_set]; exact S.len
  slot := fun j s hj => by
    by_cases e : j = i
    · subst e
      exact (nth_non_same hj).elim
    · rw [nth_non_ne e] at hj
      rw [set_ne e]
      exact S.slot j s hj
  nals := fun j ds hj => by
    by_cases e : j = i
    · subst e
      exact (nth_non_same hj).elim
    · rw [nth_non_ne e] at hj
      exact S.nals j ds hj
  d1 := fun j l ds es hne hj hl => by
    by_cases e : j = i
    · subst e
      exact (nth_non_same hj).elim
    · by_cases e' : l = i
      · subst e'
        exact (nth_non_same hl).elim
      · rw [nth_non_ne e] at hj
        rw [nth_non_ne e'] at hl
        rw [set_ne e, set_ne e']
        exact S.d1 j l ds es hne hj hl
theorem SD.wipe (S : SD B Z δ σ H N) : ∀ vs : List Nat, SD B Z (wipeD δ vs) (wipe σ vs) H N
  | [] => S
  | v :: vs => (SD.wipe S vs).non v
theorem wipe_at {σ : L2.St} : ∀ {vs : List Nat} {i : Nat}, (wipe σ vs)[i]? = if i ∈ vs then (if i < σ.length then some none else none) else σ[i]?
  | [], i => by simp [wipe]
  | v :: vs, i => by
    unfold wipe
    by_cases e : i = v
    · subst e
      rw [if_pos (by simp)]
      by_cases h : i < σ.length
      · rw [List.getElem?_set_self (by rw [wipe_length]; exact h), if_pos h]
      · rw [List.getElem?_eq_none (by rw [List.length_set, wipe_length]; omega), if_neg h]
    · rw [List.getElem?_set_ne (Ne.symm e), wipe_at (vs := vs) (i := i)]
      simp [e]
/-- stores at places that are wiped -/
theorem wipe_sto {σ σ' : L2.St} {vs js : List Nat} (hl : σ'.length = (wipe σ vs).length) (ho : ∀ i, i ∉ js → σ'[i]? = (wipe σ vs)[i]?) (hj : ∀ j ∈ js, j ∈ vs) : wipe σ' vs = wipe σ vs := by
  apply List.ext_getElem?
  intro i
  rw [wipe_at, wipe_at]
  rw [wipe_length] at hl
  by_cases hi : i ∈ vs
  · rw [if_pos hi, if_pos hi, hl]
  · rw [if_neg hi, if_neg hi, ho i (fun h => hi (hj i h)), wipe_at, if_neg hi]
theorem own_wiped {vs : List Nat} {i : Nat} {es : List D} (h : nth (wipeD δ vs) i = some (.own es)) : nth δ i = some (.own es) ∧ i ∉ vs := by
  induction vs with
  | nil => exact ⟨h, by simp⟩
  | cons v vs ih =>
    by_cases e : i = v
    · subst e
      exact (nth_non_same h).elim
    · have h' : nth (DL.non (wipeD δ vs) v) i = some (.own es) := h
      rw [nth_non_ne e] at h'
      obtain ⟨a, b⟩ := ih h'
      exact ⟨a, by simp [e, b]⟩
end
def dLc (di : DI) (dg : DG) (dt : DT) (de : DE) (vs : List Nat) : DE := fun δ N C => di δ N fun ds N1 => ∃ Inv : Nat → List D → Nat → Prop, Inv 0 [] N1 ∧
  (∀ i d acc N2, ds[i]? = some d → Inv i acc N2 → dg d (wipeD δ vs) fun δ2 => dt δ2 N2 fun b N3 => wif b (de δ2 N3 fun s N4 => chk s.nals (acc.length < 100000 ∧ Inv (i + 1) (acc ++ [s.rd]) N4)) (Inv (i + 1) acc N3)) ∧
  ∀ acc N2, Inv ds.length acc N2 → C (.own acc) N2
section
variable {G : Gg} {wi : TI} {di : DI} {g : TG} {dg : DG} {js vs : List Nat} {tt : TT} {dt : DT} {te : TE} {de : DE}
theorem snd_lc (hi : SndI G wi di) (hg : SndG G.K g dg js) (ht : SndT G tt dt) (he : Snd G te de) (hj : ∀ j ∈ js, j ∈ vs) : Snd G (tLc wi g tt te vs) (dLc di dg dt de vs) := by
  refine ⟨fun B Z δ σ H N C Q hB S hd q => ?_⟩
  subst hB
  refine hi.run B Z δ σ H N _ _ rfl S hd fun J ds τ H1 k1 e1 hτ W h1 => ?_
  intro Dl hDl
  obtain ⟨Inv, i0, turn, done⟩ := h1
  have S1 := S.ext e1
  have hB0 : B.H0 Dl = none := by
    obtain ⟨j, _, ej⟩ := S1.ex
    exact ej.back hDl
  have ndz : ¬ Z Dl := Zt.fresh S1.zt hDl
  have ep := ExK.new (o := .lst []) hDl
  have own_ne : ∀ i es, nth δ i = some (.own es) → σ[i]? ≠ some (some (.ref Dl)) := fun i es h w => by
    obtain ⟨v, g1, a, xs, rfl, z, _⟩ := S1.slot i _ h
    rw [g1] at w
    cases w
    exact ndz z
  -- the state of the block, the list laid
  have S2 : SD B (Zp Z Dl) (wipeD δ vs) (wipe σ vs) (upd H1 Dl (.lst [])) (N + k1) := by
    have Sw := S1.wipe vs
    have g0 : Gro B.K (N + k1) (N + k1) Z (Zp Z Dl) H1 (upd H1 Dl (.lst [])) := .new ep hDl
    exact {
      ex := (Sw.ext0 ep).ex
      z0 := fun a h => .inl (Sw.z0 a h)
      z1 := Sw.z1
      zt := fun a h => by
        rcases h with h | rfl
        · exact (Sw.ext0 ep).zt a h
        · exact ⟨[], upd_same⟩
      len := Sw.len
      slot := fun i s h => by
        obtain ⟨v, g1, g2⟩ := Sw.slot i s h
        refine ⟨v, g1, ?_⟩
        cases s with
        | dat d => exact Dt.gro g0 g2
        | own es =>
          obtain ⟨a, xs, rfl, z, q0, qa, qr⟩ := g2
          exact ⟨a, xs, rfl, .inl z, q0, ep.lst qa, qr.gro g0⟩
        | als es => exact absurd h (Sw.nals i es)
      nals := Sw.nals
      d1 := Sw.d1 }
  have τ2 : ∀ p ∈ τ, Dt B.K (N + k1) (upd H1 Dl (.lst [])) (Zp Z Dl) p.2 p.1 := fun p hp => (hτ p hp).gro (.new ep hDl)
  have own_ne' : ∀ i es, nth (wipeD δ vs) i = some (.own es) → (wipe σ vs)[i]? ≠ some (some (.ref Dl)) := fun i es h => by
    obtain ⟨a, b⟩ := own_wiped h
    rw [wipe_at, if_neg b]
    exact own_ne i es a
  refine ⟨fun i m H' => m = ds.length - i ∧ i ≤ ds.length ∧ ∃ acc xs k2, Inv i acc (N + k1 + k2) ∧ ExK k2 H1 H' ∧ SD B (Zp Z Dl) (wipeD δ vs) (wipe σ vs) H' (N + k1 + k2) ∧ H' Dl = some (.lst xs) ∧
      DtAll B.K (N + k1 + k2) H' (Zp Z Dl) xs acc ∧ ∀ p ∈ τ, Dt B.K (N + k1 + k2) H' (Zp Z Dl) p.2 p.1, ⟨ds.length, by simp, Nat.zero_le _, [], [], 0, i0, ep, S2, upd_same, .nil, τ2⟩, ?_⟩
  rintro i m H' ⟨rfl, hle, acc, xs, k2, hI, e2, S', hD, rD, hτ'⟩
  by_cases hlt : i < ds.length
  · obtain ⟨d, hd⟩ : ∃ d, ds[i]? = some d := ⟨ds[i], by simp [hlt]⟩
    obtain ⟨go, yl⟩ := W.go _ _ _ i d S'.zt hτ' hd
    refine .inr ⟨go, _, fun H' p => p, fun x H3 hy => ?_⟩
    obtain ⟨e3, hx⟩ := yl x H3 hy
    refine hg.run B (Zp Z Dl) _ _ H3 (N + k1 + k2) d x _ _ rfl (S'.ext0 e3) hx (turn i d acc _ hd hI) fun δ2 σ2 S4 o4 h4 => ?_
    refine ⟨wipe_sto o4.len o4.out hj, ?_⟩
    have own2 : ∀ i es, nth δ2 i = some (.own es) → σ2[i]? ≠ some (some (.ref Dl)) := fun i es h => by
      obtain ⟨a, b⟩ := o4.own i es h
      rw [b]
      exact own_ne' i es a
    refine ht.run B (Zp Z Dl) δ2 σ2 H3 (N + k1 + k2) _ _ rfl S4 h4 fun b H5 k5 e5 h5 => ?_
    have SW5 : SD B (Zp Z Dl) (wipeD δ vs) (wipe σ vs) H5 (N + k1 + k2 + k5) := (S'.ext0 e3).ext e5
    have hτ5 : ∀ p ∈ τ, Dt B.K (N + k1 + k2 + k5) H5 (Zp Z Dl) p.2 p.1 := fun p hp => ((hτ' p hp).ex0 e3).ex e5
    have rD5 : DtAll B.K (N + k1 + k2 + k5) H5 (Zp Z Dl) xs acc := (rD.ex0 e3).ex e5
    have hD5 : H5 Dl = some (.lst xs) := e5.lst (e3.lst hD)
    have ee5 : ExK (k2 + k5) H1 H5 := (e2.trans e3).trans e5
    have a5 : N + k1 + k2 + k5 = N + k1 + (k2 + k5) := by omega
    cases b with
    | false =>
      have h5' : Inv (i + 1) acc (N + k1 + k2 + k5) := h5
      rw [a5] at h5' SW5 hτ5 rD5
      show ∃ m', m' < ds.length - i ∧ m' = ds.length - (i + 1) ∧ i + 1 ≤ ds.length ∧ _
      exact ⟨ds.length - (i + 1), by omega, rfl, hlt, acc, xs, k2 + k5, h5', ee5, SW5, hD5, rD5, hτ5⟩
    | true =>
      show te σ2 H5 _
      refine he.run B (Zp Z Dl) δ2 σ2 H5 (N + k1 + k2 + k5) _ _ rfl (S4.ext e5) h5 fun s y H6 k6 e6 r6 h6 => ?_
      obtain ⟨h7, h8, h9⟩ := chk_iff.mp h6
      have a6 : N + k1 + k2 + k5 + k6 = N + k1 + (k2 + k5 + k6) := by omega
      have hy6 : Dt B.K (N + k1 + k2 + k5 + k6) H6 (Zp Z Dl) y s.rd := by
        have t := r6.tp (S4.ext e5).ztt
        cases s with
        | dat d => exact t
        | own ds => exact t
        | als ds => exact absurd h7 (by simp [Sl.nals])
      have hD6 := e6.lst hD5
      have rD6 := rD5.ex e6
      refine ⟨xs, hD6, by rw [rD6.length]; exact size_lt h8, ?_⟩
      have gw : Gro B.K (N + k1 + k2 + k5 + k6) (N + k1 + k2 + k5 + k6) (Zp Z Dl) (Zp Z Dl) H6 (upd H6 Dl (.lst (xs ++ [y]))) := .wr (.inr rfl) hD6
      have SW6 : SD B (Zp Z Dl) (wipeD δ vs) (wipe σ vs) (upd H6 Dl (.lst (xs ++ [y]))) (N + k1 + k2 + k5 + k6) := (SW5.ext e6).wr (.inr rfl) hB0 hD6 own_ne'
      have rD7 := (rD6.gro gw).append (.cons (hy6.gro gw) .nil)
      have hτ7 : ∀ p ∈ τ, Dt B.K (N + k1 + k2 + k5 + k6) (upd H6 Dl (.lst (xs ++ [y]))) (Zp Z Dl) p.2 p.1 := fun p hp => ((hτ5 p hp).ex e6).gro gw
      have ee6 : ExK (k2 + k5 + k6) H1 (upd H6 Dl (.lst (xs ++ [y]))) := (ee5.trans e6).wr hDl hD6
      rw [a6] at h9 SW6 rD7 hτ7
      exact ⟨ds.length - (i + 1), by omega, rfl, hlt, acc ++ [s.rd], _, k2 + k5 + k6, h9, ee6, SW6, upd_same, rD7, hτ7⟩
  · have e : i = ds.length := by omega
    subst e
    refine .inl ⟨W.stop _ _ _ _ hτ' (Nat.le_refl _), ?_⟩
    have a : N + k1 + k2 = N + (k1 + k2) := by omega
    have hc := done acc _ hI
    rw [a] at hc rD
    exact q (.own acc) (.ref Dl) H' (k1 + k2) (e1.trans e2) ⟨Dl, xs, rfl, e1.back hDl, hD, rD⟩ hc
variable {X : Cx} {elt tg iter : Expr} {ifs : List Expr} {scope : Scope} {own : List (Str × Nat)} {pos : Pos}
structure XTs (X : Cx) (G : Gg) (ifs : List Expr) (t : TT) (d : DT) : Prop where
  pe : PTs X ifs t
  sn : SndT G t d
@[simp] def dYes : DT := fun _ N C => C true N
theorem xts_nil : XTs X G [] tYes dYes := ⟨pts_nil, ⟨fun B Z δ σ H N C Q hB S h q => q true H 0 (ExK.refl H) h⟩⟩
theorem xts_one {c : Expr} {t : TT} {d : DT} (h : XT X G c t d) : XTs X G [c] t d := ⟨pts_one h.pe, h.sn⟩
theorem x_lc (hc : X.calm = true) (hN : X.N.Nodup) (hi : XI X G tg iter wi di) (ok : BlkOk X.N X.env.scope scope own)
    (hg : ∀ (s : Shared) (H : Hp) (C : Addr) (cl : List (Str × Addr)) (fp : List Addr), XG (X.blk s H scope (compEnvC scope cl C X.env) fp) tg g dg js)
    (ht : ∀ (s : Shared) (H : Hp) (C : Addr) (cl : List (Str × Addr)) (fp : List Addr), XTs (X.blk s H scope (compEnvC scope cl C X.env) fp) G ifs tt dt)
    (he : ∀ (s : Shared) (H : Hp) (C : Addr) (cl : List (Str × Addr)) (fp : List Addr), XE (X.blk s H scope (compEnvC scope cl C X.env) fp) G elt te de)
    (hj : ∀ j ∈ js, j ∈ own.map (·.2) := by decide) (hK : G.K = X.K := by rfl) (hs : ∀ x, foldedSetIterable iter X.env x = pure x := by intro _; rfl) :
    XE X G (.ListComp elt [⟨tg, iter, ifs, 0⟩] scope pos) (tLc wi g tt te (own.map (·.2))) (dLc di dg dt de (own.map (·.2))) :=
  ⟨pe_lc hc hN hi.pe ok (fun s H C cl fp => (hg s H C cl fp).pe) (fun s H C cl fp => (ht s H C cl fp).pe) (fun s H C cl fp => (he s H C cl fp).pe) hs,
    snd_lc hi.sn (by rw [hK]; exact (hg X.s_0 X.H_0 0 [] []).sn) (ht X.s_0 X.H_0 0 [] []).sn (he X.s_0 X.H_0 0 [] []).sn hj⟩
end
end DL

/-! DLg: statements, defs, by data. -/
namespace DL
open PySem PySem.Spec PyProof.Rows L2
variable [TabNames]

structure DEnds where
  nx : StD → Nat → Prop
  rt : DK
  bk : StD → Nat → Prop := fun _ _ => False
  ct : StD → Nat → Prop := fun _ _ => False
abbrev DS := DEnds → StD → Nat → Prop
abbrev Tk := List (D × V)
def TOk (K : PySem.W.Frag) (N : Nat) (H : Hp) (Z : Addr → Prop) (τ : Tk) : Prop := ∀ p ∈ τ, Dt K N H Z p.2 p.1
theorem TOk.gro {K : PySem.W.Frag} {N N' : Nat} {H H' : Hp} {Z Z' : Addr → Prop} {τ : Tk} (g : Gro K N N' Z Z' H H') (h : TOk K N H Z τ) : TOk K N' H' Z' τ := fun p hp => (h p hp).gro g
/-- a value that leaves the def -/
def Sl.out : Sl → Sl
  | .dat d => .dat d
  | .own ds => .own ds
  | .als ds => .own ds
def RtOk (B : Bs) (N : Nat) (H : Hp) (v : V) : Sl → Prop
  | .dat d => Dt B.K N H B.Z0 v d
  | .own ds => ∃ p xs, v = .ref p ∧ B.H0 p = none ∧ H p = some (.lst xs) ∧ DtAll B.K N H (Zp B.Z0 p) xs ds
  | .als _ => False
structure EOk (B : Bs) (τ : Tk) (E : DEnds) (D : Ends) : Prop where
  nx : ∀ Z δ σ H N, SD B Z δ σ H N → TOk B.K N H Z τ → E.nx δ N → D.nx σ H
  bk : ∀ Z δ σ H N, SD B Z δ σ H N → TOk B.K N H Z τ → E.bk δ N → D.bk σ H
  ct : ∀ Z δ σ H N, SD B Z δ σ H N → TOk B.K N H Z τ → E.ct δ N → D.ct σ H
  rt : ∀ s v H N k, N = B.N0 + k → ExK k B.H0 H → RtOk B N H v s → E.rt s N → D.rt v H
structure SndS (G : Gg) (ts : TS) (ds : DS) : Prop where
  run : ∀ (B : Bs) Z τ E D δ σ H N, B.G = G → EOk B τ E D → SD B Z δ σ H N → TOk B.K N H Z τ → ds E δ N → ts D σ H
structure XS (X : Cx) (G : Gg) (st : Stmt) (t : TS) (d : DS) : Prop where
  pe : PS X st t
  sn : SndS G t d
structure XSs (X : Cx) (G : Gg) (st : List Stmt) (t : TS) (d : DS) : Prop where
  pe : PSs X st t
  sn : SndS G t d

@[simp] def dNext : DS := fun E δ N => E.nx δ N
@[simp] def dSeq (a b : DS) : DS := fun E δ N => a { E with nx := b E } δ N
@[simp] def dNever : DS := fun _ _ _ => False
def dBreak : DS := fun E δ N => E.bk δ N
def dCont : DS := fun E δ N => E.ct δ N
section
variable {X : Cx} {G : Gg} {st : Stmt} {rest : List Stmt} {t u : TS} {d f : DS} {e : Expr} {te : TE} {de : DE} {pos : Pos}
theorem xss_nil : XSs X G [] tNext dNext := ⟨pss_nil, ⟨fun B Z τ E D δ σ H N hB ok S T h => ok.nx Z δ σ H N S T h⟩⟩
theorem snd_seq (h1 : SndS G t d) (h2 : SndS G u f) : SndS G (tSeq t u) (dSeq d f) := by
  refine ⟨fun B Z τ E D δ σ H N hB ok S T h => ?_⟩
  exact h1.run B Z τ { E with nx := f E } { D with nx := u D } δ σ H N hB ⟨fun Z' δ' σ' H' N' S' T' h' => h2.run B Z' τ E D δ' σ' H' N' hB ok S' T' h', ok.bk, ok.ct, ok.rt⟩ S T h
theorem xss_cons (h1 : XS X G st t d) (h2 : XSs X G rest u f) : XSs X G (st :: rest) (tSeq t u) (dSeq d f) := ⟨pss_cons h1.pe h2.pe, snd_seq h1.sn h2.sn⟩
theorem xss_one (h1 : XS X G st t d) : XSs X G [st] t d := ⟨pss_one h1.pe, h1.sn⟩
theorem xs_never : XS X G st tNever dNever := ⟨ps_never, ⟨fun B Z τ E D δ σ H N hB ok S T h => h⟩⟩
theorem xss_never {sts : List Stmt} : XSs X G sts tNever dNever := ⟨pss_never, ⟨fun B Z τ E D δ σ H N hB ok S T h => h⟩⟩
theorem xs_pass : XS X G (.Pass pos) tNext dNext := ⟨ps_pass, ⟨fun B Z τ E D δ σ H N hB ok S T h => ok.nx Z δ σ H N S T h⟩⟩
theorem xs_break : XS X G (.Break pos) tBreak dBreak := ⟨ps_break, ⟨fun B Z τ E D δ σ H N hB ok S T h => ok.bk Z δ σ H N S T h⟩⟩
theorem xs_continue : XS X G (.Continue pos) tCont dCont := ⟨ps_continue, ⟨fun B Z τ E D δ σ H N hB ok S T h => ok.ct Z δ σ H N S T h⟩⟩

/-! ### x = e: keep, whether a fresh list is to be the def's own -/
@[simp] def dAsg (keep : Bool) (i : Nat) (de : DE) : DS := fun E δ N => de δ N fun s N1 => match s with
  | .dat d => E.nx (stn δ i (.dat d)) N1
  | .own ds => E.nx (stn δ i (if keep then .own ds else .dat (.lst ds))) N1
  | .als _ => False
theorem snd_asg (keep : Bool) {i : Nat} (h : Snd G te de) : SndS G (tAsg te (gName i)) (dAsg keep i de) := by
  refine ⟨fun B Z τ E D δ σ H N hB ok S T hd => ?_⟩
  refine h.run B Z δ σ H N _ _ hB S hd fun s v H1 k1 e1 r1 h1 => ?_
  have T1 : TOk B.K (N + k1) H1 Z τ := T.gro (.ex e1)
  cases s with
  | dat d => exact ok.nx Z _ _ H1 _ ((S.ext e1).set r1) T1 h1
  | own ds =>
    cases keep with
    | true =>
      obtain ⟨p, xs, rfl, h0, hp, r⟩ := r1
      exact ok.nx (Zp Z p) _ _ H1 _ (S.own e1 h0 hp r) (T.gro (.new e1 h0)) h1
    | false =>
      have r2 : Dt B.K (N + k1) H1 Z v (.lst ds) := r1.tp S.ztt
      exact ok.nx Z _ _ H1 _ ((S.ext e1).set r2) T1 h1
  | als ds => exact h1.elim
theorem xs_set (keep : Bool) {i : Nat} {x : Str} {pos' : Pos} (hN : X.N.Nodup) (hi : X.N[i]? = some x) (hx : Loc X.env.scope x) (he : XE X G e te de) (hs : swapsWith e (some (.Name x pos')) pos.line X.env = pure false := by rfl)
    (hf : X.fn x = true ∨ X.env.scope.names.lookup x = some .local := by first | exact .inl rfl | exact .inr rfl | assumption) : XS X G (.Assign [.Name x pos'] e pos) (tAsg te (gName i)) (dAsg keep i de) :=
  ⟨ps_set hN hi hx he.pe hs hf, snd_asg keep he.sn⟩
/-- name = [..] on one line, the name a local -/
theorem xs_setLc (keep : Bool) {i : Nat} {y : Str} {py : Pos} {elt tg iter : Expr} {ifs : List Expr} {scope : Scope} {own : List (Str × Nat)} {spos : Pos} {wi : TI} {g : TG} {tt : TT} {di : DI} {dg : DG} {js : List Nat} {dt : DT} (hc : X.calm = true) (hN : X.N.Nodup) (hy : X.N[i]? = some y) (hyl : X.env.scope.names.lookup y = some .local)
    (hsw : swapsWith (.ListComp elt [⟨tg, iter, ifs, 0⟩] scope pos) (some (.Name y py)) spos.line X.env = pure true) (hi : XI X G tg iter wi di) (ok : BlkOk X.N X.env.scope scope own)
    (hg : ∀ (s : Shared) (H : Hp) (C : Addr) (cl : List (Str × Addr)) (fp : List Addr), XG (X.blk s H scope (compEnvC scope cl C X.env) fp) tg g dg js)
    (ht : ∀ (s : Shared) (H : Hp) (C : Addr) (cl : List (Str × Addr)) (fp : List Addr), XTs (X.blk s H scope (compEnvC scope cl C X.env) fp) G ifs tt dt)
    (he : ∀ (s : Shared) (H : Hp) (C : Addr) (cl : List (Str × Addr)) (fp : List Addr), XE (X.blk s H scope (compEnvC scope cl C X.env) fp) G elt te de)
    (hj : ∀ j ∈ js, j ∈ own.map (·.2) := by decide) (hK : G.K = X.K := by rfl) (hs : ∀ x, foldedSetIterable iter X.env x = pure x := by intro _; rfl) :
    XS X G (.Assign [.Name y py] (.ListComp elt [⟨tg, iter, ifs, 0⟩] scope pos) spos) (tAsg (tLc wi g tt te (own.map (·.2))) (gName i)) (dAsg keep i (dLc di dg dt de (own.map (·.2)))) :=
  ⟨ps_setLc hc hN hy hyl hsw hi.pe ok (fun s H C cl fp => (hg s H C cl fp).pe) (fun s H C cl fp => (ht s H C cl fp).pe) (fun s H C cl fp => (he s H C cl fp).pe) hs,
    snd_asg keep (x_lc (pos := pos) hc hN hi ok hg ht he hj hK hs).sn⟩
/-- a target of any kind -/
@[simp] def dAsgT (dg : DG) (de : DE) : DS := fun E δ N => de δ N fun s N1 => chk s.nals (dg s.rd δ fun δ' => E.nx δ' N1)
theorem xs_asg {tg : Expr} {g : TG} {dg : DG} {js : List Nat} (he : XE X G e te de) (hg : XG X tg g dg js) (hK : G.K = X.K := by rfl) (hs : swapsWithSole [tg] e pos.line X.env = pure false := by rfl) (hw : swappedStores [tg] e X.env = pure none := by rfl)
    (h1 : (assignEach [tg] X.env).map (·.2) = [assign tg X.env] := by rfl) : XS X G (.Assign [tg] e pos) (tAsg te g) (dAsgT dg de) := by
  refine ⟨ps_asg he.pe hg.pe hs hw h1, ⟨fun B Z τ E D δ σ H N hB ok S T hd => ?_⟩⟩
  refine he.sn.run B Z δ σ H N _ _ hB S hd fun s v H1 k1 e1 r1 h1 => ?_
  rw [chk_iff] at h1
  have r2 : Dt B.K (N + k1) H1 Z v s.rd := by
    have t := r1.tp S.ztt
    cases s with
    | dat d => exact t
    | own ds => exact t
    | als ds => exact absurd h1.1 (by simp [Sl.nals])
  exact hg.sn.run B Z δ σ H1 (N + k1) s.rd v _ _ (by rw [← hK, ← hB]) (S.ext e1) r2 h1.2 fun δ' σ' S' o' h' => ok.nx Z δ' σ' H1 _ S' (T.gro (.ex e1)) h'
/-- a, b = x, y -/
def stP (δ : StD) (kp : Bool) (i : Nat) : Sl → StD
  | .dat d => stn δ i (.dat d)
  | .own ds => stn δ i (.dat (.lst ds))
  | .als _ => δ
@[simp] def dPar (i j : Nat) (da : DA) : DS := fun E δ N => da δ N fun ss N1 => match ss with
  | [s, u] => chk (nalsA [s, u]) (E.nx (stn (stn δ i (.dat s.rd)) j (.dat u.rd)) N1)
  | _ => False
theorem snd_par {i j : Nat} {ta : TA} {da : DA} (ha : SndA G ta da) : SndS G (tPar i j ta) (dPar i j da) := by
  refine ⟨fun B Z τ E D δ σ H N hB ok S T hd => ?_⟩
  refine ha.run B Z δ σ H N _ _ hB S hd fun ss vs H1 k1 e1 r1 h1 => ?_
  split at h1
  · rename_i s u
    rw [chk_iff] at h1
    have rr := pair_all r1 h1.1
    cases rr with
    | cons hx rr =>
      cases rr with
      | cons hy rr =>
        cases rr
        refine ⟨_, _, rfl, ?_⟩
        exact ok.nx Z _ _ H1 _ (((S.ext e1).set hx).set hy) (T.gro (.ex e1)) h1.2
  · exact h1.elim
theorem xs_par {i j : Nat} {x y : Str} {a b : Expr} {ta : TA} {da : DA} {px py pt : Pos} {kt k2 pt2} (hc : X.calm = true) (hN : X.N.Nodup) (hi : X.N[i]? = some x) (hj : X.N[j]? = some y) (hij : i ≠ j)
    (hx : X.env.scope.names.lookup x = some .local) (hy : X.env.scope.names.lookup y = some .local) (ha : XA X G [a, b] ta da)
    (hw : swappedStores [.Tuple [.Name x px, .Name y py] kt pt] (.Tuple [a, b] k2 pt2) X.env = pure (some [x, y]) := by rfl)
    (hs : swapsWithSole [.Tuple [.Name x px, .Name y py] kt pt] (.Tuple [a, b] k2 pt2) pos.line X.env = pure false := by rfl) :
    XS X G (.Assign [.Tuple [.Name x px, .Name y py] kt pt] (.Tuple [a, b] k2 pt2) pos) (tPar i j ta) (dPar i j da) := ⟨ps_par hc hN hi hj hij hx hy ha.pe hw hs, snd_par ha.sn⟩

/-! ### return, if -/
@[simp] def dRet (de : DE) : DS := fun E δ N => de δ N fun s N1 => E.rt s.out N1
theorem rt_ok {B : Bs} {Z : Addr → Prop} {δ : StD} {σ : L2.St} {H H1 : Hp} {N k1 : Nat} (S : SD B Z δ σ H N) (e1 : ExK k1 H H1) {v : V} {s : Sl} (r : Rs B (N + k1) H H1 Z v s) : RtOk B (N + k1) H1 v s.out := by
  have S1 := S.ext e1
  have gz : Gro B.K (N + k1) (N + k1) Z B.Z0 H1 H1 := .zone S.z0 (Nat.le_refl _)
  have h0z : ∀ a, B.Z0 a → Z a := S.z0
  cases s with
  | dat d => exact Dt.gro gz r
  | own ds =>
    obtain ⟨p, xs, rfl, h0, hp, rr⟩ := r
    obtain ⟨j, _, ej⟩ := S.ex
    refine ⟨p, xs, rfl, ej.back h0, hp, rr.gro (.zone (fun a h => ?_) (Nat.le_refl _))⟩
    rcases h with h | h
    · exact .inl (S.z0 a h)
    · exact .inr h
  | als ds =>
    obtain ⟨a, xs, rfl, z, h0, ha, rr⟩ := r
    refine ⟨a, xs, rfl, h0, ha, rr.gro (.zone (fun b h => ?_) (Nat.le_refl _))⟩
    rcases h with h | h
    · exact S.z0 b h
    · rw [h]; exact z
theorem snd_ret (h : Snd G te de) : SndS G (tRet te) (dRet de) := by
  refine ⟨fun B Z τ E D δ σ H N hB ok S T hd => ?_⟩
  refine h.run B Z δ σ H N _ _ hB S hd fun s v H1 k1 e1 r1 h1 => ?_
  obtain ⟨j, ej, ex⟩ := (S.ext e1).ex
  exact ok.rt s.out v H1 (N + k1) j ej ex (rt_ok S e1 r1) h1
theorem xs_ret (he : XE X G e te de) : XS X G (.Return (some e) pos) (tRet te) (dRet de) := ⟨ps_ret he.pe, snd_ret he.sn⟩
@[simp] def dRetN : DS := fun E _ N => E.rt (.dat .non) N
theorem xs_retN : XS X G (.Return none pos) tRetN dRetN := by
  refine ⟨ps_retN, ⟨fun B Z τ E D δ σ H N hB ok S T hd => ?_⟩⟩
  obtain ⟨j, ej, ex⟩ := S.ex
  exact ok.rt (.dat .non) .non H N j ej ex (Dt.v _) hd
@[simp] def dIf (p : DT) (a b : DS) : DS := fun E δ N => p δ N fun k N1 => wif k (a E δ N1) (b E δ N1)
theorem xs_if {c : Expr} {as bs : List Stmt} {tc : TT} {dc : DT} (hc : XT X G c tc dc) (ha : XSs X G as t d) (hb : XSs X G bs u f) : XS X G (.If c as bs pos) (tIfS tc t u) (dIf dc d f) := by
  refine ⟨ps_if hc.pe ha.pe hb.pe, ⟨fun B Z τ E D δ σ H N hB ok S T hd => ?_⟩⟩
  refine hc.sn.run B Z δ σ H N _ _ hB S hd fun k H1 k1 e1 h1 => ?_
  cases k with
  | true => exact ha.sn.run B Z τ E D δ σ H1 _ hB ok (S.ext e1) (T.gro (.ex e1)) h1
  | false => exact hb.sn.run B Z τ E D δ σ H1 _ hB ok (S.ext e1) (T.gro (.ex e1)) h1

/-! ### x.append(e), x an own list -/
@[simp] def dApp (i : Nat) (de : DE) : DS := fun E δ N => match nth δ i with
  | some (.own ds) => de δ N fun s N1 => chk s.nals (ds.length < 100000 ∧ E.nx (stn δ i (.own (ds ++ [s.rd]))) N1)
  | _ => False
theorem snd_app {K : PySem.W.Frag} {i : Nat} (h : Snd G te de) (hK : G.K = K) : SndS G (tDrop (tBM K "list" rAppend (tVar i) (tCons te tNil))) (dApp i de) := by
  refine ⟨fun B Z τ E D δ σ H N hB ok S T hd => ?_⟩
  unfold dApp at hd
  split at hd
  · rename_i ds hi
    obtain ⟨v, g1, a, xs, rfl, z, h0, ha, r⟩ := S.slot i _ hi
    refine ⟨_, g1, .inl ⟨rfl, xs, .of ha⟩, ?_⟩
    refine h.run B Z δ σ H N _ _ hB S hd fun s y H1 k1 e1 r1 h1 => ?_
    rw [chk_iff] at h1
    have r2 : Dt B.K (N + k1) H1 Z y s.rd := by
      have t := r1.tp S.ztt
      cases s with
      | dat d => exact t
      | own ds => exact t
      | als ds => exact absurd h1.1 (by simp [Sl.nals])
    obtain ⟨a', xs', g1', ha', hl, S'⟩ := (S.ext e1).app hi r2
    rw [g1] at g1'
    cases g1'
    refine ⟨a, xs', y, rfl, rfl, ha', by rw [hl]; exact size_lt h1.2.1, ?_⟩
    exact ok.nx Z _ _ _ _ S' ((T.gro (.ex e1)).gro (.wr z ha')) h1.2.2
  · exact hd.elim
theorem xs_app {i : Nat} {x : Str} {px apos cpos : Pos} (he : XE X G e te de) (hx : PE X (.Name x px) (tVar i)) (hK : G.K = X.K := by rfl)
    (hbase : attributeBase (.Name x px) "append" X.env (eval (.Name x px) X.env) = eval (.Name x px) X.env := by rfl)
    (hfew : ((backTo cpos (starEach (e :: []) X.env)).all (fun x => !x.1) && (backToKw cpos (keywordEach [] X.env)).all (fun x => x.1.isSome)
      && decide ((e :: []).length + ([] : List Keyword).length + (if ([] : List Keyword).isEmpty then 0 else 1) < 30)) = true := by rfl)
    (hline : (apos.endLine == cpos.line) = true := by rfl) (hs : starEach (e :: []) X.env = (false, eval e X.env) :: starEach [] X.env := by rfl)
    (hsw : swapsWith (.Call (.Attribute (.Name x px) "append" apos) [e] [] cpos) none pos.line X.env = pure false := by rfl) :
    XS X G (.Expr (.Call (.Attribute (.Name x px) "append" apos) [e] [] cpos) pos) (tDrop (tBM X.K "list" rAppend (tVar i) (tCons te tNil))) (dApp i de) :=
  ⟨ps_expr (pe_bm PySem.F.plainAttrs_list PySem.F.slot_list_append PySem.F.type_list_append mt_append hx (pa_cons he.pe pa_nil hs) hbase hfew hline hs rfl) hsw, snd_app he.sn hK⟩
/-- an expression for its own sake -/
@[simp] def dDrop (de : DE) : DS := fun E δ N => de δ N fun _ N1 => E.nx δ N1
theorem xs_expr (he : XE X G e te de) (hs : swapsWith e none pos.line X.env = pure false := by rfl) : XS X G (.Expr e pos) (tDrop te) (dDrop de) := by
  refine ⟨ps_expr he.pe hs, ⟨fun B Z τ E D δ σ H N hB ok S T hd => ?_⟩⟩
  exact he.sn.run B Z δ σ H N _ _ hB S hd fun s y H1 k1 e1 r1 h1 => ok.nx Z δ σ H1 _ (S.ext e1) (T.gro (.ex e1)) h1
/-- the list at slot i is no more its own -/
@[simp] def dFrz (i : Nat) (d : DS) : DS := fun E δ N => match nth δ i with
  | some (.own ds) => d E (stn δ i (.dat (.lst ds))) N
  | _ => d E δ N
theorem snd_frz {ts : TS} {d : DS} {i : Nat} (h : SndS G ts d) : SndS G ts (dFrz i d) := by
  refine ⟨fun B Z τ E D δ σ H N hB ok S T hd => ?_⟩
  unfold dFrz at hd
  split at hd
  · rename_i ds hi
    obtain ⟨Z', S', T'⟩ := S.frz hi
    exact h.run B Z' τ E D _ σ H N hB ok S' (fun p hp => (T p hp).gro T') hd
  · exact h.run B Z τ E D _ σ H N hB ok S T hd
theorem xs_frz {st : Stmt} {ts : TS} {d : DS} (i : Nat) (h : XS X G st ts d) : XS X G st ts (dFrz i d) := ⟨h.pe, snd_frz h.sn⟩

/-! ### for, while -/
def dFor (di : DI) (dg : DG) (db : DS) : DS := fun E δ N => di δ N fun ds N1 => ∃ Inv : Nat → StD → Nat → Prop, Inv 0 δ N1 ∧
  (∀ i d δ2 N2, ds[i]? = some d → Inv i δ2 N2 → dg d δ2 fun δ3 => db { E with nx := Inv (i + 1), ct := Inv (i + 1), bk := E.nx } δ3 N2) ∧
  ∀ δ2 N2, Inv ds.length δ2 N2 → E.nx δ2 N2
theorem snd_for {wi : TI} {di : DI} {g : TG} {dg : DG} {js : List Nat} {tb : TS} {db : DS} (hi : SndI G wi di) (hg : SndG G.K g dg js) (hb : SndS G tb db) : SndS G (tFor wi g tb) (dFor di dg db) := by
  refine ⟨fun B Z τ E D δ σ H N hB ok S T hd => ?_⟩
  subst hB
  refine hi.run B Z δ σ H N _ _ rfl S hd fun J ds τJ H1 k1 e1 hτ W h1 => ?_
  obtain ⟨Inv, i0, turn, done⟩ := h1
  have T1 := T.gro (.ex e1)
  refine ⟨fun i m σ' H' => m = ds.length - i ∧ i ≤ ds.length ∧ ∃ Z' δ' N', Inv i δ' N' ∧ SD B Z' δ' σ' H' N' ∧ TOk B.K N' H' Z' (τJ ++ τ), ⟨ds.length, by simp, Nat.zero_le _, Z, δ, N + k1, i0, S.ext e1, fun p hp => ?_⟩, ?_⟩
  · rcases List.mem_append.mp hp with hp | hp
    · exact hτ p hp
    · exact T1 p hp
  rintro i m σ' H' ⟨rfl, hle, Z', δ', N', hI, S', T'⟩
  have TJ : TOk B.K N' H' Z' τJ := fun p hp => T' p (List.mem_append_left _ hp)
  have Tτ : TOk B.K N' H' Z' τ := fun p hp => T' p (List.mem_append_right _ hp)
  by_cases hlt : i < ds.length
  · obtain ⟨d, hd'⟩ : ∃ d, ds[i]? = some d := ⟨ds[i], by simp [hlt]⟩
    obtain ⟨go, yl⟩ := W.go _ _ _ i d S'.ztt TJ hd'
    refine .inr ⟨go, fun σ2 H2 => ∃ Z2 δ2 N2, Inv (i + 1) δ2 N2 ∧ SD B Z2 δ2 σ2 H2 N2 ∧ TOk B.K N2 H2 Z2 (τJ ++ τ), fun σ2 H2 ⟨Z2, δ2, N2, a, b, c⟩ => ⟨ds.length - (i + 1), by omega, rfl, hlt, Z2, δ2, N2, a, b, c⟩, fun x H3 hy => ?_⟩
    obtain ⟨e3, hx⟩ := yl x H3 hy
    refine hg.run B Z' δ' σ' H3 N' d x _ _ rfl (S'.ext0 e3) hx (turn i d δ' N' hd' hI) fun δ3 σ3 S3 o3 h3 => ?_
    refine hb.run B Z' (τJ ++ τ) { E with nx := Inv (i + 1), ct := Inv (i + 1), bk := E.nx } _ δ3 σ3 H3 N' rfl ⟨fun Z4 δ4 σ4 H4 N4 S4 T4 h4 => ⟨Z4, δ4, N4, h4, S4, T4⟩, fun Z4 δ4 σ4 H4 N4 S4 T4 h4 => ok.nx Z4 δ4 σ4 H4 N4 S4 (fun p hp => T4 p (List.mem_append_right _ hp)) h4, fun Z4 δ4 σ4 H4 N4 S4 T4 h4 => ⟨Z4, δ4, N4, h4, S4, T4⟩, ok.rt⟩ S3 (T'.gro (.ex e3)) h3
  · have e : i = ds.length := by omega
    subst e
    exact .inl ⟨W.stop _ _ _ _ TJ (Nat.le_refl _), ok.nx Z' δ' σ' H' N' S' Tτ (done δ' N' hI)⟩
theorem xs_for {tg iter : Expr} {body : List Stmt} {wi : TI} {di : DI} {g : TG} {dg : DG} {js : List Nat} {tb : TS} {db : DS} (hp : PassesOwn (model X.prog X.w) X.A X.env X.xe) (hc : X.calm = true) (hi : XI X G tg iter wi di) (hg : XG X tg g dg js) (hb : XSs X G body tb db)
    (hK : G.K = X.K := by rfl) (hs : ∀ x, foldedSetIterable iter X.env x = pure x := by intro _; rfl) : XS X G (.For tg iter body [] pos) (tFor wi g tb) (dFor di dg db) :=
  ⟨ps_for hp hc hi.pe hg.pe hb.pe hs, snd_for hi.sn (by rw [hK]; exact hg.sn) hb.sn⟩
def dWhile (p : DT) (db : DS) : DS := fun E δ N => ∃ Inv : Nat → StD → Nat → Prop, (∃ m, Inv m δ N) ∧
  ∀ m δ2 N2, Inv m δ2 N2 → p δ2 N2 fun b N3 => wif b (db { E with nx := fun δ3 N4 => ∃ m', m' < m ∧ Inv m' δ3 N4, ct := fun δ3 N4 => ∃ m', m' < m ∧ Inv m' δ3 N4, bk := E.nx } δ2 N3) (E.nx δ2 N3)
theorem snd_while {tc : TT} {dc : DT} {tb : TS} {db : DS} (hc : SndT G tc dc) (hb : SndS G tb db) : SndS G (tWhile tc tb) (dWhile dc db) := by
  refine ⟨fun B Z τ E D δ σ H N hB ok S T hd => ?_⟩
  obtain ⟨Inv, ⟨m0, i0⟩, turn⟩ := hd
  refine ⟨fun m σ' H' => ∃ Z' δ' N', Inv m δ' N' ∧ SD B Z' δ' σ' H' N' ∧ TOk B.K N' H' Z' τ, ⟨m0, Z, δ, N, i0, S, T⟩, ?_⟩
  rintro m σ' H' ⟨Z', δ', N', hI, S', T'⟩
  refine hc.run B Z' δ' σ' H' N' _ _ hB S' (turn m δ' N' hI) fun b H1 k1 e1 h1 => ?_
  cases b with
  | true =>
    refine ⟨fun σ2 H2 => ∃ m', m' < m ∧ ∃ Z2 δ2 N2, Inv m' δ2 N2 ∧ SD B Z2 δ2 σ2 H2 N2 ∧ TOk B.K N2 H2 Z2 τ, fun σ2 H2 h => h, ?_⟩
    exact hb.run B Z' τ { E with nx := fun δ3 N4 => ∃ m', m' < m ∧ Inv m' δ3 N4, ct := fun δ3 N4 => ∃ m', m' < m ∧ Inv m' δ3 N4, bk := E.nx } _ δ' σ' H1 (N' + k1) hB ⟨fun Z4 δ4 σ4 H4 N4 S4 T4 ⟨m', a, b⟩ => ⟨m', a, Z4, δ4, N4, b, S4, T4⟩, ok.nx, fun Z4 δ4 σ4 H4 N4 S4 T4 ⟨m', a, b⟩ => ⟨m', a, Z4, δ4, N4, b, S4, T4⟩, ok.rt⟩ (S'.ext e1) (T'.gro (.ex e1)) h1
  | false => exact ok.nx Z' δ' σ' H1 _ (S'.ext e1) (T'.gro (.ex e1)) h1
theorem xs_while {c : Expr} {body : List Stmt} {tc : TT} {dc : DT} {tb : TS} {db : DS} (hp : PassesOwn (model X.prog X.w) X.A X.env X.xe) (hc : XT X G c tc dc) (hb : XSs X G body tb db) : XS X G (.While c body [] pos) (tWhile tc tb) (dWhile dc db) :=
  ⟨ps_while hp hc.pe hb.pe, snd_while hc.sn hb.sn⟩
end

/-! ### defs -/
@[simp] def startD (ds : List D) (n : Nat) : StD := ds.map (fun d => some (.dat d)) ++ List.replicate (n - ds.length) none
abbrev G0 (K : PySem.W.Frag) : Gg := ⟨K, E0, fun _ _ => False, []⟩
abbrev TabsN (T : List Addr) (H : Hp) : Prop := ∀ P ∈ T, LamX.TabS H P (TabNames.nm P)
theorem tabs_nil {H : Hp} : TabsN [] H := fun p hp => absurd hp (by simp)
theorem nth_get : ∀ {δ : StD} {i : Nat} {s : Sl}, nth δ i = some s → δ[i]? = some (some s)
  | [], _, _, h => by simp [nth] at h
  | _ :: _, 0, _, h => by simpa [nth] using h
  | _ :: r, i + 1, s, h => by
    have := nth_get (δ := r) (i := i) (s := s) (by simpa [nth] using h)
    simpa using this
theorem startD_get {ds : List D} {n i : Nat} {s : Sl} (h : nth (startD ds n) i = some s) : ∃ d, ds[i]? = some d ∧ s = .dat d := by
  have h1 := nth_get h
  unfold startD at h1
  by_cases hi : i < ds.length
  · rw [List.getElem?_append_left (by rw [List.length_map]; exact hi), List.getElem?_map] at h1
    cases e : ds[i]? with
    | none => rw [e] at h1; cases h1
    | some d =>
      rw [e] at h1
      cases h1
      exact ⟨d, rfl, rfl⟩
  · rw [List.getElem?_append_right (by rw [List.length_map]; omega)] at h1
    have h2 := List.mem_of_getElem? h1
    rw [List.mem_replicate] at h2
    cases h2.2
theorem sd_start {G : Gg} {H : Hp} {Z : Addr → Prop} {N : Nat} {NN : List Str} {vs : List V} {ds : List D} (hz : Zt Z H) (r : DtAll G.K N H Z vs ds) (eok : ∀ cls k H', ExK k H H' → G.Er cls (N + k) → G.E cls none H') (tab : TabsN G.T H) :
    SD ⟨G, H, Z, N, eok, tab⟩ Z (startD ds NN.length) (L2.start NN vs) H N where
  ex := ⟨0, rfl, ExK.refl H⟩
  z0 := fun _ h => h
  z1 := fun a h e => by
    obtain ⟨xs, hx⟩ := hz a h
    have e' : H a = none := e
    rw [e'] at hx
    cases hx
  zt := hz
  len := by
    unfold startD L2.start
    rw [List.length_append, List.length_append, List.length_map, List.length_map, List.length_replicate, List.length_replicate, r.length]
  slot := fun i s h => by
    obtain ⟨d, h1, rfl⟩ := startD_get h
    obtain ⟨v, h2, h3⟩ := r.get h1
    refine ⟨v, ?_, h3⟩
    unfold L2.start
    have hl := (List.getElem?_eq_some_iff.mp h2).1
    rw [List.getElem?_append_left (by rw [List.length_map]; exact hl), List.getElem?_map, h2]
    rfl
  nals := fun i ds h => by
    obtain ⟨d, _, e⟩ := startD_get h
    cases e
  d1 := fun i j ds es _ h _ => by
    obtain ⟨d, _, e⟩ := startD_get h
    cases e
section
variable {P : Program} {w : World} {K : PySem.W.Frag} {mg : Str → Option Value} {base : Heap}
/-- THE RULE for a def that no exception leaves -/
theorem dok {x qual : Str} {st : Stmt} {f : Addr} {fd : FuncData} {N ps : List Str} {k : Nat} {dsp : DSp} (F : Fun K x qual st f fd) (S : FnScope N ps (defScope st)) (len : ∀ ds n C Er, dsp ds n C Er → ds.length = ps.length)
    (hbody : ∀ (cdv : Value) (A : Around) (outer : List Env) (s : Shared) (H : Hp) (E : XK), Room k (A.deeper (envOfC qual (defScope st) s.heap.objs.size f cdv)) →
      ∃ t d, XSs (cxOf CX0 P w K mg base N qual (defScope st) f cdv A outer s H E).nox (G0 K) (defBody st) t d ∧
        ∀ ds n C Er, dsp ds n C Er → d { nx := fun _ n' => C (.dat .non) n', rt := C } (startD ds N.length) n) : DFn P w K mg base CX0 (k + 1) f fd ps dsp := by
  refine F.ok S (fun vs H Q E h => ?_) fun cdv A outer s H vs Q E hr h => ?_
  · obtain ⟨Z, n, ds, C, Er, _, r, hd, _⟩ := h
    rw [r.length]
    exact len ds n C Er hd
  · obtain ⟨t, d, hx, hd⟩ := hbody cdv A outer s H E hr
    obtain ⟨Z, n, ds, C, Er, hz, r, hs, q, _⟩ := h
    refine ⟨t, hx.pe, ?_⟩
    refine hx.sn.run ⟨G0 K, H, Z, n, fun _ _ _ _ z => z.elim, tabs_nil⟩ Z [] { nx := fun _ n' => C (.dat .non) n', rt := C } _ _ _ H n rfl ⟨fun Z' δ σ H' N' S' _ h' => ?_, fun _ _ _ _ _ _ _ z => z.elim, fun _ _ _ _ _ _ _ z => z.elim, fun s v H' N' k hN ex rt h' => ?_⟩ (sd_start (G := G0 K) hz r (fun _ _ _ _ z => z.elim) tabs_nil) (fun p hp => absurd hp (by simp)) (hd ds n C Er hs)
    · obtain ⟨j, ej, ex⟩ := S'.ex
      have ej' : N' = n + j := ej
      subst ej'
      exact q (.dat .non) .non H' j ex (Dt.v _) h'
    · have hN' : N' = n + k := hN
      subst hN'
      refine q s v H' k ex ?_ h'
      cases s with
      | dat d => exact rt
      | own ds => exact rt
      | als ds => exact rt.elim
end
end DL

/-! DLh: bags; the defs of the text and their callers. -/
namespace DL
open PySem PySem.Spec PyProof.Rows L2
variable [TabNames]

/-! ### a bag, seen and hidden -/
section
variable {X : Cx} {e : Expr} {t : TE} {sts : List Stmt} {ts : TS}
/-- a bag at b is seen as its three ints -/
def tSee (ts : TS) : TS := fun D σ H => ∃ b n, H b = some (.ext (bagAt b n)) ∧ ∀ i j c : Int, 0 ≤ i → 0 ≤ j → 0 ≤ c → (∀ m : Nat, HO.ext (bagAt b n) = HO.ext (bagAt b m) → c ≤ m) → ts D σ (upd H b (.lst [.int i, .int j, .int c]))
theorem pss_see (h : PSs X sts ts) : PSs X sts (tSee ts) := by
  refine ⟨fun pins s σ H D I hw => ?_⟩
  obtain ⟨b, n, hb, q⟩ := hw
  have hφ : ∀ m : Nat, HO.ext (bagAt b n) = HO.ext (bagAt b m) → bagAt b m s.heap := fun m e => by
    have h1 := I.hok b _ hb
    rw [e] at h1
    exact h1.1
  obtain ⟨i, j, c, t1, t2, t3, mm, hg, hi, hj, hc, hn⟩ := hφ n rfl
  have hall : ∀ m : Nat, HO.ext (bagAt b n) = HO.ext (bagAt b m) → c ≤ m := fun m e => by
    obtain ⟨i', j', c', u1, u2, u3, mm', hg', _, _, _, hm'⟩ := hφ m e
    rw [hg] at hg'
    have e1 := Option.some.inj hg'
    injection e1 with _ _ ed _
    injection ed with ea _
    have e2 := congrArg Array.toList ea
    simp only [List.cons.injEq, Value.int.injEq] at e2
    omega
  have I' : Inv X pins σ (upd H b (.lst [.int i, .int j, .int c])) s := I.write (h' := s.heap) (t' := s.toks) (x := b) (e := b) (by rw [hb]; trivial) (.inl rfl) (fun _ _ _ q => q) ⟨_, hg⟩
    ⟨by show 3 ≤ sizeLine; decide, _, mm, .cons ⟨_, rfl⟩ (.cons ⟨_, rfl⟩ (.cons ⟨_, rfl⟩ .nil)), hg⟩
  exact h.run pins s σ _ D I' (q i j c hi hj hc hall)
/-- a list of three ints becomes a bag again -/
def tHide (t : TE) : TE := fun σ H Q => t σ H fun v H' => ∃ b i j c, ∃ n : Nat, H' b = some (.lst [.int i, .int j, .int c]) ∧ 0 ≤ i ∧ 0 ≤ j ∧ 0 ≤ c ∧ c ≤ n ∧ Q v (upd H' b (.ext (bagAt b n)))
theorem pe_hide (h : PE X e t) : PE X e (tHide t) := by
  refine ⟨fun pins s σ H Q I hw => ?_⟩
  refine thn (h.run pins s σ H _ I hw) fun u s1 ⟨v, H1, I1, r1, q1⟩ => ?_
  obtain ⟨b, i, j, c, n, hb, hi, hj, hc, hn, q⟩ := q1
  obtain ⟨_, its, m, rv, hg⟩ := (show ObjOk X.prog X.w H1 s1.heap b (.lst [.int i, .int j, .int c]) from I1.hok b _ hb)
  have hbag : bagAt b n s1.heap := by
    cases rv with
    | cons r1 rv =>
      cases rv with
      | cons r2 rv =>
        cases rv with
        | cons r3 rv =>
          cases rv
          obtain ⟨t1, rfl⟩ := r1
          obtain ⟨t2, rfl⟩ := r2
          obtain ⟨t3, rfl⟩ := r3
          exact ⟨i, j, c, t1, t2, t3, m, hg, hi, hj, hc, hn⟩
  have I' : Inv X pins σ (upd H1 b (.ext (bagAt b n))) s1 := I1.write (h' := s1.heap) (t' := s1.toks) (x := b) (e := b) (by rw [hb]; trivial) (.inl rfl) (fun _ _ _ q => q) ⟨_, hg⟩
    ⟨hbag, ⟨_, hg⟩, fun h1 h2 ⟨i', j', c', u1, u2, u3, mm, g, rest⟩ k => ⟨i', j', c', u1, u2, u3, mm, k _ g, rest⟩⟩
  exact ⟨v, _, I', r1, q⟩
end
/-- a fresh list of three ints is given away as a bag -/
def tBag (t : TE) : TE := fun σ H Q => t σ H fun v H' => ∃ b i j c, ∃ n : Nat, v = .ref b ∧ H' b = some (.lst [.int i, .int j, .int c]) ∧ 0 ≤ i ∧ 0 ≤ j ∧ 0 ≤ c ∧ c ≤ n ∧ Q v (upd H' b (.ext (bagAt b n)))
@[simp] def dBag (de : DE) : DE := fun δ N C => de δ N fun s N1 => match s with
  | .own [.v (.int i), .v (.int j), .v (.int c)] => (0 ≤ i ∧ 0 ≤ j ∧ 0 ≤ c ∧ c ≤ N1) ∧ C (.dat .bag) N1
  | _ => False
theorem x_bag {X : Cx} {G : Gg} {e : Expr} {t : TE} {de : DE} (h : XE X G e t de) : XE X G e (tHide t) (dBag de) := by
  refine ⟨pe_hide h.pe, ⟨fun B Z δ σ H N C Q hB S hd q => ?_⟩⟩
  refine h.sn.run B Z δ σ H N _ _ hB S hd fun s x H1 k1 e1 r1 h1 => ?_
  split at h1
  · rename_i i j c
    obtain ⟨⟨hi, hj, hc, hn⟩, h2⟩ := h1
    obtain ⟨p, xs, rfl, h0, hp, rr⟩ := r1
    have e3 : [D.v (.int i), D.v (.int j), D.v (.int c)] = [i, j, c].map D.int := rfl
    rw [e3] at rr
    have exs := rr.ints
    subst exs
    refine ⟨p, i, j, c, N + k1, hp, hi, hj, hc, hn, ?_⟩
    exact q (.dat .bag) _ _ k1 (e1.wr h0 hp) (Dt.bag (Nat.le_refl _) upd_same) h2
  · exact h1.elim
theorem tab_bag {H : Hp} {P b : Addr} {q : Str} {n m : Nat} (h : H b = some (.ext (bagAt b n))) (t : LamX.TabS H P q) : LamX.TabS (upd H b (.ext (bagAt b m))) P q := by
  obtain ⟨ps, h1, h2, h3⟩ := t
  refine ⟨ps, by rw [upd_ne (fun z => by rw [z, h] at h1; cases h1)]; exact h1, h2, fun pos cv hc => ?_⟩
  obtain ⟨c, e1, e2⟩ := h3 pos cv hc
  refine ⟨c, e1, ?_⟩
  rw [upd_ne (fun z => by rw [z, h] at e2; exact codeO_bag (Option.some.inj e2).symm)]
  exact e2
/-- a draw: 0 ≤ i < m, nothing else is known -/
def LIM : Nat := 2 ^ 60
def dspTake : DSp := fun ds N C _ => ∃ m : Int, ds = [.bag, .int m] ∧ (0 < m ∧ m < 1073741824 ∧ N ≤ LIM) ∧ ∀ i : Int, 0 ≤ i → i < m → C (.dat (.int i)) (N + 1)

/-! ### the written part by its own name (inside a comprehension) -/
section
variable {X : Cx} {K : PySem.W.Frag}
theorem o_addK (h : X.K = K := by rfl) : X2 X (binaryOp .Add) (rAddA K) dAdd := by subst h; exact o_add
theorem o_eqK (hu : X.A.units + 64 < cLine) (h : X.K = K := by rfl) : X2 X (compareOp .Eq) (rEqD K) (dEq false) := by subst h; exact o_eq hu
theorem o_neK (hu : X.A.units + 64 < cLine) (h : X.K = K := by rfl) : X2 X (compareOp .NotEq) (rNeD K) (dEq true) := by subst h; exact o_ne hu
theorem o_inK (h : X.K = K := by rfl) : X2 X (compareOp .In) (rIn K false) (dIn false) := by subst h; exact o_in
theorem o_notinK (h : X.K = K := by rfl) : X2 X (compareOp .NotIn) (rIn K true) (dIn true) := by subst h; exact o_notin
theorem o_ixK (h : X.K = K := by rfl) : X2I X (rIx K) dIx := by subst h; exact o_ix
theorem c_lenK (h : X.K = K := by rfl) : XC X (.builtin "len") (rLenQ K) dLen := by subst h; exact c_len
theorem c_sumK (hc : X.calm = true) (h : X.K = K := by rfl) : XC X (.builtin "sum") (rSum K) dSum := by subst h; exact c_sum hc
theorem c_maxLK (hc : X.calm = true) (h : X.K = K := by rfl) : XC X (.builtin "max") (rMax K) dMaxL := by subst h; exact c_maxL hc
theorem c_minLK (hc : X.calm = true) (h : X.K = K := by rfl) : XC X (.builtin "min") (rMin K) dMinL := by subst h; exact c_minL hc
theorem c_allK (hc : X.calm = true) (h : X.K = K := by rfl) : XC X (.builtin "all") (rAll K) dAll := by subst h; exact c_all hc
theorem c_sortedK (h : X.K = K := by rfl) : XC X (.builtin "sorted") (rSortedI K) dSorted := by subst h; exact c_sorted
theorem c_listK (h : X.K = K := by rfl) : XC X (.type "list") (rListQ K) dList := by subst h; exact c_list
theorem c_tupleK (h : X.K = K := by rfl) : XC X (.type "tuple") (rTupleQ K) dTuple := by subst h; exact c_tuple
end
/-! ### the defs of the text -/
section
variable (P : Program) (w : World) (K : PySem.W.Frag) (mg : Str → Option Value) (base : Heap)
/-- x is a def of the text that keeps dsp -/
def Cal (CX : CXT) (x : Str) (k : Nat) (ps : List Str) (dsp : DSp) : Prop := ∃ (f : Addr) (fd : FuncData), DFn P w K mg base CX k f fd ps dsp ∧ mg x = some (.ref f) ∧ PySem.W.keepIn K (.ref f) = true ∧ Binds K fd ps []
/-- x stands at the top as the text says -/
def Dfd (x : Str) (st : Stmt) : Prop := ∃ (f : Addr) (fd : FuncData), Fun K x x st f fd ∧ mg x = some (.ref f)
def Cint (x : Str) (i : Int) : Prop := ∃ t, mg x = some (.int i t)
end
section
variable {X : Cx} {G : Gg} {CX : CXT} {k j : Nat} {ps : List Str} {dsp : DSp} {x : Str} {p pos : Pos} {e : Expr} {es : List Expr} {t : TA} {d : DA}
theorem x_callC (C : Cal X.prog X.w X.K X.mg X.base CX x k ps dsp) (hr : Room j X.A) (hkj : k ≤ j) (hg : Gl X x) (hx : Passes CX X G.E)
    (ha : XA X G (e :: es) t d) (hK : G.K = X.K := by rfl) (hdb : (x == ("__debug__" : Str)) = false := by decide) (he : starEach (e :: es) X.env = (false, eval e X.env) :: starEach es X.env := by rfl) (hpl : (backTo pos (starEach es X.env)).any (·.1) = false := by rfl) :
    XE X G (.Call (.Name x p) (e :: es) [] pos) (tCall (lift G.K dsp) [] G.E t) (dCall G.Er dsp d) := by
  obtain ⟨f, fd, F, hm, hk, hb⟩ := C
  exact x_call F (hr.mono hkj) hg hm hk hb hx ha hK hdb he hpl
theorem x_globI {i : Int} (h : Cint X.mg x i) (hg : Gl X x) (hd : (x == ("__debug__" : Str)) = false := by decide) : XE X G (.Name x pos) (tC (.int i)) (dC (.int i)) := by
  obtain ⟨u, h⟩ := h
  exact x_glob hg h ⟨u, rfl⟩ hd
end
section
variable {P : Program} {w : World} {K : PySem.W.Frag} {mg : Str → Option Value} {base : Heap}
theorem cal_of {x : Str} {st : Stmt} {N ps : List Str} {k : Nat} {dsp : DSp} {dd : DS} (D : Dfd K mg x st) (S : FnScope N ps (defScope st)) (len : ∀ ds n C Er, dsp ds n C Er → ds.length = ps.length)
    (hb : ∀ (kV doc pm : Value) (an : Option Addr) (cdv ct : Value) (us : List Value), us.length = ps.length → bindArgs (PySem.W.fnOf x x (defArgs st) (defBody st) (defScope st) .none kV doc pm an cdv ct) ⟨us, []⟩ = pure (ps.zip us))
    (hbody : ∀ (f : Addr) (cdv : Value) (A : Around) (outer : List Env) (s : Shared) (H : Hp) (E : XK), Room k (A.deeper (envOfC x (defScope st) s.heap.objs.size f cdv)) →
      ∃ t, XSs (cxOf CX0 P w K mg base N x (defScope st) f cdv A outer s H E).nox (G0 K) (defBody st) t dd)
    (hd : ∀ ds n C Er, dsp ds n C Er → dd { nx := fun _ n' => C (.dat .non) n', rt := C } (startD ds N.length) n) : Cal P w K mg base CX0 x (k + 1) ps dsp := by
  obtain ⟨f, fd, F, hm⟩ := D
  refine ⟨f, fd, dok F S len fun cdv A outer s H E hr => ?_, hm, F.kp, F.binds hb⟩
  obtain ⟨t, hx⟩ := hbody f cdv A outer s H E hr
  exact ⟨t, dd, hx, hd⟩
end

/-- no promise -/
def dspNo : DSp := fun _ _ _ _ => False
theorem cal_false {P : Program} {w : World} {K : PySem.W.Frag} {mg : Str → Option Value} {base : Heap} {x : Str} {st : Stmt} {ps : List Str} {k : Nat} (D : Dfd K mg x st)
    (hb : ∀ (kV doc pm : Value) (an : Option Addr) (cdv ct : Value) (us : List Value), us.length = ps.length → bindArgs (PySem.W.fnOf x x (defArgs st) (defBody st) (defScope st) .none kV doc pm an cdv ct) ⟨us, []⟩ = pure (ps.zip us)) : Cal P w K mg base CX0 x k ps dspNo := by
  obtain ⟨f, fd, F, hm⟩ := D
  exact ⟨f, fd, ⟨fun vs H Q E h => by
    obtain ⟨Z, n, ds, C, Er, _, r, hd, _⟩ := h
    exact hd.elim, fun A outer s H args us vs Q E hr he hbi hv h => by
    obtain ⟨Z, n, ds, C, Er, _, r, hd, _⟩ := h
    exact hd.elim⟩, hm, F.kp, F.binds hb⟩
/-! ### names of operators -/
def dSub : D2 := dI0 fun i j => .int (i - j)
def dMul : D2 := dI CMul fun i j => .int (i * j)
def dDiv : D2 := dI CDiv fun i j => .int (i / j)
def dMod : D2 := dI (fun _ j => 0 < j) fun i j => .int (i % j)
def dPow : D2 := dI CPow fun i j => .int (i ^ j.toNat)
def dLt : D2 := dI0 fun i j => .bl (decide (i < j))
def dLe : D2 := dI0 fun i j => .bl (decide (i ≤ j))
def dGt : D2 := dI0 fun i j => .bl (decide (j < i))
def dGe : D2 := dI0 fun i j => .bl (decide (j ≤ i))
section
variable {i j : Int} {k : Sl → Prop}
@[simp] theorem e_sub : dSub (.v (.int i)) (.v (.int j)) k = k (.dat (.v (.int (i - j)))) := rfl
@[simp] theorem e_mul : dMul (.v (.int i)) (.v (.int j)) k = (CMul i j ∧ k (.dat (.v (.int (i * j))))) := rfl
@[simp] theorem e_div : dDiv (.v (.int i)) (.v (.int j)) k = (CDiv i j ∧ k (.dat (.v (.int (i / j))))) := rfl
@[simp] theorem e_mod : dMod (.v (.int i)) (.v (.int j)) k = (0 < j ∧ k (.dat (.v (.int (i % j))))) := rfl
@[simp] theorem e_pow : dPow (.v (.int i)) (.v (.int j)) k = (CPow i j ∧ k (.dat (.v (.int (i ^ j.toNat))))) := rfl
@[simp] theorem e_lt : dLt (.v (.int i)) (.v (.int j)) k = k (.dat (.v (.bl (decide (i < j))))) := rfl
@[simp] theorem e_le : dLe (.v (.int i)) (.v (.int j)) k = k (.dat (.v (.bl (decide (i ≤ j))))) := rfl
@[simp] theorem e_gt : dGt (.v (.int i)) (.v (.int j)) k = k (.dat (.v (.bl (decide (j < i))))) := rfl
@[simp] theorem e_ge : dGe (.v (.int i)) (.v (.int j)) k = k (.dat (.v (.bl (decide (j ≤ i))))) := rfl
end
abbrev E00 : Value → Nat → Prop := fun _ _ => False
end DL

/-! DLi: readings by data, evaluated. -/
namespace DL
open PySem PySem.Spec PyProof.Rows L2
variable [TabNames]

section
variable {α β : Type} {f : α → β} {a : α} {l m : List α} {b : Bool}
@[simp] theorem w_map_cons : (a :: l).map f = f a :: l.map f := rfl
@[simp] theorem w_map_nil : ([] : List α).map f = [] := rfl
@[simp] theorem w_cons_app : (a :: l) ++ m = a :: (l ++ m) := rfl
@[simp] theorem w_nil_app : [] ++ m = m := rfl
@[simp] theorem w_len_cons : (a :: l).length = l.length + 1 := rfl
@[simp] theorem w_len_nil : ([] : List α).length = 0 := rfl
@[simp] theorem w_rep_0 : List.replicate 0 a = [] := rfl
@[simp] theorem w_rep_s {n : Nat} : List.replicate (n + 1) a = a :: List.replicate n a := rfl
@[simp] theorem w_t_and : (true && b) = b := rfl
@[simp] theorem w_f_and : (false && b) = false := rfl
@[simp] theorem w_t_or : (true || b) = true := rfl
@[simp] theorem w_f_or : (false || b) = b := rfl
@[simp] theorem w_not_t : (!true) = false := rfl
@[simp] theorem w_not_f : (!false) = true := rfl
end
@[simp] theorem rd_dat {d : D} : (Sl.dat d).rd = d := rfl
@[simp] theorem rd_own {ds : List D} : (Sl.own ds).rd = .lst ds := rfl
@[simp] theorem rd_als {ds : List D} : (Sl.als ds).rd = .lst ds := rfl
@[simp] theorem ali_dat {d : D} : (Sl.dat d).ali = .dat d := rfl
@[simp] theorem ali_own {ds : List D} : (Sl.own ds).ali = .als ds := rfl
@[simp] theorem nals_dat {d : D} : (Sl.dat d).nals = true := rfl
@[simp] theorem nals_own {ds : List D} : (Sl.own ds).nals = true := rfl
@[simp] theorem nals_als {ds : List D} : (Sl.als ds).nals = false := rfl
@[simp] theorem lf_dat {d : D} : (Sl.dat d).lf = d.lf := rfl
@[simp] theorem lf_own {ds : List D} : (Sl.own ds).lf = false := rfl
@[simp] theorem lf_v {x : V} : (D.v x).lf = true := rfl
@[simp] theorem out_dat {d : D} : (Sl.dat d).out = .dat d := rfl
@[simp] theorem out_own {ds : List D} : (Sl.own ds).out = .own ds := rfl
@[simp] theorem out_als {ds : List D} : (Sl.als ds).out = .own ds := rfl
@[simp] theorem nalsA_nil : nalsA [] = true := rfl
@[simp] theorem nalsA_cons {s : Sl} {ss : List Sl} : nalsA (s :: ss) = (s.nals && nalsA ss) := rfl
@[simp] theorem nth_0 {s : Option Sl} {δ : StD} : nth (s :: δ) 0 = s := rfl
@[simp] theorem nth_s {s : Option Sl} {δ : StD} {i : Nat} : nth (s :: δ) (i + 1) = nth δ i := rfl
@[simp] theorem stn_0 {s : Option Sl} {δ : StD} {t : Sl} : stn (s :: δ) 0 t = some t :: δ := rfl
@[simp] theorem stn_s {s : Option Sl} {δ : StD} {i : Nat} {t : Sl} : stn (s :: δ) (i + 1) t = s :: stn δ i t := rfl
@[simp] theorem non_0 {s : Option Sl} {δ : StD} : non (s :: δ) 0 = none :: δ := rfl
@[simp] theorem non_s {s : Option Sl} {δ : StD} {i : Nat} : non (s :: δ) (i + 1) = s :: non δ i := rfl
theorem dVar_eq {i : Nat} {δ : StD} {N : Nat} {C : DK} {s : Sl} (h : nth δ i = some s) : dVar i δ N C = C s.ali N := by unfold dVar; rw [h]
section
variable {a b c d e f : D} {k : Sl → Prop}
@[simp] theorem ixt1_0 : dIx (.tup [a]) (.v (.int 0)) k = k (.dat a) := rfl
@[simp] theorem ixl1_0 : dIx (.lst [a]) (.v (.int 0)) k = k (.dat a) := rfl
@[simp] theorem ixt2_0 : dIx (.tup [a, b]) (.v (.int 0)) k = k (.dat a) := rfl
@[simp] theorem ixl2_0 : dIx (.lst [a, b]) (.v (.int 0)) k = k (.dat a) := rfl
@[simp] theorem ixt2_1 : dIx (.tup [a, b]) (.v (.int 1)) k = k (.dat b) := rfl
@[simp] theorem ixl2_1 : dIx (.lst [a, b]) (.v (.int 1)) k = k (.dat b) := rfl
@[simp] theorem ixt3_0 : dIx (.tup [a, b, c]) (.v (.int 0)) k = k (.dat a) := rfl
@[simp] theorem ixl3_0 : dIx (.lst [a, b, c]) (.v (.int 0)) k = k (.dat a) := rfl
@[simp] theorem ixt3_1 : dIx (.tup [a, b, c]) (.v (.int 1)) k = k (.dat b) := rfl
@[simp] theorem ixl3_1 : dIx (.lst [a, b, c]) (.v (.int 1)) k = k (.dat b) := rfl
@[simp] theorem ixt3_2 : dIx (.tup [a, b, c]) (.v (.int 2)) k = k (.dat c) := rfl
@[simp] theorem ixl3_2 : dIx (.lst [a, b, c]) (.v (.int 2)) k = k (.dat c) := rfl
@[simp] theorem ixt4_0 : dIx (.tup [a, b, c, d]) (.v (.int 0)) k = k (.dat a) := rfl
@[simp] theorem ixl4_0 : dIx (.lst [a, b, c, d]) (.v (.int 0)) k = k (.dat a) := rfl
@[simp] theorem ixt4_1 : dIx (.tup [a, b, c, d]) (.v (.int 1)) k = k (.dat b) := rfl
@[simp] theorem ixl4_1 : dIx (.lst [a, b, c, d]) (.v (.int 1)) k = k (.dat b) := rfl
@[simp] theorem ixt4_2 : dIx (.tup [a, b, c, d]) (.v (.int 2)) k = k (.dat c) := rfl
@[simp] theorem ixl4_2 : dIx (.lst [a, b, c, d]) (.v (.int 2)) k = k (.dat c) := rfl
@[simp] theorem ixt4_3 : dIx (.tup [a, b, c, d]) (.v (.int 3)) k = k (.dat d) := rfl
@[simp] theorem ixl4_3 : dIx (.lst [a, b, c, d]) (.v (.int 3)) k = k (.dat d) := rfl
@[simp] theorem ixt5_0 : dIx (.tup [a, b, c, d, e]) (.v (.int 0)) k = k (.dat a) := rfl
@[simp] theorem ixl5_0 : dIx (.lst [a, b, c, d, e]) (.v (.int 0)) k = k (.dat a) := rfl
@[simp] theorem ixt5_1 : dIx (.tup [a, b, c, d, e]) (.v (.int 1)) k = k (.dat b) := rfl
@[simp] theorem ixl5_1 : dIx (.lst [a, b, c, d, e]) (.v (.int 1)) k = k (.dat b) := rfl
@[simp] theorem ixt5_2 : dIx (.tup [a, b, c, d, e]) (.v (.int 2)) k = k (.dat c) := rfl
@[simp] theorem ixl5_2 : dIx (.lst [a, b, c, d, e]) (.v (.int 2)) k = k (.dat c) := rfl
@[simp] theorem ixt5_3 : dIx (.tup [a, b, c, d, e]) (.v (.int 3)) k = k (.dat d) := rfl
@[simp] theorem ixl5_3 : dIx (.lst [a, b, c, d, e]) (.v (.int 3)) k = k (.dat d) := rfl
@[simp] theorem ixt5_4 : dIx (.tup [a, b, c, d, e]) (.v (.int 4)) k = k (.dat e) := rfl
@[simp] theorem ixl5_4 : dIx (.lst [a, b, c, d, e]) (.v (.int 4)) k = k (.dat e) := rfl
end
/-- a block, one statement after the other -/
theorem seqR {a b : DS} {E : DEnds} {δ : StD} {N : Nat} (h : ∀ R : StD → Nat → Prop, (∀ δ N, b E δ N → R δ N) → a { E with nx := R } δ N) : dSeq a b E δ N := h (b E) fun _ _ x => x
theorem d_for {di : DI} {dg : DG} {db : DS} {E : DEnds} {δ : StD} {N : Nat} (h : di δ N fun ds N1 => ∃ Inv : Nat → StD → Nat → Prop, Inv 0 δ N1 ∧
  (∀ i d δ2 N2, ds[i]? = some d → Inv i δ2 N2 → dg d δ2 fun δ3 => db { E with nx := Inv (i + 1), ct := Inv (i + 1), bk := E.nx } δ3 N2) ∧
  ∀ δ2 N2, Inv ds.length δ2 N2 → E.nx δ2 N2) : dFor di dg db E δ N := h
/-- a comprehension: which items are taken, what is made of them -/
theorem lc_pure {dg : DG} {dt : DT} {de : DE} {vs : List Nat} {δ : StD} {N : Nat} {C : DK} {ds : List D} (p : D → Bool) (f : D → D) (hz : ds.length ≤ 100000)
    (h : ∀ d, d ∈ ds → ∀ (K : DK) (K' : Nat → Prop), (p d = true → K (.dat (f d)) N) → (p d = false → K' N) → dg d (wipeD δ vs) fun δ2 => dt δ2 N fun b N3 => wif b (de δ2 N3 K) (K' N3))
    (hC : C (.own ((ds.filter p).map f)) N) : ∃ Inv : Nat → List D → Nat → Prop, Inv 0 [] N ∧
  (∀ i d acc N2, ds[i]? = some d → Inv i acc N2 → dg d (wipeD δ vs) fun δ2 => dt δ2 N2 fun b N3 => wif b (de δ2 N3 fun s N4 => chk s.nals (acc.length < 100000 ∧ Inv (i + 1) (acc ++ [s.rd]) N4)) (Inv (i + 1) acc N3)) ∧
  ∀ acc N2, Inv ds.length acc N2 → C (.own acc) N2 := by
  have tk : ∀ i d, ds[i]? = some d → (((ds.take (i + 1)).filter p).map f) = ((ds.take i).filter p).map f ++ (if p d = true then [f d] else []) := fun i d hd => by
    rw [List.take_add_one, hd, List.filter_append, List.map_append]
    congr 1
    show List.map f (List.filter p [d]) = _
    rw [List.filter_cons]
    cases p d <;> simp
  refine ⟨fun i acc M => M = N ∧ acc = ((ds.take i).filter p).map f ∧ i ≤ ds.length, ⟨rfl, by simp, Nat.zero_le _⟩, ?_, ?_⟩
  · rintro i d acc N2 hd ⟨rfl, rfl, hi⟩
    have hlt := (List.getElem?_eq_some_iff.mp hd).1
    refine h d (List.mem_of_getElem? hd) _ _ (fun hp => ⟨?_, rfl, ?_, hlt⟩) (fun hp => ⟨rfl, ?_, hlt⟩)
    · rw [List.length_map]
      have h1 := List.length_filter_le p (ds.take i)
      rw [List.length_take] at h1
      omega
    · rw [tk i d hd, if_pos hp]
      rfl
    · rw [tk i d hd, if_neg (by rw [hp]; decide), List.append_nil]
  · rintro acc N2 ⟨rfl, rfl, _⟩
    rw [List.take_length]
    exact hC
/-! ### built-ins at written kinds -/
section
variable {i j : Int} {b : Bool} {x : Str} {ds es : List D} {k : Sl → Prop} {ns ms : List Int} {d : D}
@[simp] theorem len_tup : dLen [.tup ds] k = k (.dat (.int ds.length)) := rfl
@[simp] theorem len_lst : dLen [.lst ds] k = k (.dat (.int ds.length)) := rfl
@[simp] theorem len_scr : dLen [.scr ns] k = k (.dat (.int ns.length)) := rfl
theorem beq_dec {i j : Int} : (i == j) = decide (i = j) := rfl
@[simp] theorem eq_int : dEq false (.v (.int i)) (.v (.int j)) k = k (.dat (.bl (decide (i = j)))) := rfl
@[simp] theorem ne_int : dEq true (.v (.int i)) (.v (.int j)) k = k (.dat (.bl (!decide (i = j)))) := rfl
theorem oks_ints {n : Nat} : D.oks n (ns.map D.int) = true := by
  induction ns with
  | nil => rfl
  | cons m ns ih => simp only [List.map_cons, D.oks, ih, Bool.and_true]; cases n <;> rfl
theorem ok_tup {n : Nat} : (D.tup (ns.map D.int)).ok (n + 1) = true := by simp only [D.ok, oks_ints]
theorem ok_lst {n : Nat} : (D.lst (ns.map D.int)).ok (n + 1) = true := by simp only [D.ok, oks_ints]
theorem eqbs_ints : D.eqbs (ns.map D.int) (ms.map D.int) = decide (ns = ms) := by
  induction ns generalizing ms with
  | nil => cases ms with
    | nil => simp [D.eqbs]
    | cons m ms => simp [D.eqbs]
  | cons n ns ih => cases ms with
    | nil => simp [D.eqbs]
    | cons m ms =>
      simp only [List.map_cons, D.eqbs, ih, D.eqb, eqV, beq_dec, List.cons.injEq]
      rw [Bool.eq_iff_iff]
      simp
theorem eq_lists {neg : Bool} : dEq neg (.lst (ns.map D.int)) (.lst (ms.map D.int)) k = k (.dat (.bl (ng neg (decide (ns = ms))))) := by
  simp only [dEq, ok_lst, D.eqb, eqbs_ints, Bool.and_self, chk]
theorem eq_tups {neg : Bool} : dEq neg (.tup (ns.map D.int)) (.tup (ms.map D.int)) k = k (.dat (.bl (ng neg (decide (ns = ms))))) := by
  simp only [dEq, ok_tup, D.eqb, eqbs_ints, Bool.and_self, chk]
theorem eq_nil {neg : Bool} : dEq neg (.lst (ns.map D.int)) (.lst []) k = k (.dat (.bl (ng neg (decide (ns = []))))) := eq_lists (ms := [])
end
theorem for_w {di : DI} {dg : DG} {db : DS} {E : DEnds} {δ : StD} {N : Nat} (h : ∀ R : List D → Nat → Prop, (∀ ds N1, (∃ Inv : Nat → StD → Nat → Prop, Inv 0 δ N1 ∧
  (∀ i d δ2 N2, ds[i]? = some d → Inv i δ2 N2 → dg d δ2 fun δ3 => db { E with nx := Inv (i + 1), ct := Inv (i + 1), bk := E.nx } δ3 N2) ∧
  ∀ δ2 N2, Inv ds.length δ2 N2 → E.nx δ2 N2) → R ds N1) → di δ N R) : dFor di dg db E δ N := h _ fun _ _ x => x
theorem lc_w {di : DI} {dg : DG} {dt : DT} {de : DE} {vs : List Nat} {δ : StD} {N : Nat} {C : DK} (h : ∀ R : List D → Nat → Prop, (∀ ds N1, (∃ Inv : Nat → List D → Nat → Prop, Inv 0 [] N1 ∧
  (∀ i d acc N2, ds[i]? = some d → Inv i acc N2 → dg d (wipeD δ vs) fun δ2 => dt δ2 N2 fun b N3 => wif b (de δ2 N3 fun s N4 => chk s.nals (acc.length < 100000 ∧ Inv (i + 1) (acc ++ [s.rd]) N4)) (Inv (i + 1) acc N3)) ∧
  ∀ acc N2, Inv ds.length acc N2 → C (.own acc) N2) → R ds N1) → di δ N R) : dLc di dg dt de vs δ N C := h _ fun _ _ x => x
theorem while_w {p : DT} {db : DS} {E : DEnds} {δ : StD} {N : Nat} (Inv : Nat → StD → Nat → Prop) (m : Nat) (h0 : Inv m δ N)
  (h : ∀ m δ2 N2, Inv m δ2 N2 → p δ2 N2 fun b N3 => wif b (db { E with nx := fun δ3 N4 => ∃ m', m' < m ∧ Inv m' δ3 N4, ct := fun δ3 N4 => ∃ m', m' < m ∧ Inv m' δ3 N4, bk := E.nx } δ2 N3) (E.nx δ2 N3)) : dWhile p db E δ N := ⟨Inv, ⟨m, h0⟩, h⟩
/-- a comprehension over known items: which are taken, what is made of them -/
theorem lc_p {di : DI} {dg : DG} {dt : DT} {de : DE} {vs : List Nat} {δ : StD} {N : Nat} {C : DK} (ds : List D) (p : D → Bool) (f : D → D) (hdi : ∀ R : List D → Nat → Prop, R ds N → di δ N R) (hz : ds.length ≤ 100000)
    (h : ∀ d, d ∈ ds → ∀ (K : DK) (K' : Nat → Prop), (p d = true → K (.dat (f d)) N) → (p d = false → K' N) → dg d (wipeD δ vs) fun δ2 => dt δ2 N fun b N3 => wif b (de δ2 N3 K) (K' N3))
    (hC : C (.own ((ds.filter p).map f)) N) : dLc di dg dt de vs δ N C := hdi _ (lc_pure p f hz h hC)
/-- a for over known items -/
theorem for_i {di : DI} {dg : DG} {db : DS} {E : DEnds} {δ : StD} {N : Nat} (ds : List D) (Inv : Nat → StD → Nat → Prop) (hdi : ∀ R : List D → Nat → Prop, R ds N → di δ N R) (h0 : Inv 0 δ N)
  (hs : ∀ i d δ2 N2, ds[i]? = some d → Inv i δ2 N2 → ∀ R : StD → Nat → Prop, (∀ δ N, Inv (i + 1) δ N → R δ N) → dg d δ2 fun δ3 => db { E with nx := R, ct := R, bk := E.nx } δ3 N2)
  (hd : ∀ δ2 N2, Inv ds.length δ2 N2 → E.nx δ2 N2) : dFor di dg db E δ N := hdi _ ⟨Inv, h0, fun i d δ2 N2 h1 h2 => hs i d δ2 N2 h1 h2 _ fun _ _ h => h, hd⟩
theorem inv_i {dg : DG} {db : DS} {E : DEnds} {δ : StD} {N : Nat} {ds : List D} (Inv : Nat → StD → Nat → Prop) (h0 : Inv 0 δ N)
  (hs : ∀ i d δ2 N2, ds[i]? = some d → Inv i δ2 N2 → ∀ R : StD → Nat → Prop, (∀ δ N, Inv (i + 1) δ N → R δ N) → dg d δ2 fun δ3 => db { E with nx := R, ct := R, bk := E.nx } δ3 N2)
  (hd : ∀ δ2 N2, Inv ds.length δ2 N2 → E.nx δ2 N2) : ∃ Inv : Nat → StD → Nat → Prop, Inv 0 δ N ∧
  (∀ i d δ2 N2, ds[i]? = some d → Inv i δ2 N2 → dg d δ2 fun δ3 => db { E with nx := Inv (i + 1), ct := Inv (i + 1), bk := E.nx } δ3 N2) ∧
  ∀ δ2 N2, Inv ds.length δ2 N2 → E.nx δ2 N2 := ⟨Inv, h0, fun i d δ2 N2 h1 h2 => hs i d δ2 N2 h1 h2 _ fun _ _ h => h, hd⟩
end DL

/-! DLj: list(range(..)), x[::-1]. -/
namespace DL
open PySem PySem.Spec PyProof.Rows L2
variable [TabNames]

/-! ### a range of three parts -/
theorem small_up {a b c : Int} (hc : 0 < c) (hc' : c < 1073741824) (ha : -(2 ^ 61) ≤ a) (ha' : a < 2 ^ 61) (hb : -(2 ^ 61) ≤ b) (hb' : b < 2 ^ 61) : Builtin.Range.small a b c = true := by
  unfold Builtin.Range.small Builtin.Range.rangeSize
  rw [if_pos hc]
  have hd : a < b → 0 ≤ (b - a - 1) / c ∧ (b - a - 1) / c ≤ b - a - 1 := fun h => ⟨Int.ediv_nonneg (by omega) (by omega), Int.ediv_le_self _ (by omega)⟩
  simp only [Builtin.Range.rangeFitsLong, Bool.and_eq_true, Bool.or_eq_true, decide_eq_true_eq, beq_iff_eq, show c > 0 from hc, if_true]
  split
  · have := hd (by assumption)
    omega
  · omega
/-- how many -/
def upN (a b c : Int) : Nat := (if a < b then (b - a - 1) / c + 1 else 0).toNat
theorem size_up {a b c : Int} (hc : 0 < c) : Builtin.Range.rangeSize a b c = (upN a b c : Nat) := by
  rw [PyProof.Rows.rangeSize_toNat]
  unfold upN Builtin.Range.rangeSize
  rw [if_pos hc]
theorem upN_le {a b c : Int} (hc : 0 < c) : upN a b c ≤ (b - a).toNat := by
  unfold upN
  split
  · have := Int.ediv_le_self c (show (0 : Int) ≤ b - a - 1 by omega)
    omega
  · omega
def stV (a c : Int) (n : Nat) : List V := (List.range n).map fun i : Nat => V.int (a + (i : Int) * c)
def stepD (a c : Int) (n : Nat) : List D := (List.range n).map fun i : Nat => D.int (a + (i : Int) * c)
theorem stV_length {a c : Int} {n : Nat} : (stV a c n).length = n := by unfold stV; rw [List.length_map, List.length_range]
theorem stepD_len {a c : Int} {n : Nat} : (stepD a c n).length = n := by unfold stepD; rw [List.length_map, List.length_range]
theorem vals_st {a c : Int} {n : Nat} {acc : Array Value} (h : ItemsOf (fun i v => ∃ t, v = .int (a + i * c) t) acc n) : Vals (stV a c n) acc.toList := by
  have e : acc.toList.length = n := by rw [Array.length_toList]; exact h.1
  unfold stV
  rw [← e]
  refine vals_of_get acc.toList _ fun j u hj => ?_
  obtain ⟨t, rfl⟩ := h.2 j u (by rw [← hj, Array.getElem?_toList])
  exact ⟨t, rfl⟩
section
variable {X : Cx} {G : Gg} {a b c e : Expr} {ta : TA} {da : DA} {te : TE} {de : DE} {p p2 pos pos2 : Pos}
def tLR3 (ta : TA) : TE := fun σ H Q => ta σ H fun vs H1 => ∃ i j c : Int, vs = [.int i, .int j, .int c] ∧ (0 < c ∧ c < 1073741824 ∧ -(2 ^ 61) ≤ i ∧ i < 2 ^ 61 ∧ -(2 ^ 61) ≤ j ∧ j < 2 ^ 61 ∧ (j - i).toNat ≤ 2 ^ 24) ∧
  ∀ q, H1 q = none → Q (.ref q) (upd H1 q (.lst (stV i c (upN i j c))))
theorem pe_LR3 (hc : X.calm = true) (hg : Gl X "list") (hm : X.mg "list" = none) (hg2 : Gl X "range") (hm2 : X.mg "range" = none) (ha : PA X [a, b, c] ta)
    (hs : starEach [a, b, c] X.env = (false, eval a X.env) :: starEach [b, c] X.env := by rfl) (hpl : (backTo pos2 (starEach [b, c] X.env)).any (·.1) = false := by rfl)
    (na : starEach [.Call (.Name "range" p2) [a, b, c] [] pos2] X.env = (false, eval (.Call (.Name "range" p2) [a, b, c] [] pos2) X.env) :: starEach [] X.env := by rfl) :
    PE X (.Call (.Name "list" p) [.Call (.Name "range" p2) [a, b, c] [] pos2] [] pos) (tLR3 ta) := by
  refine ⟨fun pins s σ H Q I h => ?_⟩
  refine Call_ (ld_blt I hg hm boot_list (PyProof.Rows.callWith_type1 (args_cons (Call_ (ld_blt I hg2 hm2 boot_range (PyProof.Rows.callWith_type1 (thn (ha.run pos2 pins s σ H _ I h) fun us s1 ⟨vs, H1, I1, r1, q1⟩ => ?_) hs hpl))) na) na))
  obtain ⟨i, j, k, e, ⟨c0, c1, b1, b2, b3, b4, b5⟩, q⟩ := q1
  subst e
  cases r1 with
  | cons r rr =>
    cases rr with
    | cons r' rr =>
      cases rr with
      | cons r'' rr =>
        cases rr
        obtain ⟨t, rfl⟩ := r
        obtain ⟨t', rfl⟩ := r'
        obtain ⟨t'', rfl⟩ := r''
        refine call_range_3 (by omega) ?_ (.inl (PyProof.noPylong_small (by omega)))
        have I2 : Inv X pins σ H1 { s1 with heap := s1.heap.push { cls := .type "range", data := .fields #[.int i t, .int j t', .int k t''] } } := I1.kept (t' := s1.toks) fun b o e => Heap.get?_push_of_some _ e
        refine args_nil ?_
        refine call_list_range (n := upN i j k) (I2.ok.hd hc) (IsRange.new ..) (small_up c0 c1 b1 b2 b3 b4) (size_up c0) (Nat.le_trans (upN_le c0) b5) fun h' tk acc c' hk e' hi => ?_
        refine ⟨.ref _, upd H1 _ (.lst (stV i k (upN i j k))), I2.laid hk (Nat.le_refl _) (show ObjOk X.prog X.w _ _ _ (.lst (stV i k (upN i j k))) from ⟨?_, acc.toList, c', vals_st hi, ?_⟩), rfl, q _ (I2.hok.fresh (Nat.le_refl _))⟩
        · have := upN_le (a := i) (b := j) c0
          rw [stV_length, sizeLine_eq]; omega
        · rw [Array.toArray_toList]; exact e'
/-- list(range(i)), list(range(i, j)), list(range(i, j, c)) -/
@[simp] def dLR1 (da : DE) : DE := fun δ N C => da δ N fun s N1 => match s with
  | .dat (.v (.int j)) => (-(2 ^ 24) ≤ j ∧ j ≤ 2 ^ 24) ∧ C (.own (rngD 0 j.toNat)) N1
  | _ => False
@[simp] def dLR2 (da : DA) : DE := fun δ N C => da δ N fun ss N1 => match ss with
  | [.dat (.v (.int i)), .dat (.v (.int j))] => (-(2 ^ 24) ≤ i ∧ i ≤ 2 ^ 24 ∧ -(2 ^ 24) ≤ j ∧ j ≤ 2 ^ 24 ∧ (j - i).toNat ≤ 2 ^ 24) ∧ C (.own (rngD i (j - i).toNat)) N1
  | _ => False
@[simp] def dLR3 (da : DA) : DE := fun δ N C => da δ N fun ss N1 => match ss with
  | [.dat (.v (.int i)), .dat (.v (.int j)), .dat (.v (.int c))] => (0 < c ∧ c < 1073741824 ∧ -(2 ^ 61) ≤ i ∧ i < 2 ^ 61 ∧ -(2 ^ 61) ≤ j ∧ j < 2 ^ 61 ∧ (j - i).toNat ≤ 2 ^ 24) ∧ C (.own (stepD i c (upN i j c))) N1
  | _ => False
theorem dt_ints {K : PySem.W.Frag} {N : Nat} {H : Hp} {Z : Addr → Prop} (f : Nat → Int) (l : List Nat) : DtAll K N H Z (l.map fun i => V.int (f i)) (l.map fun i => D.int (f i)) := by
  have e1 : (l.map fun i => V.int (f i)) = (l.map f).map V.int := by rw [List.map_map]; rfl
  have e2 : (l.map fun i => D.int (f i)) = (l.map f).map D.int := by rw [List.map_map]; rfl
  rw [e1, e2]
  exact .ofInts _
theorem snd_LR1 (h : Snd G te de) : Snd G (tLstRg (tRg1 te)) (dLR1 de) := by
  refine ⟨fun B Z δ σ H N C Q hB S hd q => ?_⟩
  refine h.run B Z δ σ H N _ _ hB S hd fun s x H1 k1 e1 r1 h1 => ?_
  split at h1
  · rename_i j
    have hx : Dt B.K (N + k1) H1 Z x (.v (.int j)) := r1
    cases hx
    refine ⟨j, rfl, ⟨by omega, by omega, by omega, by omega, by omega⟩, fun p hp => ?_⟩
    have ep := ExK.new (o := .lst (rgV 0 j)) hp
    refine q (.own (rngD 0 j.toNat)) _ _ k1 (e1.trans ep) ⟨p, _, rfl, e1.back hp, upd_same, ?_⟩ h1.2
    have e : rgV 0 j = (List.range j.toNat).map fun i : Nat => V.int (0 + (i : Int)) := by
      unfold rgV
      rw [show (j - 0) = j by omega]
    rw [e]
    exact dt_ints (fun i => 0 + (i : Int)) _
  · exact h1.elim
theorem snd_LR2 {b : Expr} {tb : TE} {db : DE} (h : Snd G te de) (h2 : Snd G tb db) : Snd G (tLstRg (tRg2 te tb)) (dLR2 (dCons de (dCons db dNil))) := by
  refine ⟨fun B Z δ σ H N C Q hB S hd q => ?_⟩
  refine h.run B Z δ σ H N _ _ hB S hd fun s x H1 k1 e1 r1 h1 => ?_
  refine h2.run B Z δ σ H1 (N + k1) _ _ hB (S.ext e1) h1 fun u y H2 k2 e2 r2 h3 => ?_
  dsimp only [dNil] at h3
  split at h3
  · rename_i i j eq
    simp only [List.cons.injEq, and_true] at eq
    obtain ⟨rfl, rfl⟩ := eq
    have hx : Dt B.K (N + k1) H1 Z x (.v (.int i)) := r1
    have hy : Dt B.K (N + k1 + k2) H2 Z y (.v (.int j)) := r2
    cases hx
    cases hy
    refine ⟨i, j, rfl, rfl, ⟨by omega, by omega, by omega, by omega, h3.1.2.2.2.2⟩, fun p hp => ?_⟩
    have ep := ExK.new (o := .lst (rgV i j)) hp
    have e8 : N + k1 + k2 = N + (k1 + k2) := by omega
    have h9 := h3.2
    rw [e8] at h9
    exact q (.own (rngD i (j - i).toNat)) _ _ (k1 + k2) ((e1.trans e2).trans ep) ⟨p, _, rfl, e1.back (e2.back hp), upd_same, dt_ints (fun k => i + (k : Int)) _⟩ h9
  · exact h3.elim
theorem snd_LR3 (h : SndA G ta da) : Snd G (tLR3 ta) (dLR3 da) := by
  refine ⟨fun B Z δ σ H N C Q hB S hd q => ?_⟩
  refine h.run B Z δ σ H N _ _ hB S hd fun ss vs H1 k1 e1 r1 h1 => ?_
  split at h1
  · rename_i i j c
    cases r1 with
    | cons r rr =>
      cases rr with
      | cons r' rr =>
        cases rr with
        | cons r'' rr =>
          cases rr
          have hx : Dt B.K (N + k1) H1 Z _ (.v (.int i)) := r
          have hy : Dt B.K (N + k1) H1 Z _ (.v (.int j)) := r'
          have hz : Dt B.K (N + k1) H1 Z _ (.v (.int c)) := r''
          cases hx
          cases hy
          cases hz
          refine ⟨i, j, c, rfl, h1.1, fun p hp => ?_⟩
          have ep := ExK.new (o := .lst (stV i c (upN i j c))) hp
          exact q (.own (stepD i c (upN i j c))) _ _ k1 (e1.trans ep) ⟨p, _, rfl, e1.back hp, upd_same, dt_ints (fun k => i + (k : Int) * c) _⟩ h1.2
  · exact h1.elim
theorem x_LR1 (hc : X.calm = true) (hg : Gl X "list") (hm : X.mg "list" = none) (hg2 : Gl X "range") (hm2 : X.mg "range" = none) (ha : XE X G a te de)
    (na2 : starEach [a] X.env = (false, eval a X.env) :: starEach [] X.env := by rfl)
    (na : starEach [.Call (.Name "range" p2) [a] [] pos2] X.env = (false, eval (.Call (.Name "range" p2) [a] [] pos2) X.env) :: starEach [] X.env := by rfl) :
    XE X G (.Call (.Name "list" p) [.Call (.Name "range" p2) [a] [] pos2] [] pos) (tLstRg (tRg1 te)) (dLR1 de) := ⟨pe_listRg hc hg hm (prg_1 hg2 hm2 ha.pe na2) na, snd_LR1 ha.sn⟩
theorem x_LR2 {tb : TE} {db : DE} (hc : X.calm = true) (hg : Gl X "list") (hm : X.mg "list" = none) (hg2 : Gl X "range") (hm2 : X.mg "range" = none) (ha : XE X G a te de) (hb : XE X G b tb db)
    (na2 : starEach [a, b] X.env = (false, eval a X.env) :: starEach [b] X.env := by rfl) (nb : starEach [b] X.env = (false, eval b X.env) :: starEach [] X.env := by rfl) (hp : (backTo pos2 (starEach [b] X.env)).any (·.1) = false := by rfl)
    (na : starEach [.Call (.Name "range" p2) [a, b] [] pos2] X.env = (false, eval (.Call (.Name "range" p2) [a, b] [] pos2) X.env) :: starEach [] X.env := by rfl) :
    XE X G (.Call (.Name "list" p) [.Call (.Name "range" p2) [a, b] [] pos2] [] pos) (tLstRg (tRg2 te tb)) (dLR2 (dCons de (dCons db dNil))) := ⟨pe_listRg hc hg hm (prg_2 hg2 hm2 ha.pe hb.pe na2 nb hp) na, snd_LR2 (b := b) ha.sn hb.sn⟩
theorem x_LR3 (hc : X.calm = true) (hg : Gl X "list") (hm : X.mg "list" = none) (hg2 : Gl X "range") (hm2 : X.mg "range" = none) (ha : XA X G [a, b, c] ta da)
    (hs : starEach [a, b, c] X.env = (false, eval a X.env) :: starEach [b, c] X.env := by rfl) (hpl : (backTo pos2 (starEach [b, c] X.env)).any (·.1) = false := by rfl)
    (na : starEach [.Call (.Name "range" p2) [a, b, c] [] pos2] X.env = (false, eval (.Call (.Name "range" p2) [a, b, c] [] pos2) X.env) :: starEach [] X.env := by rfl) :
    XE X G (.Call (.Name "list" p) [.Call (.Name "range" p2) [a, b, c] [] pos2] [] pos) (tLR3 ta) (dLR3 da) := ⟨pe_LR3 hc hg hm hg2 hm2 ha.pe hs hpl na, snd_LR3 ha.sn⟩
end
/-! ### x[::-1] of a list -/
section
variable {X : Cx} {G : Gg} {e : Expr} {te : TE} {de : DE} {k : Nat} {p1 p2 p3 pos : Pos}
@[simp] def dRevL (de : DE) : DE := fun δ N C => de δ N fun s N1 => match s.rd with
  | .lst ds => C (.own ds.reverse) N1
  | _ => False
theorem DtAll.get2 {K : PySem.W.Frag} {N : Nat} {H : Hp} {Z : Addr → Prop} : ∀ {xs ys : List V} {ds es : List D}, DtAll K N H Z xs ds → DtAll K N H Z ys es → DtAll K N H Z (xs ++ ys) (ds ++ es)
  | _, _, _, _, .nil, h => h
  | _, _, _, _, .cons a r, h => .cons a (DtAll.get2 r h)
theorem DtAll.rev {K : PySem.W.Frag} {N : Nat} {H : Hp} {Z : Addr → Prop} : ∀ {xs : List V} {ds : List D}, DtAll K N H Z xs ds → DtAll K N H Z xs.reverse ds.reverse
  | _, _, .nil => .nil
  | _, _, .cons a r => by
    rw [List.reverse_cons, List.reverse_cons]
    exact DtAll.get2 (DtAll.rev r) (.cons a .nil)
theorem x_revL (h : XE X G e te de) (hK : G.K = X.K := by rfl) : XE X G (.Subscript e (.Slice none none (some (.UnaryOp .USub (.Constant (.int 1) k p1) p2)) p3) pos) (tRevL G.K te) (dRevL de) := by
  refine ⟨by rw [hK]; exact pe_revL h.pe, ⟨fun B Z δ σ H N C Q hB S hd q => ?_⟩⟩
  refine h.sn.run B Z δ σ H N _ _ hB S hd fun s x H1 k1 e1 r1 h1 => ?_
  have w := (r1.tp S.ztt).dw
  split at h1
  · rename_i ds eq
    rw [eq] at w
    obtain ⟨a, xs, rfl, ha, r⟩ := w
    refine ⟨a, xs, rfl, .of ha, fun p hp => ?_⟩
    have ep := ExK.new (o := .lst xs.reverse) hp
    exact q (.own ds.reverse) _ _ _ (e1.trans ep) ⟨p, _, rfl, e1.back hp, upd_same, (DtAll.rev r).new hp⟩ h1
  · exact h1.elim
end
/-! ### a, b = [], 0 : a list of the def's own -/
@[simp] def dParK (i j : Nat) (da db : DE) : DS := fun E δ N => da δ N fun s N1 => match s with
  | .own ds => db δ N1 fun u N2 => match u with
    | .dat (.v x) => E.nx (stn (stn δ i (.own ds)) j (.dat (.v x))) N2
    | _ => False
  | _ => False
section
variable {X : Cx} {G : Gg} {a b : Expr} {te tb : TE} {de db : DE}
theorem snd_parK {i j : Nat} (h : Snd G te de) (h2 : Snd G tb db) : SndS G (tPar i j (tCons te (tCons tb tNil))) (dParK i j de db) := by
  refine ⟨fun B Z τ E D δ σ H N hB ok S T hd => ?_⟩
  refine h.run B Z δ σ H N _ _ hB S hd fun s v H1 k1 e1 r1 h1 => ?_
  split at h1
  · rename_i ds
    refine h2.run B Z δ σ H1 (N + k1) _ _ hB (S.ext e1) h1 fun u w H2 k2 e2 r2 h3 => ?_
    split at h3
    · rename_i x
      refine ⟨v, w, rfl, ?_⟩
      obtain ⟨p, xs, rfl, h0, hp, r⟩ := r1
      have e8 : N + k1 + k2 = N + (k1 + k2) := by omega
      have r' := r.ex e2
      rw [e8] at r' h3 r2
      have S2 := S.own (e1.trans e2) (i := i) h0 (e2.lst hp) r'
      have hw : Dt B.K (N + (k1 + k2)) H2 (Zp Z p) w (.v x) := Dt.lfz r2 rfl
      exact ok.nx _ _ _ H2 _ (S2.set hw) (T.gro (.new (e1.trans e2) h0)) h3
    · exact h3.elim
  · exact h1.elim
theorem xs_parK {i j : Nat} {x y : Str} {px py pt pos : Pos} {kt k2 pt2} (hc : X.calm = true) (hN : X.N.Nodup) (hi : X.N[i]? = some x) (hj : X.N[j]? = some y) (hij : i ≠ j)
    (hx : X.env.scope.names.lookup x = some .local) (hy : X.env.scope.names.lookup y = some .local) (ha : XE X G a te de) (hb : XE X G b tb db)
    (hw : swappedStores [.Tuple [.Name x px, .Name y py] kt pt] (.Tuple [a, b] k2 pt2) X.env = pure (some [x, y]) := by rfl)
    (hs : swapsWithSole [.Tuple [.Name x px, .Name y py] kt pt] (.Tuple [a, b] k2 pt2) pos.line X.env = pure false := by rfl)
    (s1 : starEach [a, b] X.env = (false, eval a X.env) :: starEach [b] X.env := by rfl) (s2 : starEach [b] X.env = (false, eval b X.env) :: starEach [] X.env := by rfl) :
    XS X G (.Assign [.Tuple [.Name x px, .Name y py] kt pt] (.Tuple [a, b] k2 pt2) pos) (tPar i j (tCons te (tCons tb tNil))) (dParK i j de db) := ⟨ps_par hc hN hi hj hij hx hy (pa_cons ha.pe (pa_cons hb.pe pa_nil s2) s1) hw hs, snd_parK ha.sn hb.sn⟩
end
/-! ### sorted of a tuple of ints -/
section
open SrtO Srt
variable {prog : Program} {w : World} {A : Around} {E : Value → Shared → Prop} {s : Shared}
theorem call_sortedT {t : Addr} {vs : List Value} {ns : List Int} {Q : Value → Shared → Prop} (ht : IsTup s.heap t vs.toArray) (hi : IntsAre vs ns) (hz : vs.length ≤ sizeLine)
    (h : ∀ (hm h' : Heap) (a : Addr) (n : Nat) (out : List Value), (∀ b o, s.heap.get? b = some o → hm.get? b = some o) → (∀ b o, hm.get? b = some o → h'.get? b = some o) → hm.objs.size ≤ a → h'.get? a = some (seqObj "list" out.toArray n) → Srtd ltIv out → Stb ltIv out vs → Q (.ref a) { s with heap := h' }) :
    wpAny (model prog w) A (call (.builtin "sorted") [.ref t]) Q E s := by
  obtain ⟨o, ho, hc, n, hd⟩ := ht
  apply Calls.call_function_entry kind_sorted plain_sorted entry_sorted (args_sorted1 _)
  unfold Builtin.«sorted»
  apply wpAny_bind (m := checkCount "sorted" 1 1 _)
  apply wpAny_pure
  apply wpAny_bind
  refine wpAny_collect_seq (T := "tuple") t (.inr rfl) ho hc hd (fun h' hk => ?_) (by rw [List.size_toArray]; exact hz)
  apply wpAny_bind
  refine wpAny_newList (items := vs) ?_ hz
  have hL : (h'.push (seqObj "list" vs.toArray 0)).get? h'.objs.size = some (seqObj "list" vs.toArray 0) := Heap.get?_push_size h' rfl
  show wpAny _ _ _ _ _ { s with heap := h'.push (seqObj "list" vs.toArray 0) }
  apply wpAny_bind
  refine wpAny_holding (wpAny_call_entry slot_list_sort ⟨_, hL, rfl⟩ entry_list_sort ?_ (args_list_sort _))
  refine list_sort_ord swo_int hL hz (fun h2 => ints_sortable hi h2) fun out h1 h2 => ⟨_, rfl, ?_⟩
  refine wpAny_pure ⟨_, rfl, ?_⟩
  obtain ⟨e, he⟩ := sortedHeap_at (vs := vs) (out := out.toArray) hL
  refine h h' _ _ e out hk (fun b o' hb => ?_) (Nat.le_refl _) he h1 h2
  have hlt := Heap.lt_size hb
  show (sortedHeap _ _ _ _).get? b = _
  rw [sortedHeap_old (Nat.ne_of_lt hlt) (by rw [size_push']; exact Nat.lt_succ_of_lt hlt)]
  exact Heap.get?_push_of_some _ hb
end
section
variable {X : Cx}
def rSortT (K : PySem.W.Frag) : List V → Hp → VK → Prop := fun vs H Q => ∃ (a : Addr) (ns : List Int), vs = [V.ref a] ∧ SqT K H a (ns.map V.int) ∧
  ∀ (ms : List Int) (p : Addr), ms.Perm ns → ms.Pairwise (· ≤ ·) → H p = none → Q (.ref p) (upd H p (.lst (ms.map V.int)))
theorem cr_sortT : CallR X (.builtin "sorted") (rSortT X.K) := by
  intro pins s σ H vs us Q I r h
  obtain ⟨a, ns, rfl, hs, q⟩ := h
  obtain ⟨its, rv, ht, hz⟩ := I.tuple hs
  rw [Vals.ref1 r]
  have hi := rv.ints
  refine call_sortedT ht hi (by rw [← rv.length]; exact hz) fun hm h' p n out hk0 hk hp hl h1 h2 => ?_
  obtain ⟨k1, k2, k3⟩ := SrtO.ints_out hi h1 h2
  have hlen : ((out.map SrtO.iv).map V.int).length ≤ sizeLine := by
    rw [List.length_map, k2.length_eq]
    rw [List.length_map] at hz
    exact hz
  have I2 : Inv X pins σ H { s with heap := hm } := I.kept (t' := s.toks) hk0
  exact ⟨.ref p, upd H p (.lst ((out.map SrtO.iv).map V.int)), I2.laid (t' := s.toks) hk hp ⟨hlen, out, n, vals_of_ints k1, hl⟩, rfl, q _ _ k2 k3 (I2.hok.fresh hp)⟩
/-- ints in rising order -/
def insI (x : Int) : List Int → List Int
  | [] => [x]
  | y :: r => if x ≤ y then x :: y :: r else y :: insI x r
def srt : List Int → List Int
  | [] => []
  | x :: r => insI x (srt r)
theorem insI_perm (x : Int) : ∀ l, (insI x l).Perm (x :: l)
  | [] => .refl _
  | y :: r => by
    unfold insI
    split
    · exact .refl _
    · exact ((insI_perm x r).cons y).trans (.swap x y r)
theorem srt_perm : ∀ l, (srt l).Perm l
  | [] => .refl _
  | x :: r => (insI_perm x (srt r)).trans ((srt_perm r).cons x)
theorem insI_asc (x : Int) : ∀ {l : List Int}, l.Pairwise (· ≤ ·) → (insI x l).Pairwise (· ≤ ·)
  | [], _ => List.pairwise_singleton _ _
  | y :: r, h => by
    unfold insI
    have h' := List.pairwise_cons.mp h
    split
    · rename_i hxy
      refine List.pairwise_cons.mpr ⟨fun z hz => ?_, h⟩
      rcases List.mem_cons.mp hz with rfl | hz
      · exact hxy
      · exact Int.le_trans hxy (h'.1 z hz)
    · rename_i hxy
      refine List.pairwise_cons.mpr ⟨fun z hz => ?_, insI_asc x h'.2⟩
      rcases List.mem_cons.mp ((insI_perm x r).mem_iff.mp hz) with rfl | hz
      · omega
      · exact h'.1 z hz
theorem srt_asc : ∀ l, (srt l).Pairwise (· ≤ ·)
  | [] => .nil
  | x :: r => insI_asc x (srt_asc r)
theorem asc_uniq : ∀ {l m : List Int}, l.Pairwise (· ≤ ·) → m.Pairwise (· ≤ ·) → l.Perm m → l = m
  | [], m, _, _, p => (List.nil_perm.mp p).symm
  | x :: l, [], _, _, p => absurd p.length_eq (by simp)
  | x :: l, y :: m, h1, h2, p => by
    have a1 := List.pairwise_cons.mp h1
    have a2 := List.pairwise_cons.mp h2
    have e : x = y := by
      have m1 : x ∈ y :: m := p.mem_iff.mp List.mem_cons_self
      have m2 : y ∈ x :: l := p.mem_iff.mpr List.mem_cons_self
      rcases List.mem_cons.mp m1 with e | m1
      · exact e
      · rcases List.mem_cons.mp m2 with e | m2
        · exact e.symm
        · have := a1.1 y m2
          have := a2.1 x m1
          omega
    subst e
    rw [asc_uniq a1.2 a2.2 (List.perm_cons x |>.mp p)]
theorem srt_uniq {l m : List Int} (p : m.Perm l) (h : m.Pairwise (· ≤ ·)) : m = srt l := asc_uniq h (srt_asc l) (p.trans (srt_perm l).symm)
/-- sorted of a list or tuple of ints -/
def dSort : DC := fun ds k => match ds with
  | [d] => ∃ ns : List Int, d.items = some (ns.map D.int) ∧ k (.own ((srt ns).map D.int))
  | _ => False
def rSort (K : PySem.W.Frag) : List V → Hp → VK → Prop := fun vs H Q => rSortedI K vs H Q ∨ rSortT K vs H Q
theorem c_sort {K : PySem.W.Frag} (hK : X.K = K := by rfl) : XC X (.builtin "sorted") (rSort K) dSort := by
  subst hK
  refine ⟨fun pins s σ H vs us Q I r h => h.elim (cr_sortedI pins s σ H vs us Q I r) (cr_sortT pins s σ H vs us Q I r), ⟨fun B Z N H xs ds C Q hK hz hr hd q => ?_⟩⟩
  unfold dSort at hd
  split at hd
  · rename_i d
    obtain ⟨x, rfl, h⟩ := pair1 hr
    obtain ⟨ns, hi, hk⟩ := hd
    have fin : ∀ (ms : List Int) (p : Addr), ms.Perm ns → ms.Pairwise (· ≤ ·) → H p = none → Q (.ref p) (upd H p (.lst (ms.map V.int))) := fun ms p h1 h2 hp => by
      rw [srt_uniq h1 h2]
      have ep := ExK.new (o := .lst ((srt ns).map V.int)) hp
      exact q (.own ((srt ns).map D.int)) _ _ ep ⟨p, _, rfl, hp, upd_same, .ofInts _⟩ hk
    cases d with
    | tup es =>
      cases hi
      obtain ⟨a, ys, rfl, ha, r⟩ := h.tup_inv
      have e := r.ints
      subst e
      exact .inr ⟨a, ns, rfl, .of ha, fin⟩
    | lst es =>
      cases hi
      obtain ⟨a, ys, rfl, ha, r⟩ := h
      have e := r.ints
      subst e
      exact .inl ⟨a, ns, rfl, .of ha, fin⟩
    | v x => cases hi
    | scr ns => cases hi
    | bag => cases hi
    | fix P => cases hi
  · exact hd.elim
end
/-! ### a, b, .. = [], 0, .. : the first is a list of the def's own, the others are leaves -/
@[simp] def dTupO (i n : Nat) (de : DE) (da : DA) (dg : DGs) : DS := fun E δ N => de δ N fun s N1 => match s with
  | .own ds => da δ N1 fun ss N2 => chk (nalsA ss && D.lfs (ss.map Sl.rd) && lenIs ss n) (dg (ss.map Sl.rd) (stn δ i (.own ds)) fun δ' => E.nx δ' N2)
  | _ => False
section
variable {X : Cx} {G : Gg} {te : TE} {de : DE} {ta : TA} {da : DA} {t : TGs} {dg : DGs} {js : List Nat}
theorem snd_tupO {K : PySem.W.Frag} {i n : Nat} (hK : G.K = K) (h : Snd G te de) (ha : SndA G ta da) (hg : SndGs K t dg js) (hn : n ≤ 30) : SndS G (tAsg (tTup (tCons te ta)) (gTup K (n + 1) (gCons (gName i) t))) (dTupO i n de da dg) := by
  refine ⟨fun B Z τ E D δ σ H N hB ok S T hd => ?_⟩
  refine h.run B Z δ σ H N _ _ hB S hd fun s v H1 k1 e1 r1 h1 => ?_
  split at h1
  · rename_i ds
    refine ha.run B Z δ σ H1 (N + k1) _ _ hB (S.ext e1) h1 fun ss vs H2 k2 e2 r2 h3 => ?_
    obtain ⟨h4, h5⟩ := chk_iff.mp h3
    obtain ⟨h4, h6⟩ := Bool.and_eq_true_iff.mp h4
    obtain ⟨h4, h7⟩ := Bool.and_eq_true_iff.mp h4
    have r := pair_all r2 h4
    have hl : vs.length = n := by rw [paired_length r2]; exact lenIs_len h6
    refine ⟨size_of (by rw [List.length_cons, hl]; omega), fun q hq => ?_⟩
    refine ⟨q, v :: vs, rfl, .of upd_same, by rw [List.length_cons, hl], v, vs, rfl, ?_⟩
    obtain ⟨p, xs, rfl, h0, hp, rr⟩ := r1
    have ep := ExK.new (o := .tup (.ref p :: vs)) hq
    have e8 : N + k1 + k2 = N + (k1 + k2) := by omega
    have r' := (rr.ex e2).ex0 ep
    rw [e8] at r' h5
    have S2 := S.own ((e1.trans e2).trans ep) (i := i) h0 (ep.lst (e2.lst hp)) r'
    have rl := (r.ex0 ep).lfz (Z' := Zp Z p) h7
    rw [e8] at rl
    refine hg.run B (Zp Z p) _ _ _ _ _ vs _ _ (by rw [← hK, ← hB]) S2 rl h5 fun δ' σ' S3 _ h9 => ?_
    exact ok.nx _ δ' σ' _ _ S3 (T.gro (.new ((e1.trans e2).trans ep) h0)) h9
  · exact h1.elim
theorem xs_tupO {i n : Nat} {x : Str} {e : Expr} {es tgs : List Expr} {px p1 p2 pos : Pos} {k1 k2} (hc : X.calm = true) (hN : X.N.Nodup) (hi : X.N[i]? = some x) (hx : Loc X.env.scope x) (h : XE X G e te de) (ha : XA X G es ta da) (hg : XGs X tgs t dg js)
    (hK : G.K = X.K := by rfl) (hn : n ≤ 30 := by decide) (hf : X.fn x = true ∨ X.env.scope.names.lookup x = some .local := by first | exact .inl rfl | exact .inr rfl)
    (s1 : starEach (e :: es) X.env = (false, eval e X.env) :: starEach es X.env := by rfl) (a1 : (assignEach (.Name x px :: tgs) X.env).map (·.2) = assign (.Name x px) X.env :: (assignEach tgs X.env).map (·.2) := by rfl)
    (a2 : (assignEach (.Name x px :: tgs) X.env).length = n + 1 := by rfl) (a3 : (assignEach (.Name x px :: tgs) X.env).findIdx? (·.1) = none := by rfl)
    (hs : swapsWithSole [.Tuple (.Name x px :: tgs) k1 p1] (.Tuple (e :: es) k2 p2) pos.line X.env = pure false := by rfl) (hw : swappedStores [.Tuple (.Name x px :: tgs) k1 p1] (.Tuple (e :: es) k2 p2) X.env = pure none := by rfl)
    (h1 : (assignEach [.Tuple (.Name x px :: tgs) k1 p1] X.env).map (·.2) = [assign (.Tuple (.Name x px :: tgs) k1 p1) X.env] := by rfl) :
    XS X G (.Assign [.Tuple (.Name x px :: tgs) k1 p1] (.Tuple (e :: es) k2 p2) pos) (tAsg (tTup (tCons te ta)) (gTup X.K (n + 1) (gCons (gName i) t))) (dTupO i n de da dg) :=
  ⟨ps_asg (pe_tup (pa_cons h.pe ha.pe s1)) (pg_tup hc (pgs_cons (pg_name hN hi hx hf) hg.pe a1) a2 a3) hs hw h1, snd_tupO hK h.sn ha.sn hg.sn hn⟩
end
end DL

/-! DLk: a list unpacked into names. -/
namespace DL
open PySem PySem.Spec PyProof.Rows L2
variable [TabNames]
@[simp] def dgLst (n : Nat) (g : DGs) : DG := fun d δ P => match d with
  | .lst ds => chk (lenIs ds n) (g ds δ P)
  | _ => False
theorem xg_lstK {X : Cx} {pos : Pos} {es : List Expr} {k : Nat} {t : TGs} {dgs : DGs} {js : List Nat} {n : Nat} {K : PySem.W.Frag} (hc : X.calm = true) (h : XGs X es t dgs js) (hK : X.K = K := by rfl)
    (hn : (assignEach es X.env).length = n := by rfl) (hst : (assignEach es X.env).findIdx? (·.1) = none := by rfl) : XG X (.Tuple es k pos) (gLst K n t) (dgLst n dgs) js := by
  subst hK
  refine ⟨pg_lst hc h.pe hn hst, ⟨fun B Z δ σ H N d x P Q hK S hx hd q => ?_⟩⟩
  unfold dgLst at hd
  split at hd
  · rename_i ds
    cases hx with
    | lst ha hz r =>
      rw [chk_iff] at hd
      exact ⟨_, _, rfl, .of ha, by rw [r.length]; exact lenIs_len hd.1, h.sn.run B Z δ σ H N ds _ P Q hK S r hd.2 q⟩
  · exact hd.elim
end DL

/-! DLm: list.index; sorted(set(..)) of ints. -/
namespace DL
open PySem PySem.Spec PyProof.Rows L2
variable [TabNames]

/-! ### the first place of an int in a list -/
@[simp] def dIdx (da de : DE) : DE := fun δ N C => da δ N fun s N1 => match s.rd with
  | .lst ds => de δ N1 fun u N2 => match u.rd with
    | .v (.int i) => ∃ (ns : List Int) (j : Nat), ds = ns.map D.int ∧ (ns[j]? = some i ∧ ∀ m, m < j → ns[m]? ≠ some i) ∧ C (.dat (.int (j : Int))) N2
    | _ => False
  | _ => False
def tIdx (K : PySem.W.Frag) (ta te : TE) : TE := tBM K "list" (rIndex K) ta (tCons te tNil)
section
variable {X : Cx} {G : Gg} {a e : Expr} {ta te : TE} {da de : DE} {apos cpos : Pos}
theorem snd_idx {K : PySem.W.Frag} (ha : Snd G ta da) (h : Snd G te de) (hK : G.K = K) : Snd G (tIdx K ta te) (dIdx da de) := by
  refine ⟨fun B Z δ σ H N C Q hB S hd q => ?_⟩
  have hBK : B.K = K := by rw [← hK, ← hB]
  subst hBK
  refine ha.run B Z δ σ H N _ _ hB S hd fun s x H1 k1 e1 r1 h1 => ?_
  have w1 := (r1.tp S.ztt).dw
  split at h1
  · rename_i ds hs
    rw [hs] at w1
    obtain ⟨p, ys, rfl, hp, r⟩ := w1
    refine ⟨.inl ⟨rfl, ys, .of hp⟩, ?_⟩
    refine h.run B Z δ σ H1 (N + k1) _ _ hB (S.ext e1) h1 fun u y H2 k2 e2 r2 h2 => ?_
    have w2 := (r2.tp (S.ext e1).ztt).dw
    have rr := r.ex e2
    split at h2
    · rename_i i hu
      rw [hu] at w2
      have hy := w2.v_inv
      subst hy
      obtain ⟨ns, j, rfl, ⟨hj, hm⟩, h3⟩ := h2
      have hys := rr.ints
      subst hys
      refine ⟨p, ns.map V.int, .int i, j, .int i, rfl, rfl, .of (e2.lst hp), rfl, flat_ints ns, by rw [List.getElem?_map, hj]; rfl, by simp [eqV], fun m z hlt hz => ?_, ?_⟩
      · rw [List.getElem?_map] at hz
        cases hz' : ns[m]? with
        | none => rw [hz'] at hz; cases hz
        | some b =>
          rw [hz'] at hz
          cases hz
          have hne := hm m hlt
          rw [hz'] at hne
          have : b ≠ i := fun z => hne (by rw [z])
          simpa [eqV] using this
      · have e8 : N + k1 + k2 = N + (k1 + k2) := by omega
        rw [e8] at h3
        exact q (.dat (.int (j : Int))) _ H2 (k1 + k2) (e1.trans e2) (Dt.v _) h3
    · exact h2.elim
  · exact h1.elim
theorem x_idx (ha : XE X G a ta da) (he : XE X G e te de) (hK : G.K = X.K := by rfl)
    (hbase : attributeBase a "index" X.env (eval a X.env) = eval a X.env := by rfl)
    (hfew : ((backTo cpos (starEach [e] X.env)).all (fun x => !x.1) && (backToKw cpos (keywordEach [] X.env)).all (fun x => x.1.isSome) && decide ([e].length + ([] : List Keyword).length + (if ([] : List Keyword).isEmpty then 0 else 1) < 30)) = true := by rfl)
    (hline : (apos.endLine == cpos.line) = true := by rfl) (hs : starEach [e] X.env = (false, eval e X.env) :: starEach [] X.env := by rfl) :
    XE X G (.Call (.Attribute a "index" apos) [e] [] cpos) (tIdx G.K ta te) (dIdx da de) :=
  ⟨by rw [hK]; exact pe_bm PySem.F.plainAttrs_list PySem.F.slot_list_index PySem.F.type_list_index mt_index ha.pe (pa_cons he.pe pa_nil hs) hbase hfew hline hs rfl, snd_idx ha.sn he.sn rfl⟩
end

/-! ### sorted of a set of ints, of any size up to some thousands -/
section
open SrtO Srt
variable {P : Program} {w : World} {A : Around} {E : Value → Shared → Prop} {s : Shared} {a : Addr}
theorem call_sortedSB {S : Int → Bool} {n : Nat} {Q : Value → Shared → Prop} (R : SetR w s.heap a S n) (hh : A.handled = none) (hn : n ≤ 4000)
    (h : ∀ (s' : Shared) (p : Addr) (out : List Value) (c : Nat) (ns : List Int), (∀ b o, s.heap.get? b = some o → s'.heap.get? b = some o) → s'.gens = s.gens → s'.os = s.os → s.heap.objs.size ≤ p →
      s'.heap.get? p = some (seqObj "list" out.toArray c) → IntsAre out ns → ns.Pairwise (· < ·) → (∀ k, k ∈ ns ↔ S k = true) → ns.length = n → Q (.ref p) s') :
    wpAny (model P w) A (call (.builtin "sorted") [.ref a]) Q E s := by
  obtain ⟨o, es, ep, t, ho, ⟨hex, _⟩, hd, g, nd, hmem, hb, hf, hcount, hr, hled⟩ := R
  apply Calls.call_function_entry kind_sorted plain_sorted entry_sorted (args_sorted1 _)
  unfold Builtin.«sorted»
  apply wpAny_bind (m := checkCount "sorted" 1 1 _)
  apply wpAny_pure
  apply wpAny_bind
  refine collect_set hh ⟨o, ho, hex, hd⟩ hf hb hr hled fun s1 vs old size1 gens1 os1 perm => ?_
  have many : vs.length = n := perm.length_eq.trans (by rw [List.length_map, Array.length_toList]; exact hcount)
  have hi : IntsAre vs (vs.map Builtin.Re.reRawOf) := L2.ints_of vs fun v hv => by
    obtain ⟨e, he, ev⟩ := List.mem_map.mp (perm.mem_iff.mp hv)
    obtain ⟨k, tk, h1, _⟩ := g e he
    exact ⟨k, tk, ev.symm.trans h1⟩
  have hz : vs.length ≤ sizeLine := by rw [many, sizeLine_eq]; omega
  have keys : (vs.map Builtin.Re.reRawOf).Perm (es.toList.map keyOf) := (perm.map Builtin.Re.reRawOf).trans (List.Perm.of_eq (by rw [List.map_map]; rfl))
  apply wpAny_bind
  refine wpAny_newList (items := vs) ?_ hz
  have hL : (s1.heap.push (seqObj "list" vs.toArray 0)).get? s1.heap.objs.size = some (seqObj "list" vs.toArray 0) := Heap.get?_push_size _ rfl
  show wpAny _ _ _ _ _ { s1 with heap := s1.heap.push (seqObj "list" vs.toArray 0) }
  apply wpAny_bind
  refine wpAny_holding (wpAny_call_entry slot_list_sort ⟨_, hL, rfl⟩ entry_list_sort ?_ (args_list_sort _))
  refine list_sort_ord swo_int hL hz (fun h2 => ints_sortable hi h2) fun out h1 h2 => ⟨_, rfl, ?_⟩
  obtain ⟨c, hc⟩ := sortedHeap_at (vs := vs) (out := out.toArray) hL
  obtain ⟨g1, g2, g3⟩ := SrtO.ints_out hi h1 h2
  have pn := g2.trans keys
  refine wpAny_pure ⟨_, rfl, h _ s1.heap.objs.size out c _ (fun b u hb => ?_) gens1 os1 size1 hc g1 (lt_of_le_nodup _ g3 (pn.nodup_iff.mpr nd)) (fun k => by rw [pn.mem_iff, ← hmem k]) ?_⟩
  · have hb1 := old b u hb
    have hlt := Heap.lt_size hb1
    show (sortedHeap _ _ _ _).get? b = _
    rw [sortedHeap_old (Nat.ne_of_lt hlt) (by rw [size_push']; exact Nat.lt_succ_of_lt hlt)]
    exact Heap.get?_push_of_some _ hb1
  · rw [pn.length_eq, List.length_map, Array.length_toList]
    exact hcount
end
def rSortedSB (w : World) : List V → Hp → VK → Prop := fun vs H Q => ∃ (a : Addr) (S : Int → Bool) (n : Nat), vs = [V.ref a] ∧ H a = some (SetO w a S n) ∧ n ≤ 4000 ∧
  ∀ (ns : List Int) (p : Addr), ns.Pairwise (· < ·) → (∀ k : Int, k ∈ ns ↔ S k = true) → H p = none → Q (.ref p) (upd H p (.lst (ns.map V.int)))
theorem cr_sortedSB {X : Cx} (hc : X.calm = true) : CallR X (.builtin "sorted") (rSortedSB X.w) := by
  intro pins s σ H vs us Q I r h
  obtain ⟨a, S, n, rfl, ha, hn, q⟩ := h
  rw [Vals.ref1 r]
  refine call_sortedSB (setO_get I ha) (I.ok.hd hc) hn fun s' p out c ns old gens1 os1 hp hget hi hasc hmem hlen => ?_
  have hz : (ns.map V.int).length ≤ sizeLine := by rw [List.length_map, hlen, sizeLine_eq]; omega
  have free : H p = none := I.hok.fresh hp
  have J : Inv X pins σ (upd H p (.lst (ns.map V.int))) { s with heap := s'.heap, gens := s'.gens, drawn := s'.drawn, toks := s'.toks } :=
    I.call (ch := []) (Un.laid old hp free) (I.hok.laid old hp ⟨hz, out, c, vals_of_ints hi, hget⟩) (by rw [gens1]; exact I.bare) (fun _ z => nomatch z)
  have same : s' = { s with heap := s'.heap, gens := s'.gens, drawn := s'.drawn, toks := s'.toks } := by
    obtain ⟨h1, h2, h3, h4, h5⟩ := s'
    obtain ⟨k1, k2, k3, k4, k5⟩ := s
    cases os1
    rfl
  rw [same]
  exact ⟨.ref p, _, J, rfl, q ns p hasc hmem free⟩
/-! ### sorted(set(t)), t a tuple of ints -/
def rSetI (K : PySem.W.Frag) (w : World) : List V → Hp → VK → Prop := fun xs H Q => ∃ (p : Addr) (ns : List Int), xs = [.ref p] ∧ SqT K H p (ns.map V.int) ∧ ns.length ≤ 1500 ∧
  ∀ (a : Addr) (c : Nat), H a = none → c ≤ ns.length → Q (.ref a) (upd H a (SetO w a (fun j => decide (j ∈ ns)) c))
theorem cr_setI {X : Cx} (hc : X.calm = true) : CallR X (.type "set") (rSetI X.K X.w) := by
  intro pins s σ H xs us Q I r h
  obtain ⟨p, ns, rfl, hq, hl, q⟩ := h
  cases r with
  | cons r rr =>
    cases rr
    cases r
    obtain ⟨its, rv, pt, hz⟩ := I.tuple hq
    have hi : IntsAre its.toArray.toList ns := ints_of_vals rv
    refine call_set_tupI ns (I.ok.hd hc) (show s.heap.IsTuple p its.toArray from pt) hi (by unfold scanBound; omega) fun h' tk c R1 hcn kp => ?_
    have hn : H s.heap.objs.size = none := I.hok.fresh (Nat.le_refl _)
    have J : Inv X pins σ (upd H s.heap.objs.size (SetO X.w s.heap.objs.size (fun j => decide (j ∈ ns)) c)) { s with heap := h', toks := tk } :=
      I.call (ch := []) (Un.laid kp (Nat.le_refl _) hn) (I.hok.laid kp (Nat.le_refl _) (setO_new R1)) I.bare (fun _ z => nomatch z)
    exact ⟨.ref _, _, J, rfl, q _ c hn hcn⟩
def tSSet (K : PySem.W.Frag) (w : World) (te : TE) : TE := tCB (rSortedSB w) (tCons (tCB (rSetI K w) (tCons te tNil)) tNil)
@[simp] def dSSet (de : DE) : DE := fun δ N C => de δ N fun s N1 => match s.rd with
  | .tup ds => ∃ ns : List Int, ds = ns.map D.int ∧ ns.length ≤ 1500 ∧ ∀ ms : List Int, ms.Pairwise (· < ·) → (∀ k : Int, k ∈ ms ↔ k ∈ ns) → C (.own (ms.map D.int)) N1
  | _ => False
section
variable {X : Cx} {G : Gg} {e : Expr} {te : TE} {de : DE} {p p2 q pos : Pos}
theorem snd_sset {w : World} (h : Snd G te de) : Snd G (tSSet G.K w te) (dSSet de) := by
  refine ⟨fun B Z δ σ H N C Q hB S hd q => ?_⟩
  subst hB
  refine h.run B Z δ σ H N _ _ rfl S hd fun s x H1 k1 e1 r1 h1 => ?_
  have w1 := (r1.tp S.ztt).dw
  split at h1
  · rename_i ds hs
    rw [hs] at w1
    obtain ⟨a, xs, rfl, ha, r⟩ := w1.tup_inv
    obtain ⟨ns, rfl, hl, h3⟩ := h1
    have hxs := r.ints
    subst hxs
    refine ⟨a, ns, rfl, .of ha, hl, fun b c hb hcn => ?_⟩
    refine ⟨b, _, c, rfl, upd_same, by omega, fun ms l hasc hmem hll => ?_⟩
    have ep1 := ExK.new (o := SetO w b (fun j => decide (j ∈ ns)) c) hb
    have ep2 := ExK.new (o := .lst (ms.map V.int)) hll
    have ep : ExK 0 H1 _ := ep1.trans ep2
    exact q (.own (ms.map D.int)) _ _ k1 (e1.trans ep) ⟨l, _, rfl, e1.back (ep1.back hll), upd_same, .ofInts _⟩ (h3 ms hasc fun k => by rw [hmem k, decide_eq_true_eq])
  · exact h1.elim
theorem x_sset (hc : X.calm = true) (hg : Gl X "sorted") (hm : X.mg "sorted" = none) (hg2 : Gl X "set") (hm2 : X.mg "set" = none) (h : XE X G e te de) (hK : G.K = X.K := by rfl)
    (hs : starEach [e] X.env = [(false, eval e X.env)] := by rfl) (hs2 : starEach [.Call (.Name "set" p2) [e] [] q] X.env = [(false, eval (.Call (.Name "set" p2) [e] [] q) X.env)] := by rfl) :
    XE X G (.Call (.Name "sorted" p) [.Call (.Name "set" p2) [e] [] q] [] pos) (tSSet G.K X.w te) (dSSet de) :=
  ⟨by rw [hK]; exact pe_callB (cr_sortedSB hc) hg hm PyProof.Rows.boot_sorted (pa_cons (pe_callTy (cr_setI hc) hg2 hm2 PyProof.Rows.boot_set (pa_cons h.pe pa_nil hs) (by decide) (by decide) hs rfl) pa_nil hs2) (by decide) (by decide) hs2 rfl, snd_sset h.sn⟩
end
end DL

/-! DLn: slices of tuples with a written step. -/
namespace DL
open PySem PySem.Spec PyProof.Rows L2
variable [TabNames]

/-- x[start::c] -/
def stepP {α : Type} (xs : List α) (start : Option Int) (c : Int) : List α :=
  (List.range (Builtin.Slice.slicePlaces (Builtin.Slice.sliceAdjust start none c xs.length).1 (Builtin.Slice.sliceAdjust start none c xs.length).2 c)).filterMap fun m : Nat =>
    xs[((Builtin.Slice.sliceAdjust start none c xs.length).1 + (m : Int) * c).toNat]?
theorem stepP_map {α β : Type} (f : α → β) (xs : List α) (start : Option Int) (c : Int) : stepP (xs.map f) start c = (stepP xs start c).map f := by
  unfold stepP
  rw [List.length_map, List.map_filterMap]
  refine congrArg (fun g => List.filterMap g _) (funext fun m => ?_)
  rw [List.getElem?_map]
theorem stepP_rel {K : PySem.W.Frag} {N : Nat} {H : Hp} {Z : Addr → Prop} {xs : List V} {ds : List D} (r : DtAll K N H Z xs ds) (start : Option Int) (c : Int) : DtAll K N H Z (stepP xs start c) (stepP ds start c) := by
  unfold stepP
  rw [r.length]
  generalize List.range _ = ms
  induction ms with
  | nil => exact .nil
  | cons m ms ih =>
    rw [List.filterMap_cons, List.filterMap_cons]
    cases h : ds[((Builtin.Slice.sliceAdjust start none c ds.length).1 + (m : Int) * c).toNat]? with
    | none =>
      have h1 := List.getElem?_eq_none_iff.mp h
      rw [← r.length] at h1
      have h2 : xs[((Builtin.Slice.sliceAdjust start none c ds.length).1 + (m : Int) * c).toNat]? = none := List.getElem?_eq_none_iff.mpr (by rw [← r.length]; exact h1)
      rw [h2]
      exact ih
    | some d =>
      obtain ⟨v, h2, h3⟩ := r.get h
      rw [h2]
      exact .cons h3 ih
theorem stepP_vals {xs : List V} {vs : List Value} (r : Vals xs vs) (start : Option Int) (c : Int) : Vals (stepP xs start c) (stepP vs start c) := by
  unfold stepP
  rw [r.length]
  generalize List.range _ = ms
  induction ms with
  | nil => exact .nil
  | cons m ms ih =>
    rw [List.filterMap_cons, List.filterMap_cons]
    generalize ((Builtin.Slice.sliceAdjust start none c vs.length).1 + (m : Int) * c).toNat = k
    have both : ∀ {xs : List V} {vs : List Value}, Vals xs vs → ∀ k : Nat, (xs[k]? = none ∧ vs[k]? = none) ∨ ∃ x v, xs[k]? = some x ∧ vs[k]? = some v ∧ RelV x v := by
      intro xs vs r
      induction r with
      | nil => exact fun k => .inl ⟨rfl, rfl⟩
      | cons a r ih =>
        intro k
        cases k with
        | zero => exact .inr ⟨_, _, rfl, rfl, a⟩
        | succ k => simpa using ih k
    rcases both r k with ⟨h1, h2⟩ | ⟨x, v, h1, h2, h3⟩
    · rw [h1, h2]
      exact ih
    · rw [h1, h2]
      exact .cons h3 ih
theorem stepP_len {α : Type} (xs : List α) (start : Option Int) {c : Int} : (stepP xs start c).length ≤ Builtin.Slice.slicePlaces (Builtin.Slice.sliceAdjust start none c xs.length).1 (Builtin.Slice.sliceAdjust start none c xs.length).2 c := by
  unfold stepP
  exact Nat.le_trans (List.length_filterMap_le _ _) (Nat.le_of_eq List.length_range)
section
variable {prog : Program} {w : World} {A : Around} {E : Value → Shared → Prop} {s : Shared}
theorem applied_step {sl : Addr} {vl vs : Value} {start : Option Int} {c : Int} {n : Nat} {Q : Int × Int × Nat → Shared → Prop} (hs : s.heap.IsSliceOf sl vl .none vs) (pl : IsPart vl start) (ps : IsPart vs (some c)) (hc : c ≠ 0)
    (h : Q ((Builtin.Slice.sliceAdjust start none c n).1, c, Builtin.Slice.slicePlaces (Builtin.Slice.sliceAdjust start none c n).1 (Builtin.Slice.sliceAdjust start none c n).2 c) s) : wpAny (model prog w) A (Builtin.Slice.sliceApplied (.ref sl) (pure (n : Int))) Q E s := by
  obtain ⟨os, hos, _, hds⟩ := id hs
  unfold Builtin.Slice.sliceApplied Builtin.Slice.sliceFields
  refine wpAny_bind (wpAny_bind (wpAny_field hos hds (x := vl) rfl ?_))
  refine wpAny_bind (wpAny_field hos hds (x := .none) rfl ?_)
  refine wpAny_bind (wpAny_field hos hds (x := vs) rfl (wpAny_pure ?_))
  refine wpAny_bind (HT.slicePart_ ps ?_)
  show wpAny _ _ (if (c == 0) = true then _ else _) _ _ s
  rw [if_neg (by simpa using hc)]
  refine wpAny_bind (HT.slicePart_ pl ?_)
  refine wpAny_bind (HT.slicePart_ .none ?_)
  refine wpAny_bind (wpAny_pure ?_)
  exact wpAny_pure h
theorem getItem_tuple_step {t sl : Addr} {items : Array Value} {vl vs : Value} {start : Option Int} {c : Int} {Q : Value → Shared → Prop} (ht : IsTup s.heap t items) (hs : s.heap.IsSliceOf sl vl .none vs) (pl : IsPart vl start) (ps : IsPart vs (some c))
    (hc : c ≠ 0) (h1 : c ≠ 1) (hsz : Builtin.Slice.slicePlaces (Builtin.Slice.sliceAdjust start none c items.size).1 (Builtin.Slice.sliceAdjust start none c items.size).2 c ≤ sizeLine)
    (h : Q (.ref s.heap.objs.size) { s with heap := s.heap.push { cls := .type "tuple", data := .seq (stepP items.toList start c).toArray } }) : wpAny (model prog w) A (getItem (.ref t) (.ref sl)) Q E s := by
  have fits : sizeOk (.seq (stepP items.toList start c).toArray) := by
    show (stepP items.toList start c).toArray.size ≤ sizeLine
    rw [List.size_toArray]
    refine Nat.le_trans (stepP_len _ _) ?_
    rw [Array.length_toList]
    exact hsz
  obtain ⟨os, hos, hcs, _⟩ := id hs
  have kind : s.TypeIs (.ref sl) "slice" := ⟨os, hos, hcs⟩
  unfold getItem
  try (with_reducible apply wpAny_holding)
  first | refine wpAny_bind (wpAny_pure ?_) | skip
  apply wpAny_bind
  refine wpAny_sequenceKey ht.typeIs (by decide) ?_
  apply wpAny_bind
  refine wpAny_callSpecial?_slot (name := Str.ofString "__getitem__") ht.typeIs PyProof.Rows.slot_tuple_getitem ?_
  refine wpAny_call_entry PyProof.Rows.slot_tuple_getitem ht.typeIs entry_tuple_getitem ?_ (args_tuple_getitem _ _)
  show wpAny _ _ (Builtin.Tuple.tupleItemsOf (.ref t) >>= _) _ _ s
  apply wpAny_bind
  refine tupleItemsOf_ ht ?_
  apply wpAny_bind
  refine wpAny_typeOf kind ?_
  rw [if_pos (by decide)]
  apply wpAny_bind
  refine applied_step hs pl ps hc ?_
  have hno : ¬ (((Builtin.Slice.sliceAdjust start none c items.size).1 == 0 && c == 1 && Builtin.Slice.slicePlaces (Builtin.Slice.sliceAdjust start none c items.size).1 (Builtin.Slice.sliceAdjust start none c items.size).2 c == items.size) = true) := fun q => by
    rw [Bool.and_eq_true, Bool.and_eq_true] at q
    exact h1 (eq_of_beq q.1.2)
  show wpAny _ _ (if ((Builtin.Slice.sliceAdjust start none c items.size).1 == 0 && c == 1 && Builtin.Slice.slicePlaces (Builtin.Slice.sliceAdjust start none c items.size).1 (Builtin.Slice.sliceAdjust start none c items.size).2 c == items.size) = true then _ else _) _ _ s
  rw [if_neg hno]
  have pick : ((List.range (Builtin.Slice.slicePlaces (Builtin.Slice.sliceAdjust start none c items.size).1 (Builtin.Slice.sliceAdjust start none c items.size).2 c)).filterMap fun (k : Nat) => items[((Builtin.Slice.sliceAdjust start none c items.size).1 + (k : Int) * c).toNat]?).toArray = (stepP items.toList start c).toArray := by
    unfold stepP
    rw [Array.length_toList]
    simp only [Array.getElem?_toList]
  rw [pick]
  first
    | exact wpAny_bind (m := Builtin.Tuple.tupleExact _) (wpAny_newObj_type (wpAny_pure ⟨_, rfl, wpAny_pure h⟩) fits)
    | exact wpAny_bind (m := Builtin.Tuple.tupleExact _) (wpAny_newObj_type (wpAny_bind (wpAny_pure (wpAny_pure ⟨_, rfl, wpAny_pure h⟩))) fits)
    | exact wpAny_bind (wpAny_bind (m := Builtin.Tuple.tupleExact _) (wpAny_newObj_type (wpAny_pure (wpAny_pure ⟨_, rfl, wpAny_pure h⟩)) fits))
    | exact wpAny_bind (wpAny_bind (m := Builtin.Tuple.tupleExact _) (wpAny_newObj_type (wpAny_pure ⟨_, rfl, wpAny_pure h⟩) fits))
end
section
variable {X : Cx} {G : Gg} {e st : Expr} {lo : Option Expr} {te : TE} {de : DE} {tl ts : TO} {dl : DO} {c : Int} {p3 pos : Pos}
def tStepT (K : PySem.W.Frag) (te : TE) (tl ts : TO) (c : Int) : TE := fun σ H Q => te σ H fun x H1 => tl σ H1 fun l H2 => ts σ H2 fun k H3 => k = some c ∧ ∃ a xs, x = .ref a ∧ SqT K H3 a xs ∧
  Builtin.Slice.slicePlaces (Builtin.Slice.sliceAdjust l none c xs.length).1 (Builtin.Slice.sliceAdjust l none c xs.length).2 c ≤ sizeLine ∧ ∀ p, H3 p = none → Q (.ref p) (upd H3 p (.tup (stepP xs l c)))
theorem pe_stepT (he : PE X e te) (hl : PO X lo tl) (hs : PO X (some st) ts) (h0 : c ≠ 0) (h1 : c ≠ 1) : PE X (.Subscript e (.Slice lo none (some st) p3) pos) (tStepT X.K te tl ts c) := by
  refine ⟨fun pins s σ H Q I h => ?_⟩
  refine Subscript_ (thn (he.run pins s σ H _ I h) fun v s1 ⟨x, H1, I1, r1, q1⟩ => ?_)
  refine wpAny_Slice (thn (hl.run pins s1 σ H1 _ I1 q1) fun vl s2 ⟨l, H2, I2, pl, q2⟩ => ?_)
  refine thn (po_none.run pins s2 σ H2 (fun o H3 => o = none ∧ H3 = H2) I2 ⟨rfl, rfl⟩) fun vu s3 ⟨u, H3, I3, pu, eu, e3⟩ => ?_
  subst eu e3
  refine thn (hs.run pins s3 σ H3 _ I3 q2) fun vs s4 ⟨k, H4, I4, ps, ek, a, xs, ex, hx, hz, q⟩ => ?_
  subst ek ex
  cases r1
  cases pu
  obtain ⟨its, r, ht, hits⟩ := I4.tuple hx
  have hlen := r.length
  have grown : ∀ b ob, s4.heap.get? b = some ob → (s4.heap.push { cls := .type "slice", data := .fields #[vl, .none, vs] }).get? b = some ob := fun b ob q => Heap.get?_push_of_some _ q
  have I5 : Inv X pins σ H4 { s4 with heap := s4.heap.push { cls := .type "slice", data := .fields #[vl, .none, vs] } } := I4.kept (t' := s4.toks) grown
  have ht5 : IsTup (s4.heap.push { cls := .type "slice", data := .fields #[vl, .none, vs] }) a its.toArray := ht.keeps grown
  show wpAny (model X.prog X.w) X.A (subscriptTail e (.Slice lo none (some st) p3) (.ref a) (.ref s4.heap.objs.size)) (EP X pins σ Q) X.xe { s4 with heap := s4.heap.push { cls := .type "slice", data := .fields #[vl, .none, vs] } }
  refine tail_any (ops := [.ref a, .ref s4.heap.objs.size]) ht5.typeIs PyProof.Rows.slot_tuple_getitem.lookup ?_ (by with_unfolding_all rfl)
  refine getItem_tuple_step (s := { s4 with heap := s4.heap.push { cls := .type "slice", data := .fields #[vl, .none, vs] } }) ht5 (Heap.IsSliceOf.new _ vl .none vs) pl ps h0 h1 (by rw [List.size_toArray, ← hlen]; exact hz) ?_
  refine ⟨.ref _, _, I5.laid (t' := s4.toks) (o := .tup (stepP xs l c)) (fun b ob q => Heap.get?_push_of_some _ q) (Nat.le_refl _) ?_, rfl, q _ (I5.hok.fresh (Nat.le_refl _))⟩
  exact ⟨Nat.le_trans (stepP_len _ _) hz, _, stepP_vals r l c, IsTup.new _ _⟩
@[simp] def dStep (de : DE) (dl : DO) (c : Int) : DE := fun δ N C => de δ N fun s N1 => dl δ N1 fun l N2 => match s.rd with
  | .tup ds => Builtin.Slice.slicePlaces (Builtin.Slice.sliceAdjust l none c ds.length).1 (Builtin.Slice.sliceAdjust l none c ds.length).2 c ≤ 100000 ∧ C (.dat (.tup (stepP ds l c))) N2
  | _ => False
theorem snd_step {K : PySem.W.Frag} (h : Snd G te de) (hl : SndO G tl dl) (hK : G.K = K) (hts : ∀ σ H Q, Q (some c) H → ts σ H Q) : Snd G (tStepT K te tl ts c) (dStep de dl c) := by
  subst hK
  refine ⟨fun B Z δ σ H N C Q hB S hd q => ?_⟩
  subst hB
  refine h.run B Z δ σ H N _ _ rfl S hd fun s x H1 k1 e1 r1 h1 => ?_
  refine hl.run B Z δ σ H1 (N + k1) _ _ rfl (S.ext e1) h1 fun l H2 k2 e2 h2 => hts _ _ _ ⟨rfl, ?_⟩
  have w := ((r1.tp S.ztt).dw).ex e2
  have e8 : N + k1 + k2 = N + (k1 + k2) := by omega
  rw [e8] at w h2
  split at h2
  · rename_i ds eq
    rw [eq] at w
    obtain ⟨a, xs, rfl, ha, r⟩ := w.tup_inv
    refine ⟨a, xs, rfl, .of ha, by rw [r.length]; exact size_of h2.1, fun p hp => ?_⟩
    have ep := ExK.new (o := .tup (stepP xs l c)) hp
    exact q (.dat (.tup (stepP ds l c))) _ _ (k1 + k2) ((e1.trans e2).trans ep) (Dt.tup upd_same ((stepP_rel r l c).ex0 ep)) h2.2
  · exact h2.elim
theorem x_step2 {k : Nat} {q2 : Pos} (h : XE X G e te de) (hl : XO X G lo tl dl) (hK : G.K = X.K := by rfl) : XE X G (.Subscript e (.Slice lo none (some (.Constant (.int 2) k q2)) p3) pos) (tStepT G.K te tl (tPart (tC (.int 2))) 2) (dStep de dl 2) :=
  ⟨by rw [hK]; exact pe_stepT h.pe hl.pe (po_some pe_int) (by decide) (by decide), snd_step h.sn hl.sn rfl fun σ H Q q => ⟨2, rfl, q⟩⟩
theorem x_stepR {k : Nat} {q1 q2 : Pos} (h : XE X G e te de) (hl : XO X G lo tl dl) (hK : G.K = X.K := by rfl) : XE X G (.Subscript e (.Slice lo none (some (.UnaryOp .USub (.Constant (.int 1) k q1) q2)) p3) pos) (tStepT G.K te tl (tPart (tUn (rU fun i => .int (-i)) (tC (.int 1)))) (-1)) (dStep de dl (-1)) :=
  ⟨by rw [hK]; exact pe_stepT h.pe hl.pe (po_some (pe_un un_neg pe_int)) (by decide) (by decide), snd_step h.sn hl.sn rfl fun σ H Q q => ⟨1, rfl, -1, rfl, q⟩⟩
end
/-! ### what these slices hold -/
section
variable {α : Type}
theorem fm_congr {β : Type} {f g : β → Option α} : ∀ {l : List β}, (∀ x ∈ l, f x = g x) → l.filterMap f = l.filterMap g
  | [], _ => rfl
  | x :: l, h => by
    rw [List.filterMap_cons, List.filterMap_cons, h x List.mem_cons_self, fm_congr fun y hy => h y (List.mem_cons_of_mem _ hy)]
theorem fm_all : ∀ xs : List α, (List.range xs.length).filterMap (fun m : Nat => xs[m]?) = xs
  | [] => rfl
  | x :: xs => by
    rw [List.length_cons, List.range_succ_eq_map, List.filterMap_cons, List.filterMap_map]
    show x :: (List.range xs.length).filterMap (fun m : Nat => xs[m]?) = _
    rw [fm_all xs]
theorem stepP_rev (xs : List α) : stepP xs none (-1) = xs.reverse := by
  have hn : Builtin.Slice.slicePlaces ((xs.length : Int) - 1) (-1) (-1) = xs.length := by
    unfold Builtin.Slice.slicePlaces
    rw [if_neg (by decide), show (- -1 : Int) = 1 by decide, Int.ediv_one]
    split <;> omega
  show (List.range (Builtin.Slice.slicePlaces ((xs.length : Int) - 1) (-1) (-1))).filterMap (fun m : Nat => xs[((xs.length : Int) - 1 + (m : Int) * -1).toNat]?) = _
  rw [hn]
  refine Eq.trans (fm_congr fun m hm => ?_) (Eq.trans (by rw [List.length_reverse]) (fm_all xs.reverse))
  have hm' := List.mem_range.mp hm
  rw [List.getElem?_reverse hm', show ((xs.length : Int) - 1 + (m : Int) * -1).toNat = xs.length - 1 - m by omega]
def evens : List α → List α
  | [] => []
  | [x] => [x]
  | x :: _ :: r => x :: evens r
theorem pick2 : ∀ xs : List α, (List.range ((xs.length + 1) / 2)).filterMap (fun m : Nat => xs[2 * m]?) = evens xs
  | [] => by simp [evens]
  | [x] => by
    rw [show evens [x] = [x] by simp [evens], show ([x].length + 1) / 2 = 1 by simp]
    rfl
  | x :: y :: r => by
    rw [show ((x :: y :: r).length + 1) / 2 = (r.length + 1) / 2 + 1 by rw [List.length_cons, List.length_cons]; omega, List.range_succ_eq_map, List.filterMap_cons, List.filterMap_map]
    rw [show evens (x :: y :: r) = x :: evens r by simp [evens]]
    show x :: (List.range ((r.length + 1) / 2)).filterMap (fun m : Nat => (x :: y :: r)[2 * (m + 1)]?) = x :: evens r
    rw [← pick2 r]
    congr 1
theorem stepP_2 (xs : List α) : stepP xs none 2 = evens xs := by
  have hn : Builtin.Slice.slicePlaces 0 (xs.length : Int) 2 = (xs.length + 1) / 2 := by
    unfold Builtin.Slice.slicePlaces
    rw [if_pos (by decide)]
    split <;> omega
  show (List.range (Builtin.Slice.slicePlaces 0 (xs.length : Int) 2)).filterMap (fun m : Nat => xs[((0 : Int) + (m : Int) * 2).toNat]?) = _
  rw [hn, ← pick2]
  refine fm_congr fun m _ => ?_
  rw [show ((0 : Int) + (m : Int) * 2).toNat = 2 * m by omega]
theorem stepP_12 (xs : List α) : stepP xs (some 1) 2 = evens (xs.drop 1) := by
  cases xs with
  | nil => rfl
  | cons x r =>
    have hlo : min (1 : Int) ((x :: r).length : Int) = 1 := by rw [List.length_cons]; omega
    have hn : Builtin.Slice.slicePlaces 1 ((x :: r).length : Int) 2 = (r.length + 1) / 2 := by
      unfold Builtin.Slice.slicePlaces
      rw [if_pos (by decide), List.length_cons]
      split <;> omega
    show (List.range (Builtin.Slice.slicePlaces (min (1 : Int) ((x :: r).length : Int)) ((x :: r).length : Int) 2)).filterMap (fun m : Nat => (x :: r)[(min (1 : Int) ((x :: r).length : Int) + (m : Int) * 2).toNat]?) = evens r
    rw [hlo, hn, ← pick2]
    refine fm_congr fun m _ => ?_
    rw [show ((1 : Int) + (m : Int) * 2).toNat = 2 * m + 1 by omega]
    rfl
theorem places_rev (n : Nat) : Builtin.Slice.slicePlaces (Builtin.Slice.sliceAdjust none none (-1) n).1 (Builtin.Slice.sliceAdjust none none (-1) n).2 (-1) = n := by
  show Builtin.Slice.slicePlaces ((n : Int) - 1) (-1) (-1) = n
  unfold Builtin.Slice.slicePlaces
  rw [if_neg (by decide), show (- -1 : Int) = 1 by decide, Int.ediv_one]
  split <;> omega
theorem places_2 (n : Nat) : Builtin.Slice.slicePlaces (Builtin.Slice.sliceAdjust none none 2 n).1 (Builtin.Slice.sliceAdjust none none 2 n).2 2 ≤ n := by
  show Builtin.Slice.slicePlaces 0 (n : Int) 2 ≤ n
  unfold Builtin.Slice.slicePlaces
  rw [if_pos (by decide)]
  split <;> omega
theorem places_12 (n : Nat) : Builtin.Slice.slicePlaces (Builtin.Slice.sliceAdjust (some 1) none 2 n).1 (Builtin.Slice.sliceAdjust (some 1) none 2 n).2 2 ≤ n := by
  show Builtin.Slice.slicePlaces (min (1 : Int) (n : Int)) (n : Int) 2 ≤ n
  unfold Builtin.Slice.slicePlaces
  rw [if_pos (by decide)]
  split <;> omega
end
end DL

/-! DLo: defs with *args. -/
namespace DL
open PySem PySem.Spec PyProof.Rows L2
variable [TabNames]

/-- the promise of def f(a, .., *v) by what it binds: m names, and a tuple of the rest -/
def dspStar (m : Nat) (dsp : DSp) : DSp := fun ds N C Er => m ≤ ds.length ∧ ds.length ≤ 100000 ∧ dsp (ds.take m ++ [.tup (ds.drop m)]) N C Er
theorem lift_star {K : PySem.W.Frag} {m : Nat} {dsp : DSp} {vs : List V} {H : Hp} {Q : VK} {E : XK} (h : lift K (dspStar m dsp) vs H Q E) :
    ∃ ws rest, vs = ws ++ rest ∧ ws.length = m ∧ rest.length ≤ sizeLine ∧ ∀ p, H p = none → lift K dsp (ws ++ [V.ref p]) (upd H p (.tup rest)) Q E := by
  obtain ⟨Z, N, ds, C, Er, hz, r, ⟨hm, hl, hd⟩, q, hx⟩ := h
  have hlen := r.length
  refine ⟨vs.take m, vs.drop m, (List.take_append_drop m vs).symm, by rw [List.length_take]; omega, by rw [List.length_drop]; exact Nat.le_trans (Nat.sub_le _ _) (size_of (by omega)), fun p hp => ?_⟩
  have ep := ExK.new (o := .tup (vs.drop m)) hp
  refine ⟨Z, N, ds.take m ++ [.tup (ds.drop m)], C, Er, hz.ex ep, ((r.take m).ex0 ep).append (.cons (.tup upd_same ((r.drop m).ex0 ep)) .nil), hd, fun s v H' k e rs hc => ?_, fun cls H' k e he => ?_⟩
  · have e1 := ep.trans e
    rw [Nat.zero_add] at e1
    refine q s v H' k e1 ?_ hc
    cases s with
    | dat d => exact rs
    | own ds =>
      obtain ⟨p2, xs, rfl, h0, h1, r2⟩ := rs
      exact ⟨p2, xs, rfl, ep.back h0, h1, r2⟩
    | als ds => exact rs.elim
  · have e1 := ep.trans e
    rw [Nat.zero_add] at e1
    exact hx cls H' k e1 he
/-- x is a def of the text that keeps dsp, however its values are bound -/
def CalR (P : Program) (w : World) (K : PySem.W.Frag) (mg : Str → Option Value) (base : Heap) (CX : CXT) (x : Str) (k : Nat) (dsp : DSp) : Prop :=
  ∃ f : Addr, FnR P w K mg base CX k f (lift K dsp) ∧ mg x = some (.ref f) ∧ PySem.W.keepIn K (.ref f) = true
section
variable {P : Program} {w : World} {K : PySem.W.Frag} {mg : Str → Option Value} {base : Heap}
/-- a body by data, from its first values -/
theorem body_run {X : Cx} {sts : List Stmt} {t : TS} {dd : DS} {NN : List Str} {vs : List V} {ds : List D} {H : Hp} {Z : Addr → Prop} {n : Nat} {C : DK} {Q : VK} (hx : XSs X (G0 K) sts t dd) (hz : Zt Z H) (r : DtAll K n H Z vs ds)
    (hd : dd { nx := fun _ n' => C (.dat .non) n', rt := C } (startD ds NN.length) n) (q : ∀ s v H' k, ExK k H H' → RsC K (n + k) H H' Z v s → C s (n + k) → Q v H') : t { nx := fun _ H' => Q .non H', rt := Q } (start NN vs) H := by
  refine hx.sn.run ⟨G0 K, H, Z, n, fun _ _ _ _ z => z.elim, tabs_nil⟩ Z [] { nx := fun _ n' => C (.dat .non) n', rt := C } _ _ _ H n rfl ⟨fun Z' δ σ H' N' S' _ h' => ?_, fun _ _ _ _ _ _ _ z => z.elim, fun _ _ _ _ _ _ _ z => z.elim, fun s v H' N' k hN ex rt h' => ?_⟩ (sd_start (G := G0 K) hz r (fun _ _ _ _ z => z.elim) tabs_nil) (fun p hp => absurd hp (by simp)) hd
  · obtain ⟨j, ej, ex⟩ := S'.ex
    have ej' : N' = n + j := ej
    subst ej'
    exact q (.dat .non) .non H' j ex (Dt.v _) h'
  · have hN' : N' = n + k := hN
    subst hN'
    refine q s v H' k ex ?_ h'
    cases s with
    | dat d => exact rt
    | own ds => exact rt
    | als ds => exact rt.elim
theorem calR_of {x pv : Str} {st : Stmt} {N ps : List Str} {k : Nat} {dsp : DSp} {dd : DS} (D : Dfd K mg x st) (S : FnScope N (ps ++ [pv]) (defScope st))
    (hb : ∀ (kV doc pm : Value) (an : Option Addr) (cdv ct : Value) (us rest : List Value), us.length = ps.length → bindArgs (PySem.W.fnOf x x (defArgs st) (defBody st) (defScope st) .none kV doc pm an cdv ct) ⟨us ++ rest, []⟩ = (newTuple rest >>= fun t => pure (ps.zip us ++ [(pv, t)])))
    (hbody : ∀ (f : Addr) (cdv : Value) (A : Around) (outer : List Env) (s : Shared) (H : Hp) (E : XK), Room k (A.deeper (envOfC x (defScope st) s.heap.objs.size f cdv)) →
      ∃ t, XSs (cxOf CX0 P w K mg base N x (defScope st) f cdv A outer s H E).nox (G0 K) (defBody st) t dd)
    (hd : ∀ ds n C Er, dsp ds n C Er → dd { nx := fun _ n' => C (.dat .non) n', rt := C } (startD ds N.length) n) : CalR P w K mg base CX0 x (k + 1) (dspStar ps.length dsp) := by
  obtain ⟨f, fd, F, hm⟩ := D
  obtain ⟨oc, od, kV, doc, pm, an, cdv, ct, osl, rfl, lk, hcd⟩ := F.ex
  refine ⟨f, FnR.imp (StX.fn_star (sp := lift K dsp) (k := k) lk hcd S StX.cxUp_none (hb kV doc pm an cdv ct) fun A outer s H vs Q E hr hsp => ?_) (fun vs H Q E h => lift_star h), hm, F.kp⟩
  obtain ⟨t, hx⟩ := hbody f cdv A outer s H E hr
  obtain ⟨Z, n, ds, C, Er, hz, r, hs, q, _⟩ := hsp
  refine ⟨t, hx.pe.nox, ?_⟩
  exact body_run hx hz r (hd ds n C Er hs) q
end
section
variable {X : Cx} {G : Gg} {CX : CXT} {j k : Nat} {f : Addr} {sp : Sp} {E : XK} {dsp : DSp} {x : Str} {p pos : Pos} {e : Expr} {es : List Expr} {t : TA} {d : DA}
def tCallR (sp : Sp) (E : XK) (t : TA) : TE := fun σ H Q => t σ H fun vs H1 => sp vs H1 Q E
theorem pe_callFR (F : FnR X.prog X.w X.K X.mg X.base CX k f sp) (hr : Room k X.A) (hk : PySem.W.keepIn X.K (.ref f) = true) (hg : Gl X x) (hm : X.mg x = some (.ref f)) (hx : Passes CX X E) (ha : PA X (e :: es) t)
    (hd : (x == ("__debug__" : Str)) = false := by decide) (he : starEach (e :: es) X.env = (false, eval e X.env) :: starEach es X.env := by rfl) (hpl : (backTo pos (starEach es X.env)).any (·.1) = false := by rfl) :
    PE X (.Call (.Name x p) (e :: es) [] pos) (tCallR sp E t) := by
  refine ⟨fun pins s σ H Q I h => wpAny_Call_Name_kw (ld_glob I hg hm ?_ hd)⟩
  refine PySem.W.callWith_K (h₀ := X.base) I.ok.mod.kin hk (thn (ha.run pos pins s σ H _ I h) fun us s1 ⟨vs, H1, I1, r, q⟩ => ?_) he hpl
  exact ⟨I1.kIn, wpAny_call (run_fnR F hr hx I1 r q)⟩
theorem snd_callR (h : SndA G t d) : Snd G (tCallR (lift G.K dsp) G.E t) (dCall G.Er dsp d) := by
  have z := snd_call (dsp := dsp) h
  refine ⟨fun B Z δ σ H N C Q hB S hd q => ?_⟩
  have y := z.run B Z δ σ H N C Q hB S hd q
  show t σ H _
  have e : (fun (vs : List V) (H1 : Hp) => lift G.K dsp (vs ++ []) H1 Q G.E) = fun vs H1 => lift G.K dsp vs H1 Q G.E := by
    funext vs H1
    rw [List.append_nil]
  rw [← e]
  exact y
theorem x_callCR (C : CalR X.prog X.w X.K X.mg X.base CX x k dsp) (hr : Room j X.A) (hkj : k ≤ j) (hg : Gl X x) (hx : Passes CX X G.E)
    (ha : XA X G (e :: es) t d) (hK : G.K = X.K := by rfl) (hdb : (x == ("__debug__" : Str)) = false := by decide) (he : starEach (e :: es) X.env = (false, eval e X.env) :: starEach es X.env := by rfl) (hpl : (backTo pos (starEach es X.env)).any (·.1) = false := by rfl) :
    XE X G (.Call (.Name x p) (e :: es) [] pos) (tCallR (lift G.K dsp) G.E t) (dCall G.Er dsp d) := by
  obtain ⟨f, F, hm, hk⟩ := C
  have F2 : FnR X.prog X.w X.K X.mg X.base CX k f (lift G.K dsp) := by rw [hK]; exact F
  exact ⟨pe_callFR F2 (hr.mono hkj) hk hg hm hx ha.pe hdb he hpl, snd_callR ha.sn⟩
end
end DL

/-! DLp: enumerate(tuple). -/
namespace DL
open PySem PySem.Spec PyProof.Rows L2
variable [TabNames]

theorem meets_enum1 {v : Value} {o : Obj} {H : Heap → Prop} (B : Begins v o H) :
    Meets (Builtin.«enumerate.__new__» ⟨[.type "enumerate", v], []⟩) (fun _ R s => H s.heap ∧ R (.ok (.ret (.ref (s.heap.push o).objs.size))) { s with heap := (s.heap.push o).push { cls := .type "enumerate", data := .fields #[.none, .bool false, .ref s.heap.objs.size, rawInt 0, .none, .none] } }) :=
  .of_wp fun prog w A R s h => by
    obtain ⟨hp, g, d, tk, os⟩ := s
    obtain ⟨h1, h⟩ := h
    have hsub := sub_enumerate
    have begin1 : ∀ {A' : Around} {E : Value → Shared → Prop} {Q : Value → Shared → Prop}, Q (.ref hp.objs.size) ⟨hp.push o, g, d, tk, os⟩ → wpAny (model prog w) A' (pyIter v) Q E ⟨hp, g, d, tk, os⟩ :=
      fun q => B.iter prog w _ _ ⟨hp, g, d, tk, os⟩ _ h1 q
    wp_walk using begin1
    refine wpAny_stack_any fun st => wpAny_pure ?_
    split
    · rename_i c _ _ _ _ _
      cases (c == Value.type "enumerate") <;> (wp_walk using begin1; exact ⟨_, rfl, h⟩)
    · wp_walk using begin1
      exact ⟨_, rfl, h⟩
section
variable {prog : Program} {w : World} {A : Around} {E : Value → Shared → Prop} {s : Shared}
theorem call_enumT {v : Value} {o : Obj} {H : Heap → Prop} {Q : Value → Shared → Prop} (B : Begins v o H) (h1 : H s.heap)
    (h : ∀ h', IsEnum h' (s.heap.objs.size + 1) s.heap.objs.size 0 .none → h'.get? s.heap.objs.size = some o → (∀ b o, s.heap.get? b = some o → h'.get? b = some o) → Q (.ref (s.heap.objs.size + 1)) { s with heap := h' }) :
    wpAny (model prog w) A (call (.type "enumerate") [v]) Q E s := by
  refine callType_new F.called_enumerate (by decide) (F.typeCall_enumerate_1 _) (F.newCall_enumerate_1 _) (fun obj => F.args_object_init_2 obj _) F.entry_enumerate_new (meets_enum1 B) ⟨h1, ?_⟩
  have hz : (s.heap.push o).objs.size = s.heap.objs.size + 1 := Heap.size_push ..
  show _ ∧ _
  rw [hz]
  have he : IsEnum ((s.heap.push o).push { cls := .type "enumerate", data := .fields #[.none, .bool false, .ref s.heap.objs.size, rawInt 0, .none, .none] }) (s.heap.objs.size + 1) s.heap.objs.size 0 .none := by
    rw [← hz]
    exact Heap.get?_push_size (s.heap.push o) rfl
  exact ⟨⟨_, he, rfl⟩, h _ he (Heap.get?_push_of_some _ (Heap.get?_push_size _ B.free)) fun b o x => Heap.get?_push_of_some _ (Heap.get?_push_of_some _ x)⟩
end
/-- the tuple at a, each item in a new pair -/
def IteT (K : PySem.W.Frag) (a : Addr) : It where
  go := fun i H => ∃ (xs : List V) (x : V), SqT K H a xs ∧ xs[i]? = some x
  yld := fun i H v H' => ∃ T x, v = .ref T ∧ H T = none ∧ H' = upd H T (.tup [.int (i : Nat), x]) ∧ ∀ xs, SqT K H a xs → xs[i]? = some x
  stop := fun i H => ∃ xs : List V, SqT K H a xs ∧ xs.length ≤ i
theorem enum_tup_ne {h : Heap} {e it a : Addr} {c : Int} {old : Value} {items : Array Value} {i : Nat} (he : IsEnum h e it c old) (hit : h.IsTupleIter it a i) (ha : h.IsTuple a items) : e ≠ a ∧ a ≠ it := by
  obtain ⟨o1, g1, k1, _⟩ := hit
  obtain ⟨o2, g2, k2, _⟩ := ha
  have he' : h.get? e = some _ := he
  constructor
  · rintro rfl
    rw [he'] at g2
    cases g2
    have k3 : Value.type "enumerate" = Value.type "tuple" := k2
    exact absurd k3 (by decide)
  · rintro rfl
    rw [g1] at g2
    cases g2
    rw [k1] at k2
    exact absurd k2 (by decide)
theorem draws_end {prog : Program} {w : World} {A : Around} (hh : A.handled = none) (it a : Addr) (items : Array Value) {i : Nat} (hi : items[i]? = none) :
    Draws prog w A it [it, a] i (fun _ _ => True) (fun j h => j = i ∧ h.IsTupleIter it a j ∧ h.IsTuple a items) where
  live := fun _ _ st => let ⟨o, ho, _⟩ := st.2.1; ⟨o, ho⟩
  frame := fun _ _ _ st hk => ⟨st.1, st.2.1.at fun o e => hk it (by simp) o e, st.2.2.at fun o e => hk a (by simp) o e⟩
  item := fun j s Q E hj st _ => absurd st.1 (Nat.ne_of_lt hj)
  done := fun s Q E st hE => wpAny_nextOf_tuple_end hh st.2.1 st.2.2 hi hE
theorem turn_enumT {P : Program} {w : World} {K : PySem.W.Frag} {elts : List Expr} {kk : Nat} {tpos : Pos} (a e it : Addr) :
    Turn P w K (.Tuple elts kk tpos) (IteT K a) [e, it] e (fun i h => (∃ old, IsEnum h e it ((i : Nat) : Int) old) ∧ h.IsTupleIter it a i ∧ e ≠ it) where
  mem := by simp
  obj := fun i h st b hb => by
    obtain ⟨⟨old, he⟩, ⟨o, ho, hc, hd⟩, _⟩ := st
    have e' : b = e ∨ b = it := by simpa using hb
    rcases e' with rfl | rfl
    · exact ⟨_, he, fun v q => nomatch q⟩
    · exact ⟨o, ho, fun v q => by rw [hd] at q; cases q⟩
  keep := fun i h h' st k => by
    obtain ⟨⟨old, he⟩, hi, hne⟩ := st
    exact ⟨⟨old, k e (by simp) _ he⟩, hi.at fun o q => k it (by simp) o q, hne⟩
  item := by
    intro X hP hw hK hc i pins s σ H E I hf st hg
    subst hP hw hK
    obtain ⟨⟨old, he⟩, hit, hne⟩ := st
    obtain ⟨xs, x, hq, hx⟩ := hg
    obtain ⟨its, rv, p, hz⟩ := I.tuple hq
    have pt : s.heap.IsTuple a its.toArray := p
    obtain ⟨u, hu, ru⟩ := rv.get hx
    obtain ⟨hea, hai⟩ := enum_tup_ne he hit pt
    have hel : e < s.heap.objs.size := Heap.lt_size he
    have hil : it < s.heap.objs.size := by obtain ⟨_, q, _⟩ := hit; exact Heap.lt_size q
    have hlt : i < its.toArray.size := by rw [List.size_toArray]; exact (List.getElem?_eq_some_iff.mp hu).1
    have hh : X.A.in1.handled = none := by simp [I.ok.hd hc]
    refine wpAny_pyNext_enum_itemD (Draws.tuple hh it a hai its.toArray) he ⟨hit, pt⟩ hlt hne (by simp [hne, hea]) fun y h' tk hy ho hst hT hsz hk => ?_
    have eyu : y = u := by
      have h1 : its.toArray[i]? = some y := hy
      rw [show its.toArray[i]? = its[i]? from by simp, hu] at h1
      exact (Option.some.inj h1).symm
    subst eyu
    refine ⟨_, rfl, wpAny_letOwnedTupleGo_enum (s := { s with heap := h', toks := tk + 1 }) ho fun h'' he' sb => ?_⟩
    have hT2 : h''.get? s.heap.objs.size = some { cls := .type "tuple", data := .seq #[.int i tk, y] } := (sb.2 _ (Nat.ne_of_gt hel)).trans hT
    have new : ObjOk X.prog X.w (upd H s.heap.objs.size (.tup [.int (i : Nat), x])) h'' s.heap.objs.size (.tup [.int (i : Nat), x]) :=
      ⟨by show 2 ≤ sizeLine; decide, [.int i tk, y], .cons ⟨_, rfl⟩ (.cons ru .nil), ⟨_, hT2, rfl, _, rfl⟩⟩
    have apart : ∀ b, b ∉ [e, it] → b ≠ e ∧ b ≠ it := fun b hb => by simpa using hb
    have I1 : Inv X pins σ (upd H s.heap.objs.size (.tup [.int (i : Nat), x])) { s with heap := h'', toks := tk + 1 } :=
      I.turnedNew (ch := [e, it]) (fun b ob hb q => (sb.2 b (apart b hb).1).trans (hk b ob (apart b hb).1 (apart b hb).2 q)) hf (Nat.le_refl _) new
    refine ⟨.ref s.heap.objs.size, _, I1, rfl, ⟨_, x, rfl, I.hok.fresh (Nat.le_refl _), rfl, fun ys hy => by rw [I.tuple_inj hy hq]; exact hx⟩, ⟨⟨y, ?_⟩, hst.1.at fun o q => (sb.2 it (Ne.symm hne)).trans q, hne⟩, fun b hb => ?_⟩
    · rw [show ((i + 1 : Nat) : Int) = (i : Int) + 1 by omega]
      exact he'
    · have hb' : b < s.heap.objs.size := by
        have e' : b = e ∨ b = it := by simpa using hb
        rcases e' with rfl | rfl
        · exact hel
        · exact hil
      rw [upd_ne (Nat.ne_of_lt hb')]
      exact (hf b hb).1
  done := by
    intro X hP hw hK hc i pins s σ H E I hf st hg
    subst hP hw hK
    obtain ⟨⟨old, he⟩, hit, hne⟩ := st
    obtain ⟨xs, hq, hx⟩ := hg
    obtain ⟨its, rv, p, hz⟩ := I.tuple hq
    have pt : s.heap.IsTuple a its.toArray := p
    obtain ⟨f0, f1, f2, f3, f4, f5⟩ := hf it (by simp)
    have hl := rv.length
    have hh : X.A.in1.handled = none := by simp [I.ok.hd hc]
    exact wpAny_pyNext_enum_endD (draws_end hh it a its.toArray (i := i) (by simp; omega)) he ⟨rfl, hit, pt⟩ fun h' eb => ⟨rfl, I.turned (t' := s.toks) (fun b o hb q => eb b o hb q) f0 f1 f3 f4 f5⟩
  self := fun A i s Q E st h => let ⟨⟨_, he⟩, _⟩ := st; wpAny_pyIter_enum he h
def iEnumT (K : PySem.W.Frag) (ta : TA) : TI := fun σ H R => ta σ H fun vs H1 => ∃ a xs, vs = [.ref a] ∧ SqT K H1 a xs ∧ R (IteT K a) H1
theorem pi_enumT {X : Cx} {e : Expr} {ta : TA} {p pos tpos : Pos} {elts : List Expr} {kk : Nat} (hg : Gl X "enumerate") (hm : X.mg "enumerate" = none) (ha : PA X [e] ta) (hs : starEach [e] X.env = [(false, eval e X.env)] := by rfl) :
    PI X (.Tuple elts kk tpos) (.Call (.Name "enumerate" p) [e] [] pos) (iEnumT X.K ta) := by
  refine ⟨fun pins s σ H R I h => ?_⟩
  refine Call_ (ld_blt I hg hm boot_enumerate (PyProof.Rows.callWith_type1 (thn (ha.run pos pins s σ H _ I h) fun us s1 ⟨vs, H1, I1, r1, q1⟩ => ?_) hs rfl))
  obtain ⟨a, xs, rfl, hq, q⟩ := q1
  cases r1 with
  | cons r rr =>
    cases rr
    cases r
    obtain ⟨its, rv, p', hz⟩ := I1.tuple hq
    have pt : s1.heap.IsTuple a its.toArray := p'
    refine call_enumT (begins_tuple a its.toArray) pt fun h' he hit hk => wpAny_pyIter_enum he ?_
    have I2 : Inv X pins σ H1 { s1 with heap := h' } := I1.kept (t' := s1.toks) hk
    have young : ∀ b ∈ [s1.heap.objs.size + 1, s1.heap.objs.size], FpOk X pins H1 b := fun b hb => by
      have hle : s1.heap.objs.size ≤ b := by
        have e' : b = s1.heap.objs.size + 1 ∨ b = s1.heap.objs.size := by simpa using hb
        rcases e' with rfl | rfl
        · exact Nat.le_add_right _ _
        · exact Nat.le_refl _
      exact I1.fpOk hle (I1.hok.fresh hle)
    exact ⟨s1.heap.objs.size + 1, [s1.heap.objs.size + 1, s1.heap.objs.size], _, _, H1, rfl, I2, turn_enumT a (s1.heap.objs.size + 1) s1.heap.objs.size, ⟨⟨.none, he⟩, ⟨_, hit, rfl, rfl⟩, Nat.succ_ne_self _⟩, young, q⟩
end DL

/-! DLq: min of a list of pairs. -/
namespace DL
open PySem PySem.Spec PyProof.Rows L2 PySem.W
variable [TabNames]

def prP (k : Int × Int) : PyData := .tuple [.int k.1, .int k.2]
def lePr (m y : Int × Int) : Prop := m.1 < y.1 ∨ (m.1 = y.1 ∧ m.2 ≤ y.2)
theorem lt_prP (x y : Int × Int) : dataLt (prP x) (prP y) = true ↔ x.1 < y.1 ∨ (x.1 = y.1 ∧ x.2 < y.2) := by
  unfold prP
  rw [dataLt_tuple]
  by_cases h : x.1 = y.1
  · rw [dataLt_all_yes (by rfl) (by rw [h]; simp [PyData.eqv])]
    by_cases h2 : x.2 = y.2
    · rw [dataLt_all_yes (by rfl) (by rw [h2]; simp [PyData.eqv])]
      constructor
      · intro z
        exact absurd z (by decide)
      · omega
    · rw [dataLt_all_no (by rfl) (by simp [PyData.eqv, h2]), dataLt_int, decide_eq_true_eq]
      omega
  · rw [dataLt_all_no (by rfl) (by simp [PyData.eqv, h]), dataLt_int, decide_eq_true_eq]
    omega
theorem minP_spec : ∀ (xs : List (Int × Int)) (x : Int × Int), ∃ m, m ∈ x :: xs ∧ minD (prP x) (xs.map prP) = prP m ∧ ∀ y ∈ x :: xs, lePr m y
  | [], x => ⟨x, List.mem_cons_self, rfl, fun y hy => by
    have e : y = x := by simpa using hy
    rw [e]
    exact .inr ⟨rfl, Int.le_refl _⟩⟩
  | z :: r, x => by
    have e : ∀ w, (if dataLt (prP z) (prP x) = true then prP z else prP x) = prP w → minD (prP x) ((z :: r).map prP) = minD (prP w) (r.map prP) := fun w hw => by
      show List.foldl _ (if dataLt (prP z) (prP x) = true then prP z else prP x) (r.map prP) = _
      rw [hw]
      rfl
    by_cases h : dataLt (prP z) (prP x) = true
    · obtain ⟨m, hm, h1, h2⟩ := minP_spec r z
      refine ⟨m, List.mem_cons_of_mem _ hm, (e z (if_pos h)).trans h1, fun y hy => ?_⟩
      rcases List.mem_cons.mp hy with rfl | hy
      · have h3 := h2 z List.mem_cons_self
        have h4 := (lt_prP z y).mp h
        unfold lePr at h3 ⊢
        omega
      · exact h2 y hy
    · obtain ⟨m, hm, h1, h2⟩ := minP_spec r x
      have h3 := h2 x List.mem_cons_self
      refine ⟨m, ?_, (e x (if_neg h)).trans h1, fun y hy => ?_⟩
      · rcases List.mem_cons.mp hm with rfl | hm
        · exact List.mem_cons_self
        · exact List.mem_cons_of_mem _ (List.mem_cons_of_mem _ hm)
      · rcases List.mem_cons.mp hy with rfl | hy
        · exact h3
        · rcases List.mem_cons.mp hy with rfl | hy
          · have h4 := (not_congr (lt_prP y x)).mp h
            unfold lePr at h3 ⊢
            omega
          · exact h2 y (List.mem_cons_of_mem _ hy)
theorem reads_ints2 {h : Heap} {vs : List Value} {a b : Int × Int} {as bs : List Addr} (r1 : ReadsAll h vs [.int a.1, .int a.2] as) (r2 : ReadsAll h vs [.int b.1, .int b.2] bs) : a = b := by
  cases r1 with
  | cons p1 q1 =>
    cases q1 with
    | cons p2 q2 =>
      cases q2
      cases r2 with
      | cons p3 q3 =>
        cases q3 with
        | cons p4 q4 =>
          cases p1
          cases p2
          obtain ⟨a1, a2⟩ := a
          obtain ⟨b1, b2⟩ := b
          cases p3
          cases p4
          rfl
theorem reads_prP {h : Heap} {v : Value} {a b : Int × Int} {as bs : List Addr} (r1 : Reads h v (prP a) as) (r2 : Reads h v (prP b) bs) : a = b := by
  unfold prP at r1 r2
  cases r1 with
  | tuple g1 c1 d1 q1 =>
    cases r2 with
    | tuple g2 c2 d2 q2 =>
      rw [g1] at g2
      cases g2
      rw [d1] at d2
      cases d2
      exact reads_ints2 q1 q2
def rMinP (K : PySem.W.Frag) : List V → Hp → VK → Prop := fun vs H Q => ∃ (a : Addr) (xs : List V) (ks : List (Int × Int)), vs = [V.ref a] ∧ SqL K H a xs ∧ DpAll K H xs (ks.map prP) ∧ ks ≠ [] ∧
  ∀ (i : Nat) (v : V) (m : Int × Int), xs[i]? = some v → ks[i]? = some m → (∀ y ∈ ks, lePr m y) → Q v H
theorem cr_minP {X : Cx} (hc : X.calm = true) (hu : X.A.units + 64 < cLine) : CallR X (.builtin "min") (rMinP X.K) := by
  intro pins s σ H vs us Q I r h
  obtain ⟨a, xs, ks, rfl, hs, hdp, hne, q⟩ := h
  obtain ⟨its, rv, hl, _⟩ := I.list hs
  obtain ⟨as, hr⟩ := Dp.readsAll I _ _ its hdp rv
  rw [Vals.ref1 r]
  cases ks with
  | nil => exact absurd rfl hne
  | cons k ks =>
    have alike2 : ∀ x ∈ prP k :: ks.map prP, ∃ m : Int × Int, x = prP m := fun x hx => by
      rcases List.mem_cons.mp hx with rfl | hx
      · exact ⟨_, rfl⟩
      · obtain ⟨m, _, rfl⟩ := List.mem_map.mp hx
        exact ⟨_, rfl⟩
    have depth2 : ∀ l : List (Int × Int), PyData.depthAll (l.map prP) ≤ 2 := fun l => by
      induction l with
      | nil => exact Nat.zero_le _
      | cons x l ih => exact Nat.max_le.mpr ⟨by simp [prP, PyData.depth, PyData.depthAll], ih⟩
    have dk := depth2 (k :: ks)
    refine min_list_data (vs := its.toArray) (x := prP k) (xs := ks.map prP) (I.ok.hd hc) hl.isList (as := as) (by simpa using hr) ⟨fun x hx y hy => ?_, fun x hx => ?_⟩ (by
      have e : PyData.depthAll (prP k :: ks.map prP) ≤ 2 := dk
      omega) fun i v h' tk bs hv hrd hk => ?_
    · obtain ⟨m, rfl⟩ := alike2 x hx
      obtain ⟨m', rfl⟩ := alike2 y hy
      rfl
    · obtain ⟨m, rfl⟩ := alike2 x hx
      intro z
      cases z
    · have hv' : its[i]? = some v := by simpa using hv
      have hi := (List.getElem?_eq_some_iff.mp hv').1
      obtain ⟨x, hx⟩ : ∃ x, xs[i]? = some x := ⟨_, List.getElem?_eq_getElem (by rw [rv.length]; exact hi)⟩
      obtain ⟨u, hu2, ru⟩ := rv.get hx
      rw [hv'] at hu2
      cases hu2
      obtain ⟨cs, hrd2, hlen, _, _⟩ := readsAll_at hr i v hv'
      obtain ⟨m0, hm0⟩ : ∃ m0, (k :: ks)[i]? = some m0 := ⟨_, List.getElem?_eq_getElem (by rw [List.length_map] at hlen; exact hlen)⟩
      have e0 : (List.map prP (k :: ks)).getD i .none = prP m0 := by
        rw [List.getD_eq_getElem?_getD, List.getElem?_map, hm0]
        rfl
      rw [e0] at hrd2
      obtain ⟨m, hm, h1, h2⟩ := minP_spec ks k
      rw [h1] at hrd
      have em := reads_prP hrd (Reads.keeps hk hrd2)
      subst em
      exact ⟨x, H, I.kept (t' := tk) hk, ru, q i x m hx hm0 h2⟩
end DL

/-! DLr: set(list of ints); the data of enumerate(tuple), of min of pairs. -/
namespace DL
open PySem PySem.Spec PyProof.Rows L2
variable [TabNames]

section
variable {P : Program} {w : World} {A : Around} {E : Value → Shared → Prop} {s : Shared}
abbrev emptySet (w : World) : Obj := { cls := .type "set", dict := none, data := .set #[] 0 (.fresh 0 0 (!w.params.followText "set-order")) }
theorem call_set_lstI {l : Addr} {items : Array Value} (ns : List Int) {Q : Value → Shared → Prop} (hh : A.handled = none) (hl : s.heap.IsList l items) (hit : IntsAre items.toList ns) (hb : ns.length + 1 < scanBound)
    (h : ∀ (h' : Heap) (tk c : Nat), SetR w h' s.heap.objs.size (fun j => decide (j ∈ ns)) c → c ≤ ns.length → (∀ b o, s.heap.get? b = some o → h'.get? b = some o) → Q (.ref s.heap.objs.size) { s with heap := h', toks := tk }) :
    wpAny (model P w) A (call (.type "set") [.ref l]) Q E s := by
  have many : items.size = ns.length := by
    have q := IntsAre.length hit
    rwa [Array.length_toList] at q
  obtain ⟨c, tl, mro⟩ := F.called_set.mro
  have made := F.called_set.made
  have sub := F.called_set.sub
  refine wpAny_call (codeAny_of_tree ?_)
  show wpAny _ _ (callAny (.type "set") _) _ _ _
  refine wpAny_pure ⟨Code.quiet_builtin _ (by decide +kernel), codeAny_builtin F.entry_type_call ?_⟩
  rw [Around.under_plain (weight_type_call_type "set" [.ref l] []) rfl]
  have t1 := F.called_set.notType
  have t2 := F.called_set.canCreate
  have t3 := F.typeCall_set_1 (.ref l)
  repeat (any_goals (first | assumption | wp_step))
  refine codeAny_mono (code_set_led1 (.ref l) (E := E) (Q₁ := fun obj s₁ => obj = .ref s.heap.objs.size ∧ s₁ = { s with heap := s.heap.push (emptySet w) }) ⟨rfl, rfl⟩) fun r s₁ hr => ?_
  cases r with
  | error e => exact hr
  | ok fl =>
    cases fl with
    | ret obj =>
      obtain ⟨rfl, rfl⟩ := hr
      have here : (s.heap.push (emptySet w)).get? s.heap.objs.size = some (emptySet w) := Heap.get?_push_size _ rfl
      have kind : Shared.TypeIs { s with heap := s.heap.push (emptySet w) } (.ref s.heap.objs.size) "set" := ⟨_, here, rfl⟩
      have i1 := F.called_set.init.lookup
      have i2 := F.called_set.init.bind (.ref s.heap.objs.size)
      repeat (any_goals (first | assumption | wp_step))
      refine codeAny_mono (codeAny_call_builtin (R := wants (fun r s₂ => r = .none ∧ ∃ h' tk c, s₂ = { s with heap := h', toks := tk } ∧ SetR w h' s.heap.objs.size (fun j => decide (j ∈ ns)) c ∧ c ≤ ns.length ∧ (∀ b o, s.heap.get? b = some o → h'.get? b = some o)) E) F.called_set.init.plain F.entry_set_init (check_set_init_1 kind ?_)) fun r₂ s₂ hr₂ => ?_
      · obtain ⟨⟨ocls, odict, odata, oslots⟩, hol, hcl, nl, hdl⟩ := hl
        simp only at hcl hdl
        subst hcl
        subst hdl
        have hol' : (s.heap.push (emptySet w)).get? l = some { cls := .type "list", dict := odict, data := .seq items nl, slots := oslots } := Heap.get?_push_of_some _ hol
        have f1 := F.sub_list_set
        have f2 := F.sub_list_frozenset
        have f3 : (Value.type "list" == Value.type "dict") = false := by decide
        have hl1 : (s.heap.push (emptySet w)).IsList l items := ⟨_, hol', rfl, nl, rfl⟩
        unfold Builtin.«set.__init__» noKeywords Builtin.Frozenset.updateFrom
        generalize hPI : pyIter = PI
        wp_walk
        subst hPI
        refine wpAny_pyIter_list hl1 ?_
        refine wpAny_bind (wpAny_runValue ?_)
        have hlS : l < s.heap.objs.size := Heap.lt_size hol
        have hh3 : A.in1.in1.in1.handled = none := by simp [hh]
        have sz : (s.heap.push (emptySet w)).objs.size = s.heap.objs.size + 1 := Heap.size_push ..
        have hneI : l ≠ (s.heap.push (emptySet w)).objs.size := by
          rw [sz]
          exact Nat.ne_of_lt (Nat.lt_succ_of_lt hlS)
        have hSf : s.heap.objs.size ∉ [(s.heap.push (emptySet w)).objs.size, l] := by
          rw [sz]
          simp only [List.mem_cons, List.not_mem_nil, or_false, not_or]
          exact ⟨Nat.ne_of_lt (Nat.lt_succ_self _), Nat.ne_of_gt hlS⟩
        have hval : ∀ (i : Nat) (v : Value), items[i]? = some v → ∃ k t, ns[i]? = some k ∧ v = .int k t := fun i v hv => by
          have hi : i < ns.length := many ▸ (Array.getElem?_eq_some_iff.mp hv).1
          obtain ⟨t, e⟩ := PyProof.Rows.IntsAre.int_at hit i v (by rw [Array.getElem?_toList]; exact hv)
          refine ⟨ns[i], t, List.getElem?_eq_getElem hi, e.trans ?_⟩
          rw [List.getD_eq_getElem?_getD, List.getElem?_eq_getElem hi]
          rfl
        refine set_update_ints ((Walks.list hh3 _ l hneI items).toS) s.heap.objs.size hSf ns many hb hval (items.size - 0) 0 _ (by omega) (Nat.zero_le _) ⟨⟨_, Heap.get?_push_size _ rfl, rfl, rfl⟩, (hl1.push _)⟩ ?first ?rest
        case first => exact ⟨0, Nat.le_refl 0, setR_new_at (Heap.get?_push_of_some _ here)⟩
        case rest =>
          intro s' c' hm hc' hS'
          obtain ⟨h', g2, d', tk', os'⟩ := s'
          have eg : g2 = s.gens := hm.gens
          have ed : d' = s.drawn := hm.drawn
          have eo : os' = s.os := hm.os
          subst eg ed eo
          show wpAny _ _ _ _ _ _
          refine wpAny_pure ?_
          show wpAny _ _ (ret Value.none) _ _ _
          rw [many] at hc'
          refine wpAny_pure ⟨rfl, h', tk', c', rfl, hS', hc', fun b o e => ?_⟩
          have hb0 : b < s.heap.objs.size := Heap.lt_size e
          refine hm.heap b o ?_ (Heap.get?_push_of_some _ (Heap.get?_push_of_some _ e))
          rw [sz]
          simp only [List.mem_cons, List.not_mem_nil, or_false, not_or]
          exact ⟨Nat.ne_of_lt hb0, Nat.ne_of_lt (Nat.lt_succ_of_lt hb0)⟩
      · cases r₂ with
        | error e => exact hr₂
        | ok fl₂ =>
          cases fl₂ with
          | ret r =>
            obtain ⟨rfl, h', tk, c', rfl, hS', hc', hk'⟩ := hr₂
            repeat (any_goals (first | assumption | wp_step))
            exact h _ _ _ hS' hc' hk'
          | _ => exact hr₂.elim
    | _ => exact hr.elim
end
/-! ### sorted(set(x)), x a list of ints -/
def rSetL (K : PySem.W.Frag) (w : World) : List V → Hp → VK → Prop := fun xs H Q => ∃ (p : Addr) (ns : List Int), xs = [.ref p] ∧ SqL K H p (ns.map V.int) ∧ ns.length ≤ 1500 ∧
  ∀ (a : Addr) (c : Nat), H a = none → c ≤ ns.length → Q (.ref a) (upd H a (SetO w a (fun j => decide (j ∈ ns)) c))
theorem cr_setL {X : Cx} (hc : X.calm = true) : CallR X (.type "set") (rSetL X.K X.w) := by
  intro pins s σ H xs us Q I r h
  obtain ⟨p, ns, rfl, hq, hl, q⟩ := h
  cases r with
  | cons r rr =>
    cases rr
    cases r
    obtain ⟨its, rv, pt, hz⟩ := I.list hq
    refine call_set_lstI ns (I.ok.hd hc) pt.isList (show IntsAre its.toArray.toList ns from ints_of_vals rv) (by unfold scanBound; omega) fun h' tk c R1 hcn kp => ?_
    have hn : H s.heap.objs.size = none := I.hok.fresh (Nat.le_refl _)
    have J : Inv X pins σ (upd H s.heap.objs.size (SetO X.w s.heap.objs.size (fun j => decide (j ∈ ns)) c)) { s with heap := h', toks := tk } :=
      I.call (ch := []) (Un.laid kp (Nat.le_refl _) hn) (I.hok.laid kp (Nat.le_refl _) (setO_new R1)) I.bare (fun _ z => nomatch z)
    exact ⟨.ref _, _, J, rfl, q _ c hn hcn⟩
def tSSetL (K : PySem.W.Frag) (w : World) (te : TE) : TE := tCB (rSortedSB w) (tCons (tCB (rSetL K w) (tCons te tNil)) tNil)
@[simp] def dSSetL (de : DE) : DE := fun δ N C => de δ N fun s N1 => match s.rd with
  | .lst ds => ∃ ns : List Int, ds = ns.map D.int ∧ ns.length ≤ 1500 ∧ ∀ ms : List Int, ms.Pairwise (· < ·) → (∀ k : Int, k ∈ ms ↔ k ∈ ns) → C (.own (ms.map D.int)) N1
  | _ => False
section
variable {X : Cx} {G : Gg} {e : Expr} {te : TE} {de : DE} {p p2 q pos : Pos}
theorem snd_ssetL {w : World} (h : Snd G te de) : Snd G (tSSetL G.K w te) (dSSetL de) := by
  refine ⟨fun B Z δ σ H N C Q hB S hd q => ?_⟩
  subst hB
  refine h.run B Z δ σ H N _ _ rfl S hd fun s x H1 k1 e1 r1 h1 => ?_
  have w1 := (r1.tp S.ztt).dw
  split at h1
  · rename_i ds hs
    rw [hs] at w1
    obtain ⟨a, xs, rfl, ha, r⟩ := w1
    obtain ⟨ns, rfl, hl, h3⟩ := h1
    have hxs := r.ints
    subst hxs
    refine ⟨a, ns, rfl, .of ha, hl, fun b c hb hcn => ⟨b, _, c, rfl, upd_same, by omega, fun ms l hasc hmem hll => ?_⟩⟩
    have ep1 := ExK.new (o := SetO w b (fun j => decide (j ∈ ns)) c) hb
    have ep : ExK 0 H1 _ := ep1.trans (ExK.new (o := .lst (ms.map V.int)) hll)
    exact q (.own (ms.map D.int)) _ _ k1 (e1.trans ep) ⟨l, _, rfl, e1.back (ep1.back hll), upd_same, .ofInts _⟩ (h3 ms hasc fun k => by rw [hmem k, decide_eq_true_eq])
  · exact h1.elim
theorem x_ssetL (hc : X.calm = true) (hg : Gl X "sorted") (hm : X.mg "sorted" = none) (hg2 : Gl X "set") (hm2 : X.mg "set" = none) (h : XE X G e te de) (hK : G.K = X.K := by rfl)
    (hs : starEach [e] X.env = [(false, eval e X.env)] := by rfl) (hs2 : starEach [.Call (.Name "set" p2) [e] [] q] X.env = [(false, eval (.Call (.Name "set" p2) [e] [] q) X.env)] := by rfl) :
    XE X G (.Call (.Name "sorted" p) [.Call (.Name "set" p2) [e] [] q] [] pos) (tSSetL G.K X.w te) (dSSetL de) :=
  ⟨by rw [hK]; exact pe_callB (cr_sortedSB hc) hg hm PyProof.Rows.boot_sorted (pa_cons (pe_callTy (cr_setL hc) hg2 hm2 PyProof.Rows.boot_set (pa_cons h.pe pa_nil hs) (by decide) (by decide) hs rfl) pa_nil hs2) (by decide) (by decide) hs2 rfl, snd_ssetL h.sn⟩
end
/-! ### enumerate(t), t a tuple -/
theorem walks_enumT {K : PySem.W.Frag} {a : Addr} {ds : List D} : Walks K (IteT K a) [(.tup ds, .ref a)] (enumFrom 0 ds) where
  go := fun N H Z i d hz ht hd => by
    have h : Dt K N H Z (.ref a) (.tup ds) := ht (.tup ds, .ref a) (by simp)
    obtain ⟨e, he, rfl⟩ := enum_get hd
    cases h with
    | tup ha r =>
      obtain ⟨v, h1, h2⟩ := r.get he
      refine ⟨⟨_, v, .of ha, h1⟩, fun x H' y => ?_⟩
      obtain ⟨T, x1, rfl, hT, rfl, f⟩ := y
      have e1 := f _ (.of ha)
      rw [h1] at e1
      cases e1
      have ep := ExK.new (o := .tup [.int (i : Nat), v]) hT
      refine ⟨ep, .tup upd_same (.cons ?_ (.cons (h2.ex0 ep) .nil))⟩
      rw [Nat.zero_add]
      exact .v _
  stop := fun N H Z i ht hi => by
    have h : Dt K N H Z (.ref a) (.tup ds) := ht (.tup ds, .ref a) (by simp)
    rw [enum_len] at hi
    cases h with
    | tup ha r => exact ⟨_, .of ha, by rw [r.length]; exact hi⟩
section
variable {X : Cx} {G : Gg} {e : Expr} {ta : TA} {da : DA} {p pos : Pos}
@[simp] def dEnumT (da : DA) : DI := fun δ N C => da δ N fun ss N1 => match ss with
  | [.dat (.tup ds)] => C (enumFrom 0 ds) N1
  | _ => False
theorem snd_enumT (h : SndA G ta da) : SndI G (iEnumT G.K ta) (dEnumT da) := by
  refine ⟨fun B Z δ σ H N C R hB S hd q => ?_⟩
  subst hB
  refine h.run B Z δ σ H N _ _ rfl S hd fun ss vs H1 k1 e1 r1 h1 => ?_
  split at h1
  · rename_i ds
    obtain ⟨x, rfl, hx⟩ := pair1 r1
    have hx' : Dt B.K (N + k1) H1 Z x (.tup ds) := hx
    have hx2 := hx'
    cases hx2 with
    | @tup a xs _ ha r =>
      refine ⟨a, xs, rfl, .of ha, q _ _ [(.tup ds, .ref a)] H1 k1 e1 (fun p hp => ?_) walks_enumT h1⟩
      have e : p = (.tup ds, .ref a) := by simpa using hp
      subst e
      exact hx'
  · exact h1.elim
theorem xi_enumT {tpos : Pos} {elts : List Expr} {kk : Nat} (hg : Gl X "enumerate") (hm : X.mg "enumerate" = none) (ha : XA X G [e] ta da) (hK : G.K = X.K := by rfl) (hs : starEach [e] X.env = [(false, eval e X.env)] := by rfl) :
    XI X G (.Tuple elts kk tpos) (.Call (.Name "enumerate" p) [e] [] pos) (iEnumT G.K ta) (dEnumT da) := ⟨by rw [hK]; exact pi_enumT hg hm ha.pe hs, snd_enumT ha.sn⟩
end
/-! ### min of a list of pairs -/
def prDD (k : Int × Int) : D := .tup [.int k.1, .int k.2]
def dMinP : DC := fun ds k => ∃ ks : List (Int × Int), ds = [.lst (ks.map prDD)] ∧ ks ≠ [] ∧ ∀ (i : Nat) (m : Int × Int), ks[i]? = some m → (∀ y ∈ ks, lePr m y) → k (.dat (prDD m))
theorem pys_prDD : ∀ ks : List (Int × Int), D.pys (ks.map prDD) = ks.map prP
  | [] => rfl
  | k :: ks => by
    show D.py (prDD k) :: D.pys (ks.map prDD) = prP k :: ks.map prP
    rw [pys_prDD ks]
    rfl
theorem oks_prDD : ∀ ks : List (Int × Int), D.oks 5 (ks.map prDD) = true
  | [] => rfl
  | k :: ks => by
    show (D.ok 5 (prDD k) && D.oks 5 (ks.map prDD)) = true
    rw [oks_prDD ks]
    rfl
theorem c_minP {X : Cx} (hc : X.calm = true) (hu : X.A.units + 64 < cLine) {K : PySem.W.Frag} (hK : X.K = K := by rfl) : XC X (.builtin "min") (rMinP K) dMinP := by
  subst hK
  refine ⟨cr_minP hc hu, ⟨fun B Z N H xs ds C Q hK hz hr hd q => ?_⟩⟩
  obtain ⟨ks, rfl, hne, hk⟩ := hd
  obtain ⟨x, rfl, h⟩ := pair1 hr
  obtain ⟨a, ys, rfl, ha, r⟩ := h
  have hdp := r.dp 5 (oks_prDD ks)
  rw [pys_prDD, hK] at hdp
  refine ⟨a, ys, ks, rfl, .of ha, hdp, hne, fun i v m hv hm hmin => ?_⟩
  obtain ⟨d, hd2, hdt⟩ := r.getv hv
  rw [List.getElem?_map, hm] at hd2
  cases hd2
  exact q (.dat (prDD m)) v H (ExK.refl H) hdt (hk i m hm hmin)
end DL

/-! SPa: what the defs promise, by data (valid arguments). -/
namespace LAW
open PySem PySem.Spec PyProof.Rows L2 DL
variable [TabNames]

def capD : Option Int → D
  | none => .non
  | some c => .int c
def ruleD (p t : Int) (c : Option Int) : D := .tup [.int p, .int t, capD c]
def ridesD (ns : List Int) : D := .tup (ns.map D.int)
structure VRule (p t : Int) (c : Option Int) : Prop where
  p0 : 0 ≤ p
  p1 : p ≤ 1000
  t0 : 1 ≤ t
  t1 : t ≤ 1440
  c0 : ∀ x, c = some x → 0 ≤ x ∧ x ≤ 1000000
structure VRides (m : Nat) (ns : List Int) : Prop where
  len : ns.length ≤ m
  rg : ∀ x ∈ ns, 0 ≤ x ∧ x ≤ 1439
  asc : ns.Pairwise (· < ·)
/-- the rides for which a ticket is bought -/
def bstep (L : Int) (acc : List Int) (x : Int) : List Int := match acc.getLast? with
  | none => acc ++ [x]
  | some l => if l + L ≤ x then acc ++ [x] else acc
def boughtF (L : Int) (ns : List Int) : List Int := ns.foldl (bstep L) []
def moneyF (p : Int) (c : Option Int) (n : Int) : Int := match c with
  | none => n * p
  | some c => min (n * p) c
def costF (p t : Int) (c : Option Int) (ns : List Int) : Int := moneyF p c (boughtF t ns).length
def upF (a b : Int) : Int := (a + b - 1) / b
def natsI (n : Int) : List Int := (List.range n.toNat).map fun i : Nat => (i : Int)
/-- the numbers of tickets that cost that much -/
def ticks (p t : Int) (c : Option Int) (paid : Int) : List Int := (natsI (upF 1440 t + 1)).filter fun n => decide (moneyF p c n = paid)
/-- first and last, or None -/
def spanD : List Int → D
  | [] => .non
  | x :: r => .tup [.int x, .int ((x :: r).getLast (List.cons_ne_nil _ _))]

/-- what isinstance knows -/
def plainD : D → Bool
  | .v .non => true
  | .v (.bl _) => true
  | .v (.int _) => true
  | .v (.str _) => true
  | .tup _ => true
  | .lst _ => true
  | _ => false
/-- an int from lo to hi -/
def inRD : D → Int → Int → Bool
  | .v (.int i), lo, hi => decide (lo ≤ i) && decide (i ≤ hi)
  | _, _, _ => false
def dsp_P_in_range : DSp := fun ds N C _ => ∃ (d : D) (lo hi : Int), ds = [d, .int lo, .int hi] ∧ plainD d = true ∧ C (.dat (.bl (inRD d lo hi))) N
def dsp_P_is_rule : DSp := fun ds N C _ => ∃ p t c, ds = [ruleD p t c] ∧ VRule p t c ∧ C (.dat (.bl true)) N
def dsp_P_is_rides : DSp := fun ds N C _ => ∃ ns, ds = [ridesD ns] ∧ VRides 60 ns ∧ C (.dat (.bl true)) N
def dsp_P_check_rule : DSp := fun ds N C _ => ∃ p t c, ds = [ruleD p t c] ∧ VRule p t c ∧ C (.dat .non) N
def dsp_P_check_rides : DSp := fun ds N C _ => ∃ ns, ds = [ridesD ns] ∧ VRides 60 ns ∧ C (.dat .non) N
def dsp_P_check_number : DSp := fun ds N C _ => ∃ i lo hi : Int, ds = [.int i, .int lo, .int hi] ∧ (lo ≤ i ∧ i ≤ hi) ∧ C (.dat .non) N
/-- ints in a tuple or a list -/
def IntsD (d : D) (ns : List Int) : Prop := d = .tup (ns.map D.int) ∨ d = .lst (ns.map D.int)
def dsp_P_bought_of : DSp := fun ds N C _ => ∃ L d ns, ds = [.int L, d] ∧ (IntsD d ns ∧ ns.length ≤ 2000) ∧ C (.own ((boughtF L ns).map D.int)) N
def dsp_P_money : DSp := fun ds N C _ => ∃ p t c n, ds = [ruleD p t c, .int n] ∧ (0 ≤ p ∧ p ≤ 1000) ∧ C (.dat (.int (moneyF p c n))) N
def dsp_P_cost_of : DSp := fun ds N C _ => ∃ p t c d ns, ds = [ruleD p t c, d] ∧ (IntsD d ns ∧ ns.length ≤ 2000 ∧ 0 ≤ p ∧ p ≤ 1000) ∧ C (.dat (.int (costF p t c ns))) N
def dsp_P_bought : DSp := fun ds N C _ => ∃ p t c ns, ds = [ruleD p t c, ridesD ns] ∧ (VRule p t c ∧ VRides 60 ns) ∧ C (.own ((boughtF t ns).map D.int)) N
def dsp_P_cost : DSp := fun ds N C _ => ∃ p t c ns, ds = [ruleD p t c, ridesD ns] ∧ (VRule p t c ∧ VRides 60 ns) ∧ C (.dat (.int (costF p t c ns))) N
def dsp_P_up : DSp := fun ds N C _ => ∃ a b : Int, ds = [.int a, .int b] ∧ (0 < b ∧ b < 1073741824) ∧ C (.dat (.int (upF a b))) N
def dsp_P_most_tickets : DSp := fun ds N C _ => ∃ p t c, ds = [ruleD p t c] ∧ (1 ≤ t ∧ t ≤ 1440) ∧ C (.dat (.int (upF 1440 t))) N
def dsp_P_tickets_for : DSp := fun ds N C _ => ∃ (p t : Int) (c : Option Int) (paid : Int), ds = [ruleD p t c, .int paid] ∧ (VRule p t c ∧ 0 ≤ paid ∧ paid ≤ 10000000) ∧ C (.dat (spanD (ticks p t c paid))) N
/-- draws -/
def dsp_L_take : DSp := dspTake
def dsp_L_well : DSp := fun ds N C _ => ∃ cell turn : Int, ds = [.int cell, .int turn] ∧ (0 ≤ turn ∧ turn ≤ N) ∧ C (.dat .bag) N
def dsp_L_bags : DSp := fun ds N C _ => ∃ (ns : List Int) (k : Int), ds = [.scr ns, .int k] ∧ (0 ≤ k ∧ k ≤ 12 ∧ 9770 * 2 ≤ N ∧ ns.length ≤ 63) ∧ ∀ m : Nat, m ≤ 13 → C (.own (List.replicate m .bag)) N
def dsp_L_rule : DSp := fun ds N C _ => ds = [.bag] ∧ N + 20 ≤ LIM ∧ ∀ p t c N', VRule p t c → N ≤ N' → N' ≤ N + 11 → C (.dat (ruleD p t c)) N'
/-- a rule's parts -/
structure Ru where
  p : Int
  t : Int
  c : Option Int
abbrev Ru.d (R : Ru) : D := ruleD R.p R.t R.c
abbrev VR (R : Ru) : Prop := VRule R.p R.t R.c
def topsF (R : Ru) : Int := upF 1440 R.t
/-- by how much the first costs more for n rides that are one length apart -/
def excF (R S : Ru) (n : Int) : Int := moneyF R.p R.c n - moneyF S.p S.c (upF n (upF S.t R.t))
def cntI (R : Ru) : List Int := (List.range (topsF R).toNat).map fun i : Nat => 1 + (i : Int)
def excsF (R S : Ru) : List Int := (cntI R).map (excF R S)
def atmostF (R S : Ru) : Bool := (excsF R S).all fun x => decide (x ≤ 0)
def maxI : List Int → Int
  | [] => 0
  | x :: r => max x (maxI r)
def largestF (R S : Ru) : Int := maxI (excsF R S)
def fewestF (R S : Ru) : Option Int := (cntI R).find? fun n => decide (0 < excF R S n)
def dsp_P_excess : DSp := fun ds N C _ => ∃ (R S : Ru) (n : Int), ds = [R.d, S.d, .int n] ∧ (VR R ∧ VR S) ∧ C (.dat (.int (excF R S n))) N
def dsp_P_at_most : DSp := fun ds N C _ => ∃ R S : Ru, ds = [R.d, S.d] ∧ (VR R ∧ VR S) ∧ C (.dat (.bl (atmostF R S))) N
def dsp_P_never_dearer : DSp := fun ds N C _ => ∃ R S : Ru, ds = [R.d, S.d] ∧ (VR R ∧ VR S) ∧ C (.dat (.bl (atmostF R S))) N
def dsp_P_largest_excess : DSp := fun ds N C _ => ∃ R S : Ru, ds = [R.d, S.d] ∧ (VR R ∧ VR S) ∧ C (.dat (.int (largestF R S))) N
def dsp_P_fewest : DSp := fun ds N C _ => ∃ R S : Ru, ds = [R.d, S.d] ∧ (VR R ∧ VR S) ∧ C (.dat (capD (fewestF R S))) N
def dsp_P_fewest_rides : DSp := fun ds N C _ => ∃ R S : Ru, ds = [R.d, S.d] ∧ (VR R ∧ VR S) ∧ C (.dat (capD (fewestF R S))) N
def dsp_P_alike : DSp := fun ds N C _ => ∃ R S : Ru, ds = [R.d, S.d] ∧ (VR R ∧ VR S) ∧ C (.dat (.bl (atmostF R S && atmostF S R))) N
/-- a rule with another part -/
def putR (R : Ru) (k : Int) (x : Int) : Ru := if k = 0 then ⟨x, R.t, R.c⟩ else if k = 1 then ⟨R.p, x, R.c⟩ else ⟨R.p, R.t, some x⟩
/-- the two binary searches, by steps left -/
def upS (P : Int → Bool) : Nat → Int → Int → Int
  | 0, lo, _ => lo
  | m + 1, lo, hi => if lo < hi then (if P ((lo + hi + 1) / 2) = true then upS P m ((lo + hi + 1) / 2) hi else upS P m lo ((lo + hi + 1) / 2 - 1)) else lo
def dnS (P : Int → Bool) : Nat → Int → Int → Int
  | 0, lo, _ => lo
  | m + 1, lo, hi => if lo < hi then (if P ((lo + hi) / 2) = true then dnS P m lo ((lo + hi) / 2) else dnS P m ((lo + hi) / 2 + 1) hi) else lo
def greatestF (R S : Ru) (k : Int) (top : Nat) : Int := upS (fun x => atmostF (putR R k x) S) top 0 top
def leastF (R S : Ru) : Option Int := if atmostF (putR R 1 1440) S = true then some (dnS (fun x => atmostF (putR R 1 x) S) 1440 1 1440) else none
def dsp_P_with_part : DSp := fun ds N C _ => ∃ (R : Ru) (k x : Int), ds = [R.d, .int k, .int x] ∧ (k = 0 ∨ k = 1 ∨ k = 2) ∧ C (.dat (putR R k x).d) N
def dsp_P_greatest : DSp := fun ds N C _ => ∃ (R S : Ru) (k : Int) (top : Nat), ds = [R.d, S.d, .int k, .int top] ∧ (VR R ∧ VR S ∧ (k = 0 ∧ top ≤ 1000 ∨ k = 2 ∧ top ≤ 1000000)) ∧ C (.dat (.int (greatestF R S k top))) N
def dsp_P_greatest_price : DSp := fun ds N C _ => ∃ R S : Ru, ds = [R.d, S.d] ∧ (VR R ∧ VR S) ∧ C (.dat (.int (greatestF R S 0 1000))) N
def dsp_P_greatest_cap : DSp := fun ds N C _ => ∃ R S : Ru, ds = [R.d, S.d] ∧ (VR R ∧ VR S) ∧ C (.dat (.int (greatestF R S 2 1000000))) N
def dsp_P_least_length : DSp := fun ds N C _ => ∃ R S : Ru, ds = [R.d, S.d] ∧ (VR R ∧ VR S) ∧ C (.dat (capD (leastF R S))) N
def dsp_L_excesses : DSp := fun ds N C _ => ∃ R S : Ru, ds = [R.d, S.d] ∧ (VR R ∧ VR S) ∧ C (.own ((excsF R S).map D.int)) N
def dsp_L_good : DSp := fun ds N C _ => ∃ R S : Ru, ds = [R.d, S.d] ∧ (VR R ∧ VR S) ∧ C (.dat (.bl (atmostF R S))) N
def dsp_L_in : DSp := fun ds N C _ => ∃ (d : D) (lo hi : Int), ds = [d, .int lo, .int hi] ∧ plainD d = true ∧ C (.dat (.bl (inRD d lo hi))) N
def dsp_L_better : DSp := fun ds N C _ => ∃ (p t : Int) (c : Option Int), ds = [.bag, ruleD p t c] ∧ (VRule p t c ∧ N + 40 ≤ LIM) ∧ ∀ p' t' c' N', VRule p' t' c' → (∀ (m : Nat) (ns : List Int), VRides m ns → costF p' t' c' ns ≤ costF p t c ns) → N ≤ N' → N' ≤ N + 2 → C (.dat (ruleD p' t' c')) N'
/-- all days with rides at multiples of a number -/
def daysF (by' : Int) : Nat → List (List Int)
  | 0 => [[]]
  | n + 1 => daysF by' n ++ (daysF by' n).map fun r => r ++ [by' * (n : Int)]
def dsp_L_days : DSp := fun ds N C _ => ∃ cnt b : Int, ds = [.int cnt, .int b] ∧ (0 ≤ cnt ∧ cnt ≤ 10 ∧ 1 ≤ b ∧ b ≤ 3) ∧ C (.dat (.lst ((daysF b cnt.toNat).map ridesD))) N
def dsp_L_near : DSp := fun ds N C _ => ∃ (p t : Int) (c : Option Int), ds = [.bag, ruleD p t c] ∧ (VRule p t c ∧ N + 40 ≤ LIM) ∧ ∀ p t c N', VRule p t c → N ≤ N' → N' ≤ N + 12 → C (.dat (ruleD p t c)) N'
def dsp_L_rides : DSp := fun ds N C _ => ∃ (m p t : Int) (c : Option Int), ds = [.bag, .int m, ruleD p t c] ∧ (0 ≤ m ∧ m ≤ 60 ∧ 1 ≤ t ∧ t ≤ 1440 ∧ N + 300 ≤ LIM) ∧ ∀ ns N', VRides m.toNat ns → N ≤ N' → N' ≤ N + 243 → C (.dat (ridesD ns)) N'
def dsp_L_money : DSp := fun ds N C _ => ∃ p t c n, ds = [ruleD p t c, .int n] ∧ (0 ≤ p ∧ p ≤ 1000) ∧ C (.dat (.int (moneyF p c n))) N
/-- rides every so many ticks -/
def costFromF (p t : Int) (c : Option Int) (b s : Int) : Int := moneyF p c (upF (upF (1440 - b) s) (upF t s))
def dsp_P_cost_from : DSp := fun ds N C _ => ∃ (p t : Int) (c : Option Int) (b s : Int), ds = [ruleD p t c, .int b, .int s] ∧ (0 ≤ p ∧ p ≤ 1000 ∧ 1 ≤ t ∧ t ≤ 1440 ∧ b < 1440 ∧ 1 ≤ s ∧ s ≤ 1440) ∧ C (.dat (.int (costFromF p t c b s))) N
def dsp_P_regular : DSp := fun ds N C _ => ∃ (p t : Int) (c : Option Int) (b s : Int), ds = [ruleD p t c, .int b, .int s] ∧ (VRule p t c ∧ 0 ≤ b ∧ b ≤ 1439 ∧ 1 ≤ s ∧ s ≤ 1440) ∧ C (.dat (.int (costFromF p t c b s))) N
def dsp_L_bought : DSp := fun ds N C _ => ∃ L d ns, ds = [.int L, d] ∧ (IntsD d ns ∧ ns.length ≤ 2000 ∧ ∀ x ∈ ns, 0 ≤ x) ∧ C (.own ((boughtF L ns).map D.int)) N
def dsp_L_cost : DSp := fun ds N C _ => ∃ p t c d ns, ds = [ruleD p t c, d] ∧ (IntsD d ns ∧ ns.length ≤ 2000 ∧ (∀ x ∈ ns, 0 ≤ x) ∧ 0 ≤ p ∧ p ≤ 1000) ∧ C (.dat (.int (costF p t c ns))) N
/-- ticks of one more ride with which the day costs so much -/
def hidP (p t : Int) (c : Option Int) (ns : List Int) (paid x : Int) : Bool := !decide (x ∈ ns) && decide (costF p t c (srt (ns ++ [x])) = paid)
def hiddenF (p t : Int) (c : Option Int) (ns : List Int) (paid : Int) : List Int := (natsI 1440).filter (hidP p t c ns paid)
def dsp_P_hidden_ticks : DSp := fun ds N C _ => ∃ (p t : Int) (c : Option Int) (ns : List Int) (paid : Int), ds = [ruleD p t c, ridesD ns, .int paid] ∧ (VRule p t c ∧ VRides 60 ns ∧ 0 ≤ paid ∧ paid ≤ 10000000) ∧ C (.own ((hiddenF p t c ns paid).map D.int)) N
/-- lengths with which the rides cost so much -/
def lensI : List Int := (List.range 1440).map fun i : Nat => 1 + (i : Int)
def lensF (p : Int) (c : Option Int) (ns : List Int) (paid : Int) : List Int := lensI.filter fun L => decide (costF p L c ns = paid)
def dsp_P_lengths_for : DSp := fun ds N C _ => ∃ (p : Int) (c : Option Int) (ns : List Int) (paid : Int), ds = [.int p, capD c, ridesD ns, .int paid] ∧ (VRule p 1 c ∧ VRides 60 ns ∧ 0 ≤ paid ∧ paid ≤ 10000000) ∧ C (.dat (spanD (lensF p c ns paid))) N
/-- rides that tell -/
def stepL (t : Int) (n : Nat) : List Int := (List.range n).map fun i : Nat => t * (i : Int)
def tellD (R S : Ru) : D := match fewestF R S with
  | none => .non
  | some f => ridesD (stepL R.t f.toNat)
def dsp_P_telling_rides : DSp := fun ds N C _ => ∃ R S : Ru, ds = [R.d, S.d] ∧ (VR R ∧ VR S) ∧ C (.dat (tellD R S)) N
def dsp_P_apart : DSp := fun ds N C _ => ∃ (ns : List Int) (L : Int), ds = [ridesD ns, .int L] ∧ (VRides 60 ns ∧ 1 ≤ L ∧ L ≤ 1440) ∧ C (.dat (ridesD (boughtF L ns))) N
def dsp_L_most : DSp := fun ds N C _ => ∃ (ns : List Int) (L : Int), ds = [ridesD ns, .int L] ∧ (VRides 11 ns ∧ 1 ≤ L) ∧ C (.dat (.int ((boughtF L ns).length : Nat))) N
def dsp_L_spaced : DSp := fun ds N C _ => ∃ (ns : List Int) (L : Int), ds = [ridesD ns, .int L] ∧ (ns.length ≤ 60 ∧ 1 ≤ L ∧ ns.Pairwise fun a b => a + L ≤ b) ∧ C (.dat (.bl true)) N
/-- many days -/
def begF (s : Int) (i : Nat) : Int := (0 - 1440 * (i : Int)) % s
def dayF (R : Ru) (s : Int) (i : Nat) : Int := costFromF R.p R.t R.c (begF s i) s
def sumF (f : Nat → Int) : Nat → Int
  | 0 => 0
  | n + 1 => sumF f n + f n
def dsp_P_regular_days : DSp := fun ds N C _ => ∃ (R : Ru) (s d : Int), ds = [R.d, .int s, .int d] ∧ (VR R ∧ 1 ≤ s ∧ s ≤ 1440 ∧ 0 ≤ d ∧ d ≤ 1000000000000) ∧ C (.dat (.int (sumF (dayF R s) d.toNat))) N
def dsp_L_day : DSp := fun ds N C _ => ∃ (R : Ru) (s d : Int), ds = [R.d, .int s, .int d] ∧ (VR R ∧ 1 ≤ s ∧ s ≤ 1440 ∧ 0 ≤ d) ∧ C (.dat (.int (dayF R s d.toNat))) N
def dsp_L_far : DSp := fun ds N C _ => ∃ m : Int, ds = [.bag, .int m] ∧ (1 ≤ m ∧ m ≤ 1000000000000 ∧ N + 20 ≤ LIM) ∧ ∀ (i : Int) (N' : Nat), 0 ≤ i → i < m → N ≤ N' → N' ≤ N + 10 → C (.dat (.int i)) N'
/-- what several days cost -/
def totalF (p t : Int) (c : Option Int) (days : List (List Int)) : Int := (days.map (costF p t c)).sum
def dspI_P_total_cost : DSp := fun ds N C _ => ∃ p t c days, ds = [ruleD p t c, .tup (days.map ridesD)] ∧ (VRule p t c ∧ (∀ r ∈ days, VRides 60 r) ∧ days.length ≤ 1000) ∧ C (.dat (.int (totalF p t c days))) N
def dsp_P_total_cost : DSp := dspStar 1 dspI_P_total_cost
def dspI_P_week_cost : DSp := fun ds N C _ => ∃ p t c l days, ds = [ruleD p t c, .int l, .tup (days.map ridesD)] ∧ (VRule p t c ∧ 0 ≤ l ∧ l ≤ 1000000 ∧ (∀ r ∈ days, VRides 60 r) ∧ days.length ≤ 1000) ∧ C (.dat (.int (min l (totalF p t c days)))) N
def dsp_P_week_cost : DSp := dspStar 2 dspI_P_week_cost
/-- menus -/
abbrev menuD (M : List Ru) : D := .tup (M.map Ru.d)
structure VMenu (M : List Ru) : Prop where
  l0 : 1 ≤ M.length
  l1 : M.length ≤ 6
  ok : ∀ R ∈ M, VR R
/-- the rule at a place of a menu never costs more than another one, and stands further to the front if both cost the same -/
def domF (M : List Ru) (a i : Nat) : Bool := match M[a]?, M[i]? with
  | some A, some R => decide (a ≠ i) && (atmostF A R && (decide (a < i) || !atmostF R A))
  | _, _ => false
def needB (M : List Ru) (i : Nat) : Bool := (List.range M.length).any fun a => domF M a i
def needF (M : List Ru) : List Int := ((List.range M.length).filter (needB M)).map fun i : Nat => (i : Int)
def dsp_P_check_menu : DSp := fun ds N C _ => ∃ M, ds = [menuD M] ∧ VMenu M ∧ C (.dat .non) N
def dsp_P_needless : DSp := fun ds N C _ => ∃ M, ds = [menuD M] ∧ VMenu M ∧ C (.own ((needF M).map D.int)) N
def dspI_P_cheapest : DSp := fun ds N C _ => ∃ (M : List Ru) (days : List (List Int)), ds = [menuD M, .tup (days.map ridesD)] ∧ (VMenu M ∧ (∀ r ∈ days, VRides 60 r) ∧ days.length ≤ 1000) ∧
  ∀ (i : Nat) (R : Ru), M[i]? = some R → (∀ (j : Nat) (S : Ru), M[j]? = some S → totalF R.p R.t R.c days < totalF S.p S.t S.c days ∨ (totalF R.p R.t R.c days = totalF S.p S.t S.c days ∧ i ≤ j)) → C (.dat (.tup [.int (totalF R.p R.t R.c days), .int (i : Int)])) N
def dsp_P_cheapest : DSp := dspStar 1 dspI_P_cheapest
/- equal, with equal kinds at every depth -/
mutual
def sameD : D → D → Bool
  | .lst ds, .lst es => sameDs ds es
  | .tup ds, .tup es => sameDs ds es
  | .v x, .v y => decide (x = y)
  | _, _ => false
def sameDs : List D → List D → Bool
  | [], [] => true
  | d :: ds, e :: es => sameD d e && sameDs ds es
  | _, _ => false
end
/- data, nested at most n deep, no list too long -/
mutual
def oz : Nat → D → Bool
  | _, .v .non => true
  | _, .v (.bl _) => true
  | _, .v (.int _) => true
  | _, .v (.str x) => PyData.strOk x
  | n + 1, .tup ds => decide (ds.length ≤ 5000) && ozs n ds
  | n + 1, .lst ds => decide (ds.length ≤ 5000) && ozs n ds
  | _, _ => false
def ozs : Nat → List D → Bool
  | _, [] => true
  | n, d :: ds => oz n d && ozs n ds
end
def dspR_L_same : Nat → DSp
  | 0 => dspNo
  | n + 1 => fun ds N C _ => ∃ d e, ds = [d, e] ∧ (oz n d = true ∧ oz n e = true) ∧ C (.dat (.bl (sameD d e))) N
def dsp_L_same : DSp := dspR_L_same 4
end LAW

namespace LAW
open PySem PySem.Spec PyProof.Rows L2 DL
variable [TabNames]
def d_P_in_range : DS := (dRet (dAndV (dIsa .int (dVar 0)) (dAndV (dNotV (dIsa .bool (dVar 0))) (dChain dLe dLe (dVar 1) (dVar 0) (dVar 2)))))
def d_P_is_rule : DS := (dSeq (dIf (dOr (dNot (dTest (dIsa .tuple (dVar 0)))) (dTest (dOp (dEq true) (dCB dLen (dCons (dVar 0) dNil)) (dC (.int 3))))) (dRet (dC (.bl false))) dNext)
  (dSeq (dIf (dOr (dNot (dTest (dCall E00 dsp_P_in_range (dCons (dOp dIx (dVar 0) (dC (.int 0))) (dCons (dC (.int 0)) (dCons (dC (.int 1000)) dNil)))))) (dNot (dTest (dCall E00 dsp_P_in_range (dCons (dOp dIx (dVar 0) (dC (.int 1))) (dCons (dC (.int 1)) (dCons (dC (.int 1440)) dNil))))))) (dRet (dC (.bl false))) dNext)
  (dRet (dOrV (dOp (dIs false) (dOp dIx (dVar 0) (dC (.int 2))) (dC .non)) (dCall E00 dsp_P_in_range (dCons (dOp dIx (dVar 0) (dC (.int 2))) (dCons (dC (.int 0)) (dCons (dC (.int 1000000)) dNil))))))))
def d_P_is_rides : DS := (dSeq (dIf (dOr (dNot (dTest (dIsa .tuple (dVar 0)))) (dTest (dOp dGt (dCB dLen (dCons (dVar 0) dNil)) (dC (.int 60))))) (dRet (dC (.bl false))) dNext)
  (dSeq (dIf (dNot (dTest (dCB dAll (dCons (dLc (dSeqI (dVar 0)) (dgName 1) dYes (dCall E00 dsp_P_in_range (dCons (dVar 1) (dCons (dC (.int 0)) (dCons (dOp dSub (dC (.int 1440)) (dC (.int 1))) dNil)))) [1]) dNil)))) (dRet (dC (.bl false))) dNext)
  (dRet (dCB dAll (dCons (dLc (dZip (dCons (dVar 0) (dCons (dSl (dVar 0) (dPart (dC (.int 1))) dNoPart) dNil))) (dgTup 2 (dgCons (dgName 1) (dgCons (dgName 2) dgNil))) dYes (dOp dLt (dVar 1) (dVar 2)) [1, 2]) dNil)))))
def d_P_check_rule : DS := (dIf (dNot (dTest (dCall E00 dsp_P_is_rule (dCons (dVar 0) dNil)))) dNever dNext)
def d_P_check_rides : DS := (dIf (dNot (dTest (dCall E00 dsp_P_is_rides (dCons (dVar 0) dNil)))) dNever dNext)
def d_P_check_menu : DS := (dIf (dOr (dNot (dTest (dIsa .tuple (dVar 0)))) (dOr (dNot (dTest (dChain dLe dLe (dC (.int 1)) (dCB dLen (dCons (dVar 0) dNil)) (dC (.int 6))))) (dNot (dTest (dCB dAll (dCons (dLc (dSeqI (dVar 0)) (dgName 1) dYes (dCall E00 dsp_P_is_rule (dCons (dVar 1) dNil)) [1]) dNil)))))) dNever dNext)
def d_P_check_number : DS := (dIf (dNot (dTest (dCall E00 dsp_P_in_range (dCons (dVar 0) (dCons (dVar 1) (dCons (dVar 2) dNil)))))) dNever dNext)
def d_P_bought_of : DS := (dSeq (dAsg true 2 (dLst dNil))
  (dSeq (dFor (dSeqI (dVar 1)) (dgName 3) (dIf (dOr (dTest (dOp (dEq false) (dVar 2) (dLst dNil))) (dTest (dOp dGe (dVar 3) (dOp dAdd (dOp dIx (dVar 2) (dNeg (dC (.int 1)))) (dVar 0))))) (dApp 2 (dVar 3)) dNext))
  (dRet (dVar 2))))
def d_P_money : DS := (dSeq (dAsgT (dgTup 3 (dgCons (dgName 2) (dgCons (dgName 3) (dgCons (dgName 4) dgNil)))) (dVar 0))
  (dRet (dIfE (dTest (dOp (dIs false) (dVar 4) (dC .non))) (dOp dMul (dVar 1) (dVar 2)) (dCB (dII min) (dCons (dOp dMul (dVar 1) (dVar 2)) (dCons (dVar 4) dNil))))))
def d_P_cost_of : DS := (dRet (dCall E00 dsp_P_money (dCons (dVar 0) (dCons (dCB dLen (dCons (dCall E00 dsp_P_bought_of (dCons (dOp dIx (dVar 0) (dC (.int 1))) (dCons (dVar 1) dNil))) dNil)) dNil))))
def d_P_bought : DS := (dSeq (dDrop (dCall E00 dsp_P_check_rule (dCons (dVar 0) dNil)))
  (dSeq (dDrop (dCall E00 dsp_P_check_rides (dCons (dVar 1) dNil)))
  (dRet (dCall E00 dsp_P_bought_of (dCons (dOp dIx (dVar 0) (dC (.int 1))) (dCons (dVar 1) dNil))))))
def d_P_cost : DS := (dSeq (dDrop (dCall E00 dsp_P_check_rule (dCons (dVar 0) dNil)))
  (dSeq (dDrop (dCall E00 dsp_P_check_rides (dCons (dVar 1) dNil)))
  (dRet (dCall E00 dsp_P_cost_of (dCons (dVar 0) (dCons (dVar 1) dNil))))))
def d_P_total_cost : DS := (dSeq (dDrop (dCall E00 dsp_P_check_rule (dCons (dVar 0) dNil)))
  (dSeq (dFor (dSeqI (dVar 1)) (dgName 2) (dDrop (dCall E00 dsp_P_check_rides (dCons (dVar 2) dNil))))
  (dRet (dCB dSum (dCons (dLc (dSeqI (dVar 1)) (dgName 2) dYes (dCall E00 dsp_P_cost_of (dCons (dVar 0) (dCons (dVar 2) dNil))) [2]) dNil)))))
def d_P_week_cost : DS := (dSeq (dDrop (dCall E00 dsp_P_check_rule (dCons (dVar 0) dNil)))
  (dSeq (dDrop (dCall E00 dsp_P_check_number (dCons (dVar 1) (dCons (dC (.int 0)) (dCons (dC (.int 1000000)) dNil)))))
  (dSeq (dFor (dSeqI (dVar 2)) (dgName 3) (dDrop (dCall E00 dsp_P_check_rides (dCons (dVar 3) dNil))))
  (dRet (dCB (dII min) (dCons (dVar 1) (dCons (dCB dSum (dCons (dLc (dSeqI (dVar 2)) (dgName 3) dYes (dCall E00 dsp_P_cost_of (dCons (dVar 0) (dCons (dVar 3) dNil))) [3]) dNil)) dNil)))))))
def d_P_apart : DS := (dSeq (dDrop (dCall E00 dsp_P_check_rides (dCons (dVar 0) dNil)))
  (dSeq (dDrop (dCall E00 dsp_P_check_number (dCons (dVar 1) (dCons (dC (.int 1)) (dCons (dC (.int 1440)) dNil)))))
  (dRet (dCB dTuple (dCons (dCall E00 dsp_P_bought_of (dCons (dVar 1) (dCons (dVar 0) dNil))) dNil)))))
def d_P_up : DS := (dRet (dOp dDiv (dOp dSub (dOp dAdd (dVar 0) (dVar 1)) (dC (.int 1))) (dVar 1)))
def d_P_most_tickets : DS := (dRet (dCall E00 dsp_P_up (dCons (dC (.int 1440)) (dCons (dOp dIx (dVar 0) (dC (.int 1))) dNil))))
def d_P_excess : DS := (dRet (dOp dSub (dCall E00 dsp_P_money (dCons (dVar 0) (dCons (dVar 2) dNil))) (dCall E00 dsp_P_money (dCons (dVar 1) (dCons (dCall E00 dsp_P_up (dCons (dVar 2) (dCons (dCall E00 dsp_P_up (dCons (dOp dIx (dVar 1) (dC (.int 1))) (dCons (dOp dIx (dVar 0) (dC (.int 1))) dNil))) dNil))) dNil)))))
def d_P_at_most : DS := (dRet (dCB dAll (dCons (dLc (dRng2 (dCons (dC (.int 1)) (dCons (dOp dAdd (dCall E00 dsp_P_most_tickets (dCons (dVar 0) dNil)) (dC (.int 1))) dNil))) (dgName 2) dYes (dOp dLe (dCall E00 dsp_P_excess (dCons (dVar 0) (dCons (dVar 1) (dCons (dVar 2) dNil)))) (dC (.int 0))) [2]) dNil)))
def d_P_never_dearer : DS := (dSeq (dDrop (dCall E00 dsp_P_check_rule (dCons (dVar 0) dNil)))
  (dSeq (dDrop (dCall E00 dsp_P_check_rule (dCons (dVar 1) dNil)))
  (dRet (dCall E00 dsp_P_at_most (dCons (dVar 0) (dCons (dVar 1) dNil))))))
def d_P_largest_excess : DS := (dSeq (dDrop (dCall E00 dsp_P_check_rule (dCons (dVar 0) dNil)))
  (dSeq (dDrop (dCall E00 dsp_P_check_rule (dCons (dVar 1) dNil)))
  (dRet (dCB dMaxL (dCons (dOp dAdd (dLst (dCons (dC (.int 0)) dNil)) (dLc (dRng2 (dCons (dC (.int 1)) (dCons (dOp dAdd (dCall E00 dsp_P_most_tickets (dCons (dVar 0) dNil)) (dC (.int 1))) dNil))) (dgName 2) dYes (dCall E00 dsp_P_excess (dCons (dVar 0) (dCons (dVar 1) (dCons (dVar 2) dNil)))) [2])) dNil)))))
def d_P_fewest : DS := (dSeq (dFor (dRng2 (dCons (dC (.int 1)) (dCons (dOp dAdd (dCall E00 dsp_P_most_tickets (dCons (dVar 0) dNil)) (dC (.int 1))) dNil))) (dgName 2) (dIf (dTest (dOp dGt (dCall E00 dsp_P_excess (dCons (dVar 0) (dCons (dVar 1) (dCons (dVar 2) dNil)))) (dC (.int 0)))) (dRet (dVar 2)) dNext))
  (dRet (dC .non)))
def d_P_fewest_rides : DS := (dSeq (dDrop (dCall E00 dsp_P_check_rule (dCons (dVar 0) dNil)))
  (dSeq (dDrop (dCall E00 dsp_P_check_rule (dCons (dVar 1) dNil)))
  (dRet (dCall E00 dsp_P_fewest (dCons (dVar 0) (dCons (dVar 1) dNil))))))
def d_P_telling_rides : DS := (dSeq (dDrop (dCall E00 dsp_P_check_rule (dCons (dVar 0) dNil)))
  (dSeq (dDrop (dCall E00 dsp_P_check_rule (dCons (dVar 1) dNil)))
  (dSeq (dAsg false 2 (dCall E00 dsp_P_fewest (dCons (dVar 0) (dCons (dVar 1) dNil))))
  (dRet (dIfE (dTest (dOp (dIs false) (dVar 2) (dC .non))) (dC .non) (dCB dTuple (dCons (dLc (dRng1 (dCons (dVar 2) dNil)) (dgName 3) dYes (dOp dMul (dOp dIx (dVar 0) (dC (.int 1))) (dVar 3)) [3]) dNil)))))))
def d_P_alike : DS := (dSeq (dDrop (dCall E00 dsp_P_check_rule (dCons (dVar 0) dNil)))
  (dSeq (dDrop (dCall E00 dsp_P_check_rule (dCons (dVar 1) dNil)))
  (dRet (dAndV (dCall E00 dsp_P_at_most (dCons (dVar 0) (dCons (dVar 1) dNil))) (dCall E00 dsp_P_at_most (dCons (dVar 1) (dCons (dVar 0) dNil)))))))
def d_P_cost_from : DS := (dSeq (dAsg false 3 (dIfE (dTest (dOp dLt (dVar 1) (dC (.int 1440)))) (dCall E00 dsp_P_up (dCons (dOp dSub (dC (.int 1440)) (dVar 1)) (dCons (dVar 2) dNil))) (dC (.int 0))))
  (dRet (dCall E00 dsp_P_money (dCons (dVar 0) (dCons (dCall E00 dsp_P_up (dCons (dVar 3) (dCons (dCall E00 dsp_P_up (dCons (dOp dIx (dVar 0) (dC (.int 1))) (dCons (dVar 2) dNil))) dNil))) dNil)))))
def d_P_regular : DS := (dSeq (dDrop (dCall E00 dsp_P_check_rule (dCons (dVar 0) dNil)))
  (dSeq (dDrop (dCall E00 dsp_P_check_number (dCons (dVar 1) (dCons (dC (.int 0)) (dCons (dOp dSub (dC (.int 1440)) (dC (.int 1))) dNil)))))
  (dSeq (dDrop (dCall E00 dsp_P_check_number (dCons (dVar 2) (dCons (dC (.int 1)) (dCons (dC (.int 1440)) dNil)))))
  (dRet (dCall E00 dsp_P_cost_from (dCons (dVar 0) (dCons (dVar 1) (dCons (dVar 2) dNil))))))))
def d_P_regular_days : DS := (dSeq (dDrop (dCall E00 dsp_P_check_rule (dCons (dVar 0) dNil)))
  (dSeq (dDrop (dCall E00 dsp_P_check_number (dCons (dVar 1) (dCons (dC (.int 1)) (dCons (dC (.int 1440)) dNil)))))
  (dSeq (dDrop (dCall E00 dsp_P_check_number (dCons (dVar 2) (dCons (dC (.int 0)) (dCons (dC (.int 1000000000000)) dNil)))))
  (dSeq (dParK 3 4 (dLst dNil) (dC (.int 0)))
  (dSeq (dWhile (dOr (dTest (dOp (dEq false) (dVar 3) (dLst dNil))) (dTest (dOp (dEq true) (dVar 4) (dC (.int 0))))) (dSeq (dApp 3 (dCall E00 dsp_P_cost_from (dCons (dVar 0) (dCons (dVar 4) (dCons (dVar 1) dNil)))))
  (dAsg false 4 (dOp dMod (dOp dSub (dVar 4) (dC (.int 1440))) (dVar 1)))))
  (dSeq (dPar 5 6 (dCons (dOp dDiv (dVar 2) (dCB dLen (dCons (dVar 3) dNil))) (dCons (dOp dMod (dVar 2) (dCB dLen (dCons (dVar 3) dNil))) dNil)))
  (dRet (dOp dAdd (dOp dMul (dVar 5) (dCB dSum (dCons (dVar 3) dNil))) (dCB dSum (dCons (dSl (dVar 3) dNoPart (dPart (dVar 6))) dNil))))))))))
def d_P_with_part : DS := (dRet (dOp dAdd (dOp dAdd (dSl (dVar 0) dNoPart (dPart (dVar 1))) (dTup (dCons (dVar 2) dNil))) (dSl (dVar 0) (dPart (dOp dAdd (dVar 1) (dC (.int 1)))) dNoPart)))
def d_P_greatest : DS := (dSeq (dPar 4 5 (dCons (dC (.int 0)) (dCons (dVar 3) dNil)))
  (dSeq (dWhile (dTest (dOp dLt (dVar 4) (dVar 5))) (dSeq (dAsg false 6 (dOp dDiv (dOp dAdd (dOp dAdd (dVar 4) (dVar 5)) (dC (.int 1))) (dC (.int 2))))
  (dIf (dTest (dCall E00 dsp_P_at_most (dCons (dCall E00 dsp_P_with_part (dCons (dVar 0) (dCons (dVar 2) (dCons (dVar 6) dNil)))) (dCons (dVar 1) dNil)))) (dAsg false 4 (dVar 6)) (dAsg false 5 (dOp dSub (dVar 6) (dC (.int 1)))))))
  (dRet (dVar 4))))
def d_P_greatest_price : DS := (dSeq (dDrop (dCall E00 dsp_P_check_rule (dCons (dVar 0) dNil)))
  (dSeq (dDrop (dCall E00 dsp_P_check_rule (dCons (dVar 1) dNil)))
  (dRet (dCall E00 dsp_P_greatest (dCons (dVar 0) (dCons (dVar 1) (dCons (dC (.int 0)) (dCons (dC (.int 1000)) dNil))))))))
def d_P_greatest_cap : DS := (dSeq (dDrop (dCall E00 dsp_P_check_rule (dCons (dVar 0) dNil)))
  (dSeq (dDrop (dCall E00 dsp_P_check_rule (dCons (dVar 1) dNil)))
  (dRet (dCall E00 dsp_P_greatest (dCons (dVar 0) (dCons (dVar 1) (dCons (dC (.int 2)) (dCons (dC (.int 1000000)) dNil))))))))
def d_P_least_length : DS := (dSeq (dDrop (dCall E00 dsp_P_check_rule (dCons (dVar 0) dNil)))
  (dSeq (dDrop (dCall E00 dsp_P_check_rule (dCons (dVar 1) dNil)))
  (dSeq (dIf (dNot (dTest (dCall E00 dsp_P_at_most (dCons (dCall E00 dsp_P_with_part (dCons (dVar 0) (dCons (dC (.int 1)) (dCons (dC (.int 1440)) dNil)))) (dCons (dVar 1) dNil))))) (dRet (dC .non)) dNext)
  (dSeq (dPar 2 3 (dCons (dC (.int 1)) (dCons (dC (.int 1440)) dNil)))
  (dSeq (dWhile (dTest (dOp dLt (dVar 2) (dVar 3))) (dSeq (dAsg false 4 (dOp dDiv (dOp dAdd (dVar 2) (dVar 3)) (dC (.int 2))))
  (dIf (dTest (dCall E00 dsp_P_at_most (dCons (dCall E00 dsp_P_with_part (dCons (dVar 0) (dCons (dC (.int 1)) (dCons (dVar 4) dNil)))) (dCons (dVar 1) dNil)))) (dAsg false 3 (dVar 4)) (dAsg false 2 (dOp dAdd (dVar 4) (dC (.int 1)))))))
  (dRet (dVar 2)))))))
def d_P_cheapest : DS := (dSeq (dDrop (dCall E00 dsp_P_check_menu (dCons (dVar 0) dNil)))
  (dSeq (dFor (dSeqI (dVar 1)) (dgName 2) (dDrop (dCall E00 dsp_P_check_rides (dCons (dVar 2) dNil))))
  (dRet (dCB dMinP (dCons (dLc (dEnumT (dCons (dVar 0) dNil)) (dgTup 2 (dgCons (dgName 3) (dgCons (dgName 4) dgNil))) dYes (dTup (dCons (dCB dSum (dCons (dLc (dSeqI (dVar 1)) (dgName 2) dYes (dCall E00 dsp_P_cost_of (dCons (dVar 4) (dCons (dVar 2) dNil))) [2]) dNil)) (dCons (dVar 3) dNil))) [3, 4]) dNil)))))
def d_P_needless : DS := (dSeq (dDrop (dCall E00 dsp_P_check_menu (dCons (dVar 0) dNil)))
  (dSeq (dAsg true 1 (dLst dNil))
  (dSeq (dFor (dEnumT (dCons (dVar 0) dNil)) (dgTup 2 (dgCons (dgName 2) (dgCons (dgName 3) dgNil))) (dFor (dEnumT (dCons (dVar 0) dNil)) (dgTup 2 (dgCons (dgName 4) (dgCons (dgName 5) dgNil))) (dIf (dAnd (dTest (dOp (dEq true) (dVar 4) (dVar 2))) (dAnd (dTest (dCall E00 dsp_P_at_most (dCons (dVar 5) (dCons (dVar 3) dNil)))) (dOr (dTest (dOp dLt (dVar 4) (dVar 2))) (dNot (dTest (dCall E00 dsp_P_at_most (dCons (dVar 3) (dCons (dVar 5) dNil)))))))) (dApp 1 (dVar 2)) dNext)))
  (dRet (dSSetL (dVar 1))))))
def d_P_tickets_for : DS := (dSeq (dDrop (dCall E00 dsp_P_check_rule (dCons (dVar 0) dNil)))
  (dSeq (dDrop (dCall E00 dsp_P_check_number (dCons (dVar 1) (dCons (dC (.int 0)) (dCons (dC (.int 10000000)) dNil)))))
  (dSeq (dAsg false 2 (dLc (dRng1 (dCons (dOp dAdd (dCall E00 dsp_P_most_tickets (dCons (dVar 0) dNil)) (dC (.int 1))) dNil)) (dgName 3) (dTest (dOp (dEq false) (dCall E00 dsp_P_money (dCons (dVar 0) (dCons (dVar 3) dNil))) (dVar 1))) (dVar 3) [3]))
  (dRet (dIfE (dTest (dOp (dEq true) (dVar 2) (dLst dNil))) (dTup (dCons (dOp dIx (dVar 2) (dC (.int 0))) (dCons (dOp dIx (dVar 2) (dNeg (dC (.int 1)))) dNil))) (dC .non))))))
def d_P_hidden_ticks : DS := (dSeq (dDrop (dCall E00 dsp_P_check_rule (dCons (dVar 0) dNil)))
  (dSeq (dDrop (dCall E00 dsp_P_check_rides (dCons (dVar 1) dNil)))
  (dSeq (dDrop (dCall E00 dsp_P_check_number (dCons (dVar 2) (dCons (dC (.int 0)) (dCons (dC (.int 10000000)) dNil)))))
  (dSeq (dAsg true 3 (dLst dNil))
  (dSeq (dFor (dRng1 (dCons (dC (.int 1440)) dNil)) (dgName 4) (dIf (dAnd (dTest (dOp (dIn true) (dVar 4) (dVar 1))) (dTest (dOp (dEq false) (dCall E00 dsp_P_cost_of (dCons (dVar 0) (dCons (dCB dSort (dCons (dOp dAdd (dVar 1) (dTup (dCons (dVar 4) dNil))) dNil)) dNil))) (dVar 2)))) (dApp 3 (dVar 4)) dNext))
  (dRet (dVar 3)))))))
def d_P_lengths_for : DS := (dSeq (dIf (dNot (dTest (dCall E00 dsp_P_is_rule (dCons (dTup (dCons (dVar 0) (dCons (dC (.int 1)) (dCons (dVar 1) dNil)))) dNil)))) dNever dNext)
  (dSeq (dDrop (dCall E00 dsp_P_check_rides (dCons (dVar 2) dNil)))
  (dSeq (dDrop (dCall E00 dsp_P_check_number (dCons (dVar 3) (dCons (dC (.int 0)) (dCons (dC (.int 10000000)) dNil)))))
  (dSeq (dAsg false 4 (dLc (dRng2 (dCons (dC (.int 1)) (dCons (dOp dAdd (dC (.int 1440)) (dC (.int 1))) dNil))) (dgName 5) (dTest (dOp (dEq false) (dCall E00 dsp_P_cost_of (dCons (dTup (dCons (dVar 0) (dCons (dVar 5) (dCons (dVar 1) dNil)))) (dCons (dVar 2) dNil))) (dVar 3))) (dVar 5) [5]))
  (dRet (dIfE (dTest (dOp (dEq true) (dVar 4) (dLst dNil))) (dTup (dCons (dOp dIx (dVar 4) (dC (.int 0))) (dCons (dOp dIx (dVar 4) (dNeg (dC (.int 1)))) dNil))) (dC .non)))))))
def d_L_well : DS := (dSeq (dIf (dTest (dOp dGe (dVar 0) (dOp dPow (dC (.int 10)) (dC (.int 18))))) (dRet (dBag (dLst (dCons (dOp dSub (dVar 0) (dOp dPow (dC (.int 10)) (dC (.int 18)))) (dCons (dOp dMod (dVar 0) (dC (.int 2305843009213693951))) (dCons (dVar 1) dNil)))))) dNext)
  (dRet (dBag (dLst (dCons (dC (.int 0)) (dCons (dOp dMod (dVar 0) (dC (.int 2305843009213693951))) (dCons (dVar 1) dNil)))))))
def d_L_bags : DS := (dRet (dLc (dEnum (dCons (dOp dAdd (dSl (dVar 0) dNoPart (dPart (dVar 1))) (dLst (dCons (dC (.int 0)) dNil))) dNil)) (dgTup 2 (dgCons (dgName 2) (dgCons (dgName 3) dgNil))) dYes (dCall E00 dsp_L_well (dCons (dVar 3) (dCons (dOp dMul (dC (.int 977)) (dVar 2)) dNil))) [2, 3]))
def d_L_same (self : DSp) : DS := (dSeq (dIf (dOr (dAnd (dTest (dIsa .list (dVar 0))) (dTest (dIsa .list (dVar 1)))) (dAnd (dTest (dIsa .tuple (dVar 0))) (dTest (dIsa .tuple (dVar 1))))) (dRet (dAndV (dOp (dEq false) (dCB dLen (dCons (dVar 0) dNil)) (dCB dLen (dCons (dVar 1) dNil))) (dCB dAll (dCons (dLc (dZip (dCons (dVar 0) (dCons (dVar 1) dNil))) (dgTup 2 (dgCons (dgName 2) (dgCons (dgName 3) dgNil))) dYes (dCall E00 self (dCons (dVar 2) (dCons (dVar 3) dNil))) [2, 3]) dNil)))) dNext)
  (dSeq (dIf (dOr (dTest (dIsaT [.bool, .list, .tuple] (dVar 0))) (dTest (dIsaT [.bool, .list, .tuple] (dVar 1)))) (dRet (dAndV (dIsa .bool (dVar 0)) (dAndV (dIsa .bool (dVar 1)) (dOp (dEq false) (dVar 0) (dVar 1))))) dNext)
  (dSeq (dIf (dOr (dTest (dIsa .int (dVar 0))) (dTest (dIsa .int (dVar 1)))) (dRet (dAndV (dIsa .int (dVar 0)) (dAndV (dIsa .int (dVar 1)) (dOp (dEq false) (dVar 0) (dVar 1))))) dNext)
  (dSeq (dIf (dOr (dTest (dIsa .str (dVar 0))) (dTest (dIsa .str (dVar 1)))) (dRet (dAndV (dIsa .str (dVar 0)) (dAndV (dIsa .str (dVar 1)) (dOp (dEq false) (dVar 0) (dVar 1))))) dNext)
  (dRet (dAndV (dOp (dIs false) (dVar 0) (dC .non)) (dOp (dIs false) (dVar 1) (dC .non))))))))
def d_L_in : DS := (dRet (dAndV (dIsa .int (dVar 0)) (dAndV (dNotV (dIsa .bool (dVar 0))) (dChain dLe dLe (dVar 1) (dVar 0) (dVar 2)))))
def d_L_rule : DS := (dSeq (dAsg false 1 (dCall E00 dsp_L_take (dCons (dVar 0) (dCons (dOp dIx (dLst (dCons (dC (.int 6)) (dCons (dC (.int 1001)) dNil))) (dCall E00 dsp_L_take (dCons (dVar 0) (dCons (dC (.int 2)) dNil)))) dNil))))
  (dSeq (dAsg false 2 (dLst (dCons (dOp dAdd (dC (.int 1)) (dCall E00 dsp_L_take (dCons (dVar 0) (dCons (dC (.int 12)) dNil)))) (dCons (dOp dAdd (dC (.int 1)) (dCall E00 dsp_L_take (dCons (dVar 0) (dCons (dC (.int 1440)) dNil)))) (dCons (dOp dDiv (dC (.int 1440)) (dOp dAdd (dC (.int 1)) (dCall E00 dsp_L_take (dCons (dVar 0) (dCons (dC (.int 30)) dNil))))) (dCons (dC (.int 1440)) dNil))))))
  (dSeq (dAsg false 3 (dOp dIx (dVar 2) (dCall E00 dsp_L_take (dCons (dVar 0) (dCons (dC (.int 4)) dNil)))))
  (dSeq (dAsg false 4 (dLst (dCons (dC .non) (dCons (dOp dAdd (dOp dMul (dVar 1) (dCall E00 dsp_L_take (dCons (dVar 0) (dCons (dC (.int 6)) dNil)))) (dCall E00 dsp_L_take (dCons (dVar 0) (dCons (dC (.int 3)) dNil)))) (dCons (dCall E00 dsp_L_take (dCons (dVar 0) (dCons (dC (.int 30)) dNil))) (dCons (dCall E00 dsp_L_take (dCons (dVar 0) (dCons (dOp dAdd (dOp dPow (dC (.int 10)) (dC (.int 6))) (dC (.int 1))) dNil))) dNil))))))
  (dRet (dTup (dCons (dVar 1) (dCons (dVar 3) (dCons (dOp dIx (dVar 4) (dCall E00 dsp_L_take (dCons (dVar 0) (dCons (dC (.int 4)) dNil)))) dNil)))))))))
def d_L_rides : DS := (dSeq (dPar 3 4 (dCons (dTup dNil) (dCons (dCall E00 dsp_L_take (dCons (dVar 0) (dCons (dOp dIx (dLst (dCons (dC (.int 1)) (dCons (dC (.int 1440)) dNil))) (dCall E00 dsp_L_take (dCons (dVar 0) (dCons (dC (.int 2)) dNil)))) dNil))) dNil)))
  (dSeq (dFor (dRng1 (dCons (dCall E00 dsp_L_take (dCons (dVar 0) (dCons (dOp dAdd (dVar 1) (dC (.int 1))) dNil))) dNil)) (dgName 5) (dSeq (dIf (dTest (dOp dLt (dVar 4) (dC (.int 1440)))) (dAsg false 3 (dOp dAdd (dVar 3) (dTup (dCons (dVar 4) dNil)))) dNext)
  (dSeq (dAsg false 6 (dCB (dII max) (dCons (dC (.int 1)) (dCons (dOp dSub (dOp dAdd (dOp dIx (dVar 2) (dC (.int 1))) (dCall E00 dsp_L_take (dCons (dVar 0) (dCons (dC (.int 3)) dNil)))) (dC (.int 1))) dNil))))
  (dAsg false 4 (dOp dAdd (dVar 4) (dOp dIx (dLst (dCons (dC (.int 1)) (dCons (dOp dAdd (dC (.int 1)) (dCall E00 dsp_L_take (dCons (dVar 0) (dCons (dC (.int 40)) dNil)))) (dCons (dVar 6) (dCons (dOp dAdd (dC (.int 1)) (dCall E00 dsp_L_take (dCons (dVar 0) (dCons (dOp dMul (dC (.int 2)) (dOp dIx (dVar 2) (dC (.int 1)))) dNil)))) dNil))))) (dCall E00 dsp_L_take (dCons (dVar 0) (dCons (dC (.int 4)) dNil)))))))))
  (dRet (dVar 3))))
def d_L_bought : DS := (dSeq (dParK 2 3 (dLst dNil) (dNeg (dC (.int 1))))
  (dSeq (dFor (dSeqI (dVar 1)) (dgName 4) (dIf (dTest (dOp dGe (dVar 4) (dVar 3))) (dSeq (dApp 2 (dVar 4))
  (dAsg false 3 (dOp dAdd (dVar 4) (dVar 0)))) dNext))
  (dRet (dVar 2))))
def d_L_money : DS := (dSeq (dAsg false 2 (dOp dMul (dOp dIx (dVar 0) (dC (.int 0))) (dVar 1)))
  (dRet (dIfE (dOr (dTest (dOp (dIs false) (dOp dIx (dVar 0) (dC (.int 2))) (dC .non))) (dTest (dOp dLt (dVar 2) (dOp dIx (dVar 0) (dC (.int 2)))))) (dVar 2) (dOp dIx (dVar 0) (dC (.int 2))))))
def d_L_cost : DS := (dRet (dCall E00 dsp_L_money (dCons (dVar 0) (dCons (dCB dLen (dCons (dCall E00 dsp_L_bought (dCons (dOp dIx (dVar 0) (dC (.int 1))) (dCons (dVar 1) dNil))) dNil)) dNil))))
def d_L_most : DS := (dSeq (dAsg false 2 (dLst (dCons (dTup dNil) dNil)))
  (dSeq (dFor (dSeqI (dVar 0)) (dgName 3) (dAsg false 2 (dOp dAdd (dVar 2) (dLc (dSeqI (dVar 2)) (dgName 4) (dOr (dTest (dOp (dEq false) (dVar 4) (dTup dNil))) (dTest (dOp dGe (dOp dSub (dVar 3) (dOp dIx (dVar 4) (dNeg (dC (.int 1))))) (dVar 1)))) (dOp dAdd (dVar 4) (dTup (dCons (dVar 3) dNil))) [4]))))
  (dRet (dCB dMaxL (dCons (dLc (dSeqI (dVar 2)) (dgName 4) dYes (dCB dLen (dCons (dVar 4) dNil)) [4]) dNil)))))
def d_L_spaced : DS := (dRet (dOp (dEq false) (dLc (dZip (dCons (dVar 0) (dCons (dSl (dVar 0) (dPart (dC (.int 1))) dNoPart) dNil))) (dgTup 2 (dgCons (dgName 2) (dgCons (dgName 3) dgNil))) (dTest (dOp dLt (dOp dSub (dVar 3) (dVar 2)) (dVar 1))) (dC (.int 1)) [2, 3]) (dLst dNil)))
def d_L_near : DS := (dSeq (dAsgT (dgTup 3 (dgCons (dgName 2) (dgCons (dgName 3) (dgCons (dgName 4) dgNil)))) (dVar 1))
  (dSeq (dAsg false 5 (dCall E00 dsp_L_take (dCons (dVar 0) (dCons (dC (.int 6)) dNil))))
  (dSeq (dIf (dTest (dOp (dEq false) (dVar 5) (dC (.int 0)))) (dRet (dTup (dCons (dVar 2) (dCons (dCB (dII min) (dCons (dC (.int 1440)) (dCons (dCB (dII max) (dCons (dC (.int 1)) (dCons (dOp dSub (dOp dAdd (dVar 3) (dCall E00 dsp_L_take (dCons (dVar 0) (dCons (dC (.int 5)) dNil)))) (dC (.int 2))) dNil))) dNil))) (dCons (dVar 4) dNil))))) dNext)
  (dSeq (dIf (dTest (dOp (dEq false) (dVar 5) (dC (.int 1)))) (dSeq (dAsg false 6 (dOp dAdd (dC (.int 1)) (dCall E00 dsp_L_take (dCons (dVar 0) (dCons (dC (.int 4)) dNil)))))
  (dRet (dTup (dCons (dCB (dII min) (dCons (dC (.int 1000)) (dCons (dOp dMul (dVar 2) (dVar 6)) dNil))) (dCons (dCB (dII min) (dCons (dC (.int 1440)) (dCons (dOp dAdd (dOp dMul (dVar 3) (dVar 6)) (dCall E00 dsp_L_take (dCons (dVar 0) (dCons (dC (.int 2)) dNil)))) dNil))) (dCons (dVar 4) dNil)))))) dNext)
  (dSeq (dIf (dTest (dOp (dEq false) (dVar 5) (dC (.int 2)))) (dSeq (dAsg false 7 (dIfE (dOr (dTest (dOp (dEq false) (dCall E00 dsp_L_take (dCons (dVar 0) (dCons (dC (.int 3)) dNil))) (dC (.int 0)))) (dTest (dOp (dIs false) (dVar 4) (dC .non)))) (dC .non) (dCB (dII min) (dCons (dOp dPow (dC (.int 10)) (dC (.int 6))) (dCons (dOp dAdd (dVar 4) (dCall E00 dsp_L_take (dCons (dVar 0) (dCons (dC (.int 4)) dNil)))) dNil)))))
  (dRet (dTup (dCons (dCB (dII min) (dCons (dC (.int 1000)) (dCons (dOp dAdd (dVar 2) (dCall E00 dsp_L_take (dCons (dVar 0) (dCons (dC (.int 2)) dNil)))) dNil))) (dCons (dVar 3) (dCons (dVar 7) dNil)))))) dNext)
  (dSeq (dIf (dTest (dOp (dEq false) (dVar 5) (dC (.int 3)))) (dSeq (dAsg false 6 (dOp dAdd (dC (.int 1)) (dCall E00 dsp_L_take (dCons (dVar 0) (dCons (dC (.int 3)) dNil)))))
  (dRet (dTup (dCons (dOp dDiv (dVar 2) (dVar 6)) (dCons (dCB (dII max) (dCons (dC (.int 1)) (dCons (dOp dDiv (dVar 3) (dVar 6)) dNil))) (dCons (dVar 4) dNil)))))) dNext)
  (dRet (dIfE (dTest (dOp (dEq false) (dVar 5) (dC (.int 4)))) (dTup (dCons (dVar 2) (dCons (dVar 3) (dCons (dOp dMul (dC (.int 3)) (dVar 2)) dNil)))) (dCall E00 dsp_L_rule (dCons (dVar 0) dNil))))))))))
def d_L_excesses : DS := (dSeq (dTupO 2 4 (dLst dNil) (dCons (dC (.int 0)) (dCons (dNeg (dC (.int 1))) (dCons (dC (.int 0)) (dCons (dC (.int 0)) dNil)))) (dgCons (dgName 3) (dgCons (dgName 4) (dgCons (dgName 5) (dgCons (dgName 6) dgNil)))))
  (dSeq (dWhile (dTest (dOp dLt (dVar 3) (dC (.int 1440)))) (dSeq (dAsg false 6 (dOp dAdd (dVar 6) (dC (.int 1))))
  (dSeq (dIf (dTest (dOp dGe (dVar 3) (dVar 4))) (dPar 5 4 (dCons (dOp dAdd (dVar 5) (dC (.int 1))) (dCons (dOp dAdd (dVar 3) (dOp dIx (dVar 1) (dC (.int 1)))) dNil))) dNext)
  (dSeq (dApp 2 (dOp dSub (dCall E00 dsp_L_money (dCons (dVar 0) (dCons (dVar 6) dNil))) (dCall E00 dsp_L_money (dCons (dVar 1) (dCons (dVar 5) dNil)))))
  (dAsg false 3 (dOp dAdd (dVar 3) (dOp dIx (dVar 0) (dC (.int 1)))))))))
  (dRet (dVar 2))))
def d_L_better : DS := (dSeq (dAsgT (dgTup 3 (dgCons (dgName 2) (dgCons (dgName 3) (dgCons (dgName 4) dgNil)))) (dVar 1))
  (dSeq (dAsg false 5 (dCall E00 dsp_L_take (dCons (dVar 0) (dCons (dC (.int 3)) dNil))))
  (dSeq (dIf (dTest (dOp (dEq false) (dVar 5) (dC (.int 0)))) (dRet (dTup (dCons (dCB (dII max) (dCons (dC (.int 0)) (dCons (dOp dSub (dOp dSub (dVar 2) (dC (.int 1))) (dCall E00 dsp_L_take (dCons (dVar 0) (dCons (dC (.int 3)) dNil)))) dNil))) (dCons (dVar 3) (dCons (dVar 4) dNil))))) dNext)
  (dSeq (dIf (dTest (dOp (dEq false) (dVar 5) (dC (.int 1)))) (dRet (dTup (dCons (dVar 2) (dCons (dCB (dII min) (dCons (dC (.int 1440)) (dCons (dOp dAdd (dOp dAdd (dVar 3) (dC (.int 1))) (dCall E00 dsp_L_take (dCons (dVar 0) (dCons (dC (.int 9)) dNil)))) dNil))) (dCons (dVar 4) dNil))))) dNext)
  (dRet (dTup (dCons (dVar 2) (dCons (dVar 3) (dCons (dIfE (dTest (dOp (dIs false) (dVar 4) (dC .non))) (dOp dMul (dC (.int 5)) (dVar 2)) (dCB (dII max) (dCons (dC (.int 0)) (dCons (dOp dSub (dVar 4) (dC (.int 1))) dNil)))) dNil)))))))))
def d_L_good : DS := (dRet (dOp dLe (dCB dMaxL (dCons (dCall E00 dsp_L_excesses (dCons (dVar 0) (dCons (dVar 1) dNil))) dNil)) (dC (.int 0))))
def d_L_far : DS := (dSeq (dPar 2 3 (dCons (dC (.int 0)) (dCons (dVar 1) dNil)))
  (dSeq (dWhile (dTest (dOp dGt (dVar 3) (dC (.int 0)))) (dPar 2 3 (dCons (dOp dAdd (dOp dMul (dC (.int 1000)) (dVar 2)) (dCall E00 dsp_L_take (dCons (dVar 0) (dCons (dC (.int 1000)) dNil)))) (dCons (dOp dDiv (dVar 3) (dC (.int 1000))) dNil))))
  (dRet (dOp dIx (dLst (dCons (dOp dMod (dVar 2) (dVar 1)) (dCons (dC (.int 0)) (dCons (dOp dSub (dVar 1) (dC (.int 1))) (dCons (dOp dMod (dVar 2) (dVar 1)) dNil))))) (dCall E00 dsp_L_take (dCons (dVar 0) (dCons (dC (.int 4)) dNil)))))))
def d_L_day : DS := (dSeq (dAsg false 3 (dOp dSub (dC (.int 0)) (dOp dMod (dOp dMul (dC (.int 1440)) (dVar 2)) (dVar 1))))
  (dSeq (dAsg false 3 (dIfE (dTest (dOp dLt (dVar 3) (dC (.int 0)))) (dOp dAdd (dVar 3) (dVar 1)) (dVar 3)))
  (dRet (dCall E00 dsp_L_cost (dCons (dVar 0) (dCons (dLR3 (dCons (dVar 3) (dCons (dC (.int 1440)) (dCons (dVar 1) dNil)))) dNil))))))
end LAW

/-! Ra: the readings of the defs that most laws have. -/
namespace LAW
open PySem PySem.Spec PyProof.Rows L2 DL
variable [TabNames]
/-! ### the promises, at written arguments -/
theorem capD_inj {a b : Option Int} (h : capD a = capD b) : a = b := by
  cases a <;> cases b <;> simp [capD] at h <;> simp [h]
theorem ruleD_inj {p t p' t' : Int} {c c' : Option Int} (h : ruleD p t c = ruleD p' t' c') : p = p' ∧ t = t' ∧ c = c' := by
  simp only [ruleD, D.tup.injEq, List.cons.injEq, D.v.injEq, V.int.injEq, and_true] at h
  exact ⟨h.1, h.2.1, capD_inj h.2.2⟩
theorem mapD_inj {ns ms : List Int} (h : ns.map D.int = ms.map D.int) : ns = ms := by
  induction ns generalizing ms with
  | nil => cases ms with
    | nil => rfl
    | cons m ms => simp at h
  | cons n ns ih => cases ms with
    | nil => simp at h
    | cons m ms =>
      simp only [List.map_cons, List.cons.injEq, D.v.injEq, V.int.injEq] at h
      rw [h.1, ih h.2]
theorem IntsD.tup {ns : List Int} : IntsD (.tup (ns.map D.int)) ns := .inl rfl
theorem IntsD.lst {ns : List Int} : IntsD (.lst (ns.map D.int)) ns := .inr rfl
section
variable {N : Nat} {C : DK} {p t i lo hi n L a b m : Int} {c : Option Int} {d : D} {ns : List Int}
theorem s_in_range (h : C (.dat (.bl (decide (lo ≤ i) && decide (i ≤ hi)))) N) : dsp_P_in_range [.v (.int i), .v (.int lo), .v (.int hi)] N C E00 := ⟨.int i, lo, hi, rfl, rfl, h⟩
theorem s_in_rangeD {Er : Value → Nat → Prop} (v : plainD d = true) (h : C (.dat (.bl (inRD d lo hi))) N) : dsp_P_in_range [d, .v (.int lo), .v (.int hi)] N C Er := ⟨d, lo, hi, rfl, v, h⟩
theorem s_is_rule (v : VRule p t c) (h : C (.dat (.bl true)) N) : dsp_P_is_rule [ruleD p t c] N C E00 := ⟨p, t, c, rfl, v, h⟩
theorem s_is_rides (v : VRides 60 ns) (h : C (.dat (.bl true)) N) : dsp_P_is_rides [ridesD ns] N C E00 := ⟨ns, rfl, v, h⟩
theorem s_check_rule (v : VRule p t c) (h : C (.dat .non) N) : dsp_P_check_rule [ruleD p t c] N C E00 := ⟨p, t, c, rfl, v, h⟩
theorem s_check_rides (v : VRides 60 ns) (h : C (.dat .non) N) : dsp_P_check_rides [ridesD ns] N C E00 := ⟨ns, rfl, v, h⟩
theorem s_check_number (v : lo ≤ i ∧ i ≤ hi) (h : C (.dat .non) N) : dsp_P_check_number [.v (.int i), .v (.int lo), .v (.int hi)] N C E00 := ⟨i, lo, hi, rfl, v, h⟩
theorem s_bought_of (v : IntsD d ns) (z : ns.length ≤ 2000) (h : C (.own ((boughtF L ns).map D.int)) N) : dsp_P_bought_of [.v (.int L), d] N C E00 := ⟨L, d, ns, rfl, ⟨v, z⟩, h⟩
theorem s_money (v : 0 ≤ p ∧ p ≤ 1000) (h : C (.dat (.int (moneyF p c n))) N) : dsp_P_money [ruleD p t c, .v (.int n)] N C E00 := ⟨p, t, c, n, rfl, v, h⟩
theorem s_cost_of (v : IntsD d ns) (z : ns.length ≤ 2000 ∧ 0 ≤ p ∧ p ≤ 1000) (h : C (.dat (.int (costF p t c ns))) N) : dsp_P_cost_of [ruleD p t c, d] N C E00 := ⟨p, t, c, d, ns, rfl, ⟨v, z⟩, h⟩
theorem s_bought (v : VRule p t c) (r : VRides 60 ns) (h : C (.own ((boughtF t ns).map D.int)) N) : dsp_P_bought [ruleD p t c, ridesD ns] N C E00 := ⟨p, t, c, ns, rfl, ⟨v, r⟩, h⟩
theorem s_cost (v : VRule p t c) (r : VRides 60 ns) (h : C (.dat (.int (costF p t c ns))) N) : dsp_P_cost [ruleD p t c, ridesD ns] N C E00 := ⟨p, t, c, ns, rfl, ⟨v, r⟩, h⟩
theorem s_up (v : 0 < b ∧ b < 1073741824) (h : C (.dat (.int (upF a b))) N) : dsp_P_up [.v (.int a), .v (.int b)] N C E00 := ⟨a, b, rfl, v, h⟩
theorem s_most_tickets (v : 1 ≤ t ∧ t ≤ 1440) (h : C (.dat (.int (upF 1440 t))) N) : dsp_P_most_tickets [ruleD p t c] N C E00 := ⟨p, t, c, rfl, v, h⟩
theorem s_take (v : 0 < m ∧ m < 1073741824 ∧ N ≤ LIM) (h : ∀ i : Int, 0 ≤ i → i < m → C (.dat (.int i)) (N + 1)) : dsp_L_take [.bag, .v (.int m)] N C E00 := ⟨m, rfl, v, h⟩
theorem s_well (v : 0 ≤ a ∧ a ≤ N) (h : C (.dat .bag) N) : dsp_L_well [.v (.int n), .v (.int a)] N C E00 := ⟨n, a, rfl, v, h⟩
theorem s_rule (v : N + 20 ≤ LIM) (h : ∀ p t c N', VRule p t c → N ≤ N' → N' ≤ N + 11 → C (.dat (ruleD p t c)) N') : dsp_L_rule [.bag] N C E00 := ⟨rfl, v, h⟩
theorem s_lmoney (v : 0 ≤ p ∧ p ≤ 1000) (h : C (.dat (.int (moneyF p c n))) N) : dsp_L_money [ruleD p t c, .v (.int n)] N C E00 := ⟨p, t, c, n, rfl, v, h⟩
@[simp] theorem isa_rule : (ruleD p t c).isa .tuple = some true := rfl
@[simp] theorem items_rides : itemsS (.dat (ridesD ns)) = some (ns.map D.int) := rfl
@[simp] theorem isa_rides : (ridesD ns).isa .tuple = some true := rfl
@[simp] theorem len_rule {k : Sl → Prop} : dLen [ruleD p t c] k = k (.dat (.int 3)) := rfl
theorem len_rides {k : Sl → Prop} : dLen [ridesD ns] k = k (.dat (.int ns.length)) := by simp only [ridesD, len_tup, List.length_map]
@[simp] theorem lf_non : D.non.lf = true := rfl
@[simp] theorem rule_0 {k : Sl → Prop} : dIx (ruleD p t c) (.v (.int 0)) k = k (.dat (.int p)) := rfl
@[simp] theorem rule_1 {k : Sl → Prop} : dIx (ruleD p t c) (.v (.int 1)) k = k (.dat (.int t)) := rfl
@[simp] theorem rule_2 {k : Sl → Prop} : dIx (ruleD p t c) (.v (.int 2)) k = k (.dat (capD c)) := rfl
end
local macro_rules | `(tactic| walk_at "wp") => `(tactic| first | dsimp | skip)
theorem r_P_up : ∀ ds n C Er, dsp_P_up ds n C Er → d_P_up { nx := fun _ n' => C (.dat .non) n', rt := C } (startD ds 2) n := by
  rintro ds n C Er ⟨a, b, rfl, h, q⟩
  unfold d_P_up
  walk_at "wp"
  exact ⟨h, q⟩
theorem r_P_most_tickets : ∀ ds n C Er, dsp_P_most_tickets ds n C Er → d_P_most_tickets { nx := fun _ n' => C (.dat .non) n', rt := C } (startD ds 1) n := by
  rintro ds n C Er ⟨p, t, c, rfl, h, q⟩
  unfold d_P_most_tickets
  walk_at "wp"
  exact s_up (by omega) q
theorem r_P_money : ∀ ds n C Er, dsp_P_money ds n C Er → d_P_money { nx := fun _ n' => C (.dat .non) n', rt := C } (startD ds 5) n := by
  rintro ds n C Er ⟨p, t, c, m, rfl, h, q⟩
  unfold d_P_money
  have hm : CMul m p := .inr (by omega)
  cases c with
  | none =>
    simp only [ruleD, capD]
    walk_at "wp"
    exact ⟨hm, q⟩
  | some c =>
    simp only [ruleD, capD]
    walk_at "wp"
    exact ⟨hm, q⟩
theorem r_P_cost_of : ∀ ds n C Er, dsp_P_cost_of ds n C Er → d_P_cost_of { nx := fun _ n' => C (.dat .non) n', rt := C } (startD ds 2) n := by
  rintro ds n C Er ⟨p, t, c, d, ns, rfl, ⟨hd, hz, hp⟩, q⟩
  unfold d_P_cost_of
  walk_at "wp"
  refine s_bought_of hd hz ?_
  walk_at "wp"
  refine s_money hp ?_
  walk_at "wp"
  rw [List.length_map]
  exact q
theorem r_P_in_range : ∀ ds n C Er, dsp_P_in_range ds n C Er → d_P_in_range { nx := fun _ n' => C (.dat .non) n', rt := C } (startD ds 3) n := by
  rintro ds n C Er ⟨d, lo, hi, rfl, hp, q⟩
  unfold d_P_in_range
  cases d with
  | v x =>
    cases x with
    | int i =>
      have q : C (.dat (.bl (decide (lo ≤ i) && decide (i ≤ hi)))) n := q
      walk_at "wp"
      refine wif_d (fun h => ?_) fun h => ?_
      · rw [decide_eq_true h] at q
        exact q
      · rw [decide_eq_false h] at q
        exact q
    | non => walk_at "wp"; exact q
    | bl b => walk_at "wp"; exact q
    | str x => walk_at "wp"; exact q
    | byt x => cases hp
    | flt x => cases hp
    | ref x => cases hp
    | ty x => cases hp
  | tup ds => walk_at "wp"; exact q
  | lst ds => walk_at "wp"; exact q
  | scr ns => cases hp
  | bag => cases hp
  | fix P => cases hp
theorem r_P_is_rule : ∀ ds n C Er, dsp_P_is_rule ds n C Er → d_P_is_rule { nx := fun _ n' => C (.dat .non) n', rt := C } (startD ds 1) n := by
  rintro ds n C Er ⟨p, t, c, rfl, v, q⟩
  have v1 := v.p0
  have v2 := v.p1
  have v3 := v.t0
  have v4 := v.t1
  unfold d_P_is_rule
  walk_at "wp"
  refine wif_f (by decide) ?_
  refine s_in_range ?_
  simp only [decide_eq_true v1, decide_eq_true v2]
  walk_at "wp"
  refine s_in_range ?_
  simp only [decide_eq_true v3, decide_eq_true v4]
  walk_at "wp"
  cases c with
  | none =>
    simp only [capD]
    walk_at "wp"
    exact q
  | some c =>
    obtain ⟨h1, h2⟩ := v.c0 c rfl
    simp only [capD]
    walk_at "wp"
    refine s_in_range ?_
    rw [decide_eq_true h1, decide_eq_true h2]
    walk_at "wp"
    exact q
theorem zip_asc : ∀ {ns : List Int} {d : D}, ns.Pairwise (· < ·) → d ∈ zipD (ns.map D.int) ((ns.drop 1).map D.int) → ∃ x y, x < y ∧ d = .tup [.int x, .int y]
  | [], d, _, h => by simp [zipD] at h
  | [x], d, _, h => by simp [zipD] at h
  | x :: y :: r, d, hp, h => by
    simp only [List.map_cons, List.drop_succ_cons, List.drop_zero, zipD, List.mem_cons] at h
    rcases h with h | h
    · exact ⟨x, y, (List.pairwise_cons.mp hp).1 y (by simp), h⟩
    · exact zip_asc (ns := y :: r) (List.pairwise_cons.mp hp).2 (by simpa using h)
theorem cut1 (ds : List D) : DL.cutD ds (some 1) none = ds.drop 1 := by
  unfold DL.cutD
  rw [show HT.sIx ds.length 0 (some 1) = min 1 ds.length from HT.sIx_nat ds.length 0 1, HT.sIx_none]
  cases ds with
  | nil => rfl
  | cons x r =>
    rw [show min 1 (x :: r).length = 1 by rw [List.length_cons]; omega]
    show (List.take ((x :: r).length - 1) r) = r
    rw [List.length_cons, Nat.add_sub_cancel]
    exact List.take_length
theorem zipD_length : ∀ {ds es : List D}, (zipD ds es).length ≤ ds.length
  | [], _ => Nat.zero_le _
  | _ :: _, [] => Nat.zero_le _
  | _ :: ds, _ :: es => Nat.succ_le_succ (zipD_length (ds := ds) (es := es))
theorem all_true (n : Nat) : (List.replicate n true).all id = true := by
  rw [List.all_eq_true]
  intro b hb
  exact (List.mem_replicate.mp hb).2
theorem filter_all {α : Type} (ds : List α) : ds.filter (fun _ => true) = ds := List.filter_eq_self.mpr fun _ _ => rfl
theorem map_const {α β : Type} (ds : List α) (b : β) : ds.map (fun _ => b) = List.replicate ds.length b := by
  induction ds with
  | nil => rfl
  | cons d ds ih => rw [List.map_cons, ih]; rfl
theorem r_P_is_rides : ∀ ds n C Er, dsp_P_is_rides ds n C Er → d_P_is_rides { nx := fun _ n' => C (.dat .non) n', rt := C } (startD ds 3) n := by
  rintro ds n C Er ⟨ns, rfl, v, q⟩
  have vl := v.len
  unfold d_P_is_rides
  walk_at "wp"
  rw [len_rides]
  walk_at "wp"
  refine wif_f (decide_eq_false (by omega)) ?_
  refine lc_p (ns.map D.int) (fun _ => true) (fun _ => .bl true) (fun R hR => by walk_at "wp"; exact hR) (by rw [List.length_map]; omega) (fun d hd K K' h1 _ => ?_) ?_
  · obtain ⟨x, hx, rfl⟩ := List.mem_map.mp hd
    obtain ⟨g1, g2⟩ := v.rg x hx
    walk_at "wp"
    refine s_in_range ?_
    simp only [decide_eq_true g1, decide_eq_true g2]
    walk_at "wp"
    exact h1 rfl
  · rw [filter_all, map_const]
    walk_at "wp"
    refine ⟨List.replicate ns.length true, by rw [List.map_replicate, List.length_map], ?_⟩
    rw [all_true]
    walk_at "wp"
    refine lc_p (zipD (ns.map D.int) (DL.cutD (ns.map D.int) (some 1) none)) (fun _ => true) (fun _ => .bl true) (fun R hR => by walk_at "wp"; exact hR) (Nat.le_trans zipD_length (by rw [List.length_map]; omega)) (fun d hd K K' h1 _ => ?_) ?_
    · rw [cut1, ← List.map_drop] at hd
      obtain ⟨x, y, hxy, rfl⟩ := zip_asc v.asc hd
      walk_at "wp"
      rw [decide_eq_true hxy]
      exact h1 rfl
    · rw [filter_all, map_const]
      walk_at "wp"
      refine ⟨List.replicate _ true, by rw [List.map_replicate], ?_⟩
      rw [all_true]
      exact q
theorem r_P_check_rule : ∀ ds n C Er, dsp_P_check_rule ds n C Er → d_P_check_rule { nx := fun _ n' => C (.dat .non) n', rt := C } (startD ds 1) n := by
  rintro ds n C Er ⟨p, t, c, rfl, v, q⟩
  unfold d_P_check_rule
  walk_at "wp"
  refine s_is_rule v ?_
  walk_at "wp"
  exact q
theorem r_P_check_rides : ∀ ds n C Er, dsp_P_check_rides ds n C Er → d_P_check_rides { nx := fun _ n' => C (.dat .non) n', rt := C } (startD ds 1) n := by
  rintro ds n C Er ⟨ns, rfl, v, q⟩
  unfold d_P_check_rides
  walk_at "wp"
  refine s_is_rides v ?_
  walk_at "wp"
  exact q
theorem r_P_check_number : ∀ ds n C Er, dsp_P_check_number ds n C Er → d_P_check_number { nx := fun _ n' => C (.dat .non) n', rt := C } (startD ds 3) n := by
  rintro ds n C Er ⟨i, lo, hi, rfl, v, q⟩
  unfold d_P_check_number
  walk_at "wp"
  refine s_in_range ?_
  rw [decide_eq_true v.1, decide_eq_true v.2]
  walk_at "wp"
  exact q
theorem r_P_bought : ∀ ds n C Er, dsp_P_bought ds n C Er → d_P_bought { nx := fun _ n' => C (.dat .non) n', rt := C } (startD ds 2) n := by
  rintro ds n C Er ⟨p, t, c, ns, rfl, ⟨v, r⟩, q⟩
  unfold d_P_bought
  walk_at "wp"
  refine s_check_rule v ?_
  walk_at "wp"
  refine s_check_rides r ?_
  walk_at "wp"
  refine s_bought_of .tup (Nat.le_trans r.len (by decide)) ?_
  walk_at "wp"
  exact q
theorem r_P_cost : ∀ ds n C Er, dsp_P_cost ds n C Er → d_P_cost { nx := fun _ n' => C (.dat .non) n', rt := C } (startD ds 2) n := by
  rintro ds n C Er ⟨p, t, c, ns, rfl, ⟨v, r⟩, q⟩
  unfold d_P_cost
  walk_at "wp"
  refine s_check_rule v ?_
  walk_at "wp"
  refine s_check_rides r ?_
  walk_at "wp"
  refine s_cost_of .tup ⟨Nat.le_trans r.len (by decide), v.p0, v.p1⟩ ?_
  walk_at "wp"
  exact q
theorem bfold_snoc (L : Int) (ns : List Int) (i : Nat) (x : Int) (h : ns[i]? = some x) : boughtF L (ns.take (i + 1)) = bstep L (boughtF L (ns.take i)) x := by
  unfold boughtF
  rw [List.take_add_one, h, List.foldl_append]
  rfl
theorem bstep_len (L : Int) (acc : List Int) (x : Int) : (bstep L acc x).length ≤ acc.length + 1 := by
  unfold bstep
  split
  · simp
  · split <;> simp
theorem boughtF_len (L : Int) (ns : List Int) : (boughtF L ns).length ≤ ns.length := by
  have h : ∀ (ns acc : List Int), (ns.foldl (bstep L) acc).length ≤ acc.length + ns.length := by
    intro ns
    induction ns with
    | nil => intro acc; simp
    | cons x r ih =>
      intro acc
      rw [List.foldl_cons, List.length_cons]
      have h1 := ih (bstep L acc x)
      have h2 := bstep_len L acc x
      omega
  have := h ns []
  simpa [boughtF] using this
theorem atI_last {ns : List Int} {x : Int} (h : ns.getLast? = some x) : atI (ns.map D.int) (-1) = some (D.int x) := by
  have hn : ns ≠ [] := by rintro rfl; cases h
  have hl : 0 < ns.length := List.length_pos_iff.mpr hn
  rw [List.getLast?_eq_getElem?] at h
  unfold atI ixN
  rw [if_neg (by omega), if_pos (by rw [List.length_map]; omega)]
  show (ns.map D.int)[_]? = _
  rw [List.getElem?_map, List.length_map, show ((-1 : Int) + (ns.length : Int)).toNat = ns.length - 1 by omega, h]
  rfl
theorem getLast_take {ns : List Int} : True := trivial
theorem r_P_bought_of : ∀ ds n C Er, dsp_P_bought_of ds n C Er → d_P_bought_of { nx := fun _ n' => C (.dat .non) n', rt := C } (startD ds 4) n := by
  rintro ds n C Er ⟨L, d, ns, rfl, ⟨hd, hz⟩, q⟩
  unfold d_P_bought_of
  refine seqR fun R hR => ?_
  walk_at "wp"
  refine hR _ _ ?_
  refine seqR fun R hR => ?_
  have hit : itemsS (.dat d) = some (ns.map D.int) := by rcases hd with rfl | rfl <;> rfl
  refine for_i (ns.map D.int) (fun i δ N => N = n ∧ ∃ y, δ = [some (.dat (.int L)), some (.dat d), some (.own ((boughtF L (ns.take i)).map D.int)), y]) (fun R hR => by walk_at "wp"; rw [hit]; exact hR) ⟨rfl, none, rfl⟩ ?_ ?_
  · rintro i e δ N hi ⟨rfl, y, rfl⟩ R2 hR2
    obtain ⟨x, hx, rfl⟩ : ∃ x, ns[i]? = some x ∧ e = .int x := by
      rw [List.getElem?_map] at hi
      cases h : ns[i]? with
      | none => rw [h] at hi; cases hi
      | some x => rw [h] at hi; cases hi; exact ⟨x, rfl, rfl⟩
    have hb := bfold_snoc L ns i x hx
    have hl := boughtF_len L (ns.take i)
    rw [List.length_take] at hl
    walk_at "wp"
    rw [eq_nil]
    walk_at "wp"
    have app : bstep L (boughtF L (ns.take i)) x = boughtF L (ns.take i) ++ [x] → (((boughtF L (ns.take i)).map D.int).length < 100000 ∧ R2 [some (Sl.dat (D.int L)), some (Sl.dat d), some (Sl.own ((boughtF L (ns.take i)).map D.int ++ [D.int x])), some (Sl.dat (D.int x))] N) := fun h1 => by
      refine ⟨by rw [List.length_map]; omega, hR2 _ _ ⟨rfl, some (Sl.dat (D.int x)), ?_⟩⟩
      rw [hb, h1, List.map_append]
      rfl
    refine wif_d (fun h => ?_) fun h => ?_
    · refine app ?_
      rw [h]
      rfl
    · obtain ⟨l, hl'⟩ : ∃ l, (boughtF L (ns.take i)).getLast? = some l := by
        rw [List.getLast?_eq_some_getLast h]
        exact ⟨_, rfl⟩
      have hat := atI_last hl'
      have hstep : bstep L (boughtF L (ns.take i)) x = if l + L ≤ x then boughtF L (ns.take i) ++ [x] else boughtF L (ns.take i) := by
        unfold bstep
        rw [hl']
      simp only [dIx, D.items, hat]
      walk_at "wp"
      refine wif_d (fun h2 => ?_) fun h2 => ?_
      · refine app ?_
        rw [hstep, if_pos h2]
      · refine hR2 _ _ ⟨rfl, some (Sl.dat (D.int x)), ?_⟩
        rw [hb, hstep, if_neg h2]
  · rintro δ N ⟨rfl, y, rfl⟩
    rw [List.length_map, List.take_length]
    refine hR _ _ ?_
    walk_at "wp"
    exact q
end LAW

/-! Rb: the readings of the laws' own helpers. -/
namespace LAW
open PySem PySem.Spec PyProof.Rows L2 DL
variable [TabNames]
local macro_rules | `(tactic| walk_at "wp") => `(tactic| first | dsimp | skip)
theorem r_L_money : ∀ ds n C Er, dsp_L_money ds n C Er → d_L_money { nx := fun _ n' => C (.dat .non) n', rt := C } (startD ds 3) n := by
  rintro ds n C Er ⟨p, t, c, m, rfl, h, q⟩
  have hm : CMul p m := .inl (by omega)
  unfold d_L_money
  walk_at "wp"
  refine ⟨hm, ?_⟩
  cases c with
  | none =>
    simp only [capD]
    walk_at "wp"
    rw [Int.mul_comm]
    exact q
  | some c =>
    simp only [capD]
    walk_at "wp"
    refine wif_f (decide_eq_false (fun h => by cases h)) ?_
    have q' : C (.dat (.int (min (m * p) c))) n := q
    rw [Int.mul_comm m p] at q'
    refine wif_d (fun h2 => ?_) fun h2 => ?_
    · rw [show min (p * m) c = p * m by omega] at q'
      exact q'
    · rw [show min (p * m) c = c by omega] at q'
      exact q'
theorem r_L_well : ∀ ds n C Er, dsp_L_well ds n C Er → d_L_well { nx := fun _ n' => C (.dat .non) n', rt := C } (startD ds 2) n := by
  rintro ds n C Er ⟨cell, turn, rfl, ⟨h1, h2⟩, q⟩
  have hp : CPow 10 18 := ⟨by decide, by decide, by decide⟩
  have hm := Int.emod_nonneg cell (show (2305843009213693951 : Int) ≠ 0 by decide)
  unfold d_L_well
  walk_at "wp"
  refine ⟨hp, ?_⟩
  refine wif_d (fun h => ?_) fun h => ?_
  · refine ⟨hp, by decide, ⟨?_, hm, h1, h2⟩, q⟩
    exact Int.sub_nonneg.mpr h
  · exact ⟨by decide, ⟨by decide, hm, h1, h2⟩, q⟩
theorem cutI_head (ns : List Int) (k : Int) (h : 0 ≤ k) : cutI ns none (some k) = ns.take k.toNat := by
  unfold cutI
  obtain ⟨m, rfl⟩ : ∃ m : Nat, k = (m : Int) := ⟨k.toNat, by omega⟩
  rw [HT.sIx_nat, HT.sIx_none]
  simp only [List.drop_zero, Nat.sub_zero, Int.toNat_natCast]
  rw [List.take_eq_take_iff]
  omega
theorem r_L_bags : ∀ ds n C Er, dsp_L_bags ds n C Er → d_L_bags { nx := fun _ n' => C (.dat .non) n', rt := C } (startD ds 4) n := by
  rintro ds n C Er ⟨ns, k, rfl, ⟨h0, h1, hN, hl⟩, q⟩
  unfold d_L_bags
  walk_at "wp"
  have hlen : ((ns.take k.toNat).map D.int ++ [D.int 0]).length ≤ 13 := by
    rw [List.length_append, List.length_map, List.length_take]
    show min _ _ + 1 ≤ 13
    omega
  refine lc_p (enumFrom 0 ((ns.take k.toNat).map D.int ++ [D.int 0])) (fun _ => true) (fun _ => .bag) (fun R hR => ?_) ?_ (fun d hd K K' h2 _ => ?_) ?_
  · walk_at "wp"
    rw [cutI_head ns k h0]
    refine ⟨?_, hR⟩
    rw [List.length_append] at hlen
    exact Nat.le_trans hlen (by decide)
  · rw [enum_len]
    omega
  · obtain ⟨i, hi⟩ := List.getElem?_of_mem hd
    obtain ⟨e, he, rfl⟩ := enum_get hi
    have hi' := (List.getElem?_eq_some_iff.mp he).1
    obtain ⟨x, rfl⟩ : ∃ x, e = .int x := by
      have hm := List.mem_of_getElem? he
      rw [List.mem_append] at hm
      rcases hm with hm | hm
      · obtain ⟨x, _, rfl⟩ := List.mem_map.mp hm
        exact ⟨x, rfl⟩
      · exact ⟨0, by simpa using hm⟩
    walk_at "wp"
    refine ⟨.inl (by omega), s_well (by omega) ?_⟩
    walk_at "wp"
    exact h2 rfl
  · rw [filter_all, map_const]
    walk_at "wp"
    refine q _ ?_
    rw [enum_len]
    exact hlen
theorem two_of {a b : D} {i : Int} {k : Sl → Prop} (h0 : 0 ≤ i) (h1 : i < 2) (ha : i = 0 → k (.dat a)) (hb : i = 1 → k (.dat b)) : dIx (.lst [a, b]) (.v (.int i)) k := by
  have h : i = 0 ∨ i = 1 := by omega
  rcases h with rfl | rfl
  · exact ha rfl
  · exact hb rfl
theorem four_of {a b c d : D} {i : Int} {k : Sl → Prop} (h0 : 0 ≤ i) (h1 : i < 4) (ha : k (.dat a)) (hb : k (.dat b)) (hc : k (.dat c)) (hd : k (.dat d)) : dIx (.lst [a, b, c, d]) (.v (.int i)) k := by
  have h : i = 0 ∨ i = 1 ∨ i = 2 ∨ i = 3 := by omega
  rcases h with rfl | rfl | rfl | rfl
  · exact ha
  · exact hb
  · exact hc
  · exact hd
theorem lim_add {N m : Nat} (h : N + 20 ≤ LIM) (hm : m ≤ 20) : N + m ≤ LIM := by omega
theorem r_L_rule : ∀ ds n C Er, dsp_L_rule ds n C Er → d_L_rule { nx := fun _ n' => C (.dat .non) n', rt := C } (startD ds 5) n := by
  rintro ds n C Er ⟨rfl, hN, q⟩
  unfold d_L_rule
  refine seqR fun R1 hR1 => ?_
  walk_at "wp"
  refine s_take ⟨by decide, by decide, by omega⟩ fun a a0 a1 => ?_
  walk_at "wp"
  have key : ∀ p : Int, 0 ≤ p → p ≤ 1000 → R1 [some (Sl.dat D.bag), some (Sl.dat (D.int p)), none, none, none] (n + 1 + 1) := by
    intro p p0 p1
    refine hR1 _ _ ?_
    refine seqR fun R2 hR2 => ?_
    walk_at "wp"
    refine s_take ⟨by decide, by decide, by omega⟩ fun b b0 b1 => ?_
    walk_at "wp"
    refine s_take ⟨by decide, by decide, by omega⟩ fun c c0 c1 => ?_
    walk_at "wp"
    refine s_take ⟨by decide, by decide, by omega⟩ fun d d0 d1 => ?_
    walk_at "wp"
    refine ⟨⟨by omega, by omega⟩, ?_⟩
    have e0 : 1 ≤ 1440 / (1 + d) := by
      refine (Int.le_ediv_iff_mul_le (by omega)).mpr (by omega)
    have e1 : 1440 / (1 + d) ≤ 1440 := Int.ediv_le_self _ (by decide)
    refine hR2 _ _ ?_
    refine seqR fun R3 hR3 => ?_
    walk_at "wp"
    refine s_take ⟨by decide, by decide, by omega⟩ fun e f0 f1 => ?_
    walk_at "wp"
    have key2 : ∀ t : Int, 1 ≤ t → t ≤ 1440 → R3 [some (Sl.dat D.bag), some (Sl.dat (D.int p)), some (Sl.dat (D.lst [D.v (V.int (1 + b)), D.v (V.int (1 + c)), D.v (V.int (1440 / (1 + d))), D.v (V.int 1440)])), some (Sl.dat (D.int t)), none] (n + 1 + 1 + 1 + 1 + 1 + 1) := by
      intro t t0 t1
      refine hR3 _ _ ?_
      refine seqR fun R4 hR4 => ?_
      walk_at "wp"
      refine s_take ⟨by decide, by decide, by omega⟩ fun g g0 g1 => ?_
      walk_at "wp"
      refine ⟨.inl (by omega), ?_⟩
      have hmul0 : 0 ≤ p * g := Int.mul_nonneg p0 g0
      have hmul1 : p * g ≤ 1000 * 5 := Int.mul_le_mul p1 (by omega) g0 (by decide)
      refine s_take ⟨by decide, by decide, by omega⟩ fun h h0 h1 => ?_
      walk_at "wp"
      refine s_take ⟨by decide, by decide, by omega⟩ fun i i0 i1 => ?_
      walk_at "wp"
      refine ⟨⟨by decide, by decide, by decide⟩, ?_⟩
      refine s_take ⟨by decide, by decide, by omega⟩ fun j j0 j1 => ?_
      walk_at "wp"
      have j2 : j ≤ 1000000 := by
        have : (10 : Int) ^ (6 : Int).toNat + 1 = 1000001 := by decide
        omega
      refine hR4 _ _ ?_
      walk_at "wp"
      refine s_take ⟨by decide, by decide, by omega⟩ fun k k0 k1 => ?_
      walk_at "wp"
      have fin : ∀ c : Option Int, (∀ x, c = some x → 0 ≤ x ∧ x ≤ 1000000) → C (.dat (ruleD p t c)) (n + 1 + 1 + 1 + 1 + 1 + 1 + 1 + 1 + 1 + 1 + 1) := fun c hc =>
        q p t c _ ⟨p0, p1, t0, t1, hc⟩ (by omega) (by omega)
      refine four_of k0 k1 ?_ ?_ ?_ ?_
      · exact fin none (fun x hx => by cases hx)
      · exact fin (some (p * g + h)) (fun x hx => by cases hx; omega)
      · exact fin (some i) (fun x hx => by cases hx; omega)
      · exact fin (some j) (fun x hx => by cases hx; omega)
    refine four_of f0 f1 ?_ ?_ ?_ ?_
    · exact key2 _ (by omega) (by omega)
    · exact key2 _ (by omega) (by omega)
    · exact key2 _ e0 e1
    · exact key2 _ (by omega) (by omega)
  refine two_of a0 a1 (fun _ => ?_) (fun _ => ?_)
  · walk_at "wp"
    refine s_take ⟨by decide, by decide, by omega⟩ fun b b0 b1 => ?_
    walk_at "wp"
    exact key b b0 (by omega)
  · walk_at "wp"
    refine s_take ⟨by decide, by decide, by omega⟩ fun b b0 b1 => ?_
    walk_at "wp"
    exact key b b0 (by omega)
theorem asc_snoc {m : Nat} {ns : List Int} {x : Int} (h : VRides m ns) (hx : ∀ y ∈ ns, y < x) (h0 : 0 ≤ x) (h1 : x ≤ 1439) : VRides (m + 1) (ns ++ [x]) where
  len := by rw [List.length_append]; have := h.len; show _ + 1 ≤ _; omega
  rg := fun y hy => by
    rcases List.mem_append.mp hy with hy | hy
    · exact h.rg y hy
    · have e : y = x := by simpa using hy
      subst e
      exact ⟨h0, h1⟩
  asc := by
    rw [List.pairwise_append]
    refine ⟨h.asc, List.pairwise_singleton _ _, fun a ha b hb => ?_⟩
    have e : b = x := by simpa using hb
    subst e
    exact hx a ha
theorem VRides.mono {m k : Nat} {ns : List Int} (h : VRides m ns) (hk : m ≤ k) : VRides k ns := ⟨Nat.le_trans h.len hk, h.rg, h.asc⟩
theorem r_L_rides : ∀ ds n C Er, dsp_L_rides ds n C Er → d_L_rides { nx := fun _ n' => C (.dat .non) n', rt := C } (startD ds 7) n := by
  rintro ds n C Er ⟨m, p, t, c, rfl, ⟨m0, m1, t0, t1, hN⟩, q⟩
  unfold d_L_rides
  refine seqR fun R1 hR1 => ?_
  walk_at "wp"
  refine s_take ⟨by decide, by decide, by omega⟩ fun a a0 a1 => ?_
  walk_at "wp"
  have key : ∀ tk : Int, 0 ≤ tk → R1 [some (Sl.dat D.bag), some (Sl.dat (D.int m)), some (Sl.dat (ruleD p t c)), some (Sl.dat (D.tup [])), some (Sl.dat (D.int tk)), none, none] (n + 1 + 1) := by
    intro tk tk0
    refine hR1 _ _ ?_
    refine seqR fun R2 hR2 => ?_
    refine for_w fun Rf hRf => ?_
    walk_at "wp"
    refine s_take ⟨by omega, by omega, by omega⟩ fun k k0 k1 => ?_
    walk_at "wp"
    refine ⟨⟨by omega, by omega⟩, ?_⟩
    refine hRf _ _ (inv_i (fun i δ N => ∃ ns tk y5 y6, δ = [some (Sl.dat D.bag), some (Sl.dat (D.int m)), some (Sl.dat (ruleD p t c)), some (Sl.dat (ridesD ns)), some (Sl.dat (D.int tk)), y5, y6] ∧ n + 3 ≤ N ∧ N ≤ n + 3 + 4 * i ∧
      VRides i ns ∧ (∀ y ∈ ns, y < tk) ∧ 0 ≤ tk) ⟨[], tk, none, none, rfl, by omega, by omega, ⟨Nat.le_refl _, by simp, List.Pairwise.nil⟩, by simp, tk0⟩ ?_ ?_)
    · rintro i d δ N hi ⟨ns, tk, y5, y6, rfl, hN1, hN2, hv, hlt, h0⟩ RR hRR
      have hi' := (List.getElem?_eq_some_iff.mp hi).1
      rw [rngD_len] at hi'
      have hfin : ∀ ns tk y5 y6 N, n + 3 ≤ N → N ≤ n + 3 + 4 * (i + 1) → VRides (i + 1) ns → (∀ y ∈ ns, y < tk) → 0 ≤ tk → RR [some (Sl.dat D.bag), some (Sl.dat (D.int m)), some (Sl.dat (ruleD p t c)), some (Sl.dat (ridesD ns)), some (Sl.dat (D.int tk)), y5, y6] N := fun ns tk y5 y6 N g1 g2 g3 g4 g5 =>
        hRR _ _ ⟨ns, tk, y5, y6, rfl, g1, g2, g3, g4, g5⟩
      have e4 : n + 3 + 4 * (i + 1) = n + 3 + 4 * i + 4 := by omega
      unfold dgName
      refine seqR fun R3 hR3 => ?_
      walk_at "wp"
      have key2 : ∀ ns, VRides (i + 1) ns → (∀ y ∈ ns, y < tk + 1) → R3 [some (Sl.dat D.bag), some (Sl.dat (D.int m)), some (Sl.dat (ruleD p t c)), some (Sl.dat (ridesD ns)), some (Sl.dat (D.int tk)), some (Sl.dat d), y6] N := by
        intro ns hv hlt
        refine hR3 _ _ ?_
        refine seqR fun R4 hR4 => ?_
        walk_at "wp"
        refine s_take ⟨by decide, by decide, by omega⟩ fun b b0 b1 => ?_
        walk_at "wp"
        refine hR4 _ _ ?_
        walk_at "wp"
        refine s_take ⟨by decide, by decide, by omega⟩ fun e e0 e1 => ?_
        walk_at "wp"
        refine ⟨.inl (by omega), ?_⟩
        refine s_take ⟨by omega, by omega, by omega⟩ fun f f0 f1 => ?_
        walk_at "wp"
        refine s_take ⟨by decide, by decide, by omega⟩ fun g g0 g1 => ?_
        walk_at "wp"
        have fin : ∀ z : Int, 1 ≤ z → RR [some (Sl.dat D.bag), some (Sl.dat (D.int m)), some (Sl.dat (ruleD p t c)), some (Sl.dat (ridesD ns)), some (Sl.dat (D.int (tk + z))), some (Sl.dat d), some (Sl.dat (D.int (max 1 (t + b - 1))))] (N + 1 + 1 + 1 + 1) := fun z hz =>
          hfin ns (tk + z) _ _ _ (by omega) (by omega) hv (fun y hy => by have := hlt y hy; omega) (by omega)
        refine four_of g0 g1 ?_ ?_ ?_ ?_
        · exact fin 1 (by omega)
        · exact fin (1 + e) (by omega)
        · exact fin (max 1 (t + b - 1)) (by omega)
        · exact fin (1 + f) (by omega)
      refine wif_d (fun h => ?_) fun h => ?_
      · have e : (ridesD ns : D) = .tup (ns.map D.int) := rfl
        have hl := hv.len
        rw [e]
        walk_at "wp"
        refine ⟨by rw [List.length_map]; omega, ?_⟩
        have e2 : ns.map D.int ++ [D.int tk] = (ns ++ [tk]).map D.int := by rw [List.map_append]; rfl
        rw [e2]
        refine key2 (ns ++ [tk]) (asc_snoc hv hlt h0 (by omega)) (fun y hy => ?_)
        rcases List.mem_append.mp hy with hy | hy
        · have := hlt y hy
          omega
        · have e3 : y = tk := by simpa using hy
          omega
      · exact key2 ns (hv.mono (by omega)) (fun y hy => by have := hlt y hy; omega)
    · rintro δ N ⟨ns, tk, y5, y6, rfl, hN1, hN2, hv, hlt, h0⟩
      rw [rngD_len] at hN2 hv
      refine hR2 _ _ ?_
      walk_at "wp"
      exact q ns N (hv.mono (by omega)) (by omega) (by omega)
  refine two_of a0 a1 (fun _ => ?_) (fun _ => ?_)
  · walk_at "wp"
    refine s_take ⟨by decide, by decide, by omega⟩ fun b b0 b1 => ?_
    walk_at "wp"
    exact key b b0
  · walk_at "wp"
    refine s_take ⟨by decide, by decide, by omega⟩ fun b b0 b1 => ?_
    walk_at "wp"
    exact key b b0
end LAW

/-! Rc: same. -/
namespace LAW
open PySem PySem.Spec PyProof.Rows L2 DL
variable [TabNames]
local macro_rules | `(tactic| walk_at "wp") => `(tactic| first | dsimp | skip)
theorem sames_len : ∀ {ds es : List D}, ds.length ≠ es.length → sameDs ds es = false
  | [], [], h => absurd rfl h
  | [], _ :: _, _ => rfl
  | _ :: _, [], _ => rfl
  | d :: ds, e :: es, h => by
    have h' : ds.length ≠ es.length := fun q => h (by simp [q])
    simp [sameDs, sames_len h']
theorem sames_zip : ∀ {ds es : List D}, ds.length = es.length → sameDs ds es = ((zipD ds es).map fun z => match z with | .tup [x, y] => sameD x y | _ => false).all id
  | [], [], _ => rfl
  | [], _ :: _, h => by simp at h
  | _ :: _, [], h => by simp at h
  | d :: ds, e :: es, h => by
    have h' : ds.length = es.length := by simpa using h
    simp [sameDs, zipD, sames_zip h']
theorem ozs_mem : ∀ {n : Nat} {ds : List D} {d : D}, ozs n ds = true → d ∈ ds → oz n d = true
  | _, [], _, _, h => by cases h
  | n, x :: r, d, h, hm => by
    simp only [ozs, Bool.and_eq_true] at h
    rcases List.mem_cons.mp hm with e | hm
    · rw [e]; exact h.1
    · exact ozs_mem h.2 hm
theorem zip_mem {ds es : List D} {z : D} (h : z ∈ zipD ds es) : ∃ x y, x ∈ ds ∧ y ∈ es ∧ z = .tup [x, y] := by
  obtain ⟨i, hi⟩ := List.getElem?_of_mem h
  obtain ⟨x, y, h1, h2, h3⟩ := DL.zip_get hi
  exact ⟨x, y, List.mem_of_getElem? h1, List.mem_of_getElem? h2, h3⟩
@[simp] theorem isas_1 {b : Bool} : D.isasE (.v (.bl b)) [.bool, .list, .tuple] = some true := rfl
@[simp] theorem isas_2 {i : Int} : D.isasE (.v (.int i)) [.bool, .list, .tuple] = some false := rfl
@[simp] theorem isas_3 {x : Str} : D.isasE (.v (.str x)) [.bool, .list, .tuple] = some false := rfl
@[simp] theorem isas_4 : D.isasE (.v .non) [.bool, .list, .tuple] = some false := rfl
@[simp] theorem isas_5 {ds : List D} : D.isasE (.tup ds) [.bool, .list, .tuple] = some true := rfl
@[simp] theorem isas_6 {ds : List D} : D.isasE (.lst ds) [.bool, .list, .tuple] = some true := rfl
theorem eq_bl {a b : Bool} {k : Sl → Prop} : dEq false (.v (.bl a)) (.v (.bl b)) k = k (.dat (.bl (decide (a = b)))) := by
  have e : (a == b) = decide (a = b) := by cases a <;> cases b <;> rfl
  show k (.dat (.bl (a == b))) = _
  rw [e]
theorem eq_strs {x y : Str} {k : Sl → Prop} (hx : PyData.strOk x = true) (hy : PyData.strOk y = true) : dEq false (.v (.str x)) (.v (.str y)) k = k (.dat (.bl (decide (x = y)))) := by
  have e : (x == y) = decide (x = y) := rfl
  show chk (PyData.strOk x && PyData.strOk y) (k (.dat (.bl (x == y)))) = _
  rw [hx, hy, e]
  rfl
theorem same_seq {m : Nat} {C : DK} {n : Nat} {ds es : List D} {σ : StD} (hd : ozs m ds = true) (he : ozs m es = true) (hz : ds.length ≤ 5000) (mk : List D → D) (hmk : (mk = .lst ∨ mk = .tup))
    (hσ : σ = [some (Sl.dat (mk ds)), some (Sl.dat (mk es)), none, none]) (q : C (.dat (.bl (sameDs ds es))) n) :
    wif (decide ((ds.length : Int) = (es.length : Int))) ((dLc (dZip (dCons (dVar 0) (dCons (dVar 1) dNil))) (dgTup 2 (dgCons (dgName 2) (dgCons (dgName 3) dgNil))) dYes (dCall E00 (dspR_L_same (m + 1)) (dCons (dVar 2) (dCons (dVar 3) dNil))) [2, 3]) σ n fun s N1 => dAll [s.rd] fun z => C z.out N1)
      (C (.dat (.bl false)) n) := by
  subst hσ
  refine wif_d (fun h => ?_) fun h => ?_
  · have hl : ds.length = es.length := by omega
    refine lc_p (zipD ds es) (fun _ => true) (fun z => .bl (match z with | .tup [x, y] => sameD x y | _ => false)) (fun R hR => ?_) (Nat.le_trans zipD_length (by omega)) (fun z hz K K' h1 _ => ?_) ?_
    · rcases hmk with rfl | rfl
      · walk_at "wp"
        exact hR
      · walk_at "wp"
        exact hR
    · obtain ⟨x, y, hx, hy, rfl⟩ := zip_mem hz
      walk_at "wp"
      refine ⟨x, y, rfl, ⟨ozs_mem hd hx, ozs_mem he hy⟩, ?_⟩
      walk_at "wp"
      exact h1 rfl
    · rw [filter_all]
      walk_at "wp"
      refine ⟨(zipD ds es).map (fun z => match z with | .tup [x, y] => sameD x y | _ => false), by rw [List.map_map]; rfl, ?_⟩
      rw [← sames_zip hl]
      exact q
  · have hl : ds.length ≠ es.length := fun e => h (by rw [e])
    rw [sames_len hl] at q
    exact q
theorem l_L_same (m : Nat) : ∀ ds n C Er, dspR_L_same m ds n C Er → ds.length = 2 := by
  cases m with
  | zero => intro ds n C Er h; exact h.elim
  | succ m => rintro ds n C Er ⟨d, e, rfl, _⟩; rfl
theorem r_L_same (m : Nat) : ∀ ds n C Er, dspR_L_same (m + 1) ds n C Er → d_L_same (dspR_L_same m) { nx := fun _ n' => C (.dat .non) n', rt := C } (startD ds 4) n := by
  rintro ds n C Er ⟨d, e, rfl, ⟨hd, he⟩, q⟩
  unfold d_L_same
  have seq : ∀ (mk : List D → D) ds es, (mk = .lst ∨ mk = .tup) → oz m (mk ds) = true → oz m (mk es) = true → C (.dat (.bl (sameDs ds es))) n →
     wif (decide ((ds.length : Int) = (es.length : Int))) ((dLc (dZip (dCons (dVar 0) (dCons (dVar 1) dNil))) (dgTup 2 (dgCons (dgName 2) (dgCons (dgName 3) dgNil))) dYes (dCall E00 (dspR_L_same m) (dCons (dVar 2) (dCons (dVar 3) dNil))) [2, 3]) [some (Sl.dat (mk ds)), some (Sl.dat (mk es)), none, none] n fun s N1 => dAll [s.rd] fun z => C z.out N1)
      (C (.dat (.bl false)) n) := by
    intro mk ds es hmk h1 h2 h3
    cases m with
    | zero => rcases hmk with rfl | rfl <;> simp [oz] at h1
    | succ m =>
      have g1 : ds.length ≤ 5000 ∧ ozs m ds = true := by rcases hmk with rfl | rfl <;> simpa [oz] using h1
      have g2 : es.length ≤ 5000 ∧ ozs m es = true := by rcases hmk with rfl | rfl <;> simpa [oz] using h2
      exact same_seq g1.2 g2.2 g1.1 mk hmk rfl h3
  have nope : ∀ d : D, (∃ ns, d = .scr ns) ∨ d = .bag ∨ (∃ x, d = .v x ∧ oz m (.v x) = false) → oz m d = true → False := by
    rintro d (⟨ns, rfl⟩ | rfl | ⟨x, rfl, hx⟩) h
    · cases m <;> simp [oz] at h
    · cases m <;> simp [oz] at h
    · rw [hx] at h; cases h
  have vk : ∀ x : V, oz m (.v x) = true → x = .non ∨ (∃ b, x = .bl b) ∨ (∃ i, x = .int i) ∨ ∃ s, x = .str s ∧ PyData.strOk s = true := by
    intro x h
    cases x with
    | non => exact .inl rfl
    | bl b => exact .inr (.inl ⟨b, rfl⟩)
    | int i => exact .inr (.inr (.inl ⟨i, rfl⟩))
    | str s => exact .inr (.inr (.inr ⟨s, rfl, by cases m <;> simpa [oz] using h⟩))
    | byt b => cases m <;> simp [oz] at h
    | flt b => cases m <;> simp [oz] at h
    | ref b => cases m <;> simp [oz] at h
    | ty b => cases m <;> simp [oz] at h
  cases d with
  | scr ns => exact (nope _ (.inl ⟨ns, rfl⟩) hd).elim
  | bag => exact (nope _ (.inr (.inl rfl)) hd).elim
  | fix P => exact (show False by cases m <;> simp [oz] at hd).elim
  | lst ds =>
    cases e with
    | scr ns => exact (nope _ (.inl ⟨ns, rfl⟩) he).elim
    | bag => exact (nope _ (.inr (.inl rfl)) he).elim
    | fix P => exact (show False by cases m <;> simp [oz] at he).elim
    | lst es =>
      walk_at "wp"
      exact seq .lst ds es (.inl rfl) hd he q
    | tup es =>
      walk_at "wp"
      exact q
    | v y =>
      rcases vk y he with rfl | ⟨b, rfl⟩ | ⟨i, rfl⟩ | ⟨s, rfl, hs⟩ <;> (walk_at "wp"; exact q)
  | tup ds =>
    cases e with
    | scr ns => exact (nope _ (.inl ⟨ns, rfl⟩) he).elim
    | bag => exact (nope _ (.inr (.inl rfl)) he).elim
    | fix P => exact (show False by cases m <;> simp [oz] at he).elim
    | lst es =>
      walk_at "wp"
      exact q
    | tup es =>
      walk_at "wp"
      exact seq .tup ds es (.inr rfl) hd he q
    | v y =>
      rcases vk y he with rfl | ⟨b, rfl⟩ | ⟨i, rfl⟩ | ⟨s, rfl, hs⟩ <;> (walk_at "wp"; exact q)
  | v x =>
    cases e with
    | scr ns => exact (nope _ (.inl ⟨ns, rfl⟩) he).elim
    | bag => exact (nope _ (.inr (.inl rfl)) he).elim
    | fix P => exact (show False by cases m <;> simp [oz] at he).elim
    | lst es =>
      rcases vk x hd with rfl | ⟨b, rfl⟩ | ⟨i, rfl⟩ | ⟨s, rfl, hs⟩ <;> (walk_at "wp"; exact q)
    | tup es =>
      rcases vk x hd with rfl | ⟨b, rfl⟩ | ⟨i, rfl⟩ | ⟨s, rfl, hs⟩ <;> (walk_at "wp"; exact q)
    | v y =>
      have q' : C (.dat (.bl (decide (x = y)))) n := q
      have ne : ∀ {x y : V}, C (.dat (.bl (decide (x = y)))) n → x ≠ y → C (.dat (.bl false)) n := fun q h => by rwa [decide_eq_false h] at q
      rcases vk x hd with rfl | ⟨b, rfl⟩ | ⟨i, rfl⟩ | ⟨s, rfl, hs⟩ <;> rcases vk y he with rfl | ⟨b2, rfl⟩ | ⟨i2, rfl⟩ | ⟨s2, rfl, hs2⟩ <;> walk_at "wp"
      · exact q'
      · exact ne q' (by simp)
      · exact ne q' (by simp)
      · exact ne q' (by simp)
      · exact ne q' (by simp)
      · rw [eq_bl]
        simpa using q'
      · exact ne q' (by simp)
      · exact ne q' (by simp)
      · exact ne q' (by simp)
      · exact ne q' (by simp)
      · simpa using q'
      · exact ne q' (by simp)
      · exact ne q' (by simp)
      · exact ne q' (by simp)
      · exact ne q' (by simp)
      · rw [eq_strs hs hs2]
        simpa using q'
end LAW

/-! Rd: tickets_for, sums of tickets, lengths of arguments. -/
namespace LAW
open PySem PySem.Spec PyProof.Rows L2 DL
variable [TabNames]
local macro_rules | `(tactic| walk_at "wp") => `(tactic| first | dsimp | skip)
theorem rng_nats {n : Int} : rngD 0 n.toNat = (natsI n).map D.int := by
  unfold rngD natsI
  rw [List.map_map]
  refine List.map_congr_left fun i _ => ?_
  show D.int (0 + (i : Int)) = D.int (i : Int)
  rw [Int.zero_add]
theorem nats_mem {n x : Int} : x ∈ natsI n ↔ 0 ≤ x ∧ x < n := by
  unfold natsI
  rw [List.mem_map]
  constructor
  · rintro ⟨i, hi, rfl⟩
    have := List.mem_range.mp hi
    omega
  · rintro ⟨h0, h1⟩
    exact ⟨x.toNat, List.mem_range.mpr (by omega), by omega⟩
theorem nats_len {n : Int} : (natsI n).length = n.toNat := by unfold natsI; rw [List.length_map, List.length_range]
theorem nats_asc {n : Int} : (natsI n).Pairwise (· < ·) := by
  unfold natsI
  rw [List.pairwise_map]
  exact List.pairwise_lt_range.imp fun h => by omega
theorem nats_get {n x : Int} (h0 : 0 ≤ x) (h1 : x < n) : (natsI n)[x.toNat]? = some x := by
  unfold natsI
  rw [List.getElem?_map, List.getElem?_range (by omega)]
  show some ((x.toNat : Int)) = some x
  rw [Int.toNat_of_nonneg h0]
theorem up_le {t : Int} (h0 : 1 ≤ t) (h1 : t ≤ 1440) : 1 ≤ upF 1440 t ∧ upF 1440 t ≤ 1440 := by
  unfold upF
  constructor
  · exact (Int.le_ediv_iff_mul_le (by omega)).mpr (by omega)
  · refine Int.ediv_le_of_le_mul (by omega) ?_
    have : t * 1440 ≥ t * 1 := by omega
    omega
theorem filter_map_int (p : Int → Bool) (q : D → Bool) (h : ∀ x : Int, q (D.int x) = p x) (ns : List Int) : (ns.map D.int).filter q = (ns.filter p).map D.int := by
  induction ns with
  | nil => rfl
  | cons x r ih =>
    rw [List.map_cons, List.filter_cons, List.filter_cons, h, ih]
    cases p x <;> rfl
theorem atI_int {ns : List Int} {i x : Int} (h0 : 0 ≤ i) (h : ns[i.toNat]? = some x) : atI (ns.map D.int) i = some (D.int x) := by
  have hl := (List.getElem?_eq_some_iff.mp h).1
  unfold atI ixN
  rw [if_pos h0, if_pos (by rw [List.length_map]; omega)]
  show (ns.map D.int)[_]? = _
  rw [List.getElem?_map, h]
  rfl
/-- x[0], x[-1] or None -/
theorem span_of {xs : List Int} {N : Nat} {C : DK} {δ : StD} {i : Nat} (hi : dVar i δ = dVar 0 [some (.dat (.lst (xs.map D.int)))]) (q : C (.dat (spanD xs)) N) : dIfE (dTest (dOp (dEq true) (dVar i) (dLst dNil))) (dTup (dCons (dOp dIx (dVar i) (dC (.int 0))) (dCons (dOp dIx (dVar i) (dNeg (dC (.int 1)))) dNil))) (dC .non) δ N C := by
  simp only [dIfE, dTest, dOp, dTup, dCons, hi]
  walk_at "wp"
  rw [eq_nil]
  walk_at "wp"
  cases xs with
  | nil =>
    refine wif_f rfl ?_
    exact q
  | cons x r =>
    refine wif_t (by simp [ng]) ?_
    have h1 : atI ((x :: r).map D.int) 0 = some (D.int x) := atI_int (by decide) rfl
    have h2 : atI ((x :: r).map D.int) (-1) = some (D.int ((x :: r).getLast (List.cons_ne_nil _ _))) := atI_last (List.getLast?_eq_some_getLast _)
    simp only [dIx, D.items]
    rw [h1]
    walk_at "wp"
    have h2' : atI (D.int x :: r.map D.int) (-1) = some (D.int ((x :: r).getLast (List.cons_ne_nil _ _))) := h2
    rw [h2']
    exact q
theorem s_tickets_for {p t paid : Int} {c : Option Int} {N : Nat} {C : DK} (v : VRule p t c) (h : 0 ≤ paid ∧ paid ≤ 10000000) (q : C (.dat (spanD (ticks p t c paid))) N) : dsp_P_tickets_for [ruleD p t c, .v (.int paid)] N C E00 := ⟨p, t, c, paid, rfl, ⟨v, h⟩, q⟩
theorem r_P_tickets_for : ∀ ds n C Er, dsp_P_tickets_for ds n C Er → d_P_tickets_for { nx := fun _ n' => C (.dat .non) n', rt := C } (startD ds 4) n := by
  rintro ds n C Er ⟨p, t, c, paid, rfl, ⟨v, h⟩, q⟩
  have hu := up_le v.t0 v.t1
  unfold d_P_tickets_for
  walk_at "wp"
  refine s_check_rule v ?_
  walk_at "wp"
  refine s_check_number h ?_
  walk_at "wp"
  refine lc_p ((natsI (upF 1440 t + 1)).map D.int) (fun d => match d with | .v (.int x) => decide (moneyF p c x = paid) | _ => false) (fun d => d) (fun R hR => ?_) (by rw [List.length_map, nats_len]; omega) (fun d hd K K' h1 h2 => ?_) ?_
  · walk_at "wp"
    refine s_most_tickets ⟨v.t0, v.t1⟩ ?_
    walk_at "wp"
    refine ⟨⟨by omega, by omega⟩, ?_⟩
    rw [rng_nats]
    exact hR
  · obtain ⟨x, hx, rfl⟩ := List.mem_map.mp hd
    walk_at "wp"
    refine s_money ⟨v.p0, v.p1⟩ ?_
    walk_at "wp"
    refine wif_d (fun e => ?_) fun e => ?_
    · exact h1 (decide_eq_true e)
    · exact h2 (decide_eq_false e)
  · rw [filter_map_int (fun x => decide (moneyF p c x = paid)) _ (fun _ => rfl), List.map_id']
    exact span_of (xs := ticks p t c paid) (δ := [some (.dat (.lst ((ticks p t c paid).map D.int)))]) (i := 0) rfl q
/-! ### how many arguments -/
theorem l_P_in_range : ∀ ds n C Er, dsp_P_in_range ds n C Er → ds.length = 3 := by rintro ds n C Er ⟨_, _, _, rfl, _⟩; rfl
theorem l_P_is_rule : ∀ ds n C Er, dsp_P_is_rule ds n C Er → ds.length = 1 := by rintro ds n C Er ⟨_, _, _, rfl, _⟩; rfl
theorem l_P_is_rides : ∀ ds n C Er, dsp_P_is_rides ds n C Er → ds.length = 1 := by rintro ds n C Er ⟨_, rfl, _⟩; rfl
theorem l_P_check_rule : ∀ ds n C Er, dsp_P_check_rule ds n C Er → ds.length = 1 := by rintro ds n C Er ⟨_, _, _, rfl, _⟩; rfl
theorem l_P_check_rides : ∀ ds n C Er, dsp_P_check_rides ds n C Er → ds.length = 1 := by rintro ds n C Er ⟨_, rfl, _⟩; rfl
theorem l_P_check_number : ∀ ds n C Er, dsp_P_check_number ds n C Er → ds.length = 3 := by rintro ds n C Er ⟨_, _, _, rfl, _⟩; rfl
theorem l_P_bought_of : ∀ ds n C Er, dsp_P_bought_of ds n C Er → ds.length = 2 := by rintro ds n C Er ⟨_, _, _, rfl, _⟩; rfl
theorem l_P_money : ∀ ds n C Er, dsp_P_money ds n C Er → ds.length = 2 := by rintro ds n C Er ⟨_, _, _, _, rfl, _⟩; rfl
theorem l_P_cost_of : ∀ ds n C Er, dsp_P_cost_of ds n C Er → ds.length = 2 := by rintro ds n C Er ⟨_, _, _, _, _, rfl, _⟩; rfl
theorem l_P_bought : ∀ ds n C Er, dsp_P_bought ds n C Er → ds.length = 2 := by rintro ds n C Er ⟨_, _, _, _, rfl, _⟩; rfl
theorem l_P_cost : ∀ ds n C Er, dsp_P_cost ds n C Er → ds.length = 2 := by rintro ds n C Er ⟨_, _, _, _, rfl, _⟩; rfl
theorem l_P_up : ∀ ds n C Er, dsp_P_up ds n C Er → ds.length = 2 := by rintro ds n C Er ⟨_, _, rfl, _⟩; rfl
theorem l_P_most_tickets : ∀ ds n C Er, dsp_P_most_tickets ds n C Er → ds.length = 1 := by rintro ds n C Er ⟨_, _, _, rfl, _⟩; rfl
theorem l_P_tickets_for : ∀ ds n C Er, dsp_P_tickets_for ds n C Er → ds.length = 2 := by rintro ds n C Er ⟨_, _, _, _, rfl, _⟩; rfl
theorem l_L_take : ∀ ds n C Er, dsp_L_take ds n C Er → ds.length = 2 := by rintro ds n C Er ⟨_, rfl, _⟩; rfl
theorem l_L_well : ∀ ds n C Er, dsp_L_well ds n C Er → ds.length = 2 := by rintro ds n C Er ⟨_, _, rfl, _⟩; rfl
theorem l_L_bags : ∀ ds n C Er, dsp_L_bags ds n C Er → ds.length = 2 := by rintro ds n C Er ⟨_, _, rfl, _⟩; rfl
theorem l_L_rule : ∀ ds n C Er, dsp_L_rule ds n C Er → ds.length = 1 := by rintro ds n C Er ⟨rfl, _⟩; rfl
theorem l_L_rides : ∀ ds n C Er, dsp_L_rides ds n C Er → ds.length = 3 := by rintro ds n C Er ⟨_, _, _, _, rfl, _⟩; rfl
theorem l_L_money : ∀ ds n C Er, dsp_L_money ds n C Er → ds.length = 2 := by rintro ds n C Er ⟨_, _, _, _, rfl, _⟩; rfl
theorem same_refl_ints : ∀ ns : List Int, sameDs (ns.map D.int) (ns.map D.int) = true
  | [] => rfl
  | n :: ns => by
    show (sameD (D.int n) (D.int n) && sameDs (ns.map D.int) (ns.map D.int)) = true
    rw [same_refl_ints ns]
    simp [sameD]
theorem oz_span (ns : List Int) : oz 3 (spanD ns) = true := by
  cases ns with
  | nil => rfl
  | cons x r => rfl
theorem same_span (ns : List Int) : sameD (spanD ns) (spanD ns) = true := by
  cases ns with
  | nil => rfl
  | cons x r => exact same_refl_ints [x, _]
theorem s_same {d e : D} {N : Nat} {C : DK} (h : oz 3 d = true ∧ oz 3 e = true) (q : C (.dat (.bl (sameD d e))) N) : dsp_L_same [d, e] N C E00 := ⟨d, e, rfl, h, q⟩
theorem s_rides {m p t : Int} {c : Option Int} {N : Nat} {C : DK} (h : 0 ≤ m ∧ m ≤ 60 ∧ 1 ≤ t ∧ t ≤ 1440 ∧ N + 300 ≤ LIM) (q : ∀ ns N', VRides m.toNat ns → N ≤ N' → N' ≤ N + 243 → C (.dat (ridesD ns)) N') : dsp_L_rides [.bag, .v (.int m), ruleD p t c] N C E00 := ⟨m, p, t, c, rfl, h, q⟩
theorem s_bags {ns : List Int} {k : Int} {N : Nat} {C : DK} (h : 0 ≤ k ∧ k ≤ 12 ∧ 9770 * 2 ≤ N ∧ ns.length ≤ 63) (q : ∀ m : Nat, m ≤ 13 → C (.own (List.replicate m .bag)) N) : dsp_L_bags [.scr ns, .v (.int k)] N C E00 := ⟨ns, k, rfl, h, q⟩
def dsp_law : DSp := fun ds N C _ => ∃ ns, ds = [.scr ns] ∧ (ns.length ≤ 63 ∧ N = 20000) ∧ ∀ N', C (.dat (.bl true)) N'
theorem l_law : ∀ ds n C Er, dsp_law ds n C Er → ds.length = 1 := by rintro ds n C Er ⟨_, rfl, _⟩; rfl
/-- the law answers -/
theorem end_law {K : PySem.W.Frag} {H : Hp} {a : Addr} {ns : List Int} (hl : ns.length ≤ 63) (ho : Only H) (hS : SqL K H a (ns.map V.int)) : lift K dsp_law [.ref a] H (fun v _ => v = .bl true) (fun _ _ _ => False) := by
  have hf : SqF K H a (ns.map V.int) := by
    rcases hS with (h | h) | h
    · rcases ho a with h2 | ⟨o, ys, h2⟩ <;> rw [h2] at h <;> cases h
    · exact .inl h
    · exact .inr h
  refine ⟨Z00, 20000, [.scr ns], fun s _ => s = .dat (.bl true), fun _ _ => False, fun _ z => z.elim, .cons (.scr hf) .nil, ⟨ns, rfl, ⟨hl, rfl⟩, fun _ => rfl⟩, fun s v H' k _ r hs => ?_, fun _ _ _ _ z => z.elim⟩
  have hs' : s = .dat (.bl true) := hs
  subst hs'
  cases r; rfl
end LAW

/-! Re: regular, the laws' own bought and cost. -/
namespace LAW
open PySem PySem.Spec PyProof.Rows L2 DL
variable [TabNames]
local macro_rules | `(tactic| walk_at "wp") => `(tactic| first | dsimp | skip)
section
variable {N : Nat} {C : DK} {p t b s L : Int} {c : Option Int} {d : D} {ns : List Int}
theorem s_cost_from (v : 0 ≤ p ∧ p ≤ 1000 ∧ 1 ≤ t ∧ t ≤ 1440 ∧ b < 1440 ∧ 1 ≤ s ∧ s ≤ 1440) (h : C (.dat (.int (costFromF p t c b s))) N) : dsp_P_cost_from [ruleD p t c, .v (.int b), .v (.int s)] N C E00 := ⟨p, t, c, b, s, rfl, v, h⟩
theorem s_regular (v : VRule p t c) (v2 : 0 ≤ b ∧ b ≤ 1439 ∧ 1 ≤ s ∧ s ≤ 1440) (h : C (.dat (.int (costFromF p t c b s))) N) : dsp_P_regular [ruleD p t c, .v (.int b), .v (.int s)] N C E00 := ⟨p, t, c, b, s, rfl, ⟨v, v2⟩, h⟩
theorem s_lbought (v : IntsD d ns) (z : ns.length ≤ 2000) (g : ∀ x ∈ ns, 0 ≤ x) (h : C (.own ((boughtF L ns).map D.int)) N) : dsp_L_bought [.v (.int L), d] N C E00 := ⟨L, d, ns, rfl, ⟨v, z, g⟩, h⟩
theorem s_lcost (v : IntsD d ns) (z : ns.length ≤ 2000) (g : ∀ x ∈ ns, 0 ≤ x) (hp : 0 ≤ p ∧ p ≤ 1000) (h : C (.dat (.int (costF p t c ns))) N) : dsp_L_cost [ruleD p t c, d] N C E00 := ⟨p, t, c, d, ns, rfl, ⟨v, z, g, hp⟩, h⟩
end
theorem l_P_cost_from : ∀ ds n C Er, dsp_P_cost_from ds n C Er → ds.length = 3 := by rintro ds n C Er ⟨_, _, _, _, _, rfl, _⟩; rfl
theorem l_P_regular : ∀ ds n C Er, dsp_P_regular ds n C Er → ds.length = 3 := by rintro ds n C Er ⟨_, _, _, _, _, rfl, _⟩; rfl
theorem l_L_bought : ∀ ds n C Er, dsp_L_bought ds n C Er → ds.length = 2 := by rintro ds n C Er ⟨_, _, _, rfl, _⟩; rfl
theorem l_L_cost : ∀ ds n C Er, dsp_L_cost ds n C Er → ds.length = 2 := by rintro ds n C Er ⟨_, _, _, _, _, rfl, _⟩; rfl
theorem up_pos {a b : Int} (ha : 0 ≤ a) (hb : 1 ≤ b) : 0 ≤ upF a b ∧ upF a b ≤ a := by
  unfold upF
  constructor
  · exact Int.ediv_nonneg (by omega) (by omega)
  · by_cases h : a = 0
    · subst h
      rw [Int.ediv_eq_zero_of_lt (by omega) (by omega)]
      exact Int.le_refl _
    · refine Int.ediv_le_of_le_mul (by omega) ?_
      have h1 : 0 ≤ (a - 1) * (b - 1) := Int.mul_nonneg (by omega) (by omega)
      have h2 : (a - 1) * (b - 1) = a * b - a - b + 1 := by
        rw [Int.sub_mul, Int.mul_sub, Int.mul_sub]
        omega
      omega
theorem up_one {a b : Int} (ha : 1 ≤ a) (hb : 1 ≤ b) : 1 ≤ upF a b := by
  unfold upF
  exact (Int.le_ediv_iff_mul_le (by omega)).mpr (by omega)
theorem r_P_cost_from : ∀ ds n C Er, dsp_P_cost_from ds n C Er → d_P_cost_from { nx := fun _ n' => C (.dat .non) n', rt := C } (startD ds 4) n := by
  rintro ds n C Er ⟨p, t, c, b, s, rfl, ⟨p0, p1, t0, t1, b1, s0, s1⟩, q⟩
  have h1 := up_one t0 s0
  have h2 := up_pos (a := t) (b := s) (by omega) s0
  unfold d_P_cost_from
  refine seqR fun R hR => ?_
  walk_at "wp"
  refine wif_t (decide_eq_true b1) ?_
  refine s_up ⟨by omega, by omega⟩ ?_
  walk_at "wp"
  refine hR _ _ ?_
  walk_at "wp"
  refine s_up ⟨by omega, by omega⟩ ?_
  walk_at "wp"
  refine s_up ⟨by omega, by omega⟩ ?_
  walk_at "wp"
  refine s_money ⟨p0, p1⟩ ?_
  walk_at "wp"
  exact q
theorem r_P_regular : ∀ ds n C Er, dsp_P_regular ds n C Er → d_P_regular { nx := fun _ n' => C (.dat .non) n', rt := C } (startD ds 3) n := by
  rintro ds n C Er ⟨p, t, c, b, s, rfl, ⟨v, b0, b1, s0, s1⟩, q⟩
  unfold d_P_regular
  walk_at "wp"
  refine s_check_rule v ?_
  walk_at "wp"
  refine s_check_number ⟨b0, by omega⟩ ?_
  walk_at "wp"
  refine s_check_number ⟨s0, s1⟩ ?_
  walk_at "wp"
  refine s_cost_from ⟨v.p0, v.p1, v.t0, v.t1, by omega, s0, s1⟩ ?_
  walk_at "wp"
  exact q
def untilF (L : Int) (acc : List Int) : Int := match acc.getLast? with
  | none => -1
  | some l => l + L
theorem until_step {L x : Int} {acc : List Int} (hx : 0 ≤ x) : bstep L acc x = if untilF L acc ≤ x then acc ++ [x] else acc := by
  unfold bstep untilF
  cases h : acc.getLast? with
  | none =>
    dsimp only
    rw [if_pos (by omega)]
  | some l => rfl
theorem r_L_bought : ∀ ds n C Er, dsp_L_bought ds n C Er → d_L_bought { nx := fun _ n' => C (.dat .non) n', rt := C } (startD ds 5) n := by
  rintro ds n C Er ⟨L, d, ns, rfl, ⟨hd, hz, hg⟩, q⟩
  unfold d_L_bought
  refine seqR fun R hR => ?_
  walk_at "wp"
  refine hR _ _ ?_
  refine seqR fun R hR => ?_
  have hit : itemsS (.dat d) = some (ns.map D.int) := by rcases hd with rfl | rfl <;> rfl
  refine for_i (ns.map D.int) (fun i δ N => N = n ∧ ∃ y, δ = [some (.dat (.int L)), some (.dat d), some (.own ((boughtF L (ns.take i)).map D.int)), some (.dat (.int (untilF L (boughtF L (ns.take i))))), y]) (fun R hR => by walk_at "wp"; rw [hit]; exact hR) ⟨rfl, none, rfl⟩ ?_ ?_
  · rintro i e δ N hi ⟨rfl, y, rfl⟩ R2 hR2
    obtain ⟨x, hx, rfl⟩ : ∃ x, ns[i]? = some x ∧ e = .int x := by
      rw [List.getElem?_map] at hi
      cases h : ns[i]? with
      | none => rw [h] at hi; cases hi
      | some x => rw [h] at hi; cases hi; exact ⟨x, rfl, rfl⟩
    have hx0 := hg x (List.mem_of_getElem? hx)
    have hb := bfold_snoc L ns i x hx
    rw [until_step hx0] at hb
    have hl := boughtF_len L (ns.take i)
    rw [List.length_take] at hl
    walk_at "wp"
    refine wif_d (fun h => ?_) fun h => ?_
    · rw [if_pos h] at hb
      refine ⟨by rw [List.length_map]; omega, hR2 _ _ ⟨rfl, some (Sl.dat (D.int x)), ?_⟩⟩
      rw [hb, List.map_append]
      have e : untilF L (boughtF L (ns.take i) ++ [x]) = x + L := by
        unfold untilF
        rw [List.getLast?_append]
        rfl
      rw [e]
      rfl
    · rw [if_neg h] at hb
      refine hR2 _ _ ⟨rfl, some (Sl.dat (D.int x)), ?_⟩
      rw [hb]
  · rintro δ N ⟨rfl, y, rfl⟩
    rw [List.length_map, List.take_length]
    refine hR _ _ ?_
    walk_at "wp"
    exact q
theorem r_L_cost : ∀ ds n C Er, dsp_L_cost ds n C Er → d_L_cost { nx := fun _ n' => C (.dat .non) n', rt := C } (startD ds 2) n := by
  rintro ds n C Er ⟨p, t, c, d, ns, rfl, ⟨hd, hz, hg, hp⟩, q⟩
  unfold d_L_cost
  walk_at "wp"
  refine s_lbought hd hz hg ?_
  walk_at "wp"
  refine s_lmoney hp ?_
  walk_at "wp"
  rw [List.length_map]
  exact q
end LAW

/-! Rf: hidden_ticks; loops that pick. -/
namespace LAW
open PySem PySem.Spec PyProof.Rows L2 DL
variable [TabNames]
local macro_rules | `(tactic| walk_at "wp") => `(tactic| first | dsimp | skip)
theorem pick_snoc {α : Type} (p : α → Bool) {l : List α} {i : Nat} {x : α} (h : l[i]? = some x) : (l.take (i + 1)).filter p = (l.take i).filter p ++ (if p x = true then [x] else []) := by
  rw [List.take_add_one, h, List.filter_append]
  congr 1
  show List.filter p [x] = _
  rw [List.filter_cons]
  cases p x <;> rfl
theorem pick_len {α : Type} (p : α → Bool) {l : List α} {i : Nat} : ((l.take i).filter p).length ≤ l.length := by
  refine Nat.le_trans (List.length_filter_le _ _) ?_
  rw [List.length_take]
  omega
theorem get_ints {ns : List Int} {i : Nat} {e : D} (hi : (ns.map D.int)[i]? = some e) : ∃ x, ns[i]? = some x ∧ e = .int x := by
  rw [List.getElem?_map] at hi
  cases h : ns[i]? with
  | none => rw [h] at hi; cases hi
  | some x => rw [h] at hi; cases hi; exact ⟨x, rfl, rfl⟩
theorem srt_len {l : List Int} : (srt l).length = l.length := (srt_perm l).length_eq
theorem notin_tup {i : Int} {ns : List Int} {k : Sl → Prop} (h : k (.dat (.bl (!decide (i ∈ ns))))) : dIn true (.v (.int i)) (ridesD ns) k := ⟨ns, rfl, h⟩
theorem sort_tup {ns : List Int} {k : Sl → Prop} (h : k (.own ((srt ns).map D.int))) : dSort [.tup (ns.map D.int)] k := ⟨ns, rfl, h⟩
theorem sort_lst {ns : List Int} {k : Sl → Prop} (h : k (.own ((srt ns).map D.int))) : dSort [.lst (ns.map D.int)] k := ⟨ns, rfl, h⟩
section
variable {N : Nat} {C : DK} {p t paid : Int} {c : Option Int} {ns : List Int}
theorem s_hidden_ticks (v : VRule p t c) (r : VRides 60 ns) (h : 0 ≤ paid ∧ paid ≤ 10000000) (q : C (.own ((hiddenF p t c ns paid).map D.int)) N) : dsp_P_hidden_ticks [ruleD p t c, ridesD ns, .v (.int paid)] N C E00 := ⟨p, t, c, ns, paid, rfl, ⟨v, r, h⟩, q⟩
end
theorem l_P_hidden_ticks : ∀ ds n C Er, dsp_P_hidden_ticks ds n C Er → ds.length = 3 := by rintro ds n C Er ⟨_, _, _, _, _, rfl, _⟩; rfl
theorem hidP_f1 {p t paid x : Int} {c : Option Int} {ns : List Int} (h : x ∈ ns) : hidP p t c ns paid x = false := by
  unfold hidP
  rw [decide_eq_true h]
  rfl
theorem hidP_2 {p t paid x : Int} {c : Option Int} {ns : List Int} (h : x ∉ ns) : hidP p t c ns paid x = decide (costF p t c (srt (ns ++ [x])) = paid) := by
  unfold hidP
  rw [decide_eq_false h]
  rfl
theorem map_snoc {ns : List Int} {x : Int} : ns.map D.int ++ [D.v (V.int x)] = (ns ++ [x]).map D.int := by rw [List.map_append]; rfl
theorem r_P_hidden_ticks : ∀ ds n C Er, dsp_P_hidden_ticks ds n C Er → d_P_hidden_ticks { nx := fun _ n' => C (.dat .non) n', rt := C } (startD ds 5) n := by
  rintro ds n C Er ⟨p, t, c, ns, paid, rfl, ⟨v, r, h⟩, q⟩
  have rl := r.len
  unfold d_P_hidden_ticks
  walk_at "wp"
  refine s_check_rule v ?_
  walk_at "wp"
  refine s_check_rides r ?_
  walk_at "wp"
  refine s_check_number h ?_
  refine for_i ((natsI 1440).map D.int) (fun i δ N => N = n ∧ ∃ y, δ = [some (.dat (ruleD p t c)), some (.dat (ridesD ns)), some (.dat (.int paid)), some (.own (((natsI 1440).take i |>.filter (hidP p t c ns paid)).map D.int)), y])
    (fun R hR => by walk_at "wp"; refine ⟨⟨by decide, by decide⟩, ?_⟩; rw [show rngD 0 1440 = (natsI 1440).map D.int from rng_nats (n := 1440)]; exact hR) ⟨rfl, none, rfl⟩ ?_ ?_
  · rintro i e δ N hi ⟨rfl, y, rfl⟩ R2 hR2
    obtain ⟨x, hx, rfl⟩ := get_ints hi
    have hs := pick_snoc (hidP p t c ns paid) hx
    have hl := pick_len (hidP p t c ns paid) (l := natsI 1440) (i := i)
    rw [nats_len] at hl
    walk_at "wp"
    refine notin_tup ?_
    walk_at "wp"
    refine wif_n (fun hn => ?_) fun hn => ?_
    · have e : (ridesD ns : D) = .tup (ns.map D.int) := rfl
      rw [e]
      walk_at "wp"
      refine ⟨by rw [List.length_map]; omega, ?_⟩
      rw [map_snoc]
      refine sort_tup ?_
      rw [← e]
      walk_at "wp"
      refine s_cost_of .lst ⟨by rw [srt_len, List.length_append]; show _ + 1 ≤ _; omega, v.p0, v.p1⟩ ?_
      walk_at "wp"
      rw [hidP_2 hn] at hs
      refine wif_d (fun hc => ?_) fun hc => ?_
      · rw [if_pos (decide_eq_true hc)] at hs
        refine ⟨by rw [List.length_map]; omega, hR2 _ _ ⟨rfl, some (.dat (.int x)), ?_⟩⟩
        rw [hs, List.map_append]
        rfl
      · rw [if_neg (by simpa using hc), List.append_nil] at hs
        refine hR2 _ _ ⟨rfl, some (.dat (.int x)), ?_⟩
        rw [hs]
    · rw [hidP_f1 hn, if_neg (by decide), List.append_nil] at hs
      refine hR2 _ _ ⟨rfl, some (.dat (.int x)), ?_⟩
      rw [hs]
  · rintro δ N ⟨rfl, y, rfl⟩
    rw [List.length_map, List.take_length]
    walk_at "wp"
    exact q
end LAW

/-! Rg: lengths_for. -/
namespace LAW
open PySem PySem.Spec PyProof.Rows L2 DL
variable [TabNames]
local macro_rules | `(tactic| walk_at "wp") => `(tactic| first | dsimp | skip)
theorem asc_head {x : Int} {r : List Int} {n : Int} (h : (x :: r).Pairwise (· < ·)) (hn : n ∈ x :: r) : x ≤ n := by
  rcases List.mem_cons.mp hn with rfl | hn
  · exact Int.le_refl _
  · exact Int.le_of_lt ((List.pairwise_cons.mp h).1 n hn)
theorem asc_last : ∀ {ns : List Int} {n : Int} (h : ns.Pairwise (· < ·)) (hn : n ∈ ns) (ne : ns ≠ []), n ≤ ns.getLast ne
  | [x], n, _, hn, _ => by simp at hn; subst hn; exact Int.le_refl _
  | x :: y :: r, n, h, hn, ne => by
    rw [List.getLast_cons (List.cons_ne_nil _ _)]
    rcases List.mem_cons.mp hn with e | hn
    · have h1 := (List.pairwise_cons.mp h).1 _ (List.getLast_mem (List.cons_ne_nil y r))
      omega
    · exact asc_last (List.pairwise_cons.mp h).2 hn _
theorem oz_ints : ∀ {m : Nat} {ns : List Int}, ozs m (ns.map D.int) = true
  | _, [] => by cases ‹Nat› <;> rfl
  | m, n :: ns => by
    show (oz m (D.int n) && ozs m (ns.map D.int)) = true
    rw [oz_ints]
    cases m <;> rfl
theorem oz_lst {ns : List Int} (h : ns.length ≤ 5000) : oz 3 (.lst (ns.map D.int)) = true := by
  show (decide ((ns.map D.int).length ≤ 5000) && ozs 2 (ns.map D.int)) = true
  rw [oz_ints, List.length_map, decide_eq_true h]
  rfl
theorem same_lst (ns : List Int) : sameD (.lst (ns.map D.int)) (.lst (ns.map D.int)) = true := same_refl_ints ns
theorem money_le {p n m : Int} {c : Option Int} {t : Int} (v : VRule p t c) (h0 : 0 ≤ n) (h1 : n ≤ m) : 0 ≤ moneyF p c n ∧ moneyF p c n ≤ m * 1000 := by
  have hp := v.p0
  have hp1 := v.p1
  have e0 : 0 ≤ n * p := Int.mul_nonneg h0 hp
  have e1 : n * p ≤ m * 1000 := Int.mul_le_mul h1 hp1 hp (by omega)
  cases c with
  | none => exact ⟨e0, e1⟩
  | some c =>
    have hc := v.c0 c rfl
    show 0 ≤ min (n * p) c ∧ min (n * p) c ≤ m * 1000
    omega
theorem dgN {i : Nat} {d : D} {δ : StD} {P : StD → Prop} (h : P (stn δ i (.dat d))) : dgName i d δ P := h
theorem dgT2 {i j : Nat} {a b : D} {δ : StD} {P : StD → Prop} (h : P (stn (stn δ i (.dat a)) j (.dat b))) : dgTup 2 (dgCons (dgName i) (dgCons (dgName j) dgNil)) (.tup [a, b]) δ P := by dsimp; exact h
theorem dgT3 {i j k : Nat} {a b c : D} {δ : StD} {P : StD → Prop} (h : P (stn (stn (stn δ i (.dat a)) j (.dat b)) k (.dat c))) : dgTup 3 (dgCons (dgName i) (dgCons (dgName j) (dgCons (dgName k) dgNil))) (.tup [a, b, c]) δ P := by dsimp; exact h
theorem lens_rng : rngD 1 1440 = lensI.map D.int := by
  unfold rngD lensI
  rw [List.map_map]
  rfl
theorem lens_mem {x : Int} : x ∈ lensI ↔ 1 ≤ x ∧ x ≤ 1440 := by
  unfold lensI
  rw [List.mem_map]
  constructor
  · rintro ⟨i, hi, rfl⟩
    have := List.mem_range.mp hi
    omega
  · rintro ⟨h0, h1⟩
    exact ⟨(x - 1).toNat, List.mem_range.mpr (by omega), by omega⟩
theorem lens_len : lensI.length = 1440 := by unfold lensI; rw [List.length_map, List.length_range]
theorem lens_asc : lensI.Pairwise (· < ·) := by
  unfold lensI
  rw [List.pairwise_map]
  exact List.pairwise_lt_range.imp fun h => by omega
section
variable {N : Nat} {C : DK} {p paid : Int} {c : Option Int} {ns : List Int}
theorem s_lengths_for (v : VRule p 1 c) (r : VRides 60 ns) (h : 0 ≤ paid ∧ paid ≤ 10000000) (q : C (.dat (spanD (lensF p c ns paid))) N) : dsp_P_lengths_for [.v (.int p), capD c, ridesD ns, .v (.int paid)] N C E00 := ⟨p, c, ns, paid, rfl, ⟨v, r, h⟩, q⟩
end
theorem l_P_lengths_for : ∀ ds n C Er, dsp_P_lengths_for ds n C Er → ds.length = 4 := by rintro ds n C Er ⟨_, _, _, _, rfl, _⟩; rfl
theorem r_P_lengths_for : ∀ ds n C Er, dsp_P_lengths_for ds n C Er → d_P_lengths_for { nx := fun _ n' => C (.dat .non) n', rt := C } (startD ds 6) n := by
  rintro ds n C Er ⟨p, c, ns, paid, rfl, ⟨v, r, h⟩, q⟩
  have rl := r.len
  unfold d_P_lengths_for
  walk_at "wp"
  refine s_is_rule (p := p) (t := 1) (c := c) v ?_
  walk_at "wp"
  refine s_check_rides r ?_
  walk_at "wp"
  refine s_check_number h ?_
  walk_at "wp"
  refine lc_p (lensI.map D.int) (fun d => match d with | .v (.int x) => decide (costF p x c ns = paid) | _ => false) (fun d => d) (fun R hR => ?_) (by rw [List.length_map, lens_len]; decide) (fun d hd K K' h1 h2 => ?_) ?_
  · walk_at "wp"
    refine ⟨⟨by decide, by decide, by decide, by decide⟩, ?_⟩
    rw [lens_rng]
    exact hR
  · obtain ⟨x, hx, rfl⟩ := List.mem_map.mp hd
    have hx' := lens_mem.mp hx
    walk_at "wp"
    refine s_cost_of (p := p) (t := x) (c := c) (ns := ns) .tup ⟨by omega, v.p0, v.p1⟩ ?_
    walk_at "wp"
    refine wif_d (fun e => ?_) fun e => ?_
    · exact h1 (decide_eq_true e)
    · exact h2 (decide_eq_false e)
  · rw [filter_map_int (fun x => decide (costF p x c ns = paid)) _ (fun _ => rfl), List.map_id']
    exact span_of (xs := lensF p c ns paid) (δ := [some (.dat (.lst ((lensF p c ns paid).map D.int)))]) (i := 0) rfl q
end LAW

/-! Rh: rules near another one. -/
namespace LAW
open PySem PySem.Spec PyProof.Rows L2 DL
variable [TabNames]
local macro_rules | `(tactic| walk_at "wp") => `(tactic| first | dsimp | skip)
theorem l_L_near : ∀ ds n C Er, dsp_L_near ds n C Er → ds.length = 2 := by rintro ds n C Er ⟨_, _, _, rfl, _⟩; rfl
theorem s_near {p t : Int} {c : Option Int} {N : Nat} {C : DK} (v : VRule p t c) (h : N + 40 ≤ LIM) (q : ∀ p t c N', VRule p t c → N ≤ N' → N' ≤ N + 12 → C (.dat (ruleD p t c)) N') : dsp_L_near [.bag, ruleD p t c] N C E00 := ⟨p, t, c, rfl, ⟨v, h⟩, q⟩
theorem r_L_near : ∀ ds n C Er, dsp_L_near ds n C Er → d_L_near { nx := fun _ n' => C (.dat .non) n', rt := C } (startD ds 8) n := by
  rintro ds n C Er ⟨p, t, c, rfl, ⟨v, hN⟩, q⟩
  have p0 := v.p0
  have p1 := v.p1
  have t0 := v.t0
  have t1 := v.t1
  unfold d_L_near
  simp only [ruleD]
  refine seqR fun R1 hR1 => ?_
  walk_at "wp"
  refine hR1 _ _ ?_
  refine seqR fun R2 hR2 => ?_
  walk_at "wp"
  refine s_take ⟨by decide, by decide, by omega⟩ fun a a0 a1 => ?_
  walk_at "wp"
  refine hR2 _ _ ?_
  refine seqR fun R3 hR3 => ?_
  walk_at "wp"
  refine wif_d (fun _ => ?_) fun _ => ?_
  · refine s_take ⟨by decide, by decide, by omega⟩ fun b b0 b1 => ?_
    walk_at "wp"
    exact q p (min 1440 (max 1 (t + b - 2))) c _ ⟨p0, p1, by omega, by omega, v.c0⟩ (by omega) (by omega)
  refine hR3 _ _ ?_
  refine seqR fun R4 hR4 => ?_
  walk_at "wp"
  refine wif_d (fun _ => ?_) fun _ => ?_
  · refine s_take ⟨by decide, by decide, by omega⟩ fun b b0 b1 => ?_
    walk_at "wp"
    refine ⟨.inr (by omega), .inr (by omega), ?_⟩
    refine s_take ⟨by decide, by decide, by omega⟩ fun e e0 e1 => ?_
    walk_at "wp"
    have h1 : 0 ≤ p * (1 + b) := Int.mul_nonneg p0 (by omega)
    have h2 : 1 * 1 ≤ t * (1 + b) := Int.mul_le_mul t0 (by omega) (by decide) (by omega)
    exact q (min 1000 (p * (1 + b))) (min 1440 (t * (1 + b) + e)) c _ ⟨by omega, by omega, by omega, by omega, v.c0⟩ (by omega) (by omega)
  refine hR4 _ _ ?_
  refine seqR fun R5 hR5 => ?_
  walk_at "wp"
  refine wif_d (fun _ => ?_) fun _ => ?_
  · refine s_take ⟨by decide, by decide, by omega⟩ fun b b0 b1 => ?_
    walk_at "wp"
    have hnone : dsp_L_take [.bag, .v (.int 2)] (n + 1 + 1) (fun s N2 => match D.int p, s.rd with
        | .v (.int i), .v (.int j) => C (.dat (.tup [.int (min 1000 (i + j)), .int t, .v .non])) N2
        | .tup ds, .tup es => ds.length + es.length ≤ 100000 ∧ False
        | .lst ds, .lst es => ds.length + es.length ≤ 100000 ∧ False
        | _, _ => False) E00 := by
      refine s_take ⟨by decide, by decide, by omega⟩ fun e e0 e1 => ?_
      walk_at "wp"
      exact q (min 1000 (p + e)) t none _ ⟨by omega, by omega, t0, t1, fun x hx => by cases hx⟩ (by omega) (by omega)
    refine wif_d (fun _ => hnone) fun _ => ?_
    cases c with
    | none => exact wif_t rfl hnone
    | some c =>
      have hc := v.c0 c rfl
      refine wif_f rfl ⟨⟨by decide, by decide, by decide⟩, ?_⟩
      refine s_take ⟨by decide, by decide, by omega⟩ fun e e0 e1 => ?_
      simp only [capD]
      walk_at "wp"
      refine s_take ⟨by decide, by decide, by omega⟩ fun f f0 f1 => ?_
      walk_at "wp"
      exact q (min 1000 (p + f)) t (some (min 1000000 (c + e))) _ ⟨by omega, by omega, t0, t1, fun x hx => by cases hx; omega⟩ (by omega) (by omega)
  refine hR5 _ _ ?_
  refine seqR fun R6 hR6 => ?_
  walk_at "wp"
  refine wif_d (fun _ => ?_) fun _ => ?_
  · refine s_take ⟨by decide, by decide, by omega⟩ fun b b0 b1 => ?_
    walk_at "wp"
    refine ⟨⟨by omega, by omega⟩, ⟨by omega, by omega⟩, ?_⟩
    have h1 : 0 ≤ p / (1 + b) := Int.ediv_nonneg p0 (by omega)
    have h2 : p / (1 + b) ≤ p := Int.ediv_le_self _ p0
    have h3 : t / (1 + b) ≤ t := Int.ediv_le_self _ (by omega)
    exact q (p / (1 + b)) (max 1 (t / (1 + b))) c _ ⟨h1, by omega, by omega, by omega, v.c0⟩ (by omega) (by omega)
  refine hR6 _ _ ?_
  walk_at "wp"
  refine wif_d (fun _ => ?_) fun _ => ?_
  · refine ⟨.inr (by omega), ?_⟩
    exact q p t (some (3 * p)) _ ⟨p0, p1, t0, t1, fun x hx => by cases hx; omega⟩ (by omega) (by omega)
  · exact s_rule (by omega) fun p t c N' v h1 h2 => q p t c N' v (by omega) (by omega)
end LAW

/-! Rm: what holds of bought rides. -/
namespace LAW
open PySem PySem.Spec PyProof.Rows L2 DL
variable [TabNames]
/-! ### rides every so many ticks: every k-th one buys a ticket -/
def stepI (b s : Int) (n : Nat) : List Int := (List.range n).map fun i : Nat => b + (i : Int) * s
theorem stepI_len {b s : Int} {n : Nat} : (stepI b s n).length = n := by unfold stepI; rw [List.length_map, List.length_range]
theorem stepD_ints {b s : Int} {n : Nat} : stepD b s n = (stepI b s n).map D.int := by unfold stepD stepI; rw [List.map_map]; rfl
theorem stepI_succ {b s : Int} {n : Nat} : stepI b s (n + 1) = stepI b s n ++ [b + (n : Int) * s] := by
  unfold stepI
  rw [List.range_succ, List.map_append]
  rfl
theorem boughtF_snoc (L : Int) (ns : List Int) (x : Int) : boughtF L (ns ++ [x]) = bstep L (boughtF L ns) x := by
  unfold boughtF
  rw [List.foldl_append]
  rfl
theorem le_up {L s q : Int} (hs : 1 ≤ s) : L ≤ s * q ↔ upF L s ≤ q := by
  unfold upF
  constructor
  · intro h
    have h1 : (L + s - 1) / s < q + 1 := by
      refine Int.ediv_lt_of_lt_mul (by omega) ?_
      rw [Int.add_mul, Int.one_mul, Int.mul_comm]
      omega
    omega
  · intro h
    have h1 : L + s - 1 < (q + 1) * s := by
      refine Int.lt_mul_of_ediv_lt (by omega) ?_
      omega
    rw [Int.add_mul, Int.one_mul, Int.mul_comm] at h1
    omega
theorem step_bought {b s L : Int} (hs : 1 ≤ s) (hL : 1 ≤ L) (n : Nat) : ∃ m : Nat, (boughtF L (stepI b s n)).length = m ∧ (n : Int) ≤ upF L s * m ∧ (m = 0 → n = 0) ∧ (m ≠ 0 → upF L s * ((m : Int) - 1) < n ∧ (boughtF L (stepI b s n)).getLast? = some (b + s * (upF L s * ((m : Int) - 1)))) := by
  have hk : 1 ≤ upF L s := up_one hL hs
  generalize hK : upF L s = k at hk
  induction n with
  | zero => exact ⟨0, rfl, by omega, fun _ => rfl, fun h => absurd rfl h⟩
  | succ n ih =>
    obtain ⟨m, hm, h1, h2, h3⟩ := ih
    rw [stepI_succ, boughtF_snoc]
    have hle : ∀ q, L ≤ s * q ↔ k ≤ q := fun q => by rw [← hK]; exact le_up hs
    by_cases m0 : m = 0
    · subst m0
      have hn := h2 rfl
      subst hn
      have he : boughtF L (stepI b s 0) = [] := rfl
      rw [he]
      refine ⟨1, rfl, ?_, fun h => by omega, fun _ => ⟨?_, ?_⟩⟩
      · omega
      · omega
      · show some (b + ((0 : Nat) : Int) * s) = some (b + s * (k * (((1 : Nat) : Int) - 1)))
        simp
    · obtain ⟨h4, h5⟩ := h3 m0
      have hst : bstep L (boughtF L (stepI b s n)) (b + (n : Int) * s) = if b + s * (k * ((m : Int) - 1)) + L ≤ b + (n : Int) * s then boughtF L (stepI b s n) ++ [b + (n : Int) * s] else boughtF L (stepI b s n) := by
        unfold bstep
        rw [h5]
      have hc : b + s * (k * ((m : Int) - 1)) + L ≤ b + (n : Int) * s ↔ k * m ≤ n := by
        have e1 : (n : Int) * s = s * n := Int.mul_comm _ _
        have e2 : s * ((n : Int) - k * ((m : Int) - 1)) = s * n - s * (k * ((m : Int) - 1)) := Int.mul_sub _ _ _
        have e3 : k * ((m : Int) - 1) = k * m - k := by rw [Int.mul_sub, Int.mul_one]
        have := hle ((n : Int) - k * ((m : Int) - 1))
        rw [e1]
        rw [e2] at this
        constructor
        · intro h
          have h6 := this.mp (by omega)
          omega
        · intro h
          have h6 := this.mpr (by omega)
          omega
      rw [hst]
      have ek : k * (((m + 1 : Nat) : Int)) = k * m + k := by
        rw [show ((m + 1 : Nat) : Int) = (m : Int) + 1 by omega, Int.mul_add, Int.mul_one]
      by_cases hq : k * m ≤ n
      · rw [if_pos (hc.mpr hq)]
        refine ⟨m + 1, by rw [List.length_append, hm]; rfl, ?_, fun h => by omega, fun _ => ⟨?_, ?_⟩⟩
        · rw [ek]; omega
        · rw [show (((m + 1 : Nat) : Int) - 1) = (m : Int) by omega]; omega
        · rw [List.getLast?_append]
          have hnk : (n : Int) = k * m := by omega
          show some (b + (n : Int) * s) = _
          rw [show (((m + 1 : Nat) : Int) - 1) = (m : Int) by omega, ← hnk, Int.mul_comm]
      · rw [if_neg (fun h => hq (hc.mp h))]
        exact ⟨m, hm, by omega, fun h => absurd h m0, fun _ => ⟨by omega, h5⟩⟩
theorem step_count {b s L : Int} (hs : 1 ≤ s) (hL : 1 ≤ L) (n : Nat) : ((boughtF L (stepI b s n)).length : Int) = upF n (upF L s) := by
  obtain ⟨m, hm, h1, h2, h3⟩ := step_bought (b := b) hs hL n
  have hk : 1 ≤ upF L s := up_one hL hs
  rw [hm]
  generalize upF L s = k at *
  by_cases m0 : m = 0
  · subst m0
    have hn := h2 rfl
    subst hn
    unfold upF
    rw [Int.ediv_eq_zero_of_lt (by omega) (by omega)]
    rfl
  · obtain ⟨h4, _⟩ := h3 m0
    unfold upF
    have e3 : k * ((m : Int) - 1) = k * m - k := by rw [Int.mul_sub, Int.mul_one]
    have ec : (m : Int) * k = k * m := Int.mul_comm _ _
    have g1 : (m : Int) ≤ (n + k - 1) / k := (Int.le_ediv_iff_mul_le (by omega)).mpr (by omega)
    have g2 : ((n : Int) + k - 1) / k < m + 1 := by
      refine Int.ediv_lt_of_lt_mul (by omega) ?_
      rw [Int.add_mul, Int.one_mul]
      omega
    omega
theorem upN_up {b s : Int} (h0 : b ≤ 1439) (hs : 1 ≤ s) : ((upN b 1440 s : Nat) : Int) = upF (1440 - b) s := by
  have h1 := up_pos (a := 1440 - b) (b := s) (by omega) hs
  have e : (1440 - b - 1) / s + 1 = upF (1440 - b) s := by
    unfold upF
    rw [show 1440 - b + s - 1 = (1440 - b - 1) + 1 * s by omega, Int.add_mul_ediv_right _ _ (by omega)]
  unfold upN
  rw [if_pos (by omega), e]
  omega
theorem step_cost {p t b s : Int} {c : Option Int} (ht : 1 ≤ t) (h0 : b ≤ 1439) (hs : 1 ≤ s) : costF p t c (stepI b s (upN b 1440 s)) = costFromF p t c b s := by
  unfold costF costFromF
  rw [step_count hs ht, upN_up h0 hs]
theorem step_rg {b s x : Int} (h0 : 0 ≤ b) (h1 : b ≤ 1439) (hs : 1 ≤ s) (hx : x ∈ stepI b s (upN b 1440 s)) : 0 ≤ x ∧ x ≤ 1439 := by
  unfold stepI at hx
  obtain ⟨i, hi, rfl⟩ := List.mem_map.mp hx
  have hi' := List.mem_range.mp hi
  have h2 := upN_up h1 hs
  have h3 : (i : Int) + 1 ≤ upF (1440 - b) s := by omega
  have h4 : ¬ upF (1440 - b) s ≤ i := by omega
  rw [← le_up hs] at h4
  have h5 : 0 ≤ (i : Int) * s := Int.mul_nonneg (by omega) (by omega)
  have h6 : (i : Int) * s = s * i := Int.mul_comm _ _
  omega
theorem step_asc {b s : Int} {n : Nat} (hs : 1 ≤ s) : (stepI b s n).Pairwise (· < ·) := by
  unfold stepI
  rw [List.pairwise_map]
  refine List.pairwise_lt_range.imp fun {i j} h => ?_
  have h1 : (i : Int) * s < (j : Int) * s := Int.mul_lt_mul_of_pos_right (by omega) (by omega)
  omega
theorem same_int (x : Int) : sameD (D.int x) (D.int x) = true := by simp [sameD]
/-! ### longer lengths, fewer tickets -/
def Fewer (a b : List Int) (x : Int) : Prop := (∀ y, b.getLast? = some y → y ≤ x) ∧ (a.length < b.length ∨ (a.length = b.length ∧ (a = [] ∨ ∃ y z, a.getLast? = some y ∧ b.getLast? = some z ∧ z ≤ y)))
theorem bstep_cases (L : Int) (acc : List Int) (x : Int) : (bstep L acc x = acc ++ [x] ∧ ∀ l, acc.getLast? = some l → l + L ≤ x) ∨ (bstep L acc x = acc ∧ ∃ l, acc.getLast? = some l ∧ ¬ l + L ≤ x) := by
  unfold bstep
  split
  · rename_i h
    exact .inl ⟨rfl, fun l hl => by rw [h] at hl; cases hl⟩
  · rename_i l h
    split
    · rename_i hle
      exact .inl ⟨rfl, fun l' hl => by rw [h] at hl; cases hl; exact hle⟩
    · rename_i hle
      exact .inr ⟨rfl, l, h, hle⟩
theorem last_app {acc : List Int} {x : Int} : (acc ++ [x]).getLast? = some x := by rw [List.getLast?_append]; rfl
theorem fewer_step {L M x x' : Int} {a b : List Int} (hL : M ≤ L) (hx : x ≤ x') (h : Fewer a b x) : Fewer (bstep L a x') (bstep M b x') x' := by
  obtain ⟨hb, h⟩ := h
  have hb' : ∀ y, (bstep M b x').getLast? = some y → y ≤ x' := fun y hy => by
    rcases bstep_cases M b x' with ⟨e, _⟩ | ⟨e, _⟩ <;> rw [e] at hy
    · rw [last_app] at hy
      cases hy
      exact Int.le_refl _
    · exact Int.le_trans (hb y hy) hx
  refine ⟨hb', ?_⟩
  rcases bstep_cases L a x' with ⟨e1, g1⟩ | ⟨e1, l, g1, g2⟩
  · rcases bstep_cases M b x' with ⟨e2, k1⟩ | ⟨e2, l2, k1, k2⟩
    · rw [e1, e2, List.length_append, List.length_append]
      rcases h with h | ⟨h, h2⟩
      · exact .inl (by omega)
      · exact .inr ⟨by rw [h], .inr ⟨x', x', last_app, last_app, Int.le_refl _⟩⟩
    · rw [e1, e2, List.length_append]
      have hl : [x'].length = 1 := rfl
      rcases h with h | ⟨h, h2⟩
      · by_cases hq : a.length + 1 < b.length
        · exact .inl hq
        · exact .inr ⟨by omega, .inr ⟨x', l2, last_app, k1, Int.le_trans (hb l2 k1) hx⟩⟩
      · exfalso
        rcases h2 with rfl | ⟨y, z, hy, hz, hzy⟩
        · have hb0 : b = [] := List.length_eq_zero_iff.mp h.symm
          rw [hb0] at k1
          cases k1
        · rw [hz] at k1
          cases k1
          have := g1 y hy
          omega
  · rcases bstep_cases M b x' with ⟨e2, k1⟩ | ⟨e2, l2, k1, k2⟩
    · rw [e1, e2, List.length_append]
      rcases h with h | ⟨h, h2⟩
      · exact .inl (by omega)
      · exact .inl (by rw [h]; exact Nat.lt_succ_self _)
    · rw [e1, e2]
      exact h
theorem fewer_fold {L M : Int} (hL : M ≤ L) : ∀ (ns : List Int) (a b : List Int) (x : Int), (x :: ns).Pairwise (· ≤ ·) → Fewer a b x → (ns.foldl (bstep L) a).length ≤ (ns.foldl (bstep M) b).length
  | [], a, b, x, _, h => by
    rcases h.2 with h | h
    · exact Nat.le_of_lt h
    · exact Nat.le_of_eq h.1
  | y :: r, a, b, x, hp, h => by
    have h1 := List.pairwise_cons.mp hp
    exact fewer_fold hL r _ _ y h1.2 (fewer_step hL (h1.1 y List.mem_cons_self) h)
theorem bought_anti {L M : Int} {m : Nat} {ns : List Int} (hL : M ≤ L) (v : VRides m ns) : (boughtF L ns).length ≤ (boughtF M ns).length := by
  refine fewer_fold hL ns [] [] 0 (List.pairwise_cons.mpr ⟨fun x hx => (v.rg x hx).1, v.asc.imp fun h => Int.le_of_lt h⟩) ⟨(fun y hy => by cases hy), .inr ⟨rfl, .inl rfl⟩⟩
theorem money_mono {p n m : Int} {c : Option Int} (hp : 0 ≤ p) (h : n ≤ m) : moneyF p c n ≤ moneyF p c m := by
  have e : n * p ≤ m * p := Int.mul_le_mul_of_nonneg_right h hp
  cases c with
  | none => exact e
  | some c =>
    show min (n * p) c ≤ min (m * p) c
    omega
theorem cost_anti {p L M : Int} {c : Option Int} {m : Nat} {ns : List Int} (hp : 0 ≤ p) (hL : M ≤ L) (v : VRides m ns) : costF p L c ns ≤ costF p M c ns := by
  unfold costF
  exact money_mono hp (by have := bought_anti hL v; omega)
theorem cost_le {p L : Int} {c : Option Int} {t : Int} {m : Nat} {rs : List Int} (v : VRule p t c) (r : VRides m rs) : 0 ≤ costF p L c rs ∧ costF p L c rs ≤ m * 1000 := by
  unfold costF
  have h1 := boughtF_len L rs
  have h2 := r.len
  exact money_le v (by omega) (by omega)
/-! ### bought rides are far apart -/
theorem bok_step {t x : Int} {acc : List Int} (h0 : 1 ≤ t) (hx : 0 ≤ x ∧ x ≤ 1439) (h : ∀ l, acc.getLast? = some l → ((acc.length : Int) - 1) * t ≤ l ∧ l ≤ 1439) :
    ∀ l, (bstep t acc x).getLast? = some l → (((bstep t acc x).length : Int) - 1) * t ≤ l ∧ l ≤ 1439 := by
  intro l hl
  unfold bstep at hl ⊢
  split at hl
  · rename_i hn
    rw [List.getLast?_eq_none_iff] at hn
    subst hn
    simp at hl
    subst hl
    simp only [List.nil_append, List.getLast?_nil, List.length_cons, List.length_nil]
    refine ⟨?_, hx.2⟩
    show ((0 + 1 : Nat) - 1 : Int) * t ≤ x
    omega
  · rename_i y hy
    obtain ⟨h1, h2⟩ := h y hy
    split at hl
    · rename_i hle
      rw [if_pos hle]
      have e : l = x := by simpa using hl.symm
      subst e
      refine ⟨?_, hx.2⟩
      rw [List.length_append, List.length_cons, List.length_nil]
      have e2 : (((acc.length + (0 + 1) : Nat) : Int) - 1) * t = ((acc.length : Int) - 1) * t + t := by
        rw [show (((acc.length + (0 + 1) : Nat) : Int) - 1) = ((acc.length : Int) - 1) + 1 by omega, Int.add_mul, Int.one_mul]
      omega
    · rename_i hle
      rw [if_neg hle]
      exact h l hl
theorem bok_fold {t : Int} (h0 : 1 ≤ t) : ∀ (ns acc : List Int), (∀ x ∈ ns, 0 ≤ x ∧ x ≤ 1439) → (∀ l, acc.getLast? = some l → ((acc.length : Int) - 1) * t ≤ l ∧ l ≤ 1439) →
    ∀ l, (ns.foldl (bstep t) acc).getLast? = some l → (((ns.foldl (bstep t) acc).length : Int) - 1) * t ≤ l ∧ l ≤ 1439
  | [], _, _, h => h
  | x :: r, acc, hr, h => bok_fold h0 r (bstep t acc x) (fun y hy => hr y (List.mem_cons_of_mem _ hy)) (bok_step h0 (hr x (List.mem_cons_self ..)) h)
theorem bought_up {t : Int} {m : Nat} {ns : List Int} (h0 : 1 ≤ t) (h1 : t ≤ 1440) (v : VRides m ns) : ((boughtF t ns).length : Int) ≤ upF 1440 t := by
  cases hl : (boughtF t ns).getLast? with
  | none =>
    rw [List.getLast?_eq_none_iff] at hl
    rw [hl]
    have := up_le h0 h1
    show (0 : Int) ≤ _
    omega
  | some l =>
    obtain ⟨h2, h3⟩ := bok_fold h0 ns [] v.rg (fun l h => by simp at h) l hl
    have h2' : (((boughtF t ns).length : Int) - 1) * t ≤ l := h2
    rw [Int.sub_mul, Int.one_mul] at h2'
    unfold upF
    exact (Int.le_ediv_iff_mul_le (by omega)).mpr (by omega)
/-! ### k short lengths make a long one -/
structure Bd (L k : Int) (a b : List Int) (x : Int) : Prop where
  xb : ∀ z, b.getLast? = some z → z ≤ x
  e0 : a = [] → b = []
  b0 : b = [] → a = []
  le : (a.length : Int) ≤ k * b.length
  st : ∀ y z, a.getLast? = some y → b.getLast? = some z → k * ((b.length : Int) - 1) < a.length → z + ((a.length : Int) - k * ((b.length : Int) - 1) - 1) * L ≤ y
theorem bd_step {L M k x x' : Int} {a b : List Int} (hL : 1 ≤ L) (hk : 1 ≤ k) (hM : M ≤ L * k) (hx : x ≤ x') (h : Bd L k a b x) : Bd L k (bstep L a x') (bstep M b x') x' := by
  have l1 : ∀ l : List Int, ((l ++ [x']).length : Int) = (l.length : Int) + 1 := fun l => by rw [List.length_append]; rfl
  have hb1 : k * (((b ++ [x']).length : Int) - 1) = k * b.length := by rw [l1]; congr 1; omega
  have hb2 : k * ((b ++ [x']).length : Int) = k * b.length + k := by rw [l1, Int.mul_add, Int.mul_one]
  have hb3 : k * ((b.length : Int) - 1) = k * b.length - k := by rw [Int.mul_sub, Int.mul_one]
  rcases bstep_cases L a x' with ⟨e1, g1⟩ | ⟨e1, l, g1, g2⟩
  · rcases bstep_cases M b x' with ⟨e2, k1⟩ | ⟨e2, z, k1, k2⟩
    · rw [e1, e2]
      refine ⟨fun z hz => ?_, fun q => absurd q (by simp), fun q => absurd q (by simp), ?_, fun y z hy hz hlt => ?_⟩
      · rw [last_app] at hz; cases hz; exact Int.le_refl _
      · rw [hb2, l1]; have := h.le; omega
      · rw [last_app] at hy hz
        cases hy
        cases hz
        rw [hb1, l1] at hlt ⊢
        have h9 := h.le
        have e9 : ((a.length : Int) + 1 - k * b.length - 1) = 0 := by omega
        rw [e9, Int.zero_mul]
        omega
    · rw [e1, e2]
      have hz1 := Int.le_trans (h.xb z k1) hx
      have hbn : b ≠ [] := fun e => by rw [e] at k1; cases k1
      have han : a ≠ [] := fun e => hbn (h.e0 e)
      obtain ⟨y, hy⟩ : ∃ y, a.getLast? = some y := ⟨_, List.getLast?_eq_some_getLast han⟩
      have hyx := g1 y hy
      -- the stretch so far
      have key : z + ((a.length : Int) - k * ((b.length : Int) - 1)) * L ≤ x' ∨ (a.length : Int) < k * ((b.length : Int) - 1) := by
        by_cases q : k * ((b.length : Int) - 1) < a.length
        · have hst := h.st y z hy k1 q
          have e9 : ((a.length : Int) - k * ((b.length : Int) - 1)) * L = ((a.length : Int) - k * ((b.length : Int) - 1) - 1) * L + L := by rw [Int.sub_mul _ 1, Int.one_mul]; omega
          left; omega
        · by_cases q2 : (a.length : Int) = k * ((b.length : Int) - 1)
          · left
            rw [q2, Int.sub_self, Int.zero_mul]
            omega
          · right; omega
      refine ⟨fun z' hz => by rw [k1] at hz; cases hz; exact hz1, fun q => absurd q (by simp), fun q => absurd q hbn, ?_, fun y' z' hy' hz' hlt => ?_⟩
      · rw [l1]
        rcases key with key | key
        · -- fewer than k so far
          have hlt : ((a.length : Int) - k * ((b.length : Int) - 1)) * L < k * L := by
            have : L * k = k * L := Int.mul_comm _ _
            omega
          have := Int.lt_of_mul_lt_mul_right hlt (by omega)
          omega
        · omega
      · rw [last_app] at hy'
        cases hy'
        rw [k1] at hz'
        cases hz'
        rw [l1] at hlt ⊢
        rcases key with key | key
        · have e9 : ((a.length : Int) + 1 - k * ((b.length : Int) - 1) - 1) = (a.length : Int) - k * ((b.length : Int) - 1) := by omega
          rw [e9]
          exact key
        · omega
  · have han : a ≠ [] := fun e => by rw [e] at g1; cases g1
    rcases bstep_cases M b x' with ⟨e2, k1⟩ | ⟨e2, z, k1, k2⟩
    · rw [e1, e2]
      refine ⟨fun z hz => ?_, fun q => absurd q han, fun q => absurd q (by simp), ?_, fun y z hy hz hlt => ?_⟩
      · rw [last_app] at hz; cases hz; exact Int.le_refl _
      · rw [hb2]; have := h.le; omega
      · rw [hb1] at hlt
        have := h.le
        omega
    · rw [e1, e2]
      exact ⟨fun z' hz => Int.le_trans (h.xb z' hz) hx, h.e0, h.b0, h.le, h.st⟩
theorem bd_fold {L M k : Int} (hL : 1 ≤ L) (hk : 1 ≤ k) (hM : M ≤ L * k) : ∀ (ns a b : List Int) (x : Int), (x :: ns).Pairwise (· ≤ ·) → Bd L k a b x → ((ns.foldl (bstep L) a).length : Int) ≤ k * (ns.foldl (bstep M) b).length
  | [], a, b, x, _, h => h.le
  | y :: r, a, b, x, hp, h => by
    have h1 := List.pairwise_cons.mp hp
    exact bd_fold hL hk hM r _ _ y h1.2 (bd_step hL hk hM (h1.1 y List.mem_cons_self) h)
theorem bought_mult {L M : Int} {m : Nat} {ns : List Int} (hL : 1 ≤ L) (hM : 1 ≤ M) (v : VRides m ns) : ((boughtF L ns).length : Int) ≤ upF M L * (boughtF M ns).length := by
  refine bd_fold hL (up_one hM hL) ((le_up hL).mpr (Int.le_refl _)) ns [] [] 0 (List.pairwise_cons.mpr ⟨fun x hx => (v.rg x hx).1, v.asc.imp fun h => Int.le_of_lt h⟩) ⟨fun y hy => (by cases hy), fun _ => rfl, fun _ => rfl, (by simp), fun y z hy => (by cases hy)⟩
end LAW

/-! Ri: rules compared. -/
namespace LAW
open PySem PySem.Spec PyProof.Rows L2 DL
variable [TabNames]
local macro_rules | `(tactic| walk_at "wp") => `(tactic| first | dsimp | skip)
section
variable {N : Nat} {C : DK} {p t p' t' n i lo hi : Int} {c c' : Option Int}
theorem s_excess (v : VRule p t c) (v' : VRule p' t' c') (h : C (.dat (.int (excF ⟨p, t, c⟩ ⟨p', t', c'⟩ n))) N) : dsp_P_excess [ruleD p t c, ruleD p' t' c', .v (.int n)] N C E00 := ⟨⟨p, t, c⟩, ⟨p', t', c'⟩, n, rfl, ⟨v, v'⟩, h⟩
theorem s_at_most (v : VRule p t c) (v' : VRule p' t' c') (h : C (.dat (.bl (atmostF ⟨p, t, c⟩ ⟨p', t', c'⟩))) N) : dsp_P_at_most [ruleD p t c, ruleD p' t' c'] N C E00 := ⟨⟨p, t, c⟩, ⟨p', t', c'⟩, rfl, ⟨v, v'⟩, h⟩
theorem s_never_dearer (v : VRule p t c) (v' : VRule p' t' c') (h : C (.dat (.bl (atmostF ⟨p, t, c⟩ ⟨p', t', c'⟩))) N) : dsp_P_never_dearer [ruleD p t c, ruleD p' t' c'] N C E00 := ⟨⟨p, t, c⟩, ⟨p', t', c'⟩, rfl, ⟨v, v'⟩, h⟩
theorem s_largest_excess (v : VRule p t c) (v' : VRule p' t' c') (h : C (.dat (.int (largestF ⟨p, t, c⟩ ⟨p', t', c'⟩))) N) : dsp_P_largest_excess [ruleD p t c, ruleD p' t' c'] N C E00 := ⟨⟨p, t, c⟩, ⟨p', t', c'⟩, rfl, ⟨v, v'⟩, h⟩
theorem s_fewest (v : VRule p t c) (v' : VRule p' t' c') (h : C (.dat (capD (fewestF ⟨p, t, c⟩ ⟨p', t', c'⟩))) N) : dsp_P_fewest [ruleD p t c, ruleD p' t' c'] N C E00 := ⟨⟨p, t, c⟩, ⟨p', t', c'⟩, rfl, ⟨v, v'⟩, h⟩
theorem s_fewest_rides (v : VRule p t c) (v' : VRule p' t' c') (h : C (.dat (capD (fewestF ⟨p, t, c⟩ ⟨p', t', c'⟩))) N) : dsp_P_fewest_rides [ruleD p t c, ruleD p' t' c'] N C E00 := ⟨⟨p, t, c⟩, ⟨p', t', c'⟩, rfl, ⟨v, v'⟩, h⟩
theorem s_alike (v : VRule p t c) (v' : VRule p' t' c') (h : C (.dat (.bl (atmostF ⟨p, t, c⟩ ⟨p', t', c'⟩ && atmostF ⟨p', t', c'⟩ ⟨p, t, c⟩))) N) : dsp_P_alike [ruleD p t c, ruleD p' t' c'] N C E00 := ⟨⟨p, t, c⟩, ⟨p', t', c'⟩, rfl, ⟨v, v'⟩, h⟩
theorem s_excesses (v : VRule p t c) (v' : VRule p' t' c') (h : C (.own ((excsF ⟨p, t, c⟩ ⟨p', t', c'⟩).map D.int)) N) : dsp_L_excesses [ruleD p t c, ruleD p' t' c'] N C E00 := ⟨⟨p, t, c⟩, ⟨p', t', c'⟩, rfl, ⟨v, v'⟩, h⟩
theorem s_good (v : VRule p t c) (v' : VRule p' t' c') (h : C (.dat (.bl (atmostF ⟨p, t, c⟩ ⟨p', t', c'⟩))) N) : dsp_L_good [ruleD p t c, ruleD p' t' c'] N C E00 := ⟨⟨p, t, c⟩, ⟨p', t', c'⟩, rfl, ⟨v, v'⟩, h⟩
theorem s_lin (h : C (.dat (.bl (decide (lo ≤ i) && decide (i ≤ hi)))) N) : dsp_L_in [.v (.int i), .v (.int lo), .v (.int hi)] N C E00 := ⟨.int i, lo, hi, rfl, rfl, h⟩
end
theorem l_P_excess : ∀ ds n C Er, dsp_P_excess ds n C Er → ds.length = 3 := by rintro ds n C Er ⟨_, _, _, rfl, _⟩; rfl
theorem l_P_at_most : ∀ ds n C Er, dsp_P_at_most ds n C Er → ds.length = 2 := by rintro ds n C Er ⟨_, _, rfl, _⟩; rfl
theorem l_P_never_dearer : ∀ ds n C Er, dsp_P_never_dearer ds n C Er → ds.length = 2 := by rintro ds n C Er ⟨_, _, rfl, _⟩; rfl
theorem l_P_largest_excess : ∀ ds n C Er, dsp_P_largest_excess ds n C Er → ds.length = 2 := by rintro ds n C Er ⟨_, _, rfl, _⟩; rfl
theorem l_P_fewest : ∀ ds n C Er, dsp_P_fewest ds n C Er → ds.length = 2 := by rintro ds n C Er ⟨_, _, rfl, _⟩; rfl
theorem l_P_fewest_rides : ∀ ds n C Er, dsp_P_fewest_rides ds n C Er → ds.length = 2 := by rintro ds n C Er ⟨_, _, rfl, _⟩; rfl
theorem l_P_alike : ∀ ds n C Er, dsp_P_alike ds n C Er → ds.length = 2 := by rintro ds n C Er ⟨_, _, rfl, _⟩; rfl
theorem l_L_excesses : ∀ ds n C Er, dsp_L_excesses ds n C Er → ds.length = 2 := by rintro ds n C Er ⟨_, _, rfl, _⟩; rfl
theorem l_L_good : ∀ ds n C Er, dsp_L_good ds n C Er → ds.length = 2 := by rintro ds n C Er ⟨_, _, rfl, _⟩; rfl
theorem l_L_in : ∀ ds n C Er, dsp_L_in ds n C Er → ds.length = 3 := by rintro ds n C Er ⟨_, _, _, rfl, _⟩; rfl
theorem r_L_in : ∀ ds n C Er, dsp_L_in ds n C Er → d_L_in { nx := fun _ n' => C (.dat .non) n', rt := C } (startD ds 3) n := fun ds n C Er h => r_P_in_range ds n C Er h
theorem tops_ok {R : Ru} (v : VR R) : 1 ≤ topsF R ∧ topsF R ≤ 1440 := up_le v.t0 v.t1
theorem cnt_mem {R : Ru} {x : Int} : x ∈ cntI R ↔ 1 ≤ x ∧ x ≤ topsF R := by
  unfold cntI
  rw [List.mem_map]
  constructor
  · rintro ⟨i, hi, rfl⟩
    have := List.mem_range.mp hi
    omega
  · rintro ⟨h0, h1⟩
    exact ⟨(x - 1).toNat, List.mem_range.mpr (by omega), by omega⟩
theorem cnt_len {R : Ru} : (cntI R).length = (topsF R).toNat := by unfold cntI; rw [List.length_map, List.length_range]
theorem cnt_get {R : Ru} {i : Nat} (h : i < (topsF R).toNat) : (cntI R)[i]? = some (1 + (i : Int)) := by
  unfold cntI
  rw [List.getElem?_map, List.getElem?_range h]
  rfl
theorem cnt_rng {R : Ru} : rngD 1 (topsF R + 1 - 1).toNat = (cntI R).map D.int := by
  rw [show topsF R + 1 - 1 = topsF R by omega]
  unfold rngD cntI
  rw [List.map_map]
  rfl
theorem r_P_excess : ∀ ds n C Er, dsp_P_excess ds n C Er → d_P_excess { nx := fun _ n' => C (.dat .non) n', rt := C } (startD ds 3) n := by
  rintro ds n C Er ⟨R, S, m, rfl, ⟨v, v'⟩, q⟩
  have h1 := up_one v'.t0 v.t0
  have h2 := up_pos (a := S.t) (b := R.t) (by have := v'.t0; omega) v.t0
  have h3 := v'.t1
  have h4 := v.t0
  have h5 := v.t1
  unfold d_P_excess
  walk_at "wp"
  refine s_money ⟨v.p0, v.p1⟩ ?_
  walk_at "wp"
  refine s_up ⟨by omega, by omega⟩ ?_
  walk_at "wp"
  refine s_up ⟨by omega, by omega⟩ ?_
  walk_at "wp"
  refine s_money ⟨v'.p0, v'.p1⟩ ?_
  walk_at "wp"
  exact q
theorem all_map {α : Type} (f : α → Bool) (l : List α) : (l.map f).all id = l.all f := by rw [List.all_map]; rfl
theorem r_P_at_most : ∀ ds n C Er, dsp_P_at_most ds n C Er → d_P_at_most { nx := fun _ n' => C (.dat .non) n', rt := C } (startD ds 3) n := by
  rintro ds n C Er ⟨R, S, rfl, ⟨v, v'⟩, q⟩
  have ht := tops_ok v
  unfold d_P_at_most
  walk_at "wp"
  refine lc_p ((cntI R).map D.int) (fun _ => true) (fun d => match d with | .v (.int x) => .bl (decide (excF R S x ≤ 0)) | _ => .non) (fun K hK => ?_) (by rw [List.length_map, cnt_len]; omega) (fun d hd K K' h1 h2 => ?_) ?_
  · walk_at "wp"
    refine s_most_tickets ⟨v.t0, v.t1⟩ ?_
    walk_at "wp"
    have e : upF 1440 R.t = topsF R := rfl
    rw [e]
    refine ⟨⟨by decide, by decide, by omega, by omega⟩, ?_⟩
    rw [cnt_rng]
    exact hK
  · obtain ⟨x, hx, rfl⟩ := List.mem_map.mp hd
    walk_at "wp"
    refine s_excess v v' ?_
    walk_at "wp"
    exact h1 rfl
  · rw [filter_all]
    walk_at "wp"
    refine ⟨(cntI R).map fun x => decide (excF R S x ≤ 0), by rw [List.map_map, List.map_map]; rfl, ?_⟩
    rw [all_map]
    have e : atmostF R S = (cntI R).all fun x => decide (excF R S x ≤ 0) := by
      unfold atmostF excsF
      rw [List.all_map]
      rfl
    rw [← e]
    exact q
theorem r_P_never_dearer : ∀ ds n C Er, dsp_P_never_dearer ds n C Er → d_P_never_dearer { nx := fun _ n' => C (.dat .non) n', rt := C } (startD ds 2) n := by
  rintro ds n C Er ⟨R, S, rfl, ⟨v, v'⟩, q⟩
  unfold d_P_never_dearer
  walk_at "wp"
  refine s_check_rule v ?_
  walk_at "wp"
  refine s_check_rule v' ?_
  walk_at "wp"
  refine s_at_most v v' ?_
  exact q
theorem r_P_alike : ∀ ds n C Er, dsp_P_alike ds n C Er → d_P_alike { nx := fun _ n' => C (.dat .non) n', rt := C } (startD ds 2) n := by
  rintro ds n C Er ⟨R, S, rfl, ⟨v, v'⟩, q⟩
  unfold d_P_alike
  walk_at "wp"
  refine s_check_rule v ?_
  walk_at "wp"
  refine s_check_rule v' ?_
  walk_at "wp"
  refine s_at_most v v' ?_
  walk_at "wp"
  refine wif_2 (fun h => ?_) fun h => ?_
  · refine s_at_most v' v ?_
    walk_at "wp"
    have h' : atmostF R S = true := h
    rw [h'] at q
    exact q
  · have h' : atmostF R S = false := h
    rw [h'] at q
    exact q
theorem maxI_ge : ∀ {l : List Int} {y : Int}, y ∈ (0 : Int) :: l → y ≤ maxI l
  | [], y, h => by
    have e : y = 0 := by simpa using h
    rw [e]
    exact Int.le_refl _
  | x :: r, y, h => by
    show y ≤ max x (maxI r)
    rcases List.mem_cons.mp h with e | h
    · have := maxI_ge (l := r) (y := 0) List.mem_cons_self
      omega
    · rcases List.mem_cons.mp h with e | h
      · omega
      · have := maxI_ge (l := r) (y := y) (List.mem_cons_of_mem _ h)
        omega
theorem maxI_mem : ∀ {l : List Int}, maxI l ∈ (0 : Int) :: l
  | [] => List.mem_cons_self
  | x :: r => by
    have h := maxI_mem (l := r)
    show max x (maxI r) ∈ _
    by_cases hx : maxI r ≤ x
    · rw [show max x (maxI r) = x by omega]
      exact List.mem_cons_of_mem _ List.mem_cons_self
    · rw [show max x (maxI r) = maxI r by omega]
      rcases List.mem_cons.mp h with e | h
      · rw [e]; exact List.mem_cons_self
      · exact List.mem_cons_of_mem _ (List.mem_cons_of_mem _ h)
theorem r_P_largest_excess : ∀ ds n C Er, dsp_P_largest_excess ds n C Er → d_P_largest_excess { nx := fun _ n' => C (.dat .non) n', rt := C } (startD ds 3) n := by
  rintro ds n C Er ⟨R, S, rfl, ⟨v, v'⟩, q⟩
  have ht := tops_ok v
  unfold d_P_largest_excess
  walk_at "wp"
  refine s_check_rule v ?_
  walk_at "wp"
  refine s_check_rule v' ?_
  walk_at "wp"
  refine lc_p ((cntI R).map D.int) (fun _ => true) (fun d => match d with | .v (.int x) => .int (excF R S x) | _ => .non) (fun K hK => ?_) (by rw [List.length_map, cnt_len]; omega) (fun d hd K K' h1 h2 => ?_) ?_
  · walk_at "wp"
    refine s_most_tickets ⟨v.t0, v.t1⟩ ?_
    walk_at "wp"
    have e : upF 1440 R.t = topsF R := rfl
    rw [e]
    refine ⟨⟨by decide, by decide, by omega, by omega⟩, ?_⟩
    rw [cnt_rng]
    exact hK
  · obtain ⟨x, hx, rfl⟩ := List.mem_map.mp hd
    walk_at "wp"
    refine s_excess v v' ?_
    walk_at "wp"
    exact h1 rfl
  · rw [filter_all, List.map_map]
    have e : List.map ((fun d => match d with | .v (.int x) => D.int (excF R S x) | _ => D.non) ∘ D.int) (cntI R) = (excsF R S).map D.int := by
      unfold excsF
      rw [List.map_map]
      rfl
    rw [e]
    walk_at "wp"
    refine ⟨by rw [List.length_map]; unfold excsF; rw [List.length_map, cnt_len]; omega, ?_⟩
    refine ⟨0 :: excsF R S, rfl, by simp, fun m hm hmax => ?_⟩
    have em : m = maxI (excsF R S) := Int.le_antisymm (maxI_ge hm) (hmax _ maxI_mem)
    rw [em]
    exact q
theorem find_at {α : Type} (p : α → Bool) : ∀ {l : List α} {i : Nat} {x : α}, l[i]? = some x → p x = true → (∀ y ∈ l.take i, p y = false) → l.find? p = some x
  | a :: l, 0, x, h, hp, _ => by
    have e : a = x := by simpa using h
    rw [e, List.find?_cons, hp]
  | a :: l, i + 1, x, h, hp, hn => by
    have ha : p a = false := hn a (by simp)
    rw [List.find?_cons, ha]
    exact find_at p (l := l) (i := i) (by simpa using h) hp fun y hy => hn y (by simp [hy])
theorem r_P_fewest : ∀ ds n C Er, dsp_P_fewest ds n C Er → d_P_fewest { nx := fun _ n' => C (.dat .non) n', rt := C } (startD ds 3) n := by
  rintro ds n C Er ⟨R, S, rfl, ⟨v, v'⟩, q⟩
  have ht := tops_ok v
  unfold d_P_fewest
  refine seqR fun K0 hK0 => ?_
  refine for_i ((cntI R).map D.int) (fun i δ N => N = n ∧ (∀ y ∈ (cntI R).take i, decide (0 < excF R S y) = false) ∧ ∃ y2, δ = [some (.dat R.d), some (.dat S.d), y2]) (fun K hK => ?_) ⟨rfl, (by simp), none, rfl⟩ ?_ ?_
  · walk_at "wp"
    refine s_most_tickets ⟨v.t0, v.t1⟩ ?_
    walk_at "wp"
    have e : upF 1440 R.t = topsF R := rfl
    rw [e]
    refine ⟨⟨by decide, by decide, by omega, by omega⟩, ?_⟩
    rw [cnt_rng]
    exact hK
  · rintro i d δ N hi ⟨rfl, hn, y2, rfl⟩ K2 hK2
    obtain ⟨x, hx, rfl⟩ := get_ints hi
    walk_at "wp"
    refine s_excess v v' ?_
    walk_at "wp"
    refine wif_d (fun h => ?_) fun h => ?_
    · have e : fewestF R S = some x := find_at _ hx (decide_eq_true h) hn
      rw [e] at q
      exact q
    · refine hK2 _ _ ⟨rfl, fun y hy => ?_, some (.dat (.int x)), rfl⟩
      rw [List.take_add_one, hx] at hy
      rcases List.mem_append.mp hy with hy | hy
      · exact hn y hy
      · have e : y = x := by simpa using hy
        rw [e]
        exact decide_eq_false h
  · rintro δ N ⟨rfl, hn, y2, rfl⟩
    rw [List.length_map, List.take_length] at hn
    refine hK0 _ _ ?_
    walk_at "wp"
    have e : fewestF R S = none := List.find?_eq_none.mpr fun y hy => by rw [hn y hy]; decide
    rw [e] at q
    exact q
theorem r_P_fewest_rides : ∀ ds n C Er, dsp_P_fewest_rides ds n C Er → d_P_fewest_rides { nx := fun _ n' => C (.dat .non) n', rt := C } (startD ds 2) n := by
  rintro ds n C Er ⟨R, S, rfl, ⟨v, v'⟩, q⟩
  unfold d_P_fewest_rides
  walk_at "wp"
  refine s_check_rule v ?_
  walk_at "wp"
  refine s_check_rule v' ?_
  walk_at "wp"
  refine s_fewest v v' ?_
  exact q
end LAW

/-! Rj: the laws' own excesses. -/
namespace LAW
open PySem PySem.Spec PyProof.Rows L2 DL
variable [TabNames]
local macro_rules | `(tactic| walk_at "wp") => `(tactic| first | dsimp | skip)
theorem excs_len {R S : Ru} : (excsF R S).length = (topsF R).toNat := by unfold excsF; rw [List.length_map, cnt_len]
theorem excs_take {R S : Ru} {k : Nat} (h : k < (topsF R).toNat) : (excsF R S).take (k + 1) = (excsF R S).take k ++ [excF R S (1 + (k : Int))] := by
  rw [List.take_add_one]
  congr 1
  unfold excsF
  rw [List.getElem?_map, cnt_get h]
  rfl
theorem while_i {p : DT} {db : DS} {E : DEnds} {δ : StD} {N : Nat} (Inv : Nat → StD → Nat → Prop) (m : Nat) (h0 : Inv m δ N)
  (h : ∀ m δ2 N2, Inv m δ2 N2 → ∀ R B : StD → Nat → Prop, (∀ m' δ3 N4, m' < m → Inv m' δ3 N4 → R δ3 N4) → (∀ δ3 N3, db { E with nx := R, ct := R, bk := E.nx } δ3 N3 → B δ3 N3) → p δ2 N2 fun b N3 => wif b (B δ2 N3) (E.nx δ2 N3)) : dWhile p db E δ N :=
  while_w Inv m h0 fun m δ2 N2 hi => h m δ2 N2 hi _ _ (fun m' _ _ hm hi' => ⟨m', hm, hi'⟩) (fun _ _ hb => hb)
theorem r_L_excesses : ∀ ds n C Er, dsp_L_excesses ds n C Er → d_L_excesses { nx := fun _ n' => C (.dat .non) n', rt := C } (startD ds 7) n := by
  rintro ds n C Er ⟨R, S, rfl, ⟨v, v'⟩, q⟩
  have ht := tops_ok v
  have t0 := v.t0
  have t1 := v.t1
  have t0' := v'.t0
  have hul : ∀ k : Int, 1440 ≤ R.t * k ↔ topsF R ≤ k := fun k => le_up t0
  unfold d_L_excesses
  refine seqR fun K1 hK1 => ?_
  walk_at "wp"
  refine hK1 _ _ ?_
  refine seqR fun K2 hK2 => ?_
  refine while_i (fun m δ N => N = n ∧ ∃ (k : Nat) (tick u o cnt : Int), k ≤ (topsF R).toNat ∧ m = (topsF R).toNat - k ∧ tick = k * R.t ∧ u = untilF S.t (boughtF S.t (stepI 0 R.t k)) ∧ o = ((boughtF S.t (stepI 0 R.t k)).length : Nat) ∧ cnt = k ∧
    δ = [some (.dat R.d), some (.dat S.d), some (.own (((excsF R S).take k).map D.int)), some (.dat (.int tick)), some (.dat (.int u)), some (.dat (.int o)), some (.dat (.int cnt))]) (topsF R).toNat ⟨rfl, 0, _, _, _, _, Nat.zero_le _, rfl, (by simp), rfl, rfl, rfl, rfl⟩ ?_
  rintro m δ N ⟨rfl, k, tick, u, o, cnt, hk, rfl, htick, hu, ho, hcnt, rfl⟩ K3 KB hK3 hKB
  have htk : tick = R.t * k := by rw [htick, Int.mul_comm]
  have htk0 : 0 ≤ tick := by rw [htick]; exact Int.mul_nonneg (by omega) (by omega)
  walk_at "wp"
  refine wif_d (fun hlt => ?_) fun hge => ?_
  · have hkt : k < (topsF R).toNat := by
      have h1 : ¬ topsF R ≤ (k : Int) := fun h => by
        have := (hul k).mpr h
        omega
      omega
    have hst : boughtF S.t (stepI 0 R.t (k + 1)) = if u ≤ tick then boughtF S.t (stepI 0 R.t k) ++ [tick] else boughtF S.t (stepI 0 R.t k) := by
      rw [stepI_succ, boughtF_snoc, show 0 + (k : Int) * R.t = tick by omega, until_step htk0, ← hu]
    have hcount := step_count (b := 0) t0 t0' (k + 1)
    have hl2 : ((excsF R S).take k).length ≤ 1440 := by
      rw [List.length_take, excs_len]
      omega
    have fin : ∀ (u' o' : Int), u' = untilF S.t (boughtF S.t (stepI 0 R.t (k + 1))) → o' = ((boughtF S.t (stepI 0 R.t (k + 1))).length : Nat) →
        K3 [some (Sl.dat R.d), some (.dat S.d), some (.own (((excsF R S).take k).map D.int ++ [D.int (moneyF R.p R.c (cnt + 1) - moneyF S.p S.c o')])), some (.dat (.int (tick + R.t))), some (.dat (.int u')), some (.dat (.int o')), some (.dat (.int (cnt + 1)))] N := fun u' o' hu' ho' => by
      refine hK3 ((topsF R).toNat - (k + 1)) _ _ (by omega) ⟨rfl, k + 1, tick + R.t, u', o', cnt + 1, hkt, rfl, ?_, hu', ho', ?_, ?_⟩
      · rw [htick, show ((k + 1 : Nat) : Int) = (k : Int) + 1 by omega, Int.add_mul, Int.one_mul]
      · omega
      · rw [excs_take hkt, List.map_append]
        have e1 : moneyF R.p R.c (cnt + 1) - moneyF S.p S.c o' = excF R S (1 + (k : Int)) := by
          unfold excF
          rw [ho', hcount, hcnt, show (k : Int) + 1 = 1 + (k : Int) by omega, show ((k + 1 : Nat) : Int) = 1 + (k : Int) by omega]
        rw [e1]
        rfl
    have mid : ∀ (u' o' : Int), u' = untilF S.t (boughtF S.t (stepI 0 R.t (k + 1))) → o' = ((boughtF S.t (stepI 0 R.t (k + 1))).length : Nat) → dSeq (dApp 2 (dOp dSub (dCall E00 dsp_L_money (dCons (dVar 0) (dCons (dVar 6) dNil))) (dCall E00 dsp_L_money (dCons (dVar 1) (dCons (dVar 5) dNil)))))
      (dAsg false 3 (dOp dAdd (dVar 3) (dOp dIx (dVar 0) (dC (.int 1))))) { nx := K3, rt := C, bk := K2, ct := K3 } [some (Sl.dat R.d), some (.dat S.d), some (.own (((excsF R S).take k).map D.int)), some (.dat (.int tick)), some (.dat (.int u')), some (.dat (.int o')), some (.dat (.int (cnt + 1)))] N := fun u' o' hu' ho' => by
      walk_at "wp"
      refine s_lmoney ⟨v.p0, v.p1⟩ ?_
      walk_at "wp"
      refine s_lmoney ⟨v'.p0, v'.p1⟩ ?_
      walk_at "wp"
      exact ⟨by rw [List.length_map]; omega, fin u' o' hu' ho'⟩
    refine hKB _ _ ?_
    refine seqR fun K4 hK4 => ?_
    walk_at "wp"
    refine hK4 _ _ ?_
    refine seqR fun K5 hK5 => ?_
    walk_at "wp"
    refine wif_d (fun h => ?_) fun h => ?_
    · rw [if_pos h] at hst
      refine hK5 _ _ (mid (tick + S.t) (o + 1) ?_ ?_)
      · rw [hst]
        unfold untilF
        rw [last_app]
      · rw [hst, List.length_append, ho]
        rfl
    · rw [if_neg h] at hst
      refine hK5 _ _ (mid u o ?_ ?_)
      · rw [hst]; exact hu
      · rw [hst]; exact ho
  · have hkt : k = (topsF R).toNat := by
      have := (hul k).mp (by omega)
      omega
    refine hK2 _ _ ?_
    walk_at "wp"
    rw [hkt, ← excs_len (R := R) (S := S), List.take_length]
    exact q
theorem r_L_good : ∀ ds n C Er, dsp_L_good ds n C Er → d_L_good { nx := fun _ n' => C (.dat .non) n', rt := C } (startD ds 2) n := by
  rintro ds n C Er ⟨R, S, rfl, ⟨v, v'⟩, q⟩
  have ht := tops_ok v
  unfold d_L_good
  walk_at "wp"
  refine s_excesses v v' ?_
  walk_at "wp"
  refine ⟨excsF R S, rfl, fun e => ?_, fun m hm hmax => ?_⟩
  · have h1 := excs_len (R := R) (S := S)
    have e' : excsF R S = [] := e
    rw [e'] at h1
    simp at h1
    omega
  · walk_at "wp"
    have e : decide (m ≤ 0) = atmostF R S := by
      rw [Bool.eq_iff_iff, decide_eq_true_iff]
      unfold atmostF
      rw [List.all_eq_true]
      constructor
      · intro h y hy
        exact decide_eq_true (Int.le_trans (hmax y hy) h)
      · intro h
        exact of_decide_eq_true (h m hm)
    rw [e]
    exact q
end LAW

/-! Rk: rules with another part, the binary searches. -/
namespace LAW
open PySem PySem.Spec PyProof.Rows L2 DL
variable [TabNames]
local macro_rules | `(tactic| walk_at "wp") => `(tactic| first | dsimp | skip)
section
variable {N : Nat} {C : DK} {p t p' t' k x : Int} {c c' : Option Int} {top : Nat}
theorem s_with_part (hk : k = 0 ∨ k = 1 ∨ k = 2) (h : C (.dat (putR ⟨p, t, c⟩ k x).d) N) : dsp_P_with_part [ruleD p t c, .v (.int k), .v (.int x)] N C E00 := ⟨⟨p, t, c⟩, k, x, rfl, hk, h⟩
theorem s_greatest (v : VRule p t c) (v' : VRule p' t' c') (hk : k = 0 ∧ top ≤ 1000 ∨ k = 2 ∧ top ≤ 1000000) (h : C (.dat (.int (greatestF ⟨p, t, c⟩ ⟨p', t', c'⟩ k top))) N) : dsp_P_greatest [ruleD p t c, ruleD p' t' c', .v (.int k), .v (.int top)] N C E00 := ⟨⟨p, t, c⟩, ⟨p', t', c'⟩, k, top, rfl, ⟨v, v', hk⟩, h⟩
theorem s_greatest_price (v : VRule p t c) (v' : VRule p' t' c') (h : C (.dat (.int (greatestF ⟨p, t, c⟩ ⟨p', t', c'⟩ 0 1000))) N) : dsp_P_greatest_price [ruleD p t c, ruleD p' t' c'] N C E00 := ⟨⟨p, t, c⟩, ⟨p', t', c'⟩, rfl, ⟨v, v'⟩, h⟩
theorem s_greatest_cap (v : VRule p t c) (v' : VRule p' t' c') (h : C (.dat (.int (greatestF ⟨p, t, c⟩ ⟨p', t', c'⟩ 2 1000000))) N) : dsp_P_greatest_cap [ruleD p t c, ruleD p' t' c'] N C E00 := ⟨⟨p, t, c⟩, ⟨p', t', c'⟩, rfl, ⟨v, v'⟩, h⟩
theorem s_least_length (v : VRule p t c) (v' : VRule p' t' c') (h : C (.dat (capD (leastF ⟨p, t, c⟩ ⟨p', t', c'⟩))) N) : dsp_P_least_length [ruleD p t c, ruleD p' t' c'] N C E00 := ⟨⟨p, t, c⟩, ⟨p', t', c'⟩, rfl, ⟨v, v'⟩, h⟩
end
theorem l_P_with_part : ∀ ds n C Er, dsp_P_with_part ds n C Er → ds.length = 3 := by rintro ds n C Er ⟨_, _, _, rfl, _⟩; rfl
theorem l_P_greatest : ∀ ds n C Er, dsp_P_greatest ds n C Er → ds.length = 4 := by rintro ds n C Er ⟨_, _, _, _, rfl, _⟩; rfl
theorem l_P_greatest_price : ∀ ds n C Er, dsp_P_greatest_price ds n C Er → ds.length = 2 := by rintro ds n C Er ⟨_, _, rfl, _⟩; rfl
theorem l_P_greatest_cap : ∀ ds n C Er, dsp_P_greatest_cap ds n C Er → ds.length = 2 := by rintro ds n C Er ⟨_, _, rfl, _⟩; rfl
theorem l_P_least_length : ∀ ds n C Er, dsp_P_least_length ds n C Er → ds.length = 2 := by rintro ds n C Er ⟨_, _, rfl, _⟩; rfl
theorem cut_a {a b c : D} : DL.cutD [a, b, c] none (some 0) = [] := rfl
theorem cut_b {a b c : D} : DL.cutD [a, b, c] none (some 1) = [a] := rfl
theorem cut_c {a b c : D} : DL.cutD [a, b, c] none (some 2) = [a, b] := rfl
theorem cut_d {a b c : D} : DL.cutD [a, b, c] (some 1) none = [b, c] := rfl
theorem cut_e {a b c : D} : DL.cutD [a, b, c] (some 2) none = [c] := rfl
theorem cut_f {a b c : D} : DL.cutD [a, b, c] (some 3) none = [] := rfl
theorem put_ok {R : Ru} {k x : Int} (v : VR R) (h : k = 0 ∧ 0 ≤ x ∧ x ≤ 1000 ∨ k = 1 ∧ 1 ≤ x ∧ x ≤ 1440 ∨ k = 2 ∧ 0 ≤ x ∧ x ≤ 1000000) : VR (putR R k x) := by
  have p0 := v.p0
  have p1 := v.p1
  have t0 := v.t0
  have t1 := v.t1
  rcases h with ⟨rfl, h0, h1⟩ | ⟨rfl, h0, h1⟩ | ⟨rfl, h0, h1⟩
  · exact ⟨h0, h1, t0, t1, v.c0⟩
  · exact ⟨p0, p1, h0, h1, v.c0⟩
  · exact ⟨p0, p1, t0, t1, fun y hy => by
      have e : x = y := Option.some.inj hy
      omega⟩
theorem r_P_with_part : ∀ ds n C Er, dsp_P_with_part ds n C Er → d_P_with_part { nx := fun _ n' => C (.dat .non) n', rt := C } (startD ds 3) n := by
  rintro ds n C Er ⟨R, k, x, rfl, hk, q⟩
  unfold d_P_with_part
  rcases hk with rfl | rfl | rfl
  · simp only [Ru.d, ruleD]
    walk_at "wp"
    rw [cut_a]
    walk_at "wp"
    refine ⟨by decide, ?_⟩
    rw [cut_d]
    walk_at "wp"
    exact ⟨by decide, q⟩
  · simp only [Ru.d, ruleD]
    walk_at "wp"
    rw [cut_b]
    walk_at "wp"
    refine ⟨by decide, ?_⟩
    rw [cut_e]
    walk_at "wp"
    exact ⟨by decide, q⟩
  · simp only [Ru.d, ruleD]
    walk_at "wp"
    rw [cut_c]
    walk_at "wp"
    refine ⟨by decide, ?_⟩
    rw [cut_f]
    walk_at "wp"
    exact ⟨by decide, q⟩
theorem r_P_greatest_price : ∀ ds n C Er, dsp_P_greatest_price ds n C Er → d_P_greatest_price { nx := fun _ n' => C (.dat .non) n', rt := C } (startD ds 2) n := by
  rintro ds n C Er ⟨R, S, rfl, ⟨v, v'⟩, q⟩
  unfold d_P_greatest_price
  walk_at "wp"
  refine s_check_rule v ?_
  walk_at "wp"
  refine s_check_rule v' ?_
  walk_at "wp"
  exact s_greatest (top := 1000) v v' (.inl ⟨rfl, by decide⟩) q
theorem r_P_greatest_cap : ∀ ds n C Er, dsp_P_greatest_cap ds n C Er → d_P_greatest_cap { nx := fun _ n' => C (.dat .non) n', rt := C } (startD ds 2) n := by
  rintro ds n C Er ⟨R, S, rfl, ⟨v, v'⟩, q⟩
  unfold d_P_greatest_cap
  walk_at "wp"
  refine s_check_rule v ?_
  walk_at "wp"
  refine s_check_rule v' ?_
  walk_at "wp"
  exact s_greatest (top := 1000000) v v' (.inr ⟨rfl, by decide⟩) q
theorem r_P_greatest : ∀ ds n C Er, dsp_P_greatest ds n C Er → d_P_greatest { nx := fun _ n' => C (.dat .non) n', rt := C } (startD ds 7) n := by
  rintro ds n C Er ⟨R, S, k, top, rfl, ⟨v, v', hk⟩, q⟩
  have hk3 : k = 0 ∨ k = 1 ∨ k = 2 := by omega
  unfold d_P_greatest
  refine seqR fun K1 hK1 => ?_
  walk_at "wp"
  refine hK1 _ _ ?_
  refine seqR fun K2 hK2 => ?_
  refine while_i (fun m δ N => N = n ∧ ∃ (lo hi : Int) (y6 : Option Sl), 0 ≤ lo ∧ lo ≤ hi ∧ hi ≤ top ∧ (hi - lo).toNat ≤ m ∧ upS (fun x => atmostF (putR R k x) S) m lo hi = greatestF R S k top ∧
    δ = [some (.dat R.d), some (.dat S.d), some (.dat (.int k)), some (.dat (.int top)), some (.dat (.int lo)), some (.dat (.int hi)), y6]) top ⟨rfl, 0, top, none, (by decide), (by omega), Int.le_refl _, (by omega), rfl, rfl⟩ ?_
  rintro m δ N ⟨rfl, lo, hi, y6, h0, h1, h2, hm, hres, rfl⟩ K3 KB hK3 hKB
  walk_at "wp"
  refine wif_d (fun hlt => ?_) fun hge => ?_
  · obtain ⟨m', rfl⟩ : ∃ m', m = m' + 1 := ⟨m - 1, by omega⟩
    have hres' : (if atmostF (putR R k ((lo + hi + 1) / 2)) S = true then upS (fun x => atmostF (putR R k x) S) m' ((lo + hi + 1) / 2) hi else upS (fun x => atmostF (putR R k x) S) m' lo ((lo + hi + 1) / 2 - 1)) = greatestF R S k top := by
      rw [← hres]
      show _ = (if lo < hi then _ else _)
      rw [if_pos hlt]
    refine hKB _ _ ?_
    refine seqR fun K4 hK4 => ?_
    walk_at "wp"
    refine ⟨⟨by decide, by decide⟩, ?_⟩
    refine hK4 _ _ ?_
    generalize hmid : (lo + hi + 1) / 2 = mid at hres'
    have hm1 : lo < mid ∧ mid ≤ hi := by omega
    walk_at "wp"
    refine s_with_part hk3 ?_
    walk_at "wp"
    have vp : VR (putR R k mid) := put_ok v (by omega)
    refine s_at_most vp v' ?_
    walk_at "wp"
    refine wif_2 (fun h => ?_) fun h => ?_
    · have h' : atmostF (putR R k mid) S = true := h
      rw [if_pos h'] at hres'
      exact hK3 m' _ _ (by omega) ⟨rfl, mid, hi, _, by omega, by omega, h2, by omega, hres', rfl⟩
    · have h' : atmostF (putR R k mid) S = false := h
      rw [if_neg (by rw [h']; decide)] at hres'
      exact hK3 m' _ _ (by omega) ⟨rfl, lo, mid - 1, _, h0, by omega, by omega, by omega, hres', rfl⟩
  · refine hK2 _ _ ?_
    walk_at "wp"
    have e : greatestF R S k top = lo := by
      rw [← hres]
      cases m with
      | zero => rfl
      | succ m =>
        show (if lo < hi then _ else _) = _
        rw [if_neg hge]
    rw [e] at q
    exact q
theorem r_P_least_length : ∀ ds n C Er, dsp_P_least_length ds n C Er → d_P_least_length { nx := fun _ n' => C (.dat .non) n', rt := C } (startD ds 5) n := by
  rintro ds n C Er ⟨R, S, rfl, ⟨v, v'⟩, q⟩
  have hk3 : (1 : Int) = 0 ∨ (1 : Int) = 1 ∨ (1 : Int) = 2 := by omega
  unfold d_P_least_length
  refine seqR fun K1 hK1 => ?_
  walk_at "wp"
  refine s_check_rule v ?_
  walk_at "wp"
  refine hK1 _ _ ?_
  refine seqR fun K2 hK2 => ?_
  walk_at "wp"
  refine s_check_rule v' ?_
  walk_at "wp"
  refine hK2 _ _ ?_
  refine seqR fun K3 hK3 => ?_
  walk_at "wp"
  refine s_with_part (k := 1) hk3 ?_
  walk_at "wp"
  refine s_at_most (put_ok v (by omega)) v' ?_
  walk_at "wp"
  refine wif_2 (fun h => ?_) fun h => ?_
  · have h' : atmostF (putR R 1 1440) S = false := by simpa using h
    have e : leastF R S = none := by unfold leastF; rw [if_neg (by rw [h']; decide)]
    rw [e] at q
    exact q
  have h' : atmostF (putR R 1 1440) S = true := by simpa using h
  refine hK3 _ _ ?_
  refine seqR fun K4 hK4 => ?_
  walk_at "wp"
  refine hK4 _ _ ?_
  refine seqR fun K5 hK5 => ?_
  refine while_i (fun m δ N => N = n ∧ ∃ (lo hi : Int) (y6 : Option Sl), 1 ≤ lo ∧ lo ≤ hi ∧ hi ≤ 1440 ∧ (hi - lo).toNat ≤ m ∧ dnS (fun x => atmostF (putR R 1 x) S) m lo hi = dnS (fun x => atmostF (putR R 1 x) S) 1440 1 1440 ∧
    δ = [some (.dat R.d), some (.dat S.d), some (.dat (.int lo)), some (.dat (.int hi)), y6]) 1440 ⟨rfl, 1, 1440, none, (by decide), (by decide), (by decide), (by decide), rfl, rfl⟩ ?_
  rintro m δ N ⟨rfl, lo, hi, y6, h0, h1, h2, hm, hres, rfl⟩ K6 KB hK6 hKB
  walk_at "wp"
  refine wif_d (fun hlt => ?_) fun hge => ?_
  · obtain ⟨m', rfl⟩ : ∃ m', m = m' + 1 := ⟨m - 1, by omega⟩
    have hres' : (if atmostF (putR R 1 ((lo + hi) / 2)) S = true then dnS (fun x => atmostF (putR R 1 x) S) m' lo ((lo + hi) / 2) else dnS (fun x => atmostF (putR R 1 x) S) m' ((lo + hi) / 2 + 1) hi) = dnS (fun x => atmostF (putR R 1 x) S) 1440 1 1440 := by
      rw [← hres]
      show _ = (if lo < hi then _ else _)
      rw [if_pos hlt]
    refine hKB _ _ ?_
    refine seqR fun K7 hK7 => ?_
    walk_at "wp"
    refine ⟨⟨by decide, by decide⟩, ?_⟩
    refine hK7 _ _ ?_
    generalize hmid : (lo + hi) / 2 = mid at hres'
    have hm1 : lo ≤ mid ∧ mid < hi := by omega
    walk_at "wp"
    refine s_with_part (k := 1) hk3 ?_
    walk_at "wp"
    have vp : VR (putR R 1 mid) := put_ok v (by omega)
    refine s_at_most vp v' ?_
    walk_at "wp"
    refine wif_2 (fun h => ?_) fun h => ?_
    · have h' : atmostF (putR R 1 mid) S = true := h
      rw [if_pos h'] at hres'
      exact hK6 m' _ _ (by omega) ⟨rfl, lo, mid, _, h0, by omega, by omega, by omega, hres', rfl⟩
    · have h' : atmostF (putR R 1 mid) S = false := h
      rw [if_neg (by rw [h']; decide)] at hres'
      exact hK6 m' _ _ (by omega) ⟨rfl, mid + 1, hi, _, by omega, by omega, h2, by omega, hres', rfl⟩
  · refine hK5 _ _ ?_
    walk_at "wp"
    have e : leastF R S = some lo := by
      unfold leastF
      rw [if_pos h', ← hres]
      cases m with
      | zero => rfl
      | succ m =>
        show some (if lo < hi then _ else _) = _
        rw [if_neg hge]
    rw [e] at q
    exact q
end LAW

/-! Rn: what compared rules mean for rides. -/
namespace LAW
open PySem PySem.Spec PyProof.Rows L2 DL
variable [TabNames]
def costR (R : Ru) (ns : List Int) : Int := costF R.p R.t R.c ns
theorem up_mono {a b k : Int} (hk : 1 ≤ k) (h : a ≤ b) : upF a k ≤ upF b k := by
  unfold upF
  exact Int.ediv_le_ediv (by omega) (by omega)
theorem largest_ge0 {R S : Ru} : 0 ≤ largestF R S := maxI_ge List.mem_cons_self
theorem largest_ge {R S : Ru} {n : Int} (h0 : 1 ≤ n) (h1 : n ≤ topsF R) : excF R S n ≤ largestF R S :=
  maxI_ge (List.mem_cons_of_mem _ (List.mem_map.mpr ⟨n, cnt_mem.mpr ⟨h0, h1⟩, rfl⟩))
theorem largest_le {R S : Ru} {x : Int} (h0 : 0 ≤ x) (h : ∀ n, 1 ≤ n → n ≤ topsF R → excF R S n ≤ x) : largestF R S ≤ x := by
  unfold largestF
  rcases List.mem_cons.mp (maxI_mem (l := excsF R S)) with e | e
  · rw [e]; exact h0
  · obtain ⟨n, hn, he⟩ := List.mem_map.mp e
    obtain ⟨a, b⟩ := cnt_mem.mp hn
    rw [← he]
    exact h n a b
theorem atmost_iff {R S : Ru} : atmostF R S = true ↔ ∀ n, 1 ≤ n → n ≤ topsF R → excF R S n ≤ 0 := by
  unfold atmostF excsF
  rw [List.all_map, List.all_eq_true]
  constructor
  · intro h n a b
    exact of_decide_eq_true (h n (cnt_mem.mpr ⟨a, b⟩))
  · intro h n hn
    obtain ⟨a, b⟩ := cnt_mem.mp hn
    exact decide_eq_true (h n a b)
theorem atmost_large {R S : Ru} : atmostF R S = true ↔ largestF R S ≤ 0 := by
  rw [atmost_iff]
  constructor
  · exact fun h => largest_le (Int.le_refl _) h
  · exact fun h n a b => Int.le_trans (largest_ge a b) h
/-- the rides that tell -/
theorem tell_ok {R : Ru} (v : VR R) {n : Int} (h0 : 0 ≤ n) (h1 : n ≤ topsF R) : VRides 1440 (stepI 0 R.t n.toNat) where
  len := by
    have := (tops_ok v).2
    rw [stepI_len]
    omega
  rg := fun x hx => by
    unfold stepI at hx
    obtain ⟨i, hi, rfl⟩ := List.mem_map.mp hx
    have hi' := List.mem_range.mp hi
    have t0 := v.t0
    have h4 : ¬ topsF R ≤ (i : Int) := by omega
    have h4' : ¬ 1440 ≤ R.t * (i : Int) := fun q => h4 ((le_up t0).mp q)
    have h5 : 0 ≤ (i : Int) * R.t := Int.mul_nonneg (by omega) (by omega)
    have h6 : (i : Int) * R.t = R.t * i := Int.mul_comm _ _
    omega
  asc := step_asc v.t0
theorem tell_self {R : Ru} (v : VR R) {n : Int} (h0 : 0 ≤ n) : ((boughtF R.t (stepI 0 R.t n.toNat)).length : Int) = n := by
  have e1 : upF R.t R.t = 1 := by
    have := v.t0
    unfold upF
    rw [show R.t + R.t - 1 = (R.t - 1) + 1 * R.t by omega, Int.add_mul_ediv_right _ _ (by omega), Int.ediv_eq_zero_of_lt (by omega) (by omega)]
    rfl
  rw [step_count v.t0 v.t0, e1]
  unfold upF
  rw [Int.ediv_one]
  omega
theorem tell_cost {R S : Ru} (v : VR R) (vS : VR S) {n : Int} (h0 : 0 ≤ n) : excF R S n = costR R (stepI 0 R.t n.toNat) - costR S (stepI 0 R.t n.toNat) := by
  unfold excF costR costF
  rw [tell_self v h0, step_count v.t0 vS.t0]
  congr 3
  omega
theorem money_0 {p : Int} {c : Option Int} {t : Int} (v : VRule p t c) : moneyF p c 0 = 0 := by
  cases c with
  | none => exact Int.zero_mul _
  | some c =>
    have := v.c0 c rfl
    show min (0 * p) c = 0
    rw [Int.zero_mul]
    omega
/-- no rides cost more by more than the excess at their tickets -/
theorem exc_sound {R S : Ru} (v : VR R) (vS : VR S) {m : Nat} {ns : List Int} (r : VRides m ns) : costR R ns - costR S ns ≤ excF R S ((boughtF R.t ns).length : Nat) := by
  unfold excF costR costF
  have hm := bought_mult (L := R.t) (M := S.t) v.t0 vS.t0 r
  have hu := (le_up (L := ((boughtF R.t ns).length : Nat)) (s := upF S.t R.t) (q := ((boughtF S.t ns).length : Nat)) (up_one vS.t0 v.t0)).mp hm
  have := money_mono (p := S.p) (c := S.c) vS.p0 hu
  omega
theorem cost_large {R S : Ru} (v : VR R) (vS : VR S) {m : Nat} {ns : List Int} (r : VRides m ns) : costR R ns - costR S ns ≤ largestF R S := by
  have h1 := exc_sound v vS r
  by_cases h0 : ((boughtF R.t ns).length : Int) = 0
  · have h2 : costR R ns = 0 := by
      unfold costR costF
      rw [h0]
      exact money_0 v
    have h3 := (cost_le (L := S.t) vS r).1
    have h4 : 0 ≤ costR S ns := h3
    have := largest_ge0 (R := R) (S := S)
    omega
  · have h2 := bought_up v.t0 v.t1 r
    exact Int.le_trans h1 (largest_ge (by omega) h2)
theorem cost_never {R S : Ru} (v : VR R) (vS : VR S) (h : atmostF R S = true) {m : Nat} {ns : List Int} (r : VRides m ns) : costR R ns ≤ costR S ns := by
  have h1 := cost_large v vS r
  have h2 := atmost_large.mp h
  omega
theorem atmost_cost {R S : Ru} (v : VR R) (vS : VR S) (h : ∀ (m : Nat) (ns : List Int), VRides m ns → costR R ns ≤ costR S ns) : atmostF R S = true := by
  rw [atmost_iff]
  intro n h0 h1
  rw [tell_cost v vS (by omega)]
  have := h _ _ (tell_ok v (n := n) (by omega) h1)
  omega
theorem large_cost {R S : Ru} (v : VR R) (vS : VR S) {x : Int} (hx : 0 ≤ x) (h : ∀ (m : Nat) (ns : List Int), VRides m ns → costR R ns - costR S ns ≤ x) : largestF R S ≤ x := by
  refine largest_le hx fun n h0 h1 => ?_
  rw [tell_cost v vS (by omega)]
  exact h _ _ (tell_ok v (n := n) (by omega) h1)
/-- the fewest rides -/
theorem fewest_some {R S : Ru} {f : Int} (h : fewestF R S = some f) : 1 ≤ f ∧ f ≤ topsF R ∧ 0 < excF R S f := by
  unfold fewestF at h
  have h1 := List.mem_of_find?_eq_some h
  have h2 := List.find?_some h
  obtain ⟨a, b⟩ := cnt_mem.mp h1
  exact ⟨a, b, of_decide_eq_true h2⟩
theorem fewest_none {R S : Ru} (h : fewestF R S = none) : atmostF R S = true := by
  unfold fewestF at h
  rw [List.find?_eq_none] at h
  rw [atmost_iff]
  intro n a b
  have := h n (cnt_mem.mpr ⟨a, b⟩)
  simp at this
  omega
theorem cnt_asc {R : Ru} : (cntI R).Pairwise (· < ·) := by
  unfold cntI
  rw [List.pairwise_map]
  exact List.pairwise_lt_range.imp fun h => by omega
theorem find_least {p : Int → Bool} : ∀ {l : List Int}, l.Pairwise (· < ·) → ∀ {n : Int}, n ∈ l → p n = true → ∃ f, l.find? p = some f ∧ f ≤ n
  | [], _, n, hn, _ => by cases hn
  | x :: r, h, n, hn, hp => by
    have h1 := List.pairwise_cons.mp h
    rw [List.find?_cons]
    cases hx : p x with
    | true =>
      refine ⟨x, rfl, ?_⟩
      rcases List.mem_cons.mp hn with e | hn
      · omega
      · exact Int.le_of_lt (h1.1 n hn)
    | false =>
      rcases List.mem_cons.mp hn with e | hn
      · rw [← e] at hx
        rw [hx] at hp
        cases hp
      · exact find_least h1.2 hn hp
theorem fewest_at {R S : Ru} {n : Int} (h0 : 1 ≤ n) (h1 : n ≤ topsF R) (h : 0 < excF R S n) : ∃ f, fewestF R S = some f ∧ f ≤ n :=
  find_least cnt_asc (cnt_mem.mpr ⟨h0, h1⟩) (decide_eq_true h)
/-- rides for which the first costs more are at least so many -/
theorem fewest_cost {R S : Ru} (v : VR R) (vS : VR S) {m : Nat} {ns : List Int} (r : VRides m ns) (h : costR S ns < costR R ns) : ∃ f, fewestF R S = some f ∧ f ≤ ns.length := by
  have h1 := exc_sound v vS r
  have h2 := bought_up v.t0 v.t1 r
  have h3 := boughtF_len R.t ns
  have h0 : 1 ≤ ((boughtF R.t ns).length : Int) := by
    by_cases e : ((boughtF R.t ns).length : Int) = 0
    · have h4 : costR R ns = 0 := by
        unfold costR costF
        rw [e]
        exact money_0 v
      have h5 : 0 ≤ costR S ns := (cost_le (L := S.t) vS r).1
      omega
    · omega
  obtain ⟨f, hf, hle⟩ := fewest_at (S := S) h0 h2 (by omega)
  exact ⟨f, hf, by omega⟩
end LAW

/-! Ro: better rules. -/
namespace LAW
open PySem PySem.Spec PyProof.Rows L2 DL
variable [TabNames]
local macro_rules | `(tactic| walk_at "wp") => `(tactic| first | dsimp | skip)
theorem l_L_better : ∀ ds n C Er, dsp_L_better ds n C Er → ds.length = 2 := by rintro ds n C Er ⟨_, _, _, rfl, _⟩; rfl
theorem s_better {p t : Int} {c : Option Int} {N : Nat} {C : DK} (v : VRule p t c) (h : N + 40 ≤ LIM) (q : ∀ p' t' c' N', VRule p' t' c' → (∀ (m : Nat) (ns : List Int), VRides m ns → costF p' t' c' ns ≤ costF p t c ns) → N ≤ N' → N' ≤ N + 2 → C (.dat (ruleD p' t' c')) N') : dsp_L_better [.bag, ruleD p t c] N C E00 := ⟨p, t, c, rfl, ⟨v, h⟩, q⟩
theorem money_price {p p' n : Int} {c : Option Int} (h : p' ≤ p) (hn : 0 ≤ n) : moneyF p' c n ≤ moneyF p c n := by
  have e : n * p' ≤ n * p := Int.mul_le_mul_of_nonneg_left h hn
  cases c with
  | none => exact e
  | some c =>
    show min (n * p') c ≤ min (n * p) c
    omega
theorem r_L_better : ∀ ds n C Er, dsp_L_better ds n C Er → d_L_better { nx := fun _ n' => C (.dat .non) n', rt := C } (startD ds 6) n := by
  rintro ds n C Er ⟨p, t, c, rfl, ⟨v, hN⟩, q⟩
  have p0 := v.p0
  have p1 := v.p1
  have t0 := v.t0
  have t1 := v.t1
  unfold d_L_better
  simp only [ruleD]
  refine seqR fun R1 hR1 => ?_
  walk_at "wp"
  refine hR1 _ _ ?_
  refine seqR fun R2 hR2 => ?_
  walk_at "wp"
  refine s_take ⟨by decide, by decide, by omega⟩ fun a a0 a1 => ?_
  walk_at "wp"
  refine hR2 _ _ ?_
  refine seqR fun R3 hR3 => ?_
  walk_at "wp"
  refine wif_d (fun _ => ?_) fun _ => ?_
  · refine s_take ⟨by decide, by decide, by omega⟩ fun b b0 b1 => ?_
    walk_at "wp"
    refine q (max 0 (p - 1 - b)) t c _ ⟨by omega, by omega, t0, t1, v.c0⟩ (fun m ns r => ?_) (by omega) (by omega)
    exact money_price (by omega) (by omega)
  refine hR3 _ _ ?_
  refine seqR fun R4 hR4 => ?_
  walk_at "wp"
  refine wif_d (fun _ => ?_) fun _ => ?_
  · refine s_take ⟨by decide, by decide, by omega⟩ fun b b0 b1 => ?_
    walk_at "wp"
    refine q p (min 1440 (t + 1 + b)) c _ ⟨p0, p1, by omega, by omega, v.c0⟩ (fun m ns r => ?_) (by omega) (by omega)
    exact cost_anti p0 (by omega) r
  refine hR4 _ _ ?_
  cases c with
  | none =>
    simp only [capD]
    walk_at "wp"
    refine wif_t rfl ?_
    refine ⟨.inr (by omega), ?_⟩
    refine q p t (some (5 * p)) _ ⟨p0, p1, t0, t1, fun x hx => by cases hx; omega⟩ (fun m ns r => ?_) (by omega) (by omega)
    show min (_ * p) (5 * p) ≤ _ * p
    omega
  | some c =>
    have hc := v.c0 c rfl
    simp only [capD]
    walk_at "wp"
    refine wif_f rfl ?_
    refine q p t (some (max 0 (c - 1))) _ ⟨p0, p1, t0, t1, fun x hx => by cases hx; omega⟩ (fun m ns r => ?_) (by omega) (by omega)
    show min (_ * p) (max 0 (c - 1)) ≤ min (_ * p) c
    omega
end LAW

/-! Rp: bought rides are as many as can be that are a length apart. -/
namespace LAW
open PySem PySem.Spec PyProof.Rows L2 DL
variable [TabNames]
def Apart (L : Int) (s : List Int) : Prop := s.Pairwise fun a b => a + L ≤ b
theorem asc_same : ∀ {l m : List Int}, l.Pairwise (· < ·) → m.Pairwise (· < ·) → (∀ k, k ∈ l ↔ k ∈ m) → l = m
  | [], [], _, _, _ => rfl
  | [], y :: m, _, _, h => absurd ((h y).mpr List.mem_cons_self) (by simp)
  | x :: l, [], _, _, h => absurd ((h x).mp List.mem_cons_self) (by simp)
  | x :: l, y :: m, hl, hm, h => by
    have al := List.pairwise_cons.mp hl
    have am := List.pairwise_cons.mp hm
    have e : x = y := by
      rcases List.mem_cons.mp ((h x).mp List.mem_cons_self) with e | h1
      · exact e
      · rcases List.mem_cons.mp ((h y).mpr List.mem_cons_self) with e | h2
        · exact e.symm
        · have := am.1 x h1
          have := al.1 y h2
          omega
    subst e
    congr 1
    refine asc_same al.2 am.2 fun k => ⟨fun hk => ?_, fun hk => ?_⟩
    · rcases List.mem_cons.mp ((h k).mp (List.mem_cons_of_mem _ hk)) with e | h1
      · have := al.1 k hk
        omega
      · exact h1
    · rcases List.mem_cons.mp ((h k).mpr (List.mem_cons_of_mem _ hk)) with e | h1
      · have := am.1 k hk
        omega
      · exact h1
/-- what is bought so far, b, is at least as many as s, and ends no later if just as many -/
structure Mx (b s : List Int) : Prop where
  le : s.length ≤ b.length
  last : s.length = b.length → ∀ l y, b.getLast? = some l → s.getLast? = some y → l ≤ y
theorem mx_skip {L x : Int} {b s : List Int} (h : Mx b s) : Mx (bstep L b x) s := by
  rcases bstep_cases L b x with ⟨e, _⟩ | ⟨e, _⟩ <;> rw [e]
  · have := h.le
    refine ⟨by rw [List.length_append]; omega, fun q => ?_⟩
    rw [List.length_append] at q
    have : [x].length = 1 := rfl
    omega
  · exact h
theorem mx_take {L x : Int} {b s : List Int} (hL : 1 ≤ L) (h : Mx b s) (hs : ∀ y, s.getLast? = some y → y + L ≤ x) (hb : ∀ l, b.getLast? = some l → l ≤ x) : Mx (bstep L b x) (s ++ [x]) := by
  have hle := h.le
  have h1 : [x].length = 1 := rfl
  rcases bstep_cases L b x with ⟨e, _⟩ | ⟨e, l, g1, g2⟩ <;> rw [e]
  · refine ⟨by rw [List.length_append, List.length_append]; omega, fun _ l y hl hy => ?_⟩
    rw [last_app] at hl hy
    cases hl
    cases hy
    exact Int.le_refl _
  · have hlt : s.length < b.length := by
      by_cases q : s.length = b.length
      · exfalso
        have hbn : b ≠ [] := fun z => by rw [z] at g1; cases g1
        have hsn : s ≠ [] := fun z => by
          rw [z] at q
          exact hbn (List.length_eq_zero_iff.mp q.symm)
        have := h.last q l _ g1 (List.getLast?_eq_some_getLast hsn)
        have := hs _ (List.getLast?_eq_some_getLast hsn)
        omega
      · omega
    refine ⟨by rw [List.length_append]; omega, fun _ l' y hl hy => ?_⟩
    rw [last_app] at hy
    cases hy
    exact hb l' hl
theorem mx_fold {L : Int} (hL : 1 ≤ L) : ∀ (ns b s t : List Int), ns.Pairwise (· ≤ ·) → (∀ l, b.getLast? = some l → ∀ y ∈ ns, l ≤ y) → Mx b s → t.Sublist ns → Apart L (s ++ t) → Mx (ns.foldl (bstep L) b) (s ++ t)
  | [], b, s, t, _, _, h, hs, _ => by
    rw [List.sublist_nil.mp hs, List.append_nil]
    exact h
  | x :: r, b, s, t, ha, hb, h, hs, hap => by
    have a1 := List.pairwise_cons.mp ha
    have hb' : ∀ l, (bstep L b x).getLast? = some l → ∀ y ∈ r, l ≤ y := fun l hl y hy => by
      rcases bstep_cases L b x with ⟨e, _⟩ | ⟨e, _⟩ <;> rw [e] at hl
      · rw [last_app] at hl
        cases hl
        exact a1.1 y hy
      · exact hb l hl y (List.mem_cons_of_mem _ hy)
    cases hs with
    | cons _ hs => exact mx_fold hL r _ s t a1.2 hb' (mx_skip h) hs hap
    | cons_cons _ hs =>
      rename_i t'
      have e : s ++ x :: t' = (s ++ [x]) ++ t' := by rw [List.append_assoc]; rfl
      rw [e] at hap ⊢
      refine mx_fold hL r _ (s ++ [x]) t' a1.2 hb' (mx_take hL h (fun y hy => ?_) fun l hl => hb l hl x List.mem_cons_self) hs hap
      have p1 := (List.pairwise_append.mp hap).1
      exact (List.pairwise_append.mp p1).2.2 y (List.mem_of_getLast? hy) x List.mem_cons_self
theorem bought_max {L : Int} {ns s : List Int} (hL : 1 ≤ L) (ha : ns.Pairwise (· ≤ ·)) (hs : s.Sublist ns) (hap : Apart L s) : s.length ≤ (boughtF L ns).length :=
  (mx_fold hL ns [] [] s ha (fun l h => by cases h) ⟨Nat.le_refl _, fun _ l y h => by cases h⟩ hs hap).le
theorem apart_lt {L : Int} {s : List Int} (hL : 1 ≤ L) (h : Apart L s) : s.Pairwise (· < ·) := h.imp fun q => by omega
theorem apart_snoc {L x : Int} {b : List Int} (hL : 1 ≤ L) (h : Apart L b) (hl : ∀ l, b.getLast? = some l → l + L ≤ x) : Apart L (b ++ [x]) := by
  refine List.pairwise_append.mpr ⟨h, List.pairwise_singleton _ _, fun y hy z hz => ?_⟩
  have e : z = x := by simpa using hz
  subst e
  have hbn : b ≠ [] := List.ne_nil_of_mem hy
  have h1 := hl _ (List.getLast?_eq_some_getLast hbn)
  have h2 := asc_last (apart_lt hL h) hy hbn
  omega
theorem bought_both {L : Int} (hL : 1 ≤ L) : ∀ (ns b c : List Int), Apart L b → b.Sublist c → Apart L (ns.foldl (bstep L) b) ∧ (ns.foldl (bstep L) b).Sublist (c ++ ns)
  | [], b, c, h1, h2 => ⟨h1, by rw [List.append_nil]; exact h2⟩
  | x :: r, b, c, h1, h2 => by
    have e : c ++ x :: r = (c ++ [x]) ++ r := by rw [List.append_assoc]; rfl
    rw [e]
    refine bought_both hL r _ _ ?_ ?_
    · rcases bstep_cases L b x with ⟨e, g⟩ | ⟨e, _⟩ <;> rw [e]
      · exact apart_snoc hL h1 g
      · exact h1
    · rcases bstep_cases L b x with ⟨e, _⟩ | ⟨e, _⟩ <;> rw [e]
      · exact List.Sublist.append h2 (List.Sublist.refl _)
      · exact h2.trans (List.sublist_append_left _ _)
theorem bought_apart {L : Int} {ns : List Int} (hL : 1 ≤ L) : Apart L (boughtF L ns) := (bought_both hL ns [] [] List.Pairwise.nil (List.Sublist.refl _)).1
theorem bought_sub {L : Int} {ns : List Int} (hL : 1 ≤ L) : (boughtF L ns).Sublist ns := (bought_both hL ns [] [] List.Pairwise.nil (List.Sublist.refl _)).2
/-- a larger day needs at least as many -/
theorem bought_sublist {L : Int} {ns ms : List Int} (hL : 1 ≤ L) (ha : ns.Pairwise (· ≤ ·)) (h : ms.Sublist ns) : (boughtF L ms).length ≤ (boughtF L ns).length :=
  bought_max hL ha ((bought_sub hL).trans h) (bought_apart hL)
end LAW

/-! Rq: telling rides, apart, many days, the laws' own helpers about these. -/
namespace LAW
open PySem PySem.Spec PyProof.Rows L2 DL
variable [TabNames]
local macro_rules | `(tactic| walk_at "wp") => `(tactic| first | dsimp | skip)
section
variable {N : Nat} {C : DK} {p t p' t' L s d m : Int} {c c' : Option Int} {ns : List Int} {R : Ru}
theorem s_telling (v : VRule p t c) (v' : VRule p' t' c') (h : C (.dat (tellD ⟨p, t, c⟩ ⟨p', t', c'⟩)) N) : dsp_P_telling_rides [ruleD p t c, ruleD p' t' c'] N C E00 := ⟨⟨p, t, c⟩, ⟨p', t', c'⟩, rfl, ⟨v, v'⟩, h⟩
theorem s_apart (v : VRides 60 ns) (hL : 1 ≤ L ∧ L ≤ 1440) (h : C (.dat (ridesD (boughtF L ns))) N) : dsp_P_apart [ridesD ns, .v (.int L)] N C E00 := ⟨ns, L, rfl, ⟨v, hL⟩, h⟩
theorem s_most (v : VRides 11 ns) (hL : 1 ≤ L) (h : C (.dat (.int ((boughtF L ns).length : Nat))) N) : dsp_L_most [ridesD ns, .v (.int L)] N C E00 := ⟨ns, L, rfl, ⟨v, hL⟩, h⟩
theorem s_spaced (v : ns.length ≤ 60 ∧ 1 ≤ L ∧ ns.Pairwise fun a b => a + L ≤ b) (h : C (.dat (.bl true)) N) : dsp_L_spaced [ridesD ns, .v (.int L)] N C E00 := ⟨ns, L, rfl, v, h⟩
theorem s_regular_days (v : VRule p t c) (hs : 1 ≤ s ∧ s ≤ 1440 ∧ 0 ≤ d ∧ d ≤ 1000000000000) (h : C (.dat (.int (sumF (dayF ⟨p, t, c⟩ s) d.toNat))) N) : dsp_P_regular_days [ruleD p t c, .v (.int s), .v (.int d)] N C E00 := ⟨⟨p, t, c⟩, s, d, rfl, ⟨v, hs⟩, h⟩
theorem s_lday (v : VRule p t c) (hs : 1 ≤ s ∧ s ≤ 1440 ∧ 0 ≤ d) (h : C (.dat (.int (dayF ⟨p, t, c⟩ s d.toNat))) N) : dsp_L_day [ruleD p t c, .v (.int s), .v (.int d)] N C E00 := ⟨⟨p, t, c⟩, s, d, rfl, ⟨v, hs⟩, h⟩
theorem s_far (hm : 1 ≤ m ∧ m ≤ 1000000000000 ∧ N + 20 ≤ LIM) (h : ∀ (i : Int) (N' : Nat), 0 ≤ i → i < m → N ≤ N' → N' ≤ N + 10 → C (.dat (.int i)) N') : dsp_L_far [.bag, .v (.int m)] N C E00 := ⟨m, rfl, hm, h⟩
end
theorem l_P_telling_rides : ∀ ds n C Er, dsp_P_telling_rides ds n C Er → ds.length = 2 := by rintro ds n C Er ⟨_, _, rfl, _⟩; rfl
theorem l_P_apart : ∀ ds n C Er, dsp_P_apart ds n C Er → ds.length = 2 := by rintro ds n C Er ⟨_, _, rfl, _⟩; rfl
theorem l_L_most : ∀ ds n C Er, dsp_L_most ds n C Er → ds.length = 2 := by rintro ds n C Er ⟨_, _, rfl, _⟩; rfl
theorem l_L_spaced : ∀ ds n C Er, dsp_L_spaced ds n C Er → ds.length = 2 := by rintro ds n C Er ⟨_, _, rfl, _⟩; rfl
theorem l_P_regular_days : ∀ ds n C Er, dsp_P_regular_days ds n C Er → ds.length = 3 := by rintro ds n C Er ⟨_, _, _, rfl, _⟩; rfl
theorem l_L_day : ∀ ds n C Er, dsp_L_day ds n C Er → ds.length = 3 := by rintro ds n C Er ⟨_, _, _, rfl, _⟩; rfl
theorem l_L_far : ∀ ds n C Er, dsp_L_far ds n C Er → ds.length = 2 := by rintro ds n C Er ⟨_, rfl, _⟩; rfl
theorem stepL_rng {t : Int} {n : Nat} : List.map (fun d => match d with | .v (.int i) => D.int (t * i) | _ => D.non) (rngD 0 n) = (stepL t n).map D.int := by
  unfold rngD stepL
  rw [List.map_map, List.map_map]
  refine List.map_congr_left fun i _ => ?_
  show D.int (t * (0 + (i : Int))) = D.int (t * (i : Int))
  rw [Int.zero_add]
theorem stepL_I {t : Int} {n : Nat} : stepL t n = stepI 0 t n := by
  unfold stepL stepI
  refine List.map_congr_left fun i _ => ?_
  rw [Int.zero_add, Int.mul_comm]
theorem r_P_telling_rides : ∀ ds n C Er, dsp_P_telling_rides ds n C Er → d_P_telling_rides { nx := fun _ n' => C (.dat .non) n', rt := C } (startD ds 4) n := by
  rintro ds n C Er ⟨R, S, rfl, ⟨v, v'⟩, q⟩
  have t0 := v.t0
  have t1 := v.t1
  have ht := tops_ok v
  unfold d_P_telling_rides
  walk_at "wp"
  refine s_check_rule v ?_
  walk_at "wp"
  refine s_check_rule v' ?_
  walk_at "wp"
  refine s_fewest v v' ?_
  unfold tellD at q
  cases hf : fewestF R S with
  | none =>
    rw [hf] at q
    simp only [capD]
    walk_at "wp"
    refine wif_t rfl ?_
    exact q
  | some f =>
    rw [hf] at q
    obtain ⟨f0, f1, _⟩ := fewest_some hf
    simp only [capD]
    walk_at "wp"
    refine wif_f rfl ?_
    refine lc_p (rngD 0 f.toNat) (fun _ => true) (fun d => match d with | .v (.int i) => .int (R.t * i) | _ => .non) (fun K hK => ?_) (by rw [rngD_len]; omega) (fun d hd K K' h1 h2 => ?_) ?_
    · walk_at "wp"
      exact ⟨⟨by omega, by omega⟩, hK⟩
    · obtain ⟨i, hi⟩ := List.getElem?_of_mem hd
      obtain ⟨hi1, rfl⟩ := rngD_get hi
      walk_at "wp"
      exact ⟨.inl (by omega), h1 rfl⟩
    rw [filter_all, stepL_rng]
    walk_at "wp"
    exact q
theorem r_P_apart : ∀ ds n C Er, dsp_P_apart ds n C Er → d_P_apart { nx := fun _ n' => C (.dat .non) n', rt := C } (startD ds 2) n := by
  rintro ds n C Er ⟨ns, L, rfl, ⟨v, hL⟩, q⟩
  have vl := v.len
  unfold d_P_apart
  walk_at "wp"
  refine s_check_rides v ?_
  walk_at "wp"
  refine s_check_number hL ?_
  walk_at "wp"
  refine s_bought_of .tup (by omega) ?_
  walk_at "wp"
  exact q
theorem zip_apart {L : Int} : ∀ {ns : List Int} {d : D}, (ns.Pairwise fun a b => a + L ≤ b) → d ∈ zipD (ns.map D.int) ((ns.drop 1).map D.int) → ∃ x y, x + L ≤ y ∧ d = .tup [.int x, .int y]
  | [], d, _, h => by simp [zipD] at h
  | [x], d, _, h => by simp [zipD] at h
  | x :: y :: r, d, hp, h => by
    simp only [List.map_cons, List.drop_succ_cons, List.drop_zero, zipD, List.mem_cons] at h
    rcases h with h | h
    · exact ⟨x, y, (List.pairwise_cons.mp hp).1 y (by simp), h⟩
    · exact zip_apart (ns := y :: r) (List.pairwise_cons.mp hp).2 (by simpa using h)
theorem r_L_spaced : ∀ ds n C Er, dsp_L_spaced ds n C Er → d_L_spaced { nx := fun _ n' => C (.dat .non) n', rt := C } (startD ds 4) n := by
  rintro ds n C Er ⟨ns, L, rfl, ⟨hl, hL, hp⟩, q⟩
  unfold d_L_spaced
  walk_at "wp"
  refine lc_p (zipD (ns.map D.int) (DL.cutD (ns.map D.int) (some 1) none)) (fun _ => false) (fun _ => .int 1) (fun R hR => by walk_at "wp"; exact hR) (Nat.le_trans zipD_length (by rw [List.length_map]; omega)) (fun d hd K K' h1 h2 => ?_) ?_
  · rw [cut1, ← List.map_drop] at hd
    obtain ⟨x, y, hxy, rfl⟩ := zip_apart hp hd
    walk_at "wp"
    exact wif_f (decide_eq_false (by omega)) (h2 rfl)
  · rw [show ∀ l : List D, l.filter (fun _ => false) = [] from fun l => List.filter_eq_nil_iff.mpr fun _ _ => by decide]
    walk_at "wp"
    exact q
/-! ### all rows that are apart -/
def okM (L x : Int) (r : List Int) : Bool := match r.getLast? with
  | none => true
  | some l => decide (l + L ≤ x)
def stepM (L : Int) (F : List (List Int)) (x : Int) : List (List Int) := F ++ (F.filter (okM L x)).map fun r => r ++ [x]
def mostM (L : Int) (ns : List Int) : List (List Int) := ns.foldl (stepM L) [[]]
theorem mostM_take {L : Int} {ns : List Int} {i : Nat} {x : Int} (h : ns[i]? = some x) : mostM L (ns.take (i + 1)) = stepM L (mostM L (ns.take i)) x := by
  unfold mostM
  rw [List.take_add_one, h, List.foldl_append]
  rfl
theorem mostM_inv {L : Int} (hL : 1 ≤ L) : ∀ (ns : List Int), ns.Pairwise (· < ·) → ∀ i, i ≤ ns.length → boughtF L (ns.take i) ∈ mostM L (ns.take i) ∧ (∀ r ∈ mostM L (ns.take i), Mx (boughtF L (ns.take i)) r ∧ r.length ≤ i) ∧ (mostM L (ns.take i)).length ≤ 2 ^ i
  | ns, ha, 0, _ => by
    refine ⟨List.mem_cons_self, fun r hr => ?_, Nat.le_refl _⟩
    have e : r = [] := by simpa [mostM] using hr
    rw [e]
    exact ⟨⟨Nat.le_refl _, fun _ l y h => by cases h⟩, Nat.le_refl _⟩
  | ns, ha, i + 1, hi => by
    obtain ⟨h1, h2, h3⟩ := mostM_inv hL ns ha i (by omega)
    obtain ⟨x, hx⟩ : ∃ x, ns[i]? = some x := ⟨ns[i], List.getElem?_eq_getElem (by omega)⟩
    have hb := bfold_snoc L ns i x hx
    rw [mostM_take hx, hb]
    have hlast : ∀ l, (boughtF L (ns.take i)).getLast? = some l → l ≤ x := fun l hl => by
      have hm := (bought_sub hL).subset (List.mem_of_getLast? hl)
      obtain ⟨j, hj⟩ := List.getElem?_of_mem hm
      have hji : j < i := by
        have := (List.getElem?_eq_some_iff.mp hj).1
        rw [List.length_take] at this
        omega
      rw [List.getElem?_take_of_lt hji] at hj
      obtain ⟨g1, e1⟩ := List.getElem?_eq_some_iff.mp hj
      obtain ⟨g2, e2⟩ := List.getElem?_eq_some_iff.mp hx
      have := List.pairwise_iff_getElem.mp ha j i g1 g2 hji
      omega
    refine ⟨?_, fun r hr => ?_, ?_⟩
    · unfold stepM
      rcases bstep_cases L (boughtF L (ns.take i)) x with ⟨e, g⟩ | ⟨e, _⟩ <;> rw [e]
      · refine List.mem_append_right _ (List.mem_map.mpr ⟨_, List.mem_filter.mpr ⟨h1, ?_⟩, rfl⟩)
        unfold okM
        split
        · rfl
        · rename_i l hl
          exact decide_eq_true (g l hl)
      · exact List.mem_append_left _ h1
    · rcases List.mem_append.mp (show r ∈ mostM L (ns.take i) ++ _ from hr) with hr | hr
      · obtain ⟨g1, g2⟩ := h2 r hr
        exact ⟨mx_skip g1, by omega⟩
      · obtain ⟨s, hs, rfl⟩ := List.mem_map.mp hr
        obtain ⟨hs1, hs2⟩ := List.mem_filter.mp hs
        obtain ⟨g1, g2⟩ := h2 s hs1
        refine ⟨mx_take hL g1 (fun y hy => ?_) hlast, by rw [List.length_append]; show _ + 1 ≤ _; omega⟩
        unfold okM at hs2
        rw [hy] at hs2
        exact of_decide_eq_true hs2
    · unfold stepM
      rw [List.length_append, List.length_map, Nat.pow_succ]
      have := List.length_filter_le (okM L x) (mostM L (ns.take i))
      omega
def okD (L x : Int) : D → Bool
  | .tup es => match es.getLast? with
    | none => true
    | some (.v (.int l)) => decide (l + L ≤ x)
    | _ => false
  | _ => false
theorem okD_rides {L x : Int} {r : List Int} : okD L x (ridesD r) = okM L x r := by
  show (match (r.map D.int).getLast? with
    | none => true
    | some (.v (.int l)) => decide (l + L ≤ x)
    | _ => false) = okM L x r
  unfold okM
  rw [List.getLast?_map]
  cases r.getLast? <;> rfl
theorem eq_unit {neg : Bool} {ns : List Int} {k : Sl → Prop} : dEq neg (.tup (ns.map D.int)) (.tup []) k = k (.dat (.bl (ng neg (decide (ns = []))))) := eq_tups (ms := [])
theorem r_L_most : ∀ ds n C Er, dsp_L_most ds n C Er → d_L_most { nx := fun _ n' => C (.dat .non) n', rt := C } (startD ds 5) n := by
  rintro ds n C Er ⟨ns, L, rfl, ⟨v, hL⟩, q⟩
  have hlen := v.len
  have inv := mostM_inv hL ns v.asc
  unfold d_L_most
  refine seqR fun R1 hR1 => ?_
  walk_at "wp"
  refine hR1 _ _ ?_
  refine seqR fun R2 hR2 => ?_
  refine for_i (ns.map D.int) (fun i δ N => N = n ∧ ∃ y3 y4, δ = [some (.dat (ridesD ns)), some (.dat (.int L)), some (.dat (.lst ((mostM L (ns.take i)).map ridesD))), y3, y4]) (fun R hR => by walk_at "wp"; exact hR) ⟨rfl, none, none, rfl⟩ ?_ ?_
  · rintro i d δ N hi ⟨rfl, y3, y4, rfl⟩ R3 hR3
    obtain ⟨x, hx, rfl⟩ := get_ints hi
    have hi1 := (List.getElem?_eq_some_iff.mp hx).1
    obtain ⟨i1, i2, i3⟩ := inv i (by omega)
    have hp : 2 ^ i ≤ 2 ^ 11 := Nat.pow_le_pow_right (by decide) (by omega)
    refine dgN ?_
    walk_at "wp"
    refine lc_p ((mostM L (ns.take i)).map ridesD) (okD L x) (fun d => match d with | .tup es => .tup (es ++ [.int x]) | _ => .non) (fun R hR => by walk_at "wp"; exact hR) (by rw [List.length_map]; omega) (fun d hd K K' h1 h2 => ?_) ?_
    · obtain ⟨r, hr, rfl⟩ := List.mem_map.mp hd
      have hrl := (i2 r hr).2
      rw [okD_rides] at h1 h2
      have e : (ridesD r : D) = .tup (r.map D.int) := rfl
      rw [e] at h1 ⊢
      walk_at "wp"
      rw [eq_unit]
      walk_at "wp"
      have add : okM L x r = true → (r.map D.int).length + 1 ≤ 100000 ∧ K (Sl.dat (D.tup (r.map D.int ++ [D.int x]))) N := fun h => ⟨by rw [List.length_map]; omega, h1 h⟩
      refine wif_d (fun h => ?_) fun h => ?_
      · refine add ?_
        rw [h]
        rfl
      · have hl := List.getLast?_eq_some_getLast h
        simp only [dIx, D.items, atI_last hl]
        walk_at "wp"
        have ho : okM L x r = decide (r.getLast h + L ≤ x) := by
          unfold okM
          rw [hl]
        refine wif_d (fun h3 => ?_) fun h3 => ?_
        · refine add ?_
          rw [ho]
          exact decide_eq_true (by omega)
        · refine h2 ?_
          rw [ho]
          exact decide_eq_false (by omega)
    · walk_at "wp"
      have e : (mostM L (ns.take i)).map ridesD ++ List.map (fun d => match d with | .tup es => D.tup (es ++ [.int x]) | _ => D.non) (((mostM L (ns.take i)).map ridesD).filter (okD L x)) = (mostM L (ns.take (i + 1))).map ridesD := by
        rw [mostM_take hx]
        show _ = List.map ridesD (_ ++ _)
        rw [List.map_append, List.filter_map]
        congr 1
        rw [List.map_map, List.map_map, show okD L x ∘ ridesD = okM L x from funext fun r => okD_rides]
        refine List.map_congr_left fun r _ => ?_
        show D.tup (r.map D.int ++ [.int x]) = D.tup ((r ++ [x]).map D.int)
        rw [List.map_append]
        rfl
      rw [e]
      refine ⟨?_, hR3 _ _ ⟨rfl, _, _, rfl⟩⟩
      have hfl := List.length_filter_le (okD L x) ((mostM L (ns.take i)).map ridesD)
      rw [List.length_map] at hfl
      rw [List.length_map, List.length_map]
      omega
  · rintro δ N ⟨rfl, y3, y4, rfl⟩
    rw [List.length_map, List.take_length]
    obtain ⟨i1, i2, i3⟩ := inv ns.length (Nat.le_refl _)
    rw [List.take_length] at i1 i2 i3
    have hp : 2 ^ ns.length ≤ 2 ^ 11 := Nat.pow_le_pow_right (by decide) (by omega)
    refine hR2 _ _ ?_
    walk_at "wp"
    refine lc_p ((mostM L ns).map ridesD) (fun _ => true) (fun d => match d with | .tup es => .int es.length | _ => .non) (fun R hR => by walk_at "wp"; exact hR) (by rw [List.length_map]; omega) (fun d hd K K' h1 h2 => ?_) ?_
    · obtain ⟨r, hr, rfl⟩ := List.mem_map.mp hd
      have e : (ridesD r : D) = .tup (r.map D.int) := rfl
      rw [e] at h1 ⊢
      walk_at "wp"
      exact h1 rfl
    · rw [filter_all, List.map_map]
      walk_at "wp"
      refine ⟨(mostM L ns).map fun r => (r.length : Int), ?_, ?_, fun m hm hmax => ?_⟩
      · rw [List.map_map]
        congr 2
        refine List.map_congr_left fun r _ => ?_
        show D.int ((r.map D.int).length : Int) = D.int (r.length : Int)
        rw [List.length_map]
      · intro h
        have := List.map_eq_nil_iff.mp h
        rw [this] at i1
        cases i1
      · have e : m = ((boughtF L ns).length : Int) := by
          refine Int.le_antisymm ?_ (hmax _ (List.mem_map.mpr ⟨_, i1, rfl⟩))
          obtain ⟨r, hr, rfl⟩ := List.mem_map.mp hm
          have := (i2 r hr).1.le
          omega
        rw [e]
        exact q
theorem cutD_head {ns : List Int} {k : Int} (h : 0 ≤ k) : DL.cutD (ns.map D.int) none (some k) = (ns.take k.toNat).map D.int := by
  have h1 := cutI_head ns k h
  unfold cutI at h1
  unfold DL.cutD
  rw [List.length_map, ← List.map_drop, ← List.map_take, h1]
theorem rides_take {m k : Nat} {ns : List Int} (v : VRides m ns) : VRides m (ns.take k) :=
  ⟨by have := v.len; rw [List.length_take]; omega, fun x hx => v.rg x (List.mem_of_mem_take hx), v.asc.sublist (List.take_sublist _ _)⟩
end LAW

/-! Rs: many days. -/
namespace LAW
open PySem PySem.Spec PyProof.Rows L2 DL
variable [TabNames]
local macro_rules | `(tactic| walk_at "wp") => `(tactic| first | dsimp | skip)
theorem sumF_add (f : Nat → Int) (a : Nat) : ∀ b, sumF f (a + b) = sumF f a + sumF (fun i => f (a + i)) b
  | 0 => by show sumF f a = sumF f a + 0; omega
  | b + 1 => by
    show sumF f (a + b) + f (a + b) = sumF f a + (sumF (fun i => f (a + i)) b + f (a + b))
    rw [sumF_add f a b]
    omega
theorem sumF_congr {f g : Nat → Int} (h : ∀ i, f i = g i) (n : Nat) : sumF f n = sumF g n := by rw [funext h]
theorem sumF_le {f g : Nat → Int} (h : ∀ i, f i ≤ g i) : ∀ n, sumF f n ≤ sumF g n
  | 0 => Int.le_refl _
  | n + 1 => Int.add_le_add (sumF_le h n) (h n)
theorem sumF_const {f : Nat → Int} {c : Int} (h : ∀ i, f i = c) : ∀ n : Nat, sumF f n = n * c
  | 0 => by show (0 : Int) = ((0 : Nat) : Int) * c; rw [show ((0 : Nat) : Int) = 0 from rfl, Int.zero_mul]
  | n + 1 => by
    show sumF f n + f n = _
    rw [sumF_const h n, h n, show ((n + 1 : Nat) : Int) = (n : Int) + 1 by omega, Int.add_mul, Int.one_mul]
/-- f goes round after m -/
def Rnd (f : Nat → Int) (m : Nat) : Prop := ∀ i, f (m + i) = f i
theorem sumF_round {f : Nat → Int} {m : Nat} (h : Rnd f m) (n : Nat) : sumF f (m + n) = sumF f m + sumF f n := by
  rw [sumF_add, sumF_congr h]
theorem sumF_rounds {f : Nat → Int} {m : Nat} (h : Rnd f m) (r : Nat) : ∀ q : Nat, sumF f (m * q + r) = q * sumF f m + sumF f r
  | 0 => by rw [Nat.mul_zero, Nat.zero_add, show ((0 : Nat) : Int) = 0 from rfl, Int.zero_mul, Int.zero_add]
  | q + 1 => by
    rw [show m * (q + 1) + r = m + (m * q + r) by rw [Nat.mul_add, Nat.mul_one]; omega, sumF_round h, sumF_rounds h r q, show ((q + 1 : Nat) : Int) = (q : Int) + 1 by omega, Int.add_mul, Int.one_mul]
    omega
theorem begF_rg {s : Int} (hs : 1 ≤ s) (i : Nat) : 0 ≤ begF s i ∧ begF s i < s := ⟨Int.emod_nonneg _ (by omega), Int.emod_lt_of_pos _ (by omega)⟩
theorem begF_succ {s : Int} (i : Nat) : begF s (i + 1) = (begF s i - 1440) % s := by
  unfold begF
  rw [show (0 : Int) - 1440 * ((i + 1 : Nat) : Int) = (0 - 1440 * (i : Int)) - 1440 by omega, Int.sub_emod]
  conv => rhs; rw [Int.sub_emod, Int.emod_emod_of_dvd _ (Int.dvd_refl s)]
theorem begF_add {s : Int} {m : Nat} (h : begF s m = 0) (i : Nat) : begF s (m + i) = begF s i := by
  unfold begF at h ⊢
  rw [show (0 : Int) - 1440 * ((m + i : Nat) : Int) = (0 - 1440 * (m : Int)) + (0 - 1440 * (i : Int)) by omega, Int.add_emod, h, Int.zero_add, Int.emod_emod_of_dvd _ (Int.dvd_refl s)]
theorem begF_self {s : Int} (hs : 1 ≤ s) : begF s s.toNat = 0 := by
  unfold begF
  refine Int.emod_eq_zero_of_dvd ⟨-1440, ?_⟩
  rw [show (s.toNat : Int) = s by omega]
  omega
theorem dayF_round {R : Ru} {s : Int} {m : Nat} (h : begF s m = 0) : Rnd (dayF R s) m := fun i => by
  unfold dayF
  rw [begF_add h]
def dayL (R : Ru) (s : Int) (k : Nat) : List Int := (List.range k).map (dayF R s)
theorem dayL_len {R : Ru} {s : Int} {k : Nat} : (dayL R s k).length = k := by unfold dayL; rw [List.length_map, List.length_range]
theorem dayL_succ {R : Ru} {s : Int} {k : Nat} : dayL R s (k + 1) = dayL R s k ++ [dayF R s k] := by
  unfold dayL
  rw [List.range_succ, List.map_append]
  rfl
theorem dayL_sum {R : Ru} {s : Int} : ∀ k, (dayL R s k).sum = sumF (dayF R s) k
  | 0 => rfl
  | k + 1 => by
    rw [dayL_succ, List.sum_append, dayL_sum k]
    show _ + (dayF R s k + 0) = _ + dayF R s k
    rw [Int.add_zero]
theorem dayL_take {R : Ru} {s : Int} {j k : Nat} (h : j ≤ k) : (dayL R s k).take j = dayL R s j := by
  unfold dayL
  rw [← List.map_take, List.take_range, Nat.min_eq_left h]
theorem begF_0 {s : Int} : begF s 0 = 0 := by
  unfold begF
  exact Int.zero_emod _
theorem r_P_regular_days : ∀ ds n C Er, dsp_P_regular_days ds n C Er → d_P_regular_days { nx := fun _ n' => C (.dat .non) n', rt := C } (startD ds 7) n := by
  rintro ds n C Er ⟨R, s, d, rfl, ⟨v, s0, s1, d0, d1⟩, q⟩
  unfold d_P_regular_days
  refine seqR fun K1 hK1 => ?_
  walk_at "wp"
  refine s_check_rule v ?_
  walk_at "wp"
  refine hK1 _ _ ?_
  refine seqR fun K2 hK2 => ?_
  walk_at "wp"
  refine s_check_number ⟨s0, s1⟩ ?_
  walk_at "wp"
  refine hK2 _ _ ?_
  refine seqR fun K3 hK3 => ?_
  walk_at "wp"
  refine s_check_number ⟨d0, d1⟩ ?_
  walk_at "wp"
  refine hK3 _ _ ?_
  refine seqR fun K4 hK4 => ?_
  walk_at "wp"
  refine hK4 _ _ ?_
  refine seqR fun K5 hK5 => ?_
  refine while_i (fun mm δ N => N = n ∧ ∃ k : Nat, k ≤ s.toNat ∧ mm = s.toNat - k ∧ δ = [some (.dat R.d), some (.dat (.int s)), some (.dat (.int d)), some (.own ((dayL R s k).map D.int)), some (.dat (.int (begF s k))), none, none]) s.toNat
    ⟨rfl, 0, Nat.zero_le _, rfl, by rw [begF_0]; rfl⟩ ?_
  rintro mm δ N ⟨rfl, k, hk, rfl, rfl⟩ K6 KB hK6 hKB
  walk_at "wp"
  rw [eq_nil]
  walk_at "wp"
  have hb := begF_rg s0 k
  have go : k ≠ s.toNat → KB [some (.dat R.d), some (.dat (.int s)), some (.dat (.int d)), some (.own ((dayL R s k).map D.int)), some (.dat (.int (begF s k))), none, none] N := by
    intro hne
    refine hKB _ _ ?_
    refine seqR fun K7 hK7 => ?_
    walk_at "wp"
    refine s_cost_from ⟨v.p0, v.p1, v.t0, v.t1, by omega, s0, s1⟩ ?_
    walk_at "wp"
    refine ⟨by rw [List.length_map, dayL_len]; omega, ?_⟩
    refine hK7 _ _ ?_
    walk_at "wp"
    refine ⟨by omega, ?_⟩
    rw [← begF_succ]
    refine hK6 _ _ _ ?_ ⟨rfl, k + 1, by omega, rfl, ?_⟩
    · omega
    · rw [dayL_succ, List.map_append]
      rfl
  refine wif_d (fun h => ?_) fun h => ?_
  · refine go ?_
    have h2 := congrArg List.length h
    rw [dayL_len] at h2
    have : k = 0 := h2
    omega
  · refine wif_n (fun h2 => ?_) fun h2 => ?_
    · refine go fun e => h2 ?_
      rw [e]
      exact begF_self s0
    · have hk0 : k ≠ 0 := fun e => h (by rw [e]; rfl)
      refine hK5 _ _ ?_
      refine seqR fun K7 hK7 => ?_
      walk_at "wp"
      have e0 : begF s k = 0 := h2
      have hrnd := dayF_round (R := R) e0
      have hq0 : 0 ≤ d / (k : Int) := Int.ediv_nonneg d0 (by omega)
      have hq1 : d / (k : Int) ≤ d := Int.ediv_le_self _ d0
      have hr0 : 0 ≤ d % (k : Int) := Int.emod_nonneg _ (by omega)
      have hr1 : d % (k : Int) < k := Int.emod_lt_of_pos _ (by omega)
      rw [List.length_map, dayL_len]
      refine ⟨⟨by omega, by omega⟩, by omega, ?_⟩
      refine hK7 _ _ ?_
      walk_at "wp"
      refine ⟨dayL R s k, rfl, ?_⟩
      walk_at "wp"
      refine ⟨.inl (by omega), ?_⟩
      rw [cutD_head hr0]
      refine ⟨(dayL R s k).take (d % (k : Int)).toNat, rfl, ?_⟩
      rw [dayL_take (by omega), dayL_sum, dayL_sum]
      have hd : d.toNat = k * (d / (k : Int)).toNat + (d % (k : Int)).toNat := by
        have h3 := Int.mul_ediv_add_emod d (k : Int)
        have h4 : ((k * (d / (k : Int)).toNat : Nat) : Int) = (k : Int) * (d / (k : Int)) := by
          rw [Int.natCast_mul, Int.toNat_of_nonneg hq0]
        omega
      rw [hd, sumF_rounds hrnd, Int.toNat_of_nonneg hq0] at q
      exact q
theorem r_L_day : ∀ ds n C Er, dsp_L_day ds n C Er → d_L_day { nx := fun _ n' => C (.dat .non) n', rt := C } (startD ds 4) n := by
  rintro ds n C Er ⟨R, s, d, rfl, ⟨v, s0, s1, d0⟩, q⟩
  have t0 := v.t0
  have hr0 : 0 ≤ (1440 * d) % s := Int.emod_nonneg _ (by omega)
  have hr1 : (1440 * d) % s < s := Int.emod_lt_of_pos _ (by omega)
  have key : ∀ (K : DK) b, K (.dat (.int (dayF R s d.toNat))) n → b = begF s d.toNat → 0 ≤ b → b < s → dsp_L_cost [R.d, .lst (stepD b s (upN b 1440 s))] n K E00 := fun K b q hb b0 b1 => by
    rw [stepD_ints]
    have hlen : (stepI b s (upN b 1440 s)).length ≤ 2000 := by
      rw [stepI_len]
      have := upN_le (a := b) (b := 1440) (c := s) (by omega)
      omega
    refine s_lcost .lst hlen (fun x hx => (step_rg b0 (by omega) s0 hx).1) ⟨v.p0, v.p1⟩ ?_
    rw [step_cost t0 (by omega) s0, hb]
    exact q
  have hbeg : begF s d.toNat = if 0 - (1440 * d) % s < 0 then 0 - (1440 * d) % s + s else 0 - (1440 * d) % s := by
    unfold begF
    rw [Int.toNat_of_nonneg d0]
    have h1 : (0 - 1440 * d) % s = ((0 : Int) - (1440 * d) % s) % s := by
      rw [Int.sub_emod]
      conv => rhs; rw [Int.sub_emod, Int.emod_emod_of_dvd _ (Int.dvd_refl s)]
    rw [h1]
    split
    · rename_i h
      rw [← Int.add_mul_emod_self_left _ s 1, Int.mul_one, Int.emod_eq_of_lt (by omega) (by omega)]
    · rename_i h
      exact Int.emod_eq_of_lt (by omega) (by omega)
  unfold d_L_day
  refine seqR fun K1 hK1 => ?_
  walk_at "wp"
  refine ⟨.inl (by omega), by omega, ?_⟩
  refine hK1 _ _ ?_
  refine seqR fun K2 hK2 => ?_
  walk_at "wp"
  have fin : ∀ b, b = begF s d.toNat → 0 ≤ b → b < s → K2 [some (.dat R.d), some (.dat (.int s)), some (.dat (.int d)), some (.dat (.int b))] n := fun b hb b0 b1 => by
    refine hK2 _ _ ?_
    walk_at "wp"
    exact ⟨⟨by omega, by omega, by omega, by omega, by decide, by decide, by omega⟩, key _ b q hb b0 b1⟩
  refine wif_d (fun h => ?_) fun h => ?_
  · refine fin _ ?_ (by omega) (by omega)
    rw [hbeg, if_pos h]
  · refine fin _ ?_ (by omega) (by omega)
    rw [hbeg, if_neg h]
theorem r_L_far : ∀ ds n C Er, dsp_L_far ds n C Er → d_L_far { nx := fun _ n' => C (.dat .non) n', rt := C } (startD ds 4) n := by
  rintro ds n C Er ⟨m, rfl, ⟨m0, m1, hN⟩, q⟩
  unfold d_L_far
  refine seqR fun K1 hK1 => ?_
  walk_at "wp"
  refine hK1 _ _ ?_
  refine seqR fun K2 hK2 => ?_
  refine while_i (fun mm δ N => N + mm = n + 5 ∧ mm ≤ 5 ∧ ∃ (f u : Int), 0 ≤ f ∧ u < 1000 ^ mm ∧ δ = [some (.dat .bag), some (.dat (.int m)), some (.dat (.int f)), some (.dat (.int u))]) 5
    ⟨rfl, Nat.le_refl _, 0, m, by decide, by omega, rfl⟩ ?_
  rintro mm δ N ⟨hNm, hmm, f, u, hf, hu, rfl⟩ K3 KB hK3 hKB
  walk_at "wp"
  refine wif_d (fun hgt => ?_) fun hle => ?_
  · obtain ⟨m', rfl⟩ : ∃ m', mm = m' + 1 := by
      cases mm with
      | zero => simp at hu; omega
      | succ m' => exact ⟨m', rfl⟩
    refine hKB _ _ ?_
    walk_at "wp"
    refine ⟨.inl (by omega), ?_⟩
    refine s_take ⟨by decide, by decide, by omega⟩ fun a a0 a1 => ?_
    walk_at "wp"
    refine ⟨⟨by decide, by decide⟩, ?_⟩
    refine hK3 m' _ _ (by omega) ⟨by omega, by omega, _, _, ?_, ?_, rfl⟩
    · omega
    · rw [Int.pow_succ] at hu
      exact Int.ediv_lt_of_lt_mul (by decide) hu
  · refine hK2 _ _ ?_
    walk_at "wp"
    refine ⟨by omega, by omega, ?_⟩
    refine s_take ⟨by decide, by decide, by omega⟩ fun a a0 a1 => ?_
    have h1 : 0 ≤ f % m := Int.emod_nonneg _ (by omega)
    have h2 : f % m < m := Int.emod_lt_of_pos _ (by omega)
    walk_at "wp"
    refine four_of a0 a1 ?_ ?_ ?_ ?_
    · exact q _ _ h1 h2 (by omega) (by omega)
    · exact q _ _ (by decide) (by omega) (by omega) (by omega)
    · exact q _ _ (by omega) (by omega) (by omega) (by omega)
    · exact q _ _ h1 h2 (by omega) (by omega)
end LAW

/-! Rt: several days. -/
namespace LAW
open PySem PySem.Spec PyProof.Rows L2 DL
variable [TabNames]
local macro_rules | `(tactic| walk_at "wp") => `(tactic| first | dsimp | skip)
section
variable {N : Nat} {C : DK} {p t l : Int} {c : Option Int} {days : List (List Int)}
theorem s_total_cost (v : VRule p t c) (r : ∀ r ∈ days, VRides 60 r) (hl : days.length ≤ 1000) (h : C (.dat (.int (totalF p t c days))) N) : dsp_P_total_cost (ruleD p t c :: days.map ridesD) N C E00 :=
  ⟨Nat.le_add_left _ _, by rw [List.length_cons, List.length_map]; omega, p, t, c, days, rfl, ⟨v, r, hl⟩, h⟩
theorem s_week_cost (v : VRule p t c) (h0 : 0 ≤ l ∧ l ≤ 1000000) (r : ∀ r ∈ days, VRides 60 r) (hl : days.length ≤ 1000) (h : C (.dat (.int (min l (totalF p t c days)))) N) : dsp_P_week_cost (ruleD p t c :: .v (.int l) :: days.map ridesD) N C E00 :=
  ⟨Nat.le_add_left _ _, by rw [List.length_cons, List.length_cons, List.length_map]; omega, p, t, c, l, days, rfl, ⟨v, h0.1, h0.2, r, hl⟩, h⟩
end
def unR : D → List Int
  | .tup es => es.map fun e => match e with
    | .v (.int x) => x
    | _ => 0
  | _ => []
theorem unR_rides {r : List Int} : unR (ridesD r) = r := by
  show ((r.map D.int).map fun e => match e with
    | .v (.int x) => x
    | _ => 0) = r
  rw [List.map_map]
  exact List.map_id' r
theorem days_costs {p t : Int} {c : Option Int} {days : List (List Int)} : (days.map ridesD).map (fun d => D.int (costF p t c (unR d))) = (days.map (costF p t c)).map D.int := by
  rw [List.map_map, List.map_map]
  refine List.map_congr_left fun r _ => ?_
  show D.int (costF p t c (unR (ridesD r))) = _
  rw [unR_rides]
  rfl
theorem r_P_total_cost : ∀ ds n C Er, dspI_P_total_cost ds n C Er → d_P_total_cost { nx := fun _ n' => C (.dat .non) n', rt := C } (startD ds 3) n := by
  rintro ds n C Er ⟨p, t, c, days, rfl, ⟨v, r, hl⟩, q⟩
  unfold d_P_total_cost
  refine seqR fun R1 hR1 => ?_
  walk_at "wp"
  refine s_check_rule v ?_
  walk_at "wp"
  refine hR1 _ _ ?_
  refine seqR fun R2 hR2 => ?_
  refine for_i (days.map ridesD) (fun i δ N => N = n ∧ ∃ y2, δ = [some (.dat (ruleD p t c)), some (.dat (.tup (days.map ridesD))), y2]) (fun R hR => by walk_at "wp"; exact hR) ⟨rfl, none, rfl⟩ ?_ ?_
  · rintro i d δ N hi ⟨rfl, y2, rfl⟩ R3 hR3
    obtain ⟨x, hx, rfl⟩ := List.mem_map.mp (List.mem_of_getElem? hi)
    refine dgN ?_
    walk_at "wp"
    refine s_check_rides (r x hx) ?_
    walk_at "wp"
    exact hR3 _ _ ⟨rfl, _, rfl⟩
  · rintro δ N ⟨rfl, y2, rfl⟩
    refine hR2 _ _ ?_
    walk_at "wp"
    refine lc_p (days.map ridesD) (fun _ => true) (fun d => .int (costF p t c (unR d))) (fun R hR => by walk_at "wp"; exact hR) (by rw [List.length_map]; omega) (fun d hd K K' h1 h2 => ?_) ?_
    · obtain ⟨x, hx, rfl⟩ := List.mem_map.mp hd
      rw [unR_rides] at h1
      walk_at "wp"
      exact s_cost_of (d := .tup (x.map D.int)) .tup ⟨Nat.le_trans (r x hx).len (by decide), v.p0, v.p1⟩ (h1 rfl)
    · rw [filter_all, days_costs]
      walk_at "wp"
      exact ⟨days.map (costF p t c), rfl, q⟩
theorem r_P_week_cost : ∀ ds n C Er, dspI_P_week_cost ds n C Er → d_P_week_cost { nx := fun _ n' => C (.dat .non) n', rt := C } (startD ds 4) n := by
  rintro ds n C Er ⟨p, t, c, l, days, rfl, ⟨v, l0, l1, r, hl⟩, q⟩
  unfold d_P_week_cost
  refine seqR fun R1 hR1 => ?_
  walk_at "wp"
  refine s_check_rule v ?_
  walk_at "wp"
  refine hR1 _ _ ?_
  refine seqR fun R2 hR2 => ?_
  walk_at "wp"
  refine s_check_number ⟨l0, l1⟩ ?_
  walk_at "wp"
  refine hR2 _ _ ?_
  refine seqR fun R3 hR3 => ?_
  refine for_i (days.map ridesD) (fun i δ N => N = n ∧ ∃ y3, δ = [some (.dat (ruleD p t c)), some (.dat (.int l)), some (.dat (.tup (days.map ridesD))), y3]) (fun R hR => by walk_at "wp"; exact hR) ⟨rfl, none, rfl⟩ ?_ ?_
  · rintro i d δ N hi ⟨rfl, y2, rfl⟩ R4 hR4
    obtain ⟨x, hx, rfl⟩ := List.mem_map.mp (List.mem_of_getElem? hi)
    refine dgN ?_
    walk_at "wp"
    refine s_check_rides (r x hx) ?_
    walk_at "wp"
    exact hR4 _ _ ⟨rfl, _, rfl⟩
  · rintro δ N ⟨rfl, y2, rfl⟩
    refine hR3 _ _ ?_
    walk_at "wp"
    refine lc_p (days.map ridesD) (fun _ => true) (fun d => .int (costF p t c (unR d))) (fun R hR => by walk_at "wp"; exact hR) (by rw [List.length_map]; omega) (fun d hd K K' h1 h2 => ?_) ?_
    · obtain ⟨x, hx, rfl⟩ := List.mem_map.mp hd
      rw [unR_rides] at h1
      walk_at "wp"
      exact s_cost_of (d := .tup (x.map D.int)) .tup ⟨Nat.le_trans (r x hx).len (by decide), v.p0, v.p1⟩ (h1 rfl)
    · rw [filter_all, days_costs]
      walk_at "wp"
      refine ⟨days.map (costF p t c), rfl, ?_⟩
      walk_at "wp"
      exact q
end LAW

/-! Rv: menus. -/
namespace LAW
open PySem PySem.Spec PyProof.Rows L2 DL
variable [TabNames]
local macro_rules | `(tactic| walk_at "wp") => `(tactic| first | dsimp | skip)
section
variable {N : Nat} {C : DK} {M : List Ru} {days : List (List Int)}
theorem s_check_menu (v : VMenu M) (h : C (.dat .non) N) : dsp_P_check_menu [menuD M] N C E00 := ⟨M, rfl, v, h⟩
theorem s_needless (v : VMenu M) (h : C (.own ((needF M).map D.int)) N) : dsp_P_needless [menuD M] N C E00 := ⟨M, rfl, v, h⟩
theorem s_cheapest (v : VMenu M) (r : ∀ r ∈ days, VRides 60 r) (hl : days.length ≤ 1000) (h : ∀ (i : Nat) (R : Ru), M[i]? = some R → (∀ (j : Nat) (S : Ru), M[j]? = some S → totalF R.p R.t R.c days < totalF S.p S.t S.c days ∨ (totalF R.p R.t R.c days = totalF S.p S.t S.c days ∧ i ≤ j)) → C (.dat (.tup [.int (totalF R.p R.t R.c days), .int (i : Int)])) N) :
    dsp_P_cheapest (menuD M :: days.map ridesD) N C E00 :=
  ⟨Nat.le_add_left _ _, by rw [List.length_cons, List.length_map]; omega, M, days, rfl, ⟨v, r, hl⟩, h⟩
end
theorem l_P_check_menu : ∀ ds n C Er, dsp_P_check_menu ds n C Er → ds.length = 1 := by rintro ds n C Er ⟨_, rfl, _⟩; rfl
theorem l_P_needless : ∀ ds n C Er, dsp_P_needless ds n C Er → ds.length = 1 := by rintro ds n C Er ⟨_, rfl, _⟩; rfl
theorem r_P_check_menu : ∀ ds n C Er, dsp_P_check_menu ds n C Er → d_P_check_menu { nx := fun _ n' => C (.dat .non) n', rt := C } (startD ds 2) n := by
  rintro ds n C Er ⟨M, rfl, v, q⟩
  have l0 := v.l0
  have l1 := v.l1
  unfold d_P_check_menu
  walk_at "wp"
  rw [List.length_map]
  refine wif_t (decide_eq_true (by omega)) ?_
  refine wif_f (by rw [decide_eq_true (show (M.length : Int) ≤ 6 by omega)]; rfl) ?_
  refine lc_p (M.map Ru.d) (fun _ => true) (fun _ => .bl true) (fun K hK => by walk_at "wp"; exact hK) (by rw [List.length_map]; omega) (fun d hd K K' h1 h2 => ?_) ?_
  · obtain ⟨R, hR, rfl⟩ := List.mem_map.mp hd
    walk_at "wp"
    exact s_is_rule (v.ok R hR) (h1 rfl)
  · rw [filter_all, map_const]
    walk_at "wp"
    refine ⟨List.replicate (M.map Ru.d).length true, by rw [List.map_replicate], ?_⟩
    rw [all_true]
    walk_at "wp"
    exact q
theorem enum_menu {M : List Ru} {i : Nat} {d : D} (h : (enumFrom 0 (M.map Ru.d))[i]? = some d) : ∃ R, M[i]? = some R ∧ d = .tup [.int (i : Int), R.d] := by
  obtain ⟨e, he, rfl⟩ := enum_get h
  rw [List.getElem?_map] at he
  cases hm : M[i]? with
  | none => rw [hm] at he; cases he
  | some R =>
    rw [hm] at he
    cases he
    exact ⟨R, rfl, by rw [Nat.zero_add]⟩
theorem pair_ix {α β : Type} {f : Nat → α → β} {l : List α} {ks : List β} (h : ks = l.zipIdx.map fun x => f x.2 x.1) {i : Nat} {m : β} (hm : ks[i]? = some m) : ∃ a, l[i]? = some a ∧ m = f i a := by
  rw [h, List.getElem?_map, List.getElem?_zipIdx] at hm
  cases hl : l[i]? with
  | none => rw [hl] at hm; cases hm
  | some a =>
    rw [hl] at hm
    cases hm
    exact ⟨a, rfl, by rw [Nat.zero_add]⟩
theorem enum_zip {M : List Ru} : ∀ k, enumFrom k (M.map Ru.d) = (M.zipIdx k).map fun x => D.tup [.int (x.2 : Int), x.1.d] := by
  induction M with
  | nil => exact fun k => rfl
  | cons R M ih =>
    intro k
    show D.tup [.int (k : Int), R.d] :: enumFrom (k + 1) (M.map Ru.d) = _
    rw [ih (k + 1), List.zipIdx_cons]
    rfl
def unRu : D → Ru
  | .tup [.v (.int p), .v (.int t), .v (.int c)] => ⟨p, t, some c⟩
  | .tup [.v (.int p), .v (.int t), _] => ⟨p, t, none⟩
  | _ => ⟨0, 1, none⟩
theorem unRu_d {R : Ru} : unRu R.d = R := by
  obtain ⟨p, t, c⟩ := R
  cases c <;> rfl
theorem r_P_cheapest : ∀ ds n C Er, dspI_P_cheapest ds n C Er → d_P_cheapest { nx := fun _ n' => C (.dat .non) n', rt := C } (startD ds 5) n := by
  rintro ds n C Er ⟨M, days, rfl, ⟨v, r, hl⟩, q⟩
  have l0 := v.l0
  have l1 := v.l1
  unfold d_P_cheapest
  refine seqR fun R1 hR1 => ?_
  walk_at "wp"
  refine s_check_menu v ?_
  walk_at "wp"
  refine hR1 _ _ ?_
  refine seqR fun R2 hR2 => ?_
  refine for_i (days.map ridesD) (fun i δ N => N = n ∧ ∃ y2, δ = [some (.dat (menuD M)), some (.dat (.tup (days.map ridesD))), y2, none, none]) (fun R hR => by walk_at "wp"; exact hR) ⟨rfl, none, rfl⟩ ?_ ?_
  · rintro i d δ N hi ⟨rfl, y2, rfl⟩ R3 hR3
    obtain ⟨x, hx, rfl⟩ := List.mem_map.mp (List.mem_of_getElem? hi)
    refine dgN ?_
    walk_at "wp"
    refine s_check_rides (r x hx) ?_
    walk_at "wp"
    exact hR3 _ _ ⟨rfl, _, rfl⟩
  · rintro δ N ⟨rfl, y2, rfl⟩
    refine hR2 _ _ ?_
    walk_at "wp"
    refine lc_p (enumFrom 0 (M.map Ru.d)) (fun _ => true) (fun d => match d with | .tup [.v (.int i), e] => .tup [.int (totalF (unRu e).p (unRu e).t (unRu e).c days), .int i] | _ => .non) (fun K hK => by walk_at "wp"; exact hK) (by rw [enum_len, List.length_map]; omega) (fun d hd K K' h1 h2 => ?_) ?_
    · obtain ⟨i, hi⟩ := List.getElem?_of_mem hd
      obtain ⟨R, hR, rfl⟩ := enum_menu hi
      have vR := v.ok R (List.mem_of_getElem? hR)
      have h1' := h1 rfl
      dsimp only at h1'
      rw [unRu_d] at h1'
      refine dgT2 ?_
      walk_at "wp"
      refine lc_p (days.map ridesD) (fun _ => true) (fun d => .int (costF R.p R.t R.c (unR d))) (fun K hK => by walk_at "wp"; exact hK) (by rw [List.length_map]; omega) (fun d hd K2 K2' g1 g2 => ?_) ?_
      · obtain ⟨x, hx, rfl⟩ := List.mem_map.mp hd
        rw [unR_rides] at g1
        walk_at "wp"
        exact s_cost_of (d := .tup (x.map D.int)) .tup ⟨Nat.le_trans (r x hx).len (by decide), vR.p0, vR.p1⟩ (g1 rfl)
      · rw [filter_all, days_costs]
        walk_at "wp"
        exact ⟨days.map (costF R.p R.t R.c), rfl, h1'⟩
    · rw [filter_all]
      walk_at "wp"
      have eks : List.map (fun d => match d with | .tup [.v (.int i), e] => D.tup [.int (totalF (unRu e).p (unRu e).t (unRu e).c days), .int i] | _ => .non) (enumFrom 0 (M.map Ru.d)) = (M.zipIdx.map fun x => (totalF x.1.p x.1.t x.1.c days, (x.2 : Int))).map prDD := by
        rw [enum_zip, List.map_map, List.map_map]
        refine List.map_congr_left fun x _ => ?_
        show D.tup [.int (totalF (unRu x.1.d).p (unRu x.1.d).t (unRu x.1.d).c days), .int (x.2 : Int)] = D.tup [.int (totalF x.1.p x.1.t x.1.c days), .int (x.2 : Int)]
        rw [unRu_d]
      rw [eks]
      refine ⟨_, rfl, ?_, fun i m hm hmin => ?_⟩
      · intro h
        have := congrArg List.length h
        rw [List.length_map, List.length_zipIdx] at this
        have : M.length = 0 := this
        omega
      · obtain ⟨R, hR, rfl⟩ := pair_ix (f := fun i (R : Ru) => (totalF R.p R.t R.c days, (i : Int))) rfl hm
        refine q i R hR fun j S hS => ?_
        have hj : ((M.zipIdx.map fun x => (totalF x.1.p x.1.t x.1.c days, (x.2 : Int))) : List (Int × Int))[j]? = some (totalF S.p S.t S.c days, (j : Int)) := by
          rw [List.getElem?_map, List.getElem?_zipIdx, hS]
          show some (totalF S.p S.t S.c days, ((0 + j : Nat) : Int)) = _
          rw [Nat.zero_add]
        have h3 := hmin _ (List.mem_of_getElem? hj)
        unfold lePr at h3
        dsimp only at h3
        omega
theorem dom_at {M : List Ru} {a i : Nat} {A R : Ru} (ha : M[a]? = some A) (hi : M[i]? = some R) : domF M a i = (decide (a ≠ i) && (atmostF A R && (decide (a < i) || !atmostF R A))) := by
  unfold domF
  rw [ha, hi]
theorem need_iff {M : List Ru} {i : Nat} : needB M i = true ↔ ∃ a, a < M.length ∧ domF M a i = true := by
  unfold needB
  rw [List.any_eq_true]
  constructor
  · rintro ⟨a, h1, h2⟩
    exact ⟨a, List.mem_range.mp h1, h2⟩
  · rintro ⟨a, h1, h2⟩
    exact ⟨a, List.mem_range.mpr h1, h2⟩
theorem needF_mem {M : List Ru} {x : Int} : x ∈ needF M ↔ ∃ i : Nat, i < M.length ∧ x = i ∧ needB M i = true := by
  unfold needF
  rw [List.mem_map]
  constructor
  · rintro ⟨i, h, rfl⟩
    obtain ⟨h1, h2⟩ := List.mem_filter.mp h
    exact ⟨i, List.mem_range.mp h1, rfl, h2⟩
  · rintro ⟨i, h1, rfl, h2⟩
    exact ⟨i, List.mem_filter.mpr ⟨List.mem_range.mpr h1, h2⟩, rfl⟩
theorem needF_asc {M : List Ru} : (needF M).Pairwise (· < ·) := by
  unfold needF
  rw [List.pairwise_map]
  exact (List.pairwise_lt_range.sublist List.filter_sublist).imp fun h => by omega
theorem r_P_needless : ∀ ds n C Er, dsp_P_needless ds n C Er → d_P_needless { nx := fun _ n' => C (.dat .non) n', rt := C } (startD ds 6) n := by
  rintro ds n C Er ⟨M, rfl, v, q⟩
  have l0 := v.l0
  have l1 := v.l1
  unfold d_P_needless
  refine seqR fun R1 hR1 => ?_
  walk_at "wp"
  refine s_check_menu v ?_
  walk_at "wp"
  refine hR1 _ _ ?_
  refine seqR fun R2 hR2 => ?_
  walk_at "wp"
  refine hR2 _ _ ?_
  refine seqR fun R3 hR3 => ?_
  refine for_i (enumFrom 0 (M.map Ru.d)) (fun k δ N => N = n ∧ ∃ (fl : List Int) (y2 y3 y4 y5 : Option Sl), fl.length ≤ 6 * k ∧ (∀ x, x ∈ fl ↔ ∃ i : Nat, i < k ∧ x = i ∧ needB M i = true) ∧ δ = [some (.dat (menuD M)), some (.own (fl.map D.int)), y2, y3, y4, y5])
    (fun R hR => by walk_at "wp"; exact hR) ⟨rfl, [], none, none, none, none, Nat.zero_le _, (fun x => ⟨(fun h => by cases h), (fun ⟨i, h, _⟩ => absurd h (Nat.not_lt_zero i))⟩), rfl⟩ ?_ ?_
  · rintro k d δ N hk ⟨rfl, fl, y2, y3, y4, y5, hfl, hmem, rfl⟩ R4 hR4
    obtain ⟨R, hR, rfl⟩ := enum_menu hk
    have hkM := (List.getElem?_eq_some_iff.mp hR).1
    have vR := v.ok R (List.mem_of_getElem? hR)
    refine dgT2 ?_
    refine for_i (enumFrom 0 (M.map Ru.d)) (fun a δ N' => N' = N ∧ ∃ (gl : List Int) (y4 y5 : Option Sl), gl.length ≤ 6 * k + a ∧ (∀ x, x ∈ gl ↔ (∃ i : Nat, i < k ∧ x = i ∧ needB M i = true) ∨ (x = k ∧ ∃ b, b < a ∧ domF M b k = true)) ∧ δ = [some (.dat (menuD M)), some (.own (gl.map D.int)), some (.dat (.int (k : Int))), some (.dat R.d), y4, y5])
      (fun R hR => by walk_at "wp"; exact hR) ⟨rfl, fl, y4, y5, hfl, fun x => ⟨fun h => .inl ((hmem x).mp h), fun h => h.elim (hmem x).mpr fun ⟨_, b, hb, _⟩ => absurd hb (Nat.not_lt_zero b)⟩, rfl⟩ ?_ ?_
    · rintro a d δ N ha ⟨rfl, gl, y4, y5, hgl, hmem2, rfl⟩ R5 hR5
      obtain ⟨A, hA, rfl⟩ := enum_menu ha
      have haM := (List.getElem?_eq_some_iff.mp hA).1
      have vA := v.ok A (List.mem_of_getElem? hA)
      have hdom := dom_at hA hR
      refine dgT2 ?_
      have no : domF M a k = false → R5 [some (.dat (menuD M)), some (.own (gl.map D.int)), some (.dat (.int (k : Int))), some (.dat R.d), some (.dat (.int (a : Int))), some (.dat A.d)] N := fun hd =>
        hR5 _ _ ⟨rfl, gl, _, _, by omega, fun x => (hmem2 x).trans ⟨fun h => h.imp id fun ⟨e, b, hb, hb2⟩ => ⟨e, b, by omega, hb2⟩, fun h => h.imp id fun ⟨e, b, hb, hb2⟩ => ⟨e, b, by
          by_cases hba : b = a
          · rw [hba, hd] at hb2
            cases hb2
          · omega, hb2⟩⟩, rfl⟩
      have yes : domF M a k = true → ((gl.map D.int).length < 100000 ∧ R5 [some (.dat (menuD M)), some (.own (gl.map D.int ++ [D.int (k : Int)])), some (.dat (.int (k : Int))), some (.dat R.d), some (.dat (.int (a : Int))), some (.dat A.d)] N) := fun hd => by
        refine ⟨by rw [List.length_map]; omega, hR5 _ _ ⟨rfl, gl ++ [(k : Int)], _, _, by rw [List.length_append]; show _ + 1 ≤ _; omega, fun x => ?_, by rw [List.map_append]; rfl⟩⟩
        rw [List.mem_append, hmem2 x]
        constructor
        · rintro (h | h)
          · exact h.imp id fun ⟨e, b, hb, hb2⟩ => ⟨e, b, by omega, hb2⟩
          · exact .inr ⟨by simpa using h, a, Nat.lt_succ_self a, hd⟩
        · rintro (h | ⟨e, b, hb, hb2⟩)
          · exact .inl (.inl h)
          · exact .inr (by simpa using e)
      walk_at "wp"
      refine wif_n (fun hne => ?_) fun heq => no ?_
      · have hne' : a ≠ k := fun e => hne (by rw [e])
        rw [decide_eq_true hne', Bool.true_and] at hdom
        refine s_at_most vA vR ?_
        walk_at "wp"
        refine wif_2 (fun h1 => ?_) fun h1 => no ?_
        · have h1' : atmostF A R = true := h1
          rw [h1', Bool.true_and] at hdom
          refine wif_d (fun hlt => yes ?_) fun hge => ?_
          · rw [hdom, decide_eq_true (show a < k by omega)]
            rfl
          · rw [decide_eq_false (show ¬ a < k by omega), Bool.false_or] at hdom
            refine s_at_most vR vA ?_
            walk_at "wp"
            exact wif_2 (fun h2 => yes (hdom.trans h2)) fun h2 => no (hdom.trans h2)
        · have h1' : atmostF A R = false := h1
          rw [hdom, h1']
          rfl
      · rw [hdom, decide_eq_false (fun h => h (by omega))]
        rfl
    · rintro δ N ⟨rfl, gl, y4, y5, hgl, hmem2, rfl⟩
      rw [enum_len, List.length_map] at hgl hmem2
      refine hR4 _ _ ⟨rfl, gl, _, _, _, _, by omega, fun x => (hmem2 x).trans ?_, rfl⟩
      rw [← need_iff]
      constructor
      · rintro (⟨i, h1, h2⟩ | ⟨h1, h2⟩)
        · exact ⟨i, by omega, h2⟩
        · exact ⟨k, Nat.lt_succ_self k, h1, h2⟩
      · rintro ⟨i, h1, h2, h3⟩
        by_cases e : i = k
        · subst e
          exact .inr ⟨h2, h3⟩
        · exact .inl ⟨i, by omega, h2, h3⟩
  · rintro δ N ⟨rfl, fl, y2, y3, y4, y5, hfl, hmem, rfl⟩
    rw [enum_len, List.length_map] at hfl hmem
    refine hR3 _ _ ?_
    walk_at "wp"
    refine ⟨fl, rfl, by omega, fun ms hasc hm => ?_⟩
    rw [asc_same hasc needF_asc fun x => (hm x).trans ((hmem x).trans needF_mem.symm)]
    exact q
end LAW

namespace LAW
open PySem PySem.Spec PyProof.Rows L2 DL
variable [TabNames]
def d_law : DS := (dSeq (dFor (dSeqI (dCall E00 dsp_L_bags (dCons (dVar 0) (dCons (dC (.int 5)) dNil)))) (dgName 1) (dSeq (dAsgT (dgTup 3 (dgCons (dgName 2) (dgCons (dgName 3) (dgCons (dgName 4) dgNil)))) (dCall E00 dsp_L_rule (dCons (dVar 1) dNil)))
  (dSeq (dAsg false 5 (dCall E00 dsp_L_rides (dCons (dVar 1) (dCons (dC (.int 12)) (dCons (dTup (dCons (dVar 2) (dCons (dVar 3) (dCons (dVar 4) dNil)))) dNil)))))
  (dSeq (dAsg false 6 (dLc (dRng2 (dCons (dC (.int 1)) (dCons (dC (.int 1441)) dNil))) (dgName 10) dYes (dCall E00 dsp_L_cost (dCons (dTup (dCons (dVar 2) (dCons (dVar 10) (dCons (dVar 4) dNil)))) (dCons (dVar 5) dNil))) [10]))
  (dSeq (dIf (dTest (dOp (dEq true) (dVar 6) (dRevL (dCB dSort (dCons (dVar 6) dNil))))) (dRet (dC (.bl false))) dNext)
  (dFor (dSeqI (dTup (dCons (dOp dIx (dVar 6) (dC (.int 0))) (dCons (dOp dIx (dVar 6) (dNeg (dC (.int 1)))) (dCons (dOp dIx (dVar 6) (dOp dSub (dVar 3) (dC (.int 1)))) (dCons (dOp dAdd (dOp dIx (dVar 6) (dOp dSub (dVar 3) (dC (.int 1)))) (dC (.int 1))) (dCons (dCall E00 dsp_L_take (dCons (dVar 1) (dCons (dC (.int 40)) dNil))) dNil))))))) (dgName 7) (dSeq (dAsg false 8 (dLc (dEnum (dCons (dVar 6) dNil)) (dgTup 2 (dgCons (dgName 11) (dgCons (dgName 12) dgNil))) (dTest (dOp (dEq false) (dVar 12) (dVar 7))) (dOp dAdd (dVar 11) (dC (.int 1))) [11, 12]))
  (dSeq (dAsg false 9 (dIfE (dTest (dOp (dEq true) (dVar 8) (dLst dNil))) (dTup (dCons (dOp dIx (dVar 8) (dC (.int 0))) (dCons (dOp dIx (dVar 8) (dNeg (dC (.int 1)))) dNil))) (dC .non)))
  (dSeq (dIf (dNot (dTest (dCall E00 dsp_L_same (dCons (dCall E00 dsp_P_lengths_for (dCons (dVar 2) (dCons (dVar 4) (dCons (dVar 5) (dCons (dVar 7) dNil))))) (dCons (dVar 9) dNil))))) (dRet (dC (.bl false))) dNext)
  (dIf (dAnd (dTest (dOp (dEq true) (dVar 8) (dLst dNil))) (dTest (dOp (dEq true) (dCB dLen (dCons (dVar 8) dNil)) (dOp dAdd (dOp dSub (dOp dIx (dVar 8) (dNeg (dC (.int 1)))) (dOp dIx (dVar 8) (dC (.int 0)))) (dC (.int 1)))))) (dRet (dC (.bl false))) dNext))))))))))
  (dRet (dAndV (dOp (dEq false) (dCall E00 dsp_P_lengths_for (dCons (dC (.int 3)) (dCons (dC .non) (dCons (dTup (dCons (dC (.int 0)) (dCons (dC (.int 20)) (dCons (dC (.int 50)) dNil)))) (dCons (dC (.int 6)) dNil))))) (dTup (dCons (dC (.int 21)) (dCons (dC (.int 50)) dNil)))) (dOp (dEq false) (dCall E00 dsp_P_lengths_for (dCons (dC (.int 3)) (dCons (dC .non) (dCons (dTup dNil) (dCons (dC (.int 0)) dNil))))) (dTup (dCons (dC (.int 1)) (dCons (dC (.int 1440)) dNil)))))))
end LAW

/-! R17: the law. -/
namespace LAW
open PySem PySem.Spec PyProof.Rows L2 DL
variable [TabNames]
local macro_rules | `(tactic| walk_at "wp") => `(tactic| first | dsimp | skip)
/-! ### what falls is sorted backwards; equal values stand together -/
theorem rev_srt {l : List Int} (h : l.Pairwise (fun a b => b ≤ a)) : (srt l).reverse = l := by
  have h1 : l.reverse = srt l := srt_uniq (List.reverse_perm l) (List.pairwise_reverse.mpr h)
  rw [← h1, List.reverse_reverse]
theorem asc_eq : ∀ {l m : List Int}, l.Pairwise (· < ·) → m.Pairwise (· < ·) → (∀ x, x ∈ l ↔ x ∈ m) → l = m
  | [], [], _, _, _ => rfl
  | [], y :: m, _, _, h => absurd ((h y).mpr List.mem_cons_self) (by simp)
  | x :: l, [], _, _, h => absurd ((h x).mp List.mem_cons_self) (by simp)
  | x :: l, y :: m, h1, h2, h => by
    have a1 := List.pairwise_cons.mp h1
    have a2 := List.pairwise_cons.mp h2
    have e : x = y := by
      rcases List.mem_cons.mp ((h x).mp List.mem_cons_self) with e | m1
      · exact e
      · rcases List.mem_cons.mp ((h y).mpr List.mem_cons_self) with e | m2
        · exact e.symm
        · have := a1.1 y m2
          have := a2.1 x m1
          omega
    subst e
    rw [asc_eq a1.2 a2.2 fun z => ?_]
    constructor
    · intro hz
      rcases List.mem_cons.mp ((h z).mp (List.mem_cons_of_mem _ hz)) with e | hz'
      · have := a1.1 z hz
        omega
      · exact hz'
    · intro hz
      rcases List.mem_cons.mp ((h z).mpr (List.mem_cons_of_mem _ hz)) with e | hz'
      · have := a2.1 z hz
        omega
      · exact hz'
def stretch (a : Int) (n : Nat) : List Int := (List.range n).map fun i : Nat => a + (i : Int)
theorem stretch_mem {a x : Int} {n : Nat} : x ∈ stretch a n ↔ a ≤ x ∧ x < a + n := by
  unfold stretch
  rw [List.mem_map]
  constructor
  · rintro ⟨i, hi, rfl⟩
    have := List.mem_range.mp hi
    omega
  · rintro ⟨h0, h1⟩
    exact ⟨(x - a).toNat, List.mem_range.mpr (by omega), by omega⟩
theorem stretch_asc {a : Int} {n : Nat} : (stretch a n).Pairwise (· < ·) := by
  unfold stretch
  rw [List.pairwise_map]
  exact List.pairwise_lt_range.imp fun h => by omega
/-- the lengths with which a falling cost has one value stand next to each other -/
theorem level_len {f : Int → Int} {v x : Int} {r : List Int} (hf : ∀ a b, 1 ≤ a → a ≤ b → b ≤ 1440 → f b ≤ f a) (h : lensI.filter (fun L => decide (f L = v)) = x :: r) :
    ((x :: r).length : Int) = (x :: r).getLast (List.cons_ne_nil _ _) - x + 1 := by
  have ha : (x :: r).Pairwise (· < ·) := by rw [← h]; exact lens_asc.filter _
  have hm : ∀ y, y ∈ x :: r ↔ (1 ≤ y ∧ y ≤ 1440) ∧ f y = v := fun y => by
    rw [← h, List.mem_filter, lens_mem]
    simp
  have h1 := (hm x).mp List.mem_cons_self
  have h2 := (hm _).mp (List.getLast_mem (List.cons_ne_nil x r))
  have hxl := asc_head ha (List.getLast_mem (List.cons_ne_nil x r))
  generalize hl : (x :: r).getLast (List.cons_ne_nil _ _) = l at *
  have e : x :: r = stretch x (l - x + 1).toNat := by
    refine asc_eq ha stretch_asc fun y => ?_
    rw [hm, stretch_mem]
    constructor
    · rintro ⟨hy, hv⟩
      have hin := (hm y).mpr ⟨hy, hv⟩
      have g1 := asc_head ha hin
      have g2 := asc_last ha hin (List.cons_ne_nil _ _)
      rw [hl] at g2
      omega
    · rintro ⟨g1, g2⟩
      have k1 := hf x y h1.1.1 g1 (by omega)
      have k2 := hf y l (by omega) (by omega) h2.1.2
      exact ⟨by omega, by omega⟩
  rw [e]
  unfold stretch
  rw [List.length_map, List.length_range]
  omega
theorem enum_pick (g : Nat → Int) (v : Int) (q : D → Bool) (f : D → D) (hq : ∀ i y, q (.tup [.int i, .int y]) = decide (y = v)) (hf : ∀ i y, f (.tup [.int i, y]) = .int (i + 1)) : ∀ (k n : Nat), ((enumFrom n ((List.range' n k).map fun i => D.int (g i))).filter q).map f = ((List.range' n k).filter fun i => decide (g i = v)).map fun i : Nat => D.int ((i : Int) + 1)
  | 0, n => rfl
  | k + 1, n => by
    rw [List.range'_succ, List.map_cons]
    show (List.filter q (D.tup [.int (n : Int), D.int (g n)] :: enumFrom (n + 1) _)).map f = _
    rw [List.filter_cons, List.filter_cons, hq]
    have ih := enum_pick g v q f hq hf k (n + 1)
    by_cases h : g n = v
    · rw [if_pos (decide_eq_true h), if_pos (decide_eq_true h), List.map_cons, List.map_cons, ih, hf]
    · rw [if_neg (by simpa using h), if_neg (by simpa using h), ih]
def sumsF (p : Int) (c : Option Int) (rs : List Int) : List Int := lensI.map fun L => costF p L c rs
theorem sums_len {p : Int} {c : Option Int} {rs : List Int} : (sumsF p c rs).length = 1440 := by unfold sumsF; rw [List.length_map, lens_len]
theorem sums_get {p i : Int} {c : Option Int} {rs : List Int} (h0 : 0 ≤ i) (h1 : i < 1440) : (sumsF p c rs)[i.toNat]? = some (costF p (1 + i) c rs) := by
  unfold sumsF lensI
  rw [List.map_map, List.getElem?_map, List.getElem?_range (by omega)]
  show some (costF p (1 + (i.toNat : Int)) c rs) = _
  rw [Int.toNat_of_nonneg h0]
theorem sums_at {p i : Int} {c : Option Int} {rs : List Int} (h0 : 0 ≤ i) (h1 : i < 1440) : atI ((sumsF p c rs).map D.int) i = some (D.int (costF p (1 + i) c rs)) := atI_int h0 (sums_get h0 h1)
theorem sums_last {p : Int} {c : Option Int} {rs : List Int} : atI ((sumsF p c rs).map D.int) (-1) = some (D.int (costF p 1440 c rs)) := by
  refine atI_last ?_
  rw [List.getLast?_eq_getElem?, sums_len]
  exact sums_get (i := 1439) (by decide) (by decide)
theorem sums_fall {p : Int} {c : Option Int} {m : Nat} {rs : List Int} (hp : 0 ≤ p) (v : VRides m rs) : (sumsF p c rs).Pairwise (fun a b => b ≤ a) := by
  unfold sumsF
  rw [List.pairwise_map]
  exact lens_asc.imp fun h => cost_anti hp (Int.le_of_lt h) v
theorem sums_pick {p v : Int} {c : Option Int} {rs : List Int} (q : D → Bool) (f : D → D) (hq : ∀ i y, q (.tup [.int i, .int y]) = decide (y = v)) (hf : ∀ i y, f (.tup [.int i, y]) = .int (i + 1)) :
    ((enumFrom 0 ((sumsF p c rs).map D.int)).filter q).map f = (lensF p c rs v).map D.int := by
  have e : (sumsF p c rs).map D.int = (List.range' 0 1440).map fun i : Nat => D.int (costF p (1 + (i : Int)) c rs) := by
    unfold sumsF lensI
    rw [List.map_map, List.map_map, List.range_eq_range']
    rfl
  rw [e, enum_pick (fun i => costF p (1 + (i : Int)) c rs) v q f hq hf]
  unfold lensF lensI
  rw [List.filter_map, List.map_map, List.range_eq_range']
  refine List.map_congr_left fun i _ => ?_
  show D.int ((i : Int) + 1) = D.int (1 + (i : Int))
  rw [Int.add_comm]
theorem span_stretch {a : Int} {n : Nat} : spanD (stretch a (n + 1)) = .tup [.int a, .int (a + n)] := by
  have hg : ∀ i : Nat, i < n + 1 → (stretch a (n + 1))[i]? = some (a + (i : Int)) := fun i hi => by
    unfold stretch
    rw [List.getElem?_map, List.getElem?_range hi]
    rfl
  have hn : (stretch a (n + 1)).length = n + 1 := by unfold stretch; rw [List.length_map, List.length_range]
  have h0 := hg 0 (by omega)
  have h1 : (stretch a (n + 1)).getLast? = some (a + (n : Int)) := by
    rw [List.getLast?_eq_getElem?, hn]
    exact hg n (by omega)
  cases h : stretch a (n + 1) with
  | nil => rw [h] at hn; cases hn
  | cons x r =>
    rw [h] at h0 h1
    have e0 : x = a := by simpa using h0
    rw [List.getLast?_eq_some_getLast (List.cons_ne_nil _ _)] at h1
    have e1 := Option.some.inj h1
    show D.tup [.int x, .int _] = _
    rw [e1, e0]
theorem r_law : ∀ ds n C Er, dsp_law ds n C Er → d_law { nx := fun _ n' => C (.dat .non) n', rt := C } (startD ds 13) n := by
  rintro ds n C Er ⟨ns, rfl, ⟨hl, rfl⟩, q⟩
  have hlim : LIM = 1152921504606846976 := rfl
  unfold d_law
  refine seqR fun R1 hR1 => ?_
  refine for_w fun Rf hRf => ?_
  walk_at "wp"
  refine s_bags ⟨by decide, by decide, by decide, hl⟩ fun m hm => ?_
  walk_at "wp"
  refine hRf _ _ (inv_i (fun i δ N => 20000 ≤ N ∧ N ≤ 20000 + 300 * i ∧ ∃ y1 y2 y3 y4 y5 y6 y7 y8 y9 y10 y11 y12, δ = [some (Sl.dat (.scr ns)), y1, y2, y3, y4, y5, y6, y7, y8, y9, y10, y11, y12])
    ⟨Nat.le_refl _, by omega, none, none, none, none, none, none, none, none, none, none, none, none, rfl⟩ ?_ ?_)
  · rintro i d δ N hi ⟨hN1, hN2, y1, y2, y3, y4, y5, y6, y7, y8, y9, y10, y11, y12, rfl⟩ RR hRR
    have hi' := (List.getElem?_eq_some_iff.mp hi).1
    rw [List.length_replicate] at hi'
    have hd : d = .bag := (List.mem_replicate.mp (List.mem_of_getElem? hi)).2
    subst hd
    refine dgN ?_
    refine seqR fun R2 hR2 => ?_
    walk_at "wp"
    refine s_rule (by omega) fun p t c N1 v hN3 hN4 => ?_
    simp only [ruleD]
    walk_at "wp"
    refine hR2 _ _ ?_
    have vt0 := v.t0
    have vt1 := v.t1
    have v1 : VRule p 1 c := ⟨v.p0, v.p1, by decide, by decide, v.c0⟩
    refine seqR fun R3 hR3 => ?_
    walk_at "wp"
    refine s_rides (p := p) (t := t) (c := c) ⟨by decide, by decide, v.t0, v.t1, by omega⟩ fun rs N2 vr hN5 hN6 => ?_
    have vr' : VRides 12 rs := vr
    have rl := vr'.len
    have r60 : VRides 60 rs := vr'.mono (by decide)
    walk_at "wp"
    refine hR3 _ _ ?_
    refine seqR fun R4 hR4 => ?_
    walk_at "wp"
    refine lc_p (lensI.map D.int) (fun _ => true) (fun d => match d with | .v (.int x) => .int (costF p x c rs) | _ => .non) (fun R hR => ?_) (by rw [List.length_map, lens_len]; decide) (fun d hd K K' h1 h2 => ?_) ?_
    · walk_at "wp"
      refine ⟨⟨by decide, by decide, by decide, by decide⟩, ?_⟩
      rw [lens_rng]
      exact hR
    · obtain ⟨x, hx, rfl⟩ := List.mem_map.mp hd
      walk_at "wp"
      refine s_lcost (p := p) (t := x) (c := c) (ns := rs) .tup (by omega) (fun z hz => (vr'.rg z hz).1) ⟨v.p0, v.p1⟩ ?_
      walk_at "wp"
      exact h1 rfl
    rw [filter_all, List.map_map]
    have epr : List.map ((fun d => match d with | .v (.int x) => D.int (costF p x c rs) | _ => D.non) ∘ D.int) lensI = (sumsF p c rs).map D.int := by
      unfold sumsF
      rw [List.map_map]
      rfl
    walk_at "wp"
    rw [epr]
    refine hR4 _ _ ?_
    refine seqR fun R5 hR5 => ?_
    walk_at "wp"
    refine sort_lst ?_
    walk_at "wp"
    rw [← List.map_reverse, rev_srt (sums_fall v.p0 vr'), eq_lists]
    walk_at "wp"
    refine wif_f (by simp [ng]) ?_
    refine hR5 _ _ ?_
    have bd : ∀ L, 0 ≤ costF p L c rs ∧ costF p L c rs ≤ 12000 := fun L => cost_le v vr'
    refine for_w fun Rg hRg => ?_
    walk_at "wp"
    simp only [dIx, D.items, sums_at (p := p) (c := c) (rs := rs) (i := 0) (by decide) (by decide), sums_last, sums_at (p := p) (c := c) (rs := rs) (i := t - 1) (by omega) (by omega)]
    walk_at "wp"
    refine s_take ⟨by decide, by decide, by omega⟩ fun b b0 b1 => ?_
    walk_at "wp"
    have hpd : ∀ x ∈ [costF p 1 c rs, costF p 1440 c rs, costF p (1 + (t - 1)) c rs, costF p (1 + (t - 1)) c rs + 1, b], 0 ≤ x ∧ x ≤ 10000000 := by
      intro x hx
      have g1 := bd 1
      have g2 := bd 1440
      have g3 := bd (1 + (t - 1))
      simp only [List.mem_cons, List.not_mem_nil, or_false] at hx
      omega
    refine hRg ([costF p 1 c rs, costF p 1440 c rs, costF p (1 + (t - 1)) c rs, costF p (1 + (t - 1)) c rs + 1, b].map D.int) _ (inv_i (fun j δ M => M = N2 + 1 ∧ ∃ y7 y8 y9 y10 y11 y12, δ = [some (Sl.dat (.scr ns)), some (.dat .bag), some (.dat (.int p)), some (.dat (.int t)), some (.dat (capD c)), some (.dat (ridesD rs)), some (.dat (.lst ((sumsF p c rs).map D.int))), y7, y8, y9, y10, y11, y12])
      ⟨rfl, _, _, _, _, _, _, rfl⟩ ?_ ?_)
    · rintro j e δ M hj ⟨rfl, y7, y8, y9, y10, y11, y12, rfl⟩ R6 hR6
      obtain ⟨x, hx, rfl⟩ := List.mem_map.mp (List.mem_of_getElem? hj)
      have hx' := hpd x hx
      refine dgN ?_
      refine seqR fun R7 hR7 => ?_
      walk_at "wp"
      refine lc_p (enumFrom 0 ((sumsF p c rs).map D.int)) (fun d => match d with | .tup [_, .v (.int y)] => decide (y = x) | _ => false) (fun d => match d with | .tup [.v (.int i), _] => .int (i + 1) | _ => .non) (fun R hR => ?_) (by rw [enum_len, List.length_map, sums_len]; decide) (fun d hd K K' h1 h2 => ?_) ?_
      · walk_at "wp"
        exact hR
      · obtain ⟨i, hi⟩ := List.getElem?_of_mem hd
        obtain ⟨e, he, rfl⟩ := enum_get hi
        obtain ⟨y, hy, rfl⟩ := get_ints he
        walk_at "wp"
        refine wif_d (fun e => ?_) fun e => ?_
        · exact h1 (decide_eq_true e)
        · exact h2 (decide_eq_false e)
      rw [sums_pick (v := x) _ _ (fun _ _ => rfl) (fun _ _ => rfl)]
      walk_at "wp"
      refine hR7 _ _ ?_
      refine seqR fun R8 hR8 => ?_
      unfold dAsg
      refine span_of (xs := lensF p c rs x) rfl ?_
      walk_at "wp"
      refine hR8 _ _ ?_
      refine seqR fun R9 hR9 => ?_
      walk_at "wp"
      refine s_lengths_for v1 r60 hx' ?_
      walk_at "wp"
      refine s_same ⟨oz_span _, oz_span _⟩ ?_
      rw [same_span]
      walk_at "wp"
      refine hR9 _ _ ?_
      have fin : R6 [some (Sl.dat (.scr ns)), some (.dat .bag), some (.dat (.int p)), some (.dat (.int t)), some (.dat (capD c)), some (.dat (ridesD rs)), some (.dat (.lst ((sumsF p c rs).map D.int))), some (.dat (.int x)), some (.dat (.lst ((lensF p c rs x).map D.int))), some (.dat (spanD (lensF p c rs x))), y10, y11, y12] (N2 + 1) :=
        hR6 _ _ ⟨rfl, _, _, _, _, _, _, rfl⟩
      walk_at "wp"
      rw [eq_nil]
      walk_at "wp"
      cases hxr : lensF p c rs x with
      | nil =>
        rw [hxr] at fin
        refine wif_f rfl ?_
        exact fin
      | cons z r =>
        have hlv := level_len (f := fun L => costF p L c rs) (fun a b _ hab _ => cost_anti v.p0 hab vr') hxr
        rw [hxr] at fin
        refine wif_t (by simp [ng]) ?_
        have g1 : atI ((z :: r).map D.int) 0 = some (D.int z) := atI_int (by decide) rfl
        have g2 : atI ((z :: r).map D.int) (-1) = some (D.int ((z :: r).getLast (List.cons_ne_nil _ _))) := atI_last (List.getLast?_eq_some_getLast _)
        simp only [dIx, D.items, g1, g2]
        walk_at "wp"
        refine wif_f ?_ fin
        have g3 : (((List.map D.int (z :: r)).length : Nat) : Int) = (z :: r).getLast (List.cons_ne_nil _ _) - z + 1 := by rw [List.length_map]; exact hlv
        have g4 := decide_eq_true g3
        exact congrArg (fun b => !b) g4
    · rintro δ M ⟨rfl, y7, y8, y9, y10, y11, y12, rfl⟩
      exact hRR _ _ ⟨by omega, by omega, _, _, _, _, _, _, _, _, _, _, _, _, rfl⟩
  · rintro δ N ⟨hN1, hN2, y1, y2, y3, y4, y5, y6, y7, y8, y9, y10, y11, y12, rfl⟩
    refine hR1 _ _ ?_
    walk_at "wp"
    have v : VRule 3 1 none := ⟨by decide, by decide, by decide, by decide, fun x h => by cases h⟩
    refine s_lengths_for (p := 3) (c := none) (ns := [0, 20, 50]) (paid := 6) v ⟨by decide, by decide, by decide⟩ ⟨by decide, by decide⟩ ?_
    have e1 : lensF 3 none [0, 20, 50] 6 = stretch 21 30 := by decide +kernel
    have e2 : spanD (stretch 21 30) = .tup [.v (.int 21), .v (.int 50)] := rfl
    have e5 : ∀ k, dEq false (.tup [.v (.int 21), .v (.int 50)]) (.tup [.v (.int 21), .v (.int 50)]) k = k (.dat (.bl (ng false (decide ([(21 : Int), 50] = [21, 50]))))) := fun k => eq_tups (ns := [21, 50]) (ms := [21, 50])
    rw [e1, e2]
    walk_at "wp"
    rw [e5]
    walk_at "wp"
    refine wif_t (by decide) ?_
    refine s_lengths_for (p := 3) (c := none) (ns := []) (paid := 0) v ⟨by decide, by decide, by decide⟩ ⟨by decide, by decide⟩ ?_
    have e3 : lensF 3 none [] 0 = stretch 1 1440 := by decide +kernel
    have e4 : spanD (stretch 1 1440) = .tup [.v (.int 1), .v (.int 1440)] := span_stretch (a := 1) (n := 1439)
    rw [e3, e4]
    walk_at "wp"
    exact q _
end LAW

namespace LAW
open PySem PySem.Spec PyProof.Rows L2 DL
variable [TabNames]
/-! ### the text, by gen.py -/
def topS (i : Nat) : Stmt := PySem.Challenge.pw_ridetickets_k17_whole_lengths_from_what.main.body.getD i (.Pass ⟨0, 0, 0, 0⟩)
abbrev s_P_in_range : Stmt := topS 10
abbrev names_P_in_range : List Str := ["value", "low", "high"]
theorem sc_P_in_range : FnScope names_P_in_range ["value", "low", "high"] (defScope s_P_in_range) := ⟨rfl, rfl, rfl, by decide +kernel, rfl, by decide +kernel, by decide +kernel⟩
abbrev s_P_is_rule : Stmt := topS 11
abbrev names_P_is_rule : List Str := ["value"]
theorem sc_P_is_rule : FnScope names_P_is_rule ["value"] (defScope s_P_is_rule) := ⟨rfl, rfl, rfl, by decide +kernel, rfl, by decide +kernel, by decide +kernel⟩
abbrev s_P_is_rides : Stmt := topS 12
abbrev names_P_is_rides : List Str := ["value", "tick", "later"]
theorem sc_P_is_rides : FnScope names_P_is_rides ["value"] (defScope s_P_is_rides) := ⟨rfl, rfl, rfl, by decide +kernel, rfl, by decide +kernel, by decide +kernel⟩
abbrev s_P_check_rides : Stmt := topS 13
abbrev names_P_check_rides : List Str := ["value"]
theorem sc_P_check_rides : FnScope names_P_check_rides ["value"] (defScope s_P_check_rides) := ⟨rfl, rfl, rfl, by decide +kernel, rfl, by decide +kernel, by decide +kernel⟩
abbrev s_P_check_number : Stmt := topS 14
abbrev names_P_check_number : List Str := ["value", "low", "high"]
theorem sc_P_check_number : FnScope names_P_check_number ["value", "low", "high"] (defScope s_P_check_number) := ⟨rfl, rfl, rfl, by decide +kernel, rfl, by decide +kernel, by decide +kernel⟩
abbrev s_P_bought_of : Stmt := topS 15
abbrev names_P_bought_of : List Str := ["length", "rides", "found", "tick"]
theorem sc_P_bought_of : FnScope names_P_bought_of ["length", "rides"] (defScope s_P_bought_of) := ⟨rfl, rfl, rfl, by decide +kernel, rfl, by decide +kernel, by decide +kernel⟩
abbrev s_P_money : Stmt := topS 16
abbrev names_P_money : List Str := ["rule", "count", "price", "length", "cap"]
theorem sc_P_money : FnScope names_P_money ["rule", "count"] (defScope s_P_money) := ⟨rfl, rfl, rfl, by decide +kernel, rfl, by decide +kernel, by decide +kernel⟩
abbrev s_P_cost_of : Stmt := topS 17
abbrev names_P_cost_of : List Str := ["rule", "rides"]
theorem sc_P_cost_of : FnScope names_P_cost_of ["rule", "rides"] (defScope s_P_cost_of) := ⟨rfl, rfl, rfl, by decide +kernel, rfl, by decide +kernel, by decide +kernel⟩
abbrev s_P_lengths_for : Stmt := topS 20
abbrev names_P_lengths_for : List Str := ["price", "cap", "rides", "paid", "good", "length"]
theorem sc_P_lengths_for : FnScope names_P_lengths_for ["price", "cap", "rides", "paid"] (defScope s_P_lengths_for) := ⟨rfl, rfl, rfl, by decide +kernel, rfl, by decide +kernel, by decide +kernel⟩
abbrev s_L_well : Stmt := topS 22
abbrev names_L_well : List Str := ["_law_cell", "_law_turn"]
theorem sc_L_well : FnScope names_L_well ["_law_cell", "_law_turn"] (defScope s_L_well) := ⟨rfl, rfl, rfl, by decide +kernel, rfl, by decide +kernel, by decide +kernel⟩
abbrev s_L_take : Stmt := topS 23
abbrev names_L_take : List Str := ["_law_bag", "_law_many", "_law_found", "_law_p", "_law_n"]
theorem sc_L_take : FnScope names_L_take ["_law_bag", "_law_many"] (defScope s_L_take) := ⟨rfl, rfl, rfl, by decide +kernel, rfl, by decide +kernel, by decide +kernel⟩
abbrev s_L_bags : Stmt := topS 24
abbrev names_L_bags : List Str := ["_law_script", "_law_most", "_law_k", "_law_cell"]
theorem sc_L_bags : FnScope names_L_bags ["_law_script", "_law_most"] (defScope s_L_bags) := ⟨rfl, rfl, rfl, by decide +kernel, rfl, by decide +kernel, by decide +kernel⟩
abbrev s_L_same : Stmt := topS 25
abbrev names_L_same : List Str := ["_law_a", "_law_b", "_law_x", "_law_y"]
theorem sc_L_same : FnScope names_L_same ["_law_a", "_law_b"] (defScope s_L_same) := ⟨rfl, rfl, rfl, by decide +kernel, rfl, by decide +kernel, by decide +kernel⟩
abbrev s_L_rule : Stmt := topS 26
abbrev names_L_rule : List Str := ["_law_bag", "_law_price", "_law_some", "_law_length", "_law_caps"]
theorem sc_L_rule : FnScope names_L_rule ["_law_bag"] (defScope s_L_rule) := ⟨rfl, rfl, rfl, by decide +kernel, rfl, by decide +kernel, by decide +kernel⟩
abbrev s_L_rides : Stmt := topS 27
abbrev names_L_rides : List Str := ["_law_bag", "_law_most", "_law_rule_here", "_law_found", "_law_tick", "_law_turn", "_law_near"]
theorem sc_L_rides : FnScope names_L_rides ["_law_bag", "_law_most", "_law_rule_here"] (defScope s_L_rides) := ⟨rfl, rfl, rfl, by decide +kernel, rfl, by decide +kernel, by decide +kernel⟩
abbrev s_L_bought : Stmt := topS 28
abbrev names_L_bought : List Str := ["_law_length", "_law_rides_here", "_law_found", "_law_until", "_law_tick"]
theorem sc_L_bought : FnScope names_L_bought ["_law_length", "_law_rides_here"] (defScope s_L_bought) := ⟨rfl, rfl, rfl, by decide +kernel, rfl, by decide +kernel, by decide +kernel⟩
abbrev s_L_money : Stmt := topS 29
abbrev names_L_money : List Str := ["_law_rule_here", "_law_count", "_law_whole"]
theorem sc_L_money : FnScope names_L_money ["_law_rule_here", "_law_count"] (defScope s_L_money) := ⟨rfl, rfl, rfl, by decide +kernel, rfl, by decide +kernel, by decide +kernel⟩
abbrev s_L_cost : Stmt := topS 30
abbrev names_L_cost : List Str := ["_law_rule_here", "_law_rides_here"]
theorem sc_L_cost : FnScope names_L_cost ["_law_rule_here", "_law_rides_here"] (defScope s_L_cost) := ⟨rfl, rfl, rfl, by decide +kernel, rfl, by decide +kernel, by decide +kernel⟩
abbrev s_law : Stmt := topS 31
abbrev names_law : List Str := ["_law_script", "_law_bag", "_law_price", "_law_length", "_law_cap", "_law_rides_here", "_law_sums", "_law_paid", "_law_there", "_law_due", "_law_size", "_law_at", "_law_money_so"]
theorem sc_law : FnScope names_law ["_law_script"] (defScope s_law) := ⟨rfl, rfl, rfl, by decide +kernel, rfl, by decide +kernel, by decide +kernel⟩
/-- what the top has written -/
structure Top (K : PySem.W.Frag) (mg : Str → Option Value) : Prop where
  f_P_in_range : Dfd K mg "in_range" s_P_in_range
  f_P_is_rule : Dfd K mg "is_rule" s_P_is_rule
  f_P_is_rides : Dfd K mg "is_rides" s_P_is_rides
  f_P_check_rides : Dfd K mg "check_rides" s_P_check_rides
  f_P_check_number : Dfd K mg "check_number" s_P_check_number
  f_P_bought_of : Dfd K mg "bought_of" s_P_bought_of
  f_P_money : Dfd K mg "money" s_P_money
  f_P_cost_of : Dfd K mg "cost_of" s_P_cost_of
  f_P_lengths_for : Dfd K mg "lengths_for" s_P_lengths_for
  f_L_well : Dfd K mg "_law_well" s_L_well
  f_L_take : Dfd K mg "_law_take" s_L_take
  f_L_bags : Dfd K mg "_law_bags" s_L_bags
  f_L_same : Dfd K mg "_law_same" s_L_same
  f_L_rule : Dfd K mg "_law_rule" s_L_rule
  f_L_rides : Dfd K mg "_law_rides" s_L_rides
  f_L_bought : Dfd K mg "_law_bought" s_L_bought
  f_L_money : Dfd K mg "_law_money" s_L_money
  f_L_cost : Dfd K mg "_law_cost" s_L_cost
  f_law : Dfd K mg "law" s_law
  g_DAY : Cint mg "DAY" 1440
  g_MOST_PRICE : Cint mg "MOST_PRICE" 1000
  g_MOST_CAP : Cint mg "MOST_CAP" 1000000
  g_MOST_RIDES : Cint mg "MOST_RIDES" 60
  g_MOST_PAID : Cint mg "MOST_PAID" 10000000
  n_all : mg "all" = none
  n_bool : mg "bool" = none
  n_enumerate : mg "enumerate" = none
  n_int : mg "int" = none
  n_isinstance : mg "isinstance" = none
  n_len : mg "len" = none
  n_list : mg "list" = none
  n_max : mg "max" = none
  n_min : mg "min" = none
  n_range : mg "range" = none
  n_sorted : mg "sorted" = none
  n_str : mg "str" = none
  n_tuple : mg "tuple" = none
  n_zip : mg "zip" = none

section
variable {P : Program} {w : World} {K : PySem.W.Frag} {mg : Str → Option Value} {base : Heap}
theorem c_P_in_range (T : Top K mg) : Cal P w K mg base CX0 "in_range" 1 ["value", "low", "high"] dsp_P_in_range := by
  refine cal_of (N := names_P_in_range) (dd := d_P_in_range) T.f_P_in_range sc_P_in_range l_P_in_range (fun _ _ _ _ _ _ us hl => match us, hl with | [_, _, _], _ => rfl) (fun f cdv A outer s H E hr => ?_) r_P_in_range
  have hu := hr.units
  exact ⟨_, (xss_one (xs_ret (x_and (x_isa .int (by rfl) T.n_isinstance (xv 0) (x_bltn (v := .ty "int") (by rfl) T.n_int PyProof.Rows.boot_int rfl)) (x_and (x_not (x_isa .bool (by rfl) T.n_isinstance (xv 0) (x_bltn (v := .ty "bool") (by rfl) T.n_bool PyProof.Rows.boot_bool rfl))) (x_one (x_chain o_le o_le (xv 1) (xv 0) (xv 2)))))))⟩
theorem c_P_is_rule (T : Top K mg) : Cal P w K mg base CX0 "is_rule" 2 ["value"] dsp_P_is_rule := by
  have c_P_in_range := c_P_in_range (P := P) (w := w) (base := base) T
  refine cal_of (N := names_P_is_rule) (dd := d_P_is_rule) T.f_P_is_rule sc_P_is_rule l_P_is_rule (fun _ _ _ _ _ _ us hl => match us, hl with | [_], _ => rfl) (fun f cdv A outer s H E hr => ?_) r_P_is_rule
  have hu := hr.units
  exact ⟨_, (xss_cons (xs_if (XW.xt (xw_or (xt_not (xt_val (x_isa .tuple (by rfl) T.n_isinstance (xv 0) (x_bltn (v := .ty "tuple") (by rfl) T.n_tuple PyProof.Rows.boot_tuple rfl)))) (xw_or1 (xt_cmp (o_neK hu (K := K)) (x_callB (c_lenK (K := K)) (by rfl) T.n_len PySem.boot_len (xa_cons (xv 0) xa_nil)) x_int)))) (xss_one (xs_ret x_bl)) xss_nil)
    (xss_cons (xs_if (XW.xt (xw_or (xt_not (xt_val (x_callC c_P_in_range hr (by decide) (by rfl) pass0 (xa_cons (x_ix (o_ixK (K := K)) (xv 0) x_int) (xa_cons x_int (xa_cons (x_globI T.g_MOST_PRICE (by rfl)) xa_nil)))))) (xw_or1 (xt_not (xt_val (x_callC c_P_in_range hr (by decide) (by rfl) pass0 (xa_cons (x_ix (o_ixK (K := K)) (xv 0) x_int) (xa_cons x_int (xa_cons (x_globI T.g_DAY (by rfl)) xa_nil))))))))) (xss_one (xs_ret x_bl)) xss_nil)
    (xss_one (xs_ret (x_or (x_cmp o_is (x_ix (o_ixK (K := K)) (xv 0) x_int) x_non) (x_one (x_callC c_P_in_range hr (by decide) (by rfl) pass0 (xa_cons (x_ix (o_ixK (K := K)) (xv 0) x_int) (xa_cons x_int (xa_cons (x_globI T.g_MOST_CAP (by rfl)) xa_nil))))))))))⟩
theorem c_P_is_rides (T : Top K mg) : Cal P w K mg base CX0 "is_rides" 2 ["value"] dsp_P_is_rides := by
  have c_P_in_range := c_P_in_range (P := P) (w := w) (base := base) T
  refine cal_of (N := names_P_is_rides) (dd := d_P_is_rides) T.f_P_is_rides sc_P_is_rides l_P_is_rides (fun _ _ _ _ _ _ us hl => match us, hl with | [_], _ => rfl) (fun f cdv A outer s H E hr => ?_) r_P_is_rides
  have hu := hr.units
  exact ⟨_, (xss_cons (xs_if (XW.xt (xw_or (xt_not (xt_val (x_isa .tuple (by rfl) T.n_isinstance (xv 0) (x_bltn (v := .ty "tuple") (by rfl) T.n_tuple PyProof.Rows.boot_tuple rfl)))) (xw_or1 (xt_cmp o_gt (x_callB (c_lenK (K := K)) (by rfl) T.n_len PySem.boot_len (xa_cons (xv 0) xa_nil)) (x_globI T.g_MOST_RIDES (by rfl)))))) (xss_one (xs_ret x_bl)) xss_nil)
    (xss_cons (xs_if (xt_not (xt_val (x_callB (c_allK (K := K) rfl) (by rfl) T.n_all PyProof.Rows.boot_all (xa_cons (x_lc (own := [("tick", 1)]) rfl sc_P_is_rides.nd (xi_seq (xv 0)) (blkOk_by (own := [("tick", 1)]) (N := names_P_is_rides) (sc := defScope s_P_is_rides) (by decide +kernel)) (fun _ _ _ _ _ => (xg_name (i := 1) sc_P_is_rides.nd rfl (Or.inl rfl))) (fun _ _ _ _ _ => xts_nil) (fun _ _ _ _ _ => (x_callC c_P_in_range hr (by decide) (by rfl) pass0 (xa_cons (xv 1) (xa_cons x_int (xa_cons (x_op o_sub (x_globI T.g_DAY (by rfl)) x_int) xa_nil)))))) xa_nil)))) (xss_one (xs_ret x_bl)) xss_nil)
    (xss_one (xs_ret (x_callB (c_allK (K := K) rfl) (by rfl) T.n_all PyProof.Rows.boot_all (xa_cons (x_lc (own := [("tick", 1), ("later", 2)]) rfl sc_P_is_rides.nd (xi_zip (by rfl) T.n_zip (xa_cons (xv 0) (xa_cons (x_slice (xv 0) (xo_some x_int) xo_none) xa_nil))) (blkOk_by (own := [("tick", 1), ("later", 2)]) (N := names_P_is_rides) (sc := defScope s_P_is_rides) (by decide +kernel)) (fun _ _ _ _ _ => (xg_tupK (K := K) rfl (xgs_cons (xg_name (i := 1) sc_P_is_rides.nd rfl (Or.inl rfl)) (xgs_cons (xg_name (i := 2) sc_P_is_rides.nd rfl (Or.inl rfl)) xgs_nil)))) (fun _ _ _ _ _ => xts_nil) (fun _ _ _ _ _ => (x_cmp o_lt (xv 1) (xv 2)))) xa_nil))))))⟩
theorem c_P_check_rides (T : Top K mg) : Cal P w K mg base CX0 "check_rides" 3 ["value"] dsp_P_check_rides := by
  have c_P_is_rides := c_P_is_rides (P := P) (w := w) (base := base) T
  refine cal_of (N := names_P_check_rides) (dd := d_P_check_rides) T.f_P_check_rides sc_P_check_rides l_P_check_rides (fun _ _ _ _ _ _ us hl => match us, hl with | [_], _ => rfl) (fun f cdv A outer s H E hr => ?_) r_P_check_rides
  have hu := hr.units
  exact ⟨_, (xss_one (xs_if (xt_not (xt_val (x_callC c_P_is_rides hr (by decide) (by rfl) pass0 (xa_cons (xv 0) xa_nil)))) (xss_one xs_never) xss_nil))⟩
theorem c_P_check_number (T : Top K mg) : Cal P w K mg base CX0 "check_number" 2 ["value", "low", "high"] dsp_P_check_number := by
  have c_P_in_range := c_P_in_range (P := P) (w := w) (base := base) T
  refine cal_of (N := names_P_check_number) (dd := d_P_check_number) T.f_P_check_number sc_P_check_number l_P_check_number (fun _ _ _ _ _ _ us hl => match us, hl with | [_, _, _], _ => rfl) (fun f cdv A outer s H E hr => ?_) r_P_check_number
  have hu := hr.units
  exact ⟨_, (xss_one (xs_if (xt_not (xt_val (x_callC c_P_in_range hr (by decide) (by rfl) pass0 (xa_cons (xv 0) (xa_cons (xv 1) (xa_cons (xv 2) xa_nil)))))) (xss_one xs_never) xss_nil))⟩
theorem c_P_bought_of (T : Top K mg) : Cal P w K mg base CX0 "bought_of" 1 ["length", "rides"] dsp_P_bought_of := by
  refine cal_of (N := names_P_bought_of) (dd := d_P_bought_of) T.f_P_bought_of sc_P_bought_of l_P_bought_of (fun _ _ _ _ _ _ us hl => match us, hl with | [_, _], _ => rfl) (fun f cdv A outer s H E hr => ?_) r_P_bought_of
  have hu := hr.units
  exact ⟨_, (xss_cons (xs_set true (i := 2) sc_P_bought_of.nd rfl (Or.inl rfl) (x_lst xa_nil))
    (xss_cons (xs_for PassesOwn.never rfl (xi_seq (xv 1)) (xg_name (i := 3) sc_P_bought_of.nd rfl (Or.inl rfl)) (xss_one (xs_if (XW.xt (xw_or (xt_cmp (o_eqK hu (K := K)) (xv 2) (x_lst xa_nil)) (xw_or1 (xt_cmp o_ge (xv 3) (x_op (o_addK (K := K)) (x_ix (o_ixK (K := K)) (xv 2) (x_neg x_int)) (xv 0)))))) (xss_one (xs_app (xv 3) (pv 2))) xss_nil)))
    (xss_one (xs_ret (xv 2)))))⟩
theorem c_P_money (T : Top K mg) : Cal P w K mg base CX0 "money" 1 ["rule", "count"] dsp_P_money := by
  refine cal_of (N := names_P_money) (dd := d_P_money) T.f_P_money sc_P_money l_P_money (fun _ _ _ _ _ _ us hl => match us, hl with | [_, _], _ => rfl) (fun f cdv A outer s H E hr => ?_) r_P_money
  have hu := hr.units
  exact ⟨_, (xss_cons (xs_asg (xv 0) (xg_tupK (K := K) rfl (xgs_cons (xg_name (i := 2) sc_P_money.nd rfl (Or.inl rfl)) (xgs_cons (xg_name (i := 3) sc_P_money.nd rfl (Or.inl rfl)) (xgs_cons (xg_name (i := 4) sc_P_money.nd rfl (Or.inl rfl)) xgs_nil)))))
    (xss_one (xs_ret (x_if (xt_cmp o_is (xv 4) x_non) (x_op o_mul (xv 1) (xv 2)) (x_callB (c_min2 rfl) (by rfl) T.n_min PyProof.Rows.boot_min (xa_cons (x_op o_mul (xv 1) (xv 2)) (xa_cons (xv 4) xa_nil)))))))⟩
theorem c_P_cost_of (T : Top K mg) : Cal P w K mg base CX0 "cost_of" 2 ["rule", "rides"] dsp_P_cost_of := by
  have c_P_bought_of := c_P_bought_of (P := P) (w := w) (base := base) T
  have c_P_money := c_P_money (P := P) (w := w) (base := base) T
  refine cal_of (N := names_P_cost_of) (dd := d_P_cost_of) T.f_P_cost_of sc_P_cost_of l_P_cost_of (fun _ _ _ _ _ _ us hl => match us, hl with | [_, _], _ => rfl) (fun f cdv A outer s H E hr => ?_) r_P_cost_of
  have hu := hr.units
  exact ⟨_, (xss_one (xs_ret (x_callC c_P_money hr (by decide) (by rfl) pass0 (xa_cons (xv 0) (xa_cons (x_callB (c_lenK (K := K)) (by rfl) T.n_len PySem.boot_len (xa_cons (x_callC c_P_bought_of hr (by decide) (by rfl) pass0 (xa_cons (x_ix (o_ixK (K := K)) (xv 0) x_int) (xa_cons (xv 1) xa_nil))) xa_nil)) xa_nil)))))⟩
theorem c_P_lengths_for (T : Top K mg) : Cal P w K mg base CX0 "lengths_for" 4 ["price", "cap", "rides", "paid"] dsp_P_lengths_for := by
  have c_P_is_rule := c_P_is_rule (P := P) (w := w) (base := base) T
  have c_P_check_rides := c_P_check_rides (P := P) (w := w) (base := base) T
  have c_P_check_number := c_P_check_number (P := P) (w := w) (base := base) T
  have c_P_cost_of := c_P_cost_of (P := P) (w := w) (base := base) T
  refine cal_of (N := names_P_lengths_for) (dd := d_P_lengths_for) T.f_P_lengths_for sc_P_lengths_for l_P_lengths_for (fun _ _ _ _ _ _ us hl => match us, hl with | [_, _, _, _], _ => rfl) (fun f cdv A outer s H E hr => ?_) r_P_lengths_for
  have hu := hr.units
  exact ⟨_, (xss_cons (xs_if (xt_not (xt_val (x_callC c_P_is_rule hr (by decide) (by rfl) pass0 (xa_cons (x_tup (xa_cons (xv 0) (xa_cons x_int (xa_cons (xv 1) xa_nil)))) xa_nil)))) (xss_one xs_never) xss_nil)
    (xss_cons (xs_expr (x_callC c_P_check_rides hr (by decide) (by rfl) pass0 (xa_cons (xv 2) xa_nil)))
    (xss_cons (xs_expr (x_callC c_P_check_number hr (by decide) (by rfl) pass0 (xa_cons (xv 3) (xa_cons x_int (xa_cons (x_globI T.g_MOST_PAID (by rfl)) xa_nil)))))
    (xss_cons (xs_setLc false (i := 4) (own := [("length", 5)]) rfl sc_P_lengths_for.nd rfl rfl (sw_true rfl rfl rfl (by decide +kernel)) (xi_rng2 (by rfl) T.n_range (xa_cons x_int (xa_cons (x_op (o_addK (K := K)) (x_globI T.g_DAY (by rfl)) x_int) xa_nil))) (blkOk_by (own := [("length", 5)]) (N := names_P_lengths_for) (sc := defScope s_P_lengths_for) (by decide +kernel)) (fun _ _ _ _ _ => (xg_name (i := 5) sc_P_lengths_for.nd rfl (Or.inl rfl))) (fun _ _ _ _ _ => (xts_one (xt_cmp (o_eqK hu (K := K)) (x_callC c_P_cost_of hr (by decide) (by rfl) pass0 (xa_cons (x_tup (xa_cons (xv 0) (xa_cons (xv 5) (xa_cons (xv 1) xa_nil)))) (xa_cons (xv 2) xa_nil))) (xv 3)))) (fun _ _ _ _ _ => (xv 5)))
    (xss_one (xs_ret (x_if (xt_cmp (o_neK hu (K := K)) (xv 4) (x_lst xa_nil)) (x_tup (xa_cons (x_ix (o_ixK (K := K)) (xv 4) x_int) (xa_cons (x_ix (o_ixK (K := K)) (xv 4) (x_neg x_int)) xa_nil))) x_non)))))))⟩
theorem c_L_well (T : Top K mg) : Cal P w K mg base CX0 "_law_well" 1 ["_law_cell", "_law_turn"] dsp_L_well := by
  refine cal_of (N := names_L_well) (dd := d_L_well) T.f_L_well sc_L_well l_L_well (fun _ _ _ _ _ _ us hl => match us, hl with | [_, _], _ => rfl) (fun f cdv A outer s H E hr => ?_) r_L_well
  have hu := hr.units
  exact ⟨_, (xss_cons (xs_if (xt_cmp o_ge (xv 0) (x_op o_pow x_int x_int)) (xss_one (xs_ret (x_bag (x_lst (xa_cons (x_op o_sub (xv 0) (x_op o_pow x_int x_int)) (xa_cons (x_op o_mod (xv 0) x_int) (xa_cons (xv 1) xa_nil))))))) xss_nil)
    (xss_one (xs_ret (x_bag (x_lst (xa_cons x_int (xa_cons (x_op o_mod (xv 0) x_int) (xa_cons (xv 1) xa_nil))))))))⟩
theorem c_L_take (T : Top K mg) : Cal P w K mg base CX0 "_law_take" 1 ["_law_bag", "_law_many"] dsp_L_take := by
  obtain ⟨f, fd, F, hm⟩ := T.f_L_take
  refine ⟨f, fd, F.ok sc_L_take (fun vs H Q E h => ?_) (fun cdv A outer s H vs Q E hr h => ?_), hm, F.kp, F.binds (fun _ _ _ _ _ _ us hl => match us, hl with | [_, _], _ => rfl)⟩
  · obtain ⟨Z, n, ds, C, Er, _, r, hd, _⟩ := h
    rw [r.length]
    exact l_L_take ds n C Er hd
  obtain ⟨Z, n, ds, C, Er, hz, r, ⟨m, rfl, ⟨hm0, hm1, hN⟩, hC⟩, q, _⟩ := h
  obtain ⟨b, nb, hnb, hb, rfl⟩ : ∃ b nb, nb ≤ n ∧ H b = some (.ext (bagAt b nb)) ∧ vs = [.ref b, .int m] := by
    cases r with
    | cons h1 r =>
      cases r with
      | cons h2 r =>
        cases r
        cases h1 with
        | bag hn hb =>
          cases h2
          exact ⟨_, _, hn, hb, rfl⟩
  have nd := sc_L_take.nd
  refine ⟨_, pss_see
    (pss_cons (ps_if (pt_cmpR op_gt (pe_ix ix_list (pv 0) pe_int (fun _ _ => rfl)) pe_int (nomark _))
        (pss_cons (ps_set (i := 2) nd rfl (.inl rfl) (pe_op op_mod (pe_ix ix_list (pv 0) pe_int (fun _ _ => rfl)) (pv 1)))
        (pss_cons (ps_asg (pe_op op_fdiv (pe_ix ix_list (pv 0) pe_int (fun _ _ => rfl)) (pv 1)) (pg_sub (pv 0) pe_int set_list))
        (pss_one (ps_ret (pe_hide (pv 2)))))) pss_nil)
    (pss_cons (ps_asg (pe_op op_add (pe_ix ix_list (pv 0) pe_int (fun _ _ => rfl)) pe_int) (pg_sub (pv 0) pe_int set_list))
    (pss_cons (ps_set (i := 3) nd rfl (.inl rfl) pe_int)
    (pss_cons (ps_set (i := 4) nd rfl (.inl rfl) (pe_op op_mod (pe_op op_add (pe_ix ix_list (pv 0) pe_int (fun _ _ => rfl)) (pe_op op_mul pe_int (pe_ix ix_list (pv 0) pe_int (fun _ _ => rfl)))) (pv 3)))
    (pss_cons (ps_set (i := 4) nd rfl (.inl rfl) (pe_op op_mod (pe_op op_add (pe_op op_add (pe_op op_mul (pv 4) (pv 4)) (pe_op op_mul pe_int (pe_op op_pow (pe_ix ix_list (pv 0) pe_int (fun _ _ => rfl)) pe_int))) pe_int) (pv 3)))
    (pss_one (ps_ret (pe_hide (pe_op op_mod (pe_op op_fdiv (pe_op op_mod (pe_op op_pow (pv 4) pe_int) (pv 3)) pe_int) (pv 1)))))))))), ?_⟩
  refine ⟨b, nb, hb, fun i j c hi hj hc hall => ?_⟩
  have ix0 : ∀ {x y z : Int}, atI [V.int x, V.int y, V.int z] 0 = some (V.int x) := rfl
  have ix1 : ∀ {x y z : Int}, atI [V.int x, V.int y, V.int z] 1 = some (V.int y) := rfl
  have ix2 : ∀ {x y z : Int}, atI [V.int x, V.int y, V.int z] 2 = some (V.int z) := rfl
  -- what is left behind: the bag with its count
  have fin : ∀ (v : Int) (xs : List V) (c' : Nat), 0 ≤ v → v < m → (∀ k : Nat, HO.ext (bagAt b nb) = HO.ext (bagAt b k) → c' ≤ k + 1) → Q (.int v) (upd (upd H b (.lst xs)) b (.ext (bagAt b c'))) := fun v xs c' h0 h1 hk => by
    rw [upd_upd]
    have ex : ExK 1 H (upd H b (.ext (bagAt b c'))) := ⟨fun a o ha => by
      by_cases e : a = b
      · subst e
        rw [hb] at ha
        cases ha
        exact .inr (.inl ⟨⟨nb, rfl⟩, fun k ek => ⟨c', hk k ek, upd_same⟩⟩)
      · exact .inl (by rw [upd_ne e]; exact ha), fun _ t => tab_bag hb t⟩
    exact q (.dat (.int v)) _ _ 1 ex (Dt.v _) (hC v h0 h1)
  have hcn : c ≤ nb := hall nb rfl
  refine ⟨.ref b, rfl, b, _, 0, _, rfl, rfl, .of upd_same, ix0, i, 0, rfl, rfl, _, rfl, ite2 (fun hpos => ?_) fun hneg => ?_⟩
  · refine ⟨.ref b, rfl, b, _, 0, _, rfl, rfl, .of upd_same, ix0, .int m, rfl, i, m, rfl, rfl, hm0, ?_⟩
    refine ⟨.ref b, rfl, b, _, 0, _, rfl, rfl, .of upd_same, ix0, .int m, rfl, i, m, rfl, rfl, ⟨hm0, hm1⟩, ?_⟩
    refine ⟨.ref b, rfl, b, _, 0, 0, rfl, rfl, upd_same, rfl, ?_⟩
    refine ⟨.int (i % m), rfl, b, i / m, j, c, c.toNat, upd_same, Int.ediv_nonneg hi (by omega), hj, hc, by omega, ?_⟩
    rw [upd_upd]
    refine fin (i % m) _ c.toNat (Int.emod_nonneg _ (by omega)) (Int.emod_lt_of_pos _ hm0) (fun k ek => ?_)
    have := hall k ek
    omega
  · refine ⟨.ref b, rfl, b, _, 2, _, rfl, rfl, .of upd_same, ix2, c, 1, rfl, rfl, ?_⟩
    refine ⟨.ref b, rfl, b, _, 2, 2, rfl, rfl, upd_same, rfl, ?_⟩
    refine ⟨.ref b, rfl, b, _, 1, _, rfl, rfl, .of upd_same, ix1, .ref b, rfl, b, _, 2, _, rfl, rfl, .of upd_same, ix2, 1000003, c + 1, rfl, rfl, .inl (by decide), j, 1000003 * (c + 1), rfl, rfl, .int 2305843009213693951, rfl, _, _, rfl, rfl, show (0 : Int) < 2305843009213693951 by decide, ?_⟩
    simp only []
    generalize hn1 : (j + 1000003 * (c + 1)) % 2305843009213693951 = n1
    have n10 : 0 ≤ n1 := by rw [← hn1]; exact Int.emod_nonneg _ (by decide)
    have n11 : n1 < 2305843009213693951 := by rw [← hn1]; exact Int.emod_lt_of_pos _ (by decide)
    have hlim : LIM = 1152921504606846976 := rfl
    refine ⟨.int n1, rfl, .int n1, rfl, n1, n1, rfl, rfl, .inl ⟨by omega, by omega⟩, .ref b, rfl, b, _, 2, _, rfl, rfl, .of upd_same, ix2, c + 1, 2, rfl, rfl, ⟨by decide, by decide, by omega⟩, 7919, (c + 1) ^ (2 : Int).toNat, rfl, rfl, .inl (by decide), n1 * n1, 7919 * (c + 1) ^ (2 : Int).toNat, rfl, rfl, _, 5, rfl, rfl, .int 2305843009213693951, rfl, _, _, rfl, rfl, show (0 : Int) < 2305843009213693951 by decide, ?_⟩
    simp only []
    generalize hn2 : (n1 * n1 + 7919 * (c + 1) ^ (2 : Int).toNat + 5) % 2305843009213693951 = n2
    have n20 : 0 ≤ n2 := by rw [← hn2]; exact Int.emod_nonneg _ (by decide)
    have n21 : n2 < 2305843009213693951 := by rw [← hn2]; exact Int.emod_lt_of_pos _ (by decide)
    refine ⟨.int n2, rfl, n2, 3, rfl, rfl, ⟨by decide, by decide, by omega⟩, .int 2305843009213693951, rfl, _, _, rfl, rfl, show (0 : Int) < 2305843009213693951 by decide, _, 13, rfl, rfl, ⟨by decide, by decide⟩, .int m, rfl, _, m, rfl, rfl, hm0, ?_⟩
    refine ⟨b, i, j, c + 1, c.toNat + 1, upd_same, hi, hj, by omega, by omega, ?_⟩
    rw [upd_upd]
    refine fin _ _ (c.toNat + 1) (Int.emod_nonneg _ (by omega)) (Int.emod_lt_of_pos _ hm0) (fun k ek => ?_)
    have := hall k ek
    omega
theorem c_L_bags (T : Top K mg) : Cal P w K mg base CX0 "_law_bags" 2 ["_law_script", "_law_most"] dsp_L_bags := by
  have c_L_well := c_L_well (P := P) (w := w) (base := base) T
  refine cal_of (N := names_L_bags) (dd := d_L_bags) T.f_L_bags sc_L_bags l_L_bags (fun _ _ _ _ _ _ us hl => match us, hl with | [_, _], _ => rfl) (fun f cdv A outer s H E hr => ?_) r_L_bags
  have hu := hr.units
  exact ⟨_, (xss_one (xs_ret (x_lc (own := [("_law_k", 2), ("_law_cell", 3)]) rfl sc_L_bags.nd (xi_enum (by rfl) T.n_enumerate (xa_cons (x_op (o_addK (K := K)) (x_slice (xv 0) xo_none (xo_some (xv 1))) (x_lst (xa_cons x_int xa_nil))) xa_nil)) (blkOk_by (own := [("_law_k", 2), ("_law_cell", 3)]) (N := names_L_bags) (sc := defScope s_L_bags) (by decide +kernel)) (fun _ _ _ _ _ => (xg_tupK (K := K) rfl (xgs_cons (xg_name (i := 2) sc_L_bags.nd rfl (Or.inl rfl)) (xgs_cons (xg_name (i := 3) sc_L_bags.nd rfl (Or.inl rfl)) xgs_nil)))) (fun _ _ _ _ _ => xts_nil) (fun _ _ _ _ _ => (x_callC c_L_well hr (by decide) (by rfl) pass0 (xa_cons (xv 3) (xa_cons (x_op o_mul x_int (xv 2)) xa_nil)))))))⟩
theorem cr_L_same (T : Top K mg) : ∀ m : Nat, Cal P w K mg base CX0 "_law_same" m ["_law_a", "_law_b"] (dspR_L_same m)
  | 0 => cal_false T.f_L_same (fun _ _ _ _ _ _ us hl => match us, hl with | [_, _], _ => rfl)
  | m + 1 => by
    have c_self := cr_L_same T m
    refine cal_of (N := names_L_same) (dd := d_L_same (dspR_L_same m)) T.f_L_same sc_L_same (l_L_same (m + 1)) (fun _ _ _ _ _ _ us hl => match us, hl with | [_, _], _ => rfl) (fun f cdv A outer s H E hr => ?_) (r_L_same m)
    have hu := hr.units
    exact ⟨_, (xss_cons (xs_if (XW.xt (xw_or (XW.xt (xw_and (xt_val (x_isa .list (by rfl) T.n_isinstance (xv 0) (x_bltn (v := .ty "list") (by rfl) T.n_list PyProof.Rows.boot_list rfl))) (xw_and1 (xt_val (x_isa .list (by rfl) T.n_isinstance (xv 1) (x_bltn (v := .ty "list") (by rfl) T.n_list PyProof.Rows.boot_list rfl)))))) (xw_or1 (XW.xt (xw_and (xt_val (x_isa .tuple (by rfl) T.n_isinstance (xv 0) (x_bltn (v := .ty "tuple") (by rfl) T.n_tuple PyProof.Rows.boot_tuple rfl))) (xw_and1 (xt_val (x_isa .tuple (by rfl) T.n_isinstance (xv 1) (x_bltn (v := .ty "tuple") (by rfl) T.n_tuple PyProof.Rows.boot_tuple rfl))))))))) (xss_one (xs_ret (x_and (x_cmp (o_eqK hu (K := K)) (x_callB (c_lenK (K := K)) (by rfl) T.n_len PySem.boot_len (xa_cons (xv 0) xa_nil)) (x_callB (c_lenK (K := K)) (by rfl) T.n_len PySem.boot_len (xa_cons (xv 1) xa_nil))) (x_one (x_callB (c_allK (K := K) rfl) (by rfl) T.n_all PyProof.Rows.boot_all (xa_cons (x_lc (own := [("_law_x", 2), ("_law_y", 3)]) rfl sc_L_same.nd (xi_zip (by rfl) T.n_zip (xa_cons (xv 0) (xa_cons (xv 1) xa_nil))) (blkOk_by (own := [("_law_x", 2), ("_law_y", 3)]) (N := names_L_same) (sc := defScope s_L_same) (by decide +kernel)) (fun _ _ _ _ _ => (xg_tupK (K := K) rfl (xgs_cons (xg_name (i := 2) sc_L_same.nd rfl (Or.inl rfl)) (xgs_cons (xg_name (i := 3) sc_L_same.nd rfl (Or.inl rfl)) xgs_nil)))) (fun _ _ _ _ _ => xts_nil) (fun _ _ _ _ _ => (x_callC c_self hr (Nat.le_refl _) (by rfl) pass0 (xa_cons (xv 2) (xa_cons (xv 3) xa_nil))))) xa_nil)))))) xss_nil)
    (xss_cons (xs_if (XW.xt (xw_or (xt_val (x_isaT [.bool, .list, .tuple] (by rfl) T.n_isinstance (xv 0) (xa_cons (x_bltn (v := .ty "bool") (by rfl) T.n_bool PyProof.Rows.boot_bool rfl) (xa_cons (x_bltn (v := .ty "list") (by rfl) T.n_list PyProof.Rows.boot_list rfl) (xa_cons (x_bltn (v := .ty "tuple") (by rfl) T.n_tuple PyProof.Rows.boot_tuple rfl) xa_nil))) (by decide))) (xw_or1 (xt_val (x_isaT [.bool, .list, .tuple] (by rfl) T.n_isinstance (xv 1) (xa_cons (x_bltn (v := .ty "bool") (by rfl) T.n_bool PyProof.Rows.boot_bool rfl) (xa_cons (x_bltn (v := .ty "list") (by rfl) T.n_list PyProof.Rows.boot_list rfl) (xa_cons (x_bltn (v := .ty "tuple") (by rfl) T.n_tuple PyProof.Rows.boot_tuple rfl) xa_nil))) (by decide)))))) (xss_one (xs_ret (x_and (x_isa .bool (by rfl) T.n_isinstance (xv 0) (x_bltn (v := .ty "bool") (by rfl) T.n_bool PyProof.Rows.boot_bool rfl)) (x_and (x_isa .bool (by rfl) T.n_isinstance (xv 1) (x_bltn (v := .ty "bool") (by rfl) T.n_bool PyProof.Rows.boot_bool rfl)) (x_one (x_cmp (o_eqK hu (K := K)) (xv 0) (xv 1))))))) xss_nil)
    (xss_cons (xs_if (XW.xt (xw_or (xt_val (x_isa .int (by rfl) T.n_isinstance (xv 0) (x_bltn (v := .ty "int") (by rfl) T.n_int PyProof.Rows.boot_int rfl))) (xw_or1 (xt_val (x_isa .int (by rfl) T.n_isinstance (xv 1) (x_bltn (v := .ty "int") (by rfl) T.n_int PyProof.Rows.boot_int rfl)))))) (xss_one (xs_ret (x_and (x_isa .int (by rfl) T.n_isinstance (xv 0) (x_bltn (v := .ty "int") (by rfl) T.n_int PyProof.Rows.boot_int rfl)) (x_and (x_isa .int (by rfl) T.n_isinstance (xv 1) (x_bltn (v := .ty "int") (by rfl) T.n_int PyProof.Rows.boot_int rfl)) (x_one (x_cmp (o_eqK hu (K := K)) (xv 0) (xv 1))))))) xss_nil)
    (xss_cons (xs_if (XW.xt (xw_or (xt_val (x_isa .str (by rfl) T.n_isinstance (xv 0) (x_bltn (v := .ty "str") (by rfl) T.n_str PyProof.Rows.boot_str rfl))) (xw_or1 (xt_val (x_isa .str (by rfl) T.n_isinstance (xv 1) (x_bltn (v := .ty "str") (by rfl) T.n_str PyProof.Rows.boot_str rfl)))))) (xss_one (xs_ret (x_and (x_isa .str (by rfl) T.n_isinstance (xv 0) (x_bltn (v := .ty "str") (by rfl) T.n_str PyProof.Rows.boot_str rfl)) (x_and (x_isa .str (by rfl) T.n_isinstance (xv 1) (x_bltn (v := .ty "str") (by rfl) T.n_str PyProof.Rows.boot_str rfl)) (x_one (x_cmp (o_eqK hu (K := K)) (xv 0) (xv 1))))))) xss_nil)
    (xss_one (xs_ret (x_and (x_cmp o_is (xv 0) x_non) (x_one (x_cmp o_is (xv 1) x_non)))))))))⟩
theorem c_L_same (T : Top K mg) : Cal P w K mg base CX0 "_law_same" 4 ["_law_a", "_law_b"] dsp_L_same := cr_L_same T 4
theorem c_L_rule (T : Top K mg) : Cal P w K mg base CX0 "_law_rule" 2 ["_law_bag"] dsp_L_rule := by
  have c_L_take := c_L_take (P := P) (w := w) (base := base) T
  refine cal_of (N := names_L_rule) (dd := d_L_rule) T.f_L_rule sc_L_rule l_L_rule (fun _ _ _ _ _ _ us hl => match us, hl with | [_], _ => rfl) (fun f cdv A outer s H E hr => ?_) r_L_rule
  have hu := hr.units
  exact ⟨_, (xss_cons (xs_set false (i := 1) sc_L_rule.nd rfl (Or.inl rfl) (x_callC c_L_take hr (by decide) (by rfl) pass0 (xa_cons (xv 0) (xa_cons (x_ix (o_ixK (K := K)) (x_lst (xa_cons x_int (xa_cons x_int xa_nil))) (x_callC c_L_take hr (by decide) (by rfl) pass0 (xa_cons (xv 0) (xa_cons x_int xa_nil)))) xa_nil))))
    (xss_cons (xs_set false (i := 2) sc_L_rule.nd rfl (Or.inl rfl) (x_lst (xa_cons (x_op (o_addK (K := K)) x_int (x_callC c_L_take hr (by decide) (by rfl) pass0 (xa_cons (xv 0) (xa_cons x_int xa_nil)))) (xa_cons (x_op (o_addK (K := K)) x_int (x_callC c_L_take hr (by decide) (by rfl) pass0 (xa_cons (xv 0) (xa_cons x_int xa_nil)))) (xa_cons (x_op o_fdiv x_int (x_op (o_addK (K := K)) x_int (x_callC c_L_take hr (by decide) (by rfl) pass0 (xa_cons (xv 0) (xa_cons x_int xa_nil))))) (xa_cons x_int xa_nil))))))
    (xss_cons (xs_set false (i := 3) sc_L_rule.nd rfl (Or.inl rfl) (x_ix (o_ixK (K := K)) (xv 2) (x_callC c_L_take hr (by decide) (by rfl) pass0 (xa_cons (xv 0) (xa_cons x_int xa_nil)))))
    (xss_cons (xs_set false (i := 4) sc_L_rule.nd rfl (Or.inl rfl) (x_lst (xa_cons x_non (xa_cons (x_op (o_addK (K := K)) (x_op o_mul (xv 1) (x_callC c_L_take hr (by decide) (by rfl) pass0 (xa_cons (xv 0) (xa_cons x_int xa_nil)))) (x_callC c_L_take hr (by decide) (by rfl) pass0 (xa_cons (xv 0) (xa_cons x_int xa_nil)))) (xa_cons (x_callC c_L_take hr (by decide) (by rfl) pass0 (xa_cons (xv 0) (xa_cons x_int xa_nil))) (xa_cons (x_callC c_L_take hr (by decide) (by rfl) pass0 (xa_cons (xv 0) (xa_cons (x_op (o_addK (K := K)) (x_op o_pow x_int x_int) x_int) xa_nil))) xa_nil))))))
    (xss_one (xs_ret (x_tup (xa_cons (xv 1) (xa_cons (xv 3) (xa_cons (x_ix (o_ixK (K := K)) (xv 4) (x_callC c_L_take hr (by decide) (by rfl) pass0 (xa_cons (xv 0) (xa_cons x_int xa_nil)))) xa_nil))))))))))⟩
theorem c_L_rides (T : Top K mg) : Cal P w K mg base CX0 "_law_rides" 2 ["_law_bag", "_law_most", "_law_rule_here"] dsp_L_rides := by
  have c_L_take := c_L_take (P := P) (w := w) (base := base) T
  refine cal_of (N := names_L_rides) (dd := d_L_rides) T.f_L_rides sc_L_rides l_L_rides (fun _ _ _ _ _ _ us hl => match us, hl with | [_, _, _], _ => rfl) (fun f cdv A outer s H E hr => ?_) r_L_rides
  have hu := hr.units
  exact ⟨_, (xss_cons (xs_par (i := 3) (j := 4) rfl sc_L_rides.nd rfl rfl (by decide) rfl rfl (xa_cons (x_tup xa_nil) (xa_cons (x_callC c_L_take hr (by decide) (by rfl) pass0 (xa_cons (xv 0) (xa_cons (x_ix (o_ixK (K := K)) (x_lst (xa_cons x_int (xa_cons x_int xa_nil))) (x_callC c_L_take hr (by decide) (by rfl) pass0 (xa_cons (xv 0) (xa_cons x_int xa_nil)))) xa_nil))) xa_nil)) (by rfl))
    (xss_cons (xs_for PassesOwn.never rfl (xi_rng1 (by rfl) T.n_range (xa_cons (x_callC c_L_take hr (by decide) (by rfl) pass0 (xa_cons (xv 0) (xa_cons (x_op (o_addK (K := K)) (xv 1) x_int) xa_nil))) xa_nil)) (xg_name (i := 5) sc_L_rides.nd rfl (Or.inl rfl)) (xss_cons (xs_if (xt_cmp o_lt (xv 4) x_int) (xss_one (xs_set false (i := 3) sc_L_rides.nd rfl (Or.inl rfl) (x_op (o_addK (K := K)) (xv 3) (x_tup (xa_cons (xv 4) xa_nil))))) xss_nil)
    (xss_cons (xs_set false (i := 6) sc_L_rides.nd rfl (Or.inl rfl) (x_callB (c_max2 rfl) (by rfl) T.n_max PyProof.Rows.boot_max (xa_cons x_int (xa_cons (x_op o_sub (x_op (o_addK (K := K)) (x_ix (o_ixK (K := K)) (xv 2) x_int) (x_callC c_L_take hr (by decide) (by rfl) pass0 (xa_cons (xv 0) (xa_cons x_int xa_nil)))) x_int) xa_nil))))
    (xss_one (xs_set false (i := 4) sc_L_rides.nd rfl (Or.inl rfl) (x_op (o_addK (K := K)) (xv 4) (x_ix (o_ixK (K := K)) (x_lst (xa_cons x_int (xa_cons (x_op (o_addK (K := K)) x_int (x_callC c_L_take hr (by decide) (by rfl) pass0 (xa_cons (xv 0) (xa_cons x_int xa_nil)))) (xa_cons (xv 6) (xa_cons (x_op (o_addK (K := K)) x_int (x_callC c_L_take hr (by decide) (by rfl) pass0 (xa_cons (xv 0) (xa_cons (x_op o_mul x_int (x_ix (o_ixK (K := K)) (xv 2) x_int)) xa_nil)))) xa_nil))))) (x_callC c_L_take hr (by decide) (by rfl) pass0 (xa_cons (xv 0) (xa_cons x_int xa_nil))))))))))
    (xss_one (xs_ret (xv 3)))))⟩
theorem c_L_bought (T : Top K mg) : Cal P w K mg base CX0 "_law_bought" 1 ["_law_length", "_law_rides_here"] dsp_L_bought := by
  refine cal_of (N := names_L_bought) (dd := d_L_bought) T.f_L_bought sc_L_bought l_L_bought (fun _ _ _ _ _ _ us hl => match us, hl with | [_, _], _ => rfl) (fun f cdv A outer s H E hr => ?_) r_L_bought
  have hu := hr.units
  exact ⟨_, (xss_cons (xs_parK (i := 2) (j := 3) rfl sc_L_bought.nd rfl rfl (by decide) rfl rfl (x_lst xa_nil) (x_neg x_int) (by rfl))
    (xss_cons (xs_for PassesOwn.never rfl (xi_seq (xv 1)) (xg_name (i := 4) sc_L_bought.nd rfl (Or.inl rfl)) (xss_one (xs_if (xt_cmp o_ge (xv 4) (xv 3)) (xss_cons (xs_app (xv 4) (pv 2))
    (xss_one (xs_set false (i := 3) sc_L_bought.nd rfl (Or.inl rfl) (x_op (o_addK (K := K)) (xv 4) (xv 0))))) xss_nil)))
    (xss_one (xs_ret (xv 2)))))⟩
theorem c_L_money (T : Top K mg) : Cal P w K mg base CX0 "_law_money" 1 ["_law_rule_here", "_law_count"] dsp_L_money := by
  refine cal_of (N := names_L_money) (dd := d_L_money) T.f_L_money sc_L_money l_L_money (fun _ _ _ _ _ _ us hl => match us, hl with | [_, _], _ => rfl) (fun f cdv A outer s H E hr => ?_) r_L_money
  have hu := hr.units
  exact ⟨_, (xss_cons (xs_set false (i := 2) sc_L_money.nd rfl (Or.inl rfl) (x_op o_mul (x_ix (o_ixK (K := K)) (xv 0) x_int) (xv 1)))
    (xss_one (xs_ret (x_if (XW.xt (xw_or (xt_cmp o_is (x_ix (o_ixK (K := K)) (xv 0) x_int) x_non) (xw_or1 (xt_cmp o_lt (xv 2) (x_ix (o_ixK (K := K)) (xv 0) x_int))))) (xv 2) (x_ix (o_ixK (K := K)) (xv 0) x_int)))))⟩
theorem c_L_cost (T : Top K mg) : Cal P w K mg base CX0 "_law_cost" 2 ["_law_rule_here", "_law_rides_here"] dsp_L_cost := by
  have c_L_bought := c_L_bought (P := P) (w := w) (base := base) T
  have c_L_money := c_L_money (P := P) (w := w) (base := base) T
  refine cal_of (N := names_L_cost) (dd := d_L_cost) T.f_L_cost sc_L_cost l_L_cost (fun _ _ _ _ _ _ us hl => match us, hl with | [_, _], _ => rfl) (fun f cdv A outer s H E hr => ?_) r_L_cost
  have hu := hr.units
  exact ⟨_, (xss_one (xs_ret (x_callC c_L_money hr (by decide) (by rfl) pass0 (xa_cons (xv 0) (xa_cons (x_callB (c_lenK (K := K)) (by rfl) T.n_len PySem.boot_len (xa_cons (x_callC c_L_bought hr (by decide) (by rfl) pass0 (xa_cons (x_ix (o_ixK (K := K)) (xv 0) x_int) (xa_cons (xv 1) xa_nil))) xa_nil)) xa_nil)))))⟩
theorem fn_law (T : Top K mg) {f : Addr} {fd : FuncData} (F : Fun K "law" "law" s_law f fd) : DFn P w K mg base CX0 5 f fd ["_law_script"] dsp_law := by
  have c_L_bags := c_L_bags (P := P) (w := w) (base := base) T
  have c_L_rule := c_L_rule (P := P) (w := w) (base := base) T
  have c_L_rides := c_L_rides (P := P) (w := w) (base := base) T
  have c_L_cost := c_L_cost (P := P) (w := w) (base := base) T
  have c_L_take := c_L_take (P := P) (w := w) (base := base) T
  have c_P_lengths_for := c_P_lengths_for (P := P) (w := w) (base := base) T
  have c_L_same := c_L_same (P := P) (w := w) (base := base) T
  refine dok F sc_law l_law (fun cdv A outer s H E hr => ?_)
  have hu := hr.units
  exact ⟨_, d_law, (xss_cons (xs_for PassesOwn.never rfl (xi_seq (x_callC c_L_bags hr (by decide) (by rfl) pass0 (xa_cons (xv 0) (xa_cons x_int xa_nil)))) (xg_name (i := 1) sc_law.nd rfl (Or.inl rfl)) (xss_cons (xs_asg (x_callC c_L_rule hr (by decide) (by rfl) pass0 (xa_cons (xv 1) xa_nil)) (xg_tupK (K := K) rfl (xgs_cons (xg_name (i := 2) sc_law.nd rfl (Or.inr rfl)) (xgs_cons (xg_name (i := 3) sc_law.nd rfl (Or.inl rfl)) (xgs_cons (xg_name (i := 4) sc_law.nd rfl (Or.inr rfl)) xgs_nil)))))
    (xss_cons (xs_set false (i := 5) sc_law.nd rfl (Or.inr rfl) (x_callC c_L_rides hr (by decide) (by rfl) pass0 (xa_cons (xv 1) (xa_cons x_int (xa_cons (x_tup (xa_cons (xv 2) (xa_cons (xv 3) (xa_cons (xv 4) xa_nil)))) xa_nil)))))
    (xss_cons (xs_setLc false (i := 6) (own := [("_law_size", 10)]) rfl sc_law.nd rfl rfl (sw_true rfl rfl rfl (by decide +kernel)) (xi_rng2 (by rfl) T.n_range (xa_cons x_int (xa_cons x_int xa_nil))) (blkOk_by (own := [("_law_size", 10)]) (N := names_law) (sc := defScope s_law) (by decide +kernel)) (fun _ _ _ _ _ => (xg_name (i := 10) sc_law.nd rfl (Or.inl rfl))) (fun _ _ _ _ _ => xts_nil) (fun _ _ _ _ _ => (x_callC c_L_cost hr (by decide) (by rfl) pass0 (xa_cons (x_tup (xa_cons (xv 2) (xa_cons (xv 10) (xa_cons (xv 4) xa_nil)))) (xa_cons (xv 5) xa_nil)))))
    (xss_cons (xs_if (xt_cmp (o_neK hu (K := K)) (xv 6) (x_revL (x_callB (c_sort (K := K)) (by rfl) T.n_sorted PyProof.Rows.boot_sorted (xa_cons (xv 6) xa_nil)))) (xss_one (xs_ret x_bl)) xss_nil)
    (xss_one (xs_for PassesOwn.never rfl (xi_seq (x_tup (xa_cons (x_ix (o_ixK (K := K)) (xv 6) x_int) (xa_cons (x_ix (o_ixK (K := K)) (xv 6) (x_neg x_int)) (xa_cons (x_ix (o_ixK (K := K)) (xv 6) (x_op o_sub (xv 3) x_int)) (xa_cons (x_op (o_addK (K := K)) (x_ix (o_ixK (K := K)) (xv 6) (x_op o_sub (xv 3) x_int)) x_int) (xa_cons (x_callC c_L_take hr (by decide) (by rfl) pass0 (xa_cons (xv 1) (xa_cons x_int xa_nil))) xa_nil))))))) (xg_name (i := 7) sc_law.nd rfl (Or.inr rfl)) (xss_cons (xs_setLc false (i := 8) (own := [("_law_at", 11), ("_law_money_so", 12)]) rfl sc_law.nd rfl rfl (sw_true rfl rfl rfl (by decide +kernel)) (xi_enum (by rfl) T.n_enumerate (xa_cons (xv 6) xa_nil)) (blkOk_by (own := [("_law_at", 11), ("_law_money_so", 12)]) (N := names_law) (sc := defScope s_law) (by decide +kernel)) (fun _ _ _ _ _ => (xg_tupK (K := K) rfl (xgs_cons (xg_name (i := 11) sc_law.nd rfl (Or.inl rfl)) (xgs_cons (xg_name (i := 12) sc_law.nd rfl (Or.inl rfl)) xgs_nil)))) (fun _ _ _ _ _ => (xts_one (xt_cmp (o_eqK hu (K := K)) (xv 12) (xv 7)))) (fun _ _ _ _ _ => (x_op (o_addK (K := K)) (xv 11) x_int)))
    (xss_cons (xs_set false (i := 9) sc_law.nd rfl (Or.inl rfl) (x_if (xt_cmp (o_neK hu (K := K)) (xv 8) (x_lst xa_nil)) (x_tup (xa_cons (x_ix (o_ixK (K := K)) (xv 8) x_int) (xa_cons (x_ix (o_ixK (K := K)) (xv 8) (x_neg x_int)) xa_nil))) x_non))
    (xss_cons (xs_if (xt_not (xt_val (x_callC c_L_same hr (by decide) (by rfl) pass0 (xa_cons (x_callC c_P_lengths_for hr (by decide) (by rfl) pass0 (xa_cons (xv 2) (xa_cons (xv 4) (xa_cons (xv 5) (xa_cons (xv 7) xa_nil))))) (xa_cons (xv 9) xa_nil))))) (xss_one (xs_ret x_bl)) xss_nil)
    (xss_one (xs_if (XW.xt (xw_and (xt_cmp (o_neK hu (K := K)) (xv 8) (x_lst xa_nil)) (xw_and1 (xt_cmp (o_neK hu (K := K)) (x_callB (c_lenK (K := K)) (by rfl) T.n_len PySem.boot_len (xa_cons (xv 8) xa_nil)) (x_op (o_addK (K := K)) (x_op o_sub (x_ix (o_ixK (K := K)) (xv 8) (x_neg x_int)) (x_ix (o_ixK (K := K)) (xv 8) x_int)) x_int))))) (xss_one (xs_ret x_bl)) xss_nil))))))))))))
    (xss_one (xs_ret (x_and (x_cmp (o_eqK hu (K := K)) (x_callC c_P_lengths_for hr (by decide) (by rfl) pass0 (xa_cons x_int (xa_cons x_non (xa_cons (x_tup (xa_cons x_int (xa_cons x_int (xa_cons x_int xa_nil)))) (xa_cons x_int xa_nil))))) (x_tup (xa_cons x_int (xa_cons x_int xa_nil)))) (x_one (x_cmp (o_eqK hu (K := K)) (x_callC c_P_lengths_for hr (by decide) (by rfl) pass0 (xa_cons x_int (xa_cons x_non (xa_cons (x_tup xa_nil) (xa_cons x_int xa_nil))))) (x_tup (xa_cons x_int (xa_cons x_int xa_nil))))))))), r_law⟩
end

instance tabn : TabNames := ⟨fun _ => ""⟩
theorem all_mk {l : PySem.W.OpenLaw} {w : World} {K : PySem.W.Frag} {h : Heap} {mg : Str → Option Value} {fa : Addr} (X : K.In h) (G : h.Ns mainGlobals mg) (hfa : mg "law" = some (.ref fa))
    {f0 : Addr} {od0 an0 : Option Addr} {sl0 : Array (Option Value)} {oc0 dc0 pm0 ct0 kV0 cd0 : Value}
    (a0 : PySem.W.nsIn K mainGlobals "in_range" = some (some (.ref f0)))
    (l0 : K.lookup f0 = some ⟨oc0, od0, .func (PySem.W.fnOf "in_range" "in_range" (defArgs s_P_in_range) (defBody s_P_in_range) (defScope s_P_in_range) .none kV0 dc0 pm0 an0 cd0 ct0), sl0⟩)
    (c0 : PySem.W.codeIn K cd0 "in_range" = true)
    (k0 : PySem.W.keepIn K (.ref f0) = true)
    {f1 : Addr} {od1 an1 : Option Addr} {sl1 : Array (Option Value)} {oc1 dc1 pm1 ct1 kV1 cd1 : Value}
    (a1 : PySem.W.nsIn K mainGlobals "is_rule" = some (some (.ref f1)))
    (l1 : K.lookup f1 = some ⟨oc1, od1, .func (PySem.W.fnOf "is_rule" "is_rule" (defArgs s_P_is_rule) (defBody s_P_is_rule) (defScope s_P_is_rule) .none kV1 dc1 pm1 an1 cd1 ct1), sl1⟩)
    (c1 : PySem.W.codeIn K cd1 "is_rule" = true)
    (k1 : PySem.W.keepIn K (.ref f1) = true)
    {f2 : Addr} {od2 an2 : Option Addr} {sl2 : Array (Option Value)} {oc2 dc2 pm2 ct2 kV2 cd2 : Value}
    (a2 : PySem.W.nsIn K mainGlobals "is_rides" = some (some (.ref f2)))
    (l2 : K.lookup f2 = some ⟨oc2, od2, .func (PySem.W.fnOf "is_rides" "is_rides" (defArgs s_P_is_rides) (defBody s_P_is_rides) (defScope s_P_is_rides) .none kV2 dc2 pm2 an2 cd2 ct2), sl2⟩)
    (c2 : PySem.W.codeIn K cd2 "is_rides" = true)
    (k2 : PySem.W.keepIn K (.ref f2) = true)
    {f3 : Addr} {od3 an3 : Option Addr} {sl3 : Array (Option Value)} {oc3 dc3 pm3 ct3 kV3 cd3 : Value}
    (a3 : PySem.W.nsIn K mainGlobals "check_rides" = some (some (.ref f3)))
    (l3 : K.lookup f3 = some ⟨oc3, od3, .func (PySem.W.fnOf "check_rides" "check_rides" (defArgs s_P_check_rides) (defBody s_P_check_rides) (defScope s_P_check_rides) .none kV3 dc3 pm3 an3 cd3 ct3), sl3⟩)
    (c3 : PySem.W.codeIn K cd3 "check_rides" = true)
    (k3 : PySem.W.keepIn K (.ref f3) = true)
    {f4 : Addr} {od4 an4 : Option Addr} {sl4 : Array (Option Value)} {oc4 dc4 pm4 ct4 kV4 cd4 : Value}
    (a4 : PySem.W.nsIn K mainGlobals "check_number" = some (some (.ref f4)))
    (l4 : K.lookup f4 = some ⟨oc4, od4, .func (PySem.W.fnOf "check_number" "check_number" (defArgs s_P_check_number) (defBody s_P_check_number) (defScope s_P_check_number) .none kV4 dc4 pm4 an4 cd4 ct4), sl4⟩)
    (c4 : PySem.W.codeIn K cd4 "check_number" = true)
    (k4 : PySem.W.keepIn K (.ref f4) = true)
    {f5 : Addr} {od5 an5 : Option Addr} {sl5 : Array (Option Value)} {oc5 dc5 pm5 ct5 kV5 cd5 : Value}
    (a5 : PySem.W.nsIn K mainGlobals "bought_of" = some (some (.ref f5)))
    (l5 : K.lookup f5 = some ⟨oc5, od5, .func (PySem.W.fnOf "bought_of" "bought_of" (defArgs s_P_bought_of) (defBody s_P_bought_of) (defScope s_P_bought_of) .none kV5 dc5 pm5 an5 cd5 ct5), sl5⟩)
    (c5 : PySem.W.codeIn K cd5 "bought_of" = true)
    (k5 : PySem.W.keepIn K (.ref f5) = true)
    {f6 : Addr} {od6 an6 : Option Addr} {sl6 : Array (Option Value)} {oc6 dc6 pm6 ct6 kV6 cd6 : Value}
    (a6 : PySem.W.nsIn K mainGlobals "money" = some (some (.ref f6)))
    (l6 : K.lookup f6 = some ⟨oc6, od6, .func (PySem.W.fnOf "money" "money" (defArgs s_P_money) (defBody s_P_money) (defScope s_P_money) .none kV6 dc6 pm6 an6 cd6 ct6), sl6⟩)
    (c6 : PySem.W.codeIn K cd6 "money" = true)
    (k6 : PySem.W.keepIn K (.ref f6) = true)
    {f7 : Addr} {od7 an7 : Option Addr} {sl7 : Array (Option Value)} {oc7 dc7 pm7 ct7 kV7 cd7 : Value}
    (a7 : PySem.W.nsIn K mainGlobals "cost_of" = some (some (.ref f7)))
    (l7 : K.lookup f7 = some ⟨oc7, od7, .func (PySem.W.fnOf "cost_of" "cost_of" (defArgs s_P_cost_of) (defBody s_P_cost_of) (defScope s_P_cost_of) .none kV7 dc7 pm7 an7 cd7 ct7), sl7⟩)
    (c7 : PySem.W.codeIn K cd7 "cost_of" = true)
    (k7 : PySem.W.keepIn K (.ref f7) = true)
    {f8 : Addr} {od8 an8 : Option Addr} {sl8 : Array (Option Value)} {oc8 dc8 pm8 ct8 kV8 cd8 : Value}
    (a8 : PySem.W.nsIn K mainGlobals "lengths_for" = some (some (.ref f8)))
    (l8 : K.lookup f8 = some ⟨oc8, od8, .func (PySem.W.fnOf "lengths_for" "lengths_for" (defArgs s_P_lengths_for) (defBody s_P_lengths_for) (defScope s_P_lengths_for) .none kV8 dc8 pm8 an8 cd8 ct8), sl8⟩)
    (c8 : PySem.W.codeIn K cd8 "lengths_for" = true)
    (k8 : PySem.W.keepIn K (.ref f8) = true)
    {f9 : Addr} {od9 an9 : Option Addr} {sl9 : Array (Option Value)} {oc9 dc9 pm9 ct9 kV9 cd9 : Value}
    (a9 : PySem.W.nsIn K mainGlobals "_law_well" = some (some (.ref f9)))
    (l9 : K.lookup f9 = some ⟨oc9, od9, .func (PySem.W.fnOf "_law_well" "_law_well" (defArgs s_L_well) (defBody s_L_well) (defScope s_L_well) .none kV9 dc9 pm9 an9 cd9 ct9), sl9⟩)
    (c9 : PySem.W.codeIn K cd9 "_law_well" = true)
    (k9 : PySem.W.keepIn K (.ref f9) = true)
    {f10 : Addr} {od10 an10 : Option Addr} {sl10 : Array (Option Value)} {oc10 dc10 pm10 ct10 kV10 cd10 : Value}
    (a10 : PySem.W.nsIn K mainGlobals "_law_take" = some (some (.ref f10)))
    (l10 : K.lookup f10 = some ⟨oc10, od10, .func (PySem.W.fnOf "_law_take" "_law_take" (defArgs s_L_take) (defBody s_L_take) (defScope s_L_take) .none kV10 dc10 pm10 an10 cd10 ct10), sl10⟩)
    (c10 : PySem.W.codeIn K cd10 "_law_take" = true)
    (k10 : PySem.W.keepIn K (.ref f10) = true)
    {f11 : Addr} {od11 an11 : Option Addr} {sl11 : Array (Option Value)} {oc11 dc11 pm11 ct11 kV11 cd11 : Value}
    (a11 : PySem.W.nsIn K mainGlobals "_law_bags" = some (some (.ref f11)))
    (l11 : K.lookup f11 = some ⟨oc11, od11, .func (PySem.W.fnOf "_law_bags" "_law_bags" (defArgs s_L_bags) (defBody s_L_bags) (defScope s_L_bags) .none kV11 dc11 pm11 an11 cd11 ct11), sl11⟩)
    (c11 : PySem.W.codeIn K cd11 "_law_bags" = true)
    (k11 : PySem.W.keepIn K (.ref f11) = true)
    {f12 : Addr} {od12 an12 : Option Addr} {sl12 : Array (Option Value)} {oc12 dc12 pm12 ct12 kV12 cd12 : Value}
    (a12 : PySem.W.nsIn K mainGlobals "_law_same" = some (some (.ref f12)))
    (l12 : K.lookup f12 = some ⟨oc12, od12, .func (PySem.W.fnOf "_law_same" "_law_same" (defArgs s_L_same) (defBody s_L_same) (defScope s_L_same) .none kV12 dc12 pm12 an12 cd12 ct12), sl12⟩)
    (c12 : PySem.W.codeIn K cd12 "_law_same" = true)
    (k12 : PySem.W.keepIn K (.ref f12) = true)
    {f13 : Addr} {od13 an13 : Option Addr} {sl13 : Array (Option Value)} {oc13 dc13 pm13 ct13 kV13 cd13 : Value}
    (a13 : PySem.W.nsIn K mainGlobals "_law_rule" = some (some (.ref f13)))
    (l13 : K.lookup f13 = some ⟨oc13, od13, .func (PySem.W.fnOf "_law_rule" "_law_rule" (defArgs s_L_rule) (defBody s_L_rule) (defScope s_L_rule) .none kV13 dc13 pm13 an13 cd13 ct13), sl13⟩)
    (c13 : PySem.W.codeIn K cd13 "_law_rule" = true)
    (k13 : PySem.W.keepIn K (.ref f13) = true)
    {f14 : Addr} {od14 an14 : Option Addr} {sl14 : Array (Option Value)} {oc14 dc14 pm14 ct14 kV14 cd14 : Value}
    (a14 : PySem.W.nsIn K mainGlobals "_law_rides" = some (some (.ref f14)))
    (l14 : K.lookup f14 = some ⟨oc14, od14, .func (PySem.W.fnOf "_law_rides" "_law_rides" (defArgs s_L_rides) (defBody s_L_rides) (defScope s_L_rides) .none kV14 dc14 pm14 an14 cd14 ct14), sl14⟩)
    (c14 : PySem.W.codeIn K cd14 "_law_rides" = true)
    (k14 : PySem.W.keepIn K (.ref f14) = true)
    {f15 : Addr} {od15 an15 : Option Addr} {sl15 : Array (Option Value)} {oc15 dc15 pm15 ct15 kV15 cd15 : Value}
    (a15 : PySem.W.nsIn K mainGlobals "_law_bought" = some (some (.ref f15)))
    (l15 : K.lookup f15 = some ⟨oc15, od15, .func (PySem.W.fnOf "_law_bought" "_law_bought" (defArgs s_L_bought) (defBody s_L_bought) (defScope s_L_bought) .none kV15 dc15 pm15 an15 cd15 ct15), sl15⟩)
    (c15 : PySem.W.codeIn K cd15 "_law_bought" = true)
    (k15 : PySem.W.keepIn K (.ref f15) = true)
    {f16 : Addr} {od16 an16 : Option Addr} {sl16 : Array (Option Value)} {oc16 dc16 pm16 ct16 kV16 cd16 : Value}
    (a16 : PySem.W.nsIn K mainGlobals "_law_money" = some (some (.ref f16)))
    (l16 : K.lookup f16 = some ⟨oc16, od16, .func (PySem.W.fnOf "_law_money" "_law_money" (defArgs s_L_money) (defBody s_L_money) (defScope s_L_money) .none kV16 dc16 pm16 an16 cd16 ct16), sl16⟩)
    (c16 : PySem.W.codeIn K cd16 "_law_money" = true)
    (k16 : PySem.W.keepIn K (.ref f16) = true)
    {f17 : Addr} {od17 an17 : Option Addr} {sl17 : Array (Option Value)} {oc17 dc17 pm17 ct17 kV17 cd17 : Value}
    (a17 : PySem.W.nsIn K mainGlobals "_law_cost" = some (some (.ref f17)))
    (l17 : K.lookup f17 = some ⟨oc17, od17, .func (PySem.W.fnOf "_law_cost" "_law_cost" (defArgs s_L_cost) (defBody s_L_cost) (defScope s_L_cost) .none kV17 dc17 pm17 an17 cd17 ct17), sl17⟩)
    (c17 : PySem.W.codeIn K cd17 "_law_cost" = true)
    (k17 : PySem.W.keepIn K (.ref f17) = true)
    {f18 : Addr} {od18 an18 : Option Addr} {sl18 : Array (Option Value)} {oc18 dc18 pm18 ct18 kV18 cd18 : Value}
    (a18 : PySem.W.nsIn K mainGlobals "law" = some (some (.ref f18)))
    (l18 : K.lookup f18 = some ⟨oc18, od18, .func (PySem.W.fnOf "law" "law" (defArgs s_law) (defBody s_law) (defScope s_law) .none kV18 dc18 pm18 an18 cd18 ct18), sl18⟩)
    (c18 : PySem.W.codeIn K cd18 "law" = true)
    (k18 : PySem.W.keepIn K (.ref f18) = true)
    {t_0 : Tok}
    (g0 : PySem.W.nsIn K mainGlobals "DAY" = some (some (.int 1440 t_0)))
    {t_1 : Tok}
    (g1 : PySem.W.nsIn K mainGlobals "MOST_PRICE" = some (some (.int 1000 t_1)))
    {t_2 : Tok}
    (g2 : PySem.W.nsIn K mainGlobals "MOST_CAP" = some (some (.int 1000000 t_2)))
    {t_3 : Tok}
    (g3 : PySem.W.nsIn K mainGlobals "MOST_RIDES" = some (some (.int 60 t_3)))
    {t_4 : Tok}
    (g4 : PySem.W.nsIn K mainGlobals "MOST_PAID" = some (some (.int 10000000 t_4)))
    (z0 : PySem.W.nsIn K mainGlobals "all" = some none)
    (z1 : PySem.W.nsIn K mainGlobals "bool" = some none)
    (z2 : PySem.W.nsIn K mainGlobals "enumerate" = some none)
    (z3 : PySem.W.nsIn K mainGlobals "int" = some none)
    (z4 : PySem.W.nsIn K mainGlobals "isinstance" = some none)
    (z5 : PySem.W.nsIn K mainGlobals "len" = some none)
    (z6 : PySem.W.nsIn K mainGlobals "list" = some none)
    (z7 : PySem.W.nsIn K mainGlobals "max" = some none)
    (z8 : PySem.W.nsIn K mainGlobals "min" = some none)
    (z9 : PySem.W.nsIn K mainGlobals "range" = some none)
    (z10 : PySem.W.nsIn K mainGlobals "sorted" = some none)
    (z11 : PySem.W.nsIn K mainGlobals "str" = some none)
    (z12 : PySem.W.nsIn K mainGlobals "tuple" = some none)
    (z13 : PySem.W.nsIn K mainGlobals "zip" = some none)
    : ∃ fd : FuncData, (∀ (s : Shared) (v : Value), BindsTo s fd ⟨[v], []⟩ [("_law_script", v)]) ∧ ∀ base : Heap, K.In base → base.Ns mainGlobals mg → DFn l.prog w K mg base CX0 5 fa fd ["_law_script"] dsp_law := by
  have e := hfa.symm.trans (PySem.W.mg_of X G a18)
  cases e
  have T : Top K mg := {
    f_P_in_range := ⟨_, _, fun_mk (st := s_P_in_range) l0 c0 k0, PySem.W.mg_of X G a0⟩
    f_P_is_rule := ⟨_, _, fun_mk (st := s_P_is_rule) l1 c1 k1, PySem.W.mg_of X G a1⟩
    f_P_is_rides := ⟨_, _, fun_mk (st := s_P_is_rides) l2 c2 k2, PySem.W.mg_of X G a2⟩
    f_P_check_rides := ⟨_, _, fun_mk (st := s_P_check_rides) l3 c3 k3, PySem.W.mg_of X G a3⟩
    f_P_check_number := ⟨_, _, fun_mk (st := s_P_check_number) l4 c4 k4, PySem.W.mg_of X G a4⟩
    f_P_bought_of := ⟨_, _, fun_mk (st := s_P_bought_of) l5 c5 k5, PySem.W.mg_of X G a5⟩
    f_P_money := ⟨_, _, fun_mk (st := s_P_money) l6 c6 k6, PySem.W.mg_of X G a6⟩
    f_P_cost_of := ⟨_, _, fun_mk (st := s_P_cost_of) l7 c7 k7, PySem.W.mg_of X G a7⟩
    f_P_lengths_for := ⟨_, _, fun_mk (st := s_P_lengths_for) l8 c8 k8, PySem.W.mg_of X G a8⟩
    f_L_well := ⟨_, _, fun_mk (st := s_L_well) l9 c9 k9, PySem.W.mg_of X G a9⟩
    f_L_take := ⟨_, _, fun_mk (st := s_L_take) l10 c10 k10, PySem.W.mg_of X G a10⟩
    f_L_bags := ⟨_, _, fun_mk (st := s_L_bags) l11 c11 k11, PySem.W.mg_of X G a11⟩
    f_L_same := ⟨_, _, fun_mk (st := s_L_same) l12 c12 k12, PySem.W.mg_of X G a12⟩
    f_L_rule := ⟨_, _, fun_mk (st := s_L_rule) l13 c13 k13, PySem.W.mg_of X G a13⟩
    f_L_rides := ⟨_, _, fun_mk (st := s_L_rides) l14 c14 k14, PySem.W.mg_of X G a14⟩
    f_L_bought := ⟨_, _, fun_mk (st := s_L_bought) l15 c15 k15, PySem.W.mg_of X G a15⟩
    f_L_money := ⟨_, _, fun_mk (st := s_L_money) l16 c16 k16, PySem.W.mg_of X G a16⟩
    f_L_cost := ⟨_, _, fun_mk (st := s_L_cost) l17 c17 k17, PySem.W.mg_of X G a17⟩
    f_law := ⟨_, _, fun_mk (st := s_law) l18 c18 k18, PySem.W.mg_of X G a18⟩
    g_DAY := ⟨_, PySem.W.mg_of X G g0⟩
    g_MOST_PRICE := ⟨_, PySem.W.mg_of X G g1⟩
    g_MOST_CAP := ⟨_, PySem.W.mg_of X G g2⟩
    g_MOST_RIDES := ⟨_, PySem.W.mg_of X G g3⟩
    g_MOST_PAID := ⟨_, PySem.W.mg_of X G g4⟩
    n_all := PySem.W.mg_none_of X G z0
    n_bool := PySem.W.mg_none_of X G z1
    n_enumerate := PySem.W.mg_none_of X G z2
    n_int := PySem.W.mg_none_of X G z3
    n_isinstance := PySem.W.mg_none_of X G z4
    n_len := PySem.W.mg_none_of X G z5
    n_list := PySem.W.mg_none_of X G z6
    n_max := PySem.W.mg_none_of X G z7
    n_min := PySem.W.mg_none_of X G z8
    n_range := PySem.W.mg_none_of X G z9
    n_sorted := PySem.W.mg_none_of X G z10
    n_str := PySem.W.mg_none_of X G z11
    n_tuple := PySem.W.mg_none_of X G z12
    n_zip := PySem.W.mg_none_of X G z13
  }
  refine ⟨PySem.W.fnOf "law" "law" (defArgs s_law) (defBody s_law) (defScope s_law) .none kV18 dc18 pm18 an18 cd18 ct18, fun s v => .of_eq rfl, fun base _ _ => ?_⟩
  exact fn_law T (fun_mk (st := s_law) l18 c18 k18)
end LAW
open PySem PySem.W PyProof.Rows
set_option maxHeartbeats 0 in
theorem PySem.Challenge.cw_ridetickets_k17_whole_lengths_from_what_holds : PySem.Challenge.rw_ridetickets_k17_whole_lengths_from_what.Holds := by
  w_on; o_law; k_head; (case hw => w_witness2)
  k_fill
  refine L2.walk_ofK (l := PySem.Challenge.rw_ridetickets_k17_whole_lengths_from_what) (n := 63) (k := 5) (x := "_law_script") (CX := L2.CX0) (sp := fun K => DL.lift K LAW.dsp_law) rfl (by decide) rfl ⟨rfl, by decide, by decide⟩ (fun w h Y => PySem.W.kIn_of Y) ?F (fun K H a ns hl ho hS => LAW.end_law hl ho hS) (fun _ _ _ _ h => h)
  case F =>
    intro w mg fa h KX G hmg
    refine' LAW.all_mk KX G hmg ?qa0 ?ql0 ?qc0 ?qk0 ?qa1 ?ql1 ?qc1 ?qk1 ?qa2 ?ql2 ?qc2 ?qk2 ?qa3 ?ql3 ?qc3 ?qk3 ?qa4 ?ql4 ?qc4 ?qk4 ?qa5 ?ql5 ?qc5 ?qk5 ?qa6 ?ql6 ?qc6 ?qk6 ?qa7 ?ql7 ?qc7 ?qk7 ?qa8 ?ql8 ?qc8 ?qk8 ?qa9 ?ql9 ?qc9 ?qk9 ?qa10 ?ql10 ?qc10 ?qk10 ?qa11 ?ql11 ?qc11 ?qk11 ?qa12 ?ql12 ?qc12 ?qk12 ?qa13 ?ql13 ?qc13 ?qk13 ?qa14 ?ql14 ?qc14 ?qk14 ?qa15 ?ql15 ?qc15 ?qk15 ?qa16 ?ql16 ?qc16 ?qk16 ?qa17 ?ql17 ?qc17 ?qk17 ?qa18 ?ql18 ?qc18 ?qk18 ?qg0 ?qg1 ?qg2 ?qg3 ?qg4 ?qz0 ?qz1 ?qz2 ?qz3 ?qz4 ?qz5 ?qz6 ?qz7 ?qz8 ?qz9 ?qz10 ?qz11 ?qz12 ?qz13
    (case qa0 => k_is)
    (case ql0 => k_is)
    (case qc0 => k_is)
    (case qk0 => k_is)
    (case qa1 => k_is)
    (case ql1 => k_is)
    (case qc1 => k_is)
    (case qk1 => k_is)
    (case qa2 => k_is)
    (case ql2 => k_is)
    (case qc2 => k_is)
    (case qk2 => k_is)
    (case qa3 => k_is)
    (case ql3 => k_is)
    (case qc3 => k_is)
    (case qk3 => k_is)
    (case qa4 => k_is)
    (case ql4 => k_is)
    (case qc4 => k_is)
    (case qk4 => k_is)
    (case qa5 => k_is)
    (case ql5 => k_is)
    (case qc5 => k_is)
    (case qk5 => k_is)
    (case qa6 => k_is)
    (case ql6 => k_is)
    (case qc6 => k_is)
    (case qk6 => k_is)
    (case qa7 => k_is)
    (case ql7 => k_is)
    (case qc7 => k_is)
    (case qk7 => k_is)
    (case qa8 => k_is)
    (case ql8 => k_is)
    (case qc8 => k_is)
    (case qk8 => k_is)
    (case qa9 => k_is)
    (case ql9 => k_is)
    (case qc9 => k_is)
    (case qk9 => k_is)
    (case qa10 => k_is)
    (case ql10 => k_is)
    (case qc10 => k_is)
    (case qk10 => k_is)
    (case qa11 => k_is)
    (case ql11 => k_is)
    (case qc11 => k_is)
    (case qk11 => k_is)
    (case qa12 => k_is)
    (case ql12 => k_is)
    (case qc12 => k_is)
    (case qk12 => k_is)
    (case qa13 => k_is)
    (case ql13 => k_is)
    (case qc13 => k_is)
    (case qk13 => k_is)
    (case qa14 => k_is)
    (case ql14 => k_is)
    (case qc14 => k_is)
    (case qk14 => k_is)
    (case qa15 => k_is)
    (case ql15 => k_is)
    (case qc15 => k_is)
    (case qk15 => k_is)
    (case qa16 => k_is)
    (case ql16 => k_is)
    (case qc16 => k_is)
    (case qk16 => k_is)
    (case qa17 => k_is)
    (case ql17 => k_is)
    (case qc17 => k_is)
    (case qk17 => k_is)
    (case qa18 => k_is)
    (case ql18 => k_is)
    (case qc18 => k_is)
    (case qk18 => k_is)
    (case qg0 => k_is)
    (case qg1 => k_is)
    (case qg2 => k_is)
    (case qg3 => k_is)
    (case qg4 => k_is)
    (case qz0 => k_is)
    (case qz1 => k_is)
    (case qz2 => k_is)
    (case qz3 => k_is)
    (case qz4 => k_is)
    (case qz5 => k_is)
    (case qz6 => k_is)
    (case qz7 => k_is)
    (case qz8 => k_is)
    (case qz9 => k_is)
    (case qz10 => k_is)
    (case qz11 => k_is)
    (case qz12 => k_is)
    (case qz13 => k_is)

