import PyProof.Rows.All
import Wide.All
import OpenK.AllK
import Wide.FinOn
import HandS.ForMost
import HandS.AnyAll
import HandS.ForExc
import HandS.TupAny
import HandS.TupMul
import HandS.Deep
import HandS.Wide
import HandS.Style
import HandS.IsInst
import HandS.Rev
import HandS.Zip
import KE.GoesMore
import KE.GoesEnum
import HandS.Conv
import KE.KRevIter
import HandS.GenList
import HandS.Star
import HandS.Head2
import HandS.HeadHook4
import HandS.HeadWalk
import HandS.HeadEnd
import HandS.NestedK
import HandS.EndTab
import HandS.Head0
import HandS.Head1
import PySem.Challenge.RW_guestsheld_k91_whole_stars_among_guests
set_option Elab.async false
set_option linter.all false
set_option maxRecDepth 100000
set_option maxHeartbeats 0
/-! PF1: programs as functions over data: cells, what owns what, steps of the heap. -/
namespace PF
open PySem L2

abbrev D := PyData

/-- what a name holds: data that nobody changes any more; a list of one's own; dicts of one's own -/
inductive Cell where
  | fz (d : D)
  | ol (cs : List Cell)
  | dk (kvs : List (Key × Cell))
  | dt (kvs : List (List Key × Cell))

mutual
def Cell.d : Cell → D
  | .fz d => d
  | .ol cs => .list (Cell.ds cs)
  | .dk _ => .none
  | .dt _ => .none
def Cell.ds : List Cell → List D
  | [] => []
  | c :: cs => c.d :: Cell.ds cs
end
mutual
/-- no dict within -/
def Cell.nd : Cell → Bool
  | .fz _ => true
  | .ol cs => Cell.nds cs
  | .dk _ => false
  | .dt _ => false
def Cell.nds : List Cell → Bool
  | [] => true
  | c :: cs => c.nd && Cell.nds cs
end
def Cell.isFz : Cell → Bool
  | .fz _ => true
  | _ => false
/-- data, or a list of data -/
def Cell.flat : Cell → Bool
  | .fz _ => true
  | .ol cs => cs.all Cell.isFz
  | _ => false

theorem ds_eq_map : ∀ cs : List Cell, Cell.ds cs = cs.map Cell.d
  | [] => rfl
  | c :: cs => by rw [Cell.ds, ds_eq_map cs, List.map_cons]
theorem ds_fz (ds : List D) : Cell.ds (ds.map Cell.fz) = ds := by
  rw [ds_eq_map, List.map_map]
  exact (List.map_congr_left fun d _ => rfl).trans (List.map_id ds)
theorem nds_fz (ds : List D) : Cell.nds (ds.map Cell.fz) = true := by
  induction ds with
  | nil => rfl
  | cons d ds ih => exact ih
theorem all_fz : ∀ {cs : List Cell}, cs.all Cell.isFz = true → ∃ ds : List D, cs = ds.map Cell.fz
  | [], _ => ⟨[], rfl⟩
  | c :: cs, h => by
    rw [List.all_cons, Bool.and_eq_true] at h
    obtain ⟨ds, e⟩ := all_fz h.2
    cases c with
    | fz d => exact ⟨d :: ds, by rw [e]; rfl⟩
    | _ => exact absurd h.1 (by simp [Cell.isFz])
theorem flat_nd : ∀ {c : Cell}, c.flat = true → c.nd = true := by
  intro c h
  cases c with
  | fz d => rfl
  | ol cs =>
    obtain ⟨ds, rfl⟩ := all_fz (show cs.all Cell.isFz = true from h)
    exact nds_fz ds
  | dk _ => exact absurd h (by simp [Cell.flat])
  | dt _ => exact absurd h (by simp [Cell.flat])
theorem flat_cases {c : Cell} (h : c.flat = true) : (∃ d, c = .fz d) ∨ ∃ ds : List D, c = .ol (ds.map Cell.fz) := by
  cases c with
  | fz d => exact .inl ⟨d, rfl⟩
  | ol cs =>
    obtain ⟨ds, rfl⟩ := all_fz (show cs.all Cell.isFz = true from h)
    exact .inr ⟨ds, rfl⟩
  | dk _ => exact absurd h (by simp [Cell.flat])
  | dt _ => exact absurd h (by simp [Cell.flat])

/-! ### data in the heap -/
mutual
/-- a value is data; its lists are no constants of the module -/
inductive Dq (K : PySem.W.Frag) (F : Hp) : V → D → Prop
  | non : Dq K F .non .none
  | bl (b : Bool) : Dq K F (.bl b) (.bool b)
  | int (i : Int) : Dq K F (.int i) (.int i)
  | str (x : Str) : Dq K F (.str x) (.str x)
  | lst {a : Addr} {vs : List V} {ds : List D} : Rd F a (.lst vs) → DqAll K F vs ds → Dq K F (.ref a) (.list ds)
  | tup {a : Addr} {vs : List V} {ds : List D} : SqT K F a vs → DqAll K F vs ds → Dq K F (.ref a) (.tuple ds)
inductive DqAll (K : PySem.W.Frag) (F : Hp) : List V → List D → Prop
  | nil : DqAll K F [] []
  | cons {v : V} {vs : List V} {d : D} {ds : List D} : Dq K F v d → DqAll K F vs ds → DqAll K F (v :: vs) (d :: ds)
end
section
variable {K : PySem.W.Frag} {F F' H H' : Hp}
mutual
theorem dp_mono (e : Same F F') : ∀ {v : V} {d : D}, Dq K F v d → Dq K F' v d
  | _, _, .non => .non
  | _, _, .bl b => .bl b
  | _, _, .int i => .int i
  | _, _, .str x => .str x
  | _, _, .lst h a => .lst (h.elim (fun h => .inl (e _ _ h)) fun ⟨o, h⟩ => .inr ⟨o, e _ _ h⟩) (dps_mono e a)
  | _, _, .tup h a => .tup (by
      rcases h with (h | ⟨o, h⟩) | h
      · exact .inl (.inl (e _ _ h))
      · exact .inl (.inr ⟨o, e _ _ h⟩)
      · exact .inr h) (dps_mono e a)
theorem dps_mono (e : Same F F') : ∀ {vs : List V} {ds : List D}, DqAll K F vs ds → DqAll K F' vs ds
  | _, _, .nil => .nil
  | _, _, .cons a b => .cons (dp_mono e a) (dps_mono e b)
end
mutual
theorem Dq.dp : ∀ {v : V} {d : D}, Dq K F v d → Dp K F v d
  | _, _, .non => .non
  | _, _, .bl b => .bl b
  | _, _, .int i => .int i
  | _, _, .str x => .str x
  | _, _, .lst h a => .lst (.inl h) (DqAll.dp a)
  | _, _, .tup h a => .tup h (DqAll.dp a)
theorem DqAll.dp : ∀ {vs : List V} {ds : List D}, DqAll K F vs ds → DpAll K F vs ds
  | _, _, .nil => .nil
  | _, _, .cons a b => .cons (Dq.dp a) (DqAll.dp b)
end
theorem dps_length : ∀ {vs : List V} {ds : List D}, DqAll K F vs ds → vs.length = ds.length
  | _, _, .nil => rfl
  | _, _, .cons _ b => congrArg (· + 1) (dps_length b)
theorem dps_get : ∀ {vs : List V} {ds : List D} {i : Nat} {d : D}, DqAll K F vs ds → ds[i]? = some d → ∃ v, vs[i]? = some v ∧ Dq K F v d
  | _, _, _, _, .nil, h => by simp at h
  | _, _, 0, _, .cons a _, h => by simp at h; subst h; exact ⟨_, rfl, a⟩
  | _, _, i + 1, _, .cons _ b, h => by
    obtain ⟨v, e, r⟩ := dps_get (i := i) b (by simpa using h)
    exact ⟨v, by simpa using e, r⟩
theorem dps_getV : ∀ {vs : List V} {ds : List D} {i : Nat} {v : V}, DqAll K F vs ds → vs[i]? = some v → ∃ d, ds[i]? = some d ∧ Dq K F v d
  | _, _, _, _, .nil, h => by simp at h
  | _, _, 0, _, .cons a _, h => by simp at h; subst h; exact ⟨_, rfl, a⟩
  | _, _, i + 1, _, .cons _ b, h => by
    obtain ⟨v, e, r⟩ := dps_getV (i := i) b (by simpa using h)
    exact ⟨v, by simpa using e, r⟩
theorem dps_append : ∀ {vs ws : List V} {ds es : List D}, DqAll K F vs ds → DqAll K F ws es → DqAll K F (vs ++ ws) (ds ++ es)
  | _, _, _, _, .nil, h => h
  | _, _, _, _, .cons a b, h => .cons a (dps_append b h)
theorem dps_take : ∀ {vs : List V} {ds : List D} (n : Nat), DqAll K F vs ds → DqAll K F (vs.take n) (ds.take n)
  | _, _, 0, _ => .nil
  | _, _, _ + 1, .nil => .nil
  | _, _, n + 1, .cons a b => .cons a (dps_take n b)
theorem dps_drop : ∀ {vs : List V} {ds : List D} (n : Nat), DqAll K F vs ds → DqAll K F (vs.drop n) (ds.drop n)
  | _, _, 0, h => h
  | _, _, _ + 1, .nil => .nil
  | _, _, n + 1, .cons _ b => dps_drop n b
theorem dps_reverse {vs : List V} {ds : List D} (h : DqAll K F vs ds) : DqAll K F vs.reverse ds.reverse := by
  induction vs generalizing ds with
  | nil => cases h; exact .nil
  | cons v vs ih =>
    cases h with
    | cons a b =>
      rw [List.reverse_cons, List.reverse_cons]
      exact dps_append (ih b) (.cons a .nil)

/-- a cell stands in the heap; its own addresses -/
inductive RepC (K : PySem.W.Frag) (F H : Hp) : Cell → V → List Addr → Prop
  | fz {d : D} {v : V} : Dq K F v d → RepC K F H (.fz d) v []
  | ol {cs : List Cell} {l : Addr} {vs : List V} {fs : List (List Addr)} : H l = some (.lst vs) → F l = none → cs.length = vs.length → fs.length = vs.length →
      (∀ (i : Nat) (c : Cell) (v : V) (f : List Addr), cs[i]? = some c → vs[i]? = some v → fs[i]? = some f → RepC K F H c v f) → RepC K F H (.ol cs) (.ref l) (l :: fs.flatten)
  | dk {kcs : List (Key × Cell)} {l : Addr} {kvs : List (Key × V)} {fs : List (List Addr)} : H l = some (.dK kvs) → F l = none → kcs.map (·.1) = kvs.map (·.1) → fs.length = kvs.length →
      (∀ (i : Nat) (c : Key × Cell) (v : Key × V) (f : List Addr), kcs[i]? = some c → kvs[i]? = some v → fs[i]? = some f → RepC K F H c.2 v.2 f) → RepC K F H (.dk kcs) (.ref l) (l :: fs.flatten)
  | dt {kcs : List (List Key × Cell)} {l : Addr} {kvs : List (List Key × V)} {fs : List (List Addr)} : H l = some (.dT kvs) → F l = none → kcs.map (·.1) = kvs.map (·.1) → fs.length = kvs.length →
      (∀ (i : Nat) (c : List Key × Cell) (v : List Key × V) (f : List Addr), kcs[i]? = some c → kvs[i]? = some v → fs[i]? = some f → RepC K F H c.2 v.2 f) → RepC K F H (.dt kcs) (.ref l) (l :: fs.flatten)

/-- no table of codes -/
def NT (o : HO) : Prop := ∀ ps, o ≠ .tbl ps
theorem RepC.fp_some {c : Cell} {v : V} {fp : List Addr} (h : RepC K F H c v fp) : ∀ a ∈ fp, F a = none ∧ ∃ o, H a = some o ∧ NT o := by
  have fl : ∀ {n : Nat} {fs : List (List Addr)} {P : Addr → Prop}, fs.length = n → (∀ i f, i < n → fs[i]? = some f → ∀ a ∈ f, P a) → ∀ a ∈ fs.flatten, P a := fun {n fs P} hl h a ha => by
    obtain ⟨f, hf, haf⟩ := List.mem_flatten.mp ha
    obtain ⟨i, hi, e⟩ := List.getElem_of_mem hf
    exact h i f (by omega) (by rw [List.getElem?_eq_getElem hi, e]) a haf
  induction h with
  | fz _ => intro a ha; cases ha
  | @ol cs l vs fs h1 h2 h3 h4 _ ih =>
    intro a ha
    rcases List.mem_cons.mp ha with e | ha
    · subst e; exact ⟨h2, _, h1, fun _ z => by cases z⟩
    · refine fl (P := fun a => F a = none ∧ ∃ o, H a = some o ∧ NT o) h4 (fun i f hi hf a ha => ?_) a ha
      exact ih i cs[i] vs[i] f (by simp [h3, hi]) (by simp [hi]) hf a ha
  | @dk cs l vs fs h1 h2 h3 h4 _ ih =>
    intro a ha
    rcases List.mem_cons.mp ha with e | ha
    · subst e; exact ⟨h2, _, h1, fun _ z => by cases z⟩
    · have hl : cs.length = vs.length := by have := congrArg List.length h3; simpa using this
      refine fl (P := fun a => F a = none ∧ ∃ o, H a = some o ∧ NT o) h4 (fun i f hi hf a ha => ?_) a ha
      exact ih i cs[i] vs[i] f (by simp [hl, hi]) (by simp [hi]) hf a ha
  | @dt cs l vs fs h1 h2 h3 h4 _ ih =>
    intro a ha
    rcases List.mem_cons.mp ha with e | ha
    · subst e; exact ⟨h2, _, h1, fun _ z => by cases z⟩
    · have hl : cs.length = vs.length := by have := congrArg List.length h3; simpa using this
      refine fl (P := fun a => F a = none ∧ ∃ o, H a = some o ∧ NT o) h4 (fun i f hi hf a ha => ?_) a ha
      exact ih i cs[i] vs[i] f (by simp [hl, hi]) (by simp [hi]) hf a ha

theorem mem_flat {fs : List (List Addr)} {i : Nat} {f : List Addr} {a : Addr} (h : fs[i]? = some f) (ha : a ∈ f) : a ∈ fs.flatten :=
  List.mem_flatten.mpr ⟨f, List.mem_of_getElem? h, ha⟩
/-- a cell is untouched where its own addresses are -/
theorem RepC.keep {c : Cell} {v : V} {fp : List Addr} (h : RepC K F H c v fp) (hF : Same F F') (hH : ∀ a ∈ fp, ∀ o, H a = some o → H' a = some o) (hn : ∀ a ∈ fp, F' a = none) : RepC K F' H' c v fp := by
  induction h with
  | fz h => exact .fz (dp_mono hF h)
  | ol h1 h2 h3 h4 _ ih =>
    exact .ol (hH _ List.mem_cons_self _ h1) (hn _ List.mem_cons_self) h3 h4 fun i c v f e1 e2 e3 => ih i c v f e1 e2 e3 (fun a ha => hH a (List.mem_cons_of_mem _ (mem_flat e3 ha))) fun a ha => hn a (List.mem_cons_of_mem _ (mem_flat e3 ha))
  | dk h1 h2 h3 h4 _ ih =>
    exact .dk (hH _ List.mem_cons_self _ h1) (hn _ List.mem_cons_self) h3 h4 fun i c v f e1 e2 e3 => ih i c v f e1 e2 e3 (fun a ha => hH a (List.mem_cons_of_mem _ (mem_flat e3 ha))) fun a ha => hn a (List.mem_cons_of_mem _ (mem_flat e3 ha))
  | dt h1 h2 h3 h4 _ ih =>
    exact .dt (hH _ List.mem_cons_self _ h1) (hn _ List.mem_cons_self) h3 h4 fun i c v f e1 e2 e3 => ih i c v f e1 e2 e3 (fun a ha => hH a (List.mem_cons_of_mem _ (mem_flat e3 ha))) fun a ha => hn a (List.mem_cons_of_mem _ (mem_flat e3 ha))

theorem dpAll_of {vs : List V} : ∀ {ds : List D}, vs.length = ds.length → (∀ (i : Nat) (v : V) (d : D), vs[i]? = some v → ds[i]? = some d → Dq K F v d) → DqAll K F vs ds := by
  induction vs with
  | nil => intro ds h _; cases ds with | nil => exact .nil | cons _ _ => cases h
  | cons v vs ih =>
    intro ds h q
    cases ds with
    | nil => cases h
    | cons d ds => exact .cons (q 0 v d rfl rfl) (ih (by simpa using h) fun i v d h1 h2 => q (i + 1) v d (by simpa using h1) (by simpa using h2))
theorem nds_get {cs : List Cell} : ∀ {i : Nat} {c : Cell}, Cell.nds cs = true → cs[i]? = some c → c.nd = true := by
  induction cs with
  | nil => intro i c _ h; simp at h
  | cons x cs ih =>
    intro i c h e
    have h : (x.nd && Cell.nds cs) = true := h
    rw [Bool.and_eq_true] at h
    cases i with
    | zero => simp at e; subst e; exact h.1
    | succ i => exact ih h.2 (by simpa using e)
/-- as data, in a heap that has both what is frozen and its own addresses -/
theorem RepC.dp {c : Cell} {v : V} {fp : List Addr} {G : Hp} (h : RepC K F H c v fp) (hF : Same F G) (hG : ∀ a ∈ fp, ∀ o, H a = some o → G a = some o) (hn : c.nd = true) : Dq K G v c.d := by
  induction h with
  | fz h => exact dp_mono hF h
  | @ol cs l vs fs h1 h2 h3 h4 _ ih =>
    show Dq K G _ (.list (Cell.ds cs))
    refine .lst (.inl (hG _ List.mem_cons_self _ h1)) ?_
    rw [ds_eq_map]
    refine dpAll_of (by rw [List.length_map, h3]) fun i v d e1 e2 => ?_
    rw [List.getElem?_map] at e2
    have hi : i < vs.length := (List.getElem?_eq_some_iff.mp e1).1
    have ec : cs[i]? = some cs[i] := by simp [h3, hi]
    rw [ec] at e2
    cases e2
    have ef : fs[i]? = some fs[i] := by simp [h4, hi]
    exact ih i _ v _ ec e1 ef (fun a ha => hG a (List.mem_cons_of_mem _ (mem_flat ef ha))) (nds_get (cs := cs) hn ec)
  | dk => cases hn
  | dt => cases hn
end
end PF
/-! PF2: what holds of the heap between two steps; expressions as functions of what the names hold. -/
namespace PF
open PySem L2

/-! ### what a step gives: nothing known (none), an error of a class, a value -/
abbrev R (α : Type) := Option (Except Nat α)
def R.ok {α : Type} (a : α) : R α := some (.ok a)
def R.er {α : Type} (c : Nat) : R α := some (.error c)
def R.bnd {α β : Type} (r : R α) (f : α → R β) : R β := match r with
  | none => none
  | some (.error c) => some (.error c)
  | some (.ok a) => f a
def RW {α : Type} (r : R α) (ok : α → Prop) (er : Nat → Prop) : Prop := match r with
  | none => False
  | some (.error c) => er c
  | some (.ok a) => ok a
theorem RW.bnd {α β : Type} {r : R α} {f : α → R β} {ok : β → Prop} {er : Nat → Prop} (h : RW (r.bnd f) ok er) : RW r (fun a => RW (f a) ok er) er := by
  cases r with
  | none => exact h
  | some r => cases r <;> exact h
theorem RW.mk {α β : Type} {r : R α} {f : α → R β} {ok : β → Prop} {er : Nat → Prop} (h : RW r (fun a => RW (f a) ok er) er) : RW (r.bnd f) ok er := by
  cases r with
  | none => exact h
  | some r => cases r <;> exact h
theorem RW.mono {α : Type} {r : R α} {ok ok' : α → Prop} {er er' : Nat → Prop} (h : RW r ok er) (h1 : ∀ a, r = R.ok a → ok a → ok' a) (h2 : ∀ c, er c → er' c) : RW r ok' er' := by
  cases r with
  | none => exact h
  | some r =>
    cases r with
    | error c => exact h2 _ h
    | ok a => exact h1 _ rfl h

abbrev Env := List (Option Cell)
abbrev EF := Env → R (Cell × Env)

/-- the frame of all: the module, the tables of codes, what is wanted of an error -/
structure GG where
  K : PySem.W.Frag
  Ts : List Addr
  E : Nat → Hp → Prop
  pin : List (Nat × V)

/-- from (F, H, O) to (F', H', O'): F is what nobody changes any more, O what the names own -/
structure Step (Ts : List Addr) (F H : Hp) (O : List Addr) (F' H' : Hp) (O' : List Addr) : Prop where
  k : ∀ a o, H a = some o → a ∉ O → a ∉ Ts → H' a = some o
  g : ∀ a, H' a = none → H a = none
  f : Same F F'
  n : ∀ a o, F' a = some o → F a = some o ∨ a ∈ O ∨ H a = none
  o : ∀ a ∈ O', a ∈ O ∨ H a = none
theorem Step.refl {Ts : List Addr} {F H : Hp} {O : List Addr} : Step Ts F H O F H O := ⟨fun _ _ h _ _ => h, fun _ h => h, Same.refl _, fun _ _ h => .inl h, fun _ h => .inl h⟩
theorem Step.trans {Ts : List Addr} {F H F1 H1 F2 H2 : Hp} {O O1 O2 : List Addr} (a : Step Ts F H O F1 H1 O1) (b : Step Ts F1 H1 O1 F2 H2 O2) : Step Ts F H O F2 H2 O2 where
  k := fun c o h h1 h2 => b.k c o (a.k c o h h1 h2) (fun z => (a.o c z).elim h1 (fun q => by rw [h] at q; cases q)) h2
  g := fun c h => a.g c (b.g c h)
  f := a.f.trans b.f
  n := fun c o h => by
    rcases b.n c o h with h | h | h
    · exact a.n c o h
    · exact .inr (a.o c h)
    · exact .inr (.inr (a.g c h))
  o := fun c h => by
    rcases b.o c h with h | h
    · exact a.o c h
    · exact .inr (a.g c h)
theorem Step.less {Ts : List Addr} {F H F1 H1 : Hp} {O O1 O2 : List Addr} (a : Step Ts F H O F1 H1 O1) (h : ∀ x ∈ O2, x ∈ O1) : Step Ts F H O F1 H1 O2 := ⟨a.k, a.g, a.f, a.n, fun c z => a.o c (h c z)⟩

structure Wld (Ts : List Addr) (F H : Hp) (O : List Addr) : Prop where
  sub : Same F H
  tab : ∀ P ∈ Ts, GxR.TabG H P ∧ F P = none ∧ P ∉ O
  own : ∀ a ∈ O, F a = none ∧ ∃ o, H a = some o ∧ NT o

structure Slots (K : PySem.W.Frag) (F H : Hp) (env : Env) (σ : L2.St) (fps : List (List Addr)) : Prop where
  l1 : env.length = σ.length
  l2 : fps.length = σ.length
  sl : ∀ (i : Nat) (c : Cell), env[i]? = some (some c) → ∃ v f, σ[i]? = some (some v) ∧ fps[i]? = some f ∧ RepC K F H c v f

structure Sat (G : GG) (env : Env) (σ : L2.St) (F H : Hp) (fps : List (List Addr)) : Prop where
  w : Wld G.Ts F H fps.flatten
  s : Slots G.K F H env σ fps
  nd : fps.flatten.Nodup
  pin : ∀ p ∈ G.pin, σ[p.1]? = some (some p.2)

/-- a value that has come: its own addresses apart from those of the names -/
structure Res (G : GG) (env' : Env) (σ : L2.St) (F H : Hp) (O : List Addr) (c : Cell) (x : V) (F' H' : Hp) (fps' : List (List Addr)) (fp : List Addr) : Prop where
  sat : Sat G env' σ F' H' fps'
  step : Step G.Ts F H O F' H' fps'.flatten
  rep : RepC G.K F' H' c x fp
  nd : (fp ++ fps'.flatten).Nodup
  new : ∀ a ∈ fp, a ∈ O ∨ H a = none

/-- the reading of an expression -/
def tE (G : GG) (f : EF) : TE := fun σ H Q => ∃ F fps env, Sat G env σ F H fps ∧
  RW (f env) (fun ce => ∀ x F' H' fps' fp, Res G ce.2 σ F H fps.flatten ce.1 x F' H' fps' fp → Q x H') (fun c => ∀ F' H', Step G.Ts F H fps.flatten F' H' [] → G.E c H')

theorem peW {X : Cx} {e : Expr} {t t' : TE} (h : PE X e t) (k : ∀ σ H Q, t' σ H Q → t σ H Q) : PE X e t' := ⟨fun pins s σ H Q I q => h.run pins s σ H Q I (k σ H Q q)⟩
theorem ptW {X : Cx} {e : Expr} {t t' : TT} (h : PT X e t) (k : ∀ σ H Q, t' σ H Q → t σ H Q) : PT X e t' := ⟨fun pins s σ H Q I q => h.run pins s σ H Q I (k σ H Q q)⟩
theorem paW {X : Cx} {e : List Expr} {t t' : TA} (h : PA X e t) (k : ∀ σ H Q, t' σ H Q → t σ H Q) : PA X e t' := ⟨fun pos pins s σ H Q I q => h.run pos pins s σ H Q I (k σ H Q q)⟩
theorem psW {X : Cx} {e : Stmt} {t t' : TS} (h : PS X e t) (k : ∀ D σ H, t' D σ H → t D σ H) : PS X e t' := ⟨fun pins s σ H D I q => h.run pins s σ H D I (k D σ H q)⟩
theorem pssW {X : Cx} {e : List Stmt} {t t' : TS} (h : PSs X e t) (k : ∀ D σ H, t' D σ H → t D σ H) : PSs X e t' := ⟨fun pins s σ H D I q => h.run pins s σ H D I (k D σ H q)⟩
theorem pgW {X : Cx} {e : Expr} {t t' : TG} (h : PG X e t) (k : ∀ v σ H Q, t' v σ H Q → t v σ H Q) : PG X e t' := ⟨fun pins s σ H v u Q I r q => h.run pins s σ H v u Q I r (k v σ H Q q)⟩

section
variable {G : GG} {env env' : Env} {σ : L2.St} {F H F' H' F1 H1 F2 H2 : Hp} {fps fps' fps1 fps2 : List (List Addr)} {O O' O1 O2 : List Addr} {c : Cell} {x : V} {fp : List Addr}

theorem RepC.step {Ts : List Addr} {K : PySem.W.Frag} (h : RepC K F H c x fp) (st : Step Ts F H O F' H' O') (w : Wld Ts F H O) (hd : ∀ a ∈ fp, a ∉ O) : RepC K F' H' c x fp := by
  have ht : ∀ a ∈ fp, a ∉ Ts := fun a ha z => by
    obtain ⟨_, o, e, nt⟩ := h.fp_some a ha
    obtain ⟨⟨ps, e', _⟩, _⟩ := w.tab a z
    rw [e] at e'
    exact nt ps (Option.some.inj e')
  refine h.keep st.f (fun a ha o e => st.k a o e (hd a ha) (ht a ha)) fun a ha => ?_
  obtain ⟨hn, o, e, _⟩ := h.fp_some a ha
  cases q : F' a with
  | none => rfl
  | some o' =>
    rcases st.n a o' q with z | z | z
    · rw [hn] at z; cases z
    · exact absurd z (hd a ha)
    · rw [e] at z; cases z
theorem nodup_dis {l m : List Addr} (h : (l ++ m).Nodup) : ∀ a ∈ l, a ∉ m := fun a ha hm => (List.nodup_append.mp h).2.2 a ha a hm rfl
/-- a value that is held while more is done -/
theorem Res.hold (r : Res G env' σ F H O c x F1 H1 fps1 fp) (st : Step G.Ts F1 H1 fps1.flatten F2 H2 O2) : RepC G.K F2 H2 c x fp ∧ (∀ a ∈ fp, a ∉ O2) := by
  have hd := nodup_dis r.nd
  refine ⟨r.rep.step st r.sat.w hd, fun a ha z => ?_⟩
  obtain ⟨_, o, e, _⟩ := r.rep.fp_some a ha
  rcases st.o a z with z | z
  · exact hd a ha z
  · rw [e] at z; cases z
theorem Sat.slot (h : Sat G env σ F H fps) {i : Nat} (e : env[i]? = some (some c)) : ∃ v f, σ[i]? = some (some v) ∧ fps[i]? = some f ∧ RepC G.K F H c v f := h.s.sl i c e

/-! ### lists of own addresses -/
theorem mem_set_flat {fs : List (List Addr)} {i : Nat} {f : List Addr} {a : Addr} (h : a ∈ (fs.set i f).flatten) : a ∈ f ∨ a ∈ fs.flatten := by
  obtain ⟨g, hg, ha⟩ := List.mem_flatten.mp h
  rcases List.mem_or_eq_of_mem_set hg with hg | rfl
  · exact .inr (List.mem_flatten.mpr ⟨g, hg, ha⟩)
  · exact .inl ha
theorem nodup_set : ∀ {fs : List (List Addr)} {i : Nat} {f : List Addr}, (f ++ fs.flatten).Nodup → (fs.set i f).flatten.Nodup
  | [], i, f, h => by simp
  | g :: fs, 0, f, h => by
    rw [List.set_cons_zero, List.flatten_cons]
    rw [List.flatten_cons] at h
    exact h.sublist (List.Sublist.append_left (List.sublist_append_right _ _) _)
  | g :: fs, i + 1, f, h => by
    rw [List.set_cons_succ, List.flatten_cons]
    rw [List.flatten_cons] at h
    have h1 := List.nodup_append.mp h
    have h2 := List.nodup_append.mp h1.2.1
    refine List.nodup_append.mpr ⟨h2.1, nodup_set (h.sublist (List.Sublist.append_left (List.sublist_append_right _ _) _)), fun a ha b hb e => ?_⟩
    subst e
    rcases mem_set_flat hb with hb | hb
    · exact h1.2.2 a hb a (List.mem_append_left _ ha) rfl
    · exact h2.2.2 a ha a hb rfl
/-- the addresses of one name are none of the others' -/
theorem flat_apart : ∀ {fs : List (List Addr)} {i j : Nat} {f g : List Addr} {a : Addr}, fs.flatten.Nodup → fs[i]? = some f → fs[j]? = some g → i ≠ j → a ∈ f → a ∉ g
  | [], _, _, _, _, _, _, h, _, _, _ => by simp at h
  | h :: fs, 0, 0, _, _, _, _, _, _, n, _ => absurd rfl n
  | h :: fs, 0, j + 1, f, g, a, nd, h1, h2, _, ha => fun hb => by
    simp at h1; subst h1
    rw [List.flatten_cons] at nd
    exact nodup_dis nd a ha (mem_flat (by simpa using h2) hb)
  | h :: fs, i + 1, 0, f, g, a, nd, h1, h2, _, ha => fun hb => by
    simp at h2; subst h2
    rw [List.flatten_cons] at nd
    exact nodup_dis nd a hb (mem_flat (by simpa using h1) ha)
  | h :: fs, i + 1, j + 1, f, g, a, nd, h1, h2, n, ha => by
    rw [List.flatten_cons] at nd
    exact flat_apart (List.nodup_append.mp nd).2.1 (by simpa using h1) (by simpa using h2) (fun e => n (by rw [e])) ha

/-! ### to freeze -/
def frz (F H : Hp) (fp : List Addr) : Hp := fun a => if a ∈ fp then H a else F a
theorem frz_in {a : Addr} (h : a ∈ fp) : frz F H fp a = H a := if_pos h
theorem frz_out {a : Addr} (h : a ∉ fp) : frz F H fp a = F a := if_neg h
theorem frz_nil : frz F H [] = F := by funext a; exact if_neg (by simp)
theorem frz_same (h : ∀ a ∈ fp, F a = none) : Same F (frz F H fp) := fun a o e => by
  by_cases z : a ∈ fp
  · rw [h a z] at e; cases e
  · rw [frz_out z]; exact e
theorem frz_sub (h : Same F H) : Same (frz F H fp) H := fun a o e => by
  by_cases z : a ∈ fp
  · rw [frz_in z] at e; exact e
  · rw [frz_out z] at e; exact h a o e
theorem RepC.frz {K : PySem.W.Frag} (h : RepC K F H c x fp) (hn : c.nd = true) : Dq K (frz F H fp) x c.d :=
  h.dp (frz_same fun a ha => (h.fp_some a ha).1) (fun a ha o e => by rw [frz_in ha]; exact e) hn
/-- something more is frozen that no name owns -/
theorem Sat.frz (s : Sat G env σ F H fps) (h : ∀ a ∈ fp, F a = none) (hd : ∀ a ∈ fp, a ∉ fps.flatten) (ht : ∀ a ∈ fp, a ∉ G.Ts) : Sat G env σ (frz F H fp) H fps where
  w := ⟨frz_sub s.w.sub, fun P hP => by
    obtain ⟨h1, h2, h3⟩ := s.w.tab P hP
    exact ⟨h1, by rw [frz_out fun z => ht P z hP]; exact h2, h3⟩, fun a ha => by
    rw [frz_out fun z => hd a z ha]
    exact s.w.own a ha⟩
  s := ⟨s.s.l1, s.s.l2, fun i c e => by
    obtain ⟨v, f, h1, h2, h3⟩ := s.slot e
    refine ⟨v, f, h1, h2, h3.keep (frz_same h) (fun _ _ _ e => e) fun a ha => ?_⟩
    rw [frz_out fun z => hd a z (mem_flat h2 ha)]
    exact (h3.fp_some a ha).1⟩
  nd := s.nd
  pin := s.pin
theorem Sat.notab (s : Sat G env σ F H fps) {o : HO} {a : Addr} (e : H a = some o) (nt : NT o) : a ∉ G.Ts := fun z => by
  obtain ⟨⟨ps, e', _⟩, _⟩ := s.w.tab a z
  rw [e] at e'
  exact nt ps (Option.some.inj e')
/-- a value as frozen data -/
theorem Res.frozen (r : Res G env' σ F H O c x F' H' fps' fp) (hn : c.nd = true) : Res G env' σ F H O (.fz c.d) x (PF.frz F' H' fp) H' fps' [] where
  sat := r.sat.frz (fun a ha => (r.rep.fp_some a ha).1) (nodup_dis r.nd) fun a ha => by
    obtain ⟨_, o, e, nt⟩ := r.rep.fp_some a ha
    exact r.sat.notab e nt
  step := ⟨r.step.k, r.step.g, r.step.f.trans (frz_same fun a ha => (r.rep.fp_some a ha).1), fun a o e => by
    by_cases z : a ∈ fp
    · exact .inr (r.new a z)
    · rw [frz_out z] at e; exact r.step.n a o e, r.step.o⟩
  rep := .fz (r.rep.frz hn)
  nd := r.sat.nd
  new := fun a ha => by cases ha
/-- a name's cell is let go -/
theorem Sat.drop (s : Sat G env σ F H fps) (i : Nat) : Sat G (env.set i none) σ F H (fps.set i []) where
  w := ⟨s.w.sub, fun P hP => by
    obtain ⟨h1, h2, h3⟩ := s.w.tab P hP
    exact ⟨h1, h2, fun z => (mem_set_flat z).elim (fun z => by cases z) h3⟩, fun a ha => s.w.own a ((mem_set_flat ha).elim (fun z => by cases z) id)⟩
  s := ⟨by simpa using s.s.l1, by simpa using s.s.l2, fun j c e => by
    by_cases hj : i = j
    · subst hj
      rw [List.getElem?_set] at e
      simp at e
    · rw [List.getElem?_set_ne hj] at e
      obtain ⟨v, f, h1, h2, h3⟩ := s.slot e
      exact ⟨v, f, h1, by rw [List.getElem?_set_ne hj]; exact h2, h3⟩⟩
  nd := nodup_set (by simpa using s.nd)
  pin := s.pin
/-- a name takes a value -/
theorem Sat.put (s : Sat G env σ F H fps) (r : RepC G.K F H c x fp) (nd : (fp ++ fps.flatten).Nodup) (i : Nat) (hi : i < σ.length) (hp : ∀ p ∈ G.pin, p.1 = i → p.2 = x) : Sat G (env.set i (some c)) (σ.set i (some x)) F H (fps.set i fp) where
  w := ⟨s.w.sub, fun P hP => by
    obtain ⟨h1, h2, h3⟩ := s.w.tab P hP
    refine ⟨h1, h2, fun z => (mem_set_flat z).elim (fun z => ?_) h3⟩
    obtain ⟨_, o, e, nt⟩ := r.fp_some P z
    exact s.notab e nt hP, fun a ha => (mem_set_flat ha).elim (fun z => r.fp_some a z) (s.w.own a)⟩
  s := ⟨by simpa using s.s.l1, by simpa using s.s.l2, fun j c' e => by
    by_cases hj : i = j
    · subst hj
      rw [List.getElem?_set] at e
      simp [s.s.l1, hi] at e
      subst e
      exact ⟨x, fp, by simp [hi], by simp [s.s.l2, hi], r⟩
    · rw [List.getElem?_set_ne hj] at e
      obtain ⟨v, f, h1, h2, h3⟩ := s.slot e
      exact ⟨v, f, by rw [List.getElem?_set_ne hj]; exact h1, by rw [List.getElem?_set_ne hj]; exact h2, h3⟩⟩
  nd := nodup_set nd
  pin := fun p hq => by
    by_cases e : i = p.1
    · rw [← e, hp p hq e.symm]
      simp [hi]
    · rw [List.getElem?_set_ne e]
      exact s.pin p hq
end

/-! ### names and constants -/
/-- read for good: what it holds is frozen -/
def varZ (i : Nat) : EF := fun env => match env[i]? with
  | some (some (.fz d)) => .ok (.fz d, env)
  | some (some c) => if c.nd = true then .ok (.fz c.d, env.set i (some (.fz c.d))) else none
  | _ => none
/-- moved away from the name -/
def varM (i : Nat) : EF := fun env => match env[i]? with
  | some (some (.fz d)) => .ok (.fz d, env)
  | some (some c) => .ok (c, env.set i none)
  | _ => none
def cst (d : D) : EF := fun env => .ok (.fz d, env)

theorem set_same {l : L2.St} {i : Nat} {v : Option V} (h : l[i]? = some v) : l.set i v = l := by
  refine List.ext_getElem? fun j => ?_
  by_cases e : i = j
  · subst e
    obtain ⟨hi, _⟩ := List.getElem?_eq_some_iff.mp h
    rw [List.getElem?_set_self hi, h]
  · rw [List.getElem?_set_ne e]
section
variable {X : Cx} {G : GG}
theorem res_refl {env : Env} {σ : L2.St} {F H : Hp} {fps : List (List Addr)} {d : D} {x : V} (s : Sat G env σ F H fps) (h : Dq G.K F x d) : Res G env σ F H fps.flatten (.fz d) x F H fps [] :=
  ⟨s, .refl, .fz h, s.nd, fun _ h => by cases h⟩
theorem e_cst {e : Expr} {v : V} {d : D} (h : PE X e (tC v)) (hd : ∀ F, Dq G.K F v d) : PE X e (tE G (cst d)) := peW h fun σ H Q ⟨F, fps, env, s, q⟩ =>
  q v F H fps [] (res_refl s (hd F))
theorem e_varZ (i : Nat) {e : Expr} (h : PE X e (tVar i)) : PE X e (tE G (varZ i)) := peW h fun σ H Q ⟨F, fps, env, s, q⟩ => by
  unfold varZ at q
  split at q
  · rename_i d e
    obtain ⟨v, f, h1, h2, h3⟩ := s.slot e
    cases h3 with
    | fz h3 => exact ⟨v, h1, q v F H fps [] (res_refl s h3)⟩
  · rename_i c _ e
    obtain ⟨v, f, h1, h2, h3⟩ := s.slot e
    split at q
    · rename_i hn
      refine ⟨v, h1, q v (frz F H f) H (fps.set i []) [] ?_⟩
      have hi := (List.getElem?_eq_some_iff.mp h1).1
      have s1 := s.drop i
      have dis : ∀ a ∈ f, a ∉ (fps.set i []).flatten := fun a ha z => by
        obtain ⟨g, hg, hag⟩ := List.mem_flatten.mp z
        obtain ⟨j, hj, ej⟩ := List.getElem_of_mem hg
        by_cases hij : i = j
        · subst hij
          rw [List.getElem_set_self] at ej
          subst ej
          cases hag
        · rw [List.getElem_set_ne hij] at ej
          have hj' : j < fps.length := by simpa using hj
          exact flat_apart s.nd h2 (List.getElem?_eq_some_iff.mpr ⟨hj', ej⟩) hij ha hag
      have nt : ∀ a ∈ f, a ∉ G.Ts := fun a ha => by
        obtain ⟨_, o, e, nt⟩ := h3.fp_some a ha
        exact s.notab e nt
      have s2 := s1.frz (fun a ha => (h3.fp_some a ha).1) dis nt
      have rp : RepC G.K (frz F H f) H (.fz c.d) v [] := .fz (h3.frz hn)
      have s3 := s2.put rp s2.nd i hi (fun p hq e => by
        have z := s.pin p hq
        rw [e, h1] at z
        exact (Option.some.inj (Option.some.inj z)).symm)
      rw [set_same h1, List.set_set, List.set_set] at s3
      refine ⟨s3, ⟨fun _ _ h _ _ => h, fun _ h => h, frz_same fun a ha => (h3.fp_some a ha).1, fun a o e => ?_, fun a ha => ?_⟩, rp, s3.nd, fun _ h => by cases h⟩
      · by_cases z : a ∈ f
        · exact .inr (.inl (mem_flat h2 z))
        · rw [frz_out z] at e; exact .inl e
      · exact .inl ((mem_set_flat ha).elim (fun z => by cases z) fun z => z)
    · exact q.elim
  · exact q.elim
theorem e_varM (i : Nat) {e : Expr} (h : PE X e (tVar i)) : PE X e (tE G (varM i)) := peW h fun σ H Q ⟨F, fps, env, s, q⟩ => by
  unfold varM at q
  split at q
  · rename_i d e
    obtain ⟨v, f, h1, h2, h3⟩ := s.slot e
    cases h3 with
    | fz h3 => exact ⟨v, h1, q v F H fps [] (res_refl s h3)⟩
  · rename_i c _ e
    obtain ⟨v, f, h1, h2, h3⟩ := s.slot e
    have hi := (List.getElem?_eq_some_iff.mp h1).1
    have s1 := s.drop i
    refine ⟨v, h1, q v F H (fps.set i []) f ⟨s1, ⟨fun _ _ h _ _ => h, fun _ h => h, Same.refl _, fun a o e => .inl e, fun a ha => ?_⟩, h3, ?_, fun a ha => .inl (mem_flat h2 ha)⟩⟩
    · exact .inl ((mem_set_flat ha).elim (fun z => by cases z) fun z => z)
    · refine List.nodup_append.mpr ⟨?_, s1.nd, fun a ha b hb e => ?_⟩
      · exact s.nd.sublist (List.sublist_flatten_of_mem (List.mem_of_getElem? h2))
      · subst e
        obtain ⟨g, hg, hag⟩ := List.mem_flatten.mp hb
        obtain ⟨j, hj, ej⟩ := List.getElem_of_mem hg
        by_cases hij : i = j
        · subst hij
          rw [List.getElem_set_self] at ej
          subst ej
          cases hag
        · rw [List.getElem_set_ne hij] at ej
          have hj' : j < fps.length := by simpa using hj
          exact flat_apart s.nd h2 (List.getElem?_eq_some_iff.mpr ⟨hj', ej⟩) hij ha hag
  · exact q.elim
end
end PF
/-! PF3: arguments, operations that change nothing, tests, statements. -/
namespace PF
open PySem L2

/-! ### arguments: a value, or a name that is looked at when all arguments have come -/
inductive AF where
  | e (f : EF)
  | s (i : Nat)
inductive Arg where
  | v (c : Cell)
  | s (i : Nat)
def AF.te (G : GG) : AF → TE
  | .e f => tE G f
  | .s i => tVar i
def Arg.cell (env : Env) : Arg → Option Cell
  | .v c => some c
  | .s i => match env[i]? with
    | some (some c) => some c
    | _ => none
def cellsOf (env : Env) : List Arg → Option (List Cell)
  | [] => some []
  | a :: as => match a.cell env with
    | none => none
    | some c => match cellsOf env as with
      | none => none
      | some cs => some (c :: cs)
def evA : List AF → Env → R (List Arg × Env)
  | [], env => .ok ([], env)
  | .s i :: as, env => match env[i]? with
    | some (some _) => (evA as env).bnd fun r => .ok (.s i :: r.1, r.2)
    | _ => none
  | .e f :: as, env => (f env).bnd fun r => (evA as r.2).bnd fun q => .ok (.v r.1 :: q.1, q.2)

inductive RepA (K : PySem.W.Frag) (σ : L2.St) (F H : Hp) : List Arg → List V → List (List Addr) → Prop
  | nil : RepA K σ F H [] [] []
  | v {c : Cell} {x : V} {f : List Addr} {as : List Arg} {xs : List V} {fl : List (List Addr)} : RepC K F H c x f → RepA K σ F H as xs fl → RepA K σ F H (.v c :: as) (x :: xs) (f :: fl)
  | s {i : Nat} {x : V} {as : List Arg} {xs : List V} {fl : List (List Addr)} : σ[i]? = some (some x) → RepA K σ F H as xs fl → RepA K σ F H (.s i :: as) (x :: xs) ([] :: fl)
structure ResA (G : GG) (env' : Env) (σ : L2.St) (F H : Hp) (O : List Addr) (as : List Arg) (xs : List V) (F' H' : Hp) (fps' : List (List Addr)) (fl : List (List Addr)) : Prop where
  sat : Sat G env' σ F' H' fps'
  step : Step G.Ts F H O F' H' fps'.flatten
  rep : RepA G.K σ F' H' as xs fl
  nd : (fl.flatten ++ fps'.flatten).Nodup
  new : ∀ a ∈ fl.flatten, a ∈ O ∨ H a = none
def tB (G : GG) (as : List AF) : TA := fun σ H Q => ∃ F fps env, Sat G env σ F H fps ∧
  RW (evA as env) (fun r => ∀ xs F' H' fps' fl, ResA G r.2 σ F H fps.flatten r.1 xs F' H' fps' fl → Q xs H') (fun c => ∀ F' H', Step G.Ts F H fps.flatten F' H' [] → G.E c H')

section
variable {G : GG} {σ : L2.St} {H : Hp}
theorem tB_nil {Q : List V → Hp → Prop} (h : tB G [] σ H Q) : Q [] H := by
  obtain ⟨F, fps, env, s, q⟩ := h
  exact q [] F H fps [] ⟨s, .refl, .nil, s.nd, fun _ h => by cases h⟩
theorem tB_cons {a : AF} {as : List AF} {Q : List V → Hp → Prop} (h : tB G (a :: as) σ H Q) : a.te G σ H fun x H1 => tB G as σ H1 fun xs H2 => Q (x :: xs) H2 := by
  obtain ⟨F, fps, env, s, q⟩ := h
  cases a with
  | s i =>
    simp only [evA] at q
    split at q
    · rename_i c e
      obtain ⟨v, f, h1, _, _⟩ := s.slot e
      refine ⟨v, h1, F, fps, env, s, q.bnd.mono (fun r _ q xs F' H' fps' fl ra => ?_) fun c h => h⟩
      exact q (v :: xs) F' H' fps' ([] :: fl) ⟨ra.sat, ra.step, .s h1 ra.rep, by simpa using ra.nd, by simpa using ra.new⟩
    · exact q.elim
  | e f =>
    simp only [evA] at q
    refine ⟨F, fps, env, s, q.bnd.mono (fun r _ q x F1 H1 fps1 fp re => ?_) fun c h => h⟩
    refine ⟨F1, fps1, r.2, re.sat, q.bnd.mono (fun r2 _ q xs F2 H2 fps2 fl ra => ?_) fun c h F' H' st => h F' H' (re.step.trans st)⟩
    obtain ⟨hr, hd⟩ := re.hold ra.step
    have hd2 : ∀ a ∈ fp, a ∉ fl.flatten := fun a ha z => by
      obtain ⟨_, o, e, _⟩ := re.rep.fp_some a ha
      rcases ra.new a z with z | z
      · exact nodup_dis re.nd a ha z
      · rw [e] at z; cases z
    refine q (x :: xs) F2 H2 fps2 (fp :: fl) ⟨ra.sat, re.step.trans ra.step, .v hr ra.rep, ?_, fun a ha => ?_⟩
    · rw [List.flatten_cons, List.append_assoc]
      refine List.nodup_append.mpr ⟨(List.nodup_append.mp re.nd).1, ra.nd, fun a ha b hb e => ?_⟩
      subst e
      rcases List.mem_append.mp hb with z | z
      · exact hd2 a ha z
      · exact hd a ha z
    · rw [List.flatten_cons] at ha
      rcases List.mem_append.mp ha with ha | ha
      · exact re.new a ha
      · rcases ra.new a ha with z | z
        · exact re.step.o a z
        · exact .inr (re.step.g a z)
end
/-- an argument's expression: a name's slot, or a value's -/
abbrev PEa (X : Cx) (G : GG) (e : Expr) (a : AF) : Prop := PE X e (a.te G)
section
variable {X : Cx} {G : GG}
theorem a_nil : PA X [] (tB G []) := paW pa_nil fun σ H Q h => tB_nil h
theorem a_cons {e : Expr} {es : List Expr} {a : AF} {as : List AF} (h : PE X e (a.te G)) (hr : PA X es (tB G as)) (hs : starEach (e :: es) X.env = (false, eval e X.env) :: starEach es X.env := by rfl) : PA X (e :: es) (tB G (a :: as)) :=
  paW (pa_cons h hr hs) fun σ H Q h => tB_cons h
end

/-! ### operations that change nothing -/
inductive RepL (K : PySem.W.Frag) (F H : Hp) : List Cell → List V → Prop
  | nil : RepL K F H [] []
  | cons {c : Cell} {x : V} {f : List Addr} {cs : List Cell} {xs : List V} : RepC K F H c x f → RepL K F H cs xs → RepL K F H (c :: cs) (x :: xs)
structure New (K : PySem.W.Frag) (F H : Hp) (c : Cell) (x : V) (F' H' : Hp) (fp : List Addr) : Prop where
  f : Same F F'
  h : Same H H'
  n : ∀ a o, F' a = some o → F a = some o ∨ H a = none
  sub : Same F' H'
  rep : RepC K F' H' c x fp
  nd : fp.Nodup
  new : ∀ a ∈ fp, H a = none
/-- what an operation asks and gives: g tells its value -/
def rP (K : PySem.W.Frag) (g : List Cell → Option Cell) : List V → Hp → VK → Prop := fun xs H Q => ∃ F cs c, Same F H ∧ RepL K F H cs xs ∧ g cs = some c ∧ ∀ x F' H' fp, New K F H c x F' H' fp → Q x H'
def opE (g : List Cell → Option Cell) (as : List AF) : EF := fun env => (evA as env).bnd fun r => match cellsOf r.2 r.1 with
  | some cs => match g cs with
    | some c => .ok (c, r.2)
    | none => none
  | none => none
section
variable {G : GG} {env env' : Env} {σ : L2.St} {F H F' H' : Hp} {fps fps' : List (List Addr)} {O : List Addr}
theorem RepA.cells {as : List Arg} {xs : List V} {fl : List (List Addr)} (h : RepA G.K σ F H as xs fl) (s : Sat G env σ F H fps) : ∀ {cs : List Cell}, cellsOf env as = some cs → RepL G.K F H cs xs := by
  induction h with
  | nil => intro cs e; cases e; exact .nil
  | @v c x f as xs fl r _ ih =>
    intro cs e
    simp only [cellsOf, Arg.cell] at e
    split at e
    · cases e
    · rename_i cs' e'
      cases e
      exact .cons r (ih e')
  | @s i x as xs fl hx _ ih =>
    intro cs e
    simp only [cellsOf, Arg.cell] at e
    split at e
    · cases e
    · rename_i c ec
      split at e
      · cases e
      · rename_i cs' e'
        cases e
        split at ec
        · rename_i c' e2
          cases ec
          obtain ⟨v, f, h1, _, h3⟩ := s.slot e2
          rw [hx] at h1
          cases h1
          exact .cons h3 (ih e')
        · cases ec
theorem Sat.grow {c : Cell} {x : V} {fp : List Addr} (s : Sat G env σ F H fps) (n : New G.K F H c x F' H' fp) : Sat G env σ F' H' fps where
  w := by
    refine ⟨n.sub, fun P hP => ?_, fun a ha => ?_⟩
    · obtain ⟨⟨ps, h1, h1'⟩, h2, h3⟩ := s.w.tab P hP
      refine ⟨⟨ps, n.h P _ h1, h1'⟩, ?_, h3⟩
      cases q : F' P with
      | none => rfl
      | some o =>
        rcases n.n P o q with z | z
        · rw [h2] at z; cases z
        · rw [h1] at z; cases z
    · obtain ⟨h0, o, e, nt⟩ := s.w.own a ha
      refine ⟨?_, o, n.h a o e, nt⟩
      cases q : F' a with
      | none => rfl
      | some o' =>
        rcases n.n a o' q with z | z
        · rw [h0] at z; cases z
        · rw [e] at z; cases z
  s := ⟨s.s.l1, s.s.l2, fun i c e => by
    obtain ⟨v, f, h1, h2, h3⟩ := s.slot e
    refine ⟨v, f, h1, h2, h3.keep n.f (fun a ha o e => n.h a o e) fun a ha => ?_⟩
    obtain ⟨hn, o, e, _⟩ := h3.fp_some a ha
    cases q : F' a with
    | none => rfl
    | some o' =>
      rcases n.n a o' q with z | z
      · rw [hn] at z; cases z
      · rw [e] at z; cases z⟩
  nd := s.nd
  pin := s.pin
theorem New.stp {Ts O' : List Addr} {K : PySem.W.Frag} {c : Cell} {x : V} {fp : List Addr} (n : New K F H c x F' H' fp) : Step Ts F H O' F' H' O' where
  k := fun a o e _ _ => n.h a o e
  g := fun a e => by
    cases q : H a with
    | none => rfl
    | some o => rw [n.h a o q] at e; cases e
  f := n.f
  n := fun a o e => (n.n a o e).elim .inl fun z => .inr (.inr z)
  o := fun _ h => .inl h
theorem New.apart {K : PySem.W.Frag} {c : Cell} {x : V} {fp : List Addr} (n : New K F H c x F' H' fp) (s : Sat G env σ F H fps) : (fp ++ fps.flatten).Nodup :=
  List.nodup_append.mpr ⟨n.nd, s.nd, fun a ha b hb e => by
    subst e
    obtain ⟨_, o, h, _⟩ := s.w.own a hb
    rw [n.new a ha] at h
    cases h⟩
/-- the value of an operation behind its arguments -/
theorem rd_op {g : List Cell → Option Cell} {as : List AF} {Q : VK} (h : tE G (opE g as) σ H Q) : tB G as σ H fun xs H' => rP G.K g xs H' Q := by
  obtain ⟨F, fps, env, s, q⟩ := h
  refine ⟨F, fps, env, s, q.bnd.mono (fun r _ q xs F1 H1 fps1 fl ra => ?_) fun c h => h⟩
  cases ec : cellsOf r.2 r.1 with
  | none => simp only [ec] at q; exact q.elim
  | some cs =>
    cases eg : g cs with
    | none => simp only [ec, eg] at q; exact q.elim
    | some c =>
      simp only [ec, eg] at q
      refine ⟨F1, cs, c, ra.sat.w.sub, ra.rep.cells ra.sat ec, eg, fun x F2 H2 fp n => ?_⟩
      refine q x F2 H2 fps1 fp ⟨ra.sat.grow n, ra.step.trans n.stp, n.rep, n.apart ra.sat, fun a ha => ?_⟩
      exact .inr (ra.step.g a (n.new a ha))
theorem rd_op1 {g : List Cell → Option Cell} {a : AF} {Q : VK} (h : tE G (opE g [a]) σ H Q) : a.te G σ H fun x H1 => rP G.K g [x] H1 Q := by
  have h := tB_cons (rd_op h)
  cases a with
  | e f =>
    obtain ⟨F, fps, env, s, q⟩ := h
    exact ⟨F, fps, env, s, q.mono (fun r _ q x F' H' fps' fp re => tB_nil (q x F' H' fps' fp re)) fun _ h => h⟩
  | s i =>
    obtain ⟨v, h1, q⟩ := h
    exact ⟨v, h1, tB_nil q⟩
end
theorem te_mono {G : GG} {a : AF} {σ : L2.St} {H : Hp} {Q Q' : VK} (h : a.te G σ H Q) (k : ∀ x H', Q x H' → Q' x H') : a.te G σ H Q' := by
  cases a with
  | e f =>
    obtain ⟨F, fps, env, s, q⟩ := h
    exact ⟨F, fps, env, s, q.mono (fun r _ q x F' H' fps' fp re => k _ _ (q x F' H' fps' fp re)) fun _ h => h⟩
  | s i =>
    obtain ⟨v, h1, q⟩ := h
    exact ⟨v, h1, k _ _ q⟩
theorem tB_mono {G : GG} {as : List AF} {σ : L2.St} {H : Hp} {Q Q' : List V → Hp → Prop} (h : tB G as σ H Q) (k : ∀ x H', Q x H' → Q' x H') : tB G as σ H Q' := by
  obtain ⟨F, fps, env, s, q⟩ := h
  exact ⟨F, fps, env, s, q.mono (fun r _ q xs F' H' fps' fp re => k _ _ (q xs F' H' fps' fp re)) fun _ h => h⟩
theorem rd_op2 {G : GG} {σ : L2.St} {H : Hp} {g : List Cell → Option Cell} {a b : AF} {Q : VK} (h : tE G (opE g [a, b]) σ H Q) : tOp (fun x y H Q => rP G.K g [x, y] H Q) (a.te G) (b.te G) σ H Q :=
  te_mono (tB_cons (rd_op h)) fun x H1 q => te_mono (tB_cons q) fun y H2 q => tB_nil q
/-- two places -/
abbrev r2 (K : PySem.W.Frag) (g : List Cell → Option Cell) : R2 := fun x y H Q => rP K g [x, y] H Q
abbrev r1 (K : PySem.W.Frag) (g : List Cell → Option Cell) : V → Hp → VK → Prop := fun x H Q => rP K g [x] H Q
/-- a method: the object, its arguments -/
abbrev rM (K : PySem.W.Frag) (g : List Cell → Option Cell) : V → List V → Hp → VK → Prop := fun x xs H Q => rP K g (x :: xs) H Q
section
variable {X : Cx} {G : GG} {a b c e o : Expr} {es : List Expr} {A B C : AF} {as : List AF} {g : List Cell → Option Cell} {pos : Pos}
theorem e_bin {op : Operator} (ho : OpR X (binaryOp op) (r2 G.K g)) (ha : PEa X G a A) (hb : PEa X G b B) : PE X (.BinOp a op b pos) (tE G (opE g [A, B])) := peW (pe_op ho ha hb) fun σ H Q h => rd_op2 h
theorem e_cmp {op : CmpOp} (ho : OpR X (compareOp op) (r2 G.K g)) (ha : PEa X G a A) (hb : PEa X G b B) (hm : behindInMarks op b = false) : PE X (.Compare a [op] [b] pos) (tE G (opE g [A, B])) := peW (pe_cmpR ho ha hb hm) fun σ H Q h => rd_op2 h
theorem e_un {op : UnaryOp} (ho : UnR X (unaryOp op) (r1 G.K g)) (ha : PEa X G a A) : PE X (.UnaryOp op a pos) (tE G (opE g [A])) := peW (pe_un ho ha) fun σ H Q h => rd_op1 h
theorem e_ix (hr : IxR X (r2 G.K g)) (ha : PEa X G a A) (hb : PEa X G b B) (hs : PlainIx b) : PE X (.Subscript a b pos) (tE G (opE g [A, B])) := peW (pe_ix hr ha hb hs) fun σ H Q h => rd_op2 h
theorem rd_cb {t : TA} {Q : VK} {σ : L2.St} {H : Hp} (h : tE G (opE g as) σ H Q) : tCB (fun xs H Q => rP G.K g xs H Q) (tB G as) σ H Q := rd_op h
end
end PF
/-! PF4: tests, targets, statements. -/
namespace PF
open PySem L2

abbrev BF := Env → R (Bool × Env)
inductive Out where
  | nx
  | bk
  | ct
  | rt (c : Cell)
abbrev SF := Env → R (Out × Env)
abbrev TF := Cell → Env → R Env

def tT (G : GG) (f : BF) : TT := fun σ H Q => ∃ F fps env, Sat G env σ F H fps ∧
  RW (f env) (fun r => ∀ F' H' fps', Sat G r.2 σ F' H' fps' → Step G.Ts F H fps.flatten F' H' fps'.flatten → Q r.1 H') (fun c => ∀ F' H', Step G.Ts F H fps.flatten F' H' [] → G.E c H')
/-- behind a statement -/
def After (G : GG) (F H : Hp) (O : List Addr) (D : Ends) (r : Out × Env) : Prop := match r.1 with
  | .nx => ∀ σ' F' H' fps', Sat G r.2 σ' F' H' fps' → Step G.Ts F H O F' H' fps'.flatten → D.nx σ' H'
  | .bk => ∀ σ' F' H' fps', Sat G r.2 σ' F' H' fps' → Step G.Ts F H O F' H' fps'.flatten → D.bk σ' H'
  | .ct => ∀ σ' F' H' fps', Sat G r.2 σ' F' H' fps' → Step G.Ts F H O F' H' fps'.flatten → D.ct σ' H'
  | .rt c => ∀ σ' x F' H' fps' fp, Res G r.2 σ' F H O c x F' H' fps' fp → D.rt x H'
def tS (G : GG) (f : SF) : TS := fun D σ H => ∃ F fps env, Sat G env σ F H fps ∧ RW (f env) (After G F H fps.flatten D) (fun c => ∀ F' H', Step G.Ts F H fps.flatten F' H' [] → G.E c H')
/-- apart from the places ix nothing else is stored -/
def Agree (ix : List Nat) (σ σ' : L2.St) : Prop := σ'.length = σ.length ∧ ∀ (j : Nat), j ∉ ix → σ'[j]? = σ[j]?
theorem Agree.refl {ix : List Nat} {σ : L2.St} : Agree ix σ σ := ⟨rfl, fun _ _ => rfl⟩
theorem Agree.trans {ix iy : List Nat} {σ σ1 σ2 : L2.St} (a : Agree ix σ σ1) (b : Agree iy σ1 σ2) : Agree (ix ++ iy) σ σ2 := ⟨b.1.trans a.1, fun j h => (b.2 j fun z => h (List.mem_append_right _ z)).trans (a.2 j fun z => h (List.mem_append_left _ z))⟩
def tG (G : GG) (ix : List Nat) (t : TF) : TG := fun v σ H Q => ∃ F fps env c fp, Sat G env σ F H fps ∧ RepC G.K F H c v fp ∧ (fp ++ fps.flatten).Nodup ∧
  RW (t c env) (fun env' => ∀ σ' F' H' fps', Agree ix σ σ' → Sat G env' σ' F' H' fps' → Step G.Ts F H (fp ++ fps.flatten) F' H' fps'.flatten → Q σ' H') (fun c => ∀ F' H', Step G.Ts F H (fp ++ fps.flatten) F' H' [] → G.E c H')

/-! ### tests -/
def valB (f : EF) : BF := fun env => (f env).bnd fun r => match r.1 with
  | .fz (.bool b) => .ok (b, r.2)
  | _ => none
def andB (f g : BF) : BF := fun env => (f env).bnd fun r => if r.1 = true then g r.2 else .ok (false, r.2)
def orB (f g : BF) : BF := fun env => (f env).bnd fun r => if r.1 = true then .ok (true, r.2) else g r.2
def notB (f : BF) : BF := fun env => (f env).bnd fun r => .ok (!r.1, r.2)
def andV (f g : EF) : EF := fun env => (valB f env).bnd fun r => if r.1 = true then g r.2 else .ok (.fz (.bool false), r.2)
def orV (f g : EF) : EF := fun env => (valB f env).bnd fun r => if r.1 = true then .ok (.fz (.bool true), r.2) else g r.2
def notV (f : EF) : EF := fun env => (valB f env).bnd fun r => .ok (.fz (.bool !r.1), r.2)
def iteE (b : BF) (f g : EF) : EF := fun env => (b env).bnd fun r => if r.1 = true then f r.2 else g r.2

section
variable {G : GG} {σ : L2.St} {H : Hp} {f g : EF} {b b2 : BF}
theorem repc_bool {K : PySem.W.Frag} {F H : Hp} {b : Bool} {x : V} {fp : List Addr} (h : RepC K F H (.fz (.bool b)) x fp) : x = .bl b := by
  cases h with
  | fz h => cases h; rfl
theorem rd_valB {Q : Bool → Hp → Prop} (h : tT G (valB f) σ H Q) : tE G f σ H fun x H' => ∃ k, x = .bl k ∧ Q k H' := by
  obtain ⟨F, fps, env, s, q⟩ := h
  refine ⟨F, fps, env, s, q.bnd.mono (fun r _ q x F' H' fps' fp re => ?_) fun _ h => h⟩
  obtain ⟨c, env'⟩ := r
  cases c with
  | fz d =>
    cases d with
    | bool k => exact ⟨k, repc_bool re.rep, q F' H' fps' re.sat re.step⟩
    | _ => exact q.elim
  | _ => exact q.elim
theorem rd_andB {Q : Bool → Hp → Prop} (h : tT G (andB b b2) σ H Q) : tAnd (tT G b) (tT G b2) σ H Q := by
  obtain ⟨F, fps, env, s, q⟩ := h
  refine ⟨F, fps, env, s, q.bnd.mono (fun r _ q F1 H1 fps1 s1 st => ?_) fun _ h => h⟩
  obtain ⟨k, e1⟩ := r
  cases k with
  | true =>
    rw [if_pos rfl] at q
    show (if true = true then _ else _)
    rw [if_pos rfl]
    exact ⟨F1, fps1, e1, s1, q.mono (fun r2 _ q F2 H2 fps2 s2 st2 => q F2 H2 fps2 s2 (st.trans st2)) fun c h F' H' st2 => h F' H' (st.trans st2)⟩
  | false =>
    rw [if_neg Bool.false_ne_true] at q
    show (if false = true then _ else _)
    rw [if_neg Bool.false_ne_true]
    exact q F1 H1 fps1 s1 st
theorem rd_orB {Q : Bool → Hp → Prop} (h : tT G (orB b b2) σ H Q) : tOr (tT G b) (tT G b2) σ H Q := by
  obtain ⟨F, fps, env, s, q⟩ := h
  refine ⟨F, fps, env, s, q.bnd.mono (fun r _ q F1 H1 fps1 s1 st => ?_) fun _ h => h⟩
  obtain ⟨k, e1⟩ := r
  cases k with
  | true =>
    rw [if_pos rfl] at q
    show (if true = true then _ else _)
    rw [if_pos rfl]
    exact q F1 H1 fps1 s1 st
  | false =>
    rw [if_neg Bool.false_ne_true] at q
    show (if false = true then _ else _)
    rw [if_neg Bool.false_ne_true]
    exact ⟨F1, fps1, e1, s1, q.mono (fun r2 _ q F2 H2 fps2 s2 st2 => q F2 H2 fps2 s2 (st.trans st2)) fun c h F' H' st2 => h F' H' (st.trans st2)⟩
theorem rd_notB {Q : Bool → Hp → Prop} (h : tT G (notB b) σ H Q) : tNot (tT G b) σ H Q := by
  obtain ⟨F, fps, env, s, q⟩ := h
  exact ⟨F, fps, env, s, q.bnd.mono (fun r _ q => q) fun _ h => h⟩
theorem res_bool {env' : Env} {F F' H' : Hp} {fps' : List (List Addr)} {k : Bool} {O : List Addr} (s : Sat G env' σ F' H' fps') (st : Step G.Ts F H O F' H' fps'.flatten) : Res G env' σ F H O (.fz (.bool k)) (.bl k) F' H' fps' [] :=
  ⟨s, st, .fz (.bl k), s.nd, fun _ h => by cases h⟩
theorem res_trans {env' : Env} {F F1 H1 F' H' : Hp} {O O1 : List Addr} {fps' : List (List Addr)} {c : Cell} {x : V} {fp : List Addr} (st : Step G.Ts F H O F1 H1 O1) (r : Res G env' σ F1 H1 O1 c x F' H' fps' fp) : Res G env' σ F H O c x F' H' fps' fp :=
  ⟨r.sat, st.trans r.step, r.rep, r.nd, fun a ha => (r.new a ha).elim (st.o a) fun z => .inr (st.g a z)⟩
theorem rd_andV {Q : VK} (h : tE G (andV f g) σ H Q) : tAndV (tE G f) (tE G g) σ H Q := by
  obtain ⟨F, fps, env, s, q⟩ := h
  have q := q.bnd
  unfold valB at q
  refine ⟨F, fps, env, s, q.bnd.mono (fun r _ q x F1 H1 fps1 fp re => ?_) fun _ h => h⟩
  obtain ⟨c, env'⟩ := r
  cases c with
  | fz d =>
    cases d with
    | bool k =>
      refine ⟨k, repc_bool re.rep, ?_⟩
      cases k with
      | true => exact ⟨F1, fps1, env', re.sat, RW.mono q (fun r2 _ q x F2 H2 fps2 fp2 re2 => q x F2 H2 fps2 fp2 (res_trans re.step re2)) fun c h F' H' st2 => h F' H' (re.step.trans st2)⟩
      | false => exact q _ F1 H1 fps1 [] (res_bool re.sat re.step)
    | _ => exact q.elim
  | _ => exact q.elim
theorem rd_orV {Q : VK} (h : tE G (orV f g) σ H Q) : tOrV (tE G f) (tE G g) σ H Q := by
  obtain ⟨F, fps, env, s, q⟩ := h
  have q := q.bnd
  unfold valB at q
  refine ⟨F, fps, env, s, q.bnd.mono (fun r _ q x F1 H1 fps1 fp re => ?_) fun _ h => h⟩
  obtain ⟨c, env'⟩ := r
  cases c with
  | fz d =>
    cases d with
    | bool k =>
      refine ⟨k, repc_bool re.rep, ?_⟩
      cases k with
      | false => exact ⟨F1, fps1, env', re.sat, RW.mono q (fun r2 _ q x F2 H2 fps2 fp2 re2 => q x F2 H2 fps2 fp2 (res_trans re.step re2)) fun c h F' H' st2 => h F' H' (re.step.trans st2)⟩
      | true => exact q _ F1 H1 fps1 [] (res_bool re.sat re.step)
    | _ => exact q.elim
  | _ => exact q.elim
theorem rd_notV {Q : VK} (h : tE G (notV f) σ H Q) : tNotV (tE G f) σ H Q := by
  obtain ⟨F, fps, env, s, q⟩ := h
  have q := q.bnd
  unfold valB at q
  refine ⟨F, fps, env, s, q.bnd.mono (fun r _ q x F1 H1 fps1 fp re => ?_) fun _ h => h⟩
  obtain ⟨c, env'⟩ := r
  cases c with
  | fz d =>
    cases d with
    | bool k => exact ⟨k, repc_bool re.rep, q _ F1 H1 fps1 [] (res_bool re.sat re.step)⟩
    | _ => exact q.elim
  | _ => exact q.elim
theorem rd_iteE {Q : VK} (h : tE G (iteE b f g) σ H Q) : tIf (tT G b) (tE G f) (tE G g) σ H Q := by
  obtain ⟨F, fps, env, s, q⟩ := h
  refine ⟨F, fps, env, s, q.bnd.mono (fun r _ q F1 H1 fps1 s1 st => ?_) fun _ h => h⟩
  obtain ⟨k, e1⟩ := r
  cases k with
  | true =>
    rw [if_pos rfl] at q
    show (if true = true then _ else _)
    rw [if_pos rfl]
    exact ⟨F1, fps1, e1, s1, q.mono (fun r2 _ q x F2 H2 fps2 fp2 re2 => q x F2 H2 fps2 fp2 (res_trans st re2)) fun c h F' H' st2 => h F' H' (st.trans st2)⟩
  | false =>
    rw [if_neg Bool.false_ne_true] at q
    show (if false = true then _ else _)
    rw [if_neg Bool.false_ne_true]
    exact ⟨F1, fps1, e1, s1, q.mono (fun r2 _ q x F2 H2 fps2 fp2 re2 => q x F2 H2 fps2 fp2 (res_trans st re2)) fun c h F' H' st2 => h F' H' (st.trans st2)⟩
end
theorem pwW {X : Cx} {e : Expr} {t t' : TT} (h : PW X e t) (k : ∀ σ H Q, t' σ H Q → t σ H Q) : PW X e t' := ⟨fun w pins s σ H Q I q => h.run w pins s σ H Q I (k σ H Q q)⟩
section
variable {X : Cx} {G : GG} {a b c e : Expr} {es rest : List Expr} {A B C : AF} {g : List Cell → Option Cell} {f f2 f3 : EF} {t u : BF} {pos : Pos}
/-- an expression that tells True or False, as a test -/
theorem t_val (h : PE X e (tE G f)) (he : ∀ whole, isTrue e X.env whole = (do let v ← whole; standAt e.pos; holding [v] (truthy v)) := by intro _; rfl) : PT X e (tT G (valB f)) := ptW (pt_val h he) fun σ H Q h => rd_valB h
theorem t_varB (i : Nat) (h : PE X e (tVar i)) (he : ∀ whole, isTrue e X.env whole = (do let v ← whole; standAt e.pos; holding [v] (truthy v)) := by intro _; rfl) : PT X e (tT G (valB (varZ i))) := t_val (e_varZ i h) he
theorem t_cmp {op : CmpOp} (ho : OpR X (compareOp op) (r2 G.K g)) (ha : PEa X G a A) (hb : PEa X G b B) (hm : behindInMarks op b = false) : PT X (.Compare a [op] [b] pos) (tT G (valB (opE g [A, B]))) :=
  ptW (pt_cmpR ho ha hb hm) fun σ H Q h => rd_op2 (rd_valB h)
theorem t_and1 (ha : PT X a (tT G t)) : PW X (.BoolOp .And [a] pos) (tT G t) := pw_and1 ha
theorem t_or1 (ha : PT X a (tT G t)) : PW X (.BoolOp .Or [a] pos) (tT G t) := pw_or1 ha
theorem t_and (ha : PT X a (tT G t)) (hb : PW X (.BoolOp .And (b :: rest) pos) (tT G u)) : PW X (.BoolOp .And (a :: b :: rest) pos) (tT G (andB t u)) := pwW (pw_and ha hb) fun σ H Q h => rd_andB h
theorem t_or (ha : PT X a (tT G t)) (hb : PW X (.BoolOp .Or (b :: rest) pos) (tT G u)) : PW X (.BoolOp .Or (a :: b :: rest) pos) (tT G (orB t u)) := pwW (pw_or ha hb) fun σ H Q h => rd_orB h
theorem t_not (ha : PT X a (tT G t)) : PT X (.UnaryOp .Not a pos) (tT G (notB t)) := ptW (pt_not ha) fun σ H Q h => rd_notB h
theorem e_and (ha : PE X a (tE G f)) (hb : PE X (.BoolOp .And (b :: rest) pos) (tE G f2)) : PE X (.BoolOp .And (a :: b :: rest) pos) (tE G (andV f f2)) := peW (pe_and ha hb) fun σ H Q h => rd_andV h
theorem e_or (ha : PE X a (tE G f)) (hb : PE X (.BoolOp .Or (b :: rest) pos) (tE G f2)) : PE X (.BoolOp .Or (a :: b :: rest) pos) (tE G (orV f f2)) := peW (pe_or ha hb) fun σ H Q h => rd_orV h
theorem e_one {op} (ha : PE X a (tE G f)) : PE X (.BoolOp op [a] pos) (tE G f) := pe_one ha
theorem e_not (ha : PE X a (tE G f)) : PE X (.UnaryOp .Not a pos) (tE G (notV f)) := peW (pe_not ha) fun σ H Q h => rd_notV h
theorem e_ite (hc : PT X c (tT G t)) (ha : PE X a (tE G f)) (hb : PE X b (tE G f2)) : PE X (.IfExp c a b pos) (tE G (iteE t f f2)) := peW (pe_ifExp hc ha hb) fun σ H Q h => rd_iteE h
end
/-! ### a < b < c -/
/-- two comparisons, the middle asked once; the middle is plain data -/
def chE (g g' : List Cell → Option Cell) (a b c : AF) : EF := fun env => (evA [a, b] env).bnd fun r => match cellsOf r.2 r.1 with
  | some [x, .fz y] => match g [x, .fz y] with
    | some (.fz (.bool true)) => (evA [c] r.2).bnd fun q => match cellsOf q.2 q.1 with
      | some [z] => match g' [.fz y, z] with
        | some w => .ok (w, q.2)
        | none => none
      | _ => none
    | some (.fz (.bool false)) => .ok (.fz (.bool false), r.2)
    | _ => none
  | _ => none
section
variable {G : GG} {σ : L2.St} {H : Hp} {g g' : List Cell → Option Cell} {A B C : AF}
theorem RepL.two {K : PySem.W.Frag} {F H : Hp} {a b : Cell} {x y : V} (h : RepL K F H [a, b] [x, y]) : (∃ f, RepC K F H a x f) ∧ ∃ f, RepC K F H b y f := by
  cases h with
  | cons h1 h2 =>
    cases h2 with
    | cons h2 h3 => exact ⟨⟨_, h1⟩, _, h2⟩
theorem RepL.len {K : PySem.W.Frag} {F H : Hp} {cs : List Cell} {xs : List V} (h : RepL K F H cs xs) : cs.length = xs.length := by
  induction h with
  | nil => rfl
  | cons _ _ ih => simp [ih]
theorem rd_chE {Q : VK} (h : tE G (chE g g' A B C) σ H Q) : tChain (r2 G.K g) (r2 G.K g') (A.te G) (B.te G) (C.te G) σ H Q := by
  obtain ⟨F, fps, env, s, q⟩ := h
  have h2 : tB G [A, B] σ H fun xs H2 => ∀ x y, xs = [x, y] → r2 G.K g x y H2 fun z H3 => ∃ k, z = .bl k ∧ (if k = true then C.te G σ H3 fun w' H4 => r2 G.K g' y w' H4 Q else Q (.bl false) H3) := by
    refine ⟨F, fps, env, s, q.bnd.mono (fun r _ q xs F1 H1 fps1 fl ra x y exy => ?_) fun _ h => h⟩
    subst exy
    split at q
    · rename_i xc yd ec
      have rl := ra.rep.cells ra.sat ec
      obtain ⟨_, fy, ry⟩ := rl.two
      split at q
      · rename_i eg
        refine ⟨F1, [xc, .fz yd], _, ra.sat.w.sub, rl, eg, fun z F2 H2 fp n => ?_⟩
        refine ⟨true, repc_bool n.rep, ?_⟩
        rw [if_pos rfl]
        have s2 := ra.sat.grow n
        have st2 := ra.step.trans (n.stp (Ts := G.Ts) (O' := fps1.flatten))
        have h3 : tB G [C] σ H2 fun zs H3 => ∀ w', zs = [w'] → r2 G.K g' y w' H3 Q := by
          refine ⟨F2, fps1, _, s2, q.bnd.mono (fun r3 _ q zs F3 H3 fps3 fl3 ra3 w' ew => ?_) fun c h F' H' st3 => h F' H' (st2.trans st3)⟩
          subst ew
          split at q
          · rename_i zc ec3
            split at q
            · rename_i w eg3
              have rz := ra3.rep.cells ra3.sat ec3
              cases ry with
              | fz ry =>
                have ry3 : Dq G.K F3 y yd := dp_mono (n.f.trans ra3.step.f) ry
                refine ⟨F3, [.fz yd, zc], w, ra3.sat.w.sub, .cons (.fz ry3) rz, eg3, fun x4 F4 H4 fp4 n4 => ?_⟩
                refine q x4 F4 H4 fps3 fp4 ⟨ra3.sat.grow n4, (st2.trans ra3.step).trans n4.stp, n4.rep, n4.apart ra3.sat, fun a ha => ?_⟩
                exact .inr ((st2.trans ra3.step).g a (n4.new a ha))
            · exact q.elim
          · exact q.elim
        exact te_mono (tB_cons h3) fun w' H3 h => tB_nil h w' rfl
      · rename_i eg
        refine ⟨F1, [xc, .fz yd], _, ra.sat.w.sub, rl, eg, fun z F2 H2 fp n => ?_⟩
        refine ⟨false, repc_bool n.rep, ?_⟩
        rw [if_neg Bool.false_ne_true]
        exact q _ F2 H2 fps1 [] (res_bool (ra.sat.grow n) (ra.step.trans n.stp))
      · exact q.elim
    · exact q.elim
  exact te_mono (tB_cons h2) fun x H1 h => te_mono (tB_cons h) fun y H2 h => tB_nil h x y rfl
end
section
variable {X : Cx} {G : GG} {a b c : Expr} {A B C : AF} {g g' : List Cell → Option Cell} {pos : Pos} {op op' : CmpOp}
theorem e_chain (ho : OpR X (compareOp op) (r2 G.K g)) (ho' : OpR X (compareOp op') (r2 G.K g')) (ha : PEa X G a A) (hb : PEa X G b B) (hc : PEa X G c C) (hm : lastMarks [op, op'] [b, c] = false) :
    PE X (.Compare a [op, op'] [b, c] pos) (tE G (chE g g' A B C)) := peW (pe_chain ho ho' ha hb hc hm) fun σ H Q h => rd_chE h
theorem t_chain (ho : OpR X (compareOp op) (r2 G.K g)) (ho' : OpR X (compareOp op') (r2 G.K g')) (ha : PEa X G a A) (hb : PEa X G b B) (hc : PEa X G c C) (hm : lastMarks [op, op'] [b, c] = false) :
    PT X (.Compare a [op, op'] [b, c] pos) (tT G (valB (chE g g' A B C))) := ptW (pt_chain ho ho' ha hb hc hm) fun σ H Q h => rd_chE (rd_valB h)
end

/-! ### targets -/
def nameT (i : Nat) : TF := fun c env => if i < env.length then .ok (env.set i (some c)) else none
/-- what several targets take, one after the other -/
def tgsF : List TF → List Cell → Env → R Env
  | [], [], env => .ok env
  | t :: ts, c :: cs, env => (t c env).bnd fun env' => tgsF ts cs env'
  | _, _, _ => none
def tupT (ts : List TF) : TF := fun c env => match c with
  | .fz (.tuple ds) => if ds.length = ts.length then tgsF ts (ds.map Cell.fz) env else none
  | _ => none
section
variable {G : GG}
theorem rd_nameT {i : Nat} {Q : L2.St → Hp → Prop} {x : V} {σ : L2.St} {H : Hp} (hp : ∀ p ∈ G.pin, p.1 ≠ i) (h : tG G [i] (nameT i) x σ H Q) : gName i x σ H Q := by
  obtain ⟨F, fps, env, c, fp, s, r, nd, q⟩ := h
  unfold nameT at q
  split at q
  · rename_i hi
    have hi' : i < σ.length := by rw [← s.s.l1]; exact hi
    refine q _ F H _ ⟨by simp, fun j hj => List.getElem?_set_ne fun e => hj (by simp [e])⟩ (s.put r nd i hi' fun p hq e => absurd e (hp p hq)) ⟨fun _ _ h _ _ => h, fun _ h => h, Same.refl _, fun a o e => .inl e, fun a ha => .inl ?_⟩
    exact (mem_set_flat ha).elim (List.mem_append_left _) (List.mem_append_right _)
  · exact q.elim
theorem g_name {X : Cx} {e : Expr} (i : Nat) (hp : ∀ p ∈ G.pin, p.1 ≠ i) (h : PG X e (gName i)) : PG X e (tG G [i] (nameT i)) := pgW h fun v σ H Q h => rd_nameT hp h
/-- targets one after the other: frozen data -/
def tGs (G : GG) (ix : List Nat) (ts : List TF) : TGs := fun vs σ H Q => ∃ F fps env ds, Sat G env σ F H fps ∧ DqAll G.K F vs ds ∧
  RW (tgsF ts (ds.map Cell.fz) env) (fun env' => ∀ σ' F' H' fps', Agree ix σ σ' → Sat G env' σ' F' H' fps' → Step G.Ts F H fps.flatten F' H' fps'.flatten → Q σ' H') (fun c => ∀ F' H', Step G.Ts F H fps.flatten F' H' [] → G.E c H')
end
end PF
/-! PF5: statements, loops. -/
namespace PF
open PySem L2

/-! ### tuples as targets -/
section
variable {G : GG}
theorem gs_nil {X : Cx} : PGs X [] (tGs G [] []) := ⟨fun pins s σ H vs us Q I r ⟨F, fps, env, ds, st, dp, q⟩ => by
  refine pgs_nil.run pins s σ H vs us Q I r ?_
  cases ds with
  | nil =>
    cases dp
    exact ⟨rfl, q σ F H fps .refl st .refl⟩
  | cons d ds => exact q.elim⟩
theorem gs_cons {X : Cx} {e : Expr} {es : List Expr} {t : TF} {ts : List TF} {ix iy : List Nat} (h1 : PG X e (tG G ix t)) (h2 : PGs X es (tGs G iy ts)) (hs : (assignEach (e :: es) X.env).map (·.2) = assign e X.env :: (assignEach es X.env).map (·.2) := by rfl) :
    PGs X (e :: es) (tGs G (ix ++ iy) (t :: ts)) := ⟨fun pins s σ H vs us Q I r ⟨F, fps, env, ds, st, dp, q⟩ => by
  refine (pgs_cons h1 h2 hs).run pins s σ H vs us Q I r ?_
  cases ds with
  | nil => exact q.elim
  | cons d ds =>
    cases dp with
    | @cons v vs _ _ a b =>
      refine ⟨v, vs, rfl, F, fps, env, .fz d, [], st, .fz a, st.nd, q.bnd.mono (fun env1 _ q σ' F' H' fps' ag s1 st1 => ?_) fun _ h => h⟩
      exact ⟨F', fps', env1, ds, s1, dps_mono st1.f b, q.mono (fun env2 _ q σ2 F2 H2 fps2 ag2 s2 st2 => q σ2 F2 H2 fps2 (ag.trans ag2) s2 (st1.trans st2)) fun c h F' H' st2 => h F' H' (st1.trans st2)⟩⟩
theorem g_tup {X : Cx} {es : List Expr} {k : Nat} {ts : List TF} {ix : List Nat} {pos : Pos} (hc : X.calm = true) (hK : X.K = G.K) (h : PGs X es (tGs G ix ts)) (hn : (assignEach es X.env).length = ts.length := by rfl) (hst : (assignEach es X.env).findIdx? (·.1) = none := by rfl) :
    PG X (.Tuple es k pos) (tG G ix (tupT ts)) := pgW (pg_tup hc h hn hst) fun v σ H Q ⟨F, fps, env, c, fp, s, r, nd, q⟩ => by
  unfold tupT at q
  split at q
  · rename_i ds
    cases r with
    | fz r =>
      cases r with
      | @tup a xs _ hq hd =>
        split at q
        · rename_i hl
          refine ⟨a, xs, rfl, ?_, by rw [dps_length hd]; exact hl, F, fps, env, ds, s, hd, ?_⟩
          · rw [hK]
            rcases hq with (hq | ⟨o, hq⟩) | hq
            · exact .inl (.inl (s.w.sub _ _ hq))
            · exact .inl (.inr ⟨o, s.w.sub _ _ hq⟩)
            · exact .inr hq
          · exact q
        · exact q.elim
  · exact q.elim
end

/-! ### statements -/
def asgS (f : EF) (t : TF) : SF := fun env => (f env).bnd fun r => (t r.1 r.2).bnd fun env' => .ok (.nx, env')
def seqS (f g : SF) : SF := fun env => (f env).bnd fun r => match r.1 with
  | .nx => g r.2
  | o => .ok (o, r.2)
def passS : SF := fun env => .ok (.nx, env)
def brkS : SF := fun env => .ok (.bk, env)
def cntS : SF := fun env => .ok (.ct, env)
def retS (f : EF) : SF := fun env => (f env).bnd fun r => .ok (.rt r.1, r.2)
def dropS (f : EF) : SF := fun env => (f env).bnd fun r => .ok (.nx, r.2)
def ifS (b : BF) (f g : SF) : SF := fun env => (b env).bnd fun r => if r.1 = true then f r.2 else g r.2
section
variable {G : GG} {F F1 H H1 : Hp} {O O1 : List Addr} {D : Ends} {r : Out × Env}
theorem After.trans (st : Step G.Ts F H O F1 H1 O1) (h : After G F H O D r) : After G F1 H1 O1 D r := by
  obtain ⟨o, env⟩ := r
  cases o with
  | nx => exact fun σ' F' H' fps' s st2 => h σ' F' H' fps' s (st.trans st2)
  | bk => exact fun σ' F' H' fps' s st2 => h σ' F' H' fps' s (st.trans st2)
  | ct => exact fun σ' F' H' fps' s st2 => h σ' F' H' fps' s (st.trans st2)
  | rt c => exact fun σ' x F' H' fps' fp re => h σ' x F' H' fps' fp (res_trans st re)
theorem err_trans {c : Nat} (st : Step G.Ts F H O F1 H1 O1) (h : ∀ F' H', Step G.Ts F H O F' H' [] → G.E c H') : ∀ F' H', Step G.Ts F1 H1 O1 F' H' [] → G.E c H' := fun F' H' st2 => h F' H' (st.trans st2)
theorem step_app {O2 : List Addr} {fp : List Addr} {F2 H2 : Hp} (st : Step G.Ts F H O F1 H1 O1) (hn : ∀ a ∈ fp, a ∈ O ∨ H a = none) (st2 : Step G.Ts F1 H1 (fp ++ O1) F2 H2 O2) : Step G.Ts F H O F2 H2 O2 where
  k := fun a o h h1 h2 => st2.k a o (st.k a o h h1 h2) (fun z => (List.mem_append.mp z).elim (fun z => (hn a z).elim h1 fun q => by rw [h] at q; cases q) fun z => (st.o a z).elim h1 fun q => by rw [h] at q; cases q) h2
  g := fun a h => st.g a (st2.g a h)
  f := st.f.trans st2.f
  n := fun a o h => by
    rcases st2.n a o h with h | h | h
    · exact st.n a o h
    · rcases List.mem_append.mp h with h | h
      · exact .inr (hn a h)
      · exact .inr (st.o a h)
    · exact .inr (.inr (st.g a h))
  o := fun a h => by
    rcases st2.o a h with h | h
    · rcases List.mem_append.mp h with h | h
      · exact hn a h
      · exact st.o a h
    · exact .inr (st.g a h)
end
section
variable {X : Cx} {G : GG} {e : Expr} {st : Stmt} {rest b1 b2 : List Stmt} {f : EF} {t : TF} {u v : SF} {c : BF} {pos : Pos} {tg c0 : Expr} {ix : List Nat}
theorem rd_asg {D : Ends} {σ : L2.St} {H : Hp} (h : tS G (asgS f t) D σ H) : tAsg (tE G f) (tG G ix t) D σ H := by
  obtain ⟨F, fps, env, s, q⟩ := h
  refine ⟨F, fps, env, s, q.bnd.mono (fun r _ q x F1 H1 fps1 fp re => ?_) fun _ h => h⟩
  refine ⟨F1, fps1, r.2, r.1, fp, re.sat, re.rep, re.nd, q.bnd.mono (fun env2 _ q σ' F' H' fps' _ s2 st2 => ?_) fun c h F' H' st2 => h F' H' (step_app re.step re.new st2)⟩
  exact q σ' F' H' fps' s2 (step_app re.step re.new st2)
theorem s_asg (he : PE X e (tE G f)) (hg : PG X tg (tG G ix t)) (hs : swapsWithSole [tg] e pos.line X.env = pure false := by rfl) (hw : swappedStores [tg] e X.env = pure none := by rfl)
    (h1 : (assignEach [tg] X.env).map (·.2) = [assign tg X.env] := by rfl) : PS X (.Assign [tg] e pos) (tS G (asgS f t)) := psW (ps_asg he hg hs hw h1) fun D σ H h => rd_asg h
/-- behind an expression a name's target may be read by its slot -/
theorem tE_mono {σ : L2.St} {H : Hp} {Q Q' : VK} (h : tE G f σ H Q) (k : ∀ x H', Q x H' → Q' x H') : tE G f σ H Q' := by
  obtain ⟨F, fps, env, s, q⟩ := h
  exact ⟨F, fps, env, s, q.mono (fun r _ q x F' H' fps' fp re => k _ _ (q x F' H' fps' fp re)) fun _ h => h⟩
/-- name = e -/
theorem s_set (i : Nat) {x : Str} {pos' : Pos} (hN : X.N.Nodup) (hi : X.N[i]? = some x) (hx : Loc X.env.scope x) (hp : ∀ p ∈ G.pin, p.1 ≠ i) (he : PE X e (tE G f)) (hs : swapsWith e (some (.Name x pos')) pos.line X.env = pure false := by rfl)
    (hf : X.fn x = true ∨ X.env.scope.names.lookup x = some .local := by first | exact .inl rfl | exact .inr rfl | assumption) : PS X (.Assign [.Name x pos'] e pos) (tS G (asgS f (nameT i))) :=
  psW (ps_set hN hi hx he hs hf) fun D σ H h => tE_mono (rd_asg h) fun x H' q => rd_nameT hp q
theorem s_ret (he : PE X e (tE G f)) : PS X (.Return (some e) pos) (tS G (retS f)) := psW (ps_ret he) fun D σ H ⟨F, fps, env, s, q⟩ =>
  ⟨F, fps, env, s, q.bnd.mono (fun r _ q x F1 H1 fps1 fp re => q σ x F1 H1 fps1 fp re) fun _ h => h⟩
theorem s_drop (he : PE X e (tE G f)) (hs : swapsWith e none pos.line X.env = pure false := by rfl) : PS X (.Expr e pos) (tS G (dropS f)) := psW (ps_expr he hs) fun D σ H ⟨F, fps, env, s, q⟩ =>
  ⟨F, fps, env, s, q.bnd.mono (fun r _ q x F1 H1 fps1 fp re => q σ F1 H1 fps1 re.sat re.step) fun _ h => h⟩
theorem s_pass : PS X (.Pass pos) (tS G passS) := psW ps_pass fun D σ H ⟨F, fps, env, s, q⟩ => q σ F H fps s .refl
theorem s_brk : PS X (.Break pos) (tS G brkS) := psW ps_break fun D σ H ⟨F, fps, env, s, q⟩ => q σ F H fps s .refl
theorem s_cnt : PS X (.Continue pos) (tS G cntS) := psW ps_continue fun D σ H ⟨F, fps, env, s, q⟩ => q σ F H fps s .refl
theorem s_if (hc : PT X c0 (tT G c)) (ha : PSs X b1 (tS G u)) (hb : PSs X b2 (tS G v)) : PS X (.If c0 b1 b2 pos) (tS G (ifS c u v)) := psW (ps_if hc ha hb) fun D σ H ⟨F, fps, env, s, q⟩ => by
  refine ⟨F, fps, env, s, q.bnd.mono (fun r _ q F1 H1 fps1 s1 st => ?_) fun _ h => h⟩
  obtain ⟨k, e1⟩ := r
  cases k with
  | true =>
    rw [if_pos rfl] at q
    show (if true = true then _ else _)
    rw [if_pos rfl]
    exact ⟨F1, fps1, e1, s1, q.mono (fun r _ q => q.trans st) fun c h => err_trans st h⟩
  | false =>
    rw [if_neg Bool.false_ne_true] at q
    show (if false = true then _ else _)
    rw [if_neg Bool.false_ne_true]
    exact ⟨F1, fps1, e1, s1, q.mono (fun r _ q => q.trans st) fun c h => err_trans st h⟩
theorem ss_nil : PSs X [] (tS G passS) := pssW pss_nil fun D σ H ⟨F, fps, env, s, q⟩ => q σ F H fps s .refl
theorem ss_one (h : PS X st (tS G u)) : PSs X [st] (tS G u) := pss_one h
theorem ss_cons (h : PS X st (tS G u)) (hr : PSs X rest (tS G v)) : PSs X (st :: rest) (tS G (seqS u v)) := pssW (pss_cons h hr) fun D σ H ⟨F, fps, env, s, q⟩ => by
  refine ⟨F, fps, env, s, q.bnd.mono (fun r _ q => ?_) fun _ h => h⟩
  obtain ⟨o, e1⟩ := r
  cases o with
  | nx => exact fun σ' F' H' fps' s1 st => ⟨F', fps', e1, s1, q.mono (fun r _ q => q.trans st) fun c h => err_trans st h⟩
  | bk => exact q
  | ct => exact q
  | rt c => exact q
end

/-! ### what is walked -/
abbrev IF := Env → R (List D × Env)
def Iter (K : PySem.W.Frag) (F : Hp) (J : It) (ds : List D) : Prop :=
  (∀ i F1 H, Same F F1 → Same F1 H → i < ds.length → J.go i H) ∧ (∀ i F1 H, Same F F1 → Same F1 H → ds.length ≤ i → J.stop i H) ∧
    ∀ (i : Nat) (F1 H : Hp) (x : V) (H' : Hp) (d : D), Same F F1 → Same F1 H → J.yld i H x H' → ds[i]? = some d → ∃ F', New K F1 H (.fz d) x F' H' []
def tI (G : GG) (it : IF) : TI := fun σ H Q => ∃ F fps env, Sat G env σ F H fps ∧
  RW (it env) (fun r => ∀ F' H' fps' J, Sat G r.2 σ F' H' fps' → Step G.Ts F H fps.flatten F' H' fps'.flatten → Iter G.K F' J r.1 → Q J H') (fun c => ∀ F' H', Step G.Ts F H fps.flatten F' H' [] → G.E c H')

def forL (t : TF) (b : SF) : List D → Env → R (Out × Env)
  | [], env => .ok (.nx, env)
  | d :: ds, env => (t (.fz d) env).bnd fun env1 => (b env1).bnd fun r => match r.1 with
    | .nx => forL t b ds r.2
    | .ct => forL t b ds r.2
    | .bk => .ok (.nx, r.2)
    | .rt c => .ok (.rt c, r.2)
def forS (it : IF) (t : TF) (b : SF) : SF := fun env => (it env).bnd fun r => forL t b r.1 r.2
section
variable {X : Cx} {G : GG} {iter tg : Expr} {body : List Stmt} {it : IF} {t : TF} {b : SF} {pos : Pos} {ix : List Nat}
theorem s_for (hp : PassesOwn (model X.prog X.w) X.A X.env X.xe) (hc : X.calm = true) (hi : PI X tg iter (tI G it)) (hg : PG X tg (tG G ix t)) (hb : PSs X body (tS G b)) (hs : ∀ x, foldedSetIterable iter X.env x = pure x := by intro _; rfl) :
    PS X (.For tg iter body [] pos) (tS G (forS it t b)) := psW (ps_for hp hc hi hg hb hs) fun D σ H ⟨F, fps, env, s, q⟩ => by
  refine ⟨F, fps, env, s, q.bnd.mono (fun r _ q F1 H1 fps1 J s1 st1 hJ => ?_) fun _ h => h⟩
  obtain ⟨ds, env1⟩ := r
  obtain ⟨hgo, hstop, hyld⟩ := hJ
  refine ⟨fun i m σ' H' => m = ds.length - i ∧ i ≤ ds.length ∧ ∃ F' fps' env', Sat G env' σ' F' H' fps' ∧ Same F1 F' ∧ Step G.Ts F H fps.flatten F' H' fps'.flatten ∧
    RW (forL t b (ds.drop i) env') (After G F H fps.flatten D) (fun c => ∀ F' H', Step G.Ts F H fps.flatten F' H' [] → G.E c H'), ⟨_, rfl, Nat.zero_le _, F1, fps1, env1, s1, Same.refl _, st1, q⟩, ?_⟩
  rintro i m σ' H' ⟨rfl, hi, F', fps', env', s', sf, st', q'⟩
  by_cases hlt : i < ds.length
  · refine .inr ⟨hgo i F' H' sf s'.w.sub hlt, fun σ3 H3 => ∃ F3 fps3 env3, Sat G env3 σ3 F3 H3 fps3 ∧ Same F1 F3 ∧ Step G.Ts F H fps.flatten F3 H3 fps3.flatten ∧
      RW (forL t b (ds.drop (i + 1)) env3) (After G F H fps.flatten D) (fun c => ∀ F' H', Step G.Ts F H fps.flatten F' H' [] → G.E c H'), ?_, ?_⟩
    · rintro σ3 H3 ⟨F3, fps3, env3, s3, sf3, st3, q3⟩
      exact ⟨ds.length - (i + 1), by omega, rfl, hlt, F3, fps3, env3, s3, sf3, st3, q3⟩
    · intro x H2 hy
      obtain ⟨F2, n⟩ := hyld i F' H' x H2 ds[i] sf s'.w.sub hy (by simp [hlt])
      rw [List.drop_eq_getElem_cons hlt] at q'
      have s2 := s'.grow n
      have st2 := st'.trans (n.stp (Ts := G.Ts) (O' := fps'.flatten))
      refine ⟨F2, fps', env', .fz ds[i], [], s2, n.rep, s2.nd, q'.bnd.mono (fun env3 _ q3 σ3 F3 H3 fps3 _ s3 st3 => ?_) fun c h => err_trans st2 h⟩
      have st4 := st2.trans st3
      refine ⟨F3, fps3, env3, s3, q3.bnd.mono (fun r3 _ q4 => ?_) fun c h => err_trans st4 h⟩
      obtain ⟨o, e5⟩ := r3
      cases o with
      | nx => exact fun σ5 F5 H5 fps5 s5 st5 => ⟨F5, fps5, e5, s5, sf.trans (n.f.trans (st3.f.trans st5.f)), st4.trans st5, q4⟩
      | ct => exact fun σ5 F5 H5 fps5 s5 st5 => ⟨F5, fps5, e5, s5, sf.trans (n.f.trans (st3.f.trans st5.f)), st4.trans st5, q4⟩
      | bk => exact fun σ5 F5 H5 fps5 s5 st5 => q4 σ5 F5 H5 fps5 s5 (st4.trans st5)
      | rt c => exact fun σ5 x5 F5 H5 fps5 fp5 re => q4 σ5 x5 F5 H5 fps5 fp5 (res_trans st4 re)
  · have e : i = ds.length := by omega
    subst e
    rw [List.drop_length] at q'
    exact .inl ⟨hstop _ F' H' sf s'.w.sub (Nat.le_refl _), q' σ' F' H' fps' s' st'⟩
end

/-! ### while -/
def whileL (c : BF) (b : SF) : Nat → Env → R (Out × Env)
  | 0, _ => none
  | n + 1, env => (c env).bnd fun r => if r.1 = true then (b r.2).bnd fun q => match q.1 with
    | .nx => whileL c b n q.2
    | .ct => whileL c b n q.2
    | .bk => .ok (.nx, q.2)
    | .rt v => .ok (.rt v, q.2)
    else .ok (.nx, r.2)
/-- more turns than any loop here has -/
def turns : Nat := 1000000
def whileS (c : BF) (b : SF) : SF := fun env => whileL c b turns env
section
variable {X : Cx} {G : GG} {test : Expr} {body : List Stmt} {c : BF} {b : SF} {pos : Pos}
theorem s_while (hp : PassesOwn (model X.prog X.w) X.A X.env X.xe) (hc : PT X test (tT G c)) (hb : PSs X body (tS G b)) : PS X (.While test body [] pos) (tS G (whileS c b)) := psW (ps_while hp hc hb) fun D σ H ⟨F, fps, env, s, q⟩ => by
  refine ⟨fun m σ' H' => ∃ F' fps' env', Sat G env' σ' F' H' fps' ∧ Step G.Ts F H fps.flatten F' H' fps'.flatten ∧
    RW (whileL c b m env') (After G F H fps.flatten D) (fun c => ∀ F' H', Step G.Ts F H fps.flatten F' H' [] → G.E c H'), ⟨turns, F, fps, env, s, .refl, q⟩, ?_⟩
  rintro m σ' H' ⟨F', fps', env', s', st', q'⟩
  cases m with
  | zero => exact q'.elim
  | succ m =>
    refine ⟨F', fps', env', s', q'.bnd.mono (fun r _ q F1 H1 fps1 s1 st1 => ?_) fun c h => err_trans st' h⟩
    obtain ⟨k, e1⟩ := r
    have st2 := st'.trans st1
    cases k with
    | true =>
      rw [if_pos rfl] at q
      show (if true = true then _ else _)
      rw [if_pos rfl]
      refine ⟨fun σ3 H3 => ∃ F3 fps3 env3, Sat G env3 σ3 F3 H3 fps3 ∧ Step G.Ts F H fps.flatten F3 H3 fps3.flatten ∧
        RW (whileL c b m env3) (After G F H fps.flatten D) (fun c => ∀ F' H', Step G.Ts F H fps.flatten F' H' [] → G.E c H'), fun σ3 H3 h => ⟨m, Nat.lt_succ_self _, h⟩, F1, fps1, e1, s1, q.bnd.mono (fun r3 _ q4 => ?_) fun c h => err_trans st2 h⟩
      obtain ⟨o, e5⟩ := r3
      cases o with
      | nx => exact fun σ5 F5 H5 fps5 s5 st5 => ⟨F5, fps5, e5, s5, st2.trans st5, q4⟩
      | ct => exact fun σ5 F5 H5 fps5 s5 st5 => ⟨F5, fps5, e5, s5, st2.trans st5, q4⟩
      | bk => exact fun σ5 F5 H5 fps5 s5 st5 => q4 σ5 F5 H5 fps5 s5 (st2.trans st5)
      | rt c => exact fun σ5 x5 F5 H5 fps5 fp5 re => q4 σ5 x5 F5 H5 fps5 fp5 (res_trans st2 re)
    | false =>
      rw [if_neg Bool.false_ne_true] at q
      show (if false = true then _ else _)
      rw [if_neg Bool.false_ne_true]
      exact q σ' F1 H1 fps1 s1 st2
end
end PF
/-! PF6: displays, comprehensions. -/
namespace PF
open PySem L2

/-! ### displays -/
/-- all as data, if no dict is among them -/
def dataOf : List Arg → Option (List D)
  | [] => some []
  | .v c :: as => if c.nd = true then (dataOf as).map (c.d :: ·) else none
  | .s _ :: _ => none
def ownOf : List Arg → Option (List Cell)
  | [] => some []
  | .v c :: as => (ownOf as).map (c :: ·)
  | .s _ :: _ => none
def tupE (as : List EF) : EF := fun env => (evA (as.map .e) env).bnd fun r => match dataOf r.1 with
  | some ds => .ok (.fz (.tuple ds), r.2)
  | none => none
def lstE (as : List EF) : EF := fun env => (evA (as.map .e) env).bnd fun r => match ownOf r.1 with
  | some cs => .ok (.ol cs, r.2)
  | none => none
section
variable {K : PySem.W.Frag} {σ : L2.St} {F H : Hp}
theorem RepA.data {as : List Arg} {xs : List V} {fl : List (List Addr)} (h : RepA K σ F H as xs fl) (G' : Hp) (hF : Same F G') (hG : ∀ a ∈ fl.flatten, ∀ o, H a = some o → G' a = some o) : ∀ {ds : List D}, dataOf as = some ds → DqAll K G' xs ds := by
  induction h with
  | nil => intro ds e; cases e; exact .nil
  | @v c x f as xs fl r _ ih =>
    intro ds e
    simp only [dataOf] at e
    split at e
    · rename_i hn
      cases q : dataOf as with
      | none => rw [q] at e; cases e
      | some ds' =>
        rw [q] at e
        cases e
        exact .cons (r.dp hF (fun a ha => hG a (by rw [List.flatten_cons]; exact List.mem_append_left _ ha)) hn) (ih (fun a ha => hG a (by rw [List.flatten_cons]; exact List.mem_append_right _ ha)) q)
    · cases e
  | s _ _ _ => intro ds e; cases e
theorem RepA.own {as : List Arg} {xs : List V} {fl : List (List Addr)} (h : RepA K σ F H as xs fl) : ∀ {cs : List Cell}, ownOf as = some cs → cs.length = xs.length ∧ fl.length = xs.length ∧
    ∀ (i : Nat) (c : Cell) (v : V) (f : List Addr), cs[i]? = some c → xs[i]? = some v → fl[i]? = some f → RepC K F H c v f := by
  induction h with
  | nil => intro cs e; cases e; exact ⟨rfl, rfl, fun i c v f h => by simp at h⟩
  | @v c x f as xs fl r _ ih =>
    intro cs e
    simp only [ownOf] at e
    cases q : ownOf as with
    | none => rw [q] at e; cases e
    | some cs' =>
      rw [q] at e
      cases e
      obtain ⟨h1, h2, h3⟩ := ih q
      refine ⟨by simp [h1], by simp [h2], fun i c v f e1 e2 e3 => ?_⟩
      cases i with
      | zero => simp at e1 e2 e3; subst e1; subst e2; subst e3; exact r
      | succ i => exact h3 i c v f (by simpa using e1) (by simpa using e2) (by simpa using e3)
  | s _ _ _ => intro cs e; cases e
theorem RepA.fp_some {as : List Arg} {xs : List V} {fl : List (List Addr)} (h : RepA K σ F H as xs fl) : ∀ a ∈ fl.flatten, F a = none ∧ ∃ o, H a = some o ∧ NT o := by
  induction h with
  | nil => intro a h; cases h
  | v r _ ih =>
    intro a ha
    rw [List.flatten_cons] at ha
    rcases List.mem_append.mp ha with ha | ha
    · exact r.fp_some a ha
    · exact ih a ha
  | s _ _ ih =>
    intro a ha
    rw [List.flatten_cons] at ha
    rcases List.mem_append.mp ha with ha | ha
    · cases ha
    · exact ih a ha
theorem RepA.lenA {as : List Arg} {xs : List V} {fl : List (List Addr)} (h : RepA K σ F H as xs fl) : xs.length = as.length := by
  induction h with
  | nil => rfl
  | v _ _ ih => simp [ih]
  | s _ _ ih => simp [ih]
end
theorem evA_len : ∀ {as : List AF} {env : Env} {r : List Arg × Env}, evA as env = R.ok r → r.1.length = as.length
  | [], env, r, h => by cases h; rfl
  | .s i :: as, env, r, h => by
    simp only [evA] at h
    split at h
    · cases q : evA as env with
      | none => rw [q] at h; cases h
      | some z =>
        cases z with
        | error c => rw [q] at h; cases h
        | ok p => rw [q] at h; cases h; simp [evA_len (r := p) q]
    · cases h
  | .e f :: as, env, r, h => by
    simp only [evA] at h
    cases q : f env with
    | none => rw [q] at h; cases h
    | some z =>
      cases z with
      | error c => rw [q] at h; cases h
      | ok p =>
        rw [q] at h
        have h : (evA as p.2).bnd (fun q => R.ok (Arg.v p.1 :: q.1, q.2)) = R.ok r := h
        cases q2 : evA as p.2 with
        | none => rw [q2] at h; cases h
        | some z2 =>
          cases z2 with
          | error c => rw [q2] at h; cases h
          | ok p2 => rw [q2] at h; cases h; simp [evA_len (r := p2) q2]
/-- a new object at p, held by data that are frozen -/
theorem res_new {G : GG} {env : Env} {σ : L2.St} {F0 H0 F H : Hp} {O : List Addr} {fps : List (List Addr)} {p : Addr} {o : HO} {d : D} (s : Sat G env σ F H fps) (st : Step G.Ts F0 H0 O F H fps.flatten) (hp : H p = none)
    (hd : Dq G.K (upd F p o) (.ref p) d) : Res G env σ F0 H0 O (.fz d) (.ref p) (upd F p o) (upd H p o) fps [] := by
  have hF : F p = none := by
    cases q : F p with
    | none => rfl
    | some o' => rw [s.w.sub p o' q] at hp; cases hp
  have n : New G.K F H (.fz d) (.ref p) (upd F p o) (upd H p o) [] := by
    refine ⟨fun a u e => ?_, fun a u e => ?_, fun a u e => ?_, fun a u e => ?_, .fz hd, List.nodup_nil, fun _ h => by cases h⟩
    · rw [upd_ne (ne_of_none e hF)]; exact e
    · rw [upd_ne (ne_of_none e hp)]; exact e
    · by_cases z : a = p
      · subst z; exact .inr hp
      · rw [upd_ne z] at e; exact .inl e
    · by_cases z : a = p
      · subst z; rw [upd_same] at e ⊢; exact e
      · rw [upd_ne z] at e ⊢; exact s.w.sub a u e
  exact ⟨s.grow n, st.trans n.stp, n.rep, s.nd, fun _ h => by cases h⟩
/-- a new list at p that is one's own -/
theorem res_own {G : GG} {env : Env} {σ : L2.St} {F0 H0 F H : Hp} {O : List Addr} {fps fl : List (List Addr)} {p : Addr} {cs : List Cell} {vs : List V} (s : Sat G env σ F H fps) (st : Step G.Ts F0 H0 O F H fps.flatten) (hp : H p = none)
    (h1 : cs.length = vs.length) (h2 : fl.length = vs.length) (h3 : ∀ (i : Nat) (c : Cell) (v : V) (f : List Addr), cs[i]? = some c → vs[i]? = some v → fl[i]? = some f → RepC G.K F H c v f)
    (nd : (fl.flatten ++ fps.flatten).Nodup) (new : ∀ a ∈ fl.flatten, a ∈ O ∨ H0 a = none) (some_ : ∀ a ∈ fl.flatten, ∃ o, H a = some o) :
    Res G env σ F0 H0 O (.ol cs) (.ref p) F (upd H p (.lst vs)) fps (p :: fl.flatten) := by
  have hF : F p = none := by
    cases q : F p with
    | none => rfl
    | some o' => rw [s.w.sub p o' q] at hp; cases hp
  have hH : Same H (upd H p (.lst vs)) := fun a u e => by rw [upd_ne (ne_of_none e hp)]; exact e
  have n : New G.K F H (.fz .none) .non F (upd H p (.lst vs)) [] := by
    refine ⟨Same.refl _, hH, fun a u e => .inl e, s.w.sub.trans hH, .fz .non, List.nodup_nil, fun _ h => by cases h⟩
  refine ⟨s.grow n, st.trans n.stp, .ol upd_same hF h1 h2 fun i c v f e1 e2 e3 => ?_, ?_, fun a ha => ?_⟩
  · have r := h3 i c v f e1 e2 e3
    exact r.keep (Same.refl _) (fun a ha o e => hH a o e) fun a ha => (r.fp_some a ha).1
  · rw [List.cons_append]
    refine List.nodup_cons.mpr ⟨fun z => ?_, nd⟩
    rcases List.mem_append.mp z with z | z
    · obtain ⟨o, e⟩ := some_ p z
      rw [hp] at e; cases e
    · obtain ⟨_, o, e, _⟩ := s.w.own p z
      rw [hp] at e; cases e
  · rcases List.mem_cons.mp ha with ha | ha
    · subst ha; exact .inr (st.g _ hp)
    · exact new a ha
section
variable {X : Cx} {G : GG} {es : List Expr} {as : List EF} {pos : Pos} {x1}
theorem e_tup (h : PA X es (tB G (as.map .e))) (hl : as.length ≤ 1000) : PE X (.Tuple es x1 pos) (tE G (tupE as)) := peW (pe_tup h) fun σ H Q ⟨F, fps, env, s, q⟩ => by
  refine ⟨F, fps, env, s, q.bnd.mono (fun r he q xs F1 H1 fps1 fl ra => ?_) fun _ h => h⟩
  split at q
  · rename_i ds ed
    refine ⟨?_, fun p hp => ?_⟩
    · have := evA_len he
      rw [ra.rep.lenA, this, List.length_map]
      exact Nat.le_trans hl (by decide)
    · have hs := fun a ha => ra.rep.fp_some a ha
      have s2 := ra.sat.frz (fun a ha => (hs a ha).1) (nodup_dis ra.nd) fun a ha => by
        obtain ⟨_, o, e, nt⟩ := hs a ha
        exact ra.sat.notab e nt
      have st2 : Step G.Ts F H fps.flatten (frz F1 H1 fl.flatten) H1 fps1.flatten := ⟨ra.step.k, ra.step.g, ra.step.f.trans (frz_same fun a ha => (hs a ha).1), fun a o e => by
        by_cases z : a ∈ fl.flatten
        · exact .inr (ra.new a z)
        · rw [frz_out z] at e; exact ra.step.n a o e, ra.step.o⟩
      have hf : frz F1 H1 fl.flatten p = none := by
        cases z : frz F1 H1 fl.flatten p with
        | none => rfl
        | some o => rw [s2.w.sub p o z] at hp; cases hp
      refine q (.ref p) _ _ fps1 [] (res_new s2 st2 hp (.tup (SqT.of upd_same) ?_))
      refine ra.rep.data _ ((frz_same (H := H1) fun a ha => (hs a ha).1).trans fun a u e => ?_) (fun a ha o e => ?_) ed
      · rw [upd_ne (ne_of_none e hf)]; exact e
      · rw [upd_ne (ne_of_none e hp), frz_in ha]; exact e
  · exact q.elim
theorem e_lst (h : PA X es (tB G (as.map .e))) (hl : as.length ≤ 1000) : PE X (Expr.List es pos) (tE G (lstE as)) := peW (pe_lst h) fun σ H Q ⟨F, fps, env, s, q⟩ => by
  refine ⟨F, fps, env, s, q.bnd.mono (fun r he q xs F1 H1 fps1 fl ra => ?_) fun _ h => h⟩
  split at q
  · rename_i cs ed
    refine ⟨?_, fun p hp => ?_⟩
    · have := evA_len he
      rw [ra.rep.lenA, this, List.length_map]
      exact Nat.le_trans hl (by decide)
    · obtain ⟨h1, h2, h3⟩ := ra.rep.own ed
      exact q (.ref p) _ _ fps1 _ (res_own ra.sat ra.step hp h1 h2 h3 ra.nd ra.new fun a ha => by
        obtain ⟨_, o, e, _⟩ := ra.rep.fp_some a ha
        exact ⟨o, e⟩)
  · exact q.elim
end

/-! ### comprehensions -/
def noR {α : Type} : R α → R α
  | some (.error _) => none
  | r => r
def wipeE (env : Env) : List Nat → Env
  | [] => env
  | v :: vs => (wipeE env vs).set v none
/-- behind a comprehension the def's own names of the same writing are as ahead, if they hold data -/
def restE (env : Env) : List Nat → Env → Env
  | [], env' => env'
  | v :: vs, env' => (restE env vs env').set v (match env[v]? with
    | some (some (.fz d)) => some (.fz d)
    | _ => none)
def lim : Nat := 16777216
def lcL (vs : List Nat) (t : TF) (c : BF) (f : EF) : List D → List Cell → Env → R (List Cell × Env)
  | [], acc, env => .ok (acc, env)
  | d :: ds, acc, env => (noR (t (.fz d) env)).bnd fun env1 => (noR (c env1)).bnd fun r => if r.1 = true then (noR (f r.2)).bnd fun q => if acc.length < lim then lcL vs t c f ds (acc ++ [q.1]) (wipeE q.2 vs) else none
    else lcL vs t c f ds acc (wipeE r.2 vs)
def yesB : BF := fun env => .ok (true, env)
def lcE (it : IF) (vs : List Nat) (t : TF) (c : BF) (f : EF) : EF := fun env => (it env).bnd fun r => (lcL vs t c f r.1 [] (wipeE r.2 vs)).bnd fun q => .ok (.ol q.1, restE r.2 vs q.2)
/-- nothing is wanted of an error -/
abbrev GG.no (G : GG) : GG := { G with E := fun _ _ => False }
theorem noR_ok {α : Type} {r : R α} {ok : α → Prop} {er er' : Nat → Prop} (h : RW (noR r) ok er) : RW r ok er' := by
  cases r with
  | none => exact h
  | some z => cases z with
    | error c => exact h.elim
    | ok a => exact h
theorem wipe_get (σ : L2.St) (j : Nat) : ∀ vs : List Nat, (wipe σ vs)[j]? = if j ∈ vs ∧ j < σ.length then some none else σ[j]?
  | [] => by simp [wipe]
  | v :: vs => by
    unfold wipe
    by_cases e : v = j
    · subst e
      by_cases hl : v < σ.length
      · rw [List.getElem?_set_self (by rw [wipe_length]; exact hl), if_pos ⟨List.mem_cons_self, hl⟩]
      · rw [List.getElem?_eq_none (by rw [List.length_set, wipe_length]; omega), if_neg (fun h => hl h.2), List.getElem?_eq_none (by omega)]
    · rw [List.getElem?_set_ne e, wipe_get σ j vs]
      have : (j ∈ v :: vs ∧ j < σ.length) ↔ (j ∈ vs ∧ j < σ.length) := by
        rw [List.mem_cons]
        constructor
        · rintro ⟨h | h, h2⟩
          · exact absurd h.symm e
          · exact ⟨h, h2⟩
        · rintro ⟨h, h2⟩
          exact ⟨.inr h, h2⟩
      simp only [this]
theorem wipe_agree {ix vs : List Nat} {σ σ' : L2.St} (h : Agree ix (wipe σ vs) σ') (hs : ∀ j ∈ ix, j ∈ vs) : wipe σ' vs = wipe σ vs := by
  have hl : σ'.length = σ.length := by rw [h.1, wipe_length]
  refine List.ext_getElem? fun j => ?_
  rw [wipe_get, wipe_get, hl]
  by_cases hj : j ∈ vs
  · by_cases hb : j < σ.length
    · rw [if_pos ⟨hj, hb⟩, if_pos ⟨hj, hb⟩]
    · rw [if_neg fun z => hb z.2, if_neg fun z => hb z.2, List.getElem?_eq_none (by omega), List.getElem?_eq_none (by omega)]
  · rw [if_neg fun z => hj z.1, if_neg fun z => hj z.1, h.2 j fun z => hj (hs j z), wipe_get, if_neg fun z => hj z.1]
theorem wipeE_len (env : Env) : ∀ vs : List Nat, (wipeE env vs).length = env.length
  | [] => rfl
  | v :: vs => by unfold wipeE; rw [List.length_set, wipeE_len env vs]
theorem wipeE_get {env : Env} {j : Nat} {c : Cell} : ∀ {vs : List Nat}, (wipeE env vs)[j]? = some (some c) → env[j]? = some (some c) ∧ j ∉ vs
  | [], h => ⟨h, by simp⟩
  | v :: vs, h => by
    unfold wipeE at h
    by_cases e : v = j
    · subst e
      by_cases hl : v < (wipeE env vs).length
      · rw [List.getElem?_set_self hl] at h; cases h
      · rw [List.getElem?_eq_none (by rw [List.length_set]; omega)] at h; cases h
    · rw [List.getElem?_set_ne e] at h
      obtain ⟨h1, h2⟩ := wipeE_get h
      exact ⟨h1, by rw [List.mem_cons]; exact fun z => z.elim (fun z => e z.symm) h2⟩
theorem Sat.wipe {G : GG} {env : Env} {σ σ' : L2.St} {F H : Hp} {fps : List (List Addr)} (s : Sat G env σ F H fps) (vs : List Nat) (hp : ∀ p ∈ G.pin, p.1 ∉ vs) (e : L2.wipe σ' vs = L2.wipe σ vs) (G' : GG) (h1 : G'.K = G.K) (h2 : G'.Ts = G.Ts) (h3 : G'.pin = G.pin) :
    Sat G' (wipeE env vs) (L2.wipe σ' vs) F H fps where
  w := by rw [h2]; exact s.w
  s := by
    rw [e]
    refine ⟨by rw [wipeE_len, wipe_length]; exact s.s.l1, by rw [wipe_length]; exact s.s.l2, fun i c q => ?_⟩
    obtain ⟨q1, q2⟩ := wipeE_get q
    obtain ⟨v, f, e1, e2, e3⟩ := s.slot q1
    exact ⟨v, f, by rw [wipe_get, if_neg fun z => q2 z.1]; exact e1, e2, by rw [h1]; exact e3⟩
  nd := s.nd
  pin := fun p q => by
    rw [h3] at q
    rw [e, wipe_get, if_neg fun z => hp p q z.1]
    exact s.pin p q
theorem restE_get {env : Env} {j : Nat} {c : Cell} {env' : Env} : ∀ {vs : List Nat}, (restE env vs env')[j]? = some (some c) → (j ∈ vs ∧ ∃ d, c = .fz d ∧ env[j]? = some (some c)) ∨ (j ∉ vs ∧ env'[j]? = some (some c))
  | [], h => .inr ⟨by simp, h⟩
  | v :: vs, h => by
    unfold restE at h
    by_cases e : v = j
    · subst e
      refine .inl ⟨List.mem_cons_self, ?_⟩
      by_cases hl : v < (restE env vs env').length
      · rw [List.getElem?_set_self hl] at h
        have h := Option.some.inj h
        split at h
        · rename_i d e
          cases h
          exact ⟨d, rfl, e⟩
        · cases h
      · rw [List.getElem?_eq_none (by rw [List.length_set]; omega)] at h; cases h
    · rw [List.getElem?_set_ne e] at h
      rcases restE_get h with ⟨h1, h2⟩ | ⟨h1, h2⟩
      · exact .inl ⟨List.mem_cons_of_mem _ h1, h2⟩
      · exact .inr ⟨by rw [List.mem_cons]; exact fun z => z.elim (fun z => e z.symm) h1, h2⟩
theorem restE_len (env env' : Env) : ∀ vs : List Nat, (restE env vs env').length = env'.length
  | [] => rfl
  | v :: vs => by unfold restE; rw [List.length_set, restE_len env env' vs]
def clr (fps : List (List Addr)) : List Nat → List (List Addr)
  | [] => fps
  | v :: vs => (clr fps vs).set v []
theorem clr_len (fps : List (List Addr)) : ∀ vs : List Nat, (clr fps vs).length = fps.length
  | [] => rfl
  | v :: vs => by unfold clr; rw [List.length_set, clr_len fps vs]
theorem clr_mem {fps : List (List Addr)} {a : Addr} : ∀ {vs : List Nat}, a ∈ (clr fps vs).flatten → a ∈ fps.flatten
  | [], h => h
  | v :: vs, h => (mem_set_flat h).elim (fun z => by cases z) fun z => clr_mem z
theorem clr_nd {fps : List (List Addr)} (h : fps.flatten.Nodup) : ∀ {vs : List Nat}, (clr fps vs).flatten.Nodup
  | [] => h
  | v :: vs => nodup_set (by simpa using clr_nd h (vs := vs))
theorem clr_get {fps : List (List Addr)} {j : Nat} : ∀ {vs : List Nat}, (clr fps vs)[j]? = if j ∈ vs ∧ j < fps.length then some [] else fps[j]?
  | [] => by simp [clr]
  | v :: vs => by
    unfold clr
    by_cases e : v = j
    · subst e
      by_cases hl : v < fps.length
      · rw [List.getElem?_set_self (by rw [clr_len]; exact hl), if_pos ⟨List.mem_cons_self, hl⟩]
      · rw [List.getElem?_eq_none (by rw [List.length_set, clr_len]; omega), if_neg (fun h => hl h.2), List.getElem?_eq_none (by omega)]
    · rw [List.getElem?_set_ne e, clr_get (vs := vs)]
      have : (j ∈ v :: vs ∧ j < fps.length) ↔ (j ∈ vs ∧ j < fps.length) := by
        rw [List.mem_cons]
        exact ⟨fun ⟨h, h2⟩ => ⟨h.elim (fun h => absurd h.symm e) id, h2⟩, fun ⟨h, h2⟩ => ⟨.inr h, h2⟩⟩
      simp only [this]
theorem Sat.rest {G G' : GG} {env env' : Env} {σ : L2.St} {F H F' H' : Hp} {fps fps' : List (List Addr)} {vs : List Nat} (s : Sat G env σ F H fps) (f : Same F F') (s' : Sat G' env' (L2.wipe σ vs) F' H' fps') (h1 : G'.K = G.K) (h2 : G'.Ts = G.Ts) :
    Sat G (restE env vs env') σ F' H' (clr fps' vs) where
  w := by
    have w := s'.w
    rw [h2] at w
    exact ⟨w.sub, fun P hP => by
      obtain ⟨a, b, c⟩ := w.tab P hP
      exact ⟨a, b, fun z => c (clr_mem z)⟩, fun a ha => w.own a (clr_mem ha)⟩
  s := by
    have l1 := s'.s.l1
    have l2 := s'.s.l2
    rw [wipe_length] at l1 l2
    refine ⟨by rw [restE_len]; exact l1, by rw [clr_len]; exact l2, fun i c q => ?_⟩
    rcases restE_get q with ⟨q0, d, e1, e2⟩ | ⟨q1, q2⟩
    · obtain ⟨v, g, e3, e4, e5⟩ := s.slot e2
      subst e1
      cases e5 with
      | fz e5 =>
        have hi := (List.getElem?_eq_some_iff.mp e3).1
        exact ⟨v, [], e3, by rw [clr_get, if_pos ⟨q0, by omega⟩], .fz (dp_mono f e5)⟩
    · obtain ⟨v, g, e3, e4, e5⟩ := s'.slot q2
      refine ⟨v, g, ?_, by rw [clr_get, if_neg fun z => q1 z.1]; exact e4, by rw [← h1]; exact e5⟩
      rw [wipe_get, if_neg fun z => q1 z.1] at e3
      exact e3
  nd := clr_nd s'.nd
  pin := s.pin
theorem Step.toks {Ts : List Addr} {F H F' H' : Hp} {O O' : List Addr} (h : Step Ts F H O F' H' O') : Step Ts F H O F' H' O' := h
section
variable {G : GG} {it : IF} {vs : List Nat} {t : TF} {c : BF} {f : EF} {ix : List Nat}
theorem RepC.ol_inv {K : PySem.W.Frag} {F H : Hp} {cs : List Cell} {v : V} {fp : List Addr} (h : RepC K F H (.ol cs) v fp) : ∃ (l : Addr) (xs : List V) (fs : List (List Addr)), v = .ref l ∧ fp = l :: fs.flatten ∧ H l = some (.lst xs) ∧ F l = none ∧ cs.length = xs.length ∧ fs.length = xs.length ∧
    ∀ (i : Nat) (c : Cell) (v : V) (f : List Addr), cs[i]? = some c → xs[i]? = some v → fs[i]? = some f → RepC K F H c v f := by
  cases h with
  | ol h1 h2 h3 h4 h5 => exact ⟨_, _, _, rfl, rfl, h1, h2, h3, h4, h5⟩
/-- a list that grows keeps what it has -/
theorem RepC.app {K : PySem.W.Frag} {F H : Hp} {cs : List Cell} {Dl : Addr} {fp f : List Addr} {acc : List V} {y : V} {cy : Cell} (h : RepC K F H (.ol cs) (.ref Dl) fp) (e : H Dl = some (.lst acc)) (hy : RepC K F H cy y f) (hd : ∀ a ∈ fp, a ∉ f) (nd : fp.Nodup) :
    RepC K F (upd H Dl (.lst (acc ++ [y]))) (.ol (cs ++ [cy])) (.ref Dl) (fp ++ f) := by
  obtain ⟨l, xs, fs, e0, rfl, h1, h2, h3, h4, h5⟩ := h.ol_inv
  cases e0
  rw [h1] at e
  cases e
  have hD : Dl ∉ fs.flatten := (List.nodup_cons.mp nd).1
  have e1 : Dl :: fs.flatten ++ f = Dl :: (fs ++ [f]).flatten := by simp
  rw [e1]
  have kp : ∀ {c : Cell} {v : V} {g : List Addr}, RepC K F H c v g → Dl ∉ g → RepC K F (upd H Dl (.lst (acc ++ [y]))) c v g := fun {c v g} r hg =>
    r.keep (Same.refl _) (fun a ha o e => by
      have : a ≠ Dl := fun z => hg (z ▸ ha)
      rw [upd_ne this]; exact e) fun a ha => (r.fp_some a ha).1
  refine .ol upd_same h2 (by simp [h3]) (by simp [h4]) fun i c v g e1 e2 e3 => ?_
  by_cases hi : i < acc.length
  · rw [List.getElem?_append_left (by omega)] at e1 e2 e3
    exact kp (h5 i c v g e1 e2 e3) fun z => hD (mem_flat e3 z)
  · have hi2 : i < (acc ++ [y]).length := (List.getElem?_eq_some_iff.mp e2).1
    have hi3 : i = acc.length := by
      rw [List.length_append, List.length_singleton] at hi2
      omega
    subst hi3
    rw [List.getElem?_append_right (by omega)] at e1 e2 e3
    rw [h3] at e1
    rw [h4] at e3
    simp at e1 e2 e3
    subst e1; subst e2; subst e3
    exact kp hy (hd Dl List.mem_cons_self)
theorem Step.lay {Ts : List Addr} {F H F1 H1 : Hp} {O O1 : List Addr} {p : Addr} {o : HO} (st : Step Ts F H O F1 H1 O1) (hp : H p = none) (ht : p ∉ Ts) : Step Ts F H O F1 (upd H1 p o) O1 where
  k := fun a u e h1 h2 => by rw [upd_ne (ne_of_none e hp)]; exact st.k a u e h1 h2
  g := fun a e => by
    by_cases z : a = p
    · rw [z]; exact hp
    · rw [upd_ne z] at e; exact st.g a e
  f := st.f
  n := st.n
  o := st.o
theorem rd_lc (hix : ∀ j ∈ ix, j ∈ vs) (hpin : ∀ p ∈ G.pin, p.1 ∉ vs) {σ : L2.St} {H : Hp} {Q : VK} (h : tE G (lcE it vs t c f) σ H Q) : tLc (tI G it) (tG G.no ix t) (tT G.no c) (tE G.no f) vs σ H Q := by
  obtain ⟨F, fps, env, s, q⟩ := h
  refine ⟨F, fps, env, s, q.bnd.mono (fun r _ q F1 H1 fps1 J s1 st1 hJ Dl hD => ?_) fun _ h => h⟩
  obtain ⟨ds, env1⟩ := r
  obtain ⟨hgo, hstop, hyld⟩ := hJ
  have hDt : Dl ∉ G.Ts := fun z => by
    obtain ⟨⟨ps, e, _⟩, _⟩ := s1.w.tab Dl z
    rw [hD] at e; cases e
  have hD0 : H Dl = none := st1.g Dl hD
  have hDF : F1 Dl = none := by
    cases z : F1 Dl with
    | none => rfl
    | some o => rw [s1.w.sub Dl o z] at hD; cases hD
  refine ⟨fun i m H' => m = ds.length - i ∧ i ≤ ds.length ∧ ∃ F' fps' env' cs fp, Sat G.no env' (L2.wipe σ vs) F' H' fps' ∧ Same F1 F' ∧ Step G.Ts F H fps.flatten F' H' fps'.flatten ∧
    RepC G.K F' H' (.ol cs) (.ref Dl) fp ∧ (fp ++ fps'.flatten).Nodup ∧ (∀ a ∈ fp, a ∈ fps.flatten ∨ H a = none) ∧
    RW ((lcL vs t c f (ds.drop i) cs env').bnd fun q => R.ok (Cell.ol q.1, restE env1 vs q.2)) (fun ce => ∀ x F' H' fps' fp, Res G ce.2 σ F H fps.flatten ce.1 x F' H' fps' fp → Q x H') (fun c => ∀ F' H', Step G.Ts F H fps.flatten F' H' [] → G.E c H'), ⟨_, rfl, Nat.zero_le _, ?_⟩, ?_⟩
  · have rs := res_own (cs := []) (vs := []) (fl := []) s1 st1 hD rfl rfl (fun i c v f h => by simp at h) s1.nd (fun a h => by cases h) (fun a h => by cases h)
    refine ⟨F1, fps1, wipeE env1 vs, [], [Dl], rs.sat.wipe vs hpin rfl G.no rfl rfl rfl, Same.refl _, rs.step, rs.rep, rs.nd, rs.new, q⟩
  · rintro i m H' ⟨rfl, hi, F', fps', env', cs, fp, s', sf, st', rp, nd, new, q'⟩
    by_cases hlt : i < ds.length
    · refine .inr ⟨hgo i F' H' sf s'.w.sub hlt, fun H3 => ∃ F' fps' env' cs fp, Sat G.no env' (L2.wipe σ vs) F' H3 fps' ∧ Same F1 F' ∧ Step G.Ts F H fps.flatten F' H3 fps'.flatten ∧
        RepC G.K F' H3 (.ol cs) (.ref Dl) fp ∧ (fp ++ fps'.flatten).Nodup ∧ (∀ a ∈ fp, a ∈ fps.flatten ∨ H a = none) ∧
        RW ((lcL vs t c f (ds.drop (i + 1)) cs env').bnd fun q => R.ok (Cell.ol q.1, restE env1 vs q.2)) (fun ce => ∀ x F' H' fps' fp, Res G ce.2 σ F H fps.flatten ce.1 x F' H' fps' fp → Q x H') (fun c => ∀ F' H', Step G.Ts F H fps.flatten F' H' [] → G.E c H'), ?_, ?_⟩
      · rintro H3 ⟨F3, fps3, env3, cs3, fp3, z⟩
        exact ⟨ds.length - (i + 1), by omega, rfl, hlt, F3, fps3, env3, cs3, fp3, z⟩
      · intro x H2 hy
        obtain ⟨F2, n⟩ := hyld i F' H' x H2 ds[i] sf s'.w.sub hy (by simp [hlt])
        rw [List.drop_eq_getElem_cons hlt] at q'
        have s2 := s'.grow n
        have st2 := st'.trans (n.stp (Ts := G.Ts) (O' := fps'.flatten))
        -- the list so far is held
        have hold : ∀ {F3 H3 : Hp} {O3 : List Addr}, Step G.Ts F2 H2 fps'.flatten F3 H3 O3 → RepC G.K F3 H3 (.ol cs) (.ref Dl) fp ∧ ∀ a ∈ fp, a ∉ O3 := fun {F3 H3 O3} st => by
          have hd := nodup_dis nd
          have w' : Wld G.Ts F' H' fps'.flatten := s'.w
          have stn : Step G.Ts F' H' fps'.flatten F3 H3 O3 := (n.stp (Ts := G.Ts) (O' := fps'.flatten)).trans st
          refine ⟨rp.step stn w' hd, fun a ha z => ?_⟩
          obtain ⟨_, o, e, _⟩ := rp.fp_some a ha
          rcases stn.o a z with z | z
          · exact hd a ha z
          · rw [e] at z; cases z
        simp only [lcL] at q'
        refine ⟨F2, fps', env', .fz ds[i], [], s2, n.rep, s2.nd, (noR_ok q'.bnd.bnd).mono (fun env3 _ q3 σ3 F3 H3 fps3 ag s3 st3 => ?_) fun c h => h⟩
        have hw : L2.wipe σ3 vs = L2.wipe σ vs := wipe_agree ag hix
        refine ⟨hw, F3, fps3, env3, s3, (noR_ok q3.bnd).mono (fun r3 _ q4 F4 H4 fps4 s4 st4 => ?_) fun c h => h⟩
        obtain ⟨k, env4⟩ := r3
        have st34 := st3.trans st4
        cases k with
        | false =>
          have q4 : RW _ _ _ := q4
          simp only [Bool.false_eq_true, if_false] at q4 ⊢
          obtain ⟨h1, h2⟩ := hold st34
          refine ⟨F4, fps4, wipeE env4 vs, cs, fp, ?_, sf.trans (n.f.trans st34.f), st2.trans st34, h1, List.nodup_append.mpr ⟨(List.nodup_append.mp nd).1, s4.nd, fun a ha b hb e => h2 a ha (e ▸ hb)⟩, new, RW.mk q4⟩
          exact s4.wipe (σ' := σ) vs hpin hw.symm G.no rfl rfl rfl
        | true =>
          have q4 : RW _ _ _ := q4
          simp only [if_true] at q4 ⊢
          refine ⟨F4, fps4, env4, s4, (noR_ok q4.bnd).mono (fun r5 _ q5 y F5 H5 fps5 fpy re => ?_) fun c h => h⟩
          obtain ⟨cy, env5⟩ := r5
          have st345 := st34.trans re.step
          obtain ⟨h1, h2⟩ := hold st345
          by_cases hlim : cs.length < lim
          · simp only [if_pos hlim] at q5
            obtain ⟨l0, acc, fs, e0, efp, g1, g2, g3, g4, g5⟩ := h1.ol_inv
            cases e0
            subst efp
            · skip
              refine ⟨acc, g1, by rw [← g3]; exact hlim, ?_⟩
              have hdy : ∀ a ∈ Dl :: fs.flatten, a ∉ fpy := fun a ha z => by
                obtain ⟨h6, _⟩ := hold st34
                obtain ⟨_, o, e, _⟩ := h6.fp_some a ha
                rcases re.new a z with z | z
                · exact (hold st34).2 a ha z
                · rw [e] at z; cases z
              have rp2 := h1.app g1 re.rep hdy (List.nodup_append.mp nd).1
              have st6 : Step G.Ts F H fps.flatten F5 (upd H5 Dl (.lst (acc ++ [y]))) fps5.flatten := (st2.trans st345).lay hD0 hDt
              have s6 : Sat G.no (wipeE env5 vs) (L2.wipe σ vs) F5 (upd H5 Dl (.lst (acc ++ [y]))) fps5 := by
                have z := re.sat.wipe (σ' := σ) vs hpin hw.symm G.no rfl rfl rfl
                refine ⟨⟨fun a o e => ?_, fun P hP => ?_, fun a ha => ?_⟩, ⟨z.s.l1, z.s.l2, fun j cc e => ?_⟩, z.nd, z.pin⟩
                · have : a ≠ Dl := fun q => by rw [q, g2] at e; cases e
                  rw [upd_ne this]; exact z.w.sub a o e
                · obtain ⟨⟨ps, a1, a2⟩, a3, a4⟩ := z.w.tab P hP
                  have : P ≠ Dl := fun q => hDt (q ▸ hP)
                  exact ⟨⟨ps, by rw [upd_ne this]; exact a1, a2⟩, a3, a4⟩
                · have : a ≠ Dl := fun q => h2 Dl List.mem_cons_self (q ▸ ha)
                  rw [upd_ne this]; exact z.w.own a ha
                · obtain ⟨v, g, e1, e2, e3⟩ := z.slot e
                  refine ⟨v, g, e1, e2, e3.keep (Same.refl _) (fun a ha o e => ?_) fun a ha => (e3.fp_some a ha).1⟩
                  have : a ≠ Dl := fun q => h2 Dl List.mem_cons_self (q ▸ mem_flat e2 ha)
                  rw [upd_ne this]; exact e
              refine ⟨F5, fps5, wipeE env5 vs, cs ++ [cy], _, s6, sf.trans (n.f.trans st345.f), st6, rp2, ?_, fun a ha => ?_, RW.mk q5⟩
              · rw [List.append_assoc]
                refine List.nodup_append.mpr ⟨(List.nodup_append.mp nd).1, re.nd, fun a ha b hb e => ?_⟩
                subst e
                rcases List.mem_append.mp hb with z | z
                · exact hdy a ha z
                · exact h2 a ha z
              · rcases List.mem_append.mp ha with ha | ha
                · exact new a ha
                · rcases re.new a ha with z | z
                  · exact (st2.trans st34).o a z
                  · exact .inr ((st2.trans st34).g a z)
          · simp only [if_neg hlim] at q5
            exact q5.elim
    · have e : i = ds.length := by omega
      subst e
      rw [List.drop_length] at q'
      refine .inl ⟨hstop _ F' H' sf s'.w.sub (Nat.le_refl _), q' (.ref Dl) F' H' (clr fps' vs) fp ⟨s1.rest sf s' rfl rfl, st'.less fun a ha => clr_mem ha, rp, ?_, new⟩⟩
      exact List.nodup_append.mpr ⟨(List.nodup_append.mp nd).1, clr_nd s'.nd, fun a ha b hb e => nodup_dis nd a ha (e ▸ clr_mem hb)⟩
end

section
variable {X : Cx} {G : GG} {elt tg iter : Expr} {ifs : List Expr} {scope : Scope} {own : List (Str × Nat)} {pos : Pos} {it : IF} {t : TF} {c : BF} {f : EF} {ix : List Nat}
theorem ts_nil : PTs X [] (tT G yesB) := ⟨fun pins s σ H Q I ⟨F, fps, env, st, q⟩ => pts_nil.run pins s σ H Q I (q F H fps st .refl)⟩
theorem ts_one {e : Expr} (h : PT X e (tT G c)) : PTs X [e] (tT G c) := pts_one h
theorem e_lc (hc : X.calm = true) (hN : X.N.Nodup) (hi : PI X tg iter (tI G it)) (ok : BlkOk X.N X.env.scope scope own) (hpin : ∀ p ∈ G.pin, p.1 ∉ own.map (·.2)) (hix : ∀ j ∈ ix, j ∈ own.map (·.2))
    (hg : ∀ (s : Shared) (H : Hp) (C : Addr) (cl : List (Str × Addr)) (fp : List Addr), PG (X.blk s H scope (compEnvC scope cl C X.env) fp) tg (tG G.no ix t)) (ht : ∀ (s : Shared) (H : Hp) (C : Addr) (cl : List (Str × Addr)) (fp : List Addr), PTs (X.blk s H scope (compEnvC scope cl C X.env) fp) ifs (tT G.no c))
    (he : ∀ (s : Shared) (H : Hp) (C : Addr) (cl : List (Str × Addr)) (fp : List Addr), PE (X.blk s H scope (compEnvC scope cl C X.env) fp) elt (tE G.no f)) (hs : ∀ x, foldedSetIterable iter X.env x = pure x := by intro _; rfl) :
    PE X (.ListComp elt [⟨tg, iter, ifs, 0⟩] scope pos) (tE G (lcE it (own.map (·.2)) t c f)) := peW (pe_lc hc hN hi ok hg ht he hs) fun σ H Q h => rd_lc hix hpin h
/-- name = [..] on one line -/
theorem s_setLc (i : Nat) {y : Str} {py spos : Pos} (hc : X.calm = true) (hN : X.N.Nodup) (hy : X.N[i]? = some y) (hyl : X.env.scope.names.lookup y = some .local) (hp : ∀ p ∈ G.pin, p.1 ≠ i)
    (hsw : swapsWith (.ListComp elt [⟨tg, iter, ifs, 0⟩] scope pos) (some (.Name y py)) spos.line X.env = pure true) (hi : PI X tg iter (tI G it)) (ok : BlkOk X.N X.env.scope scope own) (hpin : ∀ p ∈ G.pin, p.1 ∉ own.map (·.2)) (hix : ∀ j ∈ ix, j ∈ own.map (·.2))
    (hg : ∀ (s : Shared) (H : Hp) (C : Addr) (cl : List (Str × Addr)) (fp : List Addr), PG (X.blk s H scope (compEnvC scope cl C X.env) fp) tg (tG G.no ix t)) (ht : ∀ (s : Shared) (H : Hp) (C : Addr) (cl : List (Str × Addr)) (fp : List Addr), PTs (X.blk s H scope (compEnvC scope cl C X.env) fp) ifs (tT G.no c))
    (he : ∀ (s : Shared) (H : Hp) (C : Addr) (cl : List (Str × Addr)) (fp : List Addr), PE (X.blk s H scope (compEnvC scope cl C X.env) fp) elt (tE G.no f)) (hs : ∀ x, foldedSetIterable iter X.env x = pure x := by intro _; rfl) :
    PS X (.Assign [.Name y py] (.ListComp elt [⟨tg, iter, ifs, 0⟩] scope pos) spos) (tS G (asgS (lcE it (own.map (·.2)) t c f) (nameT i))) :=
  psW (ps_setLc hc hN hy hyl hsw hi ok hg ht he hs) fun D σ H h => rd_lc hix hpin (tE_mono (rd_asg h) fun x H' q => rd_nameT hp q)
end
end PF
/-! PF7: defs and their calls. -/
namespace PF
open PySem PySem.Spec L2

/-! ### promises -/
abbrev DenN := List D → R Cell
abbrev DenI := Cell → List D → R (Cell × Cell)
/-- a def that changes nothing that it is given -/
def SpN (K : PySem.W.Frag) (Ts : List Addr) (xc : Nat → Value) (n : Nat) (den : DenN) : Sp := fun vs H Q E => ∃ F ds, vs.length = n ∧ DqAll K F vs ds ∧ Wld Ts F H [] ∧
  RW (den ds) (fun c => ∀ x F' H' fp, Step Ts F H [] F' H' [] → Wld Ts F' H' [] → RepC K F' H' c x fp → fp.Nodup → (∀ a ∈ fp, H a = none) → Q x H') (fun e => ∀ F' H', Step Ts F H [] F' H' [] → E (xc e) none H')
/-- a def that may change its first argument -/
def SpI (K : PySem.W.Frag) (Ts : List Addr) (xc : Nat → Value) (n : Nat) (den : DenI) : Sp := fun vs H Q E => ∃ F c0 f0 v0 ws ds, vs = v0 :: ws ∧ vs.length = n ∧ RepC K F H c0 v0 f0 ∧ f0.Nodup ∧ DqAll K F ws ds ∧ Wld Ts F H f0 ∧
  RW (den c0 ds) (fun r => ∀ x F' H' fp f', Step Ts F H f0 F' H' f' → Wld Ts F' H' f' → RepC K F' H' r.1 x fp → RepC K F' H' r.2 v0 f' → (fp ++ f').Nodup → (∀ a ∈ fp, a ∈ f0 ∨ H a = none) → Q x H') (fun e => ∀ F' H', Step Ts F H f0 F' H' [] → E (xc e) none H')

def fin1 : R (Out × Env) → R Cell := fun r => r.bnd fun r => match r.1 with
  | .rt c => .ok c
  | .nx => .ok (.fz .none)
  | _ => none
def fin2 : R (Out × Env) → R (Cell × Cell) := fun r => r.bnd fun r => match r.2[0]? with
  | some (some c') => match r.1 with
    | .rt c => .ok (c, c')
    | .nx => .ok (.fz .none, c')
    | _ => none
  | _ => none
/-- n: how many names -/
def denN (f : SF) (n : Nat) : DenN := fun ds => fin1 (f (ds.map (fun d => some (Cell.fz d)) ++ List.replicate (n - ds.length) none))
def denI (f : SF) (n : Nat) : DenI := fun c0 ds => fin2 (f (some c0 :: (ds.map (fun d => some (Cell.fz d)) ++ List.replicate (n - (ds.length + 1)) none)))

theorem flat_repl (n : Nat) : (List.replicate n ([] : List Addr)).flatten = [] := by
  induction n with
  | zero => rfl
  | succ n ih => rw [List.replicate_succ, List.flatten_cons, ih]; rfl
theorem sat_start {G : GG} {F H : Hp} {vs : List V} {ds : List D} {N : List Str} (h : DqAll G.K F vs ds) (w : Wld G.Ts F H []) (hp : G.pin = []) (hn : vs.length ≤ N.length) :
    Sat G (ds.map (fun d => some (Cell.fz d)) ++ List.replicate (N.length - ds.length) none) (L2.start N vs) F H (List.replicate N.length []) := by
  have hl := dps_length h
  have hfl : ∀ n : Nat, (List.replicate n ([] : List Addr)).flatten = [] := flat_repl
  have hls : (L2.start N vs).length = N.length := by
    unfold L2.start
    rw [List.length_append, List.length_map, List.length_replicate]
    omega
  refine ⟨by rw [hfl]; exact w, ⟨?_, ?_, fun i c e => ?_⟩, by rw [hfl]; exact List.nodup_nil, fun p q => by rw [hp] at q; cases q⟩
  · rw [hls, List.length_append, List.length_map, List.length_replicate]
    omega
  · rw [hls, List.length_replicate]
  · by_cases hi : i < ds.length
    · rw [List.getElem?_append_left (by simpa using hi), List.getElem?_map] at e
      cases q : ds[i]? with
      | none => rw [q] at e; cases e
      | some d =>
        rw [q] at e
        cases e
        obtain ⟨v, e1, r⟩ := dps_get h q
        refine ⟨v, [], ?_, by rw [List.getElem?_replicate, if_pos (by omega)], .fz r⟩
        unfold L2.start
        rw [List.getElem?_append_left (by rw [List.length_map]; omega), List.getElem?_map, e1]
        rfl
    · rw [List.getElem?_append_right (by simpa using hi), List.getElem?_replicate] at e
      split at e <;> cases e
theorem sat_startI {G : GG} {F H : Hp} {vs : List V} {v0 : V} {c0 : Cell} {f0 : List Addr} {ds : List D} {N : List Str} (r0 : RepC G.K F H c0 v0 f0) (nd : f0.Nodup) (h : DqAll G.K F vs ds) (w : Wld G.Ts F H f0) (hp : G.pin = [(0, v0)]) (hn : vs.length + 1 ≤ N.length) :
    Sat G (some c0 :: (ds.map (fun d => some (Cell.fz d)) ++ List.replicate (N.length - (ds.length + 1)) none)) (L2.start N (v0 :: vs)) F H (f0 :: List.replicate (N.length - 1) []) := by
  have hl := dps_length h
  have hfl : (f0 :: List.replicate (N.length - 1) []).flatten = f0 := by
    rw [List.flatten_cons, flat_repl, List.append_nil]
  have hls : (L2.start N (v0 :: vs)).length = N.length := by
    unfold L2.start
    rw [List.length_append, List.length_map, List.length_replicate, List.length_cons]
    omega
  refine ⟨by rw [hfl]; exact w, ⟨?_, ?_, fun i c e => ?_⟩, by rw [hfl]; exact nd, fun p q => ?_⟩
  · rw [hls, List.length_cons, List.length_append, List.length_map, List.length_replicate]
    omega
  · rw [hls, List.length_cons, List.length_replicate]
    omega
  · cases i with
    | zero =>
      cases e
      exact ⟨v0, f0, rfl, rfl, r0⟩
    | succ i =>
      have e : (ds.map (fun d => some (Cell.fz d)) ++ List.replicate (N.length - (ds.length + 1)) none)[i]? = some (some c) := e
      by_cases hi : i < ds.length
      · rw [List.getElem?_append_left (by simpa using hi), List.getElem?_map] at e
        cases q : ds[i]? with
        | none => rw [q] at e; cases e
        | some d =>
          rw [q] at e
          cases e
          obtain ⟨v, e1, r⟩ := dps_get h q
          refine ⟨v, [], ?_, ?_, .fz r⟩
          · unfold L2.start
            rw [List.getElem?_append_left (by rw [List.length_map, List.length_cons]; omega), List.getElem?_map, List.getElem?_cons_succ, e1]
            rfl
          · rw [List.getElem?_cons_succ, List.getElem?_replicate, if_pos (by omega)]
      · rw [List.getElem?_append_right (by simpa using hi), List.getElem?_replicate] at e
        split at e <;> cases e
  · rw [hp] at q
    cases q with
    | head => rfl
    | tail _ q => cases q

section
variable {P : Program} {w : World} {K : PySem.W.Frag} {mg : Str → Option Value} {base : Heap}
theorem fn_denN {x qual : Str} {st : Stmt} {f : Addr} {fd : FuncData} {N ps : List Str} {k : Nat} (Ts : List Addr) (xc : Nat → Value) (F0 : SF) (Fn : Fun K x qual st f fd) (S : FnScope N ps (defScope st)) (hn : ps.length ≤ N.length)
    (hb : ∀ (cdv : Value) (A : Around) (outer : List PySem.Env) (s : Shared) (H : Hp) (E : XK), Room k (A.deeper (PyProof.Rows.envOfC qual (defScope st) s.heap.objs.size f cdv)) →
      PSs (cxOf (L2.CX P w) P w K mg base N qual (defScope st) f cdv A outer s H E) (defBody st) (tS { K := K, Ts := Ts, E := fun c H' => E (xc c) none H', pin := [] } F0)) :
    FnOk P w K mg base (L2.CX P w) (k + 1) f fd ps (SpN K Ts xc ps.length (denN F0 N.length)) := by
  refine Fn.okX S (fun vs H Q E ⟨F, ds, h, _⟩ => h) fun cdv A outer s H vs Q E hr ⟨F, ds, hl, hd, hw, q⟩ => ⟨_, hb cdv A outer s H E hr, ?_⟩
  have s0 := sat_start (G := { K := K, Ts := Ts, E := fun c H' => E (xc c) none H', pin := [] }) (N := N) hd hw rfl (by omega)
  have hO : (List.replicate N.length ([] : List Addr)).flatten = [] := flat_repl _
  refine ⟨F, _, _, s0, ?_⟩
  rw [hO]
  refine q.bnd.mono (fun r _ q => ?_) fun c h => h
  obtain ⟨o, env⟩ := r
  cases o with
  | nx => exact fun σ' F' H' fps' s' st => q .non F' H' [] (st.less fun a h => by cases h) ⟨s'.w.sub, fun P hP => ⟨(s'.w.tab P hP).1, (s'.w.tab P hP).2.1, by simp⟩, fun a h => by cases h⟩ (.fz .non) List.nodup_nil fun a h => by cases h
  | bk => exact q.elim
  | ct => exact q.elim
  | rt c =>
    refine fun σ' x F' H' fps' fp re => q x F' H' fp (re.step.less fun a h => by cases h) ⟨re.sat.w.sub, fun P hP => ⟨(re.sat.w.tab P hP).1, (re.sat.w.tab P hP).2.1, by simp⟩, fun a h => by cases h⟩ re.rep (List.nodup_append.mp re.nd).1 fun a ha => ?_
    rcases re.new a ha with z | z
    · cases z
    · exact z
theorem fn_denI {x qual : Str} {st : Stmt} {f : Addr} {fd : FuncData} {N ps : List Str} {k : Nat} (Ts : List Addr) (xc : Nat → Value) (F0 : SF) (Fn : Fun K x qual st f fd) (S : FnScope N ps (defScope st)) (hn : ps.length ≤ N.length)
    (hb : ∀ (cdv : Value) (A : Around) (outer : List PySem.Env) (s : Shared) (H : Hp) (E : XK) (v0 : V), Room k (A.deeper (PyProof.Rows.envOfC qual (defScope st) s.heap.objs.size f cdv)) →
      PSs (cxOf (L2.CX P w) P w K mg base N qual (defScope st) f cdv A outer s H E) (defBody st) (tS { K := K, Ts := Ts, E := fun c H' => E (xc c) none H', pin := [(0, v0)] } F0)) :
    FnOk P w K mg base (L2.CX P w) (k + 1) f fd ps (SpI K Ts xc ps.length (denI F0 N.length)) := by
  refine Fn.okX S (fun vs H Q E ⟨F, c0, f0, v0, ws, ds, _, h, _⟩ => h) fun cdv A outer s H vs Q E hr ⟨F, c0, f0, v0, ws, ds, e, hl, r0, nd, hd, hw, q⟩ => ⟨_, hb cdv A outer s H E v0 hr, ?_⟩
  subst e
  rw [List.length_cons] at hl
  have s0 := sat_startI (G := { K := K, Ts := Ts, E := fun c H' => E (xc c) none H', pin := [(0, v0)] }) (N := N) r0 nd hd hw rfl (by omega)
  have hO : (f0 :: List.replicate (N.length - 1) ([] : List Addr)).flatten = f0 := by
    rw [List.flatten_cons, flat_repl, List.append_nil]
  refine ⟨F, _, _, s0, ?_⟩
  rw [hO]
  have q2 : RW (fin2 (F0 (some c0 :: (ds.map (fun d => some (Cell.fz d)) ++ List.replicate (N.length - (ds.length + 1)) none)))) _ _ := q
  refine q2.bnd.mono (fun r _ q => ?_) fun c h => h
  obtain ⟨o, env⟩ := r
  cases e0 : env[0]? with
  | none => simp only [e0] at q; exact q.elim
  | some c1 =>
    cases c1 with
    | none => simp only [e0] at q; exact q.elim
    | some c' =>
      simp only [e0] at q
      have sub : ∀ {σ' F' H' fps'}, Sat { K := K, Ts := Ts, E := fun c H' => E (xc c) none H', pin := [(0, v0)] } env σ' F' H' fps' → ∃ f', RepC K F' H' c' v0 f' ∧ (∀ a ∈ f', a ∈ fps'.flatten) ∧ f'.Sublist fps'.flatten := fun {σ' F' H' fps'} s' => by
        obtain ⟨v, f', h1, h2, h3⟩ := s'.slot e0
        have h4 := s'.pin (0, v0) (by simp)
        rw [h1] at h4
        cases h4
        exact ⟨f', h3, fun a ha => mem_flat h2 ha, List.sublist_flatten_of_mem (List.mem_of_getElem? h2)⟩
      have wld : ∀ {F' H' : Hp} {O f' : List Addr}, Wld Ts F' H' O → (∀ a ∈ f', a ∈ O) → Wld Ts F' H' f' := fun {F' H' O f'} w h =>
        ⟨w.sub, fun P hP => ⟨(w.tab P hP).1, (w.tab P hP).2.1, fun z => (w.tab P hP).2.2 (h P z)⟩, fun a ha => w.own a (h a ha)⟩
      cases o with
      | nx =>
        refine fun σ' F' H' fps' s' st => ?_
        obtain ⟨f', h1, h2, h3⟩ := sub s'
        exact q .non F' H' [] f' (st.less h2) (wld s'.w h2) (.fz .non) h1 (s'.nd.sublist h3) fun a h => by cases h
      | bk => exact q.elim
      | ct => exact q.elim
      | rt c =>
        refine fun σ' x F' H' fps' fp re => ?_
        obtain ⟨f', h1, h2, h3⟩ := sub re.sat
        exact q x F' H' fp f' (re.step.less h2) (wld re.sat.w h2) re.rep h1 (re.nd.sublist (List.Sublist.append_left h3 _)) re.new
end

/-! ### calls -/
/-- the arguments as data; whether a name's own thing is among them -/
def argsD (env : Env) : List Arg → Option (List D × Bool)
  | [] => some ([], false)
  | .v c :: as => if c.nd = true then (argsD env as).map fun r => (c.d :: r.1, r.2) else none
  | .s i :: as => match env[i]? with
    | some (some (.fz d)) => (argsD env as).map fun r => (d :: r.1, r.2)
    | some (some c) => if c.nd = true then (argsD env as).map fun r => (c.d :: r.1, true) else none
    | _ => none
def Cell.scal : Cell → Bool
  | .fz .none => true
  | .fz (.bool _) => true
  | .fz (.int _) => true
  | .fz (.str _) => true
  | _ => false
def callE (den : DenN) (as : List AF) : EF := fun env => (evA as env).bnd fun r => match argsD r.2 r.1 with
  | some (ds, false) => (den ds).bnd fun c => .ok (c, r.2)
  | some (ds, true) => (den ds).bnd fun c => if c.scal = true then .ok (c, r.2) else none
  | none => none
def callI (den : DenI) (i : Nat) (as : List AF) : EF := fun env => (evA (.s i :: as) env).bnd fun r => match r.1, r.2[i]? with
  | _ :: as', some (some c0) => match argsD r.2 as' with
    | some (ds, false) => (den c0 ds).bnd fun q => .ok (q.1, r.2.set i (some q.2))
    | _ => none
  | _, _ => none
section
variable {G : GG} {env env' : Env} {σ : L2.St} {F H F' H' : Hp} {fps fps' : List (List Addr)} {O O' : List Addr}
theorem Sat.steps (s : Sat G env σ F H fps) (st : Step G.Ts F H O F' H' O') (hd : ∀ a ∈ fps.flatten, a ∉ O) (hs : Same F' H') (ht : ∀ P ∈ G.Ts, GxR.TabG H' P ∧ F' P = none) : Sat G env σ F' H' fps where
  w := ⟨hs, fun P hP => ⟨(ht P hP).1, (ht P hP).2, (s.w.tab P hP).2.2⟩, fun a ha => by
    obtain ⟨h0, o, e, nt⟩ := s.w.own a ha
    refine ⟨?_, o, st.k a o e (hd a ha) (s.notab e nt), nt⟩
    cases q : F' a with
    | none => rfl
    | some o' =>
      rcases st.n a o' q with z | z | z
      · rw [h0] at z; cases z
      · exact absurd z (hd a ha)
      · rw [e] at z; cases z⟩
  s := ⟨s.s.l1, s.s.l2, fun i c e => by
    obtain ⟨v, f, h1, h2, h3⟩ := s.slot e
    have ht : ∀ a ∈ f, a ∉ G.Ts := fun a ha => by
      obtain ⟨_, o, e, nt⟩ := h3.fp_some a ha
      exact s.notab e nt
    refine ⟨v, f, h1, h2, h3.keep st.f (fun a ha o e => st.k a o e (hd a (mem_flat h2 ha)) (ht a ha)) fun a ha => ?_⟩
    obtain ⟨hn, o, e, _⟩ := h3.fp_some a ha
    cases q : F' a with
    | none => rfl
    | some o' =>
      rcases st.n a o' q with z | z | z
      · rw [hn] at z; cases z
      · exact absurd z (hd a (mem_flat h2 ha))
      · rw [e] at z; cases z⟩
  nd := s.nd
  pin := s.pin
theorem RepA.args {as : List Arg} {xs : List V} {fl : List (List Addr)} (h : RepA G.K σ F H as xs fl) (s : Sat G env σ F H fps) (G' : Hp) (hF : Same F G') (hG : ∀ a ∈ fl.flatten, ∀ o, H a = some o → G' a = some o) :
    ∀ {ds : List D} {b : Bool}, argsD env as = some (ds, b) → (b = true → ∀ a ∈ fps.flatten, ∀ o, H a = some o → G' a = some o) → DqAll G.K G' xs ds := by
  induction h with
  | nil => intro ds b e _; cases e; exact .nil
  | @v c x f as xs fl r _ ih =>
    intro ds b e hb
    simp only [argsD] at e
    split at e
    · rename_i hn
      cases q : argsD env as with
      | none => rw [q] at e; cases e
      | some z =>
        rw [q] at e
        cases e
        exact .cons (r.dp hF (fun a ha => hG a (by rw [List.flatten_cons]; exact List.mem_append_left _ ha)) hn) (ih (fun a ha => hG a (by rw [List.flatten_cons]; exact List.mem_append_right _ ha)) q hb)
    · cases e
  | @s i x as xs fl hx _ ih =>
    intro ds b e hb
    have hG2 : ∀ a ∈ fl.flatten, ∀ o, H a = some o → G' a = some o := fun a ha => hG a (by rw [List.flatten_cons]; exact List.mem_append_right _ ha)
    simp only [argsD] at e
    split at e
    · rename_i d e1
      cases q : argsD env as with
      | none => rw [q] at e; cases e
      | some z =>
        rw [q] at e
        cases e
        obtain ⟨v, f, h1, _, h3⟩ := s.slot e1
        rw [hx] at h1
        cases h1
        cases h3 with
        | fz h3 => exact .cons (dp_mono hF h3) (ih hG2 q hb)
    · rename_i c _ e1
      split at e
      · rename_i hn
        cases q : argsD env as with
        | none => rw [q] at e; cases e
        | some z =>
          rw [q] at e
          cases e
          obtain ⟨v, f, h1, h2, h3⟩ := s.slot e1
          rw [hx] at h1
          cases h1
          refine .cons (h3.dp hF (fun a ha => hb rfl a (mem_flat h2 ha)) hn) (ih hG2 q fun _ => hb rfl)
      · cases e
    · cases e
theorem scal_rep {c : Cell} {x : V} {fp : List Addr} {K : PySem.W.Frag} (h : RepC K F H c x fp) (hs : c.scal = true) (F' H' : Hp) : fp = [] ∧ RepC K F' H' c x [] := by
  cases h with
  | fz h =>
    refine ⟨rfl, .fz ?_⟩
    cases h with
    | non => exact .non
    | bl b => exact .bl b
    | int i => exact .int i
    | str x => exact .str x
    | lst _ _ => cases hs
    | tup _ _ => cases hs
  | ol _ _ _ _ _ => cases hs
  | dk _ _ _ _ _ => cases hs
  | dt _ _ _ _ _ => cases hs
theorem rd_call {xc : Nat → Value} {n : Nat} {den : DenN} {as : List AF} {E : XK} {Q : VK} (hn : as.length = n) (hE : ∀ c H', G.E c H' → E (xc c) none H') (h : tE G (callE den as) σ H Q) : tB G as σ H fun vs H1 => SpN G.K G.Ts xc n den vs H1 Q E := by
  obtain ⟨F, fps, env, s, q⟩ := h
  refine ⟨F, fps, env, s, q.bnd.mono (fun r he q xs F1 H1 fps1 fl ra => ?_) fun _ h => h⟩
  have hlen : xs.length = n := by rw [ra.rep.lenA, evA_len he, hn]
  have hs := fun a ha => ra.rep.fp_some a ha
  -- the arguments are frozen
  have s2 := ra.sat.frz (fun a ha => (hs a ha).1) (nodup_dis ra.nd) fun a ha => by
    obtain ⟨_, o, e, nt⟩ := hs a ha
    exact ra.sat.notab e nt
  have st2 : Step G.Ts F H fps.flatten (frz F1 H1 fl.flatten) H1 fps1.flatten := ⟨ra.step.k, ra.step.g, ra.step.f.trans (frz_same fun a ha => (hs a ha).1), fun a o e => by
    by_cases z : a ∈ fl.flatten
    · exact .inr (ra.new a z)
    · rw [frz_out z] at e; exact ra.step.n a o e, ra.step.o⟩
  split at q
  · rename_i ds ed
    refine ⟨frz F1 H1 fl.flatten, ds, hlen, ?_, ⟨s2.w.sub, fun P hP => ⟨(s2.w.tab P hP).1, (s2.w.tab P hP).2.1, by simp⟩, fun a h => by cases h⟩, RW.mono q.bnd (fun c _ q x F2 H2 fp st3 w3 rp nd new => ?_) fun c h F' H' st3 => hE c H' (h F' H' (st2.trans ⟨fun a o e h1 h2 => st3.k a o e (by simp) h2, st3.g, st3.f, fun a o e => (st3.n a o e).elim .inl fun z => z.elim (fun z => by cases z) fun z => .inr (.inr z), fun a h => by cases h⟩))⟩
    · exact ra.rep.args ra.sat _ (frz_same fun a ha => (hs a ha).1) (fun a ha o e => by rw [frz_in ha]; exact e) ed fun z => by cases z
    · have s3 := s2.steps st3 (fun a _ => by simp) w3.sub fun P hP => ⟨(w3.tab P hP).1, (w3.tab P hP).2.1⟩
      have st4 : Step G.Ts (frz F1 H1 fl.flatten) H1 fps1.flatten F2 H2 fps1.flatten := ⟨fun a o e _ h2 => st3.k a o e (by simp) h2, st3.g, st3.f, fun a o e => (st3.n a o e).elim .inl fun z => z.elim (fun z => by cases z) fun z => .inr (.inr z), fun a h => .inl h⟩
      refine q x F2 H2 fps1 fp ⟨s3, st2.trans st4, rp, List.nodup_append.mpr ⟨nd, s3.nd, fun a ha b hb e => ?_⟩, fun a ha => .inr (st2.g a (new a ha))⟩
      subst e
      obtain ⟨_, o, e, _⟩ := s2.w.own a hb
      rw [new a ha] at e; cases e
  · rename_i ds ed
    have hall : ∀ a ∈ fl.flatten ++ fps1.flatten, F1 a = none ∧ ∃ o, H1 a = some o ∧ NT o := fun a ha => (List.mem_append.mp ha).elim (hs a) (ra.sat.w.own a)
    have fs : Same F1 (frz F1 H1 (fl.flatten ++ fps1.flatten)) := frz_same fun a ha => (hall a ha).1
    have stw : ∀ {F2 H2 : Hp}, Step G.Ts (frz F1 H1 (fl.flatten ++ fps1.flatten)) H1 [] F2 H2 [] → Step G.Ts F1 H1 (fl.flatten ++ fps1.flatten) F2 H2 [] := fun {F2 H2} st3 => ⟨fun a o e _ h2 => st3.k a o e (by simp) h2, st3.g, fs.trans st3.f, fun a o e => by
      rcases st3.n a o e with z | z | z
      · by_cases hz : a ∈ fl.flatten ++ fps1.flatten
        · exact .inr (.inl hz)
        · rw [frz_out hz] at z; exact .inl z
      · cases z
      · exact .inr (.inr z), fun a h => by cases h⟩
    refine ⟨frz F1 H1 (fl.flatten ++ fps1.flatten), ds, hlen, ?_, ⟨frz_sub ra.sat.w.sub, fun P hP => ⟨(ra.sat.w.tab P hP).1, ?_, by simp⟩, fun a h => by cases h⟩, RW.mono q.bnd (fun c _ q x F2 H2 fp st3 w3 rp nd new => ?_) fun c h F' H' st3 => hE c H' (h F' H' (step_app ra.step ra.new (stw st3)))⟩
    · exact ra.rep.args ra.sat _ fs (fun a ha o e => by rw [frz_in (List.mem_append_left _ ha)]; exact e) ed fun _ a ha o e => by rw [frz_in (List.mem_append_right _ ha)]; exact e
    · rw [frz_out fun z => by
        obtain ⟨_, o, e, nt⟩ := hall P z
        exact ra.sat.notab e nt hP]
      exact (ra.sat.w.tab P hP).2.1
    · split at q
      · rename_i hsc
        obtain ⟨rfl, rp2⟩ := scal_rep rp hsc F1 H2
        have st4 : Step G.Ts F1 H1 fps1.flatten F1 H2 fps1.flatten := ⟨fun a o e _ h2 => st3.k a o e (by simp) h2, st3.g, Same.refl _, fun a o e => .inl e, fun a h => .inl h⟩
        have s3 : Sat G r.2 σ F1 H2 fps1 := by
          refine ra.sat.steps (O := []) (O' := []) ⟨st3.k, st3.g, Same.refl _, fun a o e => .inl e, fun a h => by cases h⟩ (fun a _ => by simp) (fun a o e => ?_) fun P hP => ⟨(w3.tab P hP).1, (ra.sat.w.tab P hP).2.1⟩
          exact w3.sub a o (st3.f a o (fs a o e))
        exact q x F1 H2 fps1 [] ⟨s3, ra.step.trans st4, rp2, s3.nd, fun a h => by cases h⟩
      · exact q.elim
  · exact q.elim
theorem rd_callI {xc : Nat → Value} {n i : Nat} {den : DenI} {as : List AF} {E : XK} {Q : VK} (hn : as.length + 1 = n) (hpin : ∀ p ∈ G.pin, True) (hE : ∀ c H', G.E c H' → E (xc c) none H') (h : tE G (callI den i as) σ H Q) : tB G (.s i :: as) σ H fun vs H1 => SpI G.K G.Ts xc n den vs H1 Q E := by
  obtain ⟨F, fps, env, s, q⟩ := h
  refine ⟨F, fps, env, s, q.bnd.mono (fun r he q xs F1 H1 fps1 fl ra => ?_) fun _ h => h⟩
  have hlen : xs.length = n := by rw [ra.rep.lenA, evA_len he, List.length_cons, hn]
  obtain ⟨args, env1⟩ := r
  cases args with
  | nil => exact q.elim
  | cons a0 as' =>
    cases e0 : env1[i]? with
    | none => simp only [e0] at q; exact q.elim
    | some c1 =>
      cases c1 with
      | none => simp only [e0] at q; exact q.elim
      | some c0 =>
        simp only [e0] at q
        cases ed : argsD env1 as' with
        | none => simp only [ed] at q; exact q.elim
        | some z =>
          obtain ⟨ds, b⟩ := z
          cases b with
          | true => simp only [ed] at q; exact q.elim
          | false =>
            simp only [ed] at q
            have ha0 : a0 = .s i := by
              simp only [evA] at he
              split at he
              · cases z : evA as env with
                | none => rw [z] at he; cases he
                | some z' =>
                  cases z' with
                  | error c => rw [z] at he; cases he
                  | ok p => rw [z] at he; cases he; rfl
              · cases he
            subst ha0
            obtain ⟨v0, f0, h1, h2, h3⟩ := ra.sat.slot e0
            have hi := (List.getElem?_eq_some_iff.mp h1).1
            have rp0 := ra.rep
            cases rp0 with
            | @s _ x _ xs' fl' hx rest =>
              rw [h1] at hx
              cases hx
              have hflat : ([] :: fl').flatten = fl'.flatten := rfl
              have hs := fun a ha => rest.fp_some a ha
              have nd0 : (fl'.flatten ++ fps1.flatten).Nodup := ra.nd
              have s2 := ra.sat.frz (fun a ha => (hs a ha).1) (nodup_dis nd0) fun a ha => by
                obtain ⟨_, o, e, nt⟩ := hs a ha
                exact ra.sat.notab e nt
              have st2 : Step G.Ts F H fps.flatten (frz F1 H1 fl'.flatten) H1 fps1.flatten := ⟨ra.step.k, ra.step.g, ra.step.f.trans (frz_same fun a ha => (hs a ha).1), fun a o e => by
                by_cases z : a ∈ fl'.flatten
                · exact .inr (ra.new a z)
                · rw [frz_out z] at e; exact ra.step.n a o e, ra.step.o⟩
              obtain ⟨v', f', g1, g2, g3⟩ := s2.slot e0
              rw [h1] at g1; cases g1
              rw [h2] at g2; cases g2
              have hf0 : ∀ a ∈ f0, a ∈ fps1.flatten := fun a ha => mem_flat h2 ha
              have wf : Wld G.Ts (frz F1 H1 fl'.flatten) H1 f0 := ⟨s2.w.sub, fun P hP => ⟨(s2.w.tab P hP).1, (s2.w.tab P hP).2.1, fun z => (s2.w.tab P hP).2.2 (hf0 P z)⟩, fun a ha => s2.w.own a (hf0 a ha)⟩
              have ndf : f0.Nodup := s2.nd.sublist (List.sublist_flatten_of_mem (List.mem_of_getElem? h2))
              have stw : ∀ {F2 H2 : Hp} {O2 : List Addr}, Step G.Ts (frz F1 H1 fl'.flatten) H1 f0 F2 H2 O2 → Step G.Ts (frz F1 H1 fl'.flatten) H1 fps1.flatten F2 H2 O2 := fun {F2 H2 O2} st3 =>
                ⟨fun a o e h1 h2 => st3.k a o e (fun z => h1 (hf0 a z)) h2, st3.g, st3.f, fun a o e => (st3.n a o e).elim .inl fun z => z.elim (fun z => .inr (.inl (hf0 a z))) fun z => .inr (.inr z), fun a h => (st3.o a h).elim (fun z => .inl (hf0 a z)) .inr⟩
              refine ⟨frz F1 H1 fl'.flatten, c0, f0, v0, xs', ds, rfl, hlen, g3, ndf, ?_, wf, RW.mono q.bnd (fun rr _ q x F2 H2 fp f' st3 w3 rp rp' nd new => ?_) fun c h F' H' st3 => hE c H' (h F' H' (st2.trans (stw st3)))⟩
              · exact rest.args ra.sat _ (frz_same fun a ha => (hs a ha).1) (fun a ha o e => by rw [frz_in ha]; exact e) ed fun z => by cases z
              · have s3 := s2.drop i
                have dis : ∀ a ∈ (fps1.set i []).flatten, a ∉ f0 := fun a ha z => by
                  obtain ⟨g, hg, hag⟩ := List.mem_flatten.mp ha
                  obtain ⟨j, hj, ej⟩ := List.getElem_of_mem hg
                  by_cases hij : i = j
                  · subst hij
                    rw [List.getElem_set_self] at ej
                    subst ej
                    cases hag
                  · rw [List.getElem_set_ne hij] at ej
                    have hj' : j < fps1.length := by simpa using hj
                    exact flat_apart s2.nd h2 (List.getElem?_eq_some_iff.mpr ⟨hj', ej⟩) hij z hag
                have s4 := s3.steps st3 dis w3.sub fun P hP => ⟨(w3.tab P hP).1, (w3.tab P hP).2.1⟩
                have fresh : ∀ a ∈ (fps1.set i []).flatten, ∀ g : List Addr, (∀ b ∈ g, b ∈ f0 ∨ H1 b = none) → a ∉ g := fun a ha g hg z => by
                  rcases hg a z with z | z
                  · exact dis a ha z
                  · obtain ⟨_, o, e, _⟩ := s3.w.own a ha
                    rw [z] at e; cases e
                have ndf' : (f' ++ (fps1.set i []).flatten).Nodup := List.nodup_append.mpr ⟨(List.nodup_append.mp nd).2.1, s4.nd, fun a ha b hb e => fresh b hb f' (fun b hb => st3.o b hb) (e ▸ ha)⟩
                have s5 := s4.put rp' ndf' i hi fun p hp e => by
                  have z := ra.sat.pin p hp
                  rw [e, h1] at z
                  exact (Option.some.inj (Option.some.inj z)).symm
                rw [set_same h1, List.set_set, List.set_set] at s5
                have st5 : Step G.Ts (frz F1 H1 fl'.flatten) H1 fps1.flatten F2 H2 (fps1.set i f').flatten := by
                  have z := stw st3
                  refine ⟨z.k, z.g, z.f, z.n, fun a ha => ?_⟩
                  rcases mem_set_flat ha with ha | ha
                  · exact z.o a ha
                  · exact .inl ha
                refine q x F2 H2 (fps1.set i f') fp ⟨s5, st2.trans st5, rp, List.nodup_append.mpr ⟨(List.nodup_append.mp nd).1, s5.nd, fun a ha b hb e => ?_⟩, fun a ha => ?_⟩
                · subst e
                  have hb2 : a ∈ ((fps1.set i []).set i f').flatten := by rw [List.set_set]; exact hb
                  rcases mem_set_flat hb2 with z | z
                  · exact nodup_dis nd a ha z
                  · exact fresh a z fp new ha
                · rcases new a ha with z | z
                  · exact st2.o a (hf0 a z)
                  · exact .inr (st2.g a z)
end
theorem pass_tk {X : Cx} {E : XK} (tk : Takes X (fun cls d _ H => E cls d H)) : Passes (L2.CX X.prog X.w) X E := fun pins σ H s e s' I c => tk e s' (XE.of_call I (fun _ _ _ h => h) c)
section
variable {X : Cx} {G : GG} {k : Nat} {f : Addr} {fd : FuncData} {ps : List Str} {xc : Nat → Value} {E : XK} {x : Str} {p pos : Pos} {e : Expr} {es : List Expr} {as : List AF} {a : AF}
theorem e_call {den : DenN} (F : FnOk X.prog X.w X.K X.mg X.base (L2.CX X.prog X.w) k f fd ps (SpN G.K G.Ts xc ps.length den)) (hr : Room k X.A) (hg : Gl X x) (hm : X.mg x = some (.ref f)) (hk : PySem.W.keepIn X.K (.ref f) = true) (hb : Binds X.K fd ps [])
    (hx : Passes (L2.CX X.prog X.w) X E) (hE : ∀ c H', G.E c H' → E (xc c) none H') (hn : (a :: as).length = ps.length) (ha : PA X (e :: es) (tB G (a :: as))) (hdb : (x == ("__debug__" : Str)) = false := by decide)
    (he : starEach (e :: es) X.env = (false, eval e X.env) :: starEach es X.env := by rfl) (hpl : (backTo pos (starEach es X.env)).any (·.1) = false := by rfl) :
    PE X (.Call (.Name x p) (e :: es) [] pos) (tE G (callE den (a :: as))) :=
  peW (pe_call F hr hg hm hk hb .nil hx ha hdb he hpl) fun σ H Q h => tB_mono (rd_call hn hE h) fun vs H1 q => by
    rw [List.append_nil]
    exact q
theorem e_callI {den : DenI} (i : Nat) (F : FnOk X.prog X.w X.K X.mg X.base (L2.CX X.prog X.w) k f fd ps (SpI G.K G.Ts xc ps.length den)) (hr : Room k X.A) (hg : Gl X x) (hm : X.mg x = some (.ref f)) (hk : PySem.W.keepIn X.K (.ref f) = true) (hb : Binds X.K fd ps [])
    (hx : Passes (L2.CX X.prog X.w) X E) (hE : ∀ c H', G.E c H' → E (xc c) none H') (hn : as.length + 1 = ps.length) (ha : PA X (e :: es) (tB G (.s i :: as))) (hdb : (x == ("__debug__" : Str)) = false := by decide)
    (he : starEach (e :: es) X.env = (false, eval e X.env) :: starEach es X.env := by rfl) (hpl : (backTo pos (starEach es X.env)).any (·.1) = false := by rfl) :
    PE X (.Call (.Name x p) (e :: es) [] pos) (tE G (callI den i as)) :=
  peW (pe_call F hr hg hm hk hb .nil hx ha hdb he hpl) fun σ H Q h => tB_mono (rd_callI hn (fun _ _ => trivial) hE h) fun vs H1 q => by
    rw [List.append_nil]
    exact q
end
end PF
/-! PF8: operations. -/
namespace PF
open PySem L2

/-! ### looks at cells -/
def Cell.lst? : Cell → Option (List D)
  | .fz (.list ds) => some ds
  | .ol cs => if cs.all Cell.isFz = true then some (Cell.ds cs) else none
  | _ => none
def Cell.tup? : Cell → Option (List D)
  | .fz (.tuple ds) => some ds
  | _ => none
def Cell.int? : Cell → Option Int
  | .fz (.int i) => some i
  | _ => none
def Cell.str? : Cell → Option Str
  | .fz (.str x) => some x
  | _ => none
def Cell.bool? : Cell → Option Bool
  | .fz (.bool b) => some b
  | _ => none
def Cell.seq? (c : Cell) : Option (List D) := c.lst?.or c.tup?
section
variable {K : PySem.W.Frag} {F H : Hp} {c : Cell} {x : V} {f : List Addr}
theorem Rd.mono (e : Same F H) {a : Addr} {u : HO} (h : Rd F a u) : Rd H a u := h.elim (fun h => .inl (e _ _ h)) fun ⟨o, h⟩ => .inr ⟨o, e _ _ h⟩
theorem sqt_mono (e : Same F H) {a : Addr} {vs : List V} (h : SqT K F a vs) : SqT K H a vs := by
  rcases h with h | h
  · exact .inl (Rd.mono e h)
  · exact .inr h
theorem repc_lst (r : RepC K F H c x f) (hF : Same F H) {ds : List D} (e : c.lst? = some ds) : ∃ a vs, x = .ref a ∧ Rd H a (.lst vs) ∧ DqAll K F vs ds := by
  cases c with
  | fz d =>
    cases r with
    | fz r =>
      cases d with
      | list es =>
        cases e
        cases r with
        | lst h1 h2 => exact ⟨_, _, rfl, Rd.mono hF h1, h2⟩
      | _ => cases e
  | ol cs =>
    simp only [Cell.lst?] at e
    split at e
    · rename_i hz
      cases e
      obtain ⟨ds, rfl⟩ := all_fz hz
      obtain ⟨l, vs, fs, rfl, _, h1, _, h3, h4, h5⟩ := r.ol_inv
      refine ⟨l, vs, rfl, .inl h1, ?_⟩
      rw [ds_fz]
      rw [List.length_map] at h3
      refine dpAll_of h3.symm fun i v d e1 e2 => ?_
      have hi : i < fs.length := by
        have := (List.getElem?_eq_some_iff.mp e1).1
        omega
      have r := h5 i (.fz d) v fs[i] (by rw [List.getElem?_map, e2]; rfl) e1 (by simp [hi])
      generalize hg : fs[i] = g at r
      cases r with
      | fz r => exact r
    · cases e
  | dk _ => cases e
  | dt _ => cases e
theorem repc_tup (r : RepC K F H c x f) {ds : List D} (e : c.tup? = some ds) : ∃ a vs, x = .ref a ∧ SqT K F a vs ∧ DqAll K F vs ds := by
  cases c with
  | fz d =>
    cases r with
    | fz r =>
      cases d with
      | tuple es =>
        cases e
        cases r with
        | tup h1 h2 => exact ⟨_, _, rfl, h1, h2⟩
      | _ => cases e
  | _ => cases e
theorem repc_int (r : RepC K F H c x f) {i : Int} (e : c.int? = some i) : x = .int i := by
  cases c with
  | fz d =>
    cases r with
    | fz r =>
      cases d with
      | int j => cases e; cases r; rfl
      | _ => cases e
  | _ => cases e
theorem repc_str (r : RepC K F H c x f) {i : Str} (e : c.str? = some i) : x = .str i := by
  cases c with
  | fz d =>
    cases r with
    | fz r =>
      cases d with
      | str j => cases e; cases r; rfl
      | _ => cases e
  | _ => cases e
theorem repc_b (r : RepC K F H c x f) {i : Bool} (e : c.bool? = some i) : x = .bl i := by
  cases c with
  | fz d =>
    cases r with
    | fz r =>
      cases d with
      | bool j => cases e; cases r; rfl
      | _ => cases e
  | _ => cases e
theorem repc_nd (r : RepC K F H c x f) (hF : Same F H) (hn : c.nd = true) : Dq K H x c.d := r.dp hF (fun _ _ _ e => e) hn

theorem new_fz {d : D} (hF : Same F H) (h : Dq K F x d) : New K F H (.fz d) x F H [] := ⟨Same.refl _, Same.refl _, fun _ _ e => .inl e, hF, .fz h, List.nodup_nil, fun _ h => by cases h⟩
theorem none_of (hF : Same F H) {p : Addr} (hp : H p = none) : F p = none := by
  cases q : F p with
  | none => rfl
  | some o => rw [hF p o q] at hp; cases hp
theorem same_upd {p : Addr} {o : HO} (hp : H p = none) : Same H (upd H p o) := fun a u e => by rw [upd_ne (ne_of_none e hp)]; exact e
theorem new_tup {vs : List V} {ds : List D} {p : Addr} (hF : Same F H) (hp : H p = none) (h : DqAll K F vs ds) : New K F H (.fz (.tuple ds)) (.ref p) (upd F p (.tup vs)) (upd H p (.tup vs)) [] := by
  have hf := none_of hF hp
  refine ⟨same_upd hf, same_upd hp, fun a o e => ?_, fun a o e => ?_, .fz (.tup (SqT.of upd_same) (dps_mono (same_upd hf) h)), List.nodup_nil, fun _ h => by cases h⟩
  · by_cases z : a = p
    · rw [z]; exact .inr hp
    · rw [upd_ne z] at e; exact .inl e
  · by_cases z : a = p
    · rw [z, upd_same] at e ⊢; exact e
    · rw [upd_ne z] at e ⊢; exact hF a o e
theorem new_lst {vs : List V} {ds : List D} {p : Addr} (hF : Same F H) (hp : H p = none) (h : DqAll K F vs ds) : New K F H (.ol (ds.map Cell.fz)) (.ref p) F (upd H p (.lst vs)) [p] := by
  have hf := none_of hF hp
  have hl := dps_length h
  have e1 : [p] = p :: (List.replicate vs.length ([] : List Addr)).flatten := by rw [flat_repl]
  refine ⟨Same.refl _, same_upd hp, fun a o e => .inl e, hF.trans (same_upd hp), ?_, by simp, fun a ha => by rw [List.mem_singleton.mp ha]; exact hp⟩
  rw [e1]
  refine .ol upd_same hf (by simp [hl]) (by simp) fun i c v f e1 e2 e3 => ?_
  rw [List.getElem?_map] at e1
  cases q : ds[i]? with
  | none => rw [q] at e1; cases e1
  | some d =>
    rw [q] at e1
    cases e1
    rw [List.getElem?_replicate] at e3
    split at e3
    · cases e3
      obtain ⟨v', e4, r⟩ := dps_get h q
      rw [e2] at e4
      cases e4
      exact .fz r
    · cases e3
theorem RepL.one (h : RepL K F H [c] [x]) : ∃ f, RepC K F H c x f := by
  cases h with
  | cons h _ => exact ⟨_, h⟩
end

/-! ### operators on two values -/
/-- g on two cells -/
def on2 (g : Cell → Cell → Option Cell) : List Cell → Option Cell
  | [a, b] => g a b
  | _ => none
def on1 (g : Cell → Option Cell) : List Cell → Option Cell
  | [a] => g a
  | _ => none
theorem on2_inv {K : PySem.W.Frag} {F H : Hp} {g : Cell → Cell → Option Cell} {cs : List Cell} {c : Cell} {x y : V} (e : on2 g cs = some c) (h : RepL K F H cs [x, y]) : ∃ a b, g a b = some c ∧ (∃ f, RepC K F H a x f) ∧ ∃ f, RepC K F H b y f := by
  cases h with
  | cons h1 h2 =>
    cases h2 with
    | cons h2 h3 =>
      cases h3
      exact ⟨_, _, e, ⟨_, h1⟩, _, h2⟩
theorem on1_inv {K : PySem.W.Frag} {F H : Hp} {g : Cell → Option Cell} {cs : List Cell} {c : Cell} {x : V} (e : on1 g cs = some c) (h : RepL K F H cs [x]) : ∃ a, g a = some c ∧ ∃ f, RepC K F H a x f := by
  cases h with
  | cons h1 h2 =>
    cases h2
    exact ⟨_, e, _, h1⟩
abbrev int (i : Int) : Cell := .fz (.int i)
abbrev bool (b : Bool) : Cell := .fz (.bool b)
abbrev str (x : Str) : Cell := .fz (.str x)
abbrev tup (ds : List D) : Cell := .fz (.tuple ds)
abbrev lst (ds : List D) : Cell := .ol (ds.map .fz)
/-- numbers with less than 900,000 bits -/
def fits (i j : Int) : Bool := decide (i.natAbs.log2 + j.natAbs.log2 < 1000000)
def gAdd : Cell → Cell → Option Cell := fun a b => match a.int?, b.int? with
  | some i, some j => some (int (i + j))
  | _, _ => match a.tup?, b.tup? with
    | some xs, some ys => if xs.length + ys.length ≤ lim then some (tup (xs ++ ys)) else none
    | _, _ => match a.lst?, b.lst? with
      | some xs, some ys => if xs.length + ys.length ≤ lim then some (lst (xs ++ ys)) else none
      | _, _ => match a.str?, b.str? with
        | some x, some y => if x.length + y.length ≤ lim then some (str (x ++ y)) else none
        | _, _ => none
def gSub : Cell → Cell → Option Cell := fun a b => match a.int?, b.int? with
  | some i, some j => some (int (i - j))
  | _, _ => none
def gMul : Cell → Cell → Option Cell := fun a b => match a.int?, b.int? with
  | some i, some j => if fits i j = true then some (int (i * j)) else none
  | _, _ => match a.lst?, b.int? with
    | some xs, some k => if xs.length * k.toNat ≤ lim ∧ k < 2 ^ 62 ∧ -(2 ^ 62) < k then some (lst (List.replicate k.toNat xs).flatten) else none
    | _, _ => match a.tup?, b.int? with
      | some xs, some k => if xs ≠ [] ∧ 2 ≤ k ∧ k ≤ 1000 ∧ xs.length ≤ 1000 then some (tup (List.replicate k.toNat xs).flatten) else if k = 1 then some (tup xs) else if xs = [] ∨ k ≤ 0 then some (tup []) else none
      | _, _ => none
def gDiv : Cell → Cell → Option Cell := fun a b => match a.int?, b.int? with
  | some i, some j => if 0 < j ∧ j.natAbs.log2 < 9000 then some (int (i / j)) else if j < 0 ∧ j.natAbs < 1073741824 then some (int (i.fdiv j)) else none
  | _, _ => none
def gMod : Cell → Cell → Option Cell := fun a b => match a.int?, b.int? with
  | some i, some j => if 0 < j then some (int (i % j)) else if j < 0 then some (int (i.fmod j)) else none
  | _, _ => none
def gPow : Cell → Cell → Option Cell := fun a b => match a.int?, b.int? with
  | some i, some j => if 0 ≤ j ∧ j ≤ 1000000 ∧ i.natAbs < 2 ^ 64 then some (int (i ^ j.toNat)) else none
  | _, _ => none
def gShr : Cell → Cell → Option Cell := fun a b => match a.int?, b.int? with
  | some i, some j => if 0 ≤ j then some (int (i / 2 ^ j.toNat)) else none
  | _, _ => none
def gXor : Cell → Cell → Option Cell := fun a b => match a.int?, b.int? with
  | some i, some j => some (int (Builtin.bitXor i j))
  | _, _ => none
def gI (p : Int → Int → Bool) : Cell → Cell → Option Cell := fun a b => match a.int?, b.int? with
  | some i, some j => some (bool (p i j))
  | _, _ => none
def gEq : Cell → Cell → Option Cell := fun a b => if a.nd = true ∧ b.nd = true ∧ SeqAt.shaped a.d = true ∧ SeqAt.shaped b.d = true then some (bool (PyData.eqv a.d b.d)) else none
def gNe : Cell → Cell → Option Cell := fun a b => if a.nd = true ∧ b.nd = true ∧ SeqAt.shaped a.d = true ∧ SeqAt.shaped b.d = true then some (bool (!PyData.eqv a.d b.d)) else none
def Cell.isN : Cell → Bool
  | .fz .none => true
  | _ => false
/-- is None, is True, is False -/
def gIs (n : Bool) : Cell → Cell → Option Cell := fun a b => if b.isN = true then some (bool (a.isN != n)) else match a.bool?, b.bool? with
  | some x, some y => some (bool (decide (x = y) != n))
  | _, _ => none
def gIn (n : Bool) : Cell → Cell → Option Cell := fun a b => if a.nd = true ∧ SeqAt.shaped a.d = true then match b.d with
    | .list ds => if b.nd = true ∧ SeqAt.shaped (.list ds) = true then some (bool ((ds.any fun z => PyData.eqv z a.d) != n)) else none
    | .tuple ds => if b.nd = true ∧ SeqAt.shaped (.tuple ds) = true then some (bool ((ds.any fun z => PyData.eqv z a.d) != n)) else none
    | _ => none
  else none
section
variable {X : Cx}
/-- how an operator's rule is shown -/
theorem op_of {f : Value → Value → Sem Value} {g : Cell → Cell → Option Cell}
    (h : ∀ (F H : Hp) (a b c : Cell) (x y : V) (Q : VK), Same F H → g a b = some c → (∃ f, RepC X.K F H a x f) → (∃ f, RepC X.K F H b y f) → (∀ z F' H' fp, New X.K F H c z F' H' fp → Q z H') → ∃ r : R2, OpR X f r ∧ r x y H Q) :
    OpR X f (r2 X.K (on2 g)) := fun pins sh σ H x y v u Q I rx ry ⟨F, cs, c, hF, rl, eg, k⟩ => by
  obtain ⟨a, b, e, ra, rb⟩ := on2_inv eg rl
  obtain ⟨r, hr, q⟩ := h F H a b c x y Q hF e ra rb k
  exact hr pins sh σ H x y v u Q I rx ry q
/-- list + list -/
def rCatR : R2 := fun x y H Q => ∃ l b xs zs, x = .ref l ∧ y = .ref b ∧ Rd H l (.lst xs) ∧ Rd H b (.lst zs) ∧ xs.length + zs.length ≤ sizeLine ∧ ∀ p, H p = none → Q (.ref p) (upd H p (.lst (xs ++ zs)))
theorem op_catR : OpR X (binaryOp .Add) rCatR := fun pins sh σ H x y v u Q I rx ry ⟨l, b, xs, zs, e1, e2, hl, hb, hz, q⟩ => by
  subst e1; subst e2
  cases rx; cases ry
  obtain ⟨z1, its, n1, ri, ei⟩ := hl.ok I.hok
  obtain ⟨z2, jts, n2, rj, ej⟩ := hb.ok I.hok
  refine PySem.P.add_list ei ej ?_ (by rw [List.size_toArray, List.size_toArray, ← ri.length, ← rj.length]; exact hz)
  have ea : its.toArray ++ jts.toArray = (its ++ jts).toArray := List.append_toArray ..
  rw [ea]
  exact ⟨.ref _, _, I.lnew (t' := sh.toks) (ri.append rj) (by rw [List.length_append]; exact hz), rfl, q _ I.fresh⟩
theorem int_none {K : PySem.W.Frag} {F H : Hp} {c : Cell} {x : V} {f : List Addr} (r : RepC K F H c x f) {ds : List D} (e : c.tup? = some ds) : c.int? = none := by
  cases c with
  | fz d => cases d with
    | int _ => cases e
    | _ => rfl
  | _ => rfl
theorem o_add : OpR X (binaryOp .Add) (r2 X.K (on2 gAdd)) := op_of fun F H a b c x y Q hF e ⟨fa, ra⟩ ⟨fb, rb⟩ k => by
  unfold gAdd at e
  split at e
  · rename_i i j e1 e2
    cases e
    exact ⟨_, op_add, i, j, repc_int ra e1, repc_int rb e2, k _ F H [] (new_fz hF (.int _))⟩
  · split at e
    · rename_i xs ys e1 e2
      split at e
      · rename_i hz
        cases e
        obtain ⟨p, vs, rfl, h1, h2⟩ := repc_tup ra e1
        obtain ⟨q, ws, rfl, h3, h4⟩ := repc_tup rb e2
        have l1 := dps_length h2
        have l2 := dps_length h4
        refine ⟨_, op_catA, p, q, vs, ws, rfl, rfl, sqt_mono hF h1, sqt_mono hF h3, by rw [l1, l2]; exact hz, fun e0 => ?_, fun e0 e1 => ?_, fun _ _ r hr => ?_⟩
        · subst e0
          cases h2
          exact k _ F H [] (new_fz hF (.tup h3 h4))
        · subst e1
          cases h4
          rw [List.append_nil] at k
          exact k _ F H [] (new_fz hF (.tup h1 h2))
        · exact k _ _ _ _ (new_tup hF hr (dps_append h2 h4))
      · cases e
    · split at e
      · rename_i xs ys e1 e2
        split at e
        · rename_i hz
          cases e
          obtain ⟨p, vs, rfl, h1, h2⟩ := repc_lst ra hF e1
          obtain ⟨q, ws, rfl, h3, h4⟩ := repc_lst rb hF e2
          exact ⟨_, op_catR, p, q, vs, ws, rfl, rfl, h1, h3, by rw [dps_length h2, dps_length h4]; exact hz, fun r hr => k _ _ _ _ (new_lst hF hr (dps_append h2 h4))⟩
        · cases e
      · split at e
        · rename_i s t e1 e2
          split at e
          · rename_i hz
            cases e
            exact ⟨_, op_add_str, s, t, repc_str ra e1, repc_str rb e2, hz, k _ F H [] (new_fz hF (.str _))⟩
          · cases e
        · cases e
theorem o_sub : OpR X (binaryOp .Sub) (r2 X.K (on2 gSub)) := op_of fun F H a b c x y Q hF e ⟨fa, ra⟩ ⟨fb, rb⟩ k => by
  unfold gSub at e
  split at e
  · rename_i i j e1 e2
    cases e
    exact ⟨_, op_sub, i, j, repc_int ra e1, repc_int rb e2, k _ F H [] (new_fz hF (.int _))⟩
  · cases e
theorem o_div : OpR X (binaryOp .FloorDiv) (r2 X.K (on2 gDiv)) := op_of fun F H a b c x y Q hF e ⟨fa, ra⟩ ⟨fb, rb⟩ k => by
  unfold gDiv at e
  split at e
  · rename_i i j e1 e2
    split at e
    · rename_i hc
      cases e
      exact ⟨_, op_fdivW, i, j, repc_int ra e1, repc_int rb e2, hc, k _ F H [] (new_fz hF (.int _))⟩
    · split at e
      · rename_i hc
        cases e
        exact ⟨_, op_fdivN, i, j, repc_int ra e1, repc_int rb e2, ⟨by omega, hc.2⟩, k _ F H [] (new_fz hF (.int _))⟩
      · cases e
  · cases e
theorem o_mod : OpR X (binaryOp .Mod) (r2 X.K (on2 gMod)) := op_of fun F H a b c x y Q hF e ⟨fa, ra⟩ ⟨fb, rb⟩ k => by
  unfold gMod at e
  split at e
  · rename_i i j e1 e2
    split at e
    · rename_i hc
      cases e
      exact ⟨_, op_mod, i, j, repc_int ra e1, repc_int rb e2, hc, k _ F H [] (new_fz hF (.int _))⟩
    · split at e
      · rename_i hc
        cases e
        exact ⟨_, op_modN, i, j, repc_int ra e1, repc_int rb e2, (show j ≠ 0 by omega), k _ F H [] (new_fz hF (.int _))⟩
      · cases e
  · cases e
theorem o_pow : OpR X (binaryOp .Pow) (r2 X.K (on2 gPow)) := op_of fun F H a b c x y Q hF e ⟨fa, ra⟩ ⟨fb, rb⟩ k => by
  unfold gPow at e
  split at e
  · rename_i i j e1 e2
    split at e
    · rename_i hc
      cases e
      exact ⟨_, op_pow, i, j, repc_int ra e1, repc_int rb e2, hc, k _ F H [] (new_fz hF (.int _))⟩
    · cases e
  · cases e
theorem o_shr : OpR X (binaryOp .RShift) (r2 X.K (on2 gShr)) := op_of fun F H a b c x y Q hF e ⟨fa, ra⟩ ⟨fb, rb⟩ k => by
  unfold gShr at e
  split at e
  · rename_i i j e1 e2
    split at e
    · rename_i hc
      cases e
      exact ⟨_, op_shr, i, j, repc_int ra e1, repc_int rb e2, hc, k _ F H [] (new_fz hF (.int _))⟩
    · cases e
  · cases e
theorem o_xor : OpR X (binaryOp .BitXor) (r2 X.K (on2 gXor)) := op_of fun F H a b c x y Q hF e ⟨fa, ra⟩ ⟨fb, rb⟩ k => by
  unfold gXor at e
  split at e
  · rename_i i j e1 e2
    cases e
    exact ⟨_, op_xor, i, j, repc_int ra e1, repc_int rb e2, k _ F H [] (new_fz hF (.int _))⟩
  · cases e
theorem o_int {f : Value → Value → Sem Value} {p : Int → Int → Bool} (h : OpR X f (rI0 fun i j => .bl (p i j))) : OpR X f (r2 X.K (on2 (gI p))) := op_of fun F H a b c x y Q hF e ⟨fa, ra⟩ ⟨fb, rb⟩ k => by
  unfold gI at e
  split at e
  · rename_i i j e1 e2
    cases e
    exact ⟨_, h, i, j, repc_int ra e1, repc_int rb e2, k _ F H [] (new_fz hF (.bl _))⟩
  · cases e
theorem o_eq (hu : X.A.units + 64 < cLine) : OpR X (compareOp .Eq) (r2 X.K (on2 gEq)) := op_of fun F H a b c x y Q hF e ⟨fa, ra⟩ ⟨fb, rb⟩ k => by
  unfold gEq at e
  split at e
  · rename_i hc
    cases e
    exact ⟨_, op_eqD hu, a.d, b.d, (repc_nd ra hF hc.1).dp, (repc_nd rb hF hc.2.1).dp, hc.2.2.1, hc.2.2.2, k _ F H [] (new_fz hF (.bl _))⟩
  · cases e
theorem o_ne (hu : X.A.units + 64 < cLine) : OpR X (compareOp .NotEq) (r2 X.K (on2 gNe)) := op_of fun F H a b c x y Q hF e ⟨fa, ra⟩ ⟨fb, rb⟩ k => by
  unfold gNe at e
  split at e
  · rename_i hc
    cases e
    exact ⟨_, op_neD hu, a.d, b.d, (repc_nd ra hF hc.1).dp, (repc_nd rb hF hc.2.1).dp, hc.2.2.1, hc.2.2.2, k _ F H [] (new_fz hF (.bl _))⟩
  · cases e
theorem repc_isN {K : PySem.W.Frag} {F H : Hp} {c : Cell} {x : V} {f : List Addr} (r : RepC K F H c x f) : decide (x = .non) = c.isN := by
  cases r with
  | fz r => cases r <;> rfl
  | ol _ _ _ _ _ => rfl
  | dk _ _ _ _ _ => rfl
  | dt _ _ _ _ _ => rfl
theorem o_is : OpR X (compareOp .Is) (r2 X.K (on2 (gIs false))) := op_of fun F H a b c x y Q hF e ⟨fa, ra⟩ ⟨fb, rb⟩ k => by
  unfold gIs at e
  split at e
  · rename_i hc
    cases e
    refine ⟨_, op_isN, of_decide_eq_true ((repc_isN rb).trans hc), ?_⟩
    rw [repc_isN ra]
    have z := k (.bl a.isN) F H [] (by simpa using new_fz (d := .bool a.isN) hF (.bl _))
    exact z
  · split at e
    · rename_i i j e1 e2
      cases e
      refine ⟨_, op_isBl, i, j, repc_b ra e1, repc_b rb e2, k _ F H [] ?_⟩
      simpa using new_fz (d := .bool (decide (i = j))) hF (.bl _)
    · cases e
theorem o_isnot : OpR X (compareOp .IsNot) (r2 X.K (on2 (gIs true))) := op_of fun F H a b c x y Q hF e ⟨fa, ra⟩ ⟨fb, rb⟩ k => by
  unfold gIs at e
  split at e
  · rename_i hc
    cases e
    refine ⟨_, op_notN, of_decide_eq_true ((repc_isN rb).trans hc), ?_⟩
    rw [repc_isN ra]
    exact k _ F H [] (by simpa using new_fz (d := .bool (!a.isN)) hF (.bl _))
  · split at e
    · rename_i i j e1 e2
      cases e
      refine ⟨_, op_notBl, i, j, repc_b ra e1, repc_b rb e2, k _ F H [] ?_⟩
      simpa using new_fz (d := .bool (!decide (i = j))) hF (.bl _)
    · cases e
def rInT (K : PySem.W.Frag) (n : Bool) : R2 := fun x y H Q => ∃ d ds, Dp K H x d ∧ Dp K H y (.tuple ds) ∧ SeqAt.shaped d = true ∧ SeqAt.shaped (.tuple ds) = true ∧ Q (.bl ((ds.any fun z => PyData.eqv z d) != n)) H
theorem op_inT (hu : X.A.units + 65 < cLine) : OpR X (compareOp .In) (rInT X.K false) := fun pins sh σ H x y v u Q I rx ry ⟨d, ds, hd, he, sd, se, q⟩ => by
  obtain ⟨as1, w1⟩ := Dp.reads I d x v hd rx
  obtain ⟨as2, w2⟩ := Dp.reads I (.tuple ds) y u he ry
  refine SeqAt.in_tuple_reads w2 w1 (SeqAt.canLay_of_shaped se) (SeqAt.canLay_of_shaped sd) (PyProof.Rows.room_in_shaped sd hu) ⟨.bl _, H, I, rfl, ?_⟩
  rw [Bool.bne_false] at q
  exact q
theorem op_notInT (hu : X.A.units + 65 < cLine) : OpR X (compareOp .NotIn) (rInT X.K true) := fun pins sh σ H x y v u Q I rx ry ⟨d, ds, hd, he, sd, se, q⟩ => by
  obtain ⟨as1, w1⟩ := Dp.reads I d x v hd rx
  obtain ⟨as2, w2⟩ := Dp.reads I (.tuple ds) y u he ry
  refine SeqAt.notIn_tuple_reads w2 w1 (SeqAt.canLay_of_shaped se) (SeqAt.canLay_of_shaped sd) (PyProof.Rows.room_in_shaped sd hu) ⟨.bl _, H, I, rfl, ?_⟩
  rw [Bool.bne_true] at q
  exact q
theorem o_in (hu : X.A.units + 65 < cLine) : OpR X (compareOp .In) (r2 X.K (on2 (gIn false))) := op_of fun F H a b c x y Q hF e ⟨fa, ra⟩ ⟨fb, rb⟩ k => by
  unfold gIn at e
  split at e
  · rename_i h1
    split at e
    · rename_i ds eb
      split at e
      · rename_i h2
        cases e
        have hb := (repc_nd rb hF h2.1).dp
        rw [eb] at hb
        refine ⟨_, op_inD hu, a.d, ds, (repc_nd ra hF h1.1).dp, hb, h1.2, h2.2, k _ F H [] ?_⟩
        simpa using new_fz (d := .bool (ds.any fun z => PyData.eqv z a.d)) hF (.bl _)
      · cases e
    · rename_i ds eb
      split at e
      · rename_i h2
        cases e
        have hb := (repc_nd rb hF h2.1).dp
        rw [eb] at hb
        exact ⟨_, op_inT hu, a.d, ds, (repc_nd ra hF h1.1).dp, hb, h1.2, h2.2, k _ F H [] (new_fz hF (.bl _))⟩
      · cases e
    · cases e
  · cases e
theorem o_notin (hu : X.A.units + 65 < cLine) : OpR X (compareOp .NotIn) (r2 X.K (on2 (gIn true))) := op_of fun F H a b c x y Q hF e ⟨fa, ra⟩ ⟨fb, rb⟩ k => by
  unfold gIn at e
  split at e
  · rename_i h1
    split at e
    · rename_i ds eb
      split at e
      · rename_i h2
        cases e
        have hb := (repc_nd rb hF h2.1).dp
        rw [eb] at hb
        refine ⟨_, op_notInD hu, a.d, ds, (repc_nd ra hF h1.1).dp, hb, h1.2, h2.2, k _ F H [] ?_⟩
        simpa using new_fz (d := .bool (!(ds.any fun z => PyData.eqv z a.d))) hF (.bl _)
      · cases e
    · rename_i ds eb
      split at e
      · rename_i h2
        cases e
        have hb := (repc_nd rb hF h2.1).dp
        rw [eb] at hb
        exact ⟨_, op_notInT hu, a.d, ds, (repc_nd ra hF h1.1).dp, hb, h1.2, h2.2, k _ F H [] (new_fz hF (.bl _))⟩
      · cases e
    · cases e
  · cases e
end
end PF
namespace PF
open PySem PySem.Spec PyProof.Rows L2
theorem tmul_self (l : Addr) (items : Array Value) (n : Nat) (dd : Option Addr) (sl : Array (Option Value)) (x : Int) (u : Tok) (c0 : (decide (x < -(2 ^ 63)) || decide (x ≥ 2 ^ 63)) = false) (c1 : (items.isEmpty || x == 1) = true) :
    Meets (Builtin.«tuple.__mul__» ⟨[.ref l, .int x u], []⟩) (fun _ Rr sh => sh.heap.get? l = some { cls := .type "tuple", dict := dd, data := .seq items n, slots := sl } ∧ Rr (.ok (.ret (Value.ref l))) sh) :=
  .of_wp fun prog w A Rr sh hh => by
    obtain ⟨hp, g, d, tk, os⟩ := sh
    obtain ⟨hl, h⟩ := hh
    have f1 := AutoSeq1.idx_int
    wp_walk using wpAny_loadPart' hl
    repeat (first
      | (refine wpAny_ite_false (decide_eq_false (by rw [c0]; exact Bool.false_ne_true)) ?_; wp_walk using wpAny_loadPart' hl)
      | (refine wpAny_ite_true (decide_eq_true c1) ?_; wp_walk using wpAny_loadPart' hl))
    exact ⟨_, rfl, h⟩
theorem tmul_zero (l : Addr) (items : Array Value) (n : Nat) (dd : Option Addr) (sl : Array (Option Value)) (x : Int) (u : Tok) (c0 : (decide (x < -(2 ^ 63)) || decide (x ≥ 2 ^ 63)) = false) (c1 : (items.isEmpty || x == 1) = false) (c2 : (decide (x ≤ 0) || items.isEmpty) = true) :
    Meets (Builtin.«tuple.__mul__» ⟨[.ref l, .int x u], []⟩) (fun _ Rr sh => sh.heap.get? l = some { cls := .type "tuple", dict := dd, data := .seq items n, slots := sl } ∧
      Rr (.ok (.ret (Value.ref sh.heap.objs.size))) { sh with heap := sh.heap.push { cls := Value.type "tuple", data := Data.seq #[] }, toks := sh.toks }) :=
  .of_wp fun prog w A Rr sh hh => by
    obtain ⟨hp, g, d, tk, os⟩ := sh
    obtain ⟨hl, h⟩ := hh
    have f1 := AutoSeq1.idx_int
    wp_walk using wpAny_loadPart' hl
    repeat (first
      | (refine wpAny_ite_false (decide_eq_false (by rw [c0]; exact Bool.false_ne_true)) ?_; wp_walk using wpAny_loadPart' hl)
      | (refine wpAny_ite_false (decide_eq_false (by rw [c1]; exact Bool.false_ne_true)) ?_; wp_walk using wpAny_loadPart' hl)
      | (refine wpAny_ite_true (decide_eq_true c2) ?_; wp_walk using wpAny_loadPart' hl))
    exact ⟨_, rfl, h⟩

section
variable {X : Cx}
def rMulSelf (K : PySem.W.Frag) : R2 := fun x y H Q => ∃ l k vs, x = .ref l ∧ y = .int k ∧ SqT K H l vs ∧ -(2 ^ 62) < k ∧ k < 2 ^ 62 ∧ (vs = [] ∨ k = 1) ∧ Q (.ref l) H
theorem op_mulSelf : OpR X (binaryOp .Mult) (rMulSelf X.K) := fun pins sh σ H x y v u Q I rx ry ⟨l, k, vs, e1, e2, hT, h1, h2, hc, q⟩ => by
  subst e1; subst e2
  cases rx
  obtain ⟨t, rfl⟩ := ry
  obtain ⟨its, r, ⟨⟨cls, dd, data, sl⟩, ho, hcl, n, hd⟩, _⟩ := I.tuple hT
  simp only at hcl hd
  subst hcl hd
  have c0 : (decide (k < -(2 ^ 63)) || decide (k ≥ 2 ^ 63)) = false := by
    rw [decide_eq_false (by omega), decide_eq_false (by omega)]; rfl
  have c1 : (its.toArray.isEmpty || k == 1) = true := by
    rcases hc with hc | hc
    · subst hc; cases r; rfl
    · subst hc; simp
  refine wpAny_binaryOp_repeat_ref (T := "tuple") (U := "int") (by decide) ⟨_, ho, rfl⟩ (fun s' => typeIs_int s' k t) noFill_tuple_mul F.fills_int_mul F.slot_int_rmul repeat_tuple F.slot_int_index.lookup
    (call_meets F.slot_int_rmul (typeIs_int sh k t) F.entry_int_rmul (F.args_int_rmul_2 _ _) (int_rmul_tuple k t l its.toArray n dd sl)
      ⟨ho, rfl, ⟨_, ho, rfl⟩, call_meets F.slot_tuple_mul ⟨_, ho, rfl⟩ F.entry_tuple_mul (F.args_tuple_mul_2 _ _) (tmul_self l its.toArray n dd sl k t c0 c1) ⟨ho, ?_⟩⟩)
  exact ⟨.ref l, H, I, rfl, q⟩
def rMulNone (K : PySem.W.Frag) : R2 := fun x y H Q => ∃ l k vs, x = .ref l ∧ y = .int k ∧ SqT K H l vs ∧ -(2 ^ 62) < k ∧ k ≤ 0 ∧ vs ≠ [] ∧ ∀ p, H p = none → Q (.ref p) (upd H p (.tup []))
theorem op_mulNone : OpR X (binaryOp .Mult) (rMulNone X.K) := fun pins sh σ H x y v u Q I rx ry ⟨l, k, vs, e1, e2, hT, h1, h2, hc, q⟩ => by
  subst e1; subst e2
  cases rx
  obtain ⟨t, rfl⟩ := ry
  obtain ⟨its, r, ⟨⟨cls, dd, data, sl⟩, ho, hcl, n, hd⟩, _⟩ := I.tuple hT
  simp only at hcl hd
  subst hcl hd
  have c0 : (decide (k < -(2 ^ 63)) || decide (k ≥ 2 ^ 63)) = false := by
    rw [decide_eq_false (by omega), decide_eq_false (by omega)]; rfl
  have ne : its ≠ [] := fun e => hc (by subst e; cases r; rfl)
  have hi : its.toArray.isEmpty = false := by
    cases its with
    | nil => exact absurd rfl ne
    | cons a b => rfl
  have c1 : (its.toArray.isEmpty || k == 1) = false := by
    rw [hi, Bool.false_or]
    exact beq_eq_false_iff_ne.mpr (by omega)
  have c2 : (decide (k ≤ 0) || its.toArray.isEmpty) = true := by
    rw [decide_eq_true h2]; rfl
  refine wpAny_binaryOp_repeat_ref (T := "tuple") (U := "int") (by decide) ⟨_, ho, rfl⟩ (fun s' => typeIs_int s' k t) noFill_tuple_mul F.fills_int_mul F.slot_int_rmul repeat_tuple F.slot_int_index.lookup
    (call_meets F.slot_int_rmul (typeIs_int sh k t) F.entry_int_rmul (F.args_int_rmul_2 _ _) (int_rmul_tuple k t l its.toArray n dd sl)
      ⟨ho, rfl, ⟨_, ho, rfl⟩, call_meets F.slot_tuple_mul ⟨_, ho, rfl⟩ F.entry_tuple_mul (F.args_tuple_mul_2 _ _) (tmul_zero l its.toArray n dd sl k t c0 c1 c2) ⟨ho, ?_⟩⟩)
  refine ⟨.ref sh.heap.objs.size, _, I.laid (t' := sh.toks) (o := .tup []) (fun b ob q => Heap.get?_push_of_some _ q) (Nat.le_refl _) ?_, rfl, q _ (I.hok.fresh (Nat.le_refl _))⟩
  exact ⟨Nat.zero_le _, [], .nil, IsTup.new _ _⟩
def rRepR : R2 := fun x y H Q => ∃ l k xs, x = .ref l ∧ y = .int k ∧ Rd H l (.lst xs) ∧ -(2 ^ 63) ≤ k ∧ k < 2 ^ 63 ∧ xs.length * k.toNat ≤ sizeLine ∧ ∀ p, H p = none → Q (.ref p) (upd H p (.lst (List.replicate k.toNat xs).flatten))
theorem op_repR : OpR X (binaryOp .Mult) rRepR := fun pins sh σ H x y v u Q I rx ry ⟨l, k, xs, e1, e2, hR, h1, h2, hz, q⟩ => by
  rcases hR with hR | ⟨o, hR⟩
  · exact op_rep pins sh σ H x y v u Q I rx ry ⟨l, k, xs, e1, e2, hR, h1, h2, hz, q⟩
  · subst e1; subst e2
    cases rx
    obtain ⟨t, rfl⟩ := ry
    have hR' : Rd H l (.lst xs) := .inr ⟨o, hR⟩
    obtain ⟨z, its, n, r, e⟩ := hR'.ok I.hok
    have hl : xs.length = its.length := r.length
    have hlen : its.toArray.size * k.toNat ≤ sizeLine := by rw [List.size_toArray, ← hl]; exact hz
    have hcap : ¬ its.toArray.size * k.toNat > (2 ^ 63 - 1) / 8 := by
      have hh : (sizeLine : Nat) ≤ (2 ^ 63 - 1) / 8 := by decide
      omega
    have hfit : ¬ (!Builtin.List.listFitsIndex k) = true := by
      rw [fitsIndex_both h1 h2]; exact Bool.false_ne_true
    have hlong : ¬ Builtin.List.listTooLong (its.toArray.size * k.toNat) = true := by
      rw [notLongL hlen]; exact Bool.false_ne_true
    have hnew : List.foldl (fun x1 x2 => x1 ++ x2) #[] (List.replicate (if its.toArray.isEmpty = true then 0 else k.toNat) its.toArray) = (List.replicate k.toNat its).flatten.toArray := by
      have f0 : ∀ m : Nat, List.foldl (fun x1 x2 => x1 ++ x2) #[] (List.replicate m its.toArray) = (List.replicate m its).flatten.toArray := fun m => by
        have ff := foldl_rep its m []
        rw [List.nil_append] at ff
        exact ff
      rw [f0]
      cases its with
      | nil => simp
      | cons a r' => rw [if_neg (by simp)]
    refine wpAny_binaryOp_repeat_ref (T := "list") (U := "int") (by decide) ⟨_, e, rfl⟩ (fun s' => typeIs_int s' k t) noFill_list_mul F.fills_int_mul F.slot_int_rmul repeat_list F.slot_int_index.lookup
      (call_meets F.slot_int_rmul (typeIs_int sh k t) F.entry_int_rmul (F.args_int_rmul_2 _ _) (int___rmul___int_list k t l its.toArray n)
        ⟨e, rfl, ⟨_, e, rfl⟩, call_meets F.slot_list_mul ⟨_, e, rfl⟩ F.entry_list_mul (F.args_list_mul_2 _ _) (AutoListH.list___mul___list_int_3 l its.toArray n k t hfit hcap hlong) ⟨e, ?_⟩⟩)
    rw [hnew]
    exact ⟨.ref _, _, I.lnew (t' := sh.toks) (r.rep k.toNat) (by rw [PyProof.Rows.lm_len_rep_flat, Nat.mul_comm]; exact hz), rfl, q _ I.fresh⟩
theorem dps_rep {K : PySem.W.Frag} {F : Hp} {vs : List V} {ds : List D} (h : DqAll K F vs ds) : ∀ n : Nat, DqAll K F (List.replicate n vs).flatten (List.replicate n ds).flatten
  | 0 => .nil
  | n + 1 => by
    rw [List.replicate_succ, List.replicate_succ, List.flatten_cons, List.flatten_cons]
    exact dps_append h (dps_rep h n)
def gMulT : List D → Int → Option Cell := fun xs k => if -(2 ^ 62) < k ∧ k < 2 ^ 62 then
    if xs = [] ∨ k = 1 then some (tup xs) else if k ≤ 0 then some (tup []) else if k ≤ 1000 ∧ xs.length ≤ 1000 then some (tup (List.replicate k.toNat xs).flatten) else none
  else none
/-- one is small, or both have not too many bits -/
def fitsM (i j : Int) : Bool := decide (-(2 ^ 64) < i ∧ i < 2 ^ 64) || (decide (-(2 ^ 64) < j ∧ j < 2 ^ 64) || fits i j)
def gMulA : Cell → Cell → Option Cell := fun a b => match a.int?, b.int? with
  | some i, some j => if fitsM i j = true then some (int (i * j)) else none
  | _, _ => match a.lst?, b.int? with
    | some xs, some k => if xs.length * k.toNat ≤ lim ∧ -(2 ^ 62) < k ∧ k < 2 ^ 62 then some (lst (List.replicate k.toNat xs).flatten) else none
    | _, _ => match a.tup?, b.int? with
      | some xs, some k => if -(2 ^ 62) < k ∧ k < 2 ^ 62 then if k = 1 then some (tup xs) else if xs.length = 0 then some (tup xs) else if k ≤ 0 then some (tup []) else if k ≤ 1000 ∧ xs.length ≤ 1000 then some (tup (List.replicate k.toNat xs).flatten) else none else none
      | _, _ => none
theorem o_mul : OpR X (binaryOp .Mult) (r2 X.K (on2 gMulA)) := op_of fun F H a b c x y Q hF e ⟨fa, ra⟩ ⟨fb, rb⟩ k => by
  unfold gMulA at e
  split at e
  · rename_i i j e1 e2
    split at e
    · rename_i hf
      cases e
      unfold fitsM at hf
      rw [Bool.or_eq_true, Bool.or_eq_true] at hf
      rcases hf with hf | hf | hf
      · exact ⟨_, op_mul, i, j, repc_int ra e1, repc_int rb e2, .inl (of_decide_eq_true hf), k _ F H [] (new_fz hF (.int _))⟩
      · exact ⟨_, op_mul, i, j, repc_int ra e1, repc_int rb e2, .inr (of_decide_eq_true hf), k _ F H [] (new_fz hF (.int _))⟩
      · exact ⟨_, op_mulW, i, j, repc_int ra e1, repc_int rb e2, (show i.natAbs.log2 + j.natAbs.log2 < 1000000 from of_decide_eq_true hf), k _ F H [] (new_fz hF (.int _))⟩
    · cases e
  · split at e
    · rename_i xs n e1 e2
      split at e
      · rename_i hc
        cases e
        obtain ⟨p, vs, rfl, h1, h2⟩ := repc_lst ra hF e1
        have hl := dps_length h2
        exact ⟨_, op_repR, p, n, vs, rfl, repc_int rb e2, h1, by omega, by omega, by rw [hl]; exact hc.1, fun r hr => k _ _ _ _ (new_lst hF hr (dps_rep h2 _))⟩
      · cases e
    · split at e
      · rename_i xs n e1 e2
        split at e
        · rename_i hb
          obtain ⟨p, vs, rfl, h1, h2⟩ := repc_tup ra e1
          have hl := dps_length h2
          split at e
          · rename_i hc
            cases e
            exact ⟨_, op_mulSelf, p, n, vs, rfl, repc_int rb e2, sqt_mono hF h1, hb.1, hb.2, .inr hc, k _ F H [] (new_fz hF (.tup h1 h2))⟩
          · split at e
            · rename_i hc
              cases e
              exact ⟨_, op_mulSelf, p, n, vs, rfl, repc_int rb e2, sqt_mono hF h1, hb.1, hb.2, .inl (List.eq_nil_of_length_eq_zero (hl.trans hc)), k _ F H [] (new_fz hF (.tup h1 h2))⟩
            · rename_i hne
              have hne2 : vs ≠ [] := fun z => hne (by rw [← hl, z]; rfl)
              split at e
              · rename_i hc
                cases e
                exact ⟨_, op_mulNone, p, n, vs, rfl, repc_int rb e2, sqt_mono hF h1, hb.1, hc, hne2, fun r hr => k _ _ _ _ (new_tup hF hr .nil)⟩
              · split at e
                · rename_i hz
                  cases e
                  exact ⟨_, op_repT, p, n, vs, rfl, repc_int rb e2, sqt_mono hF h1, hne2, by omega, hz.1, by rw [hl]; exact hz.2, fun r hr => k _ _ _ _ (new_tup hF hr (dps_rep h2 _))⟩
                · cases e
        · cases e
      · cases e
/-! ### places and parts -/
def gIx : Cell → Cell → Option Cell := fun a b => match b.int? with
  | some i => match a.tup? with
    | some ds => (atI ds i).map .fz
    | none => match a.lst? with
      | some ds => (atI ds i).map .fz
      | none => match a.str? with
        | some z => if z.length ≤ lim then (atI z.cps.toList i).map fun c => str ⟨#[c]⟩ else none
        | none => none
  | none => none
theorem dps_at {K : PySem.W.Frag} {F : Hp} {vs : List V} {ds : List D} {i : Int} {d : D} (h : DqAll K F vs ds) (e : atI ds i = some d) : ∃ v, atI vs i = some v ∧ Dq K F v d := by
  have hl := dps_length h
  unfold atI at e ⊢
  rw [hl]
  cases q : ixN ds.length i with
  | none => rw [q] at e; cases e
  | some j =>
    rw [q] at e
    obtain ⟨v, e2, r⟩ := dps_get h (show ds[j]? = some d from e)
    exact ⟨v, e2, r⟩
theorem rd_sql {K : PySem.W.Frag} {H : Hp} {a : Addr} {vs : List V} (h : Rd H a (.lst vs)) : SqL K H a vs := .inl h
theorem i_ix : IxR X (r2 X.K (on2 gIx)) := fun va sl pins sh σ H x y v u Q I rx ry ⟨F, cs, c, hF, rl, eg, k⟩ hs => by
  obtain ⟨a, b, e, ⟨fa, ra⟩, ⟨fb, rb⟩⟩ := on2_inv eg rl
  unfold gIx at e
  split at e
  · rename_i i e1
    have ey := repc_int rb e1
    split at e
    · rename_i ds e2
      obtain ⟨p, vs, rfl, h1, h2⟩ := repc_tup ra e2
      cases q : atI ds i with
      | none => rw [q] at e; cases e
      | some d =>
        rw [q] at e
        cases e
        obtain ⟨z, e3, r⟩ := dps_at h2 q
        exact ix_tup va sl pins sh σ H _ y v u Q I rx ry ⟨p, vs, i, z, rfl, ey, sqt_mono hF h1, e3, k _ F H [] (new_fz hF r)⟩ hs
    · split at e
      · rename_i ds e2
        obtain ⟨p, vs, rfl, h1, h2⟩ := repc_lst ra hF e2
        cases q : atI ds i with
        | none => rw [q] at e; cases e
        | some d =>
          rw [q] at e
          cases e
          obtain ⟨z, e3, r⟩ := dps_at h2 q
          exact ix_list va sl pins sh σ H _ y v u Q I rx ry ⟨p, vs, i, z, rfl, ey, rd_sql h1, e3, k _ F H [] (new_fz hF r)⟩ hs
      · split at e
        · rename_i z e2
          split at e
          · rename_i hz
            cases q : atI z.cps.toList i with
            | none => rw [q] at e; cases e
            | some d =>
              rw [q] at e
              cases e
              exact ix_str va sl pins sh σ H _ y v u Q I rx ry ⟨z, i, d, repc_str ra e2, ey, hz, q, k _ F H [] (new_fz hF (.str _))⟩ hs
          · cases e
        · cases e
  · cases e
def cutD {α : Type} (xs : List α) (lo hi : Option Int) : List α := (xs.drop (HT.sIx xs.length 0 lo)).take (HT.sIx xs.length xs.length hi - HT.sIx xs.length 0 lo)
/-- a part from lo up to hi -/
def gCut (a : Cell) (lo hi : Option Int) : Option Cell := match a.tup? with
  | some ds => some (tup (cutD ds lo hi))
  | none => match a.lst? with
    | some ds => some (lst (cutD ds lo hi))
    | none => match a.str? with
      | some z => if z.length ≤ lim then some (str (cutS z lo hi)) else none
      | none => none
theorem dps_cut {K : PySem.W.Frag} {F : Hp} {vs : List V} {ds : List D} (h : DqAll K F vs ds) (lo hi : Option Int) : DqAll K F (cutV vs lo hi) (cutD ds lo hi) := by
  unfold cutV cutD
  rw [dps_length h]
  exact dps_take _ (dps_drop _ h)
def rSl (K : PySem.W.Frag) : V → Option Int → Option Int → Hp → VK → Prop := fun x lo hi H Q => ∃ F a c, Same F H ∧ (∃ f, RepC K F H a x f) ∧ gCut a lo hi = some c ∧ ∀ x F' H' fp, New K F H c x F' H' fp → Q x H'
theorem sl_any : SlR X (rSl X.K) := fun pins sh σ H x v vl vu lo hi sl Q I rx hs pl pu ⟨F, a, c, hF, ⟨fa, ra⟩, e, k⟩ => by
  unfold gCut at e
  split at e
  · rename_i ds e1
    cases e
    obtain ⟨p, vs, rfl, h1, h2⟩ := repc_tup ra e1
    refine sl_tupA pins sh σ H _ v vl vu lo hi sl Q I rx hs pl pu ⟨p, vs, rfl, sqt_mono hF h1, fun hw => ?_, fun _ q hq => k _ _ _ _ (new_tup hF hq (dps_cut h2 lo hi))⟩
    have : cutD ds lo hi = ds := by
      unfold cutD
      rw [dps_length h2] at hw
      rw [hw.1, hw.2]
      simp
    rw [this] at k
    exact k _ F H [] (new_fz hF (.tup h1 h2))
  · split at e
    · rename_i ds e1
      cases e
      obtain ⟨p, vs, rfl, h1, h2⟩ := repc_lst ra hF e1
      exact sl_list pins sh σ H _ v vl vu lo hi sl Q I rx hs pl pu ⟨p, vs, rfl, rd_sql h1, fun q hq => k _ _ _ _ (new_lst hF hq (dps_cut h2 lo hi))⟩
    · split at e
      · rename_i z e1
        split at e
        · rename_i hz
          cases e
          exact sl_str pins sh σ H x v vl vu lo hi sl Q I rx hs pl pu ⟨z, repc_str ra e1, hz, k _ F H [] (new_fz hF (.str _))⟩
        · cases e
      · cases e
end

/-- one bound at most: l tells which (0: none, 1: the lower, 2: the upper) -/
def cut1E (a : AF) (w : Nat) (b : Option AF) : EF := fun env => (evA (a :: b.toList) env).bnd fun r => match cellsOf r.2 r.1 with
  | some [c0] => match gCut c0 none none with
    | some c => .ok (c, r.2)
    | none => none
  | some [c0, c1] => match c1.int? with
    | some i => match (if w = 1 then gCut c0 (some i) none else gCut c0 none (some i)) with
      | some c => .ok (c, r.2)
      | none => none
    | none => none
  | _ => none
def cut2E (a lo hi : AF) : EF := fun env => (evA [a, lo] env).bnd fun r => match r.1 with
  | [xa, xl] => match xl.cell r.2 with
    | some cl => match cl.int? with
      | some i => (evA [hi] r.2).bnd fun q => match xa.cell q.2, cellsOf q.2 q.1 with
        | some c0, some [ch] => match ch.int? with
          | some j => match gCut c0 (some i) (some j) with
            | some c => .ok (c, q.2)
            | none => none
          | none => none
        | _, _ => none
      | none => none
    | none => none
  | _ => none
section
variable {G : GG} {σ : L2.St} {H : Hp} {Q : VK}
theorem rd_cut0 {a : AF} (h : tE G (cut1E a 0 none) σ H Q) : tSl (rSl G.K) (a.te G) tNoPart tNoPart σ H Q := by
  obtain ⟨F, fps, env, s, q⟩ := h
  have h0 : tB G [a] σ H fun xs H' => ∃ x, xs = [x] ∧ rSl G.K x none none H' Q := by
    refine ⟨F, fps, env, s, q.bnd.mono (fun r _ q xs F1 H1 fps1 fl ra => ?_) fun _ h => h⟩
    split at q
    · rename_i c0 ec
      split at q
      · rename_i c eg
        have rl := ra.rep.cells ra.sat ec
        cases rl with
        | cons r0 r1 =>
          cases r1
          exact ⟨_, rfl, F1, c0, c, ra.sat.w.sub, ⟨_, r0⟩, eg, fun z F2 H2 fp n => q z F2 H2 fps1 fp ⟨ra.sat.grow n, ra.step.trans n.stp, n.rep, n.apart ra.sat, fun a ha => .inr (ra.step.g a (n.new a ha))⟩⟩
      · exact q.elim
    · rename_i c0 c1 ec
      have rl := ra.rep.cells ra.sat ec
      cases rl with
      | cons r0 r1 =>
        cases r1 with
        | cons r1 r2 =>
          cases r2
          have hl := ra.rep.lenA
          obtain ⟨args, e1⟩ := r
          have := evA_len ‹_›
          simp at hl this
          omega
    · exact q.elim
  exact te_mono (tB_cons h0) fun x H1 q => by
    obtain ⟨y, e, r⟩ := tB_nil q
    cases e
    exact r
theorem rd_cutL {a lo : AF} (h : tE G (cut1E a 1 (some lo)) σ H Q) : tSl (rSl G.K) (a.te G) (tPart (lo.te G)) tNoPart σ H Q := by
  obtain ⟨F, fps, env, s, q⟩ := h
  have h0 : tB G [a, lo] σ H fun xs H' => ∃ x i, xs = [x, .int i] ∧ rSl G.K x (some i) none H' Q := by
    refine ⟨F, fps, env, s, q.bnd.mono (fun r he q xs F1 H1 fps1 fl ra => ?_) fun _ h => h⟩
    have hl := ra.rep.lenA
    have hl2 := evA_len he
    split at q
    · rename_i c0 ec
      have rl := ra.rep.cells ra.sat ec
      have := rl.len
      simp at this hl hl2
      omega
    · rename_i c0 c1 ec
      have rl := ra.rep.cells ra.sat ec
      cases rl with
      | cons r0 r1 =>
        cases r1 with
        | cons r1 r2 =>
          cases r2
          split at q
          · rename_i i ei
            rw [if_pos rfl] at q
            split at q
            · rename_i c eg
              rw [repc_int r1 ei]
              exact ⟨_, i, rfl, F1, c0, c, ra.sat.w.sub, ⟨_, r0⟩, eg, fun z F2 H2 fp n => q z F2 H2 fps1 fp ⟨ra.sat.grow n, ra.step.trans n.stp, n.rep, n.apart ra.sat, fun a ha => .inr (ra.step.g a (n.new a ha))⟩⟩
            · exact q.elim
          · exact q.elim
    · exact q.elim
  exact te_mono (tB_cons h0) fun x H1 q => te_mono (tB_cons q) fun y H2 q => by
    obtain ⟨z, i, e, r⟩ := tB_nil q
    cases e
    exact ⟨i, rfl, r⟩
theorem rd_cutU {a hi : AF} (h : tE G (cut1E a 2 (some hi)) σ H Q) : tSl (rSl G.K) (a.te G) tNoPart (tPart (hi.te G)) σ H Q := by
  obtain ⟨F, fps, env, s, q⟩ := h
  have h0 : tB G [a, hi] σ H fun xs H' => ∃ x i, xs = [x, .int i] ∧ rSl G.K x none (some i) H' Q := by
    refine ⟨F, fps, env, s, q.bnd.mono (fun r he q xs F1 H1 fps1 fl ra => ?_) fun _ h => h⟩
    have hl := ra.rep.lenA
    have hl2 := evA_len he
    split at q
    · rename_i c0 ec
      have rl := ra.rep.cells ra.sat ec
      have := rl.len
      simp at this hl hl2
      omega
    · rename_i c0 c1 ec
      have rl := ra.rep.cells ra.sat ec
      cases rl with
      | cons r0 r1 =>
        cases r1 with
        | cons r1 r2 =>
          cases r2
          split at q
          · rename_i i ei
            rw [if_neg (by decide)] at q
            split at q
            · rename_i c eg
              rw [repc_int r1 ei]
              exact ⟨_, i, rfl, F1, c0, c, ra.sat.w.sub, ⟨_, r0⟩, eg, fun z F2 H2 fp n => q z F2 H2 fps1 fp ⟨ra.sat.grow n, ra.step.trans n.stp, n.rep, n.apart ra.sat, fun a ha => .inr (ra.step.g a (n.new a ha))⟩⟩
            · exact q.elim
          · exact q.elim
    · exact q.elim
  exact te_mono (tB_cons h0) fun x H1 q => te_mono (tB_cons q) fun y H2 q => by
    obtain ⟨z, i, e, r⟩ := tB_nil q
    cases e
    exact ⟨i, rfl, r⟩
/-- what one argument stands for, later on too -/
theorem RepA.cell1 {env env2 : Env} {F H F2 H2 : Hp} {fps fps2 : List (List Addr)} {xa : Arg} {as : List Arg} {x : V} {xs : List V} {fl : List (List Addr)} (h : RepA G.K σ F H (xa :: as) (x :: xs) fl) (s : Sat G env σ F H fps) (nd : (fl.flatten ++ fps.flatten).Nodup)
    (s2 : Sat G env2 σ F2 H2 fps2) (st : Step G.Ts F H fps.flatten F2 H2 fps2.flatten) {c : Cell} (e : xa.cell env2 = some c) : ∃ f, RepC G.K F2 H2 c x f := by
  cases h with
  | v r _ =>
    cases e
    refine ⟨_, r.step st s.w fun a ha => nodup_dis nd a ?_⟩
    rw [List.flatten_cons]
    exact List.mem_append_left _ ha
  | s hx _ =>
    simp only [Arg.cell] at e
    split at e
    · rename_i c' e2
      cases e
      obtain ⟨v, f, h1, _, h3⟩ := s2.slot e2
      rw [hx] at h1
      cases h1
      exact ⟨f, h3⟩
    · cases e
theorem rd_cut2 {a lo hi : AF} (h : tE G (cut2E a lo hi) σ H Q) : tSl (rSl G.K) (a.te G) (tPart (lo.te G)) (tPart (hi.te G)) σ H Q := by
  obtain ⟨F, fps, env, s, q⟩ := h
  have h0 : tB G [a, lo] σ H fun xs H' => ∃ x i, xs = [x, .int i] ∧ hi.te G σ H' fun z H3 => ∃ j, z = .int j ∧ rSl G.K x (some i) (some j) H3 Q := by
    refine ⟨F, fps, env, s, q.bnd.mono (fun r he q xs F1 H1 fps1 fl ra => ?_) fun _ h => h⟩
    obtain ⟨args, env1⟩ := r
    match args, he, ra, q with
    | [xa, xl], he, ra, q =>
      match xs, ra with
      | [x, y], ra =>
        simp only at q
        split at q
        · rename_i cl ecl
          split at q
          · rename_i i ei
            have hy : ∃ f, RepC G.K F1 H1 cl y f := by
              cases ra.rep with
              | v r rest => exact rest.cell1 (env := env1) (env2 := env1) (fps2 := fps1) ra.sat (by
                  have z := ra.nd
                  rw [List.flatten_cons] at z
                  exact z.sublist (List.Sublist.append_right (List.sublist_append_right _ _) _)) ra.sat .refl ecl
              | s hx rest => exact rest.cell1 (env := env1) (env2 := env1) (fps2 := fps1) ra.sat (by simpa using ra.nd) ra.sat .refl ecl
            obtain ⟨fy, ry⟩ := hy
            rw [repc_int ry ei]
            refine ⟨x, i, rfl, ?_⟩
            have h1 : tB G [hi] σ H1 fun zs H3 => ∃ j, zs = [.int j] ∧ rSl G.K x (some i) (some j) H3 Q := by
              refine ⟨F1, fps1, env1, ra.sat, q.bnd.mono (fun r2 he2 q zs F2 H2 fps2 fl2 ra2 => ?_) fun c h => err_trans ra.step h⟩
              split at q
              · rename_i c0 ch ec0 ecs
                split at q
                · rename_i j ej
                  split at q
                  · rename_i c eg
                    have rl := ra2.rep.cells ra2.sat ecs
                    cases rl with
                    | cons r1 r2 =>
                      cases r2
                      rw [repc_int r1 ej]
                      have rx := ra.rep.cell1 ra.sat ra.nd ra2.sat ra2.step ec0
                      have st := ra.step.trans ra2.step
                      exact ⟨j, rfl, F2, c0, c, ra2.sat.w.sub, rx, eg, fun z F3 H3 fp n => q z F3 H3 fps2 fp ⟨ra2.sat.grow n, st.trans n.stp, n.rep, n.apart ra2.sat, fun a ha => .inr (st.g a (n.new a ha))⟩⟩
                  · exact q.elim
                · exact q.elim
              · exact q.elim
            exact te_mono (tB_cons h1) fun z H3 q => by
              obtain ⟨j, e, r⟩ := tB_nil q
              cases e
              exact ⟨j, rfl, r⟩
          · exact q.elim
        · exact q.elim
      | [], ra => have := ra.rep.lenA; simp at this
      | [_], ra => have := ra.rep.lenA; simp at this
      | _ :: _ :: _ :: _, ra => have := ra.rep.lenA; simp at this
    | [], he, _, q => exact q.elim
    | [_], he, _, q => exact q.elim
    | _ :: _ :: _ :: _, he, _, q => exact q.elim
  exact te_mono (tB_cons h0) fun x H1 q => te_mono (tB_cons q) fun y H2 q => by
    obtain ⟨z, i, e, r⟩ := tB_nil q
    cases e
    exact ⟨i, rfl, r⟩
end
section
variable {X : Cx} {G : GG} {e l u : Expr} {A B C : AF} {p2 pos : Pos}
theorem e_cut0 (hK : X.K = G.K) (he : PEa X G e A) : PE X (.Subscript e (.Slice none none none p2) pos) (tE G (cut1E A 0 none)) := peW (pe_slice (r := rSl G.K) (hK ▸ sl_any) he po_none po_none) fun σ H Q h => rd_cut0 h
theorem e_cutL (hK : X.K = G.K) (he : PEa X G e A) (hl : PEa X G l B) : PE X (.Subscript e (.Slice (some l) none none p2) pos) (tE G (cut1E A 1 (some B))) := peW (pe_slice (r := rSl G.K) (hK ▸ sl_any) he (po_some hl) po_none) fun σ H Q h => rd_cutL h
theorem e_cutU (hK : X.K = G.K) (he : PEa X G e A) (hu : PEa X G u B) : PE X (.Subscript e (.Slice none (some u) none p2) pos) (tE G (cut1E A 2 (some B))) := peW (pe_slice (r := rSl G.K) (hK ▸ sl_any) he po_none (po_some hu)) fun σ H Q h => rd_cutU h
theorem e_cut2 (hK : X.K = G.K) (he : PEa X G e A) (hl : PEa X G l B) (hu : PEa X G u C) : PE X (.Subscript e (.Slice (some l) (some u) none p2) pos) (tE G (cut2E A B C)) := peW (pe_slice (r := rSl G.K) (hK ▸ sl_any) he (po_some hl) (po_some hu)) fun σ H Q h => rd_cut2 h
end
end PF
/-! PF10: what is walked. -/
namespace PF
open PySem PySem.Spec PyProof.Rows L2

/-! ### lists and tuples -/
/-- the items of a list or of a tuple, all of them data -/
def Cell.seqD (c : Cell) : Option (Bool × List D) := if c.nd = true then match c.d with
    | .list ds => some (true, ds)
    | .tuple ds => some (false, ds)
    | _ => none
  else none
def itE (f : EF) : IF := fun env => (f env).bnd fun r => match r.1.seqD with
  | some (_, ds) => .ok (ds, r.2)
  | none => none
section
variable {K : PySem.W.Frag} {F F1 H : Hp}
theorem dq_list {x : V} {ds : List D} (h : Dq K F x (.list ds)) : ∃ a vs, x = .ref a ∧ Rd F a (.lst vs) ∧ DqAll K F vs ds := by
  cases h with
  | lst h1 h2 => exact ⟨_, _, rfl, h1, h2⟩
theorem dq_tup {x : V} {ds : List D} (h : Dq K F x (.tuple ds)) : ∃ a vs, x = .ref a ∧ SqT K F a vs ∧ DqAll K F vs ds := by
  cases h with
  | tup h1 h2 => exact ⟨_, _, rfl, h1, h2⟩
theorem sql_of {a : Addr} {vs : List V} (h : Rd F a (.lst vs)) (e : Same F F1) (e2 : Same F1 H) : SqL K H a vs := .inl (Rd.mono e2 (Rd.mono e h))
theorem sqt_of {a : Addr} {vs : List V} (h : SqT K F a vs) (e : Same F F1) (e2 : Same F1 H) : SqT K H a vs := sqt_mono e2 (sqt_mono e h)
theorem iter_list {a : Addr} {vs : List V} {ds : List D} (h : Rd F a (.lst vs)) (hd : DqAll K F vs ds) : Iter K F (Itl K a) ds := by
  have hl := dps_length hd
  refine ⟨fun i F1 H e e2 hi => ⟨vs, vs[i], sql_of h e e2, by simp⟩, fun i F1 H e e2 hi => ⟨vs, sql_of h e e2, by omega⟩, fun i F1 H x H' d e e2 y ed => ?_⟩
  obtain ⟨rfl, hx⟩ := y
  obtain ⟨v, e3, r⟩ := dps_get hd ed
  have e4 := hx vs (sql_of h e e2)
  rw [e3] at e4
  cases e4
  exact ⟨F1, new_fz e2 (dp_mono e r)⟩
theorem iter_tup {a : Addr} {vs : List V} {ds : List D} (h : SqT K F a vs) (hd : DqAll K F vs ds) : Iter K F (Itt K a) ds := by
  have hl := dps_length hd
  refine ⟨fun i F1 H e e2 hi => ⟨vs, vs[i], sqt_of h e e2, by simp⟩, fun i F1 H e e2 hi => ⟨vs, sqt_of h e e2, by omega⟩, fun i F1 H x H' d e e2 y ed => ?_⟩
  obtain ⟨rfl, hx⟩ := y
  obtain ⟨v, e3, r⟩ := dps_get hd ed
  have e4 := hx vs (sqt_of h e e2)
  rw [e3] at e4
  cases e4
  exact ⟨F1, new_fz e2 (dp_mono e r)⟩
end
section
variable {X : Cx} {G : GG} {tg e : Expr} {f : EF}
theorem seqD_cases {c : Cell} {b : Bool} {ds : List D} (h : c.seqD = some (b, ds)) : c.nd = true ∧ ((b = true ∧ c.d = .list ds) ∨ (b = false ∧ c.d = .tuple ds)) := by
  unfold Cell.seqD at h
  split at h
  · rename_i hn
    split at h
    · rename_i es e
      cases h
      exact ⟨hn, .inl ⟨rfl, e⟩⟩
    · rename_i es e
      cases h
      exact ⟨hn, .inr ⟨rfl, e⟩⟩
    · cases h
  · cases h
theorem i_seq (hK : X.K = G.K) (he : PE X e (tE G f)) : PI X tg e (tI G (itE f)) := ⟨fun pins sh σ H Rr I h => by
  obtain ⟨F, fps, env, s, q⟩ := h
  have q := q.bnd
  -- a list, or a tuple: that stands ahead of the walk
  cases hf : f env with
  | none => rw [hf] at q; exact q.elim
  | some z =>
    rw [hf] at q
    have lay : ∀ (r : Cell × Env) (b : Bool) (ds : List D), z = .ok r → r.1.seqD = some (b, ds) → (∀ F' H' fps' J, Sat G r.2 σ F' H' fps' → Step G.Ts F H fps.flatten F' H' fps'.flatten → Iter G.K F' J ds → Rr J H') → wpAny (model X.prog X.w) X.A (eval e X.env) (fun v s₁ => wpAny (model X.prog X.w) X.A (pyIter v) (PIE X pins σ tg Rr) X.xe s₁) X.xe sh := by
      intro r b ds ez es q
      obtain ⟨hn, hc⟩ := seqD_cases es
      rcases hc with ⟨_, ed⟩ | ⟨_, ed⟩
      · refine (pi_list (tg := tg) he).run pins sh σ H Rr I ⟨F, fps, env, s, ?_⟩
        rw [hf, ez]
        intro x F1 H1 fps1 fp re
        have rf := re.frozen hn
        have rp := rf.rep
        rw [ed] at rp
        cases rp with
        | fz rp =>
          obtain ⟨a, vs, rfl, h1, h2⟩ := dq_list rp
          refine ⟨a, rfl, ⟨vs, .inl (Rd.mono rf.sat.w.sub h1)⟩, ?_⟩
          rw [hK]
          exact q _ H1 fps1 _ rf.sat rf.step (iter_list h1 h2)
      · refine (pi_tup (tg := tg) he).run pins sh σ H Rr I ⟨F, fps, env, s, ?_⟩
        rw [hf, ez]
        intro x F1 H1 fps1 fp re
        have rf := re.frozen hn
        have rp := rf.rep
        rw [ed] at rp
        cases rp with
        | fz rp =>
          obtain ⟨a, vs, rfl, h1, h2⟩ := dq_tup rp
          refine ⟨a, rfl, ⟨vs, by rw [hK]; exact sqt_mono rf.sat.w.sub h1⟩, ?_⟩
          rw [hK]
          exact q _ H1 fps1 _ rf.sat rf.step (iter_tup h1 h2)
    cases z with
    | ok r =>
      have q : RW (match r.1.seqD with | some (_, ds) => R.ok (ds, r.2) | none => none) _ _ := q
      cases es : r.1.seqD with
      | none => rw [es] at q; exact q.elim
      | some bd =>
        obtain ⟨b, ds⟩ := bd
        rw [es] at q
        exact lay r b ds rfl es q
    | error c =>
      refine (pi_list (tg := tg) he).run pins sh σ H Rr I ⟨F, fps, env, s, ?_⟩
      rw [hf]
      exact q⟩
end

/-! ### range -/
def two62 : Int := 2 ^ 62
def smallI (i : Int) : Bool := decide (-(2 ^ 62) ≤ i) && decide (i < 2 ^ 62)
def upI (lo : Int) (n : Nat) : List D := (List.range n).map fun k => .int (lo + (k : Nat))
def stI (lo c : Int) (n : Nat) : List D := (List.range n).map fun k => .int (lo + (k : Nat) * c)
def one1 (g : Cell → Option (List D)) : List Cell → Option (List D)
  | [a] => g a
  | _ => none
def one2 (g : Cell → Cell → Option (List D)) : List Cell → Option (List D)
  | [a, b] => g a b
  | _ => none
def one3 (g : Cell → Cell → Cell → Option (List D)) : List Cell → Option (List D)
  | [a, b, c] => g a b c
  | _ => none
def rng1 : Cell → Option (List D) := fun a => match a.int? with
  | some j => if smallI j = true then some (upI 0 j.toNat) else none
  | none => none
def rng2 : Cell → Cell → Option (List D) := fun a b => match a.int?, b.int? with
  | some i, some j => if smallI i = true ∧ smallI j = true then some (upI i (j - i).toNat) else none
  | _, _ => none
/-- from i down to j -/
def rng3 : Cell → Cell → Cell → Option (List D) := fun a b c => match a.int?, b.int?, c.int? with
  | some i, some j, some k => if smallI i = true ∧ smallI j = true ∧ k = -1 then some (stI i (-1) (i - j).toNat) else none
  | _, _, _ => none
/-- what is walked is told by the arguments -/
def itA (g : List Cell → Option (List D)) (as : List AF) : IF := fun env => (evA as env).bnd fun r => match cellsOf r.2 r.1 with
  | some cs => match g cs with
    | some ds => .ok (ds, r.2)
    | none => none
  | none => none
section
variable {X : Cx} {G : GG} {tg a b c : Expr} {as : List AF} {p pos : Pos}
theorem iter_up {K : PySem.W.Frag} {F : Hp} {lo : Int} {n : Nat} : Iter K F (Itr lo n) (upI lo n) := by
  have hl : (upI lo n).length = n := by simp [upI]
  refine ⟨fun i F1 H e e2 hi => ?_, fun i F1 H e e2 hi => ?_, fun i F1 H x H' d e e2 y ed => ?_⟩
  · rw [hl] at hi; exact hi
  · rw [hl] at hi; exact hi
  · obtain ⟨rfl, rfl⟩ := y
    unfold upI at ed
    rw [List.getElem?_map] at ed
    cases q : (List.range n)[i]? with
    | none => rw [q] at ed; cases ed
    | some k =>
      rw [q] at ed
      cases ed
      obtain ⟨hk, ek⟩ := List.getElem?_eq_some_iff.mp q
      rw [List.getElem_range] at ek
      subst ek
      exact ⟨F1, new_fz e2 (.int _)⟩
theorem iter_st {K : PySem.W.Frag} {F : Hp} {lo k : Int} {n : Nat} : Iter K F (Itc lo k n) (stI lo k n) := by
  have hl : (stI lo k n).length = n := by simp [stI]
  refine ⟨fun i F1 H e e2 hi => ?_, fun i F1 H e e2 hi => ?_, fun i F1 H x H' d e e2 y ed => ?_⟩
  · rw [hl] at hi; exact hi
  · rw [hl] at hi; exact hi
  · obtain ⟨rfl, rfl⟩ := y
    unfold stI at ed
    rw [List.getElem?_map] at ed
    cases q : (List.range n)[i]? with
    | none => rw [q] at ed; cases ed
    | some k =>
      rw [q] at ed
      cases ed
      obtain ⟨hk, ek⟩ := List.getElem?_eq_some_iff.mp q
      rw [List.getElem_range] at ek
      subst ek
      exact ⟨F1, new_fz e2 (.int _)⟩
/-- behind the arguments: what is walked -/
theorem rd_itA {g : List Cell → Option (List D)} {σ : L2.St} {H : Hp} {Rr : It → Hp → Prop} (h : tI G (itA g as) σ H Rr) : tB G as σ H fun vs H1 => ∃ F cs ds, Same F H1 ∧ RepL G.K F H1 cs vs ∧ g cs = some ds ∧ ∀ J, Iter G.K F J ds → Rr J H1 := by
  obtain ⟨F, fps, env, s, q⟩ := h
  refine ⟨F, fps, env, s, q.bnd.mono (fun r _ q xs F1 H1 fps1 fl ra => ?_) fun _ h => h⟩
  cases ec : cellsOf r.2 r.1 with
  | none => simp only [ec] at q; exact q.elim
  | some cs =>
    cases eg : g cs with
    | none => simp only [ec, eg] at q; exact q.elim
    | some ds =>
      simp only [ec, eg] at q
      exact ⟨F1, cs, ds, ra.sat.w.sub, ra.rep.cells ra.sat ec, eg, fun J hJ => q F1 H1 fps1 J ra.sat ra.step hJ⟩
theorem piW {X : Cx} {tg e : Expr} {t t' : TI} (h : PI X tg e t) (k : ∀ σ H Q, t' σ H Q → t σ H Q) : PI X tg e t' := ⟨fun pins s σ H Q I q => h.run pins s σ H Q I (k σ H Q q)⟩
theorem smallI_iff {i : Int} (h : smallI i = true) : -(2 ^ 62) ≤ i ∧ i < 2 ^ 62 := by
  unfold smallI at h
  rw [Bool.and_eq_true, decide_eq_true_eq, decide_eq_true_eq] at h
  exact h
section
variable {K : PySem.W.Frag} {F H : Hp} {cs : List Cell} {ds : List D} {vs : List V}
theorem one1_inv {g : Cell → Option (List D)} (e : one1 g cs = some ds) (h : RepL K F H cs vs) : ∃ a x, vs = [x] ∧ g a = some ds ∧ ∃ f, RepC K F H a x f := by
  match cs, e, h with
  | [a], e, .cons r .nil => exact ⟨a, _, rfl, e, _, r⟩
theorem one2_inv {g : Cell → Cell → Option (List D)} (e : one2 g cs = some ds) (h : RepL K F H cs vs) : ∃ a b x y, vs = [x, y] ∧ g a b = some ds ∧ (∃ f, RepC K F H a x f) ∧ ∃ f, RepC K F H b y f := by
  match cs, e, h with
  | [a, b], e, .cons r (.cons r2 .nil) => exact ⟨a, b, _, _, rfl, e, ⟨_, r⟩, _, r2⟩
theorem one3_inv {g : Cell → Cell → Cell → Option (List D)} (e : one3 g cs = some ds) (h : RepL K F H cs vs) : ∃ a b c x y z, vs = [x, y, z] ∧ g a b c = some ds ∧ (∃ f, RepC K F H a x f) ∧ (∃ f, RepC K F H b y f) ∧ ∃ f, RepC K F H c z f := by
  match cs, e, h with
  | [a, b, c], e, .cons r (.cons r2 (.cons r3 .nil)) => exact ⟨a, b, c, _, _, _, rfl, e, ⟨_, r⟩, ⟨_, r2⟩, _, r3⟩
end
theorem i_range1 (hg : Gl X "range") (hm : X.mg "range" = none) (ha : PA X [a] (tB G as)) (hs : starEach [a] X.env = [(false, eval a X.env)] := by rfl) : PI X tg (.Call (.Name "range" p) [a] [] pos) (tI G (itA (one1 rng1) as)) :=
  piW (pi_range1 hg hm ha hs) fun σ H Rr h => tB_mono (rd_itA h) fun vs H1 ⟨F, cs, ds, hF, rl, eg, q⟩ => by
    obtain ⟨x, vx, rfl, e, fx, r⟩ := one1_inv eg rl
    unfold rng1 at e
    split at e
    · rename_i j ej
      split at e
      · rename_i hsm
        cases e
        obtain ⟨h1, h2⟩ := smallI_iff hsm
        exact ⟨j, by rw [repc_int r ej], h1, h2, q _ iter_up⟩
      · cases e
    · cases e
theorem i_range2 (hg : Gl X "range") (hm : X.mg "range" = none) (ha : PA X [a, b] (tB G as)) (hs : starEach [a, b] X.env = [(false, eval a X.env), (false, eval b X.env)] := by rfl) (hs2 : starEach [b] X.env = [(false, eval b X.env)] := by rfl) : PI X tg (.Call (.Name "range" p) [a, b] [] pos) (tI G (itA (one2 rng2) as)) :=
  piW (pi_range2 hg hm ha hs hs2) fun σ H Rr h => tB_mono (rd_itA h) fun vs H1 ⟨F, cs, ds, hF, rl, eg, q⟩ => by
    obtain ⟨x, y, vx, vy, rfl, e, ⟨fx, r⟩, fy, r2⟩ := one2_inv eg rl
    unfold rng2 at e
    split at e
    · rename_i i j ei ej
      split at e
      · rename_i hsm
        cases e
        obtain ⟨h1, h2⟩ := smallI_iff hsm.1
        obtain ⟨h3, h4⟩ := smallI_iff hsm.2
        exact ⟨i, j, by rw [repc_int r ei, repc_int r2 ej], ⟨h1, h2, h3, h4⟩, q _ iter_up⟩
      · cases e
    · cases e
theorem i_range3 (hg : Gl X "range") (hm : X.mg "range" = none) (ha : PA X [a, b, c] (tB G as)) (hs : starEach [a, b, c] X.env = (false, eval a X.env) :: starEach [b, c] X.env := by rfl) (hpl : (backTo pos (starEach [b, c] X.env)).any (·.1) = false := by rfl) : PI X tg (.Call (.Name "range" p) [a, b, c] [] pos) (tI G (itA (one3 rng3) as)) :=
  piW (pi_range3 hg hm ha hs hpl) fun σ H Rr h => tB_mono (rd_itA h) fun vs H1 ⟨F, cs, ds, hF, rl, eg, q⟩ => by
    obtain ⟨x, y, z, vx, vy, vz, rfl, e, ⟨fx, r⟩, ⟨fy, r2⟩, fz, r3⟩ := one3_inv eg rl
    unfold rng3 at e
    split at e
    · rename_i i j k ei ej ek
      split at e
      · rename_i hsm
        obtain ⟨hs1, hs2, rfl⟩ := hsm
        cases e
        obtain ⟨h1, h2⟩ := smallI_iff hs1
        obtain ⟨h3, h4⟩ := smallI_iff hs2
        exact ⟨i, j, -1, _, by rw [repc_int r ei, repc_int r2 ej, repc_int r3 ek], RgC.neg h1 h2 h3 h4, q _ iter_st⟩
      · cases e
    · cases e
end
end PF
/-! PF11: enumerate, zip, reversed. -/
namespace PF
open PySem PySem.Spec PyProof.Rows L2

theorem enum_new1 {v : Value} {o : Obj} {Hh : Heap → Prop} (B : Begins v o Hh) :
    Meets (Builtin.«enumerate.__new__» ⟨[.type "enumerate", v], []⟩) (fun _ Rr sh => Hh sh.heap ∧
      Rr (.ok (.ret (.ref (sh.heap.push o).objs.size))) { sh with heap := (sh.heap.push o).push { cls := .type "enumerate", data := .fields #[.none, .bool false, .ref sh.heap.objs.size, rawInt 0, .none, .none] } }) :=
  .of_wp fun prog w A Rr sh h => by
    obtain ⟨hp, g, d, tk, os⟩ := sh; obtain ⟨h1, h⟩ := h
    have hsub := sub_enumerate
    have q1 : ∀ {A' : Around} {E : Value → Shared → Prop} {Q : Value → Shared → Prop}, Q (.ref hp.objs.size) ⟨hp.push o, g, d, tk, os⟩ → wpAny (model prog w) A' (pyIter v) Q E ⟨hp, g, d, tk, os⟩ :=
      fun q => B.iter prog w _ _ ⟨hp, g, d, tk, os⟩ _ h1 q
    wp_walk using q1
    refine wpAny_stack_any fun st => wpAny_pure ?_
    split
    · rename_i c _ _ _ _ _
      cases (c == Value.type "enumerate")
      · wp_walk using q1
        exact ⟨_, rfl, h⟩
      · wp_walk using q1
        exact ⟨_, rfl, h⟩
    · wp_walk using q1
      exact ⟨_, rfl, h⟩
section
variable {prog : Program} {w : World} {A : Around} {E : Value → Shared → Prop} {s : Shared}
theorem enum_of {v : Value} {o : Obj} {Hh : Heap → Prop} {Q : Value → Shared → Prop} (B : Begins v o Hh) (h1 : Hh s.heap)
    (h : ∀ h', IsEnum h' (s.heap.objs.size + 1) s.heap.objs.size 0 .none → h'.get? s.heap.objs.size = some o → h'.objs.size = s.heap.objs.size + 2 →
      (∀ b u, s.heap.get? b = some u → h'.get? b = some u) → Q (.ref (s.heap.objs.size + 1)) { s with heap := h' }) :
    wpAny (model prog w) A (call (.type "enumerate") [v]) Q E s := by
  refine callType_new F.called_enumerate (by decide) (F.typeCall_enumerate_1 _) (F.newCall_enumerate_1 _) (fun obj => F.args_object_init_2 obj _) F.entry_enumerate_new
    (enum_new1 B) ⟨h1, ?_⟩
  have hz : (s.heap.push o).objs.size = s.heap.objs.size + 1 := Heap.size_push ..
  show _ ∧ _
  rw [hz]
  have he : IsEnum ((s.heap.push o).push { cls := .type "enumerate", data := .fields #[.none, .bool false, .ref s.heap.objs.size, rawInt 0, .none, .none] }) (s.heap.objs.size + 1) s.heap.objs.size 0 .none := by
    have := Heap.get?_push_size (s.heap.push o) (o := { cls := .type "enumerate", data := .fields #[.none, .bool false, .ref s.heap.objs.size, rawInt 0, .none, .none] }) rfl
    rw [hz] at this; exact this
  refine ⟨⟨_, he, rfl⟩, h _ he (Heap.get?_push_of_some _ (Heap.get?_push_size _ B.free)) (by rw [Heap.size_push, hz]) fun b u x => Heap.get?_push_of_some _ (Heap.get?_push_of_some _ x)⟩
end
/-- the tuple at a, each item in a new pair behind its number -/
def IteT (K : PySem.W.Frag) (a : Addr) : It :=
  ⟨fun i H => ∃ (xs : List V) (x : V), SqT K H a xs ∧ xs[i]? = some x, fun i H v H' => ∃ T x, v = .ref T ∧ H T = none ∧ H' = upd H T (.tup [.int (i : Nat), x]) ∧ ∀ xs, SqT K H a xs → xs[i]? = some x, fun i H => ∃ xs : List V, SqT K H a xs ∧ xs.length ≤ i⟩
theorem turn_enumT {P : Program} {w : World} {K : PySem.W.Frag} {elts : List Expr} {kk : Nat} {tpos : Pos} (a e it : Addr) :
    Turn P w K (.Tuple elts kk tpos) (IteT K a) [e, it] e (fun i h => (∃ old, IsEnum h e it ((i : Nat) : Int) old) ∧ h.IsTupleIter it a i ∧ e ≠ it) where
  mem := by simp
  obj := fun i h st b hb => by
    obtain ⟨⟨old, he⟩, ⟨o, ho, hc, hd⟩, _⟩ := st
    have e' : b = e ∨ b = it := by simpa using hb
    rcases e' with z | z
    · rw [z]; exact ⟨_, he, fun v q => nomatch q⟩
    · rw [z]; exact ⟨o, ho, fun v q => by rw [hd] at q; cases q⟩
  keep := fun i h h' st k => let ⟨⟨old, he⟩, hi, hne⟩ := st; ⟨⟨old, k e (by simp) _ he⟩, hi.at fun o q => k it (by simp) o q, hne⟩
  item := by
    intro X hP hw hK hc i pins s σ H E I hf st hg
    subst hP hw hK
    obtain ⟨⟨old, he⟩, hit, hne⟩ := st
    obtain ⟨xs, x, hq, hx⟩ := hg
    obtain ⟨its, rv, p, hz⟩ := I.tuple hq
    obtain ⟨u, hu, ru⟩ := rv.get hx
    have hel : e < s.heap.objs.size := Heap.lt_size he
    have hil : it < s.heap.objs.size := by obtain ⟨_, q, _⟩ := hit; exact Heap.lt_size q
    have p' : s.heap.IsTuple a its.toArray := p
    have hat : a ≠ it := fun z => by
      obtain ⟨o1, h1, c1, _⟩ := p'
      obtain ⟨o2, h2, c2, _⟩ := hit
      rw [z, h2] at h1
      cases h1
      rw [c1] at c2
      exact absurd c2 (by decide)
    have hae : a ≠ e := fun z => by
      obtain ⟨o1, h1, c1, _⟩ := p'
      rw [z, he] at h1
      cases h1
      have c1 : Value.type "enumerate" = Value.type "tuple" := c1
      exact absurd c1 (by decide)
    have lenE : its.toArray.size = xs.length := by rw [List.size_toArray, ← rv.length]
    refine wpAny_pyNext_enum_itemD (Draws.tuple (A := X.A.in1) (prog := X.prog) (w := X.w) (show X.A.in1.handled = none from I.ok.hd hc) it a hat its.toArray) he ⟨hit, p'⟩ (by rw [lenE]; exact (List.getElem?_eq_some_iff.mp hx).1) hne (by simp [hne, hae.symm]) fun u' h' tk hP ho hst' hT hsz hk => ?_
    have eu : u' = u := by
      have z : its.toArray[i]? = some u' := hP
      rw [show its.toArray[i]? = some u by simpa using hu] at z
      exact (Option.some.inj z).symm
    subst eu
    refine ⟨_, rfl, wpAny_letOwnedTupleGo_enum (s := { s with heap := h', toks := tk + 1 }) ho fun h'' he' sb => ?_⟩
    have hT2 : h''.get? s.heap.objs.size = some { cls := .type "tuple", data := .seq #[.int i tk, u'] } := (sb.2 _ (Nat.ne_of_gt hel)).trans hT
    have new : ObjOk X.prog X.w (upd H s.heap.objs.size (.tup [.int (i : Nat), x])) h'' s.heap.objs.size (.tup [.int (i : Nat), x]) :=
      ⟨by show 2 ≤ sizeLine; decide, [.int i tk, u'], .cons ⟨_, rfl⟩ (.cons ru .nil), ⟨_, hT2, rfl, _, rfl⟩⟩
    have I1 : Inv X pins σ (upd H s.heap.objs.size (.tup [.int (i : Nat), x])) { s with heap := h'', toks := tk + 1 } :=
      I.turnedNew (ch := [e, it]) (fun b ob hb q => (sb.2 b (fun z => hb (by simp [z]))).trans (hk b ob (fun z => hb (by simp [z])) (fun z => hb (by simp [z])) q)) hf (Nat.le_refl _) new
    refine ⟨.ref s.heap.objs.size, _, I1, rfl, ⟨_, x, rfl, I.hok.fresh (Nat.le_refl _), rfl, fun ys hy => by rw [I.tuple_inj hy hq]; exact hx⟩, ⟨⟨u', ?_⟩, hst'.1.at fun o q => (sb.2 it (Ne.symm hne)).trans q, hne⟩, fun b hb => ?_⟩
    · have e1 : ((i + 1 : Nat) : Int) = (i : Int) + 1 := by omega
      rw [e1]; exact he'
    · have hb' : b < s.heap.objs.size := by
        have e' : b = e ∨ b = it := by simpa using hb
        rcases e' with z | z
        · rw [z]; exact hel
        · rw [z]; exact hil
      rw [upd_ne (Nat.ne_of_lt hb')]
      exact (hf b hb).1
  done := by
    intro X hP hw hK hc i pins s σ H E I hf st hg
    subst hP hw hK
    obtain ⟨⟨old, he⟩, hit, hne⟩ := st
    obtain ⟨xs, hq, hx⟩ := hg
    obtain ⟨its, rv, p, hz⟩ := I.tuple hq
    obtain ⟨f0, f1, f2, f3, f4, f5⟩ := hf it (by simp)
    have hl := rv.length
    have p' : s.heap.IsTuple a its.toArray := p
    unfold pyNext
    have hTy : s.TypeIs (.ref e) "enumerate" := ⟨_, he, rfl⟩
    refine wpAny_bind (wpAny_attempt (wpAny_callSpecial?_slot (name := Str.ofString "__next__") hTy F.slot_enumerate_next
      (wpAny_call_entry F.slot_enumerate_next hTy F.entry_enumerate_next ?_ (F.args_enumerate_next_1 _))))
    show wpAny _ _ (field (.ref e) 2 >>= _) _ _ _
    refine wpAny_bind (wpAny_field he rfl (x := .ref it) rfl ?_)
    refine wpAny_bind (wpAny_nextOf_tuple_end (show X.A.in1.handled = none from I.ok.hd hc) hit p' (by simp; omega) fun h' x he' hx' => ?_)
    obtain ⟨o, ho, hcl⟩ := hx'
    refine wpAny_bind (wpAny_isInstance (T := "StopIteration") (b := true) ⟨o, ho, hcl⟩ isSubtype_stop ?_)
    exact wpAny_pure ⟨rfl, I.turned (t' := s.toks) (fun b o hb q => he' b o hb q) f0 f1 f3 f4 f5⟩
  self := fun A i s Q E st h => let ⟨⟨_, he⟩, _⟩ := st; wpAny_pyIter_enum he h
/-- enumerate over a list or a tuple -/
def iEnumA (K : PySem.W.Frag) (ta : TA) : TI := fun σ H Rr => ta σ H fun vs H1 => ∃ a xs, vs = [.ref a] ∧ ((SqL K H1 a xs ∧ Rr (Ite K a) H1) ∨ (SqT K H1 a xs ∧ Rr (IteT K a) H1))
theorem pi_enumA {X : Cx} {e : Expr} {ta : TA} {p pos tpos : Pos} {elts : List Expr} {kk : Nat} (hg : Gl X "enumerate") (hm : X.mg "enumerate" = none) (ha : PA X [e] ta) (hs : starEach [e] X.env = [(false, eval e X.env)] := by rfl) :
    PI X (.Tuple elts kk tpos) (.Call (.Name "enumerate" p) [e] [] pos) (iEnumA X.K ta) := by
  refine ⟨fun pins s σ H Rr I h => ?_⟩
  refine Call_ (ld_blt I hg hm boot_enumerate (PyProof.Rows.callWith_type1 (thn (ha.run pos pins s σ H _ I h) fun us s1 ⟨vs, H1, I1, r1, q1⟩ => ?_) hs rfl))
  obtain ⟨a, xs, ex, q1⟩ := q1
  subst ex
  cases r1 with
  | cons r rr =>
    cases rr
    cases r
    have fr : ∀ b, b ∈ [s1.heap.objs.size + 1, s1.heap.objs.size] → FpOk X pins H1 b := fun b hb => by
      have e' : b = s1.heap.objs.size + 1 ∨ b = s1.heap.objs.size := by simpa using hb
      have hle : s1.heap.objs.size ≤ b := by
        rcases e' with z | z
        · rw [z]; exact Nat.le_add_right _ _
        · rw [z]; exact Nat.le_refl _
      exact I1.fpOk hle (I1.hok.fresh hle)
    rcases q1 with ⟨hq, q⟩ | ⟨hq, q⟩
    · obtain ⟨its, rv, p', hz⟩ := I1.list hq
      refine call_enumerate_list p'.isList fun h' he hit hsz hk => wpAny_pyIter_enum he ?_
      exact ⟨s1.heap.objs.size + 1, [s1.heap.objs.size + 1, s1.heap.objs.size], _, _, H1, rfl, I1.kept (t' := s1.toks) hk, turn_enum a (s1.heap.objs.size + 1) s1.heap.objs.size, ⟨⟨.none, he⟩, hit, Nat.succ_ne_self _⟩, fr, q⟩
    · obtain ⟨its, rv, p', hz⟩ := I1.tuple hq
      have pt : s1.heap.IsTuple a its.toArray := p'
      refine enum_of (begins_tuple a its.toArray) pt fun h' he hit hsz hk => wpAny_pyIter_enum he ?_
      exact ⟨s1.heap.objs.size + 1, [s1.heap.objs.size + 1, s1.heap.objs.size], _, _, H1, rfl, I1.kept (t' := s1.toks) hk, turn_enumT a (s1.heap.objs.size + 1) s1.heap.objs.size, ⟨⟨.none, he⟩, ⟨_, hit, rfl, rfl⟩, Nat.succ_ne_self _⟩, fr, q⟩

/-! ### over frozen arguments -/
def itZ (g : List D → Option (List D)) (as : List EF) : IF := fun env => (evA (as.map .e) env).bnd fun r => match dataOf r.1 with
  | some ds => match g ds with
    | some es => .ok (es, r.2)
    | none => none
  | none => none
theorem rd_itZ {G : GG} {as : List EF} {g : List D → Option (List D)} {σ : L2.St} {H : Hp} {Rr : It → Hp → Prop} (h : tI G (itZ g as) σ H Rr) : tB G (as.map .e) σ H fun vs H1 => ∃ F ds es, Same F H1 ∧ DqAll G.K F vs ds ∧ g ds = some es ∧ ∀ J, Iter G.K F J es → Rr J H1 := by
  obtain ⟨F, fps, env, s, q⟩ := h
  refine ⟨F, fps, env, s, q.bnd.mono (fun r _ q xs F1 H1 fps1 fl ra => ?_) fun _ h => h⟩
  cases ec : dataOf r.1 with
  | none => simp only [ec] at q; exact q.elim
  | some ds =>
    cases eg : g ds with
    | none => simp only [ec, eg] at q; exact q.elim
    | some es =>
      simp only [ec, eg] at q
      have hs := fun a ha => ra.rep.fp_some a ha
      have s2 := ra.sat.frz (fun a ha => (hs a ha).1) (nodup_dis ra.nd) fun a ha => by
        obtain ⟨_, o, e, nt⟩ := hs a ha
        exact ra.sat.notab e nt
      have st2 : Step G.Ts F H fps.flatten (frz F1 H1 fl.flatten) H1 fps1.flatten := ⟨ra.step.k, ra.step.g, ra.step.f.trans (frz_same fun a ha => (hs a ha).1), fun a o e => by
        by_cases z : a ∈ fl.flatten
        · exact .inr (ra.new a z)
        · rw [frz_out z] at e; exact ra.step.n a o e, ra.step.o⟩
      exact ⟨_, ds, es, s2.w.sub, ra.rep.data _ (frz_same (H := H1) fun a ha => (hs a ha).1) (fun a ha o e => by rw [frz_in ha]; exact e) ec, eg, fun J hJ => q _ H1 fps1 J s2 st2 hJ⟩
/-- 0, 1, .. ahead of the items -/
def enumD : Nat → List D → List D
  | _, [] => []
  | n, d :: ds => .tuple [.int (n : Nat), d] :: enumD (n + 1) ds
def enG : List D → Option (List D)
  | [.list ds] => some (enumD 0 ds)
  | [.tuple ds] => some (enumD 0 ds)
  | _ => none
def zipD : List D → List D → List D
  | a :: as, b :: bs => .tuple [a, b] :: zipD as bs
  | _, _ => []
def ziG : List D → Option (List D)
  | [.list ds, .list es] => some (zipD ds es)
  | [.tuple ds, .tuple es] => some (zipD ds es)
  | _ => none
def rvG : List D → Option (List D)
  | [.list ds] => some ds.reverse
  | [.tuple ds] => some ds.reverse
  | _ => none
theorem enumD_len : ∀ (n : Nat) (ds : List D), (enumD n ds).length = ds.length
  | _, [] => rfl
  | n, d :: ds => by simp [enumD, enumD_len (n + 1) ds]
theorem enumD_get : ∀ (n : Nat) (ds : List D) (i : Nat), (enumD n ds)[i]? = ds[i]?.map fun d => .tuple [.int ((n + i : Nat) : Int), d]
  | _, [], _ => by simp [enumD]
  | n, d :: ds, 0 => by simp [enumD]
  | n, d :: ds, i + 1 => by
    simp only [enumD, List.getElem?_cons_succ]
    rw [enumD_get (n + 1) ds i]
    have : n + 1 + i = n + (i + 1) := by omega
    rw [this]
theorem zipD_len : ∀ (as bs : List D), (zipD as bs).length = min as.length bs.length
  | [], bs => by simp [zipD]
  | a :: as, [] => by simp [zipD]
  | a :: as, b :: bs => by simp [zipD, zipD_len as bs]
theorem zipD_get : ∀ (as bs : List D) (i : Nat) (d : D), (zipD as bs)[i]? = some d → ∃ a b, as[i]? = some a ∧ bs[i]? = some b ∧ d = .tuple [a, b]
  | [], bs, i, d, h => by simp [zipD] at h
  | a :: as, [], i, d, h => by simp [zipD] at h
  | a :: as, b :: bs, 0, d, h => by simp [zipD] at h; exact ⟨a, b, rfl, rfl, h.symm⟩
  | a :: as, b :: bs, i + 1, d, h => by
    simp only [zipD, List.getElem?_cons_succ] at h
    obtain ⟨x, y, h1, h2, h3⟩ := zipD_get as bs i d h
    exact ⟨x, y, by simpa using h1, by simpa using h2, h3⟩
section
variable {K : PySem.W.Frag} {F : Hp}
theorem new_pair {F1 H : Hp} {T : Addr} {x y : V} {a b : D} (e2 : Same F1 H) (hT : H T = none) (ha : Dq K F1 x a) (hb : Dq K F1 y b) : ∃ F', New K F1 H (.fz (.tuple [a, b])) (.ref T) F' (upd H T (.tup [x, y])) [] :=
  ⟨_, new_tup e2 hT (.cons ha (.cons hb .nil))⟩
theorem iter_enum {a : Addr} {vs : List V} {ds : List D} (h : Rd F a (.lst vs)) (hd : DqAll K F vs ds) : Iter K F (Ite K a) (enumD 0 ds) := by
  have hl := dps_length hd
  have hl2 := enumD_len 0 ds
  refine ⟨fun i F1 H e e2 hi => ⟨vs, vs[i], sql_of h e e2, by simp⟩, fun i F1 H e e2 hi => ⟨vs, sql_of h e e2, by omega⟩, fun i F1 H x H' d e e2 y ed => ?_⟩
  obtain ⟨T, v, rfl, hT, rfl, hx⟩ := y
  rw [enumD_get] at ed
  cases q : ds[i]? with
  | none => rw [q] at ed; cases ed
  | some d0 =>
    rw [q] at ed
    cases ed
    obtain ⟨v', e3, r⟩ := dps_get hd q
    have e4 := hx vs (sql_of h e e2)
    rw [e3] at e4
    cases e4
    rw [Nat.zero_add]
    exact new_pair e2 hT (.int _) (dp_mono e r)
theorem iter_enumT {a : Addr} {vs : List V} {ds : List D} (h : SqT K F a vs) (hd : DqAll K F vs ds) : Iter K F (IteT K a) (enumD 0 ds) := by
  have hl := dps_length hd
  have hl2 := enumD_len 0 ds
  refine ⟨fun i F1 H e e2 hi => ⟨vs, vs[i], sqt_of h e e2, by simp⟩, fun i F1 H e e2 hi => ⟨vs, sqt_of h e e2, by omega⟩, fun i F1 H x H' d e e2 y ed => ?_⟩
  obtain ⟨T, v, rfl, hT, rfl, hx⟩ := y
  rw [enumD_get] at ed
  cases q : ds[i]? with
  | none => rw [q] at ed; cases ed
  | some d0 =>
    rw [q] at ed
    cases ed
    obtain ⟨v', e3, r⟩ := dps_get hd q
    have e4 := hx vs (sqt_of h e e2)
    rw [e3] at e4
    cases e4
    rw [Nat.zero_add]
    exact new_pair e2 hT (.int _) (dp_mono e r)
theorem iter_zip {a b : Addr} {vs ws : List V} {ds es : List D} (h : Rd F a (.lst vs)) (hd : DqAll K F vs ds) (h2 : Rd F b (.lst ws)) (hd2 : DqAll K F ws es) : Iter K F (Itz K a b) (zipD ds es) := by
  have hl := dps_length hd
  have hl2 := dps_length hd2
  have hl3 := zipD_len ds es
  refine ⟨fun i F1 H e e2 hi => ⟨vs, ws, vs[i]'(by omega), ws[i]'(by omega), sql_of h e e2, sql_of h2 e e2, by simp, by simp⟩, fun i F1 H e e2 hi => ⟨vs, ws, sql_of h e e2, sql_of h2 e e2, by omega⟩, fun i F1 H x H' d e e2 y ed => ?_⟩
  obtain ⟨T, v, u, rfl, hT, rfl, hx, hy⟩ := y
  obtain ⟨d1, d2, q1, q2, rfl⟩ := zipD_get _ _ _ _ ed
  obtain ⟨v', e3, r⟩ := dps_get hd q1
  obtain ⟨u', e5, r2⟩ := dps_get hd2 q2
  have e4 := hx vs (sql_of h e e2)
  have e6 := hy ws (sql_of h2 e e2)
  rw [e3] at e4
  rw [e5] at e6
  cases e4
  cases e6
  exact new_pair e2 hT (dp_mono e r) (dp_mono e r2)
theorem iter_zipT {a b : Addr} {vs ws : List V} {ds es : List D} (h : SqT K F a vs) (hd : DqAll K F vs ds) (h2 : SqT K F b ws) (hd2 : DqAll K F ws es) : Iter K F (RZ.ItzT K a b) (zipD ds es) := by
  have hl := dps_length hd
  have hl2 := dps_length hd2
  have hl3 := zipD_len ds es
  refine ⟨fun i F1 H e e2 hi => ⟨vs, ws, vs[i]'(by omega), ws[i]'(by omega), sqt_of h e e2, sqt_of h2 e e2, by simp, by simp⟩, fun i F1 H e e2 hi => ⟨vs, ws, sqt_of h e e2, sqt_of h2 e e2, by omega⟩, fun i F1 H x H' d e e2 y ed => ?_⟩
  obtain ⟨T, v, u, rfl, hT, rfl, hx, hy⟩ := y
  obtain ⟨d1, d2, q1, q2, rfl⟩ := zipD_get _ _ _ _ ed
  obtain ⟨v', e3, r⟩ := dps_get hd q1
  obtain ⟨u', e5, r2⟩ := dps_get hd2 q2
  have e4 := hx vs (sqt_of h e e2)
  have e6 := hy ws (sqt_of h2 e e2)
  rw [e3] at e4
  rw [e5] at e6
  cases e4
  cases e6
  exact new_pair e2 hT (dp_mono e r) (dp_mono e r2)
theorem iter_rev {a : Addr} {vs : List V} {ds : List D} (h : Rd F a (.lst vs)) (hd : DqAll K F vs ds) : Iter K F (Itv K a vs.length) ds.reverse := by
  have hl := dps_length hd
  have hl2 : ds.reverse.length = ds.length := List.length_reverse
  refine ⟨fun i F1 H e e2 hi => ⟨by omega, vs, vs[vs.length - 1 - i]'(by omega), sql_of h e e2, by simp⟩, fun i F1 H e e2 hi => (by omega : vs.length ≤ i), fun i F1 H x H' d e e2 y ed => ?_⟩
  obtain ⟨rfl, hx⟩ := y
  have hi : i < ds.length := by have := (List.getElem?_eq_some_iff.mp ed).1; omega
  rw [List.getElem?_reverse hi] at ed
  obtain ⟨v, e3, r⟩ := dps_get hd ed
  have e4 := hx vs (sql_of h e e2)
  rw [hl, e3] at e4
  cases e4
  exact ⟨F1, new_fz e2 (dp_mono e r)⟩
theorem iter_revT {a : Addr} {vs : List V} {ds : List D} (h : SqT K F a vs) (hd : DqAll K F vs ds) : Iter K F (RT.ItvT K a vs.length) ds.reverse := by
  have hl := dps_length hd
  have hl2 : ds.reverse.length = ds.length := List.length_reverse
  refine ⟨fun i F1 H e e2 hi => ⟨by omega, vs, vs[vs.length - 1 - i]'(by omega), sqt_of h e e2, by simp⟩, fun i F1 H e e2 hi => (by omega : vs.length ≤ i), fun i F1 H x H' d e e2 y ed => ?_⟩
  obtain ⟨rfl, hx⟩ := y
  have hi : i < ds.length := by have := (List.getElem?_eq_some_iff.mp ed).1; omega
  rw [List.getElem?_reverse hi] at ed
  obtain ⟨v, e3, r⟩ := dps_get hd ed
  have e4 := hx vs (sqt_of h e e2)
  rw [hl, e3] at e4
  cases e4
  exact ⟨F1, new_fz e2 (dp_mono e r)⟩
end
section
variable {X : Cx} {G : GG} {tg e e2 : Expr} {f f2 : EF} {p pos tpos : Pos} {elts : List Expr} {kk : Nat}
theorem i_enum (hK : X.K = G.K) (hg : Gl X "enumerate") (hm : X.mg "enumerate" = none) (ha : PA X [e] (tB G [.e f])) (hs : starEach [e] X.env = [(false, eval e X.env)] := by rfl) :
    PI X (.Tuple elts kk tpos) (.Call (.Name "enumerate" p) [e] [] pos) (tI G (itZ enG [f])) := piW (pi_enumA hg hm ha hs) fun σ H Rr h => tB_mono (rd_itZ h) fun vs H1 ⟨F, ds, es, hF, hd, eg, q⟩ => by
  match ds, hd, eg with
  | [.list ds], .cons h .nil, eg =>
    cases eg
    obtain ⟨a, xs, rfl, h1, h2⟩ := dq_list h
    refine ⟨a, xs, rfl, .inl ⟨.inl (Rd.mono hF h1), ?_⟩⟩
    rw [hK]
    exact q _ (iter_enum h1 h2)
  | [.tuple ds], .cons h .nil, eg =>
    cases eg
    obtain ⟨a, xs, rfl, h1, h2⟩ := dq_tup h
    rw [hK]
    exact ⟨a, xs, rfl, .inr ⟨sqt_mono hF h1, q _ (iter_enumT h1 h2)⟩⟩
theorem i_rev (hK : X.K = G.K) (hg : Gl X "reversed") (hm : X.mg "reversed" = none) (ha : PE X e (tE G f)) (hs : starEach [e] X.env = (false, eval e X.env) :: starEach [] X.env := by rfl) :
    PI X tg (.Call (.Name "reversed" p) [e] [] pos) (tI G (itZ rvG [f])) := piW (RT.pi_revA hg hm ha hs) fun σ H Rr h => tE_mono (tB_cons (rd_itZ h)) fun v H1 q => by
  have q0 := tB_nil q
  clear q
  obtain ⟨F, ds, es, hF, hd, eg, q⟩ := q0
  match ds, hd, eg with
  | [.list ds], .cons h .nil, eg =>
    cases eg
    obtain ⟨a, xs, rfl, h1, h2⟩ := dq_list h
    refine ⟨a, xs, rfl, .inl ⟨.inl (Rd.mono hF h1), ?_⟩⟩
    rw [hK]
    exact q _ (iter_rev h1 h2)
  | [.tuple ds], .cons h .nil, eg =>
    cases eg
    obtain ⟨a, xs, rfl, h1, h2⟩ := dq_tup h
    rw [hK]
    exact ⟨a, xs, rfl, .inr ⟨sqt_mono hF h1, q _ (iter_revT h1 h2)⟩⟩
theorem i_zip (hK : X.K = G.K) (hg : Gl X "zip") (hm : X.mg "zip" = none) (ha : PA X [e, e2] (tB G [.e f, .e f2])) (hs : starEach [e, e2] X.env = (false, eval e X.env) :: starEach [e2] X.env := by rfl) (hpl : (backTo pos (starEach [e2] X.env)).any (·.1) = false := by rfl) :
    PI X (.Tuple elts kk tpos) (.Call (.Name "zip" p) [e, e2] [] pos) (tI G (itZ ziG [f, f2])) := piW (RZ.pi_zipA hg hm ha hs hpl) fun σ H Rr h => tB_mono (rd_itZ h) fun vs H1 ⟨F, ds, es, hF, hd, eg, q⟩ => by
  match ds, hd, eg with
  | [.list ds, .list es], .cons h (.cons h' .nil), eg =>
    cases eg
    obtain ⟨a, xs, rfl, h1, h2⟩ := dq_list h
    obtain ⟨b, ys, rfl, h3, h4⟩ := dq_list h'
    refine ⟨a, b, xs, ys, rfl, .inl ⟨.inl (Rd.mono hF h1), .inl (Rd.mono hF h3), ?_⟩⟩
    rw [hK]
    exact q _ (iter_zip h1 h2 h3 h4)
  | [.tuple ds, .tuple es], .cons h (.cons h' .nil), eg =>
    cases eg
    obtain ⟨a, xs, rfl, h1, h2⟩ := dq_tup h
    obtain ⟨b, ys, rfl, h3, h4⟩ := dq_tup h'
    rw [hK]
    exact ⟨a, b, xs, ys, rfl, .inr ⟨sqt_mono hF h1, sqt_mono hF h3, q _ (iter_zipT h1 h2 h3 h4)⟩⟩
end
end PF
/-! PF12: built-in functions and types that are called. -/
namespace PF
open PySem PySem.Spec PyProof.Rows L2

/-- what a call of a built-in thing asks and gives -/
abbrev rN (K : PySem.W.Frag) (g : List Cell → Option Cell) : List V → Hp → VK → Prop := fun xs H Q => rP K g xs H Q
section
variable {X : Cx}
theorem c_of {f : Value} {g : List Cell → Option Cell}
    (h : ∀ (F H : Hp) (cs : List Cell) (c : Cell) (xs : List V) (Q : VK), Same F H → g cs = some c → RepL X.K F H cs xs → (∀ z F' H' fp, New X.K F H c z F' H' fp → Q z H') → ∃ r, CallR X f r ∧ r xs H Q) :
    CallR X f (rN X.K g) := fun pins sh σ H xs us Q I rx ⟨F, cs, c, hF, rl, eg, k⟩ => by
  obtain ⟨r, hr, q⟩ := h F H cs c xs Q hF eg rl k
  exact hr pins sh σ H xs us Q I rx q
theorem c_of1 {f : Value} {g : Cell → Option Cell}
    (h : ∀ (F H : Hp) (a c : Cell) (x : V) (fa : List Addr) (Q : VK), Same F H → g a = some c → RepC X.K F H a x fa → (∀ z F' H' fp, New X.K F H c z F' H' fp → Q z H') → ∃ r, CallR X f r ∧ r [x] H Q) :
    CallR X f (rN X.K (on1 g)) := c_of fun F H cs c xs Q hF e rl k => by
  match cs, e, rl with
  | [a], e, .cons ra .nil => exact h F H a c _ _ Q hF e ra k
theorem c_of2 {f : Value} {g : Cell → Cell → Option Cell}
    (h : ∀ (F H : Hp) (a b c : Cell) (x y : V) (fa fb : List Addr) (Q : VK), Same F H → g a b = some c → RepC X.K F H a x fa → RepC X.K F H b y fb → (∀ z F' H' fp, New X.K F H c z F' H' fp → Q z H') → ∃ r, CallR X f r ∧ r [x, y] H Q) :
    CallR X f (rN X.K (on2 g)) := c_of fun F H cs c xs Q hF e rl k => by
  match cs, e, rl with
  | [a, b], e, .cons ra (.cons rb .nil) => exact h F H a b c _ _ _ _ Q hF e ra rb k

/-! ### len, abs, int, max, min -/
def gLen : Cell → Option Cell := fun a => match a with
  | .fz (.tuple ds) => some (int ds.length)
  | .fz (.list ds) => some (int ds.length)
  | .fz (.str z) => if z.length ≤ lim then some (int z.length) else none
  | .ol cs => some (int cs.length)
  | _ => none
theorem c_len : CallR X (.builtin "len") (rN X.K (on1 gLen)) := c_of1 fun F H a c x fa Q hF e ra k => by
  unfold gLen at e
  split at e
  · cases e
    obtain ⟨p, vs, rfl, h1, h2⟩ := repc_tup ra rfl
    exact ⟨_, call_len, _, vs.length, rfl, .inr ⟨vs, sqt_mono hF h1, rfl⟩, by rw [dps_length h2]; exact k _ F H [] (new_fz hF (.int _))⟩
  · cases e
    obtain ⟨p, vs, rfl, h1, h2⟩ := repc_lst ra hF rfl
    exact ⟨_, call_len, _, vs.length, rfl, .inl ⟨vs, .inl h1, rfl⟩, by rw [dps_length h2]; exact k _ F H [] (new_fz hF (.int _))⟩
  · rename_i z
    split at e
    · rename_i hz
      cases e
      exact ⟨_, call_len, _, z.length, rfl, by rw [repc_str ra rfl]; exact ⟨hz, rfl⟩, k _ F H [] (new_fz hF (.int _))⟩
    · cases e
  · rename_i cs
    cases e
    obtain ⟨l, vs, fs, rfl, _, h1, _, h3, _, _⟩ := ra.ol_inv
    exact ⟨_, call_len, _, vs.length, rfl, .inl ⟨vs, .inl (.inl h1), rfl⟩, by rw [← h3]; exact k _ F H [] (new_fz hF (.int _))⟩
  · cases e
def gAbs : Cell → Option Cell := fun a => a.int?.map fun i => int (if i < 0 then -i else i)
theorem c_abs : CallR X (.builtin "abs") (rN X.K (on1 gAbs)) := c_of1 fun F H a c x fa Q hF e ra k => by
  unfold gAbs at e
  cases q : a.int? with
  | none => rw [q] at e; cases e
  | some i =>
    rw [q] at e
    cases e
    exact ⟨_, call_abs, i, by rw [repc_int ra q], k _ F H [] (new_fz hF (.int _))⟩
def gInt : Cell → Option Cell := fun a => match a with
  | .fz (.int i) => some (int i)
  | .fz (.bool b) => some (int (if b then 1 else 0))
  | _ => none
theorem c_int : CallR X (.type "int") (rN X.K (on1 gInt)) := c_of1 fun F H a c x fa Q hF e ra k => by
  unfold gInt at e
  split at e
  · rename_i i
    cases e
    exact ⟨_, call_int1, .inl ⟨i, by rw [repc_int ra rfl], k _ F H [] (new_fz hF (.int _))⟩⟩
  · rename_i b
    cases e
    exact ⟨_, call_int1, .inr ⟨b, by rw [repc_b ra rfl], k _ F H [] (new_fz hF (.int _))⟩⟩
  · cases e
def gMax2 : Cell → Cell → Option Cell := fun a b => match a.int?, b.int? with
  | some i, some j => some (int (if j > i then j else i))
  | _, _ => none
def gMin2 : Cell → Cell → Option Cell := fun a b => match a.int?, b.int? with
  | some i, some j => some (int (if j < i then j else i))
  | _, _ => none
theorem c_max2 (hc : X.calm = true) : CallR X (.builtin "max") (rN X.K (on2 gMax2)) := c_of2 fun F H a b c x y fa fb Q hF e ra rb k => by
  unfold gMax2 at e
  split at e
  · rename_i i j e1 e2
    cases e
    exact ⟨_, call_max2 hc, i, j, by rw [repc_int ra e1, repc_int rb e2], k _ F H [] (new_fz hF (.int _))⟩
  · cases e
theorem c_min2 (hc : X.calm = true) : CallR X (.builtin "min") (rN X.K (on2 gMin2)) := c_of2 fun F H a b c x y fa fb Q hF e ra rb k => by
  unfold gMin2 at e
  split at e
  · rename_i i j e1 e2
    cases e
    exact ⟨_, call_min2 hc, i, j, by rw [repc_int ra e1, repc_int rb e2], k _ F H [] (new_fz hF (.int _))⟩
  · cases e

/-! ### list, tuple -/
def gList : Cell → Option Cell := fun a => match a.tup? with
  | some ds => some (lst ds)
  | none => a.lst?.map lst
def gTup : Cell → Option Cell := fun a => match a.tup? with
  | some ds => some (tup ds)
  | none => a.lst?.map tup
theorem c_list : CallR X (.type "list") (rN X.K (on1 gList)) := c_of1 fun F H a c x fa Q hF e ra k => by
  unfold gList at e
  split at e
  · rename_i ds e1
    cases e
    obtain ⟨p, vs, rfl, h1, h2⟩ := repc_tup ra e1
    exact ⟨_, call_list_of, p, vs, rfl, .inr (sqt_mono hF h1), fun l hl => k _ _ _ _ (new_lst hF hl h2)⟩
  · cases q : a.lst? with
    | none => rw [q] at e; cases e
    | some ds =>
      rw [q] at e
      cases e
      obtain ⟨p, vs, rfl, h1, h2⟩ := repc_lst ra hF q
      exact ⟨_, call_list_of, p, vs, rfl, .inl (.inl h1), fun l hl => k _ _ _ _ (new_lst hF hl h2)⟩
theorem c_tuple : CallR X (.type "tuple") (rN X.K (on1 gTup)) := c_of1 fun F H a c x fa Q hF e ra k => by
  unfold gTup at e
  split at e
  · rename_i ds e1
    cases e
    obtain ⟨p, vs, rfl, h1, h2⟩ := repc_tup ra e1
    exact ⟨_, call_tuple_of, p, vs, rfl, .inr ⟨sqt_mono hF h1, k _ F H [] (new_fz hF (.tup h1 h2))⟩⟩
  · cases q : a.lst? with
    | none => rw [q] at e; cases e
    | some ds =>
      rw [q] at e
      cases e
      obtain ⟨p, vs, rfl, h1, h2⟩ := repc_lst ra hF q
      exact ⟨_, call_tuple_of, p, vs, rfl, .inl ⟨.inl h1, fun l hl => k _ _ _ _ (new_tup hF hl h2)⟩⟩

/-! ### isinstance(x, T) -/
def Cell.ty : Cell → String
  | .fz .none => "NoneType"
  | .fz (.bool _) => "bool"
  | .fz (.int _) => "int"
  | .fz (.str _) => "str"
  | .fz (.list _) => "list"
  | .fz (.tuple _) => "tuple"
  | .fz (.dict _) => "dict"
  | .ol _ => "list"
  | .dk _ => "dict"
  | .dt _ => "dict"
theorem ty_of {K : PySem.W.Frag} {F H : Hp} {c : Cell} {x : V} {f : List Addr} (r : RepC K F H c x f) (hF : Same F H) : TyX K H x (.type c.ty) := by
  cases r with
  | fz r =>
    cases r with
    | non => exact .base .non
    | bl b => exact .base (.bl b)
    | int i => exact .base (.int i)
    | str z => exact .base (.str z)
    | lst h _ =>
      rcases Rd.mono hF h with h | ⟨o, h⟩
      · exact .base (.lst h)
      · exact .base (.frz h)
    | tup h _ =>
      rcases sqt_mono hF h with (h | ⟨o, h⟩) | h
      · exact .base (.tup h)
      · exact .fTuple h
      · obtain ⟨o, us, n, h1, h2, h3, h4⟩ := h
        exact .kTuple h1 h2
  | ol h => exact .base (.lst h)
  | dk h => exact .base (.dK h)
  | dt h => exact .base (.dT h)
/-- T among tuple, list, int, bool, str, dict -/
def isT (t T : String) : Bool := t == T || (t == "bool" && T == "int")
def gIsi (T : String) : Cell → Option Cell := fun a => some (bool (isT a.ty T))
theorem kit_isT {K : PySem.W.Frag} (T : String) (hT : T ∈ ["tuple", "list", "int", "bool", "str", "dict"]) (c : Cell) : PySem.W.kitOne K (.type c.ty) (.type T) = some (isT c.ty T) := by
  have hc : c.ty ∈ ["NoneType", "bool", "int", "str", "list", "tuple", "dict"] := by
    cases c with
    | fz d => cases d <;> simp [Cell.ty]
    | _ => simp [Cell.ty]
  generalize c.ty = t at hc
  have all_ : ∀ t ∈ ["NoneType", "bool", "int", "str", "list", "tuple", "dict"], ∀ T ∈ ["tuple", "list", "int", "bool", "str", "dict"], kitB t T = some (isT t T) := by decide +kernel
  exact kit_ty (all_ t hc T hT)
def rIsT (K : PySem.W.Frag) (T : String) : List V → Hp → VK → Prop := fun xs H Q => ∃ x, xs = [x, .ty T] ∧ rP K (on1 (gIsi T)) [x] H Q
theorem c_isi (T : String) (hT : T ∈ ["tuple", "list", "int", "bool", "str", "dict"]) : CallR X (.builtin "isinstance") (rIsT X.K T) := fun pins sh σ H xs us Q I rx ⟨x, ex, F, cs, c, hF, rl, eg, k⟩ => by
  subst ex
  match cs, eg, rl with
  | [a], eg, .cons ra .nil =>
    cases eg
    exact call_isi pins sh σ H [x, .ty T] us Q I rx ⟨x, .ty T, .type a.ty, .type T, isT a.ty T, rfl, .ty T, ty_of ra hF, kit_isT T hT a, k _ F H [] (new_fz hF (.bl _))⟩
end

/-! ### the calls -/
section
variable {X : Cx} {G : GG} {x : Str} {p p2 pos : Pos} {e : Expr} {es : List Expr} {as : List AF} {a : AF} {id T : String} {g : List Cell → Option Cell}
theorem e_blt (hc : CallR X (.builtin id) (rN G.K g)) (hg : Gl X x) (hm : X.mg x = none) (hv : bootBuiltins x = some (.builtin id)) (ha : PA X (e :: es) (tB G as)) (hn : x ≠ "__name__" := by decide) (hdb : (x == ("__debug__" : Str)) = false := by decide)
    (he : starEach (e :: es) X.env = (false, eval e X.env) :: starEach es X.env := by rfl) (hpl : (backTo pos (starEach es X.env)).any (·.1) = false := by rfl) : PE X (.Call (.Name x p) (e :: es) [] pos) (tE G (opE g as)) :=
  peW (pe_callB hc hg hm hv ha hn hdb he hpl) fun σ H Q h => rd_op h
theorem e_bty (hc : CallR X (.type T) (rN G.K g)) (hg : Gl X x) (hm : X.mg x = none) (hv : bootBuiltins x = some (.type T)) (ha : PA X (e :: es) (tB G as)) (hn : x ≠ "__name__" := by decide) (hdb : (x == ("__debug__" : Str)) = false := by decide)
    (he : starEach (e :: es) X.env = (false, eval e X.env) :: starEach es X.env := by rfl) (hpl : (backTo pos (starEach es X.env)).any (·.1) = false := by rfl) : PE X (.Call (.Name x p) (e :: es) [] pos) (tE G (opE g as)) :=
  peW (pe_callTy hc hg hm hv ha hn hdb he hpl) fun σ H Q h => rd_op h
/-- isinstance(e, T) -/
theorem e_isi (hK : X.K = G.K) (T : String) (hT : T ∈ ["tuple", "list", "int", "bool", "str", "dict"]) {tn : Str} (hg : Gl X "isinstance") (hm : X.mg "isinstance" = none) (hg2 : Gl X tn) (hm2 : X.mg tn = none) (hv : bootBuiltins "isinstance" = some (.builtin "isinstance")) (hv2 : bootBuiltins tn = some (.type T)) (ha : PEa X G e a)
    (hn2 : tn ≠ "__name__" := by decide) (hd2 : (tn == ("__debug__" : Str)) = false := by decide)
    (he : starEach [e, .Name tn p2] X.env = (false, eval e X.env) :: starEach [.Name tn p2] X.env := by rfl) (he2 : starEach [.Name tn p2] X.env = (false, eval (.Name tn p2) X.env) :: starEach [] X.env := by rfl) (hpl : (backTo pos (starEach [.Name tn p2] X.env)).any (·.1) = false := by rfl) :
    PE X (.Call (.Name "isinstance" p) [e, .Name tn p2] [] pos) (tE G (opE (on1 (gIsi T)) [a])) :=
  peW (pe_callB (c_isi T hT) hg hm hv (pa_cons ha (pa_cons (pe_bltn (v := .ty T) (u := .type T) hg2 hm2 hv2 rfl hn2 hd2) pa_nil he2) he) (by decide) (by decide) he hpl) fun σ H Q h => te_mono (rd_op1 h) fun x H1 q => ⟨x, rfl, by rw [hK]; exact q⟩
end
end PF
/-! PF13: list(reversed(list)), list(range(..)), tuple(range(..)). -/
namespace PF
open PySem PySem.Spec PyProof.Rows L2
section
variable {prog : Program} {w : World} {A : Around} {E : Value → Shared → Prop} {s : Shared}
theorem ext_rev {Rr : Result → Shared → Prop} {it l : Addr} {items : Array Value} (hh : A.handled = none) (hit : s.heap.IsRevIter it l ((items.size : Int) - 1)) (hl : s.heap.IsList l items) (hne : l ≠ it) (hn : items.size ≤ sizeLine)
    (S : Addr) (res : Value) (c₀ : Nat) (hS : s.heap.get? S = some { cls := .type "list", data := .seq #[] c₀ }) (hSf : S ∉ [it, l])
    (hR : ∀ h' tk acc' c', (∀ b o, b ≠ S → b ≠ it → s.heap.get? b = some o → h'.get? b = some o) → h'.get? S = some { cls := .type "list", dict := none, data := .seq acc' c', slots := #[] } →
      ItemsOf (fun i v => items[items.size - 1 - i]? = some v) acc' items.size → Rr (.ok (.ret res)) { s with heap := h', toks := tk }) :
    wpAny (model prog w) A.in1 (Builtin.List.listExtendWith (.ref S) (.ref it) res)
      (fun fin s' => match fin with | .done f => Rr (.ok f) s' | .again c' => c'.quiet = true ∧ codeAny (model prog w) A c' Rr s') (fun e s' => Rr (.error e) s') s := by
  have W := (Walks.listRev (prog := prog) (w := w) (A := A.in1) hh it l hne items).toS
  have hSi : S ≠ it := fun e => hSf (by simp [e])
  have hT : s.TypeIs (.ref it) "list_reverseiterator" := hit.typeIs
  have h1 : Builtin.List.listSameRef (.ref S) (.ref it) = false := by simp [Builtin.List.listSameRef, hSi]
  unfold Builtin.List.listExtendWith
  refine wpAny_bind (wpAny_typeOf hT ?_)
  rw [if_neg (by rw [h1]; decide)]
  refine wpAny_bind (wpAny_pyIter_revIter hit ?_)
  refine wpAny_bind (wpAny_holding ?_)
  unfold Builtin.List.listLengthHint
  refine wpAny_bind (wpAny_specialOf hT RT.nolen_lri ?_)
  show wpAny _ A.in1 (specialOf (Value.ref it) (Str.ofString "__length_hint__") >>= _) _ _ _
  refine wpAny_bind (wpAny_specialOf hT RT.hint_lri ?_)
  generalize hid : ("list_reverseiterator.__length_hint__" : String) = id0
  wp_delta
  rw [show splitId id0 = some ("list_reverseiterator", "__length_hint__") from by subst hid; decide +kernel]
  subst hid
  refine wpAny_bind (wpAny_isInstance (b := true) hT (by rw [isSubtype_type]; kernel_rfl) ?_)
  refine wpAny_pure ?_
  rw [if_neg (by decide)]
  have e0 : ((items.size : Nat) : Int) - 1 - ((0 : Nat) : Int) = (items.size : Int) - 1 := by omega
  refine wpAny_pure ⟨plainId_quiet F.plain_extend_loop _, codeAny_extend_loopS W hn _ hSf _ items.size 0 _ _ _ rfl (Nat.zero_le _) ⟨Nat.zero_le _, by rw [e0]; exact hit, hl⟩ hS (ItemsOf.nil _) fun s' acc' c' hm hS' hacc => ?_⟩
  rw [Moved.eq_with hm]
  refine hR s'.heap s'.toks acc' c' (fun b o hb hbi e => hm.heap b o (fun hmem => ?_) e) hS' hacc
  rcases List.mem_cons.mp hmem with e' | hmem
  · exact hb e'
  · exact hbi (List.mem_singleton.mp hmem)
theorem init_rev {Rr : Result → Shared → Prop} {it l : Addr} {items : Array Value} (hh : A.handled = none) (hit : s.heap.IsRevIter it l ((items.size : Int) - 1)) (hl : s.heap.IsList l items) (hne : l ≠ it) (hn : items.size ≤ sizeLine)
    (S : Addr) (hS : s.heap.get? S = some { cls := .type "list", data := .seq #[] }) (hSf : S ∉ [it, l])
    (hR : ∀ h' tk acc' c', (∀ b o, b ≠ S → b ≠ it → s.heap.get? b = some o → h'.get? b = some o) → h'.get? S = some { cls := .type "list", dict := none, data := .seq acc' c', slots := #[] } →
      ItemsOf (fun i v => items[items.size - 1 - i]? = some v) acc' items.size → Rr (.ok (.ret .none)) { s with heap := h', toks := tk }) :
    wpAny (model prog w) A.in1 (Builtin.«list.__init__» ⟨[.ref S, .ref it], []⟩)
      (fun fin s' => match fin with | .done f => Rr (.ok f) s' | .again c' => c'.quiet = true ∧ codeAny (model prog w) A c' Rr s') (fun e s' => Rr (.error e) s') s := by
  have hSi : S ≠ it := fun e => hSf (by simp [e])
  have hSl : S ≠ l := fun e => hSf (by simp [e])
  show wpAny _ _ (do let old ← Builtin.List.listItems (.ref S); Builtin.List.listUpdate (.ref S) (fun _ => #[]); letGo old.toList.reverse; Builtin.List.listExtendWith (.ref S) (.ref it) .none) _ _ s
  refine wpAny_bind ?_
  unfold Builtin.List.listItems
  refine wpAny_bind (wpAny_seqItems hS rfl (wpAny_pure ?_))
  show wpAny _ _ (updateSeq S (fun _ => #[]) >>= fun _ => letGo (#[] : Array Value).toList.reverse >>= fun _ => Builtin.List.listExtendWith (.ref S) (.ref it) .none) _ _ s
  refine wpAny_bind (wpAny_updateSeq hS rfl ?_)
  have hS₂ := Heap.get?_update_self (Obj.mapSeq (fun _ => (#[] : Array Value))) hS rfl
  have oth : ∀ b o, b ≠ S → s.heap.get? b = some o → (s.heap.update S (Obj.mapSeq (fun _ => (#[] : Array Value)))).get? b = some o :=
    fun b o hb e => (Heap.get?_update_other _ _ (Ne.symm hb)).trans e
  refine wpAny_bind (wpAny_letGo ?_)
  have hl2 : (s.heap.update S (Obj.mapSeq (fun _ => (#[] : Array Value)))).IsList l items := by
    obtain ⟨o, ho, r⟩ := hl
    exact ⟨o, oth l o (Ne.symm hSl) ho, r⟩
  refine ext_rev (s := { s with heap := s.heap.update S (Obj.mapSeq (fun _ => (#[] : Array Value))) }) hh (hit.at fun o e => oth it o (Ne.symm hSi) e) hl2 hne hn S .none _ hS₂ hSf fun h' tk acc' c' hk hS' hacc => ?_
  exact hR h' tk acc' c' (fun b o hb hbi e => hk b o hb hbi (oth b o hb e)) hS' hacc
theorem call_list_rev {it l : Addr} {items : Array Value} {Q : Value → Shared → Prop} (hh : A.handled = none) (hit : s.heap.IsRevIter it l ((items.size : Int) - 1)) (hl : s.heap.IsList l items) (hne : l ≠ it) (hn : items.size ≤ sizeLine)
    (hQ : ∀ h' tk acc' c', (∀ b o, b ≠ it → s.heap.get? b = some o → h'.get? b = some o) →
      h'.get? s.heap.objs.size = some { cls := .type "list", dict := none, data := .seq acc' c', slots := #[] } → ItemsOf (fun i v => items[items.size - 1 - i]? = some v) acc' items.size → Q (.ref s.heap.objs.size) { s with heap := h', toks := tk }) :
    wpAny (model prog w) A (call (.type "list") [.ref it]) Q E s := by
  refine callType_codes (Q₁ := fun obj s₁ => obj = .ref s.heap.objs.size ∧ s₁ = { s with heap := s.heap.push { cls := .type "list", data := .seq #[] } }) F.called_list (F.typeCall_list_1 _) F.entry_list_init
    (code_list_new _ ⟨rfl, rfl⟩) fun obj s₁ h₁ => ?_
  obtain ⟨rfl, rfl⟩ := h₁
  have hS : (s.heap.push { cls := .type "list", data := .seq #[] }).get? s.heap.objs.size = some { cls := .type "list", data := .seq #[] } := Heap.get?_push_size _ rfl
  obtain ⟨oi, hoi, _⟩ := id hit
  obtain ⟨ol, hol, _⟩ := id hl
  have hSi : s.heap.objs.size ≠ it := Nat.ne_of_gt (Heap.lt_size hoi)
  have hSl : s.heap.objs.size ≠ l := Nat.ne_of_gt (Heap.lt_size hol)
  refine ⟨⟨_, hS, rfl⟩, F.args_list_init_2 _ _, init_rev (A := A.in1) (s := { s with heap := s.heap.push { cls := .type "list", data := .seq #[] } }) hh (hit.at fun o e => Heap.get?_push_of_some _ e) (hl.push _) hne hn _ hS (by simp [hSi, hSl]) fun h' tk acc' c' hk hS' hacc => ?_⟩
  exact ⟨rfl, hQ h' tk acc' c' (fun b o hb e => hk b o (Nat.ne_of_lt (Heap.lt_size e)) hb (Heap.get?_push_of_some _ e)) hS' hacc⟩
end
def tLstRev (K : PySem.W.Frag) (te : TE) : TE := fun σ H Q => te σ H fun v H1 => ∃ (a : Addr) (xs : List V), v = .ref a ∧ SqL K H1 a xs ∧ ∀ q, H1 q = none → Q (.ref q) (upd H1 q (.lst xs.reverse))
section
variable {X : Cx} {e : Expr} {te : TE} {p p2 pos pos2 : Pos}
theorem pe_lstRev (hc : X.calm = true) (hg : Gl X "list") (hm : X.mg "list" = none) (hg2 : Gl X "reversed") (hm2 : X.mg "reversed" = none) (he : PE X e te)
    (hs : starEach [e] X.env = (false, eval e X.env) :: starEach [] X.env := by rfl)
    (hs2 : starEach [.Call (.Name "reversed" p2) [e] [] pos2] X.env = (false, eval (.Call (.Name "reversed" p2) [e] [] pos2) X.env) :: starEach [] X.env := by rfl) :
    PE X (.Call (.Name "list" p) [.Call (.Name "reversed" p2) [e] [] pos2] [] pos) (tLstRev X.K te) := by
  refine ⟨fun pins s σ H Q I h => ?_⟩
  refine Call_ (ld_blt I hg hm boot_list (PyProof.Rows.callWith_type1 (args_cons (Call_ (ld_blt I hg2 hm2 PyProof.Rows.boot_reversed (PyProof.Rows.callWith_type1 (args_cons (thn (he.run pins s σ H _ I h) fun u s1 ⟨v, H1, I1, r1, q1⟩ => args_nil ?_) hs) hs rfl))) hs2) hs2 rfl))
  obtain ⟨a, xs, ev, hq, q⟩ := q1
  subst ev
  obtain rfl : u = Value.ref a := r1
  obtain ⟨its, rv, p', hz⟩ := I1.list hq
  refine call_reversed_list p'.isList (args_nil ?_)
  have k0 : ∀ b o, s1.heap.get? b = some o → (s1.heap.push (revObj a ((its.toArray.size : Int) - 1))).get? b = some o := fun b o e => Heap.get?_push_of_some _ e
  have I2 : Inv X pins σ H1 { s1 with heap := s1.heap.push (revObj a ((its.toArray.size : Int) - 1)) } := I1.kept (t' := s1.toks) k0
  obtain ⟨f0, f1, f2, f3, f4, f5⟩ := I1.fpOk (H' := H1) (b := s1.heap.objs.size) (Nat.le_refl _) (I1.hok.fresh (Nat.le_refl _))
  have hl := p'.isList
  obtain ⟨ol, hol, _⟩ := id hl
  have hne : a ≠ s1.heap.objs.size := Nat.ne_of_lt (Heap.lt_size hol)
  have hn : its.toArray.size ≤ sizeLine := by rw [List.size_toArray, ← rv.length]; exact hz
  refine call_list_rev (s := { s1 with heap := s1.heap.push (revObj a ((its.toArray.size : Int) - 1)) }) (I1.ok.hd hc) ⟨_, Heap.get?_push_size _ rfl, rfl, rfl⟩ (hl.push _) hne hn fun h' tk acc c' hk hS hi => ?_
  have I3 : Inv X pins σ (upd H1 (s1.heap.push (revObj a ((its.toArray.size : Int) - 1))).objs.size (.lst xs.reverse)) { s1 with heap := h', toks := tk } := by
    refine I2.turnedNew (t' := tk) (ch := [s1.heap.objs.size]) (fun b o hb e => hk b o (fun z => hb (by simp [z])) e) (fun b hb => ?_) (Nat.le_refl _) (show ObjOk X.prog X.w _ _ _ (.lst xs.reverse) from ⟨by rw [List.length_reverse]; exact hz, acc.toList, c', RT.vals_rev rv hi, by rw [Array.toArray_toList]; exact hS⟩)
    rw [List.mem_singleton.mp hb]
    exact ⟨f0, f1, f2, f3, f4, f5⟩
  exact ⟨.ref (s1.heap.push (revObj a ((its.toArray.size : Int) - 1))).objs.size, _, I3, rfl, q _ (I2.hok.fresh (Nat.le_refl _))⟩
end

/-! ### over cells -/
def gLstRev : Cell → Option Cell := fun a => a.lst?.map fun ds => lst ds.reverse
def rgOk (a b : Int) : Bool := smallI a && smallI b && decide ((b - a).toNat ≤ 2 ^ 24)
def gLr1 : Cell → Option Cell := fun a => match a.int? with
  | some i => if rgOk 0 i = true then some (lst (upI 0 i.toNat)) else none
  | none => none
def gTr1 : Cell → Option Cell := fun a => match a.int? with
  | some i => if rgOk 0 i = true then some (tup (upI 0 i.toNat)) else none
  | none => none
def gLr2 : Cell → Cell → Option Cell := fun a b => match a.int?, b.int? with
  | some i, some j => if rgOk i j = true then some (lst (upI i (j - i).toNat)) else none
  | _, _ => none
theorem rgOk_iff {a b : Int} (h : rgOk a b = true) : RgOk a b := by
  unfold rgOk at h
  simp only [Bool.and_eq_true, decide_eq_true_eq] at h
  obtain ⟨⟨h1, h2⟩, h3⟩ := h
  obtain ⟨q1, q2⟩ := smallI_iff h1
  obtain ⟨q3, q4⟩ := smallI_iff h2
  exact ⟨q1, q2, q3, q4, h3⟩
theorem dq_rg {K : PySem.W.Frag} {F : Hp} (a b : Int) : DqAll K F (rgV a b) (upI a (b - a).toNat) := by
  refine dpAll_of (by simp [rgV, upI]) fun i v d e1 e2 => ?_
  unfold rgV at e1
  unfold upI at e2
  rw [List.getElem?_map] at e1 e2
  cases q : (List.range (b - a).toNat)[i]? with
  | none => rw [q] at e1; cases e1
  | some k =>
    rw [q] at e1 e2
    cases e1
    cases e2
    exact .int _
section
variable {X : Cx} {G : GG} {e a b : Expr} {A B : AF} {p p2 pos pos2 : Pos}
theorem on1_rd {g : Cell → Option Cell} {x : V} {H : Hp} {Q : VK} (h : rP G.K (on1 g) [x] H Q) : ∃ F a c f, Same F H ∧ RepC G.K F H a x f ∧ g a = some c ∧ ∀ x F' H' fp, New G.K F H c x F' H' fp → Q x H' := by
  obtain ⟨F, cs, c, hF, rl, eg, k⟩ := h
  obtain ⟨a, e, f, r⟩ := on1_inv eg rl
  exact ⟨F, a, c, f, hF, r, e, k⟩
theorem e_lstRev (hc : X.calm = true) (hK : X.K = G.K) (hg : Gl X "list") (hm : X.mg "list" = none) (hg2 : Gl X "reversed") (hm2 : X.mg "reversed" = none) (he : PEa X G e A)
    (hs : starEach [e] X.env = (false, eval e X.env) :: starEach [] X.env := by rfl)
    (hs2 : starEach [.Call (.Name "reversed" p2) [e] [] pos2] X.env = (false, eval (.Call (.Name "reversed" p2) [e] [] pos2) X.env) :: starEach [] X.env := by rfl) :
    PE X (.Call (.Name "list" p) [.Call (.Name "reversed" p2) [e] [] pos2] [] pos) (tE G (opE (on1 gLstRev) [A])) := peW (pe_lstRev hc hg hm hg2 hm2 he hs hs2) fun σ H Q h => te_mono (rd_op1 h) fun x H1 q => by
  obtain ⟨F, a, c, f, hF, r, e, k⟩ := on1_rd q
  unfold gLstRev at e
  cases q2 : a.lst? with
  | none => rw [q2] at e; cases e
  | some ds =>
    rw [q2] at e
    cases e
    obtain ⟨l, vs, rfl, h1, h2⟩ := repc_lst r hF q2
    refine ⟨l, vs, rfl, .inl h1, fun q hq => k _ _ _ _ (new_lst hF hq (dps_reverse h2))⟩
theorem e_listRg1 (hc : X.calm = true) (hg : Gl X "list") (hm : X.mg "list" = none) (hg2 : Gl X "range") (hm2 : X.mg "range" = none) (he : PEa X G e A)
    (na : starEach [e] X.env = (false, eval e X.env) :: starEach [] X.env := by rfl)
    (hs2 : starEach [.Call (.Name "range" p2) [e] [] pos2] X.env = (false, eval (.Call (.Name "range" p2) [e] [] pos2) X.env) :: starEach [] X.env := by rfl) :
    PE X (.Call (.Name "list" p) [.Call (.Name "range" p2) [e] [] pos2] [] pos) (tE G (opE (on1 gLr1) [A])) := peW (pe_listRg hc hg hm (prg_1 hg2 hm2 he na) hs2) fun σ H Q h => te_mono (rd_op1 h) fun x H1 q => by
  obtain ⟨F, a, c, f, hF, r, e, k⟩ := on1_rd q
  unfold gLr1 at e
  split at e
  · rename_i i ei
    split at e
    · rename_i hr
      cases e
      refine ⟨i, repc_int r ei, rgOk_iff hr, fun q hq => ?_⟩
      have z := new_lst (K := G.K) hF hq (dq_rg 0 i)
      rw [Int.sub_zero] at z
      exact k _ _ _ _ z
    · cases e
  · cases e
theorem e_tupRg1 (hc : X.calm = true) (hg : Gl X "tuple") (hm : X.mg "tuple" = none) (hg2 : Gl X "range") (hm2 : X.mg "range" = none) (he : PEa X G e A)
    (na : starEach [e] X.env = (false, eval e X.env) :: starEach [] X.env := by rfl)
    (hs2 : starEach [.Call (.Name "range" p2) [e] [] pos2] X.env = (false, eval (.Call (.Name "range" p2) [e] [] pos2) X.env) :: starEach [] X.env := by rfl) :
    PE X (.Call (.Name "tuple" p) [.Call (.Name "range" p2) [e] [] pos2] [] pos) (tE G (opE (on1 gTr1) [A])) := peW (pe_tupRg hc hg hm (prg_1 hg2 hm2 he na) hs2) fun σ H Q h => te_mono (rd_op1 h) fun x H1 q => by
  obtain ⟨F, a, c, f, hF, r, e, k⟩ := on1_rd q
  unfold gTr1 at e
  split at e
  · rename_i i ei
    split at e
    · rename_i hr
      cases e
      refine ⟨i, repc_int r ei, rgOk_iff hr, fun q hq => ?_⟩
      have z := new_tup (K := G.K) hF hq (dq_rg 0 i)
      rw [Int.sub_zero] at z
      exact k _ _ _ _ z
    · cases e
  · cases e
theorem e_listRg2 (hc : X.calm = true) (hg : Gl X "list") (hm : X.mg "list" = none) (hg2 : Gl X "range") (hm2 : X.mg "range" = none) (ha : PEa X G a A) (hb : PEa X G b B)
    (na : starEach [a, b] X.env = (false, eval a X.env) :: starEach [b] X.env := by rfl) (nb : starEach [b] X.env = (false, eval b X.env) :: starEach [] X.env := by rfl) (hp : (backTo pos2 (starEach [b] X.env)).any (·.1) = false := by rfl)
    (hs2 : starEach [.Call (.Name "range" p2) [a, b] [] pos2] X.env = (false, eval (.Call (.Name "range" p2) [a, b] [] pos2) X.env) :: starEach [] X.env := by rfl) :
    PE X (.Call (.Name "list" p) [.Call (.Name "range" p2) [a, b] [] pos2] [] pos) (tE G (opE (on2 gLr2) [A, B])) := peW (pe_listRg hc hg hm (prg_2 hg2 hm2 ha hb na nb hp) hs2) fun σ H Q h => te_mono (tB_cons (rd_op h)) fun x H1 q => te_mono (tB_cons q) fun y H2 q => by
  have q := tB_nil q
  obtain ⟨F, cs, c, hF, rl, eg, k⟩ := q
  obtain ⟨ca, cb, e, ⟨fa, ra⟩, fb, rb⟩ := on2_inv eg rl
  unfold gLr2 at e
  split at e
  · rename_i i j ei ej
    split at e
    · rename_i hr
      cases e
      exact ⟨i, j, repc_int ra ei, repc_int rb ej, rgOk_iff hr, fun q hq => k _ _ _ _ (new_lst hF hq (dq_rg i j))⟩
    · cases e
  · cases e
end
end PF
/-! PF14: all, any of a generator expression whose element may call. -/
namespace PF
open PySem PySem.Spec PyProof.Rows L2 GenW

/-- the generator expression's own names: of what is captured the def has a cell -/
structure GOk (N : List Str) (sc scope : Scope) (own : List (Str × Nat)) : Prop where
  kind : scope.kind = .function
  co : scope.isCoroutine = false
  cell : ∀ y ∈ scope.names, y.2 ≠ .cell
  dot : scope.names.lookup (".0" : Str) = some NameKind.local
  free : ∀ y ∈ scope.names, y.2 = .free → sc.names.lookup y.1 = some .cell ∨ sc.names.lookup y.1 = some .free
  own : ∀ (i : Nat) (y : Str), N[i]? = some y → scope.names.lookup y = some .local → i ∈ own.map (·.2)
def gokC (N : List Str) (sc scope : Scope) (own : List (Str × Nat)) : Bool :=
  (scope.kind == .function) && !scope.isCoroutine && (scope.names.all fun y => y.2 != .cell) && (scope.names.lookup (".0" : Str) == some NameKind.local) &&
    (scope.names.all fun y => y.2 != .free || (sc.names.lookup y.1 == some .cell || sc.names.lookup y.1 == some .free)) &&
    ((List.range N.length).all fun i => match N[i]? with
      | some y => scope.names.lookup y != some .local || (own.map (·.2)).contains i
      | none => true)
theorem gok_by {N : List Str} {sc scope : Scope} {own : List (Str × Nat)} (h : gokC N sc scope own = true) : GOk N sc scope own := by
  unfold gokC at h
  simp only [Bool.and_eq_true] at h
  obtain ⟨⟨⟨⟨⟨h1, h2⟩, h3⟩, h4⟩, h5⟩, h6⟩ := h
  refine ⟨by simpa using h1, by simpa using h2, fun y hy e => ?_, by simpa using h4, fun y hy e => ?_, fun i y e1 e2 => ?_⟩
  · have := List.all_eq_true.mp h3 y hy
    rw [e] at this
    exact absurd this (by decide)
  · have := List.all_eq_true.mp h5 y hy
    rw [e] at this
    simpa using this
  · have hi := (List.getElem?_eq_some_iff.mp e1).1
    have := List.all_eq_true.mp h6 i (List.mem_range.mpr hi)
    rw [e1] at this
    simp only [e2] at this
    simpa using this

/-- the context of a generator expression's element -/
abbrev gx (X : Cx) (A : Around) (s : Shared) (H : Hp) (cenv : PySem.Env) (fp : List Addr) (pn : List (Addr × Obj)) : Cx :=
  { X with A := A, s_0 := s, H_0 := H, env := cenv, outer := X.stack, stack := cenv :: X.stack, ex := fp, fn := fun _ => false, pn := pn, xe := fun _ _ => False }
section
variable {X : Cx} {pins : List (Addr × Obj)} {σ : L2.St} {H : Hp} {s : Shared}
theorem gen_start {A : Around} {scope : Scope} {own : List (Str × Nat)} {fp : List Addr} {code : Value} {h' : Heap} {go : Obj} {g' : Array GenState} {tk : Nat} {f0 : Str → Option Value} (I : Inv X pins σ H s) (ok : GOk X.N X.env.scope scope own)
    (hA : A.handled = none) (hfr : A.frames = some (genEnv scope (cloFrom X.env.cells scope.names []) s.heap.objs.size code builtinsNs X.env :: X.stack))
    (hfp : ∀ b ∈ fp, FpOk X pins H b ∧ b < s.heap.objs.size) (hn : h'.Ns s.heap.objs.size f0) (hs : Heap.SameBut s.heap.objs.size (s.heap.push { cls := .type "frame", data := .dict #[] }) h') (hgo : ∀ v, go.data ≠ .cell v) (hgf : go.isFreed = false) (hg : AllBare g') :
    Inv (gx X A s H (genEnv scope (cloFrom X.env.cells scope.names []) s.heap.objs.size code builtinsNs X.env) fp [(h'.objs.size, go)]) [] (wipe σ (own.map (·.2))) H { s with gens := g', toks := tk, heap := h'.push go } := by
  have hfree : ∀ y ∈ scope.names, y.2 = .free → ∃ c, X.env.cells.lookup y.1 = some c := fun y hy e => by
    rcases ok.free y hy e with k | k
    · exact I.ok.has _ (.inl k)
    · exact I.ok.has _ (.inr k)
  generalize hcenv : genEnv scope (cloFrom X.env.cells scope.names []) s.heap.objs.size code builtinsNs X.env = cenv at hfr ⊢
  have hL : cenv.locals = s.heap.objs.size := by rw [← hcenv]; rfl
  have hcl : cenv.cells = cloFrom X.env.cells scope.names [] := by rw [← hcenv]; rfl
  have hsc : cenv.scope = scope := by rw [← hcenv]; rfl
  have hsz : h'.objs.size = s.heap.objs.size + 1 := by rw [hs.1, Heap.size_push]
  have kp : ∀ b o, s.heap.get? b = some o → (h'.push go).get? b = some o := fun b o e => Heap.get?_push_of_some _ (hs.extBut b o (Nat.ne_of_lt (Heap.lt_size e)) (Heap.get?_push_of_some _ e))
  have cm : ∀ {y c}, (y, c) ∈ cloFrom X.env.cells scope.names [] → X.env.cells.lookup y = some c ∧ c < s.heap.objs.size := fun {y c} hm => by
    rcases cloFrom_mem hm with hm | ⟨h1, rfl⟩
    · cases hm
    · obtain ⟨c, hc⟩ := hfree _ h1 rfl
      rw [hc]
      obtain ⟨w, z⟩ := I.cell _ _ hc
      exact ⟨rfl, z.lt⟩
  have mem : ∀ {y c}, cenv.cells.lookup y = some c → X.env.cells.lookup y = some c ∧ c < s.heap.objs.size := fun {y c} e => by
    rw [hcl] at e
    exact cm (PySem.mem_of_lookup e)
  have look : ∀ {y}, scope.names.lookup y = some .free → ∃ c, cenv.cells.lookup y = some c ∧ X.env.cells.lookup y = some c := fun {y} hl => by
    have hy : (y, NameKind.free) ∈ scope.names := PySem.mem_of_lookup hl
    obtain ⟨c', e'⟩ := mem_lookup (cloFrom_has (cells := X.env.cells) (acc := []) hy)
    rw [← hcl] at e'
    exact ⟨c', e', (mem e').1⟩
  have kindE : ∀ y k, cenv.kindOf y = some k → scope.names.lookup y = some k := fun y k e => by
    unfold Env.kindOf at e
    rw [hsc] at e
    exact e
  have okB : (gx X A s H cenv fp [(h'.objs.size, go)]).Ok := by
    refine ⟨I.ok.mod, by show cenv.scope.kind = _; rw [hsc]; exact ok.kind, by show cenv.globals = _; rw [← hcenv]; exact I.ok.glob, by show cenv.builtins = _; rw [← hcenv]; rfl, by show s.heap.objs.size ≤ cenv.locals; rw [hL]; exact Nat.le_refl _,
      fun y z c e1 e2 => I.ok.inj y z c (mem e1).1 (mem e2).1, fun y hy => ?_, fun y c z e => absurd z (by simp), fun _ => hA, hfr, .inr ⟨rfl, by show cenv.frame = some cenv.locals; rw [← hcenv]; rfl⟩, fun b hb => ⟨?_, fun y c e z => ?_⟩, I.bs, Nat.le_trans I.ok.bsz I.sz, fun b o e hb => ?_, fun b hb z => ?_, I.stack, I.stkFree⟩
    · show ∃ c, cenv.cells.lookup y = some c
      rcases hy with hy | hy
      · exact absurd rfl (ok.cell _ (PySem.mem_of_lookup (kindE _ _ hy)))
      · obtain ⟨c, h1, _⟩ := look (kindE _ _ hy)
        exact ⟨c, h1⟩
    · show b ≠ cenv.locals
      rw [hL]; exact Nat.ne_of_lt (hfp b hb).2
    · exact (hfp b hb).1.2.2.2.2.1 y c (mem e).1 z
    · rcases (hfp b hb).1.2.2.2.1 with z | z
      · exact I.ok.noex b o e z
      · exact absurd (Nat.lt_of_lt_of_le (Heap.lt_size e) (Nat.le_trans I.ok.bsz z)) (Nat.lt_irrefl _)
    · rcases List.mem_cons.mp (I.stkSub b z) with z | z
      · exact (hfp b hb).1.2.1 z
      · exact (hfp b hb).1.2.2.1 z
  refine ⟨okB, rfl, hg, Un.kept kp, ⟨f0, ?_, fun i y av e1 e2 e3 => ?_⟩, fun y c e => ?_, ?_, fun y c e => ?_, fun p hp => ?_, I.hok.kept kp, by rw [wipe_length]; exact I.len⟩
  · show Heap.Ns _ cenv.locals _
    rw [hL]
    exact hn.push go
  · obtain ⟨e2, hne⟩ := wipe_some e2
    have e3 : Vis cenv.scope y := e3
    rw [hsc] at e3
    have hfr2 : scope.names.lookup y = some .free := by
      rcases e3 with e3 | e3 | e3
      · exact absurd (ok.own i y e1 e3) hne
      · exact absurd rfl (ok.cell _ (PySem.mem_of_lookup e3))
      · exact e3
    obtain ⟨c, hc1, hc2⟩ := look hfr2
    have hk := ok.free _ (PySem.mem_of_lookup hfr2) rfl
    obtain ⟨m, hns, hloc⟩ := I.loc
    obtain ⟨u, ru, lk⟩ := hloc i y av e1 e2 (by rcases hk with k | k; exact .inr (.inl k); exact .inr (.inr k))
    refine ⟨u, ru, .inr ⟨.inr (by show cenv.kindOf y = _; unfold Env.kindOf; rw [hsc]; exact hfr2), c, hc1, ?_⟩⟩
    rcases lk with ⟨k1, _⟩ | ⟨_, c', q1, q2⟩
    · have k1 : X.env.scope.names.lookup y = some .local := k1
      rcases hk with k | k
      · rw [k] at k1; cases k1
      · rw [k] at k1; cases k1
    · rw [hc2] at q1
      cases q1
      obtain ⟨ob, z1, z2⟩ := q2
      exact ⟨ob, kp _ _ z1, z2⟩
  · obtain ⟨v, ob, z1, z2⟩ := I.cell y c (mem e).1
    exact ⟨v, ob, kp _ _ z1, z2⟩
  · show H cenv.locals = none
    rw [hL]; exact I.hok.fresh (Nat.le_refl _)
  · exact I.freeC y c (mem e).1
  · have hp : p ∈ [(h'.objs.size, go)] ++ [] := hp
    rw [List.append_nil] at hp
    rw [List.mem_singleton.mp hp]
    refine ⟨Heap.get?_push_size _ hgf, I.hok.fresh (by rw [hsz]; exact Nat.le_succ _), ?_, fun z => ?_, hgo⟩
    · show h'.objs.size ≠ cenv.locals
      rw [hL, hsz]; exact Nat.succ_ne_self _
    · obtain ⟨_, o, e, _⟩ := I.stack.mem z
      have := Heap.lt_size e
      rw [hsz] at this
      exact absurd this (Nat.not_lt_of_le (Nat.le_succ _))
end

/-- all (stop = false) or any (stop = true) of the elements; P: the def's table of codes -/
def tAnyAll (stop : Bool) (P : Addr) (wi : TI) (g : TG) (tt : TT) (te : TE) (vs : List Nat) : TE := fun σ H Q => wi σ H fun J H1 => GxR.TabG H1 P ∧ ∀ H2, GxR.Tabbed P H1 H2 → ∃ W : Nat → Nat → Hp → Prop, (∃ m, W 0 m H2) ∧ ∀ i m H, W i m H →
  (J.stop i H ∧ Q (.bl (!stop)) H) ∨ (J.go i H ∧ ∃ Nx : Hp → Prop, (∀ H', Nx H' → ∃ m', m' < m ∧ W (i + 1) m' H') ∧ ∀ x H', J.yld i H x H' → g x (wipe σ vs) H' fun σ2 H2 => wipe σ2 vs = wipe σ vs ∧ tt σ2 H2 fun b H3 =>
    if b = true then te σ2 H3 fun y H4 => ∃ k : Bool, y = .bl k ∧ (if k = stop then Q (.bl stop) H4 else Nx H4) else Nx H3)
theorem Inv.gensTo {X : Cx} {pins : List (Addr × Obj)} {σ : L2.St} {H : Hp} {s : Shared} (I : Inv X pins σ H s) {g' : Array GenState} (hg : AllBare g') : Inv X pins σ H { s with gens := g' } :=
  ⟨I.ok, I.os, hg, I.base, I.loc, I.cell, I.free, I.freeC, I.pin, I.hok, I.len⟩
section
variable {X : Cx}
/-- a turn's facts at a yield -/
def YAll (X : Cx) (σ : L2.St) (stop : Bool) (Q : VK) : Protocol := fun n s₀ v s₁ kap => ∃ (k : Bool) (H' : Hp), v = .bool k ∧ Inv X [] σ H' s₁ ∧ (k = stop → Q (.bl stop) H') ∧ (k ≠ stop → ∀ g', AllBare g' → kap (.send .none) { s₁ with gens := g' })
def RAll (X : Cx) (σ : L2.St) (stop : Bool) (Q : VK) : Nat → Shared → Shared → Prop := fun n s₀ s₁ => ∃ H', Inv X [] σ H' s₁ ∧ Q (.bl (!stop)) H'
theorem seg_all {A1 A' : Around} {s3 : Shared} {H3 : Hp} {cenv : PySem.Env} {fp : List Addr} {pn : List (Addr × Obj)} {elt tg iter : Expr} {ifs : List Expr} {scope : Scope} {pos : Pos} {it : Addr} {tn : Nat → Heap → Prop} {J : It} {g : TG} {tt : TT} {te : TE} {vs : List Nat} {σ : L2.St} {stop : Bool} {Q : VK} {W : Nat → Nat → Hp → Prop}
    (hc : X.calm = true) (hco : cenv.scope.isCoroutine = false) (T : Turn X.prog X.w X.K tg J fp it tn)
    (hpn : ∀ b ∈ fp, ∀ p ∈ pn, p.1 ≠ b) (hA : A1.over (.compLoop (.GeneratorExp elt [⟨tg, iter, ifs, 0⟩] scope pos) 0 (.ref it) .none cenv) [] = A')
    (pg : PG (gx X A' s3 H3 cenv fp pn) tg g) (pt : PTs (gx X A' s3 H3 cenv fp pn) ifs tt)
    (pe : PE (gx X A' s3 H3 cenv fp pn) elt te)
    (turn : ∀ i m H, W i m H → (J.stop i H ∧ Q (.bl (!stop)) H) ∨ (J.go i H ∧ ∃ Nx : Hp → Prop, (∀ H', Nx H' → ∃ m', m' < m ∧ W (i + 1) m' H') ∧ ∀ x H', J.yld i H x H' → g x (wipe σ vs) H' fun σ2 H2 => wipe σ2 vs = wipe σ vs ∧ tt σ2 H2 fun b H3 =>
      if b = true then te σ2 H3 fun y H4 => ∃ k : Bool, y = .bl k ∧ (if k = stop then Q (.bl stop) H4 else Nx H4) else Nx H3)) :
    ∀ (m i n : Nat) (s₀ s : Shared) (H' : Hp), m < n → Inv (gx X A' s3 H3 cenv fp pn) [] (wipe σ vs) H' s → tn i s.heap → (∀ b ∈ fp, H' b = none) → W i m H' →
      Seg (model X.prog X.w) A1 (fun n s₀ r s₁ => r = .ok .next ∧ RAll (gx X A' s3 H3 cenv fp pn) (wipe σ vs) stop Q n s₀ s₁)
        (YAll (gx X A' s3 H3 cenv fp pn) (wipe σ vs) stop Q) n s₀
        (.compLoop (.GeneratorExp elt [⟨tg, iter, ifs, 0⟩] scope pos) 0 (.ref it) .none cenv)
        ((model X.prog X.w).den (.compLoop (.GeneratorExp elt [⟨tg, iter, ifs, 0⟩] scope pos) 0 (.ref it) .none cenv)) [] s := by
  subst hA
  generalize hX : gx X (A1.over (.compLoop (.GeneratorExp elt [⟨tg, iter, ifs, 0⟩] scope pos) 0 (.ref it) .none cenv) []) s3 H3 cenv fp pn = Y at pg pt pe ⊢
  have yA : Y.A = A1.over (.compLoop (.GeneratorExp elt [⟨tg, iter, ifs, 0⟩] scope pos) 0 (.ref it) .none cenv) [] := by rw [← hX]
  have yP : Y.prog = X.prog := by rw [← hX]
  have yw : Y.w = X.w := by rw [← hX]
  have yK : Y.K = X.K := by rw [← hX]
  have yc : Y.calm = true := by rw [← hX]; exact hc
  have ye : Y.env = cenv := by rw [← hX]
  have yx : Y.ex = fp := by rw [← hX]
  have yn : Y.pn = pn := by rw [← hX]
  have yE : Y.xe = fun _ _ => False := by rw [← hX]
  clear hX
  subst ye yx yn
  have stat : ∀ {σ' : L2.St} {H' : Hp} {s' : Shared}, Inv Y [] σ' H' s' → (∀ b ∈ Y.ex, H' b = none) → ∀ b ∈ Y.ex, FpOk Y [] H' b := fun {σ' H' s'} I' hn b hb =>
    ⟨hn b hb, (I'.ok.exf b hb).1, I'.ok.exfs b hb, .inl hb, fun x c e => (I'.ok.exf b hb).2 x c e, fun p hp => hpn b hb p (by rwa [List.append_nil] at hp)⟩
  have pgr := pg.run
  have ptr := pt.run
  have per := pe.run
  rw [yE, yA, yP, yw] at pgr ptr per
  intro m
  induction m using Nat.strongRecOn with
  | ind m ih =>
    intro i n s₀ s H5 hmn I5 st5 n5 w5
    show Seg _ A1 _ _ _ s₀ _ ((compTurn (.GeneratorExp elt [⟨tg, iter, ifs, 0⟩] scope pos) 0 (.ref it) .none Y.env).onRaise (leaving Y.env)) [] s
    rw [compTurn_gen, Sem.onRaise_eq_wrap]
    refine seg_bind_wrap (wpAny_standAt ?_)
    rcases turn i m H5 w5 with ⟨stp, qq⟩ | ⟨go, Nx, hNx, step⟩
    · have td := T.done Y yP yw yK yc i [] s _ H5 (fun _ _ => False) I5 (stat I5 n5) st5 stp
      rw [yA] at td
      refine seg_bind_wrap (thnF td fun r s6 ⟨hr, I6⟩ => ?_)
      subst hr
      exact seg_end (.ok .next) ⟨rfl, H5, I6, qq⟩
    · have ti := T.item Y yP yw yK yc i [] s _ H5 (fun _ _ => False) I5 (stat I5 n5) st5 go
      rw [yA] at ti
      refine seg_bind_wrap (thnF ti fun r s6 ⟨u, hr, h6⟩ => ?_)
      subst hr
      refine seg_bind_wrap (thnF h6 fun _ s7 ⟨x, H7, I7, r7, y7, st7, n7⟩ => ?_)
      have I7' := I7.pinned (stat I7 n7) (T.obj _ _ st7)
      refine seg_bind_wrap (thnF (pgr _ s7 _ H7 x u _ I7' r7 (step x H7 y7)) fun _ s8 ⟨σ8, H8, I8, hw8, q8⟩ => ?_)
      refine seg_bind_wrap (thnF (ptr _ s8 σ8 H8 _ I8 q8) fun b s9 ⟨H9, I9, q9⟩ => ?_)
      -- the turn's end
      have pin' : ∀ {s' : Shared} {H' : Hp}, Inv Y ([] ++ pinsAt Y.ex s7.heap) σ8 H' s' → ∀ b ∈ Y.ex, ∀ o, s7.heap.get? b = some o → s'.heap.get? b = some o ∧ H' b = none := fun {s' H'} I' b hb o e =>
        let z := I'.pin (b, o) (List.mem_append_right _ (List.mem_append_right _ (mem_pinsAt hb e)))
        ⟨z.1, z.2.1⟩
      have back : ∀ {s' : Shared} {H' : Hp}, Inv Y ([] ++ pinsAt Y.ex s7.heap) σ8 H' s' → Inv Y [] (wipe σ vs) H' s' := fun {s' H'} I' => by
        have hl : (wipe σ vs).length = σ8.length := by rw [← hw8, wipe_length]
        refine (I'.unpinned (pins := [])).weak hl fun j v e => ?_
        rw [← hw8] at e
        exact (wipe_some e).1
      have tnk : ∀ {s' : Shared} {H' : Hp}, Inv Y ([] ++ pinsAt Y.ex s7.heap) σ8 H' s' → tn (i + 1) s'.heap := fun {s' H'} I' => T.keep _ _ _ st7 fun b hb o e => (pin' I' b hb o e).1
      have frk : ∀ {s' : Shared} {H' : Hp}, Inv Y ([] ++ pinsAt Y.ex s7.heap) σ8 H' s' → ∀ b ∈ Y.ex, H' b = none := fun {s' H'} I' b hb => by
        obtain ⟨o, e, _⟩ := T.obj _ _ st7 b hb
        exact (pin' I' b hb o e).2
      cases b with
      | false =>
        simp only [Bool.false_eq_true, if_false] at q9 ⊢
        obtain ⟨m', hm, w'⟩ := hNx H9 q9
        exact seg_again rfl (ih m' hm (i + 1) n s₀ s9 H9 (Nat.lt_trans hm hmn) (back I9) (tnk I9) (frk I9) w')
      | true =>
        simp only [if_true] at q9 ⊢
        have hy : ∀ v, yieldOut Y.env v = yieldValue v := fun v => by simp only [yieldOut, hco, Bool.false_eq_true, if_false]
        simp only [hy]
        rw [Sem.bind_eq_wrap', Sem.bind_eq_wrap', Sem.wrap_wrap, Sem.wrap_wrap]
        refine seg_wrap (thnF (per _ s9 σ8 H9 _ I9 q9) fun z s10 ⟨yv, H10, I10, r10, k, ek, q10⟩ => ?_)
        subst ek
        obtain rfl : z = Value.bool k := r10
        obtain ⟨n', rfl⟩ : ∃ n', n = n' + 1 := ⟨n - 1, by omega⟩
        refine seg_at (seg_yield rfl rfl rfl ⟨k, H10, rfl, back I10, fun ek => by rw [if_pos ek] at q10; exact q10, fun ek g' hg' => ?_⟩)
        rw [if_neg ek] at q10
        obtain ⟨m', hm, w'⟩ := hNx H10 q10
        exact seg_again rfl (ih m' hm (i + 1) n' _ _ H10 (by omega) (Inv.gensTo (back I10) hg') (tnk (s' := s10) I10) (frk (s' := s10) I10) w')
end

section
variable {P : Program} {w : World}
theorem loop_ends {Y : Cx} {σ : L2.St} {H : Hp} {s : Shared} {g : Nat} {x : GenState} (I : Inv Y [] σ H s) (hx : x.bare = true) {h' : Heap} (hk : ∀ b o, s.heap.get? b = some o → h'.get? b = some o) : Inv Y [] σ H { s.setGen g x with heap := h' } := by
  have I1 : Inv Y [] σ H { s with heap := h', toks := s.toks } := I.kept hk
  exact Inv.gensTo I1 (allBare_setGen I.bare hx)
theorem loop_all {Y : Cx} {σ : L2.St} {Q : VK} {a : Addr} {g : Nat} {A : Around} {Rr : Result → Shared → Prop} (hh : A.handled = none) (hd : A.depth < recursionLimit)
    (hgen : ∀ s H, Inv Y [] σ H s → s.heap.IsGen a g ∧ s.heap.NoLimit) (hend : ∀ b H s', Inv Y [] σ H s' → Q (.bl b) H → Rr (.ok (.ret (.bool b))) s') :
    ∀ (n : Nat) (s : Shared), s.heap.IsGen a g → s.heap.NoLimit → (∃ gs, s.gens[g]? = some gs ∧ gs.Goes (model P w) A.in1.in1 (fun n s₀ r s₁ => r = .ok .next ∧ RAll Y σ false Q n s₀ s₁) (YAll Y σ false Q) n (.send .none) (s.setGen g .running)) →
      codeAny (model P w) A (.builtin "all.loop" ⟨[.ref a], []⟩) Rr s := by
  intro n
  induction n with
  | zero =>
    intro s hg hl ⟨gs, hgs, hgo⟩
    refine codeAny_builtin F.entry_all_loop ?_
    rw [Around.under_plainId F.plain_all_loop _]
    show wpAny _ A.in1 (pyNext (.ref a) >>= _) _ _ s
    refine wpAny_bind (wpAny_pyNext_genexpQ (A := A.in1) hh hl hd hg hgs hgo (fun v s₁ gs' hb hv => ?_) (fun s₁ hp h' hk => ?_))
    · obtain ⟨k, H', rfl, I', q1, q2⟩ := hv
      refine wpAny_bind (wpAny_holding (wpAny_truthy_bool ?_))
      refine wpAny_bind (wpAny_letGo ?_)
      cases k with
      | true => exact False.elim (q2 (by decide) _ I'.bare)
      | false =>
        simp only [Bool.false_eq_true, if_false]
        exact wpAny_bind (wpAny_rule (wpAny_pure (hend false H' _ (Inv.gensTo I' (allBare_setGen I'.bare hb)) (q1 rfl))))
    · obtain ⟨H', I', q⟩ := hp
      exact wpAny_bind (wpAny_rule (wpAny_pure (hend true H' _ (loop_ends I' rfl hk) q)))
  | succ n ih =>
    intro s hg hl ⟨gs, hgs, hgo⟩
    have hgl : g < s.gens.size := (Array.getElem?_eq_some_iff.mp hgs).1
    refine codeAny_builtin F.entry_all_loop ?_
    rw [Around.under_plainId F.plain_all_loop _]
    show wpAny _ A.in1 (pyNext (.ref a) >>= _) _ _ s
    refine wpAny_bind (wpAny_gsz (n := g + 1) hgl (wpAny_pyNext_genexpQ (A := A.in1) hh hl hd hg hgs hgo (fun v s₁ gs' hb hv => ?_) (fun s₁ hp h' hk => ?_)))
    · intro hsz
      obtain ⟨k, H', rfl, I', q1, q2⟩ := hv
      refine wpAny_bind (wpAny_holding (wpAny_truthy_bool ?_))
      refine wpAny_bind (wpAny_letGo ?_)
      cases k with
      | false =>
        simp only [Bool.false_eq_true, if_false]
        exact wpAny_bind (wpAny_rule (wpAny_pure (hend false H' _ (Inv.gensTo I' (allBare_setGen I'.bare hb)) (q1 rfl))))
      | true =>
        simp only [if_true]
        have hsz1 : g < s₁.gens.size := by
          have q : (s₁.setGen g gs').gens.size = s₁.gens.size := setGen_size _ _ _
          have hsz' : g + 1 ≤ (s₁.setGen g gs').gens.size := hsz
          omega
        obtain ⟨hg1, hl1⟩ := hgen _ _ I'
        refine wpAny_pure ⟨plainId_quiet F.plain_all_loop _, ih (s₁.setGen g gs') hg1 hl1 ⟨gs', setGen_at hsz1, ?_⟩⟩
        exact q2 (by decide) _ (allBare_setGen (s := s₁.setGen g gs') (allBare_setGen I'.bare hb) rfl)
    · intro _
      obtain ⟨H', I', q⟩ := hp
      exact wpAny_bind (wpAny_rule (wpAny_pure (hend true H' _ (loop_ends I' rfl hk) q)))
theorem loop_any {Y : Cx} {σ : L2.St} {Q : VK} {a : Addr} {g : Nat} {A : Around} {Rr : Result → Shared → Prop} (hh : A.handled = none) (hd : A.depth < recursionLimit)
    (hgen : ∀ s H, Inv Y [] σ H s → s.heap.IsGen a g ∧ s.heap.NoLimit) (hend : ∀ b H s', Inv Y [] σ H s' → Q (.bl b) H → Rr (.ok (.ret (.bool b))) s') :
    ∀ (n : Nat) (s : Shared), s.heap.IsGen a g → s.heap.NoLimit → (∃ gs, s.gens[g]? = some gs ∧ gs.Goes (model P w) A.in1.in1 (fun n s₀ r s₁ => r = .ok .next ∧ RAll Y σ true Q n s₀ s₁) (YAll Y σ true Q) n (.send .none) (s.setGen g .running)) →
      codeAny (model P w) A (.builtin "any.loop" ⟨[.ref a], []⟩) Rr s := by
  intro n
  induction n with
  | zero =>
    intro s hg hl ⟨gs, hgs, hgo⟩
    refine codeAny_builtin F.entry_any_loop ?_
    rw [Around.under_plainId F.plain_any_loop _]
    show wpAny _ A.in1 (pyNext (.ref a) >>= _) _ _ s
    refine wpAny_bind (wpAny_pyNext_genexpQ (A := A.in1) hh hl hd hg hgs hgo (fun v s₁ gs' hb hv => ?_) (fun s₁ hp h' hk => ?_))
    · obtain ⟨k, H', rfl, I', q1, q2⟩ := hv
      refine wpAny_bind (wpAny_holding (wpAny_truthy_bool ?_))
      refine wpAny_bind (wpAny_letGo ?_)
      cases k with
      | false => exact False.elim (q2 (by decide) _ I'.bare)
      | true =>
        simp only [if_true]
        exact wpAny_bind (wpAny_rule (wpAny_pure (hend true H' _ (Inv.gensTo I' (allBare_setGen I'.bare hb)) (q1 rfl))))
    · obtain ⟨H', I', q⟩ := hp
      exact wpAny_bind (wpAny_rule (wpAny_pure (hend false H' _ (loop_ends I' rfl hk) q)))
  | succ n ih =>
    intro s hg hl ⟨gs, hgs, hgo⟩
    have hgl : g < s.gens.size := (Array.getElem?_eq_some_iff.mp hgs).1
    refine codeAny_builtin F.entry_any_loop ?_
    rw [Around.under_plainId F.plain_any_loop _]
    show wpAny _ A.in1 (pyNext (.ref a) >>= _) _ _ s
    refine wpAny_bind (wpAny_gsz (n := g + 1) hgl (wpAny_pyNext_genexpQ (A := A.in1) hh hl hd hg hgs hgo (fun v s₁ gs' hb hv => ?_) (fun s₁ hp h' hk => ?_)))
    · intro hsz
      obtain ⟨k, H', rfl, I', q1, q2⟩ := hv
      refine wpAny_bind (wpAny_holding (wpAny_truthy_bool ?_))
      refine wpAny_bind (wpAny_letGo ?_)
      cases k with
      | true =>
        simp only [if_true]
        exact wpAny_bind (wpAny_rule (wpAny_pure (hend true H' _ (Inv.gensTo I' (allBare_setGen I'.bare hb)) (q1 rfl))))
      | false =>
        simp only [Bool.false_eq_true, if_false]
        have hsz1 : g < s₁.gens.size := by
          have q : (s₁.setGen g gs').gens.size = s₁.gens.size := setGen_size _ _ _
          have hsz' : g + 1 ≤ (s₁.setGen g gs').gens.size := hsz
          omega
        obtain ⟨hg1, hl1⟩ := hgen _ _ I'
        refine wpAny_pure ⟨plainId_quiet F.plain_any_loop _, ih (s₁.setGen g gs') hg1 hl1 ⟨gs', setGen_at hsz1, ?_⟩⟩
        exact q2 (by decide) _ (allBare_setGen (s := s₁.setGen g gs') (allBare_setGen I'.bare hb) rfl)
    · intro _
      obtain ⟨H', I', q⟩ := hp
      exact wpAny_bind (wpAny_rule (wpAny_pure (hend false H' _ (loop_ends I' rfl hk) q)))
end
end PF
/-! PF15: all(..), any(..) as expressions. -/
namespace PF
open PySem PySem.Spec PyProof.Rows L2 GenW

theorem boot_allF : bootBuiltins "all" = some (.builtin "all") := by decide +kernel
theorem boot_anyF : bootBuiltins "any" = some (.builtin "any") := by decide +kernel
section
variable {X : Cx}
/-- a generator that has been made: what its first run does, and what is known behind it -/
def Made (X : Cx) (stop : Bool) (Q : VK) (pins : List (Addr × Obj)) (σ : L2.St) (v : Value) (s : Shared) : Prop :=
  ∃ (a : Addr) (g n : Nat) (Y : Cx) (σ' : L2.St) (gs : GenState), v = .ref a ∧ s.heap.IsGen a g ∧ s.heap.NoLimit ∧ s.gens[g]? = some gs ∧
    gs.Goes (model X.prog X.w) X.A.in1.in1 (fun n s₀ r s₁ => r = .ok .next ∧ RAll Y σ' stop Q n s₀ s₁) (YAll Y σ' stop Q) n (.send .none) (s.setGen g .running) ∧
    (∀ s H, Inv Y [] σ' H s → s.heap.IsGen a g ∧ s.heap.NoLimit) ∧ ∀ H s', Inv Y [] σ' H s' → Inv X pins σ H s'
theorem gen_make {c P : Addr} {elt tg iter : Expr} {ifs : List Expr} {scope : Scope} {own : List (Str × Nat)} {pos : Pos} {wi : TI} {g : TG} {tt : TT} {te : TE} {k : Nat} {stop : Bool} {pins : List (Addr × Obj)} {σ : L2.St} {H : Hp} {s : Shared} {Q : VK} {Qf : Value → Shared → Prop}
    (hc : X.calm = true) (hr : Room (k + 1) X.A) (TB : GxR.TabB X.base X.mg c P) (hcode : X.env.code = .ref c) (ok : GOk X.N X.env.scope scope own) (hi : PI X tg iter wi)
    (hg : ∀ (A : Around) (s : Shared) (H : Hp) (C : Addr) (cl : List (Str × Addr)) (code : Value) (fp : List Addr) (pn : List (Addr × Obj)), Room k A → PG (gx X A s H (genEnv scope cl C code builtinsNs X.env) fp pn) tg g)
    (ht : ∀ (A : Around) (s : Shared) (H : Hp) (C : Addr) (cl : List (Str × Addr)) (code : Value) (fp : List Addr) (pn : List (Addr × Obj)), Room k A → PTs (gx X A s H (genEnv scope cl C code builtinsNs X.env) fp pn) ifs tt)
    (he : ∀ (A : Around) (s : Shared) (H : Hp) (C : Addr) (cl : List (Str × Addr)) (code : Value) (fp : List Addr) (pn : List (Addr × Obj)), Room k A → PE (gx X A s H (genEnv scope cl C code builtinsNs X.env) fp pn) elt te)
    (hs : ∀ v, genFold iter X.env v = pure v) (I : Inv X pins σ H s) (h : tAnyAll stop P wi g tt te (own.map (·.2)) σ H Q) (hQ : ∀ v s', Made X stop Q pins σ v s' → Qf v s') :
    wpAny (model X.prog X.w) X.A (eval (.GeneratorExp elt [⟨tg, iter, ifs, 0⟩] scope pos) X.env) Qf X.xe s := by
  have hfree : ∀ y ∈ scope.names, y.2 = .free → ∃ c, X.env.cells.lookup y.1 = some c := fun y hy e => by
    rcases ok.free y hy e with k | k
    · exact I.ok.has _ (.inl k)
    · exact I.ok.has _ (.inr k)
  refine wpAny_GeneratorExp_make ok.co (closure_ok hfree) ok.cell ok.dot ok.kind (by have := hr.dp; omega) (thn (hi.run pins s σ H _ I h) fun xv s1 hx => thn hx fun itv s2 h2 => ?_) hs
  obtain ⟨it, fp, tn, J, H2, e, I2, T, st2, f2, ⟨ps, hP, htr⟩, q⟩ := h2
  subst e
  refine ⟨I2.nolimit, ?_⟩
  have hPs : s2.heap.get? P = some { cls := .none, data := .fields ps } := I2.hok P _ hP
  have cd : PySem.W.CodeHd s2.heap c P := TB.code.keeps fun b u e => I2.bk b u e
  have sz : ∀ b ∈ fp, b < s2.heap.objs.size := fun b hb => by
    obtain ⟨o, e, _⟩ := T.obj _ _ st2 b hb
    exact Heap.lt_size e
  have nP : ∀ b ∈ fp, b ≠ P := fun b hb e => by
    have := (f2 b hb).1
    rw [e, hP] at this
    cases this
  have cont : ∀ (code : Value) (h3 : Heap) (tk : Nat) (more : Array Value), (∀ b o, b ≠ P → s2.heap.get? b = some o → h3.get? b = some o) → h3.get? P = some { cls := .none, data := .fields (ps ++ more) } → TriplesOk (ps ++ more).toList →
      wpAny (model X.prog X.w) X.A (builtinsFor X.env.globals X.env.builtins) (fun bi s₄ =>
        ∀ h', h'.Ns s₄.heap.objs.size (fun y => if y = ".0" then some (.ref it) else none) → Heap.SameBut s₄.heap.objs.size (s₄.heap.push { cls := .type "frame", data := .dict #[] }) h' →
          Qf (.ref h'.objs.size) { s₄ with
            gens := s₄.gens.push (.fresh (.compStart (.GeneratorExp elt [⟨tg, iter, ifs, 0⟩] scope pos) 0 (.ref it) .none (genEnv scope (cloFrom X.env.cells scope.names []) s₄.heap.objs.size code bi X.env))),
            toks := s₄.toks + 1 + 1 + 1,
            heap := h'.push { cls := .type "generator", data := .fields #[.int s₄.gens.size 0, .str "<genexpr>" (s₄.toks + 1), .str (X.env.qual ++ "<genexpr>") (s₄.toks + 1 + 1)] } }) X.xe { s2 with heap := h3, toks := tk } := by
    intro code h3 tk more hk3 hP3 htr3
    obtain ⟨bm, ob, e1, e2, e3, e4, e5, e6, e7, e8⟩ := TB.bm
    have I3 : Inv X pins σ (upd H2 P (.tbl (ps ++ more))) { s2 with heap := h3, toks := tk } := GxR.inv_tab (g' := s2.gens) (d' := s2.drawn) I2 hP hk3 hP3 I2.bare
    generalize hs3 : ({ s2 with heap := h3, toks := tk } : Shared) = s3 at I3
    have h3e : s3.heap = h3 := by rw [← hs3]
    have g3e : s3.gens = s2.gens := by rw [← hs3]
    refine wpAny_builtinsFor (m := X.mg) (by rw [I3.ok.glob]; exact I3.mod.glob.keeps I3.bk) e1 e2 (I3.bk _ _ e5) e6 e7 e8 ?_
    obtain ⟨W, ⟨m0, w0⟩, turn⟩ := q (upd H2 P (.tbl (ps ++ more))) ⟨⟨_, upd_same, htr3⟩, fun b hb => upd_ne hb⟩
    have f3 : ∀ b ∈ fp, FpOk X pins (upd H2 P (.tbl (ps ++ more))) b ∧ b < s3.heap.objs.size := fun b hb => by
      refine ⟨⟨by rw [upd_ne (nP b hb)]; exact (f2 b hb).1, (f2 b hb).2⟩, ?_⟩
      obtain ⟨o, e, _⟩ := T.obj _ _ st2 b hb
      rw [h3e]
      exact Heap.lt_size (hk3 b o (nP b hb) e)
    have st3 : tn 0 s3.heap := T.keep _ _ _ st2 fun b hb o e => by rw [h3e]; exact hk3 b o (nP b hb) e
    generalize upd H2 P (.tbl (ps ++ more)) = H3 at I3 f3 w0 turn
    intro h' hn' hs'
    generalize hgo : ({ cls := .type "generator", data := .fields #[.int s3.gens.size 0, .str "<genexpr>" (s3.toks + 1), .str (X.env.qual ++ "<genexpr>") (s3.toks + 1 + 1)] } : Obj) = go
    generalize hce : genEnv scope (cloFrom X.env.cells scope.names []) s3.heap.objs.size code builtinsNs X.env = cenv
    have hA : (X.A.in1.in1.over (.compLoop (.GeneratorExp elt [⟨tg, iter, ifs, 0⟩] scope pos) 0 (.ref it) .none cenv) []).handled = none := hr.hd
    have hRm : Room k (X.A.in1.in1.over (.compLoop (.GeneratorExp elt [⟨tg, iter, ifs, 0⟩] scope pos) 0 (.ref it) .none cenv) []) := by
      refine ⟨hr.hd, ?_, ?_⟩
      · have := hr.dp
        show X.A.depth + 0 + 1 + 3 * k + 5 < _
        omega
      · have := hr.un
        show X.A.units + 1 + 1 + 0 + 3 + 16 * k + 200 < _
        omega
    have hFr : (X.A.in1.in1.over (.compLoop (.GeneratorExp elt [⟨tg, iter, ifs, 0⟩] scope pos) 0 (.ref it) .none cenv) []).frames = some (cenv :: X.stack) := by
      show pushEnvs [cenv] (pushEnvs [] X.A.frames) = _
      rw [I3.ok.frames]
      rfl
    generalize hAA : X.A.in1.in1.over (.compLoop (.GeneratorExp elt [⟨tg, iter, ifs, 0⟩] scope pos) 0 (.ref it) .none cenv) [] = A' at hA hRm hFr
    have hsz : h'.objs.size = s3.heap.objs.size + 1 := by rw [hs'.1, Heap.size_push]
    have I5 := gen_start (A := A') (own := own) (code := code) (go := go) (g' := s3.gens.push (.fresh (.compStart (.GeneratorExp elt [⟨tg, iter, ifs, 0⟩] scope pos) 0 (.ref it) .none cenv))) (tk := s3.toks + 1 + 1 + 1) I3 ok hA (by rw [hce]; exact hFr) f3 hn' hs'
      (fun v z => by rw [← hgo] at z; cases z) (by rw [← hgo]; rfl) (I3.bare.push rfl)
    have pg := hg A' s3 H3 s3.heap.objs.size (cloFrom X.env.cells scope.names []) code fp [(h'.objs.size, go)] hRm
    have pt := ht A' s3 H3 s3.heap.objs.size (cloFrom X.env.cells scope.names []) code fp [(h'.objs.size, go)] hRm
    have pe := he A' s3 H3 s3.heap.objs.size (cloFrom X.env.cells scope.names []) code fp [(h'.objs.size, go)] hRm
    rw [hce] at I5 pg pt pe
    have kp : ∀ b o, s3.heap.get? b = some o → (h'.push go).get? b = some o := fun b o e => Heap.get?_push_of_some _ (hs'.extBut b o (Nat.ne_of_lt (Heap.lt_size e)) (Heap.get?_push_of_some _ e))
    have hpn : ∀ b ∈ fp, ∀ p ∈ [(h'.objs.size, go)], p.1 ≠ b := fun b hb p hp z => by
      rw [List.mem_singleton.mp hp] at z
      have := (f3 b hb).2
      rw [← z, hsz] at this
      exact absurd this (Nat.not_lt_of_le (Nat.le_succ _))
    have hgen : ∀ s H, Inv (gx X A' s3 H3 cenv fp [(h'.objs.size, go)]) [] (wipe σ (own.map (·.2))) H s → s.heap.IsGen h'.objs.size s3.gens.size ∧ s.heap.NoLimit := fun s H I' => by
      have z := (I'.pin (h'.objs.size, go) (by simp)).1
      rw [← hgo] at z
      exact ⟨⟨_, _, _, z, rfl, rfl, rfl⟩, I'.nolimit⟩
    have seg := seg_all (A1 := X.A.in1.in1) (stop := stop) (Q := Q) (σ := σ) hc (by rw [← hce]; exact ok.co) T hpn hAA pg pt pe turn
    obtain ⟨i1, i2⟩ := hgen _ _ I5
    have hst5 : tn 0 (h'.push go) := T.keep _ _ _ st3 fun b hb o e => kp b o e
    refine hQ _ _ ⟨h'.objs.size, s3.gens.size, m0 + 1, gx X A' s3 H3 cenv fp [(h'.objs.size, go)], wipe σ (own.map (·.2)), _, rfl, i1, i2, Array.getElem?_push_size .., ⟨rfl, ?_⟩, hgen, fun H s' I' =>
      I3.call' (ch := fp) I'.os I'.base I'.hok I'.bare fun b hb => ⟨(f3 b hb).1.2.2.2.1, (f3 b hb).1.2.1, (f3 b hb).1.2.2.2.2.1, (f3 b hb).1.2.2.2.2.2⟩⟩
    generalize hs5 : ({ s3 with gens := s3.gens.push (.fresh (.compStart (.GeneratorExp elt [⟨tg, iter, ifs, 0⟩] scope pos) 0 (.ref it) .none cenv)), toks := s3.toks + 1 + 1 + 1, heap := h'.push go } : Shared) = s5 at I5
    have h5e : s5.heap = h'.push go := by rw [← hs5]
    have I6 := Inv.gensTo I5 (allBare_setGen (s := s5) (g := s3.gens.size) I5.bare (x := .running) rfl)
    have loop := seg m0 0 (m0 + 1) (s5.setGen s3.gens.size .running) _ H3 (Nat.lt_succ_self _) I6 (by show tn 0 s5.heap; rw [h5e]; exact hst5) (fun b hb => (f3 b hb).1.1) w0
    show Seg _ X.A.in1.in1 _ _ _ _ _ ((compStart (.GeneratorExp elt [⟨tg, iter, ifs, 0⟩] scope pos) 0 (.ref it) .none cenv).onRaise (leaving cenv)) [] _
    unfold compStart
    rw [Sem.onRaise_eq_wrap]
    show Seg _ X.A.in1.in1 _ _ _ _ _ ((ask >>= _).wrap _ _ _ _) [] _
    refine seg_bind_wrap (wpAny_askSetting ?_)
    split
    · exact seg_again rfl loop
    · first
        | exact seg_bind_wrap (wpAny_rule (seg_bind_wrap (wpAny_standAt (seg_bind_wrap (T.self _ 0 _ _ _ (by rw [← hs5] at *; exact hst5) (seg_again rfl loop))))))
        | (refine seg_bind_wrap (wpAny_rule ?_); show Seg _ X.A.in1.in1 _ _ _ _ _ ((standAt iter.pos >>= _).wrap _ _ _ _) [] _; exact seg_bind_wrap (wpAny_standAt (seg_bind_wrap (T.self _ 0 _ _ _ (by show tn 0 s5.heap; rw [h5e]; exact hst5) (seg_again rfl loop)))))
  cases hf : codeAmong pos ps.toList with
  | none =>
    refine wpAny_genexprCodeX hcode (cd.code hPs htr) (cd.tab hPs) hf fun c' h' tk hx hge hlt hco' _ htab' _ => ?_
    obtain ⟨o1, vs, f1, tf, fl, tg', inF, tx, tt', op, _, _, _, _, _, _, _, _, _, htr', _⟩ := hco'
    exact cont _ h' tk _ (fun b o hb e => hx b o hb e) htab'.2 htr'
  | some cv =>
    refine wpAny_genexprCode_hit hcode (cd.code hPs htr) hf ?_
    exact cont cv s2.heap s2.toks #[] (fun b o _ e => e) (by simpa using hPs) (by simpa using htr)

theorem pe_allG {c P : Addr} {elt tg iter : Expr} {ifs : List Expr} {scope : Scope} {own : List (Str × Nat)} {p pos gpos : Pos} {wi : TI} {g : TG} {tt : TT} {te : TE} {k : Nat}
    (hc : X.calm = true) (hr : Room (k + 1) X.A) (hgl : Gl X "all") (hm : X.mg "all" = none) (TB : GxR.TabB X.base X.mg c P) (hcode : X.env.code = .ref c) (ok : GOk X.N X.env.scope scope own) (hi : PI X tg iter wi)
    (hg : ∀ (A : Around) (s : Shared) (H : Hp) (C : Addr) (cl : List (Str × Addr)) (code : Value) (fp : List Addr) (pn : List (Addr × Obj)), Room k A → PG (gx X A s H (genEnv scope cl C code builtinsNs X.env) fp pn) tg g)
    (ht : ∀ (A : Around) (s : Shared) (H : Hp) (C : Addr) (cl : List (Str × Addr)) (code : Value) (fp : List Addr) (pn : List (Addr × Obj)), Room k A → PTs (gx X A s H (genEnv scope cl C code builtinsNs X.env) fp pn) ifs tt)
    (hel : ∀ (A : Around) (s : Shared) (H : Hp) (C : Addr) (cl : List (Str × Addr)) (code : Value) (fp : List Addr) (pn : List (Addr × Obj)), Room k A → PE (gx X A s H (genEnv scope cl C code builtinsNs X.env) fp pn) elt te)
    (hs : ∀ v, genFold iter X.env v = pure v := by intro _; rfl)
    (he : starEach [.GeneratorExp elt [⟨tg, iter, ifs, 0⟩] scope gpos] X.env = (false, eval (.GeneratorExp elt [⟨tg, iter, ifs, 0⟩] scope gpos) X.env) :: starEach [] X.env := by rfl) :
    PE X (.Call (.Name "all" p) [.GeneratorExp elt [⟨tg, iter, ifs, 0⟩] scope gpos] [] pos) (tAnyAll false P wi g tt te (own.map (·.2))) := by
  refine ⟨fun pins s σ H Q I h => ?_⟩
  refine wpAny_Call_Name_kw (ld_blt I hgl hm boot_allF ?_)
  refine PyProof.Rows.callWith_builtin1 ?_ he (by rfl)
  rw [he]
  show wpAny _ _ (spliced ((false, eval (.GeneratorExp elt [⟨tg, iter, ifs, 0⟩] scope gpos) X.env) :: backTo pos (starEach [] X.env))) _ _ s
  refine Calls.spliced_cons (gen_make (stop := false) hc hr TB hcode ok hi hg ht hel hs I h fun v s5 hM => ?_)
  obtain ⟨a, g, n, Y, σ', gs, rfl, i1, i2, i3, i4, i5, i6⟩ := hM
  refine Calls.spliced_nil ?_
  refine call_function_tree F.kind_all F.plain_all F.entry_all (F.args_all1 _) ?_
  unfold Builtin.«all»
  refine wpAny_bind (m := oneArg "all" _) (wpAny_pure ?_)
  refine wpAny_bind (wpAny_pyIter_gen i1 ?_)
  exact wpAny_pure ⟨plainId_quiet F.plain_all_loop _, loop_all hr.hd (by have := hr.dp; omega) i5 (fun b H' s' I' q => ⟨.bl b, H', i6 H' s' I', rfl, q⟩) n s5 i1 i2 ⟨gs, i3, i4⟩⟩

theorem pe_anyG {c P : Addr} {elt tg iter : Expr} {ifs : List Expr} {scope : Scope} {own : List (Str × Nat)} {p pos gpos : Pos} {wi : TI} {g : TG} {tt : TT} {te : TE} {k : Nat}
    (hc : X.calm = true) (hr : Room (k + 1) X.A) (hgl : Gl X "any") (hm : X.mg "any" = none) (TB : GxR.TabB X.base X.mg c P) (hcode : X.env.code = .ref c) (ok : GOk X.N X.env.scope scope own) (hi : PI X tg iter wi)
    (hg : ∀ (A : Around) (s : Shared) (H : Hp) (C : Addr) (cl : List (Str × Addr)) (code : Value) (fp : List Addr) (pn : List (Addr × Obj)), Room k A → PG (gx X A s H (genEnv scope cl C code builtinsNs X.env) fp pn) tg g)
    (ht : ∀ (A : Around) (s : Shared) (H : Hp) (C : Addr) (cl : List (Str × Addr)) (code : Value) (fp : List Addr) (pn : List (Addr × Obj)), Room k A → PTs (gx X A s H (genEnv scope cl C code builtinsNs X.env) fp pn) ifs tt)
    (hel : ∀ (A : Around) (s : Shared) (H : Hp) (C : Addr) (cl : List (Str × Addr)) (code : Value) (fp : List Addr) (pn : List (Addr × Obj)), Room k A → PE (gx X A s H (genEnv scope cl C code builtinsNs X.env) fp pn) elt te)
    (hs : ∀ v, genFold iter X.env v = pure v := by intro _; rfl)
    (he : starEach [.GeneratorExp elt [⟨tg, iter, ifs, 0⟩] scope gpos] X.env = (false, eval (.GeneratorExp elt [⟨tg, iter, ifs, 0⟩] scope gpos) X.env) :: starEach [] X.env := by rfl) :
    PE X (.Call (.Name "any" p) [.GeneratorExp elt [⟨tg, iter, ifs, 0⟩] scope gpos] [] pos) (tAnyAll true P wi g tt te (own.map (·.2))) := by
  refine ⟨fun pins s σ H Q I h => ?_⟩
  refine wpAny_Call_Name_kw (ld_blt I hgl hm boot_anyF ?_)
  refine PyProof.Rows.callWith_builtin1 ?_ he (by rfl)
  rw [he]
  show wpAny _ _ (spliced ((false, eval (.GeneratorExp elt [⟨tg, iter, ifs, 0⟩] scope gpos) X.env) :: backTo pos (starEach [] X.env))) _ _ s
  refine Calls.spliced_cons (gen_make (stop := true) hc hr TB hcode ok hi hg ht hel hs I h fun v s5 hM => ?_)
  obtain ⟨a, g, n, Y, σ', gs, rfl, i1, i2, i3, i4, i5, i6⟩ := hM
  refine Calls.spliced_nil ?_
  refine call_function_tree F.kind_any F.plain_any F.entry_any (F.args_any1 _) ?_
  unfold Builtin.«any»
  refine wpAny_bind (m := oneArg "any" _) (wpAny_pure ?_)
  refine wpAny_bind (wpAny_pyIter_gen i1 ?_)
  exact wpAny_pure ⟨plainId_quiet F.plain_any_loop _, loop_any hr.hd (by have := hr.dp; omega) i5 (fun b H' s' I' q => ⟨.bl b, H', i6 H' s' I', rfl, q⟩) n s5 i1 i2 ⟨gs, i3, i4⟩⟩
end

/-! ### over cells -/
def gaL (stop : Bool) (vs : List Nat) (t : TF) (c : BF) (f : EF) : List D → Env → R (Bool × Env)
  | [], env => .ok (!stop, env)
  | d :: ds, env => (noR (t (.fz d) env)).bnd fun env1 => (noR (c env1)).bnd fun r => if r.1 = true then (noR (valB f r.2)).bnd fun q => if q.1 = stop then .ok (stop, wipeE q.2 vs) else gaL stop vs t c f ds (wipeE q.2 vs)
    else gaL stop vs t c f ds (wipeE r.2 vs)
def gaE (stop : Bool) (it : IF) (vs : List Nat) (t : TF) (c : BF) (f : EF) : EF := fun env => (it env).bnd fun r => (gaL stop vs t c f r.1 (wipeE r.2 vs)).bnd fun q => .ok (bool q.1, restE r.2 vs q.2)
section
variable {G : GG}
theorem Sat.tabbed {env : Env} {σ : L2.St} {F H H2 : Hp} {fps : List (List Addr)} {P : Addr} (s : Sat G env σ F H fps) (hP : P ∈ G.Ts) (h : GxR.Tabbed P H H2) : Sat G env σ F H2 fps ∧ ∀ O, Step G.Ts F H O F H2 O := by
  obtain ⟨_, hF, hO⟩ := s.w.tab P hP
  obtain ⟨ht, hk⟩ := h
  refine ⟨⟨⟨fun a o e => ?_, fun P' hP' => ?_, fun a ha => ?_⟩, ⟨s.s.l1, s.s.l2, fun i c e => ?_⟩, s.nd, s.pin⟩, fun O => ⟨fun a o e _ hT => ?_, fun a e => ?_, Same.refl _, fun a o e => .inl e, fun _ h => .inl h⟩⟩
  · rw [hk a fun z => by rw [z, hF] at e; cases e]
    exact s.w.sub a o e
  · obtain ⟨h1, h2, h3⟩ := s.w.tab P' hP'
    refine ⟨?_, h2, h3⟩
    by_cases z : P' = P
    · rw [z]; exact ht
    · obtain ⟨ps, e1, e2⟩ := h1
      exact ⟨ps, by rw [hk P' z]; exact e1, e2⟩
  · rw [hk a fun z => hO (z ▸ ha)]
    exact s.w.own a ha
  · obtain ⟨v, f, h1, h2, h3⟩ := s.slot e
    refine ⟨v, f, h1, h2, h3.keep (Same.refl _) (fun a ha o e => ?_) fun a ha => (h3.fp_some a ha).1⟩
    rw [hk a fun z => hO (z ▸ mem_flat h2 ha)]
    exact e
  · rw [hk a fun z => hT (z ▸ hP)]
    exact e
  · by_cases z : a = P
    · subst z
      obtain ⟨ps, e1, _⟩ := ht
      rw [e1] at e; cases e
    · rw [← hk a z]; exact e
variable {it : IF} {vs : List Nat} {t : TF} {c : BF} {f : EF} {ix : List Nat}
theorem rd_ga {stop : Bool} {P : Addr} (hP : P ∈ G.Ts) (hix : ∀ j ∈ ix, j ∈ vs) (hpin : ∀ p ∈ G.pin, p.1 ∉ vs) {σ : L2.St} {H : Hp} {Q : VK} (h : tE G (gaE stop it vs t c f) σ H Q) : tAnyAll stop P (tI G it) (tG G.no ix t) (tT G.no c) (tE G.no f) vs σ H Q := by
  obtain ⟨F, fps, env, s, q⟩ := h
  refine ⟨F, fps, env, s, q.bnd.mono (fun r _ q F1 H1 fps1 J s1 st1 hJ => ⟨(s1.w.tab P hP).1, fun H2 hT => ?_⟩) fun _ h => h⟩
  obtain ⟨ds, env1⟩ := r
  obtain ⟨hgo, hstop, hyld⟩ := hJ
  obtain ⟨s2, st2⟩ := s1.tabbed hP hT
  have st12 := st1.trans (st2 fps1.flatten)
  refine ⟨fun i m H' => m = ds.length - i ∧ i ≤ ds.length ∧ ∃ F' fps' env', Sat G.no env' (L2.wipe σ vs) F' H' fps' ∧ Same F1 F' ∧ Step G.Ts F H fps.flatten F' H' fps'.flatten ∧
    RW ((gaL stop vs t c f (ds.drop i) env').bnd fun q => R.ok (bool q.1, restE env1 vs q.2)) (fun ce => ∀ x F' H' fps' fp, Res G ce.2 σ F H fps.flatten ce.1 x F' H' fps' fp → Q x H') (fun c => ∀ F' H', Step G.Ts F H fps.flatten F' H' [] → G.E c H'), ⟨_, rfl, Nat.zero_le _, F1, fps1, wipeE env1 vs, s2.wipe vs hpin rfl G.no rfl rfl rfl, Same.refl _, st12, q⟩, ?_⟩
  rintro i m H' ⟨rfl, hi, F', fps', env', s', sf, st', q'⟩
  by_cases hlt : i < ds.length
  · refine .inr ⟨hgo i F' H' sf s'.w.sub hlt, fun H3 => ∃ F' fps' env', Sat G.no env' (L2.wipe σ vs) F' H3 fps' ∧ Same F1 F' ∧ Step G.Ts F H fps.flatten F' H3 fps'.flatten ∧
      RW ((gaL stop vs t c f (ds.drop (i + 1)) env').bnd fun q => R.ok (bool q.1, restE env1 vs q.2)) (fun ce => ∀ x F' H' fps' fp, Res G ce.2 σ F H fps.flatten ce.1 x F' H' fps' fp → Q x H') (fun c => ∀ F' H', Step G.Ts F H fps.flatten F' H' [] → G.E c H'), ?_, ?_⟩
    · rintro H3 ⟨F3, fps3, env3, z⟩
      exact ⟨ds.length - (i + 1), by omega, rfl, hlt, F3, fps3, env3, z⟩
    · intro x H2' hy
      obtain ⟨F2, n⟩ := hyld i F' H' x H2' ds[i] sf s'.w.sub hy (by simp [hlt])
      rw [List.drop_eq_getElem_cons hlt] at q'
      have s2' := s'.grow n
      have st2' := st'.trans (n.stp (Ts := G.Ts) (O' := fps'.flatten))
      simp only [gaL] at q'
      refine ⟨F2, fps', env', .fz ds[i], [], s2', n.rep, s2'.nd, (noR_ok q'.bnd.bnd).mono (fun env3 _ q3 σ3 F3 H3 fps3 ag s3 st3 => ?_) fun c h => h⟩
      have hw : L2.wipe σ3 vs = L2.wipe σ vs := wipe_agree ag hix
      refine ⟨hw, F3, fps3, env3, s3, (noR_ok q3.bnd).mono (fun r3 _ q4 F4 H4 fps4 s4 st4 => ?_) fun c h => h⟩
      obtain ⟨k, env4⟩ := r3
      have st34 := st3.trans st4
      cases k with
      | false =>
        have q4 : RW _ _ _ := q4
        simp only [Bool.false_eq_true, if_false] at q4 ⊢
        exact ⟨F4, fps4, wipeE env4 vs, s4.wipe (σ' := σ) vs hpin hw.symm G.no rfl rfl rfl, sf.trans (n.f.trans st34.f), st2'.trans st34, RW.mk q4⟩
      | true =>
        have q4 : RW _ _ _ := q4
        simp only [if_true] at q4 ⊢
        have q4 := noR_ok (er' := fun c => ∀ F' H', Step G.Ts F4 H4 fps4.flatten F' H' [] → False) q4.bnd
        unfold valB at q4
        refine ⟨F4, fps4, env4, s4, q4.bnd.mono (fun r5 _ q5 y F5 H5 fps5 fpy re => ?_) fun c h => h⟩
        obtain ⟨cy, env5⟩ := r5
        have st345 := st34.trans re.step
        cases cy with
        | fz d =>
          cases d with
          | bool kb =>
            have q5 : RW (if kb = stop then R.ok (stop, wipeE env5 vs) else gaL stop vs t c f (ds.drop (i + 1)) (wipeE env5 vs)) _ _ := q5
            have s6 : Sat G.no (wipeE env5 vs) (L2.wipe σ vs) F5 H5 fps5 := re.sat.wipe (σ' := σ) vs hpin hw.symm G.no rfl rfl rfl
            refine ⟨kb, repc_bool re.rep, ?_⟩
            by_cases ek : kb = stop
            · rw [if_pos ek] at q5 ⊢
              have st6 := st2'.trans st345
              have rs : Sat G (restE env1 vs (wipeE env5 vs)) σ F5 H5 (clr fps5 vs) := s1.rest (sf.trans (n.f.trans st345.f)) s6 rfl rfl
              exact q5 _ F5 H5 (clr fps5 vs) [] (res_bool rs (st6.less fun a ha => clr_mem ha))
            · rw [if_neg ek] at q5 ⊢
              exact ⟨F5, fps5, wipeE env5 vs, s6, sf.trans (n.f.trans st345.f), st2'.trans st345, RW.mk q5⟩
          | _ => exact q5.elim
        | _ => exact q5.elim
  · have e : i = ds.length := by omega
    subst e
    rw [List.drop_length] at q'
    refine .inl ⟨hstop _ F' H' sf s'.w.sub (Nat.le_refl _), q' _ F' H' (clr fps' vs) [] (res_bool (s1.rest sf s' rfl rfl) (st'.less fun a ha => clr_mem ha))⟩
end

theorem e_all {X : Cx} {G : GG} {c0 P : Addr} {elt tg iter : Expr} {ifs : List Expr} {scope : Scope} {own : List (Str × Nat)} {p pos gpos : Pos} {it : IF} {t : TF} {c : BF} {f : EF} {ix : List Nat} {k : Nat}
    (hP : P ∈ G.Ts) (hc : X.calm = true) (hr : Room (k + 1) X.A) (hgl : Gl X "all") (hm : X.mg "all" = none) (TB : GxR.TabB X.base X.mg c0 P) (hcode : X.env.code = .ref c0) (ok : GOk X.N X.env.scope scope own) (hpin : ∀ p ∈ G.pin, p.1 ∉ own.map (·.2)) (hix : ∀ j ∈ ix, j ∈ own.map (·.2)) (hi : PI X tg iter (tI G it))
    (hg : ∀ (A : Around) (s : Shared) (H : Hp) (C : Addr) (cl : List (Str × Addr)) (code : Value) (fp : List Addr) (pn : List (Addr × Obj)), Room k A → PG (gx X A s H (genEnv scope cl C code builtinsNs X.env) fp pn) tg (tG G.no ix t))
    (ht : ∀ (A : Around) (s : Shared) (H : Hp) (C : Addr) (cl : List (Str × Addr)) (code : Value) (fp : List Addr) (pn : List (Addr × Obj)), Room k A → PTs (gx X A s H (genEnv scope cl C code builtinsNs X.env) fp pn) ifs (tT G.no c))
    (hel : ∀ (A : Around) (s : Shared) (H : Hp) (C : Addr) (cl : List (Str × Addr)) (code : Value) (fp : List Addr) (pn : List (Addr × Obj)), Room k A → PE (gx X A s H (genEnv scope cl C code builtinsNs X.env) fp pn) elt (tE G.no f))
    (hs : ∀ v, genFold iter X.env v = pure v := by intro _; rfl)
    (he : starEach [.GeneratorExp elt [⟨tg, iter, ifs, 0⟩] scope gpos] X.env = (false, eval (.GeneratorExp elt [⟨tg, iter, ifs, 0⟩] scope gpos) X.env) :: starEach [] X.env := by rfl) :
    PE X (.Call (.Name "all" p) [.GeneratorExp elt [⟨tg, iter, ifs, 0⟩] scope gpos] [] pos) (tE G (gaE false it (own.map (·.2)) t c f)) :=
  peW (pe_allG hc hr hgl hm TB hcode ok hi hg ht hel hs he) fun σ H Q h => rd_ga hP hix hpin h

theorem e_any {X : Cx} {G : GG} {c0 P : Addr} {elt tg iter : Expr} {ifs : List Expr} {scope : Scope} {own : List (Str × Nat)} {p pos gpos : Pos} {it : IF} {t : TF} {c : BF} {f : EF} {ix : List Nat} {k : Nat}
    (hP : P ∈ G.Ts) (hc : X.calm = true) (hr : Room (k + 1) X.A) (hgl : Gl X "any") (hm : X.mg "any" = none) (TB : GxR.TabB X.base X.mg c0 P) (hcode : X.env.code = .ref c0) (ok : GOk X.N X.env.scope scope own) (hpin : ∀ p ∈ G.pin, p.1 ∉ own.map (·.2)) (hix : ∀ j ∈ ix, j ∈ own.map (·.2)) (hi : PI X tg iter (tI G it))
    (hg : ∀ (A : Around) (s : Shared) (H : Hp) (C : Addr) (cl : List (Str × Addr)) (code : Value) (fp : List Addr) (pn : List (Addr × Obj)), Room k A → PG (gx X A s H (genEnv scope cl C code builtinsNs X.env) fp pn) tg (tG G.no ix t))
    (ht : ∀ (A : Around) (s : Shared) (H : Hp) (C : Addr) (cl : List (Str × Addr)) (code : Value) (fp : List Addr) (pn : List (Addr × Obj)), Room k A → PTs (gx X A s H (genEnv scope cl C code builtinsNs X.env) fp pn) ifs (tT G.no c))
    (hel : ∀ (A : Around) (s : Shared) (H : Hp) (C : Addr) (cl : List (Str × Addr)) (code : Value) (fp : List Addr) (pn : List (Addr × Obj)), Room k A → PE (gx X A s H (genEnv scope cl C code builtinsNs X.env) fp pn) elt (tE G.no f))
    (hs : ∀ v, genFold iter X.env v = pure v := by intro _; rfl)
    (he : starEach [.GeneratorExp elt [⟨tg, iter, ifs, 0⟩] scope gpos] X.env = (false, eval (.GeneratorExp elt [⟨tg, iter, ifs, 0⟩] scope gpos) X.env) :: starEach [] X.env := by rfl) :
    PE X (.Call (.Name "any" p) [.GeneratorExp elt [⟨tg, iter, ifs, 0⟩] scope gpos] [] pos) (tE G (gaE true it (own.map (·.2)) t c f)) :=
  peW (pe_anyG hc hr hgl hm TB hcode ok hi hg ht hel hs he) fun σ H Q h => rd_ga hP hix hpin h
end PF
/-! PF16: lists of one's own that change. -/
namespace PF
open PySem PySem.Spec PyProof.Rows L2

section
variable {G : GG} {env : Env} {σ : L2.St} {F H H' : Hp} {fps : List (List Addr)}
/-- the thing of a name is written; f: what it owns now, f0 what it owned -/
theorem Sat.wr (s : Sat G env σ F H fps) {i : Nat} {c0 c1 : Cell} {v0 : V} {f0 f1 : List Addr} (e0 : env[i]? = some (some c0)) (h1 : σ[i]? = some (some v0)) (h2 : fps[i]? = some f0)
    (hk : ∀ a o, H a = some o → a ∉ f0 → H' a = some o) (hg : ∀ a, H' a = none → H a = none) (rep : RepC G.K F H' c1 v0 f1) (nd : (f1 ++ (fps.set i []).flatten).Nodup) :
    Sat G (env.set i (some c1)) σ F H' (fps.set i f1) ∧ (∀ O, (∀ a ∈ f0, a ∈ O) → (∀ a ∈ fps.flatten, a ∈ O) → (∀ a ∈ f1, a ∈ O ∨ H a = none) → Step G.Ts F H O F H' (fps.set i f1).flatten) := by
  have hi := (List.getElem?_eq_some_iff.mp h1).1
  obtain ⟨v, f, g1, g2, r0⟩ := s.slot e0
  rw [h1] at g1; cases g1
  rw [h2] at g2; cases g2
  have hf0 : ∀ a ∈ f0, a ∈ fps.flatten := fun a ha => mem_flat h2 ha
  have s1 := s.drop i
  have dis : ∀ a ∈ (fps.set i []).flatten, a ∉ f0 := fun a ha z => by
    obtain ⟨g, hg, hag⟩ := List.mem_flatten.mp ha
    obtain ⟨j, hj, ej⟩ := List.getElem_of_mem hg
    by_cases hij : i = j
    · subst hij
      rw [List.getElem_set_self] at ej
      subst ej
      cases hag
    · rw [List.getElem_set_ne hij] at ej
      have hj' : j < fps.length := by simpa using hj
      exact flat_apart s.nd h2 (List.getElem?_eq_some_iff.mpr ⟨hj', ej⟩) hij z hag
  have s2 : Sat G (env.set i none) σ F H' (fps.set i []) := by
    refine ⟨⟨fun a o e => hk a o (s.w.sub a o e) fun z => ?_, fun P hP => ?_, fun a ha => ?_⟩, ⟨s1.s.l1, s1.s.l2, fun j c e => ?_⟩, s1.nd, s1.pin⟩
    · rw [(r0.fp_some a z).1] at e; cases e
    · obtain ⟨⟨ps, q1, q2⟩, q3, q4⟩ := s1.w.tab P hP
      exact ⟨⟨ps, hk P _ q1 fun z => (s.w.tab P hP).2.2 (hf0 P z), q2⟩, q3, q4⟩
    · obtain ⟨q0, o, q1, q2⟩ := s1.w.own a ha
      exact ⟨q0, o, hk a o q1 (dis a ha), q2⟩
    · obtain ⟨v, g, q1, q2, q3⟩ := s1.slot e
      exact ⟨v, g, q1, q2, q3.keep (Same.refl _) (fun a ha o e => hk a o e (dis a (mem_flat q2 ha))) fun a ha => (q3.fp_some a ha).1⟩
  have s3 := s2.put rep nd i hi fun p hp e => by
    have z := s.pin p hp
    rw [e, h1] at z
    exact (Option.some.inj (Option.some.inj z)).symm
  rw [set_same h1, List.set_set, List.set_set] at s3
  refine ⟨s3, fun O q1 q2 q3 => ⟨fun a o e z _ => hk a o e fun z2 => z (q1 a z2), hg, Same.refl _, fun a o e => .inl e, fun a ha => ?_⟩⟩
  rcases mem_set_flat ha with ha | ha
  · exact q3 a ha
  · exact .inl (q2 a ha)
/-- the names' own addresses but one name's -/
theorem set_nil_sub {fps : List (List Addr)} {i : Nat} {a : Addr} (h : a ∈ (fps.set i []).flatten) : a ∈ fps.flatten := (mem_set_flat h).elim (fun z => by cases z) id
theorem set_nil_nd {fps : List (List Addr)} {i : Nat} {f0 : List Addr} (h : fps.flatten.Nodup) (e : fps[i]? = some f0) : (f0 ++ (fps.set i []).flatten).Nodup := by
  refine List.nodup_append.mpr ⟨h.sublist (List.sublist_flatten_of_mem (List.mem_of_getElem? e)), nodup_set (by simpa using h), fun a ha b hb z => ?_⟩
  subst z
  obtain ⟨g, hg, hag⟩ := List.mem_flatten.mp hb
  obtain ⟨j, hj, ej⟩ := List.getElem_of_mem hg
  by_cases hij : i = j
  · subst hij
    rw [List.getElem_set_self] at ej
    subst ej
    cases hag
  · rw [List.getElem_set_ne hij] at ej
    have hj' : j < fps.length := by simpa using hj
    exact flat_apart h e (List.getElem?_eq_some_iff.mpr ⟨hj', ej⟩) hij ha hag
end

section
variable {G : GG} {env : Env} {σ : L2.St} {F H F0 H0 : Hp} {fps : List (List Addr)} {O : List Addr}
theorem set_nil_sl : ∀ {fps : List (List Addr)} {i : Nat}, (fps.set i []).flatten.Sublist fps.flatten
  | [], i => by simp
  | f :: fps, 0 => by
    rw [List.set_cons_zero, List.flatten_cons, List.flatten_cons]
    exact List.sublist_append_right _ _
  | f :: fps, i + 1 => by
    rw [List.set_cons_succ, List.flatten_cons, List.flatten_cons]
    exact List.Sublist.append_left set_nil_sl _
/-- the list of a name has other items now; a value comes of it -/
theorem Sat.wrL (s : Sat G env σ F H fps) (st : Step G.Ts F0 H0 O F H fps.flatten) {i : Nat} {c0 : Cell} {l : Addr} {f1 : List Addr} (e1 : env[i]? = some (some c0)) (h1 : σ[i]? = some (some (.ref l))) (h2 : fps[i]? = some f1) (w2 : F l = none) (w3 : ∃ o, H l = some o) (hl : l ∈ f1)
    {cs' : List Cell} {xs' : List V} {fs' : List (List Addr)} {c : Cell} {x : V} {fpr : List Addr} (len1 : cs'.length = xs'.length) (len2 : fs'.length = xs'.length)
    (hr : ∀ (j : Nat) (c : Cell) (v : V) (f : List Addr), cs'[j]? = some c → xs'[j]? = some v → fs'[j]? = some f → RepC G.K F H c v f) (hc : RepC G.K F H c x fpr)
    (nd : (fpr ++ ((l :: fs'.flatten) ++ (fps.set i []).flatten)).Nodup) (hn : ∀ a ∈ fpr ++ fs'.flatten, a ∈ O ∨ H0 a = none) :
    Res G (env.set i (some (.ol cs'))) σ F0 H0 O c x F (upd H l (.lst xs')) (fps.set i (l :: fs'.flatten)) fpr := by
  have hk : ∀ a o, H a = some o → a ∉ f1 → upd H l (.lst xs') a = some o := fun a o e z => by
    rw [upd_ne (fun q => z (by rw [q]; exact hl) : a ≠ l)]; exact e
  have hg : ∀ a, upd H l (.lst xs') a = none → H a = none := fun a e => by
    by_cases z : a = l
    · rw [z, upd_same] at e; cases e
    · rw [upd_ne z] at e; exact e
  have nd1 := List.nodup_append.mp nd
  have nd2 : (l :: (fs'.flatten ++ (fps.set i []).flatten)).Nodup := nd1.2.1
  have nl := List.nodup_cons.mp nd2
  have kp : ∀ {c : Cell} {v : V} {g : List Addr}, RepC G.K F H c v g → l ∉ g → RepC G.K F (upd H l (.lst xs')) c v g := fun {c v g} r hg => r.keep (Same.refl _) (fun a ha o e => by rw [upd_ne (fun z => hg (z ▸ ha) : a ≠ l)]; exact e) fun a ha => (r.fp_some a ha).1
  have rep : RepC G.K F (upd H l (.lst xs')) (.ol cs') (.ref l) (l :: fs'.flatten) := .ol upd_same w2 len1 len2 fun j c v f q1 q2 q3 => kp (hr j c v f q1 q2 q3) fun z => nl.1 (List.mem_append_left _ (mem_flat q3 z))
  obtain ⟨s2, st2⟩ := s.wr e1 h1 h2 hk hg rep nd1.2.1
  have hlf : l ∉ fpr := fun z => nd1.2.2 l z l List.mem_cons_self rfl
  have st3 := st2 ((fpr ++ fs'.flatten) ++ fps.flatten) (fun a ha => List.mem_append_right _ (mem_flat h2 ha)) (fun a ha => List.mem_append_right _ ha) (fun a ha => by
    rcases List.mem_cons.mp ha with z | z
    · rw [z]; exact .inl (List.mem_append_right _ (mem_flat h2 hl))
    · exact .inl (List.mem_append_left _ (List.mem_append_right _ z)))
  refine ⟨s2, step_app st hn st3, kp hc hlf, ?_, fun a ha => hn a (List.mem_append_left _ ha)⟩
  refine List.nodup_append.mpr ⟨nd1.1, s2.nd, fun a ha b hb e => ?_⟩
  subst e
  rcases mem_set_flat hb with z | z
  · exact nd1.2.2 a ha a (List.mem_append_left _ z) rfl
  · -- a name's own, or the old ones of this name
    by_cases q : a ∈ (fps.set i []).flatten
    · exact nd1.2.2 a ha a (List.mem_append_right _ q) rfl
    · obtain ⟨g, hg, hag⟩ := List.mem_flatten.mp hb
      obtain ⟨j, hj, ej⟩ := List.getElem_of_mem hg
      have hj' : j < fps.length := by simpa using hj
      by_cases hij : i = j
      · subst hij
        rw [List.getElem_set_self] at ej
        subst ej
        exact nd1.2.2 a ha a (List.mem_append_left _ hag) rfl
      · rw [List.getElem_set_ne hij] at ej
        subst ej
        refine q (List.mem_flatten.mpr ⟨fps[j], ?_, hag⟩)
        refine List.mem_of_getElem? (i := j) ?_
        rw [List.getElem?_set_ne hij]
        simp [hj']
theorem RepA.one {K : PySem.W.Frag} {as : List Arg} {xs : List V} {fl : List (List Addr)} {c : Cell} (h : RepA K σ F H as xs fl) (e : as = [.v c]) : ∃ y fy, xs = [y] ∧ fl = [fy] ∧ RepC K F H c y fy := by
  subst e
  cases h with
  | v r rest => cases rest; exact ⟨_, _, rfl, rfl, r⟩
end

/-! ### x.append(e), x.pop(), x.pop(e) -/
def appE (i : Nat) (f : EF) : EF := fun env => match env[i]? with
  | some (some (.ol _)) => (f env).bnd fun r => match r.2[i]? with
    | some (some (.ol cs)) => if cs.length < lim then .ok (.fz .none, r.2.set i (some (.ol (cs ++ [r.1])))) else none
    | _ => none
  | _ => none
def popE (i : Nat) : EF := fun env => match env[i]? with
  | some (some (.ol cs)) => match cs[cs.length - 1]? with
    | some c => .ok (c, env.set i (some (.ol cs.dropLast)))
    | none => none
  | _ => none
def popAtE (i : Nat) (f : EF) : EF := fun env => match env[i]? with
  | some (some (.ol _)) => (f env).bnd fun r => match r.2[i]?, r.1.int? with
    | some (some (.ol cs)), some k => match seqIndex? k cs.length with
      | some j => match cs[j]? with
        | some c => if smallI k = true then .ok (c, r.2.set i (some (.ol (cs.eraseIdx j)))) else none
        | none => none
      | none => none
    | _, _ => none
  | _ => none
section
variable {G : GG} {σ : L2.St} {H : Hp} {Q : VK}
/-- behind one argument: the name's list is as it is -/
theorem rd_arg1 {f : EF} {env : Env} {F : Hp} {fps : List (List Addr)} {g : Cell × Env → R (Cell × Env)} (s : Sat G env σ F H fps) {Q' : List V → Hp → Prop}
    (q : RW ((f env).bnd g) (fun ce => ∀ x F' H' fps' fp, Res G ce.2 σ F H fps.flatten ce.1 x F' H' fps' fp → Q x H') (fun c => ∀ F' H', Step G.Ts F H fps.flatten F' H' [] → G.E c H'))
    (k : ∀ (c : Cell) (env1 : Env) (y : V) (F1 H1 : Hp) (fps1 : List (List Addr)) (fy : List Addr), Res G env1 σ F H fps.flatten c y F1 H1 fps1 fy → RW (g (c, env1)) (fun ce => ∀ x F' H' fps' fp, Res G ce.2 σ F H fps.flatten ce.1 x F' H' fps' fp → Q x H') (fun c => ∀ F' H', Step G.Ts F H fps.flatten F' H' [] → G.E c H') → Q' [y] H1) :
    tB G [.e f] σ H Q' := by
  refine ⟨F, fps, env, s, ?_⟩
  show RW ((f env).bnd fun r => R.ok (Arg.v r.1 :: [], r.2)) _ _
  refine RW.mk (q.bnd.mono (fun r _ q => ?_) fun c h => h)
  intro ys F1 H1 fps1 fl ra
  obtain ⟨c, env1⟩ := r
  obtain ⟨y, fy, rfl, rfl, ry⟩ := ra.rep.one rfl
  exact k c env1 y F1 H1 fps1 fy ⟨ra.sat, ra.step, ry, by simpa using ra.nd, fun a ha => ra.new a (by simpa using ha)⟩ q
theorem rd_app {i : Nat} {f : EF} (h : tE G (appE i f) σ H Q) : tBM G.K "list" rAppend (tVar i) (tB G [.e f]) σ H Q := by
  obtain ⟨F, fps, env, s, q⟩ := h
  unfold appE at q
  split at q
  · rename_i cs0 e0
    obtain ⟨v0, f0, h1, h2, h3⟩ := s.slot e0
    obtain ⟨l, xs, fs, rfl, _, g1, _⟩ := h3.ol_inv
    refine ⟨.ref l, h1, .inl ⟨rfl, xs, .inl (.inl g1)⟩, rd_arg1 s q fun c env1 y F1 H1 fps1 fy re q => ?_⟩
    split at q
    · rename_i cs e1
      split at q
      · rename_i hz
        obtain ⟨v1, f1, k1, k2, k3⟩ := re.sat.slot e1
        rw [h1] at k1
        cases k1
        obtain ⟨l2, xs2, fs2, e2, rfl, w1, w2, w3, w4, w5⟩ := k3.ol_inv
        cases e2
        refine ⟨l, xs2, y, rfl, rfl, w1, by rw [← w3]; exact hz, ?_⟩
        refine q .non F1 _ _ _ (re.sat.wrL re.step e1 h1 k2 w2 ⟨_, w1⟩ List.mem_cons_self (fs' := fs2 ++ [fy]) (by simp [w3]) (by simp [w4]) (fun j c v g q1 q2 q3 => ?_) (.fz .non) ?_ fun a ha => ?_)
        · by_cases hj : j < xs2.length
          · rw [List.getElem?_append_left (by omega)] at q1 q2 q3
            exact w5 j c v g q1 q2 q3
          · have hj2 : j < (xs2 ++ [y]).length := (List.getElem?_eq_some_iff.mp q2).1
            have hj3 : j = xs2.length := by
              rw [List.length_append, List.length_singleton] at hj2
              omega
            subst hj3
            rw [List.getElem?_append_right (by omega)] at q1 q2 q3
            rw [w3] at q1
            rw [w4] at q3
            simp at q1 q2 q3
            subst q1; subst q2; subst q3
            exact re.rep
        · have z := set_nil_nd re.sat.nd k2
          have nd0 := re.nd
          rw [List.nil_append]
          have e9 : l :: (fs2 ++ [fy]).flatten ++ (fps1.set i []).flatten = (l :: fs2.flatten) ++ (fy ++ (fps1.set i []).flatten) := by simp
          rw [e9]
          refine List.nodup_append.mpr ⟨(List.nodup_append.mp z).1, nd0.sublist (List.Sublist.append_left set_nil_sl _), fun a ha b hb e => ?_⟩
          subst e
          rcases List.mem_append.mp hb with hb | hb
          · exact nodup_dis nd0 a hb (mem_flat k2 ha)
          · exact nodup_dis z a ha hb
        · rw [List.nil_append, List.flatten_append] at ha
          rcases List.mem_append.mp ha with ha | ha
          · exact re.step.o a (mem_flat k2 (List.mem_cons_of_mem _ ha))
          · exact re.new a (by simpa using ha)
      · exact q.elim
    · exact q.elim
  · exact q.elim
theorem eraseIdx_get {α : Type} {xs : List α} {j k : Nat} {x : α} (h : (xs.eraseIdx j)[k]? = some x) : ∃ m, m ≠ j ∧ xs[m]? = some x ∧ m = if k < j then k else k + 1 := by
  rw [List.getElem?_eraseIdx] at h
  split at h
  · rename_i hk
    exact ⟨k, by omega, h, by rw [if_pos hk]⟩
  · rename_i hk
    exact ⟨k + 1, by omega, h, by rw [if_neg hk]⟩
theorem flat_erase : ∀ {fs : List (List Addr)} {j : Nat} {f : List Addr}, fs[j]? = some f → (fs.flatten.Nodup → (f ++ (fs.eraseIdx j).flatten).Nodup) ∧ ∀ a ∈ f ++ (fs.eraseIdx j).flatten, a ∈ fs.flatten
  | [], _, _, h => by simp at h
  | g :: fs, 0, f, h => by
    simp at h; subst h
    exact ⟨fun n => by simpa using n, fun a ha => by simpa using ha⟩
  | g :: fs, j + 1, f, h => by
    have h : fs[j]? = some f := by simpa using h
    obtain ⟨h1, h2⟩ := flat_erase h
    refine ⟨fun n => ?_, fun a ha => ?_⟩
    · rw [List.flatten_cons] at n
      have n1 := List.nodup_append.mp n
      have z := h1 n1.2.1
      rw [List.eraseIdx_cons_succ, List.flatten_cons]
      have e : (f ++ (g ++ (fs.eraseIdx j).flatten)).Perm (g ++ (f ++ (fs.eraseIdx j).flatten)) := by
        rw [← List.append_assoc, ← List.append_assoc]
        exact List.Perm.append_right _ List.perm_append_comm
      refine e.nodup_iff.mpr (List.nodup_append.mpr ⟨n1.1, z, fun a ha b hb e => ?_⟩)
      subst e
      exact n1.2.2 a ha a (h2 a hb) rfl
    · rw [List.eraseIdx_cons_succ, List.flatten_cons] at ha
      rw [List.flatten_cons]
      rcases List.mem_append.mp ha with ha | ha
      · exact List.mem_append_right _ (h2 a (List.mem_append_left _ ha))
      · rcases List.mem_append.mp ha with ha | ha
        · exact List.mem_append_left _ ha
        · exact List.mem_append_right _ (h2 a (List.mem_append_right _ ha))
/-- an item goes, and is the value -/
theorem Sat.wrPop {env : Env} {F H F0 H0 : Hp} {fps : List (List Addr)} {O : List Addr} (s : Sat G env σ F H fps) (st : Step G.Ts F0 H0 O F H fps.flatten) {i j : Nat} {cs : List Cell} {c : Cell} (e1 : env[i]? = some (some (.ol cs))) (ej : cs[j]? = some c) :
    ∃ l xs y, σ[i]? = some (some (.ref l)) ∧ H l = some (.lst xs) ∧ cs.length = xs.length ∧ xs[j]? = some y ∧ ∃ fps' fp, Res G (env.set i (some (.ol (cs.eraseIdx j)))) σ F0 H0 O c y F (upd H l (.lst (xs.eraseIdx j))) fps' fp := by
  obtain ⟨v1, f1, k1, k2, k3⟩ := s.slot e1
  obtain ⟨l, xs, fs, rfl, rfl, w1, w2, w3, w4, w5⟩ := k3.ol_inv
  have hj : j < xs.length := by rw [← w3]; exact (List.getElem?_eq_some_iff.mp ej).1
  have e2 : xs[j]? = some xs[j] := by simp [hj]
  have e3 : fs[j]? = some (fs[j]'(by omega)) := by simp [w4, hj]
  obtain ⟨n1, n2⟩ := flat_erase e3
  have nf : (l :: fs.flatten).Nodup := s.nd.sublist (List.sublist_flatten_of_mem (List.mem_of_getElem? k2))
  refine ⟨l, xs, xs[j], k1, w1, w3, e2, _, fs[j]'(by omega), s.wrL st e1 k1 k2 w2 ⟨_, w1⟩ List.mem_cons_self (fs' := fs.eraseIdx j) (by rw [List.length_eraseIdx, List.length_eraseIdx, w3]) (by rw [List.length_eraseIdx, List.length_eraseIdx, w4]) (fun m c v g q1 q2 q3 => ?_) (w5 j c _ _ ej e2 e3) ?_ fun a ha => ?_⟩
  · obtain ⟨m1, _, r1, r2⟩ := eraseIdx_get q1
    obtain ⟨m2, _, r3, r4⟩ := eraseIdx_get q2
    obtain ⟨m3, _, r5, r6⟩ := eraseIdx_get q3
    rw [← r2] at r4 r6
    subst r4; subst r6
    exact w5 _ c v g r1 r3 r5
  · have z := set_nil_nd s.nd k2
    have e9 : (fs[j]'(by omega) ++ (l :: (fs.eraseIdx j).flatten ++ (fps.set i []).flatten)).Perm ((l :: (fs[j]'(by omega) ++ (fs.eraseIdx j).flatten)) ++ (fps.set i []).flatten) := by
      rw [← List.append_assoc]
      refine List.Perm.append_right _ ?_
      exact List.perm_middle
    refine e9.nodup_iff.mpr (List.nodup_append.mpr ⟨?_, (List.nodup_append.mp z).2.1, fun a ha b hb e => ?_⟩)
    · exact List.nodup_cons.mpr ⟨fun q => (List.nodup_cons.mp nf).1 (n2 l q), n1 (List.nodup_cons.mp nf).2⟩
    · subst e
      rcases List.mem_cons.mp ha with q | q
      · rw [q] at hb; exact nodup_dis z l List.mem_cons_self hb
      · exact nodup_dis z a (List.mem_cons_of_mem _ (n2 a q)) hb
  · exact st.o a (mem_flat k2 (List.mem_cons_of_mem _ (n2 a ha)))
theorem rd_pop {i : Nat} (h : tE G (popE i) σ H Q) : tBM0 G.K "list" rPop (tVar i) σ H Q := by
  obtain ⟨F, fps, env, s, q⟩ := h
  unfold popE at q
  split at q
  · rename_i cs e0
    split at q
    · rename_i c ec
      obtain ⟨l, xs, y, h1, w1, w3, w5, fps', fp, re⟩ := s.wrPop (F0 := F) (H0 := H) (O := fps.flatten) .refl e0 ec
      have hl : xs.eraseIdx (cs.length - 1) = xs.dropLast := by
        rw [w3]
        exact PyProof.Rows.Copied.eraseIdx_last xs
      have hl2 : cs.eraseIdx (cs.length - 1) = cs.dropLast := PyProof.Rows.Copied.eraseIdx_last cs
      rw [hl, hl2] at re
      rw [w3] at w5
      exact ⟨.ref l, h1, .inl ⟨rfl, xs, .inl (.inl w1)⟩, l, xs, y, rfl, rfl, w1, w5, q y F _ fps' fp re⟩
    · exact q.elim
  · exact q.elim
theorem rd_popAt {i : Nat} {f : EF} (h : tE G (popAtE i f) σ H Q) : tBM G.K "list" rPopAt (tVar i) (tB G [.e f]) σ H Q := by
  obtain ⟨F, fps, env, s, q⟩ := h
  unfold popAtE at q
  split at q
  · rename_i cs0 e0
    obtain ⟨v0, f0, h1, h2, h3⟩ := s.slot e0
    obtain ⟨l, xs, fs, rfl, _, g1, _⟩ := h3.ol_inv
    refine ⟨.ref l, h1, .inl ⟨rfl, xs, .inl (.inl g1)⟩, rd_arg1 s q fun c env1 y F1 H1 fps1 fy re q => ?_⟩
    split at q
    · rename_i cs k e1 ek
      split at q
      · rename_i j ej
        split at q
        · rename_i c2 ec2
          split at q
          · rename_i hs
            obtain ⟨l2, xs2, y2, h4, w1, w3, w5, fps', fp, re2⟩ := re.sat.wrPop re.step e1 ec2
            rw [h1] at h4
            cases h4
            obtain ⟨q1, q2⟩ := smallI_iff hs
            exact ⟨l, xs2, k, j, y2, rfl, by rw [repc_int re.rep ek], w1, by omega, by omega, by rw [← w3]; exact ej, w5, q y2 F1 _ fps' fp re2⟩
          · exact q.elim
        · exact q.elim
      · exact q.elim
    · exact q.elim
  · exact q.elim
end
section
variable {X : Cx} {G : GG} {o e : Expr} {apos cpos : Pos} {f : EF}
theorem e_app (hK : X.K = G.K) (i : Nat) (ho : PE X o (tVar i)) (he : PE X e (tE G f))
    (hbase : attributeBase o "append" X.env (eval o X.env) = eval o X.env := by rfl)
    (hfew : ((backTo cpos (starEach [e] X.env)).all (fun x => !x.1) && (backToKw cpos (keywordEach [] X.env)).all (fun x => x.1.isSome)
      && decide ([e].length + ([] : List Keyword).length + (if ([] : List Keyword).isEmpty then 0 else 1) < 30)) = true := by rfl)
    (hline : (apos.endLine == cpos.line) = true := by rfl) (hs : starEach [e] X.env = (false, eval e X.env) :: starEach [] X.env := by rfl) (hplain : (backTo cpos (starEach [] X.env)).any (·.1) = false := by rfl) :
    PE X (.Call (.Attribute o "append" apos) [e] [] cpos) (tE G (appE i f)) :=
  peW (pe_bm PySem.F.plainAttrs_list PySem.F.slot_list_append PySem.F.type_list_append mt_append ho (a_cons (a := .e f) he a_nil hs) hbase hfew hline hs hplain) fun σ H Q h => by rw [hK]; exact rd_app h
theorem e_pop (hK : X.K = G.K) (i : Nat) (ho : PE X o (tVar i))
    (hbase : attributeBase o "pop" X.env (eval o X.env) = eval o X.env := by rfl) (hline : (apos.endLine == cpos.line) = true := by rfl) :
    PE X (.Call (.Attribute o "pop" apos) [] [] cpos) (tE G (popE i)) :=
  peW (pe_bm0 PySem.F.plainAttrs_list PySem.F.slot_list_pop PySem.F.type_list_pop mt_pop ho hbase hline) fun σ H Q h => by rw [hK]; exact rd_pop h
theorem e_popAt (hK : X.K = G.K) (i : Nat) (ho : PE X o (tVar i)) (he : PE X e (tE G f))
    (hbase : attributeBase o "pop" X.env (eval o X.env) = eval o X.env := by rfl)
    (hfew : ((backTo cpos (starEach [e] X.env)).all (fun x => !x.1) && (backToKw cpos (keywordEach [] X.env)).all (fun x => x.1.isSome)
      && decide ([e].length + ([] : List Keyword).length + (if ([] : List Keyword).isEmpty then 0 else 1) < 30)) = true := by rfl)
    (hline : (apos.endLine == cpos.line) = true := by rfl) (hs : starEach [e] X.env = (false, eval e X.env) :: starEach [] X.env := by rfl) (hplain : (backTo cpos (starEach [] X.env)).any (·.1) = false := by rfl) :
    PE X (.Call (.Attribute o "pop" apos) [e] [] cpos) (tE G (popAtE i f)) :=
  peW (pe_bm PySem.F.plainAttrs_list PySem.F.slot_list_pop PySem.F.type_list_pop mt_popAt ho (a_cons (a := .e f) he a_nil hs) hbase hfew hline hs hplain) fun σ H Q h => by rw [hK]; exact rd_popAt h
end
end PF
/-! PF17: x[i] = e, x[i][j] = e, op=. -/
namespace PF
open PySem PySem.Spec PyProof.Rows L2

/-- a place's number behind its expression -/
def ixOf (A : AF) : Env → R (Int × Env) := fun env => (evA [A] env).bnd fun r => match cellsOf r.2 r.1 with
  | some [c] => match c.int? with
    | some k => .ok (k, r.2)
    | none => none
  | _ => none
section
variable {G : GG} {σ : L2.St} {H F : Hp} {fps : List (List Addr)} {env : Env}
/-- behind a place's expression -/
theorem rd_ixOf {A : AF} {α : Type} {g : Int × Env → R α} {ok : α → Prop} {er : Nat → Prop} {Q : VK} (s : Sat G env σ F H fps) (q : RW ((ixOf A env).bnd g) ok er) (her : ∀ c, er c → ∀ F' H', Step G.Ts F H fps.flatten F' H' [] → G.E c H')
    (k : ∀ (i : Int) (env1 : Env) (F1 H1 : Hp) (fps1 : List (List Addr)), Sat G env1 σ F1 H1 fps1 → Step G.Ts F H fps.flatten F1 H1 fps1.flatten → RW (g (i, env1)) ok er → Q (.int i) H1) : A.te G σ H Q := by
  have h0 : tB G [A] σ H fun xs H1 => ∀ x, xs = [x] → Q x H1 := by
    refine ⟨F, fps, env, s, ?_⟩
    have q := q.bnd
    unfold ixOf at q
    refine q.bnd.mono (fun r _ q xs F1 H1 fps1 fl ra x ex => ?_) fun c h => her c h
    subst ex
    split at q
    · rename_i c ec
      split at q
      · rename_i i ei
        have rl := ra.rep.cells ra.sat ec
        cases rl with
        | cons r0 r1 =>
          rw [repc_int r0 ei]
          exact k i r.2 F1 H1 fps1 ra.sat ra.step q
      · exact q.elim
    · exact q.elim
  exact te_mono (tB_cons h0) fun x H1 q => tB_nil q x rfl
end
def stT (i : Nat) (A : AF) : TF := fun c env => match env[i]? with
  | some (some (.ol _)) => (ixOf A env).bnd fun r => match r.2[i]? with
    | some (some (.ol cs)) => match ixN cs.length r.1 with
      | some j => .ok (r.2.set i (some (.ol (cs.set j c))))
      | none => none
    | _ => none
  | _ => none
section
variable {G : GG} {σ : L2.St}
theorem flat_set : ∀ {fs : List (List Addr)} {j : Nat} {f fy : List Addr}, fs[j]? = some f → ∀ a ∈ (fs.set j fy).flatten, a ∈ fy ∨ a ∈ fs.flatten := fun {fs j f fy} h a ha => mem_set_flat ha
theorem flat_set_nd {fs : List (List Addr)} {j : Nat} {fy : List Addr} (h : (fy ++ fs.flatten).Nodup) : (fs.set j fy).flatten.Nodup := nodup_set h
/-- an item is stored -/
theorem Sat.wrSet {env : Env} {F H F0 H0 : Hp} {fps : List (List Addr)} {O : List Addr} (s : Sat G env σ F H fps) (st : Step G.Ts F0 H0 O F H fps.flatten) {i j : Nat} {cs : List Cell} {c : Cell} {y : V} {fy : List Addr} (e1 : env[i]? = some (some (.ol cs))) (hj : j < cs.length)
    (ry : RepC G.K F H c y fy) (nd : (fy ++ fps.flatten).Nodup) (hn : ∀ a ∈ fy, a ∈ O ∨ H0 a = none) :
    ∃ l xs, σ[i]? = some (some (.ref l)) ∧ H l = some (.lst xs) ∧ cs.length = xs.length ∧ ∃ fps', Res G (env.set i (some (.ol (cs.set j c)))) σ F0 H0 O (.fz .none) .non F (upd H l (.lst (xs.set j y))) fps' [] := by
  obtain ⟨v1, f1, k1, k2, k3⟩ := s.slot e1
  obtain ⟨l, xs, fs, rfl, rfl, w1, w2, w3, w4, w5⟩ := k3.ol_inv
  have nf : (l :: fs.flatten).Nodup := s.nd.sublist (List.sublist_flatten_of_mem (List.mem_of_getElem? k2))
  have ndl : ∀ a ∈ l :: fs.flatten, a ∉ fy := fun a ha z => nodup_dis nd a z (mem_flat k2 ha)
  refine ⟨l, xs, k1, w1, w3, _, s.wrL st e1 k1 k2 w2 ⟨_, w1⟩ List.mem_cons_self (fs' := fs.set j fy) (by simp [w3]) (by simp [w4]) (fun m c' v g q1 q2 q3 => ?_) (.fz .non) ?_ fun a ha => ?_⟩
  · by_cases hm : j = m
    · subst hm
      rw [List.getElem?_set_self (by omega)] at q1 q2 q3
      cases q1; cases q2; cases q3
      exact ry
    · rw [List.getElem?_set_ne hm] at q1 q2 q3
      exact w5 m c' v g q1 q2 q3
  · have z := set_nil_nd s.nd k2
    rw [List.nil_append]
    have nds : (fs.set j fy).flatten.Nodup := nodup_set (List.nodup_append.mpr ⟨(List.nodup_append.mp nd).1, (List.nodup_cons.mp nf).2, fun a ha b hb e => by
      subst e
      exact ndl a (List.mem_cons_of_mem _ hb) ha⟩)
    refine List.nodup_append.mpr ⟨List.nodup_cons.mpr ⟨fun q => ?_, nds⟩, (List.nodup_append.mp z).2.1, fun a ha b hb e => ?_⟩
    · rcases mem_set_flat q with q | q
      · exact ndl l List.mem_cons_self q
      · exact (List.nodup_cons.mp nf).1 q
    · subst e
      rcases List.mem_cons.mp ha with q | q
      · rw [q] at hb; exact nodup_dis z l List.mem_cons_self hb
      · rcases mem_set_flat q with q | q
        · exact nodup_dis nd a q (set_nil_sub hb)
        · exact nodup_dis z a (List.mem_cons_of_mem _ q) hb
  · rw [List.nil_append] at ha
    rcases mem_set_flat ha with ha | ha
    · exact hn a ha
    · exact st.o a (mem_flat k2 (List.mem_cons_of_mem _ ha))
theorem rd_st {i : Nat} {A : AF} {v : V} {H : Hp} {Q : L2.St → Hp → Prop} (h : tG G [] (stT i A) v σ H Q) : L2.gSub (tVar i) (A.te G) rSetL v σ H Q := by
  obtain ⟨F, fps, env, c, fp, s, rc, nd, q⟩ := h
  unfold stT at q
  split at q
  · rename_i cs0 e0
    obtain ⟨v0, f0, h1, h2, h3⟩ := s.slot e0
    refine ⟨v0, h1, rd_ixOf s q (fun c h F' H' st => h F' H' ?_) fun k env1 F1 H1 fps1 s1 st1 q => ?_⟩
    · exact ⟨fun a o e z1 z2 => st.k a o e (fun z => z1 (List.mem_append_right _ z)) z2, st.g, st.f, fun a o e => (st.n a o e).elim .inl fun z => .inr (z.elim (fun z => .inl (List.mem_append_right _ z)) .inr), fun a h => by cases h⟩
    · split at q
      · rename_i cs e1
        split at q
        · rename_i j ej
          have hd := nodup_dis nd
          have rc1 := rc.step st1 s.w hd
          have ndc : (fp ++ fps1.flatten).Nodup := List.nodup_append.mpr ⟨(List.nodup_append.mp nd).1, s1.nd, fun a ha b hb e => by
            subst e
            obtain ⟨_, o, e, _⟩ := rc.fp_some a ha
            rcases st1.o a hb with z | z
            · exact hd a ha z
            · rw [e] at z; cases z⟩
          have st2 : Step G.Ts F H (fp ++ fps.flatten) F1 H1 fps1.flatten := ⟨fun a o e z1 z2 => st1.k a o e (fun z => z1 (List.mem_append_right _ z)) z2, st1.g, st1.f, fun a o e => (st1.n a o e).elim .inl fun z => .inr (z.elim (fun z => .inl (List.mem_append_right _ z)) .inr), fun a ha => (st1.o a ha).elim (fun z => .inl (List.mem_append_right _ z)) .inr⟩
          have hj : j < cs.length := (ixN_seq ej).2.1
          obtain ⟨l, xs, k1, w1, w3, fps', re⟩ := s1.wrSet st2 e1 hj rc1 ndc fun a ha => .inl (List.mem_append_left _ ha)
          rw [h1] at k1
          cases k1
          refine ⟨l, xs, k, j, rfl, rfl, w1, by rw [← w3]; exact ej, ?_⟩
          exact q σ F1 _ _ .refl re.sat re.step
        · exact q.elim
      · exact q.elim
  · exact q.elim
end
section
variable {X : Cx} {G : GG} {o ie : Expr} {A : AF} {pos : Pos}
theorem g_st (i : Nat) (ho : PE X o (tVar i)) (hi : PEa X G ie A)
    (ha : ∀ v, assign (.Subscript o ie pos) X.env v = (do
      let ov ← holding [v] (eval o X.env)
      let iv ← holding [v, ov] (eval ie X.env)
      standAt pos
      holding [v, ov, iv] (setItem ov iv v)
      release [v, ov, iv] []) := by intro _; rfl) : PG X (.Subscript o ie pos) (tG G [] (stT i A)) := pgW (pg_sub ho hi set_list ha) fun v σ H Q h => rd_st h
end
end PF
/-! PF18: several targets at once; displays with a star. -/
namespace PF
open PySem PySem.Spec PyProof.Rows L2

/-- cells, their values, what they own -/
structure RepS (K : PySem.W.Frag) (F H : Hp) (cs : List Cell) (vs : List V) (fl : List (List Addr)) : Prop where
  l1 : cs.length = vs.length
  l2 : fl.length = vs.length
  r : ∀ (i : Nat) (c : Cell) (v : V) (f : List Addr), cs[i]? = some c → vs[i]? = some v → fl[i]? = some f → RepC K F H c v f
def tGsC (G : GG) (ix : List Nat) (ts : List TF) : TGs := fun vs σ H Q => ∃ F fps env cs fl, Sat G env σ F H fps ∧ RepS G.K F H cs vs fl ∧ (fl.flatten ++ fps.flatten).Nodup ∧
  RW (tgsF ts cs env) (fun env' => ∀ σ' F' H' fps', Agree ix σ σ' → Sat G env' σ' F' H' fps' → Step G.Ts F H (fl.flatten ++ fps.flatten) F' H' fps'.flatten → Q σ' H') (fun c => ∀ F' H', Step G.Ts F H (fl.flatten ++ fps.flatten) F' H' [] → G.E c H')
section
variable {G : GG}
theorem RepS.fp_some {K : PySem.W.Frag} {F H : Hp} {cs : List Cell} {vs : List V} {fl : List (List Addr)} (h : RepS K F H cs vs fl) : ∀ a ∈ fl.flatten, F a = none ∧ ∃ o, H a = some o ∧ NT o := fun a ha => by
  obtain ⟨f, hf, haf⟩ := List.mem_flatten.mp ha
  obtain ⟨i, hi, e⟩ := List.getElem_of_mem hf
  have h1 := h.l1
  have h2 := h.l2
  exact (h.r i (cs[i]'(by omega)) (vs[i]'(by omega)) f (by simp) (by simp) (by rw [List.getElem?_eq_getElem hi, e])).fp_some a haf
theorem Step.wide {Ts : List Addr} {F H F' H' : Hp} {O O' : List Addr} (st : Step Ts F H O F' H' O') (P : List Addr) : Step Ts F H (P ++ O) F' H' O' :=
  ⟨fun a o e z1 z2 => st.k a o e (fun z => z1 (List.mem_append_right _ z)) z2, st.g, st.f, fun a o e => (st.n a o e).elim .inl fun z => .inr (z.elim (fun z => .inl (List.mem_append_right _ z)) .inr), fun a ha => (st.o a ha).elim (fun z => .inl (List.mem_append_right _ z)) .inr⟩
theorem gsC_nil {X : Cx} : PGs X [] (tGsC G [] []) := ⟨fun pins s σ H vs us Q I r ⟨F, fps, env, cs, fl, st, rs, nd, q⟩ => by
  refine pgs_nil.run pins s σ H vs us Q I r ?_
  cases cs with
  | nil =>
    have h1 := rs.l1
    have h2 := rs.l2
    cases vs with
    | nil =>
      cases fl with
      | nil => exact ⟨rfl, q σ F H fps .refl st .refl⟩
      | cons _ _ => cases h2
    | cons _ _ => cases h1
  | cons d ds => exact q.elim⟩
theorem gsC_cons {X : Cx} {e : Expr} {es : List Expr} {t : TF} {ts : List TF} {ix iy : List Nat} (h1 : PG X e (tG G ix t)) (h2 : PGs X es (tGsC G iy ts)) (hs : (assignEach (e :: es) X.env).map (·.2) = assign e X.env :: (assignEach es X.env).map (·.2) := by rfl) :
    PGs X (e :: es) (tGsC G (ix ++ iy) (t :: ts)) := ⟨fun pins s σ H vs us Q I r ⟨F, fps, env, cs, fl, st, rs, nd, q⟩ => by
  refine (pgs_cons h1 h2 hs).run pins s σ H vs us Q I r ?_
  have l1 := rs.l1
  have l2 := rs.l2
  cases cs with
  | nil => exact q.elim
  | cons c cs =>
    cases vs with
    | nil => cases l1
    | cons v vs =>
      cases fl with
      | nil => cases l2
      | cons f0 fl =>
        have r0 := rs.r 0 c v f0 rfl rfl rfl
        have rt : RepS G.K F H cs vs fl := ⟨by simpa using l1, by simpa using l2, fun i c v f e1 e2 e3 => rs.r (i + 1) c v f (by simpa using e1) (by simpa using e2) (by simpa using e3)⟩
        rw [List.flatten_cons, List.append_assoc] at nd
        have nd1 := List.nodup_append.mp nd
        have nd2 := List.nodup_append.mp nd1.2.1
        have ndA : (f0 ++ fps.flatten).Nodup := nd.sublist (List.Sublist.append_left (List.sublist_append_right _ _) _)
        refine ⟨v, vs, rfl, F, fps, env, c, f0, st, r0, ndA, q.bnd.mono (fun env1 _ q σ' F' H' fps' ag s1 st1 => ?_) fun c h F' H' st2 => h F' H' ?_⟩
        · have dis : ∀ a ∈ fl.flatten, a ∉ f0 ++ fps.flatten := fun a ha z => by
            rcases List.mem_append.mp z with z | z
            · exact nd1.2.2 a z a (List.mem_append_left _ ha) rfl
            · exact nd2.2.2 a ha a z rfl
          have w1 : Wld G.Ts F H (f0 ++ fps.flatten) := ⟨st.w.sub, fun P hP => by
            obtain ⟨a1, a2, a3⟩ := st.w.tab P hP
            refine ⟨a1, a2, fun z => ?_⟩
            rcases List.mem_append.mp z with z | z
            · obtain ⟨_, o, e, nt⟩ := r0.fp_some P z
              exact st.notab e nt hP
            · exact a3 z, fun a ha => (List.mem_append.mp ha).elim (r0.fp_some a) (st.w.own a)⟩
          have rt1 : RepS G.K F' H' cs vs fl := ⟨rt.l1, rt.l2, fun i c v f e1 e2 e3 => (rt.r i c v f e1 e2 e3).step st1 w1 fun a ha => dis a (mem_flat e3 ha)⟩
          have ndB : (fl.flatten ++ fps'.flatten).Nodup := List.nodup_append.mpr ⟨nd2.1, s1.nd, fun a ha b hb e => by
            subst e
            obtain ⟨_, o, e, _⟩ := rt.fp_some a ha
            rcases st1.o a hb with z | z
            · exact dis a ha z
            · rw [e] at z; cases z⟩
          have sub : ∀ {F2 H2 : Hp} {O2 : List Addr}, Step G.Ts F' H' (fl.flatten ++ fps'.flatten) F2 H2 O2 → Step G.Ts F H ((f0 :: fl).flatten ++ fps.flatten) F2 H2 O2 := fun {F2 H2 O2} st2 => by
            have z1 : Step G.Ts F H (fl.flatten ++ (f0 ++ fps.flatten)) F' H' fps'.flatten := st1.wide _
            have z2 := step_app z1 (fp := fl.flatten) (fun a ha => .inl (List.mem_append_left _ ha)) st2
            have hm : ∀ a, a ∈ fl.flatten ++ (f0 ++ fps.flatten) ↔ a ∈ (f0 :: fl).flatten ++ fps.flatten := fun a => by
              simp only [List.flatten_cons, List.mem_append]
              constructor
              · rintro (h | h | h)
                · exact .inl (.inr h)
                · exact .inl (.inl h)
                · exact .inr h
              · rintro ((h | h) | h)
                · exact .inr (.inl h)
                · exact .inl h
                · exact .inr (.inr h)
            exact ⟨fun a o e h1 h2 => z2.k a o e (fun z => h1 ((hm a).mp z)) h2, z2.g, z2.f, fun a o e => (z2.n a o e).elim .inl fun z => .inr (z.elim (fun z => .inl ((hm a).mp z)) .inr), fun a ha => (z2.o a ha).elim (fun z => .inl ((hm a).mp z)) .inr⟩
          exact ⟨F', fps', env1, cs, fl, s1, rt1, ndB, q.mono (fun env2 _ q σ2 F2 H2 fps2 ag2 s2 st2 => q σ2 F2 H2 fps2 (ag.trans ag2) s2 (sub st2)) fun c h F2 H2 st2 => h F2 H2 (sub st2)⟩
        · rw [List.flatten_cons]
          refine ⟨fun a o e z1 z2 => st2.k a o e (fun z => z1 ?_) z2, st2.g, st2.f, fun a o e => (st2.n a o e).elim .inl fun z => .inr (z.elim (fun z => .inl ?_) .inr), fun a h => by cases h⟩
          all_goals
            rcases List.mem_append.mp z with z | z
            · exact List.mem_append_left _ (List.mem_append_left _ z)
            · exact List.mem_append_right _ z⟩
/-- x, y, .. = e, f, .. -/
def parS (as : List EF) (ts : List TF) : SF := fun env => (evA (as.map .e) env).bnd fun r => match ownOf r.1 with
  | some cs => (tgsF ts cs r.2).bnd fun env' => .ok (.nx, env')
  | none => none
theorem rd_parT {as : List EF} {ts : List TF} {ix : List Nat} {K : PySem.W.Frag} {n : Nat} (hK : K = G.K) (hn : as.length = n) (hl : n ≤ 1000) {D : Ends} {σ : L2.St} {H : Hp} (h : tS G (parS as ts) D σ H) : tAsg (tTup (tB G (as.map .e))) (L2.gTup K n (tGsC G ix ts)) D σ H := by
  obtain ⟨F, fps, env, s, q⟩ := h
  refine ⟨F, fps, env, s, q.bnd.mono (fun r he q xs F1 H1 fps1 fl ra => ?_) fun _ h => h⟩
  have hx : xs.length = n := by rw [ra.rep.lenA, evA_len he, List.length_map, hn]
  refine ⟨by rw [hx]; exact Nat.le_trans hl (by decide), fun p hp => ?_⟩
  split at q
  · rename_i cs ec
    obtain ⟨h1, h2, h3⟩ := ra.rep.own ec
    have nw : New G.K F1 H1 (.fz .none) .non F1 (upd H1 p (.tup xs)) [] := ⟨Same.refl _, same_upd hp, fun _ _ e => .inl e, ra.sat.w.sub.trans (same_upd hp), .fz .non, List.nodup_nil, fun _ h => by cases h⟩
    have s2 := ra.sat.grow nw
    have st2 := ra.step.trans (nw.stp (Ts := G.Ts) (O' := fps1.flatten))
    refine ⟨p, xs, rfl, .inl (.inl upd_same), hx, F1, fps1, r.2, cs, fl, s2, ⟨h1, h2, fun i c v f e1 e2 e3 => (h3 i c v f e1 e2 e3).keep (Same.refl _) (fun a ha o e => same_upd hp a o e) fun a ha => ((h3 i c v f e1 e2 e3).fp_some a ha).1⟩, ra.nd, q.bnd.mono (fun env2 _ q σ' F' H' fps' _ s3 st3 => ?_) fun c h F' H' st3 => h F' H' (step_app st2 ra.new st3)⟩
    exact q σ' F' H' fps' s3 (step_app st2 ra.new st3)
  · exact q.elim
theorem s_parT {X : Cx} {tgs es : List Expr} {as : List EF} {ts : List TF} {ix : List Nat} {pt pt2 pos : Pos} {x1 x2} (hc : X.calm = true) (hK : X.K = G.K) (ha : PA X es (tB G (as.map .e))) (hg : PGs X tgs (tGsC G ix ts)) (hl : as.length ≤ 1000)
    (hn : (assignEach tgs X.env).length = as.length := by rfl) (hst : (assignEach tgs X.env).findIdx? (·.1) = none := by rfl)
    (hs : swapsWithSole [.Tuple tgs x1 pt] (.Tuple es x2 pt2) pos.line X.env = pure false := by rfl) (hw : swappedStores [.Tuple tgs x1 pt] (.Tuple es x2 pt2) X.env = pure none := by rfl)
    (h1 : (assignEach [.Tuple tgs x1 pt] X.env).map (·.2) = [assign (.Tuple tgs x1 pt) X.env] := by rfl) :
    PS X (.Assign [.Tuple tgs x1 pt] (.Tuple es x2 pt2) pos) (tS G (parS as ts)) := psW (ps_asg (pe_tup ha) (pg_tup hc hg hn hst) hs hw h1) fun D σ H h => rd_parT hK rfl hl h
theorem len2 {α : Type} {l : List α} (h : l.length = 2) : ∃ a b, l = [a, b] := by
  match l, h with
  | [a, b], _ => exact ⟨a, b, rfl⟩
theorem len3 {α : Type} {l : List α} (h : l.length = 3) : ∃ a b c, l = [a, b, c] := by
  match l, h with
  | [a, b, c], _ => exact ⟨a, b, c, rfl⟩
/-- two plain names -/
theorem rd_par2 {a b : EF} {i j : Nat} (hij : i ≠ j) (hp : ∀ p ∈ G.pin, p.1 ≠ i ∧ p.1 ≠ j) {D : Ends} {σ : L2.St} {H : Hp} (h : tS G (parS [a, b] [nameT i, nameT j]) D σ H) : tPar i j (tB G [.e a, .e b]) D σ H := by
  obtain ⟨F, fps, env, s, q⟩ := h
  refine ⟨F, fps, env, s, q.bnd.mono (fun r he q xs F1 H1 fps1 fl ra => ?_) fun _ h => h⟩
  have hx : xs.length = 2 := by rw [ra.rep.lenA, evA_len he]; rfl
  split at q
  · rename_i cs ec
    obtain ⟨h1, h2, h3⟩ := ra.rep.own ec
    obtain ⟨v, w, rfl⟩ := len2 hx
    obtain ⟨c, d, rfl⟩ := len2 (h1.trans hx)
    obtain ⟨f, g, rfl⟩ := len2 (h2.trans hx)
    · refine ⟨v, w, rfl, ?_⟩
      have rc := h3 0 c v f rfl rfl rfl
      have rd := h3 1 d w g rfl rfl rfl
      have q := q.bnd
      simp only [tgsF] at q
      have q := q.bnd
      unfold nameT at q
      split at q
      · rename_i hi
        have q : RW ((if j < (r.2.set i (some c)).length then R.ok ((r.2.set i (some c)).set j (some d)) else none).bnd fun env' => R.ok env') _ _ := q
        split at q
        · rename_i hj
          rw [List.length_set] at hj
          have l1 := ra.sat.s.l1
          have nd := ra.nd
          simp only [List.flatten_cons, List.flatten_nil, List.append_nil, List.append_assoc] at nd
          have nd1 := List.nodup_append.mp nd
          have ndf : (f ++ fps1.flatten).Nodup := nd.sublist (List.Sublist.append_left (List.sublist_append_right _ _) _)
          have s1 := ra.sat.put rc ndf i (by omega) fun p hq e => absurd e (hp p hq).1
          have ndg : (g ++ (fps1.set i f).flatten).Nodup := List.nodup_append.mpr ⟨(List.nodup_append.mp nd1.2.1).1, s1.nd, fun a ha b hb e => by
            subst e
            rcases mem_set_flat hb with z | z
            · exact nd1.2.2 a z a (List.mem_append_left _ ha) rfl
            · exact (List.nodup_append.mp nd1.2.1).2.2 a ha a z rfl⟩
          have s2 := s1.put rd ndg j (by rw [List.length_set]; omega) fun p hq e => absurd e (hp p hq).2
          refine q _ F1 H1 _ s2 ⟨ra.step.k, ra.step.g, ra.step.f, ra.step.n, fun a ha => ?_⟩
          have nw := ra.new
          rcases mem_set_flat ha with z | z
          · exact nw a (by simp [z])
          · rcases mem_set_flat z with z | z
            · exact nw a (by simp [z])
            · exact ra.step.o a z
        · exact q.elim
      · exact q.elim
  · exact q.elim
theorem s_par2 {X : Cx} {x y : Str} {a b : Expr} {f g : EF} {px py pt pos : Pos} {kt k2 pt2} (i j : Nat) (hc : X.calm = true) (hN : X.N.Nodup) (hi : X.N[i]? = some x) (hj : X.N[j]? = some y) (hij : i ≠ j) (hp : ∀ p ∈ G.pin, p.1 ≠ i ∧ p.1 ≠ j)
    (hx : X.env.scope.names.lookup x = some .local) (hy : X.env.scope.names.lookup y = some .local) (ha : PA X [a, b] (tB G [.e f, .e g]))
    (hw : swappedStores [.Tuple [.Name x px, .Name y py] kt pt] (.Tuple [a, b] k2 pt2) X.env = pure (some [x, y]) := by rfl)
    (hs : swapsWithSole [.Tuple [.Name x px, .Name y py] kt pt] (.Tuple [a, b] k2 pt2) pos.line X.env = pure false := by rfl) :
    PS X (.Assign [.Tuple [.Name x px, .Name y py] kt pt] (.Tuple [a, b] k2 pt2) pos) (tS G (parS [f, g] [nameT i, nameT j])) := psW (ps_par hc hN hi hj hij hx hy ha hw hs) fun D σ H h => rd_par2 hij hp h
theorem rd_par3 {a b c0 : EF} {i j l : Nat} (hij : i ≠ j) (hil : i ≠ l) (hjl : j ≠ l) (hp : ∀ p ∈ G.pin, p.1 ≠ i ∧ p.1 ≠ j ∧ p.1 ≠ l) {D : Ends} {σ : L2.St} {H : Hp} (h : tS G (parS [a, b, c0] [nameT i, nameT j, nameT l]) D σ H) : tPar3 i j l (tB G [.e a, .e b, .e c0]) D σ H := by
  obtain ⟨F, fps, env, s, q⟩ := h
  refine ⟨F, fps, env, s, q.bnd.mono (fun r he q xs F1 H1 fps1 fl ra => ?_) fun _ h => h⟩
  have hx : xs.length = 3 := by rw [ra.rep.lenA, evA_len he]; rfl
  split at q
  · rename_i cs ec
    obtain ⟨h1, h2, h3⟩ := ra.rep.own ec
    obtain ⟨v, w, u, rfl⟩ := len3 hx
    obtain ⟨c, d, e, rfl⟩ := len3 (h1.trans hx)
    obtain ⟨f, g, k, rfl⟩ := len3 (h2.trans hx)
    · refine ⟨v, w, u, rfl, ?_⟩
      have rc := h3 0 c v f rfl rfl rfl
      have rd := h3 1 d w g rfl rfl rfl
      have re := h3 2 e u k rfl rfl rfl
      have q := q.bnd
      simp only [tgsF] at q
      have q := q.bnd
      unfold nameT at q
      split at q
      · rename_i hi
        have q : RW ((if j < (r.2.set i (some c)).length then R.ok ((r.2.set i (some c)).set j (some d)) else none).bnd fun env' => (if l < env'.length then R.ok (env'.set l (some e)) else none).bnd fun env' => R.ok env') _ _ := q
        split at q
        · rename_i hj
          rw [List.length_set] at hj
          have q : RW ((if l < ((r.2.set i (some c)).set j (some d)).length then R.ok (((r.2.set i (some c)).set j (some d)).set l (some e)) else none).bnd fun env' => R.ok env') _ _ := q
          split at q
          · rename_i hl
            rw [List.length_set, List.length_set] at hl
            have l1 := ra.sat.s.l1
            have nd := ra.nd
            simp only [List.flatten_cons, List.flatten_nil, List.append_nil, List.append_assoc] at nd
            have nd1 := List.nodup_append.mp nd
            have nd2 := List.nodup_append.mp nd1.2.1
            have nd3 := List.nodup_append.mp nd2.2.1
            have ndf : (f ++ fps1.flatten).Nodup := nd.sublist (List.Sublist.append_left ((List.sublist_append_right _ _).trans (List.sublist_append_right _ _)) _)
            have s1 := ra.sat.put rc ndf i (by omega) fun p hq e => absurd e (hp p hq).1
            have ndg : (g ++ (fps1.set i f).flatten).Nodup := List.nodup_append.mpr ⟨nd2.1, s1.nd, fun a ha b hb e => by
              subst e
              rcases mem_set_flat hb with z | z
              · exact nd1.2.2 a z a (List.mem_append_left _ ha) rfl
              · exact nd2.2.2 a ha a (List.mem_append_right _ z) rfl⟩
            have s2 := s1.put rd ndg j (by rw [List.length_set]; omega) fun p hq e => absurd e (hp p hq).2.1
            have ndk : (k ++ ((fps1.set i f).set j g).flatten).Nodup := List.nodup_append.mpr ⟨nd3.1, s2.nd, fun a ha b hb e => by
              subst e
              rcases mem_set_flat hb with z | z
              · exact nd2.2.2 a z a (List.mem_append_left _ ha) rfl
              · rcases mem_set_flat z with z | z
                · exact nd1.2.2 a z a (List.mem_append_right _ (List.mem_append_left _ ha)) rfl
                · exact nd3.2.2 a ha a z rfl⟩
            have s3 := s2.put re ndk l (by rw [List.length_set, List.length_set]; omega) fun p hq e => absurd e (hp p hq).2.2
            refine q _ F1 H1 _ s3 ⟨ra.step.k, ra.step.g, ra.step.f, ra.step.n, fun a ha => ?_⟩
            have nw := ra.new
            rcases mem_set_flat ha with z | z
            · exact nw a (by simp [z])
            · rcases mem_set_flat z with z | z
              · exact nw a (by simp [z])
              · rcases mem_set_flat z with z | z
                · exact nw a (by simp [z])
                · exact ra.step.o a z
          · exact q.elim
        · exact q.elim
      · exact q.elim
  · exact q.elim
theorem s_par3 {X : Cx} {x y z : Str} {a b c : Expr} {f g k : EF} {px py pz pt pos : Pos} {kt k2 pt2} (i j l : Nat) (hc : X.calm = true) (hN : X.N.Nodup) (hi : X.N[i]? = some x) (hj : X.N[j]? = some y) (hl : X.N[l]? = some z) (hij : i ≠ j) (hil : i ≠ l) (hjl : j ≠ l) (hp : ∀ p ∈ G.pin, p.1 ≠ i ∧ p.1 ≠ j ∧ p.1 ≠ l)
    (hx : X.env.scope.names.lookup x = some .local) (hy : X.env.scope.names.lookup y = some .local) (hz : X.env.scope.names.lookup z = some .local) (ha : PA X [a, b, c] (tB G [.e f, .e g, .e k]))
    (hw : swappedStores [.Tuple [.Name x px, .Name y py, .Name z pz] kt pt] (.Tuple [a, b, c] k2 pt2) X.env = pure (some [x, y, z]) := by rfl)
    (hs : swapsWithSole [.Tuple [.Name x px, .Name y py, .Name z pz] kt pt] (.Tuple [a, b, c] k2 pt2) pos.line X.env = pure false := by rfl) :
    PS X (.Assign [.Tuple [.Name x px, .Name y py, .Name z pz] kt pt] (.Tuple [a, b, c] k2 pt2) pos) (tS G (parS [f, g, k] [nameT i, nameT j, nameT l])) := psW (ps_par3 hc hN hi hj hl hij hil hjl hx hy hz ha hw hs) fun D σ H h => rd_par3 hij hil hjl hp h
end

/-! ### displays with stars -/
inductive AS where
  | o (f : EF)
  | x (f : EF)
def evS : List AS → Env → R (List D × Env)
  | [], env => .ok ([], env)
  | .o f :: as, env => (f env).bnd fun r => if r.1.nd = true then (evS as r.2).bnd fun q => .ok (r.1.d :: q.1, q.2) else none
  | .x f :: as, env => (f env).bnd fun r => match r.1.seqD with
    | some (_, ds) => (evS as r.2).bnd fun q => .ok (ds ++ q.1, q.2)
    | none => none
def tSt (G : GG) (as : List AS) : TA := fun σ H Q => ∃ F fps env, Sat G env σ F H fps ∧
  RW (evS as env) (fun r => ∀ xs F' H' fps', Sat G r.2 σ F' H' fps' → Step G.Ts F H fps.flatten F' H' fps'.flatten → DqAll G.K F' xs r.1 → Q xs H') (fun c => ∀ F' H', Step G.Ts F H fps.flatten F' H' [] → G.E c H')
section
variable {X : Cx} {G : GG} {e : Expr} {es : List Expr} {f : EF} {as : List AS} {p : Pos}
theorem sa_nil : PA X [] (tSt G []) := paW pa_nil fun σ H Q ⟨F, fps, env, s, q⟩ => q [] F H fps s .refl .nil
theorem sa_one (he : PE X e (tE G f)) (hr : PA X es (tSt G as)) (hs : starEach (e :: es) X.env = (false, eval e X.env) :: starEach es X.env := by rfl) : PA X (e :: es) (tSt G (.o f :: as)) := paW (pa_cons he hr hs) fun σ H Q ⟨F, fps, env, s, q⟩ => by
  refine ⟨F, fps, env, s, q.bnd.mono (fun r _ q x F1 H1 fps1 fp re => ?_) fun _ h => h⟩
  split at q
  · rename_i hn
    have rf := re.frozen hn
    refine ⟨_, fps1, r.2, rf.sat, q.bnd.mono (fun r2 _ q xs F2 H2 fps2 s2 st2 hd => ?_) fun c h => err_trans rf.step h⟩
    have rp := rf.rep
    cases rp with
    | fz rp => exact q (x :: xs) F2 H2 fps2 s2 (rf.step.trans st2) (.cons (dp_mono st2.f rp) hd)
  · exact q.elim
theorem sa_star (hK : X.K = G.K) (he : PE X e (tE G f)) (hr : PA X es (tSt G as)) (hs : starEach (.Starred e p :: es) X.env = (true, eval e X.env) :: starEach es X.env := by rfl) : PA X (.Starred e p :: es) (tSt G (.x f :: as)) := paW (StX.pa_star he hr hs) fun σ H Q ⟨F, fps, env, s, q⟩ => by
  refine ⟨F, fps, env, s, q.bnd.mono (fun r _ q x F1 H1 fps1 fp re => ?_) fun _ h => h⟩
  split at q
  · rename_i b ds es
    obtain ⟨hn, hc⟩ := seqD_cases es
    have rf := re.frozen hn
    have rp := rf.rep
    have fin : ∀ {l : Addr} {vs : List V}, DqAll G.K (frz F1 H1 fp) vs ds → tSt G as σ H1 fun ys H2 => Q (vs ++ ys) H2 := fun {l vs} hv =>
      ⟨_, fps1, r.2, rf.sat, q.bnd.mono (fun r2 _ q ys F2 H2 fps2 s2 st2 hd => q (vs ++ ys) F2 H2 fps2 s2 (rf.step.trans st2) (dps_append (dps_mono st2.f hv) hd)) fun c h => err_trans rf.step h⟩
    rcases hc with ⟨_, ed⟩ | ⟨_, ed⟩
    · rw [ed] at rp
      cases rp with
      | fz rp =>
        obtain ⟨l, vs, rfl, h1, h2⟩ := dq_list rp
        exact ⟨l, vs, rfl, .inr (.inl (Rd.mono rf.sat.w.sub h1)), fin (l := l) h2⟩
    · rw [ed] at rp
      cases rp with
      | fz rp =>
        obtain ⟨l, vs, rfl, h1, h2⟩ := dq_tup rp
        refine ⟨l, vs, rfl, .inl ?_, fin (l := l) h2⟩
        rw [hK]
        exact sqt_mono rf.sat.w.sub h1
  · exact q.elim
def tupSE (as : List AS) : EF := fun env => (evS as env).bnd fun r => if r.1.length ≤ lim then .ok (tup r.1, r.2) else none
def lstSE (as : List AS) : EF := fun env => (evS as env).bnd fun r => if r.1.length ≤ lim then .ok (lst r.1, r.2) else none
theorem e_tupS {pos : Pos} {x1} (h : PA X es (tSt G as)) : PE X (.Tuple es x1 pos) (tE G (tupSE as)) := peW (pe_tup h) fun σ H Q ⟨F, fps, env, s, q⟩ => by
  refine ⟨F, fps, env, s, q.bnd.mono (fun r _ q xs F1 H1 fps1 s1 st1 hd => ?_) fun _ h => h⟩
  split at q
  · rename_i hl
    refine ⟨by rw [dps_length hd]; exact hl, fun p hp => ?_⟩
    have n := new_tup (K := G.K) s1.w.sub hp hd
    exact q _ _ _ fps1 _ ⟨s1.grow n, st1.trans n.stp, n.rep, n.apart s1, fun a ha => by cases ha⟩
  · exact q.elim
theorem e_lstS {pos : Pos} (h : PA X es (tSt G as)) : PE X (Expr.List es pos) (tE G (lstSE as)) := peW (pe_lst h) fun σ H Q ⟨F, fps, env, s, q⟩ => by
  refine ⟨F, fps, env, s, q.bnd.mono (fun r _ q xs F1 H1 fps1 s1 st1 hd => ?_) fun _ h => h⟩
  split at q
  · rename_i hl
    refine ⟨by rw [dps_length hd]; exact hl, fun p hp => ?_⟩
    have n := new_lst (K := G.K) s1.w.sub hp hd
    exact q _ _ _ fps1 _ ⟨s1.grow n, st1.trans n.stp, n.rep, n.apart s1, fun a ha => .inr (st1.g a (n.new a ha))⟩
  · exact q.elim
end
end PF
/-! PF19: x[i][j]. -/
namespace PF
open PySem PySem.Spec PyProof.Rows L2

section
variable {G : GG} {σ : L2.St} {F1 H1 F2 H2 : Hp} {fps1 fps2 : List (List Addr)} {env1 env2 : Env}
/-- a name's thing is set aside while more is done -/
theorem Sat.aside (s1 : Sat G env1 σ F1 H1 fps1) {i : Nat} {c : Cell} {v : V} {f1 : List Addr} (h1 : σ[i]? = some (some v)) (h2 : fps1[i]? = some f1) (r : RepC G.K F1 H1 c v f1) (s2 : Sat G env2 σ F2 H2 fps2) (st : Step G.Ts F1 H1 (fps1.set i []).flatten F2 H2 fps2.flatten) :
    RepC G.K F2 H2 c v f1 ∧ Sat G (env2.set i (some c)) σ F2 H2 (fps2.set i f1) ∧ Step G.Ts F1 H1 fps1.flatten F2 H2 (fps2.set i f1).flatten := by
  have z := set_nil_nd s1.nd h2
  have hd := nodup_dis z
  have w1 : Wld G.Ts F1 H1 (fps1.set i []).flatten := (s1.drop i).w
  have r2 := r.step st w1 hd
  have hi := (List.getElem?_eq_some_iff.mp h1).1
  have nd : (f1 ++ fps2.flatten).Nodup := List.nodup_append.mpr ⟨(List.nodup_append.mp z).1, s2.nd, fun a ha b hb e => by
    subst e
    obtain ⟨_, o, e, _⟩ := r.fp_some a ha
    rcases st.o a hb with q | q
    · exact hd a ha q
    · rw [e] at q; cases q⟩
  have s3 := s2.put r2 nd i hi fun p hp e => by
    have q := s1.pin p hp
    rw [e, h1] at q
    exact (Option.some.inj (Option.some.inj q)).symm
  rw [set_same h1] at s3
  refine ⟨r2, s3, ⟨fun a o e q1 q2 => st.k a o e (fun q => q1 (set_nil_sub q)) q2, st.g, st.f, fun a o e => (st.n a o e).elim .inl fun q => .inr (q.elim (fun q => .inl (set_nil_sub q)) .inr), fun a ha => ?_⟩⟩
  rcases mem_set_flat ha with q | q
  · exact .inl (mem_flat h2 q)
  · exact (st.o a q).elim (fun q => .inl (set_nil_sub q)) .inr
/-- an inner thing is another now -/
theorem RepC.inner {K : PySem.W.Frag} {F H H' : Hp} {cs : List Cell} {l : Addr} {f1 : List Addr} (r : RepC K F H (.ol cs) (.ref l) f1) (nf : f1.Nodup) {j : Nat} {xs : List V} {fs : List (List Addr)} {v0 : V} {g0 g1 : List Addr} {c1 : Cell}
    (hf : f1 = l :: fs.flatten) (w1 : H l = some (.lst xs)) (w2 : F l = none) (w3 : cs.length = xs.length) (w4 : fs.length = xs.length) (w5 : ∀ (i : Nat) (c : Cell) (v : V) (f : List Addr), cs[i]? = some c → xs[i]? = some v → fs[i]? = some f → RepC K F H c v f)
    (ex : xs[j]? = some v0) (eg : fs[j]? = some g0) (hk : ∀ a o, H a = some o → a ∉ g0 → H' a = some o) (r1 : RepC K F H' c1 v0 g1) : RepC K F H' (.ol (cs.set j c1)) (.ref l) (l :: (fs.set j g1).flatten) := by
  subst hf
  have nl := List.nodup_cons.mp nf
  have hl : l ∉ g0 := fun z => nl.1 (mem_flat eg z)
  refine .ol (hk l _ w1 hl) w2 (by simp [w3]) (by simp [w4]) fun m c v f e1 e2 e3 => ?_
  by_cases hm : j = m
  · subst hm
    have h1 := (List.getElem?_eq_some_iff.mp ex).1
    rw [List.getElem?_set_self (by omega)] at e1 e3
    rw [ex] at e2
    cases e1; cases e2; cases e3
    exact r1
  · rw [List.getElem?_set_ne hm] at e1 e3
    have rr := w5 m c v f e1 e2 e3
    exact rr.keep (Same.refl _) (fun a ha o e => hk a o e fun z => flat_apart nl.2 e3 eg (Ne.symm hm) ha z) fun a ha => (rr.fp_some a ha).1
end

/-- the place in a name's list -/
def plE (i : Nat) (A : AF) : Env → R ((List Cell × Nat × Cell) × Env) := fun env => match env[i]? with
  | some (some (.ol _)) => (ixOf A env).bnd fun r => match r.2[i]? with
    | some (some (.ol cs)) => match ixN cs.length r.1 with
      | some j => match cs[j]? with
        | some c => .ok ((cs, j, c), r.2)
        | none => none
      | none => none
    | _ => none
  | _ => none
def ix2E (i : Nat) (A B : AF) : EF := fun env => (plE i A env).bnd fun r => (evA [B] (r.2.set i none)).bnd fun q => match cellsOf q.2 q.1 with
  | some [cb] => match gIx r.1.2.2 cb with
    | some c => .ok (c, q.2.set i (some (.ol r.1.1)))
    | none => none
  | _ => none
section
variable {G : GG} {σ : L2.St} {H F : Hp} {fps : List (List Addr)} {env : Env}
theorem rd_pl {i : Nat} {A : AF} {α : Type} {g : (List Cell × Nat × Cell) × Env → R α} {ok : α → Prop} {er : Nat → Prop} {Q : VK} (s : Sat G env σ F H fps) (q : RW ((plE i A env).bnd g) ok er) (her : ∀ c, er c → ∀ F' H', Step G.Ts F H fps.flatten F' H' [] → G.E c H')
    (k : ∀ (cs : List Cell) (j : Nat) (c : Cell) (env1 : Env) (F1 H1 : Hp) (fps1 : List (List Addr)) (l : Addr) (xs : List V) (fs : List (List Addr)) (v : V) (f : List Addr), Sat G env1 σ F1 H1 fps1 → Step G.Ts F H fps.flatten F1 H1 fps1.flatten → env1[i]? = some (some (.ol cs)) → σ[i]? = some (some (.ref l)) → fps1[i]? = some (l :: fs.flatten) →
      RepC G.K F1 H1 (.ol cs) (.ref l) (l :: fs.flatten) → H1 l = some (.lst xs) → F1 l = none → cs.length = xs.length → fs.length = xs.length → (∀ (i : Nat) (c : Cell) (v : V) (f : List Addr), cs[i]? = some c → xs[i]? = some v → fs[i]? = some f → RepC G.K F1 H1 c v f) →
      cs[j]? = some c → xs[j]? = some v → fs[j]? = some f → RW (g ((cs, j, c), env1)) ok er → Q v H1) : tOp (rIxL G.K) (tVar i) (A.te G) σ H Q := by
  have q := q.bnd
  unfold plE at q
  split at q
  · rename_i cs0 e0
    obtain ⟨v0, f0, h1, h2, h3⟩ := s.slot e0
    refine ⟨v0, h1, rd_ixOf s q her fun a env1 F1 H1 fps1 s1 st1 q => ?_⟩
    split at q
    · rename_i cs e1
      split at q
      · rename_i j ej
        split at q
        · rename_i c ec
          obtain ⟨v1, f1, k1, k2, k3⟩ := s1.slot e1
          obtain ⟨l, xs, fs, rfl, rfl, w1, w2, w3, w4, w5⟩ := k3.ol_inv
          have hj : j < xs.length := by rw [← w3]; exact (List.getElem?_eq_some_iff.mp ec).1
          have e2 : xs[j]? = some xs[j] := by simp [hj]
          have e3 : fs[j]? = some (fs[j]'(by omega)) := by simp [w4, hj]
          rw [k1] at h1
          cases h1
          refine ⟨l, xs, a, xs[j], rfl, rfl, .inl (.inl w1), ?_, k cs j c env1 F1 H1 fps1 l xs fs xs[j] _ s1 st1 e1 k1 k2 k3 w1 w2 w3 w4 w5 ec e2 e3 q⟩
          unfold atI
          rw [← w3, ej]
          exact e2
        · exact q.elim
      · exact q.elim
    · exact q.elim
  · exact q.elim
theorem rd_ix2 {i : Nat} {A B : AF} {Q : VK} (h : tE G (ix2E i A B) σ H Q) : tOp (fun x y H Q => rP G.K (on2 gIx) [x, y] H Q) (tOp (rIxL G.K) (tVar i) (A.te G)) (B.te G) σ H Q := by
  obtain ⟨F, fps, env, s, q⟩ := h
  refine rd_pl s q (fun c h => h) fun cs j c env1 F1 H1 fps1 l xs fs v f s1 st1 e1 k1 k2 k3 w1 w2 w3 w4 w5 ec ex ef q => ?_
  have h0 : tB G [B] σ H1 fun ys H2 => ∀ y, ys = [y] → rP G.K (on2 gIx) [v, y] H2 Q := by
    have sd := s1.drop i
    have up : ∀ {F2 H2 : Hp} {O2 : List Addr}, Step G.Ts F1 H1 (fps1.set i []).flatten F2 H2 O2 → Step G.Ts F1 H1 fps1.flatten F2 H2 O2 := fun {F2 H2 O2} st => ⟨fun a o e q1 q2 => st.k a o e (fun q => q1 (set_nil_sub q)) q2, st.g, st.f, fun a o e => (st.n a o e).elim .inl fun q => .inr (q.elim (fun q => .inl (set_nil_sub q)) .inr), fun a ha => (st.o a ha).elim (fun q => .inl (set_nil_sub q)) .inr⟩
    refine ⟨F1, _, _, sd, q.bnd.mono (fun r2 _ q ys F2 H2 fps2 fl ra y ey => ?_) fun c h F' H' st => h F' H' (st1.trans (up st))⟩
    subst ey
    split at q
    · rename_i cb ecb
      split at q
      · rename_i cz eg
        have rl := ra.rep.cells ra.sat ecb
        obtain ⟨ro, s3, st3⟩ := s1.aside k1 k2 k3 ra.sat ra.step
        obtain ⟨l', xs', fs', el, ef', w1', w2', w3', w4', w5'⟩ := ro.ol_inv
        cases el
        have hz := (w5 j c v f ec ex ef).step ra.step (s1.drop i).w fun a ha z => nodup_dis (set_nil_nd s1.nd k2) a (List.mem_cons_of_mem _ (mem_flat ef ha)) z
        refine ⟨F2, [c, cb], cz, ra.sat.w.sub, ?_, eg, fun x F3 H3 fp n => ?_⟩
        · cases rl with
          | cons rb rn =>
            cases rn
            exact .cons hz (.cons rb .nil)
        · have st4 := st1.trans st3
          exact q x F3 H3 _ fp ⟨s3.grow n, st4.trans n.stp, n.rep, n.apart s3, fun a ha => .inr (st4.g a (n.new a ha))⟩
      · exact q.elim
    · exact q.elim
  exact te_mono (tB_cons h0) fun y H2 q => tB_nil q y rfl
end
/-- x[a][b] = c -/
def st2T (i : Nat) (A B : AF) : TF := fun c env => (plE i A env).bnd fun r => (ixOf B (r.2.set i none)).bnd fun q => match r.1.2.2 with
  | .ol cs0 => match ixN cs0.length q.1 with
    | some j2 => .ok (q.2.set i (some (.ol (r.1.1.set r.1.2.1 (.ol (cs0.set j2 c))))))
    | none => none
  | _ => none
section
variable {G : GG} {σ : L2.St}
theorem rd_st2 {i : Nat} {A B : AF} {v : V} {H : Hp} {Q : L2.St → Hp → Prop} (h : tG G [] (st2T i A B) v σ H Q) : L2.gSub (tOp (rIxL G.K) (tVar i) (A.te G)) (B.te G) rSetL v σ H Q := by
  obtain ⟨F, fps, env, c, fp, s, rc, nd, q⟩ := h
  refine rd_pl s q (fun c h F' H' st => h F' H' (st.wide _)) fun cs j c0 env1 F1 H1 fps1 l xs fs v0 f0 s1 st1 e1 k1 k2 k3 w1 w2 w3 w4 w5 ec ex ef q => ?_
  have sd := s1.drop i
  have up : ∀ {F2 H2 : Hp} {O2 : List Addr}, Step G.Ts F1 H1 (fps1.set i []).flatten F2 H2 O2 → Step G.Ts F1 H1 fps1.flatten F2 H2 O2 := fun {F2 H2 O2} st => ⟨fun a o e q1 q2 => st.k a o e (fun q => q1 (set_nil_sub q)) q2, st.g, st.f, fun a o e => (st.n a o e).elim .inl fun q => .inr (q.elim (fun q => .inl (set_nil_sub q)) .inr), fun a ha => (st.o a ha).elim (fun q => .inl (set_nil_sub q)) .inr⟩
  refine rd_ixOf sd q (fun c h F' H' st => h F' H' ((st1.trans (up st)).wide _)) fun kb env2 F2 H2 fps2 s2 st2 q => ?_
  split at q
  · rename_i cs0 ecs
    have ecs : c0 = .ol cs0 := ecs
    subst ecs
    split at q
    · rename_i j2 ej2
      obtain ⟨ro, s3, st3⟩ := s1.aside k1 k2 k3 s2 st2
      have st4 := st1.trans st3
      -- the value that is stored has been held
      have hd := nodup_dis nd
      have rc2 := rc.step st4 s.w hd
      have ndc : (fp ++ (fps2.set i (l :: fs.flatten)).flatten).Nodup := List.nodup_append.mpr ⟨(List.nodup_append.mp nd).1, s3.nd, fun a ha b hb e => by
        subst e
        obtain ⟨_, o, e, _⟩ := rc.fp_some a ha
        rcases st4.o a hb with z | z
        · exact hd a ha z
        · rw [e] at z; cases z⟩
      have hi2 : i < fps2.length := by
        have := (List.getElem?_eq_some_iff.mp k1).1
        have := s2.s.l2
        omega
      have k2' : (fps2.set i (l :: fs.flatten))[i]? = some (l :: fs.flatten) := List.getElem?_set_self hi2
      have hi3 : i < env2.length := by
        have := (List.getElem?_eq_some_iff.mp k1).1
        have := s2.s.l1
        omega
      have e3 : (env2.set i (some (.ol cs)))[i]? = some (some (.ol cs)) := List.getElem?_set_self hi3
      obtain ⟨l', xs', fs', el, eff, w1', w2', w3', w4', w5'⟩ := ro.ol_inv
      cases el
      -- the outer list as it was
      have dis1 := nodup_dis (set_nil_nd s1.nd k2)
      have w1a : H2 l = some (.lst xs) := st2.k l _ w1 (dis1 l List.mem_cons_self) (s1.notab w1 fun ps z => by cases z)
      have w5a : ∀ (i : Nat) (c : Cell) (v : V) (f : List Addr), cs[i]? = some c → xs[i]? = some v → fs[i]? = some f → RepC G.K F2 H2 c v f := fun m c v f q1 q2 q3 =>
        (w5 m c v f q1 q2 q3).step st2 sd.w fun a ha => dis1 a (List.mem_cons_of_mem _ (mem_flat q3 ha))
      have r0 := w5a j _ v0 f0 ec ex ef
      obtain ⟨l2, ys, gs, rfl, rfl, u1, u2, u3, u4, u5⟩ := r0.ol_inv
      have hj2 : j2 < cs0.length := (ixN_seq ej2).2.1
      refine ⟨l2, ys, kb, j2, rfl, rfl, u1, by rw [← u3]; exact ej2, ?_⟩
      have nf1 : (l :: fs.flatten).Nodup := s3.nd.sublist (List.sublist_flatten_of_mem (List.mem_of_getElem? k2'))
      have nfl : ∀ a ∈ l2 :: gs.flatten, a ∈ fs.flatten := fun a ha => mem_flat ef ha
      have ndg : (l2 :: gs.flatten).Nodup := (List.nodup_cons.mp nf1).2.sublist (List.sublist_flatten_of_mem (List.mem_of_getElem? ef))
      have fpo : ∀ a ∈ fp, a ∉ l :: fs.flatten := fun a ha z => nodup_dis ndc a ha (mem_flat k2' z)
      have hk : ∀ a o, H2 a = some o → a ∉ l2 :: gs.flatten → upd H2 l2 (.lst (ys.set j2 v)) a = some o := fun a o e z => by
        rw [upd_ne (fun q => z (by rw [q]; exact List.mem_cons_self) : a ≠ l2)]; exact e
      have hl2 : l2 ∉ gs.flatten := (List.nodup_cons.mp ndg).1
      have hl2p : l2 ∉ fp := fun z => fpo l2 z (List.mem_cons_of_mem _ (nfl l2 List.mem_cons_self))
      have kp : ∀ {c : Cell} {v' : V} {g : List Addr}, RepC G.K F2 H2 c v' g → l2 ∉ g → RepC G.K F2 (upd H2 l2 (.lst (ys.set j2 v))) c v' g := fun {c v' g} r hg => r.keep (Same.refl _) (fun a ha o e => by rw [upd_ne (fun z => hg (z ▸ ha) : a ≠ l2)]; exact e) fun a ha => (r.fp_some a ha).1
      have rin : RepC G.K F2 (upd H2 l2 (.lst (ys.set j2 v))) (.ol (cs0.set j2 c)) (.ref l2) (l2 :: (gs.set j2 fp).flatten) := by
        refine .ol upd_same u2 (by simp [u3]) (by simp [u4]) fun m c' v' g q1 q2 q3 => ?_
        by_cases hm : j2 = m
        · subst hm
          rw [List.getElem?_set_self (by omega)] at q1 q2 q3
          cases q1; cases q2; cases q3
          exact kp rc2 hl2p
        · rw [List.getElem?_set_ne hm] at q1 q2 q3
          exact kp (u5 m c' v' g q1 q2 q3) fun z => hl2 (mem_flat q3 z)
      have rout := (show RepC G.K F2 H2 (.ol cs) (.ref l) (l :: fs.flatten) from .ol w1a w2' w3 w4 w5a).inner nf1 rfl w1a w2' w3 w4 w5a ex ef hk rin
      have hg : ∀ a, upd H2 l2 (.lst (ys.set j2 v)) a = none → H2 a = none := fun a e => by
        by_cases z : a = l2
        · rw [z, upd_same] at e; cases e
        · rw [upd_ne z] at e; exact e
      have nin : (l2 :: (gs.set j2 fp).flatten).Nodup := by
        refine List.nodup_cons.mpr ⟨fun z => ?_, nodup_set (List.nodup_append.mpr ⟨(List.nodup_append.mp ndc).1, (List.nodup_cons.mp ndg).2, fun a ha b hb e => by
          subst e
          exact fpo a ha (List.mem_cons_of_mem _ (nfl a (List.mem_cons_of_mem _ hb)))⟩)⟩
        rcases mem_set_flat z with z | z
        · exact hl2p z
        · exact hl2 z
      have min : ∀ a ∈ l2 :: (gs.set j2 fp).flatten, a ∈ fp ∨ a ∈ l2 :: gs.flatten := fun a ha => by
        rcases List.mem_cons.mp ha with z | z
        · rw [z]; exact .inr List.mem_cons_self
        · exact (mem_set_flat z).imp id (List.mem_cons_of_mem _)
      have ef9 : (fs.set j (l2 :: gs.flatten)) = fs := by
        refine List.ext_getElem? fun m => ?_
        by_cases hm : j = m
        · subst hm
          rw [List.getElem?_set_self (List.getElem?_eq_some_iff.mp ef).1, ef]
        · rw [List.getElem?_set_ne hm]
      have nout : (l :: (fs.set j (l2 :: (gs.set j2 fp).flatten)).flatten).Nodup := by
        refine List.nodup_cons.mpr ⟨fun z => ?_, ?_⟩
        · rcases mem_set_flat z with z | z
          · rcases min l z with z | z
            · exact fpo l z List.mem_cons_self
            · exact (List.nodup_cons.mp nf1).1 (nfl l z)
          · exact (List.nodup_cons.mp nf1).1 z
        · have z1 := set_nil_nd (List.nodup_cons.mp nf1).2 ef
          have : ((l2 :: (gs.set j2 fp).flatten) ++ (fs.set j []).flatten).Nodup := List.nodup_append.mpr ⟨nin, (List.nodup_append.mp z1).2.1, fun a ha b hb e => by
            subst e
            rcases min a ha with z | z
            · exact fpo a z (List.mem_cons_of_mem _ (set_nil_sub hb))
            · exact nodup_dis z1 a z hb⟩
          have z2 := nodup_set (i := j) this
          rw [List.set_set] at z2
          exact z2
      have mout : ∀ a ∈ l :: (fs.set j (l2 :: (gs.set j2 fp).flatten)).flatten, a ∈ fp ∨ a ∈ l :: fs.flatten := fun a ha => by
        rcases List.mem_cons.mp ha with z | z
        · rw [z]; exact .inr List.mem_cons_self
        · rcases mem_set_flat z with z | z
          · exact (min a z).imp id fun z => List.mem_cons_of_mem _ (nfl a z)
          · exact .inr (List.mem_cons_of_mem _ z)
      have ndw : ((l :: (fs.set j (l2 :: (gs.set j2 fp).flatten)).flatten) ++ ((fps2.set i (l :: fs.flatten)).set i []).flatten).Nodup := by
        have z1 := set_nil_nd s3.nd k2'
        refine List.nodup_append.mpr ⟨nout, (List.nodup_append.mp z1).2.1, fun a ha b hb e => ?_⟩
        subst e
        rcases mout a ha with z | z
        · exact nodup_dis ndc a z (set_nil_sub hb)
        · exact nodup_dis z1 a z hb
      obtain ⟨s5, st5⟩ := s3.wr e3 k1 k2' (fun a o e z => hk a o e fun z2 => z (List.mem_cons_of_mem _ (nfl a z2))) hg rout ndw
      have st6 := st5 (fp ++ (fps2.set i (l :: fs.flatten)).flatten) (fun a ha => List.mem_append_right _ (mem_flat k2' ha)) (fun a ha => List.mem_append_right _ ha) fun a ha => by
        rcases mout a ha with z | z
        · exact .inl (List.mem_append_left _ z)
        · exact .inl (List.mem_append_right _ (mem_flat k2' z))
      rw [List.set_set] at s5
      have fin := step_app (st4.wide fp) (fp := fp) (fun a ha => .inl (List.mem_append_left _ ha)) st6
      exact q σ F2 _ _ .refl s5 fin
    · exact q.elim
  · exact q.elim
end
section
variable {X : Cx} {G : GG} {o a b : Expr} {A B : AF} {pos pos2 : Pos}
theorem e_ix2 (hK : X.K = G.K) (i : Nat) (ho : PE X o (tVar i)) (ha : PEa X G a A) (hb : PEa X G b B) (hs : PlainIx a) (hs2 : PlainIx b) : PE X (.Subscript (.Subscript o a pos2) b pos) (tE G (ix2E i A B)) :=
  peW (pe_ix (hK ▸ i_ix : IxR X (r2 G.K (on2 gIx))) (pe_ix (hK ▸ ix_list : IxR X (rIxL G.K)) ho ha hs) hb hs2) fun σ H Q h => rd_ix2 h
theorem g_st2 (hK : X.K = G.K) (i : Nat) (ho : PE X o (tVar i)) (ha : PEa X G a A) (hb : PEa X G b B) (hs : PlainIx a)
    (has : ∀ v, assign (.Subscript (.Subscript o a pos2) b pos) X.env v = (do
      let ov ← holding [v] (eval (.Subscript o a pos2) X.env)
      let iv ← holding [v, ov] (eval b X.env)
      standAt pos
      holding [v, ov, iv] (setItem ov iv v)
      release [v, ov, iv] []) := by intro _; rfl) : PG X (.Subscript (.Subscript o a pos2) b pos) (tG G [] (st2T i A B)) :=
  pgW (pg_sub (pe_ix (hK ▸ ix_list : IxR X (rIxL G.K)) ho ha hs) hb set_list has) fun v σ H Q h => rd_st2 h
end
end PF
/-! PF20: defs whose code is known; the end of a law. -/
namespace PF
open PySem PySem.Spec L2

/-- a def of the program: its function object, its code object at c -/
structure FunC (K : PySem.W.Frag) (x : Str) (st : Stmt) (f : Addr) (fd : FuncData) (c : Addr) : Prop where
  d : FunD K x x (defArgs st) (defBody st) (defScope st) [] [] f fd
  ex : ∃ (oc : Value) (od : Option Addr) (dV kV doc pm : Value) (an : Option Addr) (ct : Value) (osl : Array (Option Value)),
    fd = PySem.W.fnOf x x (defArgs st) (defBody st) (defScope st) dV kV doc pm an (.ref c) ct ∧ K.lookup f = some ⟨oc, od, .func fd, osl⟩ ∧ PySem.W.codeIn K (.ref c) x = true
theorem funC_of {K : PySem.W.Frag} {x : Str} {st : Stmt} {fd : FuncData} {p : Str × Option Str} (F : FunD K x x (defArgs st) (defBody st) (defScope st) [] [] (He.fAd K p) fd) : FunC K x st (He.fAd K p) fd (He.codeOf K p) := by
  refine ⟨F, ?_⟩
  obtain ⟨oc, od, dV, kV, doc, pm, an, cdv, ct, osl, e, lk, hcd, _, _⟩ := F.ex
  obtain ⟨c, hc⟩ := He.codeIn_ref hcd
  subst hc
  have hcc : He.codeOf K p = c := He.codeOf_eq lk (by rw [e])
  rw [hcc]
  exact ⟨oc, od, dV, kV, doc, pm, an, ct, osl, e, lk, hcd⟩
section
variable {P : Program} {w : World} {K : PySem.W.Frag} {mg : Str → Option Value} {base : Heap}
theorem FunC.okX {x : Str} {st : Stmt} {f c : Addr} {fd : FuncData} {N ps : List Str} {k : Nat} {sp : Sp} (F : FunC K x st f fd c) (S : FnScope N ps (defScope st)) (len : ∀ vs H Q E, sp vs H Q E → vs.length = ps.length)
    (hbody : ∀ (A : Around) (outer : List PySem.Env) (s : Shared) (H : Hp) (vs : List V) (Q : VK) (E : XK), Room k (A.deeper (PyProof.Rows.envOfC x (defScope st) s.heap.objs.size f (.ref c))) → sp vs H Q E →
      ∃ t, PSs (cxOf (L2.CX P w) P w K mg base N x (defScope st) f (.ref c) A outer s H E) (defBody st) t ∧ t { nx := fun _ H' => Q .non H', rt := Q } (start N vs) H) : FnOk P w K mg base (L2.CX P w) (k + 1) f fd ps sp := by
  obtain ⟨oc, od, dV, kV, doc, pm, an, ct, osl, rfl, lk, hcd⟩ := F.ex
  exact fn_of lk hcd S len fun A outer s H vs Q E hr hsp => hbody A outer s H vs Q E hr hsp
theorem fnC_denN {x : Str} {st : Stmt} {cc : Addr} {f : Addr} {fd : FuncData} {N ps : List Str} {k : Nat} (Ts : List Addr) (xc : Nat → Value) (F0 : SF) (Fn : FunC K x st f fd cc) (S : FnScope N ps (defScope st)) (hn : ps.length ≤ N.length)
    (hb : ∀ (A : Around) (outer : List PySem.Env) (s : Shared) (H : Hp) (E : XK), Room k (A.deeper (PyProof.Rows.envOfC x (defScope st) s.heap.objs.size f (.ref cc))) →
      PSs (cxOf (L2.CX P w) P w K mg base N x (defScope st) f (.ref cc) A outer s H E) (defBody st) (tS { K := K, Ts := Ts, E := fun c H' => E (xc c) none H', pin := [] } F0)) :
    FnOk P w K mg base (L2.CX P w) (k + 1) f fd ps (SpN K Ts xc ps.length (denN F0 N.length)) := by
  refine FunC.okX Fn S (fun vs H Q E ⟨F, ds, h, _⟩ => h) fun A outer s H vs Q E hr ⟨F, ds, hl, hd, hw, q⟩ => ⟨_, hb A outer s H E hr, ?_⟩
  have s0 := sat_start (G := { K := K, Ts := Ts, E := fun c H' => E (xc c) none H', pin := [] }) (N := N) hd hw rfl (by omega)
  have hO : (List.replicate N.length ([] : List Addr)).flatten = [] := flat_repl _
  refine ⟨F, _, _, s0, ?_⟩
  rw [hO]
  refine q.bnd.mono (fun r _ q => ?_) fun c h => h
  obtain ⟨o, env⟩ := r
  cases o with
  | nx => exact fun σ' F' H' fps' s' st => q .non F' H' [] (st.less fun a h => by cases h) ⟨s'.w.sub, fun P hP => ⟨(s'.w.tab P hP).1, (s'.w.tab P hP).2.1, by simp⟩, fun a h => by cases h⟩ (.fz .non) List.nodup_nil fun a h => by cases h
  | bk => exact q.elim
  | ct => exact q.elim
  | rt c =>
    refine fun σ' x F' H' fps' fp re => q x F' H' fp (re.step.less fun a h => by cases h) ⟨re.sat.w.sub, fun P hP => ⟨(re.sat.w.tab P hP).1, (re.sat.w.tab P hP).2.1, by simp⟩, fun a h => by cases h⟩ re.rep (List.nodup_append.mp re.nd).1 fun a ha => ?_
    rcases re.new a ha with z | z
    · cases z
    · exact z
theorem fnC_denI {x : Str} {st : Stmt} {cc : Addr} {f : Addr} {fd : FuncData} {N ps : List Str} {k : Nat} (Ts : List Addr) (xc : Nat → Value) (F0 : SF) (Fn : FunC K x st f fd cc) (S : FnScope N ps (defScope st)) (hn : ps.length ≤ N.length)
    (hb : ∀ (A : Around) (outer : List PySem.Env) (s : Shared) (H : Hp) (E : XK) (v0 : V), Room k (A.deeper (PyProof.Rows.envOfC x (defScope st) s.heap.objs.size f (.ref cc))) →
      PSs (cxOf (L2.CX P w) P w K mg base N x (defScope st) f (.ref cc) A outer s H E) (defBody st) (tS { K := K, Ts := Ts, E := fun c H' => E (xc c) none H', pin := [(0, v0)] } F0)) :
    FnOk P w K mg base (L2.CX P w) (k + 1) f fd ps (SpI K Ts xc ps.length (denI F0 N.length)) := by
  refine FunC.okX Fn S (fun vs H Q E ⟨F, c0, f0, v0, ws, ds, _, h, _⟩ => h) fun A outer s H vs Q E hr ⟨F, c0, f0, v0, ws, ds, e, hl, r0, nd, hd, hw, q⟩ => ⟨_, hb A outer s H E v0 hr, ?_⟩
  subst e
  rw [List.length_cons] at hl
  have s0 := sat_startI (G := { K := K, Ts := Ts, E := fun c H' => E (xc c) none H', pin := [(0, v0)] }) (N := N) r0 nd hd hw rfl (by omega)
  have hO : (f0 :: List.replicate (N.length - 1) ([] : List Addr)).flatten = f0 := by
    rw [List.flatten_cons, flat_repl, List.append_nil]
  refine ⟨F, _, _, s0, ?_⟩
  rw [hO]
  have q2 : RW (fin2 (F0 (some c0 :: (ds.map (fun d => some (Cell.fz d)) ++ List.replicate (N.length - (ds.length + 1)) none)))) _ _ := q
  refine q2.bnd.mono (fun r _ q => ?_) fun c h => h
  obtain ⟨o, env⟩ := r
  cases e0 : env[0]? with
  | none => simp only [e0] at q; exact q.elim
  | some c1 =>
    cases c1 with
    | none => simp only [e0] at q; exact q.elim
    | some c' =>
      simp only [e0] at q
      have sub : ∀ {σ' F' H' fps'}, Sat { K := K, Ts := Ts, E := fun c H' => E (xc c) none H', pin := [(0, v0)] } env σ' F' H' fps' → ∃ f', RepC K F' H' c' v0 f' ∧ (∀ a ∈ f', a ∈ fps'.flatten) ∧ f'.Sublist fps'.flatten := fun {σ' F' H' fps'} s' => by
        obtain ⟨v, f', h1, h2, h3⟩ := s'.slot e0
        have h4 := s'.pin (0, v0) (by simp)
        rw [h1] at h4
        cases h4
        exact ⟨f', h3, fun a ha => mem_flat h2 ha, List.sublist_flatten_of_mem (List.mem_of_getElem? h2)⟩
      have wld : ∀ {F' H' : Hp} {O f' : List Addr}, Wld Ts F' H' O → (∀ a ∈ f', a ∈ O) → Wld Ts F' H' f' := fun {F' H' O f'} w h =>
        ⟨w.sub, fun P hP => ⟨(w.tab P hP).1, (w.tab P hP).2.1, fun z => (w.tab P hP).2.2 (h P z)⟩, fun a ha => w.own a (h a ha)⟩
      cases o with
      | nx =>
        refine fun σ' F' H' fps' s' st => ?_
        obtain ⟨f', h1, h2, h3⟩ := sub s'
        exact q .non F' H' [] f' (st.less h2) (wld s'.w h2) (.fz .non) h1 (s'.nd.sublist h3) fun a h => by cases h
      | bk => exact q.elim
      | ct => exact q.elim
      | rt c =>
        refine fun σ' x F' H' fps' fp re => ?_
        obtain ⟨f', h1, h2, h3⟩ := sub re.sat
        exact q x F' H' fp f' (re.step.less h2) (wld re.sat.w h2) re.rep h1 (re.nd.sublist (List.Sublist.append_left h3 _)) re.new

theorem takes_def {N : List Str} {x : Str} {sc : Scope} {f : Addr} {cdv : Value} {A : Around} {outer : List PySem.Env} {s : Shared} {H : Hp} {E : XK} : Takes (cxOf (L2.CX P w) P w K mg base N x sc f cdv A outer s H E) (fun cls d _ H' => E cls d H') := takes_of rfl rfl rfl rfl
theorem pass_def {N : List Str} {x : Str} {sc : Scope} {f : Addr} {cdv : Value} {A : Around} {outer : List PySem.Env} {s : Shared} {H : Hp} {E : XK} : Passes (L2.CX P w) (cxOf (L2.CX P w) P w K mg base N x sc f cdv A outer s H E) E := pass_tk takes_def
theorem owns_def {N : List Str} {x : Str} {sc : Scope} {f : Addr} {cdv : Value} {A : Around} {outer : List PySem.Env} {s : Shared} {H : Hp} {E : XK} : PassesOwn (model P w) (cxOf (L2.CX P w) P w K mg base N x sc f cdv A outer s H E).A (cxOf (L2.CX P w) P w K mg base N x sc f cdv A outer s H E).env (cxOf (L2.CX P w) P w K mg base N x sc f cdv A outer s H E).xe := passes_of rfl
theorem hu64 {k : Nat} {A : Around} (hr : Room k A) : A.units + 64 < cLine := by have := hr.un; omega
theorem hu65 {k : Nat} {A : Around} (hr : Room k A) : A.units + 65 < cLine := by have := hr.un; omega
end

/-! ### more rules -/
def gNeg : Cell → Option Cell := fun a => a.int?.map fun i => int (-i)
theorem o_neg {X : Cx} : UnR X (unaryOp .USub) (r1 X.K (on1 gNeg)) := fun pins sh σ H x v Q I rx ⟨F, cs, c, hF, rl, eg, k⟩ => by
  obtain ⟨a, e, f, r⟩ := on1_inv eg rl
  unfold gNeg at e
  cases q : a.int? with
  | none => rw [q] at e; cases e
  | some i =>
    rw [q] at e
    cases e
    exact un_neg pins sh σ H x v Q I rx ⟨i, repc_int r q, k _ F H [] (new_fz hF (.int _))⟩
theorem e_gint {X : Cx} {G : GG} {x : Str} {i : Int} {pos : Pos} (hg : Gl X x) (h : ∃ t, X.mg x = some (.int i t)) (hd : (x == ("__debug__" : Str)) = false := by decide) : PE X (.Name x pos) (tE G (cst (.int i))) := by
  obtain ⟨t, h⟩ := h
  exact e_cst (pe_glob (v := .int i) hg h ⟨t, rfl⟩ hd) fun _ => .int _
theorem bt_len : bootBuiltins "len" = some (.builtin "len") := by decide +kernel
theorem bt_abs : bootBuiltins "abs" = some (.builtin "abs") := by decide +kernel
theorem bt_int : bootBuiltins "int" = some (.type "int") := by decide +kernel
theorem bt_max : bootBuiltins "max" = some (.builtin "max") := by decide +kernel
theorem bt_min : bootBuiltins "min" = some (.builtin "min") := by decide +kernel
theorem bt_sum : bootBuiltins "sum" = some (.builtin "sum") := by decide +kernel
theorem bt_sorted : bootBuiltins "sorted" = some (.builtin "sorted") := by decide +kernel
theorem bt_list : bootBuiltins "list" = some (.type "list") := by decide +kernel
theorem bt_tuple : bootBuiltins "tuple" = some (.type "tuple") := by decide +kernel
theorem bt_dict : bootBuiltins "dict" = some (.type "dict") := by decide +kernel
theorem bt_bool : bootBuiltins "bool" = some (.type "bool") := by decide +kernel
theorem bt_str : bootBuiltins "str" = some (.type "str") := by decide +kernel
theorem bt_isinstance : bootBuiltins "isinstance" = some (.builtin "isinstance") := by decide +kernel

/-! ### the end of a law -/
/-- no list is a constant of the program -/
def noLists (K : PySem.W.Frag) : Bool := K.all fun q => decide (q.2.cls ≠ .type "list")
theorem noLists_ok {K : PySem.W.Frag} (h : noLists K = true) {a : Addr} {o : Obj} (e : K.lookup a = some o) : o.cls ≠ .type "list" :=
  of_decide_eq_true (List.all_eq_true.mp h (a, o) (He.lookup_mem e))
/-- the law's own promise from its meaning -/
theorem law_den {K : PySem.W.Frag} {Ts : List Addr} {xc : Nat → Value} {den : DenN} (hK : noLists K = true) {H : Hp} {a : Addr} {ns : List Int} (hT : ∀ P ∈ Ts, H P = some (.tbl #[])) (hS : SqL K H a (ns.map V.int)) (h : den [.list (ns.map PyData.int)] = R.ok (bool true)) :
    SpN K Ts xc 1 den [.ref a] H (fun v _ => v = .bl true) fun _ _ _ => False := by
  have hR : Rd H a (.lst (ns.map V.int)) := by
    rcases hS with hS | hS
    · exact hS
    · obtain ⟨o, us, n, h1, h2, _⟩ := hS
      exact absurd h2 (noLists_ok hK h1)
  have hd : ∀ F0 : Hp, DqAll K F0 (ns.map V.int) (ns.map PyData.int) := fun F0 => dpAll_of (by simp) fun i v d e1 e2 => by
    rw [List.getElem?_map] at e1 e2
    cases q : ns[i]? with
    | none => rw [q] at e1; cases e1
    | some n =>
      rw [q] at e1 e2
      cases e1; cases e2
      exact .int _
  have aT : ∀ P ∈ Ts, P ≠ a := fun P hP z => by
    have e := hT P hP
    rw [z] at e
    rcases hR with q | ⟨o, q⟩
    · rw [q] at e; cases e
    · rw [q] at e; cases e
  refine ⟨fun b => if b = a then H a else none, [.list (ns.map PyData.int)], rfl, .cons (.lst ?_ (hd _)) .nil, ⟨fun b o e => ?_, fun P hP => ⟨⟨#[], hT P hP, trivial⟩, if_neg (aT P hP), by simp⟩, fun b hb => by cases hb⟩, ?_⟩
  · rcases hR with q | ⟨o, q⟩
    · exact .inl (by show (if a = a then H a else none) = _; rw [if_pos rfl]; exact q)
    · exact .inr ⟨o, by show (if a = a then H a else none) = _; rw [if_pos rfl]; exact q⟩
  · have e : (if b = a then H a else none) = some o := e
    split at e
    · rename_i z; rw [z]; exact e
    · cases e
  · rw [h]
    intro x F' H' fp _ _ r _ _
    exact repc_bool r
end PF
/-! PF21: ends -/
namespace PF
open PySem PySem.Spec L2
theorem cx_no {P : Program} {w : World} {H : Hp} {s : Shared} {e : Value} {s' : Shared} (h : L2.CX P w [] H s (fun _ _ _ => False) e s') : False := by
  obtain ⟨_, _, _, _, _, _, _, _, _, _, _, _, h⟩ := h
  exact h
end PF
/-! PF22: reading what a text computes -/
namespace PF
open PySem L2
theorem bnd_ok {α β : Type} (a : α) (f : α → R β) : (R.ok a).bnd f = f a := rfl
theorem noR_k {α : Type} (a : α) : noR (R.ok a) = R.ok a := rfl
theorem some_ok {α : Type} (a : α) : (some (.ok a) : R α) = R.ok a := rfl
theorem gLen_ol (cs : List Cell) : gLen (.ol cs) = some (int cs.length) := rfl
theorem gLen_tup (ds : List D) : gLen (tup ds) = some (int ds.length) := rfl
theorem gLen_list (ds : List D) : gLen (.fz (.list ds)) = some (int ds.length) := rfl
theorem gEq_int (i j : Int) : gEq (int i) (int j) = some (bool (decide (i = j))) := rfl
theorem gNe_int (i j : Int) : gNe (int i) (int j) = some (bool (!decide (i = j))) := rfl
theorem gI_int (p : Int → Int → Bool) (i j : Int) : gI p (int i) (int j) = some (bool (p i j)) := rfl
theorem gAdd_int (i j : Int) : gAdd (int i) (int j) = some (int (i + j)) := rfl
theorem gSub_int (i j : Int) : gSub (int i) (int j) = some (int (i - j)) := rfl
theorem gMod_pos {i j : Int} (h : 0 < j) : gMod (int i) (int j) = some (int (i % j)) := by show (if 0 < j then _ else _) = _; rw [if_pos h]
theorem gInt_int (i : Int) : gInt (int i) = some (int i) := rfl
theorem gAbs_int (i : Int) : gAbs (int i) = some (int (if i < 0 then -i else i)) := rfl
theorem gMul_r {i j : Int} (h : -(2 ^ 64) < j ∧ j < 2 ^ 64) : gMulA (int i) (int j) = some (int (i * j)) := by
  show (if fitsM i j = true then _ else _) = _
  rw [if_pos]
  unfold fitsM
  rw [decide_eq_true h]
  simp
theorem gMul_l {i j : Int} (h : -(2 ^ 64) < i ∧ i < 2 ^ 64) : gMulA (int i) (int j) = some (int (i * j)) := by
  show (if fitsM i j = true then _ else _) = _
  rw [if_pos]
  unfold fitsM
  rw [decide_eq_true h]
  simp
theorem opE_of {g : List Cell → Option Cell} {as : List AF} {env env' : Env} {l : List Arg} {cs : List Cell} {c : Cell} (h1 : evA as env = R.ok (l, env')) (h2 : cellsOf env' l = some cs) (h3 : g cs = some c) : opE g as env = R.ok (c, env') := by
  unfold opE
  rw [h1, bnd_ok]
  show (match cellsOf env' l with | some cs => (match g cs with | some c => R.ok (c, env') | none => none) | none => none) = _
  rw [h2]
  show (match g cs with | some c => R.ok (c, env') | none => none) = _
  rw [h3]
theorem valB_bool {f : EF} {env env' : Env} {b : Bool} (h : f env = R.ok (bool b, env')) : valB f env = R.ok (b, env') := by
  unfold valB
  rw [h] <;> rfl
def intC (l : List Int) : Cell := lst (l.map .int)
theorem intC_def (l : List Int) : intC l = .ol ((l.map PyData.int).map Cell.fz) := rfl
def TAKE : SF := seqS (ifS (valB (opE (on2 (gEq)) [.e (opE (on1 gLen) [.s 0]), .e (cst (.int 0))])) (retS (cst (.int 0))) (passS)) (retS (opE (on2 gMod) [.e (opE (on1 gInt) [.e (popE 0)]), .s 1]))
/-- the draw, and what is left -/
def take1 (l : List Int) (b : Int) : Int × List Int := (match l.getLast? with
  | none => 0
  | some x => x % b, l.dropLast)
/-! ### statements -/
theorem seqS_nx {f g : SF} {env env' : Env} (h : f env = R.ok (.nx, env')) : seqS f g env = g env' := by
  unfold seqS
  rw [h] <;> rfl
theorem seqS_rt {f g : SF} {env env' : Env} {c : Cell} (h : f env = R.ok (.rt c, env')) : seqS f g env = R.ok (.rt c, env') := by
  unfold seqS
  rw [h] <;> rfl
theorem ifS_t {b : BF} {f g : SF} {env env' : Env} (h : b env = R.ok (true, env')) : ifS b f g env = f env' := by
  unfold ifS
  rw [h] <;> rfl
theorem ifS_f {b : BF} {f g : SF} {env env' : Env} (h : b env = R.ok (false, env')) : ifS b f g env = g env' := by
  unfold ifS
  rw [h] <;> rfl
theorem ifS_b {b : BF} {f g : SF} {env env' : Env} {v : Bool} (h : b env = R.ok (v, env')) : ifS b f g env = if v = true then f env' else g env' := by
  unfold ifS
  rw [h] <;> rfl
theorem asgS_of {f : EF} {t : TF} {env env' env2 : Env} {c : Cell} (h : f env = R.ok (c, env')) (h2 : t c env' = R.ok env2) : asgS f t env = R.ok (.nx, env2) := by
  unfold asgS
  rw [h, bnd_ok]
  show (t c env').bnd _ = _
  rw [h2] <;> rfl
theorem retS_of {f : EF} {env env' : Env} {c : Cell} (h : f env = R.ok (c, env')) : retS f env = R.ok (.rt c, env') := by
  unfold retS
  rw [h] <;> rfl
theorem dropS_of {f : EF} {env env' : Env} {c : Cell} (h : f env = R.ok (c, env')) : dropS f env = R.ok (.nx, env') := by
  unfold dropS
  rw [h] <;> rfl
theorem forS_of {it : IF} {t : TF} {b : SF} {env env' : Env} {ds : List D} (h : it env = R.ok (ds, env')) : forS it t b env = forL t b ds env' := by
  unfold forS
  rw [h] <;> rfl
/-- a walk that goes to its end -/
theorem forL_inv {t : TF} {b : SF} (I : Nat → Env → Prop) : ∀ {ds : List D} {k : Nat} {env : Env}, I k env → (∀ j d env, ds[j]? = some d → I (k + j) env → ∃ e1 o e2, t (.fz d) env = R.ok e1 ∧ b e1 = R.ok (o, e2) ∧ (o = .nx ∨ o = .ct) ∧ I (k + j + 1) e2) → ∃ env', forL t b ds env = R.ok (.nx, env') ∧ I (k + ds.length) env'
  | [], k, env, h, _ => ⟨env, rfl, h⟩
  | d :: ds, k, env, h, st => by
    obtain ⟨e1, o, e2, h1, h2, ho, h3⟩ := st 0 d env rfl h
    obtain ⟨env', h4, h5⟩ := forL_inv (ds := ds) (k := k + 1) I h3 fun j d' env hj hI => by
      have z := st (j + 1) d' env hj (by rw [show k + (j + 1) = k + 1 + j by omega]; exact hI)
      rw [show k + (j + 1) = k + 1 + j by omega] at z
      exact z
    refine ⟨env', ?_, by rw [List.length_cons, show k + (ds.length + 1) = k + 1 + ds.length by omega]; exact h5⟩
    unfold forL
    rw [h1, bnd_ok, h2, bnd_ok]
    rcases ho with rfl | rfl <;> exact h4
theorem fin1_rt {c : Cell} {env : Env} : fin1 (R.ok (.rt c, env)) = R.ok c := rfl
theorem intC_snoc (l : List Int) (x : Int) : (.ol ((l.map PyData.int).map Cell.fz ++ [int x]) : Cell) = intC (l ++ [x]) := by
  unfold intC lst
  rw [List.map_append, List.map_append] <;> rfl
theorem popE_int {i : Nat} {env : Env} {l : List Int} {x : Int} (h : env[i]? = some (some (intC (l ++ [x])))) : popE i env = R.ok (int x, env.set i (some (intC l))) := by
  unfold popE
  rw [h, ← intC_snoc]
  show (match ((l.map PyData.int).map Cell.fz ++ [int x])[((l.map PyData.int).map Cell.fz ++ [int x]).length - 1]? with | some c => R.ok (c, env.set i (some (.ol ((l.map PyData.int).map Cell.fz ++ [int x]).dropLast))) | none => none) = _
  rw [List.length_append, List.length_singleton, Nat.add_sub_cancel, List.getElem?_append_right (Nat.le_refl _), Nat.sub_self, List.dropLast_concat] <;> rfl
theorem den_take (l : List Int) {b : Int} (hb : 0 < b) : denI TAKE 2 (intC l) [.int b] = R.ok (int (take1 l b).1, intC (take1 l b).2) := by
  rcases List.eq_nil_or_concat l with rfl | ⟨l, x, rfl⟩
  · rfl
  · rw [List.concat_eq_append]
    have e : TAKE [some (intC (l ++ [x])), some (int b)] = R.ok (.rt (int (x % b)), [some (intC l), some (int b)]) := by
      unfold TAKE
      rw [seqS_nx (env' := [some (intC (l ++ [x])), some (int b)])]
      · refine retS_of ?_
        refine opE_of (l := [.v (int x), .s 1]) (cs := [int x, int b]) (env' := [some (intC l), some (int b)]) ?_ rfl (gMod_pos hb)
        have h2 : popE 0 [some (intC (l ++ [x])), some (int b)] = R.ok (int x, [some (intC l), some (int b)]) := popE_int rfl
        simp only [seqS, asgS, ifS, retS, dropS, passS, brkS, cntS, nameT, opE, evA, cellsOf, Arg.cell, valB, andB, orB, notB, andV, orV, notV, iteE, varZ, varM, cst, on1, on2, one1, one2, one3, itA, itE, tupE, lstE, dataOf, ownOf, argsD, wipeE, restE, yesB, bnd_ok, some_ok, noR_k, fin1, fin2, List.getElem?_cons_zero, List.getElem?_cons_succ, List.set_cons_zero, List.set_cons_succ, List.length_cons, List.length_nil, List.map_cons, List.map_nil, List.append_nil, List.nil_append, List.cons_append, List.replicate_zero, List.replicate_succ, Option.map_some, Option.map_none, gLen_ol, gLen_tup, gLen_list, gEq_int, gNe_int, gI_int, gAdd_int, gSub_int, gInt_int, gAbs_int, if_true, if_false, ite_true, ite_false, Bool.false_eq_true, reduceIte, decide_eq_true_eq, Bool.not_eq_true', decide_eq_false_iff_not, Nat.reduceAdd, Nat.reduceLT, Nat.reduceSub, Nat.reduceLeDiff, Nat.zero_lt_succ, h2]
      · rw [ifS_f (env' := [some (intC (l ++ [x])), some (int b)])]
        · rfl
        · have h0 : ((l ++ [x]).length : Int) ≠ 0 := by simp; omega
          have h1 : (((l ++ [x]).map PyData.int).map Cell.fz).length = (l ++ [x]).length := by simp
          refine valB_bool (opE_of (l := [.v (int (l ++ [x]).length), .v (int 0)]) (cs := [int (l ++ [x]).length, int 0]) ?_ rfl ?_)
          · have h2 : gLen (intC (l ++ [x])) = some (int (l ++ [x]).length) := by
              rw [intC_def, gLen_ol, h1]
            simp only [seqS, asgS, ifS, retS, dropS, passS, brkS, cntS, nameT, opE, evA, cellsOf, Arg.cell, valB, andB, orB, notB, andV, orV, notV, iteE, varZ, varM, cst, on1, on2, one1, one2, one3, itA, itE, tupE, lstE, dataOf, ownOf, argsD, wipeE, restE, yesB, bnd_ok, some_ok, noR_k, fin1, fin2, List.getElem?_cons_zero, List.getElem?_cons_succ, List.set_cons_zero, List.set_cons_succ, List.length_cons, List.length_nil, List.map_cons, List.map_nil, List.append_nil, List.nil_append, List.cons_append, List.replicate_zero, List.replicate_succ, Option.map_some, Option.map_none, gLen_ol, gLen_tup, gLen_list, gEq_int, gNe_int, gI_int, gAdd_int, gSub_int, gInt_int, gAbs_int, if_true, if_false, ite_true, ite_false, Bool.false_eq_true, reduceIte, decide_eq_true_eq, Bool.not_eq_true', decide_eq_false_iff_not, Nat.reduceAdd, Nat.reduceLT, Nat.reduceSub, Nat.reduceLeDiff, Nat.zero_lt_succ, h2]
          · show gEq _ _ = _
            rw [gEq_int, decide_eq_false h0]
    show fin2 (TAKE [some (intC (l ++ [x])), some (int b)]) = _
    rw [e]
    unfold take1
    simp [fin2, bnd_ok]
theorem appE_int {i : Nat} {f : EF} {env env' : Env} {l : List Int} {x : Int} (h0 : env[i]? = some (some (intC l))) (hf : f env = R.ok (int x, env')) (h : env'[i]? = some (some (intC l))) (hl : l.length < lim) : appE i f env = R.ok (.fz .none, env'.set i (some (intC (l ++ [x])))) := by
  unfold appE
  rw [h0]
  show ((f env).bnd _) = _
  rw [hf, bnd_ok]
  show (match env'[i]? with
    | some (some (.ol cs)) => if cs.length < lim then R.ok ((.fz .none : Cell), env'.set i (some (.ol (cs ++ [int x])))) else none
    | _ => none) = _
  rw [h]
  show (if ((l.map PyData.int).map Cell.fz).length < lim then R.ok ((.fz .none : Cell), env'.set i (some (.ol ((l.map PyData.int).map Cell.fz ++ [int x])))) else none) = _
  rw [if_pos (by simpa using hl), intC_snoc]
def DR1 : SF := ifS (valB (opE (on2 (gI fun i j => decide (j < i))) [.s 5, .e (cst (.int 0))])) (seqS (dropS (appE 1 (opE (on2 gMod) [.e (opE (on1 gInt) [.s 5]), .e (cst (.int 997))]))) (asgS (opE (on2 gDiv) [.s 5, .e (cst (.int 997))]) (nameT 5))) (passS)
def DR2 : SF := seqS (asgS (opE (on1 gAbs) [.s 2]) (nameT 5)) (seqS (ifS (valB (opE (on2 (gI fun i j => decide (i < j))) [.s 5, .e (opE (on2 gPow) [.e (cst (.int 10)), .e (cst (.int 18))])])) (seqS (asgS (opE (on2 gMod) [.e (opE (on1 gInt) [.e (opE (on2 gAdd) [.e (opE (on2 gMulA) [.s 5, .e (cst (.int 48271))]), .e (cst (.int 11))])]), .e (cst (.int 2147483647))]) (nameT 6)) (seqS (dropS (appE 1 (opE (on2 gMod) [.e (opE (on1 gInt) [.e (opE (on2 gAdd) [.e (opE (on2 gMulA) [.s 6, .e (cst (.int 69621))]), .s 5])]), .e (cst (.int 2147483629))]))) (seqS (dropS (appE 1 (opE (on2 gMod) [.e (opE (on1 gInt) [.e (opE (on2 gAdd) [.s 6, .e (opE (on2 gDiv) [.s 5, .e (cst (.int 7))])])]), .e (cst (.int 1000003))]))) (asgS (cst (.int 0)) (nameT 5))))) (passS)) (forS (itA (one1 rng1) [.e (cst (.int 60))]) (nameT 4) DR1))
def DR3 : SF := seqS (asgS (opE (on2 gMod) [.e (opE (on1 gInt) [.e (opE (on2 gAdd) [.e (opE (on2 gMulA) [.s 3, .e (cst (.int 48271))]), .e (cst (.int 69621))])]), .e (cst (.int 2147483647))]) (nameT 3)) (dropS (appE 1 (opE (on2 gDiv) [.s 3, .e (cst (.int 5))])))
def DRAWS : SF := seqS (asgS (lstE []) (nameT 1)) (seqS (forS (itE (varZ 0)) (nameT 2) DR2) (seqS (asgS (cst (.int 1)) (nameT 3)) (seqS (ifS (valB (opE (on2 (gI fun i j => decide (j < i))) [.e (opE (on1 gLen) [.s 0]), .e (cst (.int 0))])) (asgS (opE (on2 gAdd) [.e (cst (.int 1)), .e (opE (on1 gAbs) [.e (opE (on2 gIx) [.s 0, .e (cst (.int 0))])])]) (nameT 3)) (passS)) (seqS (forS (itA (one1 rng1) [.e (cst (.int 900))]) (nameT 4) DR3) (retS (opE (on1 gLstRev) [.s 1]))))))
theorem gDiv_pos {i j : Int} (h : 0 < j ∧ j.natAbs.log2 < 9000) : gDiv (int i) (int j) = some (int (i / j)) := by
  show (if 0 < j ∧ j.natAbs.log2 < 9000 then _ else _) = _
  rw [if_pos h]
theorem dr1 {s : Cell} {l : List Int} {a2 a3 a6 : Option Cell} {d : D} {n : Int} (hl : l.length < lim) :
    ∃ l2 n2, DR1 [some s, some (intC l), a2, a3, some (.fz d), some (int n), a6] = R.ok (.nx, [some s, some (intC l2), a2, a3, some (.fz d), some (int n2), a6]) ∧ l2.length ≤ l.length + 1 := by
  unfold DR1
  rw [ifS_b (v := decide (0 < n)) (env' := [some s, some (intC l), a2, a3, some (.fz d), some (int n), a6]) (by simp only [seqS, asgS, ifS, retS, dropS, passS, brkS, cntS, nameT, opE, evA, cellsOf, Arg.cell, valB, andB, orB, notB, andV, orV, notV, iteE, varZ, varM, cst, on1, on2, one1, one2, one3, itA, itE, tupE, lstE, dataOf, ownOf, argsD, wipeE, restE, yesB, bnd_ok, some_ok, noR_k, fin1, fin2, List.getElem?_cons_zero, List.getElem?_cons_succ, List.set_cons_zero, List.set_cons_succ, List.length_cons, List.length_nil, List.map_cons, List.map_nil, List.append_nil, List.nil_append, List.cons_append, List.replicate_zero, List.replicate_succ, Option.map_some, Option.map_none, gLen_ol, gLen_tup, gLen_list, gEq_int, gNe_int, gI_int, gAdd_int, gSub_int, gInt_int, gAbs_int, if_true, if_false, ite_true, ite_false, Bool.false_eq_true, reduceIte, decide_eq_true_eq, Bool.not_eq_true', decide_eq_false_iff_not, Nat.reduceAdd, Nat.reduceLT, Nat.reduceSub, Nat.reduceLeDiff, Nat.zero_lt_succ])]
  split
  · refine ⟨l ++ [n % 997], n / 997, ?_, by simp⟩
    rw [seqS_nx (dropS_of (appE_int rfl (x := n % 997) (env' := [some s, some (intC l), a2, a3, some (.fz d), some (int n), a6]) (by simp only [seqS, asgS, ifS, retS, dropS, passS, brkS, cntS, nameT, opE, evA, cellsOf, Arg.cell, valB, andB, orB, notB, andV, orV, notV, iteE, varZ, varM, cst, on1, on2, one1, one2, one3, itA, itE, tupE, lstE, dataOf, ownOf, argsD, wipeE, restE, yesB, bnd_ok, some_ok, noR_k, fin1, fin2, List.getElem?_cons_zero, List.getElem?_cons_succ, List.set_cons_zero, List.set_cons_succ, List.length_cons, List.length_nil, List.map_cons, List.map_nil, List.append_nil, List.nil_append, List.cons_append, List.replicate_zero, List.replicate_succ, Option.map_some, Option.map_none, gLen_ol, gLen_tup, gLen_list, gEq_int, gNe_int, gI_int, gAdd_int, gSub_int, gInt_int, gAbs_int, if_true, if_false, ite_true, ite_false, Bool.false_eq_true, reduceIte, decide_eq_true_eq, Bool.not_eq_true', decide_eq_false_iff_not, Nat.reduceAdd, Nat.reduceLT, Nat.reduceSub, Nat.reduceLeDiff, Nat.zero_lt_succ, gMod_pos (show (0 : Int) < 997 by decide)]) rfl hl))]
    simp only [seqS, asgS, ifS, retS, dropS, passS, brkS, cntS, nameT, opE, evA, cellsOf, Arg.cell, valB, andB, orB, notB, andV, orV, notV, iteE, varZ, varM, cst, on1, on2, one1, one2, one3, itA, itE, tupE, lstE, dataOf, ownOf, argsD, wipeE, restE, yesB, bnd_ok, some_ok, noR_k, fin1, fin2, List.getElem?_cons_zero, List.getElem?_cons_succ, List.set_cons_zero, List.set_cons_succ, List.length_cons, List.length_nil, List.map_cons, List.map_nil, List.append_nil, List.nil_append, List.cons_append, List.replicate_zero, List.replicate_succ, Option.map_some, Option.map_none, gLen_ol, gLen_tup, gLen_list, gEq_int, gNe_int, gI_int, gAdd_int, gSub_int, gInt_int, gAbs_int, if_true, if_false, ite_true, ite_false, Bool.false_eq_true, reduceIte, decide_eq_true_eq, Bool.not_eq_true', decide_eq_false_iff_not, Nat.reduceAdd, Nat.reduceLT, Nat.reduceSub, Nat.reduceLeDiff, Nat.zero_lt_succ, gDiv_pos (i := n) (show (0 : Int) < 997 ∧ (997 : Int).natAbs.log2 < 9000 by decide +kernel)]
  · exact ⟨l, n, rfl, by omega⟩
theorem dr2 {s : Cell} {l : List Int} {a4 a5 a6 : Option Cell} {n : Int} (hl : l.length + 100 < lim) :
    ∃ l2 b4 b5 b6, DR2 [some s, some (intC l), some (int n), none, a4, a5, a6] = R.ok (.nx, [some s, some (intC l2), some (int n), none, b4, b5, b6]) ∧ l2.length ≤ l.length + 62 := by
  unfold DR2
  rw [seqS_nx (env' := [some s, some (intC l), some (int n), none, a4, some (int (if n < 0 then -n else n)), a6]) (by simp only [seqS, asgS, ifS, retS, dropS, passS, brkS, cntS, nameT, opE, evA, cellsOf, Arg.cell, valB, andB, orB, notB, andV, orV, notV, iteE, varZ, varM, cst, on1, on2, one1, one2, one3, itA, itE, tupE, lstE, dataOf, ownOf, argsD, wipeE, restE, yesB, bnd_ok, some_ok, noR_k, fin1, fin2, List.getElem?_cons_zero, List.getElem?_cons_succ, List.set_cons_zero, List.set_cons_succ, List.length_cons, List.length_nil, List.map_cons, List.map_nil, List.append_nil, List.nil_append, List.cons_append, List.replicate_zero, List.replicate_succ, Option.map_some, Option.map_none, gLen_ol, gLen_tup, gLen_list, gEq_int, gNe_int, gI_int, gAdd_int, gSub_int, gInt_int, gAbs_int, if_true, if_false, ite_true, ite_false, Bool.false_eq_true, reduceIte, decide_eq_true_eq, Bool.not_eq_true', decide_eq_false_iff_not, Nat.reduceAdd, Nat.reduceLT, Nat.reduceSub, Nat.reduceLeDiff, Nat.zero_lt_succ])]
  generalize (if n < 0 then -n else n) = m
  obtain ⟨l1, m1, c6, h1, h2⟩ : ∃ l1 m1 c6, (ifS (valB (opE (on2 (gI fun i j => decide (i < j))) [.s 5, .e (opE (on2 gPow) [.e (cst (.int 10)), .e (cst (.int 18))])])) (seqS (asgS (opE (on2 gMod) [.e (opE (on1 gInt) [.e (opE (on2 gAdd) [.e (opE (on2 gMulA) [.s 5, .e (cst (.int 48271))]), .e (cst (.int 11))])]), .e (cst (.int 2147483647))]) (nameT 6)) (seqS (dropS (appE 1 (opE (on2 gMod) [.e (opE (on1 gInt) [.e (opE (on2 gAdd) [.e (opE (on2 gMulA) [.s 6, .e (cst (.int 69621))]), .s 5])]), .e (cst (.int 2147483629))]))) (seqS (dropS (appE 1 (opE (on2 gMod) [.e (opE (on1 gInt) [.e (opE (on2 gAdd) [.s 6, .e (opE (on2 gDiv) [.s 5, .e (cst (.int 7))])])]), .e (cst (.int 1000003))]))) (asgS (cst (.int 0)) (nameT 5))))) (passS)) [some s, some (intC l), some (int n), none, a4, some (int m), a6] =
      R.ok (.nx, [some s, some (intC l1), some (int n), none, a4, some (int m1), c6]) ∧ l1.length ≤ l.length + 2 := by
    have hp : gPow (int 10) (int 18) = some (int 1000000000000000000) := rfl
    rw [ifS_b (v := decide (m < 1000000000000000000)) (env' := [some s, some (intC l), some (int n), none, a4, some (int m), a6]) (by simp only [seqS, asgS, ifS, retS, dropS, passS, brkS, cntS, nameT, opE, evA, cellsOf, Arg.cell, valB, andB, orB, notB, andV, orV, notV, iteE, varZ, varM, cst, on1, on2, one1, one2, one3, itA, itE, tupE, lstE, dataOf, ownOf, argsD, wipeE, restE, yesB, bnd_ok, some_ok, noR_k, fin1, fin2, List.getElem?_cons_zero, List.getElem?_cons_succ, List.set_cons_zero, List.set_cons_succ, List.length_cons, List.length_nil, List.map_cons, List.map_nil, List.append_nil, List.nil_append, List.cons_append, List.replicate_zero, List.replicate_succ, Option.map_some, Option.map_none, gLen_ol, gLen_tup, gLen_list, gEq_int, gNe_int, gI_int, gAdd_int, gSub_int, gInt_int, gAbs_int, if_true, if_false, ite_true, ite_false, Bool.false_eq_true, reduceIte, decide_eq_true_eq, Bool.not_eq_true', decide_eq_false_iff_not, Nat.reduceAdd, Nat.reduceLT, Nat.reduceSub, Nat.reduceLeDiff, Nat.zero_lt_succ, hp])]
    split
    · refine ⟨l ++ [((m * 48271 + 11) % 2147483647 * 69621 + m) % 2147483629] ++ [((m * 48271 + 11) % 2147483647 + m / 7) % 1000003], 0, some (int ((m * 48271 + 11) % 2147483647)), ?_, by simp⟩
      have hm : gMulA (int m) (int 48271) = some (int (m * 48271)) := gMul_r (by decide)
      have hm2 : ∀ x : Int, gMulA (int x) (int 69621) = some (int (x * 69621)) := fun x => gMul_r (by decide)
      have hd := gDiv_pos (i := m) (show (0 : Int) < 7 ∧ (7 : Int).natAbs.log2 < 9000 by decide +kernel)
      rw [seqS_nx (env' := [some s, some (intC l), some (int n), none, a4, some (int m), some (int ((m * 48271 + 11) % 2147483647))]) (by simp only [seqS, asgS, ifS, retS, dropS, passS, brkS, cntS, nameT, opE, evA, cellsOf, Arg.cell, valB, andB, orB, notB, andV, orV, notV, iteE, varZ, varM, cst, on1, on2, one1, one2, one3, itA, itE, tupE, lstE, dataOf, ownOf, argsD, wipeE, restE, yesB, bnd_ok, some_ok, noR_k, fin1, fin2, List.getElem?_cons_zero, List.getElem?_cons_succ, List.set_cons_zero, List.set_cons_succ, List.length_cons, List.length_nil, List.map_cons, List.map_nil, List.append_nil, List.nil_append, List.cons_append, List.replicate_zero, List.replicate_succ, Option.map_some, Option.map_none, gLen_ol, gLen_tup, gLen_list, gEq_int, gNe_int, gI_int, gAdd_int, gSub_int, gInt_int, gAbs_int, if_true, if_false, ite_true, ite_false, Bool.false_eq_true, reduceIte, decide_eq_true_eq, Bool.not_eq_true', decide_eq_false_iff_not, Nat.reduceAdd, Nat.reduceLT, Nat.reduceSub, Nat.reduceLeDiff, Nat.zero_lt_succ, hm, gMod_pos (show (0 : Int) < 2147483647 by decide)])]
      rw [seqS_nx (env' := [some s, some (intC (l ++ [((m * 48271 + 11) % 2147483647 * 69621 + m) % 2147483629])), some (int n), none, a4, some (int m), some (int ((m * 48271 + 11) % 2147483647))]) (dropS_of (appE_int rfl (x := ((m * 48271 + 11) % 2147483647 * 69621 + m) % 2147483629) (env' := [some s, some (intC l), some (int n), none, a4, some (int m), some (int ((m * 48271 + 11) % 2147483647))]) (by simp only [seqS, asgS, ifS, retS, dropS, passS, brkS, cntS, nameT, opE, evA, cellsOf, Arg.cell, valB, andB, orB, notB, andV, orV, notV, iteE, varZ, varM, cst, on1, on2, one1, one2, one3, itA, itE, tupE, lstE, dataOf, ownOf, argsD, wipeE, restE, yesB, bnd_ok, some_ok, noR_k, fin1, fin2, List.getElem?_cons_zero, List.getElem?_cons_succ, List.set_cons_zero, List.set_cons_succ, List.length_cons, List.length_nil, List.map_cons, List.map_nil, List.append_nil, List.nil_append, List.cons_append, List.replicate_zero, List.replicate_succ, Option.map_some, Option.map_none, gLen_ol, gLen_tup, gLen_list, gEq_int, gNe_int, gI_int, gAdd_int, gSub_int, gInt_int, gAbs_int, if_true, if_false, ite_true, ite_false, Bool.false_eq_true, reduceIte, decide_eq_true_eq, Bool.not_eq_true', decide_eq_false_iff_not, Nat.reduceAdd, Nat.reduceLT, Nat.reduceSub, Nat.reduceLeDiff, Nat.zero_lt_succ, hm2, gMod_pos (show (0 : Int) < 2147483629 by decide)]) rfl (by omega)))]
      rw [seqS_nx (dropS_of (appE_int rfl (x := ((m * 48271 + 11) % 2147483647 + m / 7) % 1000003) (env' := [some s, some (intC (l ++ [((m * 48271 + 11) % 2147483647 * 69621 + m) % 2147483629])), some (int n), none, a4, some (int m), some (int ((m * 48271 + 11) % 2147483647))]) (by simp only [seqS, asgS, ifS, retS, dropS, passS, brkS, cntS, nameT, opE, evA, cellsOf, Arg.cell, valB, andB, orB, notB, andV, orV, notV, iteE, varZ, varM, cst, on1, on2, one1, one2, one3, itA, itE, tupE, lstE, dataOf, ownOf, argsD, wipeE, restE, yesB, bnd_ok, some_ok, noR_k, fin1, fin2, List.getElem?_cons_zero, List.getElem?_cons_succ, List.set_cons_zero, List.set_cons_succ, List.length_cons, List.length_nil, List.map_cons, List.map_nil, List.append_nil, List.nil_append, List.cons_append, List.replicate_zero, List.replicate_succ, Option.map_some, Option.map_none, gLen_ol, gLen_tup, gLen_list, gEq_int, gNe_int, gI_int, gAdd_int, gSub_int, gInt_int, gAbs_int, if_true, if_false, ite_true, ite_false, Bool.false_eq_true, reduceIte, decide_eq_true_eq, Bool.not_eq_true', decide_eq_false_iff_not, Nat.reduceAdd, Nat.reduceLT, Nat.reduceSub, Nat.reduceLeDiff, Nat.zero_lt_succ, hd, gMod_pos (show (0 : Int) < 1000003 by decide)]) rfl (by rw [List.length_append, List.length_singleton]; omega)))]
      simp only [seqS, asgS, ifS, retS, dropS, passS, brkS, cntS, nameT, opE, evA, cellsOf, Arg.cell, valB, andB, orB, notB, andV, orV, notV, iteE, varZ, varM, cst, on1, on2, one1, one2, one3, itA, itE, tupE, lstE, dataOf, ownOf, argsD, wipeE, restE, yesB, bnd_ok, some_ok, noR_k, fin1, fin2, List.getElem?_cons_zero, List.getElem?_cons_succ, List.set_cons_zero, List.set_cons_succ, List.length_cons, List.length_nil, List.map_cons, List.map_nil, List.append_nil, List.nil_append, List.cons_append, List.replicate_zero, List.replicate_succ, Option.map_some, Option.map_none, gLen_ol, gLen_tup, gLen_list, gEq_int, gNe_int, gI_int, gAdd_int, gSub_int, gInt_int, gAbs_int, if_true, if_false, ite_true, ite_false, Bool.false_eq_true, reduceIte, decide_eq_true_eq, Bool.not_eq_true', decide_eq_false_iff_not, Nat.reduceAdd, Nat.reduceLT, Nat.reduceSub, Nat.reduceLeDiff, Nat.zero_lt_succ]
    · exact ⟨l, m, a6, rfl, by omega⟩
  rw [seqS_nx h1, forS_of (ds := upI 0 60) (env' := [some s, some (intC l1), some (int n), none, a4, some (int m1), c6]) (by rfl)]
  have h60 : (upI 0 60).length = 60 := rfl
  generalize upI 0 60 = ds at h60
  obtain ⟨env', h3, l2, c4, m2, he, h4⟩ := forL_inv (t := nameT 4) (b := DR1) (fun k env => ∃ l2 c4 m2, env = [some s, some (intC l2), some (int n), none, c4, some (int m2), c6] ∧ l2.length ≤ l1.length + k) (ds := ds) (k := 0) (env := [some s, some (intC l1), some (int n), none, a4, some (int m1), c6]) ⟨l1, a4, m1, rfl, by omega⟩ fun j d env hj ⟨l2, c4, m2, he, h5⟩ => by
    subst he
    have hj2 : j < ds.length := (List.getElem?_eq_some_iff.mp hj).1
    obtain ⟨l3, m3, h6, h7⟩ := dr1 (s := s) (l := l2) (a2 := some (int n)) (a3 := none) (a6 := c6) (d := d) (n := m2) (by omega)
    exact ⟨_, .nx, _, rfl, h6, .inl rfl, l3, some (.fz d), m3, rfl, by omega⟩
  subst he
  exact ⟨l2, c4, some (int m2), c6, h3, by omega⟩
theorem dr3 {s : Cell} {l : List Int} {a2 a5 a6 : Option Cell} {d : D} {n : Int} (hl : l.length < lim) :
    ∃ n2, DR3 [some s, some (intC l), a2, some (int n), some (.fz d), a5, a6] = R.ok (.nx, [some s, some (intC (l ++ [n2 / 5])), a2, some (int n2), some (.fz d), a5, a6]) ∧ 0 ≤ n2 := by
  unfold DR3
  have hm : gMulA (int n) (int 48271) = some (int (n * 48271)) := gMul_r (by decide)
  refine ⟨(n * 48271 + 69621) % 2147483647, ?_, by omega⟩
  rw [seqS_nx (env' := [some s, some (intC l), a2, some (int ((n * 48271 + 69621) % 2147483647)), some (.fz d), a5, a6]) (by simp only [seqS, asgS, ifS, retS, dropS, passS, brkS, cntS, nameT, opE, evA, cellsOf, Arg.cell, valB, andB, orB, notB, andV, orV, notV, iteE, varZ, varM, cst, on1, on2, one1, one2, one3, itA, itE, tupE, lstE, dataOf, ownOf, argsD, wipeE, restE, yesB, bnd_ok, some_ok, noR_k, fin1, fin2, List.getElem?_cons_zero, List.getElem?_cons_succ, List.set_cons_zero, List.set_cons_succ, List.length_cons, List.length_nil, List.map_cons, List.map_nil, List.append_nil, List.nil_append, List.cons_append, List.replicate_zero, List.replicate_succ, Option.map_some, Option.map_none, gLen_ol, gLen_tup, gLen_list, gEq_int, gNe_int, gI_int, gAdd_int, gSub_int, gInt_int, gAbs_int, if_true, if_false, ite_true, ite_false, Bool.false_eq_true, reduceIte, decide_eq_true_eq, Bool.not_eq_true', decide_eq_false_iff_not, Nat.reduceAdd, Nat.reduceLT, Nat.reduceSub, Nat.reduceLeDiff, Nat.zero_lt_succ, hm, gMod_pos (show (0 : Int) < 2147483647 by decide)])]
  exact dropS_of (appE_int rfl (env' := [some s, some (intC l), a2, some (int ((n * 48271 + 69621) % 2147483647)), some (.fz d), a5, a6]) (by simp only [seqS, asgS, ifS, retS, dropS, passS, brkS, cntS, nameT, opE, evA, cellsOf, Arg.cell, valB, andB, orB, notB, andV, orV, notV, iteE, varZ, varM, cst, on1, on2, one1, one2, one3, itA, itE, tupE, lstE, dataOf, ownOf, argsD, wipeE, restE, yesB, bnd_ok, some_ok, noR_k, fin1, fin2, List.getElem?_cons_zero, List.getElem?_cons_succ, List.set_cons_zero, List.set_cons_succ, List.length_cons, List.length_nil, List.map_cons, List.map_nil, List.append_nil, List.nil_append, List.cons_append, List.replicate_zero, List.replicate_succ, Option.map_some, Option.map_none, gLen_ol, gLen_tup, gLen_list, gEq_int, gNe_int, gI_int, gAdd_int, gSub_int, gInt_int, gAbs_int, if_true, if_false, ite_true, ite_false, Bool.false_eq_true, reduceIte, decide_eq_true_eq, Bool.not_eq_true', decide_eq_false_iff_not, Nat.reduceAdd, Nat.reduceLT, Nat.reduceSub, Nat.reduceLeDiff, Nat.zero_lt_succ, gDiv_pos (i := (n * 48271 + 69621) % 2147483647) (show (0 : Int) < 5 ∧ (5 : Int).natAbs.log2 < 9000 by decide +kernel)]) rfl hl)
theorem lst?_intC (l : List Int) : (intC l).lst? = some (l.map .int) := by
  show (if ((l.map PyData.int).map Cell.fz).all Cell.isFz = true then some (Cell.ds ((l.map PyData.int).map Cell.fz)) else none) = _
  rw [if_pos (by simp [List.all_map, Cell.isFz]), ds_fz]
theorem atI_nat {α : Type} {xs : List α} {i : Nat} {d : α} (h : xs[i]? = some d) : atI xs (i : Int) = some d := by
  have hl : i < xs.length := (List.getElem?_eq_some_iff.mp h).1
  unfold atI ixN
  rw [if_pos (by omega), if_pos (by omega)]
  exact h
theorem gIx_list {ds : List D} {i : Nat} {d : D} (h : ds[i]? = some d) : gIx (.fz (.list ds)) (int i) = some (.fz d) := by
  show (atI ds (i : Int)).map Cell.fz = _
  rw [atI_nat h] <;> rfl
theorem gIx_tup {ds : List D} {i : Nat} {d : D} (h : ds[i]? = some d) : gIx (tup ds) (int i) = some (.fz d) := by
  show (atI ds (i : Int)).map Cell.fz = _
  rw [atI_nat h] <;> rfl
/-- the draws are whole numbers -/
theorem den_draws (ns : List Int) (hn : ns.length ≤ 63) : ∃ l : List Int, denN DRAWS 7 [.list (ns.map .int)] = R.ok (intC l) ∧ 900 ≤ l.length ∧ l.length ≤ 5000 := by
  show ∃ l : List Int, fin1 (DRAWS [some (.fz (.list (ns.map .int))), none, none, none, none, none, none]) = _ ∧ _
  unfold DRAWS
  rw [seqS_nx (env' := [some (.fz (.list (ns.map .int))), some (intC []), none, none, none, none, none]) (by rfl)]
  obtain ⟨env', h1, l1, c2, c4, c5, c6, he, h2⟩ := forL_inv (t := nameT 2) (b := DR2) (fun k env => ∃ l2 c2 c4 c5 c6, env = [some (.fz (.list (ns.map .int))), some (intC l2), c2, none, c4, c5, c6] ∧ l2.length ≤ 62 * k) (ds := ns.map .int) (k := 0) (env := [some (.fz (.list (ns.map .int))), some (intC []), none, none, none, none, none]) ⟨[], none, none, none, none, rfl, by simp⟩ fun j d env hj ⟨l2, c2, c4, c5, c6, he, h5⟩ => by
    subst he
    rw [List.getElem?_map] at hj
    have hj2 : j < ns.length := by
      cases q : ns[j]? with
      | none => rw [q] at hj; cases hj
      | some n => exact (List.getElem?_eq_some_iff.mp q).1
    obtain ⟨n, -, rfl⟩ : ∃ n, ns[j]? = some n ∧ PyData.int n = d := by
      cases q : ns[j]? with
      | none => rw [q] at hj; cases hj
      | some n => rw [q] at hj; exact ⟨n, rfl, Option.some.inj hj⟩
    obtain ⟨l3, b4, b5, b6, h6, h7⟩ := dr2 (s := .fz (.list (ns.map .int))) (l := l2) (a4 := c4) (a5 := c5) (a6 := c6) (n := n) (by unfold lim; omega)
    exact ⟨_, .nx, _, rfl, h6, .inl rfl, l3, _, b4, b5, b6, rfl, by omega⟩
  subst he
  rw [List.length_map] at h2
  have hit : itE (varZ 0) [some (.fz (.list (ns.map .int))), some (intC []), none, none, none, none, none] = R.ok (ns.map PyData.int, [some (.fz (.list (ns.map .int))), some (intC []), none, none, none, none, none]) := by rfl
  rw [seqS_nx ((forS_of hit).trans h1)]
  rw [seqS_nx (env' := [some (.fz (.list (ns.map .int))), some (intC l1), c2, some (int 1), c4, c5, c6]) (by rfl)]
  obtain ⟨sd, h3⟩ : ∃ sd : Int, (ifS (valB (opE (on2 (gI fun i j => decide (j < i))) [.e (opE (on1 gLen) [.s 0]), .e (cst (.int 0))])) (asgS (opE (on2 gAdd) [.e (cst (.int 1)), .e (opE (on1 gAbs) [.e (opE (on2 gIx) [.s 0, .e (cst (.int 0))])])]) (nameT 3)) (passS)) [some (.fz (.list (ns.map .int))), some (intC l1), c2, some (int 1), c4, c5, c6] = R.ok (.nx, [some (.fz (.list (ns.map .int))), some (intC l1), c2, some (int sd), c4, c5, c6]) := by
    cases ns with
    | nil => exact ⟨1, rfl⟩
    | cons n ns =>
      refine ⟨1 + (if n < 0 then -n else n), ?_⟩
      rw [ifS_t (env' := [some (.fz (.list ((n :: ns).map .int))), some (intC l1), c2, some (int 1), c4, c5, c6])]
      · have hx : gIx (.fz (.list (.int n :: ns.map .int))) (int 0) = some (int n) := gIx_list (i := 0) rfl
        simp only [seqS, asgS, ifS, retS, dropS, passS, brkS, cntS, nameT, opE, evA, cellsOf, Arg.cell, valB, andB, orB, notB, andV, orV, notV, iteE, varZ, varM, cst, on1, on2, one1, one2, one3, itA, itE, tupE, lstE, dataOf, ownOf, argsD, wipeE, restE, yesB, bnd_ok, some_ok, noR_k, fin1, fin2, List.getElem?_cons_zero, List.getElem?_cons_succ, List.set_cons_zero, List.set_cons_succ, List.length_cons, List.length_nil, List.map_cons, List.map_nil, List.append_nil, List.nil_append, List.cons_append, List.replicate_zero, List.replicate_succ, Option.map_some, Option.map_none, gLen_ol, gLen_tup, gLen_list, gEq_int, gNe_int, gI_int, gAdd_int, gSub_int, gInt_int, gAbs_int, if_true, if_false, ite_true, ite_false, Bool.false_eq_true, reduceIte, decide_eq_true_eq, Bool.not_eq_true', decide_eq_false_iff_not, Nat.reduceAdd, Nat.reduceLT, Nat.reduceSub, Nat.reduceLeDiff, Nat.zero_lt_succ, hx]
      · have h9 : (0 : Int) < (((n :: ns).map PyData.int).length : Nat) := by simp
        refine valB_bool ?_
        refine opE_of (l := [.v (int (((n :: ns).map PyData.int).length : Nat)), .v (int 0)]) (cs := [int (((n :: ns).map PyData.int).length : Nat), int 0]) (by simp only [seqS, asgS, ifS, retS, dropS, passS, brkS, cntS, nameT, opE, evA, cellsOf, Arg.cell, valB, andB, orB, notB, andV, orV, notV, iteE, varZ, varM, cst, on1, on2, one1, one2, one3, itA, itE, tupE, lstE, dataOf, ownOf, argsD, wipeE, restE, yesB, bnd_ok, some_ok, noR_k, fin1, fin2, List.getElem?_cons_zero, List.getElem?_cons_succ, List.set_cons_zero, List.set_cons_succ, List.length_cons, List.length_nil, List.map_cons, List.map_nil, List.append_nil, List.nil_append, List.cons_append, List.replicate_zero, List.replicate_succ, Option.map_some, Option.map_none, gLen_ol, gLen_tup, gLen_list, gEq_int, gNe_int, gI_int, gAdd_int, gSub_int, gInt_int, gAbs_int, if_true, if_false, ite_true, ite_false, Bool.false_eq_true, reduceIte, decide_eq_true_eq, Bool.not_eq_true', decide_eq_false_iff_not, Nat.reduceAdd, Nat.reduceLT, Nat.reduceSub, Nat.reduceLeDiff, Nat.zero_lt_succ]) rfl ?_
        show some (bool (decide ((0 : Int) < (((n :: ns).map PyData.int).length : Nat)))) = _
        rw [decide_eq_true h9]
  rw [seqS_nx h3]
  have h900 : (upI 0 900).length = 900 := by simp [upI]
  have hit2 : itA (one1 rng1) [.e (cst (.int 900))] [some (.fz (.list (ns.map .int))), some (intC l1), c2, some (int sd), c4, c5, c6] = R.ok (upI 0 900, [some (.fz (.list (ns.map .int))), some (intC l1), c2, some (int sd), c4, c5, c6]) := by rfl
  generalize upI 0 900 = ds at h900 hit2
  obtain ⟨env', h5, l2, c4, m2, he, h6⟩ := forL_inv (t := nameT 4) (b := DR3) (fun k env => ∃ l2 c4 m2, env = [some (.fz (.list (ns.map .int))), some (intC l2), c2, some (int m2), c4, c5, c6] ∧ l2.length = l1.length + k) (ds := ds) (k := 0) (env := [some (.fz (.list (ns.map .int))), some (intC l1), c2, some (int sd), c4, c5, c6]) ⟨l1, c4, sd, rfl, by omega⟩ fun j d env hj ⟨l2, c4, m2, he, h5⟩ => by
    subst he
    have hj2 : j < ds.length := (List.getElem?_eq_some_iff.mp hj).1
    obtain ⟨m3, h6, h7⟩ := dr3 (s := .fz (.list (ns.map .int))) (l := l2) (a2 := c2) (a5 := c5) (a6 := c6) (d := d) (n := m2) (by unfold lim; omega)
    exact ⟨_, .nx, _, rfl, h6, .inl rfl, _, some (.fz d), m3, rfl, by rw [List.length_append, List.length_singleton]; omega⟩
  subst he
  rw [seqS_nx ((forS_of hit2).trans h5)]
  refine ⟨l2.reverse, ?_, by rw [List.length_reverse]; omega, by rw [List.length_reverse]; omega⟩
  have hr : gLstRev (intC l2) = some (intC l2.reverse) := by
    unfold gLstRev
    rw [lst?_intC]
    show some (lst (l2.map PyData.int).reverse) = _
    rw [← List.map_reverse]
    rfl
  rw [retS_of (c := intC l2.reverse) (env' := [some (.fz (.list (ns.map .int))), some (intC l2), c2, some (int m2), c4, c5, c6]) (by simp only [seqS, asgS, ifS, retS, dropS, passS, brkS, cntS, nameT, opE, evA, cellsOf, Arg.cell, valB, andB, orB, notB, andV, orV, notV, iteE, varZ, varM, cst, on1, on2, one1, one2, one3, itA, itE, tupE, lstE, dataOf, ownOf, argsD, wipeE, restE, yesB, bnd_ok, some_ok, noR_k, fin1, fin2, List.getElem?_cons_zero, List.getElem?_cons_succ, List.set_cons_zero, List.set_cons_succ, List.length_cons, List.length_nil, List.map_cons, List.map_nil, List.append_nil, List.nil_append, List.cons_append, List.replicate_zero, List.replicate_succ, Option.map_some, Option.map_none, gLen_ol, gLen_tup, gLen_list, gEq_int, gNe_int, gI_int, gAdd_int, gSub_int, gInt_int, gAbs_int, if_true, if_false, ite_true, ite_false, Bool.false_eq_true, reduceIte, decide_eq_true_eq, Bool.not_eq_true', decide_eq_false_iff_not, Nat.reduceAdd, Nat.reduceLT, Nat.reduceSub, Nat.reduceLeDiff, Nat.zero_lt_succ, hr])]
  rfl
end PF
/-! PF23: loops, comprehensions and tests over all, as functions -/
namespace PF
open PySem L2
inductive All2 {α β : Type} (P : α → β → Prop) : List α → List β → Prop
  | nil : All2 P [] []
  | cons {a : α} {b : β} {as : List α} {bs : List β} : P a b → All2 P as bs → All2 P (a :: as) (b :: bs)
def runE {σ ι : Type} (g : σ → ι → Except Cell σ) : σ → List ι → Except Cell σ
  | s, [] => .ok s
  | s, x :: xs => match g s x with
    | .ok s' => runE g s' xs
    | .error c => .error c
def StepOk {σ : Type} (t : TF) (b : SF) (d : D) (env : Env) (R' : σ → Env → Prop) : Except Cell σ → Prop
  | .ok s' => ∃ e1 o e2, t (.fz d) env = R.ok e1 ∧ b e1 = R.ok (o, e2) ∧ (o = .nx ∨ o = .ct) ∧ R' s' e2
  | .error c => ∃ e1 e2, t (.fz d) env = R.ok e1 ∧ b e1 = R.ok (.rt c, e2)
def EndOk {σ : Type} (r : R (Out × Env)) (R' : σ → Env → Prop) : Except Cell σ → Prop
  | .ok s' => ∃ env', r = R.ok (.nx, env') ∧ R' s' env'
  | .error c => ∃ env', r = R.ok (.rt c, env')
theorem forL_sim {σ ι : Type} {t : TF} {b : SF} (d : ι → D) (g : σ → ι → Except Cell σ) (I : Nat → σ → Env → Prop) : ∀ (xs : List ι) (k : Nat) (s : σ) (env : Env), I k s env →
    (∀ j x s env, xs[j]? = some x → I (k + j) s env → StepOk t b (d x) env (I (k + j + 1)) (g s x)) → EndOk (forL t b (xs.map d) env) (I (k + xs.length)) (runE g s xs)
  | [], k, s, env, h, _ => ⟨env, rfl, h⟩
  | x :: xs, k, s, env, h, st => by
    have z := st 0 x s env rfl h
    unfold runE
    cases q : g s x with
    | error c =>
      rw [q] at z
      obtain ⟨e1, e2, h1, h2⟩ := z
      refine ⟨e2, ?_⟩
      show (t (.fz (d x)) env).bnd _ = _
      rw [h1, bnd_ok, h2] <;> rfl
    | ok s' =>
      rw [q] at z
      obtain ⟨e1, o, e2, h1, h2, ho, h3⟩ := z
      have ih := forL_sim d g I xs (k + 1) s' e2 h3 fun j y s env hj hI => by
        have z := st (j + 1) y s env hj (by rw [show k + (j + 1) = k + 1 + j by omega]; exact hI)
        rw [show k + (j + 1) = k + 1 + j by omega] at z
        exact z
      have e : forL t b ((x :: xs).map d) env = forL t b (xs.map d) e2 := by
        show (t (.fz (d x)) env).bnd _ = _
        rw [h1, bnd_ok, h2, bnd_ok]
        rcases ho with rfl | rfl <;> rfl
      rw [e, List.length_cons, show k + (xs.length + 1) = k + 1 + xs.length by omega]
      exact ih
/-- a comprehension whose parts change nothing -/
theorem lcL_pure {ι : Type} {vs : List Nat} {t : TF} {c : BF} {f : EF} (d : ι → D) (kp : ι → Bool) (el : ι → Cell) {env : Env} : ∀ (xs : List ι) (acc : List Cell), acc.length + xs.length ≤ lim →
    (∀ x ∈ xs, ∃ e1, t (.fz (d x)) env = R.ok e1 ∧ ∃ e2, c e1 = R.ok (kp x, e2) ∧ (kp x = false → wipeE e2 vs = env) ∧ (kp x = true → ∃ e3, f e2 = R.ok (el x, e3) ∧ wipeE e3 vs = env)) →
    lcL vs t c f (xs.map d) acc env = R.ok (acc ++ (xs.filter kp).map el, env)
  | [], acc, _, _ => by
    show R.ok (acc, env) = R.ok (acc ++ [], env)
    rw [List.append_nil]
  | x :: xs, acc, hl, h => by
    obtain ⟨e1, h1, e2, h2, h3, h4⟩ := h x List.mem_cons_self
    rw [List.length_cons] at hl
    show (noR (t (.fz (d x)) env)).bnd _ = _
    rw [h1, noR_k, bnd_ok, h2, noR_k, bnd_ok]
    cases q : kp x with
    | false =>
      rw [if_neg Bool.false_ne_true, List.filter_cons, q, if_neg Bool.false_ne_true]
      show lcL vs t c f (xs.map d) acc (wipeE e2 vs) = _
      rw [h3 q]
      exact lcL_pure d kp el xs acc (by omega) fun y hy => h y (List.mem_cons_of_mem _ hy)
    | true =>
      obtain ⟨e3, h5, h6⟩ := h4 q
      rw [if_pos rfl, List.filter_cons, q, if_pos rfl]
      show (noR (f e2)).bnd _ = _
      rw [h5, noR_k, bnd_ok, if_pos (by omega)]
      show lcL vs t c f (xs.map d) (acc ++ [el x]) (wipeE e3 vs) = _
      rw [h6, lcL_pure d kp el xs (acc ++ [el x]) (by rw [List.length_append, List.length_singleton]; omega) fun y hy => h y (List.mem_cons_of_mem _ hy), List.map_cons, List.append_assoc] <;> rfl
/-- a comprehension that takes all, its parts may change what is around -/
theorem lcL_all {ι : Type} {vs : List Nat} {t : TF} {f : EF} (d : ι → D) (P : ι → Cell → Prop) (I : Env → Prop) : ∀ (xs : List ι) (acc : List Cell) (env : Env), acc.length + xs.length ≤ lim → I env →
    (∀ x ∈ xs, ∀ env, I env → ∃ e1 v e2, t (.fz (d x)) env = R.ok e1 ∧ f e1 = R.ok (v, e2) ∧ P x v ∧ I (wipeE e2 vs)) →
    ∃ cs env', lcL vs t yesB f (xs.map d) acc env = R.ok (acc ++ cs, env') ∧ All2 P xs cs ∧ I env'
  | [], acc, env, _, hI, _ => ⟨[], env, by rw [List.append_nil] <;> rfl, .nil, hI⟩
  | x :: xs, acc, env, hl, hI, h => by
    obtain ⟨e1, v, e2, h1, h2, h3, h4⟩ := h x List.mem_cons_self env hI
    rw [List.length_cons] at hl
    obtain ⟨cs, env', h5, h6, h7⟩ := lcL_all d P I xs (acc ++ [v]) _ (by rw [List.length_append, List.length_singleton]; omega) h4 fun y hy => h y (List.mem_cons_of_mem _ hy)
    refine ⟨v :: cs, env', ?_, .cons h3 h6, h7⟩
    show (noR (t (.fz (d x)) env)).bnd _ = _
    rw [h1, noR_k, bnd_ok]
    show (noR (f e1)).bnd _ = _
    rw [h2, noR_k, bnd_ok, if_pos (by omega)]
    show lcL vs t yesB f (xs.map d) (acc ++ [v]) (wipeE e2 vs) = _
    rw [h5, List.append_assoc] <;> rfl
/-- all, any -/
theorem gaL_pure {ι : Type} {stop : Bool} {vs : List Nat} {t : TF} {f : EF} (d : ι → D) (p : ι → Bool) {env : Env} : ∀ (xs : List ι),
    (∀ x ∈ xs, ∃ e1 e2, t (.fz (d x)) env = R.ok e1 ∧ f e1 = R.ok (bool (p x), e2) ∧ wipeE e2 vs = env) →
    gaL stop vs t yesB f (xs.map d) env = R.ok (if stop then xs.any p else xs.all p, env)
  | [], _ => by cases stop <;> rfl
  | x :: xs, h => by
    obtain ⟨e1, e2, h1, h2, h3⟩ := h x List.mem_cons_self
    have ih := gaL_pure (stop := stop) (vs := vs) (t := t) (f := f) d p xs fun y hy => h y (List.mem_cons_of_mem _ hy)
    show (noR (t (.fz (d x)) env)).bnd _ = _
    rw [h1, noR_k, bnd_ok]
    show (noR (valB f e1)).bnd _ = _
    rw [valB_bool h2, noR_k, bnd_ok]
    show (if p x = stop then R.ok (stop, wipeE e2 vs) else gaL stop vs t yesB f (xs.map d) (wipeE e2 vs)) = _
    rw [h3, ih, List.any_cons, List.all_cons]
    cases stop <;> cases p x <;> simp
theorem lcE_of {it : IF} {vs : List Nat} {t : TF} {c : BF} {f : EF} {env env1 env2 : Env} {ds : List D} {cs : List Cell} (h1 : it env = R.ok (ds, env1)) (h2 : lcL vs t c f ds [] (wipeE env1 vs) = R.ok (cs, env2)) : lcE it vs t c f env = R.ok (.ol cs, restE env1 vs env2) := by
  unfold lcE
  rw [h1, bnd_ok]
  show (lcL vs t c f ds [] (wipeE env1 vs)).bnd _ = _
  rw [h2] <;> rfl
theorem gaE_of {stop : Bool} {it : IF} {vs : List Nat} {t : TF} {c : BF} {f : EF} {env env1 env2 : Env} {ds : List D} {b : Bool} (h1 : it env = R.ok (ds, env1)) (h2 : gaL stop vs t c f ds (wipeE env1 vs) = R.ok (b, env2)) : gaE stop it vs t c f env = R.ok (bool b, restE env1 vs env2) := by
  unfold gaE
  rw [h1, bnd_ok]
  show (gaL stop vs t c f ds (wipeE env1 vs)).bnd _ = _
  rw [h2] <;> rfl
theorem callE_of {den : DenN} {as : List AF} {env env1 : Env} {l : List Arg} {ds : List D} {c : Cell} (h1 : evA as env = R.ok (l, env1)) (h2 : argsD env1 l = some (ds, false)) (h3 : den ds = R.ok c) : callE den as env = R.ok (c, env1) := by
  unfold callE
  rw [h1, bnd_ok]
  show (match argsD env1 l with
    | some (ds, false) => (den ds).bnd fun c => R.ok (c, env1)
    | some (ds, true) => (den ds).bnd fun c => if c.scal = true then R.ok (c, env1) else none
    | none => none) = _
  rw [h2]
  show (den ds).bnd _ = _
  rw [h3] <;> rfl
theorem callI_of {den : DenI} {i : Nat} {as : List AF} {env env1 : Env} {a0 : Arg} {l : List Arg} {ds : List D} {c c0 c1 : Cell} (h1 : evA (.s i :: as) env = R.ok (a0 :: l, env1)) (hi : env1[i]? = some (some c0)) (h2 : argsD env1 l = some (ds, false)) (h3 : den c0 ds = R.ok (c, c1)) : callI den i as env = R.ok (c, env1.set i (some c1)) := by
  unfold callI
  rw [h1, bnd_ok]
  show (match a0 :: l, env1[i]? with
    | _ :: as', some (some c0) => (match argsD env1 as' with
      | some (ds, false) => (den c0 ds).bnd fun q => R.ok (q.1, env1.set i (some q.2))
      | _ => none)
    | _, _ => none) = _
  rw [hi]
  show (match argsD env1 l with
      | some (ds, false) => (den c0 ds).bnd fun q => R.ok (q.1, env1.set i (some q.2))
      | _ => none) = _
  rw [h2]
  show (den c0 ds).bnd _ = _
  rw [h3] <;> rfl
end PF
/-! PF24: data that may be compared; ==, !=, in over data -/
namespace PF
open PySem L2
def Shp (k : Nat) (d : D) : Prop := d.canLay0 = true ∧ d.depth ≤ k
theorem Shp.none {k : Nat} : Shp k .none := ⟨rfl, Nat.zero_le _⟩
theorem Shp.int {k : Nat} (i : Int) : Shp k (.int i) := ⟨rfl, Nat.zero_le _⟩
theorem Shp.bool {k : Nat} (b : Bool) : Shp k (.bool b) := ⟨rfl, Nat.zero_le _⟩
theorem shp_all {k : Nat} : ∀ {xs : List D}, (∀ x ∈ xs, Shp k x) → PyData.canLayAll0 xs = true ∧ PyData.depthAll xs ≤ k
  | [], _ => ⟨rfl, Nat.zero_le _⟩
  | x :: xs, h => by
    obtain ⟨h1, h2⟩ := shp_all (xs := xs) fun y hy => h y (List.mem_cons_of_mem _ hy)
    obtain ⟨h3, h4⟩ := h x List.mem_cons_self
    refine ⟨?_, ?_⟩
    · show (PyData.canLay0 x && PyData.canLayAll0 xs) = true
      rw [h3, h1] <;> rfl
    · show max (PyData.depth x) (PyData.depthAll xs) ≤ k
      omega
theorem Shp.tup {k : Nat} {xs : List D} (h : ∀ x ∈ xs, Shp k x) : Shp (k + 1) (.tuple xs) := by
  obtain ⟨h1, h2⟩ := shp_all h
  exact ⟨h1, Nat.succ_le_succ h2⟩
theorem Shp.lst {k : Nat} {xs : List D} (h : ∀ x ∈ xs, Shp k x) : Shp (k + 1) (.list xs) := by
  obtain ⟨h1, h2⟩ := shp_all h
  exact ⟨h1, Nat.succ_le_succ h2⟩
theorem Shp.map {k : Nat} {α : Type} {f : α → D} {xs : List α} (h : ∀ x, Shp k (f x)) : ∀ y ∈ xs.map f, Shp k y := fun y hy => by
  obtain ⟨x, _, rfl⟩ := List.mem_map.mp hy
  exact h x
theorem Shp.ok {k : Nat} {d : D} (h : Shp k d) (hk : k ≤ 64) : SeqAt.shaped d = true := by
  unfold SeqAt.shaped
  rw [h.1, decide_eq_true (Nat.le_trans h.2 hk)] <;> rfl
theorem gEq_fz {d e : D} (h1 : SeqAt.shaped d = true) (h2 : SeqAt.shaped e = true) : gEq (.fz d) (.fz e) = some (bool (PyData.eqv d e)) := if_pos ⟨rfl, rfl, h1, h2⟩
theorem gNe_fz {d e : D} (h1 : SeqAt.shaped d = true) (h2 : SeqAt.shaped e = true) : gNe (.fz d) (.fz e) = some (bool (!PyData.eqv d e)) := if_pos ⟨rfl, rfl, h1, h2⟩
theorem gEq_bool (a b : Bool) : gEq (bool a) (bool b) = some (bool (a == b)) := rfl
theorem gNe_bool (a b : Bool) : gNe (bool a) (bool b) = some (bool (!(a == b))) := rfl
theorem gIn_tup {n : Bool} {d : D} {ds : List D} (h1 : SeqAt.shaped d = true) (h2 : SeqAt.shaped (.tuple ds) = true) : gIn n (.fz d) (tup ds) = some (bool ((ds.any fun z => PyData.eqv z d) != n)) := by
  unfold gIn
  rw [if_pos ⟨rfl, h1⟩]
  exact if_pos ⟨rfl, h2⟩
theorem gIn_lst {n : Bool} {d : D} {ds : List D} (h1 : SeqAt.shaped d = true) (h2 : SeqAt.shaped (.list ds) = true) : gIn n (.fz d) (lst ds) = some (bool ((ds.any fun z => PyData.eqv z d) != n)) := by
  unfold gIn
  rw [if_pos ⟨rfl, h1⟩]
  show (match (Cell.d (.ol (ds.map Cell.fz))) with
    | .list ds0 => if Cell.nd (.ol (ds.map Cell.fz)) = true ∧ SeqAt.shaped (.list ds0) = true then some (bool ((ds0.any fun z => PyData.eqv z d) != n)) else none
    | .tuple ds0 => if Cell.nd (.ol (ds.map Cell.fz)) = true ∧ SeqAt.shaped (.tuple ds0) = true then some (bool ((ds0.any fun z => PyData.eqv z d) != n)) else none
    | _ => none) = _
  have e : Cell.d (.ol (ds.map Cell.fz)) = .list ds := by
    show PyData.list (Cell.ds (ds.map Cell.fz)) = _
    rw [ds_fz]
  rw [e]
  exact if_pos ⟨nds_fz ds, h2⟩
theorem eqvAll_map {α : Type} [DecidableEq α] {f : α → D} (h : ∀ x y, PyData.eqv (f x) (f y) = decide (x = y)) : ∀ xs ys : List α, PyData.eqvAll (xs.map f) (ys.map f) = decide (xs = ys)
  | [], [] => rfl
  | [], _ :: _ => rfl
  | _ :: _, [] => rfl
  | x :: xs, y :: ys => by
    show (PyData.eqv (f x) (f y) && PyData.eqvAll (xs.map f) (ys.map f)) = _
    rw [h, eqvAll_map h xs ys]
    by_cases e1 : x = y <;> by_cases e2 : xs = ys <;> simp [e1, e2]
theorem any_map_eq {α : Type} [DecidableEq α] {f : α → D} (h : ∀ x y, PyData.eqv (f x) (f y) = decide (x = y)) (xs : List α) (y : α) : ((xs.map f).any fun z => PyData.eqv z (f y)) = decide (y ∈ xs) := by
  induction xs with
  | nil => rfl
  | cons x xs ih =>
    rw [List.map_cons, List.any_cons, ih, h]
    by_cases e : x = y
    · subst e; simp
    · simp [e, Ne.symm e]
end PF
namespace Kk91
open PySem PySem.Spec L2 PF
def top (i : Nat) : Stmt := PySem.Challenge.pw_guestsheld_k91_whole_stars_among_guests.main.body.getD i (.Pass ⟨0, 0, 0, 0⟩)
abbrev s_is_known_row : Stmt := top 2
abbrev s_is_knowing : Stmt := top 3
abbrev s_looked_at : Stmt := top 4
abbrev s_told_questions : Stmt := top 5
abbrev s_star_of : Stmt := top 6
abbrev s__law_draws : Stmt := top 8
abbrev s__law_take : Stmt := top 9
abbrev s__law_same : Stmt := top 10
abbrev s__law_star : Stmt := top 11
abbrev s__law_questions : Stmt := top 12
abbrev s_law : Stmt := top 13
/-- where the defs stand -/
structure AD where
  f_is_known_row : Addr
  d_is_known_row : FuncData
  c_is_known_row : Addr
  p_is_known_row : Addr
  f_is_knowing : Addr
  d_is_knowing : FuncData
  c_is_knowing : Addr
  p_is_knowing : Addr
  f_looked_at : Addr
  d_looked_at : FuncData
  c_looked_at : Addr
  p_looked_at : Addr
  f_told_questions : Addr
  d_told_questions : FuncData
  c_told_questions : Addr
  p_told_questions : Addr
  f_star_of : Addr
  d_star_of : FuncData
  c_star_of : Addr
  p_star_of : Addr
  f__law_draws : Addr
  d__law_draws : FuncData
  c__law_draws : Addr
  p__law_draws : Addr
  f__law_take : Addr
  d__law_take : FuncData
  c__law_take : Addr
  p__law_take : Addr
  f__law_same : Addr
  d__law_same : FuncData
  c__law_same : Addr
  p__law_same : Addr
  f__law_star : Addr
  d__law_star : FuncData
  c__law_star : Addr
  p__law_star : Addr
  f__law_questions : Addr
  d__law_questions : FuncData
  c__law_questions : Addr
  p__law_questions : Addr
  f_law : Addr
  d_law : FuncData
  c_law : Addr
  p_law : Addr
def AD.Ts (a : AD) : List Addr := [a.p_is_known_row, a.p_is_knowing]
/-- what is known of the text -/
structure Txt (K : PySem.W.Frag) (mg : Str → Option Value) (base : Heap) (a : AD) : Prop where
  m_is_known_row : mg "is_known_row" = some (.ref a.f_is_known_row)
  f_is_known_row : FunC K "is_known_row" s_is_known_row a.f_is_known_row a.d_is_known_row a.c_is_known_row
  b_is_known_row : Binds K a.d_is_known_row ["many", "value"] []
  m_is_knowing : mg "is_knowing" = some (.ref a.f_is_knowing)
  f_is_knowing : FunC K "is_knowing" s_is_knowing a.f_is_knowing a.d_is_knowing a.c_is_knowing
  b_is_knowing : Binds K a.d_is_knowing ["value"] []
  m_looked_at : mg "looked_at" = some (.ref a.f_looked_at)
  f_looked_at : FunC K "looked_at" s_looked_at a.f_looked_at a.d_looked_at a.c_looked_at
  b_looked_at : Binds K a.d_looked_at ["knowing"] []
  m_told_questions : mg "told_questions" = some (.ref a.f_told_questions)
  f_told_questions : FunC K "told_questions" s_told_questions a.f_told_questions a.d_told_questions a.c_told_questions
  b_told_questions : Binds K a.d_told_questions ["knowing"] []
  m_star_of : mg "star_of" = some (.ref a.f_star_of)
  f_star_of : FunC K "star_of" s_star_of a.f_star_of a.d_star_of a.c_star_of
  b_star_of : Binds K a.d_star_of ["knowing"] []
  m__law_draws : mg "_law_draws" = some (.ref a.f__law_draws)
  f__law_draws : FunC K "_law_draws" s__law_draws a.f__law_draws a.d__law_draws a.c__law_draws
  b__law_draws : Binds K a.d__law_draws ["script"] []
  m__law_take : mg "_law_take" = some (.ref a.f__law_take)
  f__law_take : FunC K "_law_take" s__law_take a.f__law_take a.d__law_take a.c__law_take
  b__law_take : Binds K a.d__law_take ["draws", "bound"] []
  m__law_same : mg "_law_same" = some (.ref a.f__law_same)
  f__law_same : FunC K "_law_same" s__law_same a.f__law_same a.d__law_same a.c__law_same
  b__law_same : Binds K a.d__law_same ["actual", "due"] []
  m__law_star : mg "_law_star" = some (.ref a.f__law_star)
  f__law_star : FunC K "_law_star" s__law_star a.f__law_star a.d__law_star a.c__law_star
  b__law_star : Binds K a.d__law_star ["knowing"] []
  m__law_questions : mg "_law_questions" = some (.ref a.f__law_questions)
  f__law_questions : FunC K "_law_questions" s__law_questions a.f__law_questions a.d__law_questions a.c__law_questions
  b__law_questions : Binds K a.d__law_questions ["knowing"] []
  m_law : mg "law" = some (.ref a.f_law)
  f_law : FunC K "law" s_law a.f_law a.d_law a.c_law
  b_law : Binds K a.d_law ["script"] []
  t_is_known_row : GxR.TabB base mg a.c_is_known_row a.p_is_known_row
  t_is_knowing : GxR.TabB base mg a.c_is_knowing a.p_is_knowing
  n_abs : mg "abs" = none
  n_all : mg "all" = none
  n_any : mg "any" = none
  n_bool : mg "bool" = none
  n_enumerate : mg "enumerate" = none
  n_int : mg "int" = none
  n_isinstance : mg "isinstance" = none
  n_len : mg "len" = none
  n_list : mg "list" = none
  n_range : mg "range" = none
  n_reversed : mg "reversed" = none
  n_str : mg "str" = none
  n_tuple : mg "tuple" = none
  c_MOST_GUESTS : ∃ t, mg "MOST_GUESTS" = some (.int 9 t)
variable {P : Program} {w : World} {K : PySem.W.Frag} {mg : Str → Option Value} {base : Heap} {a : AD} {xc : Nat → Value}
abbrev N_is_known_row : List Str := ["many", "value", "one"]
abbrev P_is_known_row : List Str := ["many", "value"]
theorem sc_is_known_row : FnScope N_is_known_row P_is_known_row (defScope s_is_known_row) := ⟨rfl, rfl, rfl, by decide +kernel, rfl, by decide +kernel, by decide +kernel⟩
def F_is_known_row : SF := retS (andV (opE (on1 (gIsi "tuple")) [.s 1]) (andV (opE (on2 (gEq)) [.e (opE (on1 gLen) [.s 1]), .s 0]) (gaE false (itE (varZ 1)) [2] (nameT 2) (yesB) (opE (on1 (gIsi "bool")) [.s 2]))))
def den_is_known_row : DenN := denN F_is_known_row N_is_known_row.length
theorem ok_is_known_row (T : Txt K mg base a) : FnOk P w K mg base (L2.CX P w) (2) a.f_is_known_row a.d_is_known_row P_is_known_row (SpN K a.Ts xc P_is_known_row.length (den_is_known_row)) := by
  have S := sc_is_known_row
  refine fnC_denN a.Ts xc F_is_known_row T.f_is_known_row S (by decide) fun A outer s H E hr => ?_
  exact ss_one (s_ret (e_and (e_isi rfl "tuple" (by decide) (by rfl) T.n_isinstance (by rfl) T.n_tuple bt_isinstance bt_tuple (pv 1)) (e_and (e_cmp (o_eq (hu64 hr)) (e_blt c_len (by rfl) T.n_len bt_len (a_cons (a := .s 1) (pv 1) (a_nil))) (pv 0) (by rfl)) (e_one (e_all (k := 0) (P := a.p_is_known_row) (by simp [AD.Ts]) rfl (hr.mono (by omega)) (by rfl) T.n_all T.t_is_known_row rfl (gok_by (own := [("one", 2)]) (by kernel_rfl)) (by simp) (by decide) (i_seq rfl (e_varZ 1 (pv 1))) (fun A s H C cl code fp pn hr' => g_name 2 (by simp) (pg_name S.nd rfl (by first | exact .inl rfl | exact .inr rfl))) (fun A s H C cl code fp pn hr' => ts_nil) (fun A s H C cl code fp pn hr' => e_isi rfl "bool" (by decide) (by rfl) T.n_isinstance (by rfl) T.n_bool bt_isinstance bt_bool (pv 2)))))))
abbrev N_is_knowing : List Str := ["value", "row", "guest"]
abbrev P_is_knowing : List Str := ["value"]
theorem sc_is_knowing : FnScope N_is_knowing P_is_knowing (defScope s_is_knowing) := ⟨rfl, rfl, rfl, by decide +kernel, rfl, by decide +kernel, by decide +kernel⟩
def F_is_knowing : SF := seqS (ifS (orB (notB (valB (opE (on1 (gIsi "tuple")) [.s 0]))) (notB (valB (chE (on2 (gI fun i j => decide (i ≤ j))) (on2 (gI fun i j => decide (i ≤ j))) (.e (cst (.int 1))) (.e (opE (on1 gLen) [.s 0])) (.e (cst (.int 9))))))) (retS (cst (.bool false))) (passS)) (seqS (ifS (notB (valB (gaE false (itE (varZ 0)) [1] (nameT 1) (yesB) (callE (den_is_known_row) [.e (opE (on1 gLen) [.s 0]), .s 1])))) (retS (cst (.bool false))) (passS)) (retS (notV (gaE true (itZ enG [varZ 0]) [2, 1] (tupT [nameT 2, nameT 1]) (yesB) (opE (on2 gIx) [.s 1, .s 2])))))
def den_is_knowing : DenN := denN F_is_knowing N_is_knowing.length
theorem ok_is_knowing (T : Txt K mg base a) : FnOk P w K mg base (L2.CX P w) (4) a.f_is_knowing a.d_is_knowing P_is_knowing (SpN K a.Ts xc P_is_knowing.length (den_is_knowing)) := by
  have S := sc_is_knowing
  refine fnC_denN a.Ts xc F_is_knowing T.f_is_knowing S (by decide) fun A outer s H E hr => ?_
  exact ss_cons (s_if ((t_or (t_not (t_val (e_isi rfl "tuple" (by decide) (by rfl) T.n_isinstance (by rfl) T.n_tuple bt_isinstance bt_tuple (pv 0)))) (t_or1 (t_not (t_chain (o_int op_le) (o_int op_le) (e_cst pe_int fun _ => .int _) (e_blt c_len (by rfl) T.n_len bt_len (a_cons (a := .s 0) (pv 0) (a_nil))) (e_gint (by rfl) T.c_MOST_GUESTS) (by rfl))))).pt) (ss_one (s_ret (e_cst pe_bl fun _ => .bl _))) (ss_nil))
        (ss_cons (s_if (t_not (t_val (e_all (k := 2) (P := a.p_is_knowing) (by simp [AD.Ts]) rfl (hr.mono (by omega)) (by rfl) T.n_all T.t_is_knowing rfl (gok_by (own := [("row", 1)]) (by kernel_rfl)) (by simp) (by decide) (i_seq rfl (e_varZ 0 (pv 0))) (fun A s H C cl code fp pn hr' => g_name 1 (by simp) (pg_name S.nd rfl (by first | exact .inl rfl | exact .inr rfl))) (fun A s H C cl code fp pn hr' => ts_nil) (fun A s H C cl code fp pn hr' => e_call (ok_is_known_row (xc := xc) T) (hr'.mono (by omega)) (by rfl) T.m_is_known_row T.f_is_known_row.d.kp T.b_is_known_row passL (fun _ _ h => h.elim) rfl (a_cons (a := .e (opE (on1 gLen) [.s 0])) (e_blt c_len (by rfl) T.n_len bt_len (a_cons (a := .s 0) (pv 0) (a_nil))) (a_cons (a := .s 1) (pv 1) (a_nil))))))) (ss_one (s_ret (e_cst pe_bl fun _ => .bl _))) (ss_nil))
        (ss_one (s_ret (e_not (e_any (k := 2) (P := a.p_is_knowing) (by simp [AD.Ts]) rfl (hr.mono (by omega)) (by rfl) T.n_any T.t_is_knowing rfl (gok_by (own := [("guest", 2), ("row", 1)]) (by kernel_rfl)) (by simp) (by decide) (i_enum rfl (by rfl) T.n_enumerate (a_cons (a := .e (varZ 0)) (e_varZ 0 (pv 0)) a_nil)) (fun A s H C cl code fp pn hr' => g_tup rfl rfl (gs_cons (g_name 2 (by simp) (pg_name S.nd rfl (by first | exact .inl rfl | exact .inr rfl))) (gs_cons (g_name 1 (by simp) (pg_name S.nd rfl (by first | exact .inl rfl | exact .inr rfl))) (gs_nil)))) (fun A s H C cl code fp pn hr' => ts_nil) (fun A s H C cl code fp pn hr' => e_ix i_ix (pv 1) (pv 2) (fun _ _ => rfl)))))))
def B_looked_at_1 : SF := seqS (asgS (tupSE [.x (varZ 2), .o (tupE [varZ 1, varZ 3])]) (nameT 2)) (ifS (valB (opE (on2 gIx) [.e (opE (on2 gIx) [.s 0, .s 1]), .s 3])) (asgS (varZ 3) (nameT 1)) (passS))
abbrev N_looked_at : List Str := ["knowing", "star", "asked", "guest"]
abbrev P_looked_at : List Str := ["knowing"]
theorem sc_looked_at : FnScope N_looked_at P_looked_at (defScope s_looked_at) := ⟨rfl, rfl, rfl, by decide +kernel, rfl, by decide +kernel, by decide +kernel⟩
def F_looked_at : SF := seqS (asgS (cst (.int 0)) (nameT 1)) (seqS (asgS (tupE []) (nameT 2)) (seqS (forS (itA (one2 rng2) [.e (cst (.int 1)), .e (opE (on1 gLen) [.s 0])]) (nameT 3) B_looked_at_1) (retS (tupE [varZ 1, varZ 2]))))
def den_looked_at : DenN := denN F_looked_at N_looked_at.length
theorem ok_looked_at (T : Txt K mg base a) : FnOk P w K mg base (L2.CX P w) (1) a.f_looked_at a.d_looked_at P_looked_at (SpN K a.Ts xc P_looked_at.length (den_looked_at)) := by
  have S := sc_looked_at
  refine fnC_denN a.Ts xc F_looked_at T.f_looked_at S (by decide) fun A outer s H E hr => ?_
  exact ss_cons (s_set 1 S.nd rfl (by first | exact .inl rfl | exact .inr rfl) (by simp) (e_cst pe_int fun _ => .int _))
        (ss_cons (s_set 2 S.nd rfl (by first | exact .inl rfl | exact .inr rfl) (by simp) (e_tup (as := []) (a_nil) (by decide)))
        (ss_cons (s_for owns_def rfl (i_range2 (by rfl) T.n_range (a_cons (a := .e (cst (.int 1))) (e_cst pe_int fun _ => .int _) (a_cons (a := .e (opE (on1 gLen) [.s 0])) (e_blt c_len (by rfl) T.n_len bt_len (a_cons (a := .s 0) (pv 0) (a_nil))) (a_nil)))) (g_name 3 (by simp) (pg_name S.nd rfl (by first | exact .inl rfl | exact .inr rfl))) (show PSs _ _ (tS _ B_looked_at_1) from ss_cons (s_set 2 S.nd rfl (by first | exact .inl rfl | exact .inr rfl) (by simp) (e_tupS (sa_star rfl (e_varZ 2 (pv 2)) (sa_one (e_tup (as := [varZ 1, varZ 3]) (a_cons (a := .e (varZ 1)) (e_varZ 1 (pv 1)) (a_cons (a := .e (varZ 3)) (e_varZ 3 (pv 3)) (a_nil))) (by decide)) (sa_nil)))))
        (ss_one (s_if (t_val (e_ix i_ix (e_ix i_ix (pv 0) (pv 1) (fun _ _ => rfl)) (pv 3) (fun _ _ => rfl))) (ss_one (s_set 1 S.nd rfl (by first | exact .inl rfl | exact .inr rfl) (by simp) (e_varZ 3 (pv 3)))) (ss_nil)))))
        (ss_one (s_ret (e_tup (as := [varZ 1, varZ 2]) (a_cons (a := .e (varZ 1)) (e_varZ 1 (pv 1)) (a_cons (a := .e (varZ 2)) (e_varZ 2 (pv 2)) (a_nil))) (by decide))))))
def B_told_questions_1 : SF := ifS (andB (valB (opE (on2 (gNe)) [.s 1, .s 2])) (valB (opE (on2 (gIn true)) [.e (tupE [varZ 4, varZ 5]), .s 3]))) (seqS (asgS (tupSE [.x (varZ 3), .o (tupE [varZ 4, varZ 5])]) (nameT 3)) (ifS (valB (opE (on2 (gEq)) [.e (opE (on2 gIx) [.e (opE (on2 gIx) [.s 0, .s 4]), .s 5]), .e (opE (on2 (gEq)) [.s 4, .s 2])])) (retS (varM 3)) (passS))) (passS)
def B_told_questions_2 : SF := forS (itE (tupE [tupE [varZ 2, varZ 1], tupE [varZ 1, varZ 2]])) (tupT [nameT 4, nameT 5]) B_told_questions_1
abbrev N_told_questions : List Str := ["knowing", "guest", "star", "asked", "one", "other"]
abbrev P_told_questions : List Str := ["knowing"]
theorem sc_told_questions : FnScope N_told_questions P_told_questions (defScope s_told_questions) := ⟨rfl, rfl, rfl, by decide +kernel, rfl, by decide +kernel, by decide +kernel⟩
def F_told_questions : SF := seqS (asgS (callE (den_looked_at) [.s 0]) (tupT [nameT 2, nameT 3])) (seqS (forS (itA (one1 rng1) [.e (opE (on1 gLen) [.s 0])]) (nameT 1) B_told_questions_2) (retS (varM 3)))
def den_told_questions : DenN := denN F_told_questions N_told_questions.length
theorem ok_told_questions (T : Txt K mg base a) : FnOk P w K mg base (L2.CX P w) (2) a.f_told_questions a.d_told_questions P_told_questions (SpN K a.Ts xc P_told_questions.length (den_told_questions)) := by
  have S := sc_told_questions
  refine fnC_denN a.Ts xc F_told_questions T.f_told_questions S (by decide) fun A outer s H E hr => ?_
  exact ss_cons (s_asg (e_call (ok_looked_at (xc := xc) T) (hr.mono (by omega)) (by rfl) T.m_looked_at T.f_looked_at.d.kp T.b_looked_at pass_def (fun _ _ h => h) rfl (a_cons (a := .s 0) (pv 0) (a_nil))) (g_tup rfl rfl (gs_cons (g_name 2 (by simp) (pg_name S.nd rfl (by first | exact .inl rfl | exact .inr rfl))) (gs_cons (g_name 3 (by simp) (pg_name S.nd rfl (by first | exact .inl rfl | exact .inr rfl))) (gs_nil)))))
        (ss_cons (s_for owns_def rfl (i_range1 (by rfl) T.n_range (a_cons (a := .e (opE (on1 gLen) [.s 0])) (e_blt c_len (by rfl) T.n_len bt_len (a_cons (a := .s 0) (pv 0) (a_nil))) (a_nil))) (g_name 1 (by simp) (pg_name S.nd rfl (by first | exact .inl rfl | exact .inr rfl))) (show PSs _ _ (tS _ B_told_questions_2) from ss_one (s_for owns_def rfl (i_seq rfl (e_tup (as := [tupE [varZ 2, varZ 1], tupE [varZ 1, varZ 2]]) (a_cons (a := .e (tupE [varZ 2, varZ 1])) (e_tup (as := [varZ 2, varZ 1]) (a_cons (a := .e (varZ 2)) (e_varZ 2 (pv 2)) (a_cons (a := .e (varZ 1)) (e_varZ 1 (pv 1)) (a_nil))) (by decide)) (a_cons (a := .e (tupE [varZ 1, varZ 2])) (e_tup (as := [varZ 1, varZ 2]) (a_cons (a := .e (varZ 1)) (e_varZ 1 (pv 1)) (a_cons (a := .e (varZ 2)) (e_varZ 2 (pv 2)) (a_nil))) (by decide)) (a_nil))) (by decide))) (g_tup rfl rfl (gs_cons (g_name 4 (by simp) (pg_name S.nd rfl (by first | exact .inl rfl | exact .inr rfl))) (gs_cons (g_name 5 (by simp) (pg_name S.nd rfl (by first | exact .inl rfl | exact .inr rfl))) (gs_nil)))) (show PSs _ _ (tS _ B_told_questions_1) from ss_one (s_if ((t_and (t_cmp (o_ne (hu64 hr)) (pv 1) (pv 2) (by rfl)) (t_and1 (t_cmp (o_notin (hu65 hr)) (e_tup (as := [varZ 4, varZ 5]) (a_cons (a := .e (varZ 4)) (e_varZ 4 (pv 4)) (a_cons (a := .e (varZ 5)) (e_varZ 5 (pv 5)) (a_nil))) (by decide)) (pv 3) (by rfl)))).pt) (ss_cons (s_set 3 S.nd rfl (by first | exact .inl rfl | exact .inr rfl) (by simp) (e_tupS (sa_star rfl (e_varZ 3 (pv 3)) (sa_one (e_tup (as := [varZ 4, varZ 5]) (a_cons (a := .e (varZ 4)) (e_varZ 4 (pv 4)) (a_cons (a := .e (varZ 5)) (e_varZ 5 (pv 5)) (a_nil))) (by decide)) (sa_nil)))))
        (ss_one (s_if (t_cmp (o_eq (hu64 hr)) (e_ix i_ix (e_ix i_ix (pv 0) (pv 4) (fun _ _ => rfl)) (pv 5) (fun _ _ => rfl)) (e_cmp (o_eq (hu64 hr)) (pv 4) (pv 2) (by rfl)) (by rfl)) (ss_one (s_ret (e_varM 3 (pv 3)))) (ss_nil)))) (ss_nil))))))
        (ss_one (s_ret (e_varM 3 (pv 3)))))
def B_star_of_1 : SF := ifS (andB (valB (opE (on2 (gNe)) [.s 2, .s 1])) (orB (valB (opE (on2 gIx) [.e (opE (on2 gIx) [.s 0, .s 1]), .s 2])) (notB (valB (opE (on2 gIx) [.s 3, .s 1]))))) (retS (cst .none)) (passS)
abbrev N_star_of : List Str := ["knowing", "star", "guest", "row"]
abbrev P_star_of : List Str := ["knowing"]
theorem sc_star_of : FnScope N_star_of P_star_of (defScope s_star_of) := ⟨rfl, rfl, rfl, by decide +kernel, rfl, by decide +kernel, by decide +kernel⟩
def F_star_of : SF := seqS (asgS (opE (on2 gIx) [.e (callE (den_looked_at) [.s 0]), .e (cst (.int 0))]) (nameT 1)) (seqS (forS (itZ enG [varZ 0]) (tupT [nameT 2, nameT 3]) B_star_of_1) (retS (varM 1)))
def den_star_of : DenN := denN F_star_of N_star_of.length
theorem ok_star_of (T : Txt K mg base a) : FnOk P w K mg base (L2.CX P w) (2) a.f_star_of a.d_star_of P_star_of (SpN K a.Ts xc P_star_of.length (den_star_of)) := by
  have S := sc_star_of
  refine fnC_denN a.Ts xc F_star_of T.f_star_of S (by decide) fun A outer s H E hr => ?_
  exact ss_cons (s_set 1 S.nd rfl (by first | exact .inl rfl | exact .inr rfl) (by simp) (e_ix i_ix (e_call (ok_looked_at (xc := xc) T) (hr.mono (by omega)) (by rfl) T.m_looked_at T.f_looked_at.d.kp T.b_looked_at pass_def (fun _ _ h => h) rfl (a_cons (a := .s 0) (pv 0) (a_nil))) (e_cst pe_int fun _ => .int _) (fun _ _ => rfl)))
        (ss_cons (s_for owns_def rfl (i_enum rfl (by rfl) T.n_enumerate (a_cons (a := .e (varZ 0)) (e_varZ 0 (pv 0)) a_nil)) (g_tup rfl rfl (gs_cons (g_name 2 (by simp) (pg_name S.nd rfl (by first | exact .inl rfl | exact .inr rfl))) (gs_cons (g_name 3 (by simp) (pg_name S.nd rfl (by first | exact .inl rfl | exact .inr rfl))) (gs_nil)))) (show PSs _ _ (tS _ B_star_of_1) from ss_one (s_if ((t_and (t_cmp (o_ne (hu64 hr)) (pv 2) (pv 1) (by rfl)) (t_and1 ((t_or (t_val (e_ix i_ix (e_ix i_ix (pv 0) (pv 1) (fun _ _ => rfl)) (pv 2) (fun _ _ => rfl))) (t_or1 (t_not (t_val (e_ix i_ix (pv 3) (pv 1) (fun _ _ => rfl)))))).pt))).pt) (ss_one (s_ret (e_cst pe_non fun _ => .non))) (ss_nil))))
        (ss_one (s_ret (e_varM 1 (pv 1)))))
def B__law_draws_1 : SF := ifS (valB (opE (on2 (gI fun i j => decide (j < i))) [.s 5, .e (cst (.int 0))])) (seqS (dropS (appE 1 (opE (on2 gMod) [.e (opE (on1 gInt) [.s 5]), .e (cst (.int 997))]))) (asgS (opE (on2 gDiv) [.s 5, .e (cst (.int 997))]) (nameT 5))) (passS)
def B__law_draws_2 : SF := seqS (asgS (opE (on1 gAbs) [.s 2]) (nameT 5)) (seqS (ifS (valB (opE (on2 (gI fun i j => decide (i < j))) [.s 5, .e (opE (on2 gPow) [.e (cst (.int 10)), .e (cst (.int 18))])])) (seqS (asgS (opE (on2 gMod) [.e (opE (on1 gInt) [.e (opE (on2 gAdd) [.e (opE (on2 gMulA) [.s 5, .e (cst (.int 48271))]), .e (cst (.int 11))])]), .e (cst (.int 2147483647))]) (nameT 6)) (seqS (dropS (appE 1 (opE (on2 gMod) [.e (opE (on1 gInt) [.e (opE (on2 gAdd) [.e (opE (on2 gMulA) [.s 6, .e (cst (.int 69621))]), .s 5])]), .e (cst (.int 2147483629))]))) (seqS (dropS (appE 1 (opE (on2 gMod) [.e (opE (on1 gInt) [.e (opE (on2 gAdd) [.s 6, .e (opE (on2 gDiv) [.s 5, .e (cst (.int 7))])])]), .e (cst (.int 1000003))]))) (asgS (cst (.int 0)) (nameT 5))))) (passS)) (forS (itA (one1 rng1) [.e (cst (.int 60))]) (nameT 4) B__law_draws_1))
def B__law_draws_3 : SF := seqS (asgS (opE (on2 gMod) [.e (opE (on1 gInt) [.e (opE (on2 gAdd) [.e (opE (on2 gMulA) [.s 3, .e (cst (.int 48271))]), .e (cst (.int 69621))])]), .e (cst (.int 2147483647))]) (nameT 3)) (dropS (appE 1 (opE (on2 gDiv) [.s 3, .e (cst (.int 5))])))
abbrev N__law_draws : List Str := ["script", "draws", "cell", "seed", "k", "number", "first"]
abbrev P__law_draws : List Str := ["script"]
theorem sc__law_draws : FnScope N__law_draws P__law_draws (defScope s__law_draws) := ⟨rfl, rfl, rfl, by decide +kernel, rfl, by decide +kernel, by decide +kernel⟩
def F__law_draws : SF := seqS (asgS (lstE []) (nameT 1)) (seqS (forS (itE (varZ 0)) (nameT 2) B__law_draws_2) (seqS (asgS (cst (.int 1)) (nameT 3)) (seqS (ifS (valB (opE (on2 (gI fun i j => decide (j < i))) [.e (opE (on1 gLen) [.s 0]), .e (cst (.int 0))])) (asgS (opE (on2 gAdd) [.e (cst (.int 1)), .e (opE (on1 gAbs) [.e (opE (on2 gIx) [.s 0, .e (cst (.int 0))])])]) (nameT 3)) (passS)) (seqS (forS (itA (one1 rng1) [.e (cst (.int 900))]) (nameT 4) B__law_draws_3) (retS (opE (on1 gLstRev) [.s 1]))))))
def den__law_draws : DenN := denN F__law_draws N__law_draws.length
theorem ok__law_draws (T : Txt K mg base a) : FnOk P w K mg base (L2.CX P w) (1) a.f__law_draws a.d__law_draws P__law_draws (SpN K a.Ts xc P__law_draws.length (den__law_draws)) := by
  have S := sc__law_draws
  refine fnC_denN a.Ts xc F__law_draws T.f__law_draws S (by decide) fun A outer s H E hr => ?_
  exact ss_cons (s_set 1 S.nd rfl (by first | exact .inl rfl | exact .inr rfl) (by simp) (e_lst (as := []) (a_nil) (by decide)))
        (ss_cons (s_for owns_def rfl (i_seq rfl (e_varZ 0 (pv 0))) (g_name 2 (by simp) (pg_name S.nd rfl (by first | exact .inl rfl | exact .inr rfl))) (show PSs _ _ (tS _ B__law_draws_2) from ss_cons (s_set 5 S.nd rfl (by first | exact .inl rfl | exact .inr rfl) (by simp) (e_blt c_abs (by rfl) T.n_abs bt_abs (a_cons (a := .s 2) (pv 2) (a_nil))))
        (ss_cons (s_if (t_cmp (o_int op_lt) (pv 5) (e_bin o_pow (e_cst pe_int fun _ => .int _) (e_cst pe_int fun _ => .int _)) (by rfl)) (ss_cons (s_set 6 S.nd rfl (by first | exact .inl rfl | exact .inr rfl) (by simp) (e_bin o_mod (e_bty c_int (by rfl) T.n_int bt_int (a_cons (a := .e (opE (on2 gAdd) [.e (opE (on2 gMulA) [.s 5, .e (cst (.int 48271))]), .e (cst (.int 11))])) (e_bin o_add (e_bin o_mul (pv 5) (e_cst pe_int fun _ => .int _)) (e_cst pe_int fun _ => .int _)) (a_nil))) (e_cst pe_int fun _ => .int _)))
        (ss_cons (s_drop (e_app rfl 1 (pv 1) (e_bin o_mod (e_bty c_int (by rfl) T.n_int bt_int (a_cons (a := .e (opE (on2 gAdd) [.e (opE (on2 gMulA) [.s 6, .e (cst (.int 69621))]), .s 5])) (e_bin o_add (e_bin o_mul (pv 6) (e_cst pe_int fun _ => .int _)) (pv 5)) (a_nil))) (e_cst pe_int fun _ => .int _))))
        (ss_cons (s_drop (e_app rfl 1 (pv 1) (e_bin o_mod (e_bty c_int (by rfl) T.n_int bt_int (a_cons (a := .e (opE (on2 gAdd) [.s 6, .e (opE (on2 gDiv) [.s 5, .e (cst (.int 7))])])) (e_bin o_add (pv 6) (e_bin o_div (pv 5) (e_cst pe_int fun _ => .int _))) (a_nil))) (e_cst pe_int fun _ => .int _))))
        (ss_one (s_set 5 S.nd rfl (by first | exact .inl rfl | exact .inr rfl) (by simp) (e_cst pe_int fun _ => .int _)))))) (ss_nil))
        (ss_one (s_for owns_def rfl (i_range1 (by rfl) T.n_range (a_cons (a := .e (cst (.int 60))) (e_cst pe_int fun _ => .int _) (a_nil))) (g_name 4 (by simp) (pg_name S.nd rfl (by first | exact .inl rfl | exact .inr rfl))) (show PSs _ _ (tS _ B__law_draws_1) from ss_one (s_if (t_cmp (o_int op_gt) (pv 5) (e_cst pe_int fun _ => .int _) (by rfl)) (ss_cons (s_drop (e_app rfl 1 (pv 1) (e_bin o_mod (e_bty c_int (by rfl) T.n_int bt_int (a_cons (a := .s 5) (pv 5) (a_nil))) (e_cst pe_int fun _ => .int _))))
        (ss_one (s_set 5 S.nd rfl (by first | exact .inl rfl | exact .inr rfl) (by simp) (e_bin o_div (pv 5) (e_cst pe_int fun _ => .int _))))) (ss_nil))))))))
        (ss_cons (s_set 3 S.nd rfl (by first | exact .inl rfl | exact .inr rfl) (by simp) (e_cst pe_int fun _ => .int _))
        (ss_cons (s_if (t_cmp (o_int op_gt) (e_blt c_len (by rfl) T.n_len bt_len (a_cons (a := .s 0) (pv 0) (a_nil))) (e_cst pe_int fun _ => .int _) (by rfl)) (ss_one (s_set 3 S.nd rfl (by first | exact .inl rfl | exact .inr rfl) (by simp) (e_bin o_add (e_cst pe_int fun _ => .int _) (e_blt c_abs (by rfl) T.n_abs bt_abs (a_cons (a := .e (opE (on2 gIx) [.s 0, .e (cst (.int 0))])) (e_ix i_ix (pv 0) (e_cst pe_int fun _ => .int _) (fun _ _ => rfl)) (a_nil)))))) (ss_nil))
        (ss_cons (s_for owns_def rfl (i_range1 (by rfl) T.n_range (a_cons (a := .e (cst (.int 900))) (e_cst pe_int fun _ => .int _) (a_nil))) (g_name 4 (by simp) (pg_name S.nd rfl (by first | exact .inl rfl | exact .inr rfl))) (show PSs _ _ (tS _ B__law_draws_3) from ss_cons (s_set 3 S.nd rfl (by first | exact .inl rfl | exact .inr rfl) (by simp) (e_bin o_mod (e_bty c_int (by rfl) T.n_int bt_int (a_cons (a := .e (opE (on2 gAdd) [.e (opE (on2 gMulA) [.s 3, .e (cst (.int 48271))]), .e (cst (.int 69621))])) (e_bin o_add (e_bin o_mul (pv 3) (e_cst pe_int fun _ => .int _)) (e_cst pe_int fun _ => .int _)) (a_nil))) (e_cst pe_int fun _ => .int _)))
        (ss_one (s_drop (e_app rfl 1 (pv 1) (e_bin o_div (pv 3) (e_cst pe_int fun _ => .int _)))))))
        (ss_one (s_ret (e_lstRev rfl rfl (by rfl) T.n_list (by rfl) T.n_reversed (pv 1))))))))
abbrev N__law_take : List Str := ["draws", "bound"]
abbrev P__law_take : List Str := ["draws", "bound"]
theorem sc__law_take : FnScope N__law_take P__law_take (defScope s__law_take) := ⟨rfl, rfl, rfl, by decide +kernel, rfl, by decide +kernel, by decide +kernel⟩
def F__law_take : SF := seqS (ifS (valB (opE (on2 (gEq)) [.e (opE (on1 gLen) [.s 0]), .e (cst (.int 0))])) (retS (cst (.int 0))) (passS)) (retS (opE (on2 gMod) [.e (opE (on1 gInt) [.e (popE 0)]), .s 1]))
def den__law_take : DenI := denI F__law_take N__law_take.length
theorem ok__law_take (T : Txt K mg base a) : FnOk P w K mg base (L2.CX P w) (1) a.f__law_take a.d__law_take P__law_take (SpI K a.Ts xc P__law_take.length (den__law_take)) := by
  have S := sc__law_take
  refine fnC_denI a.Ts xc F__law_take T.f__law_take S (by decide) fun A outer s H E v0 hr => ?_
  exact ss_cons (s_if (t_cmp (o_eq (hu64 hr)) (e_blt c_len (by rfl) T.n_len bt_len (a_cons (a := .s 0) (pv 0) (a_nil))) (e_cst pe_int fun _ => .int _) (by rfl)) (ss_one (s_ret (e_cst pe_int fun _ => .int _))) (ss_nil))
        (ss_one (s_ret (e_bin o_mod (e_bty c_int (by rfl) T.n_int bt_int (a_cons (a := .e (popE 0)) (e_pop rfl 0 (pv 0)) (a_nil))) (pv 1))))
def B__law_same_1 (self : DenN) : SF := ifS (notB (valB (callE (self) [.e (opE (on2 gIx) [.s 0, .s 2]), .e (opE (on2 gIx) [.s 1, .s 2])]))) (retS (cst (.bool false))) (passS)
abbrev N__law_same : List Str := ["actual", "due", "k"]
abbrev P__law_same : List Str := ["actual", "due"]
theorem sc__law_same : FnScope N__law_same P__law_same (defScope s__law_same) := ⟨rfl, rfl, rfl, by decide +kernel, rfl, by decide +kernel, by decide +kernel⟩
def F__law_same (self : DenN) : SF := seqS (ifS (orB (valB (opE (on2 (gIs false)) [.s 1, .e (cst .none)])) (valB (opE (on2 (gIs false)) [.s 0, .e (cst .none)]))) (retS (andV (opE (on2 (gIs false)) [.s 1, .e (cst .none)]) (opE (on2 (gIs false)) [.s 0, .e (cst .none)]))) (passS)) (seqS (ifS (orB (valB (opE (on1 (gIsi "tuple")) [.s 1])) (valB (opE (on1 (gIsi "list")) [.s 1]))) (seqS (ifS (orB (valB (opE (on2 (gNe)) [.e (opE (on1 (gIsi "tuple")) [.s 1]), .e (opE (on1 (gIsi "tuple")) [.s 0])])) (valB (opE (on2 (gNe)) [.e (opE (on1 (gIsi "list")) [.s 1]), .e (opE (on1 (gIsi "list")) [.s 0])]))) (retS (cst (.bool false))) (passS)) (seqS (ifS (valB (opE (on2 (gNe)) [.e (opE (on1 gLen) [.s 0]), .e (opE (on1 gLen) [.s 1])])) (retS (cst (.bool false))) (passS)) (seqS (forS (itA (one1 rng1) [.e (opE (on1 gLen) [.s 1])]) (nameT 2) (B__law_same_1 self)) (retS (cst (.bool true)))))) (passS)) (seqS (ifS (valB (opE (on2 (gNe)) [.e (opE (on1 (gIsi "bool")) [.s 1]), .e (opE (on1 (gIsi "bool")) [.s 0])])) (retS (cst (.bool false))) (passS)) (seqS (ifS (orB (valB (opE (on2 (gNe)) [.e (opE (on1 (gIsi "int")) [.s 1]), .e (opE (on1 (gIsi "int")) [.s 0])])) (valB (opE (on2 (gNe)) [.e (opE (on1 (gIsi "str")) [.s 1]), .e (opE (on1 (gIsi "str")) [.s 0])]))) (retS (cst (.bool false))) (passS)) (retS (opE (on2 (gEq)) [.s 0, .s 1])))))
def den__law_same : Nat → DenN
  | 0 => fun _ => none
  | n + 1 => denN (F__law_same (den__law_same n)) N__law_same.length
theorem ok__law_same (T : Txt K mg base a) : ∀ n : Nat, FnOk P w K mg base (L2.CX P w) (1 + 1 * n) a.f__law_same a.d__law_same P__law_same (SpN K a.Ts xc P__law_same.length (den__law_same n))
  | 0 => ⟨fun vs H Q E h => by obtain ⟨F, ds, h, _⟩ := h; exact h, fun A outer s H args us vs Q E hr e0 hb r hsp => by obtain ⟨F, ds, _, _, _, q⟩ := hsp; exact q.elim⟩
  | n + 1 => by
    have self_ok := ok__law_same T n
    generalize hself : den__law_same n = self at self_ok
    have S := sc__law_same
    show FnOk P w K mg base (L2.CX P w) (1 + 1 * n + 0 + 1) a.f__law_same a.d__law_same P__law_same (SpN K a.Ts xc P__law_same.length (denN (F__law_same (den__law_same n)) N__law_same.length))
    rw [hself]
    refine fnC_denN a.Ts xc (F__law_same self) T.f__law_same S (by decide) fun A outer s H E hr => ?_
    exact ss_cons (s_if ((t_or (t_cmp (o_is) (pv 1) (e_cst pe_non fun _ => .non) (by rfl)) (t_or1 (t_cmp (o_is) (pv 0) (e_cst pe_non fun _ => .non) (by rfl)))).pt) (ss_one (s_ret (e_and (e_cmp (o_is) (pv 1) (e_cst pe_non fun _ => .non) (by rfl)) (e_one (e_cmp (o_is) (pv 0) (e_cst pe_non fun _ => .non) (by rfl)))))) (ss_nil))
        (ss_cons (s_if ((t_or (t_val (e_isi rfl "tuple" (by decide) (by rfl) T.n_isinstance (by rfl) T.n_tuple bt_isinstance bt_tuple (pv 1))) (t_or1 (t_val (e_isi rfl "list" (by decide) (by rfl) T.n_isinstance (by rfl) T.n_list bt_isinstance bt_list (pv 1))))).pt) (ss_cons (s_if ((t_or (t_cmp (o_ne (hu64 hr)) (e_isi rfl "tuple" (by decide) (by rfl) T.n_isinstance (by rfl) T.n_tuple bt_isinstance bt_tuple (pv 1)) (e_isi rfl "tuple" (by decide) (by rfl) T.n_isinstance (by rfl) T.n_tuple bt_isinstance bt_tuple (pv 0)) (by rfl)) (t_or1 (t_cmp (o_ne (hu64 hr)) (e_isi rfl "list" (by decide) (by rfl) T.n_isinstance (by rfl) T.n_list bt_isinstance bt_list (pv 1)) (e_isi rfl "list" (by decide) (by rfl) T.n_isinstance (by rfl) T.n_list bt_isinstance bt_list (pv 0)) (by rfl)))).pt) (ss_one (s_ret (e_cst pe_bl fun _ => .bl _))) (ss_nil))
        (ss_cons (s_if (t_cmp (o_ne (hu64 hr)) (e_blt c_len (by rfl) T.n_len bt_len (a_cons (a := .s 0) (pv 0) (a_nil))) (e_blt c_len (by rfl) T.n_len bt_len (a_cons (a := .s 1) (pv 1) (a_nil))) (by rfl)) (ss_one (s_ret (e_cst pe_bl fun _ => .bl _))) (ss_nil))
        (ss_cons (s_for owns_def rfl (i_range1 (by rfl) T.n_range (a_cons (a := .e (opE (on1 gLen) [.s 1])) (e_blt c_len (by rfl) T.n_len bt_len (a_cons (a := .s 1) (pv 1) (a_nil))) (a_nil))) (g_name 2 (by simp) (pg_name S.nd rfl (by first | exact .inl rfl | exact .inr rfl))) (show PSs _ _ (tS _ (B__law_same_1 self)) from ss_one (s_if (t_not (t_val (e_call self_ok (hr.mono (by omega)) (by rfl) T.m__law_same T.f__law_same.d.kp T.b__law_same pass_def (fun _ _ h => h) rfl (a_cons (a := .e (opE (on2 gIx) [.s 0, .s 2])) (e_ix i_ix (pv 0) (pv 2) (fun _ _ => rfl)) (a_cons (a := .e (opE (on2 gIx) [.s 1, .s 2])) (e_ix i_ix (pv 1) (pv 2) (fun _ _ => rfl)) (a_nil)))))) (ss_one (s_ret (e_cst pe_bl fun _ => .bl _))) (ss_nil))))
        (ss_one (s_ret (e_cst pe_bl fun _ => .bl _)))))) (ss_nil))
        (ss_cons (s_if (t_cmp (o_ne (hu64 hr)) (e_isi rfl "bool" (by decide) (by rfl) T.n_isinstance (by rfl) T.n_bool bt_isinstance bt_bool (pv 1)) (e_isi rfl "bool" (by decide) (by rfl) T.n_isinstance (by rfl) T.n_bool bt_isinstance bt_bool (pv 0)) (by rfl)) (ss_one (s_ret (e_cst pe_bl fun _ => .bl _))) (ss_nil))
        (ss_cons (s_if ((t_or (t_cmp (o_ne (hu64 hr)) (e_isi rfl "int" (by decide) (by rfl) T.n_isinstance (by rfl) T.n_int bt_isinstance bt_int (pv 1)) (e_isi rfl "int" (by decide) (by rfl) T.n_isinstance (by rfl) T.n_int bt_isinstance bt_int (pv 0)) (by rfl)) (t_or1 (t_cmp (o_ne (hu64 hr)) (e_isi rfl "str" (by decide) (by rfl) T.n_isinstance (by rfl) T.n_str bt_isinstance bt_str (pv 1)) (e_isi rfl "str" (by decide) (by rfl) T.n_isinstance (by rfl) T.n_str bt_isinstance bt_str (pv 0)) (by rfl)))).pt) (ss_one (s_ret (e_cst pe_bl fun _ => .bl _))) (ss_nil))
        (ss_one (s_ret (e_cmp (o_eq (hu64 hr)) (pv 0) (pv 1) (by rfl)))))))
abbrev N__law_star : List Str := ["knowing", "n", "found", "a", "b"]
abbrev P__law_star : List Str := ["knowing"]
theorem sc__law_star : FnScope N__law_star P__law_star (defScope s__law_star) := ⟨rfl, rfl, rfl, by decide +kernel, rfl, by decide +kernel, by decide +kernel⟩
def F__law_star : SF := seqS (asgS (opE (on1 gLen) [.s 0]) (nameT 1)) (seqS (asgS (lcE (itA (one1 rng1) [.s 1]) [3] (nameT 3) (andB (valB (opE (on2 (gIn true)) [.e (cst (.bool true)), .e (opE (on2 gIx) [.s 0, .s 3])])) (valB (opE (on2 (gEq)) [.e (lcE (itA (one1 rng1) [.s 1]) [4] (nameT 4) (andB (valB (opE (on2 (gNe)) [.s 4, .s 3])) (notB (valB (opE (on2 gIx) [.e (opE (on2 gIx) [.s 0, .s 4]), .s 3])))) (varZ 4)), .e (lstE [])]))) (varZ 3)) (nameT 2)) (retS (opE (on2 gIx) [.e (opE (on2 gAdd) [.s 2, .e (lstE [cst .none])]), .e (cst (.int 0))])))
def den__law_star : DenN := denN F__law_star N__law_star.length
theorem ok__law_star (T : Txt K mg base a) : FnOk P w K mg base (L2.CX P w) (1) a.f__law_star a.d__law_star P__law_star (SpN K a.Ts xc P__law_star.length (den__law_star)) := by
  have S := sc__law_star
  refine fnC_denN a.Ts xc F__law_star T.f__law_star S (by decide) fun A outer s H E hr => ?_
  exact ss_cons (s_set 1 S.nd rfl (by first | exact .inl rfl | exact .inr rfl) (by simp) (e_blt c_len (by rfl) T.n_len bt_len (a_cons (a := .s 0) (pv 0) (a_nil))))
        (ss_cons (s_setLc 2 rfl S.nd rfl rfl (by simp) rfl (i_range1 (by rfl) T.n_range (a_cons (a := .s 1) (pv 1) (a_nil))) (blkOk_by (own := [("a", 3)]) (by kernel_rfl)) (by simp) (by decide) (fun s H C cl fp => g_name 3 (by simp) (pg_name S.nd rfl (by first | exact .inl rfl | exact .inr rfl))) (fun s H C cl fp => ts_one ((t_and (t_cmp (o_notin (hu65 hr)) (e_cst pe_bl fun _ => .bl _) (e_ix i_ix (pv 0) (pv 3) (fun _ _ => rfl)) (by rfl)) (t_and1 (t_cmp (o_eq (hu64 hr)) (e_lc rfl S.nd (i_range1 (by rfl) T.n_range (a_cons (a := .s 1) (pv 1) (a_nil))) (blkOk_by (own := [("b", 4)]) (by kernel_rfl)) (by simp) (by decide) (fun s H C cl fp => g_name 4 (by simp) (pg_name S.nd rfl (by first | exact .inl rfl | exact .inr rfl))) (fun s H C cl fp => ts_one ((t_and (t_cmp (o_ne (hu64 hr)) (pv 4) (pv 3) (by rfl)) (t_and1 (t_not (t_val (e_ix i_ix (e_ix i_ix (pv 0) (pv 4) (fun _ _ => rfl)) (pv 3) (fun _ _ => rfl)))))).pt)) (fun s H C cl fp => e_varZ 4 (pv 4))) (e_lst (as := []) (a_nil) (by decide)) (by rfl)))).pt)) (fun s H C cl fp => e_varZ 3 (pv 3)))
        (ss_one (s_ret (e_ix i_ix (e_bin o_add (pv 2) (e_lst (as := [cst .none]) (a_cons (a := .e (cst .none)) (e_cst pe_non fun _ => .non) (a_nil)) (by decide))) (e_cst pe_int fun _ => .int _) (fun _ _ => rfl)))))
def B__law_questions_1 : SF := seqS (dropS (appE 4 (tupE [varZ 3, varZ 1]))) (asgS (iteE (valB (opE (on2 gIx) [.e (opE (on2 gIx) [.s 0, .s 3]), .s 1])) (varZ 1) (varZ 3)) (nameT 3))
def B__law_questions_2 : SF := ifS (valB (opE (on2 (gIn true)) [.s 5, .s 4])) (seqS (dropS (appE 4 (varZ 5))) (ifS (valB (opE (on2 (gNe)) [.e (opE (on2 gIx) [.e (opE (on2 gIx) [.s 0, .e (opE (on2 gIx) [.s 5, .e (cst (.int 0))])]), .e (opE (on2 gIx) [.s 5, .e (cst (.int 1))])]), .e (opE (on2 (gNe)) [.e (opE (on2 gIx) [.s 5, .e (cst (.int 0))]), .s 3])])) (retS (opE (on1 gTup) [.s 4])) (passS))) (passS)
def B__law_questions_3 : SF := ifS (valB (opE (on2 (gNe)) [.s 1, .s 3])) (forS (itE (lstE [tupE [varZ 3, varZ 1], tupE [varZ 1, varZ 3]])) (nameT 5) B__law_questions_2) (passS)
abbrev N__law_questions : List Str := ["knowing", "b", "n", "star", "asked", "pair"]
abbrev P__law_questions : List Str := ["knowing"]
theorem sc__law_questions : FnScope N__law_questions P__law_questions (defScope s__law_questions) := ⟨rfl, rfl, rfl, by decide +kernel, rfl, by decide +kernel, by decide +kernel⟩
def F__law_questions : SF := seqS (parS [opE (on1 gLen) [.s 0], cst (.int 0), lstE []] [nameT 2, nameT 3, nameT 4]) (seqS (forS (itA (one2 rng2) [.e (cst (.int 1)), .s 2]) (nameT 1) B__law_questions_1) (seqS (forS (itA (one1 rng1) [.s 2]) (nameT 1) B__law_questions_3) (retS (opE (on1 gTup) [.s 4]))))
def den__law_questions : DenN := denN F__law_questions N__law_questions.length
theorem ok__law_questions (T : Txt K mg base a) : FnOk P w K mg base (L2.CX P w) (1) a.f__law_questions a.d__law_questions P__law_questions (SpN K a.Ts xc P__law_questions.length (den__law_questions)) := by
  have S := sc__law_questions
  refine fnC_denN a.Ts xc F__law_questions T.f__law_questions S (by decide) fun A outer s H E hr => ?_
  exact ss_cons (s_par3 2 3 4 rfl S.nd rfl rfl rfl (by decide) (by decide) (by decide) (by simp) rfl rfl rfl (a_cons (a := .e (opE (on1 gLen) [.s 0])) (e_blt c_len (by rfl) T.n_len bt_len (a_cons (a := .s 0) (pv 0) (a_nil))) (a_cons (a := .e (cst (.int 0))) (e_cst pe_int fun _ => .int _) (a_cons (a := .e (lstE [])) (e_lst (as := []) (a_nil) (by decide)) (a_nil)))))
        (ss_cons (s_for owns_def rfl (i_range2 (by rfl) T.n_range (a_cons (a := .e (cst (.int 1))) (e_cst pe_int fun _ => .int _) (a_cons (a := .s 2) (pv 2) (a_nil)))) (g_name 1 (by simp) (pg_name S.nd rfl (by first | exact .inl rfl | exact .inr rfl))) (show PSs _ _ (tS _ B__law_questions_1) from ss_cons (s_drop (e_app rfl 4 (pv 4) (e_tup (as := [varZ 3, varZ 1]) (a_cons (a := .e (varZ 3)) (e_varZ 3 (pv 3)) (a_cons (a := .e (varZ 1)) (e_varZ 1 (pv 1)) (a_nil))) (by decide))))
        (ss_one (s_set 3 S.nd rfl (by first | exact .inl rfl | exact .inr rfl) (by simp) (e_ite (t_val (e_ix i_ix (e_ix i_ix (pv 0) (pv 3) (fun _ _ => rfl)) (pv 1) (fun _ _ => rfl))) (e_varZ 1 (pv 1)) (e_varZ 3 (pv 3)))))))
        (ss_cons (s_for owns_def rfl (i_range1 (by rfl) T.n_range (a_cons (a := .s 2) (pv 2) (a_nil))) (g_name 1 (by simp) (pg_name S.nd rfl (by first | exact .inl rfl | exact .inr rfl))) (show PSs _ _ (tS _ B__law_questions_3) from ss_one (s_if (t_cmp (o_ne (hu64 hr)) (pv 1) (pv 3) (by rfl)) (ss_one (s_for owns_def rfl (i_seq rfl (e_lst (as := [tupE [varZ 3, varZ 1], tupE [varZ 1, varZ 3]]) (a_cons (a := .e (tupE [varZ 3, varZ 1])) (e_tup (as := [varZ 3, varZ 1]) (a_cons (a := .e (varZ 3)) (e_varZ 3 (pv 3)) (a_cons (a := .e (varZ 1)) (e_varZ 1 (pv 1)) (a_nil))) (by decide)) (a_cons (a := .e (tupE [varZ 1, varZ 3])) (e_tup (as := [varZ 1, varZ 3]) (a_cons (a := .e (varZ 1)) (e_varZ 1 (pv 1)) (a_cons (a := .e (varZ 3)) (e_varZ 3 (pv 3)) (a_nil))) (by decide)) (a_nil))) (by decide))) (g_name 5 (by simp) (pg_name S.nd rfl (by first | exact .inl rfl | exact .inr rfl))) (show PSs _ _ (tS _ B__law_questions_2) from ss_one (s_if (t_cmp (o_notin (hu65 hr)) (pv 5) (pv 4) (by rfl)) (ss_cons (s_drop (e_app rfl 4 (pv 4) (e_varZ 5 (pv 5))))
        (ss_one (s_if (t_cmp (o_ne (hu64 hr)) (e_ix i_ix (e_ix i_ix (pv 0) (e_ix i_ix (pv 5) (e_cst pe_int fun _ => .int _) (fun _ _ => rfl)) (fun _ _ => rfl)) (e_ix i_ix (pv 5) (e_cst pe_int fun _ => .int _) (fun _ _ => rfl)) (fun _ _ => rfl)) (e_cmp (o_ne (hu64 hr)) (e_ix i_ix (pv 5) (e_cst pe_int fun _ => .int _) (fun _ _ => rfl)) (pv 3) (by rfl)) (by rfl)) (ss_one (s_ret (e_bty c_tuple (by rfl) T.n_tuple bt_tuple (a_cons (a := .s 4) (pv 4) (a_nil))))) (ss_nil)))) (ss_nil))))) (ss_nil))))
        (ss_one (s_ret (e_bty c_tuple (by rfl) T.n_tuple bt_tuple (a_cons (a := .s 4) (pv 4) (a_nil)))))))
def B_law_1 : SF := asgS (opE (on2 (gNe)) [.s 10, .s 9]) (st2T 2 (.s 10) (.s 9))
def B_law_2 : SF := seqS (asgS (opE (on1 gTup) [.e (lcE (itA (one1 rng1) [.s 7]) [10] (nameT 10) (yesB) (opE (on1 gTup) [.e (lcE (itA (one1 rng1) [.s 7]) [13] (nameT 13) (yesB) (iteE (orB (valB (opE (on2 (gIn false)) [.e (tupE [varZ 10, varZ 13]), .s 11])) (valB (opE (on2 (gEq)) [.s 10, .s 13]))) (opE (on2 gIx) [.e (opE (on2 gIx) [.s 3, .s 10]), .s 13]) (opE (on2 (gEq)) [.e (callI (den__law_take) 1 [.e (cst (.int 2))]), .e (cst (.int 0))])))]))]) (nameT 12)) (ifS (orB (valB (opE (on2 (gNe)) [.e (callE (den_star_of) [.s 12]), .s 9])) (valB (opE (on2 (gNe)) [.e (callE (den_told_questions) [.s 12]), .s 11]))) (retS (cst (.bool false))) (passS))
abbrev N_law : List Str := ["script", "draws", "rows", "knowing", "turn", "row", "odd", "n", "share", "star", "a", "due", "bent", "b", "one"]
abbrev P_law : List Str := ["script"]
theorem sc_law : FnScope N_law P_law (defScope s_law) := ⟨rfl, rfl, rfl, by decide +kernel, rfl, by decide +kernel, by decide +kernel⟩
def F_law : SF := seqS (asgS (callE (den__law_draws) [.s 0]) (nameT 1)) (seqS (parS [opE (on2 gAdd) [.e (cst (.int 1)), .e (callI (den__law_take) 1 [.e (cst (.int 9))])], opE (on2 gAdd) [.e (cst (.int 1)), .e (callI (den__law_take) 1 [.e (cst (.int 3))])]] [nameT 7, nameT 8]) (seqS (asgS (lcE (itA (one1 rng1) [.s 7]) [10] (nameT 10) (yesB) (lcE (itA (one1 rng1) [.s 7]) [13] (nameT 13) (yesB) (andV (opE (on2 (gNe)) [.s 10, .s 13]) (opE (on2 (gI fun i j => decide (j < i))) [.e (callI (den__law_take) 1 [.e (opE (on2 gAdd) [.s 8, .e (cst (.int 1))])]), .e (cst (.int 0))])))) (nameT 2)) (seqS (ifS (valB (opE (on2 (gI fun i j => decide (j < i))) [.e (callI (den__law_take) 1 [.e (cst (.int 3))]), .e (cst (.int 0))])) (seqS (asgS (callI (den__law_take) 1 [.s 7]) (nameT 9)) (seqS (asgS (opE (on2 gMulA) [.e (lstE [cst (.bool false)]), .s 7]) (stT 2 (.s 9))) (forS (itA (one1 rng1) [.s 7]) (nameT 10) B_law_1))) (passS)) (seqS (ifS (andB (valB (opE (on2 (gI fun i j => decide (j < i))) [.s 7, .e (cst (.int 1))])) (valB (opE (on2 (gEq)) [.e (callI (den__law_take) 1 [.e (cst (.int 2))]), .e (cst (.int 0))]))) (seqS (parS [callI (den__law_take) 1 [.s 7], callI (den__law_take) 1 [.s 7]] [nameT 10, nameT 13]) (ifS (valB (opE (on2 (gNe)) [.s 10, .s 13])) (asgS (notV (ix2E 2 (.s 10) (.s 13))) (st2T 2 (.s 10) (.s 13))) (passS))) (passS)) (seqS (asgS (opE (on1 gTup) [.e (lcE (itE (varZ 2)) [5] (nameT 5) (yesB) (opE (on1 gTup) [.s 5]))]) (nameT 3)) (seqS (parS [callE (den__law_questions) [.s 3], callE (den__law_star) [.s 3]] [nameT 11, nameT 9]) (seqS (ifS (orB (valB (opE (on2 (gIs true)) [.e (callE (den_is_knowing) [.s 3]), .e (cst (.bool true))])) (orB (notB (valB (callE (den__law_same 30) [.e (lstE [callE (den_star_of) [.s 3], callE (den_told_questions) [.s 3]]), .e (lstE [varZ 9, varZ 11])]))) (valB (opE (on2 (gI fun i j => decide (j < i))) [.e (opE (on1 gLen) [.s 11]), .e (opE (on2 gMulA) [.e (cst (.int 3)), .e (opE (on2 gSub) [.s 7, .e (cst (.int 1))])])])))) (retS (cst (.bool false))) (passS)) (seqS (forS (itA (one1 rng1) [.e (cst (.int 6))]) (nameT 4) B_law_2) (seqS (asgS (opE (on2 gIx) [.s 3, .e (cst (.int 0))]) (nameT 5)) (seqS (asgS (lstE [tupE [], opE (on1 gList) [.s 3], opE (on2 gAdd) [.e (tupE [opE (on1 gList) [.s 5]]), .e (cut1E (.s 3) 1 (some (.e (cst (.int 1)))))], opE (on2 gAdd) [.e (tupE [opE (on2 gAdd) [.s 5, .e (tupE [cst (.bool false)])]]), .e (cut1E (.s 3) 1 (some (.e (cst (.int 1)))))], opE (on2 gAdd) [.e (tupE [cut1E (.s 5) 1 (some (.e (cst (.int 1))))]), .e (cut1E (.s 3) 1 (some (.e (cst (.int 1)))))], opE (on2 gAdd) [.e (tupE [opE (on2 gAdd) [.e (tupE [cst (.bool true)]), .e (cut1E (.s 5) 1 (some (.e (cst (.int 1)))))]]), .e (cut1E (.s 3) 1 (some (.e (cst (.int 1)))))]]) (nameT 6)) (seqS (asgS (opE (on2 gAdd) [.e (varZ 6), .e (lstE [opE (on2 gAdd) [.e (tupE [opE (on2 gAdd) [.e (tupE [cst (.int 0)]), .e (cut1E (.s 5) 1 (some (.e (cst (.int 1)))))]]), .e (cut1E (.s 3) 1 (some (.e (cst (.int 1)))))], opE (on2 gAdd) [.e (tupE [opE (on2 gAdd) [.e (tupE [cst .none]), .e (cut1E (.s 5) 1 (some (.e (cst (.int 1)))))]]), .e (cut1E (.s 3) 1 (some (.e (cst (.int 1)))))], opE (on2 gMulA) [.e (tupE [opE (on2 gMulA) [.e (tupE [cst (.bool false)]), .e (cst (.int 10))]]), .e (cst (.int 10))], tupE [cst .none], cst .none, cst (.str "knowing")])]) (nameT 6)) (retS (opE (on2 (gEq)) [.e (lcE (itE (varZ 6)) [14] (nameT 14) (valB (opE (on2 (gIs true)) [.e (callE (den_is_knowing) [.s 14]), .e (cst (.bool false))])) (varZ 14)), .e (lstE [])])))))))))))))
def den_law : DenN := denN F_law N_law.length
theorem ok_law (T : Txt K mg base a) : FnOk P w K mg base (L2.CX P w) (32) a.f_law a.d_law P_law (SpN K a.Ts xc P_law.length (den_law)) := by
  have S := sc_law
  refine fnC_denN a.Ts xc F_law T.f_law S (by decide) fun A outer s H E hr => ?_
  exact ss_cons (s_set 1 S.nd rfl (by first | exact .inl rfl | exact .inr rfl) (by simp) (e_call (ok__law_draws (xc := xc) T) (hr.mono (by omega)) (by rfl) T.m__law_draws T.f__law_draws.d.kp T.b__law_draws pass_def (fun _ _ h => h) rfl (a_cons (a := .s 0) (pv 0) (a_nil))))
        (ss_cons (s_parT (as := [opE (on2 gAdd) [.e (cst (.int 1)), .e (callI (den__law_take) 1 [.e (cst (.int 9))])], opE (on2 gAdd) [.e (cst (.int 1)), .e (callI (den__law_take) 1 [.e (cst (.int 3))])]]) rfl rfl (a_cons (a := .e (opE (on2 gAdd) [.e (cst (.int 1)), .e (callI (den__law_take) 1 [.e (cst (.int 9))])])) (e_bin o_add (e_cst pe_int fun _ => .int _) (e_callI 1 (ok__law_take (xc := xc) T) (hr.mono (by omega)) (by rfl) T.m__law_take T.f__law_take.d.kp T.b__law_take pass_def (fun _ _ h => h) rfl (a_cons (a := .s 1) (pv 1) (a_cons (a := .e (cst (.int 9))) (e_cst pe_int fun _ => .int _) (a_nil))))) (a_cons (a := .e (opE (on2 gAdd) [.e (cst (.int 1)), .e (callI (den__law_take) 1 [.e (cst (.int 3))])])) (e_bin o_add (e_cst pe_int fun _ => .int _) (e_callI 1 (ok__law_take (xc := xc) T) (hr.mono (by omega)) (by rfl) T.m__law_take T.f__law_take.d.kp T.b__law_take pass_def (fun _ _ h => h) rfl (a_cons (a := .s 1) (pv 1) (a_cons (a := .e (cst (.int 3))) (e_cst pe_int fun _ => .int _) (a_nil))))) (a_nil))) (gsC_cons (g_name 7 (by simp) (pg_name S.nd rfl (by first | exact .inl rfl | exact .inr rfl))) (gsC_cons (g_name 8 (by simp) (pg_name S.nd rfl (by first | exact .inl rfl | exact .inr rfl))) (gsC_nil))) (by decide))
        (ss_cons (s_setLc 2 rfl S.nd rfl rfl (by simp) rfl (i_range1 (by rfl) T.n_range (a_cons (a := .s 7) (pv 7) (a_nil))) (blkOk_by (own := [("a", 10)]) (by kernel_rfl)) (by simp) (by decide) (fun s H C cl fp => g_name 10 (by simp) (pg_name S.nd rfl (by first | exact .inl rfl | exact .inr rfl))) (fun s H C cl fp => ts_nil) (fun s H C cl fp => e_lc rfl S.nd (i_range1 (by rfl) T.n_range (a_cons (a := .s 7) (pv 7) (a_nil))) (blkOk_by (own := [("b", 13)]) (by kernel_rfl)) (by simp) (by decide) (fun s H C cl fp => g_name 13 (by simp) (pg_name S.nd rfl (by first | exact .inl rfl | exact .inr rfl))) (fun s H C cl fp => ts_nil) (fun s H C cl fp => e_and (e_cmp (o_ne (hu64 hr)) (pv 10) (pv 13) (by rfl)) (e_one (e_cmp (o_int op_gt) (e_callI 1 (ok__law_take (xc := xc) T) (hr.mono (by omega)) (by rfl) T.m__law_take T.f__law_take.d.kp T.b__law_take passL (fun _ _ h => h.elim) rfl (a_cons (a := .s 1) (pv 1) (a_cons (a := .e (opE (on2 gAdd) [.s 8, .e (cst (.int 1))])) (e_bin o_add (pv 8) (e_cst pe_int fun _ => .int _)) (a_nil)))) (e_cst pe_int fun _ => .int _) (by rfl))))))
        (ss_cons (s_if (t_cmp (o_int op_gt) (e_callI 1 (ok__law_take (xc := xc) T) (hr.mono (by omega)) (by rfl) T.m__law_take T.f__law_take.d.kp T.b__law_take pass_def (fun _ _ h => h) rfl (a_cons (a := .s 1) (pv 1) (a_cons (a := .e (cst (.int 3))) (e_cst pe_int fun _ => .int _) (a_nil)))) (e_cst pe_int fun _ => .int _) (by rfl)) (ss_cons (s_set 9 S.nd rfl (by first | exact .inl rfl | exact .inr rfl) (by simp) (e_callI 1 (ok__law_take (xc := xc) T) (hr.mono (by omega)) (by rfl) T.m__law_take T.f__law_take.d.kp T.b__law_take pass_def (fun _ _ h => h) rfl (a_cons (a := .s 1) (pv 1) (a_cons (a := .s 7) (pv 7) (a_nil)))))
        (ss_cons (s_asg (e_bin o_mul (e_lst (as := [cst (.bool false)]) (a_cons (a := .e (cst (.bool false))) (e_cst pe_bl fun _ => .bl _) (a_nil)) (by decide)) (pv 7)) (g_st 2 (pv 2) (pv 9)))
        (ss_one (s_for owns_def rfl (i_range1 (by rfl) T.n_range (a_cons (a := .s 7) (pv 7) (a_nil))) (g_name 10 (by simp) (pg_name S.nd rfl (by first | exact .inl rfl | exact .inr rfl))) (show PSs _ _ (tS _ B_law_1) from ss_one (s_asg (e_cmp (o_ne (hu64 hr)) (pv 10) (pv 9) (by rfl)) (g_st2 rfl 2 (pv 2) (pv 10) (pv 9) (fun _ _ => rfl)))))))) (ss_nil))
        (ss_cons (s_if ((t_and (t_cmp (o_int op_gt) (pv 7) (e_cst pe_int fun _ => .int _) (by rfl)) (t_and1 (t_cmp (o_eq (hu64 hr)) (e_callI 1 (ok__law_take (xc := xc) T) (hr.mono (by omega)) (by rfl) T.m__law_take T.f__law_take.d.kp T.b__law_take pass_def (fun _ _ h => h) rfl (a_cons (a := .s 1) (pv 1) (a_cons (a := .e (cst (.int 2))) (e_cst pe_int fun _ => .int _) (a_nil)))) (e_cst pe_int fun _ => .int _) (by rfl)))).pt) (ss_cons (s_par2 10 13 rfl S.nd rfl rfl (by decide) (by simp) rfl rfl (a_cons (a := .e (callI (den__law_take) 1 [.s 7])) (e_callI 1 (ok__law_take (xc := xc) T) (hr.mono (by omega)) (by rfl) T.m__law_take T.f__law_take.d.kp T.b__law_take pass_def (fun _ _ h => h) rfl (a_cons (a := .s 1) (pv 1) (a_cons (a := .s 7) (pv 7) (a_nil)))) (a_cons (a := .e (callI (den__law_take) 1 [.s 7])) (e_callI 1 (ok__law_take (xc := xc) T) (hr.mono (by omega)) (by rfl) T.m__law_take T.f__law_take.d.kp T.b__law_take pass_def (fun _ _ h => h) rfl (a_cons (a := .s 1) (pv 1) (a_cons (a := .s 7) (pv 7) (a_nil)))) (a_nil))))
        (ss_one (s_if (t_cmp (o_ne (hu64 hr)) (pv 10) (pv 13) (by rfl)) (ss_one (s_asg (e_not (e_ix2 rfl 2 (pv 2) (pv 10) (pv 13) (fun _ _ => rfl) (fun _ _ => rfl))) (g_st2 rfl 2 (pv 2) (pv 10) (pv 13) (fun _ _ => rfl)))) (ss_nil)))) (ss_nil))
        (ss_cons (s_set 3 S.nd rfl (by first | exact .inl rfl | exact .inr rfl) (by simp) (e_bty c_tuple (by rfl) T.n_tuple bt_tuple (a_cons (a := .e (lcE (itE (varZ 2)) [5] (nameT 5) (yesB) (opE (on1 gTup) [.s 5]))) (e_lc rfl S.nd (i_seq rfl (e_varZ 2 (pv 2))) (blkOk_by (own := [("row", 5)]) (by kernel_rfl)) (by simp) (by decide) (fun s H C cl fp => g_name 5 (by simp) (pg_name S.nd rfl (by first | exact .inl rfl | exact .inr rfl))) (fun s H C cl fp => ts_nil) (fun s H C cl fp => e_bty c_tuple (by rfl) T.n_tuple bt_tuple (a_cons (a := .s 5) (pv 5) (a_nil)))) (a_nil))))
        (ss_cons (s_parT (as := [callE (den__law_questions) [.s 3], callE (den__law_star) [.s 3]]) rfl rfl (a_cons (a := .e (callE (den__law_questions) [.s 3])) (e_call (ok__law_questions (xc := xc) T) (hr.mono (by omega)) (by rfl) T.m__law_questions T.f__law_questions.d.kp T.b__law_questions pass_def (fun _ _ h => h) rfl (a_cons (a := .s 3) (pv 3) (a_nil))) (a_cons (a := .e (callE (den__law_star) [.s 3])) (e_call (ok__law_star (xc := xc) T) (hr.mono (by omega)) (by rfl) T.m__law_star T.f__law_star.d.kp T.b__law_star pass_def (fun _ _ h => h) rfl (a_cons (a := .s 3) (pv 3) (a_nil))) (a_nil))) (gsC_cons (g_name 11 (by simp) (pg_name S.nd rfl (by first | exact .inl rfl | exact .inr rfl))) (gsC_cons (g_name 9 (by simp) (pg_name S.nd rfl (by first | exact .inl rfl | exact .inr rfl))) (gsC_nil))) (by decide))
        (ss_cons (s_if ((t_or (t_cmp (o_isnot) (e_call (ok_is_knowing (xc := xc) T) (hr.mono (by omega)) (by rfl) T.m_is_knowing T.f_is_knowing.d.kp T.b_is_knowing pass_def (fun _ _ h => h) rfl (a_cons (a := .s 3) (pv 3) (a_nil))) (e_cst pe_bl fun _ => .bl _) (by rfl)) (t_or (t_not (t_val (e_call (ok__law_same (xc := xc) T 30) (hr.mono (by omega)) (by rfl) T.m__law_same T.f__law_same.d.kp T.b__law_same pass_def (fun _ _ h => h) rfl (a_cons (a := .e (lstE [callE (den_star_of) [.s 3], callE (den_told_questions) [.s 3]])) (e_lst (as := [callE (den_star_of) [.s 3], callE (den_told_questions) [.s 3]]) (a_cons (a := .e (callE (den_star_of) [.s 3])) (e_call (ok_star_of (xc := xc) T) (hr.mono (by omega)) (by rfl) T.m_star_of T.f_star_of.d.kp T.b_star_of pass_def (fun _ _ h => h) rfl (a_cons (a := .s 3) (pv 3) (a_nil))) (a_cons (a := .e (callE (den_told_questions) [.s 3])) (e_call (ok_told_questions (xc := xc) T) (hr.mono (by omega)) (by rfl) T.m_told_questions T.f_told_questions.d.kp T.b_told_questions pass_def (fun _ _ h => h) rfl (a_cons (a := .s 3) (pv 3) (a_nil))) (a_nil))) (by decide)) (a_cons (a := .e (lstE [varZ 9, varZ 11])) (e_lst (as := [varZ 9, varZ 11]) (a_cons (a := .e (varZ 9)) (e_varZ 9 (pv 9)) (a_cons (a := .e (varZ 11)) (e_varZ 11 (pv 11)) (a_nil))) (by decide)) (a_nil)))))) (t_or1 (t_cmp (o_int op_gt) (e_blt c_len (by rfl) T.n_len bt_len (a_cons (a := .s 11) (pv 11) (a_nil))) (e_bin o_mul (e_cst pe_int fun _ => .int _) (e_bin o_sub (pv 7) (e_cst pe_int fun _ => .int _))) (by rfl))))).pt) (ss_one (s_ret (e_cst pe_bl fun _ => .bl _))) (ss_nil))
        (ss_cons (s_for owns_def rfl (i_range1 (by rfl) T.n_range (a_cons (a := .e (cst (.int 6))) (e_cst pe_int fun _ => .int _) (a_nil))) (g_name 4 (by simp) (pg_name S.nd rfl (by first | exact .inl rfl | exact .inr rfl))) (show PSs _ _ (tS _ B_law_2) from ss_cons (s_set 12 S.nd rfl (by first | exact .inl rfl | exact .inr rfl) (by simp) (e_bty c_tuple (by rfl) T.n_tuple bt_tuple (a_cons (a := .e (lcE (itA (one1 rng1) [.s 7]) [10] (nameT 10) (yesB) (opE (on1 gTup) [.e (lcE (itA (one1 rng1) [.s 7]) [13] (nameT 13) (yesB) (iteE (orB (valB (opE (on2 (gIn false)) [.e (tupE [varZ 10, varZ 13]), .s 11])) (valB (opE (on2 (gEq)) [.s 10, .s 13]))) (opE (on2 gIx) [.e (opE (on2 gIx) [.s 3, .s 10]), .s 13]) (opE (on2 (gEq)) [.e (callI (den__law_take) 1 [.e (cst (.int 2))]), .e (cst (.int 0))])))]))) (e_lc rfl S.nd (i_range1 (by rfl) T.n_range (a_cons (a := .s 7) (pv 7) (a_nil))) (blkOk_by (own := [("a", 10)]) (by kernel_rfl)) (by simp) (by decide) (fun s H C cl fp => g_name 10 (by simp) (pg_name S.nd rfl (by first | exact .inl rfl | exact .inr rfl))) (fun s H C cl fp => ts_nil) (fun s H C cl fp => e_bty c_tuple (by rfl) T.n_tuple bt_tuple (a_cons (a := .e (lcE (itA (one1 rng1) [.s 7]) [13] (nameT 13) (yesB) (iteE (orB (valB (opE (on2 (gIn false)) [.e (tupE [varZ 10, varZ 13]), .s 11])) (valB (opE (on2 (gEq)) [.s 10, .s 13]))) (opE (on2 gIx) [.e (opE (on2 gIx) [.s 3, .s 10]), .s 13]) (opE (on2 (gEq)) [.e (callI (den__law_take) 1 [.e (cst (.int 2))]), .e (cst (.int 0))])))) (e_lc rfl S.nd (i_range1 (by rfl) T.n_range (a_cons (a := .s 7) (pv 7) (a_nil))) (blkOk_by (own := [("b", 13)]) (by kernel_rfl)) (by simp) (by decide) (fun s H C cl fp => g_name 13 (by simp) (pg_name S.nd rfl (by first | exact .inl rfl | exact .inr rfl))) (fun s H C cl fp => ts_nil) (fun s H C cl fp => e_ite ((t_or (t_cmp (o_in (hu65 hr)) (e_tup (as := [varZ 10, varZ 13]) (a_cons (a := .e (varZ 10)) (e_varZ 10 (pv 10)) (a_cons (a := .e (varZ 13)) (e_varZ 13 (pv 13)) (a_nil))) (by decide)) (pv 11) (by rfl)) (t_or1 (t_cmp (o_eq (hu64 hr)) (pv 10) (pv 13) (by rfl)))).pt) (e_ix i_ix (e_ix i_ix (pv 3) (pv 10) (fun _ _ => rfl)) (pv 13) (fun _ _ => rfl)) (e_cmp (o_eq (hu64 hr)) (e_callI 1 (ok__law_take (xc := xc) T) (hr.mono (by omega)) (by rfl) T.m__law_take T.f__law_take.d.kp T.b__law_take passL (fun _ _ h => h.elim) rfl (a_cons (a := .s 1) (pv 1) (a_cons (a := .e (cst (.int 2))) (e_cst pe_int fun _ => .int _) (a_nil)))) (e_cst pe_int fun _ => .int _) (by rfl)))) (a_nil)))) (a_nil))))
        (ss_one (s_if ((t_or (t_cmp (o_ne (hu64 hr)) (e_call (ok_star_of (xc := xc) T) (hr.mono (by omega)) (by rfl) T.m_star_of T.f_star_of.d.kp T.b_star_of pass_def (fun _ _ h => h) rfl (a_cons (a := .s 12) (pv 12) (a_nil))) (pv 9) (by rfl)) (t_or1 (t_cmp (o_ne (hu64 hr)) (e_call (ok_told_questions (xc := xc) T) (hr.mono (by omega)) (by rfl) T.m_told_questions T.f_told_questions.d.kp T.b_told_questions pass_def (fun _ _ h => h) rfl (a_cons (a := .s 12) (pv 12) (a_nil))) (pv 11) (by rfl)))).pt) (ss_one (s_ret (e_cst pe_bl fun _ => .bl _))) (ss_nil)))))
        (ss_cons (s_set 5 S.nd rfl (by first | exact .inl rfl | exact .inr rfl) (by simp) (e_ix i_ix (pv 3) (e_cst pe_int fun _ => .int _) (fun _ _ => rfl)))
        (ss_cons (s_set 6 S.nd rfl (by first | exact .inl rfl | exact .inr rfl) (by simp) (e_lst (as := [tupE [], opE (on1 gList) [.s 3], opE (on2 gAdd) [.e (tupE [opE (on1 gList) [.s 5]]), .e (cut1E (.s 3) 1 (some (.e (cst (.int 1)))))], opE (on2 gAdd) [.e (tupE [opE (on2 gAdd) [.s 5, .e (tupE [cst (.bool false)])]]), .e (cut1E (.s 3) 1 (some (.e (cst (.int 1)))))], opE (on2 gAdd) [.e (tupE [cut1E (.s 5) 1 (some (.e (cst (.int 1))))]), .e (cut1E (.s 3) 1 (some (.e (cst (.int 1)))))], opE (on2 gAdd) [.e (tupE [opE (on2 gAdd) [.e (tupE [cst (.bool true)]), .e (cut1E (.s 5) 1 (some (.e (cst (.int 1)))))]]), .e (cut1E (.s 3) 1 (some (.e (cst (.int 1)))))]]) (a_cons (a := .e (tupE [])) (e_tup (as := []) (a_nil) (by decide)) (a_cons (a := .e (opE (on1 gList) [.s 3])) (e_bty c_list (by rfl) T.n_list bt_list (a_cons (a := .s 3) (pv 3) (a_nil))) (a_cons (a := .e (opE (on2 gAdd) [.e (tupE [opE (on1 gList) [.s 5]]), .e (cut1E (.s 3) 1 (some (.e (cst (.int 1)))))])) (e_bin o_add (e_tup (as := [opE (on1 gList) [.s 5]]) (a_cons (a := .e (opE (on1 gList) [.s 5])) (e_bty c_list (by rfl) T.n_list bt_list (a_cons (a := .s 5) (pv 5) (a_nil))) (a_nil)) (by decide)) (e_cutL rfl (pv 3) (e_cst pe_int fun _ => .int _))) (a_cons (a := .e (opE (on2 gAdd) [.e (tupE [opE (on2 gAdd) [.s 5, .e (tupE [cst (.bool false)])]]), .e (cut1E (.s 3) 1 (some (.e (cst (.int 1)))))])) (e_bin o_add (e_tup (as := [opE (on2 gAdd) [.s 5, .e (tupE [cst (.bool false)])]]) (a_cons (a := .e (opE (on2 gAdd) [.s 5, .e (tupE [cst (.bool false)])])) (e_bin o_add (pv 5) (e_tup (as := [cst (.bool false)]) (a_cons (a := .e (cst (.bool false))) (e_cst pe_bl fun _ => .bl _) (a_nil)) (by decide))) (a_nil)) (by decide)) (e_cutL rfl (pv 3) (e_cst pe_int fun _ => .int _))) (a_cons (a := .e (opE (on2 gAdd) [.e (tupE [cut1E (.s 5) 1 (some (.e (cst (.int 1))))]), .e (cut1E (.s 3) 1 (some (.e (cst (.int 1)))))])) (e_bin o_add (e_tup (as := [cut1E (.s 5) 1 (some (.e (cst (.int 1))))]) (a_cons (a := .e (cut1E (.s 5) 1 (some (.e (cst (.int 1)))))) (e_cutL rfl (pv 5) (e_cst pe_int fun _ => .int _)) (a_nil)) (by decide)) (e_cutL rfl (pv 3) (e_cst pe_int fun _ => .int _))) (a_cons (a := .e (opE (on2 gAdd) [.e (tupE [opE (on2 gAdd) [.e (tupE [cst (.bool true)]), .e (cut1E (.s 5) 1 (some (.e (cst (.int 1)))))]]), .e (cut1E (.s 3) 1 (some (.e (cst (.int 1)))))])) (e_bin o_add (e_tup (as := [opE (on2 gAdd) [.e (tupE [cst (.bool true)]), .e (cut1E (.s 5) 1 (some (.e (cst (.int 1)))))]]) (a_cons (a := .e (opE (on2 gAdd) [.e (tupE [cst (.bool true)]), .e (cut1E (.s 5) 1 (some (.e (cst (.int 1)))))])) (e_bin o_add (e_tup (as := [cst (.bool true)]) (a_cons (a := .e (cst (.bool true))) (e_cst pe_bl fun _ => .bl _) (a_nil)) (by decide)) (e_cutL rfl (pv 5) (e_cst pe_int fun _ => .int _))) (a_nil)) (by decide)) (e_cutL rfl (pv 3) (e_cst pe_int fun _ => .int _))) (a_nil))))))) (by decide)))
        (ss_cons (s_set 6 S.nd rfl (by first | exact .inl rfl | exact .inr rfl) (by simp) (e_bin o_add (e_varZ 6 (pv 6)) (e_lst (as := [opE (on2 gAdd) [.e (tupE [opE (on2 gAdd) [.e (tupE [cst (.int 0)]), .e (cut1E (.s 5) 1 (some (.e (cst (.int 1)))))]]), .e (cut1E (.s 3) 1 (some (.e (cst (.int 1)))))], opE (on2 gAdd) [.e (tupE [opE (on2 gAdd) [.e (tupE [cst .none]), .e (cut1E (.s 5) 1 (some (.e (cst (.int 1)))))]]), .e (cut1E (.s 3) 1 (some (.e (cst (.int 1)))))], opE (on2 gMulA) [.e (tupE [opE (on2 gMulA) [.e (tupE [cst (.bool false)]), .e (cst (.int 10))]]), .e (cst (.int 10))], tupE [cst .none], cst .none, cst (.str "knowing")]) (a_cons (a := .e (opE (on2 gAdd) [.e (tupE [opE (on2 gAdd) [.e (tupE [cst (.int 0)]), .e (cut1E (.s 5) 1 (some (.e (cst (.int 1)))))]]), .e (cut1E (.s 3) 1 (some (.e (cst (.int 1)))))])) (e_bin o_add (e_tup (as := [opE (on2 gAdd) [.e (tupE [cst (.int 0)]), .e (cut1E (.s 5) 1 (some (.e (cst (.int 1)))))]]) (a_cons (a := .e (opE (on2 gAdd) [.e (tupE [cst (.int 0)]), .e (cut1E (.s 5) 1 (some (.e (cst (.int 1)))))])) (e_bin o_add (e_tup (as := [cst (.int 0)]) (a_cons (a := .e (cst (.int 0))) (e_cst pe_int fun _ => .int _) (a_nil)) (by decide)) (e_cutL rfl (pv 5) (e_cst pe_int fun _ => .int _))) (a_nil)) (by decide)) (e_cutL rfl (pv 3) (e_cst pe_int fun _ => .int _))) (a_cons (a := .e (opE (on2 gAdd) [.e (tupE [opE (on2 gAdd) [.e (tupE [cst .none]), .e (cut1E (.s 5) 1 (some (.e (cst (.int 1)))))]]), .e (cut1E (.s 3) 1 (some (.e (cst (.int 1)))))])) (e_bin o_add (e_tup (as := [opE (on2 gAdd) [.e (tupE [cst .none]), .e (cut1E (.s 5) 1 (some (.e (cst (.int 1)))))]]) (a_cons (a := .e (opE (on2 gAdd) [.e (tupE [cst .none]), .e (cut1E (.s 5) 1 (some (.e (cst (.int 1)))))])) (e_bin o_add (e_tup (as := [cst .none]) (a_cons (a := .e (cst .none)) (e_cst pe_non fun _ => .non) (a_nil)) (by decide)) (e_cutL rfl (pv 5) (e_cst pe_int fun _ => .int _))) (a_nil)) (by decide)) (e_cutL rfl (pv 3) (e_cst pe_int fun _ => .int _))) (a_cons (a := .e (opE (on2 gMulA) [.e (tupE [opE (on2 gMulA) [.e (tupE [cst (.bool false)]), .e (cst (.int 10))]]), .e (cst (.int 10))])) (e_bin o_mul (e_tup (as := [opE (on2 gMulA) [.e (tupE [cst (.bool false)]), .e (cst (.int 10))]]) (a_cons (a := .e (opE (on2 gMulA) [.e (tupE [cst (.bool false)]), .e (cst (.int 10))])) (e_bin o_mul (e_tup (as := [cst (.bool false)]) (a_cons (a := .e (cst (.bool false))) (e_cst pe_bl fun _ => .bl _) (a_nil)) (by decide)) (e_cst pe_int fun _ => .int _)) (a_nil)) (by decide)) (e_cst pe_int fun _ => .int _)) (a_cons (a := .e (tupE [cst .none])) (e_tup (as := [cst .none]) (a_cons (a := .e (cst .none)) (e_cst pe_non fun _ => .non) (a_nil)) (by decide)) (a_cons (a := .e (cst .none)) (e_cst pe_non fun _ => .non) (a_cons (a := .e (cst (.str "knowing"))) (e_cst pe_str fun _ => .str _) (a_nil))))))) (by decide))))
        (ss_one (s_ret (e_cmp (o_eq (hu64 hr)) (e_lc rfl S.nd (i_seq rfl (e_varZ 6 (pv 6))) (blkOk_by (own := [("one", 14)]) (by kernel_rfl)) (by simp) (by decide) (fun s H C cl fp => g_name 14 (by simp) (pg_name S.nd rfl (by first | exact .inl rfl | exact .inr rfl))) (fun s H C cl fp => ts_one (t_cmp (o_isnot) (e_call (ok_is_knowing (xc := xc) T) (hr.mono (by omega)) (by rfl) T.m_is_knowing T.f_is_knowing.d.kp T.b_is_knowing passL (fun _ _ h => h.elim) rfl (a_cons (a := .s 14) (pv 14) (a_nil))) (e_cst pe_bl fun _ => .bl _) (by rfl))) (fun s H C cl fp => e_varZ 14 (pv 14))) (e_lst (as := []) (a_nil) (by decide)) (by rfl)))))))))))))))
def fa : List He.Fa := [.glo "is_known_row", .glo "is_knowing", .glo "looked_at", .glo "told_questions", .glo "star_of", .glo "_law_draws", .glo "_law_take", .glo "_law_same", .glo "_law_star", .glo "_law_questions", .glo "law", .free "abs", .free "all", .free "any", .free "bool", .free "enumerate", .free "int", .free "isinstance", .free "len", .free "list", .free "range", .free "reversed", .free "str", .free "tuple", .int "MOST_GUESTS" 9]
def D_is_known_row : He.DefD := ⟨("is_known_row", none), "is_known_row", "is_known_row", defArgs s_is_known_row, defBody s_is_known_row, defScope s_is_known_row, [], []⟩
def D_is_knowing : He.DefD := ⟨("is_knowing", none), "is_knowing", "is_knowing", defArgs s_is_knowing, defBody s_is_knowing, defScope s_is_knowing, [], []⟩
def D_looked_at : He.DefD := ⟨("looked_at", none), "looked_at", "looked_at", defArgs s_looked_at, defBody s_looked_at, defScope s_looked_at, [], []⟩
def D_told_questions : He.DefD := ⟨("told_questions", none), "told_questions", "told_questions", defArgs s_told_questions, defBody s_told_questions, defScope s_told_questions, [], []⟩
def D_star_of : He.DefD := ⟨("star_of", none), "star_of", "star_of", defArgs s_star_of, defBody s_star_of, defScope s_star_of, [], []⟩
def D__law_draws : He.DefD := ⟨("_law_draws", none), "_law_draws", "_law_draws", defArgs s__law_draws, defBody s__law_draws, defScope s__law_draws, [], []⟩
def D__law_take : He.DefD := ⟨("_law_take", none), "_law_take", "_law_take", defArgs s__law_take, defBody s__law_take, defScope s__law_take, [], []⟩
def D__law_same : He.DefD := ⟨("_law_same", none), "_law_same", "_law_same", defArgs s__law_same, defBody s__law_same, defScope s__law_same, [], []⟩
def D__law_star : He.DefD := ⟨("_law_star", none), "_law_star", "_law_star", defArgs s__law_star, defBody s__law_star, defScope s__law_star, [], []⟩
def D__law_questions : He.DefD := ⟨("_law_questions", none), "_law_questions", "_law_questions", defArgs s__law_questions, defBody s__law_questions, defScope s__law_questions, [], []⟩
def D_law : He.DefD := ⟨("law", none), "law", "law", defArgs s_law, defBody s_law, defScope s_law, [], []⟩
def fn : List He.DefD := [D_is_known_row, D_is_knowing, D_looked_at, D_told_questions, D_star_of, D__law_draws, D__law_take, D__law_same, D__law_star, D__law_questions, D_law]
def tf : List He.Defn := [("is_known_row", none), ("is_knowing", none)]
theorem txt_of {h : Heap} (X : K.In h) (G : h.Ns mainGlobals mg) (c : He.SaysX fa fn [] tf noLists w h K) : ∃ a : AD, a.f_law = He.fAd K ("law", none) ∧ a.Ts = tf.map (fun p => (He.cT K p).2) ∧ (∀ (s : Shared) (u : Value), BindsTo s a.d_law ⟨[u], []⟩ [("script", u)]) ∧
    ∀ base : Heap, (∀ p ∈ tf.map (He.cT K), LamX.TabB base mg p.1 p.2) → Txt K mg base a := by
  have c0 := c.t.d
  obtain ⟨fd_is_known_row, F_is_known_row⟩ := c0.def_ 0 (d := D_is_known_row) rfl
  obtain ⟨fd_is_knowing, F_is_knowing⟩ := c0.def_ 1 (d := D_is_knowing) rfl
  obtain ⟨fd_looked_at, F_looked_at⟩ := c0.def_ 2 (d := D_looked_at) rfl
  obtain ⟨fd_told_questions, F_told_questions⟩ := c0.def_ 3 (d := D_told_questions) rfl
  obtain ⟨fd_star_of, F_star_of⟩ := c0.def_ 4 (d := D_star_of) rfl
  obtain ⟨fd__law_draws, F__law_draws⟩ := c0.def_ 5 (d := D__law_draws) rfl
  obtain ⟨fd__law_take, F__law_take⟩ := c0.def_ 6 (d := D__law_take) rfl
  obtain ⟨fd__law_same, F__law_same⟩ := c0.def_ 7 (d := D__law_same) rfl
  obtain ⟨fd__law_star, F__law_star⟩ := c0.def_ 8 (d := D__law_star) rfl
  obtain ⟨fd__law_questions, F__law_questions⟩ := c0.def_ 9 (d := D__law_questions) rfl
  obtain ⟨fd_law, F_law⟩ := c0.def_ 10 (d := D_law) rfl
  refine ⟨{ f_is_known_row := He.fAd K ("is_known_row", none), d_is_known_row := fd_is_known_row, c_is_known_row := He.codeOf K ("is_known_row", none), p_is_known_row := He.tabOf K (He.codeOf K ("is_known_row", none)), f_is_knowing := He.fAd K ("is_knowing", none), d_is_knowing := fd_is_knowing, c_is_knowing := He.codeOf K ("is_knowing", none), p_is_knowing := He.tabOf K (He.codeOf K ("is_knowing", none)), f_looked_at := He.fAd K ("looked_at", none), d_looked_at := fd_looked_at, c_looked_at := He.codeOf K ("looked_at", none), p_looked_at := He.tabOf K (He.codeOf K ("looked_at", none)), f_told_questions := He.fAd K ("told_questions", none), d_told_questions := fd_told_questions, c_told_questions := He.codeOf K ("told_questions", none), p_told_questions := He.tabOf K (He.codeOf K ("told_questions", none)), f_star_of := He.fAd K ("star_of", none), d_star_of := fd_star_of, c_star_of := He.codeOf K ("star_of", none), p_star_of := He.tabOf K (He.codeOf K ("star_of", none)), f__law_draws := He.fAd K ("_law_draws", none), d__law_draws := fd__law_draws, c__law_draws := He.codeOf K ("_law_draws", none), p__law_draws := He.tabOf K (He.codeOf K ("_law_draws", none)), f__law_take := He.fAd K ("_law_take", none), d__law_take := fd__law_take, c__law_take := He.codeOf K ("_law_take", none), p__law_take := He.tabOf K (He.codeOf K ("_law_take", none)), f__law_same := He.fAd K ("_law_same", none), d__law_same := fd__law_same, c__law_same := He.codeOf K ("_law_same", none), p__law_same := He.tabOf K (He.codeOf K ("_law_same", none)), f__law_star := He.fAd K ("_law_star", none), d__law_star := fd__law_star, c__law_star := He.codeOf K ("_law_star", none), p__law_star := He.tabOf K (He.codeOf K ("_law_star", none)), f__law_questions := He.fAd K ("_law_questions", none), d__law_questions := fd__law_questions, c__law_questions := He.codeOf K ("_law_questions", none), p__law_questions := He.tabOf K (He.codeOf K ("_law_questions", none)), f_law := He.fAd K ("law", none), d_law := fd_law, c_law := He.codeOf K ("law", none), p_law := He.tabOf K (He.codeOf K ("law", none)) }, rfl, rfl, fun s u => FunD.bindsA (ps := ["script"]) F_law (fun _ _ _ _ _ _ us hl => match us, hl with | [_], _ => rfl) s [u] rfl, fun base TB => ?_⟩
  constructor
  · exact He.glo_ok X G (c0.fact 0 (f := .glo "is_known_row") rfl)
  · exact funC_of (p := ("is_known_row", none)) F_is_known_row
  · exact F_is_known_row.bindsN fun _ _ _ _ _ _ us hl => match us, hl with | [_, _], _ => rfl
  · exact He.glo_ok X G (c0.fact 1 (f := .glo "is_knowing") rfl)
  · exact funC_of (p := ("is_knowing", none)) F_is_knowing
  · exact F_is_knowing.bindsN fun _ _ _ _ _ _ us hl => match us, hl with | [_], _ => rfl
  · exact He.glo_ok X G (c0.fact 2 (f := .glo "looked_at") rfl)
  · exact funC_of (p := ("looked_at", none)) F_looked_at
  · exact F_looked_at.bindsN fun _ _ _ _ _ _ us hl => match us, hl with | [_], _ => rfl
  · exact He.glo_ok X G (c0.fact 3 (f := .glo "told_questions") rfl)
  · exact funC_of (p := ("told_questions", none)) F_told_questions
  · exact F_told_questions.bindsN fun _ _ _ _ _ _ us hl => match us, hl with | [_], _ => rfl
  · exact He.glo_ok X G (c0.fact 4 (f := .glo "star_of") rfl)
  · exact funC_of (p := ("star_of", none)) F_star_of
  · exact F_star_of.bindsN fun _ _ _ _ _ _ us hl => match us, hl with | [_], _ => rfl
  · exact He.glo_ok X G (c0.fact 5 (f := .glo "_law_draws") rfl)
  · exact funC_of (p := ("_law_draws", none)) F__law_draws
  · exact F__law_draws.bindsN fun _ _ _ _ _ _ us hl => match us, hl with | [_], _ => rfl
  · exact He.glo_ok X G (c0.fact 6 (f := .glo "_law_take") rfl)
  · exact funC_of (p := ("_law_take", none)) F__law_take
  · exact F__law_take.bindsN fun _ _ _ _ _ _ us hl => match us, hl with | [_, _], _ => rfl
  · exact He.glo_ok X G (c0.fact 7 (f := .glo "_law_same") rfl)
  · exact funC_of (p := ("_law_same", none)) F__law_same
  · exact F__law_same.bindsN fun _ _ _ _ _ _ us hl => match us, hl with | [_, _], _ => rfl
  · exact He.glo_ok X G (c0.fact 8 (f := .glo "_law_star") rfl)
  · exact funC_of (p := ("_law_star", none)) F__law_star
  · exact F__law_star.bindsN fun _ _ _ _ _ _ us hl => match us, hl with | [_], _ => rfl
  · exact He.glo_ok X G (c0.fact 9 (f := .glo "_law_questions") rfl)
  · exact funC_of (p := ("_law_questions", none)) F__law_questions
  · exact F__law_questions.bindsN fun _ _ _ _ _ _ us hl => match us, hl with | [_], _ => rfl
  · exact He.glo_ok X G (c0.fact 10 (f := .glo "law") rfl)
  · exact funC_of (p := ("law", none)) F_law
  · exact F_law.bindsN fun _ _ _ _ _ _ us hl => match us, hl with | [_], _ => rfl
  · have z := TB (He.cT K ("is_known_row", none)) (List.mem_map.mpr ⟨_, by simp [tf], rfl⟩)
    exact ⟨z.code, z.bm, z.gP⟩
  · have z := TB (He.cT K ("is_knowing", none)) (List.mem_map.mpr ⟨_, by simp [tf], rfl⟩)
    exact ⟨z.code, z.bm, z.gP⟩
  · exact He.free_ok X G (c0.fact 11 (f := .free "abs") rfl)
  · exact He.free_ok X G (c0.fact 12 (f := .free "all") rfl)
  · exact He.free_ok X G (c0.fact 13 (f := .free "any") rfl)
  · exact He.free_ok X G (c0.fact 14 (f := .free "bool") rfl)
  · exact He.free_ok X G (c0.fact 15 (f := .free "enumerate") rfl)
  · exact He.free_ok X G (c0.fact 16 (f := .free "int") rfl)
  · exact He.free_ok X G (c0.fact 17 (f := .free "isinstance") rfl)
  · exact He.free_ok X G (c0.fact 18 (f := .free "len") rfl)
  · exact He.free_ok X G (c0.fact 19 (f := .free "list") rfl)
  · exact He.free_ok X G (c0.fact 20 (f := .free "range") rfl)
  · exact He.free_ok X G (c0.fact 21 (f := .free "reversed") rfl)
  · exact He.free_ok X G (c0.fact 22 (f := .free "str") rfl)
  · exact He.free_ok X G (c0.fact 23 (f := .free "tuple") rfl)
  · exact He.int_ok X G (c0.fact 24 (f := .int "MOST_GUESTS" 9) rfl)
abbrev R : PySem.W.OpenRow := PySem.W.OpenLaw.row PySem.Challenge.rw_guestsheld_k91_whole_stars_among_guests
abbrev hk : PySem.W.Hook := He.hookX 4 fa fn [] tf noLists
def ob (s : PySem.W.SharedT) : He.AlX := He.obsX 4 fa fn [] tf noLists (HandSHeadRun.getT s)
theorem ob_eq (s : PySem.W.SharedT) : ob s = hk.obs s.abs := He.obsX_eq (HandSHeadRun.getT_eq s)
def loose : List Str := ["is_known_row", "is_knowing", "looked_at", "told_questions", "star_of", "_law_draws", "_law_take", "_law_same", "_law_star", "_law_questions", "MOST_GUESTS"]
theorem run (w : World) : HandSHeadRun.RunEq R (PySem.W.view R.prog [13]) hk ob 2000 loose w := by
  intro os
  kernel_rfl
end Kk91
section
open PySem PySem.W PySem.Calls PyProof.Rows
theorem holds_of_k91 (hden : ∀ ns : List Int, ns.length ≤ 63 → Kk91.den_law [.list (ns.map PyData.int)] = PF.R.ok (PF.bool true)) : PySem.Challenge.rw_guestsheld_k91_whole_stars_among_guests.Holds := by
  w_on; o_law
  refine HandSHeadRun.head_any (r := OpenLaw.row PySem.Challenge.rw_guestsheld_k91_whole_stars_among_guests) (q := view (OpenLaw.row PySem.Challenge.rw_guestsheld_k91_whole_stars_among_guests).prog [13]) (H := Kk91.hk) (ob := Kk91.ob) (M := 2000) (loose := Kk91.loose) (d := HandSHeadRun.topDef (OpenLaw.row PySem.Challenge.rw_guestsheld_k91_whole_stars_among_guests).prog 13) (kwd := []) Kk91.ob_eq
    (by kernel_rfl) (fun s => by kernel_rfl) Kk91.run (by kernel_rfl) (by kernel_rfl) (by kernel_rfl) (by rfl) (by first | assumption | decide +kernel) (by decide +kernel) ⟨rfl, rfl, rfl, rfl, rfl, by decide +kernel⟩ ?hw ?hc
  case hw => w_witness2
  case hc =>
    refine LamX.walk_ofTsE (l := PySem.Challenge.rw_guestsheld_k91_whole_stars_among_guests) (n := 63) (k := 32) (x := "script") (CX := fun w => L2.CX (PySem.Challenge.rw_guestsheld_k91_whole_stars_among_guests).prog w) rfl (by decide) (by kernel_rfl) ⟨rfl, by decide, by decide⟩ ?F (fun w H s e s' z => ?ex)
    case ex => exact PF.cx_no z
    case F =>
      intro w mg fad h Y G hmg0
      obtain ⟨K, KX, c⟩ := Y
      have hmg : mg ("law" : PySem.Str) = some (.ref fad) := by
        have e : (HandSHeadRun.topDef (OpenLaw.row PySem.Challenge.rw_guestsheld_k91_whole_stars_among_guests).prog 13).name = ("law" : PySem.Str) := by kernel_rfl
        rw [← e]
        exact hmg0
      obtain ⟨a, ef, eT, hb, hT⟩ := Kk91.txt_of KX G c
      have e2 := hmg.symm.trans (He.glo_ok KX G (c.t.d.fact 10 (f := .glo "law") rfl))
      have e3 : fad = a.f_law := by
        rw [ef]
        exact Value.ref.inj (Option.some.inj e2)
      subst e3
      have memT : ∀ P ∈ a.Ts, ∃ p ∈ Kk91.tf.map (He.cT K), p.2 = P := fun P hP => by
        rw [eT] at hP
        obtain ⟨p, hp, e⟩ := List.mem_map.mp hP
        exact ⟨_, List.mem_map.mpr ⟨p, hp, rfl⟩, e⟩
      refine ⟨K, KX, a.d_law, Kk91.tf.map (He.cT K), PF.SpN K a.Ts (fun _ => .none) Kk91.P_law.length Kk91.den_law, fun p hp => ?_, fun p hp => ?_, fun p hp => ?_, hb, fun H ad ns hl _ hH hS => ?_, fun base KB GB TB => Kk91.ok_law (xc := fun _ => .none) (hT base TB)⟩
      · obtain ⟨q, hq, rfl⟩ := List.mem_map.mp hp
        exact c.empty q hq
      · obtain ⟨q, hq, rfl⟩ := List.mem_map.mp hp
        exact c.out q hq
      · obtain ⟨q, hq, rfl⟩ := List.mem_map.mp hp
        exact PySem.W.codeHd_of_K KX (c.hd q hq)
      · refine PF.law_den c.more (fun P hP => ?_) hS (hden ns hl)
        obtain ⟨p, hp, e⟩ := memT P hP
        rw [← e]
        exact hH p hp
end
namespace Kk91
end Kk91
namespace Kk91
open PySem L2 PF
/-! ### guests as a table of truths -/
abbrev Mat := Nat → Nat → Bool
def rowD (n : Nat) (M : Mat) (a : Nat) : D := .tuple ((List.range n).map fun b => .bool (M a b))
def matD (n : Nat) (M : Mat) : D := .tuple ((List.range n).map (rowD n M))
def prD (p : Nat × Nat) : D := .tuple [.int (p.1 : Nat), .int (p.2 : Nat)]
def prs (l : List (Nat × Nat)) : List D := l.map prD
theorem ix_row {n : Nat} {M : Mat} {a : Nat} (h : a < n) : gIx (.fz (matD n M)) (int (a : Nat)) = some (.fz (rowD n M a)) := gIx_tup (by simp [h])
theorem ix_at {n : Nat} {M : Mat} {a b : Nat} (h : b < n) : gIx (.fz (rowD n M a)) (int (b : Nat)) = some (bool (M a b)) := gIx_tup (by simp [h])
theorem len_mat (n : Nat) (M : Mat) : gLen (.fz (matD n M)) = some (int (n : Nat)) := by
  unfold matD
  rw [gLen_tup]
  simp
theorem len_row (n : Nat) (M : Mat) (a : Nat) : gLen (.fz (rowD n M a)) = some (int (n : Nat)) := by
  unfold rowD
  rw [gLen_tup]
  simp
/-- one walk along the guests -/
def look (M : Mat) : Nat × List (Nat × Nat) → Nat → Nat × List (Nat × Nat) := fun s g => (if M s.1 g = true then g else s.1, s.2 ++ [(s.1, g)])
def looked (n : Nat) (M : Mat) : Nat × List (Nat × Nat) := (List.range (n - 1)).foldl (fun s k => look M s (1 + k)) (0, [])
theorem runE_ok {σ ι : Type} (f : σ → ι → σ) : ∀ (xs : List ι) (s : σ), runE (fun s x => .ok (f s x)) s xs = .ok (xs.foldl f s)
  | [], s => rfl
  | x :: xs, s => runE_ok f xs (f s x)
theorem upI1 (m : Nat) : upI 1 m = (List.range m).map fun k => (.int ((1 + k : Nat) : Int) : D) := by
  unfold upI
  refine List.map_congr_left fun k _ => ?_
  simp
theorem upI0 (m : Nat) : upI 0 m = (List.range m).map fun k => (.int (k : Nat) : D) := by
  unfold upI
  refine List.map_congr_left fun k _ => ?_
  simp
theorem small_nat {k : Nat} (h : k < 1000000) : smallI (k : Int) = true := by
  unfold smallI
  simp only [Bool.and_eq_true, decide_eq_true_eq]
  omega
theorem itA_of {g : List Cell → Option (List D)} {as : List AF} {env env' : PF.Env} {l : List PF.Arg} {cs : List Cell} {ds : List D} (h1 : evA as env = R.ok (l, env')) (h2 : cellsOf env' l = some cs) (h3 : g cs = some ds) : itA g as env = R.ok (ds, env') := by
  unfold itA
  rw [h1, bnd_ok]
  dsimp only
  rw [h2]
  dsimp only
  rw [h3]
theorem one1_k (g : Cell → Option (List D)) (a : Cell) : one1 g [a] = g a := rfl
theorem one2_k (g : Cell → Cell → Option (List D)) (a b : Cell) : one2 g [a, b] = g a b := rfl
theorem rng1_nat {n : Nat} (hn : n < 1000000) : one1 rng1 [int (n : Nat)] = some ((List.range n).map fun k => (.int (k : Nat) : D)) := by
  have e : rng1 (int (n : Nat)) = some (upI 0 n) := by
    unfold rng1
    show (if smallI (n : Int) = true then some (upI 0 (n : Int).toNat) else none) = _
    rw [if_pos (small_nat hn), Int.toNat_natCast]
  rw [one1_k, e, upI0]
theorem rng2_one {n : Nat} (hn : n < 1000000) : one2 rng2 [int 1, int (n : Nat)] = some ((List.range (n - 1)).map fun k => (.int ((1 + k : Nat) : Int) : D)) := by
  have e : rng2 (int 1) (int (n : Nat)) = some (upI 1 (n - 1)) := by
    unfold rng2
    show (if smallI 1 = true ∧ smallI (n : Int) = true then some (upI 1 ((n : Int) - 1).toNat) else none) = _
    rw [if_pos ⟨by decide +kernel, small_nat hn⟩, show ((n : Int) - 1).toNat = n - 1 by omega]
  rw [one2_k, e, upI1]
theorem it_up0 {A : AF} {env env' : PF.Env} {n : Nat} (h : ∃ l, evA [A] env = R.ok (l, env') ∧ cellsOf env' l = some [int (n : Nat)]) (hn : n < 1000000) : itA (one1 rng1) [A] env = R.ok ((List.range n).map fun k => (.int (k : Nat) : D), env') := by
  obtain ⟨l, h1, h2⟩ := h
  exact itA_of h1 h2 (rng1_nat hn)
theorem it_up1 {A B : AF} {env env' : PF.Env} {n : Nat} (h : ∃ l, evA [A, B] env = R.ok (l, env') ∧ cellsOf env' l = some [int 1, int (n : Nat)]) (hn : n < 1000000) : itA (one2 rng2) [A, B] env = R.ok ((List.range (n - 1)).map fun k => (.int ((1 + k : Nat) : Int) : D), env') := by
  obtain ⟨l, h1, h2⟩ := h
  exact itA_of h1 h2 (rng2_one hn)
theorem prs_snoc (l : List (Nat × Nat)) (p : Nat × Nat) : prs l ++ [prD p] = prs (l ++ [p]) := by simp [prs]
theorem look_body {n : Nat} {M : Mat} {c g : Nat} {l : List (Nat × Nat)} (hc : c < n) (hg : g < n) (hl : l.length < 1000) :
    B_looked_at_1 [some (.fz (matD n M)), some (int (c : Nat)), some (tup (prs l)), some (int (g : Nat))] = R.ok (.nx, [some (.fz (matD n M)), some (int ((if M c g = true then g else c : Nat) : Int)), some (tup (prs (l ++ [(c, g)]))), some (int (g : Nat))]) := by
  unfold B_looked_at_1
  have h1 : tupSE [.x (varZ 2), .o (tupE [varZ 1, varZ 3])] [some (.fz (matD n M)), some (int (c : Nat)), some (tup (prs l)), some (int (g : Nat))] = R.ok (tup (prs (l ++ [(c, g)])), [some (.fz (matD n M)), some (int (c : Nat)), some (tup (prs l)), some (int (g : Nat))]) := by
    have e : evS [.x (varZ 2), .o (tupE [varZ 1, varZ 3])] [some (.fz (matD n M)), some (int (c : Nat)), some (tup (prs l)), some (int (g : Nat))] = R.ok (prs l ++ [prD (c, g)], [some (.fz (matD n M)), some (int (c : Nat)), some (tup (prs l)), some (int (g : Nat))]) := by rfl
    unfold tupSE
    rw [e, bnd_ok, prs_snoc]
    show (if (prs (l ++ [(c, g)])).length ≤ lim then _ else _) = _
    rw [if_pos (by unfold prs lim; simp; omega)]
  rw [seqS_nx (asgS_of h1 (env2 := [some (.fz (matD n M)), some (int (c : Nat)), some (tup (prs (l ++ [(c, g)]))), some (int (g : Nat))]) rfl)]
  rw [ifS_b (v := M c g) (env' := [some (.fz (matD n M)), some (int (c : Nat)), some (tup (prs (l ++ [(c, g)]))), some (int (g : Nat))])]
  · cases M c g <;> rfl
  · have e1 := ix_row (M := M) hc
    have e2 := ix_at (M := M) (a := c) hg
    simp only [seqS, asgS, ifS, retS, dropS, passS, brkS, cntS, nameT, opE, evA, cellsOf, Arg.cell, valB, andB, orB, notB, andV, orV, notV, iteE, varZ, varM, cst, on1, on2, one1, one2, one3, itA, itE, tupE, lstE, dataOf, ownOf, argsD, wipeE, restE, yesB, bnd_ok, some_ok, noR_k, fin1, fin2, List.getElem?_cons_zero, List.getElem?_cons_succ, List.set_cons_zero, List.set_cons_succ, List.length_cons, List.length_nil, List.map_cons, List.map_nil, List.append_nil, List.nil_append, List.cons_append, List.replicate_zero, List.replicate_succ, Option.map_some, Option.map_none, gLen_ol, gLen_tup, gLen_list, gEq_int, gNe_int, gI_int, gAdd_int, gSub_int, gInt_int, gAbs_int, if_true, if_false, ite_true, ite_false, Bool.false_eq_true, reduceIte, decide_eq_true_eq, Bool.not_eq_true', decide_eq_false_iff_not, Nat.reduceAdd, Nat.reduceLT, Nat.reduceSub, Nat.reduceLeDiff, Nat.zero_lt_succ, e1, e2]
theorem look_lt {n : Nat} {M : Mat} : ∀ (m : Nat), m ≤ n - 1 → ((List.range m).foldl (fun s k => look M s (1 + k)) (0, [])).1 ≤ m ∧ ((List.range m).foldl (fun s k => look M s (1 + k)) (0, [])).2.length = m
  | 0, _ => ⟨by simp, rfl⟩
  | m + 1, h => by
    obtain ⟨h1, h2⟩ := look_lt (n := n) (M := M) m (by omega)
    rw [List.range_succ, List.foldl_append, List.foldl_cons, List.foldl_nil]
    generalize (List.range m).foldl (fun s k => look M s (1 + k)) (0, []) = s at h1 h2
    show (if M s.1 (1 + m) = true then 1 + m else s.1) ≤ m + 1 ∧ (s.2 ++ [(s.1, 1 + m)]).length = m + 1
    refine ⟨?_, by simp only [List.length_append, List.length_singleton]; omega⟩
    split <;> omega
theorem looked_lt {n : Nat} {M : Mat} (h : 0 < n) : (looked n M).1 < n := by
  have := (look_lt (n := n) (M := M) (n - 1) (Nat.le_refl _)).1
  unfold looked
  omega
theorem looked_len {n : Nat} {M : Mat} : (looked n M).2.length = n - 1 := (look_lt (n := n) (M := M) (n - 1) (Nat.le_refl _)).2
theorem den_looked {n : Nat} {M : Mat} (h0 : 0 < n) (h9 : n ≤ 9) : den_looked_at [matD n M] = R.ok (tup [.int ((looked n M).1 : Nat), .tuple (prs (looked n M).2)]) := by
  show fin1 (F_looked_at [some (.fz (matD n M)), none, none, none]) = _
  unfold F_looked_at
  rw [seqS_nx (env' := [some (.fz (matD n M)), some (int (0 : Nat)), none, none]) (by rfl)]
  rw [seqS_nx (env' := [some (.fz (matD n M)), some (int (0 : Nat)), some (tup (prs [])), none]) (by rfl)]
  have hit : itA (one2 rng2) [.e (cst (.int 1)), .e (opE (on1 gLen) [.s 0])] [some (.fz (matD n M)), some (int (0 : Nat)), some (tup (prs [])), none] = R.ok ((List.range (n - 1)).map fun k => (.int ((1 + k : Nat) : Int) : D), [some (.fz (matD n M)), some (int (0 : Nat)), some (tup (prs [])), none]) := by
    refine it_up1 ⟨[.v (int 1), .v (int n)], ?_, rfl⟩ (by omega)
    have e := len_mat n M
    simp only [seqS, asgS, ifS, retS, dropS, passS, brkS, cntS, nameT, opE, evA, cellsOf, Arg.cell, valB, andB, orB, notB, andV, orV, notV, iteE, varZ, varM, cst, on1, on2, one1, one2, one3, itA, itE, tupE, lstE, dataOf, ownOf, argsD, wipeE, restE, yesB, bnd_ok, some_ok, noR_k, fin1, fin2, List.getElem?_cons_zero, List.getElem?_cons_succ, List.set_cons_zero, List.set_cons_succ, List.length_cons, List.length_nil, List.map_cons, List.map_nil, List.append_nil, List.nil_append, List.cons_append, List.replicate_zero, List.replicate_succ, Option.map_some, Option.map_none, gLen_ol, gLen_tup, gLen_list, gEq_int, gNe_int, gI_int, gAdd_int, gSub_int, gInt_int, gAbs_int, if_true, if_false, ite_true, ite_false, Bool.false_eq_true, reduceIte, decide_eq_true_eq, Bool.not_eq_true', decide_eq_false_iff_not, Nat.reduceAdd, Nat.reduceLT, Nat.reduceSub, Nat.reduceLeDiff, Nat.zero_lt_succ, e]
  have z := forL_sim (t := nameT 3) (b := B_looked_at_1) (fun k : Nat => (.int ((1 + k : Nat) : Int) : D)) (fun (s : Nat × List (Nat × Nat)) k => .ok (look M s (1 + k))) (fun j s env => ∃ o, env = [some (.fz (matD n M)), some (int (s.1 : Nat)), some (tup (prs s.2)), o] ∧ s.1 < n ∧ s.2.length ≤ j) (List.range (n - 1)) 0 (0, [])
    [some (.fz (matD n M)), some (int (0 : Nat)), some (tup (prs [])), none] ⟨none, rfl, h0, by simp⟩ fun j x s env hj ⟨o, he, hc, hl⟩ => by
      subst he
      have hx : x < n - 1 := by
        have := List.mem_of_getElem? hj
        simpa using this
      have hj2 : j < n - 1 := by
        have := (List.getElem?_eq_some_iff.mp hj).1
        simpa using this
      refine ⟨_, .nx, _, rfl, look_body (c := s.1) (g := 1 + x) (l := s.2) hc (by omega) (by omega), .inl rfl, some (int ((1 + x : Nat) : Int)), rfl, ?_, ?_⟩
      · unfold look
        show (if M s.1 (1 + x) = true then 1 + x else s.1) < n
        split <;> omega
      · unfold look
        simp only [List.length_append, List.length_singleton]
        omega
  rw [runE_ok] at z
  obtain ⟨env', h1, o, he, h2, h3⟩ := z
  subst he
  rw [seqS_nx ((forS_of hit).trans h1)]
  rfl
end Kk91
namespace Kk91
open PySem L2 PF
theorem prD_eqv (p q : Nat × Nat) : PyData.eqv (prD p) (prD q) = decide (p = q) := by
  obtain ⟨a, b⟩ := p
  obtain ⟨c, d⟩ := q
  show (((a : Int) == (c : Int)) && (((b : Int) == (d : Int)) && true)) = _
  by_cases e1 : a = c <;> by_cases e2 : b = d <;> simp [e1, e2, Int.ofNat_inj]
theorem shp_pr (p : Nat × Nat) : Shp 1 (prD p) := Shp.tup fun x hx => by
  rcases List.mem_cons.mp hx with rfl | hx
  · exact .int _
  · rw [List.mem_singleton.mp hx]
    exact .int _
theorem shp_prs (l : List (Nat × Nat)) : SeqAt.shaped (.tuple (prs l)) = true := (Shp.tup (Shp.map shp_pr)).ok (by decide)
theorem shp_prsL (l : List (Nat × Nat)) : SeqAt.shaped (.list (prs l)) = true := (Shp.lst (Shp.map shp_pr)).ok (by decide)
theorem not_in (l : List (Nat × Nat)) (p : Nat × Nat) : gIn true (.fz (prD p)) (tup (prs l)) = some (bool (!decide (p ∈ l))) := by
  rw [gIn_tup ((shp_pr p).ok (by decide)) (shp_prs l)]
  unfold prs
  rw [any_map_eq prD_eqv, Bool.bne_true]
  congr
theorem not_inL (l : List (Nat × Nat)) (p : Nat × Nat) : gIn true (.fz (prD p)) (lst (prs l)) = some (bool (!decide (p ∈ l))) := by
  rw [gIn_lst ((shp_pr p).ok (by decide)) (shp_prsL l)]
  unfold prs
  rw [any_map_eq prD_eqv, Bool.bne_true]
  congr
/-- an answer that says that c is no star -/
def viol (M : Mat) (c : Nat) (p : Nat × Nat) : Bool := M p.1 p.2 == decide (p.1 = c)
def tell1 (M : Mat) (c : Nat) (l : List (Nat × Nat)) (p : Nat × Nat) : Except Cell (List (Nat × Nat)) :=
  if p ∈ l then .ok l else if viol M c p = true then .error (tup (prs (l ++ [p]))) else .ok (l ++ [p])
def tellG (M : Mat) (c : Nat) (l : List (Nat × Nat)) (g : Nat) : Except Cell (List (Nat × Nat)) := if g = c then .ok l else runE (tell1 M c) l [(c, g), (g, c)]
def told (n : Nat) (M : Mat) : Cell := match runE (tellG M (looked n M).1) (looked n M).2 (List.range n) with
  | .ok l => tup (prs l)
  | .error e => e
theorem gEq_nat (a b : Nat) : gEq (int (a : Nat)) (int (b : Nat)) = some (bool (decide (a = b))) := by
  rw [gEq_int]
  by_cases e : a = b
  · subst e; simp
  · rw [decide_eq_false e, decide_eq_false (fun z => e (Int.ofNat_inj.mp z))]
theorem gNe_nat (a b : Nat) : gNe (int (a : Nat)) (int (b : Nat)) = some (bool (!decide (a = b))) := by
  rw [gNe_int]
  by_cases e : a = b
  · subst e; simp
  · rw [decide_eq_false e, decide_eq_false (fun z => e (Int.ofNat_inj.mp z))]
theorem andB_of {f g : BF} {env env1 env2 : PF.Env} {a b : Bool} (h1 : f env = R.ok (a, env1)) (h2 : g env1 = R.ok (b, env2)) (he : a = false → env1 = env2) : andB f g env = R.ok (a && b, env2) := by
  unfold andB
  rw [h1, bnd_ok]
  cases a with
  | false => rw [he rfl] <;> rfl
  | true => rw [if_pos rfl, h2] <;> rfl
theorem told_body {n : Nat} {M : Mat} {c g a b : Nat} {l : List (Nat × Nat)} (ha : a < n) (hb : b < n) (hl : l.length < 1000) (hg : g ≠ c) :
    B_told_questions_1 [some (.fz (matD n M)), some (int (g : Nat)), some (int (c : Nat)), some (tup (prs l)), some (int (a : Nat)), some (int (b : Nat))] =
      match tell1 M c l (a, b) with
      | .ok l' => R.ok (.nx, [some (.fz (matD n M)), some (int (g : Nat)), some (int (c : Nat)), some (tup (prs l')), some (int (a : Nat)), some (int (b : Nat))])
      | .error e => R.ok (.rt e, [some (.fz (matD n M)), some (int (g : Nat)), some (int (c : Nat)), some (tup (prs (l ++ [(a, b)]))), some (int (a : Nat)), some (int (b : Nat))]) := by
  unfold B_told_questions_1 tell1
  have h1 := gNe_nat g c
  rw [decide_eq_false hg] at h1
  have h2 : tupE [varZ 4, varZ 5] [some (.fz (matD n M)), some (int (g : Nat)), some (int (c : Nat)), some (tup (prs l)), some (int (a : Nat)), some (int (b : Nat))] = R.ok (.fz (prD (a, b)), [some (.fz (matD n M)), some (int (g : Nat)), some (int (c : Nat)), some (tup (prs l)), some (int (a : Nat)), some (int (b : Nat))]) := rfl
  have h3 := not_in l (a, b)
  have t1 : andB (valB (opE (on2 gNe) [.s 1, .s 2])) (valB (opE (on2 (gIn true)) [.e (tupE [varZ 4, varZ 5]), .s 3])) [some (.fz (matD n M)), some (int (g : Nat)), some (int (c : Nat)), some (tup (prs l)), some (int (a : Nat)), some (int (b : Nat))] =
      R.ok (!decide ((a, b) ∈ l), [some (.fz (matD n M)), some (int (g : Nat)), some (int (c : Nat)), some (tup (prs l)), some (int (a : Nat)), some (int (b : Nat))]) := by
    have z := andB_of (f := valB (opE (on2 gNe) [.s 1, .s 2])) (g := valB (opE (on2 (gIn true)) [.e (tupE [varZ 4, varZ 5]), .s 3])) (env := [some (.fz (matD n M)), some (int (g : Nat)), some (int (c : Nat)), some (tup (prs l)), some (int (a : Nat)), some (int (b : Nat))]) (a := true) (b := !decide ((a, b) ∈ l))
      (env1 := [some (.fz (matD n M)), some (int (g : Nat)), some (int (c : Nat)), some (tup (prs l)), some (int (a : Nat)), some (int (b : Nat))]) (env2 := [some (.fz (matD n M)), some (int (g : Nat)), some (int (c : Nat)), some (tup (prs l)), some (int (a : Nat)), some (int (b : Nat))])
      (valB_bool (opE_of rfl rfl h1)) (valB_bool (opE_of (l := [.v (.fz (prD (a, b))), .s 3]) rfl rfl h3)) (fun _ => rfl)
    rw [Bool.true_and] at z
    exact z
  rw [ifS_b t1]
  by_cases e : (a, b) ∈ l
  · rw [decide_eq_true e, if_pos e] <;> rfl
  · rw [decide_eq_false e, if_neg e]
    show seqS _ _ _ = _
    have h4 : tupSE [.x (varZ 3), .o (tupE [varZ 4, varZ 5])] [some (.fz (matD n M)), some (int (g : Nat)), some (int (c : Nat)), some (tup (prs l)), some (int (a : Nat)), some (int (b : Nat))] = R.ok (tup (prs (l ++ [(a, b)])), [some (.fz (matD n M)), some (int (g : Nat)), some (int (c : Nat)), some (tup (prs l)), some (int (a : Nat)), some (int (b : Nat))]) := by
      have e : evS [.x (varZ 3), .o (tupE [varZ 4, varZ 5])] [some (.fz (matD n M)), some (int (g : Nat)), some (int (c : Nat)), some (tup (prs l)), some (int (a : Nat)), some (int (b : Nat))] = R.ok (prs l ++ [prD (a, b)], [some (.fz (matD n M)), some (int (g : Nat)), some (int (c : Nat)), some (tup (prs l)), some (int (a : Nat)), some (int (b : Nat))]) := by rfl
      unfold tupSE
      rw [e, bnd_ok, prs_snoc]
      show (if (prs (l ++ [(a, b)])).length ≤ lim then _ else _) = _
      rw [if_pos (by unfold prs lim; simp; omega)]
    rw [seqS_nx (asgS_of h4 (env2 := [some (.fz (matD n M)), some (int (g : Nat)), some (int (c : Nat)), some (tup (prs (l ++ [(a, b)]))), some (int (a : Nat)), some (int (b : Nat))]) rfl)]
    have e1 := ix_row (M := M) ha
    have e2 := ix_at (M := M) (a := a) hb
    have e3 := gEq_nat a c
    have e4 := gEq_bool (M a b) (decide (a = c))
    rw [ifS_b (v := viol M c (a, b)) (env' := [some (.fz (matD n M)), some (int (g : Nat)), some (int (c : Nat)), some (tup (prs (l ++ [(a, b)]))), some (int (a : Nat)), some (int (b : Nat))])]
    · cases viol M c (a, b) <;> rfl
    · refine valB_bool (opE_of (l := [.v (bool (M a b)), .v (bool (decide (a = c)))]) ?_ rfl e4)
      have q1 : opE (on2 gIx) [.e (opE (on2 gIx) [.s 0, .s 4]), .s 5] [some (.fz (matD n M)), some (int (g : Nat)), some (int (c : Nat)), some (tup (prs (l ++ [(a, b)]))), some (int (a : Nat)), some (int (b : Nat))] = R.ok (bool (M a b), [some (.fz (matD n M)), some (int (g : Nat)), some (int (c : Nat)), some (tup (prs (l ++ [(a, b)]))), some (int (a : Nat)), some (int (b : Nat))]) := by
        refine opE_of (l := [.v (.fz (rowD n M a)), .s 5]) ?_ rfl e2
        have q : opE (on2 gIx) [.s 0, .s 4] [some (.fz (matD n M)), some (int (g : Nat)), some (int (c : Nat)), some (tup (prs (l ++ [(a, b)]))), some (int (a : Nat)), some (int (b : Nat))] = R.ok (.fz (rowD n M a), [some (.fz (matD n M)), some (int (g : Nat)), some (int (c : Nat)), some (tup (prs (l ++ [(a, b)]))), some (int (a : Nat)), some (int (b : Nat))]) := opE_of rfl rfl e1
        show ((opE (on2 gIx) [.s 0, .s 4] _).bnd _) = _
        rw [q] <;> rfl
      have q2 : opE (on2 gEq) [.s 4, .s 2] [some (.fz (matD n M)), some (int (g : Nat)), some (int (c : Nat)), some (tup (prs (l ++ [(a, b)]))), some (int (a : Nat)), some (int (b : Nat))] = R.ok (bool (decide (a = c)), [some (.fz (matD n M)), some (int (g : Nat)), some (int (c : Nat)), some (tup (prs (l ++ [(a, b)]))), some (int (a : Nat)), some (int (b : Nat))]) := opE_of rfl rfl e3
      show ((opE (on2 gIx) [.e (opE (on2 gIx) [.s 0, .s 4]), .s 5] _).bnd _) = _
      rw [q1, bnd_ok]
      show (((opE (on2 gEq) [.s 4, .s 2] _).bnd _).bnd _) = _
      rw [q2] <;> rfl
end Kk91
namespace Kk91
open PySem L2 PF
theorem told_body0 {n : Nat} {M : Mat} {c : Nat} {l : List (Nat × Nat)} {o4 o5 : Option Cell} :
    B_told_questions_1 [some (.fz (matD n M)), some (int (c : Nat)), some (int (c : Nat)), some (tup (prs l)), o4, o5] = R.ok (.nx, [some (.fz (matD n M)), some (int (c : Nat)), some (int (c : Nat)), some (tup (prs l)), o4, o5]) := by
  unfold B_told_questions_1
  have h1 := gNe_nat c c
  rw [decide_eq_true rfl] at h1
  have t1 : andB (valB (opE (on2 gNe) [.s 1, .s 2])) (valB (opE (on2 (gIn true)) [.e (tupE [varZ 4, varZ 5]), .s 3])) [some (.fz (matD n M)), some (int (c : Nat)), some (int (c : Nat)), some (tup (prs l)), o4, o5] = R.ok (false, [some (.fz (matD n M)), some (int (c : Nat)), some (int (c : Nat)), some (tup (prs l)), o4, o5]) := by
    unfold andB
    rw [valB_bool (opE_of rfl rfl h1)] <;> rfl
  rw [ifS_f t1] <;> rfl
theorem runE_len {M : Mat} {c : Nat} : ∀ (ps : List (Nat × Nat)) (l l' : List (Nat × Nat)), runE (tell1 M c) l ps = .ok l' → l'.length ≤ l.length + ps.length
  | [], l, l', h => by cases h; simp
  | p :: ps, l, l', h => by
    unfold runE at h
    unfold tell1 at h
    by_cases e : p ∈ l
    · rw [if_pos e] at h
      have := runE_len ps l l' h
      rw [List.length_cons]; omega
    · rw [if_neg e] at h
      by_cases e2 : viol M c p = true
      · rw [if_pos e2] at h; cases h
      · rw [if_neg e2] at h
        have := runE_len ps (l ++ [p]) l' h
        rw [List.length_append, List.length_singleton] at this
        rw [List.length_cons]; omega
/-- one guest, both ways -/
theorem told_pair {n : Nat} {M : Mat} {c g : Nat} {l : List (Nat × Nat)} {o4 o5 : Option Cell} (hc : c < n) (hg : g < n) (hl : l.length < 900) :
    EndOk (B_told_questions_2 [some (.fz (matD n M)), some (int (g : Nat)), some (int (c : Nat)), some (tup (prs l)), o4, o5]) (fun l' env => l'.length ≤ l.length + 2 ∧ ∃ o4 o5, env = [some (.fz (matD n M)), some (int (g : Nat)), some (int (c : Nat)), some (tup (prs l')), o4, o5]) (tellG M c l g) := by
  have hit : itE (tupE [tupE [varZ 2, varZ 1], tupE [varZ 1, varZ 2]]) [some (.fz (matD n M)), some (int (g : Nat)), some (int (c : Nat)), some (tup (prs l)), o4, o5] = R.ok ([(c, g), (g, c)].map prD, [some (.fz (matD n M)), some (int (g : Nat)), some (int (c : Nat)), some (tup (prs l)), o4, o5]) := rfl
  unfold B_told_questions_2 tellG
  rw [forS_of hit]
  by_cases e : g = c
  · subst e
    rw [if_pos rfl]
    have z := forL_sim (t := tupT [nameT 4, nameT 5]) (b := B_told_questions_1) prD (fun (s : List (Nat × Nat)) (p : Nat × Nat) => .ok s) (fun j s env => s = l ∧ ∃ o4 o5, env = [some (.fz (matD n M)), some (int (g : Nat)), some (int (g : Nat)), some (tup (prs s)), o4, o5]) [(g, g), (g, g)] 0 l
      [some (.fz (matD n M)), some (int (g : Nat)), some (int (g : Nat)), some (tup (prs l)), o4, o5] ⟨rfl, o4, o5, rfl⟩ fun j x s env hj ⟨es, o4, o5, he⟩ => by
        subst he es
        exact ⟨_, .nx, _, rfl, told_body0, .inl rfl, rfl, _, _, rfl⟩
    obtain ⟨env', h1, h2, o4', o5', h3⟩ := z
    exact ⟨env', h1, by omega, o4', o5', h3⟩
  · rw [if_neg e]
    have z := forL_sim (t := tupT [nameT 4, nameT 5]) (b := B_told_questions_1) prD (tell1 M c) (fun j s env => s.length ≤ l.length + j ∧ ∃ o4 o5, env = [some (.fz (matD n M)), some (int (g : Nat)), some (int (c : Nat)), some (tup (prs s)), o4, o5]) [(c, g), (g, c)] 0 l
      [some (.fz (matD n M)), some (int (g : Nat)), some (int (c : Nat)), some (tup (prs l)), o4, o5] ⟨by omega, o4, o5, rfl⟩ fun j x s env hj ⟨hs, o4, o5, he⟩ => by
        subst he
        have hj2 : j < 2 := (List.getElem?_eq_some_iff.mp hj).1
        have hx : x.1 < n ∧ x.2 < n := by
          have := List.mem_of_getElem? hj
          simp only [List.mem_cons, List.not_mem_nil, or_false] at this
          rcases this with rfl | rfl
          · exact ⟨hc, hg⟩
          · exact ⟨hg, hc⟩
        have q := told_body (M := M) (c := c) (g := g) (a := x.1) (b := x.2) (l := s) hx.1 hx.2 (by omega) e
        cases w : tell1 M c s x with
        | error e => 
          rw [show ((x.1, x.2) : Nat × Nat) = x from rfl, w] at q
          exact ⟨_, _, rfl, q⟩
        | ok l' =>
          rw [show ((x.1, x.2) : Nat × Nat) = x from rfl, w] at q
          refine ⟨_, .nx, _, rfl, q, .inl rfl, ?_, _, _, rfl⟩
          unfold tell1 at w
          split at w
          · cases w; omega
          · split at w
            · cases w
            · cases w
              rw [List.length_append, List.length_singleton]; omega
    exact z
theorem den_told {n : Nat} {M : Mat} (h0 : 0 < n) (h9 : n ≤ 9) : den_told_questions [matD n M] = R.ok (told n M) := by
  show fin1 (F_told_questions [some (.fz (matD n M)), none, none, none, none, none]) = _
  unfold F_told_questions
  have h1 : callE den_looked_at [.s 0] [some (.fz (matD n M)), none, none, none, none, none] = R.ok (tup [.int ((looked n M).1 : Nat), .tuple (prs (looked n M).2)], [some (.fz (matD n M)), none, none, none, none, none]) := callE_of rfl rfl (den_looked h0 h9)
  rw [seqS_nx (asgS_of h1 (env2 := [some (.fz (matD n M)), none, some (int ((looked n M).1 : Nat)), some (tup (prs (looked n M).2)), none, none]) rfl)]
  have hc := looked_lt (M := M) h0
  have hl := looked_len (n := n) (M := M)
  unfold told
  generalize (looked n M).1 = c at hc
  generalize (looked n M).2 = l at hl
  have hit : itA (one1 rng1) [.e (opE (on1 gLen) [.s 0])] [some (.fz (matD n M)), none, some (int (c : Nat)), some (tup (prs l)), none, none] = R.ok ((List.range n).map fun k => (.int (k : Nat) : D), [some (.fz (matD n M)), none, some (int (c : Nat)), some (tup (prs l)), none, none]) := by
    have e := len_mat n M
    have e2 : opE (on1 gLen) [.s 0] [some (.fz (matD n M)), none, some (int (c : Nat)), some (tup (prs l)), none, none] = R.ok (int (n : Nat), [some (.fz (matD n M)), none, some (int (c : Nat)), some (tup (prs l)), none, none]) := opE_of rfl rfl e
    refine it_up0 ⟨[.v (int n)], ?_, rfl⟩ (by omega)
    show ((opE (on1 gLen) [.s 0] _).bnd _) = _
    rw [e2] <;> rfl
  have z := forL_sim (t := nameT 1) (b := B_told_questions_2) (fun k : Nat => (.int (k : Nat) : D)) (tellG M c) (fun j s env => s.length ≤ l.length + 2 * j ∧ ∃ o1 o4 o5, env = [some (.fz (matD n M)), o1, some (int (c : Nat)), some (tup (prs s)), o4, o5]) (List.range n) 0 l
    [some (.fz (matD n M)), none, some (int (c : Nat)), some (tup (prs l)), none, none] ⟨by omega, none, none, none, rfl⟩ fun j x s env hj ⟨hs, o1, o4, o5, he⟩ => by
      subst he
      have hx : x < n := by
        have := List.mem_of_getElem? hj
        simpa using this
      have hj2 : j < n := by
        have := (List.getElem?_eq_some_iff.mp hj).1
        simpa using this
      have q := told_pair (M := M) (c := c) (g := x) (l := s) (o4 := o4) (o5 := o5) hc hx (by omega)
      cases w : tellG M c s x with
      | error e =>
        rw [w] at q
        obtain ⟨env', h1⟩ := q
        exact ⟨_, env', rfl, h1⟩
      | ok l' =>
        rw [w] at q
        obtain ⟨env', h1, h2, p4, p5, h3⟩ := q
        subst h3
        exact ⟨_, .nx, _, rfl, h1, .inl rfl, by omega, _, p4, p5, rfl⟩
  rw [show seqS (forS (itA (one1 rng1) [.e (opE (on1 gLen) [.s 0])]) (nameT 1) B_told_questions_2) (retS (varM 3)) [some (.fz (matD n M)), none, some (int (c : Nat)), some (tup (prs l)), none, none] = (forL (nameT 1) B_told_questions_2 ((List.range n).map fun k => (.int (k : Nat) : D)) [some (.fz (matD n M)), none, some (int (c : Nat)), some (tup (prs l)), none, none]).bnd (fun r => match r.1 with | .nx => retS (varM 3) r.2 | o => .ok (o, r.2)) by rw [← forS_of hit]; rfl]
  cases w : runE (tellG M c) l (List.range n) with
  | error e =>
    rw [w] at z
    obtain ⟨env', h2⟩ := z
    rw [h2] <;> rfl
  | ok l' =>
    rw [w] at z
    obtain ⟨env', h2, h3, o1, o4, o5, h4⟩ := z
    subst h4
    rw [h2] <;> rfl
end Kk91
namespace Kk91
open PySem L2 PF
theorem enumD_range (n : Nat) (f : Nat → D) : enumD 0 ((List.range n).map f) = (List.range n).map fun i => .tuple [.int (i : Nat), f i] := by
  have key : ∀ (m k : Nat), enumD k ((List.range' k m).map f) = (List.range' k m).map fun i => .tuple [.int (i : Nat), f i] := by
    intro m
    induction m with
    | zero => intro k; rfl
    | succ m ih =>
      intro k
      rw [List.range'_succ, List.map_cons, List.map_cons]
      show _ :: enumD (k + 1) _ = _
      rw [ih]
  rw [List.range_eq_range']
  exact key n 0
/-- what speaks against c's being the star, seen at g -/
def bad (M : Mat) (c g : Nat) : Bool := !decide (g = c) && (M c g || !M g c)
def starOf (n : Nat) (M : Mat) : Cell := if (List.range n).any (bad M (looked n M).1) = true then .fz .none else int ((looked n M).1 : Nat)
theorem orB_of {f g : BF} {env env1 env2 : PF.Env} {a b : Bool} (h1 : f env = R.ok (a, env1)) (h2 : g env1 = R.ok (b, env2)) (he : a = true → env1 = env2) : orB f g env = R.ok (a || b, env2) := by
  unfold orB
  rw [h1, bnd_ok]
  cases a with
  | true => rw [he rfl] <;> rfl
  | false => rw [if_neg Bool.false_ne_true, h2] <;> rfl
theorem notB_of {f : BF} {env env1 : PF.Env} {a : Bool} (h1 : f env = R.ok (a, env1)) : notB f env = R.ok (!a, env1) := by
  unfold notB
  rw [h1] <;> rfl
/-- the arguments as they stand: one expression and a name; one name and an expression; two expressions -/
theorem evA_es {f : EF} {i : Nat} {env env1 : PF.Env} {c : Cell} (h : f env = R.ok (c, env1)) (hi : ∃ v, env1[i]? = some (some v)) : evA [.e f, .s i] env = R.ok ([.v c, .s i], env1) := by
  obtain ⟨v, hi⟩ := hi
  show ((f env).bnd _) = _
  rw [h, bnd_ok]
  simp only [evA, hi, bnd_ok]
theorem evA_ee {f g : EF} {env env1 env2 : PF.Env} {c d : Cell} (h : f env = R.ok (c, env1)) (h2 : g env1 = R.ok (d, env2)) : evA [.e f, .e g] env = R.ok ([.v c, .v d], env2) := by
  show ((f env).bnd _) = _
  rw [h, bnd_ok]
  show ((g env1).bnd _).bnd _ = _
  rw [h2] <;> rfl
theorem evA_e {f : EF} {env env1 : PF.Env} {c : Cell} (h : f env = R.ok (c, env1)) : evA [.e f] env = R.ok ([.v c], env1) := by
  show ((f env).bnd _) = _
  rw [h] <;> rfl
theorem at2 {n : Nat} {M : Mat} {env : PF.Env} {i j k : Nat} {a b : Nat} (h0 : env[i]? = some (some (.fz (matD n M)))) (h1 : env[j]? = some (some (int (a : Nat)))) (h2 : env[k]? = some (some (int (b : Nat)))) (ha : a < n) (hb : b < n) :
    opE (on2 gIx) [.e (opE (on2 gIx) [.s i, .s j]), .s k] env = R.ok (bool (M a b), env) := by
  have q : opE (on2 gIx) [.s i, .s j] env = R.ok (.fz (rowD n M a), env) := by
    refine opE_of (l := [.s i, .s j]) (cs := [.fz (matD n M), int (a : Nat)]) ?_ ?_ (ix_row ha)
    · simp only [evA, h0, h1, bnd_ok]
    · simp only [cellsOf, PF.Arg.cell, h0, h1]
  refine opE_of (l := [.v (.fz (rowD n M a)), .s k]) (cs := [.fz (rowD n M a), int (b : Nat)]) (evA_es q ⟨_, h2⟩) ?_ (ix_at hb)
  simp only [cellsOf, PF.Arg.cell, h2]
theorem den_star {n : Nat} {M : Mat} (h0 : 0 < n) (h9 : n ≤ 9) : den_star_of [matD n M] = R.ok (starOf n M) := by
  show fin1 (F_star_of [some (.fz (matD n M)), none, none, none]) = _
  unfold F_star_of
  have h1 : callE den_looked_at [.s 0] [some (.fz (matD n M)), none, none, none] = R.ok (tup [.int ((looked n M).1 : Nat), .tuple (prs (looked n M).2)], [some (.fz (matD n M)), none, none, none]) := callE_of rfl rfl (den_looked h0 h9)
  have h2 : opE (on2 gIx) [.e (callE den_looked_at [.s 0]), .e (cst (.int 0))] [some (.fz (matD n M)), none, none, none] = R.ok (int ((looked n M).1 : Nat), [some (.fz (matD n M)), none, none, none]) := by
    have e : gIx (tup [.int ((looked n M).1 : Nat), .tuple (prs (looked n M).2)]) (int ((0 : Nat) : Int)) = some (int ((looked n M).1 : Nat)) := gIx_tup rfl
    exact opE_of (evA_ee h1 rfl) rfl e
  rw [seqS_nx (asgS_of h2 (env2 := [some (.fz (matD n M)), some (int ((looked n M).1 : Nat)), none, none]) rfl)]
  have hc := looked_lt (M := M) h0
  unfold starOf
  generalize (looked n M).1 = c at hc
  have hit : itZ enG [varZ 0] [some (.fz (matD n M)), some (int (c : Nat)), none, none] = R.ok ((List.range n).map fun i => .tuple [.int (i : Nat), rowD n M i], [some (.fz (matD n M)), some (int (c : Nat)), none, none]) := by
    rw [← enumD_range] <;> rfl
  have z := forL_sim (t := tupT [nameT 2, nameT 3]) (b := B_star_of_1) (fun i => .tuple [.int (i : Nat), rowD n M i]) (fun (s : Unit) (g : Nat) => if bad M c g = true then .error (.fz .none) else .ok s) (fun j s env => ∃ o2 o3, env = [some (.fz (matD n M)), some (int (c : Nat)), o2, o3]) (List.range n) 0 ()
    [some (.fz (matD n M)), some (int (c : Nat)), none, none] ⟨none, none, rfl⟩ fun j g s env hj ⟨o2, o3, he⟩ => by
      subst he
      have hx : g < n := by
        have := List.mem_of_getElem? hj
        simpa using this
      have body : B_star_of_1 [some (.fz (matD n M)), some (int (c : Nat)), some (int (g : Nat)), some (.fz (rowD n M g))] = if bad M c g = true then R.ok (.rt (.fz .none), [some (.fz (matD n M)), some (int (c : Nat)), some (int (g : Nat)), some (.fz (rowD n M g))]) else R.ok (.nx, [some (.fz (matD n M)), some (int (c : Nat)), some (int (g : Nat)), some (.fz (rowD n M g))]) := by
        unfold B_star_of_1
        rw [ifS_b (v := bad M c g) (env' := [some (.fz (matD n M)), some (int (c : Nat)), some (int (g : Nat)), some (.fz (rowD n M g))])]
        · cases bad M c g <;> rfl
        · refine andB_of (env1 := [some (.fz (matD n M)), some (int (c : Nat)), some (int (g : Nat)), some (.fz (rowD n M g))]) (valB_bool (opE_of rfl rfl (gNe_nat g c))) (orB_of (env1 := [some (.fz (matD n M)), some (int (c : Nat)), some (int (g : Nat)), some (.fz (rowD n M g))]) (valB_bool (at2 rfl rfl rfl hc hx)) (notB_of (valB_bool (opE_of rfl rfl (ix_at (M := M) (a := g) hc)))) fun _ => rfl) fun _ => rfl
      cases w : bad M c g with
      | true =>
        rw [w] at body
        exact ⟨_, _, rfl, body⟩
      | false =>
        rw [w] at body
        exact ⟨_, .nx, _, rfl, body, .inl rfl, _, _, rfl⟩
  rw [show seqS (forS (itZ enG [varZ 0]) (tupT [nameT 2, nameT 3]) B_star_of_1) (retS (varM 1)) [some (.fz (matD n M)), some (int (c : Nat)), none, none] = (forL (tupT [nameT 2, nameT 3]) B_star_of_1 ((List.range n).map fun i => .tuple [.int (i : Nat), rowD n M i]) [some (.fz (matD n M)), some (int (c : Nat)), none, none]).bnd (fun r => match r.1 with | .nx => retS (varM 1) r.2 | o => .ok (o, r.2)) by rw [← forS_of hit]; rfl]
  have key : ∀ (xs : List Nat), runE (fun (s : Unit) (g : Nat) => if bad M c g = true then (.error (.fz .none) : Except Cell Unit) else .ok s) () xs = if xs.any (bad M c) = true then .error (.fz .none) else .ok () := by
    intro xs
    induction xs with
    | nil => rfl
    | cons x xs ih =>
      unfold runE
      cases w : bad M c x with
      | true => rw [List.any_cons, w] <;> rfl
      | false =>
        rw [List.any_cons, w, Bool.false_or]
        exact ih
  rw [key] at z
  cases w : (List.range n).any (bad M c) with
  | true =>
    rw [w] at z
    obtain ⟨env', h2⟩ := z
    rw [h2] <;> rfl
  | false =>
    rw [w] at z
    obtain ⟨env', h2, o2, o3, h4⟩ := z
    subst h4
    rw [h2] <;> rfl
end Kk91
namespace Kk91
open PySem L2 PF
/-- knows nobody, known by all -/
def isStar (n : Nat) (M : Mat) (a : Nat) : Bool := !((List.range n).any (M a)) && decide ((List.range n).filter (fun b => !decide (b = a) && !M b a) = [])
def headC : List Nat → Cell
  | [] => .fz .none
  | a :: _ => int (a : Nat)
def lawStar (n : Nat) (M : Mat) : Cell := headC ((List.range n).filter (isStar n M))
theorem it_name {i : Nat} {env : PF.Env} {n : Nat} (h : env[i]? = some (some (int (n : Nat)))) (hn : n < 1000000) : itA (one1 rng1) [.s i] env = R.ok ((List.range n).map fun k => (.int (k : Nat) : D), env) := by
  refine it_up0 ⟨[.s i], ?_, ?_⟩ hn
  · simp only [evA, h, bnd_ok]
  · simp only [cellsOf, PF.Arg.cell, h]
theorem any_row {n : Nat} {M : Mat} {a : Nat} : gIn true (bool true) (.fz (rowD n M a)) = some (bool (!((List.range n).any (M a)))) := by
  unfold rowD
  rw [gIn_tup rfl ((Shp.tup (Shp.map fun b => Shp.bool _)).ok (k := 1) (by decide)), List.any_map, Bool.bne_true]
  have e : ((fun z => PyData.eqv z (PyData.bool true)) ∘ fun b => PyData.bool (M a b)) = M a := by
    funext b
    show (M a b == true) = M a b
    cases M a b <;> rfl
  rw [e]
theorem eq_nil (ks : List Nat) : gEq (.ol (ks.map fun k => int (k : Nat))) (.ol []) = some (bool (decide (ks = []))) := by
  have e1 : (Cell.ol (ks.map fun k => int (k : Nat))) = lst (ks.map fun k => .int (k : Nat)) := by
    unfold lst
    rw [List.map_map] <;> rfl
  rw [e1]
  have e2 : Cell.d (lst (ks.map fun k => .int (k : Nat))) = .list (ks.map fun k => .int (k : Nat)) := by
    show PyData.list (Cell.ds _) = _
    rw [ds_fz]
  unfold gEq
  rw [if_pos ⟨nds_fz _, rfl, by rw [e2]; exact (Shp.lst (Shp.map fun b => Shp.int _)).ok (k := 1) (by decide), rfl⟩, e2]
  cases ks <;> rfl
theorem den_lawstar {n : Nat} {M : Mat} (h9 : n ≤ 9) : den__law_star [matD n M] = R.ok (lawStar n M) := by
  show fin1 (F__law_star [some (.fz (matD n M)), none, none, none, none]) = _
  unfold F__law_star
  rw [seqS_nx (asgS_of (opE_of rfl rfl (len_mat n M)) (env2 := [some (.fz (matD n M)), some (int (n : Nat)), none, none, none]) rfl)]
  have inner : ∀ a < n, lcE (itA (one1 rng1) [.s 1]) [4] (nameT 4) (andB (valB (opE (on2 (gNe)) [.s 4, .s 3])) (notB (valB (opE (on2 gIx) [.e (opE (on2 gIx) [.s 0, .s 4]), .s 3])))) (varZ 4) [some (.fz (matD n M)), some (int (n : Nat)), none, some (int (a : Nat)), none] =
      R.ok (.ol (((List.range n).filter (fun b => !decide (b = a) && !M b a)).map fun k => int (k : Nat)), [some (.fz (matD n M)), some (int (n : Nat)), none, some (int (a : Nat)), none]) := fun a ha => by
    refine lcE_of (it_name rfl (by omega)) (lcL_pure (fun k : Nat => (.int (k : Nat) : D)) (fun b => !decide (b = a) && !M b a) (fun k => int (k : Nat)) (List.range n) [] (by rw [List.length_range]; unfold lim; simp; omega) fun b hb => ?_)
    have hb := List.mem_range.mp hb
    refine ⟨[some (.fz (matD n M)), some (int (n : Nat)), none, some (int (a : Nat)), some (int (b : Nat))], rfl, [some (.fz (matD n M)), some (int (n : Nat)), none, some (int (a : Nat)), some (int (b : Nat))], ?_, fun _ => rfl, fun _ => ⟨_, rfl, rfl⟩⟩
    exact andB_of (valB_bool (opE_of rfl rfl (gNe_nat b a))) (notB_of (valB_bool (at2 rfl rfl rfl hb ha))) fun _ => rfl
  have outer : lcE (itA (one1 rng1) [.s 1]) [3] (nameT 3) (andB (valB (opE (on2 (gIn true)) [.e (cst (.bool true)), .e (opE (on2 gIx) [.s 0, .s 3])])) (valB (opE (on2 (gEq)) [.e (lcE (itA (one1 rng1) [.s 1]) [4] (nameT 4) (andB (valB (opE (on2 (gNe)) [.s 4, .s 3])) (notB (valB (opE (on2 gIx) [.e (opE (on2 gIx) [.s 0, .s 4]), .s 3])))) (varZ 4)), .e (lstE [])]))) (varZ 3) [some (.fz (matD n M)), some (int (n : Nat)), none, none, none] =
      R.ok (.ol (((List.range n).filter (isStar n M)).map fun k => int (k : Nat)), [some (.fz (matD n M)), some (int (n : Nat)), none, none, none]) := by
    refine lcE_of (it_name rfl (by omega)) (lcL_pure (fun k : Nat => (.int (k : Nat) : D)) (isStar n M) (fun k => int (k : Nat)) (List.range n) [] (by rw [List.length_range]; unfold lim; simp; omega) fun a ha => ?_)
    have ha := List.mem_range.mp ha
    refine ⟨[some (.fz (matD n M)), some (int (n : Nat)), none, some (int (a : Nat)), none], rfl, [some (.fz (matD n M)), some (int (n : Nat)), none, some (int (a : Nat)), none], ?_, fun _ => rfl, fun _ => ⟨_, rfl, rfl⟩⟩
    refine andB_of (env1 := [some (.fz (matD n M)), some (int (n : Nat)), none, some (int (a : Nat)), none]) (valB_bool (opE_of (evA_ee (c := bool true) rfl (d := .fz (rowD n M a)) (env2 := [some (.fz (matD n M)), some (int (n : Nat)), none, some (int (a : Nat)), none]) (opE_of rfl rfl (ix_row ha))) rfl any_row)) (valB_bool (opE_of (evA_ee (inner a ha) (d := .ol []) rfl) rfl (eq_nil _))) fun _ => rfl
  rw [seqS_nx (asgS_of outer (env2 := [some (.fz (matD n M)), some (int (n : Nat)), some (.ol (((List.range n).filter (isStar n M)).map fun k => int (k : Nat))), none, none]) rfl)]
  unfold lawStar
  have hlen : ((List.range n).filter (isStar n M)).length ≤ n := Nat.le_trans (List.length_filter_le _ _) (by rw [List.length_range]; exact Nat.le_refl _)
  generalize (List.range n).filter (isStar n M) = ks at hlen
  have e1 : (Cell.ol (ks.map fun k => int (k : Nat))) = lst (ks.map fun k => .int (k : Nat)) := by
    unfold lst
    rw [List.map_map] <;> rfl
  rw [e1]
  have e2 : ∀ xs : List D, (lst xs).lst? = some xs := fun xs => by
    show (if (xs.map Cell.fz).all Cell.isFz = true then some (Cell.ds (xs.map Cell.fz)) else none) = _
    rw [if_pos (by simp [List.all_map, Cell.isFz]), ds_fz]
  have e3 : gAdd (lst (ks.map fun k => .int (k : Nat))) (.ol [.fz .none]) = some (lst ((ks.map fun k => (.int (k : Nat) : D)) ++ [.none])) := by
    show (match (lst (ks.map fun k => (.int (k : Nat) : D))).lst?, (lst [.none]).lst? with
      | some xs, some ys => if xs.length + ys.length ≤ lim then some (lst (xs ++ ys)) else none
      | _, _ => none) = _
    rw [e2, e2]
    exact if_pos (by unfold lim; rw [List.length_map, List.length_singleton]; omega)
  have e4 : gIx (lst ((ks.map fun k => (.int (k : Nat) : D)) ++ [.none])) (int ((0 : Nat) : Int)) = some (headC ks) := by
    show (match (lst ((ks.map fun k => (.int (k : Nat) : D)) ++ [.none])).lst? with | some ds => (atI ds ((0 : Nat) : Int)).map Cell.fz | none => none) = _
    rw [e2]
    cases ks with
    | nil => rfl
    | cons k ks =>
      show (atI (.int (k : Nat) :: ((ks.map fun k => (.int (k : Nat) : D)) ++ [.none])) ((0 : Nat) : Int)).map Cell.fz = _
      rw [PF.atI_nat rfl] <;> rfl
  have q : opE (on2 gAdd) [.s 2, .e (lstE [cst .none])] [some (.fz (matD n M)), some (int (n : Nat)), some (lst (ks.map fun k => .int (k : Nat))), none, none] = R.ok (lst ((ks.map fun k => (.int (k : Nat) : D)) ++ [.none]), [some (.fz (matD n M)), some (int (n : Nat)), some (lst (ks.map fun k => .int (k : Nat))), none, none]) := opE_of (l := [.s 2, .v (.ol [.fz .none])]) rfl rfl e3
  rw [retS_of (opE_of (evA_ee q rfl) rfl e4)] <;> rfl
end Kk91
namespace Kk91
open PySem L2 PF
theorem lst_look (xs : List D) : (lst xs).lst? = some xs := by
  show (if (xs.map Cell.fz).all Cell.isFz = true then some (Cell.ds (xs.map Cell.fz)) else none) = _
  rw [if_pos (by simp [List.all_map, Cell.isFz]), ds_fz]
theorem gTup_lst (xs : List D) : gTup (lst xs) = some (tup xs) := by
  show (lst xs).lst?.map tup = _
  rw [lst_look] <;> rfl
theorem appE_lst {i : Nat} {f : EF} {env env' : PF.Env} {xs : List D} {d : D} (h0 : env[i]? = some (some (lst xs))) (hf : f env = R.ok (.fz d, env')) (h : env'[i]? = some (some (lst xs))) (hl : xs.length < lim) : appE i f env = R.ok (.fz .none, env'.set i (some (lst (xs ++ [d])))) := by
  unfold appE
  rw [h0]
  show ((f env).bnd _) = _
  rw [hf, bnd_ok]
  show (match env'[i]? with
    | some (some (.ol cs)) => if cs.length < lim then R.ok ((.fz .none : Cell), env'.set i (some (Cell.ol (cs ++ [Cell.fz d])))) else none
    | _ => none) = _
  rw [h]
  show (if (xs.map Cell.fz).length < lim then R.ok ((.fz .none : Cell), env'.set i (some (Cell.ol (xs.map Cell.fz ++ [Cell.fz d])))) else none) = _
  rw [if_pos (by rw [List.length_map]; exact hl)]
  unfold lst
  rw [List.map_append] <;> rfl
theorem evA_se {f : EF} {i : Nat} {env env1 : PF.Env} {c v : Cell} (hi : env[i]? = some (some v)) (h : f env = R.ok (c, env1)) : evA [.s i, .e f] env = R.ok ([.s i, .v c], env1) := by
  simp only [evA, hi, h, bnd_ok]
theorem q_look {n : Nat} {M : Mat} {c g : Nat} {l : List (Nat × Nat)} {o5 : Option Cell} (hc : c < n) (hg : g < n) (hl : l.length < 1000) :
    B__law_questions_1 [some (.fz (matD n M)), some (int (g : Nat)), some (int (n : Nat)), some (int (c : Nat)), some (lst (prs l)), o5] = R.ok (.nx, [some (.fz (matD n M)), some (int (g : Nat)), some (int (n : Nat)), some (int ((if M c g = true then g else c : Nat) : Int)), some (lst (prs (l ++ [(c, g)]))), o5]) := by
  unfold B__law_questions_1
  have h1 : appE 4 (tupE [varZ 3, varZ 1]) [some (.fz (matD n M)), some (int (g : Nat)), some (int (n : Nat)), some (int (c : Nat)), some (lst (prs l)), o5] = R.ok (.fz .none, [some (.fz (matD n M)), some (int (g : Nat)), some (int (n : Nat)), some (int (c : Nat)), some (lst (prs (l ++ [(c, g)]))), o5]) := by
    rw [← prs_snoc]
    exact appE_lst rfl (d := prD (c, g)) (env' := [some (.fz (matD n M)), some (int (g : Nat)), some (int (n : Nat)), some (int (c : Nat)), some (lst (prs l)), o5]) rfl rfl (by unfold prs lim; simp; omega)
  rw [seqS_nx (dropS_of h1)]
  have h2 : iteE (valB (opE (on2 gIx) [.e (opE (on2 gIx) [.s 0, .s 3]), .s 1])) (varZ 1) (varZ 3) [some (.fz (matD n M)), some (int (g : Nat)), some (int (n : Nat)), some (int (c : Nat)), some (lst (prs (l ++ [(c, g)]))), o5] = R.ok (int ((if M c g = true then g else c : Nat) : Int), [some (.fz (matD n M)), some (int (g : Nat)), some (int (n : Nat)), some (int (c : Nat)), some (lst (prs (l ++ [(c, g)]))), o5]) := by
    unfold iteE
    rw [valB_bool (at2 rfl rfl rfl hc hg), bnd_ok]
    cases M c g <;> rfl
  exact asgS_of h2 rfl
theorem q_body {n : Nat} {M : Mat} {c a b : Nat} {l : List (Nat × Nat)} {o1 : Option Cell} (ha : a < n) (hb : b < n) (hl : l.length < 1000) :
    B__law_questions_2 [some (.fz (matD n M)), o1, some (int (n : Nat)), some (int (c : Nat)), some (lst (prs l)), some (.fz (prD (a, b)))] =
      match tell1 M c l (a, b) with
      | .ok l' => R.ok (.nx, [some (.fz (matD n M)), o1, some (int (n : Nat)), some (int (c : Nat)), some (lst (prs l')), some (.fz (prD (a, b)))])
      | .error e => R.ok (.rt e, [some (.fz (matD n M)), o1, some (int (n : Nat)), some (int (c : Nat)), some (lst (prs (l ++ [(a, b)]))), some (.fz (prD (a, b)))]) := by
  unfold B__law_questions_2 tell1
  rw [ifS_b (v := !decide ((a, b) ∈ l)) (env' := [some (.fz (matD n M)), o1, some (int (n : Nat)), some (int (c : Nat)), some (lst (prs l)), some (.fz (prD (a, b)))]) (valB_bool (opE_of rfl rfl (not_inL l (a, b))))]
  by_cases e : (a, b) ∈ l
  · rw [decide_eq_true e, if_pos e] <;> rfl
  · rw [decide_eq_false e, if_neg e]
    show seqS _ _ _ = _
    have h1 : appE 4 (varZ 5) [some (.fz (matD n M)), o1, some (int (n : Nat)), some (int (c : Nat)), some (lst (prs l)), some (.fz (prD (a, b)))] = R.ok (.fz .none, [some (.fz (matD n M)), o1, some (int (n : Nat)), some (int (c : Nat)), some (lst (prs (l ++ [(a, b)]))), some (.fz (prD (a, b)))]) := by
      rw [← prs_snoc]
      exact appE_lst rfl (env' := [some (.fz (matD n M)), o1, some (int (n : Nat)), some (int (c : Nat)), some (lst (prs l)), some (.fz (prD (a, b)))]) rfl rfl (by unfold prs lim; simp; omega)
    rw [seqS_nx (dropS_of h1)]
    have p0 : gIx (.fz (prD (a, b))) (int ((0 : Nat) : Int)) = some (int (a : Nat)) := gIx_tup rfl
    have p1 : gIx (.fz (prD (a, b))) (int ((1 : Nat) : Int)) = some (int (b : Nat)) := gIx_tup rfl
    have q0 : ∀ {env : PF.Env} {o1 o2 o3 o4 : Option Cell}, env = [o1, o2, o3, o4, some (lst (prs (l ++ [(a, b)]))), some (.fz (prD (a, b)))] → opE (on2 gIx) [.s 5, .e (cst (.int 0))] env = R.ok (int (a : Nat), env) := fun {env o1 o2 o3 o4} e => by
      subst e
      exact opE_of (l := [.s 5, .v (int 0)]) rfl rfl p0
    have q1 : ∀ {env : PF.Env} {o1 o2 o3 o4 : Option Cell}, env = [o1, o2, o3, o4, some (lst (prs (l ++ [(a, b)]))), some (.fz (prD (a, b)))] → opE (on2 gIx) [.s 5, .e (cst (.int 1))] env = R.ok (int (b : Nat), env) := fun {env o1 o2 o3 o4} e => by
      subst e
      exact opE_of (l := [.s 5, .v (int 1)]) rfl rfl p1
    have r1 : opE (on2 gIx) [.s 0, .e (opE (on2 gIx) [.s 5, .e (cst (.int 0))])] [some (.fz (matD n M)), o1, some (int (n : Nat)), some (int (c : Nat)), some (lst (prs (l ++ [(a, b)]))), some (.fz (prD (a, b)))] = R.ok (.fz (rowD n M a), [some (.fz (matD n M)), o1, some (int (n : Nat)), some (int (c : Nat)), some (lst (prs (l ++ [(a, b)]))), some (.fz (prD (a, b)))]) := by
      refine opE_of (l := [.s 0, .v (int (a : Nat))]) ?_ rfl (ix_row ha)
      exact evA_se rfl (q0 rfl)
    have r2 : opE (on2 gIx) [.e (opE (on2 gIx) [.s 0, .e (opE (on2 gIx) [.s 5, .e (cst (.int 0))])]), .e (opE (on2 gIx) [.s 5, .e (cst (.int 1))])] [some (.fz (matD n M)), o1, some (int (n : Nat)), some (int (c : Nat)), some (lst (prs (l ++ [(a, b)]))), some (.fz (prD (a, b)))] = R.ok (PF.bool (M a b), [some (.fz (matD n M)), o1, some (int (n : Nat)), some (int (c : Nat)), some (lst (prs (l ++ [(a, b)]))), some (.fz (prD (a, b)))]) := opE_of (evA_ee r1 (q1 rfl)) rfl (ix_at hb)
    have r3 : opE (on2 gNe) [.e (opE (on2 gIx) [.s 5, .e (cst (.int 0))]), .s 3] [some (.fz (matD n M)), o1, some (int (n : Nat)), some (int (c : Nat)), some (lst (prs (l ++ [(a, b)]))), some (.fz (prD (a, b)))] = R.ok (PF.bool (!decide (a = c)), [some (.fz (matD n M)), o1, some (int (n : Nat)), some (int (c : Nat)), some (lst (prs (l ++ [(a, b)]))), some (.fz (prD (a, b)))]) := opE_of (evA_es (q0 rfl) ⟨_, rfl⟩) rfl (gNe_nat a c)
    have e5 : (!(M a b == !decide (a = c))) = viol M c (a, b) := by
      unfold viol
      cases M a b <;> cases decide (a = c) <;> rfl
    have r4 := opE_of (g := on2 gNe) (evA_ee r2 r3) rfl (gNe_bool (M a b) (!decide (a = c)))
    rw [e5] at r4
    rw [ifS_b (valB_bool r4)]
    cases viol M c (a, b) with
    | false => rfl
    | true => exact retS_of (opE_of rfl rfl (gTup_lst _))
theorem q_pair {n : Nat} {M : Mat} {c g : Nat} {l : List (Nat × Nat)} {o5 : Option Cell} (hc : c < n) (hg : g < n) (hl : l.length < 900) :
    EndOk (B__law_questions_3 [some (.fz (matD n M)), some (int (g : Nat)), some (int (n : Nat)), some (int (c : Nat)), some (lst (prs l)), o5]) (fun l' env => l'.length ≤ l.length + 2 ∧ ∃ o5, env = [some (.fz (matD n M)), some (int (g : Nat)), some (int (n : Nat)), some (int (c : Nat)), some (lst (prs l')), o5]) (tellG M c l g) := by
  unfold B__law_questions_3 tellG
  rw [ifS_b (v := !decide (g = c)) (env' := [some (.fz (matD n M)), some (int (g : Nat)), some (int (n : Nat)), some (int (c : Nat)), some (lst (prs l)), o5]) (valB_bool (opE_of rfl rfl (gNe_nat g c)))]
  by_cases e : g = c
  · rw [if_pos e, decide_eq_true e]
    exact ⟨_, rfl, by omega, _, rfl⟩
  · rw [if_neg e, decide_eq_false e]
    have hit : itE (lstE [tupE [varZ 3, varZ 1], tupE [varZ 1, varZ 3]]) [some (.fz (matD n M)), some (int (g : Nat)), some (int (n : Nat)), some (int (c : Nat)), some (lst (prs l)), o5] = R.ok ([(c, g), (g, c)].map prD, [some (.fz (matD n M)), some (int (g : Nat)), some (int (n : Nat)), some (int (c : Nat)), some (lst (prs l)), o5]) := rfl
    show EndOk (forS _ _ _ _) _ _
    rw [forS_of hit]
    have z := forL_sim (t := nameT 5) (b := B__law_questions_2) prD (tell1 M c) (fun j s env => s.length ≤ l.length + j ∧ ∃ o5, env = [some (.fz (matD n M)), some (int (g : Nat)), some (int (n : Nat)), some (int (c : Nat)), some (lst (prs s)), o5]) [(c, g), (g, c)] 0 l
      [some (.fz (matD n M)), some (int (g : Nat)), some (int (n : Nat)), some (int (c : Nat)), some (lst (prs l)), o5] ⟨by omega, o5, rfl⟩ fun j x s env hj ⟨hs, o5, he⟩ => by
        subst he
        have hj2 : j < 2 := (List.getElem?_eq_some_iff.mp hj).1
        have hx : x.1 < n ∧ x.2 < n := by
          have := List.mem_of_getElem? hj
          simp only [List.mem_cons, List.not_mem_nil, or_false] at this
          rcases this with rfl | rfl
          · exact ⟨hc, hg⟩
          · exact ⟨hg, hc⟩
        have q := q_body (M := M) (c := c) (a := x.1) (b := x.2) (l := s) (o1 := some (int (g : Nat))) hx.1 hx.2 (by omega)
        cases w : tell1 M c s x with
        | error e =>
          rw [show ((x.1, x.2) : Nat × Nat) = x from rfl, w] at q
          exact ⟨_, _, rfl, q⟩
        | ok l' =>
          rw [show ((x.1, x.2) : Nat × Nat) = x from rfl, w] at q
          refine ⟨_, .nx, _, rfl, q, .inl rfl, ?_, _, rfl⟩
          unfold tell1 at w
          split at w
          · cases w; omega
          · split at w
            · cases w
            · cases w
              rw [List.length_append, List.length_singleton]; omega
    exact z
theorem den_questions {n : Nat} {M : Mat} (h0 : 0 < n) (h9 : n ≤ 9) : den__law_questions [matD n M] = R.ok (told n M) := by
  show fin1 (F__law_questions [some (.fz (matD n M)), none, none, none, none, none]) = _
  unfold F__law_questions
  have h1 : parS [opE (on1 gLen) [.s 0], cst (.int 0), lstE []] [nameT 2, nameT 3, nameT 4] [some (.fz (matD n M)), none, none, none, none, none] = R.ok (.nx, [some (.fz (matD n M)), none, some (int (n : Nat)), some (int (0 : Nat)), some (lst (prs [])), none]) := by
    have q : opE (on1 gLen) [.s 0] [some (.fz (matD n M)), none, none, none, none, none] = R.ok (int (n : Nat), [some (.fz (matD n M)), none, none, none, none, none]) := opE_of rfl rfl (len_mat n M)
    unfold parS
    show (((opE (on1 gLen) [.s 0] _).bnd _).bnd _) = _
    rw [q] <;> rfl
  rw [seqS_nx h1]
  have hit1 : itA (one2 rng2) [.e (cst (.int 1)), .s 2] [some (.fz (matD n M)), none, some (int (n : Nat)), some (int (0 : Nat)), some (lst (prs [])), none] = R.ok ((List.range (n - 1)).map fun k => (.int ((1 + k : Nat) : Int) : D), [some (.fz (matD n M)), none, some (int (n : Nat)), some (int (0 : Nat)), some (lst (prs [])), none]) := it_up1 ⟨[.v (int 1), .s 2], rfl, rfl⟩ (by omega)
  have z := forL_sim (t := nameT 1) (b := B__law_questions_1) (fun k : Nat => (.int ((1 + k : Nat) : Int) : D)) (fun (s : Nat × List (Nat × Nat)) k => .ok (look M s (1 + k))) (fun j s env => ∃ o, env = [some (.fz (matD n M)), o, some (int (n : Nat)), some (int (s.1 : Nat)), some (lst (prs s.2)), none] ∧ s.1 < n ∧ s.2.length ≤ j) (List.range (n - 1)) 0 (0, [])
    [some (.fz (matD n M)), none, some (int (n : Nat)), some (int (0 : Nat)), some (lst (prs [])), none] ⟨none, rfl, h0, by simp⟩ fun j x s env hj ⟨o, he, hc, hl⟩ => by
      subst he
      have hx : x < n - 1 := by
        have := List.mem_of_getElem? hj
        simpa using this
      have hj2 : j < n - 1 := by
        have := (List.getElem?_eq_some_iff.mp hj).1
        simpa using this
      refine ⟨_, .nx, _, rfl, q_look (c := s.1) (g := 1 + x) (l := s.2) hc (by omega) (by omega), .inl rfl, some (int ((1 + x : Nat) : Int)), rfl, ?_, ?_⟩
      · unfold look
        show (if M s.1 (1 + x) = true then 1 + x else s.1) < n
        split <;> omega
      · unfold look
        simp only [List.length_append, List.length_singleton]
        omega
  rw [runE_ok] at z
  obtain ⟨env', h2, o, he, hc0, hl0⟩ := z
  subst he
  rw [seqS_nx ((forS_of hit1).trans h2)]
  have hc := looked_lt (M := M) h0
  have hl := looked_len (n := n) (M := M)
  show fin1 (seqS _ _ [some (.fz (matD n M)), o, some (int (n : Nat)), some (int ((looked n M).1 : Nat)), some (lst (prs (looked n M).2)), none]) = _
  unfold told
  generalize (looked n M).1 = c at hc
  generalize (looked n M).2 = l at hl
  have hit : itA (one1 rng1) [.s 2] [some (.fz (matD n M)), o, some (int (n : Nat)), some (int (c : Nat)), some (lst (prs l)), none] = R.ok ((List.range n).map fun k => (.int (k : Nat) : D), [some (.fz (matD n M)), o, some (int (n : Nat)), some (int (c : Nat)), some (lst (prs l)), none]) := it_name rfl (by omega)
  have z := forL_sim (t := nameT 1) (b := B__law_questions_3) (fun k : Nat => (.int (k : Nat) : D)) (tellG M c) (fun j s env => s.length ≤ l.length + 2 * j ∧ ∃ o1 o5, env = [some (.fz (matD n M)), o1, some (int (n : Nat)), some (int (c : Nat)), some (lst (prs s)), o5]) (List.range n) 0 l
    [some (.fz (matD n M)), o, some (int (n : Nat)), some (int (c : Nat)), some (lst (prs l)), none] ⟨by omega, o, none, rfl⟩ fun j x s env hj ⟨hs, o1, o5, he⟩ => by
      subst he
      have hx : x < n := by
        have := List.mem_of_getElem? hj
        simpa using this
      have hj2 : j < n := by
        have := (List.getElem?_eq_some_iff.mp hj).1
        simpa using this
      have q := q_pair (M := M) (c := c) (g := x) (l := s) (o5 := o5) hc hx (by omega)
      cases w : tellG M c s x with
      | error e =>
        rw [w] at q
        obtain ⟨env', h1⟩ := q
        exact ⟨_, env', rfl, h1⟩
      | ok l' =>
        rw [w] at q
        obtain ⟨env', h1, h2, p5, h3⟩ := q
        subst h3
        exact ⟨_, .nx, _, rfl, h1, .inl rfl, by omega, _, p5, rfl⟩
  rw [show seqS (forS (itA (one1 rng1) [.s 2]) (nameT 1) B__law_questions_3) (retS (opE (on1 gTup) [.s 4])) [some (.fz (matD n M)), o, some (int (n : Nat)), some (int (c : Nat)), some (lst (prs l)), none] = (forL (nameT 1) B__law_questions_3 ((List.range n).map fun k => (.int (k : Nat) : D)) [some (.fz (matD n M)), o, some (int (n : Nat)), some (int (c : Nat)), some (lst (prs l)), none]).bnd (fun r => match r.1 with | .nx => retS (opE (on1 gTup) [.s 4]) r.2 | o => .ok (o, r.2)) by rw [← forS_of hit]; rfl]
  cases w : runE (tellG M c) l (List.range n) with
  | error e =>
    rw [w] at z
    obtain ⟨env', h2⟩ := z
    rw [h2] <;> rfl
  | ok l' =>
    rw [w] at z
    obtain ⟨env', h2, h3, o1, o5, h4⟩ := z
    subst h4
    rw [h2, bnd_ok]
    show fin1 (retS (opE (on1 gTup) [.s 4]) [some (.fz (matD n M)), o1, some (int (n : Nat)), some (int (c : Nat)), some (lst (prs l')), o5]) = _
    rw [retS_of (opE_of rfl rfl (gTup_lst _))] <;> rfl
end Kk91
namespace Kk91
open PySem L2 PF
/-! ### what is asked, as one list -/
def goT (M : Mat) (c : Nat) : List (Nat × Nat) → List (Nat × Nat) → List (Nat × Nat)
  | [], l => l
  | p :: ps, l => if p ∈ l then goT M c ps l else if viol M c p = true then l ++ [p] else goT M c ps (l ++ [p])
def prF (c g : Nat) : List (Nat × Nat) := if g = c then [] else [(c, g), (g, c)]
def toldL (n : Nat) (M : Mat) : List (Nat × Nat) := goT M (looked n M).1 ((List.range n).flatMap (prF (looked n M).1)) (looked n M).2
def mrg : Except Cell (List (Nat × Nat)) → Cell
  | .ok l => tup (prs l)
  | .error e => e
theorem runE_cons {σ ι : Type} (g : σ → ι → Except Cell σ) (s : σ) (x : ι) (xs : List ι) : runE g s (x :: xs) = match g s x with | .ok s' => runE g s' xs | .error c => .error c := rfl
theorem runE_app {σ ι : Type} (g : σ → ι → Except Cell σ) : ∀ (xs ys : List ι) (s : σ), runE g s (xs ++ ys) = match runE g s xs with | .ok s' => runE g s' ys | .error e => .error e
  | [], ys, s => rfl
  | x :: xs, ys, s => by
    rw [List.cons_append, runE_cons, runE_cons]
    cases g s x with
    | error e => rfl
    | ok s' => exact runE_app g xs ys s'
theorem runE_flat (M : Mat) (c : Nat) : ∀ (gs : List Nat) (l : List (Nat × Nat)), runE (tellG M c) l gs = runE (tell1 M c) l (gs.flatMap (prF c))
  | [], l => rfl
  | g :: gs, l => by
    rw [List.flatMap_cons, runE_app, runE_cons]
    have e : tellG M c l g = runE (tell1 M c) l (prF c g) := by
      unfold tellG prF
      split <;> rfl
    rw [e]
    cases runE (tell1 M c) l (prF c g) with
    | error e => rfl
    | ok l' => exact runE_flat M c gs l'
theorem mrg_go (M : Mat) (c : Nat) : ∀ (ps : List (Nat × Nat)) (l : List (Nat × Nat)), mrg (runE (tell1 M c) l ps) = tup (prs (goT M c ps l))
  | [], l => rfl
  | p :: ps, l => by
    unfold runE goT tell1
    by_cases e : p ∈ l
    · rw [if_pos e, if_pos e]
      exact mrg_go M c ps l
    · rw [if_neg e, if_neg e]
      by_cases e2 : viol M c p = true
      · rw [if_pos e2, if_pos e2] <;> rfl
      · rw [if_neg e2, if_neg e2]
        exact mrg_go M c ps (l ++ [p])
theorem told_eq (n : Nat) (M : Mat) : told n M = tup (prs (toldL n M)) := by
  show mrg (runE (tellG M (looked n M).1) (looked n M).2 (List.range n)) = _
  rw [runE_flat, mrg_go] <;> rfl
/-! ### how many -/
theorem go_len (M : Mat) (c : Nat) : ∀ (ps l : List (Nat × Nat)), (goT M c ps l).length ≤ l.length + ps.length
  | [], l => by simp [goT]
  | p :: ps, l => by
    unfold goT
    rw [List.length_cons]
    split
    · have := go_len M c ps l; omega
    · split
      · rw [List.length_append, List.length_singleton]; omega
      · have := go_len M c ps (l ++ [p])
        rw [List.length_append, List.length_singleton] at this; omega
theorem flat_len (c : Nat) : ∀ n : Nat, ((List.range n).flatMap (prF c)).length + (if c < n then 2 else 0) = 2 * n
  | 0 => by simp
  | n + 1 => by
    have ih := flat_len c n
    rw [List.range_succ, List.flatMap_append, List.length_append, List.flatMap_cons, List.flatMap_nil, List.append_nil]
    unfold prF at ih ⊢
    by_cases e : n = c
    · rw [if_pos e, if_pos (by omega)]
      rw [if_neg (by omega)] at ih
      simp only [List.length_nil]
      omega
    · rw [if_neg e]
      by_cases e2 : c < n
      · rw [if_pos (by omega)]
        rw [if_pos e2] at ih
        simp only [List.length_cons, List.length_nil]
        omega
      · rw [if_neg (by omega)]
        rw [if_neg e2] at ih
        simp only [List.length_cons, List.length_nil]
        omega
theorem told_len {n : Nat} {M : Mat} (h0 : 0 < n) : (toldL n M).length ≤ 3 * (n - 1) := by
  have h1 := go_len M (looked n M).1 ((List.range n).flatMap (prF (looked n M).1)) (looked n M).2
  have h2 := flat_len (looked n M).1 n
  rw [if_pos (looked_lt h0)] at h2
  have h3 := looked_len (n := n) (M := M)
  unfold toldL
  omega
/-! ### another table that answers alike -/
theorem go_sub (M : Mat) (c : Nat) : ∀ (ps l : List (Nat × Nat)), ∀ p ∈ l, p ∈ goT M c ps l
  | [], l, p, h => h
  | q :: ps, l, p, h => by
    unfold goT
    split
    · exact go_sub M c ps l p h
    · split
      · exact List.mem_append_left _ h
      · exact go_sub M c ps (l ++ [q]) p (List.mem_append_left _ h)
theorem viol_same {M B : Mat} {c : Nat} {p : Nat × Nat} (h : B p.1 p.2 = M p.1 p.2) : viol B c p = viol M c p := by
  unfold viol
  rw [h]
theorem go_same {M B : Mat} {c : Nat} : ∀ (ps l : List (Nat × Nat)), (∀ p ∈ goT M c ps l, B p.1 p.2 = M p.1 p.2) → goT B c ps l = goT M c ps l
  | [], l, h => rfl
  | q :: ps, l, h => by
    unfold goT at h ⊢
    by_cases e : q ∈ l
    · rw [if_pos e] at h ⊢
      rw [if_pos e]
      exact go_same ps l h
    · rw [if_neg e] at h ⊢
      rw [if_neg e]
      have hq : B q.1 q.2 = M q.1 q.2 := h q (by
        split
        · simp
        · exact go_sub M c ps (l ++ [q]) q (by simp))
      rw [viol_same hq]
      by_cases e2 : viol M c q = true
      · rw [if_pos e2, if_pos e2]
      · rw [if_neg e2] at h
        rw [if_neg e2, if_neg e2]
        exact go_same ps (l ++ [q]) h
def lk (M : Mat) (m : Nat) : Nat × List (Nat × Nat) := (List.range m).foldl (fun s k => look M s (1 + k)) (0, [])
theorem lk_succ (M : Mat) (m : Nat) : lk M (m + 1) = look M (lk M m) (1 + m) := by
  unfold lk
  rw [List.range_succ, List.foldl_append] <;> rfl
theorem lk_same {M B : Mat} : ∀ m : Nat, (∀ p ∈ (lk M m).2, B p.1 p.2 = M p.1 p.2) → lk B m = lk M m
  | 0, _ => rfl
  | m + 1, h => by
    rw [lk_succ] at h
    have ih := lk_same m fun p hp => h p (List.mem_append_left _ hp)
    have hq := h ((lk M m).1, 1 + m) (List.mem_append_right _ (by simp))
    rw [lk_succ, lk_succ, ih]
    unfold look
    rw [show B (lk M m).1 (1 + m) = M (lk M m).1 (1 + m) from hq]
theorem looked_eq (n : Nat) (M : Mat) : looked n M = lk M (n - 1) := rfl
/-- the first walk: what it knows of its last guest -/
theorem lk_inv {M : Mat} : ∀ m : Nat, (lk M m).1 ≤ m ∧ ∀ p ∈ (lk M m).2, p.1 ≤ m ∧ p.2 ≤ m ∧ (p.1 = (lk M m).1 → M p.1 p.2 = false) ∧ (p.2 = (lk M m).1 → M p.1 p.2 = true)
  | 0 => ⟨Nat.le_refl _, fun p hp => by cases hp⟩
  | m + 1 => by
    obtain ⟨h1, h2⟩ := lk_inv (M := M) m
    rw [lk_succ]
    generalize lk M m = s at h1 h2
    unfold look
    by_cases e : M s.1 (1 + m) = true
    · rw [if_pos e]
      refine ⟨by dsimp only; omega, fun p hp => ?_⟩
      rcases List.mem_append.mp hp with hp | hp
      · obtain ⟨a, b, c, d⟩ := h2 p hp
        exact ⟨by omega, by omega, fun z => by dsimp only at z; omega, fun z => by dsimp only at z; omega⟩
      · rw [List.mem_singleton.mp hp]
        exact ⟨by dsimp only; omega, by dsimp only; omega, fun z => by dsimp only at z; omega, fun _ => e⟩
    · rw [if_neg e]
      refine ⟨by dsimp only; omega, fun p hp => ?_⟩
      rcases List.mem_append.mp hp with hp | hp
      · obtain ⟨a, b, c, d⟩ := h2 p hp
        exact ⟨by omega, by omega, c, d⟩
      · rw [List.mem_singleton.mp hp]
        exact ⟨by dsimp only; omega, by dsimp only; omega, fun _ => by simpa using e, fun z => by dsimp only at z; omega⟩
theorem go_all {M : Mat} {c : Nat} : ∀ (ps l : List (Nat × Nat)), (∀ p ∈ ps, viol M c p = false) → ∀ p ∈ ps, p ∈ goT M c ps l
  | q :: ps, l, h, p, hp => by
    unfold goT
    have hq := h q List.mem_cons_self
    have ih := fun l => go_all ps l fun p hp => h p (List.mem_cons_of_mem _ hp)
    rcases List.mem_cons.mp hp with rfl | hp
    · split
      · rename_i e
        exact go_sub M c ps l p e
      · rw [hq, if_neg Bool.false_ne_true]
        exact go_sub M c ps _ p (by simp)
    · split
      · exact ih l p hp
      · rw [hq, if_neg Bool.false_ne_true]
        exact ih _ p hp
theorem go_viol {M : Mat} {c : Nat} : ∀ (ps l : List (Nat × Nat)), (∃ p ∈ ps, viol M c p = true) → (∀ p ∈ ps, p ∈ l → viol M c p = false) → ∃ p ∈ ps, viol M c p = true ∧ p ∈ goT M c ps l
  | [], l, ⟨p, hp, _⟩, _ => by cases hp
  | q :: ps, l, ⟨p, hp, hv⟩, h => by
    unfold goT
    by_cases e : q ∈ l
    · rw [if_pos e]
      have hq := h q List.mem_cons_self e
      have hp2 : p ∈ ps := by
        rcases List.mem_cons.mp hp with rfl | hp
        · rw [hq] at hv; cases hv
        · exact hp
      obtain ⟨r, h1, h2, h3⟩ := go_viol ps l ⟨p, hp2, hv⟩ fun p hp => h p (List.mem_cons_of_mem _ hp)
      exact ⟨r, List.mem_cons_of_mem _ h1, h2, h3⟩
    · rw [if_neg e]
      by_cases e2 : viol M c q = true
      · rw [if_pos e2]
        exact ⟨q, List.mem_cons_self, e2, by simp⟩
      · rw [if_neg e2]
        have hp2 : p ∈ ps := by
          rcases List.mem_cons.mp hp with rfl | hp
          · exact absurd hv e2
          · exact hp
        obtain ⟨r, h1, h2, h3⟩ := go_viol ps (l ++ [q]) ⟨p, hp2, hv⟩ fun p hp hl => by
          rcases List.mem_append.mp hl with hl | hl
          · exact h p (List.mem_cons_of_mem _ hp) hl
          · rw [List.mem_singleton.mp hl]
            simpa using e2
        exact ⟨r, List.mem_cons_of_mem _ h1, h2, h3⟩
theorem any_bad (M : Mat) (c : Nat) (gs : List Nat) : gs.any (bad M c) = (gs.flatMap (prF c)).any (viol M c) := by
  induction gs with
  | nil => rfl
  | cons g gs ih =>
    rw [List.any_cons, List.flatMap_cons, List.any_append, ih]
    congr 1
    unfold bad prF
    by_cases e : g = c
    · rw [if_pos e, decide_eq_true e] <;> rfl
    · rw [if_neg e, decide_eq_false e]
      unfold viol
      simp [e]
theorem pr_mem {n c : Nat} {p : Nat × Nat} (h : p ∈ (List.range n).flatMap (prF c)) : (p.1 = c ∧ p.2 ≠ c ∧ p.2 < n) ∨ (p.2 = c ∧ p.1 ≠ c ∧ p.1 < n) := by
  obtain ⟨g, hg, hp⟩ := List.mem_flatMap.mp h
  have hg := List.mem_range.mp hg
  unfold prF at hp
  split at hp
  · cases hp
  · rename_i e
    simp only [List.mem_cons, List.not_mem_nil, or_false] at hp
    rcases hp with rfl | rfl
    · exact .inl ⟨rfl, e, hg⟩
    · exact .inr ⟨rfl, e, hg⟩
theorem bent_same {n : Nat} {M B : Mat} (h : ∀ p ∈ toldL n M, B p.1 p.2 = M p.1 p.2) : toldL n B = toldL n M ∧ starOf n B = starOf n M := by
  have e1 : looked n B = looked n M := by
    rw [looked_eq, looked_eq]
    exact lk_same _ fun p hp => h p (go_sub _ _ _ _ _ hp)
  refine ⟨?_, ?_⟩
  · unfold toldL
    rw [e1]
    exact go_same _ _ h
  · unfold starOf
    rw [e1, any_bad, any_bad]
    have e2 : ((List.range n).flatMap (prF (looked n M).1)).any (viol B (looked n M).1) = ((List.range n).flatMap (prF (looked n M).1)).any (viol M (looked n M).1) := by
      have hp1 : ∀ p ∈ (List.range n).flatMap (prF (looked n M).1), p ∈ (looked n M).2 → viol M (looked n M).1 p = false := fun p hp hl => by
        obtain ⟨_, _, h3, h4⟩ := (lk_inv (M := M) (n - 1)).2 p hl
        rcases pr_mem hp with ⟨a, b, _⟩ | ⟨a, b, _⟩
        · unfold viol
          rw [h3 a, decide_eq_true a] <;> rfl
        · unfold viol
          rw [h4 a, decide_eq_false b] <;> rfl
      unfold toldL at h
      cases q : ((List.range n).flatMap (prF (looked n M).1)).any (viol M (looked n M).1) with
      | false =>
        rw [List.any_eq_false] at q
        rw [List.any_eq_false]
        intro p hp
        rw [viol_same (h p (go_all _ _ (fun p hp => by simpa using q p hp) p hp))]
        exact q p hp
      | true =>
        obtain ⟨p, hp, hv⟩ := List.any_eq_true.mp q
        obtain ⟨r, h1, h2, h3⟩ := go_viol _ (looked n M).2 ⟨p, hp, hv⟩ hp1
        rw [List.any_eq_true]
        exact ⟨r, h1, by rw [viol_same (h r h3)]; exact h2⟩
    rw [e2]
/-! ### the star -/
theorem lk_star {n : Nat} {M : Mat} : ∀ m : Nat, m < n → ∀ a ≤ m, (∀ b < n, M a b = false) → (∀ b < n, b ≠ a → M b a = true) → a = (lk M m).1
  | 0, _, a, ha, _, _ => by
    have : a = 0 := by omega
    subst this
    rfl
  | m + 1, hm, a, ha, h1, h2 => by
    have ih := lk_star (n := n) (M := M) m (by omega) a
    have hle := (lk_inv (M := M) m).1
    rw [lk_succ]
    generalize lk M m = s at ih hle
    unfold look
    by_cases e : M s.1 (1 + m) = true
    · rw [if_pos e]
      by_cases ea : a = m + 1
      · dsimp only; omega
      · have := ih (by omega) h1 h2
        rw [← this, h1 (1 + m) (by omega)] at e
        cases e
    · rw [if_neg e]
      by_cases ea : a = m + 1
      · exact absurd (by
          have := h2 s.1 (by omega) (by omega)
          rw [ea, show m + 1 = 1 + m by omega] at this
          exact this) e
      · exact ih (by omega) h1 h2
theorem isStar_iff {n : Nat} {M : Mat} {a : Nat} : isStar n M a = true ↔ (∀ b < n, M a b = false) ∧ (∀ b < n, b ≠ a → M b a = true) := by
  unfold isStar
  simp only [Bool.and_eq_true, Bool.not_eq_true', decide_eq_true_eq, List.any_eq_false, List.filter_eq_nil_iff, List.mem_range, decide_eq_false_iff_not, not_and, Bool.not_eq_true, Bool.not_eq_false']
  constructor
  · rintro ⟨h1, h2⟩
    exact ⟨fun b hb => by simpa using h1 b hb, fun b hb e => by simpa using h2 b hb e⟩
  · rintro ⟨h1, h2⟩
    exact ⟨fun b hb => by simpa using h1 b hb, fun b hb e => by simpa using h2 b hb e⟩
theorem lawStar_eq {n : Nat} {M : Mat} (h0 : 0 < n) (hd : ∀ a < n, M a a = false) : lawStar n M = starOf n M := by
  have hc := looked_lt (M := M) h0
  have key : ∀ a < n, isStar n M a = true → a = (looked n M).1 := fun a ha hs => by
    obtain ⟨h1, h2⟩ := isStar_iff.mp hs
    exact lk_star (n := n) (M := M) (n - 1) (by omega) a (by omega) h1 h2
  have hb : (List.range n).any (bad M (looked n M).1) = !isStar n M (looked n M).1 := by
    cases q : isStar n M (looked n M).1 with
    | true =>
      obtain ⟨h1, h2⟩ := isStar_iff.mp q
      rw [Bool.not_true, List.any_eq_false]
      intro b hb
      have hb := List.mem_range.mp hb
      unfold bad
      by_cases e : b = (looked n M).1
      · rw [decide_eq_true e]; simp
      · rw [h1 b hb, h2 b hb e]; simp
    | false =>
      cases q2 : (List.range n).any (bad M (looked n M).1) with
      | true => rfl
      | false =>
        rw [List.any_eq_false] at q2
        have : isStar n M (looked n M).1 = true := isStar_iff.mpr ⟨fun b hb => by
          by_cases e : b = (looked n M).1
          · rw [e]; exact hd _ hc
          · have := q2 b (List.mem_range.mpr hb)
            unfold bad at this
            rw [decide_eq_false e] at this
            cases w : M (looked n M).1 b with
            | false => rfl
            | true => rw [w] at this; simp at this, fun b hb e => by
            have := q2 b (List.mem_range.mpr hb)
            unfold bad at this
            rw [decide_eq_false e] at this
            cases w : M b (looked n M).1 with
            | true => rfl
            | false => rw [w] at this; simp at this⟩
        rw [this] at q
        cases q
  unfold lawStar starOf
  rw [hb]
  cases q : (List.range n).filter (isStar n M) with
  | nil =>
    have : isStar n M (looked n M).1 = false := by
      cases w : isStar n M (looked n M).1 with
      | false => rfl
      | true =>
        have : (looked n M).1 ∈ (List.range n).filter (isStar n M) := List.mem_filter.mpr ⟨List.mem_range.mpr hc, w⟩
        rw [q] at this
        cases this
    rw [this] <;> rfl
  | cons a r =>
    have ha : a ∈ (List.range n).filter (isStar n M) := by rw [q]; exact List.mem_cons_self
    obtain ⟨h1, h2⟩ := List.mem_filter.mp ha
    have e := key a (List.mem_range.mp h1) h2
    rw [← e, h2] <;> rfl
end Kk91
namespace Kk91
open PySem L2 PF
def isB : D → Bool
  | .bool _ => true
  | _ => false
def knownRow (m : Nat) : D → Bool
  | .tuple ds => decide (ds.length = m) && ds.all isB
  | _ => false
theorem kr_tup (m : Nat) (ds : List D) : knownRow m (.tuple ds) = (decide (ds.length = m) && ds.all isB) := rfl
theorem andV_f {f g : EF} {env env1 : PF.Env} (h1 : f env = R.ok (PF.bool false, env1)) : andV f g env = R.ok (PF.bool false, env1) := by
  unfold andV
  rw [valB_bool h1] <;> rfl
theorem andV_t {f g : EF} {env env1 : PF.Env} (h1 : f env = R.ok (PF.bool true, env1)) : andV f g env = g env1 := by
  unfold andV
  rw [valB_bool h1] <;> rfl
theorem isi_b (d : D) : gIsi "bool" (.fz d) = some (PF.bool (isB d)) := by
  cases d <;> rfl
theorem den_row (m : Nat) (v : D) : den_is_known_row [.int (m : Nat), v] = R.ok (PF.bool (knownRow m v)) := by
  show fin1 (F_is_known_row [some (int (m : Nat)), some (.fz v), none]) = _
  unfold F_is_known_row
  have no : ∀ w : D, (∀ ds, w ≠ .tuple ds) → fin1 (retS (andV (opE (on1 (gIsi "tuple")) [.s 1]) (andV (opE (on2 (gEq)) [.e (opE (on1 gLen) [.s 1]), .s 0]) (gaE false (itE (varZ 1)) [2] (nameT 2) (yesB) (opE (on1 (gIsi "bool")) [.s 2])))) [some (int (m : Nat)), some (.fz w), none]) = R.ok (PF.bool false) := fun w hw => by
    have h : gIsi "tuple" (.fz w) = some (PF.bool false) := by
      cases w with
      | tuple ds => exact absurd rfl (hw ds)
      | _ => rfl
    rw [retS_of (andV_f (opE_of (l := [.s 1]) rfl rfl h))] <;> rfl
  cases v with
  | tuple ds =>
    have h1 : opE (on1 (gIsi "tuple")) [.s 1] [some (int (m : Nat)), some (tup ds), none] = R.ok (PF.bool true, [some (int (m : Nat)), some (tup ds), none]) := opE_of (l := [.s 1]) rfl rfl rfl
    have h2 : opE (on2 (gEq)) [.e (opE (on1 gLen) [.s 1]), .s 0] [some (int (m : Nat)), some (tup ds), none] = R.ok (PF.bool (decide (ds.length = m)), [some (int (m : Nat)), some (tup ds), none]) := opE_of (evA_es (opE_of (l := [.s 1]) rfl rfl (gLen_tup ds)) ⟨_, rfl⟩) rfl (gEq_nat ds.length m)
    by_cases e : ds.length = m
    · rw [decide_eq_true e] at h2
      have h3 : gaE false (itE (varZ 1)) [2] (nameT 2) (yesB) (opE (on1 (gIsi "bool")) [.s 2]) [some (int (m : Nat)), some (tup ds), none] = R.ok (PF.bool (ds.all isB), [some (int (m : Nat)), some (tup ds), none]) := by
        have z := gaL_pure (stop := false) (vs := [2]) (t := nameT 2) (f := opE (on1 (gIsi "bool")) [.s 2]) (id : D → D) isB (env := [some (int (m : Nat)), some (tup ds), none]) ds fun x _ => ⟨[some (int (m : Nat)), some (tup ds), some (.fz x)], _, rfl, opE_of (l := [.s 2]) rfl rfl (isi_b x), rfl⟩
        rw [List.map_id] at z
        exact gaE_of (ds := ds) (env1 := [some (int (m : Nat)), some (tup ds), none]) rfl z
      rw [retS_of ((andV_t h1).trans ((andV_t h2).trans h3))]
      rw [kr_tup, decide_eq_true e] <;> rfl
    · rw [decide_eq_false e] at h2
      rw [retS_of ((andV_t h1).trans (andV_f h2))]
      rw [kr_tup, decide_eq_false e] <;> rfl
  | _ => exact no _ fun ds h => by cases h
/-- what no row is -/
theorem know_no {v : D} (h : ∀ ds, v ≠ .tuple ds) : den_is_knowing [v] = R.ok (PF.bool false) := by
  show fin1 (F_is_knowing [some (.fz v), none, none]) = _
  unfold F_is_knowing
  have h1 : gIsi "tuple" (.fz v) = some (PF.bool false) := by
    cases v with
    | tuple ds => exact absurd rfl (h ds)
    | _ => rfl
  rw [seqS_rt (c := PF.bool false) (env' := [some (.fz v), none, none])]
  · rfl
  · rw [ifS_t (env' := [some (.fz v), none, none])]
    · rfl
    · unfold orB
      rw [notB_of (valB_bool (opE_of (l := [.s 0]) rfl rfl h1))] <;> rfl
theorem know_chain {rows : List D} : chE (on2 (gI fun i j => decide (i ≤ j))) (on2 (gI fun i j => decide (i ≤ j))) (.e (cst (.int 1))) (.e (opE (on1 gLen) [.s 0])) (.e (cst (.int 9))) [some (tup rows), none, none] = R.ok (PF.bool (decide (1 ≤ rows.length ∧ rows.length ≤ 9)), [some (tup rows), none, none]) := by
  have e0 : evA [.e (cst (.int 1)), .e (opE (on1 gLen) [.s 0])] [some (tup rows), none, none] = R.ok ([.v (int 1), .v (int (rows.length : Nat))], [some (tup rows), none, none]) := evA_ee rfl (opE_of (l := [.s 0]) rfl rfl (gLen_tup rows))
  unfold chE
  rw [e0, bnd_ok]
  by_cases h1 : 1 ≤ rows.length
  · have q1 : gI (fun i j => decide (i ≤ j)) (int 1) (int (rows.length : Nat)) = some (PF.bool true) := by
      rw [gI_int, decide_eq_true (by omega)]
    have q2 : gI (fun i j => decide (i ≤ j)) (int (rows.length : Nat)) (int 9) = some (PF.bool (decide (rows.length ≤ 9))) := by
      rw [gI_int]
      by_cases h2 : rows.length ≤ 9
      · rw [decide_eq_true h2, decide_eq_true (by omega)]
      · rw [decide_eq_false h2, decide_eq_false (by omega)]
    simp only [cellsOf, PF.Arg.cell, on2, q1, q2, evA, cst, bnd_ok, h1, true_and, if_true, ite_true]
  · have q1 : gI (fun i j => decide (i ≤ j)) (int 1) (int (rows.length : Nat)) = some (PF.bool false) := by
      rw [gI_int, decide_eq_false (by omega)]
    have e : decide (1 ≤ rows.length ∧ rows.length ≤ 9) = false := decide_eq_false (by omega)
    simp only [cellsOf, PF.Arg.cell, on2, q1, evA, cst, bnd_ok, e]
theorem know_start {rows : List D} : (orB (notB (valB (opE (on1 (gIsi "tuple")) [.s 0]))) (notB (valB (chE (on2 (gI fun i j => decide (i ≤ j))) (on2 (gI fun i j => decide (i ≤ j))) (.e (cst (.int 1))) (.e (opE (on1 gLen) [.s 0])) (.e (cst (.int 9))))))) [some (tup rows), none, none] = R.ok (!decide (1 ≤ rows.length ∧ rows.length ≤ 9), [some (tup rows), none, none]) := by
  have h := orB_of (notB_of (valB_bool (opE_of (g := on1 (gIsi "tuple")) (as := [.s 0]) (l := [.s 0]) (env := [some (tup rows), none, none]) (env' := [some (tup rows), none, none]) rfl rfl rfl))) (notB_of (valB_bool (know_chain (rows := rows)))) fun z => by cases z
  exact h
theorem know_len {rows : List D} (h : ¬ (1 ≤ rows.length ∧ rows.length ≤ 9)) : den_is_knowing [.tuple rows] = R.ok (PF.bool false) := by
  show fin1 (F_is_knowing [some (tup rows), none, none]) = _
  unfold F_is_knowing
  rw [seqS_rt (c := PF.bool false) (env' := [some (tup rows), none, none])]
  · rfl
  · rw [ifS_t (env' := [some (tup rows), none, none])]
    · rfl
    · rw [know_start, decide_eq_false h] <;> rfl
theorem know_all {rows : List D} (h : 1 ≤ rows.length ∧ rows.length ≤ 9) : gaE false (itE (varZ 0)) [1] (nameT 1) (yesB) (callE (den_is_known_row) [.e (opE (on1 gLen) [.s 0]), .s 1]) [some (tup rows), none, none] = R.ok (PF.bool (rows.all (knownRow rows.length)), [some (tup rows), none, none]) := by
  have z := gaL_pure (stop := false) (vs := [1]) (t := nameT 1) (f := callE (den_is_known_row) [.e (opE (on1 gLen) [.s 0]), .s 1]) (id : D → D) (knownRow rows.length) (env := [some (tup rows), none, none]) rows fun x _ => ⟨[some (tup rows), some (.fz x), none], [some (tup rows), some (.fz x), none], rfl, ?_, rfl⟩
  · rw [List.map_id] at z
    exact gaE_of (ds := rows) (env1 := [some (tup rows), none, none]) rfl z
  · exact callE_of (evA_es (opE_of (l := [.s 0]) rfl rfl (gLen_tup rows)) ⟨_, rfl⟩) rfl (den_row rows.length x)
theorem know_row {rows : List D} (h : 1 ≤ rows.length ∧ rows.length ≤ 9) (hr : rows.all (knownRow rows.length) = false) : den_is_knowing [.tuple rows] = R.ok (PF.bool false) := by
  show fin1 (F_is_knowing [some (tup rows), none, none]) = _
  unfold F_is_knowing
  have e0 := know_start (rows := rows)
  rw [decide_eq_true h] at e0
  have e1 := know_all h
  rw [hr] at e1
  rw [seqS_nx (env' := [some (tup rows), none, none]) ((ifS_f e0).trans rfl)]
  rw [seqS_rt (c := PF.bool false) (env' := [some (tup rows), none, none])]
  · rfl
  · rw [ifS_t (env' := [some (tup rows), none, none])]
    · rfl
    · exact notB_of (valB_bool e1)
theorem row_known (n : Nat) (M : Mat) (a : Nat) : knownRow n (rowD n M a) = true := by
  unfold rowD
  rw [kr_tup, List.length_map, List.length_range, decide_eq_true rfl, Bool.true_and, List.all_map, List.all_eq_true]
  intro b _
  rfl
theorem know_mat {n : Nat} {M : Mat} (h0 : 0 < n) (h9 : n ≤ 9) : den_is_knowing [matD n M] = R.ok (PF.bool (!(List.range n).any fun i => M i i)) := by
  have hl : ((List.range n).map (rowD n M)).length = n := by simp
  have h : 1 ≤ ((List.range n).map (rowD n M)).length ∧ ((List.range n).map (rowD n M)).length ≤ 9 := by omega
  show fin1 (F_is_knowing [some (tup ((List.range n).map (rowD n M))), none, none]) = _
  unfold F_is_knowing
  have e0 := know_start (rows := (List.range n).map (rowD n M))
  rw [decide_eq_true h] at e0
  have e1 := know_all h
  rw [hl, List.all_map, show ((List.range n).all (knownRow n ∘ rowD n M)) = true from List.all_eq_true.mpr fun a _ => row_known n M a] at e1
  rw [seqS_nx (env' := [some (tup ((List.range n).map (rowD n M))), none, none]) ((ifS_f e0).trans rfl)]
  rw [seqS_nx (env' := [some (tup ((List.range n).map (rowD n M))), none, none]) ((ifS_f (notB_of (valB_bool e1))).trans rfl)]
  have hit : itZ enG [varZ 0] [some (tup ((List.range n).map (rowD n M))), none, none] = R.ok ((List.range n).map fun i => .tuple [.int (i : Nat), rowD n M i], [some (tup ((List.range n).map (rowD n M))), none, none]) := by
    rw [← enumD_range] <;> rfl
  have z := gaL_pure (stop := true) (vs := [2, 1]) (t := tupT [nameT 2, nameT 1]) (f := opE (on2 gIx) [.s 1, .s 2]) (fun i : Nat => (.tuple [.int (i : Nat), rowD n M i] : D)) (fun i => M i i) (env := [some (tup ((List.range n).map (rowD n M))), none, none]) (List.range n) fun x hx => ⟨[some (tup ((List.range n).map (rowD n M))), some (.fz (rowD n M x)), some (int (x : Nat))], [some (tup ((List.range n).map (rowD n M))), some (.fz (rowD n M x)), some (int (x : Nat))], rfl, opE_of (l := [.s 1, .s 2]) rfl rfl (ix_at (List.mem_range.mp hx)), rfl⟩
  have e2 := gaE_of hit z
  have e3 : notV (gaE true (itZ enG [varZ 0]) [2, 1] (tupT [nameT 2, nameT 1]) (yesB) (opE (on2 gIx) [.s 1, .s 2])) [some (tup ((List.range n).map (rowD n M))), none, none] = R.ok (PF.bool (!(List.range n).any fun i => M i i), [some (tup ((List.range n).map (rowD n M))), none, none]) := by
    unfold notV
    rw [valB_bool e2] <;> rfl
  rw [retS_of e3] <;> rfl
end Kk91
namespace Kk91
open PySem L2 PF
/-- None, numbers, tuples and lists of such -/
def Pl : Nat → D → Prop
  | 0, d => d = .none ∨ ∃ i, d = .int i
  | k + 1, d => Pl k d ∨ ∃ ds : List D, (d = .tuple ds ∨ d = .list ds) ∧ ds.length < 1000000 ∧ ∀ x ∈ ds, Pl k x
theorem ifS_skip {b : BF} {f : SF} {env env' : PF.Env} (h : b env = R.ok (false, env')) : ifS b f passS env = R.ok (.nx, env') := (ifS_f h).trans rfl
theorem same_0 {self : DenN} {d : D} (h : d = .none ∨ ∃ i, d = .int i) : denN (F__law_same self) 3 [d, d] = R.ok (PF.bool true) := by
  rcases h with rfl | ⟨i, rfl⟩
  · rfl
  · show fin1 (F__law_same self [some (int i), some (int i), none]) = _
    unfold F__law_same
    rw [seqS_nx (env' := [some (int i), some (int i), none]) (by rfl), seqS_nx (env' := [some (int i), some (int i), none]) (by rfl), seqS_nx (env' := [some (int i), some (int i), none]) (by rfl), seqS_nx (env' := [some (int i), some (int i), none]) (by rfl)]
    have e : gEq (int i) (int i) = some (PF.bool true) := by
      rw [gEq_int, decide_eq_true rfl]
    rw [retS_of (opE_of (l := [.s 0, .s 1]) rfl rfl e)] <;> rfl
/-- a tuple or a list -/
def sq (t : Bool) (ds : List D) : D := if t then .tuple ds else .list ds
theorem same_sq {self : DenN} {t : Bool} {ds : List D} (hl : ds.length < 1000000) (h : ∀ x ∈ ds, self [x, x] = R.ok (PF.bool true)) : denN (F__law_same self) 3 [sq t ds, sq t ds] = R.ok (PF.bool true) := by
  show fin1 (F__law_same self [some (.fz (sq t ds)), some (.fz (sq t ds)), none]) = _
  unfold F__law_same
  have len : gLen (.fz (sq t ds)) = some (int (ds.length : Nat)) := by cases t <;> rfl
  have ix : ∀ i x, ds[i]? = some x → gIx (.fz (sq t ds)) (int (i : Nat)) = some (.fz x) := fun i x e => by
    cases t
    · exact gIx_list e
    · exact gIx_tup e
  rw [seqS_nx (env' := [some (.fz (sq t ds)), some (.fz (sq t ds)), none]) (by cases t <;> rfl)]
  rw [seqS_rt (c := PF.bool true) (env' := ?env)]
  case env => exact if ds.length = 0 then [some (.fz (sq t ds)), some (.fz (sq t ds)), none] else [some (.fz (sq t ds)), some (.fz (sq t ds)), some (int ((ds.length - 1 : Nat) : Int))]
  · rfl
  · rw [ifS_t (env' := [some (.fz (sq t ds)), some (.fz (sq t ds)), none]) (by cases t <;> rfl)]
    rw [seqS_nx (env' := [some (.fz (sq t ds)), some (.fz (sq t ds)), none]) (by cases t <;> rfl)]
    have e1 : opE (on2 gNe) [.e (opE (on1 gLen) [.s 0]), .e (opE (on1 gLen) [.s 1])] [some (.fz (sq t ds)), some (.fz (sq t ds)), none] = R.ok (PF.bool false, [some (.fz (sq t ds)), some (.fz (sq t ds)), none]) := by
      have z := opE_of (g := on2 gNe) (evA_ee (opE_of (g := on1 gLen) (as := [.s 0]) (l := [.s 0]) (env := [some (.fz (sq t ds)), some (.fz (sq t ds)), none]) rfl rfl len) (opE_of (g := on1 gLen) (as := [.s 1]) (l := [.s 1]) rfl rfl len)) rfl (gNe_nat ds.length ds.length)
      rw [decide_eq_true rfl] at z
      exact z
    rw [seqS_nx (ifS_skip (valB_bool e1))]
    have hit : itA (one1 rng1) [.e (opE (on1 gLen) [.s 1])] [some (.fz (sq t ds)), some (.fz (sq t ds)), none] = R.ok ((List.range ds.length).map fun k => (.int (k : Nat) : D), [some (.fz (sq t ds)), some (.fz (sq t ds)), none]) := it_up0 ⟨_, evA_e (opE_of (l := [.s 1]) rfl rfl len), rfl⟩ hl
    have z := forL_sim (t := nameT 2) (b := B__law_same_1 self) (fun k : Nat => (.int (k : Nat) : D)) (fun (s : Unit) (_ : Nat) => .ok s) (fun j _ env => env = [some (.fz (sq t ds)), some (.fz (sq t ds)), if j = 0 then none else some (int ((j - 1 : Nat) : Int))]) (List.range ds.length) 0 ()
      [some (.fz (sq t ds)), some (.fz (sq t ds)), none] rfl fun j x s env hj he => by
        subst he
        have hx : x = j ∧ j < ds.length := by
          have h2 := List.getElem?_eq_some_iff.mp hj
          obtain ⟨h3, h4⟩ := h2
          rw [List.length_range] at h3
          rw [List.getElem_range] at h4
          exact ⟨h4.symm, h3⟩
        obtain ⟨rfl, hx⟩ := hx
        have hd : ds[x]? = some ds[x] := by simp [hx]
        refine ⟨[some (.fz (sq t ds)), some (.fz (sq t ds)), some (int (x : Nat))], .nx, [some (.fz (sq t ds)), some (.fz (sq t ds)), some (int (x : Nat))], rfl, ?_, .inl rfl, ?_⟩
        · unfold B__law_same_1
          have q := ix x ds[x] hd
          have e2 : callE self [.e (opE (on2 gIx) [.s 0, .s 2]), .e (opE (on2 gIx) [.s 1, .s 2])] [some (.fz (sq t ds)), some (.fz (sq t ds)), some (int (x : Nat))] = R.ok (PF.bool true, [some (.fz (sq t ds)), some (.fz (sq t ds)), some (int (x : Nat))]) := callE_of (evA_ee (opE_of (l := [.s 0, .s 2]) rfl rfl q) (opE_of (l := [.s 1, .s 2]) rfl rfl q)) rfl (h _ (List.getElem_mem hx))
          exact ifS_skip (notB_of (valB_bool e2))
        · rw [if_neg (by omega), show 0 + x + 1 - 1 = x by omega]
    rw [runE_ok] at z
    obtain ⟨env', h1, h2⟩ := z
    rw [seqS_nx ((forS_of hit).trans h1)]
    subst h2
    rw [List.length_range, Nat.zero_add]
    by_cases e : ds.length = 0
    · rw [if_pos e, if_pos e] <;> rfl
    · rw [if_neg e, if_neg e] <;> rfl
theorem same_refl : ∀ (k m : Nat) (d : D), Pl k d → den__law_same (m + k + 1) [d, d] = R.ok (PF.bool true)
  | 0, m, d, h => same_0 h
  | k + 1, m, d, h => by
    rcases h with h | ⟨ds, hd, hl, h⟩
    · have z := same_refl k (m + 1) d h
      rw [show m + 1 + k + 1 = m + (k + 1) + 1 by omega] at z
      exact z
    · have z := fun t => same_sq (self := den__law_same (m + k + 1)) (t := t) hl fun x hx => same_refl k m x (h x hx)
      rcases hd with rfl | rfl
      · exact z true
      · exact z false
end Kk91
namespace Kk91
open PySem L2 PF
theorem take_ex (l : List Int) {b : Nat} (hb : 0 < b) : ∃ (j : Nat) (l' : List Int), j < b ∧ den__law_take (intC l) [.int (b : Nat)] = R.ok (int (j : Nat), intC l') := by
  have h := den_take l (b := (b : Int)) (by omega)
  have hj : 0 ≤ (take1 l b).1 ∧ (take1 l b).1 < b := by
    unfold take1
    cases l.getLast? with
    | none => exact ⟨Int.le_refl _, by show (0 : Int) < b; omega⟩
    | some x => exact ⟨Int.emod_nonneg _ (by omega), Int.emod_lt_of_pos _ (by omega)⟩
  refine ⟨(take1 l b).1.toNat, (take1 l b).2, by omega, ?_⟩
  rw [Int.toNat_of_nonneg hj.1]
  exact h
theorem take_call {l : List Int} {b : Nat} (hb : 0 < b) {as : List AF} {args : List PF.Arg} {env : PF.Env} (h0 : env[1]? = some (some (intC l))) (h1 : evA as env = R.ok (args, env)) (h2 : argsD env args = some ([.int (b : Nat)], false)) :
    ∃ (j : Nat) (l' : List Int), j < b ∧ callI den__law_take 1 as env = R.ok (int (j : Nat), env.set 1 (some (intC l'))) := by
  obtain ⟨j, l', h3, h4⟩ := take_ex l hb
  refine ⟨j, l', h3, callI_of (a0 := .s 1) (l := args) ?_ h0 h2 h4⟩
  simp only [evA, h0, h1, bnd_ok]
/-- a choice of parts -/
theorem choose_r {β : Type} (f : β → Cell) (P : Nat → β → Prop) (b0 : β) : ∀ (m k : Nat) (cs : List Cell), All2 (fun a v => ∃ x, v = f x ∧ P a x) (List.range' k m) cs → ∃ g : Nat → β, cs = (List.range' k m).map (fun a => f (g a)) ∧ ∀ a, k ≤ a → a < k + m → P a (g a)
  | 0, k, cs, h => by
    cases h
    exact ⟨fun _ => b0, rfl, fun a h1 h2 => by omega⟩
  | m + 1, k, cs, h => by
    rw [List.range'_succ] at h
    cases h with
    | cons h1 h2 =>
      obtain ⟨x, rfl, hx⟩ := h1
      obtain ⟨g, rfl, hg⟩ := choose_r f P b0 m (k + 1) _ h2
      refine ⟨fun a => if a = k then x else g a, ?_, fun a h3 h4 => ?_⟩
      · rw [List.range'_succ, List.map_cons]
        dsimp only
        rw [if_pos rfl]
        congr 1
        refine List.map_congr_left fun a ha => ?_
        have := List.mem_range'_1.mp ha
        rw [if_neg (by omega)]
      · dsimp only
        by_cases e : a = k
        · rw [if_pos e, e]; exact hx
        · rw [if_neg e]
          exact hg a (by omega) (by omega)
theorem choose0 {β : Type} (f : β → Cell) (P : Nat → β → Prop) (b0 : β) {n : Nat} {cs : List Cell} (h : All2 (fun a v => ∃ x, v = f x ∧ P a x) (List.range n) cs) : ∃ g : Nat → β, cs = (List.range n).map (fun a => f (g a)) ∧ ∀ a < n, P a (g a) := by
  rw [List.range_eq_range'] at h ⊢
  obtain ⟨g, h1, h2⟩ := choose_r f P b0 n 0 cs h
  exact ⟨g, h1, fun a ha => h2 a (by omega) (by omega)⟩
/-! ### the rows while they are made -/
def rowC (n : Nat) (r : Nat → Bool) : Cell := .ol ((List.range n).map fun b => PF.bool (r b))
def rowsC (n : Nat) (M : Mat) : Cell := .ol ((List.range n).map fun a => rowC n (M a))
/-- the law's names: script, draws, rows, knowing, turn, row, odd, n, share, star, a, due, bent, b, one -/
abbrev E1 (S : Cell) (l : List Int) (n sh : Nat) (o2 o9 o10 o13 : Option Cell) : PF.Env := [some S, some (intC l), o2, none, none, none, none, some (int (n : Nat)), some (int (sh : Nat)), o9, o10, none, none, o13, none]
theorem set_range {β : Type} (f : Nat → β) (n j : Nat) (x : β) : ((List.range n).map f).set j x = (List.range n).map fun a => if a = j then x else f a := by
  refine List.ext_getElem (by simp) fun i h1 h2 => ?_
  rw [List.getElem_set]
  simp only [List.getElem_map, List.getElem_range]
  by_cases e : j = i
  · subst e; simp
  · rw [if_neg e, if_neg (fun z => e z.symm)]
theorem gI_gt0 (j : Nat) : gI (fun i j => decide (j < i)) (int (j : Nat)) (int 0) = some (PF.bool (decide (0 < j))) := by
  rw [gI_int]
  by_cases e : 0 < j
  · rw [decide_eq_true e, decide_eq_true (by omega)]
  · rw [decide_eq_false e, decide_eq_false (by omega)]
theorem cell_row {S : Cell} {l : List Int} {n sh a b : Nat} : ∃ (x : Bool) (l' : List Int), (x = true → a ≠ b) ∧
    andV (opE (on2 (gNe)) [.s 10, .s 13]) (opE (on2 (gI fun i j => decide (j < i))) [.e (callI (den__law_take) 1 [.e (opE (on2 gAdd) [.s 8, .e (cst (.int 1))])]), .e (cst (.int 0))]) (E1 S l n sh none none (some (int (a : Nat))) (some (int (b : Nat)))) = R.ok (PF.bool x, E1 S l' n sh none none (some (int (a : Nat))) (some (int (b : Nat)))) := by
  have h1 : opE (on2 (gNe)) [.s 10, .s 13] (E1 S l n sh none none (some (int (a : Nat))) (some (int (b : Nat)))) = R.ok (PF.bool (!decide (a = b)), E1 S l n sh none none (some (int (a : Nat))) (some (int (b : Nat)))) := opE_of rfl rfl (gNe_nat a b)
  by_cases e : a = b
  · rw [decide_eq_true e] at h1
    exact ⟨false, l, fun z => (by cases z), andV_f h1⟩
  · rw [decide_eq_false e] at h1
    have q : gAdd (int (sh : Nat)) (int 1) = some (int ((sh + 1 : Nat) : Int)) := by
      rw [gAdd_int, Int.natCast_add] <;> rfl
    obtain ⟨j, l', _, h2⟩ := take_call (l := l) (b := sh + 1) (by omega) (as := [.e (opE (on2 gAdd) [.s 8, .e (cst (.int 1))])]) (args := [.v (int ((sh + 1 : Nat) : Int))]) (env := E1 S l n sh none none (some (int (a : Nat))) (some (int (b : Nat)))) rfl (evA_e (opE_of (l := [.s 8, .v (int 1)]) rfl rfl q)) rfl
    exact ⟨decide (0 < j), l', fun _ => e, (andV_t h1).trans (opE_of (evA_ee h2 (d := int 0) (env2 := E1 S l' n sh none none (some (int (a : Nat))) (some (int (b : Nat)))) rfl) rfl (gI_gt0 j))⟩
theorem make_rows {S : Cell} {l : List Int} {n sh : Nat} (hn : n ≤ 9) : ∃ (M : Mat) (l' : List Int), (∀ a < n, M a a = false) ∧
    lcE (itA (one1 rng1) [.s 7]) [10] (nameT 10) (yesB) (lcE (itA (one1 rng1) [.s 7]) [13] (nameT 13) (yesB) (andV (opE (on2 (gNe)) [.s 10, .s 13]) (opE (on2 (gI fun i j => decide (j < i))) [.e (callI (den__law_take) 1 [.e (opE (on2 gAdd) [.s 8, .e (cst (.int 1))])]), .e (cst (.int 0))]))) (E1 S l n sh none none none none) = R.ok (rowsC n M, E1 S l' n sh none none none none) := by
  have hl : (List.range n).length ≤ lim := by rw [List.length_range]; unfold lim; omega
  have inner : ∀ (a : Nat) (l : List Int), ∃ (r : Nat → Bool) (l' : List Int), (∀ b < n, r b = true → a ≠ b) ∧ lcE (itA (one1 rng1) [.s 7]) [13] (nameT 13) (yesB) (andV (opE (on2 (gNe)) [.s 10, .s 13]) (opE (on2 (gI fun i j => decide (j < i))) [.e (callI (den__law_take) 1 [.e (opE (on2 gAdd) [.s 8, .e (cst (.int 1))])]), .e (cst (.int 0))])) (E1 S l n sh none none (some (int (a : Nat))) none) = R.ok (rowC n r, E1 S l' n sh none none (some (int (a : Nat))) none) := fun a l => by
    obtain ⟨cs, env', h1, h2, l', h3⟩ := lcL_all (vs := [13]) (t := nameT 13) (f := andV (opE (on2 (gNe)) [.s 10, .s 13]) (opE (on2 (gI fun i j => decide (j < i))) [.e (callI (den__law_take) 1 [.e (opE (on2 gAdd) [.s 8, .e (cst (.int 1))])]), .e (cst (.int 0))])) (fun k : Nat => (.int (k : Nat) : D)) (fun b v => ∃ x, v = PF.bool x ∧ (x = true → a ≠ b)) (fun env => ∃ l, env = E1 S l n sh none none (some (int (a : Nat))) none) (List.range n) [] (E1 S l n sh none none (some (int (a : Nat))) none) (by simpa using hl) ⟨l, rfl⟩ fun b hb env ⟨l, he⟩ => by
      subst he
      obtain ⟨x, l', hx, h⟩ := cell_row (S := S) (l := l) (n := n) (sh := sh) (a := a) (b := b)
      exact ⟨E1 S l n sh none none (some (int (a : Nat))) (some (int (b : Nat))), PF.bool x, E1 S l' n sh none none (some (int (a : Nat))) (some (int (b : Nat))), rfl, h, ⟨x, rfl, hx⟩, l', rfl⟩
    subst h3
    obtain ⟨r, rfl, hr⟩ := choose0 PF.bool (fun b x => x = true → a ≠ b) false h2
    have z := lcE_of (env := E1 S l n sh none none (some (int (a : Nat))) none) (it_name (n := n) (i := 7) rfl (by omega)) h1
    exact ⟨r, l', hr, z⟩
  obtain ⟨cs, env', h1, h2, l', h3⟩ := lcL_all (vs := [10]) (t := nameT 10) (f := lcE (itA (one1 rng1) [.s 7]) [13] (nameT 13) (yesB) (andV (opE (on2 (gNe)) [.s 10, .s 13]) (opE (on2 (gI fun i j => decide (j < i))) [.e (callI (den__law_take) 1 [.e (opE (on2 gAdd) [.s 8, .e (cst (.int 1))])]), .e (cst (.int 0))]))) (fun k : Nat => (.int (k : Nat) : D)) (fun a v => ∃ r : Nat → Bool, v = rowC n r ∧ ∀ b < n, r b = true → a ≠ b) (fun env => ∃ l, env = E1 S l n sh none none none none) (List.range n) [] (E1 S l n sh none none none none) (by simpa using hl) ⟨l, rfl⟩ fun a ha env ⟨l, he⟩ => by
    subst he
    obtain ⟨r, l', hr, h⟩ := inner a l
    exact ⟨E1 S l n sh none none (some (int (a : Nat))) none, rowC n r, E1 S l' n sh none none (some (int (a : Nat))) none, rfl, h, ⟨r, rfl, hr⟩, l', rfl⟩
  subst h3
  obtain ⟨M, rfl, hM⟩ := choose0 (rowC n) (fun a r => ∀ b < n, r b = true → a ≠ b) (fun _ => false) h2
  have z := lcE_of (env := E1 S l n sh none none none none) (it_name (n := n) (i := 7) rfl (by omega)) h1
  refine ⟨M, l', fun a ha => ?_, z⟩
  cases q : M a a with
  | false => rfl
  | true => exact absurd rfl (hM a ha a ha q)
end Kk91
namespace Kk91
open PySem L2 PF
theorem ixN_nat {n j : Nat} (h : j < n) : ixN n (j : Int) = some j := by
  unfold ixN
  rw [if_pos (by omega), if_pos (by omega), Int.toNat_natCast]
theorem rowC_lst (n : Nat) (r : Nat → Bool) : rowC n r = lst ((List.range n).map fun b => .bool (r b)) := by
  unfold rowC lst
  rw [List.map_map] <;> rfl
theorem gIx_lst {ds : List D} {i : Nat} {d : D} (h : ds[i]? = some d) : gIx (lst ds) (int (i : Nat)) = some (.fz d) := by
  show (match (lst ds).lst? with | some ds => (atI ds (i : Int)).map Cell.fz | none => none) = _
  rw [lst_look]
  show (atI ds (i : Int)).map Cell.fz = _
  rw [PF.atI_nat h] <;> rfl
theorem ix_rowC {n : Nat} {r : Nat → Bool} {b : Nat} (h : b < n) : gIx (rowC n r) (int (b : Nat)) = some (PF.bool (r b)) := by
  rw [rowC_lst]
  exact gIx_lst (by simp [h])
def updM (M : Mat) (a b : Nat) (x : Bool) : Mat := fun a' b' => if a' = a then (if b' = b then x else M a b') else M a' b'
theorem set_rows {n : Nat} {M : Mat} {a b : Nat} {x : Bool} : ((List.range n).map fun a => rowC n (M a)).set a (.ol (((List.range n).map fun b => PF.bool (M a b)).set b (PF.bool x))) = (List.range n).map fun a' => rowC n (updM M a b x a') := by
  rw [set_range, set_range]
  refine List.map_congr_left fun a' _ => ?_
  unfold updM
  by_cases e : a' = a
  · rw [if_pos e]
    unfold rowC
    congr 1
    refine List.map_congr_left fun b' _ => ?_
    dsimp only
    rw [if_pos e]
    split <;> rfl
  · rw [if_neg e]
    unfold rowC
    congr 1
    refine List.map_congr_left fun b' _ => ?_
    dsimp only
    rw [if_neg e]
theorem ixOf_s {j : Nat} {env : PF.Env} {a : Nat} (h : env[j]? = some (some (int (a : Nat)))) : ixOf (.s j) env = R.ok ((a : Int), env) := by
  unfold ixOf
  simp only [evA, h, bnd_ok, cellsOf, PF.Arg.cell]
  rfl
theorem plE_rows {j : Nat} {env : PF.Env} {n a : Nat} {M : Mat} (h2 : env[2]? = some (some (rowsC n M))) (h : env[j]? = some (some (int (a : Nat)))) (ha : a < n) : plE 2 (.s j) env = R.ok (((List.range n).map (fun a => rowC n (M a)), a, rowC n (M a)), env) := by
  unfold plE
  rw [h2]
  show ((ixOf (.s j) env).bnd _) = _
  rw [ixOf_s h, bnd_ok]
  dsimp only
  rw [h2]
  show (match ixN ((List.range n).map fun a => rowC n (M a)).length (a : Int) with | some j => (match ((List.range n).map fun a => rowC n (M a))[j]? with | some c => R.ok (((List.range n).map (fun a => rowC n (M a)), j, c), env) | none => none) | none => none) = _
  rw [List.length_map, List.length_range, ixN_nat ha]
  show (match ((List.range n).map fun a => rowC n (M a))[a]? with | some c => R.ok (((List.range n).map (fun a => rowC n (M a)), a, c), env) | none => none) = _
  rw [show ((List.range n).map fun a => rowC n (M a))[a]? = some (rowC n (M a)) by simp [ha]]
theorem st2_rows {i j : Nat} {env : PF.Env} {n a b : Nat} {M : Mat} {x : Bool} (h2 : env[2]? = some (some (rowsC n M))) (h : env[i]? = some (some (int (a : Nat)))) (h1 : (env.set 2 none)[j]? = some (some (int (b : Nat)))) (ha : a < n) (hb : b < n) :
    st2T 2 (.s i) (.s j) (PF.bool x) env = R.ok (env.set 2 (some (rowsC n (updM M a b x)))) := by
  unfold st2T
  rw [plE_rows h2 h ha, bnd_ok]
  show ((ixOf (.s j) (env.set 2 none)).bnd _) = _
  rw [ixOf_s h1, bnd_ok]
  show (match ixN ((List.range n).map fun b => PF.bool (M a b)).length (b : Int) with | some j2 => R.ok ((env.set 2 none).set 2 (some (.ol (((List.range n).map fun a => rowC n (M a)).set a (.ol (((List.range n).map fun b => PF.bool (M a b)).set j2 (PF.bool x))))))) | none => none) = _
  rw [List.length_map, List.length_range, ixN_nat hb]
  show R.ok ((env.set 2 none).set 2 (some (.ol (((List.range n).map fun a => rowC n (M a)).set a (.ol (((List.range n).map fun b => PF.bool (M a b)).set b (PF.bool x))))))) = _
  rw [List.set_set]
  show R.ok (env.set 2 (some (.ol (((List.range n).map fun a => rowC n (M a)).set a (.ol (((List.range n).map fun b => PF.bool (M a b)).set b (PF.bool x))))))) = _
  rw [set_rows] <;> rfl
theorem st_rows {j : Nat} {env : PF.Env} {n a : Nat} {M : Mat} {r : Nat → Bool} (h2 : env[2]? = some (some (rowsC n M))) (h : env[j]? = some (some (int (a : Nat)))) (ha : a < n) : stT 2 (.s j) (rowC n r) env = R.ok (env.set 2 (some (rowsC n fun a' => if a' = a then r else M a'))) := by
  unfold stT
  rw [h2]
  show ((ixOf (.s j) env).bnd _) = _
  rw [ixOf_s h, bnd_ok]
  dsimp only
  rw [h2]
  show (match ixN ((List.range n).map fun a => rowC n (M a)).length (a : Int) with | some j => R.ok (env.set 2 (some (.ol (((List.range n).map fun a => rowC n (M a)).set j (rowC n r))))) | none => none) = _
  rw [List.length_map, List.length_range, ixN_nat ha]
  show R.ok (env.set 2 (some (.ol (((List.range n).map fun a => rowC n (M a)).set a (rowC n r))))) = _
  rw [set_range]
  unfold rowsC
  congr 6
  funext a'
  dsimp only
  split <;> rfl
theorem mul_row (n : Nat) (hn : n ≤ 9) : gMulA (.ol [PF.bool false]) (int (n : Nat)) = some (rowC n fun _ => false) := by
  show (if [PyData.bool false].length * (n : Int).toNat ≤ lim ∧ -(2 ^ 62) < (n : Int) ∧ (n : Int) < 2 ^ 62 then some (lst (List.replicate (n : Int).toNat [PyData.bool false]).flatten) else none) = _
  rw [if_pos ⟨by rw [Int.toNat_natCast, List.length_singleton]; unfold lim; omega, by omega, by omega⟩, rowC_lst, Int.toNat_natCast]
  congr 2
  have e : ∀ m : Nat, (List.replicate m [PyData.bool false]).flatten = List.replicate m (PyData.bool false) := fun m => by
    induction m with
    | zero => rfl
    | succ m ih => rw [List.replicate_succ, List.flatten_cons, ih] <;> rfl
  rw [e]
  refine List.ext_getElem (by simp) fun i h1 h2 => ?_
  simp
def Fz (o : Option Cell) : Prop := ∀ c, o = some c → ∃ d, c = .fz d
theorem fz_none : Fz none := fun c h => by cases h
theorem fz_some (d : D) : Fz (some (.fz d)) := fun c h => ⟨d, (Option.some.inj h).symm⟩
/-- a star is made, or not -/
theorem make_star {S : Cell} {l : List Int} {n sh : Nat} {M : Mat} (h0 : 0 < n) (hn : n ≤ 9) (hM : ∀ a < n, M a a = false) : ∃ (M' : Mat) (l' : List Int) (o9 o10 : Option Cell), (∀ a < n, M' a a = false) ∧ Fz o10 ∧
    (ifS (valB (opE (on2 (gI fun i j => decide (j < i))) [.e (callI (den__law_take) 1 [.e (cst (.int 3))]), .e (cst (.int 0))])) (seqS (asgS (callI (den__law_take) 1 [.s 7]) (nameT 9)) (seqS (asgS (opE (on2 gMulA) [.e (lstE [cst (.bool false)]), .s 7]) (stT 2 (.s 9))) (forS (itA (one1 rng1) [.s 7]) (nameT 10) B_law_1))) (passS)) (E1 S l n sh (some (rowsC n M)) none none none) = R.ok (.nx, E1 S l' n sh (some (rowsC n M')) o9 o10 none) := by
  obtain ⟨j, l1, _, h1⟩ := take_call (l := l) (b := 3) (by omega) (as := [.e (cst (.int 3))]) (args := [.v (int 3)]) (env := E1 S l n sh (some (rowsC n M)) none none none) rfl rfl rfl
  rw [ifS_b (v := decide (0 < j)) (env' := E1 S l1 n sh (some (rowsC n M)) none none none) (valB_bool (opE_of (evA_ee h1 rfl) rfl (gI_gt0 j)))]
  by_cases hj : 0 < j
  · rw [if_pos (decide_eq_true hj)]
    obtain ⟨st, l2, hst, h2⟩ := take_call (l := l1) (b := n) h0 (as := [.s 7]) (args := [.s 7]) (env := E1 S l1 n sh (some (rowsC n M)) none none none) rfl rfl rfl
    rw [seqS_nx (env' := E1 S l2 n sh (some (rowsC n M)) (some (int (st : Nat))) none none) (asgS_of h2 rfl)]
    have q1 : opE (on2 gMulA) [.e (lstE [cst (.bool false)]), .s 7] (E1 S l2 n sh (some (rowsC n M)) (some (int (st : Nat))) none none) = R.ok (rowC n fun _ => false, E1 S l2 n sh (some (rowsC n M)) (some (int (st : Nat))) none none) := opE_of (l := [.v (.ol [PF.bool false]), .s 7]) rfl rfl (mul_row n hn)
    rw [seqS_nx (asgS_of q1 (st_rows rfl rfl hst))]
    have hM1 : ∀ a < n, (fun a' => if a' = st then (fun _ => false) else M a') a a = false := fun a ha => by
      dsimp only
      split
      · rfl
      · exact hM a ha
    generalize (fun a' => if a' = st then (fun _ => false) else M a') = M1 at hM1
    have z := forL_inv (t := nameT 10) (b := B_law_1) (fun k env => ∃ M' o10, (∀ a < n, M' a a = false) ∧ Fz o10 ∧ env = E1 S l2 n sh (some (rowsC n M')) (some (int (st : Nat))) o10 none) (ds := (List.range n).map fun k => (.int (k : Nat) : D)) (k := 0) (env := E1 S l2 n sh (some (rowsC n M1)) (some (int (st : Nat))) none none) ⟨M1, none, hM1, fz_none, rfl⟩ fun i d env hi ⟨M', o10, hM', _, he⟩ => by
      subst he
      obtain ⟨x, hx, rfl⟩ : ∃ x, x < n ∧ (.int (x : Nat) : D) = d := by
        have := List.mem_of_getElem? hi
        obtain ⟨x, hx, e⟩ := List.mem_map.mp this
        exact ⟨x, List.mem_range.mp hx, e⟩
      refine ⟨E1 S l2 n sh (some (rowsC n M')) (some (int (st : Nat))) (some (int (x : Nat))) none, .nx, E1 S l2 n sh (some (rowsC n (updM M' x st (!decide (x = st))))) (some (int (st : Nat))) (some (int (x : Nat))) none, rfl, ?_, .inl rfl, _, _, ?_, fz_some _, rfl⟩
      · exact asgS_of (opE_of (l := [.s 10, .s 9]) rfl rfl (gNe_nat x st)) (st2_rows rfl rfl rfl hx hst)
      · intro a ha
        unfold updM
        split
        · rename_i e1
          split
          · rename_i e2
            rw [decide_eq_true (by omega)] <;> rfl
          · rw [← e1]; exact hM' a ha
        · exact hM' a ha
    obtain ⟨env', h3, M', o10, hM', hf, he⟩ := z
    subst he
    refine ⟨M', l2, some (int (st : Nat)), o10, hM', hf, ?_⟩
    exact (forS_of (it_name (i := 7) (n := n) rfl (by omega))).trans h3
  · rw [if_neg (by simpa using hj)]
    exact ⟨M, l1, none, none, hM, fz_none, rfl⟩
end Kk91
namespace Kk91
open PySem L2 PF
theorem ix2_rows {i j : Nat} {env : PF.Env} {n a b : Nat} {M : Mat} (h2 : env[2]? = some (some (rowsC n M))) (h : env[i]? = some (some (int (a : Nat)))) (h1 : (env.set 2 none)[j]? = some (some (int (b : Nat)))) (ha : a < n) (hb : b < n) (he : env.set 2 (some (rowsC n M)) = env) :
    ix2E 2 (.s i) (.s j) env = R.ok (PF.bool (M a b), env) := by
  unfold ix2E
  rw [plE_rows h2 h ha, bnd_ok]
  have e1 : evA [.s j] (env.set 2 none) = R.ok ([.s j], env.set 2 none) := by simp only [evA, h1, bnd_ok]
  have e2 : cellsOf (env.set 2 none) [.s j] = some [int (b : Nat)] := by simp only [cellsOf, PF.Arg.cell, h1]
  show ((evA [.s j] (env.set 2 none)).bnd _) = _
  rw [e1, bnd_ok]
  dsimp only
  rw [e2]
  dsimp only
  rw [ix_rowC hb]
  show R.ok (PF.bool (M a b), (env.set 2 none).set 2 (some (rowsC n M))) = _
  rw [List.set_set, he]
/-- one answer is turned, or not -/
theorem make_flip {S : Cell} {l : List Int} {n sh : Nat} {M : Mat} {o9 o10 : Option Cell} (h0 : 0 < n) (hn : n ≤ 9) (hM : ∀ a < n, M a a = false) (hf : Fz o10) : ∃ (M' : Mat) (l' : List Int) (o10' o13 : Option Cell), (∀ a < n, M' a a = false) ∧ (Fz o10' ∧ Fz o13) ∧
    (ifS (andB (valB (opE (on2 (gI fun i j => decide (j < i))) [.s 7, .e (cst (.int 1))])) (valB (opE (on2 (gEq)) [.e (callI (den__law_take) 1 [.e (cst (.int 2))]), .e (cst (.int 0))]))) (seqS (parS [callI (den__law_take) 1 [.s 7], callI (den__law_take) 1 [.s 7]] [nameT 10, nameT 13]) (ifS (valB (opE (on2 (gNe)) [.s 10, .s 13])) (asgS (notV (ix2E 2 (.s 10) (.s 13))) (st2T 2 (.s 10) (.s 13))) (passS))) (passS)) (E1 S l n sh (some (rowsC n M)) o9 o10 none) = R.ok (.nx, E1 S l' n sh (some (rowsC n M')) o9 o10' o13) := by
  obtain ⟨j, l1, _, h1⟩ := take_call (l := l) (b := 2) (by omega) (as := [.e (cst (.int 2))]) (args := [.v (int 2)]) (env := E1 S l n sh (some (rowsC n M)) o9 o10 none) rfl rfl rfl
  have t1 : opE (on2 (gI fun i j => decide (j < i))) [.s 7, .e (cst (.int 1))] (E1 S l n sh (some (rowsC n M)) o9 o10 none) = R.ok (PF.bool (decide ((1 : Int) < (n : Int))), E1 S l n sh (some (rowsC n M)) o9 o10 none) := opE_of (l := [.s 7, .v (int 1)]) rfl rfl rfl
  have t2 := opE_of (g := on2 gEq) (evA_ee h1 (g := cst (.int 0)) (d := int 0) (env2 := E1 S l1 n sh (some (rowsC n M)) o9 o10 none) rfl) rfl (gEq_nat j 0)
  obtain ⟨v, l2, h2⟩ : ∃ (v : Bool) (l2 : List Int), andB (valB (opE (on2 (gI fun i j => decide (j < i))) [.s 7, .e (cst (.int 1))])) (valB (opE (on2 (gEq)) [.e (callI (den__law_take) 1 [.e (cst (.int 2))]), .e (cst (.int 0))])) (E1 S l n sh (some (rowsC n M)) o9 o10 none) = R.ok (v, E1 S l2 n sh (some (rowsC n M)) o9 o10 none) := by
    unfold andB
    rw [valB_bool t1, bnd_ok]
    cases decide ((1 : Int) < (n : Int)) with
    | false => exact ⟨false, l, rfl⟩
    | true => exact ⟨_, l1, valB_bool t2⟩
  rw [ifS_b h2]
  cases v with
  | false => exact ⟨M, l2, o10, none, hM, ⟨hf, fz_none⟩, rfl⟩
  | true =>
    rw [if_pos rfl]
    obtain ⟨a, l3, ha, h3⟩ := take_call (l := l2) (b := n) h0 (as := [.s 7]) (args := [.s 7]) (env := E1 S l2 n sh (some (rowsC n M)) o9 o10 none) rfl rfl rfl
    obtain ⟨b, l4, hb, h4⟩ := take_call (l := l3) (b := n) h0 (as := [.s 7]) (args := [.s 7]) (env := E1 S l3 n sh (some (rowsC n M)) o9 o10 none) rfl rfl rfl
    have p : parS [callI (den__law_take) 1 [.s 7], callI (den__law_take) 1 [.s 7]] [nameT 10, nameT 13] (E1 S l2 n sh (some (rowsC n M)) o9 o10 none) = R.ok (.nx, E1 S l4 n sh (some (rowsC n M)) o9 (some (int (a : Nat))) (some (int (b : Nat)))) := by
      unfold parS
      rw [show evA (([callI (den__law_take) 1 [.s 7], callI (den__law_take) 1 [.s 7]] : List EF).map .e) (E1 S l2 n sh (some (rowsC n M)) o9 o10 none) = R.ok ([.v (int (a : Nat)), .v (int (b : Nat))], E1 S l4 n sh (some (rowsC n M)) o9 o10 none) from evA_ee h3 h4] <;> rfl
    rw [seqS_nx p, ifS_b (v := !decide (a = b)) (env' := E1 S l4 n sh (some (rowsC n M)) o9 (some (int (a : Nat))) (some (int (b : Nat)))) (valB_bool (opE_of (l := [.s 10, .s 13]) rfl rfl (gNe_nat a b)))]
    by_cases e : a = b
    · rw [decide_eq_true e]
      exact ⟨M, l4, _, _, hM, ⟨fz_some _, fz_some _⟩, rfl⟩
    · rw [decide_eq_false e]
      refine ⟨updM M a b (!M a b), l4, some (int (a : Nat)), some (int (b : Nat)), fun x hx => ?_, ⟨fz_some _, fz_some _⟩, ?_⟩
      · unfold updM
        split
        · split
          · omega
          · rename_i e1 _; rw [← e1]; exact hM x hx
        · exact hM x hx
      · have q : notV (ix2E 2 (.s 10) (.s 13)) (E1 S l4 n sh (some (rowsC n M)) o9 (some (int (a : Nat))) (some (int (b : Nat)))) = R.ok (PF.bool (!M a b), E1 S l4 n sh (some (rowsC n M)) o9 (some (int (a : Nat))) (some (int (b : Nat)))) := by
          unfold notV
          rw [valB_bool (ix2_rows (i := 10) (j := 13) (env := E1 S l4 n sh (some (rowsC n M)) o9 (some (int (a : Nat))) (some (int (b : Nat)))) rfl rfl rfl ha hb rfl)] <;> rfl
        exact asgS_of q (st2_rows rfl rfl rfl ha hb)
/-- the rows as a tuple of tuples -/
theorem make_tuple {S : Cell} {l : List Int} {n sh : Nat} {M : Mat} {o9 o10 o13 : Option Cell} (hn : n ≤ 9) : ∃ c2 : Cell, 
    opE (on1 gTup) [.e (lcE (itE (varZ 2)) [5] (nameT 5) (yesB) (opE (on1 gTup) [.s 5]))] (E1 S l n sh (some (rowsC n M)) o9 o10 o13) = R.ok (.fz (matD n M), E1 S l n sh (some c2) o9 o10 o13) := by
  have er : ∀ r, Cell.d (rowC n r) = .list ((List.range n).map fun b => .bool (r b)) := fun r => by
    rw [rowC_lst]
    show PyData.list (Cell.ds _) = _
    rw [ds_fz]
  have nr : ∀ r, Cell.nd (rowC n r) = true := fun r => by
    rw [rowC_lst]
    exact nds_fz _
  have e1 : Cell.d (rowsC n M) = .list ((List.range n).map fun a => .list ((List.range n).map fun b => .bool (M a b))) := by
    show PyData.list (Cell.ds ((List.range n).map fun a => rowC n (M a))) = _
    rw [ds_eq_map, List.map_map]
    congr 1
    exact List.map_congr_left fun a _ => er _
  have e2 : Cell.nd (rowsC n M) = true := by
    have key : ∀ xs : List Nat, Cell.nds (xs.map fun a => rowC n (M a)) = true := fun xs => by
      induction xs with
      | nil => rfl
      | cons x xs ih =>
        show (Cell.nd (rowC n (M x)) && Cell.nds (xs.map fun a => rowC n (M a))) = true
        rw [nr, ih] <;> rfl
    exact key _
  have hv : varZ 2 (E1 S l n sh (some (rowsC n M)) o9 o10 o13) = R.ok (.fz (Cell.d (rowsC n M)), E1 S l n sh (some (.fz (Cell.d (rowsC n M)))) o9 o10 o13) := by
    show (if Cell.nd (rowsC n M) = true then _ else _) = _
    rw [if_pos e2] <;> rfl
  refine ⟨.fz (Cell.d (rowsC n M)), ?_⟩
  have hit : itE (varZ 2) (E1 S l n sh (some (rowsC n M)) o9 o10 o13) = R.ok ((List.range n).map fun a => .list ((List.range n).map fun b => .bool (M a b)), E1 S l n sh (some (.fz (Cell.d (rowsC n M)))) o9 o10 o13) := by
    unfold itE
    rw [hv, bnd_ok, e1] <;> rfl
  have z := lcL_pure (vs := [5]) (t := nameT 5) (c := yesB) (f := opE (on1 gTup) [.s 5]) (fun a : Nat => (.list ((List.range n).map fun b => .bool (M a b)) : D)) (fun _ => true) (fun a => .fz (rowD n M a)) (env := E1 S l n sh (some (.fz (Cell.d (rowsC n M)))) o9 o10 o13) (List.range n) [] (by rw [List.length_range]; unfold lim; simp; omega) fun a ha =>
    ⟨[some S, some (intC l), some (.fz (Cell.d (rowsC n M))), none, none, some (.fz (.list ((List.range n).map fun b => .bool (M a b)))), none, some (int (n : Nat)), some (int (sh : Nat)), o9, o10, none, none, o13, none], rfl,
      [some S, some (intC l), some (.fz (Cell.d (rowsC n M))), none, none, some (.fz (.list ((List.range n).map fun b => .bool (M a b)))), none, some (int (n : Nat)), some (int (sh : Nat)), o9, o10, none, none, o13, none], rfl, fun q => (by cases q), fun _ =>
      ⟨[some S, some (intC l), some (.fz (Cell.d (rowsC n M))), none, none, some (.fz (.list ((List.range n).map fun b => .bool (M a b)))), none, some (int (n : Nat)), some (int (sh : Nat)), o9, o10, none, none, o13, none], opE_of (l := [.s 5]) rfl rfl rfl, rfl⟩⟩
  have z2 := lcE_of hit z
  refine opE_of (evA_e z2) rfl ?_
  have e5 : (Cell.ol ([] ++ ((List.range n).filter fun _ => true).map fun a => .fz (rowD n M a))) = lst ((List.range n).map (rowD n M)) := by
    rw [List.filter_eq_self.mpr (fun _ _ => rfl), List.nil_append]
    unfold lst
    rw [List.map_map] <;> rfl
  rw [e5]
  exact gTup_lst _
end Kk91
namespace Kk91
open PySem L2 PF
/-- the names from the rows on -/
abbrev E2 (S : Cell) (l : List Int) (c2 : Cell) (n sh : Nat) (M : Mat) (o4 o9 o10 o11 o12 o13 : Option Cell) : PF.Env := [some S, some (intC l), some c2, some (.fz (matD n M)), o4, none, none, some (int (n : Nat)), some (int (sh : Nat)), o9, o10, o11, o12, o13, none]
/-- the star as data -/
def starD (n : Nat) (M : Mat) : D := if (List.range n).any (bad M (looked n M).1) = true then .none else .int ((looked n M).1 : Nat)
theorem star_fz (n : Nat) (M : Mat) : starOf n M = .fz (starD n M) := by
  unfold starOf starD
  split <;> rfl
theorem star_pl (n : Nat) (M : Mat) : Pl 0 (starD n M) := by
  unfold starD
  split
  · exact .inl rfl
  · exact .inr ⟨_, rfl⟩
theorem prs_pl (l : List (Nat × Nat)) (hl : l.length < 1000000) : Pl 2 (.tuple (prs l)) := by
  refine .inr ⟨_, .inl rfl, by unfold prs; rw [List.length_map]; exact hl, fun x hx => ?_⟩
  obtain ⟨p, _, rfl⟩ := List.mem_map.mp hx
  refine .inr ⟨_, .inl rfl, by simp, fun y hy => ?_⟩
  simp only [List.mem_cons, List.not_mem_nil, or_false] at hy
  rcases hy with rfl | rfl
  · exact .inr ⟨_, rfl⟩
  · exact .inr ⟨_, rfl⟩
theorem shp_star (n : Nat) (M : Mat) : SeqAt.shaped (starD n M) = true := by
  unfold starD
  split
  · rfl
  · exact (Shp.int (k := 0) _).ok (by decide)
theorem eqv_star (n : Nat) (M : Mat) : PyData.eqv (starD n M) (starD n M) = true := by
  unfold starD
  split
  · rfl
  · show (((looked n M).1 : Int) == ((looked n M).1 : Int)) = true
    exact beq_self_eq_true _
theorem eqv_prs (l : List (Nat × Nat)) : PyData.eqv (.tuple (prs l)) (.tuple (prs l)) = true := by
  show PyData.eqvAll (prs l) (prs l) = true
  unfold prs
  rw [eqvAll_map prD_eqv]
  exact decide_eq_true rfl
theorem check_ok {S c2 : Cell} {l : List Int} {n sh : Nat} {M : Mat} {o10 o13 : Option Cell} (h0 : 0 < n) (hn : n ≤ 9) (hM : ∀ a < n, M a a = false) :
    (ifS (orB (valB (opE (on2 (gIs true)) [.e (callE (den_is_knowing) [.s 3]), .e (cst (.bool true))])) (orB (notB (valB (callE (den__law_same 30) [.e (lstE [callE (den_star_of) [.s 3], callE (den_told_questions) [.s 3]]), .e (lstE [varZ 9, varZ 11])]))) (valB (opE (on2 (gI fun i j => decide (j < i))) [.e (opE (on1 gLen) [.s 11]), .e (opE (on2 gMulA) [.e (cst (.int 3)), .e (opE (on2 gSub) [.s 7, .e (cst (.int 1))])])])))) (retS (cst (.bool false))) (passS)) (E2 S l c2 n sh M none (some (.fz (starD n M))) o10 (some (tup (prs (toldL n M)))) none o13) = R.ok (.nx, E2 S l c2 n sh M none (some (.fz (starD n M))) o10 (some (tup (prs (toldL n M)))) none o13) := by
  generalize hE : E2 S l c2 n sh M none (some (.fz (starD n M))) o10 (some (tup (prs (toldL n M)))) none o13 = E
  have k1 : callE (den_is_knowing) [.s 3] E = R.ok (PF.bool true, E) := by
    subst hE
    refine callE_of (l := [.s 3]) rfl rfl ?_
    have := know_mat (M := M) h0 hn
    rw [show (List.range n).any (fun i => M i i) = false from List.any_eq_false.mpr fun a ha => by rw [hM a (List.mem_range.mp ha)]; simp] at this
    exact this
  have k2 := opE_of (g := on2 (gIs true)) (evA_ee k1 (g := cst (.bool true)) (d := PF.bool true) (env2 := E) rfl) rfl (c := PF.bool false) rfl
  have k3 : callE (den_star_of) [.s 3] E = R.ok (.fz (starD n M), E) := by
    subst hE
    exact callE_of (l := [.s 3]) rfl rfl ((den_star h0 hn).trans (by rw [star_fz]))
  have k4 : callE (den_told_questions) [.s 3] E = R.ok (tup (prs (toldL n M)), E) := by
    subst hE
    exact callE_of (l := [.s 3]) rfl rfl ((den_told h0 hn).trans (by rw [told_eq]))
  have k5 : lstE [callE (den_star_of) [.s 3], callE (den_told_questions) [.s 3]] E = R.ok (.ol [.fz (starD n M), tup (prs (toldL n M))], E) := by
    unfold lstE
    rw [show evA (([callE (den_star_of) [.s 3], callE (den_told_questions) [.s 3]] : List EF).map .e) E = R.ok ([.v (.fz (starD n M)), .v (tup (prs (toldL n M)))], E) from evA_ee k3 k4] <;> rfl
  have k6 : lstE [varZ 9, varZ 11] E = R.ok (.ol [.fz (starD n M), tup (prs (toldL n M))], E) := by
    subst hE
    rfl
  have hlen : (toldL n M).length ≤ 3 * (n - 1) := told_len h0
  have k7 : callE (den__law_same 30) [.e (lstE [callE (den_star_of) [.s 3], callE (den_told_questions) [.s 3]]), .e (lstE [varZ 9, varZ 11])] E = R.ok (PF.bool true, E) := by
    refine callE_of (evA_ee k5 k6) (ds := [.list [starD n M, .tuple (prs (toldL n M))], .list [starD n M, .tuple (prs (toldL n M))]]) rfl ?_
    refine same_refl 3 26 _ (.inr ⟨_, .inr rfl, by simp, fun x hx => ?_⟩)
    simp only [List.mem_cons, List.not_mem_nil, or_false] at hx
    rcases hx with rfl | rfl
    · exact .inl (.inl (star_pl n M))
    · exact prs_pl _ (by omega)
  have k8 : opE (on1 gLen) [.s 11] E = R.ok (int ((toldL n M).length : Nat), E) := by
    subst hE
    refine opE_of (l := [.s 11]) rfl rfl ?_
    show gLen (tup _) = _
    rw [gLen_tup]
    unfold prs
    rw [List.length_map]
  have k9 : opE (on2 gMulA) [.e (cst (.int 3)), .e (opE (on2 gSub) [.s 7, .e (cst (.int 1))])] E = R.ok (int (3 * ((n : Int) - 1)), E) := by
    refine opE_of (evA_ee (f := cst (.int 3)) (c := int 3) (env1 := E) rfl (g := opE (on2 gSub) [.s 7, .e (cst (.int 1))]) (d := int ((n : Int) - 1)) (env2 := E) ?_) rfl (show gMulA (int 3) (int ((n : Int) - 1)) = _ from gMul_l (by decide))
    subst hE
    exact opE_of (l := [.s 7, .v (int 1)]) rfl rfl rfl
  have k10 : opE (on2 (gI fun i j => decide (j < i))) [.e (opE (on1 gLen) [.s 11]), .e (opE (on2 gMulA) [.e (cst (.int 3)), .e (opE (on2 gSub) [.s 7, .e (cst (.int 1))])])] E = R.ok (PF.bool false, E) := by
    refine opE_of (evA_ee k8 k9) rfl ?_
    show some (PF.bool (decide (3 * ((n : Int) - 1) < ((toldL n M).length : Int)))) = _
    rw [decide_eq_false (by omega)]
  exact ifS_skip (orB_of (valB_bool k2) (orB_of (notB_of (valB_bool k7)) (valB_bool k10) fun q => by cases q) fun q => by cases q)
theorem go_in (M : Mat) (c : Nat) : ∀ (ps l : List (Nat × Nat)), ∀ p ∈ goT M c ps l, p ∈ l ∨ p ∈ ps
  | [], l, p, h => .inl h
  | q :: ps, l, p, h => by
    unfold goT at h
    split at h
    · exact (go_in M c ps l p h).imp id (List.mem_cons_of_mem _)
    · split at h
      · rcases List.mem_append.mp h with h | h
        · exact .inl h
        · rw [List.mem_singleton.mp h]
          exact .inr List.mem_cons_self
      · rcases go_in M c ps _ p h with h | h
        · rcases List.mem_append.mp h with h | h
          · exact .inl h
          · rw [List.mem_singleton.mp h]
            exact .inr List.mem_cons_self
        · exact .inr (List.mem_cons_of_mem _ h)
theorem told_lt {n : Nat} {M : Mat} (h0 : 0 < n) : ∀ p ∈ toldL n M, p.1 < n ∧ p.2 < n := fun p hp => by
  have hc := looked_lt (M := M) h0
  rcases go_in _ _ _ _ p hp with h | h
  · have := (lk_inv (M := M) (n - 1)).2 p h
    omega
  · rcases pr_mem h with ⟨a, _, b⟩ | ⟨a, _, b⟩
    · exact ⟨by omega, b⟩
    · exact ⟨b, by omega⟩
/-- a table that answers alike gets the same -/
theorem bent_ok {S c2 : Cell} {l : List Int} {n sh : Nat} {M : Mat} {o4 o10 o12 o13 : Option Cell} (h0 : 0 < n) (hn : n ≤ 9) (hM : ∀ a < n, M a a = false) (h10 : Fz o10) (h13 : Fz o13) : ∃ (l' : List Int) (o12' : Option Cell),
    B_law_2 (E2 S l c2 n sh M o4 (some (.fz (starD n M))) o10 (some (tup (prs (toldL n M)))) o12 o13) = R.ok (.nx, E2 S l' c2 n sh M o4 (some (.fz (starD n M))) o10 (some (tup (prs (toldL n M)))) o12' o13) := by
  have hl : (List.range n).length ≤ lim := by rw [List.length_range]; unfold lim; omega
  unfold B_law_2
  let W := fun (l : List Int) (o10 o13 : Option Cell) => E2 S l c2 n sh M o4 (some (.fz (starD n M))) o10 (some (tup (prs (toldL n M)))) o12 o13
  have elt : ∀ (a b : Nat) (l : List Int), a < n → b < n → ∃ (x : Bool) (l' : List Int), (((a, b) ∈ toldL n M ∨ a = b) → x = M a b) ∧
      iteE (orB (valB (opE (on2 (gIn false)) [.e (tupE [varZ 10, varZ 13]), .s 11])) (valB (opE (on2 (gEq)) [.s 10, .s 13]))) (opE (on2 gIx) [.e (opE (on2 gIx) [.s 3, .s 10]), .s 13]) (opE (on2 (gEq)) [.e (callI (den__law_take) 1 [.e (cst (.int 2))]), .e (cst (.int 0))]) (W l (some (int (a : Nat))) (some (int (b : Nat)))) = R.ok (PF.bool x, W l' (some (int (a : Nat))) (some (int (b : Nat)))) := fun a b l ha hb => by
    have t0 : gIn false (.fz (prD (a, b))) (tup (prs (toldL n M))) = some (PF.bool (decide ((a, b) ∈ toldL n M))) := by
      rw [gIn_tup ((shp_pr _).ok (by decide)) (shp_prs _)]
      unfold prs
      rw [any_map_eq prD_eqv, Bool.bne_false]
      congr
    have t1 : opE (on2 (gIn false)) [.e (tupE [varZ 10, varZ 13]), .s 11] (W l (some (int (a : Nat))) (some (int (b : Nat)))) = R.ok (PF.bool (decide ((a, b) ∈ toldL n M)), W l (some (int (a : Nat))) (some (int (b : Nat)))) := opE_of (l := [.v (.fz (prD (a, b))), .s 11]) rfl rfl t0
    have t2 : opE (on2 (gEq)) [.s 10, .s 13] (W l (some (int (a : Nat))) (some (int (b : Nat)))) = R.ok (PF.bool (decide (a = b)), W l (some (int (a : Nat))) (some (int (b : Nat)))) := opE_of (l := [.s 10, .s 13]) rfl rfl (gEq_nat a b)
    have t3 := orB_of (valB_bool t1) (valB_bool t2) fun _ => rfl
    unfold iteE
    rw [t3, bnd_ok]
    by_cases e : (a, b) ∈ toldL n M ∨ a = b
    · have e2 : (decide ((a, b) ∈ toldL n M) || decide (a = b)) = true := by simpa using e
      refine ⟨M a b, l, fun _ => rfl, ?_⟩
      show (if (decide ((a, b) ∈ toldL n M) || decide (a = b)) = true then _ else _) = _
      rw [if_pos e2]
      exact at2 rfl rfl rfl ha hb
    · have e2 : ¬ (decide ((a, b) ∈ toldL n M) || decide (a = b)) = true := by simpa using e
      obtain ⟨j, l1, _, h1⟩ := take_call (l := l) (b := 2) (by omega) (as := [.e (cst (.int 2))]) (args := [.v (int 2)]) (env := W l (some (int (a : Nat))) (some (int (b : Nat)))) rfl rfl rfl
      refine ⟨decide (j = 0), l1, fun z => absurd z e, ?_⟩
      show (if (decide ((a, b) ∈ toldL n M) || decide (a = b)) = true then _ else _) = _
      rw [if_neg e2]
      exact opE_of (evA_ee h1 (g := cst (.int 0)) (d := int 0) (env2 := W l1 (some (int (a : Nat))) (some (int (b : Nat)))) rfl) rfl (gEq_nat j 0)
  have gtr : ∀ r : Nat → Bool, gTup (.ol ((List.range n).map fun b => PF.bool (r b))) = some (.fz (.tuple ((List.range n).map fun b => .bool (r b)))) := fun r => by
    have := rowC_lst n r
    unfold rowC at this
    rw [this]
    exact gTup_lst _
  have row : ∀ (a : Nat) (l : List Int), a < n → ∃ (r : Nat → Bool) (l' : List Int), (∀ b < n, ((a, b) ∈ toldL n M ∨ a = b) → r b = M a b) ∧
      opE (on1 gTup) [.e (lcE (itA (one1 rng1) [.s 7]) [13] (nameT 13) (yesB) (iteE (orB (valB (opE (on2 (gIn false)) [.e (tupE [varZ 10, varZ 13]), .s 11])) (valB (opE (on2 (gEq)) [.s 10, .s 13]))) (opE (on2 gIx) [.e (opE (on2 gIx) [.s 3, .s 10]), .s 13]) (opE (on2 (gEq)) [.e (callI (den__law_take) 1 [.e (cst (.int 2))]), .e (cst (.int 0))])))] (W l (some (int (a : Nat))) o13) = R.ok (.fz (.tuple ((List.range n).map fun b => .bool (r b))), W l' (some (int (a : Nat))) o13) := fun a l ha => by
    obtain ⟨cs, env', h1, h2, l', h3⟩ := lcL_all (vs := [13]) (t := nameT 13) (f := iteE (orB (valB (opE (on2 (gIn false)) [.e (tupE [varZ 10, varZ 13]), .s 11])) (valB (opE (on2 (gEq)) [.s 10, .s 13]))) (opE (on2 gIx) [.e (opE (on2 gIx) [.s 3, .s 10]), .s 13]) (opE (on2 (gEq)) [.e (callI (den__law_take) 1 [.e (cst (.int 2))]), .e (cst (.int 0))])) (fun k : Nat => (.int (k : Nat) : D)) (fun b v => ∃ x, v = PF.bool x ∧ (((a, b) ∈ toldL n M ∨ a = b) → x = M a b)) (fun env => ∃ l, env = W l (some (int (a : Nat))) none) (List.range n) [] (W l (some (int (a : Nat))) none) (by simpa using hl) ⟨l, rfl⟩ fun b hb env ⟨l, he⟩ => by
      subst he
      obtain ⟨x, l', hx, h⟩ := elt a b l ha (List.mem_range.mp hb)
      exact ⟨W l (some (int (a : Nat))) (some (int (b : Nat))), PF.bool x, W l' (some (int (a : Nat))) (some (int (b : Nat))), rfl, h, ⟨x, rfl, hx⟩, l', rfl⟩
    subst h3
    obtain ⟨r, rfl, hr⟩ := choose0 PF.bool (fun b x => ((a, b) ∈ toldL n M ∨ a = b) → x = M a b) false h2
    have z := lcE_of (env := W l (some (int (a : Nat))) o13) (it_name (n := n) (i := 7) rfl (by omega)) h1
    have hrest : restE (W l (some (int (a : Nat))) o13) [13] (W l' (some (int (a : Nat))) none) = W l' (some (int (a : Nat))) o13 := by
      cases o13 with
      | none => rfl
      | some c =>
        obtain ⟨d, rfl⟩ := h13 c rfl
        rfl
    rw [hrest] at z
    exact ⟨r, l', hr, opE_of (evA_e z) rfl (gtr r)⟩
  obtain ⟨cs, env', h1, h2, l', h3⟩ := lcL_all (vs := [10]) (t := nameT 10) (f := opE (on1 gTup) [.e (lcE (itA (one1 rng1) [.s 7]) [13] (nameT 13) (yesB) (iteE (orB (valB (opE (on2 (gIn false)) [.e (tupE [varZ 10, varZ 13]), .s 11])) (valB (opE (on2 (gEq)) [.s 10, .s 13]))) (opE (on2 gIx) [.e (opE (on2 gIx) [.s 3, .s 10]), .s 13]) (opE (on2 (gEq)) [.e (callI (den__law_take) 1 [.e (cst (.int 2))]), .e (cst (.int 0))])))]) (fun k : Nat => (.int (k : Nat) : D)) (fun a v => ∃ r : Nat → Bool, v = .fz (.tuple ((List.range n).map fun b => .bool (r b))) ∧ ∀ b < n, ((a, b) ∈ toldL n M ∨ a = b) → r b = M a b) (fun env => ∃ l, env = W l none o13) (List.range n) [] (W l none o13) (by simpa using hl) ⟨l, rfl⟩ fun a ha env ⟨l, he⟩ => by
    subst he
    obtain ⟨r, l', hr, h⟩ := row a l (List.mem_range.mp ha)
    exact ⟨W l (some (int (a : Nat))) o13, .fz (.tuple ((List.range n).map fun b => .bool (r b))), W l' (some (int (a : Nat))) o13, rfl, h, ⟨r, rfl, hr⟩, l', rfl⟩
  subst h3
  obtain ⟨B, rfl, hB⟩ := choose0 (fun r : Nat → Bool => .fz (.tuple ((List.range n).map fun b => .bool (r b)))) (fun a r => ∀ b < n, ((a, b) ∈ toldL n M ∨ a = b) → r b = M a b) (fun _ => false) h2
  have z := lcE_of (env := W l o10 o13) (it_name (n := n) (i := 7) rfl (by omega)) h1
  have hrest : restE (W l o10 o13) [10] (W l' none o13) = W l' o10 o13 := by
    cases o10 with
    | none => rfl
    | some c =>
      obtain ⟨d, rfl⟩ := h10 c rfl
      rfl
  rw [hrest] at z
  have gt : gTup (.ol ([] ++ (List.range n).map fun a => (.fz (.tuple ((List.range n).map fun b => .bool (B a b))) : Cell))) = some (.fz (matD n B)) := by
    have e5 : (Cell.ol ([] ++ (List.range n).map fun a => (.fz (.tuple ((List.range n).map fun b => .bool (B a b))) : Cell))) = lst ((List.range n).map (rowD n B)) := by
      rw [List.nil_append]
      unfold lst
      rw [List.map_map] <;> rfl
    rw [e5]
    exact gTup_lst _
  rw [seqS_nx (env' := E2 S l' c2 n sh M o4 (some (.fz (starD n M))) o10 (some (tup (prs (toldL n M)))) (some (.fz (matD n B))) o13) (asgS_of (opE_of (evA_e z) rfl gt) rfl)]
  refine ⟨l', some (.fz (matD n B)), ?_⟩
  obtain ⟨q1, q2⟩ := bent_same (n := n) (M := M) (B := B) fun p hp => hB p.1 (told_lt h0 p hp).1 p.2 (told_lt h0 p hp).2 (.inl hp)
  have q3 : starD n B = starD n M := by
    have := q2
    rw [star_fz, star_fz] at this
    exact Cell.fz.inj this
  generalize hE : E2 S l' c2 n sh M o4 (some (.fz (starD n M))) o10 (some (tup (prs (toldL n M)))) (some (.fz (matD n B))) o13 = E
  have k3 : callE (den_star_of) [.s 12] E = R.ok (.fz (starD n M), E) := by
    subst hE
    exact callE_of (l := [.s 12]) rfl rfl ((den_star h0 hn).trans (by rw [star_fz, q3]))
  have k4 : callE (den_told_questions) [.s 12] E = R.ok (tup (prs (toldL n M)), E) := by
    subst hE
    exact callE_of (l := [.s 12]) rfl rfl ((den_told h0 hn).trans (by rw [told_eq, q1]))
  have k5 : opE (on2 gNe) [.e (callE (den_star_of) [.s 12]), .s 9] E = R.ok (PF.bool false, E) := by
    refine opE_of (l := [.v (.fz (starD n M)), .s 9]) (cs := [.fz (starD n M), .fz (starD n M)]) (evA_es k3 ⟨.fz (starD n M), by subst hE; rfl⟩) (by subst hE; rfl) ?_
    show gNe _ _ = _
    rw [gNe_fz (shp_star n M) (shp_star n M), eqv_star] <;> rfl
  have k6 : opE (on2 gNe) [.e (callE (den_told_questions) [.s 12]), .s 11] E = R.ok (PF.bool false, E) := by
    refine opE_of (l := [.v (tup (prs (toldL n M))), .s 11]) (cs := [tup (prs (toldL n M)), tup (prs (toldL n M))]) (evA_es k4 ⟨tup (prs (toldL n M)), by subst hE; rfl⟩) (by subst hE; rfl) ?_
    show gNe _ _ = _
    rw [gNe_fz (shp_prs _) (shp_prs _), eqv_prs] <;> rfl
  exact ifS_skip (orB_of (valB_bool k5) (valB_bool k6) fun q => by cases q)
end Kk91
namespace Kk91
open PySem L2 PF
theorem cut_one (x : D) (xs : List D) : cutD (x :: xs) (some 1) none = xs := by
  unfold cutD
  have h1 : HT.sIx (x :: xs).length 0 (some 1) = 1 := by
    unfold HT.sIx
    simp
  have h2 : HT.sIx (x :: xs).length (x :: xs).length none = (x :: xs).length := rfl
  rw [h1, h2]
  simp
theorem cut_s {i : Nat} {E : PF.Env} {x : D} {xs : List D} (h : E[i]? = some (some (tup (x :: xs)))) : cut1E (.s i) 1 (some (.e (cst (.int 1)))) E = R.ok (tup xs, E) := by
  unfold cut1E
  have e1 : evA (.s i :: (some (AF.e (cst (.int 1)))).toList) E = R.ok ([.s i, .v (int 1)], E) := evA_se h rfl
  rw [e1, bnd_ok]
  have e2 : cellsOf E [.s i, .v (int 1)] = some [tup (x :: xs), int 1] := by simp only [cellsOf, PF.Arg.cell, h]
  dsimp only
  rw [e2]
  show (match (if (1 : Nat) = 1 then gCut (tup (x :: xs)) (some 1) none else gCut (tup (x :: xs)) none (some 1)) with | some c => R.ok (c, E) | none => none) = _
  rw [if_pos rfl]
  show R.ok (tup (cutD (x :: xs) (some 1) none), E) = _
  rw [cut_one]
theorem add_tup {xs ys : List D} (h : xs.length + ys.length ≤ lim) : gAdd (tup xs) (tup ys) = some (tup (xs ++ ys)) := if_pos h
/-- another first row -/
theorem add_tl {E : PF.Env} {f : EF} {d r0 : D} {tl : List D} (h3 : E[3]? = some (some (tup (r0 :: tl)))) (hf : f E = R.ok (tup [d], E)) (hl : tl.length ≤ 9) : opE (on2 gAdd) [.e f, .e (cut1E (.s 3) 1 (some (.e (cst (.int 1)))))] E = R.ok (tup (d :: tl), E) :=
  opE_of (evA_ee hf (cut_s h3)) rfl (add_tup (xs := [d]) (by unfold lim; rw [List.length_singleton]; omega))
theorem tup_1 {E : PF.Env} {f : EF} {c : Cell} (hf : f E = R.ok (c, E)) (hc : c.nd = true) : tupE [f] E = R.ok (tup [c.d], E) := by
  unfold tupE
  rw [show evA (([f] : List EF).map .e) E = R.ok ([.v c], E) from evA_e hf, bnd_ok]
  show (match (if c.nd = true then (some []).map (c.d :: ·) else none) with | some ds => R.ok ((.fz (.tuple ds) : Cell), E) | none => none) = _
  rw [if_pos hc] <;> rfl
theorem head_row {E : PF.Env} {b0 d r0 : D} {rt tl : List D} (h3 : E[3]? = some (some (tup (r0 :: tl)))) (h5 : E[5]? = some (some (tup (b0 :: rt)))) (hr : rt.length ≤ 9) (hl : tl.length ≤ 9) :
    opE (on2 gAdd) [.e (tupE [opE (on2 gAdd) [.e (tupE [cst d]), .e (cut1E (.s 5) 1 (some (.e (cst (.int 1)))))]]), .e (cut1E (.s 3) 1 (some (.e (cst (.int 1)))))] E = R.ok (tup (.tuple (d :: rt) :: tl), E) := by
  refine add_tl h3 (tup_1 (c := tup (d :: rt)) ?_ rfl) hl
  exact opE_of (evA_ee (f := tupE [cst d]) (c := tup [d]) (env1 := E) rfl (cut_s h5)) rfl (add_tup (xs := [d]) (by unfold lim; rw [List.length_singleton]; omega))
theorem evA_cons {f : EF} {as : List AF} {env env1 env2 : PF.Env} {c : Cell} {l : List PF.Arg} (h : f env = R.ok (c, env1)) (h2 : evA as env1 = R.ok (l, env2)) : evA (.e f :: as) env = R.ok (.v c :: l, env2) := by
  show ((f env).bnd _) = _
  rw [h, bnd_ok]
  show ((evA as env1).bnd _) = _
  rw [h2] <;> rfl
inductive EvS (E : PF.Env) : List EF → List Cell → Prop
  | nil : EvS E [] []
  | cons {f : EF} {c : Cell} {fs : List EF} {cs : List Cell} : f E = R.ok (c, E) → EvS E fs cs → EvS E (f :: fs) (c :: cs)
theorem EvS.ev {E : PF.Env} : ∀ {fs : List EF} {cs : List Cell}, EvS E fs cs → evA (fs.map .e) E = R.ok (cs.map .v, E)
  | _, _, .nil => rfl
  | _, _, .cons h r => evA_cons h r.ev
theorem own_v : ∀ cs : List Cell, ownOf (cs.map .v) = some cs
  | [] => rfl
  | c :: cs => by
    show (ownOf (cs.map .v)).map (c :: ·) = _
    rw [own_v cs] <;> rfl
theorem EvS.lst {E : PF.Env} {fs : List EF} {cs : List Cell} (h : EvS E fs cs) : lstE fs E = R.ok (.ol cs, E) := by
  unfold lstE
  rw [h.ev, bnd_ok]
  dsimp only
  rw [own_v]
theorem gList_tup (ds : List D) : gList (tup ds) = some (lst ds) := rfl
theorem odd1 {E : PF.Env} {b0 : D} {rt tl : List D} (h3 : E[3]? = some (some (tup (.tuple (b0 :: rt) :: tl)))) (h5 : E[5]? = some (some (tup (b0 :: rt)))) (hr : rt.length ≤ 9) (hl : tl.length ≤ 9) :
    lstE [tupE [], opE (on1 gList) [.s 3], opE (on2 gAdd) [.e (tupE [opE (on1 gList) [.s 5]]), .e (cut1E (.s 3) 1 (some (.e (cst (.int 1)))))], opE (on2 gAdd) [.e (tupE [opE (on2 gAdd) [.s 5, .e (tupE [cst (.bool false)])]]), .e (cut1E (.s 3) 1 (some (.e (cst (.int 1)))))], opE (on2 gAdd) [.e (tupE [cut1E (.s 5) 1 (some (.e (cst (.int 1))))]), .e (cut1E (.s 3) 1 (some (.e (cst (.int 1)))))], opE (on2 gAdd) [.e (tupE [opE (on2 gAdd) [.e (tupE [cst (.bool true)]), .e (cut1E (.s 5) 1 (some (.e (cst (.int 1)))))]]), .e (cut1E (.s 3) 1 (some (.e (cst (.int 1)))))]] E =
      R.ok (.ol [tup [], lst (.tuple (b0 :: rt) :: tl), tup (.list (b0 :: rt) :: tl), tup (.tuple ((b0 :: rt) ++ [.bool false]) :: tl), tup (.tuple rt :: tl), tup (.tuple (.bool true :: rt) :: tl)], E) := by
  have g3 : opE (on1 gList) [.s 3] E = R.ok (lst (.tuple (b0 :: rt) :: tl), E) := opE_of (l := [.s 3]) (cs := [tup (.tuple (b0 :: rt) :: tl)]) (by simp only [evA, h3, bnd_ok]) (by simp only [cellsOf, PF.Arg.cell, h3]) rfl
  have g5 : opE (on1 gList) [.s 5] E = R.ok (lst (b0 :: rt), E) := opE_of (l := [.s 5]) (cs := [tup (b0 :: rt)]) (by simp only [evA, h5, bnd_ok]) (by simp only [cellsOf, PF.Arg.cell, h5]) rfl
  have t3 : tupE [opE (on1 gList) [.s 5]] E = R.ok (tup [.list (b0 :: rt)], E) := by
    have := tup_1 g5 (nds_fz _)
    rw [show Cell.d (lst (b0 :: rt)) = .list (b0 :: rt) by show PyData.list (Cell.ds _) = _; rw [ds_fz]] at this
    exact this
  have t4 : tupE [opE (on2 gAdd) [.s 5, .e (tupE [cst (.bool false)])]] E = R.ok (tup [.tuple ((b0 :: rt) ++ [.bool false])], E) := by
    refine tup_1 (c := tup ((b0 :: rt) ++ [.bool false])) ?_ rfl
    exact opE_of (cs := [tup (b0 :: rt), tup [.bool false]]) (evA_se h5 (f := tupE [cst (.bool false)]) (c := tup [.bool false]) (env1 := E) rfl) (by simp only [cellsOf, PF.Arg.cell, h5]) (add_tup (xs := b0 :: rt) (ys := [.bool false]) (by unfold lim; rw [List.length_cons, List.length_singleton]; omega))
  have t5 : tupE [cut1E (.s 5) 1 (some (.e (cst (.int 1))))] E = R.ok (tup [.tuple rt], E) := tup_1 (c := tup rt) (cut_s h5) rfl
  exact EvS.lst (.cons rfl (.cons g3 (.cons (add_tl h3 t3 hl) (.cons (add_tl h3 t4 hl) (.cons (add_tl h3 t5 hl) (.cons (head_row h3 h5 hr hl) .nil))))))
theorem ten_false : gMulA (tup [.bool false]) (int 10) = some (tup (List.replicate 10 (.bool false))) := by rfl
theorem ten_rows : gMulA (tup [.tuple (List.replicate 10 (.bool false))]) (int 10) = some (tup (List.replicate 10 (.tuple (List.replicate 10 (.bool false))))) := by rfl
theorem odd2 {E E' : PF.Env} {b0 : D} {rt tl ds : List D} {c6 : Cell} (h3 : E'[3]? = some (some (tup (.tuple (b0 :: rt) :: tl)))) (h5 : E'[5]? = some (some (tup (b0 :: rt)))) (hv : varZ 6 E = R.ok (.fz (.list ds), E')) (hd : ds.length ≤ 9) (hr : rt.length ≤ 9) (hl : tl.length ≤ 9) :
    opE (on2 gAdd) [.e (varZ 6), .e (lstE [opE (on2 gAdd) [.e (tupE [opE (on2 gAdd) [.e (tupE [cst (.int 0)]), .e (cut1E (.s 5) 1 (some (.e (cst (.int 1)))))]]), .e (cut1E (.s 3) 1 (some (.e (cst (.int 1)))))], opE (on2 gAdd) [.e (tupE [opE (on2 gAdd) [.e (tupE [cst .none]), .e (cut1E (.s 5) 1 (some (.e (cst (.int 1)))))]]), .e (cut1E (.s 3) 1 (some (.e (cst (.int 1)))))], opE (on2 gMulA) [.e (tupE [opE (on2 gMulA) [.e (tupE [cst (.bool false)]), .e (cst (.int 10))]]), .e (cst (.int 10))], tupE [cst .none], cst .none, cst (.str "knowing")])] E =
      R.ok (lst (ds ++ [.tuple (.tuple (.int 0 :: rt) :: tl), .tuple (.tuple (.none :: rt) :: tl), .tuple (List.replicate 10 (.tuple (List.replicate 10 (.bool false)))), .tuple [.none], .none, .str "knowing"]), E') := by
  have q1 : opE (on2 gMulA) [.e (tupE [cst (.bool false)]), .e (cst (.int 10))] E' = R.ok (tup (List.replicate 10 (.bool false)), E') := opE_of (evA_ee (f := tupE [cst (.bool false)]) (c := tup [.bool false]) (env1 := E') rfl (g := cst (.int 10)) (d := int 10) (env2 := E') rfl) rfl ten_false
  have q2 : opE (on2 gMulA) [.e (tupE [opE (on2 gMulA) [.e (tupE [cst (.bool false)]), .e (cst (.int 10))]]), .e (cst (.int 10))] E' = R.ok (tup (List.replicate 10 (.tuple (List.replicate 10 (.bool false)))), E') := opE_of (evA_ee (tup_1 q1 rfl) (g := cst (.int 10)) (d := int 10) (env2 := E') rfl) rfl ten_rows
  have q3 : lstE [opE (on2 gAdd) [.e (tupE [opE (on2 gAdd) [.e (tupE [cst (.int 0)]), .e (cut1E (.s 5) 1 (some (.e (cst (.int 1)))))]]), .e (cut1E (.s 3) 1 (some (.e (cst (.int 1)))))], opE (on2 gAdd) [.e (tupE [opE (on2 gAdd) [.e (tupE [cst .none]), .e (cut1E (.s 5) 1 (some (.e (cst (.int 1)))))]]), .e (cut1E (.s 3) 1 (some (.e (cst (.int 1)))))], opE (on2 gMulA) [.e (tupE [opE (on2 gMulA) [.e (tupE [cst (.bool false)]), .e (cst (.int 10))]]), .e (cst (.int 10))], tupE [cst .none], cst .none, cst (.str "knowing")] E' =
      R.ok (lst [.tuple (.tuple (.int 0 :: rt) :: tl), .tuple (.tuple (.none :: rt) :: tl), .tuple (List.replicate 10 (.tuple (List.replicate 10 (.bool false)))), .tuple [.none], .none, .str "knowing"], E') := by
    exact EvS.lst (.cons (head_row h3 h5 hr hl) (.cons (head_row h3 h5 hr hl) (.cons q2 (.cons rfl (.cons rfl (.cons rfl .nil))))))
  refine opE_of (evA_ee hv q3) rfl ?_
  show (match (Cell.fz (.list ds)).lst?, (lst [.tuple (.tuple (.int 0 :: rt) :: tl), .tuple (.tuple (.none :: rt) :: tl), .tuple (List.replicate 10 (.tuple (List.replicate 10 (.bool false)))), .tuple [.none], .none, .str "knowing"]).lst? with
      | some xs, some ys => if xs.length + ys.length ≤ lim then some (lst (xs ++ ys)) else none
      | _, _ => none) = _
  rw [lst_look]
  exact if_pos (by unfold lim; simp only [List.length_cons, List.length_nil]; omega)
end Kk91
namespace Kk91
open PySem L2 PF
def rtD (m : Nat) (M : Mat) : List D := (List.range m).map fun b => .bool (M 0 (b + 1))
def tlD (m : Nat) (M : Mat) : List D := (List.range m).map fun a => rowD (m + 1) M (a + 1)
theorem row_cons (m : Nat) (M : Mat) : rowD (m + 1) M 0 = .tuple (.bool (M 0 0) :: rtD m M) := by
  unfold rowD rtD
  rw [List.range_succ_eq_map, List.map_cons, List.map_map] <;> rfl
theorem mat_cons (m : Nat) (M : Mat) : matD (m + 1) M = .tuple (.tuple (.bool (M 0 0) :: rtD m M) :: tlD m M) := by
  rw [← row_cons]
  unfold matD tlD
  rw [List.range_succ_eq_map, List.map_cons, List.map_map] <;> rfl
theorem rt_len (m : Nat) (M : Mat) : (rtD m M).length = m := by unfold rtD; simp
theorem tl_len (m : Nat) (M : Mat) : (tlD m M).length = m := by unfold tlD; simp
def oddD (m : Nat) (M : Mat) : List D := [.tuple [], .list (.tuple (.bool (M 0 0) :: rtD m M) :: tlD m M), .tuple (.list (.bool (M 0 0) :: rtD m M) :: tlD m M), .tuple (.tuple ((.bool (M 0 0) :: rtD m M) ++ [.bool false]) :: tlD m M), .tuple (.tuple (rtD m M) :: tlD m M), .tuple (.tuple (.bool true :: rtD m M) :: tlD m M)]
def oddD2 (m : Nat) (M : Mat) : List D := [.tuple (.tuple (.int 0 :: rtD m M) :: tlD m M), .tuple (.tuple (.none :: rtD m M) :: tlD m M), .tuple (List.replicate 10 (.tuple (List.replicate 10 (.bool false)))), .tuple [.none], .none, .str "knowing"]
theorem first_bad {m : Nat} {M : Mat} (hm : m ≤ 8) {r : D} (h : knownRow (m + 1) r = false) : den_is_knowing [.tuple (r :: tlD m M)] = R.ok (PF.bool false) := by
  have hl : (r :: tlD m M).length = m + 1 := by rw [List.length_cons, tl_len]
  refine know_row (by omega) ?_
  rw [hl, List.all_cons, h] <;> rfl
theorem odd_no {m : Nat} {M : Mat} (hm : m ≤ 8) : ∀ x ∈ oddD m M ++ oddD2 m M, den_is_knowing [x] = R.ok (PF.bool false) := by
  intro x hx
  unfold oddD oddD2 at hx
  simp only [List.cons_append, List.nil_append, List.mem_cons, List.not_mem_nil, or_false] at hx
  rcases hx with rfl | rfl | rfl | rfl | rfl | rfl | rfl | rfl | rfl | rfl | rfl | rfl
  · exact know_len (by simp)
  · exact know_no fun ds z => by cases z
  · exact first_bad hm rfl
  · refine first_bad hm ?_
    rw [kr_tup, decide_eq_false] <;> first | rfl | (rw [List.length_cons, List.length_append, rt_len, List.length_singleton]; omega)
  · refine first_bad hm ?_
    rw [kr_tup, decide_eq_false] <;> first | rfl | (rw [rt_len]; omega)
  · have e : (.tuple (.tuple (.bool true :: rtD m M) :: tlD m M) : D) = matD (m + 1) (updM M 0 0 true) := by
      rw [mat_cons]
      have e1 : updM M 0 0 true 0 0 = true := by simp [updM]
      have e2 : rtD m (updM M 0 0 true) = rtD m M := by
        unfold rtD
        refine List.map_congr_left fun b _ => ?_
        simp [updM]
      have e3 : tlD m (updM M 0 0 true) = tlD m M := by
        unfold tlD
        refine List.map_congr_left fun a _ => ?_
        unfold rowD
        congr 1
      rw [e1, e2, e3]
    rw [e, know_mat (by omega) (by omega)]
    have : (List.range (m + 1)).any (fun i => updM M 0 0 true i i) = true := List.any_eq_true.mpr ⟨0, List.mem_range.mpr (by omega), by simp [updM]⟩
    rw [this] <;> rfl
  · refine first_bad hm ?_
    rw [kr_tup, List.all_cons, show isB (.int 0) = false from rfl, Bool.false_and, Bool.and_false]
  · refine first_bad hm ?_
    rw [kr_tup, List.all_cons, show isB .none = false from rfl, Bool.false_and, Bool.and_false]
  · exact know_len (by simp)
  · exact know_row (by simp) rfl
  · exact know_no fun ds z => by cases z
  · exact know_no fun ds z => by cases z
theorem den_law_ok (ns : List Int) (hns : ns.length ≤ 63) : den_law [.list (ns.map PyData.int)] = R.ok (PF.bool true) := by
  show fin1 (F_law [some (.fz (.list (ns.map PyData.int))), none, none, none, none, none, none, none, none, none, none, none, none, none, none]) = _
  generalize hS : (.fz (.list (ns.map PyData.int)) : Cell) = S
  obtain ⟨l, hd, _, _⟩ := den_draws ns hns
  unfold F_law
  have h1 : callE (den__law_draws) [.s 0] [some S, none, none, none, none, none, none, none, none, none, none, none, none, none, none] = R.ok (intC l, [some S, none, none, none, none, none, none, none, none, none, none, none, none, none, none]) := by
    subst hS
    exact callE_of (l := [.s 0]) rfl rfl hd
  clear hS hd
  rw [seqS_nx (asgS_of h1 (env2 := [some S, some (intC l), none, none, none, none, none, none, none, none, none, none, none, none, none]) rfl)]
  obtain ⟨m, l1, hm, h2⟩ := take_call (l := l) (b := 9) (by omega) (as := [.e (cst (.int 9))]) (args := [.v (int 9)]) (env := [some S, some (intC l), none, none, none, none, none, none, none, none, none, none, none, none, none]) rfl rfl rfl
  obtain ⟨k, l2, hk, h3⟩ := take_call (l := l1) (b := 3) (by omega) (as := [.e (cst (.int 3))]) (args := [.v (int 3)]) (env := [some S, some (intC l1), none, none, none, none, none, none, none, none, none, none, none, none, none]) rfl rfl rfl
  have a1 : ∀ i : Nat, gAdd (int 1) (int (i : Nat)) = some (int ((i + 1 : Nat) : Int)) := fun i => by
    rw [gAdd_int, Int.natCast_add, Int.add_comm] <;> rfl
  have p1 : parS [opE (on2 gAdd) [.e (cst (.int 1)), .e (callI (den__law_take) 1 [.e (cst (.int 9))])], opE (on2 gAdd) [.e (cst (.int 1)), .e (callI (den__law_take) 1 [.e (cst (.int 3))])]] [nameT 7, nameT 8] [some S, some (intC l), none, none, none, none, none, none, none, none, none, none, none, none, none] = R.ok (.nx, E1 S l2 (m + 1) (k + 1) none none none none) := by
    have q1 := opE_of (g := on2 gAdd) (evA_ee (f := cst (.int 1)) (c := int 1) rfl h2) rfl (a1 m)
    have q2 := opE_of (g := on2 gAdd) (evA_ee (f := cst (.int 1)) (c := int 1) rfl h3) rfl (a1 k)
    unfold parS
    rw [show evA (([opE (on2 gAdd) [.e (cst (.int 1)), .e (callI (den__law_take) 1 [.e (cst (.int 9))])], opE (on2 gAdd) [.e (cst (.int 1)), .e (callI (den__law_take) 1 [.e (cst (.int 3))])]] : List EF).map .e) [some S, some (intC l), none, none, none, none, none, none, none, none, none, none, none, none, none] = _ from evA_ee q1 q2] <;> rfl
  rw [seqS_nx p1]
  obtain ⟨M0, l3, hM0, h4⟩ := make_rows (S := S) (l := l2) (n := m + 1) (sh := k + 1) (by omega)
  rw [seqS_nx (asgS_of h4 (env2 := E1 S l3 (m + 1) (k + 1) (some (rowsC (m + 1) M0)) none none none) rfl)]
  obtain ⟨M1, l4, o9, o10, hM1, f10, h5⟩ := make_star (S := S) (l := l3) (n := m + 1) (sh := k + 1) (M := M0) (by omega) (by omega) hM0
  rw [seqS_nx h5]
  obtain ⟨M, l5, p10, o13, hM, ⟨g10, g13⟩, h6⟩ := make_flip (S := S) (l := l4) (n := m + 1) (sh := k + 1) (M := M1) (o9 := o9) (o10 := o10) (by omega) (by omega) hM1 f10
  rw [seqS_nx h6]
  obtain ⟨c2, h7⟩ := make_tuple (S := S) (l := l5) (n := m + 1) (sh := k + 1) (M := M) (o9 := o9) (o10 := p10) (o13 := o13) (by omega)
  rw [seqS_nx (asgS_of h7 (env2 := E2 S l5 c2 (m + 1) (k + 1) M none o9 p10 none none o13) rfl)]
  have p2 : parS [callE (den__law_questions) [.s 3], callE (den__law_star) [.s 3]] [nameT 11, nameT 9] (E2 S l5 c2 (m + 1) (k + 1) M none o9 p10 none none o13) = R.ok (.nx, E2 S l5 c2 (m + 1) (k + 1) M none (some (.fz (starD (m + 1) M))) p10 (some (tup (prs (toldL (m + 1) M)))) none o13) := by
    have q1 : callE (den__law_questions) [.s 3] (E2 S l5 c2 (m + 1) (k + 1) M none o9 p10 none none o13) = R.ok (tup (prs (toldL (m + 1) M)), E2 S l5 c2 (m + 1) (k + 1) M none o9 p10 none none o13) := callE_of (l := [.s 3]) rfl rfl ((den_questions (by omega) (by omega)).trans (by rw [told_eq]))
    have q2 : callE (den__law_star) [.s 3] (E2 S l5 c2 (m + 1) (k + 1) M none o9 p10 none none o13) = R.ok (.fz (starD (m + 1) M), E2 S l5 c2 (m + 1) (k + 1) M none o9 p10 none none o13) := callE_of (l := [.s 3]) rfl rfl ((den_lawstar (by omega)).trans (by rw [lawStar_eq (by omega) hM, star_fz]))
    unfold parS
    rw [show evA (([callE (den__law_questions) [.s 3], callE (den__law_star) [.s 3]] : List EF).map .e) (E2 S l5 c2 (m + 1) (k + 1) M none o9 p10 none none o13) = _ from evA_ee q1 q2] <;> rfl
  rw [seqS_nx p2, seqS_nx (check_ok (by omega) (by omega) hM)]
  have hit : itA (one1 rng1) [.e (cst (.int 6))] (E2 S l5 c2 (m + 1) (k + 1) M none (some (.fz (starD (m + 1) M))) p10 (some (tup (prs (toldL (m + 1) M)))) none o13) = R.ok ((List.range 6).map fun k => (.int (k : Nat) : D), E2 S l5 c2 (m + 1) (k + 1) M none (some (.fz (starD (m + 1) M))) p10 (some (tup (prs (toldL (m + 1) M)))) none o13) := it_up0 ⟨[.v (int 6)], rfl, rfl⟩ (by omega)
  have z := forL_inv (t := nameT 4) (b := B_law_2) (fun _ env => ∃ l o4 o12, env = E2 S l c2 (m + 1) (k + 1) M o4 (some (.fz (starD (m + 1) M))) p10 (some (tup (prs (toldL (m + 1) M)))) o12 o13) (ds := (List.range 6).map fun k => (.int (k : Nat) : D)) (k := 0) (env := E2 S l5 c2 (m + 1) (k + 1) M none (some (.fz (starD (m + 1) M))) p10 (some (tup (prs (toldL (m + 1) M)))) none o13) ⟨l5, none, none, rfl⟩ fun i d env hi ⟨l, o4, o12, he⟩ => by
    subst he
    obtain ⟨l', o12', h⟩ := bent_ok (S := S) (c2 := c2) (l := l) (n := m + 1) (sh := k + 1) (M := M) (o4 := some (.fz d)) (o10 := p10) (o12 := o12) (o13 := o13) (by omega) (by omega) hM g10 g13
    exact ⟨E2 S l c2 (m + 1) (k + 1) M (some (.fz d)) (some (.fz (starD (m + 1) M))) p10 (some (tup (prs (toldL (m + 1) M)))) o12 o13, .nx, _, rfl, h, .inl rfl, l', _, o12', rfl⟩
  obtain ⟨env', h8, l6, o4, o12, he⟩ := z
  subst he
  rw [seqS_nx ((forS_of hit).trans h8)]
  generalize (some (Cell.fz (starD (m + 1) M)) : Option Cell) = w9
  generalize (some (tup (prs (toldL (m + 1) M))) : Option Cell) = w11
  have h9 : opE (on2 gIx) [.s 3, .e (cst (.int 0))] (E2 S l6 c2 (m + 1) (k + 1) M o4 w9 p10 w11 o12 o13) = R.ok (.fz (rowD (m + 1) M 0), E2 S l6 c2 (m + 1) (k + 1) M o4 w9 p10 w11 o12 o13) := opE_of (l := [.s 3, .v (int 0)]) rfl rfl (show gIx (.fz (matD (m + 1) M)) (int ((0 : Nat) : Int)) = _ from ix_row (by omega))
  rw [seqS_nx (asgS_of h9 (env2 := [some S, some (intC l6), some c2, some (.fz (matD (m + 1) M)), o4, some (.fz (rowD (m + 1) M 0)), none, some (int ((m + 1 : Nat) : Int)), some (int ((k + 1 : Nat) : Int)), w9, p10, w11, o12, o13, none]) rfl)]
  rw [row_cons, mat_cons]
  have r9 : (rtD m M).length ≤ 9 := by rw [rt_len]; omega
  have t9 : (tlD m M).length ≤ 9 := by rw [tl_len]; omega
  have h10 := odd1 (E := [some S, some (intC l6), some c2, some (tup (.tuple (.bool (M 0 0) :: rtD m M) :: tlD m M)), o4, some (tup (.bool (M 0 0) :: rtD m M)), none, some (int ((m + 1 : Nat) : Int)), some (int ((k + 1 : Nat) : Int)), w9, p10, w11, o12, o13, none]) rfl rfl r9 t9
  rw [seqS_nx (asgS_of h10 (env2 := [some S, some (intC l6), some c2, some (tup (.tuple (.bool (M 0 0) :: rtD m M) :: tlD m M)), o4, some (tup (.bool (M 0 0) :: rtD m M)), some (.ol [tup [], lst (.tuple (.bool (M 0 0) :: rtD m M) :: tlD m M), tup (.list (.bool (M 0 0) :: rtD m M) :: tlD m M), tup (.tuple ((.bool (M 0 0) :: rtD m M) ++ [.bool false]) :: tlD m M), tup (.tuple (rtD m M) :: tlD m M), tup (.tuple (.bool true :: rtD m M) :: tlD m M)]), some (int ((m + 1 : Nat) : Int)), some (int ((k + 1 : Nat) : Int)), w9, p10, w11, o12, o13, none]) rfl)]
  have hv : varZ 6 [some S, some (intC l6), some c2, some (tup (.tuple (.bool (M 0 0) :: rtD m M) :: tlD m M)), o4, some (tup (.bool (M 0 0) :: rtD m M)), some (.ol [tup [], lst (.tuple (.bool (M 0 0) :: rtD m M) :: tlD m M), tup (.list (.bool (M 0 0) :: rtD m M) :: tlD m M), tup (.tuple ((.bool (M 0 0) :: rtD m M) ++ [.bool false]) :: tlD m M), tup (.tuple (rtD m M) :: tlD m M), tup (.tuple (.bool true :: rtD m M) :: tlD m M)]), some (int ((m + 1 : Nat) : Int)), some (int ((k + 1 : Nat) : Int)), w9, p10, w11, o12, o13, none] =
      R.ok (.fz (.list (oddD m M)), [some S, some (intC l6), some c2, some (tup (.tuple (.bool (M 0 0) :: rtD m M) :: tlD m M)), o4, some (tup (.bool (M 0 0) :: rtD m M)), some (.fz (.list (oddD m M))), some (int ((m + 1 : Nat) : Int)), some (int ((k + 1 : Nat) : Int)), w9, p10, w11, o12, o13, none]) := by
    have n1 : Cell.nd (lst (.tuple (.bool (M 0 0) :: rtD m M) :: tlD m M)) = true := nds_fz _
    have d1 : Cell.d (lst (.tuple (.bool (M 0 0) :: rtD m M) :: tlD m M)) = .list (.tuple (.bool (M 0 0) :: rtD m M) :: tlD m M) := by
      show PyData.list (Cell.ds _) = _
      rw [ds_fz]
    have n2 : Cell.nd (.ol [tup [], lst (.tuple (.bool (M 0 0) :: rtD m M) :: tlD m M), tup (.list (.bool (M 0 0) :: rtD m M) :: tlD m M), tup (.tuple ((.bool (M 0 0) :: rtD m M) ++ [.bool false]) :: tlD m M), tup (.tuple (rtD m M) :: tlD m M), tup (.tuple (.bool true :: rtD m M) :: tlD m M)]) = true := by
      show (true && (Cell.nd (lst (.tuple (.bool (M 0 0) :: rtD m M) :: tlD m M)) && true)) = true
      rw [n1] <;> rfl
    have d2 : Cell.d (.ol [tup [], lst (.tuple (.bool (M 0 0) :: rtD m M) :: tlD m M), tup (.list (.bool (M 0 0) :: rtD m M) :: tlD m M), tup (.tuple ((.bool (M 0 0) :: rtD m M) ++ [.bool false]) :: tlD m M), tup (.tuple (rtD m M) :: tlD m M), tup (.tuple (.bool true :: rtD m M) :: tlD m M)]) = .list (oddD m M) := by
      show PyData.list [_, Cell.d (lst (.tuple (.bool (M 0 0) :: rtD m M) :: tlD m M)), _, _, _, _] = _
      rw [d1] <;> rfl
    show (if Cell.nd (.ol _) = true then R.ok ((.fz (Cell.d (.ol _)) : Cell), _) else none) = _
    rw [if_pos n2, d2] <;> rfl
  have h11 := odd2 (c6 := .fz .none) (E' := [some S, some (intC l6), some c2, some (tup (.tuple (.bool (M 0 0) :: rtD m M) :: tlD m M)), o4, some (tup (.bool (M 0 0) :: rtD m M)), some (.fz (.list (oddD m M))), some (int ((m + 1 : Nat) : Int)), some (int ((k + 1 : Nat) : Int)), w9, p10, w11, o12, o13, none]) rfl rfl hv (by unfold oddD; simp) r9 t9
  rw [seqS_nx (asgS_of h11 (env2 := [some S, some (intC l6), some c2, some (tup (.tuple (.bool (M 0 0) :: rtD m M) :: tlD m M)), o4, some (tup (.bool (M 0 0) :: rtD m M)), some (lst (oddD m M ++ oddD2 m M)), some (int ((m + 1 : Nat) : Int)), some (int ((k + 1 : Nat) : Int)), w9, p10, w11, o12, o13, none]) rfl)]
  generalize hds : oddD m M ++ oddD2 m M = ds
  have hno : ∀ x ∈ ds, den_is_knowing [x] = R.ok (PF.bool false) := by
    rw [← hds]
    exact odd_no (by omega)
  have hdl : ds.length ≤ 12 := by
    rw [← hds]
    unfold oddD oddD2
    simp
  have hit2 : itE (varZ 6) [some S, some (intC l6), some c2, some (tup (.tuple (.bool (M 0 0) :: rtD m M) :: tlD m M)), o4, some (tup (.bool (M 0 0) :: rtD m M)), some (lst ds), some (int ((m + 1 : Nat) : Int)), some (int ((k + 1 : Nat) : Int)), w9, p10, w11, o12, o13, none] = R.ok (ds, [some S, some (intC l6), some c2, some (tup (.tuple (.bool (M 0 0) :: rtD m M) :: tlD m M)), o4, some (tup (.bool (M 0 0) :: rtD m M)), some (.fz (.list ds)), some (int ((m + 1 : Nat) : Int)), some (int ((k + 1 : Nat) : Int)), w9, p10, w11, o12, o13, none]) := by
    have d1 : Cell.d (lst ds) = .list ds := by
      show PyData.list (Cell.ds _) = _
      rw [ds_fz]
    have hv : varZ 6 [some S, some (intC l6), some c2, some (tup (.tuple (.bool (M 0 0) :: rtD m M) :: tlD m M)), o4, some (tup (.bool (M 0 0) :: rtD m M)), some (lst ds), some (int ((m + 1 : Nat) : Int)), some (int ((k + 1 : Nat) : Int)), w9, p10, w11, o12, o13, none] = R.ok (.fz (.list ds), [some S, some (intC l6), some c2, some (tup (.tuple (.bool (M 0 0) :: rtD m M) :: tlD m M)), o4, some (tup (.bool (M 0 0) :: rtD m M)), some (.fz (.list ds)), some (int ((m + 1 : Nat) : Int)), some (int ((k + 1 : Nat) : Int)), w9, p10, w11, o12, o13, none]) := by
      show (if Cell.nd (lst ds) = true then R.ok ((.fz (Cell.d (lst ds)) : Cell), _) else none) = _
      rw [if_pos (show Cell.nd (lst ds) = true from nds_fz ds), d1] <;> rfl
    unfold itE
    rw [hv] <;> rfl
  have z := lcL_pure (vs := [14]) (t := nameT 14) (c := valB (opE (on2 (gIs true)) [.e (callE (den_is_knowing) [.s 14]), .e (cst (.bool false))])) (f := varZ 14) (id : D → D) (fun _ => false) (fun _ => .fz .none) (env := [some S, some (intC l6), some c2, some (tup (.tuple (.bool (M 0 0) :: rtD m M) :: tlD m M)), o4, some (tup (.bool (M 0 0) :: rtD m M)), some (.fz (.list ds)), some (int ((m + 1 : Nat) : Int)), some (int ((k + 1 : Nat) : Int)), w9, p10, w11, o12, o13, none]) ds [] (by unfold lim; simp; omega) fun x hx => by
    refine ⟨[some S, some (intC l6), some c2, some (tup (.tuple (.bool (M 0 0) :: rtD m M) :: tlD m M)), o4, some (tup (.bool (M 0 0) :: rtD m M)), some (.fz (.list ds)), some (int ((m + 1 : Nat) : Int)), some (int ((k + 1 : Nat) : Int)), w9, p10, w11, o12, o13, some (.fz x)], rfl, [some S, some (intC l6), some c2, some (tup (.tuple (.bool (M 0 0) :: rtD m M) :: tlD m M)), o4, some (tup (.bool (M 0 0) :: rtD m M)), some (.fz (.list ds)), some (int ((m + 1 : Nat) : Int)), some (int ((k + 1 : Nat) : Int)), w9, p10, w11, o12, o13, some (.fz x)], ?_, fun _ => rfl, fun q => (by cases q)⟩
    exact valB_bool (opE_of (evA_ee (callE_of (l := [.s 14]) rfl rfl (hno x hx)) (g := cst (.bool false)) (d := PF.bool false) rfl) rfl rfl)
  rw [List.map_id, show (ds.filter fun _ => false) = [] from List.filter_eq_nil_iff.mpr fun _ _ => by simp] at z
  have z2 := lcE_of hit2 z
  rw [retS_of (opE_of (evA_ee z2 (g := lstE []) (d := .ol []) rfl) rfl (c := PF.bool true) rfl)] <;> rfl
/-- the law's theorem -/
theorem holds : PySem.Challenge.rw_guestsheld_k91_whole_stars_among_guests.Holds := holds_of_k91 den_law_ok
end Kk91
theorem PySem.Challenge.cw_guestsheld_k91_whole_stars_among_guests_holds : PySem.Challenge.rw_guestsheld_k91_whole_stars_among_guests.Holds :=
  Kk91.holds
