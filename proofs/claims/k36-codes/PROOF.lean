import PyProof.Rows.All
import Wide.All
import OpenK.AllK
import Wide.FinOn
import HandS.ForMost
import HandS.ForExc
import HandS.Defaults
import HandS.MakeKw
import HandS.MakeKwOnly
import HandS.Property
import HandS.Codes
import HandS.IsInst
import HandS.TryMany
import HandS.Wide
import HandS.FStr
import HandS.SortKw
import HandS.Deep
import HandS.TupAny
import HandS.ClsMeth
import HandS.Strs
import HandS.Flow
import HandS.Head0
import HandS.Head1
import HandS.Head2
import HandS.HeadEnd
import HandS.HeadHook1
import HandS.HeadHook2
import KE.KStateDown
import PySem.Challenge.RW_surenear_k36_codes_number_by_number
set_option Elab.async false
set_option linter.all false
set_option maxRecDepth 100000
set_option maxHeartbeats 4000000
namespace Z
open PySem PySem.Spec PyProof.Rows L2

/-! ### data that never change; objects that do -/
inductive D where
  | non | bl (b : Bool) | int (i : Int) | str (x : List Nat) | lst (xs : List D) | tup (xs : List D) | ins (c : Nat) (fs : List (Nat × D)) | hdl (k : Nat) | scr (ns : List Int)
/-- an object that changes -/
inductive O where
  | lst (xs : List D) | ins (c : Nat) (fs : List (Nat × D)) | dk (kvs : List (Key × D)) | dt (kvs : List (List Key × D))
/-- a slot of a frame: without a value, a datum, an object of the frame's own -/
inductive Sl where
  | un | d (x : D) | o (x : O)

/-- the row's names: where the classes stand, what the fields are called -/
structure Nm where
  K : PySem.W.Frag
  ca : Nat → Addr
  fn : Nat → Str
  inj : ∀ m n, fn m = fn n → m = n

/-- the law's script: known to the object, or one of the written part -/
def Scr (K : PySem.W.Frag) (H : Hp) (p : Addr) (ns : List Int) : Prop := (∃ o, H p = some (.frz o (.lst (ns.map V.int)))) ∨
  ∃ (o : Obj) (its : Array Value) (n : Nat), K.lookup p = some o ∧ o.cls = .type "list" ∧ o.dict = none ∧ o.data = .seq its n ∧ its.size ≤ sizeLine ∧ Vals (ns.map V.int) its.toList
theorem Scr.sq {K : PySem.W.Frag} {H : Hp} {p : Addr} {ns : List Int} (h : Scr K H p ns) : SqL K H p (ns.map V.int) := by
  rcases h with ⟨o, h⟩ | h
  · exact .inl (.inr ⟨o, h⟩)
  · exact .inr h

/-- what holds of a class, of the names that its instances bear -/
def InsOk (N : Nm) (c : Nat) (fs : List (Nat × D)) : Prop := Cls N.K (N.ca c) ∧ ∀ p ∈ fs, NoAttr N.K (N.ca c) (N.fn p.1)

section
variable (N : Nm)
mutual
/-- the value stands for the datum; A: the cells, al: the handles -/
inductive Rep (A : List Addr) (al : List Addr) (H : Hp) : V → D → Prop
  | non : Rep A al H .non .non
  | bl (b : Bool) : Rep A al H (.bl b) (.bl b)
  | int (i : Int) : Rep A al H (.int i) (.int i)
  | str (x : List Nat) : Rep A al H (.str ⟨x.toArray⟩) (.str x)
  | lst {p : Addr} {vs : List V} {ds : List D} : p ∉ A → H p = some (.lst vs) → Reps A al H vs ds → Rep A al H (.ref p) (.lst ds)
  | tup {p : Addr} {vs : List V} {ds : List D} : SqT N.K H p vs → Reps A al H vs ds → Rep A al H (.ref p) (.tup ds)
  | ins {p dx : Addr} {c : Nat} {vs : List (Str × V)} {fs : List (Nat × D)} : p ∉ A → H p = some (.ins (N.ca c) dx vs) → RepF A al H vs fs → InsOk N c fs → Rep A al H (.ref p) (.ins c fs)
  | hdl {a : Addr} {k : Nat} : al[k]? = some a → Rep A al H (.ref a) (.hdl k)
  | scr {p : Addr} {ns : List Int} : Scr N.K H p ns → Rep A al H (.ref p) (.scr ns)
inductive Reps (A : List Addr) (al : List Addr) (H : Hp) : List V → List D → Prop
  | nil : Reps A al H [] []
  | cons {v : V} {d : D} {vs : List V} {ds : List D} : Rep A al H v d → Reps A al H vs ds → Reps A al H (v :: vs) (d :: ds)
inductive RepF (A : List Addr) (al : List Addr) (H : Hp) : List (Str × V) → List (Nat × D) → Prop
  | nil : RepF A al H [] []
  | cons {n : Nat} {v : V} {d : D} {vs : List (Str × V)} {ds : List (Nat × D)} : Rep A al H v d → RepF A al H vs ds → RepF A al H ((N.fn n, v) :: vs) ((n, d) :: ds)
end
def RepK {κ : Type} (A : List Addr) (al : List Addr) (H : Hp) : List (κ × V) → List (κ × D) → Prop := Paired fun p q => p.1 = q.1 ∧ Rep N A al H p.2 q.2
/-- what an object that changes stands for -/
inductive RepO (A : List Addr) (al : List Addr) (H : Hp) (a : Addr) : O → Prop
  | lst {vs : List V} {ds : List D} : H a = some (.lst vs) → Reps N A al H vs ds → RepO A al H a (.lst ds)
  | ins {dx : Addr} {c : Nat} {vs : List (Str × V)} {fs : List (Nat × D)} : H a = some (.ins (N.ca c) dx vs) → RepF N A al H vs fs → InsOk N c fs → RepO A al H a (.ins c fs)
  | dk {vs : List (Key × V)} {ds : List (Key × D)} : H a = some (.dK vs) → RepK N A al H vs ds → RepO A al H a (.dk ds)
  | dt {vs : List (List Key × V)} {ds : List (List Key × D)} : H a = some (.dT vs) → RepK N A al H vs ds → RepO A al H a (.dt ds)
abbrev ads (Z : List (Addr × O)) : List Addr := Z.map (·.1)
/-- cells, handles, values that live -/
structure Core (Z : List (Addr × O)) (al : List Addr) (T : List (V × D)) (H : Hp) : Prop where
  nd : (ads Z).Nodup
  cell : ∀ c ∈ Z, RepO N (ads Z) al H c.1 c.2
  live : ∀ p ∈ T, Rep N (ads Z) al H p.1 p.2
/-- a world: cells of ours, the memory, values that live, the abstract heap -/
structure World (C : List (Addr × O)) (al : List Addr) (M : List O) (T : List (V × D)) (H : Hp) : Prop where
  len : al.length = M.length
  core : Core N (C ++ al.zip M) al T H
end
abbrev Ext (H H' : Hp) : Prop := ∀ a o, H a = some o → H' a = some o
theorem Ext.rfl {H : Hp} : Ext H H := fun _ _ h => h
theorem Ext.trans {H H1 H2 : Hp} (a : Ext H H1) (b : Ext H1 H2) : Ext H H2 := fun p o h => b p o (a p o h)
theorem Ext.new {H : Hp} {p : Addr} {u : HO} (h : H p = none) : Ext H (upd H p u) := fun a o e => by
  rw [upd_ne (ne_of_none e h)]
  exact e

/-! ### what is kept -/
/-- what stands outside A stays as it is, B adds none that stood there, the handles go on -/
structure Keep (A B al bl : List Addr) (H H' : Hp) : Prop where
  hp : ∀ p o, p ∉ A → H p = some o → H' p = some o
  tp : ∀ p xs, H p = some (.tup xs) → H' p = some (.tup xs)
  fz : ∀ p o u, H p = some (.frz o u) → H' p = some (.frz o u)
  out : ∀ p, p ∉ A → H p ≠ none → p ∉ B
  al : ∀ (k : Nat) (a : Addr), al[k]? = some a → bl[k]? = some a
section
variable {N : Nm} {A B al bl : List Addr} {H H' : Hp}
theorem Keep.sqt {K : PySem.W.Frag} (k : Keep A B al bl H H') {p : Addr} {vs : List V} (h : SqT K H p vs) : SqT K H' p vs := by
  rcases h with (h | ⟨o, h⟩) | h
  · exact .inl (.inl (k.tp _ _ h))
  · exact .inl (.inr ⟨o, k.fz _ _ _ h⟩)
  · exact .inr h
theorem Keep.scr {K : PySem.W.Frag} (k : Keep A B al bl H H') {p : Addr} {ns : List Int} (h : Scr K H p ns) : Scr K H' p ns := by
  rcases h with ⟨o, h⟩ | h
  · exact .inl ⟨o, k.fz _ _ _ h⟩
  · exact .inr h
mutual
theorem Rep.keep (k : Keep A B al bl H H') : ∀ {v : V} {d : D}, Rep N A al H v d → Rep N B bl H' v d
  | _, _, .non => .non
  | _, _, .bl b => .bl b
  | _, _, .int i => .int i
  | _, _, .str x => .str x
  | _, _, .lst h1 h2 h3 => .lst (k.out _ h1 (by rw [h2]; exact fun z => nomatch z)) (k.hp _ _ h1 h2) (Reps.keep k h3)
  | _, _, .tup h1 h2 => .tup (k.sqt h1) (Reps.keep k h2)
  | _, _, .ins h1 h2 h3 h4 => .ins (k.out _ h1 (by rw [h2]; exact fun z => nomatch z)) (k.hp _ _ h1 h2) (RepF.keep k h3) h4
  | _, _, .hdl h => .hdl (k.al _ _ h)
  | _, _, .scr h => .scr (k.scr h)
theorem Reps.keep (k : Keep A B al bl H H') : ∀ {v : List V} {d : List D}, Reps N A al H v d → Reps N B bl H' v d
  | _, _, .nil => .nil
  | _, _, .cons h1 h2 => .cons (Rep.keep k h1) (Reps.keep k h2)
theorem RepF.keep (k : Keep A B al bl H H') : ∀ {v : List (Str × V)} {d : List (Nat × D)}, RepF N A al H v d → RepF N B bl H' v d
  | _, _, .nil => .nil
  | _, _, .cons h1 h2 => .cons (Rep.keep k h1) (RepF.keep k h2)
end
theorem RepK.keep {κ : Type} (k : Keep A B al bl H H') {v : List (κ × V)} {d : List (κ × D)} (h : RepK N A al H v d) : RepK N B bl H' v d := Paired.mapP h fun _ _ z => ⟨z.1, z.2.keep k⟩
theorem RepO.keep (k : Keep A B al bl H H') {a : Addr} {o : O} (ha : ∀ u, H a = some u → H' a = some u) (h : RepO N A al H a o) : RepO N B bl H' a o := by
  cases h with
  | lst h1 h2 => exact .lst (ha _ h1) (h2.keep k)
  | ins h1 h2 h3 => exact .ins (ha _ h1) (h2.keep k) h3
  | dk h1 h2 => exact .dk (ha _ h1) (h2.keep k)
  | dt h1 h2 => exact .dt (ha _ h1) (h2.keep k)
/-- what may be changed, and no tuple, nothing locked -/
def Soft : HO → Prop
  | .tup _ => False
  | .frz _ _ => False
  | _ => True
theorem RepO.there {a : Addr} {o : O} (h : RepO N A al H a o) : ∃ u, H a = some u ∧ Soft u := by
  cases h with
  | lst h1 h2 => exact ⟨_, h1, trivial⟩
  | ins h1 h2 _ => exact ⟨_, h1, trivial⟩
  | dk h1 h2 => exact ⟨_, h1, trivial⟩
  | dt h1 h2 => exact ⟨_, h1, trivial⟩
theorem keep_ext (e : Ext H H') : Keep A A al al H H' := ⟨fun p o _ h => e p o h, fun p xs h => e p _ h, fun p o u h => e p _ h, fun p h _ => h, fun _ _ h => h⟩
theorem keep_sub (h : ∀ p, p ∈ B → p ∈ A) : Keep A B al al H H := ⟨fun _ _ _ h => h, fun _ _ h => h, fun _ _ _ h => h, fun p hp _ hb => hp (h p hb), fun _ _ h => h⟩
/-- a soft object at a is changed, a stands in A -/
theorem keep_upd {a : Addr} {o u : HO} (ha : a ∈ A) (h : H a = some o) (s : Soft o) : Keep A A al al H (upd H a u) :=
  ⟨fun p v hp h => by rw [upd_ne (fun e => hp (by rw [e]; exact ha))]; exact h, fun p xs e => by
    rw [upd_ne (fun z => by rw [z, h] at e; cases e; exact s)]; exact e, fun p v w e => by
    rw [upd_ne (fun z => by rw [z, h] at e; cases e; exact s)]; exact e, fun p hp _ => hp, fun _ _ h => h⟩
/-- a new cell -/
theorem keep_new {a : Addr} {u : HO} (h : H a = none) : Keep A (a :: A) al al H (upd H a u) :=
  ⟨fun p v _ e => Ext.new h p v e, fun p xs e => Ext.new h p _ e, fun p v w e => Ext.new h p _ e, fun p hp n q => by
    rcases List.mem_cons.mp q with e | q
    · rw [e] at n; exact n h
    · exact hp q, fun _ _ h => h⟩
theorem Rep.keepP (k : Keep A B al bl H H') {x : V × D} (h : Rep N A al H x.1 x.2) : Rep N B bl H' x.1 x.2 := h.keep k
/-- values in a list of live ones -/
abbrev In2 (T : List (V × D)) : List V → List D → Prop := Paired fun v d => (v, d) ∈ T
theorem In2.reps {T : List (V × D)} (ht : ∀ p ∈ T, Rep N A al H p.1 p.2) : ∀ {vs : List V} {ds : List D}, In2 T vs ds → Reps N A al H vs ds
  | _, _, .nil => .nil
  | _, _, .cons h r => .cons (ht _ h) (In2.reps ht r)
theorem In2.mono {T T' : List (V × D)} (s : ∀ p ∈ T, p ∈ T') {vs : List V} {ds : List D} (h : In2 T vs ds) : In2 T' vs ds := Paired.mapP h fun _ _ z => s _ z
theorem In2.of_zip {T : List (V × D)} : ∀ {vs : List V} {ds : List D}, vs.length = ds.length → (∀ p ∈ vs.zip ds, p ∈ T) → In2 T vs ds
  | [], [], _, _ => .nil
  | v :: vs, d :: ds, l, h => .cons (h _ (by simp)) (In2.of_zip (by simpa using l) fun p hp => h p (by simp [hp]))
theorem Reps.len : ∀ {vs : List V} {ds : List D}, Reps N A al H vs ds → vs.length = ds.length
  | _, _, .nil => rfl
  | _, _, .cons _ h => by simp [h.len]
theorem Reps.mem : ∀ {vs : List V} {ds : List D}, Reps N A al H vs ds → ∀ p ∈ vs.zip ds, Rep N A al H p.1 p.2
  | _, _, .nil, p, hp => by simp at hp
  | _, _, .cons h r, p, hp => by
    rcases List.mem_cons.mp (by simpa using hp) with e | hp
    · rw [e]; exact h
    · exact r.mem p hp
theorem Reps.get : ∀ {vs : List V} {ds : List D} {i : Nat} {d : D}, Reps N A al H vs ds → ds[i]? = some d → ∃ v, vs[i]? = some v ∧ Rep N A al H v d
  | _, _, i, d, .nil, e => by simp at e
  | _, _, 0, d, .cons h r, e => by
    simp at e; subst e; exact ⟨_, rfl, h⟩
  | _, _, i + 1, d, .cons h r, e => by
    obtain ⟨v, e1, h1⟩ := Reps.get (i := i) (d := d) r (by simpa using e)
    exact ⟨v, by simpa using e1, h1⟩
theorem Reps.append : ∀ {vs ws : List V} {ds es : List D}, Reps N A al H vs ds → Reps N A al H ws es → Reps N A al H (vs ++ ws) (ds ++ es)
  | _, _, _, _, .nil, h => h
  | _, _, _, _, .cons a r, h => .cons a (Reps.append r h)
theorem Reps.take : ∀ {vs : List V} {ds : List D} (n : Nat), Reps N A al H vs ds → Reps N A al H (vs.take n) (ds.take n)
  | _, _, 0, _ => by simpa using Reps.nil
  | _, _, n + 1, .nil => by simpa using Reps.nil
  | _, _, n + 1, .cons h r => .cons h (Reps.take n r)
theorem Reps.drop : ∀ {vs : List V} {ds : List D} (n : Nat), Reps N A al H vs ds → Reps N A al H (vs.drop n) (ds.drop n)
  | _, _, 0, h => by simpa using h
  | _, _, n + 1, .nil => by simpa using Reps.nil
  | _, _, n + 1, .cons h r => Reps.drop n r
theorem Reps.set : ∀ {vs : List V} {ds : List D} (n : Nat) {v : V} {d : D}, Rep N A al H v d → Reps N A al H vs ds → Reps N A al H (vs.set n v) (ds.set n d)
  | _, _, 0, _, _, _, .nil => .nil
  | _, _, 0, _, _, q, .cons h r => .cons q r
  | _, _, n + 1, _, _, _, .nil => .nil
  | _, _, n + 1, _, _, q, .cons h r => .cons h (Reps.set n q r)
theorem Reps.eraseIdx : ∀ {vs : List V} {ds : List D} (n : Nat), Reps N A al H vs ds → Reps N A al H (vs.eraseIdx n) (ds.eraseIdx n)
  | _, _, 0, .nil => .nil
  | _, _, 0, .cons h r => r
  | _, _, n + 1, .nil => .nil
  | _, _, n + 1, .cons h r => .cons h (Reps.eraseIdx n r)
theorem Reps.reverse {vs : List V} {ds : List D} (h : Reps N A al H vs ds) : Reps N A al H vs.reverse ds.reverse := by
  induction vs generalizing ds with
  | nil => cases h; exact .nil
  | cons v vs ih => cases h with
    | cons a r => rw [List.reverse_cons, List.reverse_cons]; exact (ih r).append (.cons a .nil)
theorem Reps.zip : ∀ {vs : List V} {ds : List D}, vs.length = ds.length → (∀ p ∈ vs.zip ds, Rep N A al H p.1 p.2) → Reps N A al H vs ds
  | [], [], _, _ => .nil
  | v :: vs, d :: ds, l, h => .cons (h (v, d) (by simp)) (Reps.zip (by simpa using l) fun p hp => h p (by simp [hp]))
end

/-! ### worlds -/
section
variable {N : Nm} {al : List Addr} {M : List O} {C Z Z' : List (Addr × O)} {T T' : List (V × D)} {H H' : Hp}
theorem Core.there (h : Core N Z al T H) {p : Addr} (hp : p ∈ ads Z) : ∃ u, H p = some u ∧ Soft u := by
  obtain ⟨c, hc, e⟩ := List.mem_map.mp hp
  have e : c.1 = p := e
  subst e
  exact (h.cell c hc).there
theorem Core.perm (p : Z.Perm Z') (h : Core N Z al T H) : Core N Z' al T H := by
  have e : (ads Z).Perm (ads Z') := p.map _
  have k : Keep (ads Z) (ads Z') al al H H := keep_sub fun p hp => e.mem_iff.mpr hp
  exact ⟨e.nodup_iff.mp h.nd, fun c hc => (h.cell c (p.mem_iff.mpr hc)).keep k fun _ z => z, fun p hp => (h.live p hp).keep k⟩
theorem Core.sub (h : Core N Z al T H) (s : ∀ p ∈ T', p ∈ T) : Core N Z al T' H := ⟨h.nd, h.cell, fun p hp => h.live p (s p hp)⟩
theorem Core.ext (h : Core N Z al T H) (e : Ext H H') : Core N Z al T H' :=
  ⟨h.nd, fun c hc => (h.cell c hc).keep (keep_ext e) fun u => e _ u, fun p hp => (h.live p hp).keep (keep_ext e)⟩
/-- a cell is let go -/
theorem Core.drop {c : Addr × O} (h : Core N (c :: Z) al T H) : Core N Z al T H := by
  have k : Keep (ads (c :: Z)) (ads Z) al al H H := keep_sub fun p hp => List.mem_cons_of_mem _ hp
  exact ⟨(List.nodup_cons.mp h.nd).2, fun x hx => (h.cell x (List.mem_cons_of_mem _ hx)).keep k fun _ z => z, fun p hp => (h.live p hp).keep k⟩
/-- a live value more -/
theorem Core.more {v : V} {d : D} (h : Core N Z al T H) (r : Rep N (ads Z) al H v d) : Core N Z al ((v, d) :: T) H := ⟨h.nd, h.cell, fun p hp => by
  rcases List.mem_cons.mp hp with e | hp
  · rw [e]; exact r
  · exact h.live p hp⟩
/-- a cell becomes a datum -/
theorem Core.release {a : Addr} {o : O} {d : D} (h : Core N ((a, o) :: Z) al T H)
    (q : ∀ A B, Keep A B al al H H → a ∉ B → RepO N A al H a o → Rep N B al H (.ref a) d) : Core N Z al ((.ref a, d) :: T) H := by
  have k : Keep (ads ((a, o) :: Z)) (ads Z) al al H H := keep_sub fun p hp => List.mem_cons_of_mem _ hp
  exact h.drop.more (q _ _ k (List.nodup_cons.mp h.nd).1 (h.cell _ (List.mem_cons_self ..)))
theorem Core.relL {a : Addr} {ds : List D} (h : Core N ((a, .lst ds) :: Z) al T H) : Core N Z al ((.ref a, .lst ds) :: T) H :=
  h.release fun A B k na r => by
    cases r with
    | lst h1 h2 => exact .lst na h1 (h2.keep k)
theorem Core.relI {a : Addr} {c : Nat} {fs : List (Nat × D)} (h : Core N ((a, .ins c fs) :: Z) al T H) : Core N Z al ((.ref a, .ins c fs) :: T) H :=
  h.release fun A B k na r => by
    cases r with
    | ins h1 h2 h3 => exact .ins na h1 (h2.keep k) h3
/-- the handles go on -/
theorem Core.more_al {bl : List Addr} (h : Core N Z al T H) (e : ∀ (k : Nat) (a : Addr), al[k]? = some a → bl[k]? = some a) : Core N Z bl T H := by
  have k : Keep (ads Z) (ads Z) al bl H H := ⟨fun _ _ _ h => h, fun _ _ h => h, fun _ _ _ h => h, fun p hp _ => hp, e⟩
  exact ⟨h.nd, fun c hc => (h.cell c hc).keep k fun _ z => z, fun p hp => (h.live p hp).keep k⟩
/-- a new object, ours -/
theorem Core.new {p : Addr} {u : HO} {o : O} (h : Core N Z al T H) (hp : H p = none) (q : RepO N (p :: ads Z) al (upd H p u) p o) : Core N ((p, o) :: Z) al T (upd H p u) := by
  have k : Keep (ads Z) (p :: ads Z) al al H (upd H p u) := keep_new hp
  refine ⟨List.nodup_cons.mpr ⟨fun z => ?_, h.nd⟩, fun c hc => ?_, fun x hx => (h.live x hx).keep k⟩
  · obtain ⟨u, e, _⟩ := h.there z
    rw [hp] at e; cases e
  · rcases List.mem_cons.mp hc with e | hc
    · rw [e]; exact q
    · exact (h.cell c hc).keep k fun u => Ext.new hp _ u
theorem Core.newL {p : Addr} {vs : List V} {ds : List D} (h : Core N Z al T H) (hp : H p = none) (r : Reps N (ads Z) al H vs ds) : Core N ((p, .lst ds) :: Z) al T (upd H p (.lst vs)) :=
  h.new hp (.lst upd_same (r.keep (keep_new hp)))
/-- a new object that never changes -/
theorem Core.newD {p : Addr} {u : HO} {d : D} (h : Core N Z al T H) (hp : H p = none) (q : Keep (ads Z) (ads Z) al al H (upd H p u) → p ∉ ads Z → Rep N (ads Z) al (upd H p u) (.ref p) d) : Core N Z al ((.ref p, d) :: T) (upd H p u) := by
  refine (h.ext (Ext.new hp)).more (q (keep_ext (Ext.new hp)) fun z => ?_)
  obtain ⟨u, e, _⟩ := h.there z
  rw [hp] at e; cases e
theorem Core.newT {p : Addr} {vs : List V} {ds : List D} (h : Core N Z al T H) (hp : H p = none) (r : Reps N (ads Z) al H vs ds) : Core N Z al ((.ref p, .tup ds) :: T) (upd H p (.tup vs)) :=
  h.newD hp fun k _ => .tup (.inl (.inl upd_same)) (r.keep k)
/-- a cell of ours is changed -/
theorem Core.set {a : Addr} {o o' : O} {u : HO} (h : Core N ((a, o) :: Z) al T H) (q : RepO N (a :: ads Z) al (upd H a u) a o') : Core N ((a, o') :: Z) al T (upd H a u) := by
  obtain ⟨v, e, s⟩ := (h.cell _ (List.mem_cons_self ..)).there
  have k : Keep (a :: ads Z) (a :: ads Z) al al H (upd H a u) := keep_upd (List.mem_cons_self ..) e s
  refine ⟨h.nd, fun c hc => ?_, fun x hx => (h.live x hx).keep k⟩
  rcases List.mem_cons.mp hc with e | hc
  · rw [e]; exact q
  · refine (h.cell c (List.mem_cons_of_mem _ hc)).keep k fun w hw => ?_
    rw [upd_ne]
    · exact hw
    · intro z
      have hn := (List.nodup_cons.mp h.nd).1
      exact hn (List.mem_map.mpr ⟨c, hc, z⟩)
theorem Core.keepUpd {a : Addr} {o : O} {u : HO} (h : Core N ((a, o) :: Z) al T H) : Keep (a :: ads Z) (a :: ads Z) al al H (upd H a u) := by
  obtain ⟨v, e, s⟩ := (h.cell _ (List.mem_cons_self ..)).there
  exact keep_upd (List.mem_cons_self ..) e s
theorem zip_at : ∀ {al : List Addr} {M : List O} {k : Nat} {a : Addr} {o : O}, al[k]? = some a → M[k]? = some o →
    ∃ Z', (al.zip M).Perm ((a, o) :: Z') ∧ ∀ o', (al.zip (M.set k o')).Perm ((a, o') :: Z')
  | [], _, _, _, _, e, _ => by simp at e
  | _ :: _, [], _, _, _, _, e => by simp at e
  | b :: al, x :: M, 0, a, o, e1, e2 => by
    simp at e1 e2; subst e1; subst e2
    exact ⟨al.zip M, .refl _, fun o' => .refl _⟩
  | b :: al, x :: M, k + 1, a, o, e1, e2 => by
    obtain ⟨Z', p, q⟩ := zip_at (al := al) (M := M) (k := k) (by simpa using e1) (by simpa using e2)
    refine ⟨(b, x) :: Z', ?_, fun o' => ?_⟩
    · show ((b, x) :: al.zip M).Perm _
      exact (p.cons _).trans (.swap _ _ _)
    · show ((b, x) :: al.zip (M.set k o')).Perm _
      exact ((q o').cons _).trans (.swap _ _ _)
theorem World.sub (h : World N C al M T H) (s : ∀ p ∈ T', p ∈ T) : World N C al M T' H := ⟨h.len, h.core.sub s⟩
theorem World.ext (h : World N C al M T H) (e : Ext H H') : World N C al M T H' := ⟨h.len, h.core.ext e⟩
theorem World.perm {C' : List (Addr × O)} (h : World N C al M T H) (p : C.Perm C') : World N C' al M T H := ⟨h.len, h.core.perm (p.append_right _)⟩
theorem World.drop {c : Addr × O} (h : World N (c :: C) al M T H) : World N C al M T H := ⟨h.len, h.core.drop⟩
theorem World.relL {a : Addr} {ds : List D} (h : World N ((a, .lst ds) :: C) al M T H) : World N C al M ((.ref a, .lst ds) :: T) H := ⟨h.len, h.core.relL⟩
theorem World.relI {a : Addr} {c : Nat} {fs : List (Nat × D)} (h : World N ((a, .ins c fs) :: C) al M T H) : World N C al M ((.ref a, .ins c fs) :: T) H := ⟨h.len, h.core.relI⟩
theorem World.more {v : V} {d : D} (h : World N C al M T H) (r : ∀ A, (∀ x ∈ T, Rep N A al H x.1 x.2) → Rep N A al H v d) : World N C al M ((v, d) :: T) H := ⟨h.len, h.core.more (r _ h.core.live)⟩
theorem World.newL {p : Addr} {vs : List V} {ds : List D} (h : World N C al M T H) (hp : H p = none) (r : Reps N (ads (C ++ al.zip M)) al H vs ds) : World N ((p, .lst ds) :: C) al M T (upd H p (.lst vs)) := ⟨h.len, h.core.newL hp r⟩
theorem World.newT {p : Addr} {vs : List V} {ds : List D} (h : World N C al M T H) (hp : H p = none) (r : Reps N (ads (C ++ al.zip M)) al H vs ds) : World N C al M ((.ref p, .tup ds) :: T) (upd H p (.tup vs)) := ⟨h.len, h.core.newT hp r⟩
/-- a cell of ours becomes a handle -/
theorem World.toH {a : Addr} {o : O} (h : World N ((a, o) :: C) al M T H) : World N C (al ++ [a]) (M ++ [o]) ((.ref a, .hdl M.length) :: T) H := by
  refine ⟨by simp [h.len], ?_⟩
  have e : al.zip M ++ [(a, o)] = (al ++ [a]).zip (M ++ [o]) := by
    rw [List.zip_append h.len]; rfl
  have p : ((a, o) :: C ++ al.zip M).Perm (C ++ (al ++ [a]).zip (M ++ [o])) := by
    rw [← e, ← List.append_assoc]
    exact (List.perm_append_comm (l₁ := [(a, o)]) (l₂ := C ++ al.zip M))
  have h1 := (h.core.perm p).more_al (bl := al ++ [a]) fun k b e => by
    have hk := (List.getElem?_eq_some_iff.mp e).1
    rw [List.getElem?_append_left hk]; exact e
  refine h1.more (.hdl ?_)
  rw [← h.len, List.getElem?_append_right (Nat.le_refl _)]
  simp
/-- a handle's object as a cell of ours, and back -/
theorem World.at {k : Nat} {a : Addr} {o : O} (h : World N C al M T H) (e1 : al[k]? = some a) (e2 : M[k]? = some o) :
    ∃ Z', Core N ((a, o) :: Z') al T H ∧ ∀ o' H', Core N ((a, o') :: Z') al T H' → World N C al (M.set k o') T H' := by
  obtain ⟨Z', p, q⟩ := zip_at e1 e2
  refine ⟨C ++ Z', h.core.perm ((p.append_left C).trans List.perm_middle), fun o' H' h' => ⟨by simp [h.len], ?_⟩⟩
  exact h'.perm (List.perm_middle.symm.trans ((q o').symm.append_left C))
end
end Z

set_option maxHeartbeats 4000000
namespace Z
open PySem PySem.Spec PyProof.Rows L2

/-! ### frames: slots by their values -/
def fT : List (Option V) → List Sl → List (V × D)
  | some v :: σ, .d x :: Γ => (v, x) :: fT σ Γ
  | _ :: σ, _ :: Γ => fT σ Γ
  | _, _ => []
def fC : List (Option V) → List Sl → List (Addr × O)
  | some (.ref a) :: σ, .o y :: Γ => (a, y) :: fC σ Γ
  | _ :: σ, _ :: Γ => fC σ Γ
  | _, _ => []
def fOk : List (Option V) → List Sl → Prop
  | [], [] => True
  | _ :: σ, .un :: Γ => fOk σ Γ
  | some _ :: σ, .d _ :: Γ => fOk σ Γ
  | some (.ref _) :: σ, .o _ :: Γ => fOk σ Γ
  | _, _ => False
theorem fOk.len : ∀ {σ : List (Option V)} {Γ : List Sl}, fOk σ Γ → σ.length = Γ.length
  | [], [], _ => rfl
  | x :: σ, .un :: Γ, h => congrArg Nat.succ (fOk.len (σ := σ) (Γ := Γ) (by cases x <;> exact h))
  | some v :: σ, .d _ :: Γ, h => congrArg Nat.succ (fOk.len (σ := σ) (Γ := Γ) h)
  | some (.ref _) :: σ, .o _ :: Γ, h => congrArg Nat.succ (fOk.len (σ := σ) (Γ := Γ) h)
theorem fOk.d : ∀ {σ : List (Option V)} {Γ : List Sl} {i : Nat} {x : D}, fOk σ Γ → Γ[i]? = some (.d x) → ∃ v, σ[i]? = some (some v) ∧ (v, x) ∈ fT σ Γ
  | [], [], _, _, _, e => by simp at e
  | y :: σ, .un :: Γ, 0, x, h, e => by simp at e
  | y :: σ, .un :: Γ, i + 1, x, h, e => by
    obtain ⟨v, e1, e2⟩ := fOk.d (σ := σ) (Γ := Γ) (i := i) (x := x) (by cases y <;> exact h) (by simpa using e)
    exact ⟨v, by simpa using e1, by cases y with
      | none => exact e2
      | some w => cases w <;> exact e2⟩
  | some v :: σ, .d z :: Γ, 0, x, h, e => by simp at e; subst e; exact ⟨v, rfl, List.mem_cons_self ..⟩
  | some v :: σ, .d z :: Γ, i + 1, x, h, e => by
    obtain ⟨v', e1, e2⟩ := fOk.d (σ := σ) (Γ := Γ) (i := i) (x := x) h (by simpa using e)
    exact ⟨v', by simpa using e1, List.mem_cons_of_mem _ e2⟩
  | some (.ref a) :: σ, .o z :: Γ, 0, x, h, e => by simp at e
  | some (.ref a) :: σ, .o z :: Γ, i + 1, x, h, e => by
    obtain ⟨v', e1, e2⟩ := fOk.d (σ := σ) (Γ := Γ) (i := i) (x := x) h (by simpa using e)
    exact ⟨v', by simpa using e1, e2⟩
/-- an own object of the frame: its cell, and what else there is -/
theorem fOk.o : ∀ {σ : List (Option V)} {Γ : List Sl} {i : Nat} {y : O}, fOk σ Γ → Γ[i]? = some (.o y) →
    ∃ a C', σ[i]? = some (some (.ref a)) ∧ (fC σ Γ).Perm ((a, y) :: C') ∧ (∀ z, fOk σ (Γ.set i (.o z)) ∧ (fC σ (Γ.set i (.o z))).Perm ((a, z) :: C') ∧ fT σ (Γ.set i (.o z)) = fT σ Γ) ∧
      (∀ x, fOk σ (Γ.set i (.d x)) ∧ (fC σ (Γ.set i (.d x))).Perm C' ∧ ∀ p ∈ fT σ (Γ.set i (.d x)), p = (.ref a, x) ∨ p ∈ fT σ Γ) ∧
      (fOk σ (Γ.set i .un) ∧ (fC σ (Γ.set i .un)).Perm C' ∧ fT σ (Γ.set i .un) = fT σ Γ)
  | [], [], _, _, _, e => by simp at e
  | y :: σ, .un :: Γ, 0, x, h, e => by simp at e
  | y :: σ, .un :: Γ, i + 1, x, h, e => by
    have eC : ∀ G, fC (y :: σ) (.un :: G) = fC σ G := fun G => by
      cases y with
      | none => rfl
      | some w => cases w <;> rfl
    have eT : ∀ G, fT (y :: σ) (.un :: G) = fT σ G := fun G => by
      cases y with
      | none => rfl
      | some w => cases w <;> rfl
    have eO : ∀ G, fOk (y :: σ) (.un :: G) = fOk σ G := fun G => by cases y <;> rfl
    obtain ⟨a, C', e1, p, q, r, s⟩ := fOk.o (σ := σ) (Γ := Γ) (i := i) (y := x) (by rw [eO] at h; exact h) (by simpa using e)
    refine ⟨a, C', by simpa using e1, by rw [eC]; exact p, fun z => ?_, fun x => ?_, ?_⟩
    · show fOk (y :: σ) (.un :: Γ.set i _) ∧ (fC (y :: σ) (.un :: Γ.set i _)).Perm _ ∧ fT (y :: σ) (.un :: Γ.set i _) = _
      rw [eO, eC, eT, eT]; exact q z
    · show fOk (y :: σ) (.un :: Γ.set i _) ∧ (fC (y :: σ) (.un :: Γ.set i _)).Perm _ ∧ ∀ p ∈ fT (y :: σ) (.un :: Γ.set i _), _
      rw [eO, eC, eT, eT]; exact r x
    · show fOk (y :: σ) (.un :: Γ.set i _) ∧ (fC (y :: σ) (.un :: Γ.set i _)).Perm _ ∧ fT (y :: σ) (.un :: Γ.set i _) = _
      rw [eO, eC, eT, eT]; exact s
  | some v :: σ, .d z :: Γ, 0, x, h, e => by simp at e
  | some v :: σ, .d w :: Γ, i + 1, x, h, e => by
    have eC : ∀ G, fC (some v :: σ) (.d w :: G) = fC σ G := fun G => by cases v <;> rfl
    obtain ⟨a, C', e1, p, q, r, s⟩ := fOk.o (σ := σ) (Γ := Γ) (i := i) (y := x) h (by simpa using e)
    refine ⟨a, C', by simpa using e1, by rw [eC]; exact p, fun z => ?_, fun x => ?_, ?_⟩
    · show fOk (some v :: σ) (.d w :: Γ.set i _) ∧ (fC (some v :: σ) (.d w :: Γ.set i _)).Perm _ ∧ (v, w) :: fT σ (Γ.set i _) = (v, w) :: fT σ Γ
      rw [eC]; exact ⟨(q z).1, (q z).2.1, by rw [(q z).2.2]⟩
    · show fOk (some v :: σ) (.d w :: Γ.set i _) ∧ (fC (some v :: σ) (.d w :: Γ.set i _)).Perm _ ∧ ∀ p ∈ (v, w) :: fT σ (Γ.set i _), _ ∨ p ∈ (v, w) :: fT σ Γ
      rw [eC]; refine ⟨(r x).1, (r x).2.1, fun p hp => ?_⟩
      rcases List.mem_cons.mp hp with e | hp
      · exact .inr (by rw [e]; exact List.mem_cons_self ..)
      · exact ((r x).2.2 p hp).imp id (List.mem_cons_of_mem _)
    · show fOk (some v :: σ) (.d w :: Γ.set i _) ∧ (fC (some v :: σ) (.d w :: Γ.set i _)).Perm _ ∧ (v, w) :: fT σ (Γ.set i _) = (v, w) :: fT σ Γ
      rw [eC]; exact ⟨s.1, s.2.1, by rw [s.2.2]⟩
  | some (.ref b) :: σ, .o w :: Γ, 0, x, h, e => by
    simp at e; subst e
    refine ⟨b, fC σ Γ, rfl, .refl _, fun z => ⟨h, .refl _, rfl⟩, fun x => ⟨h, .refl _, fun p hp => ?_⟩, h, .refl _, rfl⟩
    exact (List.mem_cons.mp (show p ∈ (V.ref b, x) :: fT σ Γ from hp))
  | some (.ref b) :: σ, .o w :: Γ, i + 1, x, h, e => by
    obtain ⟨a, C', e1, p, q, r, s⟩ := fOk.o (σ := σ) (Γ := Γ) (i := i) (y := x) h (by simpa using e)
    refine ⟨a, (b, w) :: C', by simpa using e1, (p.cons _).trans (.swap _ _ _), fun z => ⟨(q z).1, ((q z).2.1.cons _).trans (.swap _ _ _), (q z).2.2⟩, fun x => ⟨(r x).1, (r x).2.1.cons _, (r x).2.2⟩, s.1, s.2.1.cons _, s.2.2⟩
/-- a value is stored in a slot -/
theorem fOk.set : ∀ {σ : List (Option V)} {Γ : List Sl} {i : Nat}, fOk σ Γ → i < Γ.length →
    ∃ C0, (fC σ Γ).Perm C0 ∧ ∀ v, (∀ x, fOk (σ.set i (some v)) (Γ.set i (.d x)) ∧ (∃ E, C0.Perm (E ++ fC (σ.set i (some v)) (Γ.set i (.d x)))) ∧ ∀ p ∈ fT (σ.set i (some v)) (Γ.set i (.d x)), p = (v, x) ∨ p ∈ fT σ Γ) ∧
      ∀ a y, v = .ref a → fOk (σ.set i (some v)) (Γ.set i (.o y)) ∧ (∃ E F, C0.Perm (E ++ F) ∧ (fC (σ.set i (some v)) (Γ.set i (.o y))).Perm ((a, y) :: F)) ∧ ∀ p ∈ fT (σ.set i (some v)) (Γ.set i (.o y)), p ∈ fT σ Γ
  | [], [], _, _, l => by simp at l
  | y :: σ, .un :: Γ, 0, h, _ => by
    have eC : ∀ G, fC (y :: σ) (.un :: G) = fC σ G := fun G => by
      cases y with
      | none => rfl
      | some w => cases w <;> rfl
    have eT : ∀ G, fT (y :: σ) (.un :: G) = fT σ G := fun G => by
      cases y with
      | none => rfl
      | some w => cases w <;> rfl
    have eO : fOk σ Γ := by cases y <;> exact h
    refine ⟨fC σ Γ, by rw [eC], fun v => ⟨fun x => ⟨eO, ⟨[], ?_⟩, fun p hp => ?_⟩, fun a z e => ?_⟩⟩
    · show (fC σ Γ).Perm (fC (some v :: σ) (.d x :: Γ))
      cases v <;> exact .refl _
    · rw [eT]; exact List.mem_cons.mp (show p ∈ (v, x) :: fT σ Γ from hp)
    · subst e
      exact ⟨eO, ⟨[], fC σ Γ, .refl _, .refl _⟩, fun p hp => by rw [eT]; exact hp⟩
  | some w :: σ, .d z :: Γ, 0, h, _ => by
    have eC : ∀ (w : V) z, fC (some w :: σ) (.d z :: Γ) = fC σ Γ := fun w z => by cases w <;> rfl
    refine ⟨fC σ Γ, by rw [eC], fun v => ⟨fun x => ⟨h, ⟨[], by show (fC σ Γ).Perm (fC (some v :: σ) (.d x :: Γ)); rw [eC]⟩, fun p hp => ?_⟩, fun a z e => ?_⟩⟩
    · exact (List.mem_cons.mp (show p ∈ (v, x) :: fT σ Γ from hp)).imp id (List.mem_cons_of_mem _)
    · subst e
      exact ⟨h, ⟨[], fC σ Γ, .refl _, .refl _⟩, fun p hp => List.mem_cons_of_mem _ hp⟩
  | some (.ref b) :: σ, .o w :: Γ, 0, h, _ => by
    have eC : ∀ (w : V) z, fC (some w :: σ) (.d z :: Γ) = fC σ Γ := fun w z => by cases w <;> rfl
    refine ⟨(b, w) :: fC σ Γ, .refl _, fun v => ⟨fun x => ⟨h, ⟨[(b, w)], by show ((b, w) :: fC σ Γ).Perm ([(b, w)] ++ fC (some v :: σ) (.d x :: Γ)); rw [eC]; exact .refl _⟩, fun p hp => ?_⟩, fun a z e => ?_⟩⟩
    · exact List.mem_cons.mp (show p ∈ (v, x) :: fT σ Γ from hp)
    · subst e
      exact ⟨h, ⟨[(b, w)], fC σ Γ, .refl _, .refl _⟩, fun p hp => hp⟩
  | y :: σ, .un :: Γ, i + 1, h, l => by
    have eC : ∀ s G, fC (y :: s) (.un :: G) = fC s G := fun s G => by
      cases y with
      | none => rfl
      | some w => cases w <;> rfl
    have eT : ∀ s G, fT (y :: s) (.un :: G) = fT s G := fun s G => by
      cases y with
      | none => rfl
      | some w => cases w <;> rfl
    have eO : ∀ s G, fOk (y :: s) (.un :: G) = fOk s G := fun s G => by cases y <;> rfl
    obtain ⟨C0, p, q⟩ := fOk.set (σ := σ) (Γ := Γ) (i := i) (by rw [eO] at h; exact h) (by simpa using l)
    refine ⟨C0, by rw [eC]; exact p, fun v => ⟨fun x => ?_, fun a z e => ?_⟩⟩
    · show fOk (y :: σ.set i _) (.un :: Γ.set i _) ∧ (∃ E, C0.Perm (E ++ fC (y :: σ.set i _) (.un :: Γ.set i _))) ∧ ∀ p ∈ fT (y :: σ.set i _) (.un :: Γ.set i _), _ ∨ p ∈ fT (y :: σ) (.un :: Γ)
      rw [eO, eC, eT, eT]; exact (q v).1 x
    · show fOk (y :: σ.set i _) (.un :: Γ.set i _) ∧ (∃ E F, C0.Perm (E ++ F) ∧ (fC (y :: σ.set i _) (.un :: Γ.set i _)).Perm _) ∧ ∀ p ∈ fT (y :: σ.set i _) (.un :: Γ.set i _), p ∈ fT (y :: σ) (.un :: Γ)
      rw [eO, eC, eT, eT]; exact (q v).2 a z e
  | some w :: σ, .d z :: Γ, i + 1, h, l => by
    have eC : ∀ s G, fC (some w :: s) (.d z :: G) = fC s G := fun s G => by cases w <;> rfl
    obtain ⟨C0, p, q⟩ := fOk.set (σ := σ) (Γ := Γ) (i := i) h (by simpa using l)
    refine ⟨C0, by rw [eC]; exact p, fun v => ⟨fun x => ?_, fun a y e => ?_⟩⟩
    · obtain ⟨q1, q2, q3⟩ := (q v).1 x
      refine ⟨q1, ?_, fun p hp => ?_⟩
      · show ∃ E, C0.Perm (E ++ fC (some w :: σ.set i _) (.d z :: Γ.set i _))
        rw [eC]; exact q2
      · rcases List.mem_cons.mp (show p ∈ (w, z) :: fT (σ.set i (some v)) (Γ.set i (.d x)) from hp) with e | hp
        · exact .inr (by rw [e]; exact List.mem_cons_self ..)
        · exact (q3 p hp).imp id (List.mem_cons_of_mem _)
    · obtain ⟨q1, q2, q3⟩ := (q v).2 a y e
      refine ⟨q1, ?_, fun p hp => ?_⟩
      · show ∃ E F, C0.Perm (E ++ F) ∧ (fC (some w :: σ.set i _) (.d z :: Γ.set i _)).Perm _
        rw [eC]; exact q2
      · rcases List.mem_cons.mp (show p ∈ (w, z) :: fT (σ.set i (some v)) (Γ.set i (.o y)) from hp) with e | hp
        · rw [e]; exact List.mem_cons_self ..
        · exact List.mem_cons_of_mem _ (q3 p hp)
  | some (.ref b) :: σ, .o w :: Γ, i + 1, h, l => by
    obtain ⟨C0, p, q⟩ := fOk.set (σ := σ) (Γ := Γ) (i := i) h (by simpa using l)
    refine ⟨(b, w) :: C0, p.cons _, fun v => ⟨fun x => ?_, fun a y e => ?_⟩⟩
    · obtain ⟨q1, ⟨E, q2⟩, q3⟩ := (q v).1 x
      exact ⟨q1, ⟨E, (q2.cons _).trans List.perm_middle.symm⟩, q3⟩
    · obtain ⟨q1, ⟨E, F, q2, q2'⟩, q3⟩ := (q v).2 a y e
      exact ⟨q1, ⟨E, (b, w) :: F, (q2.cons _).trans List.perm_middle.symm, (q2'.cons _).trans (.swap _ _ _)⟩, q3⟩
end Z

set_option maxHeartbeats 4000000
namespace Z
open PySem PySem.Spec PyProof.Rows L2

/-! ### evaluators: from slots and memory -/
inductive R (α : Type) where
  | ok (a : α) | exc (c : Nat) (M : List O) | bad
/-- a datum; an object of the frame's own, looked at -/
inductive Ev where
  | d (x : D) | o (y : O)
abbrev Gm := List Sl
abbrev Mm := List O
abbrev PV := Gm → Mm → Option Ev
abbrev EV := Gm → Mm → R (D × Mm)
abbrev TV := Gm → Mm → R (Bool × Mm)
abbrev AV := Gm → Mm → R (List D × Mm)
abbrev Fn := List D → Mm → R (D × Mm)
def R.bind {α β : Type} (r : R α) (f : α → R β) : R β := match r with
  | .ok a => f a
  | .exc c M => .exc c M
  | .bad => .bad
theorem R.bind_ok {α β : Type} {a : α} {f : α → R β} : (R.ok a).bind f = f a := rfl
theorem R.bind_exc {α β : Type} {c : Nat} {M : List O} {f : α → R β} : (R.exc c M : R α).bind f = .exc c M := rfl
theorem R.bind_bad {α β : Type} {f : α → R β} : (R.bad : R α).bind f = .bad := rfl
/-- what holds of an end, of a raise -/
def R.sat {α : Type} (r : R α) (P : α → Prop) (E : Nat → List O → Prop) : Prop := match r with
  | .ok a => P a
  | .exc c M => E c M
  | .bad => False
theorem R.sat_bind {α β : Type} {r : R α} {f : α → R β} {P : β → Prop} {E : Nat → List O → Prop} : (r.bind f).sat P E ↔ r.sat (fun a => (f a).sat P E) E := by
  cases r <;> exact Iff.rfl
theorem R.sat.mono {α : Type} {r : R α} {P P' : α → Prop} {E E' : Nat → List O → Prop} (h : r.sat P E) (hP : ∀ a, P a → P' a) (hE : ∀ c M, E c M → E' c M) : r.sat P' E' := by
  cases r with
  | ok a => exact hP _ h
  | exc c M => exact hE _ _ h
  | bad => exact h
theorem R.sat_ok {α : Type} {a : α} {P : α → Prop} {E : Nat → List O → Prop} : (R.ok a).sat P E ↔ P a := Iff.rfl
/-- of an option: there is none, all is lost -/
def orBad {α β : Type} (o : Option α) (f : α → R β) : R β := match o with
  | some a => f a
  | none => .bad
theorem sat_or {α β : Type} {o : Option α} {f : α → R β} {P : β → Prop} {E : Nat → List O → Prop} (h : (orBad o f).sat P E) : ∃ a, o = some a ∧ (f a).sat P E := by
  cases o with
  | none => exact h.elim
  | some a => exact ⟨a, rfl, h⟩
/-- a pure evaluator among the others -/
def Ev.up (M : Mm) : Ev → R (D × Mm)
  | .d x => .ok (x, M)
  | .o _ => .bad
def up (p : PV) : EV := fun Γ M => orBad (p Γ M) (Ev.up M)

/-- the frame's world: its slots, what is pending, what is others' -/
structure Fm (N : Nm) (σ : List (Option V)) (Γ : Gm) (Tf : List (V × D)) (Cf : List (Addr × O)) (al : List Addr) (M : Mm) (H : Hp) : Prop where
  ok : fOk σ Γ
  w : World N (fC σ Γ ++ Cf) al M (fT σ Γ ++ Tf) H
/-- the world's own addresses -/
abbrev wA (C : List (Addr × O)) (al : List Addr) (M : Mm) : List Addr := ads (C ++ al.zip M)
/-- a value and what it stands for -/
def VR (N : Nm) (A al : List Addr) (H : Hp) (T : List (V × D)) (v : V) : Ev → Prop
  | .d x => (v, x) ∈ T
  | .o y => ∃ a, v = .ref a ∧ RepO N A al H a y

section
variable {N : Nm} {σ : List (Option V)} {Γ : Gm} {Tf Tg : List (V × D)} {Cf : List (Addr × O)} {al : List Addr} {M : Mm} {H H' : Hp}
theorem Fm.sub (h : Fm N σ Γ Tf Cf al M H) (s : ∀ p ∈ Tg, p ∈ Tf) : Fm N σ Γ Tg Cf al M H := ⟨h.ok, h.w.sub fun p hp => by
  rcases List.mem_append.mp hp with z | z
  · exact List.mem_append_left _ z
  · exact List.mem_append_right _ (s p z)⟩
theorem Fm.ext (h : Fm N σ Γ Tf Cf al M H) (e : Ext H H') : Fm N σ Γ Tf Cf al M H' := ⟨h.ok, h.w.ext e⟩
/-- from a world with a value more -/
theorem Fm.put {v : V} {x : D} (ok : fOk σ Γ) (w : World N (fC σ Γ ++ Cf) al M ((v, x) :: (fT σ Γ ++ Tf)) H) : Fm N σ Γ ((v, x) :: Tf) Cf al M H := ⟨ok, w.sub fun p hp => by
  rcases List.mem_append.mp hp with z | z
  · exact List.mem_cons_of_mem _ (List.mem_append_left _ z)
  · rcases List.mem_cons.mp z with e | z
    · rw [e]; exact List.mem_cons_self ..
    · exact List.mem_cons_of_mem _ (List.mem_append_right _ z)⟩
theorem VR.d {A : List Addr} {T : List (V × D)} {v : V} {x : D} (h : (v, x) ∈ T) : VR N A al H T v (.d x) := h
theorem VR.o {T : List (V × D)} {a : Addr} {A : List Addr} {y : O} (h : RepO N A al H a y) : VR N A al H T (.ref a) (.o y) := ⟨a, rfl, h⟩
theorem VR.ext {A : List Addr} {T : List (V × D)} {v : V} {e : Ev} (h : VR N A al H T v e) (x : Ext H H') : VR N A al H' T v e := by
  cases e with
  | d x => exact h
  | o y =>
    obtain ⟨a, e, r⟩ := h
    exact ⟨a, e, r.keep (keep_ext x) fun u => x _ u⟩
theorem VR.sub {A : List Addr} {T T' : List (V × D)} {v : V} {e : Ev} (h : VR N A al H T v e) (s : ∀ p ∈ T, p ∈ T') : VR N A al H T' v e := by
  cases e with
  | d x => exact s _ h
  | o y => exact h
end

/-! ### readings -/
abbrev Pre (al bl : List Addr) : Prop := ∀ (k : Nat) (a : Addr), al[k]? = some a → bl[k]? = some a
def postP (N : Nm) (σ : List (Option V)) (Γ : Gm) (Tf : List (V × D)) (Cf : List (Addr × O)) (al : List Addr) (M : Mm) (H : Hp) (Q : VK) : Ev → Prop
  | .d x => ∀ v H', Ext H H' → Fm N σ Γ ((v, x) :: Tf) Cf al M H' → Q v H'
  | .o y => ∀ a H', Ext H H' → Fm N σ Γ Tf Cf al M H' → RepO N (wA (fC σ Γ ++ Cf) al M) al H' a y → Q (.ref a) H'
def tP (N : Nm) (p : PV) : TE := fun σ H Q => ∃ Γ Tf Cf al M, Fm N σ Γ Tf Cf al M H ∧ ∃ e, p Γ M = some e ∧ postP N σ Γ Tf Cf al M H Q e
/-- what is wished of a raise -/
abbrev raised (N : Nm) (W : WX) (σ : List (Option V)) (Γ : Gm) (Tf : List (V × D)) (Cf : List (Addr × O)) (al : List Addr) (c : Nat) (M' : Mm) : Prop :=
  ∀ al' H' ao, Pre al al' → Fm N σ Γ Tf Cf al' M' H' → W (.ref (N.ca c)) ao σ H'
def tE (N : Nm) (W : WX) (ev : EV) : TE := fun σ H Q => ∃ Γ Tf Cf al M, Fm N σ Γ Tf Cf al M H ∧
  (ev Γ M).sat (fun r => ∀ v al' H', Pre al al' → Fm N σ Γ ((v, r.1) :: Tf) Cf al' r.2 H' → Q v H') (raised N W σ Γ Tf Cf al)
def tTs (N : Nm) (W : WX) (ev : TV) : TT := fun σ H Q => ∃ Γ Tf Cf al M, Fm N σ Γ Tf Cf al M H ∧
  (ev Γ M).sat (fun r => ∀ al' H', Pre al al' → Fm N σ Γ Tf Cf al' r.2 H' → Q r.1 H') (raised N W σ Γ Tf Cf al)
def tAs (N : Nm) (W : WX) (ev : AV) : TA := fun σ H Q => ∃ Γ Tf Cf al M, Fm N σ Γ Tf Cf al M H ∧
  (ev Γ M).sat (fun r => ∀ vs al' H', vs.length = r.1.length → Pre al al' → Fm N σ Γ (vs.zip r.1 ++ Tf) Cf al' r.2 H' → Q vs H') (raised N W σ Γ Tf Cf al)
/-- a new list that is nobody's yet -/
def tF (N : Nm) (W : WX) (ev : AV) : TE := fun σ H Q => ∃ Γ Tf Cf al M, Fm N σ Γ Tf Cf al M H ∧
  (ev Γ M).sat (fun r => ∀ p al' H', Pre al al' → fOk σ Γ → World N ((p, .lst r.1) :: (fC σ Γ ++ Cf)) al' r.2 (fT σ Γ ++ Tf) H' → Q (.ref p) H') (raised N W σ Γ Tf Cf al)

theorem Pre.rfl {al : List Addr} : Pre al al := fun _ _ h => h
theorem Pre.trans {al bl cl : List Addr} (a : Pre al bl) (b : Pre bl cl) : Pre al cl := fun k x h => b k x (a k x h)

section
variable {X : Cx} {N : Nm} {W : WX} {e a b c : Expr} {pos : Pos}
theorem _root_.L2.PE.imp {t t' : TE} (h : PE X e t) (i : ∀ σ H Q, t' σ H Q → t σ H Q) : PE X e t' := ⟨fun pins s σ H Q I q => h.run pins s σ H Q I (i σ H Q q)⟩
theorem _root_.L2.PT.imp {t t' : TT} (h : PT X e t) (i : ∀ σ H Q, t' σ H Q → t σ H Q) : PT X e t' := ⟨fun pins s σ H Q I q => h.run pins s σ H Q I (i σ H Q q)⟩
theorem _root_.L2.PW.imp {t t' : TT} (h : PW X e t) (i : ∀ σ H Q, t' σ H Q → t σ H Q) : PW X e t' := ⟨fun wh pins s σ H Q I q => h.run wh pins s σ H Q I (i σ H Q q)⟩
theorem _root_.L2.PA.imp {es : List Expr} {t t' : TA} (h : PA X es t) (i : ∀ σ H Q, t' σ H Q → t σ H Q) : PA X es t' := ⟨fun pos pins s σ H Q I q => h.run pos pins s σ H Q I (i σ H Q q)⟩
theorem _root_.L2.PS.imp {st : Stmt} {t t' : TS} (h : PS X st t) (i : ∀ D σ H, t' D σ H → t D σ H) : PS X st t' := ⟨fun pins s σ H D I q => h.run pins s σ H D I (i D σ H q)⟩
theorem _root_.L2.PSs.imp {st : List Stmt} {t t' : TS} (h : PSs X st t) (i : ∀ D σ H, t' D σ H → t D σ H) : PSs X st t' := ⟨fun pins s σ H D I q => h.run pins s σ H D I (i D σ H q)⟩
/-- a pure one among the others -/
theorem up_ok {p : PV} : ∀ σ H Q, tE N W (up p) σ H Q → tP N p σ H Q := fun σ H Q ⟨Γ, Tf, Cf, al, M, f, q⟩ => by
  obtain ⟨e, e1, q⟩ := sat_or q
  refine ⟨Γ, Tf, Cf, al, M, f, e, e1, ?_⟩
  cases e with
  | d x => exact fun v H' ex f' => q v al H' Pre.rfl f'
  | o y => exact q.elim
theorem z_up {p : PV} (h : PE X e (tP N p)) : PE X e (tE N W (up p)) := h.imp up_ok
/-- a new list becomes a datum -/
def asD (ev : AV) : EV := fun Γ M => (ev Γ M).bind fun r => .ok (.lst r.1, r.2)
theorem z_lst {ev : AV} (h : PE X e (tF N W ev)) : PE X e (tE N W (asD ev)) := h.imp fun σ H Q ⟨Γ, Tf, Cf, al, M, f, q⟩ =>
  ⟨Γ, Tf, Cf, al, M, f, (R.sat_bind.mp q).mono (fun r q p al' H' pr ok w => q (.ref p) al' H' pr (Fm.put ok w.relL)) fun _ _ q => q⟩

/-! ### names, constants -/
def pVar (i : Nat) : PV := fun Γ _ => match Γ[i]? with
  | some (.d x) => some (.d x)
  | some (.o y) => some (.o y)
  | _ => none
def pC (x : D) : PV := fun _ _ => some (.d x)
theorem z_var {i : Nat} {x : Str} (hN : X.N[i]? = some x := by rfl) (hv : Vis X.env.scope x := by first | exact Or.inl rfl | exact Or.inr (Or.inl rfl) | exact Or.inr (Or.inr rfl)) (hd : (x == ("__debug__" : Str)) = false := by decide)
    (hcd : (x == ("__classdict__" : Str)) = false := by decide) : PE X (.Name x pos) (tP N (pVar i)) := (pe_var hN hv hd hcd).imp fun σ H Q ⟨Γ, Tf, Cf, al, M, f, e, e0, q⟩ => by
  unfold pVar at e0
  split at e0
  · rename_i x e1
    cases e0
    obtain ⟨v, e1, e2⟩ := f.ok.d e1
    exact ⟨v, e1, q v H Ext.rfl (Fm.put f.ok (f.w.sub fun p hp => by
      rcases List.mem_cons.mp hp with z | z
      · rw [z]; exact List.mem_append_left _ e2
      · exact z))⟩
  · rename_i y e1
    cases e0
    obtain ⟨a, C', e1, p, _⟩ := f.ok.o e1
    have hm : (a, y) ∈ fC σ Γ ++ Cf ++ al.zip M := List.mem_append_left _ (List.mem_append_left _ (p.mem_iff.mpr (List.mem_cons_self ..)))
    exact ⟨.ref a, e1, q a H Ext.rfl f (f.w.core.cell _ hm)⟩
  · cases e0
theorem tc_of {v : V} {x : D} (r : ∀ A al H, Rep N A al H v x) : ∀ σ H Q, tP N (pC x) σ H Q → tC v σ H Q := fun σ H Q ⟨Γ, Tf, Cf, al, M, f, e, e0, q⟩ => by
  cases e0
  exact q v H Ext.rfl (Fm.put f.ok (f.w.more fun A _ => r A al H))
theorem z_int {i : Int} {j pos} : PE X (.Constant (.int i) j pos) (tP N (pC (.int i))) := pe_int.imp (tc_of fun _ _ _ => .int i)
theorem z_bl {b : Bool} {j pos} : PE X (.Constant (.bool b) j pos) (tP N (pC (.bl b))) := pe_bl.imp (tc_of fun _ _ _ => .bl b)
theorem z_non {j pos} : PE X (.Constant .none j pos) (tP N (pC .non)) := pe_non.imp (tc_of fun _ _ _ => .non)
theorem rep_str {z : Str} {x : List Nat} (h : z.cps.toList = x) (A al : List Addr) (H : Hp) : Rep N A al H (.str z) (.str x) := by
  subst h
  have e : z = ⟨z.cps.toList.toArray⟩ := by cases z; simp
  have r := Rep.str (N := N) (A := A) (al := al) (H := H) z.cps.toList
  rw [← e] at r
  exact r
theorem z_str {z : Str} {x : List Nat} {j pos} (h : z.cps.toList = x := by first | rfl | decide +kernel) : PE X (.Constant (.str z) j pos) (tP N (pC (.str x))) := pe_str.imp (tc_of (rep_str h))

/-! ### operations on two values -/
def OpS (N : Nm) (r : R2) (op : Mm → Ev → Ev → Option D) : Prop :=
  ∀ {C : List (Addr × O)} {al : List Addr} {M : Mm} {T : List (V × D)} {H : Hp} {x y : V} {e f : Ev} {d : D}, World N C al M T H → VR N (wA C al M) al H T x e → VR N (wA C al M) al H T y f → op M e f = some d →
    ∀ Q : VK, (∀ v H', Ext H H' → World N C al M ((v, d) :: T) H' → Q v H') → r x y H Q
def OpF (N : Nm) (r : R2) (op : Mm → Ev → Ev → Option (List D)) : Prop :=
  ∀ {C : List (Addr × O)} {al : List Addr} {M : Mm} {T : List (V × D)} {H : Hp} {x y : V} {e f : Ev} {ds : List D}, World N C al M T H → VR N (wA C al M) al H T x e → VR N (wA C al M) al H T y f → op M e f = some ds →
    ∀ Q : VK, (∀ p H', Ext H H' → World N ((p, .lst ds) :: C) al M T H' → Q (.ref p) H') → r x y H Q
theorem OpF.s {r : R2} {op : Mm → Ev → Ev → Option (List D)} (h : OpF N r op) : OpS N r fun M e f => (op M e f).map .lst := fun w hx hy e Q q => by
  obtain ⟨ds, e1, e2⟩ := Option.map_eq_some_iff.mp e
  subst e2
  exact h w hx hy e1 Q fun p H' ex w' => q (.ref p) H' ex w'.relL
def p2 (op : Mm → Ev → Ev → Option D) (pa pb : PV) : PV := fun Γ M => (pa Γ M).bind fun e => (pb Γ M).bind fun f => (op M e f).map .d
def e2 (op : Mm → Ev → Ev → Option D) (ea eb : EV) : EV := fun Γ M => (ea Γ M).bind fun r => (eb Γ r.2).bind fun s => orBad (op s.2 (.d r.1) (.d s.1)) fun d => .ok (d, s.2)
theorem bind_some {α β : Type} {o : Option α} {f : α → Option β} {b : β} (h : o.bind f = some b) : ∃ a, o = some a ∧ f a = some b := Option.bind_eq_some_iff.mp h
theorem map_some {α β : Type} {o : Option α} {f : α → β} {b : β} (h : o.map f = some b) : ∃ a, o = some a ∧ f a = b := Option.map_eq_some_iff.mp h
/-- a pure one's end, told by what may be pending -/
theorem postP.of {σ : List (Option V)} {Γ : Gm} {Tf : List (V × D)} {Cf : List (Addr × O)} {al : List Addr} {M : Mm} {H : Hp} {Q : VK} {e : Ev}
    (k : ∀ v Tg H', Ext H H' → Fm N σ Γ Tg Cf al M H' → (∀ p ∈ Tf, p ∈ Tg) → VR N (wA (fC σ Γ ++ Cf) al M) al H' (fT σ Γ ++ Tg) v e → Q v H') : postP N σ Γ Tf Cf al M H Q e := by
  cases e with
  | d x => exact fun v H' ex f => k v _ H' ex f (fun p hp => List.mem_cons_of_mem _ hp) (VR.d (List.mem_append_right _ (List.mem_cons_self ..)))
  | o y => exact fun a H' ex f ro => k _ _ H' ex f (fun _ hp => hp) (VR.o ro)
theorem Fm.putS {σ : List (Option V)} {Γ : Gm} {Tf Tg : List (V × D)} {Cf : List (Addr × O)} {al : List Addr} {M : Mm} {H : Hp} {v : V} {x : D} (ok : fOk σ Γ) (w : World N (fC σ Γ ++ Cf) al M ((v, x) :: (fT σ Γ ++ Tg)) H) (s : ∀ p ∈ Tf, p ∈ Tg) :
    Fm N σ Γ ((v, x) :: Tf) Cf al M H := (Fm.put ok w).sub fun p hp => by
  rcases List.mem_cons.mp hp with z | z
  · rw [z]; exact List.mem_cons_self ..
  · exact List.mem_cons_of_mem _ (s p z)
theorem app_mono {α : Type} {S T T' : List α} (s : ∀ p ∈ T, p ∈ T') : ∀ p ∈ S ++ T, p ∈ S ++ T' := fun p hp => by
  rcases List.mem_append.mp hp with z | z
  · exact List.mem_append_left _ z
  · exact List.mem_append_right _ (s p z)
/-- the first looked at, the second pure -/
theorem p2_ok {r : R2} {op : Mm → Ev → Ev → Option D} (hs : OpS N r op) (pa pb : PV) : ∀ σ H Q, tP N (p2 op pa pb) σ H Q → tOp r (tP N pa) (tP N pb) σ H Q := fun σ H Q ⟨Γ, Tf, Cf, al, M, f, e0, h, q⟩ => by
  obtain ⟨e, ea, h⟩ := bind_some h
  obtain ⟨g, eb, h⟩ := bind_some h
  obtain ⟨d, ed, h⟩ := map_some h
  subst h
  refine ⟨Γ, Tf, Cf, al, M, f, e, ea, .of fun x Tg H1 ex f1 sb hx => ⟨Γ, Tg, Cf, al, M, f1, g, eb, .of fun y Th H2 ex2 f2 sb2 hy => ?_⟩⟩
  exact hs f2.w ((hx.ext ex2).sub (app_mono sb2)) hy ed Q fun v H' ex3 w' => q v H' ((ex.trans ex2).trans ex3) (.putS f2.ok w' fun p hp => sb2 p (sb p hp))
theorem e2_ok {r : R2} {op : Mm → Ev → Ev → Option D} (hs : OpS N r op) (ea eb : EV) : ∀ σ H Q, tE N W (e2 op ea eb) σ H Q → tOp r (tE N W ea) (tE N W eb) σ H Q := fun σ H Q ⟨Γ, Tf, Cf, al, M, f, q⟩ => by
  refine ⟨Γ, Tf, Cf, al, M, f, (R.sat_bind.mp q).mono (fun r1 q x al1 H1 pr f1 => ⟨Γ, _, Cf, al1, r1.2, f1, (R.sat_bind.mp q).mono (fun r2 q y al2 H2 pr2 f2 => ?_) fun c M' q al' H' ao pr' f' => q al' H' ao (pr.trans pr') (f'.sub fun p hp => List.mem_cons_of_mem _ hp)⟩) fun _ _ q => q⟩
  obtain ⟨d, ed, q⟩ := sat_or q
  exact hs f2.w (VR.d (List.mem_append_right _ (List.mem_cons_of_mem _ (List.mem_cons_self ..)))) (VR.d (List.mem_append_right _ (List.mem_cons_self ..))) ed _ fun v H' ex w' =>
    q v al2 H' (pr.trans pr2) (.putS f2.ok w' fun p hp => List.mem_cons_of_mem _ (List.mem_cons_of_mem _ hp))
/-- the first looked at (pure), the second any, the first a datum: a pure one -/
theorem z_bin {o : Operator} {r : R2} {op : Mm → Ev → Ev → Option D} {pa pb : PV} (ho : OpR X (binaryOp o) r) (hs : OpS N r op) (ha : PE X a (tP N pa)) (hb : PE X b (tP N pb)) : PE X (.BinOp a o b pos) (tP N (p2 op pa pb)) :=
  (pe_op ho ha hb).imp (p2_ok hs pa pb)
theorem z_binE {o : Operator} {r : R2} {op : Mm → Ev → Ev → Option D} {ea eb : EV} (ho : OpR X (binaryOp o) r) (hs : OpS N r op) (ha : PE X a (tE N W ea)) (hb : PE X b (tE N W eb)) : PE X (.BinOp a o b pos) (tE N W (e2 op ea eb)) :=
  (pe_op ho ha hb).imp (e2_ok hs ea eb)
theorem z_cmp {o : CmpOp} {r : R2} {op : Mm → Ev → Ev → Option D} {pa pb : PV} (ho : OpR X (compareOp o) r) (hs : OpS N r op) (ha : PE X a (tP N pa)) (hb : PE X b (tP N pb)) (hm : behindInMarks o b = false := by first | exact nomark _ | rfl) :
    PE X (.Compare a [o] [b] pos) (tP N (p2 op pa pb)) := (pe_cmpR ho ha hb hm).imp (p2_ok hs pa pb)
theorem z_cmpE {o : CmpOp} {r : R2} {op : Mm → Ev → Ev → Option D} {ea eb : EV} (ho : OpR X (compareOp o) r) (hs : OpS N r op) (ha : PE X a (tE N W ea)) (hb : PE X b (tE N W eb)) (hm : behindInMarks o b = false := by first | exact nomark _ | rfl) :
    PE X (.Compare a [o] [b] pos) (tE N W (e2 op ea eb)) := (pe_cmpR ho ha hb hm).imp (e2_ok hs ea eb)
end
end Z

set_option maxHeartbeats 4000000
namespace Z
open PySem PySem.Spec PyProof.Rows L2

/-! ### what a value is, looked at through the memory -/
def vLst (M : Mm) : Ev → Option (List D)
  | .d (.lst ds) => some ds
  | .d (.hdl k) => match M[k]? with
    | some (.lst ds) => some ds
    | _ => none
  | .o (.lst ds) => some ds
  | _ => none
def vTup : Ev → Option (List D)
  | .d (.tup ds) => some ds
  | _ => none
def vIns (M : Mm) : Ev → Option (Nat × List (Nat × D))
  | .d (.ins c fs) => some (c, fs)
  | .d (.hdl k) => match M[k]? with
    | some (.ins c fs) => some (c, fs)
    | _ => none
  | .o (.ins c fs) => some (c, fs)
  | _ => none
def vInt : Ev → Option Int
  | .d (.int i) => some i
  | _ => none
def vStr : Ev → Option (List Nat)
  | .d (.str x) => some x
  | _ => none
def vBl : Ev → Option Bool
  | .d (.bl b) => some b
  | _ => none

section
variable {N : Nm} {C : List (Addr × O)} {al : List Addr} {M : Mm} {T : List (V × D)} {H H' : Hp} {x : V} {e : Ev}
theorem World.live (w : World N C al M T H) {v : V} {d : D} (h : (v, d) ∈ T) : Rep N (wA C al M) al H v d := w.core.live _ h
theorem World.mem (w : World N C al M T H) {k : Nat} {a : Addr} {o : O} (e1 : al[k]? = some a) (e2 : M[k]? = some o) : RepO N (wA C al M) al H a o := by
  refine w.core.cell (a, o) (List.mem_append_right _ ?_)
  rw [List.mem_iff_getElem?]
  exact ⟨k, by rw [List.getElem?_zip_eq_some]; exact ⟨e1, e2⟩⟩
theorem World.add (w : World N C al M T H) {v : V} {d : D} (r : Rep N (wA C al M) al H v d) : World N C al M ((v, d) :: T) H := ⟨w.len, w.core.more r⟩
/-- a handle's object -/
theorem World.hdl (w : World N C al M T H) {k : Nat} {o : O} (h : (x, D.hdl k) ∈ T) (e : M[k]? = some o) : ∃ a, x = .ref a ∧ al[k]? = some a ∧ RepO N (wA C al M) al H a o := by
  have r := w.live h
  cases r with
  | hdl e1 => exact ⟨_, rfl, e1, w.mem e1 e⟩
theorem v_lst (w : World N C al M T H) (h : VR N (wA C al M) al H T x e) {ds : List D} (q : vLst M e = some ds) : ∃ p vs, x = .ref p ∧ H p = some (.lst vs) ∧ Reps N (wA C al M) al H vs ds := by
  unfold vLst at q
  split at q
  · cases q
    have r := w.live h
    cases r with
    | lst _ h1 h2 => exact ⟨_, _, rfl, h1, h2⟩
  · split at q
    · rename_i e1
      cases q
      obtain ⟨a, rfl, _, r⟩ := w.hdl h e1
      cases r with
      | lst h1 h2 => exact ⟨_, _, rfl, h1, h2⟩
    · cases q
  · cases q
    obtain ⟨a, rfl, r⟩ := h
    cases r with
    | lst h1 h2 => exact ⟨_, _, rfl, h1, h2⟩
  · cases q
theorem v_tup (w : World N C al M T H) (h : VR N (wA C al M) al H T x e) {ds : List D} (q : vTup e = some ds) : ∃ p vs, x = .ref p ∧ SqT N.K H p vs ∧ Reps N (wA C al M) al H vs ds := by
  unfold vTup at q
  split at q
  · cases q
    have r := w.live h
    cases r with
    | tup h1 h2 => exact ⟨_, _, rfl, h1, h2⟩
  · cases q
theorem v_ins (w : World N C al M T H) (h : VR N (wA C al M) al H T x e) {c : Nat} {fs : List (Nat × D)} (q : vIns M e = some (c, fs)) : ∃ p dx vs, x = .ref p ∧ H p = some (.ins (N.ca c) dx vs) ∧ RepF N (wA C al M) al H vs fs ∧ InsOk N c fs := by
  unfold vIns at q
  split at q
  · cases q
    have r := w.live h
    cases r with
    | ins _ h1 h2 h3 => exact ⟨_, _, _, rfl, h1, h2, h3⟩
  · split at q
    · rename_i e1
      cases q
      obtain ⟨a, rfl, _, r⟩ := w.hdl h e1
      cases r with
      | ins h1 h2 h3 => exact ⟨_, _, _, rfl, h1, h2, h3⟩
    · cases q
  · cases q
    obtain ⟨a, rfl, r⟩ := h
    cases r with
    | ins h1 h2 h3 => exact ⟨_, _, _, rfl, h1, h2, h3⟩
  · cases q
theorem v_int (w : World N C al M T H) (h : VR N (wA C al M) al H T x e) {i : Int} (q : vInt e = some i) : x = .int i := by
  unfold vInt at q
  split at q
  · cases q
    have r := w.live h
    cases r
    rfl
  · cases q
theorem v_str (w : World N C al M T H) (h : VR N (wA C al M) al H T x e) {z : List Nat} (q : vStr e = some z) : x = .str ⟨z.toArray⟩ := by
  unfold vStr at q
  split at q
  · cases q
    have r := w.live h
    cases r
    rfl
  · cases q
theorem v_bl (w : World N C al M T H) (h : VR N (wA C al M) al H T x e) {b : Bool} (q : vBl e = some b) : x = .bl b := by
  unfold vBl at q
  split at q
  · cases q
    have r := w.live h
    cases r
    rfl
  · cases q

/-! ### ints -/
/-- an operation on two ints -/
def oI (C : Int → Int → Prop) [∀ i j, Decidable (C i j)] (g : Int → Int → D) : Mm → Ev → Ev → Option D := fun _ e f => match vInt e, vInt f with
  | some i, some j => if C i j then some (g i j) else none
  | _, _ => none
theorem oI_some {C : Int → Int → Prop} [∀ i j, Decidable (C i j)] {g : Int → Int → D} {e f : Ev} {d : D} (h : oI C g M e f = some d) : ∃ i j, vInt e = some i ∧ vInt f = some j ∧ C i j ∧ d = g i j := by
  unfold oI at h
  split at h
  · rename_i i j h1 h2
    split at h
    · rename_i hc
      cases h
      exact ⟨i, j, h1, h2, hc, rfl⟩
    · cases h
  · cases h
theorem os_I {C : Int → Int → Prop} [∀ i j, Decidable (C i j)] {CR : Int → Int → Prop} {g : Int → Int → D} {gV : Int → Int → V} (hc : ∀ i j, C i j → CR i j) (hg : ∀ i j A al H, Rep N A al H (gV i j) (g i j)) : OpS N (rI CR gV) (oI C g) := fun w hx hy h Q q => by
  obtain ⟨i, j, h1, h2, h3, rfl⟩ := oI_some h
  exact ⟨i, j, v_int w hx h1, v_int w hy h2, hc _ _ h3, q _ _ Ext.rfl (w.more fun A _ => hg i j A _ _)⟩
theorem os_I0 {g : Int → Int → D} {gV : Int → Int → V} (hg : ∀ i j A al H, Rep N A al H (gV i j) (g i j)) : OpS N (rI0 gV) (oI (fun _ _ => True) g) := fun w hx hy h Q q => by
  obtain ⟨i, j, h1, h2, h3, rfl⟩ := oI_some h
  exact ⟨i, j, v_int w hx h1, v_int w hy h2, q _ _ Ext.rfl (w.more fun A _ => hg i j A _ _)⟩
abbrev oSub := oI (fun _ _ => True) fun i j => D.int (i - j)
abbrev oLt := oI (fun _ _ => True) fun i j => D.bl (decide (i < j))
abbrev oLe := oI (fun _ _ => True) fun i j => D.bl (decide (i ≤ j))
abbrev oGt := oI (fun _ _ => True) fun i j => D.bl (decide (j < i))
abbrev oGe := oI (fun _ _ => True) fun i j => D.bl (decide (j ≤ i))
abbrev CMulD (i j : Int) : Prop := (-18446744073709551616 < i ∧ i < 18446744073709551616) ∨ (-18446744073709551616 < j ∧ j < 18446744073709551616)
abbrev oMul := oI CMulD fun i j => D.int (i * j)
abbrev CDivD (_ j : Int) : Prop := 0 < j ∧ j < 18446744073709551616
abbrev oFdiv := oI CDivD fun i j => D.int (i / j)
abbrev oMod := oI (fun _ j => 0 < j) fun i j => D.int (i % j)
abbrev CPowD (i j : Int) : Prop := 0 ≤ j ∧ j ≤ 1000 ∧ i.natAbs < 18446744073709551616
abbrev oPow := oI CPowD fun i j => D.int (i ^ j.toNat)
theorem os_sub : OpS N (rI0 fun i j => .int (i - j)) oSub := os_I0 fun _ _ _ _ _ => .int _
theorem os_lt : OpS N (rI0 fun i j => .bl (decide (i < j))) oLt := os_I0 fun _ _ _ _ _ => .bl _
theorem os_le : OpS N (rI0 fun i j => .bl (decide (i ≤ j))) oLe := os_I0 fun _ _ _ _ _ => .bl _
theorem os_gt : OpS N (rI0 fun i j => .bl (decide (j < i))) oGt := os_I0 fun _ _ _ _ _ => .bl _
theorem os_ge : OpS N (rI0 fun i j => .bl (decide (j ≤ i))) oGe := os_I0 fun _ _ _ _ _ => .bl _
theorem os_mul : OpS N (rI CMul fun i j => .int (i * j)) oMul := os_I (fun i j h => by
  unfold CMul
  have e : (2 : Int) ^ 64 = 18446744073709551616 := by decide
  rw [e]; exact h) fun _ _ _ _ _ => .int _
theorem os_fdiv : OpS N (rI CDivW fun i j => .int (i / j)) oFdiv := os_I (fun i j h => wide_div (b := 64) h.1 (by
  have h2 := h.2
  have e : (2 : Nat) ^ 64 = 18446744073709551616 := by decide
  omega) (by decide) (by decide)) fun _ _ _ _ _ => .int _
theorem os_mod : OpS N (rI (fun _ j => 0 < j) fun i j => .int (i % j)) oMod := os_I (fun i j h => h) fun _ _ _ _ _ => .int _
theorem os_pow : OpS N (rI CPow fun i j => .int (i ^ j.toNat)) oPow := os_I (fun i j h => ⟨h.1, by have := h.2.1; omega, by
  have h2 := h.2.2
  have e : (2 : Nat) ^ 64 = 18446744073709551616 := by decide
  omega⟩) fun _ _ _ _ _ => .int _

/-! ### + -/
def big : Nat := 16777216
theorem big_line {n : Nat} (h : n ≤ big) : n ≤ sizeLine := by rw [sizeLine_eq]; exact h
def oCat : Mm → Ev → Ev → Option (List D) := fun M e f => match vLst M e, vLst M f with
  | some xs, some ys => if xs.length + ys.length ≤ big then some (xs ++ ys) else none
  | _, _ => none
theorem of_cat : OpF N rCat oCat := fun w hx hy h Q q => by
  unfold oCat at h
  split at h
  · rename_i xs ys h1 h2
    split at h
    · rename_i hl
      cases h
      obtain ⟨p, vs, rfl, hp, r1⟩ := v_lst w hx h1
      obtain ⟨p2, vs2, rfl, hp2, r2⟩ := v_lst w hy h2
      exact ⟨p, p2, vs, vs2, rfl, rfl, hp, hp2, big_line (by rw [r1.len, r2.len]; exact hl), fun a ha => q _ _ (Ext.new ha) (w.newL ha (r1.append r2))⟩
    · cases h
  · cases h
def oAdd : Mm → Ev → Ev → Option D := fun M e f => match vInt e, vInt f with
  | some i, some j => some (.int (i + j))
  | _, _ => match vStr e, vStr f with
    | some x, some y => if x.length + y.length ≤ big then some (.str (x ++ y)) else none
    | _, _ => (oCat M e f).map .lst
def rAdd : R2 := fun x y H Q => rI0 (fun i j => .int (i + j)) x y H Q ∨ (∃ i j, x = .str i ∧ y = .str j ∧ i.length + j.length ≤ sizeLine ∧ Q (.str (i ++ j)) H) ∨ rCat x y H Q
theorem op_addU {X : Cx} : OpR X (binaryOp .Add) rAdd := op_add.or (op_add_str.or op_cat)
theorem str_app (x y : List Nat) : ((⟨x.toArray⟩ : Str) ++ (⟨y.toArray⟩ : Str)) = ⟨(x ++ y).toArray⟩ := by
  show (⟨x.toArray ++ y.toArray⟩ : Str) = _
  simp
theorem str_len (x : List Nat) : (⟨x.toArray⟩ : Str).length = x.length := by
  show x.toArray.size = x.length
  simp
theorem os_add : OpS N rAdd oAdd := fun w hx hy h Q q => by
  unfold oAdd at h
  split at h
  · rename_i i j h1 h2
    cases h
    exact .inl ⟨i, j, v_int w hx h1, v_int w hy h2, q _ _ Ext.rfl (w.more fun A _ => .int _)⟩
  · split at h
    · rename_i x' y' h1 h2
      split at h
      · rename_i hl
        cases h
        refine .inr (.inl ⟨_, _, v_str w hx h1, v_str w hy h2, big_line (by rw [str_len, str_len]; exact hl), ?_⟩)
        rw [str_app]
        exact q _ _ Ext.rfl (w.more fun A _ => .str _)
      · cases h
    · exact .inr (.inr (of_cat.s w hx hy h Q q))

/-! ### == and != of data, in -/
mutual
/-- a datum without objects, as the library has it -/
def py : D → Option PyData
  | .non => some .none
  | .bl b => some (.bool b)
  | .int i => some (.int i)
  | .str x => some (.str ⟨x.toArray⟩)
  | .lst xs => (pys xs).map .list
  | .tup xs => (pys xs).map .tuple
  | _ => none
def pys : List D → Option (List PyData)
  | [] => some []
  | x :: xs => (py x).bind fun y => (pys xs).map fun ys => y :: ys
end
mutual
theorem rep_py {A : List Addr} {K : PySem.W.Frag} (hK : N.K = K) : ∀ {v : V} {d : D} {y : PyData}, Rep N A al H v d → py d = some y → Dp K H v y
  | _, _, _, .non, e => by cases e; exact .non
  | _, _, _, .bl b, e => by cases e; exact .bl b
  | _, _, _, .int i, e => by cases e; exact .int i
  | _, _, _, .str x, e => by cases e; exact .str _
  | _, _, _, .lst _ h1 h2, e => by
    unfold py at e
    obtain ⟨ys, e1, rfl⟩ := map_some e
    exact .lst (.of h1) (reps_py hK h2 e1)
  | _, _, _, .tup h1 h2, e => by
    unfold py at e
    obtain ⟨ys, e1, rfl⟩ := map_some e
    exact .tup (hK ▸ h1) (reps_py hK h2 e1)
  | _, _, _, .ins _ _ _ _, e => by cases e
  | _, _, _, .hdl _, e => by cases e
  | _, _, _, .scr _, e => by cases e
theorem reps_py {A : List Addr} {K : PySem.W.Frag} (hK : N.K = K) : ∀ {vs : List V} {ds : List D} {ys : List PyData}, Reps N A al H vs ds → pys ds = some ys → DpAll K H vs ys
  | _, _, _, .nil, e => by cases e; exact .nil
  | _, _, _, .cons h r, e => by
    unfold pys at e
    obtain ⟨y, e1, e⟩ := bind_some e
    obtain ⟨ys, e2, rfl⟩ := map_some e
    exact .cons (rep_py hK h e1) (reps_py hK r e2)
end
def pyE (M : Mm) (e : Ev) : Option PyData := match vLst M e with
  | some ds => (pys ds).map .list
  | none => match e with
    | .d x => py x
    | .o _ => none
theorem v_py {K : PySem.W.Frag} (hK : N.K = K) (w : World N C al M T H) (h : VR N (wA C al M) al H T x e) {y : PyData} (q : pyE M e = some y) : Dp K H x y := by
  unfold pyE at q
  split at q
  · rename_i ds e1
    obtain ⟨ys, e2, rfl⟩ := map_some q
    obtain ⟨p, vs, rfl, hp, r⟩ := v_lst w h e1
    exact .lst (.of hp) (reps_py hK r e2)
  · split at q
    · exact rep_py hK (w.live h) q
    · cases q
def oEq (neg : Bool) : Mm → Ev → Ev → Option D := fun M e f => match pyE M e, pyE M f with
  | some a, some b => if SeqAt.shaped a && SeqAt.shaped b then some (.bl (if neg then !PyData.eqv a b else PyData.eqv a b)) else none
  | _, _ => none
theorem os_eq {K : PySem.W.Frag} (hK : N.K = K) : OpS N (rEqD K) (oEq false) := fun w hx hy h Q q => by
  unfold oEq at h
  split at h
  · rename_i a b h1 h2
    split at h
    · rename_i hs
      cases h
      obtain ⟨s1, s2⟩ := Bool.and_eq_true_iff.mp hs
      exact ⟨a, b, v_py hK w hx h1, v_py hK w hy h2, s1, s2, q _ _ Ext.rfl (w.more fun A _ => .bl _)⟩
    · cases h
  · cases h
theorem os_ne {K : PySem.W.Frag} (hK : N.K = K) : OpS N (rNeD K) (oEq true) := fun w hx hy h Q q => by
  unfold oEq at h
  split at h
  · rename_i a b h1 h2
    split at h
    · rename_i hs
      cases h
      obtain ⟨s1, s2⟩ := Bool.and_eq_true_iff.mp hs
      exact ⟨a, b, v_py hK w hx h1, v_py hK w hy h2, s1, s2, q _ _ Ext.rfl (w.more fun A _ => .bl _)⟩
    · cases h
  · cases h
end
end Z

set_option maxHeartbeats 4000000
namespace Z
open PySem PySem.Spec PyProof.Rows L2

/-! ### operations on one value; new lists -/
abbrev R1 := V → Hp → VK → Prop
def UnS (N : Nm) (r : R1) (op : Mm → Ev → Option D) : Prop :=
  ∀ {C : List (Addr × O)} {al : List Addr} {M : Mm} {T : List (V × D)} {H : Hp} {x : V} {e : Ev} {d : D}, World N C al M T H → VR N (wA C al M) al H T x e → op M e = some d →
    ∀ Q : VK, (∀ v H', Ext H H' → World N C al M ((v, d) :: T) H' → Q v H') → r x H Q
def UnF (N : Nm) (r : R1) (op : Mm → Ev → Option (List D)) : Prop :=
  ∀ {C : List (Addr × O)} {al : List Addr} {M : Mm} {T : List (V × D)} {H : Hp} {x : V} {e : Ev} {ds : List D}, World N C al M T H → VR N (wA C al M) al H T x e → op M e = some ds →
    ∀ Q : VK, (∀ p H', Ext H H' → World N ((p, .lst ds) :: C) al M T H' → Q (.ref p) H') → r x H Q
theorem UnF.s {N : Nm} {r : R1} {op : Mm → Ev → Option (List D)} (h : UnF N r op) : UnS N r fun M e => (op M e).map .lst := fun w hx e Q q => by
  obtain ⟨ds, e1, e2⟩ := map_some e
  subst e2
  exact h w hx e1 Q fun p H' ex w' => q (.ref p) H' ex w'.relL
def p1 (op : Mm → Ev → Option D) (pa : PV) : PV := fun Γ M => (pa Γ M).bind fun e => (op M e).map .d
def e1 (op : Mm → Ev → Option D) (ea : EV) : EV := fun Γ M => (ea Γ M).bind fun r => orBad (op r.2 (.d r.1)) fun d => .ok (d, r.2)
def f1 (op : Mm → Ev → Option (List D)) (pa : PV) : AV := fun Γ M => orBad (pa Γ M) fun e => orBad (op M e) fun ds => .ok (ds, M)
def f1E (op : Mm → Ev → Option (List D)) (ea : EV) : AV := fun Γ M => (ea Γ M).bind fun r => orBad (op r.2 (.d r.1)) fun ds => .ok (ds, r.2)
def f2 (op : Mm → Ev → Ev → Option (List D)) (pa pb : PV) : AV := fun Γ M => orBad (pa Γ M) fun e => orBad (pb Γ M) fun f => orBad (op M e f) fun ds => .ok (ds, M)
def f2E (op : Mm → Ev → Ev → Option (List D)) (ea eb : EV) : AV := fun Γ M => (ea Γ M).bind fun r => (eb Γ r.2).bind fun s => orBad (op s.2 (.d r.1) (.d s.1)) fun ds => .ok (ds, s.2)
section
variable {X : Cx} {N : Nm} {W : WX} {a b : Expr} {pos : Pos}
theorem p1_ok {r : R1} {op : Mm → Ev → Option D} (hs : UnS N r op) (pa : PV) : ∀ σ H Q, tP N (p1 op pa) σ H Q → tUn r (tP N pa) σ H Q := fun σ H Q ⟨Γ, Tf, Cf, al, M, f, e0, h, q⟩ => by
  obtain ⟨e, ea, h⟩ := bind_some h
  obtain ⟨d, ed, h⟩ := map_some h
  subst h
  exact ⟨Γ, Tf, Cf, al, M, f, e, ea, .of fun x Tg H1 ex f1 sb hx => hs f1.w hx ed Q fun v H' ex3 w' => q v H' (ex.trans ex3) (.putS f1.ok w' sb)⟩
theorem e1_ok {r : R1} {op : Mm → Ev → Option D} (hs : UnS N r op) (ea : EV) : ∀ σ H Q, tE N W (e1 op ea) σ H Q → tUn r (tE N W ea) σ H Q := fun σ H Q ⟨Γ, Tf, Cf, al, M, f, q⟩ => by
  refine ⟨Γ, Tf, Cf, al, M, f, (R.sat_bind.mp q).mono (fun r1 q x al1 H1 pr f1 => ?_) fun _ _ q => q⟩
  obtain ⟨d, ed, q⟩ := sat_or q
  exact hs f1.w (VR.d (List.mem_append_right _ (List.mem_cons_self ..))) ed _ fun v H' ex w' => q v al1 H' pr (.putS f1.ok w' fun p hp => List.mem_cons_of_mem _ hp)
theorem Wsub {σ : List (Option V)} {Γ : Gm} {Tf Tg : List (V × D)} {Cf : List (Addr × O)} {al : List Addr} {M : Mm} {H : Hp} {c : Addr × O} (w : World N (c :: (fC σ Γ ++ Cf)) al M (fT σ Γ ++ Tg) H) (s : ∀ p ∈ Tf, p ∈ Tg) :
    World N (c :: (fC σ Γ ++ Cf)) al M (fT σ Γ ++ Tf) H := w.sub (app_mono s)
theorem f1_ok {r : R1} {op : Mm → Ev → Option (List D)} (hs : UnF N r op) (pa : PV) : ∀ σ H Q, tF N W (f1 op pa) σ H Q → tUn r (tP N pa) σ H Q := fun σ H Q ⟨Γ, Tf, Cf, al, M, f, q⟩ => by
  obtain ⟨e, ea, q⟩ := sat_or q
  obtain ⟨d, ed, q⟩ := sat_or q
  exact ⟨Γ, Tf, Cf, al, M, f, e, ea, .of fun x Tg H1 ex f1 sb hx => hs f1.w hx ed Q fun p H' ex3 w' => q p al H' Pre.rfl f1.ok (Wsub w' sb)⟩
theorem f1E_ok {r : R1} {op : Mm → Ev → Option (List D)} (hs : UnF N r op) (ea : EV) : ∀ σ H Q, tF N W (f1E op ea) σ H Q → tUn r (tE N W ea) σ H Q := fun σ H Q ⟨Γ, Tf, Cf, al, M, f, q⟩ => by
  refine ⟨Γ, Tf, Cf, al, M, f, (R.sat_bind.mp q).mono (fun r1 q x al1 H1 pr f1 => ?_) fun _ _ q => q⟩
  obtain ⟨d, ed, q⟩ := sat_or q
  exact hs f1.w (VR.d (List.mem_append_right _ (List.mem_cons_self ..))) ed _ fun p H' ex w' => q p al1 H' pr f1.ok (Wsub w' fun p hp => List.mem_cons_of_mem _ hp)
theorem f2_ok {r : R2} {op : Mm → Ev → Ev → Option (List D)} (hs : OpF N r op) (pa pb : PV) : ∀ σ H Q, tF N W (f2 op pa pb) σ H Q → tOp r (tP N pa) (tP N pb) σ H Q := fun σ H Q ⟨Γ, Tf, Cf, al, M, f, q⟩ => by
  obtain ⟨e, ea, q⟩ := sat_or q
  obtain ⟨g, eb, q⟩ := sat_or q
  obtain ⟨d, ed, q⟩ := sat_or q
  refine ⟨Γ, Tf, Cf, al, M, f, e, ea, .of fun x Tg H1 ex f1 sb hx => ⟨Γ, Tg, Cf, al, M, f1, g, eb, .of fun y Th H2 ex2 f2 sb2 hy => ?_⟩⟩
  exact hs f2.w ((hx.ext ex2).sub (app_mono sb2)) hy ed Q fun p H' ex3 w' => q p al H' Pre.rfl f2.ok (Wsub w' fun p hp => sb2 p (sb p hp))
theorem f2E_ok {r : R2} {op : Mm → Ev → Ev → Option (List D)} (hs : OpF N r op) (ea eb : EV) : ∀ σ H Q, tF N W (f2E op ea eb) σ H Q → tOp r (tE N W ea) (tE N W eb) σ H Q := fun σ H Q ⟨Γ, Tf, Cf, al, M, f, q⟩ => by
  refine ⟨Γ, Tf, Cf, al, M, f, (R.sat_bind.mp q).mono (fun r1 q x al1 H1 pr f1 => ⟨Γ, _, Cf, al1, r1.2, f1, (R.sat_bind.mp q).mono (fun r2 q y al2 H2 pr2 f2 => ?_) fun c M' q al' H' ao pr' f' => q al' H' ao (pr.trans pr') (f'.sub fun p hp => List.mem_cons_of_mem _ hp)⟩) fun _ _ q => q⟩
  obtain ⟨d, ed, q⟩ := sat_or q
  exact hs f2.w (VR.d (List.mem_append_right _ (List.mem_cons_of_mem _ (List.mem_cons_self ..)))) (VR.d (List.mem_append_right _ (List.mem_cons_self ..))) ed _ fun p H' ex w' =>
    q p al2 H' (pr.trans pr2) f2.ok (Wsub w' fun p hp => List.mem_cons_of_mem _ (List.mem_cons_of_mem _ hp))
theorem z_cat {pa pb : PV} (ha : PE X a (tP N pa)) (hb : PE X b (tP N pb)) : PE X (.BinOp a .Add b pos) (tF N W (f2 oCat pa pb)) := (pe_op op_cat ha hb).imp (f2_ok of_cat pa pb)
theorem z_catE {ea eb : EV} (ha : PE X a (tE N W ea)) (hb : PE X b (tE N W eb)) : PE X (.BinOp a .Add b pos) (tF N W (f2E oCat ea eb)) := (pe_op op_cat ha hb).imp (f2E_ok of_cat ea eb)
theorem z_neg {pa : PV} (hs : UnS N (rU fun i => .int (-i)) fun _ e => (vInt e).map fun i => .int (-i) := by assumption) (ha : PE X a (tP N pa)) : PE X (.UnaryOp .USub a pos) (tP N (p1 (fun _ e => (vInt e).map fun i => .int (-i)) pa)) := (pe_un un_neg ha).imp (p1_ok hs pa)
end

section
variable {N : Nm} {C : List (Addr × O)} {al : List Addr} {M : Mm} {T : List (V × D)} {H H' : Hp} {x : V} {e : Ev}
abbrev oNeg : Mm → Ev → Option D := fun _ e => (vInt e).map fun i => .int (-i)
theorem us_neg : UnS N (rU fun i => .int (-i)) oNeg := fun w hx h Q q => by
  obtain ⟨i, h1, rfl⟩ := map_some h
  exact ⟨i, v_int w hx h1, q _ _ Ext.rfl (w.more fun A _ => .int _)⟩
/-! ### in -/
def oIn (neg : Bool) : Mm → Ev → Ev → Option D := fun M e f => (pyE M e).bind fun d => if SeqAt.shaped d then (match vLst M f with
  | some ds => (pys ds).bind fun ys => if SeqAt.shaped (.list ys) then some (.bl (if neg then !ys.any fun z => PyData.eqv z d else ys.any fun z => PyData.eqv z d)) else none
  | none => (vTup f).bind fun ds => (pys ds).bind fun ys => if flatD d && ys.all flatD then some (.bl (if neg then !ys.any fun z => PyData.eqv z d else ys.any fun z => PyData.eqv z d)) else none) else none
where flatD : PyData → Bool
  | .none => true
  | .bool _ => true
  | .int _ => true
  | .str _ => true
  | _ => false
theorem flat_of {K : PySem.W.Frag} {v : V} {y : PyData} (h : Dp K H v y) (f : oIn.flatD y = true) : flatV v = true := by
  cases h <;> first | rfl | cases f
theorem eqV_of {K : PySem.W.Frag} {v u : V} {y z : PyData} (h : Dp K H v y) (h2 : Dp K H u z) (f : oIn.flatD y = true) (g : oIn.flatD z = true) : eqV v u = PyData.eqv y z := by
  cases h <;> first | (cases f; done) | skip
  all_goals (cases h2 <;> first | (cases g; done) | skip)
  all_goals first | rfl | (simp only [eqV, PyData.eqv])
theorem inV_of {K : PySem.W.Frag} {v : V} {y : PyData} (h : Dp K H v y) (f : oIn.flatD y = true) : ∀ {vs : List V} {ys : List PyData}, DpAll K H vs ys → ys.all oIn.flatD = true → vs.all flatV = true ∧ inV v vs = ys.any fun z => PyData.eqv z y
  | _, _, .nil, _ => ⟨rfl, rfl⟩
  | _, _, .cons (v := v1) (vs := vs) (d := d1) (ds := ds) h1 r, g => by
    rw [List.all_cons, Bool.and_eq_true] at g
    obtain ⟨i1, i2⟩ := inV_of h f r g.2
    refine ⟨?_, ?_⟩
    · rw [List.all_cons, flat_of h1 g.1, i1]; rfl
    · show (eqV v1 v || inV v vs) = (PyData.eqv d1 y || _)
      rw [i2, eqV_of h1 h g.1 f]
def rInU (K : PySem.W.Frag) (neg : Bool) : R2 := fun x y H Q => (if neg then rNotInD K x y H Q else rInD K x y H Q) ∨ rIn K neg x y H Q
theorem op_inU {X : Cx} (hu : X.A.units + 65 < cLine) : OpR X (compareOp .In) (rInU X.K false) := (op_inD hu).or op_in_seq
theorem op_notInU {X : Cx} (hu : X.A.units + 65 < cLine) : OpR X (compareOp .NotIn) (rInU X.K true) := (op_notInD hu).or op_notIn_seq
theorem os_in {K : PySem.W.Frag} (hK : N.K = K) (neg : Bool) : OpS N (rInU K neg) (oIn neg) := fun w hx hy h Q q => by
  unfold oIn at h
  obtain ⟨d, h1, h⟩ := bind_some h
  have hd := v_py hK w hx h1
  split at h
  · rename_i sd
    split at h
    · rename_i ds h2
      obtain ⟨ys, h3, h⟩ := bind_some h
      split at h
      · rename_i sy
        cases h
        obtain ⟨p, vs, rfl, hp, r⟩ := v_lst w hy h2
        have hl : Dp K _ (.ref p) (.list ys) := .lst (.of hp) (reps_py hK r h3)
        refine .inl ?_
        cases neg with
        | true => exact ⟨d, ys, hd, hl, sd, sy, q _ _ Ext.rfl (w.more fun A _ => .bl _)⟩
        | false => exact ⟨d, ys, hd, hl, sd, sy, q _ _ Ext.rfl (w.more fun A _ => .bl _)⟩
      · cases h
    · obtain ⟨ds, h2, h⟩ := bind_some h
      obtain ⟨ys, h3, h⟩ := bind_some h
      split at h
      · rename_i fl
        cases h
        obtain ⟨f1, f2⟩ := Bool.and_eq_true_iff.mp fl
        obtain ⟨p, vs, rfl, hp, r⟩ := v_tup w hy h2
        obtain ⟨i1, i2⟩ := inV_of hd f1 (reps_py hK r h3) f2
        refine .inr ⟨p, vs, rfl, .inr (hK ▸ hp), flat_of hd f1, i1, ?_⟩
        rw [i2]
        exact q _ _ Ext.rfl (w.more fun A _ => .bl _)
      · cases h
  · cases h
/-! ### is None -/
def isNon : Ev → Bool
  | .d .non => true
  | _ => false
def oIsN : Mm → Ev → Ev → Option D := fun _ e f => if isNon f then some (.bl (isNon e)) else none
def oNotN : Mm → Ev → Ev → Option D := fun _ e f => if isNon f then some (.bl (!isNon e)) else none
theorem isNon_of (w : World N C al M T H) (h : VR N (wA C al M) al H T x e) : decide (x = .non) = isNon e := by
  cases e with
  | o y =>
    obtain ⟨a, rfl, _⟩ := h
    rfl
  | d z =>
    have r := w.live h
    cases r <;> first | rfl | (show decide (V.ref _ = V.non) = false; rfl)
theorem os_isN : OpS N (fun x y H Q => y = .non ∧ Q (.bl (decide (x = .non))) H) oIsN := fun w hx hy h Q q => by
  unfold oIsN at h
  split at h
  · rename_i h1
    cases h
    have e1 := isNon_of w hy
    rw [h1] at e1
    refine ⟨of_decide_eq_true e1, ?_⟩
    rw [isNon_of w hx]
    exact q _ _ Ext.rfl (w.more fun A _ => .bl _)
  · cases h
theorem os_notN : OpS N (fun x y H Q => y = .non ∧ Q (.bl (!decide (x = .non))) H) oNotN := fun w hx hy h Q q => by
  unfold oNotN at h
  split at h
  · rename_i h1
    cases h
    have e1 := isNon_of w hy
    rw [h1] at e1
    refine ⟨of_decide_eq_true e1, ?_⟩
    rw [isNon_of w hx]
    exact q _ _ Ext.rfl (w.more fun A _ => .bl _)
  · cases h
/-! ### strings in order -/
def oStr (g : List Nat → List Nat → Bool) : Mm → Ev → Ev → Option D := fun _ e f => match vStr e, vStr f with
  | some x, some y => some (.bl (g x y))
  | _, _ => none
/-! ### items -/
def oIx : Mm → Ev → Ev → Option D := fun M e f => (vInt f).bind fun i => match vLst M e with
  | some ds => atI ds i
  | none => match vTup e with
    | some ds => atI ds i
    | none => (vStr e).bind fun z => if z.length ≤ big then (atI z i).map fun c => .str [c] else none
theorem atI_rep {A : List Addr} {vs : List V} {ds : List D} (r : Reps N A al H vs ds) {i : Int} {d : D} (h : atI ds i = some d) : ∃ v, atI vs i = some v ∧ Rep N A al H v d := by
  unfold atI at h ⊢
  rw [r.len]
  obtain ⟨j, h1, h2⟩ := bind_some h
  rw [h1]
  obtain ⟨v, e, rv⟩ := r.get h2
  exact ⟨v, e, rv⟩
theorem os_ix {K : PySem.W.Frag} (hK : N.K = K) : OpS N (rIx K) oIx := fun w hx hy h Q q => by
  unfold oIx at h
  obtain ⟨i, h1, h⟩ := bind_some h
  have hi := v_int w hy h1
  split at h
  · rename_i ds h2
    obtain ⟨p, vs, rfl, hp, r⟩ := v_lst w hx h2
    obtain ⟨v, e1, rv⟩ := atI_rep r h
    exact .inl ⟨p, vs, i, v, rfl, hi, .of hp, e1, q _ _ Ext.rfl (w.add rv)⟩
  · split at h
    · rename_i ds h2
      obtain ⟨p, vs, rfl, hp, r⟩ := v_tup w hx h2
      obtain ⟨v, e1, rv⟩ := atI_rep r h
      exact .inr (.inl ⟨p, vs, i, v, rfl, hi, hK ▸ hp, e1, q _ _ Ext.rfl (w.add rv)⟩)
    · obtain ⟨z, h2, h⟩ := bind_some h
      split at h
      · rename_i hl
        obtain ⟨c, h3, rfl⟩ := map_some h
        refine .inr (.inr ⟨_, i, c, v_str w hx h2, hi, big_line (by rw [str_len]; exact hl), by simpa using h3, ?_⟩)
        have e : (⟨#[c]⟩ : Str) = ⟨[c].toArray⟩ := rfl
        rw [e]
        exact q _ _ Ext.rfl (w.more fun A _ => .str _)
      · cases h
/-! ### fields -/
theorem repF_look {A : List Addr} {k : Nat} {d : D} : ∀ {vs : List (Str × V)} {fs : List (Nat × D)}, RepF N A al H vs fs → fs.lookup k = some d → ∃ v, vs.lookup (N.fn k) = some v ∧ Rep N A al H v d
  | _, _, .nil, h => by simp at h
  | _, _, .cons (n := n) (v := v) (d := x) (vs := vs) (ds := ds) h1 r, h => by
    rw [List.lookup_cons] at h
    by_cases e : k = n
    · subst e
      rw [beq_self_eq_true] at h
      cases h
      exact ⟨v, by rw [List.lookup_cons, beq_self_eq_true], h1⟩
    · have e1 : (k == n) = false := beq_eq_false_iff_ne.mpr e
      rw [e1] at h
      obtain ⟨v', e2, r2⟩ := repF_look r h
      have e3 : (N.fn k == N.fn n) = false := beq_eq_false_iff_ne.mpr fun z => e (N.inj _ _ z)
      exact ⟨v', by rw [List.lookup_cons, e3]; exact e2, r2⟩
theorem mem_of_look {k : Nat} {d : D} : ∀ {fs : List (Nat × D)}, fs.lookup k = some d → (k, d) ∈ fs
  | (n, x) :: r, h => by
    rw [List.lookup_cons] at h
    by_cases e : k = n
    · subst e
      rw [beq_self_eq_true] at h
      cases h
      exact List.mem_cons_self ..
    · have e1 : (k == n) = false := beq_eq_false_iff_ne.mpr e
      rw [e1] at h
      exact List.mem_cons_of_mem _ (mem_of_look h)
def oFld (k : Nat) : Mm → Ev → Option D := fun M e => (vIns M e).bind fun p => p.2.lookup k
def rFld (K : PySem.W.Frag) (f : Str) : R1 := fun x H1 Q => ∃ a C dx fs v, x = .ref a ∧ H1 a = some (.ins C dx fs) ∧ Cls K C ∧ NoAttr K C f ∧ fs.lookup f = some v ∧ Q v H1
theorem us_fld {K : PySem.W.Frag} (hK : N.K = K) (k : Nat) {f : Str} (hf : N.fn k = f) : UnS N (rFld K f) (oFld k) := fun w hx h Q q => by
  unfold oFld at h
  obtain ⟨⟨c, fs⟩, h1, h⟩ := bind_some h
  obtain ⟨p, dx, vs, rfl, hp, r, ok⟩ := v_ins w hx h1
  obtain ⟨v, e1, rv⟩ := repF_look r h
  subst hK
  have hn := ok.2 _ (mem_of_look h)
  rw [hf] at e1 hn
  exact ⟨p, _, dx, vs, v, rfl, hp, ok.1, hn, e1, q _ _ Ext.rfl (w.add rv)⟩
/-! ### len -/
def oLen : Mm → Ev → Option D := fun M e => match vLst M e with
  | some ds => some (.int ds.length)
  | none => match vTup e with
    | some ds => some (.int ds.length)
    | none => (vStr e).bind fun z => if z.length ≤ big then some (.int z.length) else none
def rLenU (K : PySem.W.Frag) : List V → Hp → VK → Prop := fun xs H Q => (∃ p ys, xs = [.ref p] ∧ (SqL K H p ys ∨ SqT K H p ys) ∧ Q (.int ys.length) H) ∨ ∃ z, xs = [.str z] ∧ z.length ≤ sizeLine ∧ Q (.int z.length) H
theorem call_lenU {X : Cx} : CallR X (.builtin "len") (rLenU X.K) := call_len_seq.or call_len_str
theorem us_len {K : PySem.W.Frag} (hK : N.K = K) : UnS N (fun x H Q => rLenU K [x] H Q) oLen := fun w hx h Q q => by
  unfold oLen at h
  split at h
  · rename_i ds h2
    cases h
    obtain ⟨p, vs, rfl, hp, r⟩ := v_lst w hx h2
    refine .inl ⟨p, vs, rfl, .inl (.of hp), ?_⟩
    rw [r.len]
    exact q _ _ Ext.rfl (w.more fun A _ => .int _)
  · split at h
    · rename_i ds h2
      cases h
      obtain ⟨p, vs, rfl, hp, r⟩ := v_tup w hx h2
      refine .inl ⟨p, vs, rfl, .inr (hK ▸ hp), ?_⟩
      rw [r.len]
      exact q _ _ Ext.rfl (w.more fun A _ => .int _)
    · obtain ⟨z, h2, h⟩ := bind_some h
      split at h
      · rename_i hl
        cases h
        refine .inr ⟨_, by rw [v_str w hx h2], big_line (by rw [str_len]; exact hl), ?_⟩
        rw [str_len]
        exact q _ _ Ext.rfl (w.more fun A _ => .int _)
      · cases h
/-! ### list(x), tuple(x) -/
def vSeq (M : Mm) (e : Ev) : Option (List D) := match e with
  | .d (.scr ns) => some (ns.map .int)
  | _ => match vLst M e with
    | some ds => some ds
    | none => vTup e
theorem reps_ints {A : List Addr} : ∀ ns : List Int, Reps N A al H (ns.map V.int) (ns.map D.int)
  | [] => .nil
  | n :: ns => .cons (.int n) (reps_ints ns)
theorem v_seq {K : PySem.W.Frag} (hK : N.K = K) (w : World N C al M T H) (h : VR N (wA C al M) al H T x e) {ds : List D} (q : vSeq M e = some ds) : ∃ p vs, x = .ref p ∧ (SqL K H p vs ∨ SqT K H p vs) ∧ Reps N (wA C al M) al H vs ds := by
  unfold vSeq at q
  split at q
  · cases q
    have r := w.live h
    cases r with
    | scr h1 => exact ⟨_, _, rfl, .inl (hK ▸ h1.sq), reps_ints _⟩
  · split at q
    · rename_i ds' h2
      cases q
      obtain ⟨p, vs, rfl, hp, r⟩ := v_lst w h h2
      exact ⟨p, vs, rfl, .inl (.of hp), r⟩
    · obtain ⟨p, vs, rfl, hp, r⟩ := v_tup w h q
      exact ⟨p, vs, rfl, .inr (hK ▸ hp), r⟩
abbrev rListOf (K : PySem.W.Frag) : List V → Hp → VK → Prop := fun xs H Q => ∃ p ys, xs = [.ref p] ∧ (SqL K H p ys ∨ SqT K H p ys) ∧ ∀ l, H l = none → Q (.ref l) (upd H l (.lst ys))
theorem uf_list {K : PySem.W.Frag} (hK : N.K = K) : UnF N (fun x H Q => rListOf K [x] H Q) vSeq := fun w hx h Q q => by
  obtain ⟨p, vs, rfl, hp, r⟩ := v_seq hK w hx h
  exact ⟨p, vs, rfl, hp, fun l hl => q l _ (Ext.new hl) (w.newL hl r)⟩
abbrev rTupOf (K : PySem.W.Frag) : List V → Hp → VK → Prop := fun xs H Q => ∃ p ys, xs = [.ref p] ∧ ((SqL K H p ys ∧ ∀ l, H l = none → Q (.ref l) (upd H l (.tup ys))) ∨ (SqT K H p ys ∧ Q (.ref p) H))
def oTupOf : Mm → Ev → Option D := fun M e => (vSeq M e).map .tup
theorem us_tup {K : PySem.W.Frag} (hK : N.K = K) : UnS N (fun x H Q => rTupOf K [x] H Q) oTupOf := fun w hx h Q q => by
  obtain ⟨ds, h1, rfl⟩ := map_some h
  obtain ⟨p, vs, rfl, hp, r⟩ := v_seq hK w hx h1
  rcases hp with hp | hp
  · exact ⟨p, vs, rfl, .inl ⟨hp, fun l hl => q _ _ (Ext.new hl) (w.newT hl r)⟩⟩
  · exact ⟨p, vs, rfl, .inr ⟨hp, q _ _ Ext.rfl (w.add (.tup (hK ▸ hp) r))⟩⟩
/-! ### int(x) -/
def oInt1 : Mm → Ev → Option D := fun _ e => match vInt e with
  | some i => some (.int i)
  | none => (vBl e).map fun b => .int (if b then 1 else 0)
theorem us_int1 : UnS N (fun x H Q => (∃ i, [x] = [V.int i] ∧ Q (.int i) H) ∨ ∃ k, [x] = [V.bl k] ∧ Q (.int (if k then 1 else 0)) H) oInt1 := fun w hx h Q q => by
  unfold oInt1 at h
  split at h
  · rename_i i h1
    cases h
    exact .inl ⟨i, by rw [v_int w hx h1], q _ _ Ext.rfl (w.more fun A _ => .int _)⟩
  · obtain ⟨b, h1, rfl⟩ := map_some h
    exact .inr ⟨b, by rw [v_bl w hx h1], q _ _ Ext.rfl (w.more fun A _ => .int _)⟩
end
end Z

set_option maxHeartbeats 4000000
namespace Z
open PySem PySem.Spec PyProof.Rows L2

/-! ### slices -/
def cutL {α : Type} (xs : List α) (lo hi : Option Int) : List α := (xs.drop (HT.sIx xs.length 0 lo)).take (HT.sIx xs.length xs.length hi - HT.sIx xs.length 0 lo)
def evO : Option PV → Gm → Mm → Option (Option Int)
  | none, _, _ => some none
  | some p, Γ, M => (p Γ M).bind fun e => (vInt e).map some
def tOz (N : Nm) (p : Option PV) : TO := fun σ H Q => ∃ Γ Tf Cf al M, Fm N σ Γ Tf Cf al M H ∧ ∃ o, evO p Γ M = some o ∧ ∀ H', Ext H H' → Fm N σ Γ Tf Cf al M H' → Q o H'
section
variable {X : Cx} {N : Nm} {W : WX} {a b : Expr} {pos : Pos}
theorem zo_none : PO X none (tOz N none) := ⟨fun pins s σ H Q I ⟨Γ, Tf, Cf, al, M, f, o, h, q⟩ => by
  cases h
  exact po_none.run pins s σ H Q I (q H Ext.rfl f)⟩
theorem zo_some {p : PV} (ha : PE X a (tP N p)) : PO X (some a) (tOz N (some p)) := ⟨fun pins s σ H Q I ⟨Γ, Tf, Cf, al, M, f, o, h, q⟩ => by
  obtain ⟨e, e1, h⟩ := bind_some h
  obtain ⟨i, e2, rfl⟩ := map_some h
  refine (po_some ha).run pins s σ H Q I ⟨Γ, Tf, Cf, al, M, f, e, e1, .of fun x Tg H1 ex f1 sb hx => ⟨i, v_int f1.w hx e2, q H1 ex (f1.sub sb)⟩⟩⟩
end
def SlS (N : Nm) (r : V → Option Int → Option Int → Hp → VK → Prop) (op : Mm → Ev → Option Int → Option Int → Option D) : Prop :=
  ∀ {C : List (Addr × O)} {al : List Addr} {M : Mm} {T : List (V × D)} {H : Hp} {x : V} {e : Ev} {lo hi : Option Int} {d : D}, World N C al M T H → VR N (wA C al M) al H T x e → op M e lo hi = some d →
    ∀ Q : VK, (∀ v H', Ext H H' → World N C al M ((v, d) :: T) H' → Q v H') → r x lo hi H Q
def SlF (N : Nm) (r : V → Option Int → Option Int → Hp → VK → Prop) (op : Mm → Ev → Option Int → Option Int → Option (List D)) : Prop :=
  ∀ {C : List (Addr × O)} {al : List Addr} {M : Mm} {T : List (V × D)} {H : Hp} {x : V} {e : Ev} {lo hi : Option Int} {ds : List D}, World N C al M T H → VR N (wA C al M) al H T x e → op M e lo hi = some ds →
    ∀ Q : VK, (∀ p H', Ext H H' → World N ((p, .lst ds) :: C) al M T H' → Q (.ref p) H') → r x lo hi H Q
def pSl (op : Mm → Ev → Option Int → Option Int → Option D) (pa : PV) (pl ph : Option PV) : PV := fun Γ M => (pa Γ M).bind fun e => (evO pl Γ M).bind fun lo => (evO ph Γ M).bind fun hi => (op M e lo hi).map .d
def eSl (op : Mm → Ev → Option Int → Option Int → Option D) (ea : EV) (pl ph : Option PV) : EV := fun Γ M => (ea Γ M).bind fun r => orBad (evO pl Γ r.2) fun lo => orBad (evO ph Γ r.2) fun hi => orBad (op r.2 (.d r.1) lo hi) fun d => .ok (d, r.2)
def fSl (op : Mm → Ev → Option Int → Option Int → Option (List D)) (pa : PV) (pl ph : Option PV) : AV := fun Γ M => orBad (pa Γ M) fun e => orBad (evO pl Γ M) fun lo => orBad (evO ph Γ M) fun hi => orBad (op M e lo hi) fun ds => .ok (ds, M)
section
variable {X : Cx} {N : Nm} {W : WX} {a b : Expr} {pos p2 : Pos} {lo hi : Option Expr}
theorem z_slice {r : V → Option Int → Option Int → Hp → VK → Prop} {op : Mm → Ev → Option Int → Option Int → Option D} {pa : PV} {pl ph : Option PV} (hr : SlR X r) (hs : SlS N r op) (ha : PE X a (tP N pa)) (hl : PO X lo (tOz N pl)) (hh : PO X hi (tOz N ph)) :
    PE X (.Subscript a (.Slice lo hi none p2) pos) (tP N (pSl op pa pl ph)) := (pe_slice hr ha hl hh).imp fun σ H Q ⟨Γ, Tf, Cf, al, M, f, e0, h, q⟩ => by
  obtain ⟨e, ea, h⟩ := bind_some h
  obtain ⟨l, el, h⟩ := bind_some h
  obtain ⟨u, eu, h⟩ := bind_some h
  obtain ⟨d, ed, h⟩ := map_some h
  subst h
  refine ⟨Γ, Tf, Cf, al, M, f, e, ea, .of fun x Tg H1 ex f1 sb hx => ⟨Γ, Tg, Cf, al, M, f1, l, el, fun H2 ex2 f2 => ⟨Γ, Tg, Cf, al, M, f2, u, eu, fun H3 ex3 f3 => ?_⟩⟩⟩
  exact hs f3.w ((hx.ext ex2).ext ex3) ed Q fun v H' ex4 w' => q v H' (((ex.trans ex2).trans ex3).trans ex4) (.putS f3.ok w' sb)
theorem z_sliceE {r : V → Option Int → Option Int → Hp → VK → Prop} {op : Mm → Ev → Option Int → Option Int → Option D} {ea : EV} {pl ph : Option PV} (hr : SlR X r) (hs : SlS N r op) (ha : PE X a (tE N W ea)) (hl : PO X lo (tOz N pl)) (hh : PO X hi (tOz N ph)) :
    PE X (.Subscript a (.Slice lo hi none p2) pos) (tE N W (eSl op ea pl ph)) := (pe_slice hr ha hl hh).imp fun σ H Q ⟨Γ, Tf, Cf, al, M, f, q⟩ => by
  refine ⟨Γ, Tf, Cf, al, M, f, (R.sat_bind.mp q).mono (fun r1 q x al1 H1 pr f1 => ?_) fun _ _ q => q⟩
  obtain ⟨l, el, q⟩ := sat_or q
  obtain ⟨u, eu, q⟩ := sat_or q
  obtain ⟨d, ed, q⟩ := sat_or q
  refine ⟨Γ, _, Cf, al1, r1.2, f1, l, el, fun H2 ex2 f2 => ⟨Γ, _, Cf, al1, r1.2, f2, u, eu, fun H3 ex3 f3 => ?_⟩⟩
  exact hs f3.w (VR.d (List.mem_append_right _ (List.mem_cons_self ..))) ed _ fun v H' ex w' => q v al1 H' pr (.putS f3.ok w' fun p hp => List.mem_cons_of_mem _ hp)
theorem z_sliceF {r : V → Option Int → Option Int → Hp → VK → Prop} {op : Mm → Ev → Option Int → Option Int → Option (List D)} {pa : PV} {pl ph : Option PV} (hr : SlR X r) (hs : SlF N r op) (ha : PE X a (tP N pa)) (hl : PO X lo (tOz N pl)) (hh : PO X hi (tOz N ph)) :
    PE X (.Subscript a (.Slice lo hi none p2) pos) (tF N W (fSl op pa pl ph)) := (pe_slice hr ha hl hh).imp fun σ H Q ⟨Γ, Tf, Cf, al, M, f, q⟩ => by
  obtain ⟨e, ea, q⟩ := sat_or q
  obtain ⟨l, el, q⟩ := sat_or q
  obtain ⟨u, eu, q⟩ := sat_or q
  obtain ⟨d, ed, q⟩ := sat_or q
  refine ⟨Γ, Tf, Cf, al, M, f, e, ea, .of fun x Tg H1 ex f1 sb hx => ⟨Γ, Tg, Cf, al, M, f1, l, el, fun H2 ex2 f2 => ⟨Γ, Tg, Cf, al, M, f2, u, eu, fun H3 ex3 f3 => ?_⟩⟩⟩
  exact hs f3.w ((hx.ext ex2).ext ex3) ed Q fun p H' ex4 w' => q p al H' Pre.rfl f3.ok (Wsub w' sb)
end
section
variable {N : Nm} {C : List (Addr × O)} {al : List Addr} {M : Mm} {T : List (V × D)} {H H' : Hp} {x : V} {e : Ev}
def oSlL : Mm → Ev → Option Int → Option Int → Option (List D) := fun M e lo hi => (vLst M e).map fun ds => cutL ds lo hi
theorem reps_cut {A : List Addr} {vs : List V} {ds : List D} (r : Reps N A al H vs ds) (lo hi : Option Int) : Reps N A al H (cutV vs lo hi) (cutL ds lo hi) := by
  unfold cutV cutL
  rw [r.len]
  exact (r.drop _).take _
theorem sf_list {K : PySem.W.Frag} : SlF N (rSlL K) oSlL := fun w hx h Q q => by
  obtain ⟨ds, h1, rfl⟩ := map_some h
  obtain ⟨p, vs, rfl, hp, r⟩ := v_lst w hx h1
  exact ⟨p, vs, rfl, .of hp, fun a ha => q a _ (Ext.new ha) (w.newL ha (reps_cut r _ _))⟩
def rSlU (K : PySem.W.Frag) : V → Option Int → Option Int → Hp → VK → Prop := fun x lo hi H Q => rSlL K x lo hi H Q ∨ rSlA K x lo hi H Q ∨ rSlS x lo hi H Q
theorem sl_U {X : Cx} : SlR X (rSlU X.K) := fun pins s σ H x v vl vu lo hi sl Q I rx hs pl pu q => by
  rcases q with q | q | q
  · exact sl_list pins s σ H x v vl vu lo hi sl Q I rx hs pl pu q
  · exact sl_tupA pins s σ H x v vl vu lo hi sl Q I rx hs pl pu q
  · exact sl_str pins s σ H x v vl vu lo hi sl Q I rx hs pl pu q
def oSl : Mm → Ev → Option Int → Option Int → Option D := fun M e lo hi => match vLst M e with
  | some ds => some (.lst (cutL ds lo hi))
  | none => match vTup e with
    | some ds => some (.tup (cutL ds lo hi))
    | none => (vStr e).bind fun z => if z.length ≤ big then some (.str (cutL z lo hi)) else none
theorem cut_whole {α : Type} (xs : List α) {lo hi : Option Int} (h : HT.sIx xs.length 0 lo = 0 ∧ HT.sIx xs.length xs.length hi = xs.length) : cutL xs lo hi = xs := by
  unfold cutL
  rw [h.1, h.2]
  simp
theorem ss_U {K : PySem.W.Frag} (hK : N.K = K) : SlS N (rSlU K) oSl := fun {C al M T H x e lo hi d} w hx h Q q => by
  unfold oSl at h
  split at h
  · rename_i ds h1
    cases h
    obtain ⟨p, vs, rfl, hp, r⟩ := v_lst w hx h1
    exact .inl ⟨p, vs, rfl, .of hp, fun a ha => q _ _ (Ext.new ha) (w.newL ha (reps_cut r _ _)).relL⟩
  · split at h
    · rename_i ds h1
      cases h
      obtain ⟨p, vs, rfl, hp, r⟩ := v_tup w hx h1
      refine .inr (.inl ⟨p, vs, rfl, hK ▸ hp, fun hw => ?_, fun _ a ha => q _ _ (Ext.new ha) (w.newT ha (reps_cut r _ _))⟩)
      rw [r.len] at hw
      rw [cut_whole ds hw] at q
      exact q _ _ Ext.rfl (w.add (.tup hp r))
    · obtain ⟨z, h1, h⟩ := bind_some h
      split at h
      · rename_i hl
        cases h
        refine .inr (.inr ⟨_, v_str w hx h1, big_line (by rw [str_len]; exact hl), ?_⟩)
        have e : cutS ⟨z.toArray⟩ lo hi = ⟨(cutL z lo hi).toArray⟩ := by
          unfold cutS cutL
          rw [str_len]
        rw [e]
        exact q _ _ Ext.rfl (w.more fun A _ => .str _)
      · cases h
/-! ### texts in order; str(n); ord -/
theorem os_ltS : OpS N (fun x y H Q => ∃ i j, x = .str i ∧ y = .str j ∧ Q (.bl (decide (i.cps.toList < j.cps.toList))) H) (oStr fun x y => decide (x < y)) := fun w hx hy h Q q => by
  unfold oStr at h
  split at h
  · rename_i x' y' h1 h2
    cases h
    exact ⟨_, _, v_str w hx h1, v_str w hy h2, q _ _ Ext.rfl (w.more fun A _ => .bl _)⟩
  · cases h
theorem os_leS : OpS N (fun x y H Q => ∃ i j, x = .str i ∧ y = .str j ∧ Q (.bl (!decide (j.cps.toList < i.cps.toList))) H) (oStr fun x y => !decide (y < x)) := fun w hx hy h Q q => by
  unfold oStr at h
  split at h
  · rename_i x' y' h1 h2
    cases h
    exact ⟨_, _, v_str w hx h1, v_str w hy h2, q _ _ Ext.rfl (w.more fun A _ => .bl _)⟩
  · cases h
theorem os_gtS : OpS N (fun x y H Q => ∃ i j, x = .str i ∧ y = .str j ∧ Q (.bl (decide (j.cps.toList < i.cps.toList))) H) (oStr fun x y => decide (y < x)) := fun w hx hy h Q q => by
  unfold oStr at h
  split at h
  · rename_i x' y' h1 h2
    cases h
    exact ⟨_, _, v_str w hx h1, v_str w hy h2, q _ _ Ext.rfl (w.more fun A _ => .bl _)⟩
  · cases h
/-- < , <= , > of ints or of texts -/
def oOr (f g : Mm → Ev → Ev → Option D) : Mm → Ev → Ev → Option D := fun M e h => match f M e h with
  | some d => some d
  | none => g M e h
theorem os_or {r r' : R2} {f g : Mm → Ev → Ev → Option D} (a : OpS N r f) (b : OpS N r' g) : OpS N (fun x y H Q => r x y H Q ∨ r' x y H Q) (oOr f g) := fun w hx hy h Q q => by
  unfold oOr at h
  split at h
  · rename_i d' h1
    cases h
    exact .inl (a w hx hy h1 Q q)
  · exact .inr (b w hx hy h Q q)
def digits (i : Int) : List Nat := (toString i : Str).cps.toList
def oStrI : Mm → Ev → Option D := fun _ e => (vInt e).bind fun i => if i.natAbs.log2 < 1920 then some (.str (digits i)) else none
theorem us_strI : UnS N (fun x H Q => ∃ i, [x] = [V.int i] ∧ i.natAbs.log2 < 1920 ∧ Q (.str (toString i)) H) oStrI := fun w hx h Q q => by
  obtain ⟨i, h1, h⟩ := bind_some h
  split at h
  · rename_i hl
    cases h
    refine ⟨i, by rw [v_int w hx h1], hl, q _ _ Ext.rfl (w.more fun A _ => rep_str rfl A _ _)⟩
  · cases h
def oOrd : Mm → Ev → Option D := fun _ e => (vStr e).bind fun z => match z with
  | [c] => some (.int c)
  | _ => none
theorem us_ord : UnS N (fun x H Q => ∃ z : Str, [x] = [V.str z] ∧ z.length = 1 ∧ Q (.int (z.cps.getD 0 0 : Nat)) H) oOrd := fun w hx h Q q => by
  obtain ⟨z, h1, h⟩ := bind_some h
  split at h
  · rename_i c
    cases h
    exact ⟨⟨[c].toArray⟩, by rw [v_str w hx h1], rfl, q _ _ Ext.rfl (w.more fun A _ => .int _)⟩
  · cases h
end

/-! ### displays, arguments -/
def aNil : AV := fun _ M => .ok ([], M)
def aCons (ea : EV) (er : AV) : AV := fun Γ M => (ea Γ M).bind fun r => (er Γ r.2).bind fun s => .ok (r.1 :: s.1, s.2)
def eTup (ea : AV) : EV := fun Γ M => (ea Γ M).bind fun r => if r.1.length ≤ big then .ok (.tup r.1, r.2) else .bad
def fLst (ea : AV) : AV := fun Γ M => (ea Γ M).bind fun r => if r.1.length ≤ big then .ok (r.1, r.2) else .bad
theorem sat_if {α : Type} {c : Prop} [Decidable c] {r : R α} {P : α → Prop} {E : Nat → List O → Prop} (h : (if c then r else R.bad).sat P E) : c ∧ r.sat P E := by
  by_cases hc : c
  · rw [if_pos hc] at h; exact ⟨hc, h⟩
  · rw [if_neg hc] at h; exact h.elim
section
variable {X : Cx} {N : Nm} {W : WX} {a b c : Expr} {es : List Expr} {pos : Pos}
theorem z_anil : PA X [] (tAs N W aNil) := pa_nil.imp fun σ H Q ⟨Γ, Tf, Cf, al, M, f, q⟩ => q [] al H rfl Pre.rfl f
theorem z_acons {ea : EV} {er : AV} (ha : PE X a (tE N W ea)) (hr : PA X es (tAs N W er)) (hs : starEach (a :: es) X.env = (false, eval a X.env) :: starEach es X.env := by rfl) : PA X (a :: es) (tAs N W (aCons ea er)) :=
  (pa_cons ha hr hs).imp fun σ H Q ⟨Γ, Tf, Cf, al, M, f, q⟩ => by
    refine ⟨Γ, Tf, Cf, al, M, f, (R.sat_bind.mp q).mono (fun r1 q x al1 H1 pr f1 => ⟨Γ, _, Cf, al1, r1.2, f1, (R.sat_bind.mp q).mono (fun r2 q xs al2 H2 hl pr2 f2 => ?_) fun c M' q al' H' ao pr' f' => q al' H' ao (pr.trans pr') (f'.sub fun p hp => List.mem_cons_of_mem _ hp)⟩) fun _ _ q => q⟩
    refine q (x :: xs) al2 H2 (by simp [hl]) (pr.trans pr2) (f2.sub fun p hp => ?_)
    rcases List.mem_cons.mp (show p ∈ (x, r1.1) :: (xs.zip r2.1 ++ Tf) from hp) with e | hp
    · rw [e]; exact List.mem_append_right _ (List.mem_cons_self ..)
    · rcases List.mem_append.mp hp with z | z
      · exact List.mem_append_left _ z
      · exact List.mem_append_right _ (List.mem_cons_of_mem _ z)
theorem Fm.reps {σ : List (Option V)} {Γ : Gm} {Tf : List (V × D)} {Cf : List (Addr × O)} {al : List Addr} {M : Mm} {H : Hp} {vs : List V} {ds : List D} (f : Fm N σ Γ (vs.zip ds ++ Tf) Cf al M H) (hl : vs.length = ds.length) :
    Reps N (wA (fC σ Γ ++ Cf) al M) al H vs ds := Reps.zip hl fun p hp => f.w.core.live p (List.mem_append_right _ (List.mem_append_left _ hp))
theorem Fm.tail {σ : List (Option V)} {Γ : Gm} {Tf : List (V × D)} {Cf : List (Addr × O)} {al : List Addr} {M : Mm} {H : Hp} {S : List (V × D)} (f : Fm N σ Γ (S ++ Tf) Cf al M H) : Fm N σ Γ Tf Cf al M H := f.sub fun p hp => List.mem_append_right _ hp
theorem z_tup {ea : AV} {x1} (ha : PA X es (tAs N W ea)) : PE X (.Tuple es x1 pos) (tE N W (eTup ea)) := (pe_tup ha).imp fun σ H Q ⟨Γ, Tf, Cf, al, M, f, q⟩ => by
  refine ⟨Γ, Tf, Cf, al, M, f, (R.sat_bind.mp q).mono (fun r q vs al1 H1 hl pr f1 => ?_) fun _ _ q => q⟩
  obtain ⟨hb, q⟩ := sat_if q
  exact ⟨big_line (by rw [hl]; exact hb), fun p hp => q _ al1 _ pr (.putS f1.ok (f1.w.newT hp (f1.reps hl)) fun p hp => List.mem_append_right _ hp)⟩
theorem z_disp {ea : AV} (ha : PA X es (tAs N W ea)) : PE X (.List es pos) (tF N W (fLst ea)) := (pe_lst ha).imp fun σ H Q ⟨Γ, Tf, Cf, al, M, f, q⟩ => by
  refine ⟨Γ, Tf, Cf, al, M, f, (R.sat_bind.mp q).mono (fun r q vs al1 H1 hl pr f1 => ?_) fun _ _ q => q⟩
  obtain ⟨hb, q⟩ := sat_if q
  exact ⟨big_line (by rw [hl]; exact hb), fun p hp => q p al1 _ pr f1.ok (Wsub (f1.w.newL hp (f1.reps hl)) fun p hp => List.mem_append_right _ hp)⟩

/-! ### tests, and, or, not, if else -/
def bT (ev : EV) : TV := fun Γ M => (ev Γ M).bind fun r => orBad (vBl (.d r.1)) fun b => .ok (b, r.2)
def nT (t : TV) : TV := fun Γ M => (t Γ M).bind fun r => .ok (!r.1, r.2)
def andT (t u : TV) : TV := fun Γ M => (t Γ M).bind fun r => if r.1 = true then u Γ r.2 else .ok (false, r.2)
def orT (t u : TV) : TV := fun Γ M => (t Γ M).bind fun r => if r.1 = true then .ok (true, r.2) else u Γ r.2
def ifE (t : TV) (ea eb : EV) : EV := fun Γ M => (t Γ M).bind fun r => if r.1 = true then ea Γ r.2 else eb Γ r.2
/-- and, or as values: the first a bool -/
def andE (ea eb : EV) : EV := fun Γ M => (ea Γ M).bind fun r => orBad (vBl (.d r.1)) fun b => if b = true then eb Γ r.2 else .ok (.bl false, r.2)
def orE (ea eb : EV) : EV := fun Γ M => (ea Γ M).bind fun r => orBad (vBl (.d r.1)) fun b => if b = true then .ok (.bl true, r.2) else eb Γ r.2
def notE (ea : EV) : EV := fun Γ M => (ea Γ M).bind fun r => orBad (vBl (.d r.1)) fun b => .ok (.bl (!b), r.2)
theorem bT_ok {ev : EV} : ∀ σ H Q, tTs N W (bT ev) σ H Q → tTest (tE N W ev) σ H Q := fun σ H Q ⟨Γ, Tf, Cf, al, M, f, q⟩ => by
  refine ⟨Γ, Tf, Cf, al, M, f, (R.sat_bind.mp q).mono (fun r q x al1 H1 pr f1 => ?_) fun _ _ q => q⟩
  obtain ⟨b, eb, q⟩ := sat_or q
  refine ⟨b, v_bl f1.w (VR.d (List.mem_append_right _ (List.mem_cons_self ..))) eb, q al1 H1 pr (f1.sub fun p hp => List.mem_cons_of_mem _ hp)⟩
/-- a test that is a value's: a name, a call, a field -/
theorem z_tval {ev : EV} (ha : PE X a (tE N W ev)) (he : ∀ whole, isTrue a X.env whole = (do let v ← whole; standAt a.pos; holding [v] (truthy v)) := by intro _; rfl) : PT X a (tTs N W (bT ev)) := (pt_val ha he).imp bT_ok
/-- a comparison as a test -/
theorem test_imp {t t' : TE} (i : ∀ σ H Q, t' σ H Q → t σ H Q) : ∀ σ H Q, tTest t' σ H Q → tTest t σ H Q := fun σ H Q h => i σ H _ h
theorem z_tcmp {o : CmpOp} {r : R2} {op : Mm → Ev → Ev → Option D} {pa pb : PV} (ho : OpR X (compareOp o) r) (hs : OpS N r op) (ha : PE X a (tP N pa)) (hb : PE X b (tP N pb)) (hm : behindInMarks o b = false := by first | exact nomark _ | rfl) :
    PT X (.Compare a [o] [b] pos) (tTs N W (bT (up (p2 op pa pb)))) := (pt_cmpR ho ha hb hm).imp fun σ H Q h => test_imp (p2_ok hs pa pb) σ H Q (test_imp up_ok σ H Q (bT_ok σ H Q h))
theorem z_tcmpE {o : CmpOp} {r : R2} {op : Mm → Ev → Ev → Option D} {ea eb : EV} (ho : OpR X (compareOp o) r) (hs : OpS N r op) (ha : PE X a (tE N W ea)) (hb : PE X b (tE N W eb)) (hm : behindInMarks o b = false := by first | exact nomark _ | rfl) :
    PT X (.Compare a [o] [b] pos) (tTs N W (bT (e2 op ea eb))) := (pt_cmpR ho ha hb hm).imp fun σ H Q h => test_imp (e2_ok hs ea eb) σ H Q (bT_ok σ H Q h)
theorem z_tnot {t : TV} (ha : PT X a (tTs N W t)) : PT X (.UnaryOp .Not a pos) (tTs N W (nT t)) := (pt_not ha).imp fun σ H Q ⟨Γ, Tf, Cf, al, M, f, q⟩ =>
  ⟨Γ, Tf, Cf, al, M, f, (R.sat_bind.mp q).mono (fun r q => q) fun _ _ q => q⟩
theorem z_wand1 {t : TV} (ha : PT X a (tTs N W t)) : PW X (.BoolOp .And [a] pos) (tTs N W t) := pw_and1 ha
theorem z_wor1 {t : TV} (ha : PT X a (tTs N W t)) : PW X (.BoolOp .Or [a] pos) (tTs N W t) := pw_or1 ha
theorem z_wand {t u : TV} (ha : PT X a (tTs N W t)) (hb : PW X (.BoolOp .And (b :: es) pos) (tTs N W u)) : PW X (.BoolOp .And (a :: b :: es) pos) (tTs N W (andT t u)) := (pw_and ha hb).imp fun σ H Q ⟨Γ, Tf, Cf, al, M, f, q⟩ => by
  refine ⟨Γ, Tf, Cf, al, M, f, (R.sat_bind.mp q).mono (fun r q al1 H1 pr f1 => ?_) fun _ _ q => q⟩
  obtain ⟨b1, M1⟩ := r
  cases b1 with
  | true => exact ⟨Γ, Tf, Cf, al1, M1, f1, R.sat.mono q (fun r q al2 H2 pr2 f2 => q al2 H2 (pr.trans pr2) f2) fun c M' q al' H' ao pr' f' => q al' H' ao (pr.trans pr') f'⟩
  | false => exact q al1 H1 pr f1
theorem z_wor {t u : TV} (ha : PT X a (tTs N W t)) (hb : PW X (.BoolOp .Or (b :: es) pos) (tTs N W u)) : PW X (.BoolOp .Or (a :: b :: es) pos) (tTs N W (orT t u)) := (pw_or ha hb).imp fun σ H Q ⟨Γ, Tf, Cf, al, M, f, q⟩ => by
  refine ⟨Γ, Tf, Cf, al, M, f, (R.sat_bind.mp q).mono (fun r q al1 H1 pr f1 => ?_) fun _ _ q => q⟩
  obtain ⟨b1, M1⟩ := r
  cases b1 with
  | false => exact ⟨Γ, Tf, Cf, al1, M1, f1, R.sat.mono q (fun r q al2 H2 pr2 f2 => q al2 H2 (pr.trans pr2) f2) fun c M' q al' H' ao pr' f' => q al' H' ao (pr.trans pr') f'⟩
  | true => exact q al1 H1 pr f1
theorem z_if {t : TV} {ea eb : EV} (hc : PT X c (tTs N W t)) (ha : PE X a (tE N W ea)) (hb : PE X b (tE N W eb)) : PE X (.IfExp c a b pos) (tE N W (ifE t ea eb)) := (pe_ifExp hc ha hb).imp fun σ H Q ⟨Γ, Tf, Cf, al, M, f, q⟩ => by
  refine ⟨Γ, Tf, Cf, al, M, f, (R.sat_bind.mp q).mono (fun r q al1 H1 pr f1 => ?_) fun _ _ q => q⟩
  obtain ⟨b1, M1⟩ := r
  cases b1 with
  | false => exact ⟨Γ, Tf, Cf, al1, M1, f1, R.sat.mono q (fun r q v al2 H2 pr2 f2 => q v al2 H2 (pr.trans pr2) f2) fun c M' q al' H' ao pr' f' => q al' H' ao (pr.trans pr') f'⟩
  | true => exact ⟨Γ, Tf, Cf, al1, M1, f1, R.sat.mono q (fun r q v al2 H2 pr2 f2 => q v al2 H2 (pr.trans pr2) f2) fun c M' q al' H' ao pr' f' => q al' H' ao (pr.trans pr') f'⟩
theorem z_one {op} {t : TE} (h : PE X a t) : PE X (.BoolOp op [a] pos) t := pe_one h
theorem z_and {ea eb : EV} (ha : PE X a (tE N W ea)) (hb : PE X (.BoolOp .And (b :: es) pos) (tE N W eb)) : PE X (.BoolOp .And (a :: b :: es) pos) (tE N W (andE ea eb)) := (pe_and ha hb).imp fun σ H Q ⟨Γ, Tf, Cf, al, M, f, q⟩ => by
  refine ⟨Γ, Tf, Cf, al, M, f, (R.sat_bind.mp q).mono (fun r q x al1 H1 pr f1 => ?_) fun _ _ q => q⟩
  obtain ⟨b1, e1, q⟩ := sat_or q
  refine ⟨b1, v_bl f1.w (VR.d (List.mem_append_right _ (List.mem_cons_self ..))) e1, ?_⟩
  have f2 := f1.sub (Tg := Tf) fun p hp => List.mem_cons_of_mem _ hp
  cases b1 with
  | true => exact ⟨Γ, Tf, Cf, al1, r.2, f2, R.sat.mono q (fun r q v al2 H2 pr2 f2 => q v al2 H2 (pr.trans pr2) f2) fun c M' q al' H' ao pr' f' => q al' H' ao (pr.trans pr') f'⟩
  | false => exact q _ al1 H1 pr (.putS f2.ok (f2.w.more fun A _ => .bl _) fun _ hp => hp)
theorem z_or {ea eb : EV} (ha : PE X a (tE N W ea)) (hb : PE X (.BoolOp .Or (b :: es) pos) (tE N W eb)) : PE X (.BoolOp .Or (a :: b :: es) pos) (tE N W (orE ea eb)) := (pe_or ha hb).imp fun σ H Q ⟨Γ, Tf, Cf, al, M, f, q⟩ => by
  refine ⟨Γ, Tf, Cf, al, M, f, (R.sat_bind.mp q).mono (fun r q x al1 H1 pr f1 => ?_) fun _ _ q => q⟩
  obtain ⟨b1, e1, q⟩ := sat_or q
  refine ⟨b1, v_bl f1.w (VR.d (List.mem_append_right _ (List.mem_cons_self ..))) e1, ?_⟩
  have f2 := f1.sub (Tg := Tf) fun p hp => List.mem_cons_of_mem _ hp
  cases b1 with
  | false => exact ⟨Γ, Tf, Cf, al1, r.2, f2, R.sat.mono q (fun r q v al2 H2 pr2 f2 => q v al2 H2 (pr.trans pr2) f2) fun c M' q al' H' ao pr' f' => q al' H' ao (pr.trans pr') f'⟩
  | true => exact q _ al1 H1 pr (.putS f2.ok (f2.w.more fun A _ => .bl _) fun _ hp => hp)
theorem z_not {ea : EV} (ha : PE X a (tE N W ea)) : PE X (.UnaryOp .Not a pos) (tE N W (notE ea)) := (pe_not ha).imp fun σ H Q ⟨Γ, Tf, Cf, al, M, f, q⟩ => by
  refine ⟨Γ, Tf, Cf, al, M, f, (R.sat_bind.mp q).mono (fun r q x al1 H1 pr f1 => ?_) fun _ _ q => q⟩
  obtain ⟨b1, e1, q⟩ := sat_or q
  refine ⟨b1, v_bl f1.w (VR.d (List.mem_append_right _ (List.mem_cons_self ..))) e1, ?_⟩
  exact q _ al1 H1 pr (.putS f1.ok (f1.w.more fun A _ => .bl _) fun _ hp => List.mem_cons_of_mem _ hp)
end
end Z

set_option maxHeartbeats 4000000
namespace Z
open PySem PySem.Spec PyProof.Rows L2

/-! ### what a def promises: it does what the evaluator does -/
abbrev EX (N : Nm) (C : List (Addr × O)) (al : List Addr) (T : List (V × D)) (E : XK) (c : Nat) (M' : Mm) : Prop := ∀ al' H' ao, Pre al al' → World N C al' M' T H' → E (.ref (N.ca c)) ao H'
def spF (N : Nm) (F : Fn) (n : Nat) : Sp := fun vs H Q E => ∃ ds C al M T, vs.length = n ∧ ds.length = n ∧ World N C al M (vs.zip ds ++ T) H ∧
  (F ds M).sat (fun r => ∀ v al' H', Pre al al' → World N C al' r.2 ((v, r.1) :: T) H' → Q v H') (EX N C al T E)
/-- an __init__ over an object that is ours: from its fields and the arguments to its fields -/
abbrev Gn := List (Nat × D) → List D → Mm → R (List (Nat × D) × Mm)
def spG (N : Nm) (c : Nat) (G : Gn) (n : Nat) : Sp := fun vs H Q E => ∃ p us ds fs C al M T, vs = .ref p :: us ∧ us.length = n ∧ ds.length = n ∧ World N ((p, .ins c fs) :: C) al M (us.zip ds ++ T) H ∧
  (G fs ds M).sat (fun r => ∀ v al' H', Pre al al' → World N ((p, .ins c r.1) :: C) al' r.2 ((v, .non) :: T) H' → Q v H') (EX N C al T E)
/-- how the arguments come to the parameters: n in places, keywords ks, by g -/
structure Bn (N : Nm) (fd : FuncData) (ps : List Str) (n : Nat) (ks : List Str) (g : List D → List D → List D) : Prop where
  to : ∀ (s : Shared) (us ws : List Value) (vs zs : List V), N.K.In s.heap → Vals vs us → Vals zs ws → vs.length = n → zs.length = ks.length →
    ∃ gs gv, gv.length = ps.length ∧ BindsTo s fd ⟨us, ks.zip ws⟩ (ps.zip gs) ∧ Vals gv gs ∧ ∀ A al H ds es, Reps N A al H vs ds → Reps N A al H zs es → Reps N A al H gv (g ds es)
def gId : List D → List D → List D := fun ds _ => ds
theorem Bn.plain {N : Nm} {fd : FuncData} {ps : List Str} (h : Binds N.K fd ps []) : Bn N fd ps ps.length [] gId := ⟨fun s us ws vs zs k r rz hn hk => by
  have hl : us.length = ps.length := by rw [← r.length]; exact hn
  have b := h s us k (by rw [List.append_nil]; exact hl)
  rw [List.append_nil] at b
  exact ⟨us, vs, hn, b, r, fun A al H ds es h1 _ => h1⟩⟩
/-- defaults behind the arguments -/
theorem Bn.dfl {N : Nm} {fd : FuncData} {ps : List Str} {n : Nat} {dvs : List V} {ds0 : List Value} {dd : List D} (h : Binds N.K fd ps ds0) (hd : Vals dvs ds0) (hn : n + dvs.length = ps.length) (hr : ∀ A al H, Reps N A al H dvs dd) :
    Bn N fd ps n [] fun ds _ => ds ++ dd := ⟨fun s us ws vs zs k r rz hv hk => by
  have hl : (us ++ ds0).length = ps.length := by rw [List.length_append, ← r.length, ← hd.length, hv]; exact hn
  exact ⟨us ++ ds0, vs ++ dvs, by rw [List.length_append, hv]; exact hn, h s us k hl, r.append hd, fun A al H ds es h1 _ => h1.append (hr A al H)⟩⟩
theorem Bn.kw {N : Nm} {fd : FuncData} {ps ks : List Str} {n : Nat} {g : List Value → List Value → List Value} {gV : List V → List V → List V} {gD : List D → List D → List D} (h : KBn N.K fd ps n ks g gV)
    (hl : ∀ vs zs, vs.length = n → zs.length = ks.length → (gV vs zs).length = ps.length)
    (hr : ∀ A al H vs zs ds es, Reps N A al H vs ds → Reps N A al H zs es → vs.length = n → zs.length = ks.length → Reps N A al H (gV vs zs) (gD ds es)) : Bn N fd ps n ks gD := ⟨fun s us ws vs zs k r rz hv hk => by
  exact ⟨g us ws, gV vs zs, hl vs zs hv hk, h.to s us ws k (r.length ▸ hv) (rz.length ▸ hk), h.rel r rz, fun A al H ds es h1 h2 => hr A al H vs zs ds es h1 h2 hv hk⟩⟩

/-! ### calls -/
section
variable {X : Cx} {N : Nm} {W : WX} {k n : Nat} {f : Addr} {fd : FuncData} {ps ks : List Str} {g : List D → List D → List D} {F : Fn} {x m : Str} {p pos apos : Pos} {e o : Expr} {es : List Expr} {kws : List Keyword}
theorem run_z {pins : List (Addr × Obj)} {σ : L2.St} {H : Hp} {s : Shared} {Q : VK} {us ws : List Value} {vs zs : List V} {ds ez : List D} {Γ : Gm} {Tf : List (V × D)} {Cf : List (Addr × O)} {al : List Addr} {M : Mm}
    (hK : N.K = X.K) (tk : Takes X W) (G : FnOk X.prog X.w X.K X.mg X.base (L2.CX X.prog X.w) k f fd ps (spF N F ps.length)) (hr : Room k X.A) (hb : Bn N fd ps n ks g)
    (I : Inv X pins σ H s) (r : Vals vs us) (rz : Vals zs ws) (hn : vs.length = n) (hk : zs.length = ks.length) (fm : Fm N σ Γ Tf Cf al M H)
    (rd : Reps N (wA (fC σ Γ ++ Cf) al M) al H vs ds) (re : Reps N (wA (fC σ Γ ++ Cf) al M) al H zs ez)
    (q : (F (g ds ez) M).sat (fun r => ∀ v al' H', Pre al al' → Fm N σ Γ ((v, r.1) :: Tf) Cf al' r.2 H' → Q v H') (raised N W σ Γ Tf Cf al)) :
    wpAny (model X.prog X.w) X.A (call (.ref f) us (ks.zip ws)) (EP X pins σ Q) X.xe s := by
  obtain ⟨gs, gv, hl, b, rg, rr⟩ := hb.to s us ws vs zs (hK ▸ I.kIn) r rz hn hk
  have rG := rr _ _ _ _ _ rd re
  have w : World N (fC σ Γ ++ Cf) al M (gv.zip (g ds ez) ++ (fT σ Γ ++ Tf)) H := ⟨fm.w.len, ⟨fm.w.core.nd, fm.w.core.cell, fun x hx => (List.mem_append.mp hx).elim (fun z => rG.mem x z) (fun z => fm.w.core.live x z)⟩⟩
  have h : spF N F ps.length gv H Q (WE W σ) := ⟨g ds ez, _, al, M, _, hl, rG.len.symm.trans hl, w, R.sat.mono q (fun r q v al' H' pr w' => q v al' H' pr (.put fm.ok w')) fun c M' q al' H' ao pr w' => q al' H' ao pr ⟨fm.ok, w'⟩⟩
  refine wpAny_call (codeAny_mono (G.run X.A X.stack s H ⟨us, ks.zip ws⟩ gs gv Q (WE W σ) hr I.env0 b rg h) fun rr s' hq => ?_)
  cases rr with
  | error e => exact passAt tk σ pins H s e s' I hq
  | ok fl =>
    cases fl with
    | ret u => exact I.after hq
    | next => exact hq.elim
    | brk => exact hq.elim
    | cont => exact hq.elim
def Alen (ea : AV) (n : Nat) : Prop := ∀ Γ M r, ea Γ M = .ok r → r.1.length = n
theorem alen_nil : Alen aNil 0 := fun Γ M r h => by cases h; rfl
theorem bind_ok_inv {α β : Type} {r : R α} {f : α → R β} {b : β} (h : r.bind f = .ok b) : ∃ a, r = .ok a ∧ f a = .ok b := by
  cases r with
  | ok a => exact ⟨a, rfl, h⟩
  | exc c M => cases h
  | bad => cases h
theorem alen_cons {ea : EV} {er : AV} {n : Nat} (hr : Alen er n) : Alen (aCons ea er) (n + 1) := fun Γ M r h => by
  obtain ⟨a, e1, h⟩ := bind_ok_inv h
  obtain ⟨b, e2, h⟩ := bind_ok_inv h
  cases h
  exact congrArg Nat.succ (hr _ _ _ e2)
/-- f(e, ..) -/
def callE (F : Fn) (g : List D → List D → List D) (ea : AV) : EV := fun Γ M => (ea Γ M).bind fun r => F (g r.1 []) r.2
def callK (F : Fn) (g : List D → List D → List D) (ea ek : AV) : EV := fun Γ M => (ea Γ M).bind fun r => (ek Γ r.2).bind fun s => F (g r.1 s.1) s.2
/-- a world's post, further on -/
theorem sat_pre {σ : L2.St} {Γ : Gm} {Tf Tg : List (V × D)} {Cf : List (Addr × O)} {al al1 : List Addr} {Q : VK} {r : R (D × Mm)} (pr : Pre al al1) (s : ∀ p ∈ Tf, p ∈ Tg)
    (q : r.sat (fun r => ∀ v al' H', Pre al al' → Fm N σ Γ ((v, r.1) :: Tf) Cf al' r.2 H' → Q v H') (raised N W σ Γ Tf Cf al)) :
    r.sat (fun r => ∀ v al' H', Pre al1 al' → Fm N σ Γ ((v, r.1) :: Tg) Cf al' r.2 H' → Q v H') (raised N W σ Γ Tg Cf al1) :=
  R.sat.mono q (fun r q v al2 H2 pr2 f2 => q v al2 H2 (pr.trans pr2) (f2.sub fun p hp => by
    rcases List.mem_cons.mp hp with z | z
    · rw [z]; exact List.mem_cons_self ..
    · exact List.mem_cons_of_mem _ (s p z))) fun c M' q al' H' ao pr' f' => q al' H' ao (pr.trans pr') (f'.sub s)
theorem z_call {ea : AV} (hK : N.K = X.K) (tk : Takes X W) (G : FnOk X.prog X.w X.K X.mg X.base (L2.CX X.prog X.w) k f fd ps (spF N F ps.length)) (hr : Room k X.A) (hb : Bn N fd ps n [] g) (hg : Gl X x) (hm : X.mg x = some (.ref f))
    (hkp : PySem.W.keepIn X.K (.ref f) = true) (ha : PA X (e :: es) (tAs N W ea)) (hal : Alen ea n) (hdb : (x == ("__debug__" : Str)) = false := by decide)
    (he : starEach (e :: es) X.env = (false, eval e X.env) :: starEach es X.env := by rfl) (hpl : (backTo pos (starEach es X.env)).any (·.1) = false := by rfl) : PE X (.Call (.Name x p) (e :: es) [] pos) (tE N W (callE F g ea)) := by
  refine ⟨fun pins s σ H Q I h => ?_⟩
  obtain ⟨Γ, Tf, Cf, al, M, fm, q⟩ := h
  refine wpAny_Call_Name_kw (ld_glob I hg hm ?_ hdb)
  have hq : tAs N W ea σ H fun vs H1 => ∃ ds al1 M1, vs.length = n ∧ Pre al al1 ∧ Fm N σ Γ (vs.zip ds ++ Tf) Cf al1 M1 H1 ∧ vs.length = ds.length ∧ (F (g ds []) M1).sat (fun r => ∀ v al' H', Pre al al' → Fm N σ Γ ((v, r.1) :: Tf) Cf al' r.2 H' → Q v H') (raised N W σ Γ Tf Cf al) :=
    ⟨Γ, Tf, Cf, al, M, fm, by
      have q2 := R.sat_bind.mp q
      cases e1 : ea Γ M with
      | bad => rw [e1] at q2; exact q2.elim
      | exc c M' => rw [e1] at q2; exact q2
      | ok r =>
        rw [e1] at q2
        exact fun vs al1 H1 hl pr f1 => ⟨r.1, al1, r.2, hl.trans (hal _ _ _ e1), pr, f1, hl, q2⟩⟩
  refine PySem.W.callWith_K (h₀ := X.base) I.ok.mod.kin hkp (thn (ha.run pos pins s σ H _ I hq) fun us s1 ⟨vs, H1, I1, r, ds, al1, M1, hv, pr, f1, hl, q1⟩ => ⟨I1.kIn, ?_⟩) he hpl
  exact run_z (ws := []) (zs := []) (ez := []) hK tk G hr hb I1 r .nil hv rfl f1 (f1.reps hl) .nil (sat_pre pr (fun p hp => List.mem_append_right _ hp) q1)
theorem z_call0 (hK : N.K = X.K) (tk : Takes X W) (G : FnOk X.prog X.w X.K X.mg X.base (L2.CX X.prog X.w) k f fd ps (spF N F ps.length)) (hr : Room k X.A) (hb : Bn N fd ps 0 [] g) (hg : Gl X x) (hm : X.mg x = some (.ref f))
    (hkp : PySem.W.keepIn X.K (.ref f) = true) (hdb : (x == ("__debug__" : Str)) = false := by decide) : PE X (.Call (.Name x p) [] [] pos) (tE N W (callE F g aNil)) := by
  refine ⟨fun pins s σ H Q I h => ?_⟩
  obtain ⟨Γ, Tf, Cf, al, M, fm, q⟩ := h
  refine wpAny_Call_Name_kw (ld_glob I hg hm ?_ hdb)
  exact PySem.W.callWith_K0 I.kIn hkp (run_z (us := []) (vs := []) (ds := []) (ws := []) (zs := []) (ez := []) hK tk G hr hb I .nil .nil rfl rfl fm .nil .nil q)
/-- what the arguments' end hands on -/
def AQ (N : Nm) (W : WX) (σ : L2.St) (Γ : Gm) (Tf : List (V × D)) (Cf : List (Addr × O)) (al : List Addr) (n : Nat) (P : List D → List Addr → Mm → Prop) (vs : List V) (H1 : Hp) : Prop :=
  ∃ ds al1 M1, vs.length = n ∧ Pre al al1 ∧ Fm N σ Γ (vs.zip ds ++ Tf) Cf al1 M1 H1 ∧ vs.length = ds.length ∧ P ds al1 M1
theorem tAs_q {ea : AV} {σ : L2.St} {H : Hp} {Γ : Gm} {Tf : List (V × D)} {Cf : List (Addr × O)} {al : List Addr} {M : Mm} (fm : Fm N σ Γ Tf Cf al M H) (hal : Alen ea n) {P : List D → List Addr → Mm → Prop}
    (q : (ea Γ M).sat (fun r => ∀ al1, Pre al al1 → P r.1 al1 r.2) (raised N W σ Γ Tf Cf al)) : tAs N W ea σ H (AQ N W σ Γ Tf Cf al n P) := ⟨Γ, Tf, Cf, al, M, fm, by
  cases e1 : ea Γ M with
  | bad => rw [e1] at q; exact q.elim
  | exc c M' => rw [e1] at q; exact q
  | ok r =>
    rw [e1] at q
    exact fun vs al1 H1 hl pr f1 => ⟨r.1, al1, r.2, hl.trans (hal _ _ _ e1), pr, f1, hl, q al1 pr⟩⟩
/-- keywords -/
theorem z_knil : PK X [] (tAs N W aNil) := ⟨fun pos pins s σ H Q I ⟨Γ, Tf, Cf, al, M, f, q⟩ => pk_nil.run pos pins s σ H Q I (q [] al H rfl Pre.rfl f)⟩
theorem z_kcons {nm : Option Str} {kpos : Pos} {ea : EV} {er : AV} (ha : PE X e (tE N W ea)) (hr : PK X kws (tAs N W er)) : PK X (⟨nm, e, kpos⟩ :: kws) (tAs N W (aCons ea er)) := ⟨fun pos pins s σ H Q I h => by
  refine (pk_cons ha hr).run pos pins s σ H Q I ?_
  obtain ⟨Γ, Tf, Cf, al, M, f, q⟩ := h
  refine ⟨Γ, Tf, Cf, al, M, f, (R.sat_bind.mp q).mono (fun r1 q x al1 H1 pr f1 => ⟨Γ, _, Cf, al1, r1.2, f1, (R.sat_bind.mp q).mono (fun r2 q xs al2 H2 hl pr2 f2 => ?_) fun c M' q al' H' ao pr' f' => q al' H' ao (pr.trans pr') (f'.sub fun p hp => List.mem_cons_of_mem _ hp)⟩) fun _ _ q => q⟩
  refine q (x :: xs) al2 H2 (by simp [hl]) (pr.trans pr2) (f2.sub fun p hp => ?_)
  rcases List.mem_cons.mp (show p ∈ (x, r1.1) :: (xs.zip r2.1 ++ Tf) from hp) with e | hp
  · rw [e]; exact List.mem_append_right _ (List.mem_cons_self ..)
  · rcases List.mem_append.mp hp with z | z
    · exact List.mem_append_left _ z
    · exact List.mem_append_right _ (List.mem_cons_of_mem _ z)⟩

/-! ### methods: found by the object's class -/
/-- a method of a class: its evaluator and how it is called -/
structure Mt where
  F : Fn
  g : List D → List D → List D
/-- what the class at c has as m -/
def MtOk (X : Cx) (N : Nm) (m : Str) (n kk : Nat) (c : Nat) (t : Mt) : Prop :=
  ∃ k f fd ps, k ≤ kk ∧ Meth X.K (N.ca c) m f ∧ FnOk X.prog X.w X.K X.mg X.base (L2.CX X.prog X.w) k f fd ps (spF N t.F ps.length) ∧ Bn N fd ps n [] t.g
def methE (mi : Nat) (mt : Nat → Option Mt) (eo : EV) (ea : AV) : EV := fun Γ M => (eo Γ M).bind fun r => orBad (vIns r.2 (.d r.1)) fun ci => orBad (mt ci.1) fun t => if ci.2.lookup mi = none then (ea Γ r.2).bind fun s => t.F (t.g (r.1 :: s.1) []) s.2 else .bad
theorem repF_none {A al : List Addr} {H : Hp} {j : Nat} : ∀ {vs : List (Str × V)} {fs : List (Nat × D)}, RepF N A al H vs fs → fs.lookup j = none → vs.lookup (N.fn j) = none
  | _, _, .nil, _ => rfl
  | _, _, .cons (n := n) h1 r, h => by
    rw [List.lookup_cons] at h ⊢
    by_cases e : j = n
    · subst e
      rw [beq_self_eq_true] at h
      cases h
    · rw [beq_eq_false_iff_ne.mpr e] at h
      rw [beq_eq_false_iff_ne.mpr fun z => e (N.inj _ _ z)]
      exact repF_none r h
theorem z_meth {pl : Sem Bool} {mi kk : Nat} {mt : Nat → Option Mt} {eo : EV} {ea : AV} (hK : N.K = X.K) (tk : Takes X W) (ho : PE X o (tE N W eo)) (hmi : N.fn mi = m) (hmt : ∀ c t, mt c = some t → MtOk X N m (n + 1) kk c t) (hr : Room kk X.A)
    (ha : PA X (e :: es) (tAs N W ea)) (hal : Alen ea n) (hst : starEach (e :: es) X.env = (false, eval e X.env) :: starEach es X.env := by rfl) (hpl : (backTo pos (starEach es X.env)).any (·.1) = false := by rfl)
    (ht : eval (.Call (.Attribute o m apos) (e :: es) [] pos) X.env = (do
      let v ← eval o X.env
      standAt apos.atName
      let (h, first) ← holding [v] (getMethod v m pl)
      callWith pos h first (backTo pos (starEach (e :: es) X.env)) (backToKw pos (keywordEach [] X.env))) := by rfl) :
    PE X (.Call (.Attribute o m apos) (e :: es) [] pos) (tE N W (methE mi mt eo ea)) := by
  refine ⟨fun pins s σ H Q I h => ?_⟩
  obtain ⟨Γ, Tf, Cf, al, M, fm, q⟩ := h
  refine PySem.W.methodCall_KW (pl := pl) (thn (ho.run pins s σ H (fun x H1 => ∃ d al1 M1, Pre al al1 ∧ Fm N σ Γ ((x, d) :: Tf) Cf al1 M1 H1 ∧
    ∃ ci t, vIns M1 (.d d) = some ci ∧ mt ci.1 = some t ∧ ci.2.lookup mi = none ∧ ((ea Γ M1).bind fun s => t.F (t.g (d :: s.1) []) s.2).sat (fun r => ∀ v al' H', Pre al al' → Fm N σ Γ ((v, r.1) :: Tf) Cf al' r.2 H' → Q v H') (raised N W σ Γ Tf Cf al)) I ⟨Γ, Tf, Cf, al, M, fm, (R.sat_bind.mp q).mono (fun r q v al1 H1 pr f1 => ?_) fun _ _ q => q⟩) fun u s1 ⟨x, H1, I1, rx, d, al1, M1, pr, f1, ci, t, h1, h2, h3, q1⟩ => ?_) ht
  · obtain ⟨ci, h1, q⟩ := sat_or q
    obtain ⟨t, h2, q⟩ := sat_or q
    obtain ⟨h3, q⟩ := sat_if q
    exact ⟨r.1, al1, r.2, pr, f1, ci, t, h1, h2, h3, q⟩
  · obtain ⟨c, fs⟩ := ci
    obtain ⟨a, dx, vs0, rfl, hp, rf, ok⟩ := v_ins f1.w (VR.d (List.mem_append_right _ (List.mem_cons_self ..))) h1
    obtain ⟨k, fa, fd, ps, hk, hm, G, hb⟩ := hmt c t h2
    cases rx
    have hno := repF_none rf h3
    rw [hmi] at hno
    refine getmeth_ok I1 hp (hK ▸ ok.1) hm hno ?_
    have hq := tAs_q f1 hal (P := fun ds al2 M2 => Pre al1 al2 ∧ (t.F (t.g (d :: ds) []) M2).sat (fun r => ∀ v al' H', Pre al al' → Fm N σ Γ ((v, r.1) :: Tf) Cf al' r.2 H' → Q v H') (raised N W σ Γ Tf Cf al))
      ((R.sat_bind.mp q1).mono (fun r q al2 pr2 => ⟨pr2, q⟩) fun c M' q al' H' ao pr' f' => q al' H' ao (pr.trans pr') (f'.sub fun p hp => List.mem_cons_of_mem _ hp))
    refine PySem.W.callWith_K (first := [.ref a]) (h₀ := X.base) I.ok.mod.kin hm.kp (thn (ha.run pos pins s1 σ H1 _ I1 hq) fun us s2 ⟨vs, H2, I2, r, ds, al2, M2, hv, pr2, f2, hl, _, q2⟩ => ⟨I2.kIn, ?_⟩) hst hpl
    have f3 : Fm N σ Γ ((V.ref a :: vs).zip (d :: ds) ++ Tf) Cf al2 M2 H2 := f2.sub fun p hp => by
      rcases List.mem_cons.mp (show p ∈ (V.ref a, d) :: (vs.zip ds ++ Tf) from hp) with z | z
      · rw [z]; exact List.mem_append_right _ (List.mem_cons_self ..)
      · rcases List.mem_append.mp z with z | z
        · exact List.mem_append_left _ z
        · exact List.mem_append_right _ (List.mem_cons_of_mem _ z)
    exact run_z (us := .ref a :: us) (vs := .ref a :: vs) (ds := d :: ds) (ws := []) (zs := []) (ez := []) hK tk G (hr.mono hk) hb I2 (.cons rfl r) .nil (by simp [hv]) rfl f3 (f3.reps (by simp [hl])) .nil (sat_pre (pr.trans pr2) (fun p hp => List.mem_append_right _ hp) q2)
theorem z_meth0 {pl : Sem Bool} {mi kk : Nat} {mt : Nat → Option Mt} {eo : EV} (hK : N.K = X.K) (tk : Takes X W) (ho : PE X o (tE N W eo)) (hmi : N.fn mi = m) (hmt : ∀ c t, mt c = some t → MtOk X N m 1 kk c t) (hr : Room kk X.A)
    (ht : eval (.Call (.Attribute o m apos) [] [] pos) X.env = (do
      let v ← eval o X.env
      standAt apos.atName
      let (h, first) ← holding [v] (getMethod v m pl)
      callWith pos h first (backTo pos (starEach [] X.env)) (backToKw pos (keywordEach [] X.env))) := by rfl) :
    PE X (.Call (.Attribute o m apos) [] [] pos) (tE N W (methE mi mt eo aNil)) := by
  refine ⟨fun pins s σ H Q I h => ?_⟩
  obtain ⟨Γ, Tf, Cf, al, M, fm, q⟩ := h
  refine PySem.W.methodCall_KW (pl := pl) (thn (ho.run pins s σ H (fun x H1 => ∃ d al1 M1, Pre al al1 ∧ Fm N σ Γ ((x, d) :: Tf) Cf al1 M1 H1 ∧
    ∃ ci t, vIns M1 (.d d) = some ci ∧ mt ci.1 = some t ∧ ci.2.lookup mi = none ∧ (t.F (t.g [d] []) M1).sat (fun r => ∀ v al' H', Pre al al' → Fm N σ Γ ((v, r.1) :: Tf) Cf al' r.2 H' → Q v H') (raised N W σ Γ Tf Cf al)) I ⟨Γ, Tf, Cf, al, M, fm, (R.sat_bind.mp q).mono (fun r q v al1 H1 pr f1 => ?_) fun _ _ q => q⟩) fun u s1 ⟨x, H1, I1, rx, d, al1, M1, pr, f1, ci, t, h1, h2, h3, q1⟩ => ?_) ht
  · obtain ⟨ci, h1, q⟩ := sat_or q
    obtain ⟨t, h2, q⟩ := sat_or q
    obtain ⟨h3, q⟩ := sat_if q
    exact ⟨r.1, al1, r.2, pr, f1, ci, t, h1, h2, h3, q⟩
  · obtain ⟨c, fs⟩ := ci
    obtain ⟨a, dx, vs0, rfl, hp, rf, ok⟩ := v_ins f1.w (VR.d (List.mem_append_right _ (List.mem_cons_self ..))) h1
    obtain ⟨k, fa, fd, ps, hk, hm, G, hb⟩ := hmt c t h2
    cases rx
    have hno := repF_none rf h3
    rw [hmi] at hno
    refine getmeth_ok I1 hp (hK ▸ ok.1) hm hno ?_
    have f3 : Fm N σ Γ ([V.ref a].zip [d] ++ Tf) Cf al1 M1 H1 := f1
    exact PySem.W.callWith_K0 (first := [.ref a]) I1.kIn hm.kp (run_z (us := [.ref a]) (vs := [.ref a]) (ds := [d]) (ws := []) (zs := []) (ez := []) hK tk G (hr.mono hk) hb I1 (.cons rfl .nil) .nil rfl rfl f3 (f3.reps rfl) .nil (sat_pre pr (fun p hp => List.mem_cons_of_mem _ hp) q1))
end
end Z

set_option maxHeartbeats 4000000
namespace Z
open PySem PySem.Spec PyProof.Rows L2

/-! ### slots stored -/
section
variable {N : Nm} {al : List Addr} {M : Mm} {C E F Cf : List (Addr × O)} {T Tf : List (V × D)} {H : Hp} {σ : List (Option V)} {Γ : Gm}
theorem World.dropE : ∀ {E : List (Addr × O)}, World N (E ++ C) al M T H → World N C al M T H
  | [], w => w
  | _ :: _, w => World.dropE (World.drop w)
theorem Fm.setD {i : Nat} {v : V} {x : D} (f : Fm N σ Γ ((v, x) :: Tf) Cf al M H) (hi : i < Γ.length) : Fm N (σ.set i (some v)) (Γ.set i (.d x)) Tf Cf al M H := by
  obtain ⟨C0, p, q⟩ := f.ok.set hi
  obtain ⟨o1, ⟨E, p2⟩, o3⟩ := (q v).1 x
  refine ⟨o1, World.dropE (E := E) ?_⟩
  have w := f.w.perm ((p.trans p2).append_right Cf)
  rw [List.append_assoc] at w
  exact w.sub fun z hz => by
    rcases List.mem_append.mp hz with h | h
    · rcases o3 z h with e | h
      · rw [e]; exact List.mem_append_right _ (List.mem_cons_self ..)
      · exact List.mem_append_left _ h
    · exact List.mem_append_right _ (List.mem_cons_of_mem _ h)
theorem Fm.setO {i : Nat} {a : Addr} {y : O} (ok : fOk σ Γ) (w : World N ((a, y) :: (fC σ Γ ++ Cf)) al M (fT σ Γ ++ Tf) H) (hi : i < Γ.length) : Fm N (σ.set i (some (.ref a))) (Γ.set i (.o y)) Tf Cf al M H := by
  obtain ⟨C0, p, q⟩ := ok.set hi
  obtain ⟨o1, ⟨E, F, p2, p3⟩, o3⟩ := (q (.ref a)).2 a y rfl
  refine ⟨o1, ?_⟩
  have w1 := w.perm (((p.trans p2).append_right Cf).cons (a, y))
  have p4 : ((a, y) :: (E ++ F ++ Cf)).Perm (E ++ ((a, y) :: F ++ Cf)) := by
    rw [List.append_assoc]
    exact List.perm_middle.symm
  have w2 := World.dropE (w1.perm p4)
  exact (w2.perm (p3.symm.append_right Cf)).sub fun z hz => by
    rcases List.mem_append.mp hz with h | h
    · exact List.mem_append_left _ (o3 z h)
    · exact List.mem_append_right _ h
/-- an own object of the frame as a cell ahead -/
theorem Fm.own {i : Nat} {y : O} (f : Fm N σ Γ Tf Cf al M H) (h : Γ[i]? = some (.o y)) : ∃ a C', σ[i]? = some (some (.ref a)) ∧ World N ((a, y) :: C') al M (fT σ Γ ++ Tf) H ∧
    (∀ z al' M' H', World N ((a, z) :: C') al' M' (fT σ Γ ++ Tf) H' → Fm N σ (Γ.set i (.o z)) Tf Cf al' M' H') ∧
    ∀ x al' M' H', World N C' al' M' ((.ref a, x) :: (fT σ Γ ++ Tf)) H' → Fm N σ (Γ.set i (.d x)) Tf Cf al' M' H' := by
  obtain ⟨a, C', e1, p, q, r, _⟩ := f.ok.o h
  refine ⟨a, C' ++ Cf, e1, f.w.perm (p.append_right Cf), fun z al' M' H' w => ⟨(q z).1, ?_⟩, fun x al' M' H' w => ⟨(r x).1, ?_⟩⟩
  · rw [(q z).2.2]
    exact w.perm ((q z).2.1.symm.append_right Cf)
  · exact (w.perm ((r x).2.1.symm.append_right Cf)).sub fun z hz => by
      rcases List.mem_append.mp hz with h | h
      · rcases (r x).2.2 z h with e | h
        · rw [e]; exact List.mem_cons_self ..
        · exact List.mem_cons_of_mem _ (List.mem_append_left _ h)
      · exact List.mem_cons_of_mem _ (List.mem_append_right _ h)
end

/-! ### statements -/
inductive Fl where
  | nx (Γ : Gm) | rt (x : D) | bk (Γ : Gm) | ct (Γ : Gm)
inductive SR where
  | ok (f : Fl) (M : Mm) | exc (c : Nat) (Γ : Gm) (M : Mm) | bad
abbrev SV := Gm → Mm → SR
def SR.bind (r : SR) (f : Gm → Mm → SR) : SR := match r with
  | .ok (.nx Γ) M => f Γ M
  | r => r
def SR.sat (r : SR) (P : Fl → Mm → Prop) (E : Nat → Gm → Mm → Prop) : Prop := match r with
  | .ok f M => P f M
  | .exc c Γ M => E c Γ M
  | .bad => False
/-- an expression's end within a statement -/
def R.st {α : Type} (r : R α) (Γ : Gm) (f : α → SR) : SR := match r with
  | .ok a => f a
  | .exc c M => .exc c Γ M
  | .bad => .bad
theorem sat_st {α : Type} {r : R α} {Γ : Gm} {f : α → SR} {P : Fl → Mm → Prop} {E : Nat → Gm → Mm → Prop} : (r.st Γ f).sat P E ↔ r.sat (fun a => (f a).sat P E) (fun c M => E c Γ M) := by
  cases r <;> exact Iff.rfl
theorem SR.sat.mono {r : SR} {P P' : Fl → Mm → Prop} {E E' : Nat → Gm → Mm → Prop} (h : r.sat P E) (hP : ∀ f M, P f M → P' f M) (hE : ∀ c Γ M, E c Γ M → E' c Γ M) : r.sat P' E' := by
  cases r with
  | ok f M => exact hP _ _ h
  | exc c Γ M => exact hE _ _ _ h
  | bad => exact h
/-- objects of the frame's own that are no lists: where they stand -/
def Kp (σ : List (Option V)) (Γ : Gm) (σ' : List (Option V)) (Γ' : Gm) : Prop := ∀ (i : Nat) (c : Nat) (fs : List (Nat × D)), Γ'[i]? = some (.o (.ins c fs)) → (∃ c' fs', Γ[i]? = some (.o (.ins c' fs'))) ∧ σ'[i]? = σ[i]?
theorem Kp.rfl {σ : List (Option V)} {Γ : Gm} : Kp σ Γ σ Γ := fun i c fs h => ⟨⟨c, fs, h⟩, Eq.refl _⟩
theorem Kp.trans {σ σ' σ2 : List (Option V)} {Γ Γ' Γ2 : Gm} (a : Kp σ Γ σ' Γ') (b : Kp σ' Γ' σ2 Γ2) : Kp σ Γ σ2 Γ2 := fun i c fs h => by
  obtain ⟨⟨c', fs', h1⟩, e⟩ := b i c fs h
  obtain ⟨h2, e2⟩ := a i c' fs' h1
  exact ⟨h2, e.trans e2⟩
theorem Kp.setD {σ : List (Option V)} {Γ : Gm} {i : Nat} {v : Option V} {s : Sl} (hs : ∀ c fs, s ≠ .o (.ins c fs)) : Kp σ Γ (σ.set i v) (Γ.set i s) := fun j c fs h => by
  by_cases e : i = j
  · subst e
    by_cases hl : i < Γ.length
    · rw [List.getElem?_set_self hl] at h
      exact absurd (Option.some.inj h) (hs c fs)
    · rw [List.getElem?_eq_none (by simpa using hl)] at h
      cases h
  · rw [List.getElem?_set_ne e] at h ⊢
    exact ⟨⟨c, fs, h⟩, Eq.refl _⟩
theorem Kp.setG {σ : List (Option V)} {Γ : Gm} {i : Nat} {s : Sl} (hs : ∀ c fs, s ≠ .o (.ins c fs)) : Kp σ Γ σ (Γ.set i s) := fun j c fs h => by
  by_cases e : i = j
  · subst e
    by_cases hl : i < Γ.length
    · rw [List.getElem?_set_self hl] at h
      exact absurd (Option.some.inj h) (hs c fs)
    · rw [List.getElem?_eq_none (by simpa using hl)] at h
      cases h
  · rw [List.getElem?_set_ne e] at h
    exact ⟨⟨c, fs, h⟩, Eq.refl _⟩
theorem Kp.setI {σ : List (Option V)} {Γ : Gm} {i : Nat} {s : Sl} (hs : ∃ c' fs', Γ[i]? = some (.o (.ins c' fs'))) : Kp σ Γ σ (Γ.set i s) := fun j c fs h => by
  by_cases e : i = j
  · subst e
    exact ⟨hs, Eq.refl _⟩
  · rw [List.getElem?_set_ne e] at h
    exact ⟨⟨c, fs, h⟩, Eq.refl _⟩
def postS (N : Nm) (Tf : List (V × D)) (Cf : List (Addr × O)) (al : List Addr) (σ0 : List (Option V)) (Γ0 : Gm) (E : Ends) : Fl → Mm → Prop
  | .nx Γ, M => ∀ σ al' H', Pre al al' → Fm N σ Γ Tf Cf al' M H' → Kp σ0 Γ0 σ Γ → E.nx σ H'
  | .rt x, M => ∀ v al' H', Pre al al' → World N Cf al' M ((v, x) :: Tf) H' → E.rt v H'
  | .bk Γ, M => ∀ σ al' H', Pre al al' → Fm N σ Γ Tf Cf al' M H' → Kp σ0 Γ0 σ Γ → E.bk σ H'
  | .ct Γ, M => ∀ σ al' H', Pre al al' → Fm N σ Γ Tf Cf al' M H' → Kp σ0 Γ0 σ Γ → E.ct σ H'
def excS (N : Nm) (W : WX) (Tf : List (V × D)) (Cf : List (Addr × O)) (al : List Addr) (c : Nat) (Γ : Gm) (M : Mm) : Prop := ∀ σ al' H' ao, Pre al al' → Fm N σ Γ Tf Cf al' M H' → W (.ref (N.ca c)) ao σ H'
def tS (N : Nm) (W : WX) (sv : SV) : TS := fun E σ H => ∃ Γ Tf Cf al M, Fm N σ Γ Tf Cf al M H ∧ (sv Γ M).sat (postS N Tf Cf al σ Γ E) (excS N W Tf Cf al)
theorem postS.pre {N : Nm} {Tf : List (V × D)} {Cf : List (Addr × O)} {al bl : List Addr} {σ0 : List (Option V)} {Γ0 : Gm} {E : Ends} {f : Fl} {M : Mm} (pr : Pre al bl) (h : postS N Tf Cf al σ0 Γ0 E f M) : postS N Tf Cf bl σ0 Γ0 E f M := by
  cases f with
  | nx Γ => exact fun σ al' H' p f k => h σ al' H' (pr.trans p) f k
  | rt x => exact fun v al' H' p f => h v al' H' (pr.trans p) f
  | bk Γ => exact fun σ al' H' p f k => h σ al' H' (pr.trans p) f k
  | ct Γ => exact fun σ al' H' p f k => h σ al' H' (pr.trans p) f k
theorem postS.kp {N : Nm} {Tf : List (V × D)} {Cf : List (Addr × O)} {al : List Addr} {σ σ' : List (Option V)} {Γ Γ' : Gm} {E : Ends} {f : Fl} {M : Mm} (kp : Kp σ Γ σ' Γ') (h : postS N Tf Cf al σ Γ E f M) : postS N Tf Cf al σ' Γ' E f M := by
  cases f with
  | nx G => exact fun s al' H' p f k => h s al' H' p f (kp.trans k)
  | rt x => exact h
  | bk G => exact fun s al' H' p f k => h s al' H' p f (kp.trans k)
  | ct G => exact fun s al' H' p f k => h s al' H' p f (kp.trans k)
theorem excS.pre {N : Nm} {W : WX} {Tf : List (V × D)} {Cf : List (Addr × O)} {al bl : List Addr} {c : Nat} {Γ : Gm} {M : Mm} (pr : Pre al bl) (h : excS N W Tf Cf al c Γ M) : excS N W Tf Cf bl c Γ M := fun σ al' H' ao p f => h σ al' H' ao (pr.trans p) f
theorem SR.sat.pre {N : Nm} {W : WX} {Tf : List (V × D)} {Cf : List (Addr × O)} {al bl : List Addr} {σ : List (Option V)} {Γ : Gm} {E : Ends} {r : SR} (pr : Pre al bl) (h : r.sat (postS N Tf Cf al σ Γ E) (excS N W Tf Cf al)) : r.sat (postS N Tf Cf bl σ Γ E) (excS N W Tf Cf bl) :=
  SR.sat.mono h (fun _ _ h => h.pre pr) fun _ _ _ h => h.pre pr
theorem SR.sat.kp {N : Nm} {W : WX} {Tf : List (V × D)} {Cf : List (Addr × O)} {al : List Addr} {σ σ' : List (Option V)} {Γ Γ' : Gm} {E : Ends} {r : SR} (kp : Kp σ Γ σ' Γ') (h : r.sat (postS N Tf Cf al σ Γ E) (excS N W Tf Cf al)) : r.sat (postS N Tf Cf al σ' Γ' E) (excS N W Tf Cf al) :=
  SR.sat.mono h (fun _ _ h => h.kp kp) fun _ _ _ h => h
/-- what an expression raises, a statement raises -/
theorem exc_up {N : Nm} {W : WX} {σ : L2.St} {Γ : Gm} {Tf : List (V × D)} {Cf : List (Addr × O)} {al : List Addr} {M : Mm} {c : Nat} (h : excS N W Tf Cf al c Γ M) : raised N W σ Γ Tf Cf al c M := fun al' H' ao pr f => h σ al' H' ao pr f

def sNil : SV := fun Γ M => .ok (.nx Γ) M
def sSeq (a b : SV) : SV := fun Γ M => (a Γ M).bind b
def sAsg (i : Nat) (ea : EV) : SV := fun Γ M => (ea Γ M).st Γ fun r => if i < Γ.length then .ok (.nx (Γ.set i (.d r.1))) r.2 else .bad
def sAsgF (i : Nat) (ea : AV) : SV := fun Γ M => (ea Γ M).st Γ fun r => if i < Γ.length then .ok (.nx (Γ.set i (.o (.lst r.1)))) r.2 else .bad
/-- the new list gets a number -/
def sAsgH (i : Nat) (ea : AV) : SV := fun Γ M => (ea Γ M).st Γ fun r => if i < Γ.length then .ok (.nx (Γ.set i (.d (.hdl r.2.length)))) (r.2 ++ [.lst r.1]) else .bad
def sRet (ea : EV) : SV := fun Γ M => (ea Γ M).st Γ fun r => .ok (.rt r.1) r.2
def sRetN : SV := fun _ M => .ok (.rt .non) M
def sExpr (ea : EV) : SV := fun Γ M => (ea Γ M).st Γ fun r => .ok (.nx Γ) r.2
def sIf (t : TV) (a b : SV) : SV := fun Γ M => (t Γ M).st Γ fun r => if r.1 = true then a Γ r.2 else b Γ r.2
def sBrk : SV := fun Γ M => .ok (.bk Γ) M
def sCt : SV := fun Γ M => .ok (.ct Γ) M
theorem sat_ifS {c : Prop} [Decidable c] {r : SR} {P : Fl → Mm → Prop} {E : Nat → Gm → Mm → Prop} (h : (if c then r else SR.bad).sat P E) : c ∧ r.sat P E := by
  by_cases hc : c
  · rw [if_pos hc] at h; exact ⟨hc, h⟩
  · rw [if_neg hc] at h; exact h.elim
section
variable {X : Cx} {N : Nm} {W : WX} {st : Stmt} {rest : List Stmt} {e a b c : Expr} {pos : Pos}
theorem z_nil : PSs X [] (tS N W sNil) := pss_nil.imp fun E σ H ⟨Γ, Tf, Cf, al, M, f, q⟩ => q σ al H Pre.rfl f .rfl
theorem z_cons {u v : SV} (h1 : PS X st (tS N W u)) (h2 : PSs X rest (tS N W v)) : PSs X (st :: rest) (tS N W (sSeq u v)) := (pss_cons h1 h2).imp fun E σ H ⟨Γ, Tf, Cf, al, M, f, q⟩ => by
  refine ⟨Γ, Tf, Cf, al, M, f, ?_⟩
  unfold sSeq at q
  cases e1 : u Γ M with
  | bad => rw [e1] at q; exact q.elim
  | exc c Γ' M' => rw [e1] at q; exact q
  | ok fl M' =>
    rw [e1] at q
    cases fl with
    | nx Γ' => exact fun σ' al' H' pr f' k => ⟨Γ', Tf, Cf, al', M', f', SR.sat.kp k (SR.sat.pre pr q)⟩
    | rt x => exact q
    | bk Γ' => exact q
    | ct Γ' => exact q
theorem z_one1 {u : SV} (h1 : PS X st (tS N W u)) : PSs X [st] (tS N W u) := pss_one h1
theorem z_set {i : Nat} {x : Str} {ea : EV} {pos' : Pos} (hN : X.N.Nodup) (hi : X.N[i]? = some x) (hx : Loc X.env.scope x) (he : PE X e (tE N W ea)) (hs : swapsWith e (some (.Name x pos')) pos.line X.env = pure false := by rfl)
    (hf : X.fn x = true ∨ X.env.scope.names.lookup x = some .local := by first | exact .inl rfl | exact .inr rfl) : PS X (.Assign [.Name x pos'] e pos) (tS N W (sAsg i ea)) := (ps_asg he (pg_name hN hi hx hf) hs).imp fun E σ H ⟨Γ, Tf, Cf, al, M, f, q⟩ =>
  ⟨Γ, Tf, Cf, al, M, f, (sat_st.mp q).mono (fun r q v al' H' pr f' => by
    obtain ⟨hl, q⟩ := sat_ifS q
    exact q _ al' H' pr (f'.setD hl) (.setD fun _ _ z => nomatch z)) fun _ _ q => exc_up q⟩
theorem z_setF {i : Nat} {x : Str} {ea : AV} {pos' : Pos} (hN : X.N.Nodup) (hi : X.N[i]? = some x) (hx : Loc X.env.scope x) (he : PE X e (tF N W ea)) (hs : swapsWith e (some (.Name x pos')) pos.line X.env = pure false := by rfl)
    (hf : X.fn x = true ∨ X.env.scope.names.lookup x = some .local := by first | exact .inl rfl | exact .inr rfl) : PS X (.Assign [.Name x pos'] e pos) (tS N W (sAsgF i ea)) := (ps_asg he (pg_name hN hi hx hf) hs).imp fun E σ H ⟨Γ, Tf, Cf, al, M, f, q⟩ =>
  ⟨Γ, Tf, Cf, al, M, f, (sat_st.mp q).mono (fun r q p al' H' pr ok w => by
    obtain ⟨hl, q⟩ := sat_ifS q
    exact q _ al' H' pr (.setO ok w hl) (.setD fun _ _ z => nomatch z)) fun _ _ q => exc_up q⟩
theorem z_setH {i : Nat} {x : Str} {ea : AV} {pos' : Pos} (hN : X.N.Nodup) (hi : X.N[i]? = some x) (hx : Loc X.env.scope x) (he : PE X e (tF N W ea)) (hs : swapsWith e (some (.Name x pos')) pos.line X.env = pure false := by rfl)
    (hf : X.fn x = true ∨ X.env.scope.names.lookup x = some .local := by first | exact .inl rfl | exact .inr rfl) : PS X (.Assign [.Name x pos'] e pos) (tS N W (sAsgH i ea)) := (ps_asg he (pg_name hN hi hx hf) hs).imp fun E σ H ⟨Γ, Tf, Cf, al, M, f, q⟩ =>
  ⟨Γ, Tf, Cf, al, M, f, (sat_st.mp q).mono (fun r q p al' H' pr ok w => by
    obtain ⟨hl, q⟩ := sat_ifS q
    refine q _ (al' ++ [p]) H' (pr.trans fun k a h => ?_) (Fm.setD (v := .ref p) (.put ok w.toH) hl) (.setD fun _ _ z => nomatch z)
    have hk := (List.getElem?_eq_some_iff.mp h).1
    rw [List.getElem?_append_left hk]
    exact h) fun _ _ q => exc_up q⟩
theorem z_ret {ea : EV} (he : PE X e (tE N W ea)) : PS X (.Return (some e) pos) (tS N W (sRet ea)) := (ps_ret he).imp fun E σ H ⟨Γ, Tf, Cf, al, M, f, q⟩ =>
  ⟨Γ, Tf, Cf, al, M, f, (sat_st.mp q).mono (fun r q v al' H' pr f' => q v al' H' pr ((World.dropE (E := fC σ Γ) f'.w).sub fun p hp => List.mem_append_right _ hp)) fun _ _ q => exc_up q⟩
theorem z_retN : PS X (.Return none pos) (tS N W sRetN) := ps_retN.imp fun E σ H ⟨Γ, Tf, Cf, al, M, f, q⟩ =>
  q .non al H Pre.rfl (((World.dropE (E := fC σ Γ) f.w).sub fun p hp => List.mem_append_right _ hp).more fun A _ => .non)
theorem z_expr {ea : EV} (he : PE X e (tE N W ea)) (hs : swapsWith e none pos.line X.env = pure false := by rfl) : PS X (.Expr e pos) (tS N W (sExpr ea)) := (ps_expr he hs).imp fun E σ H ⟨Γ, Tf, Cf, al, M, f, q⟩ =>
  ⟨Γ, Tf, Cf, al, M, f, (sat_st.mp q).mono (fun r q v al' H' pr f' => q σ al' H' pr (f'.sub fun p hp => List.mem_cons_of_mem _ hp) .rfl) fun _ _ q => exc_up q⟩
theorem z_ifS {t : TV} {u v : SV} {sa sb : List Stmt} (hc : PT X c (tTs N W t)) (ha : PSs X sa (tS N W u)) (hb : PSs X sb (tS N W v)) : PS X (.If c sa sb pos) (tS N W (sIf t u v)) := (ps_if hc ha hb).imp fun E σ H ⟨Γ, Tf, Cf, al, M, f, q⟩ =>
  ⟨Γ, Tf, Cf, al, M, f, (sat_st.mp q).mono (fun r q al' H' pr f' => by
    obtain ⟨b1, M1⟩ := r
    cases b1 with
    | true => exact ⟨Γ, Tf, Cf, al', M1, f', SR.sat.pre pr q⟩
    | false => exact ⟨Γ, Tf, Cf, al', M1, f', SR.sat.pre pr q⟩) fun _ _ q => exc_up q⟩
theorem z_brk : PS X (.Break pos) (tS N W sBrk) := ps_break.imp fun E σ H ⟨Γ, Tf, Cf, al, M, f, q⟩ => q σ al H Pre.rfl f .rfl
theorem z_ct : PS X (.Continue pos) (tS N W sCt) := ps_continue.imp fun E σ H ⟨Γ, Tf, Cf, al, M, f, q⟩ => q σ al H Pre.rfl f .rfl
theorem z_pass : PS X (.Pass pos) (tS N W sNil) := ps_pass.imp fun E σ H ⟨Γ, Tf, Cf, al, M, f, q⟩ => q σ al H Pre.rfl f .rfl
/-- a frame's own list is let go: nothing happens, but for what is known of it -/
def sFrz (i : Nat) (s : SV) : SV := fun Γ M => match Γ[i]? with
  | some (.o (.lst ds)) => s (Γ.set i (.d (.lst ds))) M
  | _ => s Γ M
theorem frz_ok {i : Nat} {u : SV} : ∀ E σ H, tS N W (sFrz i u) E σ H → tS N W u E σ H := fun E σ H ⟨Γ, Tf, Cf, al, M, f, q⟩ => by
  unfold sFrz at q
  split at q
  · rename_i ds h
    obtain ⟨a, C', e1, w, _, k⟩ := f.own h
    exact ⟨_, Tf, Cf, al, M, k _ al M H w.relL, SR.sat.kp (.setG fun _ _ z => nomatch z) q⟩
  · exact ⟨_, Tf, Cf, al, M, f, q⟩
theorem z_frz {i : Nat} {u : SV} (h : PSs X rest (tS N W u)) : PSs X rest (tS N W (sFrz i u)) := h.imp frz_ok
end
end Z

set_option maxHeartbeats 4000000
namespace Z
open PySem PySem.Spec PyProof.Rows L2

/-! ### targets -/
abbrev GV := D → Gm → Option Gm
abbrev GVs := List D → Gm → Option Gm
def gvN (i : Nat) : GV := fun x Γ => if i < Γ.length then some (Γ.set i (.d x)) else none
def gvNil : GVs := fun xs Γ => match xs with
  | [] => some Γ
  | _ :: _ => none
def gvCons (g : GV) (r : GVs) : GVs := fun xs Γ => match xs with
  | [] => none
  | x :: xs => (g x Γ).bind fun Γ' => r xs Γ'
def gvT (n : Nat) (g : GVs) : GV := fun x Γ => (vTup (.d x)).bind fun xs => if xs.length = n then g xs Γ else none
/-- is: the slots that are set -/
structure Sets (is : List Nat) (σ : L2.St) (Γ : Gm) (σ' : L2.St) (Γ' : Gm) : Prop where
  w : ∀ vs : List Nat, (∀ i ∈ is, i ∈ vs) → wipe σ' vs = wipe σ vs
  c : (∀ i ∈ is, ∀ y, Γ[i]? ≠ some (.o y)) → fC σ' Γ' = fC σ Γ
  o : ∀ (i : Nat) (y : O), Γ'[i]? = some (.o y) → Γ[i]? = some (.o y)
  k : Kp σ Γ σ' Γ'
theorem fC_set {v : V} {x : D} : ∀ {σ : List (Option V)} {Γ : Gm} {i : Nat}, fOk σ Γ → (∀ y, Γ[i]? ≠ some (.o y)) → fC (σ.set i (some v)) (Γ.set i (.d x)) = fC σ Γ
  | [], [], _, _, _ => rfl
  | w :: σ, .un :: Γ, 0, _, _ => by
    cases w with
    | none => cases v <;> rfl
    | some w => cases v <;> cases w <;> rfl
  | some w :: σ, .d z :: Γ, 0, _, _ => by cases v <;> cases w <;> rfl
  | some (.ref a) :: σ, .o y :: Γ, 0, _, h => absurd rfl (h y)
  | w :: σ, .un :: Γ, i + 1, k, h => by
    have ih := fC_set (v := v) (x := x) (i := i) (σ := σ) (Γ := Γ) (by cases w <;> exact k) (fun y e => h y (by simpa using e))
    cases w with
    | none => exact ih
    | some w => cases w <;> exact ih
  | some w :: σ, .d z :: Γ, i + 1, k, h => by
    have ih := fC_set (v := v) (x := x) (i := i) (σ := σ) (Γ := Γ) k (fun y e => h y (by simpa using e))
    cases w <;> exact ih
  | some (.ref a) :: σ, .o y :: Γ, i + 1, k, h => by
    have ih := fC_set (v := v) (x := x) (i := i) (σ := σ) (Γ := Γ) k (fun y e => h y (by simpa using e))
    exact congrArg (List.cons (a, y)) ih
def tG (N : Nm) (is : List Nat) (g : GV) : TG := fun v σ H Q => ∃ x Γ Tf Cf al M Γ', Fm N σ Γ ((v, x) :: Tf) Cf al M H ∧ g x Γ = some Γ' ∧ ∀ σ', Fm N σ' Γ' Tf Cf al M H → Sets is σ Γ σ' Γ' → Q σ' H
def tGs (N : Nm) (is : List Nat) (g : GVs) : TGs := fun vs σ H Q => ∃ xs Γ Tf Cf al M Γ', vs.length = xs.length ∧ Fm N σ Γ (vs.zip xs ++ Tf) Cf al M H ∧ g xs Γ = some Γ' ∧ ∀ σ', Fm N σ' Γ' Tf Cf al M H → Sets is σ Γ σ' Γ' → Q σ' H
theorem wipe_set {σ : L2.St} {i : Nat} {x : Option V} : ∀ {vs : List Nat}, i ∈ vs → wipe (σ.set i x) vs = wipe σ vs
  | v :: vs, h => by
    unfold wipe
    by_cases e : i ∈ vs
    · rw [wipe_set e]
    · have e1 : i = v := by
        rcases List.mem_cons.mp h with z | z
        · exact z
        · exact absurd z e
      subst e1
      have k : ∀ {vs : List Nat}, i ∉ vs → wipe (σ.set i x) vs = (wipe σ vs).set i x := by
        intro vs
        induction vs with
        | nil => intro _; rfl
        | cons w ws ih =>
          intro hn
          unfold wipe
          rw [ih fun z => hn (List.mem_cons_of_mem _ z), List.set_comm]
          intro z
          exact hn (by rw [z]; exact List.mem_cons_self ..)
      rw [k e, List.set_set]
theorem _root_.L2.PG.imp {X : Cx} {e : Expr} {t t' : TG} (h : PG X e t) (i : ∀ v σ H Q, t' v σ H Q → t v σ H Q) : PG X e t' := ⟨fun pins s σ H v u Q I r q => h.run pins s σ H v u Q I r (i v σ H Q q)⟩
theorem _root_.L2.PGs.imp {X : Cx} {e : List Expr} {t t' : TGs} (h : PGs X e t) (i : ∀ v σ H Q, t' v σ H Q → t v σ H Q) : PGs X e t' := ⟨fun pins s σ H v u Q I r q => h.run pins s σ H v u Q I r (i v σ H Q q)⟩
section
variable {X : Cx} {N : Nm} {W : WX} {e : Expr} {es : List Expr} {pos : Pos} {is js : List Nat}
theorem z_gname {i : Nat} {x : Str} (hN : X.N.Nodup) (hi : X.N[i]? = some x) (hx : Loc X.env.scope x) (hf : X.fn x = true ∨ X.env.scope.names.lookup x = some .local := by first | exact .inl rfl | exact .inr rfl | assumption) : PG X (.Name x pos) (tG N [i] (gvN i)) :=
  (pg_name hN hi hx hf).imp fun v σ H Q ⟨y, Γ, Tf, Cf, al, M, Γ', f, hg, q⟩ => by
    unfold gvN at hg
    split at hg
    · rename_i hl
      cases hg
      refine q _ (f.setD hl) ⟨fun vs h => wipe_set (h i (List.mem_cons_self ..)), fun h => fC_set (i := i) f.ok (h i (List.mem_cons_self ..)), fun j y e => ?_, .setD fun _ _ z => nomatch z⟩
      by_cases hj : i = j
      · subst hj
        rw [List.getElem?_set_self hl] at e
        cases e
      · rw [List.getElem?_set_ne hj] at e
        exact e
    · cases hg
theorem z_gnil : PGs X [] (tGs N [] gvNil) := pgs_nil.imp fun vs σ H Q ⟨xs, Γ, Tf, Cf, al, M, Γ', hl, f, hg, q⟩ => by
  unfold gvNil at hg
  split at hg
  · cases hg
    have e := List.eq_nil_of_length_eq_zero hl
    subst e
    exact ⟨rfl, q _ f ⟨fun _ _ => rfl, fun _ => rfl, fun _ _ h => h, .rfl⟩⟩
  · cases hg
theorem z_gcons {g : GV} {r : GVs} (h1 : PG X e (tG N is g)) (h2 : PGs X es (tGs N js r)) (hs : (assignEach (e :: es) X.env).map (·.2) = assign e X.env :: (assignEach es X.env).map (·.2) := by rfl) : PGs X (e :: es) (tGs N (is ++ js) (gvCons g r)) :=
  (pgs_cons h1 h2 hs).imp fun vs σ H Q ⟨xs, Γ, Tf, Cf, al, M, Γ', hl, f, hg, q⟩ => by
    unfold gvCons at hg
    split at hg
    · cases hg
    · rename_i x xs
      cases vs with
      | nil => cases hl
      | cons v vs =>
        obtain ⟨Γ1, g1, g2⟩ := bind_some hg
        refine ⟨v, vs, rfl, x, Γ, vs.zip xs ++ Tf, Cf, al, M, Γ1, f, g1, fun σ1 f1 hw => ⟨xs, Γ1, Tf, Cf, al, M, Γ', Nat.succ.inj hl, f1, g2, fun σ2 f2 hw2 => q σ2 f2 ⟨fun ws h => ?_, fun h => ?_, fun i y h => hw.o i y (hw2.o i y h), hw.k.trans hw2.k⟩⟩⟩
        · rw [hw2.w ws fun i hi => h i (List.mem_append_right _ hi), hw.w ws fun i hi => h i (List.mem_append_left _ hi)]
        · rw [hw2.c fun i hi y e => h i (List.mem_append_right _ hi) y (hw.o i y e), hw.c fun i hi => h i (List.mem_append_left _ hi)]
theorem z_gtup {g : GVs} {k n : Nat} (hK : N.K = X.K) (hc : X.calm = true) (h : PGs X es (tGs N is g)) (hn : (assignEach es X.env).length = n := by rfl) (hst : (assignEach es X.env).findIdx? (·.1) = none := by rfl) : PG X (.Tuple es k pos) (tG N is (gvT n g)) :=
  (pg_tup hc h hn hst).imp fun v σ H Q ⟨x, Γ, Tf, Cf, al, M, Γ', f, hg, q⟩ => by
    obtain ⟨xs, h1, hg⟩ := bind_some hg
    split at hg
    · rename_i hl
      obtain ⟨p, vs, rfl, hp, r⟩ := v_tup f.w (VR.d (List.mem_append_right _ (List.mem_cons_self ..))) h1
      refine ⟨p, vs, rfl, hK ▸ hp, r.len.trans hl, xs, Γ, Tf, Cf, al, M, Γ', r.len, ⟨f.ok, f.w.len, f.w.core.nd, f.w.core.cell, fun y hy => ?_⟩, hg, q⟩
      rcases List.mem_append.mp hy with z | z
      · exact f.w.core.live _ (List.mem_append_left _ z)
      · rcases List.mem_append.mp z with z | z
        · exact r.mem y z
        · exact f.w.core.live _ (List.mem_append_right _ (List.mem_cons_of_mem _ z))
    · cases hg
def sAsgG (g : GV) (ea : EV) : SV := fun Γ M => (ea Γ M).st Γ fun r => match g r.1 Γ with
  | some Γ' => .ok (.nx Γ') r.2
  | none => .bad
theorem z_setG {tg : Expr} {g : GV} {ea : EV} (he : PE X e (tE N W ea)) (hg : PG X tg (tG N is g)) (hs : swapsWithSole [tg] e pos.line X.env = pure false := by rfl) (hw : swappedStores [tg] e X.env = pure none := by rfl)
    (h1 : (assignEach [tg] X.env).map (·.2) = [assign tg X.env] := by rfl) : PS X (.Assign [tg] e pos) (tS N W (sAsgG g ea)) := (ps_asg he hg hs hw h1).imp fun E σ H ⟨Γ, Tf, Cf, al, M, f, q⟩ =>
  ⟨Γ, Tf, Cf, al, M, f, (sat_st.mp q).mono (fun r q v al' H' pr f' => by
    cases e1 : g r.1 Γ with
    | none => rw [e1] at q; exact q.elim
    | some Γ' =>
      rw [e1] at q
      exact ⟨r.1, Γ, Tf, Cf, al', r.2, Γ', f', e1, fun σ' f2 st => q σ' al' H' pr f2 st.k⟩) fun _ _ q => exc_up q⟩
end

/-! ### what is walked -/
/-- the items that a walked datum has -/
def src (d : D) (M : Mm) : Option (List D) := match d with
  | .lst xs => some xs
  | .tup xs => some xs
  | .str z => some (z.map fun c => .str [c])
  | .hdl k => vLst M (.d (.hdl k))
  | .scr ns => some (ns.map .int)
  | _ => none
structure ItD (N : Nm) (J : It) (v : V) (x d : D) : Prop where
  go : ∀ {C al M T H xs} (i : Nat), World N C al M T H → (v, x) ∈ T → src d M = some xs → i < xs.length → J.go i H
  yld : ∀ {C al M T H xs} (i : Nat) (z : D), World N C al M T H → (v, x) ∈ T → src d M = some xs → xs[i]? = some z → ∀ y H', J.yld i H y H' → World N C al M ((y, z) :: T) H'
  stop : ∀ {C al M T H xs} (i : Nat), World N C al M T H → (v, x) ∈ T → src d M = some xs → xs.length ≤ i → J.stop i H
def tI (N : Nm) (W : WX) (ev : EV) : TI := fun σ H R => ∃ Γ Tf Cf al M, Fm N σ Γ Tf Cf al M H ∧
  (ev Γ M).sat (fun r => ∀ J v x al' H', Pre al al' → Fm N σ Γ ((v, x) :: Tf) Cf al' r.2 H' → ItD N J v x r.1 → R J H') (raised N W σ Γ Tf Cf al)
theorem _root_.L2.PI.imp {X : Cx} {tg e : Expr} {t t' : TI} (h : PI X tg e t) (i : ∀ σ H Q, t' σ H Q → t σ H Q) : PI X tg e t' := ⟨fun pins s σ H Q I q => h.run pins s σ H Q I (i σ H Q q)⟩
theorem _root_.L2.PI.or {X : Cx} {tg e : Expr} {t t' : TI} (h : PI X tg e t) (h' : PI X tg e t') : PI X tg e fun σ H Q => t σ H Q ∨ t' σ H Q := ⟨fun pins s σ H Q I q => q.elim (h.run pins s σ H Q I) (h'.run pins s σ H Q I)⟩
theorem itD_list {N : Nm} {a : Addr} {d : D} (h : ∀ M, src d M = vLst M (.d d)) : ItD N (Itl N.K a) (.ref a) d d := by
  have key : ∀ {C al M T H xs}, World N C al M T H → (V.ref a, d) ∈ T → src d M = some xs → ∃ vs, SqL N.K H a vs ∧ Reps N (wA C al M) al H vs xs := fun {C al M T H xs} w hm hs => by
    rw [h] at hs
    obtain ⟨p, vs, e, hp, r⟩ := v_lst w (VR.d hm) hs
    cases e
    exact ⟨vs, .of hp, r⟩
  refine ⟨fun i w hm hs hl => ?_, fun i z w hm hs hz y H' hy => ?_, fun i w hm hs hl => ?_⟩
  · obtain ⟨vs, s, r⟩ := key w hm hs
    exact ⟨vs, vs[i]'(by rw [r.len]; exact hl), s, List.getElem?_eq_getElem _⟩
  · obtain ⟨vs, s, r⟩ := key w hm hs
    obtain ⟨rfl, hy⟩ := hy
    obtain ⟨v, e, rv⟩ := r.get hz
    have e2 := hy vs s
    rw [e] at e2
    cases e2
    exact w.add rv
  · obtain ⟨vs, s, r⟩ := key w hm hs
    exact ⟨vs, s, by rw [r.len]; exact hl⟩
theorem itD_tup {N : Nm} {a : Addr} {ds : List D} : ItD N (Itt N.K a) (.ref a) (.tup ds) (.tup ds) := by
  have key : ∀ {C al M T H xs}, World N C al M T H → (V.ref a, D.tup ds) ∈ T → src (.tup ds) M = some xs → ∃ vs, SqT N.K H a vs ∧ Reps N (wA C al M) al H vs xs := fun {C al M T H xs} w hm hs => by
    cases hs
    obtain ⟨p, vs, e, hp, r⟩ := v_tup w (VR.d hm) rfl
    cases e
    exact ⟨vs, hp, r⟩
  refine ⟨fun i w hm hs hl => ?_, fun i z w hm hs hz y H' hy => ?_, fun i w hm hs hl => ?_⟩
  · obtain ⟨vs, s, r⟩ := key w hm hs
    exact ⟨vs, vs[i]'(by rw [r.len]; exact hl), s, List.getElem?_eq_getElem _⟩
  · obtain ⟨vs, s, r⟩ := key w hm hs
    obtain ⟨rfl, hy⟩ := hy
    obtain ⟨v, e, rv⟩ := r.get hz
    have e2 := hy vs s
    rw [e] at e2
    cases e2
    exact w.add rv
  · obtain ⟨vs, s, r⟩ := key w hm hs
    exact ⟨vs, s, by rw [r.len]; exact hl⟩
/-- the ints of a range -/
def rngD (lo : Int) : Nat → List D
  | 0 => []
  | n + 1 => .int lo :: rngD (lo + 1) n
theorem rngD_len (lo : Int) : ∀ n, (rngD lo n).length = n
  | 0 => rfl
  | n + 1 => by unfold rngD; rw [List.length_cons, rngD_len]
theorem rngD_get : ∀ (n : Nat) (lo : Int) (i : Nat) (z : D), (rngD lo n)[i]? = some z → z = .int (lo + i)
  | 0, _, _, _, h => by simp [rngD] at h
  | n + 1, lo, 0, z, h => by
    simp [rngD] at h
    subst h
    simp
  | n + 1, lo, i + 1, z, h => by
    have h2 : (rngD (lo + 1) n)[i]? = some z := by simpa [rngD] using h
    rw [rngD_get n (lo + 1) i z h2]
    congr 1
    omega
theorem itD_range {N : Nm} {lo : Int} {n : Nat} {v : V} {x : D} : ItD N (Itr lo n) v x (.tup (rngD lo n)) := by
  refine ⟨fun i w hm hs hl => ?_, fun i z w hm hs hz y H' hy => ?_, fun i w hm hs hl => ?_⟩
  · cases hs
    rw [rngD_len] at hl
    exact hl
  · cases hs
    obtain ⟨rfl, rfl⟩ := hy
    rw [rngD_get _ _ _ _ hz]
    exact w.more fun A _ => .int _
  · cases hs
    rw [rngD_len] at hl
    exact hl
section
variable {X : Cx} {N : Nm} {W : WX} {e tg a b : Expr} {es : List Expr} {p pos : Pos}
/-- a value that is walked -/
def itV (ev : EV) : EV := fun Γ M => (ev Γ M).bind fun r => match r.1 with
  | .lst xs => .ok (.lst xs, r.2)
  | .tup xs => .ok (.tup xs, r.2)
  | .hdl k => (match vLst r.2 (.d (.hdl k)) with
    | some _ => .ok (.hdl k, r.2)
    | none => .bad)
  | _ => .bad
theorem z_itV {ev : EV} (hK : N.K = X.K) (he : PE X e (tE N W ev)) : PI X tg e (tI N W (itV ev)) := ((pi_list he).or (pi_tup he)).imp fun σ H RQ ⟨Γ, Tf, Cf, al, M, f, q⟩ => by
  unfold itV at q
  have q2 := R.sat_bind.mp q
  cases e1 : ev Γ M with
  | bad => rw [e1] at q2; exact q2.elim
  | exc c M' => rw [e1] at q2; exact .inl ⟨Γ, Tf, Cf, al, M, f, by rw [e1]; exact q2⟩
  | ok r =>
    rw [e1] at q2
    obtain ⟨d, M1⟩ := r
    have L : ∀ {ds : List D}, (∀ M, src d M = vLst M (.d d)) → vLst M1 (.d d) = some ds → (∀ J v x al' H', Pre al al' → Fm N σ Γ ((v, x) :: Tf) Cf al' M1 H' → ItD N J v x d → RQ J H') → iList X.K (tE N W ev) σ H RQ := fun {ds} hsrc hd q3 => by
      refine ⟨Γ, Tf, Cf, al, M, f, ?_⟩
      rw [e1]
      intro v al' H' pr f'
      obtain ⟨p, vs, rfl, hp, r⟩ := v_lst f'.w (VR.d (List.mem_append_right _ (List.mem_cons_self ..))) hd
      exact ⟨p, rfl, ⟨vs, .of hp⟩, q3 _ _ _ al' H' pr f' (hK ▸ itD_list hsrc)⟩
    cases d with
    | lst xs => exact .inl (L (fun _ => rfl) (ds := xs) rfl q2)
    | hdl k =>
      cases e2 : vLst M1 (.d (.hdl k)) with
      | none =>
        have q3 : (match vLst M1 (.d (.hdl k)) with | some _ => R.ok (D.hdl k, M1) | none => R.bad).sat _ _ := q2
        rw [e2] at q3
        exact q3.elim
      | some ds =>
        have q3 : (match vLst M1 (.d (.hdl k)) with | some _ => R.ok (D.hdl k, M1) | none => R.bad).sat _ _ := q2
        rw [e2] at q3
        exact .inl (L (fun _ => rfl) (ds := ds) e2 q3)
    | tup xs =>
      refine .inr ⟨Γ, Tf, Cf, al, M, f, ?_⟩
      rw [e1]
      intro v al' H' pr f'
      obtain ⟨p, vs, rfl, hp, r⟩ := v_tup f'.w (VR.d (List.mem_append_right _ (List.mem_cons_self ..))) rfl
      exact ⟨p, rfl, ⟨vs, hK ▸ hp⟩, q2 _ _ _ al' H' pr f' (hK ▸ itD_tup)⟩
    | non => exact q2.elim
    | bl _ => exact q2.elim
    | int _ => exact q2.elim
    | str _ => exact q2.elim
    | ins _ _ => exact q2.elim
    | scr _ => exact q2.elim
def itR1 (ea : AV) : EV := fun Γ M => (ea Γ M).bind fun r => match r.1 with
  | [.int j] => if -4611686018427387904 ≤ j ∧ j < 4611686018427387904 then .ok (.tup (rngD 0 j.toNat), r.2) else .bad
  | _ => .bad
def itR2 (ea : AV) : EV := fun Γ M => (ea Γ M).bind fun r => match r.1 with
  | [.int i, .int j] => if (-4611686018427387904 ≤ i ∧ i < 4611686018427387904) ∧ -4611686018427387904 ≤ j ∧ j < 4611686018427387904 then .ok (.tup (rngD i (j - i).toNat), r.2) else .bad
  | _ => .bad
theorem two62 : (2 : Int) ^ 62 = 4611686018427387904 := by decide
theorem z_range1 {ea : AV} (hg : Gl X "range") (hm : X.mg "range" = none) (ha : PA X [a] (tAs N W ea)) (hs : starEach [a] X.env = [(false, eval a X.env)] := by rfl) : PI X tg (.Call (.Name "range" p) [a] [] pos) (tI N W (itR1 ea)) :=
  (pi_range1 hg hm ha hs).imp fun σ H RQ ⟨Γ, Tf, Cf, al, M, f, q⟩ => by
    refine ⟨Γ, Tf, Cf, al, M, f, (R.sat_bind.mp q).mono (fun r q vs al' H' hl pr f' => ?_) fun _ _ q => q⟩
    split at q
    · rename_i j e1
      obtain ⟨hb, q⟩ := sat_if q
      have rs := f'.reps hl
      have ft := f'.tail
      rw [e1] at rs
      cases rs with
      | cons r1 r2 =>
        cases r1
        cases r2
        refine ⟨j, rfl, by rw [two62]; exact hb.1, by rw [two62]; exact hb.2, q (Itr 0 j.toNat) .non .non al' H' pr ⟨ft.ok, (ft.w.more fun A _ => .non).sub fun p hp => ?_⟩ itD_range⟩
        rcases List.mem_append.mp hp with z | z
        · exact List.mem_cons_of_mem _ (List.mem_append_left _ z)
        · rcases List.mem_cons.mp z with z | z
          · rw [z]; exact List.mem_cons_self ..
          · exact List.mem_cons_of_mem _ (List.mem_append_right _ z)
    · exact q.elim
theorem z_range2 {ea : AV} (hg : Gl X "range") (hm : X.mg "range" = none) (ha : PA X [a, b] (tAs N W ea)) (hs : starEach [a, b] X.env = [(false, eval a X.env), (false, eval b X.env)] := by rfl) (hs2 : starEach [b] X.env = [(false, eval b X.env)] := by rfl) : PI X tg (.Call (.Name "range" p) [a, b] [] pos) (tI N W (itR2 ea)) :=
  (pi_range2 hg hm ha hs hs2).imp fun σ H RQ ⟨Γ, Tf, Cf, al, M, f, q⟩ => by
    refine ⟨Γ, Tf, Cf, al, M, f, (R.sat_bind.mp q).mono (fun r q vs al' H' hl pr f' => ?_) fun _ _ q => q⟩
    split at q
    · rename_i i j e1
      obtain ⟨hb, q⟩ := sat_if q
      have rs := f'.reps hl
      have ft := f'.tail
      rw [e1] at rs
      cases rs with
      | cons r1 r2 =>
        cases r1
        cases r2 with
        | cons r1 r2 =>
          cases r1
          cases r2
          refine ⟨i, j, rfl, by rw [two62]; exact ⟨hb.1.1, hb.1.2, hb.2.1, hb.2.2⟩, q (Itr i (j - i).toNat) .non .non al' H' pr ⟨ft.ok, (ft.w.more fun A _ => .non).sub fun p hp => ?_⟩ itD_range⟩
          rcases List.mem_append.mp hp with z | z
          · exact List.mem_cons_of_mem _ (List.mem_append_left _ z)
          · rcases List.mem_cons.mp z with z | z
            · rw [z]; exact List.mem_cons_self ..
            · exact List.mem_cons_of_mem _ (List.mem_append_right _ z)
    · exact q.elim
end

/-! ### for -/
/-- a turn's end -/
def SR.loop (r : SR) (f : Gm → Mm → SR) : SR := match r with
  | .ok (.nx Γ) M => f Γ M
  | .ok (.ct Γ) M => f Γ M
  | .ok (.bk Γ) M => .ok (.nx Γ) M
  | r => r
def loopN (s : Mm → Option (List D)) (g : GV) (b : SV) : Nat → Nat → Gm → Mm → SR
  | n, i, Γ, M => match s M with
    | none => .bad
    | some xs => match xs[i]? with
      | none => .ok (.nx Γ) M
      | some z => match n with
        | 0 => .bad
        | n + 1 => match g z Γ with
          | none => .bad
          | some Γ' => (b Γ' M).loop fun Γ2 M2 => loopN s g b n (i + 1) Γ2 M2
def loopL (g : GV) (b : SV) : List D → Gm → Mm → SR
  | [], Γ, M => .ok (.nx Γ) M
  | z :: xs, Γ, M => match g z Γ with
    | none => .bad
    | some Γ' => (b Γ' M).loop fun Γ2 M2 => loopL g b xs Γ2 M2
def loopD (g : GV) (b : SV) (d : D) (Γ : Gm) (M : Mm) : SR := match d with
  | .hdl k => (match vLst M (.d (.hdl k)) with
    | some xs => loopN (vLst · (.d (.hdl k))) g b xs.length 0 Γ M
    | none => .bad)
  | d => match src d M with
    | some xs => loopL g b xs Γ M
    | none => .bad
def sFor (ev : EV) (g : GV) (b : SV) : SV := fun Γ M => (ev Γ M).st Γ fun r => loopD g b r.1 Γ r.2
theorem loopN_go {s : Mm → Option (List D)} {g : GV} {b : SV} {n i : Nat} {Γ : Gm} {M : Mm} {xs : List D} {z : D} (h1 : s M = some xs) (h2 : xs[i]? = some z) :
    loopN s g b (n + 1) i Γ M = match g z Γ with
      | none => .bad
      | some Γ' => (b Γ' M).loop fun Γ2 M2 => loopN s g b n (i + 1) Γ2 M2 := by
  rw [loopN]
  simp only [h1, h2]
theorem loopN_zero {s : Mm → Option (List D)} {g : GV} {b : SV} {i : Nat} {Γ : Gm} {M : Mm} {xs : List D} {z : D} (h1 : s M = some xs) (h2 : xs[i]? = some z) : loopN s g b 0 i Γ M = .bad := by
  rw [loopN]
  simp only [h1, h2]
theorem loopN_end {s : Mm → Option (List D)} {g : GV} {b : SV} {n i : Nat} {Γ : Gm} {M : Mm} {xs : List D} (h1 : s M = some xs) (h2 : xs[i]? = none) : loopN s g b n i Γ M = .ok (.nx Γ) M := by
  rw [loopN]
  simp only [h1, h2]
theorem loopN_none {s : Mm → Option (List D)} {g : GV} {b : SV} {n i : Nat} {Γ : Gm} {M : Mm} (h1 : s M = none) : loopN s g b n i Γ M = .bad := by
  rw [loopN]
  simp only [h1]
/-- of a list that stays -/
theorem loopN_eq {g : GV} {b : SV} {xs : List D} : ∀ (n i : Nat) (Γ : Gm) (M : Mm), n = xs.length - i → i ≤ xs.length → loopN (fun _ => some xs) g b n i Γ M = loopL g b (xs.drop i) Γ M
  | 0, i, Γ, M, hn, hi => by
    have e : i = xs.length := by omega
    subst e
    rw [loopN_end (xs := xs) rfl (by simp), List.drop_length]
    rfl
  | n + 1, i, Γ, M, hn, hi => by
    have hl : i < xs.length := by omega
    rw [loopN_go (xs := xs) rfl (List.getElem?_eq_getElem hl), List.drop_eq_getElem_cons hl, loopL]
    cases g xs[i] Γ with
    | none => rfl
    | some Γ' =>
      simp only []
      congr 1
      funext Γ2 M2
      exact loopN_eq n (i + 1) Γ2 M2 (by omega) hl
section
variable {X : Cx} {N : Nm} {W : WX} {st : Stmt} {body : List Stmt} {e tg c : Expr} {pos : Pos} {is : List Nat}
theorem postS.more {Tf : List (V × D)} {Cf : List (Addr × O)} {al : List Addr} {σ0 : List (Option V)} {Γ0 : Gm} {E : Ends} {f : Fl} {M : Mm} {p : V × D} (h : postS N Tf Cf al σ0 Γ0 E f M) : postS N (p :: Tf) Cf al σ0 Γ0 E f M := by
  cases f with
  | nx Γ => exact fun σ al' H' pr f k => h σ al' H' pr (f.sub fun x hx => List.mem_cons_of_mem _ hx) k
  | rt x => exact fun v al' H' pr w => h v al' H' pr (w.sub fun y hy => by
      rcases List.mem_cons.mp hy with e | e
      · rw [e]; exact List.mem_cons_self ..
      · exact List.mem_cons_of_mem _ (List.mem_cons_of_mem _ e))
  | bk Γ => exact fun σ al' H' pr f k => h σ al' H' pr (f.sub fun x hx => List.mem_cons_of_mem _ hx) k
  | ct Γ => exact fun σ al' H' pr f k => h σ al' H' pr (f.sub fun x hx => List.mem_cons_of_mem _ hx) k
theorem excS.more {Tf : List (V × D)} {Cf : List (Addr × O)} {al : List Addr} {c : Nat} {Γ : Gm} {M : Mm} {p : V × D} (h : excS N W Tf Cf al c Γ M) : excS N W (p :: Tf) Cf al c Γ M := fun σ al' H' ao pr f => h σ al' H' ao pr (f.sub fun x hx => List.mem_cons_of_mem _ hx)
/-- a loop's turn: the body's ends by the loop's -/
theorem loop_sat {r : SR} {k : Gm → Mm → SR} {Tf : List (V × D)} {Cf : List (Addr × O)} {al : List Addr} {σ0 : List (Option V)} {Γ0 : Gm} {E : Ends} {nx : L2.St → Hp → Prop} (h : (r.loop k).sat (postS N Tf Cf al σ0 Γ0 E) (excS N W Tf Cf al))
    (hn : ∀ Γ M, (k Γ M).sat (postS N Tf Cf al σ0 Γ0 E) (excS N W Tf Cf al) → ∀ σ al' H', Pre al al' → Fm N σ Γ Tf Cf al' M H' → Kp σ0 Γ0 σ Γ → nx σ H') : r.sat (postS N Tf Cf al σ0 Γ0 { E with nx := nx, ct := nx, bk := E.nx }) (excS N W Tf Cf al) := by
  cases r with
  | bad => exact h
  | exc c Γ M => exact h
  | ok f M =>
    cases f with
    | nx Γ => exact hn Γ M h
    | ct Γ => exact hn Γ M h
    | bk Γ => exact h
    | rt x => exact h
theorem z_for {ev : EV} {g : GV} {b : SV} (hp : PassesOwn (model X.prog X.w) X.A X.env X.xe) (hc : X.calm = true) (hi : PI X tg e (tI N W ev)) (hg : PG X tg (tG N is g)) (hb : PSs X body (tS N W b))
    (hs : ∀ x, foldedSetIterable e X.env x = pure x := by intro _; rfl) : PS X (.For tg e body [] pos) (tS N W (sFor ev g b)) := (ps_for hp hc hi hg hb hs).imp fun E σ H ⟨Γ, Tf, Cf, al, M, f, q⟩ => by
  refine ⟨Γ, Tf, Cf, al, M, f, (sat_st.mp q).mono (fun r q J v x al1 H1 pr f1 it => ?_) fun _ _ q => exc_up q⟩
  obtain ⟨d, M1⟩ := r
  have key : ∃ n, (loopN (src d) g b n 0 Γ M1).sat (postS N ((v, x) :: Tf) Cf al σ Γ E) (excS N W ((v, x) :: Tf) Cf al) := by
    have q := SR.sat.mono q (fun _ _ h => h.more (p := (v, x))) fun _ _ _ h => h.more (p := (v, x))
    unfold loopD at q
    have C : ∀ {xs : List D}, (∀ M, src d M = some xs) → (loopL g b xs Γ M1).sat (postS N ((v, x) :: Tf) Cf al σ Γ E) (excS N W ((v, x) :: Tf) Cf al) → ∃ n, (loopN (src d) g b n 0 Γ M1).sat (postS N ((v, x) :: Tf) Cf al σ Γ E) (excS N W ((v, x) :: Tf) Cf al) := fun {xs} hx q => by
      refine ⟨xs.length, ?_⟩
      have e1 : src d = fun _ => some xs := funext hx
      rw [e1, loopN_eq xs.length 0 Γ M1 (by omega) (Nat.zero_le _)]
      exact q
    cases d with
    | hdl k =>
      simp only at q
      split at q
      · rename_i xs e1
        exact ⟨xs.length, q⟩
      · exact q.elim
    | lst xs => exact C (fun _ => rfl) q
    | tup xs => exact C (fun _ => rfl) q
    | str z => exact C (fun _ => rfl) q
    | scr ns => exact C (fun _ => rfl) q
    | non => exact q.elim
    | bl _ => exact q.elim
    | int _ => exact q.elim
    | ins _ _ => exact q.elim
  obtain ⟨n, q⟩ := key
  refine ⟨fun i m σ H => ∃ Γ al M, Fm N σ Γ ((v, x) :: Tf) Cf al M H ∧ (loopN (src d) g b m i Γ M).sat (postS N ((v, x) :: Tf) Cf al σ Γ E) (excS N W ((v, x) :: Tf) Cf al), ⟨n, Γ, al1, M1, f1, SR.sat.pre pr q⟩, ?_⟩
  rintro i m σ2 H2 ⟨Γ2, al2, M2, f2, q2⟩
  have hm : (v, x) ∈ fT σ2 Γ2 ++ (v, x) :: Tf := List.mem_append_right _ (List.mem_cons_self ..)
  cases e1 : src d M2 with
  | none => rw [loopN_none e1] at q2; exact q2.elim
  | some xs =>
    cases e2 : xs[i]? with
    | none =>
      rw [loopN_end e1 e2] at q2
      exact .inl ⟨it.stop i f2.w hm e1 (List.getElem?_eq_none_iff.mp e2), q2 σ2 al2 H2 Pre.rfl f2 .rfl⟩
    | some z =>
      cases m with
      | zero => rw [loopN_zero e1 e2] at q2; exact q2.elim
      | succ m =>
        rw [loopN_go e1 e2] at q2
        cases e3 : g z Γ2 with
        | none => rw [e3] at q2; exact q2.elim
        | some Γ3 =>
          rw [e3] at q2
          refine .inr ⟨it.go i f2.w hm e1 (List.getElem?_eq_some_iff.mp e2).1, fun σ H => ∃ Γ al M, Fm N σ Γ ((v, x) :: Tf) Cf al M H ∧ (loopN (src d) g b m (i + 1) Γ M).sat (postS N ((v, x) :: Tf) Cf al σ Γ E) (excS N W ((v, x) :: Tf) Cf al), fun σ' H' h => ⟨m, Nat.lt_succ_self m, h⟩, fun y H' hy => ?_⟩
          have w := it.yld i z f2.w hm e1 e2 y H' hy
          refine ⟨z, Γ2, _, Cf, al2, M2, Γ3, .put f2.ok w, e3, fun σ3 f3 st => ⟨Γ3, _, Cf, al2, M2, f3, SR.sat.kp st.k (loop_sat q2 fun Γ4 M4 q4 σ4 al4 H4 pr4 f4 k4 => ⟨Γ4, al4, M4, f4, SR.sat.kp k4 (SR.sat.pre pr4 q4)⟩)⟩⟩

/-! ### while -/
def whN (t : TV) (b : SV) : Nat → Gm → Mm → SR
  | n, Γ, M => (t Γ M).st Γ fun r => if r.1 = true then (match n with
    | 0 => .bad
    | n + 1 => (b Γ r.2).loop fun Γ2 M2 => whN t b n Γ2 M2) else .ok (.nx Γ) r.2
def sWh (n : Nat) (t : TV) (b : SV) : SV := whN t b n
theorem z_while {t : TV} {b : SV} {n : Nat} (hp : PassesOwn (model X.prog X.w) X.A X.env X.xe) (hc : PT X c (tTs N W t)) (hb : PSs X body (tS N W b)) : PS X (.While c body [] pos) (tS N W (sWh n t b)) := (ps_while hp hc hb).imp fun E σ H ⟨Γ, Tf, Cf, al, M, f, q⟩ => by
  refine ⟨fun m σ H => ∃ Γ al M, Fm N σ Γ Tf Cf al M H ∧ (whN t b m Γ M).sat (postS N Tf Cf al σ Γ E) (excS N W Tf Cf al), ⟨n, Γ, al, M, f, q⟩, ?_⟩
  rintro m σ2 H2 ⟨Γ2, al2, M2, f2, q2⟩
  rw [whN] at q2
  refine ⟨Γ2, Tf, Cf, al2, M2, f2, (sat_st.mp q2).mono (fun r q al3 H3 pr f3 => ?_) fun _ _ q => exc_up q⟩
  obtain ⟨b1, M3⟩ := r
  cases b1 with
  | false => exact q σ2 al3 H3 pr f3 .rfl
  | true =>
    cases m with
    | zero => exact q.elim
    | succ m =>
      refine ⟨fun σ H => ∃ Γ al M, Fm N σ Γ Tf Cf al M H ∧ (whN t b m Γ M).sat (postS N Tf Cf al σ Γ E) (excS N W Tf Cf al), fun σ' H' h => ⟨m, Nat.lt_succ_self m, h⟩, Γ2, Tf, Cf, al3, M3, f3, ?_⟩
      exact loop_sat (SR.sat.pre pr q) fun Γ4 M4 q4 σ4 al4 H4 pr4 f4 k4 => ⟨Γ4, al4, M4, f4, SR.sat.kp k4 (SR.sat.pre pr4 q4)⟩
end
end Z

set_option maxHeartbeats 4000000
namespace Z
open PySem PySem.Spec PyProof.Rows L2

/-! ### fields put -/
def putD (k : Nat) (d : D) : List (Nat × D) → List (Nat × D)
  | [] => [(k, d)]
  | (n, x) :: r => if n = k then (n, d) :: r else (n, x) :: putD k d r
theorem repF_put {N : Nm} {A al : List Addr} {H : Hp} {k : Nat} {v : V} {d : D} (h : Rep N A al H v d) : ∀ {vs : List (Str × V)} {fs : List (Nat × D)}, RepF N A al H vs fs → RepF N A al H (putF (N.fn k) v vs) (putD k d fs)
  | _, _, .nil => .cons h .nil
  | _, _, .cons (n := n) h1 r => by
    unfold putF putD
    by_cases e : n = k
    · subst e
      rw [if_pos rfl, if_pos rfl]
      exact .cons h r
    · rw [if_neg e, if_neg fun z => e (N.inj _ _ z)]
      exact .cons h1 (repF_put h r)
theorem repF_len {N : Nm} {A al : List Addr} {H : Hp} : ∀ {vs : List (Str × V)} {fs : List (Nat × D)}, RepF N A al H vs fs → vs.length = fs.length
  | _, _, .nil => rfl
  | _, _, .cons _ r => congrArg Nat.succ (repF_len r)
/-- names that a class's instances may bear -/
def FaOk (N : Nm) (fa : Nat → Nat → Bool) : Prop := ∀ c k, fa c k = true → NoAttr N.K (N.ca c) (N.fn k)
theorem insOk_put {N : Nm} {c k : Nat} {d : D} (hn : NoAttr N.K (N.ca c) (N.fn k)) : ∀ {fs : List (Nat × D)}, InsOk N c fs → InsOk N c (putD k d fs)
  | [], h => ⟨h.1, fun p hp => by
    rw [List.mem_singleton.mp hp]
    exact hn⟩
  | (n, x) :: r, h => ⟨h.1, fun p hp => by
    unfold putD at hp
    by_cases e : n = k
    · rw [if_pos e] at hp
      rcases List.mem_cons.mp hp with z | z
      · rw [z]; exact h.2 (n, x) (List.mem_cons_self ..)
      · exact h.2 p (List.mem_cons_of_mem _ z)
    · rw [if_neg e] at hp
      rcases List.mem_cons.mp hp with z | z
      · rw [z]; exact h.2 (n, x) (List.mem_cons_self ..)
      · exact (insOk_put hn (fs := r) ⟨h.1, fun q hq => h.2 q (List.mem_cons_of_mem _ hq)⟩).2 p z⟩
section
variable {N : Nm} {C : List (Addr × O)} {al : List Addr} {M : Mm} {T : List (V × D)} {H : Hp}
/-- a cell is changed, a value lives on -/
theorem Core.setV {Z : List (Addr × O)} {a : Addr} {o o' : O} {u : HO} {v : V} {d : D} (h : Core N ((a, o) :: Z) al T H) (q : RepO N (a :: ads Z) al (upd H a u) a o') (r : Rep N (a :: ads Z) al H v d) : Core N ((a, o') :: Z) al ((v, d) :: T) (upd H a u) :=
  (h.set q).more (r.keep h.keepUpd)
theorem World.cell {a : Addr} {o : O} (w : World N ((a, o) :: C) al M T H) : RepO N (wA ((a, o) :: C) al M) al H a o := w.core.cell _ (List.mem_cons_self ..)
theorem World.set {a : Addr} {o o' : O} {u : HO} (w : World N ((a, o) :: C) al M T H) (q : RepO N (wA ((a, o) :: C) al M) al (upd H a u) a o') : World N ((a, o') :: C) al M T (upd H a u) := ⟨w.len, w.core.set q⟩
theorem World.keepUpd {a : Addr} {o : O} {u : HO} (w : World N ((a, o) :: C) al M T H) : Keep (wA ((a, o) :: C) al M) (wA ((a, o) :: C) al M) al al H (upd H a u) := w.core.keepUpd
theorem World.newI {p : Addr} {C0 dx : Addr} {c : Nat} (w : World N C al M T H) (hp : H p = none) (hc : N.ca c = C0) (ok : InsOk N c []) : World N ((p, .ins c []) :: C) al M T (upd H p (.ins C0 dx [])) := by
  subst hc
  exact ⟨w.len, w.core.new hp (.ins upd_same .nil ok)⟩
end

/-! ### a call with keywords -/
section
variable {X : Cx} {N : Nm} {W : WX} {k n : Nat} {f : Addr} {fd : FuncData} {ps ks : List Str} {g : List D → List D → List D} {F : Fn} {x m : Str} {p pos apos : Pos} {e o : Expr} {es : List Expr} {kws : List Keyword}
/-- the arguments, the keywords: what they come to -/
def akE (ea ek : AV) (q : List D → List D → Mm → R (D × Mm)) : EV := fun Γ M => (ea Γ M).bind fun r => (ek Γ r.2).bind fun s => q r.1 s.1 s.2
theorem ak_ok {ea ek : AV} {q : List D → List D → Mm → R (D × Mm)} {σ : L2.St} {H : Hp} {Q : VK} (hal : Alen ea n) (hkl : Alen ek m') (h : tE N W (akE ea ek q) σ H Q) :
    tAs N W ea σ H fun vs H1 => tAs N W ek σ H1 fun zs H2 => ∃ Γ Tf Cf al M ds ez, vs.length = n ∧ zs.length = m' ∧ vs.length = ds.length ∧ zs.length = ez.length ∧ Fm N σ Γ (zs.zip ez ++ (vs.zip ds ++ Tf)) Cf al M H2 ∧
      (q ds ez M).sat (fun r => ∀ v al' H', Pre al al' → Fm N σ Γ ((v, r.1) :: (zs.zip ez ++ (vs.zip ds ++ Tf))) Cf al' r.2 H' → Q v H') (raised N W σ Γ (zs.zip ez ++ (vs.zip ds ++ Tf)) Cf al) := by
  obtain ⟨Γ, Tf, Cf, al, M, fm, h⟩ := h
  refine ⟨Γ, Tf, Cf, al, M, fm, ?_⟩
  have q2 := R.sat_bind.mp h
  cases e1 : ea Γ M with
  | bad => rw [e1] at q2; exact q2.elim
  | exc c M' => rw [e1] at q2; exact q2
  | ok r =>
    rw [e1] at q2
    intro vs al1 H1 hl pr f1
    refine ⟨Γ, _, Cf, al1, r.2, f1, ?_⟩
    have q3 := R.sat_bind.mp q2
    cases e2 : ek Γ r.2 with
    | bad => rw [e2] at q3; exact q3.elim
    | exc c M' =>
      rw [e2] at q3
      exact fun al' H' ao pr' f' => q3 al' H' ao (pr.trans pr') f'.tail
    | ok s =>
      rw [e2] at q3
      intro zs al2 H2 hl2 pr2 f2
      exact ⟨Γ, Tf, Cf, al2, s.2, r.1, s.1, hl.trans (hal _ _ _ e1), hl2.trans (hkl _ _ _ e2), hl, hl2, f2, sat_pre (pr.trans pr2) (fun p hp => List.mem_append_right _ (List.mem_append_right _ hp)) q3⟩
theorem reps_mid {σ : L2.St} {Γ : Gm} {Tf S : List (V × D)} {Cf : List (Addr × O)} {al : List Addr} {M : Mm} {H : Hp} {vs : List V} {ds : List D} (f : Fm N σ Γ (S ++ (vs.zip ds ++ Tf)) Cf al M H) (hl : vs.length = ds.length) : Reps N (wA (fC σ Γ ++ Cf) al M) al H vs ds := f.tail.reps hl
/-- f(e, .., k = v, ..) -/
theorem z_callK {ea ek : AV} (hK : N.K = X.K) (tk : Takes X W) (G : FnOk X.prog X.w X.K X.mg X.base (L2.CX X.prog X.w) k f fd ps (spF N F ps.length)) (hr : Room k X.A) (hb : Bn N fd ps n ks g) (hg : Gl X x) (hm : X.mg x = some (.ref f))
    (hkp : PySem.W.keepIn X.K (.ref f) = true) (ha : PA X (e :: es) (tAs N W ea)) (hal : Alen ea n) (hkw : PK X kws (tAs N W ek)) (hkl : Alen ek ks.length)
    (hall : (backToKw pos (keywordEach kws X.env)).all (·.1.isSome) = true := by rfl) (hks : (backToKw pos (keywordEach kws X.env)).filterMap (·.1) = ks := by rfl)
    (hdb : (x == ("__debug__" : Str)) = false := by decide) (he : starEach (e :: es) X.env = (false, eval e X.env) :: starEach es X.env := by rfl)
    (hpl : ((backTo pos (starEach (e :: es) X.env)).any (·.1) || (backToKw pos (keywordEach kws X.env)).any (·.1.isNone)) = false := by rfl) :
    PE X (.Call (.Name x p) (e :: es) kws pos) (tE N W (callK F g ea ek)) := by
  refine ⟨fun pins s σ H Q I h => ?_⟩
  refine wpAny_Call_Name_kw (ld_glob I hg hm ?_ hdb)
  refine PySem.W.callWith_KW (h₀ := X.base) I.ok.mod.kin hkp hall (thn (ha.run pos pins s σ H _ I (ak_ok (q := fun ds ez M => F (g ds ez) M) hal hkl h)) fun us s1 ⟨vs, H1, I1, r, q⟩ => ?_) hpl he
  refine thn (hkw.run pos pins s1 σ H1 _ I1 q) fun ws s2 ⟨zs, H2, I2, rz, Γ, Tf, Cf, al, M, ds, ez, l1, l2, l3, l4, fm, q2⟩ => ⟨I2.kIn, ?_⟩
  rw [hks]
  exact run_z hK tk G hr hb I2 r rz l1 l2 fm (reps_mid fm l3) (fm.reps l4) q2

/-! ### objects made -/
/-- how the arguments come to the parameters behind self -/
structure BnS (N : Nm) (fd : FuncData) (ps : List Str) (n : Nat) (ks : List Str) (g : List D → List D → List D) : Prop where
  to : ∀ (s : Shared) (p : Addr) (us ws : List Value) (vs zs : List V), N.K.In s.heap → Vals vs us → Vals zs ws → vs.length = n → zs.length = ks.length →
    ∃ gs gv, gv.length + 1 = ps.length ∧ BindsTo s fd ⟨.ref p :: us, ks.zip ws⟩ (ps.zip (.ref p :: gs)) ∧ Vals gv gs ∧ ∀ A al H ds es, Reps N A al H vs ds → Reps N A al H zs es → Reps N A al H gv (g ds es)
theorem BnS.plain {N : Nm} {fd : FuncData} {ps : List Str} (h : Binds N.K fd ps []) (hn : n + 1 = ps.length) : BnS N fd ps n [] gId := ⟨fun s p us ws vs zs k r rz hv hk => by
  have hl : (Value.ref p :: us).length = ps.length := by rw [List.length_cons, ← r.length, hv]; exact hn
  have b := h s (.ref p :: us) k (by rw [List.append_nil]; exact hl)
  rw [List.append_nil] at b
  exact ⟨us, vs, by rw [hv]; exact hn, b, r, fun A al H ds es h1 _ => h1⟩⟩
theorem BnS.dfl {N : Nm} {fd : FuncData} {ps : List Str} {dvs : List V} {ds0 : List Value} {dd : List D} (h : Binds N.K fd ps ds0) (hd : Vals dvs ds0) (hn : n + 1 + dvs.length = ps.length) (hr : ∀ A al H, Reps N A al H dvs dd) :
    BnS N fd ps n [] fun ds _ => ds ++ dd := ⟨fun s p us ws vs zs k r rz hv hk => by
  have hl : (Value.ref p :: us ++ ds0).length = ps.length := by rw [List.length_append, List.length_cons, ← r.length, ← hd.length, hv]; exact hn
  refine ⟨us ++ ds0, vs ++ dvs, by rw [List.length_append, hv]; omega, h s (.ref p :: us) k hl, r.append hd, fun A al H ds es h1 _ => h1.append (hr A al H)⟩⟩
theorem BnS.kw {N : Nm} {fd : FuncData} {ps ks : List Str} {g : List Value → List Value → List Value} {gV : List V → List V → List V} {hV : List V → List V → List V} {hU : List Value → List Value → List Value} {gD : List D → List D → List D} (h : KBn N.K fd ps (n + 1) ks g gV)
    (h1 : ∀ a us ws, g (a :: us) ws = a :: hU us ws) (h2 : ∀ a vs zs, gV (a :: vs) zs = a :: hV vs zs)
    (hl : ∀ vs zs, vs.length = n → zs.length = ks.length → (hV vs zs).length + 1 = ps.length)
    (hr : ∀ A al H vs zs ds es, Reps N A al H vs ds → Reps N A al H zs es → vs.length = n → zs.length = ks.length → Reps N A al H (hV vs zs) (gD ds es)) : BnS N fd ps n ks gD := ⟨fun s p us ws vs zs k r rz hv hk => by
  have b := h.to s (.ref p :: us) ws k (by rw [List.length_cons, ← r.length, hv]) (rz.length ▸ hk)
  have v := h.rel (vs := .ref p :: vs) (us := .ref p :: us) (.cons rfl r) rz
  rw [h1] at b v
  rw [h2] at v
  cases v with
  | cons _ v => exact ⟨hU us ws, hV vs zs, hl vs zs hv hk, b, v, fun A al H ds es h1 h2 => hr A al H vs zs ds es h1 h2 hv hk⟩⟩
/-- C(..) where the object never changes -/
def mkI (c : Nat) (G : Gn) (g : List D → List D → List D) (ds ez : List D) (M : Mm) : R (D × Mm) := (G [] (g ds ez) M).bind fun t => .ok (.ins c t.1, t.2)
/-- C(..) where it changes -/
def mkH (c : Nat) (F : Fn) (g : List D → List D → List D) (ds ez : List D) (M : Mm) : R (D × Mm) := (F (.hdl M.length :: g ds ez) (M ++ [.ins c []])).bind fun t => match t.1 with
  | .non => .ok (.hdl M.length, t.2)
  | _ => .bad
theorem run_mk {pins : List (Addr × Obj)} {σ : L2.St} {H : Hp} {s : Shared} {Q : VK} {us ws : List Value} {vs zs : List V} {ds ez : List D} {Γ : Gm} {Tf : List (V × D)} {Cf : List (Addr × O)} {al : List Addr} {M : Mm} {c : Nat} {sp : Sp} {C : Addr}
    (tk : Takes X W) (Mm : Mk X.K C f) (G : FnOk X.prog X.w X.K X.mg X.base (L2.CX X.prog X.w) k f fd ps sp) (hr : Room (k + 1) X.A) (hK : N.K = X.K) (hC : N.ca c = C) (hcl : Cls X.K C) (hb : BnS N fd ps n ks g)
    (I : Inv X pins σ H s) (r : Vals vs us) (rz : Vals zs ws) (hn : vs.length = n) (hk : zs.length = ks.length) (fm : Fm N σ Γ Tf Cf al M H)
    (rd : Reps N (wA (fC σ Γ ++ Cf) al M) al H vs ds) (re : Reps N (wA (fC σ Γ ++ Cf) al M) al H zs ez)
    (h : ∀ x H1 gv, gv.length + 1 = ps.length → fOk σ Γ → World N ((x, .ins c []) :: (fC σ Γ ++ Cf)) al M (gv.zip (g ds ez) ++ (fT σ Γ ++ Tf)) H1 → gv.length = (g ds ez).length → sp (.ref x :: gv) H1 (fun v H2 => v = .non ∧ Q (.ref x) H2) (WE W σ)) :
    wpAny (model X.prog X.w) X.A (call (.ref C) us (ks.zip ws)) (EP X pins σ Q) X.xe s := by
  have I2 := Inv.made (C := C) I
  obtain ⟨gs, gv, hl, b, rg, rr⟩ := hb.to { s with heap := (s.heap.push PySem.W.emptyDict).push (PySem.W.instObj C s.heap.objs.size) } (s.heap.objs.size + 1) us ws vs zs (hK ▸ I2.kIn) r rz hn hk
  have rG := rr _ _ _ _ _ rd re
  have n1 : H (s.heap.objs.size + 1) = none := I.hok.fresh (Nat.le_succ _)
  have n0 : H s.heap.objs.size = none := I.hok.fresh (Nat.le_refl _)
  have ne : s.heap.objs.size ≠ s.heap.objs.size + 1 := Nat.ne_of_lt (Nat.lt_succ_self _)
  have w0 : World N (fC σ Γ ++ Cf) al M (gv.zip (g ds ez) ++ (fT σ Γ ++ Tf)) H := ⟨fm.w.len, ⟨fm.w.core.nd, fm.w.core.cell, fun x hx => (List.mem_append.mp hx).elim (fun z => rG.mem x z) (fun z => fm.w.core.live x z)⟩⟩
  have w1 := (w0.ext (Ext.new (u := HO.own (s.heap.objs.size + 1)) n0)).newI (p := s.heap.objs.size + 1) (dx := s.heap.objs.size) (C0 := C) (by rw [upd_ne ne.symm]; exact n1) hC ⟨by rw [hC, hK]; exact hcl, fun p hp => by cases hp⟩
  have hq := h _ _ gv hl fm.ok w1 rG.len
  refine wpAny_call (make_map (f := f) I.kIn Mm.makes Mm.init (beq_iff_eq.mp Mm.fn) (codeAny_mono (G.run _ X.stack _ _ ⟨Value.ref (s.heap.objs.size + 1) :: us, ks.zip ws⟩ (.ref (s.heap.objs.size + 1) :: gs) (.ref (s.heap.objs.size + 1) :: gv) _ _ (hr.make C us (ks.zip ws))
    (I2.env0.make C us (ks.zip ws)) b (.cons rfl rg) hq) fun r s' hq' => ?_))
  cases r with
  | error e => exact passAt tk σ pins _ _ e s' I2 hq'
  | ok fl =>
    cases fl with
    | ret u =>
      obtain ⟨v, H', I3, rv, ev, q3⟩ := I2.after hq'
      subst ev
      exact ⟨rv, ⟨V.ref (s.heap.objs.size + 1), H', I3, rfl, q3⟩⟩
    | next => exact False.elim hq'
    | brk => exact False.elim hq'
    | cont => exact False.elim hq'
/-- what a class's __init__ says, of either kind -/
theorem sp_mkI {σ : L2.St} {Γ : Gm} {Tf : List (V × D)} {Cf : List (Addr × O)} {al : List Addr} {M : Mm} {c : Nat} {G : Gn} {gs : List D} {x : Addr} {H1 : Hp} {gv : List V} {Q : VK} (ok : fOk σ Γ) (hl : gv.length = gs.length)
    (w : World N ((x, .ins c []) :: (fC σ Γ ++ Cf)) al M (gv.zip gs ++ (fT σ Γ ++ Tf)) H1)
    (q : ((G [] gs M).bind fun t => .ok (D.ins c t.1, t.2)).sat (fun r => ∀ v al' H', Pre al al' → Fm N σ Γ ((v, r.1) :: Tf) Cf al' r.2 H' → Q v H') (raised N W σ Γ Tf Cf al)) :
    spG N c G gv.length (.ref x :: gv) H1 (fun v H2 => v = .non ∧ Q (.ref x) H2) (WE W σ) := by
  refine ⟨x, gv, gs, [], fC σ Γ ++ Cf, al, M, fT σ Γ ++ Tf, rfl, rfl, hl.symm, w, (R.sat_bind.mp q).mono (fun r q v al' H' pr w' => ?_) fun c' M' q al' H' ao pr w' => q al' H' ao pr ⟨ok, w'⟩⟩
  have rv := w'.live (List.mem_cons_self ..)
  refine ⟨by cases rv; rfl, q (.ref x) al' H' pr (.put ok ((w'.sub fun p hp => List.mem_cons_of_mem _ hp).relI))⟩
theorem sp_mkH {σ : L2.St} {Γ : Gm} {Tf : List (V × D)} {Cf : List (Addr × O)} {al : List Addr} {M : Mm} {c n : Nat} {F : Fn} {gs : List D} {x : Addr} {H1 : Hp} {gv : List V} {Q : VK} (ok : fOk σ Γ) (hl : gv.length = gs.length) (hn : gv.length + 1 = n)
    (w : World N ((x, .ins c []) :: (fC σ Γ ++ Cf)) al M (gv.zip gs ++ (fT σ Γ ++ Tf)) H1)
    (q : ((F (.hdl M.length :: gs) (M ++ [.ins c []])).bind fun t => match t.1 with
      | .non => .ok (D.hdl M.length, t.2)
      | _ => .bad).sat (fun r => ∀ v al' H', Pre al al' → Fm N σ Γ ((v, r.1) :: Tf) Cf al' r.2 H' → Q v H') (raised N W σ Γ Tf Cf al)) :
    spF N F n (.ref x :: gv) H1 (fun v H2 => v = .non ∧ Q (.ref x) H2) (WE W σ) := by
  have pr0 : Pre al (al ++ [x]) := fun k b e => by
    have hk := (List.getElem?_eq_some_iff.mp e).1
    rw [List.getElem?_append_left hk]; exact e
  have hx : (al ++ [x])[M.length]? = some x := by
    rw [← w.len, List.getElem?_append_right (Nat.le_refl _)]
    simp
  refine ⟨.hdl M.length :: gs, fC σ Γ ++ Cf, al ++ [x], M ++ [.ins c []], fT σ Γ ++ Tf, hn, by rw [List.length_cons, ← hl]; exact hn, w.toH, (R.sat_bind.mp q).mono (fun r q v al' H' pr w' => ?_) fun c' M' q al' H' ao pr w' => q al' H' ao (pr0.trans pr) ⟨ok, w'⟩⟩
  obtain ⟨d, M'⟩ := r
  have rv := w'.live (List.mem_cons_self ..)
  cases d with
  | non =>
    refine ⟨by cases rv; rfl, q (.ref x) al' H' (pr0.trans pr) (.put ok ((w'.sub fun p hp => List.mem_cons_of_mem _ hp).add (.hdl (pr _ _ hx))))⟩
  | _ => exact q.elim
theorem z_mkI {C : Addr} {c : Nat} {G : Gn} {ea ek : AV} {l : Nat} (hK : N.K = X.K) (tk : Takes X W) (Mm : Mk X.K C f) (hC : N.ca c = C) (hcl : Cls X.K C) (hps : ps.length = l + 1) (F : FnOk X.prog X.w X.K X.mg X.base (L2.CX X.prog X.w) k f fd ps (spG N c G l)) (hr : Room (k + 1) X.A) (hb : BnS N fd ps n ks g)
    (hg : Gl X x) (hm : X.mg x = some (.ref C)) (ha : PA X (e :: es) (tAs N W ea)) (hal : Alen ea n) (hkw : PK X kws (tAs N W ek)) (hkl : Alen ek ks.length)
    (hall : (backToKw pos (keywordEach kws X.env)).all (·.1.isSome) = true := by rfl) (hks : (backToKw pos (keywordEach kws X.env)).filterMap (·.1) = ks := by rfl)
    (hdb : (x == ("__debug__" : Str)) = false := by decide) (he : starEach (e :: es) X.env = (false, eval e X.env) :: starEach es X.env := by rfl)
    (hpl : ((backTo pos (starEach (e :: es) X.env)).any (·.1) || (backToKw pos (keywordEach kws X.env)).any (·.1.isNone)) = false := by rfl) :
    PE X (.Call (.Name x p) (e :: es) kws pos) (tE N W (akE ea ek (mkI c G g))) := by
  refine ⟨fun pins s σ H Q I h => ?_⟩
  refine wpAny_Call_Name_kw (ld_glob I hg hm ?_ hdb)
  refine PySem.W.callWith_KW (h₀ := X.base) I.ok.mod.kin Mm.kp hall (thn (ha.run pos pins s σ H _ I (ak_ok hal hkl h)) fun us s1 ⟨vs, H1, I1, r, q⟩ => ?_) hpl he
  refine thn (hkw.run pos pins s1 σ H1 _ I1 q) fun ws s2 ⟨zs, H2, I2, rz, Γ, Tf, Cf, al, M, ds, ez, l1, l2, l3, l4, fm, q2⟩ => ⟨I2.kIn, ?_⟩
  rw [hks]
  exact run_mk tk Mm F hr hK hC hcl hb I2 r rz l1 l2 fm (reps_mid fm l3) (fm.reps l4) fun x H3 gv hl ok w he => by
    have e0 : gv.length = l := by omega
    subst e0
    exact sp_mkI ok he w q2
theorem z_mkH {C : Addr} {c : Nat} {F : Fn} {ea ek : AV} (hK : N.K = X.K) (tk : Takes X W) (Mm : Mk X.K C f) (hC : N.ca c = C) (hcl : Cls X.K C) (G : FnOk X.prog X.w X.K X.mg X.base (L2.CX X.prog X.w) k f fd ps (spF N F ps.length)) (hr : Room (k + 1) X.A) (hb : BnS N fd ps n ks g)
    (hg : Gl X x) (hm : X.mg x = some (.ref C)) (ha : PA X (e :: es) (tAs N W ea)) (hal : Alen ea n) (hkw : PK X kws (tAs N W ek)) (hkl : Alen ek ks.length)
    (hall : (backToKw pos (keywordEach kws X.env)).all (·.1.isSome) = true := by rfl) (hks : (backToKw pos (keywordEach kws X.env)).filterMap (·.1) = ks := by rfl)
    (hdb : (x == ("__debug__" : Str)) = false := by decide) (he : starEach (e :: es) X.env = (false, eval e X.env) :: starEach es X.env := by rfl)
    (hpl : ((backTo pos (starEach (e :: es) X.env)).any (·.1) || (backToKw pos (keywordEach kws X.env)).any (·.1.isNone)) = false := by rfl) :
    PE X (.Call (.Name x p) (e :: es) kws pos) (tE N W (akE ea ek (mkH c F g))) := by
  refine ⟨fun pins s σ H Q I h => ?_⟩
  refine wpAny_Call_Name_kw (ld_glob I hg hm ?_ hdb)
  refine PySem.W.callWith_KW (h₀ := X.base) I.ok.mod.kin Mm.kp hall (thn (ha.run pos pins s σ H _ I (ak_ok hal hkl h)) fun us s1 ⟨vs, H1, I1, r, q⟩ => ?_) hpl he
  refine thn (hkw.run pos pins s1 σ H1 _ I1 q) fun ws s2 ⟨zs, H2, I2, rz, Γ, Tf, Cf, al, M, ds, ez, l1, l2, l3, l4, fm, q2⟩ => ⟨I2.kIn, ?_⟩
  rw [hks]
  exact run_mk tk Mm G hr hK hC hcl hb I2 r rz l1 l2 fm (reps_mid fm l3) (fm.reps l4) fun x H3 gv hl ok w he => sp_mkH ok he hl w q2
end

/-! ### attributes stored -/
section
variable {X : Cx} {N : Nm} {W : WX} {o e : Expr} {fl : Str} {pos pos' apos cpos : Pos} {fa : Nat → Nat → Bool}
/-- of the frame's own object in slot i -/
def sPutO (fa : Nat → Nat → Bool) (i k : Nat) (ev : EV) : SV := fun Γ M => (ev Γ M).st Γ fun r => match Γ[i]? with
  | some (.o (.ins c fs)) => if fa c k = true ∧ fs.length < 1000 then .ok (.nx (Γ.set i (.o (.ins c (putD k r.1 fs))))) r.2 else .bad
  | _ => .bad
/-- of an object by its number -/
def sPutH (fa : Nat → Nat → Bool) (k : Nat) (eo ev : EV) : SV := fun Γ M => (ev Γ M).st Γ fun r => (eo Γ r.2).st Γ fun s => match s.1 with
  | .hdl h => (match s.2[h]? with
    | some (.ins c fs) => if fa c k = true ∧ fs.length < 1000 then .ok (.nx Γ) (s.2.set h (.ins c (putD k r.1 fs))) else .bad
    | _ => .bad)
  | _ => .bad
theorem z_putO {i k : Nat} {x : Str} {p : Pos} {ev : EV} (hK : N.K = X.K) (hfa : FaOk N fa) (hfl : N.fn k = fl) (hN : X.N[i]? = some x) (hv : PE X e (tE N W ev)) (hs : swapsWith e (some (.Attribute (.Name x p) fl pos')) pos.line X.env = pure false := by rfl)
    (hvis : Vis X.env.scope x := by first | exact Or.inl rfl | exact Or.inr (Or.inl rfl) | exact Or.inr (Or.inr rfl)) (hd : (x == ("__debug__" : Str)) = false := by decide) (hcd : (x == ("__classdict__" : Str)) = false := by decide) :
    PS X (.Assign [.Attribute (.Name x p) fl pos'] e pos) (tS N W (sPutO fa i k ev)) := (ps_fld (pe_var hN hvis hd hcd) hv hs).imp fun E σ H ⟨Γ, Tf, Cf, al, M, f, q⟩ => by
  refine ⟨Γ, Tf, Cf, al, M, f, (sat_st.mp q).mono (fun r q v al' H' pr f' => ?_) fun _ _ q => exc_up q⟩
  split at q
  · rename_i c fs e1
    obtain ⟨⟨h1, h2⟩, q⟩ := sat_ifS q
    obtain ⟨a, C', e2, w, kk, _⟩ := f'.own e1
    have ro := w.cell
    cases ro with
    | @ins dx _ ws _ hp rf ok =>
      have hn := hfa c k h1
      refine ⟨.ref a, e2, a, _, _, _, rfl, hp, hK ▸ ok.1, by rw [← hK, ← hfl]; exact hn, by rw [repF_len rf]; exact h2, q _ al' _ pr ?_ ?_⟩
      have rv := w.live (v := v) (d := r.1) (List.mem_append_right _ (List.mem_cons_self ..))
      have w2 := w.set (o' := .ins c (putD k r.1 fs)) (u := .ins (N.ca c) dx (putF fl v ws)) (.ins upd_same (hfl ▸ repF_put (rv.keep w.keepUpd) (rf.keep w.keepUpd)) (insOk_put hn ok))
      exact (kk (.ins c (putD k r.1 fs)) al' r.2 _ w2).sub fun p hp => List.mem_cons_of_mem _ hp
      exact .setI ⟨c, fs, e1⟩
  · exact q.elim
theorem z_putH {k : Nat} {eo ev : EV} (hK : N.K = X.K) (hfa : FaOk N fa) (hfl : N.fn k = fl) (ho : PE X o (tE N W eo)) (hv : PE X e (tE N W ev)) (hs : swapsWith e (some (.Attribute o fl pos')) pos.line X.env = pure false := by rfl) :
    PS X (.Assign [.Attribute o fl pos'] e pos) (tS N W (sPutH fa k eo ev)) := (ps_fld ho hv hs).imp fun E σ H ⟨Γ, Tf, Cf, al, M, f, q⟩ => by
  refine ⟨Γ, Tf, Cf, al, M, f, (sat_st.mp q).mono (fun r q v al1 H1 pr f1 => ⟨Γ, _, Cf, al1, r.2, f1, (sat_st.mp q).mono (fun s q x al2 H2 pr2 f2 => ?_) fun c M' q al' H' ao pr' f' => exc_up q al' H' ao (pr.trans pr') (f'.sub fun p hp => List.mem_cons_of_mem _ hp)⟩) fun _ _ q => exc_up q⟩
  split at q
  · rename_i h e1
    split at q
    · rename_i c fs e2
      obtain ⟨⟨h1, h2⟩, q⟩ := sat_ifS q
      have hm : (x, D.hdl h) ∈ fT σ Γ ++ (x, s.1) :: (v, r.1) :: Tf := by rw [e1]; exact List.mem_append_right _ (List.mem_cons_self ..)
      obtain ⟨a, rfl, e3, ro⟩ := f2.w.hdl hm e2
      obtain ⟨Z', w, kk⟩ := f2.w.at e3 e2
      have ro := w.cell _ (List.mem_cons_self ..)
      cases ro with
      | @ins dx _ ws _ hp rf ok =>
        have hn := hfa c k h1
        refine ⟨a, _, _, _, rfl, hp, hK ▸ ok.1, by rw [← hK, ← hfl]; exact hn, by rw [repF_len rf]; exact h2, q _ al2 _ (pr.trans pr2) ?_ .rfl⟩
        have rv : Rep N _ al2 H2 v r.1 := w.live (v, r.1) (List.mem_append_right _ (List.mem_cons_of_mem _ (List.mem_cons_self ..)))
        have w2 := w.set (o' := .ins c (putD k r.1 fs)) (u := .ins (N.ca c) dx (putF fl v ws)) (.ins upd_same (hfl ▸ repF_put (rv.keep w.keepUpd) (rf.keep w.keepUpd)) (insOk_put hn ok))
        exact Fm.sub ⟨f2.ok, kk _ _ w2⟩ fun p hp => List.mem_cons_of_mem _ (List.mem_cons_of_mem _ hp)
    · exact q.elim
  · exact q.elim

/-! ### lists changed -/
/-- a method that changes a list: from its arguments to its result and the new list -/
def MutS (N : Nm) (r : V → List V → Hp → VK → Prop) (op : Mm → List D → List D → Option (D × List D)) : Prop :=
  ∀ {C : List (Addr × O)} {al : List Addr} {M : Mm} {T : List (V × D)} {H : Hp} {l : Addr} {xs vs : List V} {ds es ds' : List D} {d : D}, World N C al M T H → H l = some (.lst xs) → Reps N (wA C al M) al H xs ds → (∀ p ∈ vs.zip es, p ∈ T) → vs.length = es.length → op M es ds = some (d, ds') →
    ∀ Q : VK, (∀ v xs', Rep N (wA C al M) al H v d → Reps N (wA C al M) al H xs' ds' → Q v (upd H l (.lst xs'))) → r (.ref l) vs H Q
def oApp : Mm → List D → List D → Option (D × List D) := fun _ es ds => match es with
  | [x] => if ds.length < big then some (.non, ds ++ [x]) else none
  | _ => none
def oExt : Mm → List D → List D → Option (D × List D) := fun M es ds => match es with
  | [x] => (vLst M (.d x)).bind fun zs => if ds.length + zs.length ≤ big then some (.non, ds ++ zs) else none
  | _ => none
def oPop : Mm → List D → List D → Option (D × List D) := fun _ es ds => match es with
  | [] => (ds[ds.length - 1]?).map fun x => (x, ds.dropLast)
  | _ => none
def oPopAt : Mm → List D → List D → Option (D × List D) := fun _ es ds => match es with
  | [.int i] => if -9223372036854775808 ≤ i ∧ i < 9223372036854775808 then (ixN ds.length i).bind fun k => (ds[k]?).map fun x => (x, ds.eraseIdx k) else none
  | _ => none
def oIns : Mm → List D → List D → Option (D × List D) := fun _ es ds => match es with
  | [.int i, x] => if ds.length < big ∧ 0 ≤ i ∧ i < 9223372036854775808 then some (.non, ds.take i.toNat ++ [x] ++ ds.drop i.toNat) else none
  | _ => none
theorem two63 : (2 : Int) ^ 63 = 9223372036854775808 := by decide
theorem ms_app : MutS N rAppend oApp := fun {C al M T H l xs vs ds es ds' d} w hl r hv hlen h Q q => by
  unfold oApp at h
  split at h
  · rename_i x
    split at h
    · rename_i hb
      cases h
      obtain ⟨y, rfl⟩ := List.length_eq_one_iff.mp hlen
      have ry := w.live (hv (y, x) (List.mem_cons_self ..))
      exact ⟨l, xs, y, rfl, rfl, hl, by rw [r.len, sizeLine_eq]; exact hb, q _ _ .non (r.append (.cons ry .nil))⟩
    · cases h
  · cases h
theorem ms_ext : MutS N rExtend oExt := fun {C al M T H l xs vs ds es ds' d} w hl r hv hlen h Q q => by
  unfold oExt at h
  split at h
  · rename_i x
    obtain ⟨zs, h1, h⟩ := bind_some h
    split at h
    · rename_i hb
      cases h
      obtain ⟨y, rfl⟩ := List.length_eq_one_iff.mp hlen
      obtain ⟨p, ws, rfl, hp, r2⟩ := v_lst w (VR.d (hv (y, x) (List.mem_cons_self ..))) h1
      exact ⟨l, p, xs, ws, rfl, rfl, hl, hp, by rw [r.len, r2.len, sizeLine_eq]; exact hb, q _ _ .non (r.append r2)⟩
    · cases h
  · cases h
theorem reps_dropLast {N : Nm} {A al : List Addr} {H : Hp} : ∀ {vs : List V} {ds : List D}, Reps N A al H vs ds → Reps N A al H vs.dropLast ds.dropLast
  | _, _, .nil => .nil
  | _, _, .cons h .nil => .nil
  | _, _, .cons h (.cons h2 r) => .cons h (reps_dropLast (.cons h2 r))
theorem ms_pop : MutS N rPop oPop := fun {C al M T H l xs vs ds es ds' d} w hl r hv hlen h Q q => by
  unfold oPop at h
  split at h
  · obtain ⟨x, h1, h⟩ := map_some h
    cases h
    obtain ⟨v, e1, rv⟩ := r.get h1
    refine ⟨l, xs, v, rfl, List.eq_nil_of_length_eq_zero hlen, hl, by rw [r.len]; exact e1, q _ _ rv (reps_dropLast r)⟩
  · cases h
theorem ms_popAt : MutS N rPopAt oPopAt := fun {C al M T H l xs vs ds es ds' d} w hl r hv hlen h Q q => by
  unfold oPopAt at h
  split at h
  · rename_i i
    split at h
    · rename_i hb
      obtain ⟨k, h1, h⟩ := bind_some h
      obtain ⟨x, h2, h⟩ := map_some h
      cases h
      obtain ⟨y, rfl⟩ := List.length_eq_one_iff.mp hlen
      have ry := w.live (hv (y, .int i) (List.mem_cons_self ..))
      cases ry
      obtain ⟨v, e1, rv⟩ := r.get h2
      obtain ⟨g1, _⟩ := ixN_seq h1
      exact ⟨l, xs, i, k, v, rfl, rfl, hl, by rw [two63]; exact hb.1, by rw [two63]; exact hb.2, by rw [r.len]; exact g1, e1, q _ _ rv (r.eraseIdx k)⟩
    · cases h
  · cases h
theorem ms_ins : MutS N (fun x vs H Q => ∃ (l : Addr) (xs : List V) (i : Int) (y : V), x = .ref l ∧ vs = [.int i, y] ∧ H l = some (.lst xs) ∧ xs.length < sizeLine ∧ 0 ≤ i ∧ i < 2 ^ 63 ∧ Q .non (upd H l (.lst (xs.take i.toNat ++ [y] ++ xs.drop i.toNat)))) oIns := fun {C al M T H l xs vs ds es ds' d} w hl r hv hlen h Q q => by
  unfold oIns at h
  split at h
  · rename_i i x
    split at h
    · rename_i hb
      cases h
      match vs, hlen, hv with
      | [y, z], _, hv =>
        have ry := w.live (hv (y, .int i) (List.mem_cons_self ..))
        cases ry
        have rz := w.live (hv (z, x) (List.mem_cons_of_mem _ (List.mem_cons_self ..)))
        exact ⟨l, xs, i, z, rfl, rfl, hl, by rw [r.len, sizeLine_eq]; exact hb.1, hb.2.1, by rw [two63]; exact hb.2.2, q _ _ .non (((r.take _).append (.cons rz .nil)).append (r.drop _))⟩
    · cases h
  · cases h
end
end Z

set_option maxHeartbeats 4000000
namespace Z
open PySem PySem.Spec PyProof.Rows L2

/-! ### slots forgotten -/
theorem wipe_wipe {σ : L2.St} {vs : List Nat} : ∀ {ws : List Nat}, (∀ i ∈ ws, i ∈ vs) → wipe (wipe σ ws) vs = wipe σ vs
  | [], _ => rfl
  | w :: ws, h => by
    show wipe ((wipe σ ws).set w none) vs = _
    rw [wipe_set (h w (List.mem_cons_self ..)), wipe_wipe fun i hi => h i (List.mem_cons_of_mem _ hi)]
def wipG : List Nat → Gm → Option Gm
  | [], Γ => some Γ
  | v :: vs, Γ => (wipG vs Γ).bind fun G => match G[v]? with
    | some (.o _) => none
    | _ => some (G.set v .un)
theorem f_un : ∀ {σ : List (Option V)} {Γ : Gm} {i : Nat}, fOk σ Γ → (∀ y, Γ[i]? ≠ some (.o y)) → fOk (σ.set i none) (Γ.set i .un) ∧ fC (σ.set i none) (Γ.set i .un) = fC σ Γ ∧ ∀ p ∈ fT (σ.set i none) (Γ.set i .un), p ∈ fT σ Γ
  | [], [], _, _, _ => ⟨trivial, rfl, fun _ h => h⟩
  | w :: σ, .un :: Γ, 0, k, _ => by
    cases w with
    | none => exact ⟨k, rfl, fun _ h => h⟩
    | some w => cases w <;> exact ⟨k, rfl, fun _ h => h⟩
  | some w :: σ, .d z :: Γ, 0, k, _ => by cases w <;> exact ⟨k, rfl, fun _ h => List.mem_cons_of_mem _ h⟩
  | some (.ref a) :: σ, .o y :: Γ, 0, _, h => absurd rfl (h y)
  | w :: σ, .un :: Γ, i + 1, k, h => by
    have ih := f_un (i := i) (σ := σ) (Γ := Γ) (by cases w <;> exact k) (fun y e => h y (by simpa using e))
    cases w with
    | none => exact ih
    | some w => cases w <;> exact ih
  | some w :: σ, .d z :: Γ, i + 1, k, h => by
    have ih := f_un (i := i) (σ := σ) (Γ := Γ) k (fun y e => h y (by simpa using e))
    refine ⟨ih.1, by cases w <;> exact ih.2.1, fun p hp => ?_⟩
    rcases List.mem_cons.mp (show p ∈ (w, z) :: fT (σ.set i none) (Γ.set i .un) from hp) with e | hp
    · rw [e]; exact List.mem_cons_self ..
    · exact List.mem_cons_of_mem _ (ih.2.2 p hp)
  | some (.ref a) :: σ, .o y :: Γ, i + 1, k, h => by
    have ih := f_un (i := i) (σ := σ) (Γ := Γ) k (fun y e => h y (by simpa using e))
    exact ⟨ih.1, congrArg (List.cons (a, y)) ih.2.1, ih.2.2⟩
theorem wipG_ok {σ : L2.St} {Γ : Gm} (k : fOk σ Γ) : ∀ {vs : List Nat} {G : Gm}, wipG vs Γ = some G → fOk (wipe σ vs) G ∧ fC (wipe σ vs) G = fC σ Γ ∧ (∀ p ∈ fT (wipe σ vs) G, p ∈ fT σ Γ) ∧ ∀ i ∈ vs, ∀ y, G[i]? ≠ some (.o y)
  | [], G, h => by
    cases h
    exact ⟨k, rfl, fun _ h => h, fun i hi => by cases hi⟩
  | v :: vs, G, h => by
    obtain ⟨G1, h1, h2⟩ := bind_some h
    obtain ⟨a, b, c, d⟩ := wipG_ok k h1
    have nv : (∀ y, G1[v]? ≠ some (.o y)) ∧ G = G1.set v .un := by
      split at h2
      · cases h2
      · rename_i hn
        cases h2
        exact ⟨fun y e => hn y e, rfl⟩
    obtain ⟨nv, rfl⟩ := nv
    obtain ⟨a2, b2, c2⟩ := f_un a nv
    refine ⟨a2, b2.trans b, fun p hp => c p (c2 p hp), fun i hi y e => ?_⟩
    by_cases hv : v = i
    · subst hv
      by_cases hl : v < G1.length
      · rw [List.getElem?_set_self hl] at e; cases e
      · rw [List.getElem?_eq_none (by simpa using hl)] at e; cases e
    · rw [List.getElem?_set_ne hv] at e
      rcases List.mem_cons.mp hi with z | z
      · exact hv z.symm
      · exact d i z y e

/-! ### [.. for .. in ..] -/
/-- without a raise -/
def R.calm {α : Type} (r : R α) : R α := match r with
  | .ok a => .ok a
  | _ => .bad
theorem sat_calm {α : Type} {r : R α} {P : α → Prop} {E : Nat → List O → Prop} (h : r.calm.sat P E) : ∃ a, r = .ok a ∧ P a := by
  cases r with
  | ok a => exact ⟨a, rfl, h⟩
  | exc c M => exact h.elim
  | bad => exact h.elim
def lcN (s : Mm → Option (List D)) (g : GV) (t : TV) (e : EV) (Γ : Gm) : Nat → Nat → List D → Mm → R (List D × Mm)
  | n, i, acc, M => match s M with
    | none => .bad
    | some xs => match xs[i]? with
      | none => .ok (acc, M)
      | some z => match n with
        | 0 => .bad
        | n + 1 => match g z Γ with
          | none => .bad
          | some Γ' => (t Γ' M).calm.bind fun b => if b.1 = true then (e Γ' b.2).calm.bind fun y => lcN s g t e Γ n (i + 1) (acc ++ [y.1]) y.2 else lcN s g t e Γ n (i + 1) acc b.2
def lcL (g : GV) (t : TV) (e : EV) (Γ : Gm) : List D → Mm → R (List D × Mm)
  | [], M => .ok ([], M)
  | z :: xs, M => match g z Γ with
    | none => .bad
    | some Γ' => (t Γ' M).calm.bind fun b => if b.1 = true then (e Γ' b.2).calm.bind fun y => (lcL g t e Γ xs y.2).bind fun r => .ok (y.1 :: r.1, r.2) else lcL g t e Γ xs b.2
def lcD (g : GV) (t : TV) (e : EV) (Γ : Gm) (d : D) (M : Mm) : R (List D × Mm) := match d with
  | .hdl k => (match vLst M (.d (.hdl k)) with
    | some xs => if xs.length ≤ big then lcN (vLst · (.d (.hdl k))) g t e Γ xs.length 0 [] M else .bad
    | none => .bad)
  | d => match src d M with
    | some xs => if xs.length ≤ big then lcL g t e Γ xs M else .bad
    | none => .bad
def fLc (ev : EV) (vs : List Nat) (g : GV) (t : TV) (e : EV) : AV := fun Γ M => (ev Γ M).bind fun r => match wipG vs Γ with
  | some G => lcD g t e G r.1 r.2
  | none => .bad
def tYesV : TV := fun _ M => .ok (true, M)
theorem R.bind_assoc {α β γ : Type} (r : R α) (f : α → R β) (g : β → R γ) : (r.bind f).bind g = r.bind fun a => (f a).bind g := by cases r <;> rfl
theorem R.bind_pure {α : Type} (r : R α) : (r.bind fun a => .ok a) = r := by cases r <;> rfl
theorem lcN_eq {g : GV} {t : TV} {e : EV} {Γ : Gm} {xs : List D} : ∀ (n i : Nat) (acc : List D) (M : Mm), n = xs.length - i → i ≤ xs.length → lcN (fun _ => some xs) g t e Γ n i acc M = (lcL g t e Γ (xs.drop i) M).bind fun r => .ok (acc ++ r.1, r.2)
  | 0, i, acc, M, hn, hi => by
    have e : i = xs.length := by omega
    subst e
    rw [lcN, List.drop_length, lcL]
    simp [R.bind]
  | n + 1, i, acc, M, hn, hi => by
    have hl : i < xs.length := by omega
    rw [lcN, List.drop_eq_getElem_cons hl, lcL]
    simp only [List.getElem?_eq_getElem hl]
    cases g xs[i] Γ with
    | none => rfl
    | some Γ' =>
      simp only []
      rw [R.bind_assoc]
      congr 1
      funext b
      by_cases hb : b.1 = true
      · rw [if_pos hb, if_pos hb, R.bind_assoc]
        congr 1
        funext y
        rw [lcN_eq n (i + 1) _ _ (by omega) hl, R.bind_assoc]
        congr 1
        funext r
        simp [R.bind]
      · rw [if_neg hb, if_neg hb]
        exact lcN_eq n (i + 1) _ _ (by omega) hl
section
variable {X : Cx} {N : Nm} {W : WX} {elt tg iter c : Expr} {ifs : List Expr} {scope : Scope} {own : List (Str × Nat)} {pos : Pos} {is : List Nat}
abbrev W0 : WX := fun _ _ _ _ => False
theorem z_ifs0 : PTs X [] (tTs N W0 tYesV) := ⟨fun pins s σ H Q I h => pts_nil.run pins s σ H Q I (by
  obtain ⟨Γ, Tf, Cf, al, M, f, q⟩ := h
  exact q al H Pre.rfl f)⟩
theorem z_ifs1 {t : TV} (h : PT X c (tTs N W0 t)) : PTs X [c] (tTs N W0 t) := pts_one h
theorem fm_wipe {σ : L2.St} {Γ G : Gm} {Tf : List (V × D)} {Cf : List (Addr × O)} {al : List Addr} {M : Mm} {H : Hp} {vs : List Nat} (f : Fm N σ Γ Tf Cf al M H) (h : wipG vs Γ = some G) : Fm N (wipe σ vs) G (fT σ Γ ++ Tf) Cf al M H := by
  obtain ⟨a, b, c, _⟩ := wipG_ok f.ok h
  refine ⟨a, ?_⟩
  rw [b]
  exact f.w.sub fun p hp => by
    rcases List.mem_append.mp hp with z | z
    · exact List.mem_append_left _ (c p z)
    · exact z
theorem lc_ok {ev : EV} {g : GV} {t : TV} {e : EV} {vs : List Nat} (his : ∀ i ∈ is, i ∈ vs) : ∀ σ H Q, tF N W (fLc ev vs g t e) σ H Q → tLc (tI N W ev) (tG N is g) (tTs N W0 t) (tE N W0 e) vs σ H Q := fun σ H Q ⟨Γ, Tf, Cf, al, M, f, q⟩ => by
  refine ⟨Γ, Tf, Cf, al, M, f, (R.sat_bind.mp q).mono (fun r q J v x al1 H1 pr f1 it D hD => ?_) fun _ _ q => q⟩
  obtain ⟨d, M1⟩ := r
  cases hw : wipG vs Γ with
  | none => rw [hw] at q; exact q.elim
  | some G =>
    rw [hw] at q
    obtain ⟨okG, eC, sT, nO⟩ := wipG_ok f1.ok hw
    have f2 := fm_wipe f1 hw
    have fN : Fm N (wipe σ vs) G (fT σ Γ ++ (v, x) :: Tf) ((D, .lst []) :: Cf) al1 M1 (upd H1 D (.lst [])) := ⟨f2.ok, (f2.w.newL (p := D) (vs := []) (ds := []) hD .nil).perm List.perm_middle.symm⟩
    -- how the end is told
    generalize hP : (fun (r : List Z.D × Mm) => ∀ al' H', Pre al1 al' → Fm N (wipe σ vs) G (fT σ Γ ++ (v, x) :: Tf) ((D, .lst r.1) :: Cf) al' r.2 H' → Q (.ref D) H') = P
    have fin : ∀ (r : List Z.D × Mm), (∀ p al' H', Pre al al' → fOk σ Γ → World N ((p, .lst r.1) :: (fC σ Γ ++ Cf)) al' r.2 (fT σ Γ ++ Tf) H' → Q (.ref p) H') → P r := fun r q => by
      subst hP
      intro al' H' pr' f'
      refine q D al' H' (pr.trans pr') f1.ok ?_
      have w := f'.w.perm List.perm_middle
      rw [eC] at w
      exact w.sub fun p hp => by
        refine List.mem_append_right _ ?_
        rcases List.mem_append.mp hp with z | z
        · exact List.mem_append_left _ z
        · exact List.mem_append_right _ (List.mem_cons_of_mem _ z)
    have key : ∃ n, n ≤ big ∧ ∃ E, (lcN (src d) g t e G n 0 [] M1).sat P E := by
      unfold lcD at q
      have C : ∀ {xs : List Z.D}, (∀ M, src d M = some xs) → (if xs.length ≤ big then lcL g t e G xs M1 else R.bad).sat (fun r => ∀ p al' H', Pre al al' → fOk σ Γ → World N ((p, .lst r.1) :: (fC σ Γ ++ Cf)) al' r.2 (fT σ Γ ++ Tf) H' → Q (.ref p) H') (raised N W σ Γ Tf Cf al) →
          ∃ n, n ≤ big ∧ ∃ E, (lcN (src d) g t e G n 0 [] M1).sat P E := fun {xs} hx q => by
        obtain ⟨hb, q⟩ := sat_if q
        refine ⟨xs.length, hb, raised N W σ Γ Tf Cf al, ?_⟩
        have e1 : src d = fun _ => some xs := funext hx
        rw [e1, lcN_eq xs.length 0 [] M1 (by omega) (Nat.zero_le _), List.drop_zero]
        have e2 : (fun r : List Z.D × Mm => (R.ok ([] ++ r.1, r.2) : R (List Z.D × Mm))) = fun r => .ok r := by
          funext r
          simp
        rw [e2, R.bind_pure]
        exact R.sat.mono q (fun r q => fin r q) fun _ _ q => q
      cases d with
      | hdl k =>
        simp only at q
        split at q
        · rename_i xs e1
          obtain ⟨hb, q⟩ := sat_if q
          exact ⟨xs.length, hb, _, R.sat.mono q (fun r q => fin r q) fun _ _ q => q⟩
        · exact q.elim
      | lst xs => exact C (fun _ => rfl) q
      | tup xs => exact C (fun _ => rfl) q
      | str z => exact C (fun _ => rfl) q
      | scr ns => exact C (fun _ => rfl) q
      | non => exact q.elim
      | bl _ => exact q.elim
      | int _ => exact q.elim
      | ins _ _ => exact q.elim
    obtain ⟨n0, hn0, Ex, q⟩ := key
    refine ⟨fun i m H => ∃ acc al M, Pre al1 al ∧ Fm N (wipe σ vs) G (fT σ Γ ++ (v, x) :: Tf) ((D, .lst acc) :: Cf) al M H ∧ acc.length ≤ i ∧ i + m ≤ big ∧ (lcN (src d) g t e G m i acc M).sat P Ex, ⟨n0, [], al1, M1, Pre.rfl, fN, Nat.le_refl _, by omega, q⟩, ?_⟩
    rintro i m H2 ⟨acc, al2, M2, pr2, f2, hl, hm, q2⟩
    have hmem : (v, x) ∈ fT (wipe σ vs) G ++ (fT σ Γ ++ (v, x) :: Tf) := List.mem_append_right _ (List.mem_append_right _ (List.mem_cons_self ..))
    rw [lcN] at q2
    cases e1 : src d M2 with
    | none => simp only [e1] at q2; exact q2.elim
    | some xs =>
      simp only [e1] at q2
      cases e2 : xs[i]? with
      | none =>
        simp only [e2] at q2
        refine .inl ⟨it.stop i f2.w hmem e1 (List.getElem?_eq_none_iff.mp e2), ?_⟩
        have q3 : P (acc, M2) := q2
        rw [← hP] at q3
        exact q3 al2 H2 pr2 f2
      | some z =>
        simp only [e2] at q2
        cases m with
        | zero => exact q2.elim
        | succ m =>
          simp only [] at q2
          cases e3 : g z G with
          | none => rw [e3] at q2; exact q2.elim
          | some G3 =>
            rw [e3] at q2
            refine .inr ⟨it.go i f2.w hmem e1 (List.getElem?_eq_some_iff.mp e2).1, fun H => ∃ acc al M, Pre al1 al ∧ Fm N (wipe σ vs) G (fT σ Γ ++ (v, x) :: Tf) ((D, .lst acc) :: Cf) al M H ∧ acc.length ≤ i + 1 ∧ i + 1 + m ≤ big ∧ (lcN (src d) g t e G m (i + 1) acc M).sat P Ex,
              fun H' h => ⟨m, Nat.lt_succ_self m, h⟩, fun y H' hy => ?_⟩
            have w := it.yld i z f2.w hmem e1 e2 y H' hy
            refine ⟨z, G, _, _, al2, M2, G3, .put f2.ok w, e3, fun σ3 f3 st => ⟨?_, ?_⟩⟩
            · rw [st.w vs his, wipe_wipe fun _ h => h]
            · have eC3 : fC σ3 G3 = fC (wipe σ vs) G := st.c fun i hi => nO i (his i hi)
              -- back to the frame of the turn's begin
              have back : ∀ {σ' : L2.St} {T' : List (V × Z.D)} {acc' : List Z.D} {al' : List Addr} {M' : Mm} {H' : Hp}, World N (fC σ3 G3 ++ (D, .lst acc') :: Cf) al' M' (T' ++ (fT σ Γ ++ (v, x) :: Tf)) H' → Fm N (wipe σ vs) G (fT σ Γ ++ (v, x) :: Tf) ((D, .lst acc') :: Cf) al' M' H' := fun w => by
                refine ⟨okG, ?_⟩
                rw [← eC3]
                exact w.sub fun p hp => List.mem_append_right _ (by
                  rcases List.mem_append.mp hp with z | z
                  · exact List.mem_append_left _ (sT p z)
                  · exact z)
              obtain ⟨b, e4, q4⟩ := sat_calm (R.sat_bind.mp q2 : ((t G3 M2).calm).sat _ _)
              refine ⟨G3, _, _, al2, M2, f3, ?_⟩
              rw [e4]
              intro al4 H4 pr4 f4
              obtain ⟨b1, M4⟩ := b
              cases b1 with
              | false =>
                rw [if_neg Bool.false_ne_true] at q4 ⊢
                exact ⟨acc, al4, M4, pr2.trans pr4, back (σ' := σ3) f4.w, by omega, by omega, q4⟩
              | true =>
                rw [if_pos rfl] at q4 ⊢
                obtain ⟨y5, e5, q5⟩ := sat_calm (R.sat_bind.mp q4 : ((e G3 M4).calm).sat _ _)
                refine ⟨G3, _, _, al4, M4, f4, ?_⟩
                rw [e5]
                intro u al5 H5 pr5 f5
                have w5 := f5.w.perm List.perm_middle
                have ro := w5.cell
                cases ro with
                | @lst ws _ hp rs =>
                  have rv := w5.live (v := u) (d := y5.1) (List.mem_append_right _ (List.mem_cons_self ..))
                  refine ⟨ws, hp, by rw [rs.len, sizeLine_eq]; have := big; unfold big at hm; omega, acc ++ [y5.1], al5, y5.2, (pr2.trans pr4).trans pr5, ?_, by rw [List.length_append, List.length_singleton]; omega, by omega, q5⟩
                  have w6 := w5.set (o' := .lst (acc ++ [y5.1])) (u := .lst (ws ++ [u])) (.lst upd_same ((rs.keep w5.keepUpd).append (.cons (rv.keep w5.keepUpd) .nil)))
                  refine back (σ' := σ3) (T' := fT σ3 G3 ++ [(u, y5.1)]) ((w6.perm List.perm_middle.symm).sub fun p hp => ?_)
                  rw [List.append_assoc] at hp
                  exact hp
theorem z_lc {ev : EV} {g : GV} {t : TV} {e : EV} (hc : X.calm = true) (hN : X.N.Nodup) (hi : PI X tg iter (tI N W ev)) (hb : blkC X.N X.env.scope scope own = true) (his : ∀ i ∈ is, i ∈ own.map (·.2))
    (hg : ∀ (s : Shared) (H : Hp) (C : Addr) (cl : List (Str × Addr)) (fp : List Addr), PG (X.blk s H scope (compEnvC scope cl C X.env) fp) tg (tG N is g)) (ht : ∀ (s : Shared) (H : Hp) (C : Addr) (cl : List (Str × Addr)) (fp : List Addr), PTs (X.blk s H scope (compEnvC scope cl C X.env) fp) ifs (tTs N W0 t))
    (he : ∀ (s : Shared) (H : Hp) (C : Addr) (cl : List (Str × Addr)) (fp : List Addr), PE (X.blk s H scope (compEnvC scope cl C X.env) fp) elt (tE N W0 e)) (hs : ∀ x, foldedSetIterable iter X.env x = pure x := by intro _; rfl) :
    PE X (.ListComp elt [⟨tg, iter, ifs, 0⟩] scope pos) (tF N W (fLc ev (own.map (·.2)) g t e)) := (pe_lc hc hN hi (blkOk_by hb) hg ht he hs).imp (lc_ok his)
/-- y = [..] on one line, y a local -/
theorem lc_sw {i : Nat} {y : Str} {py spos : Pos} {ev : EV} {g : GV} {t : TV} {e : EV} (hc : X.calm = true) (hN : X.N.Nodup) (hy : X.N[i]? = some y) (hyl : X.env.scope.names.lookup y = some .local) (hk : X.env.scope.kind = .function) (hl : (py.line == pos.line) = true) (hl2 : pos.line = spos.line)
    (ha : (scope.names.any fun (n, k) => n == y && (k == .local || k == .cell)) = false) (hi : PI X tg iter (tI N W ev)) (hb : blkC X.N X.env.scope scope own = true) (his : ∀ i ∈ is, i ∈ own.map (·.2))
    (hg : ∀ (s : Shared) (H : Hp) (C : Addr) (cl : List (Str × Addr)) (fp : List Addr), PG (X.blk s H scope (compEnvC scope cl C X.env) fp) tg (tG N is g)) (ht : ∀ (s : Shared) (H : Hp) (C : Addr) (cl : List (Str × Addr)) (fp : List Addr), PTs (X.blk s H scope (compEnvC scope cl C X.env) fp) ifs (tTs N W0 t))
    (he : ∀ (s : Shared) (H : Hp) (C : Addr) (cl : List (Str × Addr)) (fp : List Addr), PE (X.blk s H scope (compEnvC scope cl C X.env) fp) elt (tE N W0 e)) (hs : ∀ x, foldedSetIterable iter X.env x = pure x := by intro _; rfl) :
    PS X (.Assign [.Name y py] (.ListComp elt [⟨tg, iter, ifs, 0⟩] scope pos) spos) (tAsg (tF N W (fLc ev (own.map (·.2)) g t e)) (gName i)) := (ps_setLc hc hN hy hyl (sw_true hk hyl hl ha) hi (blkOk_by hb) hg ht he hs).imp fun E σ H q => lc_ok his σ H _ q
theorem asg_data {i : Nat} {ev : AV} {E : Ends} {σ : L2.St} {H : Hp} (h : tS N W (sAsg i (asD ev)) E σ H) : tAsg (tF N W ev) (gName i) E σ H := by
  obtain ⟨Γ, Tf, Cf, al, M, f, q⟩ := h
  refine ⟨Γ, Tf, Cf, al, M, f, R.sat.mono (R.sat_bind.mp (sat_st.mp q)) (fun r q p al' H' pr ok w => ?_) fun _ _ q => exc_up q⟩
  obtain ⟨hl, q⟩ := sat_ifS q
  exact q _ al' H' pr (Fm.setD (.put ok w.relL) hl) (.setD fun _ _ z => nomatch z)
theorem asg_own {i : Nat} {ev : AV} {E : Ends} {σ : L2.St} {H : Hp} (h : tS N W (sAsgF i ev) E σ H) : tAsg (tF N W ev) (gName i) E σ H := by
  obtain ⟨Γ, Tf, Cf, al, M, f, q⟩ := h
  refine ⟨Γ, Tf, Cf, al, M, f, R.sat.mono (sat_st.mp q) (fun r q p al' H' pr ok w => ?_) fun _ _ q => exc_up q⟩
  obtain ⟨hl, q⟩ := sat_ifS q
  exact q _ al' H' pr (.setO ok w hl) (.setD fun _ _ z => nomatch z)
end
end Z

set_option maxHeartbeats 4000000
namespace Z
open PySem PySem.Spec PyProof.Rows L2

section
variable {X : Cx} {N : Nm} {W : WX} {e o a b c : Expr} {x fl : Str} {p pos apos cpos : Pos}
/-! ### fields, items -/
theorem z_fld {k : Nat} {pa : PV} (hK : N.K = X.K) (hf : N.fn k = fl) (ha : PE X e (tP N pa)) (hb : attributeBase e fl X.env (eval e X.env) = eval e X.env := by rfl) : PE X (.Attribute e fl pos) (tP N (p1 (oFld k) pa)) := (pe_fld ha hb).imp (p1_ok (us_fld hK k hf) pa)
theorem z_fldE {k : Nat} {ea : EV} (hK : N.K = X.K) (hf : N.fn k = fl) (ha : PE X e (tE N W ea)) (hb : attributeBase e fl X.env (eval e X.env) = eval e X.env := by rfl) : PE X (.Attribute e fl pos) (tE N W (e1 (oFld k) ea)) := (pe_fld ha hb).imp (e1_ok (us_fld hK k hf) ea)
theorem z_ix {pa pb : PV} (hK : N.K = X.K) (ha : PE X a (tP N pa)) (hb : PE X b (tP N pb)) (hs : PlainIx b := by intro _ _; rfl) : PE X (.Subscript a b pos) (tP N (p2 oIx pa pb)) := (pe_ix ix_seq ha hb hs).imp (p2_ok (os_ix hK) pa pb)
theorem z_ixE {ea eb : EV} (hK : N.K = X.K) (ha : PE X a (tE N W ea)) (hb : PE X b (tE N W eb)) (hs : PlainIx b := by intro _ _; rfl) : PE X (.Subscript a b pos) (tE N W (e2 oIx ea eb)) := (pe_ix ix_seq ha hb hs).imp (e2_ok (os_ix hK) ea eb)

/-! ### calls of built-ins on one value -/
section
variable {id T : String} {r : List V → Hp → VK → Prop} {op : Mm → Ev → Option D} {of : Mm → Ev → Option (List D)} {pa : PV} {ea : EV}
theorem z_b1 (hc : CallR X (.builtin id) r) (hs : UnS N (fun x H Q => r [x] H Q) op) (hg : Gl X x) (hm : X.mg x = none) (hv : bootBuiltins x = some (.builtin id)) (ha : PE X e (tP N pa)) (hn : x ≠ "__name__" := by decide) (hdb : (x == ("__debug__" : Str)) = false := by decide)
    (he : starEach [e] X.env = (false, eval e X.env) :: starEach [] X.env := by rfl) (hpl : (backTo pos (starEach [] X.env)).any (·.1) = false := by rfl) : PE X (.Call (.Name x p) [e] [] pos) (tP N (p1 op pa)) := (pe_callB hc hg hm hv (pa_cons ha pa_nil he) hn hdb he hpl).imp (p1_ok hs pa)
theorem z_b1E (hc : CallR X (.builtin id) r) (hs : UnS N (fun x H Q => r [x] H Q) op) (hg : Gl X x) (hm : X.mg x = none) (hv : bootBuiltins x = some (.builtin id)) (ha : PE X e (tE N W ea)) (hn : x ≠ "__name__" := by decide) (hdb : (x == ("__debug__" : Str)) = false := by decide)
    (he : starEach [e] X.env = (false, eval e X.env) :: starEach [] X.env := by rfl) (hpl : (backTo pos (starEach [] X.env)).any (·.1) = false := by rfl) : PE X (.Call (.Name x p) [e] [] pos) (tE N W (e1 op ea)) := (pe_callB hc hg hm hv (pa_cons ha pa_nil he) hn hdb he hpl).imp (e1_ok hs ea)
theorem z_t1 (hc : CallR X (.type T) r) (hs : UnS N (fun x H Q => r [x] H Q) op) (hg : Gl X x) (hm : X.mg x = none) (hv : bootBuiltins x = some (.type T)) (ha : PE X e (tP N pa)) (hn : x ≠ "__name__" := by decide) (hdb : (x == ("__debug__" : Str)) = false := by decide)
    (he : starEach [e] X.env = (false, eval e X.env) :: starEach [] X.env := by rfl) (hpl : (backTo pos (starEach [] X.env)).any (·.1) = false := by rfl) : PE X (.Call (.Name x p) [e] [] pos) (tP N (p1 op pa)) := (pe_callTy hc hg hm hv (pa_cons ha pa_nil he) hn hdb he hpl).imp (p1_ok hs pa)
theorem z_t1E (hc : CallR X (.type T) r) (hs : UnS N (fun x H Q => r [x] H Q) op) (hg : Gl X x) (hm : X.mg x = none) (hv : bootBuiltins x = some (.type T)) (ha : PE X e (tE N W ea)) (hn : x ≠ "__name__" := by decide) (hdb : (x == ("__debug__" : Str)) = false := by decide)
    (he : starEach [e] X.env = (false, eval e X.env) :: starEach [] X.env := by rfl) (hpl : (backTo pos (starEach [] X.env)).any (·.1) = false := by rfl) : PE X (.Call (.Name x p) [e] [] pos) (tE N W (e1 op ea)) := (pe_callTy hc hg hm hv (pa_cons ha pa_nil he) hn hdb he hpl).imp (e1_ok hs ea)
theorem z_t1F (hc : CallR X (.type T) r) (hs : UnF N (fun x H Q => r [x] H Q) of) (hg : Gl X x) (hm : X.mg x = none) (hv : bootBuiltins x = some (.type T)) (ha : PE X e (tP N pa)) (hn : x ≠ "__name__" := by decide) (hdb : (x == ("__debug__" : Str)) = false := by decide)
    (he : starEach [e] X.env = (false, eval e X.env) :: starEach [] X.env := by rfl) (hpl : (backTo pos (starEach [] X.env)).any (·.1) = false := by rfl) : PE X (.Call (.Name x p) [e] [] pos) (tF N W (f1 of pa)) := (pe_callTy hc hg hm hv (pa_cons ha pa_nil he) hn hdb he hpl).imp (f1_ok hs pa)
theorem z_t1FE (hc : CallR X (.type T) r) (hs : UnF N (fun x H Q => r [x] H Q) of) (hg : Gl X x) (hm : X.mg x = none) (hv : bootBuiltins x = some (.type T)) (ha : PE X e (tE N W ea)) (hn : x ≠ "__name__" := by decide) (hdb : (x == ("__debug__" : Str)) = false := by decide)
    (he : starEach [e] X.env = (false, eval e X.env) :: starEach [] X.env := by rfl) (hpl : (backTo pos (starEach [] X.env)).any (·.1) = false := by rfl) : PE X (.Call (.Name x p) [e] [] pos) (tF N W (f1E of ea)) := (pe_callTy hc hg hm hv (pa_cons ha pa_nil he) hn hdb he hpl).imp (f1E_ok hs ea)
end

/-! ### isinstance -/
/-- what a class's own table says; of the built-in ones -/
def tyN (M : Mm) : Ev → Option (Sum String Nat)
  | .d .non => some (.inl "NoneType")
  | .d (.bl _) => some (.inl "bool")
  | .d (.int _) => some (.inl "int")
  | .d (.str _) => some (.inl "str")
  | .d (.lst _) => some (.inl "list")
  | .d (.tup _) => some (.inl "tuple")
  | .d (.ins c _) => some (.inr c)
  | .d (.hdl k) => match M[k]? with
    | some (.lst _) => some (.inl "list")
    | some (.ins c _) => some (.inr c)
    | some (.dk _) => some (.inl "dict")
    | some (.dt _) => some (.inl "dict")
    | none => none
  | .d (.scr _) => none
  | .o _ => none
def oIsi (q : Sum String Nat → Option Bool) : Mm → Ev → Option D := fun M e => ((tyN M e).bind q).map .bl
/-- the facts of an own class that isinstance asks -/
structure Obc (K : PySem.W.Frag) (C : Addr) : Prop where
  ha : PySem.W.findIn K (.ref C) "__class__" = some (some (.builtin "object.__class__"))
  hn : PySem.W.specialIn K (.builtin "object.__class__") "__get__" = some (some (.builtin "getset_descriptor.__get__"))
  htk : PySem.W.takesIn K (.builtin "object.__class__") = some true
  hm : PySem.W.mroIn K C (.type "object") = some true
/-- the answers: q of the types of our values, as u's kitOne has them -/
def QOk (N : Nm) (u : Value) (q : Sum String Nat → Option Bool) : Prop := (∀ T b, q (.inl T) = some b → PySem.W.kitOne N.K (.type T) u = some b) ∧ ∀ c b, q (.inr c) = some b → PySem.W.kitOne N.K (.ref (N.ca c)) u = some b ∧ Obc N.K (N.ca c)
theorem us_isi {K : PySem.W.Frag} {cv : V} {u : Value} {q : Sum String Nat → Option Bool} (hK : N.K = K) (hc : ClsV cv u) (hq : QOk N u q) : UnS N (fun x H Q => rIsi K [x, cv] H Q) (oIsi q) := fun {C al M T H y e d} w hx h Q qq => by
  obtain ⟨b, h1, rfl⟩ := map_some h
  obtain ⟨t, h2, h3⟩ := bind_some h1
  subst hK
  have fin : ∀ {v : V} {tv : Value}, y = v → TyX N.K H v tv → PySem.W.kitOne N.K tv u = some b → rIsi N.K [y, cv] H Q := fun {v tv} ev ty k => ⟨y, cv, tv, u, b, rfl, hc, ev ▸ ty, k, qq _ _ Ext.rfl (w.more fun A _ => .bl b)⟩
  unfold tyN at h2
  split at h2
  · cases h2
    have r := w.live hx
    cases r
    exact fin rfl (.base .non) (hq.1 _ _ h3)
  · cases h2
    have r := w.live hx
    cases r
    exact fin rfl (.base (.bl _)) (hq.1 _ _ h3)
  · cases h2
    have r := w.live hx
    cases r
    exact fin rfl (.base (.int _)) (hq.1 _ _ h3)
  · cases h2
    have r := w.live hx
    cases r
    exact fin rfl (.base (.str _)) (hq.1 _ _ h3)
  · cases h2
    have r := w.live hx
    cases r with
    | lst _ h1 _ => exact fin rfl (.base (.lst h1)) (hq.1 _ _ h3)
  · cases h2
    have r := w.live hx
    cases r with
    | tup h1 _ =>
      rcases h1 with (h1 | ⟨o, h1⟩) | h1
      · exact fin rfl (.base (.tup h1)) (hq.1 _ _ h3)
      · exact fin rfl (.fTuple h1) (hq.1 _ _ h3)
      · obtain ⟨o, _, _, k, c, _⟩ := h1
        exact fin rfl (.kTuple k c) (hq.1 _ _ h3)
  · cases h2
    have r := w.live hx
    cases r with
    | ins _ h1 _ ok =>
      obtain ⟨k, o⟩ := hq.2 _ _ h3
      exact fin rfl (.base (.ins h1 ok.1 o.ha o.hn o.htk o.hm)) k
  · split at h2
    · rename_i e1
      cases h2
      obtain ⟨a, rfl, _, r⟩ := w.hdl hx e1
      cases r with
      | lst h1 _ => exact fin rfl (.base (.lst h1)) (hq.1 _ _ h3)
    · rename_i e1
      cases h2
      obtain ⟨a, rfl, _, r⟩ := w.hdl hx e1
      cases r with
      | ins h1 _ ok =>
        obtain ⟨k, o⟩ := hq.2 _ _ h3
        exact fin rfl (.base (.ins h1 ok.1 o.ha o.hn o.htk o.hm)) k
    · rename_i e1
      cases h2
      obtain ⟨a, rfl, _, r⟩ := w.hdl hx e1
      cases r with
      | dk h1 _ => exact fin rfl (.base (.dK h1)) (hq.1 _ _ h3)
    · rename_i e1
      cases h2
      obtain ⟨a, rfl, _, r⟩ := w.hdl hx e1
      cases r with
      | dt h1 _ => exact fin rfl (.base (.dT h1)) (hq.1 _ _ h3)
    · cases h2
  · cases h2
  · cases h2
theorem z_isi {y : Str} {py : Pos} {cv : V} {u : Value} {q : Sum String Nat → Option Bool} {pa : PV} (hK : N.K = X.K) (hc : ClsV cv u) (hq : QOk N u q) (hg : Gl X "isinstance") (hm : X.mg "isinstance" = none) (hcl : PE X (.Name y py) (tC cv)) (ha : PE X e (tP N pa))
    (he : starEach [e, .Name y py] X.env = (false, eval e X.env) :: starEach [.Name y py] X.env := by rfl) (he2 : starEach [.Name y py] X.env = (false, eval (.Name y py) X.env) :: starEach [] X.env := by rfl) (hpl : (backTo pos (starEach [.Name y py] X.env)).any (·.1) = false := by rfl) :
    PE X (.Call (.Name "isinstance" p) [e, .Name y py] [] pos) (tP N (p1 (oIsi q) pa)) := (pe_callB call_isi hg hm boot_isinstance (pa_cons ha (pa_cons hcl pa_nil he2) he) (by decide) (by decide) he hpl).imp (p1_ok (us_isi hK hc hq) pa)

/-! ### lists changed -/
theorem World.at2 {C : List (Addr × O)} {al : List Addr} {M : Mm} {T : List (V × D)} {H : Hp} {k : Nat} {a : Addr} {o : O} (h : World N C al M T H) (e1 : al[k]? = some a) (e2 : M[k]? = some o) :
    ∃ Z', (C ++ al.zip M).Perm ((a, o) :: Z') ∧ ∀ o' T' H', Core N ((a, o') :: Z') al T' H' → World N C al (M.set k o') T' H' := by
  obtain ⟨Z', p, q⟩ := zip_at e1 e2
  refine ⟨C ++ Z', (p.append_left C).trans List.perm_middle, fun o' T' H' h' => ⟨by simp [h.len], ?_⟩⟩
  exact h'.perm (List.perm_middle.symm.trans ((q o').symm.append_left C))
/-- o.m(e, ..) where o is a list by its number -/
def mutE (op : Mm → List D → List D → Option (D × List D)) (eo : EV) (ea : AV) : EV := fun Γ M => (eo Γ M).bind fun r => match vLst r.2 (.d r.1) with
  | none => .bad
  | some _ => (ea Γ r.2).bind fun s => match r.1 with
    | .hdl k => (match s.2[k]? with
      | some (.lst ds) => orBad (op s.2 s.1 ds) fun t => .ok (t.1, s.2.set k (.lst t.2))
      | _ => .bad)
    | _ => .bad
theorem mut_sat {r : V → List V → Hp → VK → Prop} {op : Mm → List D → List D → Option (D × List D)} (hs : MutS N r op) {eo : EV} {ea : AV} {σ : L2.St} {H : Hp} {Q : VK} (h : tE N W (mutE op eo ea) σ H Q) :
    tE N W eo σ H fun y H1 => (∃ l vs, y = .ref l ∧ H1 l = some (.lst vs)) ∧ tAs N W ea σ H1 fun xs H2 => r y xs H2 Q := by
  obtain ⟨Γ, Tf, Cf, al, M, f, q⟩ := h
  refine ⟨Γ, Tf, Cf, al, M, f, (R.sat_bind.mp q).mono (fun r1 q y al1 H1 pr f1 => ?_) fun _ _ q => q⟩
  cases e1 : vLst r1.2 (.d r1.1) with
  | none => rw [e1] at q; exact q.elim
  | some ds0 =>
    rw [e1] at q
    obtain ⟨l0, vs0, hy, hl0, _⟩ := v_lst f1.w (VR.d (List.mem_append_right _ (List.mem_cons_self ..))) e1
    refine ⟨⟨l0, vs0, hy, hl0⟩, Γ, _, Cf, al1, r1.2, f1, (R.sat_bind.mp q).mono (fun r2 q xs al2 H2 hlen pr2 f2 => ?_) fun c M' q al' H' ao pr' f' => q al' H' ao (pr.trans pr') (f'.sub fun p hp => List.mem_cons_of_mem _ hp)⟩
    split at q
    · rename_i k e2
      split at q
      · rename_i ds e3
        obtain ⟨t, e4, q⟩ := sat_or q
        have hm : (y, D.hdl k) ∈ fT σ Γ ++ (xs.zip r2.1 ++ (y, r1.1) :: Tf) := by rw [e2]; exact List.mem_append_right _ (List.mem_append_right _ (List.mem_cons_self ..))
        obtain ⟨a, rfl, e5, ro⟩ := f2.w.hdl hm e3
        cases ro with
        | @lst ws _ hp rs =>
          refine hs f2.w hp rs (fun p hp => List.mem_append_right _ (List.mem_append_left _ hp)) hlen e4 Q fun v xs' rv rx => ?_
          obtain ⟨Z', pm, kk⟩ := f2.w.at2 e5 e3
          have w := f2.w.core.perm pm
          have k1 : Keep (wA (fC σ Γ ++ Cf) al2 r2.2) (ads ((a, O.lst ds) :: Z')) al2 al2 H2 H2 := keep_sub fun p hp => (pm.map (·.1)).mem_iff.mpr hp
          have w2 := Core.setV (o' := .lst t.2) (u := .lst xs') w (.lst upd_same ((rx.keep k1).keep w.keepUpd)) (rv.keep k1)
          exact q v al2 _ (pr.trans pr2) (.putS f2.ok (kk _ _ _ w2) fun p hp => List.mem_append_right _ (List.mem_cons_of_mem _ hp))
      · exact q.elim
    · exact q.elim
end
end Z

set_option maxHeartbeats 4000000
namespace Z
open PySem PySem.Spec PyProof.Rows L2

section
variable {X : Cx} {N : Nm} {W : WX} {e o a b c : Expr} {es : List Expr} {x fl name : Str} {p pos apos cpos spos : Pos} {id : String} {r : V → List V → Hp → VK → Prop} {op : Mm → List D → List D → Option (D × List D)}
/-! ### lists changed by their methods -/
theorem tyL {K : PySem.W.Frag} {y : V} {H : Hp} (h : ∃ l vs, y = .ref l ∧ H l = some (.lst vs)) : tyV K "list" y H := by
  obtain ⟨l, vs, rfl, h⟩ := h
  exact .inl ⟨rfl, vs, .of h⟩
theorem z_mut {eo : EV} {ea : AV} (slot : Slot "list" name id) (hty : typeOf (.builtin id) = pure (.type "method_descriptor")) (hm : MtR X id r) (hs : MutS N r op) (ho : PE X o (tE N W eo)) (ha : PA X (e :: es) (tAs N W ea))
    (hbase : attributeBase o name X.env (eval o X.env) = eval o X.env := by rfl)
    (hfew : ((backTo cpos (starEach (e :: es) X.env)).all (fun x => !x.1) && (backToKw cpos (keywordEach [] X.env)).all (fun x => x.1.isSome)
      && decide ((e :: es).length + ([] : List Keyword).length + (if ([] : List Keyword).isEmpty then 0 else 1) < 30)) = true := by rfl)
    (hline : (apos.endLine == cpos.line) = true := by rfl) (hst : starEach (e :: es) X.env = (false, eval e X.env) :: starEach es X.env := by rfl) (hpl : (backTo cpos (starEach es X.env)).any (·.1) = false := by rfl) :
    PE X (.Call (.Attribute o name apos) (e :: es) [] cpos) (tE N W (mutE op eo ea)) := (pe_bm PySem.F.plainAttrs_list slot hty hm ho ha hbase hfew hline hst hpl).imp fun σ H Q h => by
  obtain ⟨Γ, Tf, Cf, al, M, f, q⟩ := mut_sat hs h
  exact ⟨Γ, Tf, Cf, al, M, f, R.sat.mono q (fun r q v al' H' pr f' => ⟨tyL (q v al' H' pr f').1, (q v al' H' pr f').2⟩) fun _ _ q => q⟩
theorem z_mut0 {eo : EV} (slot : Slot "list" name id) (hty : typeOf (.builtin id) = pure (.type "method_descriptor")) (hm : MtR X id r) (hs : MutS N r op) (ho : PE X o (tE N W eo))
    (hbase : attributeBase o name X.env (eval o X.env) = eval o X.env := by rfl) (hline : (apos.endLine == cpos.line) = true := by rfl) :
    PE X (.Call (.Attribute o name apos) [] [] cpos) (tE N W (mutE op eo aNil)) := (pe_bm0 PySem.F.plainAttrs_list slot hty hm ho hbase hline).imp fun σ H Q h => by
  obtain ⟨Γ, Tf, Cf, al, M, f, q⟩ := mut_sat hs h
  refine ⟨Γ, Tf, Cf, al, M, f, R.sat.mono q (fun r q v al' H' pr f' => ?_) fun _ _ q => q⟩
  obtain ⟨h1, G, Tg, Cg, bl, M2, f2, q2⟩ := q v al' H' pr f'
  exact ⟨tyL h1, q2 [] bl H' rfl Pre.rfl f2⟩
/-- x.m(e, ..) where x is the frame's own list -/
def sMut (op : Mm → List D → List D → Option (D × List D)) (i : Nat) (ea : AV) : SV := fun Γ M => match Γ[i]? with
  | some (.o (.lst ds)) => (ea Γ M).st Γ fun s => (match op s.2 s.1 ds with
    | some t => .ok (.nx (Γ.set i (.o (.lst t.2)))) s.2
    | none => .bad)
  | _ => .bad
theorem smut_sat {i : Nat} {ea : AV} (hs : MutS N r op) {E : Ends} {σ : L2.St} {H : Hp} (h : tS N W (sMut op i ea) E σ H) :
    ∃ l vs, σ[i]? = some (some (.ref l)) ∧ H l = some (.lst vs) ∧ tAs N W ea σ H fun xs H2 => r (.ref l) xs H2 fun _ H3 => E.nx σ H3 := by
  obtain ⟨Γ, Tf, Cf, al, M, f, q⟩ := h
  unfold sMut at q
  split at q
  · rename_i ds0 e1
    obtain ⟨a, C', e2, w, _, _⟩ := f.own e1
    have ro := w.cell
    cases ro with
    | @lst ws _ hp rs =>
      refine ⟨a, ws, e2, hp, Γ, Tf, Cf, al, M, f, (sat_st.mp q).mono (fun r2 q xs al2 H2 hlen pr2 f2 => ?_) fun _ _ q => exc_up q⟩
      cases e4 : op r2.2 r2.1 ds0 with
      | none => simp only [e4] at q; exact q.elim
      | some t =>
        simp only [e4] at q
        obtain ⟨a2, C2, e5, w2, kk, _⟩ := f2.own e1
        rw [e2] at e5
        cases e5
        have ro2 := w2.cell
        cases ro2 with
        | @lst ws2 _ hp2 rs2 =>
          refine hs w2 hp2 rs2 (fun p hp => List.mem_append_right _ (List.mem_append_left _ hp)) hlen e4 _ fun v xs' rv rx => ?_
          have w3 := w2.set (o' := .lst t.2) (u := .lst xs') (.lst upd_same (rx.keep w2.keepUpd))
          exact q σ al2 _ pr2 ((kk (.lst t.2) al2 r2.2 _ w3).sub fun p hp => List.mem_append_right _ hp) (.setG fun _ _ z => nomatch z)
  · exact q.elim
theorem z_mutO {i : Nat} {ea : AV} (slot : Slot "list" name id) (hty : typeOf (.builtin id) = pure (.type "method_descriptor")) (hm : MtR X id r) (hs : MutS N r op) (hN : X.N[i]? = some x) (ha : PA X (e :: es) (tAs N W ea))
    (hvis : Vis X.env.scope x := by first | exact Or.inl rfl | exact Or.inr (Or.inl rfl) | exact Or.inr (Or.inr rfl)) (hd : (x == ("__debug__" : Str)) = false := by decide) (hcd : (x == ("__classdict__" : Str)) = false := by decide)
    (hbase : attributeBase (.Name x p) name X.env (eval (.Name x p) X.env) = eval (.Name x p) X.env := by rfl)
    (hfew : ((backTo cpos (starEach (e :: es) X.env)).all (fun x => !x.1) && (backToKw cpos (keywordEach [] X.env)).all (fun x => x.1.isSome)
      && decide ((e :: es).length + ([] : List Keyword).length + (if ([] : List Keyword).isEmpty then 0 else 1) < 30)) = true := by rfl)
    (hline : (apos.endLine == cpos.line) = true := by rfl) (hst : starEach (e :: es) X.env = (false, eval e X.env) :: starEach es X.env := by rfl) (hpl : (backTo cpos (starEach es X.env)).any (·.1) = false := by rfl)
    (hsw : swapsWith (.Call (.Attribute (.Name x p) name apos) (e :: es) [] cpos) none pos.line X.env = pure false := by rfl) :
    PS X (.Expr (.Call (.Attribute (.Name x p) name apos) (e :: es) [] cpos) pos) (tS N W (sMut op i ea)) := (ps_expr (pe_bm PySem.F.plainAttrs_list slot hty hm (pe_var hN hvis hd hcd) ha hbase hfew hline hst hpl) hsw).imp fun E σ H h => by
  obtain ⟨l, vs, h1, h2, h3⟩ := smut_sat hs h
  exact ⟨.ref l, h1, tyL ⟨l, vs, rfl, h2⟩, h3⟩
theorem z_mutO0 {i : Nat} (slot : Slot "list" name id) (hty : typeOf (.builtin id) = pure (.type "method_descriptor")) (hm : MtR X id r) (hs : MutS N r op) (hN : X.N[i]? = some x)
    (hvis : Vis X.env.scope x := by first | exact Or.inl rfl | exact Or.inr (Or.inl rfl) | exact Or.inr (Or.inr rfl)) (hd : (x == ("__debug__" : Str)) = false := by decide) (hcd : (x == ("__classdict__" : Str)) = false := by decide)
    (hbase : attributeBase (.Name x p) name X.env (eval (.Name x p) X.env) = eval (.Name x p) X.env := by rfl) (hline : (apos.endLine == cpos.line) = true := by rfl)
    (hsw : swapsWith (.Call (.Attribute (.Name x p) name apos) [] [] cpos) none pos.line X.env = pure false := by rfl) :
    PS X (.Expr (.Call (.Attribute (.Name x p) name apos) [] [] cpos) pos) (tS N W (sMut op i aNil)) := (ps_expr (pe_bm0 PySem.F.plainAttrs_list slot hty hm (pe_var hN hvis hd hcd) hbase hline) hsw).imp fun E σ H h => by
  obtain ⟨l, vs, h1, h2, Γ, Tf, Cf, al, M, f, q⟩ := smut_sat hs h
  exact ⟨.ref l, h1, tyL ⟨l, vs, rfl, h2⟩, q [] al H rfl Pre.rfl f⟩

/-! ### o[i] = e, a list by its number -/
def sSetIx (eo ei ev : EV) : SV := fun Γ M => (ev Γ M).st Γ fun r => (eo Γ r.2).st Γ fun s => (ei Γ s.2).st Γ fun t => match s.1 with
  | .hdl k => (match t.2[k]? with
    | some (.lst ds) => (match t.1 with
      | .int i => (match ixN ds.length i with
        | some j => .ok (.nx Γ) (t.2.set k (.lst (ds.set j r.1)))
        | none => .bad)
      | _ => .bad)
    | _ => .bad)
  | _ => .bad
theorem z_setIx {i : Expr} {eo ei ev : EV} (he : PE X e (tE N W ev)) (ho : PE X o (tE N W eo)) (hi : PE X i (tE N W ei)) (hs : swapsWithSole [.Subscript o i spos] e pos.line X.env = pure false := by rfl) (hw : swappedStores [.Subscript o i spos] e X.env = pure none := by rfl)
    (h1 : (assignEach [.Subscript o i spos] X.env).map (·.2) = [assign (.Subscript o i spos) X.env] := by rfl)
    (h2 : ∀ v, assign (.Subscript o i spos) X.env v = (do
      let ov ← holding [v] (eval o X.env)
      let iv ← holding [v, ov] (eval i X.env)
      standAt spos
      holding [v, ov, iv] (setItem ov iv v)
      release [v, ov, iv] []) := by intro _; rfl) : PS X (.Assign [.Subscript o i spos] e pos) (tS N W (sSetIx eo ei ev)) := (ps_asg he (pg_sub ho hi set_list h2) hs hw h1).imp fun E σ H ⟨Γ, Tf, Cf, al, M, f, q⟩ => by
  refine ⟨Γ, Tf, Cf, al, M, f, (sat_st.mp q).mono (fun r1 q x al1 H1 pr f1 => ⟨Γ, _, Cf, al1, r1.2, f1, (sat_st.mp q).mono (fun r2 q y al2 H2 pr2 f2 => ⟨Γ, _, Cf, al2, r2.2, f2, (sat_st.mp q).mono (fun r3 q z al3 H3 pr3 f3 => ?_)
    fun c M' q al' H' ao pr' f' => exc_up q al' H' ao ((pr.trans pr2).trans pr') (f'.sub fun p hp => List.mem_cons_of_mem _ (List.mem_cons_of_mem _ hp))⟩) fun c M' q al' H' ao pr' f' => exc_up q al' H' ao (pr.trans pr') (f'.sub fun p hp => List.mem_cons_of_mem _ hp)⟩) fun _ _ q => exc_up q⟩
  split at q
  · rename_i k e1
    split at q
    · rename_i ds e2
      split at q
      · rename_i iv e3
        split at q
        · rename_i j e4
          have hm : (y, D.hdl k) ∈ fT σ Γ ++ (z, r3.1) :: (y, r2.1) :: (x, r1.1) :: Tf := by rw [e1]; exact List.mem_append_right _ (List.mem_cons_of_mem _ (List.mem_cons_self ..))
          have hz : (z, D.int iv) ∈ fT σ Γ ++ (z, r3.1) :: (y, r2.1) :: (x, r1.1) :: Tf := by rw [e3]; exact List.mem_append_right _ (List.mem_cons_self ..)
          obtain ⟨a, rfl, e5, ro⟩ := f3.w.hdl hm e2
          have rz := f3.w.live hz
          cases rz
          cases ro with
          | @lst ws _ hp rs =>
            have rx : Rep N _ al3 H3 x r1.1 := f3.w.live (List.mem_append_right _ (List.mem_cons_of_mem _ (List.mem_cons_of_mem _ (List.mem_cons_self ..))))
            refine ⟨a, ws, iv, j, rfl, rfl, hp, by rw [rs.len]; exact e4, ?_⟩
            obtain ⟨Z', pm, kk⟩ := f3.w.at2 e5 e2
            have w := f3.w.core.perm pm
            have k1 : Keep (wA (fC σ Γ ++ Cf) al3 r3.2) (ads ((a, O.lst ds) :: Z')) al3 al3 H3 H3 := keep_sub fun p hp => (pm.map (·.1)).mem_iff.mpr hp
            have w2 := w.set (o' := .lst (ds.set j r1.1)) (u := .lst (ws.set j x)) (.lst upd_same (((rs.set j rx).keep k1).keep w.keepUpd))
            exact q σ al3 _ ((pr.trans pr2).trans pr3) (Fm.sub ⟨f3.ok, kk _ _ _ w2⟩ fun p hp => List.mem_cons_of_mem _ (List.mem_cons_of_mem _ (List.mem_cons_of_mem _ hp))) .rfl
        · exact q.elim
      · exact q.elim
    · exact q.elim
  · exact q.elim

/-! ### the module's constants -/
theorem z_gint {i : Int} (hg : Gl X x) (hm : ∃ t, X.mg x = some (.int i t)) (hd : (x == ("__debug__" : Str)) = false := by decide) : PE X (.Name x pos) (tP N (pC (.int i))) := by
  obtain ⟨t, hm⟩ := hm
  exact (pe_glob (v := .int i) hg hm ⟨t, rfl⟩ hd).imp (tc_of fun _ _ _ => .int i)
theorem z_gstr {z : Str} {ns : List Nat} (hg : Gl X x) (hm : ∃ t, X.mg x = some (.str z t)) (hz : z.cps.toList = ns := by first | rfl | decide +kernel) (hd : (x == ("__debug__" : Str)) = false := by decide) : PE X (.Name x pos) (tP N (pC (.str ns))) := by
  obtain ⟨t, hm⟩ := hm
  exact (pe_glob (v := .str z) hg hm ⟨t, rfl⟩ hd).imp (tc_of (rep_str hz))
theorem z_gtupC {g : Addr} {vs : List V} {ds : List D} (hK : N.K = X.K) (hg : Gl X x) (hm : X.mg x = some (.ref g)) (ht : ∀ H, SqT X.K H g vs) (hr : ∀ A al H, Reps N A al H vs ds) (hd : (x == ("__debug__" : Str)) = false := by decide) : PE X (.Name x pos) (tP N (pC (.tup ds))) :=
  (pe_glob (v := .ref g) hg hm rfl hd).imp (tc_of fun A al H => .tup (hK ▸ ht H) (hr A al H))

/-! ### the place of an item -/
/-- the first text that equals -/
def strIx (z : List Nat) : List D → Option Nat
  | [] => none
  | .str y :: r => if y = z then some 0 else (strIx z r).map (· + 1)
  | _ => none
def strsOf : List D → Option (List (List Nat))
  | [] => some []
  | .str y :: r => (strsOf r).map fun ys => y :: ys
  | _ => none
def oIdx : Mm → Ev → Ev → Option D := fun M e f => (vLst M e).bind fun ds => (pys ds).bind fun ys => (pyE M f).bind fun d => if SeqAt.shaped (.list ys) && SeqAt.shaped d then (ys.findIdx? fun z => PyData.eqv z d).map fun (j : Nat) => D.int (j : Int) else none
theorem findIdx_spec {α : Type} {p : α → Bool} : ∀ {xs : List α} {j : Nat}, xs.findIdx? p = some j → (∃ z, xs[j]? = some z ∧ p z = true) ∧ ∀ (m : Nat) (z : α), m < j → xs[m]? = some z → p z = false
  | [], _, h => by simp at h
  | x :: xs, j, h => by
    rw [List.findIdx?_cons] at h
    by_cases hp : p x = true
    · rw [if_pos hp] at h
      cases h
      exact ⟨⟨x, rfl, hp⟩, fun m z hm _ => absurd hm (Nat.not_lt_zero m)⟩
    · rw [if_neg hp] at h
      obtain ⟨k, h1, rfl⟩ := map_some h
      obtain ⟨⟨z, h2, h3⟩, h4⟩ := findIdx_spec h1
      refine ⟨⟨z, by simpa using h2, h3⟩, fun m z' hm hz => ?_⟩
      cases m with
      | zero =>
        simp at hz
        subst hz
        simpa using hp
      | succ m => exact h4 m z' (by omega) (by simpa using hz)
/-- l.index(e) -/
theorem z_idx {eo ea : EV} (hK : N.K = X.K) (hu : X.A.units + 65 < cLine) (ho : PE X o (tE N W eo)) (ha : PE X e (tE N W ea)) (hbase : attributeBase o ("index" : Str) X.env (eval o X.env) = eval o X.env := by rfl)
    (hfew : ((backTo cpos (starEach [e] X.env)).all (fun x => !x.1) && (backToKw cpos (keywordEach [] X.env)).all (fun x => x.1.isSome)
      && decide ([e].length + ([] : List Keyword).length + (if ([] : List Keyword).isEmpty then 0 else 1) < 30)) = true := by rfl)
    (hline : (apos.endLine == cpos.line) = true := by rfl) (hst : starEach [e] X.env = (false, eval e X.env) :: starEach [] X.env := by rfl) (hpl : (backTo cpos (starEach [] X.env)).any (·.1) = false := by rfl) :
    PE X (.Call (.Attribute o ("index" : Str) apos) [e] [] cpos) (tE N W fun Γ M => (eo Γ M).bind fun r => orBad (vLst r.2 (.d r.1)) fun _ => (ea Γ r.2).bind fun s => orBad (oIdx s.2 (.d r.1) (.d s.1)) fun d => .ok (d, s.2)) :=
  (pe_bm PySem.F.plainAttrs_list PySem.F.slot_list_index PySem.F.type_list_index (mt_indexD hu) ho (pa_cons ha pa_nil hst) hbase hfew hline hst hpl).imp fun σ H Q ⟨Γ, Tf, Cf, al, M, f, q⟩ => by
  refine ⟨Γ, Tf, Cf, al, M, f, (R.sat_bind.mp q).mono (fun r1 q y al1 H1 pr f1 => ?_) fun _ _ q => q⟩
  obtain ⟨ds0, h1, q⟩ := sat_or q
  obtain ⟨l0, vs0, hy, hl0, _⟩ := v_lst f1.w (VR.d (List.mem_append_right _ (List.mem_cons_self ..))) h1
  refine ⟨tyL ⟨l0, vs0, hy, hl0⟩, Γ, _, Cf, al1, r1.2, f1, (R.sat_bind.mp q).mono (fun r2 q z al2 H2 pr2 f2 => ?_) fun c M' q al' H' ao pr' f' => q al' H' ao (pr.trans pr') (f'.sub fun p hp => List.mem_cons_of_mem _ hp)⟩
  obtain ⟨d, h2, q⟩ := sat_or q
  obtain ⟨ds, h3, h2⟩ := bind_some h2
  obtain ⟨ys, h4, h2⟩ := bind_some h2
  obtain ⟨dz, h5, h2⟩ := bind_some h2
  split at h2
  · rename_i hsh
    obtain ⟨s1, s2⟩ := Bool.and_eq_true_iff.mp hsh
    obtain ⟨j, h6, rfl⟩ := map_some h2
    obtain ⟨⟨w, h7, h8⟩, h9⟩ := findIdx_spec h6
    have my : (y, r1.1) ∈ fT σ Γ ++ (z, r2.1) :: (y, r1.1) :: Tf := List.mem_append_right _ (List.mem_cons_of_mem _ (List.mem_cons_self ..))
    obtain ⟨p, vs, rfl, hp, r⟩ := v_lst f2.w (VR.d my) h3
    have hl : Dp X.K H2 (.ref p) (.list ys) := .lst (.of hp) (reps_py hK r h4)
    exact ⟨p, z, dz, ys, j, w, rfl, rfl, hl, v_py hK f2.w (VR.d (List.mem_append_right _ (List.mem_cons_self ..))) h5, s1, s2, h7, h8, fun m z' hm hz => h9 m z' hm hz, q _ al2 H2 (pr.trans pr2) (.putS f2.ok (f2.w.more fun A _ => .int _) fun p hp => List.mem_cons_of_mem _ (List.mem_cons_of_mem _ hp))⟩
  · cases h2
/-- T.index(e), T a tuple of texts of the module -/
def tIdx (ys : List (List Nat)) (ea : EV) : EV := fun Γ M => (ea Γ M).bind fun s => orBad (vStr (.d s.1)) fun z => orBad (ys.findIdx? fun y => decide (y = z)) fun j => .ok (.int j, s.2)
theorem z_tidx {y : Str} {py : Pos} {g : Addr} {zs : List Str} {ys : List (List Nat)} {ea : EV} (hg : Gl X y) (hm : X.mg y = some (.ref g)) (ht : ∀ H, SqT X.K H g (zs.map V.str)) (hT : ∃ o, X.K.lookup g = some o ∧ o.cls = .type "tuple" ∧ o.dict = none) (hz : zs.map (fun z => z.cps.toList) = ys) (ha : PE X e (tE N W ea))
    (hd : (y == ("__debug__" : Str)) = false := by decide) (hbase : attributeBase (.Name y py) ("index" : Str) X.env (eval (.Name y py) X.env) = eval (.Name y py) X.env := by rfl)
    (hfew : ((backTo cpos (starEach [e] X.env)).all (fun x => !x.1) && (backToKw cpos (keywordEach [] X.env)).all (fun x => x.1.isSome)
      && decide ([e].length + ([] : List Keyword).length + (if ([] : List Keyword).isEmpty then 0 else 1) < 30)) = true := by rfl)
    (hline : (apos.endLine == cpos.line) = true := by rfl) (hst : starEach [e] X.env = (false, eval e X.env) :: starEach [] X.env := by rfl) (hpl : (backTo cpos (starEach [] X.env)).any (·.1) = false := by rfl) :
    PE X (.Call (.Attribute (.Name y py) ("index" : Str) apos) [e] [] cpos) (tE N W (tIdx ys ea)) :=
  (pe_bm PySem.F.plainAttrs_tuple PySem.F.slot_tuple_index PySem.F.type_tuple_index mt_tup_index (pe_glob (v := .ref g) hg hm rfl hd) (pa_cons ha pa_nil hst) hbase hfew hline hst hpl).imp fun σ H Q ⟨Γ, Tf, Cf, al, M, f, q⟩ => by
  refine ⟨.inr (.inl ⟨rfl, hT⟩), Γ, Tf, Cf, al, M, f, (R.sat_bind.mp q).mono (fun r2 q z al2 H2 pr2 f2 => ?_) fun _ _ q => q⟩
  obtain ⟨z1, h1, q1⟩ := sat_or q
  obtain ⟨j, h2, q2⟩ := sat_or q1
  clear q1 q
  obtain ⟨⟨w, h7, h8⟩, h9⟩ := findIdx_spec h2
  have hzv := v_str f2.w (VR.d (List.mem_append_right _ (List.mem_cons_self ..))) h1
  subst hz
  have key : ∀ (m : Nat), zs[m]? = some ⟨z1.toArray⟩ ↔ (zs.map fun z => z.cps.toList)[m]? = some z1 := fun m => by
    rw [List.getElem?_map]
    cases e : zs[m]? with
    | none => simp
    | some s =>
      obtain ⟨s⟩ := s
      simp only [Option.map_some, Option.some.injEq]
      constructor
      · intro h
        cases h
        simp
      · intro h
        rw [← h]
  have e8 : w = z1 := of_decide_eq_true h8
  subst e8
  refine ⟨g, zs, ⟨w.toArray⟩, j, rfl, by rw [hzv], ht H2, (key j).mpr h7, fun m hm hz => ?_, q2 _ al2 H2 pr2 (.putS f2.ok (f2.w.more fun A _ => .int _) fun p hp => List.mem_cons_of_mem _ hp)⟩
  have h10 := h9 m w hm ((key m).mp hz)
  simp at h10

/-! ### assert -/
def sAss (t : TV) : SV := fun Γ M => (t Γ M).st Γ fun r => if r.1 = true then .ok (.nx Γ) r.2 else .bad
theorem z_ass {t : TV} {m : Option Expr} (hc : PT X c (tTs N W t)) : PS X (.Assert c m pos) (tS N W (sAss t)) := (ps_assert hc).imp fun E σ H ⟨Γ, Tf, Cf, al, M, f, q⟩ =>
  ⟨Γ, Tf, Cf, al, M, f, (sat_st.mp q).mono (fun r q al' H' pr f' => by
    obtain ⟨h, q⟩ := sat_ifS q
    exact ⟨h, q σ al' H' pr f' .rfl⟩) fun _ _ q => exc_up q⟩
end

/-! ### texts walked -/
theorem itD_str {N : Nm} {z : List Nat} {v : V} {x : D} : ItD N (Its ⟨z.toArray⟩) v x (.str z) := by
  refine ⟨fun i w hm hs hl => ?_, fun i d w hm hs hz y H' hy => ?_, fun i w hm hs hl => ?_⟩
  · cases hs
    show i < z.toArray.size
    simpa using hl
  · cases hs
    obtain ⟨rfl, c, h1, rfl⟩ := hy
    rw [List.getElem?_map] at hz
    have h2 : z[i]? = some c := by simpa using h1
    rw [h2] at hz
    cases hz
    exact w.more fun A _ => .str [c]
  · cases hs
    show z.toArray.size ≤ i
    simpa using hl
/-- a value that is walked, a text too -/
def itU (ev : EV) : EV := fun Γ M => (ev Γ M).bind fun r => match r.1 with
  | .lst xs => .ok (.lst xs, r.2)
  | .tup xs => .ok (.tup xs, r.2)
  | .str z => .ok (.str z, r.2)
  | .hdl k => (match vLst r.2 (.d (.hdl k)) with
    | some _ => .ok (.hdl k, r.2)
    | none => .bad)
  | _ => .bad
theorem z_it {X : Cx} {N : Nm} {W : WX} {e tg : Expr} {ev : EV} (hK : N.K = X.K) (he : PE X e (tE N W ev)) : PI X tg e (tI N W (itU ev)) := ((z_itV hK he).or (pi_str he)).imp fun σ H RQ ⟨Γ, Tf, Cf, al, M, f, q⟩ => by
  cases e1 : ev Γ M with
  | bad =>
    unfold itU at q
    have q2 := R.sat_bind.mp q
    rw [e1] at q2
    exact q2.elim
  | exc c M' =>
    unfold itU at q
    have q2 := R.sat_bind.mp q
    rw [e1] at q2
    refine .inr ⟨Γ, Tf, Cf, al, M, f, ?_⟩
    rw [e1]
    exact q2
  | ok r =>
    obtain ⟨d, M1⟩ := r
    by_cases hd : ∃ z, d = .str z
    · obtain ⟨z, rfl⟩ := hd
      unfold itU at q
      have q2 := R.sat_bind.mp q
      rw [e1] at q2
      refine .inr ⟨Γ, Tf, Cf, al, M, f, ?_⟩
      rw [e1]
      intro v al' H' pr f'
      exact ⟨_, v_str f'.w (VR.d (List.mem_append_right _ (List.mem_cons_self ..))) rfl, q2 _ _ _ al' H' pr f' itD_str⟩
    · refine .inl ⟨Γ, Tf, Cf, al, M, f, ?_⟩
      have e2 : itU ev Γ M = itV ev Γ M := by
        unfold itU itV
        rw [e1]
        cases d <;> first | rfl | exact absurd ⟨_, rfl⟩ hd
      rw [← e2]
      exact q

/-! ### a def -/
def runF (n : Nat) (sv : SV) : Fn := fun ds M => match sv (ds.map .d ++ List.replicate (n - ds.length) .un) M with
  | .ok (.rt x) M' => .ok (x, M')
  | .ok (.nx _) M' => .ok (.non, M')
  | .exc c _ M' => .exc c M'
  | _ => .bad
def runG (n : Nat) (c : Nat) (sv : SV) : Gn := fun fs ds M => match sv (.o (.ins c fs) :: (ds.map .d ++ List.replicate (n - (ds.length + 1)) .un)) M with
  | .ok (.nx Γ) M' => (match (Γ[0]? : Option Sl) with
    | some (.o (.ins c' fs')) => if c' = c then .ok (fs', M') else .bad
    | _ => .bad)
  | .exc c _ M' => .exc c M'
  | _ => .bad
theorem fOk_un : ∀ n, fOk (List.replicate n none) (List.replicate n .un) ∧ fC (List.replicate n none) (List.replicate n .un) = [] ∧ fT (List.replicate n none) (List.replicate n .un) = []
  | 0 => ⟨trivial, rfl, rfl⟩
  | n + 1 => fOk_un n
theorem fOk_start : ∀ {vs : List V} {ds : List D} (n : Nat), vs.length = ds.length → fOk (vs.map some ++ List.replicate n none) (ds.map .d ++ List.replicate n .un) ∧ fC (vs.map some ++ List.replicate n none) (ds.map .d ++ List.replicate n .un) = [] ∧ fT (vs.map some ++ List.replicate n none) (ds.map .d ++ List.replicate n .un) = vs.zip ds
  | [], [], n, _ => fOk_un n
  | v :: vs, d :: ds, n, h => by
    obtain ⟨a, b, c⟩ := fOk_start (vs := vs) (ds := ds) n (Nat.succ.inj h)
    refine ⟨a, ?_, ?_⟩
    · show fC (some v :: (vs.map some ++ List.replicate n none)) (.d d :: (ds.map .d ++ List.replicate n .un)) = []
      cases v <;> exact b
    · show fT (some v :: (vs.map some ++ List.replicate n none)) (.d d :: (ds.map .d ++ List.replicate n .un)) = (v, d) :: vs.zip ds
      rw [← c]
      cases v <;> rfl
section
variable {P : Program} {w : PySem.World} {K : PySem.W.Frag} {mg : Str → Option Value} {base : Heap} {y qual : Str} {params : Arguments} {body : List Stmt} {scope : Scope} {dvs : List V} {kws : List (Str × V)} {f : Addr} {fd : FuncData} {Ns ps : List Str} {N : Nm} {k : Nat} {sv : SV}
/-- what stands in a def's body -/
abbrev BodyOk (P : Program) (w : PySem.World) (K : PySem.W.Frag) (mg : Str → Option Value) (base : Heap) (qual : Str) (scope : Scope) (body : List Stmt) (f : Addr) (Ns : List Str) (N : Nm) (k : Nat) (sv : SV) : Prop :=
  ∀ (cdv : Value) (A : Around) (outer : List Env) (s : Shared) (H : Hp) (E : XK), Room k (A.deeper (envOfC qual scope s.heap.objs.size f cdv)) →
    Takes (cxOf (L2.CX P w) P w K mg base Ns qual scope f cdv A outer s H E) (fun c d _ H => E c d H) → PassesOwn (model P w) (cxOf (L2.CX P w) P w K mg base Ns qual scope f cdv A outer s H E).A (cxOf (L2.CX P w) P w K mg base Ns qual scope f cdv A outer s H E).env (cxOf (L2.CX P w) P w K mg base Ns qual scope f cdv A outer s H E).xe →
    PSs (cxOf (L2.CX P w) P w K mg base Ns qual scope f cdv A outer s H E) body (tS N (fun c d _ H => E c d H) sv)
theorem z_fun (F : FunD K y qual params body scope dvs kws f fd) (S : FnScope Ns ps scope) (hb : BodyOk P w K mg base qual scope body f Ns N k sv) : FnOk P w K mg base (L2.CX P w) (k + 1) f fd ps (spF N (runF Ns.length sv) ps.length) := by
  refine F.ok S (fun vs H Q E h => by obtain ⟨_, _, _, _, _, h, _⟩ := h; exact h) fun cdv A outer s H vs Q E hr h => ⟨_, hb cdv A outer s H E hr (takes_of rfl rfl rfl rfl) (passes_of rfl), ?_⟩
  obtain ⟨ds, C, al, M, T, h1, h2, w, q⟩ := h
  obtain ⟨a, b, c⟩ := fOk_start (vs := vs) (ds := ds) (Ns.length - vs.length) (h1.trans h2.symm)
  have e : (start Ns vs : L2.St) = vs.map some ++ List.replicate (Ns.length - vs.length) none := rfl
  refine ⟨ds.map .d ++ List.replicate (Ns.length - vs.length) .un, T, C, al, M, ⟨by rw [e]; exact a, by rw [e, b, c]; exact w⟩, ?_⟩
  unfold runF at q
  rw [h2, ← h1] at q
  cases e2 : sv (ds.map .d ++ List.replicate (Ns.length - vs.length) .un) M with
  | bad => rw [e2] at q; exact q.elim
  | exc cc Γ M' =>
    rw [e2] at q
    exact fun σ al' H' ao pr fm => q al' H' ao pr ((World.dropE (E := fC σ Γ) fm.w).sub fun p hp => List.mem_append_right _ hp)
  | ok fl M' =>
    rw [e2] at q
    cases fl with
    | rt x => exact fun v al' H' pr w' => q v al' H' pr w'
    | nx Γ => exact fun σ al' H' pr fm _ => q .non al' H' pr (((World.dropE (E := fC σ Γ) fm.w).sub fun p hp => List.mem_append_right _ hp).more fun A _ => .non)
    | bk Γ => exact q.elim
    | ct Γ => exact q.elim
theorem z_init {c l : Nat} (F : FunD K y qual params body scope dvs kws f fd) (S : FnScope Ns ps scope) (hl : ps.length = l + 1) (hb : BodyOk P w K mg base qual scope body f Ns N k sv) : FnOk P w K mg base (L2.CX P w) (k + 1) f fd ps (spG N c (runG Ns.length c sv) l) := by
  refine F.ok S (fun vs H Q E h => by
    obtain ⟨_, _, _, _, _, _, _, _, rfl, h, _⟩ := h
    rw [List.length_cons, h, hl]) fun cdv A outer s H vs Q E hr h => ⟨_, hb cdv A outer s H E hr (takes_of rfl rfl rfl rfl) (passes_of rfl), ?_⟩
  obtain ⟨p, us, ds, fs, C, al, M, T, rfl, h1, h2, w, q⟩ := h
  obtain ⟨a, b, cT⟩ := fOk_start (vs := us) (ds := ds) (Ns.length - (us.length + 1)) (h1.trans h2.symm)
  have e : (start Ns (.ref p :: us) : L2.St) = some (.ref p) :: (us.map some ++ List.replicate (Ns.length - (us.length + 1)) none) := rfl
  have eC : fC (start Ns (.ref p :: us)) (.o (.ins c fs) :: (ds.map .d ++ List.replicate (Ns.length - (us.length + 1)) .un)) = [(p, .ins c fs)] := by
    rw [e]
    show (p, O.ins c fs) :: fC _ _ = _
    rw [b]
  have eT : fT (start Ns (.ref p :: us)) (.o (.ins c fs) :: (ds.map .d ++ List.replicate (Ns.length - (us.length + 1)) .un)) = us.zip ds := by
    rw [e]
    exact cT
  refine ⟨.o (.ins c fs) :: (ds.map .d ++ List.replicate (Ns.length - (us.length + 1)) .un), T, C, al, M, ⟨by rw [e]; exact a, by rw [eC, eT]; exact w⟩, ?_⟩
  unfold runG at q
  rw [h2, ← h1] at q
  cases e2 : sv (.o (.ins c fs) :: (ds.map .d ++ List.replicate (Ns.length - (us.length + 1)) .un)) M with
  | bad => rw [e2] at q; exact q.elim
  | exc cc Γ M' =>
    rw [e2] at q
    exact fun σ al' H' ao pr fm => q al' H' ao pr ((World.dropE (E := fC σ Γ) fm.w).sub fun p hp => List.mem_append_right _ hp)
  | ok fl M' =>
    rw [e2] at q
    cases fl with
    | rt x => exact q.elim
    | bk Γ => exact q.elim
    | ct Γ => exact q.elim
    | nx Γ =>
      intro σ al' H' pr fm kp
      simp only at q
      split at q
      · rename_i c' fs' e3
        obtain ⟨hc, q⟩ := sat_if q
        subst hc
        obtain ⟨_, e4⟩ := kp 0 c' fs' e3
        have e5 : σ[0]? = some (some (.ref p)) := e4
        obtain ⟨p2, C', e6, pm, _⟩ := fm.ok.o e3
        rw [e5] at e6
        cases e6
        have w2 := fm.w.perm ((pm.append_right C).trans (.refl _))
        have w3 : Z.World N ((p, .ins c' fs') :: C) al' M' (fT σ Γ ++ T) H' := World.dropE (E := C') (w2.perm (by
          rw [List.cons_append]
          exact List.perm_middle.symm))
        exact q .non al' H' pr ((w3.sub fun p hp => List.mem_append_right _ hp).more fun A _ => .non)
      · exact q.elim
end
end Z

set_option maxHeartbeats 4000000
namespace Z
open PySem PySem.Spec PyProof.Rows L2

/-! ### B.__init__(self, e, ..) -/
def sSup (c : Nat) (G : Gn) (i : Nat) (ea : AV) : SV := fun Γ M => match Γ[i]? with
  | some (.o (.ins c' fs)) => if c' = c then (ea Γ M).st Γ fun s => (G fs s.1 s.2).calm.st Γ fun t => .ok (.nx (Γ.set i (.o (.ins c t.1)))) t.2 else .bad
  | _ => .bad
section
variable {X : Cx} {N : Nm} {W : WX} {k l : Nat} {f C : Addr} {fd : FuncData} {ps : List Str} {x y : Str} {p py pos apos spos : Pos} {es : List Expr} {e : Expr} {mc : Value} {pl : Sem Bool}
theorem z_sup {c i : Nat} {G : Gn} {ea : AV} (hK : N.K = X.K) (tk : Takes X W) (r : ClX.CRead X.K C mc) (kv : ClX.CVal X.K C mc ("__init__" : Str) (.ref f) (.ref f)) (hkp : PySem.W.keepIn X.K (.ref f) = true) (hg : Gl X y) (hm : X.mg y = some (.ref C))
    (hps : ps.length = l + 1) (F : FnOk X.prog X.w X.K X.mg X.base (L2.CX X.prog X.w) k f fd ps (spG N c G l)) (hr : Room k X.A) (hb : BnS N fd ps l [] gId) (hN : X.N[i]? = some x) (ha : PA X es (tAs N W ea)) (hal : Alen ea l)
    (hvis : Vis X.env.scope x := by first | exact Or.inl rfl | exact Or.inr (Or.inl rfl) | exact Or.inr (Or.inr rfl)) (hd : (x == ("__debug__" : Str)) = false := by decide) (hcd : (x == ("__classdict__" : Str)) = false := by decide) (hdy : (y == ("__debug__" : Str)) = false := by decide)
    (hst : starEach (.Name x p :: es) X.env = (false, eval (.Name x p) X.env) :: starEach es X.env := by rfl) (hpl : (backTo pos (starEach es X.env)).any (·.1) = false := by rfl)
    (ht : eval (.Call (.Attribute (.Name y py) ("__init__" : Str) apos) (.Name x p :: es) [] pos) X.env = (do
      let ov ← eval (.Name y py) X.env
      standAt apos.atName
      let (f, first) ← holding [ov] (getMethod ov ("__init__" : Str) pl)
      callWith pos f first (backTo pos (starEach (.Name x p :: es) X.env)) (backToKw pos (keywordEach [] X.env))) := by rfl)
    (hsw : swapsWith (.Call (.Attribute (.Name y py) ("__init__" : Str) apos) (.Name x p :: es) [] pos) none spos.line X.env = pure false := by rfl) :
    PS X (.Expr (.Call (.Attribute (.Name y py) ("__init__" : Str) apos) (.Name x p :: es) [] pos) spos) (tS N W (sSup c G i ea)) := by
  have key : PE X (.Call (.Attribute (.Name y py) ("__init__" : Str) apos) (.Name x p :: es) [] pos) (fun σ H Q => tCons (tVar i) (tAs N W ea) σ H fun vs H1 => ∃ a us ds fs C0 al M T, vs = .ref a :: us ∧ us.length = l ∧ us.length = ds.length ∧ Z.World N ((a, .ins c fs) :: C0) al M (us.zip ds ++ T) H1 ∧
      (G fs ds M).sat (fun r => ∀ v al' H', Pre al al' → Z.World N ((a, .ins c r.1) :: C0) al' r.2 ((v, .non) :: T) H' → Q v H') (EX N C0 al T (WE W σ))) := by
    refine ⟨fun pins s σ H Q I h => ?_⟩
    refine PySem.W.methodCall_KW (pl := pl) (thn ((pe_glob (v := .ref C) hg hm rfl hdy).run pins s σ H (fun v H1 => v = .ref C ∧ H1 = H) I ⟨rfl, rfl⟩) fun u s1 ⟨v, H1, I1, rx, ev, eH⟩ => ?_) ht
    subst ev eH
    obtain rfl : u = Value.ref C := rx
    refine PySem.W.method_cls I1.kIn r.ga (ClX.getcval_ok I1 r kv fun s2 I2 => ?_)
    refine PySem.W.callWith_K (h₀ := X.base) (first := []) I2.ok.mod.kin hkp (thn ((pa_cons (pe_var hN hvis hd hcd) ha hst).run pos pins s2 σ H1 _ I2 h) fun us s3 ⟨vs, H3, I3, rv, a, vs1, ds, fs, C0, al, M, T, e1, e2, e3, w, q⟩ => ⟨I3.kIn, ?_⟩) hst hpl
    subst e1
    cases rv with
    | @cons _ u1 _ us1 r1 rv =>
      cases (show u1 = Value.ref a from r1)
      obtain ⟨gs, gv, hl, b, rg, rr⟩ := hb.to s3 a us1 [] vs1 [] (hK ▸ I3.kIn) rv .nil e2 rfl
      have rp : Reps N (wA ((a, .ins c fs) :: C0) al M) al H3 vs1 ds := Reps.zip e3 fun z hz => w.core.live z (List.mem_append_left _ hz)
      have rG : Reps N (wA ((a, .ins c fs) :: C0) al M) al H3 gv ds := rr _ _ _ _ _ rp .nil
      have w2 : Z.World N ((a, .ins c fs) :: C0) al M (gv.zip ds ++ T) H3 := ⟨w.len, ⟨w.core.nd, w.core.cell, fun x hx => (List.mem_append.mp hx).elim (fun z => rG.mem x z) (fun z => w.core.live x (List.mem_append_right _ z))⟩⟩
      have hgl : gv.length = l := by omega
      exact wpAny_call (codeAny_mono (F.run X.A X.stack s3 H3 ⟨.ref a :: us1, []⟩ (.ref a :: gs) (.ref a :: gv) Q (WE W σ) hr I3.env0 b (.cons rfl rg) ⟨a, gv, ds, fs, C0, al, M, T, rfl, hgl, by rw [← rG.len, hgl], w2, q⟩) fun rr s' hq => by
        cases rr with
        | error e => exact passAt tk σ pins H3 s3 e s' I3 hq
        | ok fl =>
          cases fl with
          | ret u => exact I3.after hq
          | next => exact hq.elim
          | brk => exact hq.elim
          | cont => exact hq.elim)
  refine (ps_expr key hsw).imp fun E σ H ⟨Γ, Tf, Cf, al, M, fm, q⟩ => ?_
  unfold sSup at q
  split at q
  · rename_i c' fs e1
    obtain ⟨hc, q⟩ := sat_ifS q
    subst hc
    obtain ⟨a, C', e2, w, _, _⟩ := fm.own e1
    refine ⟨.ref a, e2, Γ, Tf, Cf, al, M, fm, ?_⟩
    have q := sat_st.mp q
    cases e3 : ea Γ M with
    | bad => rw [e3] at q; exact q.elim
    | exc cc M' => rw [e3] at q; exact exc_up q
    | ok s =>
      rw [e3] at q
      intro vs al1 H1 hl pr f1
      obtain ⟨a2, C2, e4, w2, kk, _⟩ := f1.own e1
      rw [e2] at e4
      cases e4
      obtain ⟨t, e5, q⟩ := sat_calm (sat_st.mp q : ((G fs s.1 s.2).calm).sat _ _)
      refine ⟨a, vs, s.1, fs, C2, al1, s.2, fT σ Γ ++ (vs.zip s.1 ++ Tf), rfl, hl.trans (hal _ _ _ e3), hl, w2.sub fun p hp => ?_, ?_⟩
      · rcases List.mem_append.mp hp with z | z
        · exact List.mem_append_right _ (List.mem_append_left _ z)
        · exact z
      · rw [e5]
        intro v al2 H2 pr2 w3
        exact q σ al2 H2 (pr.trans pr2) (Fm.tail (kk _ al2 t.2 H2 (w3.sub fun p hp => List.mem_cons_of_mem _ hp))) (.setI ⟨c', fs, e1⟩)
  · exact q.elim
end
end Z

set_option maxHeartbeats 4000000
namespace Z
open PySem PySem.Spec PyProof.Rows L2

theorem tk0 {X : Cx} : Takes X W0 := L2.takes0
theorem hu4 {k : Nat} {A : Around} (r : Room k A) : A.units + 64 < cLine := r.units
theorem hu5 {k : Nat} {A : Around} (r : Room k A) : A.units + 65 < cLine := by have := r.un; omega
/-! ### order of ints or of texts -/
abbrev oLtU := oOr oLt (oStr fun x y => decide (x < y))
abbrev oLeU := oOr oLe (oStr fun x y => !decide (y < x))
abbrev oGtU := oOr oGt (oStr fun x y => decide (y < x))
section
variable {X : Cx} {N : Nm} {W : WX} {elt tg iter : Expr} {ifs : List Expr} {scope : Scope} {own : List (Str × Nat)} {pos py spos : Pos} {is : List Nat} {a b e : Expr}
theorem op_ltU : OpR X (compareOp .Lt) (fun x y H Q => rI0 (fun i j => .bl (decide (i < j))) x y H Q ∨ ∃ i j, x = .str i ∧ y = .str j ∧ Q (.bl (decide (i.cps.toList < j.cps.toList))) H) := op_lt.or op_lt_str
theorem op_leU : OpR X (compareOp .LtE) (fun x y H Q => rI0 (fun i j => .bl (decide (i ≤ j))) x y H Q ∨ ∃ i j, x = .str i ∧ y = .str j ∧ Q (.bl (!decide (j.cps.toList < i.cps.toList))) H) := op_le.or op_le_str
theorem op_gtU : OpR X (compareOp .Gt) (fun x y H Q => rI0 (fun i j => .bl (decide (j < i))) x y H Q ∨ ∃ i j, x = .str i ∧ y = .str j ∧ Q (.bl (decide (j.cps.toList < i.cps.toList))) H) := op_gt.or op_gt_str
theorem os_ltU : OpS N (fun x y H Q => rI0 (fun i j => .bl (decide (i < j))) x y H Q ∨ ∃ i j, x = .str i ∧ y = .str j ∧ Q (.bl (decide (i.cps.toList < j.cps.toList))) H) oLtU := os_or os_lt os_ltS
theorem os_leU : OpS N (fun x y H Q => rI0 (fun i j => .bl (decide (i ≤ j))) x y H Q ∨ ∃ i j, x = .str i ∧ y = .str j ∧ Q (.bl (!decide (j.cps.toList < i.cps.toList))) H) oLeU := os_or os_le os_leS
theorem os_gtU : OpS N (fun x y H Q => rI0 (fun i j => .bl (decide (j < i))) x y H Q ∨ ∃ i j, x = .str i ∧ y = .str j ∧ Q (.bl (decide (j.cps.toList < i.cps.toList))) H) oGtU := os_or os_gt os_gtS
theorem z_un {pa : PV} (ha : PE X a (tP N pa)) : PE X (.UnaryOp .USub a pos) (tP N (p1 oNeg pa)) := z_neg us_neg ha
theorem z_unE {ea : EV} (ha : PE X a (tE N W ea)) : PE X (.UnaryOp .USub a pos) (tE N W (e1 oNeg ea)) := (pe_un un_neg ha).imp (e1_ok us_neg ea)
/-- a new list that gets a number -/
def asH (ea : AV) : EV := fun Γ M => (ea Γ M).bind fun r => .ok (.hdl r.2.length, r.2 ++ [.lst r.1])
theorem z_asH {ea : AV} (h : PE X e (tF N W ea)) : PE X e (tE N W (asH ea)) := h.imp fun σ H Q ⟨Γ, Tf, Cf, al, M, f, q⟩ =>
  ⟨Γ, Tf, Cf, al, M, f, (R.sat_bind.mp q).mono (fun r q p al' H' pr ok w => q (.ref p) (al' ++ [p]) H' (pr.trans fun k a h => by
    have hk := (List.getElem?_eq_some_iff.mp h).1
    rw [List.getElem?_append_left hk]
    exact h) (.put ok w.toH)) fun _ _ q => q⟩
theorem z_setLc {i : Nat} {y : Str} {ev : EV} {g : GV} {t : TV} {e : EV} (hc : X.calm = true) (hN : X.N.Nodup) (hy : X.N[i]? = some y) (hyl : X.env.scope.names.lookup y = some .local) (hk : X.env.scope.kind = .function) (hl : (py.line == pos.line) = true) (hl2 : pos.line = spos.line)
    (ha : (scope.names.any fun (n, k) => n == y && (k == .local || k == .cell)) = false) (hi : PI X tg iter (tI N W ev)) (hb : blkC X.N X.env.scope scope own = true) (his : ∀ i ∈ is, i ∈ own.map (·.2))
    (hg : ∀ (s : Shared) (H : Hp) (C : Addr) (cl : List (Str × Addr)) (fp : List Addr), PG (X.blk s H scope (compEnvC scope cl C X.env) fp) tg (tG N is g)) (ht : ∀ (s : Shared) (H : Hp) (C : Addr) (cl : List (Str × Addr)) (fp : List Addr), PTs (X.blk s H scope (compEnvC scope cl C X.env) fp) ifs (tTs N W0 t))
    (he : ∀ (s : Shared) (H : Hp) (C : Addr) (cl : List (Str × Addr)) (fp : List Addr), PE (X.blk s H scope (compEnvC scope cl C X.env) fp) elt (tE N W0 e)) (hs : ∀ x, foldedSetIterable iter X.env x = pure x := by intro _; rfl) :
    PS X (.Assign [.Name y py] (.ListComp elt [⟨tg, iter, ifs, 0⟩] scope pos) spos) (tS N W (sAsg i (asD (fLc ev (own.map (·.2)) g t e)))) := (lc_sw hc hN hy hyl hk hl hl2 ha hi hb his hg ht he hs).imp fun E σ H q => asg_data q
theorem z_setLcF {i : Nat} {y : Str} {ev : EV} {g : GV} {t : TV} {e : EV} (hc : X.calm = true) (hN : X.N.Nodup) (hy : X.N[i]? = some y) (hyl : X.env.scope.names.lookup y = some .local) (hk : X.env.scope.kind = .function) (hl : (py.line == pos.line) = true) (hl2 : pos.line = spos.line)
    (ha : (scope.names.any fun (n, k) => n == y && (k == .local || k == .cell)) = false) (hi : PI X tg iter (tI N W ev)) (hb : blkC X.N X.env.scope scope own = true) (his : ∀ i ∈ is, i ∈ own.map (·.2))
    (hg : ∀ (s : Shared) (H : Hp) (C : Addr) (cl : List (Str × Addr)) (fp : List Addr), PG (X.blk s H scope (compEnvC scope cl C X.env) fp) tg (tG N is g)) (ht : ∀ (s : Shared) (H : Hp) (C : Addr) (cl : List (Str × Addr)) (fp : List Addr), PTs (X.blk s H scope (compEnvC scope cl C X.env) fp) ifs (tTs N W0 t))
    (he : ∀ (s : Shared) (H : Hp) (C : Addr) (cl : List (Str × Addr)) (fp : List Addr), PE (X.blk s H scope (compEnvC scope cl C X.env) fp) elt (tE N W0 e)) (hs : ∀ x, foldedSetIterable iter X.env x = pure x := by intro _; rfl) :
    PS X (.Assign [.Name y py] (.ListComp elt [⟨tg, iter, ifs, 0⟩] scope pos) spos) (tS N W (sAsgF i (fLc ev (own.map (·.2)) g t e))) := (lc_sw hc hN hy hyl hk hl hl2 ha hi hb his hg ht he hs).imp fun E σ H q => asg_own q
/-- l.index(e) -/
def idxE (eo ea : EV) : EV := fun Γ M => (eo Γ M).bind fun r => orBad (vLst r.2 (.d r.1)) fun _ => (ea Γ r.2).bind fun s => orBad (oIdx s.2 (.d r.1) (.d s.1)) fun d => .ok (d, s.2)
end

/-! ### names by numbers -/
def padS (i : Nat) : Str := ⟨(List.replicate (i + 100) 0).toArray⟩
def fnOf (L : List Str) (i : Nat) : Str := match L[i]? with
  | some s => s
  | none => padS i
theorem padS_len (i : Nat) : (padS i).length = i + 100 := by
  show (List.replicate (i + 100) 0).toArray.size = _
  simp
theorem fnOf_inj {L : List Str} (hn : L.Nodup) (hl : (L.all fun s => decide (s.length < 100)) = true) (m n : Nat) (h : fnOf L m = fnOf L n) : m = n := by
  have sm : ∀ {i : Nat} {s : Str}, L[i]? = some s → s.length < 100 := fun {i s} e => of_decide_eq_true (List.all_eq_true.mp hl s (List.mem_of_getElem? e))
  unfold fnOf at h
  cases e1 : L[m]? with
  | none =>
    cases e2 : L[n]? with
    | none =>
      rw [e1, e2] at h
      have := congrArg Str.length (show padS m = padS n from h)
      rw [padS_len, padS_len] at this
      omega
    | some s =>
      rw [e1, e2] at h
      have h1 : padS m = s := h
      have := sm e2
      rw [← h1, padS_len] at this
      omega
  | some s =>
    cases e2 : L[n]? with
    | none =>
      rw [e1, e2] at h
      have h1 : s = padS n := h
      have := sm e1
      rw [h1, padS_len] at this
      omega
    | some s2 =>
      rw [e1, e2] at h
      have h1 : s = s2 := h
      subst h1
      obtain ⟨l1, g1⟩ := List.getElem?_eq_some_iff.mp e1
      obtain ⟨l2, g2⟩ := List.getElem?_eq_some_iff.mp e2
      refine Decidable.byContradiction fun ne => ?_
      have pw := List.pairwise_iff_getElem.mp hn
      rcases Nat.lt_or_gt_of_ne ne with z | z
      · exact pw m n l1 l2 z (g1.trans g2.symm)
      · exact pw n m l2 l1 z (g2.trans g1.symm)

/-! ### the head's facts -/
def frZ (g : Addr → Option Obj) (n : Nat) : PySem.W.Frag := He.frG g (cStatics :: He.asD g n)
abbrev AlZ : Type := Bool × He.AlD
def obsZ (ck : List (PySem.W.Frag → Bool)) (fa : List He.Fa) (fn : List He.DefD) (K : PySem.W.Frag) : AlZ := (ck.all fun f => f K, He.obsD fa fn K)
def valZ (fn : List He.DefD) : AlZ := (true, He.valD fn)
structure SaysZ (ck : List (PySem.W.Frag → Bool)) (fa : List He.Fa) (fn : List He.DefD) (K : PySem.W.Frag) : Prop where
  ck : (ck.all fun f => f K) = true
  d : He.SaysD fa fn K
def obsZG (n : Nat) (ck : List (PySem.W.Frag → Bool)) (fa : List He.Fa) (fn : List He.DefD) (g : Addr → Option Obj) : AlZ := obsZ ck fa fn (frZ g n)
def hookZ (n : Nat) (ck : List (PySem.W.Frag → Bool)) (fa : List He.Fa) (fn : List He.DefD) : PySem.W.Hook where
  α := AlZ
  obs := fun s => obsZG n ck fa fn s.heap.get?
  val := fun _ => valZ fn
  says := fun _ h => ∃ K : PySem.W.Frag, K.In h ∧ SaysZ ck fa fn K
  of := fun _ _ e => ⟨_, He.frG_in, congrArg (fun z : AlZ => z.1) e, congrArg (fun z : AlZ => z.2) e⟩
  keeps := fun _ _ _ ⟨K, hK, c⟩ k => ⟨K, PySem.W.Frag.In.keeps hK k, c⟩
theorem obsZG_eq {n : Nat} {ck : List (PySem.W.Frag → Bool)} {fa : List He.Fa} {fn : List He.DefD} {g : Addr → Option Obj} {s : Shared} (h : ∀ a, g a = s.heap.get? a) : obsZG n ck fa fn g = (hookZ n ck fa fn).obs s := by
  have e : g = s.heap.get? := funext h
  rw [e] <;> rfl
theorem SaysZ.at {ck : List (PySem.W.Frag → Bool)} {fa : List He.Fa} {fn : List He.DefD} {K : PySem.W.Frag} (c : SaysZ ck fa fn K) (i : Nat) {f : PySem.W.Frag → Bool} (h : ck[i]? = some f := by rfl) : f K = true := List.all_eq_true.mp c.ck f (List.mem_of_getElem? h)
/-! what may be asked -/
def obcB (x : Str) (K : PySem.W.Frag) : Bool := decide (PySem.W.findIn K (.ref (He.ga K x)) "__class__" = some (some (.builtin "object.__class__"))) && (decide (PySem.W.specialIn K (.builtin "object.__class__") "__get__" = some (some (.builtin "getset_descriptor.__get__"))) &&
  (decide (PySem.W.takesIn K (.builtin "object.__class__") = some true) && decide (PySem.W.mroIn K (He.ga K x) (.type "object") = some true)))
theorem obcB_ok {x : Str} {K : PySem.W.Frag} (h : obcB x K = true) : Obc K (He.ga K x) := by
  obtain ⟨h1, h⟩ := He.ba h
  obtain ⟨h2, h⟩ := He.ba h
  obtain ⟨h3, h4⟩ := He.ba h
  exact ⟨of_decide_eq_true h1, of_decide_eq_true h2, of_decide_eq_true h3, of_decide_eq_true h4⟩
def isiB (x y : Str) (b : Bool) (K : PySem.W.Frag) : Bool := decide (PySem.W.kitOne K (.ref (He.ga K x)) (.ref (He.ga K y)) = some b)
def isiTB (x : Str) (T : String) (b : Bool) (K : PySem.W.Frag) : Bool := decide (PySem.W.kitOne K (.ref (He.ga K x)) (.type T) = some b)
def isiBT (T : String) (y : Str) (b : Bool) (K : PySem.W.Frag) : Bool := decide (PySem.W.kitOne K (.type T) (.ref (He.ga K y)) = some b)
def tupZ (x : Str) (vs : List He.Dv) (K : PySem.W.Frag) : Bool := He.tupB K x vs
/-- a tuple that stands there, without a dict -/
def tupH (x : Str) (K : PySem.W.Frag) : Bool := match K.lookup (He.ga K x) with
  | some o => decide (o.cls = .type "tuple") && decide (o.dict = none)
  | none => false
theorem tupH_ok {x : Str} {K : PySem.W.Frag} (h : tupH x K = true) : ∃ o, K.lookup (He.ga K x) = some o ∧ o.cls = .type "tuple" ∧ o.dict = none := by
  unfold tupH at h
  cases e : K.lookup (He.ga K x) with
  | none => rw [e] at h; cases h
  | some o =>
    rw [e] at h
    obtain ⟨h1, h2⟩ := He.ba h
    exact ⟨o, rfl, of_decide_eq_true h1, of_decide_eq_true h2⟩
def supB (x : Str) (K : PySem.W.Frag) : Bool := PySem.W.readsIn K (He.ga K x) (.type "type") && (decide (PySem.W.specialIn K (.ref (He.ga K x)) "__getattribute__" = some (some (.builtin "type.__getattribute__"))) &&
  match PySem.W.findCls K (.ref (He.ga K x)) (.type "type") "__init__" with
  | some (.val u) => decide (u = .ref (He.ma K (He.ga K x) "__init__"))
  | _ => false)
theorem supB_ok {x : Str} {K : PySem.W.Frag} (h : supB x K = true) : ClX.CRead K (He.ga K x) (.type "type") ∧ ClX.CVal K (He.ga K x) (.type "type") "__init__" (.ref (He.ma K (He.ga K x) "__init__")) (.ref (He.ma K (He.ga K x) "__init__")) := by
  obtain ⟨h1, h⟩ := He.ba h
  obtain ⟨h2, h3⟩ := He.ba h
  refine ⟨⟨h1, of_decide_eq_true h2⟩, ⟨?_, rfl⟩⟩
  split at h3
  · rename_i u e
    rw [e, of_decide_eq_true h3]
  · cases h3
end Z

set_option maxHeartbeats 4000000
namespace Z
open PySem PySem.Spec PyProof.Rows L2

/-- the names of a claim: its classes, its fields -/
def clOf (cl : List Str) (i : Nat) : Str := cl.getD i Str.empty
def nmZ (cl fl : List Str) (hn : fl.Nodup) (hl : (fl.all fun s => decide (s.length < 100)) = true) (K : PySem.W.Frag) : Nm := ⟨K, fun i => He.ga K (clOf cl i), fnOf fl, fnOf_inj hn hl⟩
/-- which class bears which names -/
def faT (tbl : List (Nat × Nat)) (c k : Nat) : Bool := tbl.contains (c, k)
def noatB (cl fl : List Str) (tbl : List (Nat × Nat)) (K : PySem.W.Frag) : Bool := tbl.all fun p => (He.Fa.noat (clOf cl p.1) (fnOf fl p.2)).ok K
theorem faOk_of {cl fl : List Str} {hn : fl.Nodup} {hl : (fl.all fun s => decide (s.length < 100)) = true} {tbl : List (Nat × Nat)} {K : PySem.W.Frag} (h : noatB cl fl tbl K = true) : FaOk (nmZ cl fl hn hl K) (faT tbl) := fun c k e => by
  have hm : (c, k) ∈ tbl := by
    unfold faT at e
    exact List.contains_iff_mem.mp e
  exact He.noat_ok (List.all_eq_true.mp h _ hm)
/-- isinstance's answers: of the built-in types, of the classes -/
def qT (a : List (String × Bool)) (b : List (Nat × Bool)) : Sum String Nat → Option Bool
  | .inl T => a.lookup T
  | .inr c => b.lookup c
def isiAll (cl : List Str) (y : Str) (a : List (String × Bool)) (b : List (Nat × Bool)) (K : PySem.W.Frag) : Bool := (a.all fun p => isiBT p.1 y p.2 K) && b.all fun p => isiB (clOf cl p.1) y p.2 K && obcB (clOf cl p.1) K
theorem mem_look {α β : Type} [BEq α] [LawfulBEq α] {k : α} {v : β} : ∀ {l : List (α × β)}, l.lookup k = some v → (k, v) ∈ l
  | (n, x) :: r, h => by
    rw [List.lookup_cons] at h
    by_cases e : (k == n) = true
    · rw [e] at h
      cases h
      rw [eq_of_beq e]
      exact List.mem_cons_self ..
    · rw [Bool.eq_false_iff.mpr e] at h
      exact List.mem_cons_of_mem _ (mem_look h)
theorem qOk_own {cl fl : List Str} {hn : fl.Nodup} {hl : (fl.all fun s => decide (s.length < 100)) = true} {y : Str} {a : List (String × Bool)} {b : List (Nat × Bool)} {K : PySem.W.Frag} (h : isiAll cl y a b K = true) : QOk (nmZ cl fl hn hl K) (.ref (He.ga K y)) (qT a b) := by
  obtain ⟨h1, h2⟩ := He.ba h
  refine ⟨fun T r e => ?_, fun c r e => ?_⟩
  · exact of_decide_eq_true (List.all_eq_true.mp h1 _ (mem_look (show a.lookup T = some r from e)))
  · obtain ⟨h3, h4⟩ := He.ba (List.all_eq_true.mp h2 _ (mem_look (show b.lookup c = some r from e)))
    exact ⟨of_decide_eq_true h3, obcB_ok h4⟩
/-- .. for a built-in type -/
def isiTAll (cl : List Str) (T : String) (b : List (Nat × Bool)) (K : PySem.W.Frag) : Bool := b.all fun p => isiTB (clOf cl p.1) T p.2 K && obcB (clOf cl p.1) K
theorem qOk_ty {cl fl : List Str} {hn : fl.Nodup} {hl : (fl.all fun s => decide (s.length < 100)) = true} {T : String} {a : List (String × Bool)} {b : List (Nat × Bool)} {K : PySem.W.Frag} (ha : (a.all fun p => decide (kitB p.1 T = some p.2)) = true) (h : isiTAll cl T b K = true) : QOk (nmZ cl fl hn hl K) (.type T) (qT a b) := by
  refine ⟨fun S r e => ?_, fun c r e => ?_⟩
  · exact kit_ty (of_decide_eq_true (List.all_eq_true.mp ha _ (mem_look (show a.lookup S = some r from e))))
  · obtain ⟨h3, h4⟩ := He.ba (List.all_eq_true.mp h _ (mem_look (show b.lookup c = some r from e)))
    exact ⟨of_decide_eq_true h3, obcB_ok h4⟩
def gCat : List D → List D → List D := fun ds es => ds ++ es
/-- int(x) of an int, of a bool -/
theorem call_intU {X : Cx} : CallR X (.type "int") (fun xs H Q => (∃ i, xs = [V.int i] ∧ Q (.int i) H) ∨ ∃ k, xs = [V.bl k] ∧ Q (.int (if k then 1 else 0)) H) := call_int1
theorem reps_strs {N : Nm} {A al : List Addr} {H : Hp} : ∀ {zs : List Str} {ys : List (List Nat)}, zs.map (fun z => z.cps.toList) = ys → Reps N A al H (zs.map V.str) (ys.map D.str)
  | [], _, h => by
    subst h
    exact .nil
  | z :: zs, _, h => by
    subst h
    exact .cons (rep_str rfl A al H) (reps_strs rfl)
/-- the law's script at the start -/
theorem sp_law {N : Nm} {K : PySem.W.Frag} (hK : N.K = K) {F : Fn} {H : Hp} {a : Addr} {ns : List Int} {Q : VK} {E : XK} (hs : Scr K H a ns) (hF : ∃ M', F [.scr ns] [] = .ok (.bl true, M')) (hQ : ∀ H', Q (.bl true) H') : spF N F 1 [.ref a] H Q E := by
  obtain ⟨M', hF⟩ := hF
  refine ⟨[.scr ns], [], [], [], [], rfl, rfl, ⟨rfl, ⟨List.nodup_nil, fun c hc => absurd hc (by simp), fun p hp => ?_⟩⟩, ?_⟩
  · have e : p = (.ref a, .scr ns) := by simpa using hp
    subst e
    exact .scr (hK ▸ hs)
  · rw [hF]
    intro v al' H' _ w
    have r := w.live (List.mem_cons_self ..)
    cases r
    exact hQ H'
end Z
namespace Z
open PySem PySem.Spec PyProof.Rows L2
/-- a keyword default of the def at f, if it is an object -/
def kwdAt (f : Str × Option Str) (x : Str) (K : PySem.W.Frag) : Addr := match K.lookup (He.fAd K f) with
  | some ⟨_, _, .func fd, _⟩ => (match fd.kwdefaults with
    | .ref D => (match PySem.W.nsIn K D x with
      | some (some (.ref a)) => a
      | _ => 0)
    | _ => 0)
  | _ => 0
end Z
namespace Z
open PySem PySem.Spec PyProof.Rows L2
/-- the heap's part that these names reach -/
def refsA (g : Addr → Option Obj) (as : List Addr) : List Addr := as.flatMap fun a => match g a with
  | some o => He.refsD o
  | none => []
def adN (g : Addr → Option Obj) (ns : List Str) : List Addr :=
  (fun a1 => (fun a2 => (fun a3 => cStatics :: mainGlobals :: (a1 ++ (a2 ++ (a3 ++ refsA g a3)))) (refsA g a2)) (refsA g a1)) (ns.map (He.ga (He.frG g [mainGlobals])))
def frN (g : Addr → Option Obj) (ns : List Str) : PySem.W.Frag := He.frG g (adN g ns)
def obsNG (ns : List Str) (ck : List (PySem.W.Frag → Bool)) (fa : List He.Fa) (fn : List He.DefD) (g : Addr → Option Obj) : AlZ := obsZ ck fa fn (frN g ns)
def hookN (ns : List Str) (ck : List (PySem.W.Frag → Bool)) (fa : List He.Fa) (fn : List He.DefD) : PySem.W.Hook where
  α := AlZ
  obs := fun s => obsNG ns ck fa fn s.heap.get?
  val := fun _ => valZ fn
  says := fun _ h => ∃ K : PySem.W.Frag, K.In h ∧ SaysZ ck fa fn K
  of := fun _ _ e => ⟨_, He.frG_in, congrArg (fun z : AlZ => z.1) e, congrArg (fun z : AlZ => z.2) e⟩
  keeps := fun _ _ _ ⟨K, hK, c⟩ k => ⟨K, PySem.W.Frag.In.keeps hK k, c⟩
theorem obsNG_eq {ns : List Str} {ck : List (PySem.W.Frag → Bool)} {fa : List He.Fa} {fn : List He.DefD} {g : Addr → Option Obj} {s : Shared} (h : ∀ a, g a = s.heap.get? a) : obsNG ns ck fa fn g = (hookN ns ck fa fn).obs s := by
  have e : g = s.heap.get? := funext h
  rw [e] <;> rfl
end Z
namespace Z
open PySem PySem.Spec PyProof.Rows L2
/-- the end, where what a def may let out is told by the world -/
theorem walkW {law : PySem.W.OpenLaw} {m lv : Nat} {qq : Program} {ll : List Str} {XX : (Str → Option Value) → Heap → Prop} {YY : PySem.World → Heap → Prop} {df : DefRec} {CW : PySem.World → CXT} {arg : Str}
    (h1 : law.most = some m) (h2 : m ≤ sizeLine) (h3 : df.params.defaults = []) (h4 : Room lv callerA)
    (h5 : ∀ (ww : PySem.World) (gl : Str → Option Value) (fx : Addr) (hh : Heap), YY ww hh → hh.Ns mainGlobals gl → gl df.name = some (.ref fx) →
      ∃ (K : PySem.W.Frag) (fd : FuncData) (sp : Sp), K.In hh ∧ (∀ (s : Shared) (u : Value), BindsTo s fd ⟨[u], []⟩ [(arg, u)]) ∧ (∀ (H : Hp) (a : Addr) (ns : List Int), ns.length ≤ m → Only H → SqL K H a (ns.map V.int) → sp [.ref a] H (fun v _ => v = .bl true) fun _ _ _ => False) ∧
        ∀ bb : Heap, K.In bb → bb.Ns mainGlobals gl → FnOk law.prog ww K gl bb (CW ww) lv fx fd [arg] sp)
    (h6 : ∀ (ww : PySem.World) (H : Hp) (s : Shared) (e : Value) (s' : Shared), CW ww [] H s (fun _ _ _ => False) e s' → False) : PySem.W.WalkO qq ll XX YY law.row.toRowW df [] (fun f vs => PySem.call f vs) := by
  refine Att.attach_call h1 h3 fun ww _ sh gl bl fx _ _ _ _ at_ us zs gg yy _ _ _ gm ob it le gn => ?_
  obtain ⟨K, fd, sp, kin, hb, hs, hF⟩ := h5 ww gl fx _ yy gg.T.g gm
  refine law_call kin gg.T.g gg.T.b gg.T.builtins gg.T.nolimit gn ob it (Nat.le_trans le h2) h4 hF hb (fun H o q => hs H at_ zs le o q) fun H e s' => ?_
  exact h6 ww H sh e s'
end Z

set_option maxHeartbeats 4000000
namespace Q
open PySem PySem.Spec PyProof.Rows L2 Z
def top (i : Nat) : Stmt := PySem.Challenge.pw_surenear_k36_codes_number_by_number.main.body.getD i (.Pass ⟨0, 0, 0, 0⟩)
def cl : List Str := ["Fact", "Record", "FieldFact", "Range", "Values", "Counts", "Names", "Part", "Parts", "Cell", "Box", "Norms", "Differ", "Region", "Entry", "Offer"]
def fl : List Str := ["parts", "start", "centre", "radius", "near", "rival", "low", "high", "most", "field", "lack", "choices", "words", "parent", "facts", "number", "record", "leaves", "name", "vector", "fields", "partitions", "entries"]
theorem hnF : fl.Nodup := by decide +kernel
theorem hlF : (fl.all fun s => decide (s.length < 100)) = true := by decide +kernel
abbrev nm (K : PySem.W.Frag) : Nm := nmZ cl fl hnF hlF K
def tbl : List (Nat × Nat) := [(1, 12), (1, 18), (1, 19), (1, 20), (3, 6), (3, 7), (3, 9), (3, 10), (4, 9), (4, 10), (4, 11), (5, 12), (6, 6), (6, 7), (7, 1), (7, 2), (7, 3), (8, 0), (9, 4), (9, 5), (10, 6), (10, 7), (11, 6), (11, 7), (12, 2), (12, 8), (13, 13), (13, 14), (14, 15), (14, 16), (14, 17), (15, 21), (15, 22)]
def fa : Nat → Nat → Bool := faT tbl
def qa_Box : List (Nat × Bool) := [(1, false), (2, false), (3, false), (4, false), (5, false), (6, false), (7, false), (8, false), (9, false), (10, true), (11, false), (12, false), (13, false), (14, false), (15, false)]
def q_Box : Sum String Nat → Option Bool := qT [("NoneType", false), ("bool", false), ("int", false), ("str", false), ("list", false), ("tuple", false)] qa_Box
def qa_Cell : List (Nat × Bool) := [(1, false), (2, false), (3, false), (4, false), (5, false), (6, false), (7, false), (8, false), (9, true), (10, false), (11, false), (12, false), (13, false), (14, false), (15, false)]
def q_Cell : Sum String Nat → Option Bool := qT [("NoneType", false), ("bool", false), ("int", false), ("str", false), ("list", false), ("tuple", false)] qa_Cell
def qa_Counts : List (Nat × Bool) := [(1, false), (2, false), (3, false), (4, false), (5, true), (6, false), (7, false), (8, false), (9, false), (10, false), (11, false), (12, false), (13, false), (14, false), (15, false)]
def q_Counts : Sum String Nat → Option Bool := qT [("NoneType", false), ("bool", false), ("int", false), ("str", false), ("list", false), ("tuple", false)] qa_Counts
def qa_Differ : List (Nat × Bool) := [(1, false), (2, false), (3, false), (4, false), (5, false), (6, false), (7, false), (8, false), (9, false), (10, false), (11, false), (12, true), (13, false), (14, false), (15, false)]
def q_Differ : Sum String Nat → Option Bool := qT [("NoneType", false), ("bool", false), ("int", false), ("str", false), ("list", false), ("tuple", false)] qa_Differ
def qa_Names : List (Nat × Bool) := [(1, false), (2, false), (3, false), (4, false), (5, false), (6, true), (7, false), (8, false), (9, false), (10, false), (11, false), (12, false), (13, false), (14, false), (15, false)]
def q_Names : Sum String Nat → Option Bool := qT [("NoneType", false), ("bool", false), ("int", false), ("str", false), ("list", false), ("tuple", false)] qa_Names
def qa_Norms : List (Nat × Bool) := [(1, false), (2, false), (3, false), (4, false), (5, false), (6, false), (7, false), (8, false), (9, false), (10, false), (11, true), (12, false), (13, false), (14, false), (15, false)]
def q_Norms : Sum String Nat → Option Bool := qT [("NoneType", false), ("bool", false), ("int", false), ("str", false), ("list", false), ("tuple", false)] qa_Norms
def qa_Parts : List (Nat × Bool) := [(1, false), (2, false), (3, false), (4, false), (5, false), (6, false), (7, false), (8, true), (9, false), (10, false), (11, false), (12, false), (13, false), (14, false), (15, false)]
def q_Parts : Sum String Nat → Option Bool := qT [("NoneType", false), ("bool", false), ("int", false), ("str", false), ("list", false), ("tuple", false)] qa_Parts
def qa_Range : List (Nat × Bool) := [(1, false), (2, false), (3, true), (4, false), (5, false), (6, false), (7, false), (8, false), (9, false), (10, false), (11, false), (12, false), (13, false), (14, false), (15, false)]
def q_Range : Sum String Nat → Option Bool := qT [("NoneType", false), ("bool", false), ("int", false), ("str", false), ("list", false), ("tuple", false)] qa_Range
def qa_Values : List (Nat × Bool) := [(1, false), (2, false), (3, false), (4, true), (5, false), (6, false), (7, false), (8, false), (9, false), (10, false), (11, false), (12, false), (13, false), (14, false), (15, false)]
def q_Values : Sum String Nat → Option Bool := qT [("NoneType", false), ("bool", false), ("int", false), ("str", false), ("list", false), ("tuple", false)] qa_Values
def qb_bool : List (String × Bool) := [("NoneType", false), ("bool", true), ("int", false), ("str", false), ("list", false), ("tuple", false)]
def q_bool : Sum String Nat → Option Bool := qT qb_bool []
def qb_str : List (String × Bool) := [("NoneType", false), ("bool", false), ("int", false), ("str", true), ("list", false), ("tuple", false)]
def q_str : Sum String Nat → Option Bool := qT qb_str []
/-! ### the defs as functions -/
/-- _law_row, slots _law_script _law_k _law_cell _law_a _law_b _law_c -/
def sv__law_row : SV := sSeq (sAsg 2 (up (pC (.int 0)))) (sSeq (sIf (bT (up (p2 oLtU (pVar 1) (p1 oLen (pVar 0))))) (sAsg 2 (up (p2 oIx (pVar 0) (pVar 1)))) (sNil)) (sSeq (sIf (bT (up (p2 oLtU (pVar 2) (pC (.int 0))))) (sAsg 2 (up (p2 oSub (p2 oMul (p1 oNeg (pC (.int 2))) (pVar 2)) (pC (.int 1))))) (sNil)) (sSeq (sIf (bT (up (p2 oLtU (pVar 2) (p2 oPow (pC (.int 10)) (pC (.int 9)))))) (sSeq (sAsg 3 (up (p2 oMod (p1 oInt1 (p2 oAdd (p2 oAdd (p2 oMul (pVar 2) (pC (.int 48271))) (p2 oMul (pVar 1) (pC (.int 69621)))) (pC (.int 11)))) (pC (.int 2147483647))))) (sSeq (sAsg 4 (up (p2 oMod (p1 oInt1 (p2 oAdd (p2 oAdd (p2 oAdd (p2 oMul (pVar 3) (pC (.int 16807))) (p2 oMul (pVar 2) (pC (.int 7)))) (pVar 1)) (pC (.int 5)))) (pC (.int 2147483629))))) (sSeq (sAsg 5 (up (p2 oMod (p1 oInt1 (p2 oAdd (p2 oAdd (p2 oMul (pVar 4) (pC (.int 39373))) (p2 oMul (pVar 3) (pVar 4))) (pC (.int 3)))) (pC (.int 2147483587))))) (sAsg 2 (up (p2 oAdd (p2 oAdd (pVar 3) (p2 oMul (pVar 4) (pC (.int 2147483647)))) (p2 oMul (pVar 5) (p2 oPow (pC (.int 2147483647)) (pC (.int 2)))))))))) (sNil)) (sRet (up (pVar 2))))))
def F__law_row : Fn := runF 6 sv__law_row
/-- _law_next, slots _law_state _law_many _law_drawn -/
def sv__law_next : SV := sSeq (sIf (bT (up (p2 oLtU (p2 oIx (pVar 0) (pC (.int 2))) (pVar 1)))) (sSeq (sSetIx (up (pVar 0)) (up (pC (.int 2))) (callE F__law_row gId (aCons (up (p2 oIx (pVar 0) (pC (.int 0)))) (aCons (up (p2 oIx (pVar 0) (pC (.int 1)))) (aNil))))) (sSetIx (up (pVar 0)) (up (pC (.int 1))) (up (p2 oAdd (p2 oIx (pVar 0) (pC (.int 1))) (pC (.int 1)))))) (sNil)) (sSeq (sAsg 2 (up (p2 oMod (p1 oInt1 (p2 oIx (pVar 0) (pC (.int 2)))) (pVar 1)))) (sSeq (sSetIx (up (pVar 0)) (up (pC (.int 2))) (up (p2 oFdiv (p2 oIx (pVar 0) (pC (.int 2))) (pVar 1)))) (sRet (up (pVar 2)))))
def F__law_next : Fn := runF 3 sv__law_next
/-- _law_string, slots _law_state -/
def sv__law_string : SV := sRet (e2 oIx (asD (fLst (aCons (up (pC (.str []))) (aCons (up (pC (.str [97]))) (aCons (up (pC (.str [114, 101, 100]))) (aCons (up (pC (.str [120, 32, 121]))) (aCons (up (pC (.str [97, 92, 98]))) (aCons (up (pC (.str [126, 33]))) (aNil))))))))) (callE F__law_next gId (aCons (up (pVar 0)) (aCons (up (pC (.int 6))) (aNil)))))
def F__law_string : Fn := runF 1 sv__law_string
/-- _law_worth, slots _law_state -/
def sv__law_worth : SV := sRet (e2 oIx (asD (fLst (aCons (e2 oSub (callE F__law_next gId (aCons (up (pVar 0)) (aCons (up (pC (.int 9))) (aNil)))) (up (pC (.int 4)))) (aCons (callE F__law_string gId (aCons (up (pVar 0)) (aNil))) (aCons (e2 (oEq false) (callE F__law_next gId (aCons (up (pVar 0)) (aCons (up (pC (.int 2))) (aNil)))) (up (pC (.int 0)))) (aNil)))))) (callE F__law_next gId (aCons (up (pVar 0)) (aCons (up (pC (.int 3))) (aNil)))))
def F__law_worth : Fn := runF 1 sv__law_worth
/-- _law_numbers, slots _law_state _law_k -/
def sv__law_numbers : SV := sRet (asD (fLc (itR1 (aCons (callE F__law_next gId (aCons (up (pVar 0)) (aCons (up (pC (.int 4))) (aNil)))) (aNil))) [1] (gvN 1) (tYesV) (e2 oSub (callE F__law_next gId (aCons (up (pVar 0)) (aCons (up (pC (.int 9))) (aNil)))) (up (pC (.int 4))))))
def F__law_numbers : Fn := runF 2 sv__law_numbers
/-- numbers_code, slots numbers -/
def sv_numbers_code : SV := sRet (e2 oAdd (asD (fLst (aCons (up (p1 oLen (pVar 0))) (aNil)))) (asD (f1 vSeq (pVar 0))))
def F_numbers_code : Fn := runF 1 sv_numbers_code
/-- string_code, slots text sign -/
def sv_string_code : SV := sRet (callE F_numbers_code gId (aCons (asD (fLc (itU (up (pVar 0))) [1] (gvN 1) (tYesV) (up (p1 oOrd (pVar 1))))) (aNil)))
def F_string_code : Fn := runF 2 sv_string_code
/-- _law_text, slots _law_text_here _law_sign -/
def sv__law_text : SV := sRet (e2 oAdd (asD (fLst (aCons (up (p1 oLen (pVar 0))) (aNil)))) (asD (fLc (itU (up (pVar 0))) [1] (gvN 1) (tYesV) (up (p1 oOrd (pVar 1))))))
def F__law_text : Fn := runF 2 sv__law_text
/-- value_code, slots worth -/
def sv_value_code : SV := sSeq (sIf (bT (up (p1 (oIsi q_bool) (pVar 0)))) (sRet (asD (fLst (aCons (up (pC (.int 2))) (aCons (ifE (bT (up (pVar 0))) (up (pC (.int 1))) (up (pC (.int 0)))) (aNil)))))) (sNil)) (sSeq (sIf (bT (up (p1 (oIsi q_str) (pVar 0)))) (sRet (e2 oAdd (asD (fLst (aCons (up (pC (.int 1))) (aNil)))) (callE F_string_code gId (aCons (up (pVar 0)) (aNil))))) (sNil)) (sRet (asD (fLst (aCons (up (pC (.int 0))) (aCons (up (pVar 0)) (aNil)))))))
def F_value_code : Fn := runF 1 sv_value_code
/-- _law_value, slots _law_worth_here -/
def sv__law_value : SV := sSeq (sIf (bT (up (p1 (oIsi q_bool) (pVar 0)))) (sRet (asD (fLst (aCons (up (pC (.int 2))) (aCons (up (p1 oInt1 (pVar 0))) (aNil)))))) (sNil)) (sSeq (sIf (bT (up (p1 (oIsi q_str) (pVar 0)))) (sRet (e2 oAdd (asD (fLst (aCons (up (pC (.int 1))) (aNil)))) (callE F__law_text gId (aCons (up (pVar 0)) (aNil))))) (sNil)) (sRet (asD (fLst (aCons (up (pC (.int 0))) (aCons (up (pVar 0)) (aNil)))))))
def F__law_value : Fn := runF 1 sv__law_value
/-- _law_counted, slots _law_row_here -/
def sv__law_counted : SV := sRet (e2 oAdd (asD (fLst (aCons (up (p1 oLen (pVar 0))) (aNil)))) (asD (f1 vSeq (pVar 0))))
def F__law_counted : Fn := runF 1 sv__law_counted
/-- maybe_code, slots code -/
def sv_maybe_code : SV := sRet (ifE (bT (up (p2 oIsN (pVar 0) (pC .non)))) (asD (fLst (aCons (up (pC (.int 0))) (aNil)))) (e2 oAdd (asD (fLst (aCons (up (pC (.int 1))) (aNil)))) (up (pVar 0))))
def F_maybe_code : Fn := runF 1 sv_maybe_code
/-- list_code, slots codes numbers code -/
def sv_list_code : SV := sSeq (sAsgF 1 (fLst (aCons (up (p1 oLen (pVar 0))) (aNil)))) (sSeq (sFor (itU (up (pVar 0))) (gvN 2) (sMut oExt 1 (aCons (up (pVar 2)) (aNil)))) (sFrz 1 (sRet (up (pVar 1)))))
def F_list_code : Fn := runF 3 sv_list_code
/-- _law_parts_agree, slots _law_state _law_text_here _law_worth_here _law_row_here -/
def sv__law_parts_agree : SV := sSeq (sAsg 1 (callE F__law_string gId (aCons (up (pVar 0)) (aNil)))) (sSeq (sAsg 2 (callE F__law_worth gId (aCons (up (pVar 0)) (aNil)))) (sSeq (sAsg 3 (callE F__law_numbers gId (aCons (up (pVar 0)) (aNil)))) (sSeq (sIf (orT (bT (e2 (oEq true) (callE F_string_code gId (aCons (up (pVar 1)) (aNil))) (callE F__law_text gId (aCons (up (pVar 1)) (aNil))))) (orT (bT (e2 (oEq true) (callE F_value_code gId (aCons (up (pVar 2)) (aNil))) (callE F__law_value gId (aCons (up (pVar 2)) (aNil))))) (bT (e2 (oEq true) (callE F_numbers_code gId (aCons (asD (f1 vSeq (pVar 3))) (aNil))) (callE F__law_counted gId (aCons (up (pVar 3)) (aNil))))))) (sRet (up (pC (.bl false)))) (sNil)) (sSeq (sIf (orT (bT (e2 (oEq true) (callE F_maybe_code gId (aCons (up (pC .non)) (aNil))) (asD (fLst (aCons (up (pC (.int 0))) (aNil)))))) (bT (e2 (oEq true) (callE F_maybe_code gId (aCons (asD (f1 vSeq (pVar 3))) (aNil))) (e2 oAdd (asD (fLst (aCons (up (pC (.int 1))) (aNil)))) (up (pVar 3)))))) (sRet (up (pC (.bl false)))) (sNil)) (sRet (e2 (oEq false) (callE F_list_code gId (aCons (asD (fLst (aCons (asD (f1 vSeq (pVar 3))) (aCons (asD (fLst (aNil))) (aCons (asD (fLst (aCons (up (pC (.int 7))) (aNil)))) (aNil)))))) (aNil))) (e2 oAdd (e2 oAdd (asD (fLst (aCons (up (pC (.int 3))) (aNil)))) (up (pVar 3))) (asD (fLst (aCons (up (pC (.int 7))) (aNil)))))))))))
def F__law_parts_agree : Fn := runF 4 sv__law_parts_agree
/-- Parts.__init__, slots self parts -/
def sv_Parts___init__ : SV := sPutO fa 0 0 (up (p1 oTupOf (pVar 1)))
def G_Parts___init__ : Gn := runG 2 8 sv_Parts___init__
/-- Part.__init__, slots self start centre radius -/
def sv_Part___init__ : SV := sSeq (sPutO fa 0 1 (up (pVar 1))) (sSeq (sPutO fa 0 2 (up (p1 oTupOf (pVar 2)))) (sPutO fa 0 3 (up (pVar 3))))
def G_Part___init__ : Gn := runG 4 7 sv_Part___init__
/-- Cell.__init__, slots self near rival -/
def sv_Cell___init__ : SV := sSeq (sPutO fa 0 4 (up (p1 oTupOf (pVar 1)))) (sPutO fa 0 5 (up (p1 oTupOf (pVar 2))))
def G_Cell___init__ : Gn := runG 3 9 sv_Cell___init__
/-- Box.__init__, slots self low high -/
def sv_Box___init__ : SV := sSeq (sPutO fa 0 6 (up (p1 oTupOf (pVar 1)))) (sPutO fa 0 7 (up (p1 oTupOf (pVar 2))))
def G_Box___init__ : Gn := runG 3 10 sv_Box___init__
/-- Norms.__init__, slots self low high -/
def sv_Norms___init__ : SV := sSeq (sPutO fa 0 6 (up (pVar 1))) (sPutO fa 0 7 (up (pVar 2)))
def G_Norms___init__ : Gn := runG 3 11 sv_Norms___init__
/-- Differ.__init__, slots self centre most -/
def sv_Differ___init__ : SV := sSeq (sPutO fa 0 2 (up (p1 oTupOf (pVar 1)))) (sPutO fa 0 8 (up (pVar 2)))
def G_Differ___init__ : Gn := runG 3 12 sv_Differ___init__
/-- FieldFact.__init__, slots self field lack -/
def sv_FieldFact___init___at_Range : SV := sSeq (sPutO fa 0 9 (up (pVar 1))) (sPutO fa 0 10 (up (pVar 2)))
def G_FieldFact___init___at_Range : Gn := runG 3 3 sv_FieldFact___init___at_Range
/-- Range.__init__, slots self field low high lack -/
def sv_Range___init__ : SV := sSeq (sSup 3 G_FieldFact___init___at_Range 0 (aCons (up (pVar 1)) (aCons (up (pVar 4)) (aNil)))) (sSeq (sPutO fa 0 6 (up (pVar 2))) (sPutO fa 0 7 (up (pVar 3))))
def G_Range___init__ : Gn := runG 5 3 sv_Range___init__
/-- FieldFact.__init__, slots self field lack -/
def sv_FieldFact___init___at_Values : SV := sSeq (sPutO fa 0 9 (up (pVar 1))) (sPutO fa 0 10 (up (pVar 2)))
def G_FieldFact___init___at_Values : Gn := runG 3 4 sv_FieldFact___init___at_Values
/-- Values.__init__, slots self field choices lack -/
def sv_Values___init__ : SV := sSeq (sSup 4 G_FieldFact___init___at_Values 0 (aCons (up (pVar 1)) (aCons (up (pVar 3)) (aNil)))) (sPutO fa 0 11 (up (p1 oTupOf (pVar 2))))
def G_Values___init__ : Gn := runG 4 4 sv_Values___init__
/-- Counts.__init__, slots self words word count -/
def sv_Counts___init__ : SV := sPutO fa 0 12 (e1 oTupOf (asD (fLc (itU (up (pVar 1))) [2, 3] (gvT 2 (gvCons (gvN 2) (gvCons (gvN 3) (gvNil)))) (tYesV) (eTup (aCons (up (pVar 2)) (aCons (up (pVar 3)) (aNil)))))))
def G_Counts___init__ : Gn := runG 4 5 sv_Counts___init__
/-- Names.__init__, slots self low high -/
def sv_Names___init__ : SV := sSeq (sPutO fa 0 6 (up (pVar 1))) (sPutO fa 0 7 (up (pVar 2)))
def G_Names___init__ : Gn := runG 3 6 sv_Names___init__
/-- _law_fact, slots _law_state _law_kind _law_k _law_lack -/
def sv__law_fact : SV := sSeq (sAsg 1 (callE F__law_next gId (aCons (up (pVar 0)) (aCons (up (pC (.int 9))) (aNil))))) (sSeq (sIf (bT (up (p2 (oEq false) (pVar 1) (pC (.int 0))))) (sRet (akE (aCons (asD (fLc (itR1 (aCons (callE F__law_next gId (aCons (up (pVar 0)) (aCons (up (pC (.int 3))) (aNil)))) (aNil))) [2] (gvN 2) (tYesV) (akE (aCons (callE F__law_next gId (aCons (up (pVar 0)) (aCons (up (pC (.int 4))) (aNil)))) (aCons (callE F__law_numbers gId (aCons (up (pVar 0)) (aNil))) (aCons (callE F__law_next gId (aCons (up (pVar 0)) (aCons (up (pC (.int 90))) (aNil)))) (aNil)))) (aNil) (mkI 7 G_Part___init__ gId)))) (aNil)) (aNil) (mkI 8 G_Parts___init__ gId))) (sNil)) (sSeq (sIf (bT (up (p2 (oEq false) (pVar 1) (pC (.int 1))))) (sRet (akE (aCons (callE F__law_numbers gId (aCons (up (pVar 0)) (aNil))) (aCons (callE F__law_numbers gId (aCons (up (pVar 0)) (aNil))) (aNil))) (aNil) (mkI 9 G_Cell___init__ gId))) (sNil)) (sSeq (sIf (bT (up (p2 (oEq false) (pVar 1) (pC (.int 2))))) (sRet (akE (aCons (callE F__law_numbers gId (aCons (up (pVar 0)) (aNil))) (aCons (callE F__law_numbers gId (aCons (up (pVar 0)) (aNil))) (aNil))) (aNil) (mkI 10 G_Box___init__ gId))) (sNil)) (sSeq (sIf (bT (up (p2 (oEq false) (pVar 1) (pC (.int 3))))) (sRet (akE (aCons (callE F__law_next gId (aCons (up (pVar 0)) (aCons (up (pC (.int 90))) (aNil)))) (aCons (e2 oMul (callE F__law_next gId (aCons (up (pVar 0)) (aCons (up (pC (.int 90))) (aNil)))) (up (p2 oPow (pC (.int 10)) (pC (.int 9))))) (aNil))) (aNil) (mkI 11 G_Norms___init__ gId))) (sNil)) (sSeq (sIf (bT (up (p2 (oEq false) (pVar 1) (pC (.int 4))))) (sRet (akE (aCons (callE F__law_numbers gId (aCons (up (pVar 0)) (aNil))) (aCons (callE F__law_next gId (aCons (up (pVar 0)) (aCons (up (pC (.int 9))) (aNil)))) (aNil))) (aNil) (mkI 12 G_Differ___init__ gId))) (sNil)) (sSeq (sAsg 3 (e2 oIx (asD (fLst (aCons (up (pC (.str [110, 111, 98, 111, 100, 121]))) (aCons (up (pC (.str [115, 111, 109, 101]))) (aCons (up (pC (.str [97, 108, 108]))) (aNil)))))) (callE F__law_next gId (aCons (up (pVar 0)) (aCons (up (pC (.int 3))) (aNil)))))) (sSeq (sIf (bT (up (p2 (oEq false) (pVar 1) (pC (.int 5))))) (sRet (akE (aCons (callE F__law_string gId (aCons (up (pVar 0)) (aNil))) (aCons (e1 oNeg (callE F__law_next gId (aCons (up (pVar 0)) (aCons (up (pC (.int 90))) (aNil))))) (aCons (callE F__law_next gId (aCons (up (pVar 0)) (aCons (up (pC (.int 90))) (aNil)))) (aNil)))) (aCons (up (pVar 3)) (aNil)) (mkI 3 G_Range___init__ gCat))) (sNil)) (sSeq (sIf (bT (up (p2 (oEq false) (pVar 1) (pC (.int 6))))) (sRet (akE (aCons (callE F__law_string gId (aCons (up (pVar 0)) (aNil))) (aCons (asD (fLc (itR1 (aCons (callE F__law_next gId (aCons (up (pVar 0)) (aCons (up (pC (.int 3))) (aNil)))) (aNil))) [2] (gvN 2) (tYesV) (callE F__law_worth gId (aCons (up (pVar 0)) (aNil))))) (aNil))) (aCons (up (pVar 3)) (aNil)) (mkI 4 G_Values___init__ gCat))) (sNil)) (sSeq (sIf (bT (up (p2 (oEq false) (pVar 1) (pC (.int 7))))) (sRet (akE (aCons (asD (fLc (itR1 (aCons (callE F__law_next gId (aCons (up (pVar 0)) (aCons (up (pC (.int 3))) (aNil)))) (aNil))) [2] (gvN 2) (tYesV) (eTup (aCons (callE F__law_string gId (aCons (up (pVar 0)) (aNil))) (aCons (callE F__law_next gId (aCons (up (pVar 0)) (aCons (up (pC (.int 9))) (aNil)))) (aNil)))))) (aNil)) (aNil) (mkI 5 G_Counts___init__ gId))) (sNil)) (sRet (akE (aCons (callE F__law_string gId (aCons (up (pVar 0)) (aNil))) (aCons (callE F__law_string gId (aCons (up (pVar 0)) (aNil))) (aNil))) (aNil) (mkI 6 G_Names___init__ gId))))))))))))
def F__law_fact : Fn := runF 4 sv__law_fact
/-- pairs_code, slots pairs word count -/
def sv_pairs_code : SV := sRet (callE F_list_code gId (aCons (asD (fLc (itU (up (pVar 0))) [1, 2] (gvT 2 (gvCons (gvN 1) (gvCons (gvN 2) (gvNil)))) (tYesV) (e2 oAdd (callE F_string_code gId (aCons (up (pVar 1)) (aNil))) (asD (fLst (aCons (up (pVar 2)) (aNil))))))) (aNil)))
def F_pairs_code : Fn := runF 3 sv_pairs_code
/-- fact_code, slots fact part choices choice -/
def sv_fact_code : SV := sSeq (sIf (bT (up (p1 (oIsi q_Parts) (pVar 0)))) (sRet (e2 oAdd (asD (fLst (aCons (up (pC (.int 1))) (aNil)))) (callE F_list_code gId (aCons (asD (fLc (itU (up (p1 (oFld 0) (pVar 0)))) [1] (gvN 1) (tYesV) (e2 oAdd (e2 oAdd (asD (fLst (aCons (up (p1 (oFld 1) (pVar 1))) (aNil)))) (callE F_numbers_code gId (aCons (up (p1 (oFld 2) (pVar 1))) (aNil)))) (asD (fLst (aCons (up (p1 (oFld 3) (pVar 1))) (aNil))))))) (aNil))))) (sNil)) (sSeq (sIf (bT (up (p1 (oIsi q_Cell) (pVar 0)))) (sRet (e2 oAdd (e2 oAdd (asD (fLst (aCons (up (pC (.int 2))) (aNil)))) (callE F_numbers_code gId (aCons (up (p1 (oFld 4) (pVar 0))) (aNil)))) (callE F_numbers_code gId (aCons (up (p1 (oFld 5) (pVar 0))) (aNil))))) (sNil)) (sSeq (sIf (bT (up (p1 (oIsi q_Box) (pVar 0)))) (sRet (e2 oAdd (e2 oAdd (asD (fLst (aCons (up (pC (.int 3))) (aNil)))) (callE F_numbers_code gId (aCons (up (p1 (oFld 6) (pVar 0))) (aNil)))) (callE F_numbers_code gId (aCons (up (p1 (oFld 7) (pVar 0))) (aNil))))) (sNil)) (sSeq (sIf (bT (up (p1 (oIsi q_Norms) (pVar 0)))) (sRet (asD (fLst (aCons (up (pC (.int 4))) (aCons (up (p1 (oFld 6) (pVar 0))) (aCons (up (p1 (oFld 7) (pVar 0))) (aNil))))))) (sNil)) (sSeq (sIf (bT (up (p1 (oIsi q_Differ) (pVar 0)))) (sRet (e2 oAdd (e2 oAdd (asD (fLst (aCons (up (pC (.int 5))) (aNil)))) (callE F_numbers_code gId (aCons (up (p1 (oFld 2) (pVar 0))) (aNil)))) (asD (fLst (aCons (up (p1 (oFld 8) (pVar 0))) (aNil)))))) (sNil)) (sSeq (sIf (bT (up (p1 (oIsi q_Range) (pVar 0)))) (sRet (e2 oAdd (e2 oAdd (asD (fLst (aCons (up (pC (.int 6))) (aNil)))) (callE F_string_code gId (aCons (up (p1 (oFld 9) (pVar 0))) (aNil)))) (asD (fLst (aCons (up (p1 (oFld 6) (pVar 0))) (aCons (up (p1 (oFld 7) (pVar 0))) (aCons (tIdx [[110, 111, 98, 111, 100, 121], [115, 111, 109, 101], [97, 108, 108]] (up (p1 (oFld 10) (pVar 0)))) (aNil)))))))) (sNil)) (sSeq (sIf (bT (up (p1 (oIsi q_Values) (pVar 0)))) (sSeq (sAsg 2 (callE F_list_code gId (aCons (asD (fLc (itU (up (p1 (oFld 11) (pVar 0)))) [3] (gvN 3) (tYesV) (callE F_value_code gId (aCons (up (pVar 3)) (aNil))))) (aNil)))) (sRet (e2 oAdd (e2 oAdd (e2 oAdd (asD (fLst (aCons (up (pC (.int 7))) (aNil)))) (callE F_string_code gId (aCons (up (p1 (oFld 9) (pVar 0))) (aNil)))) (up (pVar 2))) (asD (fLst (aCons (tIdx [[110, 111, 98, 111, 100, 121], [115, 111, 109, 101], [97, 108, 108]] (up (p1 (oFld 10) (pVar 0)))) (aNil))))))) (sNil)) (sSeq (sIf (bT (up (p1 (oIsi q_Counts) (pVar 0)))) (sRet (e2 oAdd (asD (fLst (aCons (up (pC (.int 8))) (aNil)))) (callE F_pairs_code gId (aCons (up (p1 (oFld 12) (pVar 0))) (aNil))))) (sNil)) (sSeq (sAss (bT (up (p1 (oIsi q_Names) (pVar 0))))) (sRet (e2 oAdd (e2 oAdd (asD (fLst (aCons (up (pC (.int 9))) (aNil)))) (callE F_string_code gId (aCons (up (p1 (oFld 6) (pVar 0))) (aNil)))) (callE F_string_code gId (aCons (up (p1 (oFld 7) (pVar 0))) (aNil)))))))))))))
def F_fact_code : Fn := runF 4 sv_fact_code
/-- _law_list, slots _law_codes _law_code _law_part -/
def sv__law_list : SV := sSeq (sAsg 1 (asD (fLst (aCons (up (p1 oLen (pVar 0))) (aNil))))) (sSeq (sFor (itU (up (pVar 0))) (gvN 2) (sAsg 1 (up (p2 oAdd (pVar 1) (pVar 2))))) (sRet (up (pVar 1))))
def F__law_list : Fn := runF 3 sv__law_list
/-- _law_fact_due, slots _law_fact_here _law_part _law_choices _law_choice _law_word _law_count -/
def sv__law_fact_due : SV := sSeq (sIf (bT (up (p1 (oIsi q_Parts) (pVar 0)))) (sRet (e2 oAdd (asD (fLst (aCons (up (pC (.int 1))) (aNil)))) (callE F__law_list gId (aCons (asD (fLc (itU (up (p1 (oFld 0) (pVar 0)))) [1] (gvN 1) (tYesV) (e2 oAdd (e2 oAdd (asD (fLst (aCons (up (p1 (oFld 1) (pVar 1))) (aNil)))) (callE F__law_counted gId (aCons (up (p1 (oFld 2) (pVar 1))) (aNil)))) (asD (fLst (aCons (up (p1 (oFld 3) (pVar 1))) (aNil))))))) (aNil))))) (sNil)) (sSeq (sIf (bT (up (p1 (oIsi q_Cell) (pVar 0)))) (sRet (e2 oAdd (e2 oAdd (asD (fLst (aCons (up (pC (.int 2))) (aNil)))) (callE F__law_counted gId (aCons (up (p1 (oFld 4) (pVar 0))) (aNil)))) (callE F__law_counted gId (aCons (up (p1 (oFld 5) (pVar 0))) (aNil))))) (sNil)) (sSeq (sIf (bT (up (p1 (oIsi q_Box) (pVar 0)))) (sRet (e2 oAdd (e2 oAdd (asD (fLst (aCons (up (pC (.int 3))) (aNil)))) (callE F__law_counted gId (aCons (up (p1 (oFld 6) (pVar 0))) (aNil)))) (callE F__law_counted gId (aCons (up (p1 (oFld 7) (pVar 0))) (aNil))))) (sNil)) (sSeq (sIf (bT (up (p1 (oIsi q_Norms) (pVar 0)))) (sRet (asD (fLst (aCons (up (pC (.int 4))) (aCons (up (p1 (oFld 6) (pVar 0))) (aCons (up (p1 (oFld 7) (pVar 0))) (aNil))))))) (sNil)) (sSeq (sIf (bT (up (p1 (oIsi q_Differ) (pVar 0)))) (sRet (e2 oAdd (e2 oAdd (asD (fLst (aCons (up (pC (.int 5))) (aNil)))) (callE F__law_counted gId (aCons (up (p1 (oFld 2) (pVar 0))) (aNil)))) (asD (fLst (aCons (up (p1 (oFld 8) (pVar 0))) (aNil)))))) (sNil)) (sSeq (sIf (bT (up (p1 (oIsi q_Range) (pVar 0)))) (sRet (e2 oAdd (e2 oAdd (asD (fLst (aCons (up (pC (.int 6))) (aNil)))) (callE F__law_text gId (aCons (up (p1 (oFld 9) (pVar 0))) (aNil)))) (asD (fLst (aCons (up (p1 (oFld 6) (pVar 0))) (aCons (up (p1 (oFld 7) (pVar 0))) (aCons (idxE (asD (fLst (aCons (up (pC (.str [110, 111, 98, 111, 100, 121]))) (aCons (up (pC (.str [115, 111, 109, 101]))) (aCons (up (pC (.str [97, 108, 108]))) (aNil)))))) (up (p1 (oFld 10) (pVar 0)))) (aNil)))))))) (sNil)) (sSeq (sIf (bT (up (p1 (oIsi q_Values) (pVar 0)))) (sSeq (sAsg 2 (callE F__law_list gId (aCons (asD (fLc (itU (up (p1 (oFld 11) (pVar 0)))) [3] (gvN 3) (tYesV) (callE F__law_value gId (aCons (up (pVar 3)) (aNil))))) (aNil)))) (sRet (e2 oAdd (e2 oAdd (e2 oAdd (asD (fLst (aCons (up (pC (.int 7))) (aNil)))) (callE F__law_text gId (aCons (up (p1 (oFld 9) (pVar 0))) (aNil)))) (up (pVar 2))) (asD (fLst (aCons (idxE (asD (fLst (aCons (up (pC (.str [110, 111, 98, 111, 100, 121]))) (aCons (up (pC (.str [115, 111, 109, 101]))) (aCons (up (pC (.str [97, 108, 108]))) (aNil)))))) (up (p1 (oFld 10) (pVar 0)))) (aNil))))))) (sNil)) (sSeq (sIf (bT (up (p1 (oIsi q_Counts) (pVar 0)))) (sRet (e2 oAdd (asD (fLst (aCons (up (pC (.int 8))) (aNil)))) (callE F__law_list gId (aCons (asD (fLc (itU (up (p1 (oFld 12) (pVar 0)))) [4, 5] (gvT 2 (gvCons (gvN 4) (gvCons (gvN 5) (gvNil)))) (tYesV) (e2 oAdd (callE F__law_text gId (aCons (up (pVar 4)) (aNil))) (asD (fLst (aCons (up (pVar 5)) (aNil))))))) (aNil))))) (sNil)) (sRet (e2 oAdd (e2 oAdd (asD (fLst (aCons (up (pC (.int 9))) (aNil)))) (callE F__law_text gId (aCons (up (p1 (oFld 6) (pVar 0))) (aNil)))) (callE F__law_text gId (aCons (up (p1 (oFld 7) (pVar 0))) (aNil))))))))))))
def F__law_fact_due : Fn := runF 6 sv__law_fact_due
/-- Region.__init__, slots self parent facts -/
def sv_Region___init__ : SV := sSeq (sPutO fa 0 13 (up (pVar 1))) (sPutO fa 0 14 (up (p1 oTupOf (pVar 2))))
def G_Region___init__ : Gn := runG 3 13 sv_Region___init__
/-- Entry.__init__, slots self number record leaves -/
def sv_Entry___init__ : SV := sSeq (sPutO fa 0 15 (up (pVar 1))) (sSeq (sPutO fa 0 16 (up (pVar 2))) (sPutO fa 0 17 (up (p1 oTupOf (pVar 3)))))
def G_Entry___init__ : Gn := runG 4 14 sv_Entry___init__
/-- Record.__init__, slots self name vector fields words field worth word count -/
def sv_Record___init__ : SV := sSeq (sPutO fa 0 18 (up (pVar 1))) (sSeq (sPutO fa 0 19 (up (p1 oTupOf (pVar 2)))) (sSeq (sPutO fa 0 20 (e1 oTupOf (asD (fLc (itU (up (pVar 3))) [5, 6] (gvT 2 (gvCons (gvN 5) (gvCons (gvN 6) (gvNil)))) (tYesV) (eTup (aCons (up (pVar 5)) (aCons (up (pVar 6)) (aNil)))))))) (sPutO fa 0 12 (e1 oTupOf (asD (fLc (itU (up (pVar 4))) [7, 8] (gvT 2 (gvCons (gvN 7) (gvCons (gvN 8) (gvNil)))) (tYesV) (eTup (aCons (up (pVar 7)) (aCons (up (pVar 8)) (aNil))))))))))
def G_Record___init__ : Gn := runG 9 1 sv_Record___init__
/-- _law_record, slots _law_state _law_fields _law_k _law_words -/
def sv__law_record : SV := sSeq (sAsg 1 (asD (fLc (itR1 (aCons (callE F__law_next gId (aCons (up (pVar 0)) (aCons (up (pC (.int 3))) (aNil)))) (aNil))) [2] (gvN 2) (tYesV) (eTup (aCons (callE F__law_string gId (aCons (up (pVar 0)) (aNil))) (aCons (callE F__law_worth gId (aCons (up (pVar 0)) (aNil))) (aNil))))))) (sSeq (sAsg 3 (asD (fLc (itR1 (aCons (callE F__law_next gId (aCons (up (pVar 0)) (aCons (up (pC (.int 3))) (aNil)))) (aNil))) [2] (gvN 2) (tYesV) (eTup (aCons (callE F__law_string gId (aCons (up (pVar 0)) (aNil))) (aCons (e2 oAdd (up (pC (.int 1))) (callE F__law_next gId (aCons (up (pVar 0)) (aCons (up (pC (.int 9))) (aNil))))) (aNil))))))) (sRet (akE (aCons (callE F__law_string gId (aCons (up (pVar 0)) (aNil))) (aCons (callE F__law_numbers gId (aCons (up (pVar 0)) (aNil))) (aNil))) (aCons (up (pVar 1)) (aCons (up (pVar 3)) (aNil))) (mkI 1 G_Record___init__ gCat))))
def F__law_record : Fn := runF 4 sv__law_record
/-- Offer.__init__, slots self partitions entries regions -/
def sv_Offer___init__ : SV := sSeq (sPutO fa 0 21 (e1 oTupOf (asD (fLc (itU (up (pVar 1))) [3] (gvN 3) (tYesV) (up (p1 oTupOf (pVar 3))))))) (sPutO fa 0 22 (up (p1 oTupOf (pVar 2))))
def G_Offer___init__ : Gn := runG 4 15 sv_Offer___init__
/-- _law_offer, slots _law_state _law_partitions _law_k _law_regions _law_j _law_parent _law_i _law_entries -/
def sv__law_offer : SV := sSeq (sAsgF 1 (fLst (aNil))) (sSeq (sFor (itR1 (aCons (callE F__law_next gId (aCons (up (pVar 0)) (aCons (up (pC (.int 3))) (aNil)))) (aNil))) (gvN 2) (sSeq (sAsgF 3 (fLst (aNil))) (sSeq (sFor (itR1 (aCons (callE F__law_next gId (aCons (up (pVar 0)) (aCons (up (pC (.int 4))) (aNil)))) (aNil))) (gvN 4) (sSeq (sAsg 5 (e2 oIx (asD (fLst (aCons (up (pC .non)) (aCons (e2 oSub (callE F__law_next gId (aCons (up (pVar 0)) (aCons (up (pC (.int 5))) (aNil)))) (up (pC (.int 1)))) (aNil))))) (callE F__law_next gId (aCons (up (pVar 0)) (aCons (up (pC (.int 2))) (aNil)))))) (sMut oApp 3 (aCons (akE (aCons (up (pVar 5)) (aCons (asD (fLc (itR1 (aCons (callE F__law_next gId (aCons (up (pVar 0)) (aCons (up (pC (.int 3))) (aNil)))) (aNil))) [6] (gvN 6) (tYesV) (callE F__law_fact gId (aCons (up (pVar 0)) (aNil))))) (aNil))) (aNil) (mkI 13 G_Region___init__ gId)) (aNil))))) (sFrz 3 (sMut oApp 1 (aCons (up (pVar 3)) (aNil))))))) (sSeq (sAsgF 7 (fLst (aNil))) (sSeq (sFor (itR1 (aCons (callE F__law_next gId (aCons (up (pVar 0)) (aCons (up (pC (.int 4))) (aNil)))) (aNil))) (gvN 2) (sMut oApp 7 (aCons (akE (aCons (callE F__law_next gId (aCons (up (pVar 0)) (aCons (up (p2 oPow (pC (.int 10)) (pC (.int 6)))) (aNil)))) (aCons (callE F__law_record gId (aCons (up (pVar 0)) (aNil))) (aCons (callE F__law_numbers gId (aCons (up (pVar 0)) (aNil))) (aNil)))) (aNil) (mkI 14 G_Entry___init__ gId)) (aNil)))) (sFrz 7 (sFrz 1 (sRet (akE (aCons (up (pVar 1)) (aCons (up (pVar 7)) (aNil))) (aNil) (mkI 15 G_Offer___init__ gId))))))))
def F__law_offer : Fn := runF 8 sv__law_offer
/-- region_code, slots region parent fact -/
def sv_region_code : SV := sSeq (sAsg 1 (callE F_maybe_code gId (aCons (ifE (bT (up (p2 oIsN (p1 (oFld 13) (pVar 0)) (pC .non)))) (up (pC .non)) (asD (fLst (aCons (up (p1 (oFld 13) (pVar 0))) (aNil))))) (aNil)))) (sRet (e2 oAdd (up (pVar 1)) (callE F_list_code gId (aCons (asD (fLc (itU (up (p1 (oFld 14) (pVar 0)))) [2] (gvN 2) (tYesV) (callE F_fact_code gId (aCons (up (pVar 2)) (aNil))))) (aNil)))))
def F_region_code : Fn := runF 3 sv_region_code
/-- _law_region_due, slots _law_region _law_parent _law_fact_here -/
def sv__law_region_due : SV := sSeq (sAsg 1 (asD (fLst (aCons (up (pC (.int 0))) (aNil))))) (sSeq (sIf (bT (up (p2 oNotN (p1 (oFld 13) (pVar 0)) (pC .non)))) (sAsg 1 (asD (fLst (aCons (up (pC (.int 1))) (aCons (up (p1 (oFld 13) (pVar 0))) (aNil)))))) (sNil)) (sRet (e2 oAdd (up (pVar 1)) (callE F__law_list gId (aCons (asD (fLc (itU (up (p1 (oFld 14) (pVar 0)))) [2] (gvN 2) (tYesV) (callE F__law_fact_due gId (aCons (up (pVar 2)) (aNil))))) (aNil))))))
def F__law_region_due : Fn := runF 3 sv__law_region_due
/-- partition_code, slots regions region -/
def sv_partition_code : SV := sRet (callE F_list_code gId (aCons (asD (fLc (itU (up (pVar 0))) [1] (gvN 1) (tYesV) (callE F_region_code gId (aCons (up (pVar 1)) (aNil))))) (aNil)))
def F_partition_code : Fn := runF 2 sv_partition_code
/-- record_code, slots record fields name worth -/
def sv_record_code : SV := sSeq (sAsg 1 (callE F_list_code gId (aCons (asD (fLc (itU (up (p1 (oFld 20) (pVar 0)))) [2, 3] (gvT 2 (gvCons (gvN 2) (gvCons (gvN 3) (gvNil)))) (tYesV) (e2 oAdd (callE F_string_code gId (aCons (up (pVar 2)) (aNil))) (callE F_value_code gId (aCons (up (pVar 3)) (aNil)))))) (aNil)))) (sRet (e2 oAdd (e2 oAdd (e2 oAdd (callE F_string_code gId (aCons (up (p1 (oFld 18) (pVar 0))) (aNil))) (callE F_numbers_code gId (aCons (up (p1 (oFld 19) (pVar 0))) (aNil)))) (up (pVar 1))) (callE F_pairs_code gId (aCons (up (p1 (oFld 12) (pVar 0))) (aNil)))))
def F_record_code : Fn := runF 4 sv_record_code
/-- _law_record_due, slots _law_record_here _law_code _law_name _law_worth_here _law_word _law_count -/
def sv__law_record_due : SV := sSeq (sAsg 1 (e2 oAdd (callE F__law_text gId (aCons (up (p1 (oFld 18) (pVar 0))) (aNil))) (callE F__law_counted gId (aCons (up (p1 (oFld 19) (pVar 0))) (aNil))))) (sSeq (sAsg 1 (e2 oAdd (up (pVar 1)) (callE F__law_list gId (aCons (asD (fLc (itU (up (p1 (oFld 20) (pVar 0)))) [2, 3] (gvT 2 (gvCons (gvN 2) (gvCons (gvN 3) (gvNil)))) (tYesV) (e2 oAdd (callE F__law_text gId (aCons (up (pVar 2)) (aNil))) (callE F__law_value gId (aCons (up (pVar 3)) (aNil)))))) (aNil))))) (sRet (e2 oAdd (up (pVar 1)) (callE F__law_list gId (aCons (asD (fLc (itU (up (p1 (oFld 12) (pVar 0)))) [4, 5] (gvT 2 (gvCons (gvN 4) (gvCons (gvN 5) (gvNil)))) (tYesV) (e2 oAdd (callE F__law_text gId (aCons (up (pVar 4)) (aNil))) (asD (fLst (aCons (up (pVar 5)) (aNil))))))) (aNil))))))
def F__law_record_due : Fn := runF 6 sv__law_record_due
/-- entry_code, slots entry -/
def sv_entry_code : SV := sRet (e2 oAdd (e2 oAdd (asD (fLst (aCons (up (p1 (oFld 15) (pVar 0))) (aNil)))) (callE F_record_code gId (aCons (up (p1 (oFld 16) (pVar 0))) (aNil)))) (callE F_numbers_code gId (aCons (up (p1 (oFld 17) (pVar 0))) (aNil))))
def F_entry_code : Fn := runF 1 sv_entry_code
/-- offer_code, slots offer partitions regions entry -/
def sv_offer_code : SV := sSeq (sAsg 1 (callE F_list_code gId (aCons (asD (fLc (itU (up (p1 (oFld 21) (pVar 0)))) [2] (gvN 2) (tYesV) (callE F_partition_code gId (aCons (up (pVar 2)) (aNil))))) (aNil)))) (sRet (e2 oAdd (up (pVar 1)) (callE F_list_code gId (aCons (asD (fLc (itU (up (p1 (oFld 22) (pVar 0)))) [3] (gvN 3) (tYesV) (callE F_entry_code gId (aCons (up (pVar 3)) (aNil))))) (aNil)))))
def F_offer_code : Fn := runF 4 sv_offer_code
/-- law, slots _law_script _law_state _law_turn _law_fact_here _law_offer_here _law_partitions _law_regions _law_region _law_entries _law_entry -/
def sv_law : SV := sSeq (sAsg 1 (asH (fLst (aCons (asD (f1 vSeq (pVar 0))) (aCons (up (pC (.int 0))) (aCons (up (pC (.int 0))) (aNil))))))) (sSeq (sIf (nT (bT (callE F__law_parts_agree gId (aCons (up (pVar 1)) (aNil))))) (sRet (up (pC (.bl false)))) (sNil)) (sSeq (sFor (itR1 (aCons (up (pC (.int 4))) (aNil))) (gvN 2) (sSeq (sAsg 3 (callE F__law_fact gId (aCons (up (pVar 1)) (aNil)))) (sIf (bT (e2 (oEq true) (callE F_fact_code gId (aCons (up (pVar 3)) (aNil))) (callE F__law_fact_due gId (aCons (up (pVar 3)) (aNil))))) (sRet (up (pC (.bl false)))) (sNil)))) (sSeq (sAsg 4 (callE F__law_offer gId (aCons (up (pVar 1)) (aNil)))) (sSeq (sAsgF 5 (fLst (aNil))) (sSeq (sFor (itU (up (p1 (oFld 21) (pVar 4)))) (gvN 6) (sSeq (sFor (itU (up (pVar 6))) (gvN 7) (sIf (bT (e2 (oEq true) (callE F_region_code gId (aCons (up (pVar 7)) (aNil))) (callE F__law_region_due gId (aCons (up (pVar 7)) (aNil))))) (sRet (up (pC (.bl false)))) (sNil))) (sSeq (sMut oApp 5 (aCons (callE F__law_list gId (aCons (asD (fLc (itU (up (pVar 6))) [7] (gvN 7) (tYesV) (callE F__law_region_due gId (aCons (up (pVar 7)) (aNil))))) (aNil))) (aNil))) (sIf (bT (e2 (oEq true) (callE F_partition_code gId (aCons (up (pVar 6)) (aNil))) (up (p2 oIx (pVar 5) (p2 oSub (p1 oLen (pVar 5)) (pC (.int 1))))))) (sRet (up (pC (.bl false)))) (sNil))))) (sSeq (sAsgF 8 (fLst (aNil))) (sSeq (sFor (itU (up (p1 (oFld 22) (pVar 4)))) (gvN 9) (sSeq (sIf (bT (e2 (oEq true) (callE F_record_code gId (aCons (up (p1 (oFld 16) (pVar 9))) (aNil))) (callE F__law_record_due gId (aCons (up (p1 (oFld 16) (pVar 9))) (aNil))))) (sRet (up (pC (.bl false)))) (sNil)) (sSeq (sMut oApp 8 (aCons (e2 oAdd (e2 oAdd (asD (fLst (aCons (up (p1 (oFld 15) (pVar 9))) (aNil)))) (callE F__law_record_due gId (aCons (up (p1 (oFld 16) (pVar 9))) (aNil)))) (callE F__law_counted gId (aCons (up (p1 (oFld 17) (pVar 9))) (aNil)))) (aNil))) (sIf (bT (e2 (oEq true) (callE F_entry_code gId (aCons (up (pVar 9)) (aNil))) (up (p2 oIx (pVar 8) (p2 oSub (p1 oLen (pVar 8)) (pC (.int 1))))))) (sRet (up (pC (.bl false)))) (sNil))))) (sFrz 8 (sFrz 5 (sRet (e2 (oEq false) (callE F_offer_code gId (aCons (up (pVar 4)) (aNil))) (e2 oAdd (callE F__law_list gId (aCons (up (pVar 5)) (aNil))) (callE F__law_list gId (aCons (up (pVar 8)) (aNil)))))))))))))))
def F_law : Fn := runF 10 sv_law
end Q

set_option maxHeartbeats 4000000
namespace Q
open PySem PySem.Spec PyProof.Rows L2 Z
/-! ### the head's facts -/
def d_0 : He.DefD := ⟨(("_law_row" : Str), none), "_law_row", "_law_row", defArgs (top 42), defBody (top 42), defScope (top 42), [], []⟩
def d_1 : He.DefD := ⟨(("_law_next" : Str), none), "_law_next", "_law_next", defArgs (top 43), defBody (top 43), defScope (top 43), [], []⟩
def d_2 : He.DefD := ⟨(("_law_string" : Str), none), "_law_string", "_law_string", defArgs (top 44), defBody (top 44), defScope (top 44), [], []⟩
def d_3 : He.DefD := ⟨(("_law_worth" : Str), none), "_law_worth", "_law_worth", defArgs (top 46), defBody (top 46), defScope (top 46), [], []⟩
def d_4 : He.DefD := ⟨(("_law_numbers" : Str), none), "_law_numbers", "_law_numbers", defArgs (top 45), defBody (top 45), defScope (top 45), [], []⟩
def d_5 : He.DefD := ⟨(("numbers_code" : Str), none), "numbers_code", "numbers_code", defArgs (top 25), defBody (top 25), defScope (top 25), [], []⟩
def d_6 : He.DefD := ⟨(("string_code" : Str), none), "string_code", "string_code", defArgs (top 26), defBody (top 26), defScope (top 26), [], []⟩
def d_7 : He.DefD := ⟨(("_law_text" : Str), none), "_law_text", "_law_text", defArgs (top 50), defBody (top 50), defScope (top 50), [], []⟩
def d_8 : He.DefD := ⟨(("value_code" : Str), none), "value_code", "value_code", defArgs (top 27), defBody (top 27), defScope (top 27), [], []⟩
def d_9 : He.DefD := ⟨(("_law_value" : Str), none), "_law_value", "_law_value", defArgs (top 51), defBody (top 51), defScope (top 51), [], []⟩
def d_10 : He.DefD := ⟨(("_law_counted" : Str), none), "_law_counted", "_law_counted", defArgs (top 53), defBody (top 53), defScope (top 53), [], []⟩
def d_11 : He.DefD := ⟨(("maybe_code" : Str), none), "maybe_code", "maybe_code", defArgs (top 28), defBody (top 28), defScope (top 28), [], []⟩
def d_12 : He.DefD := ⟨(("list_code" : Str), none), "list_code", "list_code", defArgs (top 24), defBody (top 24), defScope (top 24), [], []⟩
def d_13 : He.DefD := ⟨(("_law_parts_agree" : Str), none), "_law_parts_agree", "_law_parts_agree", defArgs (top 57), defBody (top 57), defScope (top 57), [], []⟩
def d_14 : He.DefD := ⟨(("Parts" : Str), some ("__init__" : Str)), "__init__", "Parts.__init__", defArgs (inClass (top 17) 0), defBody (inClass (top 17) 0), defScope (inClass (top 17) 0), [], []⟩
def d_15 : He.DefD := ⟨(("Part" : Str), some ("__init__" : Str)), "__init__", "Part.__init__", defArgs (inClass (top 16) 0), defBody (inClass (top 16) 0), defScope (inClass (top 16) 0), [], []⟩
def d_16 : He.DefD := ⟨(("Cell" : Str), some ("__init__" : Str)), "__init__", "Cell.__init__", defArgs (inClass (top 18) 0), defBody (inClass (top 18) 0), defScope (inClass (top 18) 0), [], []⟩
def d_17 : He.DefD := ⟨(("Box" : Str), some ("__init__" : Str)), "__init__", "Box.__init__", defArgs (inClass (top 19) 0), defBody (inClass (top 19) 0), defScope (inClass (top 19) 0), [], []⟩
def d_18 : He.DefD := ⟨(("Norms" : Str), some ("__init__" : Str)), "__init__", "Norms.__init__", defArgs (inClass (top 20) 0), defBody (inClass (top 20) 0), defScope (inClass (top 20) 0), [], []⟩
def d_19 : He.DefD := ⟨(("Differ" : Str), some ("__init__" : Str)), "__init__", "Differ.__init__", defArgs (inClass (top 21) 0), defBody (inClass (top 21) 0), defScope (inClass (top 21) 0), [], []⟩
def d_20 : He.DefD := ⟨(("FieldFact" : Str), some ("__init__" : Str)), "__init__", "FieldFact.__init__", defArgs (inClass (top 10) 0), defBody (inClass (top 10) 0), defScope (inClass (top 10) 0), [], []⟩
def d_21 : He.DefD := ⟨(("Range" : Str), some ("__init__" : Str)), "__init__", "Range.__init__", defArgs (inClass (top 11) 0), defBody (inClass (top 11) 0), defScope (inClass (top 11) 0), [], [(("lack" : Str), .str "nobody")]⟩
def d_22 : He.DefD := ⟨(("Values" : Str), some ("__init__" : Str)), "__init__", "Values.__init__", defArgs (inClass (top 12) 0), defBody (inClass (top 12) 0), defScope (inClass (top 12) 0), [], [(("lack" : Str), .str "nobody")]⟩
def d_23 : He.DefD := ⟨(("Counts" : Str), some ("__init__" : Str)), "__init__", "Counts.__init__", defArgs (inClass (top 13) 0), defBody (inClass (top 13) 0), defScope (inClass (top 13) 0), [], []⟩
def d_24 : He.DefD := ⟨(("Names" : Str), some ("__init__" : Str)), "__init__", "Names.__init__", defArgs (inClass (top 14) 0), defBody (inClass (top 14) 0), defScope (inClass (top 14) 0), [], []⟩
def d_25 : He.DefD := ⟨(("_law_fact" : Str), none), "_law_fact", "_law_fact", defArgs (top 47), defBody (top 47), defScope (top 47), [], []⟩
def d_26 : He.DefD := ⟨(("pairs_code" : Str), none), "pairs_code", "pairs_code", defArgs (top 29), defBody (top 29), defScope (top 29), [], []⟩
def d_27 : He.DefD := ⟨(("fact_code" : Str), none), "fact_code", "fact_code", defArgs (top 31), defBody (top 31), defScope (top 31), [], []⟩
def d_28 : He.DefD := ⟨(("_law_list" : Str), none), "_law_list", "_law_list", defArgs (top 52), defBody (top 52), defScope (top 52), [], []⟩
def d_29 : He.DefD := ⟨(("_law_fact_due" : Str), none), "_law_fact_due", "_law_fact_due", defArgs (top 54), defBody (top 54), defScope (top 54), [], []⟩
def d_30 : He.DefD := ⟨(("Region" : Str), some ("__init__" : Str)), "__init__", "Region.__init__", defArgs (inClass (top 37) 0), defBody (inClass (top 37) 0), defScope (inClass (top 37) 0), [], []⟩
def d_31 : He.DefD := ⟨(("Entry" : Str), some ("__init__" : Str)), "__init__", "Entry.__init__", defArgs (inClass (top 39) 0), defBody (inClass (top 39) 0), defScope (inClass (top 39) 0), [], []⟩
def d_32 : He.DefD := ⟨(("Record" : Str), some ("__init__" : Str)), "__init__", "Record.__init__", defArgs (inClass (top 6) 0), defBody (inClass (top 6) 0), defScope (inClass (top 6) 0), [], [(("fields" : Str), .adr (kwdAt (("Record" : Str), some ("__init__" : Str)) ("fields" : Str))), (("words" : Str), .adr (kwdAt (("Record" : Str), some ("__init__" : Str)) ("words" : Str)))]⟩
def d_33 : He.DefD := ⟨(("_law_record" : Str), none), "_law_record", "_law_record", defArgs (top 48), defBody (top 48), defScope (top 48), [], []⟩
def d_34 : He.DefD := ⟨(("Offer" : Str), some ("__init__" : Str)), "__init__", "Offer.__init__", defArgs (inClass (top 40) 0), defBody (inClass (top 40) 0), defScope (inClass (top 40) 0), [], []⟩
def d_35 : He.DefD := ⟨(("_law_offer" : Str), none), "_law_offer", "_law_offer", defArgs (top 49), defBody (top 49), defScope (top 49), [], []⟩
def d_36 : He.DefD := ⟨(("region_code" : Str), none), "region_code", "region_code", defArgs (top 32), defBody (top 32), defScope (top 32), [], []⟩
def d_37 : He.DefD := ⟨(("_law_region_due" : Str), none), "_law_region_due", "_law_region_due", defArgs (top 56), defBody (top 56), defScope (top 56), [], []⟩
def d_38 : He.DefD := ⟨(("partition_code" : Str), none), "partition_code", "partition_code", defArgs (top 33), defBody (top 33), defScope (top 33), [], []⟩
def d_39 : He.DefD := ⟨(("record_code" : Str), none), "record_code", "record_code", defArgs (top 30), defBody (top 30), defScope (top 30), [], []⟩
def d_40 : He.DefD := ⟨(("_law_record_due" : Str), none), "_law_record_due", "_law_record_due", defArgs (top 55), defBody (top 55), defScope (top 55), [], []⟩
def d_41 : He.DefD := ⟨(("entry_code" : Str), none), "entry_code", "entry_code", defArgs (top 34), defBody (top 34), defScope (top 34), [], []⟩
def d_42 : He.DefD := ⟨(("offer_code" : Str), none), "offer_code", "offer_code", defArgs (top 35), defBody (top 35), defScope (top 35), [], []⟩
def d_43 : He.DefD := ⟨(("law" : Str), none), "law", "law", defArgs (top 58), defBody (top 58), defScope (top 58), [], []⟩
def fn : List He.DefD := [d_0, d_1, d_2, d_3, d_4, d_5, d_6, d_7, d_8, d_9, d_10, d_11, d_12, d_13, d_14, d_15, d_16, d_17, d_18, d_19, d_20, d_21, d_22, d_23, d_24, d_25, d_26, d_27, d_28, d_29, d_30, d_31, d_32, d_33, d_34, d_35, d_36, d_37, d_38, d_39, d_40, d_41, d_42, d_43]
def zs_LACKS : List Str := ["nobody", "some", "all"]
def fas : List He.Fa := [.glo ("Box" : Str), .glo ("Cell" : Str), .glo ("Counts" : Str), .glo ("Differ" : Str), .glo ("Entry" : Str), .glo ("FieldFact" : Str), .glo ("LACKS" : Str), .glo ("Names" : Str), .glo ("Norms" : Str), .glo ("Offer" : Str), .glo ("Part" : Str), .glo ("Parts" : Str), .glo ("Range" : Str), .glo ("Record" : Str), .glo ("Region" : Str), .glo ("Values" : Str), .glo ("_law_counted" : Str), .glo ("_law_fact" : Str), .glo ("_law_fact_due" : Str), .glo ("_law_list" : Str), .glo ("_law_next" : Str), .glo ("_law_numbers" : Str), .glo ("_law_offer" : Str), .glo ("_law_parts_agree" : Str), .glo ("_law_record" : Str), .glo ("_law_record_due" : Str), .glo ("_law_region_due" : Str), .glo ("_law_row" : Str), .glo ("_law_string" : Str), .glo ("_law_text" : Str), .glo ("_law_value" : Str), .glo ("_law_worth" : Str), .glo ("entry_code" : Str), .glo ("fact_code" : Str), .glo ("law" : Str), .glo ("list_code" : Str), .glo ("maybe_code" : Str), .glo ("numbers_code" : Str), .glo ("offer_code" : Str), .glo ("pairs_code" : Str), .glo ("partition_code" : Str), .glo ("record_code" : Str), .glo ("region_code" : Str), .glo ("string_code" : Str), .glo ("value_code" : Str), .free ("bool" : Str), .free ("int" : Str), .free ("isinstance" : Str), .free ("len" : Str), .free ("list" : Str), .free ("ord" : Str), .free ("range" : Str), .free ("str" : Str), .free ("tuple" : Str), .mkr ("Box" : Str), .cls ("Box" : Str), .mkr ("Cell" : Str), .cls ("Cell" : Str), .mkr ("Counts" : Str), .cls ("Counts" : Str), .mkr ("Differ" : Str), .cls ("Differ" : Str), .mkr ("Entry" : Str), .cls ("Entry" : Str), .mkr ("Names" : Str), .cls ("Names" : Str), .mkr ("Norms" : Str), .cls ("Norms" : Str), .mkr ("Offer" : Str), .cls ("Offer" : Str), .mkr ("Part" : Str), .cls ("Part" : Str), .mkr ("Parts" : Str), .cls ("Parts" : Str), .mkr ("Range" : Str), .cls ("Range" : Str), .mkr ("Record" : Str), .cls ("Record" : Str), .mkr ("Region" : Str), .cls ("Region" : Str), .mkr ("Values" : Str), .cls ("Values" : Str)]
def ck : List (PySem.W.Frag → Bool) := [noatB cl fl tbl, isiAll cl ("Box" : Str) [("NoneType", false), ("bool", false), ("int", false), ("str", false), ("list", false), ("tuple", false)] qa_Box, isiAll cl ("Cell" : Str) [("NoneType", false), ("bool", false), ("int", false), ("str", false), ("list", false), ("tuple", false)] qa_Cell, isiAll cl ("Counts" : Str) [("NoneType", false), ("bool", false), ("int", false), ("str", false), ("list", false), ("tuple", false)] qa_Counts, isiAll cl ("Differ" : Str) [("NoneType", false), ("bool", false), ("int", false), ("str", false), ("list", false), ("tuple", false)] qa_Differ, isiAll cl ("Names" : Str) [("NoneType", false), ("bool", false), ("int", false), ("str", false), ("list", false), ("tuple", false)] qa_Names, isiAll cl ("Norms" : Str) [("NoneType", false), ("bool", false), ("int", false), ("str", false), ("list", false), ("tuple", false)] qa_Norms, isiAll cl ("Parts" : Str) [("NoneType", false), ("bool", false), ("int", false), ("str", false), ("list", false), ("tuple", false)] qa_Parts, isiAll cl ("Range" : Str) [("NoneType", false), ("bool", false), ("int", false), ("str", false), ("list", false), ("tuple", false)] qa_Range, isiAll cl ("Values" : Str) [("NoneType", false), ("bool", false), ("int", false), ("str", false), ("list", false), ("tuple", false)] qa_Values, supB ("FieldFact" : Str), tupZ ("LACKS" : Str) [.str ("nobody" : Str), .str ("some" : Str), .str ("all" : Str)], tupH ("LACKS" : Str)]
theorem g_Box {h : Heap} {mg : Str → Option Value} {K : PySem.W.Frag} (KX : K.In h) (Gm : h.Ns mainGlobals mg) (c : SaysZ ck fas fn K) : mg ("Box" : Str) = some (.ref (He.ga K ("Box" : Str))) := He.glo_ok KX Gm (c.d.fact 0 rfl)
theorem g_Cell {h : Heap} {mg : Str → Option Value} {K : PySem.W.Frag} (KX : K.In h) (Gm : h.Ns mainGlobals mg) (c : SaysZ ck fas fn K) : mg ("Cell" : Str) = some (.ref (He.ga K ("Cell" : Str))) := He.glo_ok KX Gm (c.d.fact 1 rfl)
theorem g_Counts {h : Heap} {mg : Str → Option Value} {K : PySem.W.Frag} (KX : K.In h) (Gm : h.Ns mainGlobals mg) (c : SaysZ ck fas fn K) : mg ("Counts" : Str) = some (.ref (He.ga K ("Counts" : Str))) := He.glo_ok KX Gm (c.d.fact 2 rfl)
theorem g_Differ {h : Heap} {mg : Str → Option Value} {K : PySem.W.Frag} (KX : K.In h) (Gm : h.Ns mainGlobals mg) (c : SaysZ ck fas fn K) : mg ("Differ" : Str) = some (.ref (He.ga K ("Differ" : Str))) := He.glo_ok KX Gm (c.d.fact 3 rfl)
theorem g_Entry {h : Heap} {mg : Str → Option Value} {K : PySem.W.Frag} (KX : K.In h) (Gm : h.Ns mainGlobals mg) (c : SaysZ ck fas fn K) : mg ("Entry" : Str) = some (.ref (He.ga K ("Entry" : Str))) := He.glo_ok KX Gm (c.d.fact 4 rfl)
theorem g_FieldFact {h : Heap} {mg : Str → Option Value} {K : PySem.W.Frag} (KX : K.In h) (Gm : h.Ns mainGlobals mg) (c : SaysZ ck fas fn K) : mg ("FieldFact" : Str) = some (.ref (He.ga K ("FieldFact" : Str))) := He.glo_ok KX Gm (c.d.fact 5 rfl)
theorem g_LACKS {h : Heap} {mg : Str → Option Value} {K : PySem.W.Frag} (KX : K.In h) (Gm : h.Ns mainGlobals mg) (c : SaysZ ck fas fn K) : mg ("LACKS" : Str) = some (.ref (He.ga K ("LACKS" : Str))) := He.glo_ok KX Gm (c.d.fact 6 rfl)
theorem g_Names {h : Heap} {mg : Str → Option Value} {K : PySem.W.Frag} (KX : K.In h) (Gm : h.Ns mainGlobals mg) (c : SaysZ ck fas fn K) : mg ("Names" : Str) = some (.ref (He.ga K ("Names" : Str))) := He.glo_ok KX Gm (c.d.fact 7 rfl)
theorem g_Norms {h : Heap} {mg : Str → Option Value} {K : PySem.W.Frag} (KX : K.In h) (Gm : h.Ns mainGlobals mg) (c : SaysZ ck fas fn K) : mg ("Norms" : Str) = some (.ref (He.ga K ("Norms" : Str))) := He.glo_ok KX Gm (c.d.fact 8 rfl)
theorem g_Offer {h : Heap} {mg : Str → Option Value} {K : PySem.W.Frag} (KX : K.In h) (Gm : h.Ns mainGlobals mg) (c : SaysZ ck fas fn K) : mg ("Offer" : Str) = some (.ref (He.ga K ("Offer" : Str))) := He.glo_ok KX Gm (c.d.fact 9 rfl)
theorem g_Part {h : Heap} {mg : Str → Option Value} {K : PySem.W.Frag} (KX : K.In h) (Gm : h.Ns mainGlobals mg) (c : SaysZ ck fas fn K) : mg ("Part" : Str) = some (.ref (He.ga K ("Part" : Str))) := He.glo_ok KX Gm (c.d.fact 10 rfl)
theorem g_Parts {h : Heap} {mg : Str → Option Value} {K : PySem.W.Frag} (KX : K.In h) (Gm : h.Ns mainGlobals mg) (c : SaysZ ck fas fn K) : mg ("Parts" : Str) = some (.ref (He.ga K ("Parts" : Str))) := He.glo_ok KX Gm (c.d.fact 11 rfl)
theorem g_Range {h : Heap} {mg : Str → Option Value} {K : PySem.W.Frag} (KX : K.In h) (Gm : h.Ns mainGlobals mg) (c : SaysZ ck fas fn K) : mg ("Range" : Str) = some (.ref (He.ga K ("Range" : Str))) := He.glo_ok KX Gm (c.d.fact 12 rfl)
theorem g_Record {h : Heap} {mg : Str → Option Value} {K : PySem.W.Frag} (KX : K.In h) (Gm : h.Ns mainGlobals mg) (c : SaysZ ck fas fn K) : mg ("Record" : Str) = some (.ref (He.ga K ("Record" : Str))) := He.glo_ok KX Gm (c.d.fact 13 rfl)
theorem g_Region {h : Heap} {mg : Str → Option Value} {K : PySem.W.Frag} (KX : K.In h) (Gm : h.Ns mainGlobals mg) (c : SaysZ ck fas fn K) : mg ("Region" : Str) = some (.ref (He.ga K ("Region" : Str))) := He.glo_ok KX Gm (c.d.fact 14 rfl)
theorem g_Values {h : Heap} {mg : Str → Option Value} {K : PySem.W.Frag} (KX : K.In h) (Gm : h.Ns mainGlobals mg) (c : SaysZ ck fas fn K) : mg ("Values" : Str) = some (.ref (He.ga K ("Values" : Str))) := He.glo_ok KX Gm (c.d.fact 15 rfl)
theorem g__law_counted {h : Heap} {mg : Str → Option Value} {K : PySem.W.Frag} (KX : K.In h) (Gm : h.Ns mainGlobals mg) (c : SaysZ ck fas fn K) : mg ("_law_counted" : Str) = some (.ref (He.ga K ("_law_counted" : Str))) := He.glo_ok KX Gm (c.d.fact 16 rfl)
theorem g__law_fact {h : Heap} {mg : Str → Option Value} {K : PySem.W.Frag} (KX : K.In h) (Gm : h.Ns mainGlobals mg) (c : SaysZ ck fas fn K) : mg ("_law_fact" : Str) = some (.ref (He.ga K ("_law_fact" : Str))) := He.glo_ok KX Gm (c.d.fact 17 rfl)
theorem g__law_fact_due {h : Heap} {mg : Str → Option Value} {K : PySem.W.Frag} (KX : K.In h) (Gm : h.Ns mainGlobals mg) (c : SaysZ ck fas fn K) : mg ("_law_fact_due" : Str) = some (.ref (He.ga K ("_law_fact_due" : Str))) := He.glo_ok KX Gm (c.d.fact 18 rfl)
theorem g__law_list {h : Heap} {mg : Str → Option Value} {K : PySem.W.Frag} (KX : K.In h) (Gm : h.Ns mainGlobals mg) (c : SaysZ ck fas fn K) : mg ("_law_list" : Str) = some (.ref (He.ga K ("_law_list" : Str))) := He.glo_ok KX Gm (c.d.fact 19 rfl)
theorem g__law_next {h : Heap} {mg : Str → Option Value} {K : PySem.W.Frag} (KX : K.In h) (Gm : h.Ns mainGlobals mg) (c : SaysZ ck fas fn K) : mg ("_law_next" : Str) = some (.ref (He.ga K ("_law_next" : Str))) := He.glo_ok KX Gm (c.d.fact 20 rfl)
theorem g__law_numbers {h : Heap} {mg : Str → Option Value} {K : PySem.W.Frag} (KX : K.In h) (Gm : h.Ns mainGlobals mg) (c : SaysZ ck fas fn K) : mg ("_law_numbers" : Str) = some (.ref (He.ga K ("_law_numbers" : Str))) := He.glo_ok KX Gm (c.d.fact 21 rfl)
theorem g__law_offer {h : Heap} {mg : Str → Option Value} {K : PySem.W.Frag} (KX : K.In h) (Gm : h.Ns mainGlobals mg) (c : SaysZ ck fas fn K) : mg ("_law_offer" : Str) = some (.ref (He.ga K ("_law_offer" : Str))) := He.glo_ok KX Gm (c.d.fact 22 rfl)
theorem g__law_parts_agree {h : Heap} {mg : Str → Option Value} {K : PySem.W.Frag} (KX : K.In h) (Gm : h.Ns mainGlobals mg) (c : SaysZ ck fas fn K) : mg ("_law_parts_agree" : Str) = some (.ref (He.ga K ("_law_parts_agree" : Str))) := He.glo_ok KX Gm (c.d.fact 23 rfl)
theorem g__law_record {h : Heap} {mg : Str → Option Value} {K : PySem.W.Frag} (KX : K.In h) (Gm : h.Ns mainGlobals mg) (c : SaysZ ck fas fn K) : mg ("_law_record" : Str) = some (.ref (He.ga K ("_law_record" : Str))) := He.glo_ok KX Gm (c.d.fact 24 rfl)
theorem g__law_record_due {h : Heap} {mg : Str → Option Value} {K : PySem.W.Frag} (KX : K.In h) (Gm : h.Ns mainGlobals mg) (c : SaysZ ck fas fn K) : mg ("_law_record_due" : Str) = some (.ref (He.ga K ("_law_record_due" : Str))) := He.glo_ok KX Gm (c.d.fact 25 rfl)
theorem g__law_region_due {h : Heap} {mg : Str → Option Value} {K : PySem.W.Frag} (KX : K.In h) (Gm : h.Ns mainGlobals mg) (c : SaysZ ck fas fn K) : mg ("_law_region_due" : Str) = some (.ref (He.ga K ("_law_region_due" : Str))) := He.glo_ok KX Gm (c.d.fact 26 rfl)
theorem g__law_row {h : Heap} {mg : Str → Option Value} {K : PySem.W.Frag} (KX : K.In h) (Gm : h.Ns mainGlobals mg) (c : SaysZ ck fas fn K) : mg ("_law_row" : Str) = some (.ref (He.ga K ("_law_row" : Str))) := He.glo_ok KX Gm (c.d.fact 27 rfl)
theorem g__law_string {h : Heap} {mg : Str → Option Value} {K : PySem.W.Frag} (KX : K.In h) (Gm : h.Ns mainGlobals mg) (c : SaysZ ck fas fn K) : mg ("_law_string" : Str) = some (.ref (He.ga K ("_law_string" : Str))) := He.glo_ok KX Gm (c.d.fact 28 rfl)
theorem g__law_text {h : Heap} {mg : Str → Option Value} {K : PySem.W.Frag} (KX : K.In h) (Gm : h.Ns mainGlobals mg) (c : SaysZ ck fas fn K) : mg ("_law_text" : Str) = some (.ref (He.ga K ("_law_text" : Str))) := He.glo_ok KX Gm (c.d.fact 29 rfl)
theorem g__law_value {h : Heap} {mg : Str → Option Value} {K : PySem.W.Frag} (KX : K.In h) (Gm : h.Ns mainGlobals mg) (c : SaysZ ck fas fn K) : mg ("_law_value" : Str) = some (.ref (He.ga K ("_law_value" : Str))) := He.glo_ok KX Gm (c.d.fact 30 rfl)
theorem g__law_worth {h : Heap} {mg : Str → Option Value} {K : PySem.W.Frag} (KX : K.In h) (Gm : h.Ns mainGlobals mg) (c : SaysZ ck fas fn K) : mg ("_law_worth" : Str) = some (.ref (He.ga K ("_law_worth" : Str))) := He.glo_ok KX Gm (c.d.fact 31 rfl)
theorem g_entry_code {h : Heap} {mg : Str → Option Value} {K : PySem.W.Frag} (KX : K.In h) (Gm : h.Ns mainGlobals mg) (c : SaysZ ck fas fn K) : mg ("entry_code" : Str) = some (.ref (He.ga K ("entry_code" : Str))) := He.glo_ok KX Gm (c.d.fact 32 rfl)
theorem g_fact_code {h : Heap} {mg : Str → Option Value} {K : PySem.W.Frag} (KX : K.In h) (Gm : h.Ns mainGlobals mg) (c : SaysZ ck fas fn K) : mg ("fact_code" : Str) = some (.ref (He.ga K ("fact_code" : Str))) := He.glo_ok KX Gm (c.d.fact 33 rfl)
theorem g_law {h : Heap} {mg : Str → Option Value} {K : PySem.W.Frag} (KX : K.In h) (Gm : h.Ns mainGlobals mg) (c : SaysZ ck fas fn K) : mg ("law" : Str) = some (.ref (He.ga K ("law" : Str))) := He.glo_ok KX Gm (c.d.fact 34 rfl)
theorem g_list_code {h : Heap} {mg : Str → Option Value} {K : PySem.W.Frag} (KX : K.In h) (Gm : h.Ns mainGlobals mg) (c : SaysZ ck fas fn K) : mg ("list_code" : Str) = some (.ref (He.ga K ("list_code" : Str))) := He.glo_ok KX Gm (c.d.fact 35 rfl)
theorem g_maybe_code {h : Heap} {mg : Str → Option Value} {K : PySem.W.Frag} (KX : K.In h) (Gm : h.Ns mainGlobals mg) (c : SaysZ ck fas fn K) : mg ("maybe_code" : Str) = some (.ref (He.ga K ("maybe_code" : Str))) := He.glo_ok KX Gm (c.d.fact 36 rfl)
theorem g_numbers_code {h : Heap} {mg : Str → Option Value} {K : PySem.W.Frag} (KX : K.In h) (Gm : h.Ns mainGlobals mg) (c : SaysZ ck fas fn K) : mg ("numbers_code" : Str) = some (.ref (He.ga K ("numbers_code" : Str))) := He.glo_ok KX Gm (c.d.fact 37 rfl)
theorem g_offer_code {h : Heap} {mg : Str → Option Value} {K : PySem.W.Frag} (KX : K.In h) (Gm : h.Ns mainGlobals mg) (c : SaysZ ck fas fn K) : mg ("offer_code" : Str) = some (.ref (He.ga K ("offer_code" : Str))) := He.glo_ok KX Gm (c.d.fact 38 rfl)
theorem g_pairs_code {h : Heap} {mg : Str → Option Value} {K : PySem.W.Frag} (KX : K.In h) (Gm : h.Ns mainGlobals mg) (c : SaysZ ck fas fn K) : mg ("pairs_code" : Str) = some (.ref (He.ga K ("pairs_code" : Str))) := He.glo_ok KX Gm (c.d.fact 39 rfl)
theorem g_partition_code {h : Heap} {mg : Str → Option Value} {K : PySem.W.Frag} (KX : K.In h) (Gm : h.Ns mainGlobals mg) (c : SaysZ ck fas fn K) : mg ("partition_code" : Str) = some (.ref (He.ga K ("partition_code" : Str))) := He.glo_ok KX Gm (c.d.fact 40 rfl)
theorem g_record_code {h : Heap} {mg : Str → Option Value} {K : PySem.W.Frag} (KX : K.In h) (Gm : h.Ns mainGlobals mg) (c : SaysZ ck fas fn K) : mg ("record_code" : Str) = some (.ref (He.ga K ("record_code" : Str))) := He.glo_ok KX Gm (c.d.fact 41 rfl)
theorem g_region_code {h : Heap} {mg : Str → Option Value} {K : PySem.W.Frag} (KX : K.In h) (Gm : h.Ns mainGlobals mg) (c : SaysZ ck fas fn K) : mg ("region_code" : Str) = some (.ref (He.ga K ("region_code" : Str))) := He.glo_ok KX Gm (c.d.fact 42 rfl)
theorem g_string_code {h : Heap} {mg : Str → Option Value} {K : PySem.W.Frag} (KX : K.In h) (Gm : h.Ns mainGlobals mg) (c : SaysZ ck fas fn K) : mg ("string_code" : Str) = some (.ref (He.ga K ("string_code" : Str))) := He.glo_ok KX Gm (c.d.fact 43 rfl)
theorem g_value_code {h : Heap} {mg : Str → Option Value} {K : PySem.W.Frag} (KX : K.In h) (Gm : h.Ns mainGlobals mg) (c : SaysZ ck fas fn K) : mg ("value_code" : Str) = some (.ref (He.ga K ("value_code" : Str))) := He.glo_ok KX Gm (c.d.fact 44 rfl)
theorem fr_bool {h : Heap} {mg : Str → Option Value} {K : PySem.W.Frag} (KX : K.In h) (Gm : h.Ns mainGlobals mg) (c : SaysZ ck fas fn K) : mg ("bool" : Str) = none := He.free_ok KX Gm (c.d.fact 45 rfl)
theorem fr_int {h : Heap} {mg : Str → Option Value} {K : PySem.W.Frag} (KX : K.In h) (Gm : h.Ns mainGlobals mg) (c : SaysZ ck fas fn K) : mg ("int" : Str) = none := He.free_ok KX Gm (c.d.fact 46 rfl)
theorem fr_isinstance {h : Heap} {mg : Str → Option Value} {K : PySem.W.Frag} (KX : K.In h) (Gm : h.Ns mainGlobals mg) (c : SaysZ ck fas fn K) : mg ("isinstance" : Str) = none := He.free_ok KX Gm (c.d.fact 47 rfl)
theorem fr_len {h : Heap} {mg : Str → Option Value} {K : PySem.W.Frag} (KX : K.In h) (Gm : h.Ns mainGlobals mg) (c : SaysZ ck fas fn K) : mg ("len" : Str) = none := He.free_ok KX Gm (c.d.fact 48 rfl)
theorem fr_list {h : Heap} {mg : Str → Option Value} {K : PySem.W.Frag} (KX : K.In h) (Gm : h.Ns mainGlobals mg) (c : SaysZ ck fas fn K) : mg ("list" : Str) = none := He.free_ok KX Gm (c.d.fact 49 rfl)
theorem fr_ord {h : Heap} {mg : Str → Option Value} {K : PySem.W.Frag} (KX : K.In h) (Gm : h.Ns mainGlobals mg) (c : SaysZ ck fas fn K) : mg ("ord" : Str) = none := He.free_ok KX Gm (c.d.fact 50 rfl)
theorem fr_range {h : Heap} {mg : Str → Option Value} {K : PySem.W.Frag} (KX : K.In h) (Gm : h.Ns mainGlobals mg) (c : SaysZ ck fas fn K) : mg ("range" : Str) = none := He.free_ok KX Gm (c.d.fact 51 rfl)
theorem fr_str {h : Heap} {mg : Str → Option Value} {K : PySem.W.Frag} (KX : K.In h) (Gm : h.Ns mainGlobals mg) (c : SaysZ ck fas fn K) : mg ("str" : Str) = none := He.free_ok KX Gm (c.d.fact 52 rfl)
theorem fr_tuple {h : Heap} {mg : Str → Option Value} {K : PySem.W.Frag} (KX : K.In h) (Gm : h.Ns mainGlobals mg) (c : SaysZ ck fas fn K) : mg ("tuple" : Str) = none := He.free_ok KX Gm (c.d.fact 53 rfl)
theorem mk_Box {K : PySem.W.Frag} (c : SaysZ ck fas fn K) : Mk K (He.ga K ("Box" : Str)) (He.ma K (He.ga K ("Box" : Str)) "__init__") := He.mkr_ok (c.d.fact 54 rfl)
theorem cls_Box {K : PySem.W.Frag} (c : SaysZ ck fas fn K) : Cls K (He.ga K ("Box" : Str)) := He.cls_ok (c.d.fact 55 rfl)
theorem mk_Cell {K : PySem.W.Frag} (c : SaysZ ck fas fn K) : Mk K (He.ga K ("Cell" : Str)) (He.ma K (He.ga K ("Cell" : Str)) "__init__") := He.mkr_ok (c.d.fact 56 rfl)
theorem cls_Cell {K : PySem.W.Frag} (c : SaysZ ck fas fn K) : Cls K (He.ga K ("Cell" : Str)) := He.cls_ok (c.d.fact 57 rfl)
theorem mk_Counts {K : PySem.W.Frag} (c : SaysZ ck fas fn K) : Mk K (He.ga K ("Counts" : Str)) (He.ma K (He.ga K ("Counts" : Str)) "__init__") := He.mkr_ok (c.d.fact 58 rfl)
theorem cls_Counts {K : PySem.W.Frag} (c : SaysZ ck fas fn K) : Cls K (He.ga K ("Counts" : Str)) := He.cls_ok (c.d.fact 59 rfl)
theorem mk_Differ {K : PySem.W.Frag} (c : SaysZ ck fas fn K) : Mk K (He.ga K ("Differ" : Str)) (He.ma K (He.ga K ("Differ" : Str)) "__init__") := He.mkr_ok (c.d.fact 60 rfl)
theorem cls_Differ {K : PySem.W.Frag} (c : SaysZ ck fas fn K) : Cls K (He.ga K ("Differ" : Str)) := He.cls_ok (c.d.fact 61 rfl)
theorem mk_Entry {K : PySem.W.Frag} (c : SaysZ ck fas fn K) : Mk K (He.ga K ("Entry" : Str)) (He.ma K (He.ga K ("Entry" : Str)) "__init__") := He.mkr_ok (c.d.fact 62 rfl)
theorem cls_Entry {K : PySem.W.Frag} (c : SaysZ ck fas fn K) : Cls K (He.ga K ("Entry" : Str)) := He.cls_ok (c.d.fact 63 rfl)
theorem mk_Names {K : PySem.W.Frag} (c : SaysZ ck fas fn K) : Mk K (He.ga K ("Names" : Str)) (He.ma K (He.ga K ("Names" : Str)) "__init__") := He.mkr_ok (c.d.fact 64 rfl)
theorem cls_Names {K : PySem.W.Frag} (c : SaysZ ck fas fn K) : Cls K (He.ga K ("Names" : Str)) := He.cls_ok (c.d.fact 65 rfl)
theorem mk_Norms {K : PySem.W.Frag} (c : SaysZ ck fas fn K) : Mk K (He.ga K ("Norms" : Str)) (He.ma K (He.ga K ("Norms" : Str)) "__init__") := He.mkr_ok (c.d.fact 66 rfl)
theorem cls_Norms {K : PySem.W.Frag} (c : SaysZ ck fas fn K) : Cls K (He.ga K ("Norms" : Str)) := He.cls_ok (c.d.fact 67 rfl)
theorem mk_Offer {K : PySem.W.Frag} (c : SaysZ ck fas fn K) : Mk K (He.ga K ("Offer" : Str)) (He.ma K (He.ga K ("Offer" : Str)) "__init__") := He.mkr_ok (c.d.fact 68 rfl)
theorem cls_Offer {K : PySem.W.Frag} (c : SaysZ ck fas fn K) : Cls K (He.ga K ("Offer" : Str)) := He.cls_ok (c.d.fact 69 rfl)
theorem mk_Part {K : PySem.W.Frag} (c : SaysZ ck fas fn K) : Mk K (He.ga K ("Part" : Str)) (He.ma K (He.ga K ("Part" : Str)) "__init__") := He.mkr_ok (c.d.fact 70 rfl)
theorem cls_Part {K : PySem.W.Frag} (c : SaysZ ck fas fn K) : Cls K (He.ga K ("Part" : Str)) := He.cls_ok (c.d.fact 71 rfl)
theorem mk_Parts {K : PySem.W.Frag} (c : SaysZ ck fas fn K) : Mk K (He.ga K ("Parts" : Str)) (He.ma K (He.ga K ("Parts" : Str)) "__init__") := He.mkr_ok (c.d.fact 72 rfl)
theorem cls_Parts {K : PySem.W.Frag} (c : SaysZ ck fas fn K) : Cls K (He.ga K ("Parts" : Str)) := He.cls_ok (c.d.fact 73 rfl)
theorem mk_Range {K : PySem.W.Frag} (c : SaysZ ck fas fn K) : Mk K (He.ga K ("Range" : Str)) (He.ma K (He.ga K ("Range" : Str)) "__init__") := He.mkr_ok (c.d.fact 74 rfl)
theorem cls_Range {K : PySem.W.Frag} (c : SaysZ ck fas fn K) : Cls K (He.ga K ("Range" : Str)) := He.cls_ok (c.d.fact 75 rfl)
theorem mk_Record {K : PySem.W.Frag} (c : SaysZ ck fas fn K) : Mk K (He.ga K ("Record" : Str)) (He.ma K (He.ga K ("Record" : Str)) "__init__") := He.mkr_ok (c.d.fact 76 rfl)
theorem cls_Record {K : PySem.W.Frag} (c : SaysZ ck fas fn K) : Cls K (He.ga K ("Record" : Str)) := He.cls_ok (c.d.fact 77 rfl)
theorem mk_Region {K : PySem.W.Frag} (c : SaysZ ck fas fn K) : Mk K (He.ga K ("Region" : Str)) (He.ma K (He.ga K ("Region" : Str)) "__init__") := He.mkr_ok (c.d.fact 78 rfl)
theorem cls_Region {K : PySem.W.Frag} (c : SaysZ ck fas fn K) : Cls K (He.ga K ("Region" : Str)) := He.cls_ok (c.d.fact 79 rfl)
theorem mk_Values {K : PySem.W.Frag} (c : SaysZ ck fas fn K) : Mk K (He.ga K ("Values" : Str)) (He.ma K (He.ga K ("Values" : Str)) "__init__") := He.mkr_ok (c.d.fact 80 rfl)
theorem cls_Values {K : PySem.W.Frag} (c : SaysZ ck fas fn K) : Cls K (He.ga K ("Values" : Str)) := He.cls_ok (c.d.fact 81 rfl)
theorem hfa {K : PySem.W.Frag} (c : SaysZ ck fas fn K) : FaOk (nm K) fa := faOk_of (c.at 0 rfl)
theorem qo_Box {K : PySem.W.Frag} (c : SaysZ ck fas fn K) : QOk (nm K) (.ref (He.ga K ("Box" : Str))) q_Box := qOk_own (c.at 1 rfl)
theorem qo_Cell {K : PySem.W.Frag} (c : SaysZ ck fas fn K) : QOk (nm K) (.ref (He.ga K ("Cell" : Str))) q_Cell := qOk_own (c.at 2 rfl)
theorem qo_Counts {K : PySem.W.Frag} (c : SaysZ ck fas fn K) : QOk (nm K) (.ref (He.ga K ("Counts" : Str))) q_Counts := qOk_own (c.at 3 rfl)
theorem qo_Differ {K : PySem.W.Frag} (c : SaysZ ck fas fn K) : QOk (nm K) (.ref (He.ga K ("Differ" : Str))) q_Differ := qOk_own (c.at 4 rfl)
theorem qo_Names {K : PySem.W.Frag} (c : SaysZ ck fas fn K) : QOk (nm K) (.ref (He.ga K ("Names" : Str))) q_Names := qOk_own (c.at 5 rfl)
theorem qo_Norms {K : PySem.W.Frag} (c : SaysZ ck fas fn K) : QOk (nm K) (.ref (He.ga K ("Norms" : Str))) q_Norms := qOk_own (c.at 6 rfl)
theorem qo_Parts {K : PySem.W.Frag} (c : SaysZ ck fas fn K) : QOk (nm K) (.ref (He.ga K ("Parts" : Str))) q_Parts := qOk_own (c.at 7 rfl)
theorem qo_Range {K : PySem.W.Frag} (c : SaysZ ck fas fn K) : QOk (nm K) (.ref (He.ga K ("Range" : Str))) q_Range := qOk_own (c.at 8 rfl)
theorem qo_Values {K : PySem.W.Frag} (c : SaysZ ck fas fn K) : QOk (nm K) (.ref (He.ga K ("Values" : Str))) q_Values := qOk_own (c.at 9 rfl)
theorem qo_bool {K : PySem.W.Frag} (c : SaysZ ck fas fn K) : QOk (nm K) (.type "bool") q_bool := qOk_ty (by decide +kernel) rfl
theorem qo_str {K : PySem.W.Frag} (c : SaysZ ck fas fn K) : QOk (nm K) (.type "str") q_str := qOk_ty (by decide +kernel) rfl
theorem sup_FieldFact {K : PySem.W.Frag} (c : SaysZ ck fas fn K) : ClX.CRead K (He.ga K ("FieldFact" : Str)) (.type "type") ∧ ClX.CVal K (He.ga K ("FieldFact" : Str)) (.type "type") "__init__" (.ref (He.ma K (He.ga K ("FieldFact" : Str)) "__init__")) (.ref (He.ma K (He.ga K ("FieldFact" : Str)) "__init__")) := supB_ok (c.at 10 rfl)
theorem tt_LACKS {K : PySem.W.Frag} (c : SaysZ ck fas fn K) (H : Hp) : SqT K H (He.ga K ("LACKS" : Str)) (zs_LACKS.map V.str) := He.tupB_ok (c.at 11 rfl) H
theorem th_LACKS {K : PySem.W.Frag} (c : SaysZ ck fas fn K) : ∃ o, K.lookup (He.ga K ("LACKS" : Str)) = some o ∧ o.cls = .type "tuple" ∧ o.dict = none := tupH_ok (c.at 12 rfl)
/-! ### each def keeps its word -/
section
variable {P : Program} {w : PySem.World} {K : PySem.W.Frag} {mg : Str → Option Value} {base h : Heap}
abbrev ns__law_row : List Str := ["_law_script", "_law_k", "_law_cell", "_law_a", "_law_b", "_law_c"]
abbrev ps__law_row : List Str := ["_law_script", "_law_k"]
theorem sc__law_row : FnScope ns__law_row ps__law_row (defScope (top 42)) := ⟨rfl, rfl, rfl, by decide +kernel, rfl, by decide +kernel, by decide +kernel⟩
theorem b__law_row {fd : FuncData} (F : FunD K "_law_row" "_law_row" (defArgs (top 42)) (defBody (top 42)) (defScope (top 42)) [] (d_0.kws K) (He.fAd K (("_law_row" : Str), none)) fd) : Bn (nm K) fd ps__law_row ps__law_row.length [] gId := .plain (FunD.bindsN F fun _ _ _ _ _ _ us hl => match us, hl with | [_, _], _ => rfl)
theorem bo__law_row (KX : K.In h) (Gm : h.Ns mainGlobals mg) (c : SaysZ ck fas fn K) : BodyOk P w K mg base "_law_row" (defScope (top 42)) (defBody (top 42)) (He.fAd K (("_law_row" : Str), none)) ns__law_row (nm K) 0 sv__law_row := by
  have nd := (sc__law_row).nd
  intro cdv A outer s H E hr tk hp
  exact z_cons (z_set (i := 2) nd rfl (by first | exact .inl rfl | exact .inr rfl) (z_up (z_int))) (z_cons (z_ifS (z_tcmp op_ltU os_ltU (z_var (i := 1)) (z_b1 call_lenU (us_len rfl) (by rfl) (fr_len KX Gm c) boot_len (z_var (i := 0)))) (z_one1 (z_set (i := 2) nd rfl (by first | exact .inl rfl | exact .inr rfl) (z_up (z_ix rfl (z_var (i := 0)) (z_var (i := 1)))))) (z_nil)) (z_cons (z_ifS (z_tcmp op_ltU os_ltU (z_var (i := 2)) (z_int)) (z_one1 (z_set (i := 2) nd rfl (by first | exact .inl rfl | exact .inr rfl) (z_up (z_bin op_sub os_sub (z_bin op_mul os_mul (z_un (z_int)) (z_var (i := 2))) (z_int))))) (z_nil)) (z_cons (z_ifS (z_tcmp op_ltU os_ltU (z_var (i := 2)) (z_bin op_pow os_pow (z_int) (z_int))) (z_cons (z_set (i := 3) nd rfl (by first | exact .inl rfl | exact .inr rfl) (z_up (z_bin op_mod os_mod (z_t1 call_intU us_int1 (by rfl) (fr_int KX Gm c) boot_int (z_bin op_addU os_add (z_bin op_addU os_add (z_bin op_mul os_mul (z_var (i := 2)) (z_int)) (z_bin op_mul os_mul (z_var (i := 1)) (z_int))) (z_int))) (z_int)))) (z_cons (z_set (i := 4) nd rfl (by first | exact .inl rfl | exact .inr rfl) (z_up (z_bin op_mod os_mod (z_t1 call_intU us_int1 (by rfl) (fr_int KX Gm c) boot_int (z_bin op_addU os_add (z_bin op_addU os_add (z_bin op_addU os_add (z_bin op_mul os_mul (z_var (i := 3)) (z_int)) (z_bin op_mul os_mul (z_var (i := 2)) (z_int))) (z_var (i := 1))) (z_int))) (z_int)))) (z_cons (z_set (i := 5) nd rfl (by first | exact .inl rfl | exact .inr rfl) (z_up (z_bin op_mod os_mod (z_t1 call_intU us_int1 (by rfl) (fr_int KX Gm c) boot_int (z_bin op_addU os_add (z_bin op_addU os_add (z_bin op_mul os_mul (z_var (i := 4)) (z_int)) (z_bin op_mul os_mul (z_var (i := 3)) (z_var (i := 4)))) (z_int))) (z_int)))) (z_one1 (z_set (i := 2) nd rfl (by first | exact .inl rfl | exact .inr rfl) (z_up (z_bin op_addU os_add (z_bin op_addU os_add (z_var (i := 3)) (z_bin op_mul os_mul (z_var (i := 4)) (z_int))) (z_bin op_mul os_mul (z_var (i := 5)) (z_bin op_pow os_pow (z_int) (z_int)))))))))) (z_nil)) (z_one1 (z_ret (z_up (z_var (i := 2))))))))
theorem ok__law_row (KX : K.In h) (Gm : h.Ns mainGlobals mg) (c : SaysZ ck fas fn K) : ∃ fd, (FunD K "_law_row" "_law_row" (defArgs (top 42)) (defBody (top 42)) (defScope (top 42)) [] (d_0.kws K) (He.fAd K (("_law_row" : Str), none)) fd) ∧ FnOk P w K mg base (L2.CX P w) 1 (He.fAd K (("_law_row" : Str), none)) fd ps__law_row (spF (nm K) F__law_row ps__law_row.length) := by
  obtain ⟨fd, F⟩ := c.d.def_ 0 (d := d_0) rfl
  exact ⟨fd, F, z_fun F sc__law_row (bo__law_row KX Gm c)⟩
abbrev ns__law_next : List Str := ["_law_state", "_law_many", "_law_drawn"]
abbrev ps__law_next : List Str := ["_law_state", "_law_many"]
theorem sc__law_next : FnScope ns__law_next ps__law_next (defScope (top 43)) := ⟨rfl, rfl, rfl, by decide +kernel, rfl, by decide +kernel, by decide +kernel⟩
theorem b__law_next {fd : FuncData} (F : FunD K "_law_next" "_law_next" (defArgs (top 43)) (defBody (top 43)) (defScope (top 43)) [] (d_1.kws K) (He.fAd K (("_law_next" : Str), none)) fd) : Bn (nm K) fd ps__law_next ps__law_next.length [] gId := .plain (FunD.bindsN F fun _ _ _ _ _ _ us hl => match us, hl with | [_, _], _ => rfl)
theorem bo__law_next (KX : K.In h) (Gm : h.Ns mainGlobals mg) (c : SaysZ ck fas fn K) : BodyOk P w K mg base "_law_next" (defScope (top 43)) (defBody (top 43)) (He.fAd K (("_law_next" : Str), none)) ns__law_next (nm K) 1 sv__law_next := by
  have nd := (sc__law_next).nd
  obtain ⟨fd__law_row, D__law_row, G__law_row⟩ := ok__law_row (P := P) (w := w) (base := base) KX Gm c
  intro cdv A outer s H E hr tk hp
  exact z_cons (z_ifS (z_tcmp op_ltU os_ltU (z_ix rfl (z_var (i := 0)) (z_int)) (z_var (i := 1))) (z_cons (z_setIx (z_call (F := F__law_row) rfl tk G__law_row (hr.mono (by decide)) (b__law_row D__law_row) (by rfl) (g__law_row KX Gm c) D__law_row.kp (z_acons (z_up (z_ix rfl (z_var (i := 0)) (z_int))) (z_acons (z_up (z_ix rfl (z_var (i := 0)) (z_int))) (z_anil))) (alen_cons (alen_cons alen_nil))) (z_up (z_var (i := 0))) (z_up (z_int))) (z_one1 (z_setIx (z_up (z_bin op_addU os_add (z_ix rfl (z_var (i := 0)) (z_int)) (z_int))) (z_up (z_var (i := 0))) (z_up (z_int))))) (z_nil)) (z_cons (z_set (i := 2) nd rfl (by first | exact .inl rfl | exact .inr rfl) (z_up (z_bin op_mod os_mod (z_t1 call_intU us_int1 (by rfl) (fr_int KX Gm c) boot_int (z_ix rfl (z_var (i := 0)) (z_int))) (z_var (i := 1))))) (z_cons (z_setIx (z_up (z_bin op_fdivW os_fdiv (z_ix rfl (z_var (i := 0)) (z_int)) (z_var (i := 1)))) (z_up (z_var (i := 0))) (z_up (z_int))) (z_one1 (z_ret (z_up (z_var (i := 2)))))))
theorem ok__law_next (KX : K.In h) (Gm : h.Ns mainGlobals mg) (c : SaysZ ck fas fn K) : ∃ fd, (FunD K "_law_next" "_law_next" (defArgs (top 43)) (defBody (top 43)) (defScope (top 43)) [] (d_1.kws K) (He.fAd K (("_law_next" : Str), none)) fd) ∧ FnOk P w K mg base (L2.CX P w) 2 (He.fAd K (("_law_next" : Str), none)) fd ps__law_next (spF (nm K) F__law_next ps__law_next.length) := by
  obtain ⟨fd, F⟩ := c.d.def_ 1 (d := d_1) rfl
  exact ⟨fd, F, z_fun F sc__law_next (bo__law_next KX Gm c)⟩
abbrev ns__law_string : List Str := ["_law_state"]
abbrev ps__law_string : List Str := ["_law_state"]
theorem sc__law_string : FnScope ns__law_string ps__law_string (defScope (top 44)) := ⟨rfl, rfl, rfl, by decide +kernel, rfl, by decide +kernel, by decide +kernel⟩
theorem b__law_string {fd : FuncData} (F : FunD K "_law_string" "_law_string" (defArgs (top 44)) (defBody (top 44)) (defScope (top 44)) [] (d_2.kws K) (He.fAd K (("_law_string" : Str), none)) fd) : Bn (nm K) fd ps__law_string ps__law_string.length [] gId := .plain (FunD.bindsN F fun _ _ _ _ _ _ us hl => match us, hl with | [_], _ => rfl)
theorem bo__law_string (KX : K.In h) (Gm : h.Ns mainGlobals mg) (c : SaysZ ck fas fn K) : BodyOk P w K mg base "_law_string" (defScope (top 44)) (defBody (top 44)) (He.fAd K (("_law_string" : Str), none)) ns__law_string (nm K) 2 sv__law_string := by
  have nd := (sc__law_string).nd
  obtain ⟨fd__law_next, D__law_next, G__law_next⟩ := ok__law_next (P := P) (w := w) (base := base) KX Gm c
  intro cdv A outer s H E hr tk hp
  exact z_one1 (z_ret (z_ixE rfl (z_lst (z_disp (z_acons (z_up (z_str)) (z_acons (z_up (z_str)) (z_acons (z_up (z_str)) (z_acons (z_up (z_str)) (z_acons (z_up (z_str)) (z_acons (z_up (z_str)) (z_anil))))))))) (z_call (F := F__law_next) rfl tk G__law_next (hr.mono (by decide)) (b__law_next D__law_next) (by rfl) (g__law_next KX Gm c) D__law_next.kp (z_acons (z_up (z_var (i := 0))) (z_acons (z_up (z_int)) (z_anil))) (alen_cons (alen_cons alen_nil)))))
theorem ok__law_string (KX : K.In h) (Gm : h.Ns mainGlobals mg) (c : SaysZ ck fas fn K) : ∃ fd, (FunD K "_law_string" "_law_string" (defArgs (top 44)) (defBody (top 44)) (defScope (top 44)) [] (d_2.kws K) (He.fAd K (("_law_string" : Str), none)) fd) ∧ FnOk P w K mg base (L2.CX P w) 3 (He.fAd K (("_law_string" : Str), none)) fd ps__law_string (spF (nm K) F__law_string ps__law_string.length) := by
  obtain ⟨fd, F⟩ := c.d.def_ 2 (d := d_2) rfl
  exact ⟨fd, F, z_fun F sc__law_string (bo__law_string KX Gm c)⟩
abbrev ns__law_worth : List Str := ["_law_state"]
abbrev ps__law_worth : List Str := ["_law_state"]
theorem sc__law_worth : FnScope ns__law_worth ps__law_worth (defScope (top 46)) := ⟨rfl, rfl, rfl, by decide +kernel, rfl, by decide +kernel, by decide +kernel⟩
theorem b__law_worth {fd : FuncData} (F : FunD K "_law_worth" "_law_worth" (defArgs (top 46)) (defBody (top 46)) (defScope (top 46)) [] (d_3.kws K) (He.fAd K (("_law_worth" : Str), none)) fd) : Bn (nm K) fd ps__law_worth ps__law_worth.length [] gId := .plain (FunD.bindsN F fun _ _ _ _ _ _ us hl => match us, hl with | [_], _ => rfl)
theorem bo__law_worth (KX : K.In h) (Gm : h.Ns mainGlobals mg) (c : SaysZ ck fas fn K) : BodyOk P w K mg base "_law_worth" (defScope (top 46)) (defBody (top 46)) (He.fAd K (("_law_worth" : Str), none)) ns__law_worth (nm K) 3 sv__law_worth := by
  have nd := (sc__law_worth).nd
  obtain ⟨fd__law_next, D__law_next, G__law_next⟩ := ok__law_next (P := P) (w := w) (base := base) KX Gm c
  obtain ⟨fd__law_string, D__law_string, G__law_string⟩ := ok__law_string (P := P) (w := w) (base := base) KX Gm c
  intro cdv A outer s H E hr tk hp
  exact z_one1 (z_ret (z_ixE rfl (z_lst (z_disp (z_acons (z_binE op_sub os_sub (z_call (F := F__law_next) rfl tk G__law_next (hr.mono (by decide)) (b__law_next D__law_next) (by rfl) (g__law_next KX Gm c) D__law_next.kp (z_acons (z_up (z_var (i := 0))) (z_acons (z_up (z_int)) (z_anil))) (alen_cons (alen_cons alen_nil))) (z_up (z_int))) (z_acons (z_call (F := F__law_string) rfl tk G__law_string (hr.mono (by decide)) (b__law_string D__law_string) (by rfl) (g__law_string KX Gm c) D__law_string.kp (z_acons (z_up (z_var (i := 0))) (z_anil)) (alen_cons alen_nil)) (z_acons (z_cmpE (op_eqD (hu4 hr)) (os_eq rfl) (z_call (F := F__law_next) rfl tk G__law_next (hr.mono (by decide)) (b__law_next D__law_next) (by rfl) (g__law_next KX Gm c) D__law_next.kp (z_acons (z_up (z_var (i := 0))) (z_acons (z_up (z_int)) (z_anil))) (alen_cons (alen_cons alen_nil))) (z_up (z_int))) (z_anil)))))) (z_call (F := F__law_next) rfl tk G__law_next (hr.mono (by decide)) (b__law_next D__law_next) (by rfl) (g__law_next KX Gm c) D__law_next.kp (z_acons (z_up (z_var (i := 0))) (z_acons (z_up (z_int)) (z_anil))) (alen_cons (alen_cons alen_nil)))))
theorem ok__law_worth (KX : K.In h) (Gm : h.Ns mainGlobals mg) (c : SaysZ ck fas fn K) : ∃ fd, (FunD K "_law_worth" "_law_worth" (defArgs (top 46)) (defBody (top 46)) (defScope (top 46)) [] (d_3.kws K) (He.fAd K (("_law_worth" : Str), none)) fd) ∧ FnOk P w K mg base (L2.CX P w) 4 (He.fAd K (("_law_worth" : Str), none)) fd ps__law_worth (spF (nm K) F__law_worth ps__law_worth.length) := by
  obtain ⟨fd, F⟩ := c.d.def_ 3 (d := d_3) rfl
  exact ⟨fd, F, z_fun F sc__law_worth (bo__law_worth KX Gm c)⟩
abbrev ns__law_numbers : List Str := ["_law_state", "_law_k"]
abbrev ps__law_numbers : List Str := ["_law_state"]
theorem sc__law_numbers : FnScope ns__law_numbers ps__law_numbers (defScope (top 45)) := ⟨rfl, rfl, rfl, by decide +kernel, rfl, by decide +kernel, by decide +kernel⟩
theorem b__law_numbers {fd : FuncData} (F : FunD K "_law_numbers" "_law_numbers" (defArgs (top 45)) (defBody (top 45)) (defScope (top 45)) [] (d_4.kws K) (He.fAd K (("_law_numbers" : Str), none)) fd) : Bn (nm K) fd ps__law_numbers ps__law_numbers.length [] gId := .plain (FunD.bindsN F fun _ _ _ _ _ _ us hl => match us, hl with | [_], _ => rfl)
theorem bo__law_numbers (KX : K.In h) (Gm : h.Ns mainGlobals mg) (c : SaysZ ck fas fn K) : BodyOk P w K mg base "_law_numbers" (defScope (top 45)) (defBody (top 45)) (He.fAd K (("_law_numbers" : Str), none)) ns__law_numbers (nm K) 2 sv__law_numbers := by
  have nd := (sc__law_numbers).nd
  obtain ⟨fd__law_next, D__law_next, G__law_next⟩ := ok__law_next (P := P) (w := w) (base := base) KX Gm c
  intro cdv A outer s H E hr tk hp
  exact z_one1 (z_ret (z_lst (z_lc (own := [(("_law_k" : Str), 1)]) rfl nd (z_range1 (by rfl) (fr_range KX Gm c) (z_acons (z_call (F := F__law_next) rfl tk G__law_next (hr.mono (by decide)) (b__law_next D__law_next) (by rfl) (g__law_next KX Gm c) D__law_next.kp (z_acons (z_up (z_var (i := 0))) (z_acons (z_up (z_int)) (z_anil))) (alen_cons (alen_cons alen_nil))) (z_anil))) rfl (by decide) (fun _ _ _ _ _ => z_gname (i := 1) nd rfl (by first | exact .inl rfl | exact .inr rfl)) (fun _ _ _ _ _ => z_ifs0) (fun _ _ _ _ _ => z_binE op_sub os_sub (z_call (F := F__law_next) rfl tk0 G__law_next (hr.mono (by decide)) (b__law_next D__law_next) (by rfl) (g__law_next KX Gm c) D__law_next.kp (z_acons (z_up (z_var (i := 0))) (z_acons (z_up (z_int)) (z_anil))) (alen_cons (alen_cons alen_nil))) (z_up (z_int))))))
theorem ok__law_numbers (KX : K.In h) (Gm : h.Ns mainGlobals mg) (c : SaysZ ck fas fn K) : ∃ fd, (FunD K "_law_numbers" "_law_numbers" (defArgs (top 45)) (defBody (top 45)) (defScope (top 45)) [] (d_4.kws K) (He.fAd K (("_law_numbers" : Str), none)) fd) ∧ FnOk P w K mg base (L2.CX P w) 3 (He.fAd K (("_law_numbers" : Str), none)) fd ps__law_numbers (spF (nm K) F__law_numbers ps__law_numbers.length) := by
  obtain ⟨fd, F⟩ := c.d.def_ 4 (d := d_4) rfl
  exact ⟨fd, F, z_fun F sc__law_numbers (bo__law_numbers KX Gm c)⟩
abbrev ns_numbers_code : List Str := ["numbers"]
abbrev ps_numbers_code : List Str := ["numbers"]
theorem sc_numbers_code : FnScope ns_numbers_code ps_numbers_code (defScope (top 25)) := ⟨rfl, rfl, rfl, by decide +kernel, rfl, by decide +kernel, by decide +kernel⟩
theorem b_numbers_code {fd : FuncData} (F : FunD K "numbers_code" "numbers_code" (defArgs (top 25)) (defBody (top 25)) (defScope (top 25)) [] (d_5.kws K) (He.fAd K (("numbers_code" : Str), none)) fd) : Bn (nm K) fd ps_numbers_code ps_numbers_code.length [] gId := .plain (FunD.bindsN F fun _ _ _ _ _ _ us hl => match us, hl with | [_], _ => rfl)
theorem bo_numbers_code (KX : K.In h) (Gm : h.Ns mainGlobals mg) (c : SaysZ ck fas fn K) : BodyOk P w K mg base "numbers_code" (defScope (top 25)) (defBody (top 25)) (He.fAd K (("numbers_code" : Str), none)) ns_numbers_code (nm K) 0 sv_numbers_code := by
  have nd := (sc_numbers_code).nd
  intro cdv A outer s H E hr tk hp
  exact z_one1 (z_ret (z_binE op_addU os_add (z_lst (z_disp (z_acons (z_up (z_b1 call_lenU (us_len rfl) (by rfl) (fr_len KX Gm c) boot_len (z_var (i := 0)))) (z_anil)))) (z_lst (z_t1F call_list_of (uf_list rfl) (by rfl) (fr_list KX Gm c) boot_list (z_var (i := 0))))))
theorem ok_numbers_code (KX : K.In h) (Gm : h.Ns mainGlobals mg) (c : SaysZ ck fas fn K) : ∃ fd, (FunD K "numbers_code" "numbers_code" (defArgs (top 25)) (defBody (top 25)) (defScope (top 25)) [] (d_5.kws K) (He.fAd K (("numbers_code" : Str), none)) fd) ∧ FnOk P w K mg base (L2.CX P w) 1 (He.fAd K (("numbers_code" : Str), none)) fd ps_numbers_code (spF (nm K) F_numbers_code ps_numbers_code.length) := by
  obtain ⟨fd, F⟩ := c.d.def_ 5 (d := d_5) rfl
  exact ⟨fd, F, z_fun F sc_numbers_code (bo_numbers_code KX Gm c)⟩
abbrev ns_string_code : List Str := ["text", "sign"]
abbrev ps_string_code : List Str := ["text"]
theorem sc_string_code : FnScope ns_string_code ps_string_code (defScope (top 26)) := ⟨rfl, rfl, rfl, by decide +kernel, rfl, by decide +kernel, by decide +kernel⟩
theorem b_string_code {fd : FuncData} (F : FunD K "string_code" "string_code" (defArgs (top 26)) (defBody (top 26)) (defScope (top 26)) [] (d_6.kws K) (He.fAd K (("string_code" : Str), none)) fd) : Bn (nm K) fd ps_string_code ps_string_code.length [] gId := .plain (FunD.bindsN F fun _ _ _ _ _ _ us hl => match us, hl with | [_], _ => rfl)
theorem bo_string_code (KX : K.In h) (Gm : h.Ns mainGlobals mg) (c : SaysZ ck fas fn K) : BodyOk P w K mg base "string_code" (defScope (top 26)) (defBody (top 26)) (He.fAd K (("string_code" : Str), none)) ns_string_code (nm K) 1 sv_string_code := by
  have nd := (sc_string_code).nd
  obtain ⟨fd_numbers_code, D_numbers_code, G_numbers_code⟩ := ok_numbers_code (P := P) (w := w) (base := base) KX Gm c
  intro cdv A outer s H E hr tk hp
  exact z_one1 (z_ret (z_call (F := F_numbers_code) rfl tk G_numbers_code (hr.mono (by decide)) (b_numbers_code D_numbers_code) (by rfl) (g_numbers_code KX Gm c) D_numbers_code.kp (z_acons (z_lst (z_lc (own := [(("sign" : Str), 1)]) rfl nd (z_it rfl (z_up (z_var (i := 0)))) rfl (by decide) (fun _ _ _ _ _ => z_gname (i := 1) nd rfl (by first | exact .inl rfl | exact .inr rfl)) (fun _ _ _ _ _ => z_ifs0) (fun _ _ _ _ _ => z_up (z_b1 call_ord us_ord (by rfl) (fr_ord KX Gm c) boot_ord (z_var (i := 1)))))) (z_anil)) (alen_cons alen_nil)))
theorem ok_string_code (KX : K.In h) (Gm : h.Ns mainGlobals mg) (c : SaysZ ck fas fn K) : ∃ fd, (FunD K "string_code" "string_code" (defArgs (top 26)) (defBody (top 26)) (defScope (top 26)) [] (d_6.kws K) (He.fAd K (("string_code" : Str), none)) fd) ∧ FnOk P w K mg base (L2.CX P w) 2 (He.fAd K (("string_code" : Str), none)) fd ps_string_code (spF (nm K) F_string_code ps_string_code.length) := by
  obtain ⟨fd, F⟩ := c.d.def_ 6 (d := d_6) rfl
  exact ⟨fd, F, z_fun F sc_string_code (bo_string_code KX Gm c)⟩
abbrev ns__law_text : List Str := ["_law_text_here", "_law_sign"]
abbrev ps__law_text : List Str := ["_law_text_here"]
theorem sc__law_text : FnScope ns__law_text ps__law_text (defScope (top 50)) := ⟨rfl, rfl, rfl, by decide +kernel, rfl, by decide +kernel, by decide +kernel⟩
theorem b__law_text {fd : FuncData} (F : FunD K "_law_text" "_law_text" (defArgs (top 50)) (defBody (top 50)) (defScope (top 50)) [] (d_7.kws K) (He.fAd K (("_law_text" : Str), none)) fd) : Bn (nm K) fd ps__law_text ps__law_text.length [] gId := .plain (FunD.bindsN F fun _ _ _ _ _ _ us hl => match us, hl with | [_], _ => rfl)
theorem bo__law_text (KX : K.In h) (Gm : h.Ns mainGlobals mg) (c : SaysZ ck fas fn K) : BodyOk P w K mg base "_law_text" (defScope (top 50)) (defBody (top 50)) (He.fAd K (("_law_text" : Str), none)) ns__law_text (nm K) 0 sv__law_text := by
  have nd := (sc__law_text).nd
  intro cdv A outer s H E hr tk hp
  exact z_one1 (z_ret (z_binE op_addU os_add (z_lst (z_disp (z_acons (z_up (z_b1 call_lenU (us_len rfl) (by rfl) (fr_len KX Gm c) boot_len (z_var (i := 0)))) (z_anil)))) (z_lst (z_lc (own := [(("_law_sign" : Str), 1)]) rfl nd (z_it rfl (z_up (z_var (i := 0)))) rfl (by decide) (fun _ _ _ _ _ => z_gname (i := 1) nd rfl (by first | exact .inl rfl | exact .inr rfl)) (fun _ _ _ _ _ => z_ifs0) (fun _ _ _ _ _ => z_up (z_b1 call_ord us_ord (by rfl) (fr_ord KX Gm c) boot_ord (z_var (i := 1))))))))
theorem ok__law_text (KX : K.In h) (Gm : h.Ns mainGlobals mg) (c : SaysZ ck fas fn K) : ∃ fd, (FunD K "_law_text" "_law_text" (defArgs (top 50)) (defBody (top 50)) (defScope (top 50)) [] (d_7.kws K) (He.fAd K (("_law_text" : Str), none)) fd) ∧ FnOk P w K mg base (L2.CX P w) 1 (He.fAd K (("_law_text" : Str), none)) fd ps__law_text (spF (nm K) F__law_text ps__law_text.length) := by
  obtain ⟨fd, F⟩ := c.d.def_ 7 (d := d_7) rfl
  exact ⟨fd, F, z_fun F sc__law_text (bo__law_text KX Gm c)⟩
abbrev ns_value_code : List Str := ["worth"]
abbrev ps_value_code : List Str := ["worth"]
theorem sc_value_code : FnScope ns_value_code ps_value_code (defScope (top 27)) := ⟨rfl, rfl, rfl, by decide +kernel, rfl, by decide +kernel, by decide +kernel⟩
theorem b_value_code {fd : FuncData} (F : FunD K "value_code" "value_code" (defArgs (top 27)) (defBody (top 27)) (defScope (top 27)) [] (d_8.kws K) (He.fAd K (("value_code" : Str), none)) fd) : Bn (nm K) fd ps_value_code ps_value_code.length [] gId := .plain (FunD.bindsN F fun _ _ _ _ _ _ us hl => match us, hl with | [_], _ => rfl)
theorem bo_value_code (KX : K.In h) (Gm : h.Ns mainGlobals mg) (c : SaysZ ck fas fn K) : BodyOk P w K mg base "value_code" (defScope (top 27)) (defBody (top 27)) (He.fAd K (("value_code" : Str), none)) ns_value_code (nm K) 2 sv_value_code := by
  have nd := (sc_value_code).nd
  obtain ⟨fd_string_code, D_string_code, G_string_code⟩ := ok_string_code (P := P) (w := w) (base := base) KX Gm c
  intro cdv A outer s H E hr tk hp
  exact z_cons (z_ifS (z_tval (z_up (z_isi rfl (.ty _) (qo_bool c) (by rfl) (fr_isinstance KX Gm c) (pe_bltn (v := .ty "bool") (by rfl) (fr_bool KX Gm c) boot_bool rfl) (z_var (i := 0))))) (z_one1 (z_ret (z_lst (z_disp (z_acons (z_up (z_int)) (z_acons (z_if (z_tval (z_up (z_var (i := 0)))) (z_up (z_int)) (z_up (z_int))) (z_anil))))))) (z_nil)) (z_cons (z_ifS (z_tval (z_up (z_isi rfl (.ty _) (qo_str c) (by rfl) (fr_isinstance KX Gm c) (pe_bltn (v := .ty "str") (by rfl) (fr_str KX Gm c) boot_str rfl) (z_var (i := 0))))) (z_one1 (z_ret (z_binE op_addU os_add (z_lst (z_disp (z_acons (z_up (z_int)) (z_anil)))) (z_call (F := F_string_code) rfl tk G_string_code (hr.mono (by decide)) (b_string_code D_string_code) (by rfl) (g_string_code KX Gm c) D_string_code.kp (z_acons (z_up (z_var (i := 0))) (z_anil)) (alen_cons alen_nil))))) (z_nil)) (z_one1 (z_ret (z_lst (z_disp (z_acons (z_up (z_int)) (z_acons (z_up (z_var (i := 0))) (z_anil))))))))
theorem ok_value_code (KX : K.In h) (Gm : h.Ns mainGlobals mg) (c : SaysZ ck fas fn K) : ∃ fd, (FunD K "value_code" "value_code" (defArgs (top 27)) (defBody (top 27)) (defScope (top 27)) [] (d_8.kws K) (He.fAd K (("value_code" : Str), none)) fd) ∧ FnOk P w K mg base (L2.CX P w) 3 (He.fAd K (("value_code" : Str), none)) fd ps_value_code (spF (nm K) F_value_code ps_value_code.length) := by
  obtain ⟨fd, F⟩ := c.d.def_ 8 (d := d_8) rfl
  exact ⟨fd, F, z_fun F sc_value_code (bo_value_code KX Gm c)⟩
abbrev ns__law_value : List Str := ["_law_worth_here"]
abbrev ps__law_value : List Str := ["_law_worth_here"]
theorem sc__law_value : FnScope ns__law_value ps__law_value (defScope (top 51)) := ⟨rfl, rfl, rfl, by decide +kernel, rfl, by decide +kernel, by decide +kernel⟩
theorem b__law_value {fd : FuncData} (F : FunD K "_law_value" "_law_value" (defArgs (top 51)) (defBody (top 51)) (defScope (top 51)) [] (d_9.kws K) (He.fAd K (("_law_value" : Str), none)) fd) : Bn (nm K) fd ps__law_value ps__law_value.length [] gId := .plain (FunD.bindsN F fun _ _ _ _ _ _ us hl => match us, hl with | [_], _ => rfl)
theorem bo__law_value (KX : K.In h) (Gm : h.Ns mainGlobals mg) (c : SaysZ ck fas fn K) : BodyOk P w K mg base "_law_value" (defScope (top 51)) (defBody (top 51)) (He.fAd K (("_law_value" : Str), none)) ns__law_value (nm K) 1 sv__law_value := by
  have nd := (sc__law_value).nd
  obtain ⟨fd__law_text, D__law_text, G__law_text⟩ := ok__law_text (P := P) (w := w) (base := base) KX Gm c
  intro cdv A outer s H E hr tk hp
  exact z_cons (z_ifS (z_tval (z_up (z_isi rfl (.ty _) (qo_bool c) (by rfl) (fr_isinstance KX Gm c) (pe_bltn (v := .ty "bool") (by rfl) (fr_bool KX Gm c) boot_bool rfl) (z_var (i := 0))))) (z_one1 (z_ret (z_lst (z_disp (z_acons (z_up (z_int)) (z_acons (z_up (z_t1 call_intU us_int1 (by rfl) (fr_int KX Gm c) boot_int (z_var (i := 0)))) (z_anil))))))) (z_nil)) (z_cons (z_ifS (z_tval (z_up (z_isi rfl (.ty _) (qo_str c) (by rfl) (fr_isinstance KX Gm c) (pe_bltn (v := .ty "str") (by rfl) (fr_str KX Gm c) boot_str rfl) (z_var (i := 0))))) (z_one1 (z_ret (z_binE op_addU os_add (z_lst (z_disp (z_acons (z_up (z_int)) (z_anil)))) (z_call (F := F__law_text) rfl tk G__law_text (hr.mono (by decide)) (b__law_text D__law_text) (by rfl) (g__law_text KX Gm c) D__law_text.kp (z_acons (z_up (z_var (i := 0))) (z_anil)) (alen_cons alen_nil))))) (z_nil)) (z_one1 (z_ret (z_lst (z_disp (z_acons (z_up (z_int)) (z_acons (z_up (z_var (i := 0))) (z_anil))))))))
theorem ok__law_value (KX : K.In h) (Gm : h.Ns mainGlobals mg) (c : SaysZ ck fas fn K) : ∃ fd, (FunD K "_law_value" "_law_value" (defArgs (top 51)) (defBody (top 51)) (defScope (top 51)) [] (d_9.kws K) (He.fAd K (("_law_value" : Str), none)) fd) ∧ FnOk P w K mg base (L2.CX P w) 2 (He.fAd K (("_law_value" : Str), none)) fd ps__law_value (spF (nm K) F__law_value ps__law_value.length) := by
  obtain ⟨fd, F⟩ := c.d.def_ 9 (d := d_9) rfl
  exact ⟨fd, F, z_fun F sc__law_value (bo__law_value KX Gm c)⟩
abbrev ns__law_counted : List Str := ["_law_row_here"]
abbrev ps__law_counted : List Str := ["_law_row_here"]
theorem sc__law_counted : FnScope ns__law_counted ps__law_counted (defScope (top 53)) := ⟨rfl, rfl, rfl, by decide +kernel, rfl, by decide +kernel, by decide +kernel⟩
theorem b__law_counted {fd : FuncData} (F : FunD K "_law_counted" "_law_counted" (defArgs (top 53)) (defBody (top 53)) (defScope (top 53)) [] (d_10.kws K) (He.fAd K (("_law_counted" : Str), none)) fd) : Bn (nm K) fd ps__law_counted ps__law_counted.length [] gId := .plain (FunD.bindsN F fun _ _ _ _ _ _ us hl => match us, hl with | [_], _ => rfl)
theorem bo__law_counted (KX : K.In h) (Gm : h.Ns mainGlobals mg) (c : SaysZ ck fas fn K) : BodyOk P w K mg base "_law_counted" (defScope (top 53)) (defBody (top 53)) (He.fAd K (("_law_counted" : Str), none)) ns__law_counted (nm K) 0 sv__law_counted := by
  have nd := (sc__law_counted).nd
  intro cdv A outer s H E hr tk hp
  exact z_one1 (z_ret (z_binE op_addU os_add (z_lst (z_disp (z_acons (z_up (z_b1 call_lenU (us_len rfl) (by rfl) (fr_len KX Gm c) boot_len (z_var (i := 0)))) (z_anil)))) (z_lst (z_t1F call_list_of (uf_list rfl) (by rfl) (fr_list KX Gm c) boot_list (z_var (i := 0))))))
theorem ok__law_counted (KX : K.In h) (Gm : h.Ns mainGlobals mg) (c : SaysZ ck fas fn K) : ∃ fd, (FunD K "_law_counted" "_law_counted" (defArgs (top 53)) (defBody (top 53)) (defScope (top 53)) [] (d_10.kws K) (He.fAd K (("_law_counted" : Str), none)) fd) ∧ FnOk P w K mg base (L2.CX P w) 1 (He.fAd K (("_law_counted" : Str), none)) fd ps__law_counted (spF (nm K) F__law_counted ps__law_counted.length) := by
  obtain ⟨fd, F⟩ := c.d.def_ 10 (d := d_10) rfl
  exact ⟨fd, F, z_fun F sc__law_counted (bo__law_counted KX Gm c)⟩
abbrev ns_maybe_code : List Str := ["code"]
abbrev ps_maybe_code : List Str := ["code"]
theorem sc_maybe_code : FnScope ns_maybe_code ps_maybe_code (defScope (top 28)) := ⟨rfl, rfl, rfl, by decide +kernel, rfl, by decide +kernel, by decide +kernel⟩
theorem b_maybe_code {fd : FuncData} (F : FunD K "maybe_code" "maybe_code" (defArgs (top 28)) (defBody (top 28)) (defScope (top 28)) [] (d_11.kws K) (He.fAd K (("maybe_code" : Str), none)) fd) : Bn (nm K) fd ps_maybe_code ps_maybe_code.length [] gId := .plain (FunD.bindsN F fun _ _ _ _ _ _ us hl => match us, hl with | [_], _ => rfl)
theorem bo_maybe_code (KX : K.In h) (Gm : h.Ns mainGlobals mg) (c : SaysZ ck fas fn K) : BodyOk P w K mg base "maybe_code" (defScope (top 28)) (defBody (top 28)) (He.fAd K (("maybe_code" : Str), none)) ns_maybe_code (nm K) 0 sv_maybe_code := by
  have nd := (sc_maybe_code).nd
  intro cdv A outer s H E hr tk hp
  exact z_one1 (z_ret (z_if (z_tcmp op_isN os_isN (z_var (i := 0)) (z_non)) (z_lst (z_disp (z_acons (z_up (z_int)) (z_anil)))) (z_binE op_addU os_add (z_lst (z_disp (z_acons (z_up (z_int)) (z_anil)))) (z_up (z_var (i := 0))))))
theorem ok_maybe_code (KX : K.In h) (Gm : h.Ns mainGlobals mg) (c : SaysZ ck fas fn K) : ∃ fd, (FunD K "maybe_code" "maybe_code" (defArgs (top 28)) (defBody (top 28)) (defScope (top 28)) [] (d_11.kws K) (He.fAd K (("maybe_code" : Str), none)) fd) ∧ FnOk P w K mg base (L2.CX P w) 1 (He.fAd K (("maybe_code" : Str), none)) fd ps_maybe_code (spF (nm K) F_maybe_code ps_maybe_code.length) := by
  obtain ⟨fd, F⟩ := c.d.def_ 11 (d := d_11) rfl
  exact ⟨fd, F, z_fun F sc_maybe_code (bo_maybe_code KX Gm c)⟩
abbrev ns_list_code : List Str := ["codes", "numbers", "code"]
abbrev ps_list_code : List Str := ["codes"]
theorem sc_list_code : FnScope ns_list_code ps_list_code (defScope (top 24)) := ⟨rfl, rfl, rfl, by decide +kernel, rfl, by decide +kernel, by decide +kernel⟩
theorem b_list_code {fd : FuncData} (F : FunD K "list_code" "list_code" (defArgs (top 24)) (defBody (top 24)) (defScope (top 24)) [] (d_12.kws K) (He.fAd K (("list_code" : Str), none)) fd) : Bn (nm K) fd ps_list_code ps_list_code.length [] gId := .plain (FunD.bindsN F fun _ _ _ _ _ _ us hl => match us, hl with | [_], _ => rfl)
theorem bo_list_code (KX : K.In h) (Gm : h.Ns mainGlobals mg) (c : SaysZ ck fas fn K) : BodyOk P w K mg base "list_code" (defScope (top 24)) (defBody (top 24)) (He.fAd K (("list_code" : Str), none)) ns_list_code (nm K) 0 sv_list_code := by
  have nd := (sc_list_code).nd
  intro cdv A outer s H E hr tk hp
  exact z_cons (z_setF (i := 1) nd rfl (by first | exact .inl rfl | exact .inr rfl) (z_disp (z_acons (z_up (z_b1 call_lenU (us_len rfl) (by rfl) (fr_len KX Gm c) boot_len (z_var (i := 0)))) (z_anil)))) (z_cons (z_for hp rfl (z_it rfl (z_up (z_var (i := 0)))) (z_gname (i := 2) nd rfl (by first | exact .inl rfl | exact .inr rfl)) (z_one1 (z_mutO (i := 1) PySem.F.slot_list_extend PySem.F.type_list_extend mt_extend ms_ext rfl (z_acons (z_up (z_var (i := 2))) (z_anil))))) (z_frz (z_one1 (z_ret (z_up (z_var (i := 1)))))))
theorem ok_list_code (KX : K.In h) (Gm : h.Ns mainGlobals mg) (c : SaysZ ck fas fn K) : ∃ fd, (FunD K "list_code" "list_code" (defArgs (top 24)) (defBody (top 24)) (defScope (top 24)) [] (d_12.kws K) (He.fAd K (("list_code" : Str), none)) fd) ∧ FnOk P w K mg base (L2.CX P w) 1 (He.fAd K (("list_code" : Str), none)) fd ps_list_code (spF (nm K) F_list_code ps_list_code.length) := by
  obtain ⟨fd, F⟩ := c.d.def_ 12 (d := d_12) rfl
  exact ⟨fd, F, z_fun F sc_list_code (bo_list_code KX Gm c)⟩
abbrev ns__law_parts_agree : List Str := ["_law_state", "_law_text_here", "_law_worth_here", "_law_row_here"]
abbrev ps__law_parts_agree : List Str := ["_law_state"]
theorem sc__law_parts_agree : FnScope ns__law_parts_agree ps__law_parts_agree (defScope (top 57)) := ⟨rfl, rfl, rfl, by decide +kernel, rfl, by decide +kernel, by decide +kernel⟩
theorem b__law_parts_agree {fd : FuncData} (F : FunD K "_law_parts_agree" "_law_parts_agree" (defArgs (top 57)) (defBody (top 57)) (defScope (top 57)) [] (d_13.kws K) (He.fAd K (("_law_parts_agree" : Str), none)) fd) : Bn (nm K) fd ps__law_parts_agree ps__law_parts_agree.length [] gId := .plain (FunD.bindsN F fun _ _ _ _ _ _ us hl => match us, hl with | [_], _ => rfl)
theorem bo__law_parts_agree (KX : K.In h) (Gm : h.Ns mainGlobals mg) (c : SaysZ ck fas fn K) : BodyOk P w K mg base "_law_parts_agree" (defScope (top 57)) (defBody (top 57)) (He.fAd K (("_law_parts_agree" : Str), none)) ns__law_parts_agree (nm K) 4 sv__law_parts_agree := by
  have nd := (sc__law_parts_agree).nd
  obtain ⟨fd__law_string, D__law_string, G__law_string⟩ := ok__law_string (P := P) (w := w) (base := base) KX Gm c
  obtain ⟨fd__law_worth, D__law_worth, G__law_worth⟩ := ok__law_worth (P := P) (w := w) (base := base) KX Gm c
  obtain ⟨fd__law_numbers, D__law_numbers, G__law_numbers⟩ := ok__law_numbers (P := P) (w := w) (base := base) KX Gm c
  obtain ⟨fd_string_code, D_string_code, G_string_code⟩ := ok_string_code (P := P) (w := w) (base := base) KX Gm c
  obtain ⟨fd__law_text, D__law_text, G__law_text⟩ := ok__law_text (P := P) (w := w) (base := base) KX Gm c
  obtain ⟨fd_value_code, D_value_code, G_value_code⟩ := ok_value_code (P := P) (w := w) (base := base) KX Gm c
  obtain ⟨fd__law_value, D__law_value, G__law_value⟩ := ok__law_value (P := P) (w := w) (base := base) KX Gm c
  obtain ⟨fd_numbers_code, D_numbers_code, G_numbers_code⟩ := ok_numbers_code (P := P) (w := w) (base := base) KX Gm c
  obtain ⟨fd__law_counted, D__law_counted, G__law_counted⟩ := ok__law_counted (P := P) (w := w) (base := base) KX Gm c
  obtain ⟨fd_maybe_code, D_maybe_code, G_maybe_code⟩ := ok_maybe_code (P := P) (w := w) (base := base) KX Gm c
  obtain ⟨fd_list_code, D_list_code, G_list_code⟩ := ok_list_code (P := P) (w := w) (base := base) KX Gm c
  intro cdv A outer s H E hr tk hp
  exact z_cons (z_set (i := 1) nd rfl (by first | exact .inl rfl | exact .inr rfl) (z_call (F := F__law_string) rfl tk G__law_string (hr.mono (by decide)) (b__law_string D__law_string) (by rfl) (g__law_string KX Gm c) D__law_string.kp (z_acons (z_up (z_var (i := 0))) (z_anil)) (alen_cons alen_nil))) (z_cons (z_set (i := 2) nd rfl (by first | exact .inl rfl | exact .inr rfl) (z_call (F := F__law_worth) rfl tk G__law_worth (hr.mono (by decide)) (b__law_worth D__law_worth) (by rfl) (g__law_worth KX Gm c) D__law_worth.kp (z_acons (z_up (z_var (i := 0))) (z_anil)) (alen_cons alen_nil))) (z_cons (z_set (i := 3) nd rfl (by first | exact .inl rfl | exact .inr rfl) (z_call (F := F__law_numbers) rfl tk G__law_numbers (hr.mono (by decide)) (b__law_numbers D__law_numbers) (by rfl) (g__law_numbers KX Gm c) D__law_numbers.kp (z_acons (z_up (z_var (i := 0))) (z_anil)) (alen_cons alen_nil))) (z_cons (z_ifS ((z_wor (z_tcmpE (op_neD (hu4 hr)) (os_ne rfl) (z_call (F := F_string_code) rfl tk G_string_code (hr.mono (by decide)) (b_string_code D_string_code) (by rfl) (g_string_code KX Gm c) D_string_code.kp (z_acons (z_up (z_var (i := 1))) (z_anil)) (alen_cons alen_nil)) (z_call (F := F__law_text) rfl tk G__law_text (hr.mono (by decide)) (b__law_text D__law_text) (by rfl) (g__law_text KX Gm c) D__law_text.kp (z_acons (z_up (z_var (i := 1))) (z_anil)) (alen_cons alen_nil))) (z_wor (z_tcmpE (op_neD (hu4 hr)) (os_ne rfl) (z_call (F := F_value_code) rfl tk G_value_code (hr.mono (by decide)) (b_value_code D_value_code) (by rfl) (g_value_code KX Gm c) D_value_code.kp (z_acons (z_up (z_var (i := 2))) (z_anil)) (alen_cons alen_nil)) (z_call (F := F__law_value) rfl tk G__law_value (hr.mono (by decide)) (b__law_value D__law_value) (by rfl) (g__law_value KX Gm c) D__law_value.kp (z_acons (z_up (z_var (i := 2))) (z_anil)) (alen_cons alen_nil))) (z_wor1 (z_tcmpE (op_neD (hu4 hr)) (os_ne rfl) (z_call (F := F_numbers_code) rfl tk G_numbers_code (hr.mono (by decide)) (b_numbers_code D_numbers_code) (by rfl) (g_numbers_code KX Gm c) D_numbers_code.kp (z_acons (z_lst (z_t1F call_list_of (uf_list rfl) (by rfl) (fr_list KX Gm c) boot_list (z_var (i := 3)))) (z_anil)) (alen_cons alen_nil)) (z_call (F := F__law_counted) rfl tk G__law_counted (hr.mono (by decide)) (b__law_counted D__law_counted) (by rfl) (g__law_counted KX Gm c) D__law_counted.kp (z_acons (z_up (z_var (i := 3))) (z_anil)) (alen_cons alen_nil)))))).pt) (z_one1 (z_ret (z_up (z_bl)))) (z_nil)) (z_cons (z_ifS ((z_wor (z_tcmpE (op_neD (hu4 hr)) (os_ne rfl) (z_call (F := F_maybe_code) rfl tk G_maybe_code (hr.mono (by decide)) (b_maybe_code D_maybe_code) (by rfl) (g_maybe_code KX Gm c) D_maybe_code.kp (z_acons (z_up (z_non)) (z_anil)) (alen_cons alen_nil)) (z_lst (z_disp (z_acons (z_up (z_int)) (z_anil))))) (z_wor1 (z_tcmpE (op_neD (hu4 hr)) (os_ne rfl) (z_call (F := F_maybe_code) rfl tk G_maybe_code (hr.mono (by decide)) (b_maybe_code D_maybe_code) (by rfl) (g_maybe_code KX Gm c) D_maybe_code.kp (z_acons (z_lst (z_t1F call_list_of (uf_list rfl) (by rfl) (fr_list KX Gm c) boot_list (z_var (i := 3)))) (z_anil)) (alen_cons alen_nil)) (z_binE op_addU os_add (z_lst (z_disp (z_acons (z_up (z_int)) (z_anil)))) (z_up (z_var (i := 3))))))).pt) (z_one1 (z_ret (z_up (z_bl)))) (z_nil)) (z_one1 (z_ret (z_cmpE (op_eqD (hu4 hr)) (os_eq rfl) (z_call (F := F_list_code) rfl tk G_list_code (hr.mono (by decide)) (b_list_code D_list_code) (by rfl) (g_list_code KX Gm c) D_list_code.kp (z_acons (z_lst (z_disp (z_acons (z_lst (z_t1F call_list_of (uf_list rfl) (by rfl) (fr_list KX Gm c) boot_list (z_var (i := 3)))) (z_acons (z_lst (z_disp (z_anil))) (z_acons (z_lst (z_disp (z_acons (z_up (z_int)) (z_anil)))) (z_anil)))))) (z_anil)) (alen_cons alen_nil)) (z_binE op_addU os_add (z_binE op_addU os_add (z_lst (z_disp (z_acons (z_up (z_int)) (z_anil)))) (z_up (z_var (i := 3)))) (z_lst (z_disp (z_acons (z_up (z_int)) (z_anil))))))))))))
theorem ok__law_parts_agree (KX : K.In h) (Gm : h.Ns mainGlobals mg) (c : SaysZ ck fas fn K) : ∃ fd, (FunD K "_law_parts_agree" "_law_parts_agree" (defArgs (top 57)) (defBody (top 57)) (defScope (top 57)) [] (d_13.kws K) (He.fAd K (("_law_parts_agree" : Str), none)) fd) ∧ FnOk P w K mg base (L2.CX P w) 5 (He.fAd K (("_law_parts_agree" : Str), none)) fd ps__law_parts_agree (spF (nm K) F__law_parts_agree ps__law_parts_agree.length) := by
  obtain ⟨fd, F⟩ := c.d.def_ 13 (d := d_13) rfl
  exact ⟨fd, F, z_fun F sc__law_parts_agree (bo__law_parts_agree KX Gm c)⟩
abbrev ns_Parts___init__ : List Str := ["self", "parts"]
abbrev ps_Parts___init__ : List Str := ["self", "parts"]
theorem sc_Parts___init__ : FnScope ns_Parts___init__ ps_Parts___init__ (defScope (inClass (top 17) 0)) := ⟨rfl, rfl, rfl, by decide +kernel, rfl, by decide +kernel, by decide +kernel⟩
theorem b_Parts___init__ {fd : FuncData} (F : FunD K "__init__" "Parts.__init__" (defArgs (inClass (top 17) 0)) (defBody (inClass (top 17) 0)) (defScope (inClass (top 17) 0)) [] (d_14.kws K) (He.fAd K (("Parts" : Str), some ("__init__" : Str))) fd) : BnS (nm K) fd ps_Parts___init__ 1 [] gId := .plain (FunD.bindsN F fun _ _ _ _ _ _ us hl => match us, hl with | [_, _], _ => rfl) rfl
theorem bo_Parts___init__ (KX : K.In h) (Gm : h.Ns mainGlobals mg) (c : SaysZ ck fas fn K) : BodyOk P w K mg base "Parts.__init__" (defScope (inClass (top 17) 0)) (defBody (inClass (top 17) 0)) (He.fAd K (("Parts" : Str), some ("__init__" : Str))) ns_Parts___init__ (nm K) 0 sv_Parts___init__ := by
  have nd := (sc_Parts___init__).nd
  intro cdv A outer s H E hr tk hp
  exact z_one1 (z_putO (i := 0) (k := 0) rfl (hfa c) rfl rfl (z_up (z_t1 call_tuple_of (us_tup rfl) (by rfl) (fr_tuple KX Gm c) boot_tuple (z_var (i := 1)))))
theorem ok_Parts___init__ (KX : K.In h) (Gm : h.Ns mainGlobals mg) (c : SaysZ ck fas fn K) : ∃ fd, (FunD K "__init__" "Parts.__init__" (defArgs (inClass (top 17) 0)) (defBody (inClass (top 17) 0)) (defScope (inClass (top 17) 0)) [] (d_14.kws K) (He.fAd K (("Parts" : Str), some ("__init__" : Str))) fd) ∧ FnOk P w K mg base (L2.CX P w) 1 (He.fAd K (("Parts" : Str), some ("__init__" : Str))) fd ps_Parts___init__ (spG (nm K) 8 G_Parts___init__ 1) := by
  obtain ⟨fd, F⟩ := c.d.def_ 14 (d := d_14) rfl
  exact ⟨fd, F, z_init F sc_Parts___init__ rfl (bo_Parts___init__ KX Gm c)⟩
abbrev ns_Part___init__ : List Str := ["self", "start", "centre", "radius"]
abbrev ps_Part___init__ : List Str := ["self", "start", "centre", "radius"]
theorem sc_Part___init__ : FnScope ns_Part___init__ ps_Part___init__ (defScope (inClass (top 16) 0)) := ⟨rfl, rfl, rfl, by decide +kernel, rfl, by decide +kernel, by decide +kernel⟩
theorem b_Part___init__ {fd : FuncData} (F : FunD K "__init__" "Part.__init__" (defArgs (inClass (top 16) 0)) (defBody (inClass (top 16) 0)) (defScope (inClass (top 16) 0)) [] (d_15.kws K) (He.fAd K (("Part" : Str), some ("__init__" : Str))) fd) : BnS (nm K) fd ps_Part___init__ 3 [] gId := .plain (FunD.bindsN F fun _ _ _ _ _ _ us hl => match us, hl with | [_, _, _, _], _ => rfl) rfl
theorem bo_Part___init__ (KX : K.In h) (Gm : h.Ns mainGlobals mg) (c : SaysZ ck fas fn K) : BodyOk P w K mg base "Part.__init__" (defScope (inClass (top 16) 0)) (defBody (inClass (top 16) 0)) (He.fAd K (("Part" : Str), some ("__init__" : Str))) ns_Part___init__ (nm K) 0 sv_Part___init__ := by
  have nd := (sc_Part___init__).nd
  intro cdv A outer s H E hr tk hp
  exact z_cons (z_putO (i := 0) (k := 1) rfl (hfa c) rfl rfl (z_up (z_var (i := 1)))) (z_cons (z_putO (i := 0) (k := 2) rfl (hfa c) rfl rfl (z_up (z_t1 call_tuple_of (us_tup rfl) (by rfl) (fr_tuple KX Gm c) boot_tuple (z_var (i := 2))))) (z_one1 (z_putO (i := 0) (k := 3) rfl (hfa c) rfl rfl (z_up (z_var (i := 3))))))
theorem ok_Part___init__ (KX : K.In h) (Gm : h.Ns mainGlobals mg) (c : SaysZ ck fas fn K) : ∃ fd, (FunD K "__init__" "Part.__init__" (defArgs (inClass (top 16) 0)) (defBody (inClass (top 16) 0)) (defScope (inClass (top 16) 0)) [] (d_15.kws K) (He.fAd K (("Part" : Str), some ("__init__" : Str))) fd) ∧ FnOk P w K mg base (L2.CX P w) 1 (He.fAd K (("Part" : Str), some ("__init__" : Str))) fd ps_Part___init__ (spG (nm K) 7 G_Part___init__ 3) := by
  obtain ⟨fd, F⟩ := c.d.def_ 15 (d := d_15) rfl
  exact ⟨fd, F, z_init F sc_Part___init__ rfl (bo_Part___init__ KX Gm c)⟩
abbrev ns_Cell___init__ : List Str := ["self", "near", "rival"]
abbrev ps_Cell___init__ : List Str := ["self", "near", "rival"]
theorem sc_Cell___init__ : FnScope ns_Cell___init__ ps_Cell___init__ (defScope (inClass (top 18) 0)) := ⟨rfl, rfl, rfl, by decide +kernel, rfl, by decide +kernel, by decide +kernel⟩
theorem b_Cell___init__ {fd : FuncData} (F : FunD K "__init__" "Cell.__init__" (defArgs (inClass (top 18) 0)) (defBody (inClass (top 18) 0)) (defScope (inClass (top 18) 0)) [] (d_16.kws K) (He.fAd K (("Cell" : Str), some ("__init__" : Str))) fd) : BnS (nm K) fd ps_Cell___init__ 2 [] gId := .plain (FunD.bindsN F fun _ _ _ _ _ _ us hl => match us, hl with | [_, _, _], _ => rfl) rfl
theorem bo_Cell___init__ (KX : K.In h) (Gm : h.Ns mainGlobals mg) (c : SaysZ ck fas fn K) : BodyOk P w K mg base "Cell.__init__" (defScope (inClass (top 18) 0)) (defBody (inClass (top 18) 0)) (He.fAd K (("Cell" : Str), some ("__init__" : Str))) ns_Cell___init__ (nm K) 0 sv_Cell___init__ := by
  have nd := (sc_Cell___init__).nd
  intro cdv A outer s H E hr tk hp
  exact z_cons (z_putO (i := 0) (k := 4) rfl (hfa c) rfl rfl (z_up (z_t1 call_tuple_of (us_tup rfl) (by rfl) (fr_tuple KX Gm c) boot_tuple (z_var (i := 1))))) (z_one1 (z_putO (i := 0) (k := 5) rfl (hfa c) rfl rfl (z_up (z_t1 call_tuple_of (us_tup rfl) (by rfl) (fr_tuple KX Gm c) boot_tuple (z_var (i := 2))))))
theorem ok_Cell___init__ (KX : K.In h) (Gm : h.Ns mainGlobals mg) (c : SaysZ ck fas fn K) : ∃ fd, (FunD K "__init__" "Cell.__init__" (defArgs (inClass (top 18) 0)) (defBody (inClass (top 18) 0)) (defScope (inClass (top 18) 0)) [] (d_16.kws K) (He.fAd K (("Cell" : Str), some ("__init__" : Str))) fd) ∧ FnOk P w K mg base (L2.CX P w) 1 (He.fAd K (("Cell" : Str), some ("__init__" : Str))) fd ps_Cell___init__ (spG (nm K) 9 G_Cell___init__ 2) := by
  obtain ⟨fd, F⟩ := c.d.def_ 16 (d := d_16) rfl
  exact ⟨fd, F, z_init F sc_Cell___init__ rfl (bo_Cell___init__ KX Gm c)⟩
abbrev ns_Box___init__ : List Str := ["self", "low", "high"]
abbrev ps_Box___init__ : List Str := ["self", "low", "high"]
theorem sc_Box___init__ : FnScope ns_Box___init__ ps_Box___init__ (defScope (inClass (top 19) 0)) := ⟨rfl, rfl, rfl, by decide +kernel, rfl, by decide +kernel, by decide +kernel⟩
theorem b_Box___init__ {fd : FuncData} (F : FunD K "__init__" "Box.__init__" (defArgs (inClass (top 19) 0)) (defBody (inClass (top 19) 0)) (defScope (inClass (top 19) 0)) [] (d_17.kws K) (He.fAd K (("Box" : Str), some ("__init__" : Str))) fd) : BnS (nm K) fd ps_Box___init__ 2 [] gId := .plain (FunD.bindsN F fun _ _ _ _ _ _ us hl => match us, hl with | [_, _, _], _ => rfl) rfl
theorem bo_Box___init__ (KX : K.In h) (Gm : h.Ns mainGlobals mg) (c : SaysZ ck fas fn K) : BodyOk P w K mg base "Box.__init__" (defScope (inClass (top 19) 0)) (defBody (inClass (top 19) 0)) (He.fAd K (("Box" : Str), some ("__init__" : Str))) ns_Box___init__ (nm K) 0 sv_Box___init__ := by
  have nd := (sc_Box___init__).nd
  intro cdv A outer s H E hr tk hp
  exact z_cons (z_putO (i := 0) (k := 6) rfl (hfa c) rfl rfl (z_up (z_t1 call_tuple_of (us_tup rfl) (by rfl) (fr_tuple KX Gm c) boot_tuple (z_var (i := 1))))) (z_one1 (z_putO (i := 0) (k := 7) rfl (hfa c) rfl rfl (z_up (z_t1 call_tuple_of (us_tup rfl) (by rfl) (fr_tuple KX Gm c) boot_tuple (z_var (i := 2))))))
theorem ok_Box___init__ (KX : K.In h) (Gm : h.Ns mainGlobals mg) (c : SaysZ ck fas fn K) : ∃ fd, (FunD K "__init__" "Box.__init__" (defArgs (inClass (top 19) 0)) (defBody (inClass (top 19) 0)) (defScope (inClass (top 19) 0)) [] (d_17.kws K) (He.fAd K (("Box" : Str), some ("__init__" : Str))) fd) ∧ FnOk P w K mg base (L2.CX P w) 1 (He.fAd K (("Box" : Str), some ("__init__" : Str))) fd ps_Box___init__ (spG (nm K) 10 G_Box___init__ 2) := by
  obtain ⟨fd, F⟩ := c.d.def_ 17 (d := d_17) rfl
  exact ⟨fd, F, z_init F sc_Box___init__ rfl (bo_Box___init__ KX Gm c)⟩
abbrev ns_Norms___init__ : List Str := ["self", "low", "high"]
abbrev ps_Norms___init__ : List Str := ["self", "low", "high"]
theorem sc_Norms___init__ : FnScope ns_Norms___init__ ps_Norms___init__ (defScope (inClass (top 20) 0)) := ⟨rfl, rfl, rfl, by decide +kernel, rfl, by decide +kernel, by decide +kernel⟩
theorem b_Norms___init__ {fd : FuncData} (F : FunD K "__init__" "Norms.__init__" (defArgs (inClass (top 20) 0)) (defBody (inClass (top 20) 0)) (defScope (inClass (top 20) 0)) [] (d_18.kws K) (He.fAd K (("Norms" : Str), some ("__init__" : Str))) fd) : BnS (nm K) fd ps_Norms___init__ 2 [] gId := .plain (FunD.bindsN F fun _ _ _ _ _ _ us hl => match us, hl with | [_, _, _], _ => rfl) rfl
theorem bo_Norms___init__ (KX : K.In h) (Gm : h.Ns mainGlobals mg) (c : SaysZ ck fas fn K) : BodyOk P w K mg base "Norms.__init__" (defScope (inClass (top 20) 0)) (defBody (inClass (top 20) 0)) (He.fAd K (("Norms" : Str), some ("__init__" : Str))) ns_Norms___init__ (nm K) 0 sv_Norms___init__ := by
  have nd := (sc_Norms___init__).nd
  intro cdv A outer s H E hr tk hp
  exact z_cons (z_putO (i := 0) (k := 6) rfl (hfa c) rfl rfl (z_up (z_var (i := 1)))) (z_one1 (z_putO (i := 0) (k := 7) rfl (hfa c) rfl rfl (z_up (z_var (i := 2)))))
theorem ok_Norms___init__ (KX : K.In h) (Gm : h.Ns mainGlobals mg) (c : SaysZ ck fas fn K) : ∃ fd, (FunD K "__init__" "Norms.__init__" (defArgs (inClass (top 20) 0)) (defBody (inClass (top 20) 0)) (defScope (inClass (top 20) 0)) [] (d_18.kws K) (He.fAd K (("Norms" : Str), some ("__init__" : Str))) fd) ∧ FnOk P w K mg base (L2.CX P w) 1 (He.fAd K (("Norms" : Str), some ("__init__" : Str))) fd ps_Norms___init__ (spG (nm K) 11 G_Norms___init__ 2) := by
  obtain ⟨fd, F⟩ := c.d.def_ 18 (d := d_18) rfl
  exact ⟨fd, F, z_init F sc_Norms___init__ rfl (bo_Norms___init__ KX Gm c)⟩
abbrev ns_Differ___init__ : List Str := ["self", "centre", "most"]
abbrev ps_Differ___init__ : List Str := ["self", "centre", "most"]
theorem sc_Differ___init__ : FnScope ns_Differ___init__ ps_Differ___init__ (defScope (inClass (top 21) 0)) := ⟨rfl, rfl, rfl, by decide +kernel, rfl, by decide +kernel, by decide +kernel⟩
theorem b_Differ___init__ {fd : FuncData} (F : FunD K "__init__" "Differ.__init__" (defArgs (inClass (top 21) 0)) (defBody (inClass (top 21) 0)) (defScope (inClass (top 21) 0)) [] (d_19.kws K) (He.fAd K (("Differ" : Str), some ("__init__" : Str))) fd) : BnS (nm K) fd ps_Differ___init__ 2 [] gId := .plain (FunD.bindsN F fun _ _ _ _ _ _ us hl => match us, hl with | [_, _, _], _ => rfl) rfl
theorem bo_Differ___init__ (KX : K.In h) (Gm : h.Ns mainGlobals mg) (c : SaysZ ck fas fn K) : BodyOk P w K mg base "Differ.__init__" (defScope (inClass (top 21) 0)) (defBody (inClass (top 21) 0)) (He.fAd K (("Differ" : Str), some ("__init__" : Str))) ns_Differ___init__ (nm K) 0 sv_Differ___init__ := by
  have nd := (sc_Differ___init__).nd
  intro cdv A outer s H E hr tk hp
  exact z_cons (z_putO (i := 0) (k := 2) rfl (hfa c) rfl rfl (z_up (z_t1 call_tuple_of (us_tup rfl) (by rfl) (fr_tuple KX Gm c) boot_tuple (z_var (i := 1))))) (z_one1 (z_putO (i := 0) (k := 8) rfl (hfa c) rfl rfl (z_up (z_var (i := 2)))))
theorem ok_Differ___init__ (KX : K.In h) (Gm : h.Ns mainGlobals mg) (c : SaysZ ck fas fn K) : ∃ fd, (FunD K "__init__" "Differ.__init__" (defArgs (inClass (top 21) 0)) (defBody (inClass (top 21) 0)) (defScope (inClass (top 21) 0)) [] (d_19.kws K) (He.fAd K (("Differ" : Str), some ("__init__" : Str))) fd) ∧ FnOk P w K mg base (L2.CX P w) 1 (He.fAd K (("Differ" : Str), some ("__init__" : Str))) fd ps_Differ___init__ (spG (nm K) 12 G_Differ___init__ 2) := by
  obtain ⟨fd, F⟩ := c.d.def_ 19 (d := d_19) rfl
  exact ⟨fd, F, z_init F sc_Differ___init__ rfl (bo_Differ___init__ KX Gm c)⟩
abbrev ns_FieldFact___init___at_Range : List Str := ["self", "field", "lack"]
abbrev ps_FieldFact___init___at_Range : List Str := ["self", "field", "lack"]
theorem sc_FieldFact___init___at_Range : FnScope ns_FieldFact___init___at_Range ps_FieldFact___init___at_Range (defScope (inClass (top 10) 0)) := ⟨rfl, rfl, rfl, by decide +kernel, rfl, by decide +kernel, by decide +kernel⟩
theorem b_FieldFact___init___at_Range {fd : FuncData} (F : FunD K "__init__" "FieldFact.__init__" (defArgs (inClass (top 10) 0)) (defBody (inClass (top 10) 0)) (defScope (inClass (top 10) 0)) [] (d_20.kws K) (He.fAd K (("FieldFact" : Str), some ("__init__" : Str))) fd) : BnS (nm K) fd ps_FieldFact___init___at_Range 2 [] gId := .plain (FunD.bindsN F fun _ _ _ _ _ _ us hl => match us, hl with | [_, _, _], _ => rfl) rfl
theorem bo_FieldFact___init___at_Range (KX : K.In h) (Gm : h.Ns mainGlobals mg) (c : SaysZ ck fas fn K) : BodyOk P w K mg base "FieldFact.__init__" (defScope (inClass (top 10) 0)) (defBody (inClass (top 10) 0)) (He.fAd K (("FieldFact" : Str), some ("__init__" : Str))) ns_FieldFact___init___at_Range (nm K) 0 sv_FieldFact___init___at_Range := by
  have nd := (sc_FieldFact___init___at_Range).nd
  intro cdv A outer s H E hr tk hp
  exact z_cons (z_putO (i := 0) (k := 9) rfl (hfa c) rfl rfl (z_up (z_var (i := 1)))) (z_one1 (z_putO (i := 0) (k := 10) rfl (hfa c) rfl rfl (z_up (z_var (i := 2)))))
theorem ok_FieldFact___init___at_Range (KX : K.In h) (Gm : h.Ns mainGlobals mg) (c : SaysZ ck fas fn K) : ∃ fd, (FunD K "__init__" "FieldFact.__init__" (defArgs (inClass (top 10) 0)) (defBody (inClass (top 10) 0)) (defScope (inClass (top 10) 0)) [] (d_20.kws K) (He.fAd K (("FieldFact" : Str), some ("__init__" : Str))) fd) ∧ FnOk P w K mg base (L2.CX P w) 1 (He.fAd K (("FieldFact" : Str), some ("__init__" : Str))) fd ps_FieldFact___init___at_Range (spG (nm K) 3 G_FieldFact___init___at_Range 2) := by
  obtain ⟨fd, F⟩ := c.d.def_ 20 (d := d_20) rfl
  exact ⟨fd, F, z_init F sc_FieldFact___init___at_Range rfl (bo_FieldFact___init___at_Range KX Gm c)⟩
abbrev ns_Range___init__ : List Str := ["self", "field", "low", "high", "lack"]
abbrev ps_Range___init__ : List Str := ["self", "field", "low", "high", "lack"]
theorem sc_Range___init__ : FnScope ns_Range___init__ ps_Range___init__ (defScope (inClass (top 11) 0)) := ⟨rfl, rfl, rfl, by decide +kernel, rfl, by decide +kernel, by decide +kernel⟩
theorem b_Range___init__ {fd : FuncData} (F : FunD K "__init__" "Range.__init__" (defArgs (inClass (top 11) 0)) (defBody (inClass (top 11) 0)) (defScope (inClass (top 11) 0)) [] (d_21.kws K) (He.fAd K (("Range" : Str), some ("__init__" : Str))) fd) : BnS (nm K) fd ps_Range___init__ 3 [("lack" : Str)] gCat := by
  obtain ⟨mv, k⟩ := FunD.kbinds0 (ps := ps_Range___init__) F 4 [("lack" : Str)] [] (fun us _ ws => us ++ ws) (by simp [d_21, He.DefD.kws]) (fun _ h => absurd h (by simp)) (fun r _ s => r.append s) (fun _ _ _ _ _ _ us mv ws h1 h2 h3 => match us, mv, ws, h1, h2, h3 with | [_, _, _, _], [], [_], _, _, _ => rfl)
  exact .kw (hU := fun us ws => us ++ ws) (hV := fun us ws => us ++ ws) k (fun _ _ _ => rfl) (fun _ _ _ => rfl) (fun vs zs h1 h2 => by rw [List.length_append, h1, h2]; rfl) fun _ _ _ _ _ _ _ r1 r2 _ _ => r1.append r2
theorem bo_Range___init__ (KX : K.In h) (Gm : h.Ns mainGlobals mg) (c : SaysZ ck fas fn K) : BodyOk P w K mg base "Range.__init__" (defScope (inClass (top 11) 0)) (defBody (inClass (top 11) 0)) (He.fAd K (("Range" : Str), some ("__init__" : Str))) ns_Range___init__ (nm K) 1 sv_Range___init__ := by
  have nd := (sc_Range___init__).nd
  obtain ⟨fd_FieldFact___init___at_Range, D_FieldFact___init___at_Range, G_FieldFact___init___at_Range_ok⟩ := ok_FieldFact___init___at_Range (P := P) (w := w) (base := base) KX Gm c
  intro cdv A outer s H E hr tk hp
  exact z_cons (z_sup (c := 3) (i := 0) (G := G_FieldFact___init___at_Range) rfl tk (sup_FieldFact c).1 (sup_FieldFact c).2 D_FieldFact___init___at_Range.kp (by rfl) (g_FieldFact KX Gm c) rfl G_FieldFact___init___at_Range_ok (hr.mono (by decide)) (b_FieldFact___init___at_Range D_FieldFact___init___at_Range) rfl (z_acons (z_up (z_var (i := 1))) (z_acons (z_up (z_var (i := 4))) (z_anil))) (alen_cons (alen_cons alen_nil))) (z_cons (z_putO (i := 0) (k := 6) rfl (hfa c) rfl rfl (z_up (z_var (i := 2)))) (z_one1 (z_putO (i := 0) (k := 7) rfl (hfa c) rfl rfl (z_up (z_var (i := 3))))))
theorem ok_Range___init__ (KX : K.In h) (Gm : h.Ns mainGlobals mg) (c : SaysZ ck fas fn K) : ∃ fd, (FunD K "__init__" "Range.__init__" (defArgs (inClass (top 11) 0)) (defBody (inClass (top 11) 0)) (defScope (inClass (top 11) 0)) [] (d_21.kws K) (He.fAd K (("Range" : Str), some ("__init__" : Str))) fd) ∧ FnOk P w K mg base (L2.CX P w) 2 (He.fAd K (("Range" : Str), some ("__init__" : Str))) fd ps_Range___init__ (spG (nm K) 3 G_Range___init__ 4) := by
  obtain ⟨fd, F⟩ := c.d.def_ 21 (d := d_21) rfl
  exact ⟨fd, F, z_init F sc_Range___init__ rfl (bo_Range___init__ KX Gm c)⟩
abbrev ns_FieldFact___init___at_Values : List Str := ["self", "field", "lack"]
abbrev ps_FieldFact___init___at_Values : List Str := ["self", "field", "lack"]
theorem sc_FieldFact___init___at_Values : FnScope ns_FieldFact___init___at_Values ps_FieldFact___init___at_Values (defScope (inClass (top 10) 0)) := ⟨rfl, rfl, rfl, by decide +kernel, rfl, by decide +kernel, by decide +kernel⟩
theorem b_FieldFact___init___at_Values {fd : FuncData} (F : FunD K "__init__" "FieldFact.__init__" (defArgs (inClass (top 10) 0)) (defBody (inClass (top 10) 0)) (defScope (inClass (top 10) 0)) [] (d_20.kws K) (He.fAd K (("FieldFact" : Str), some ("__init__" : Str))) fd) : BnS (nm K) fd ps_FieldFact___init___at_Values 2 [] gId := .plain (FunD.bindsN F fun _ _ _ _ _ _ us hl => match us, hl with | [_, _, _], _ => rfl) rfl
theorem bo_FieldFact___init___at_Values (KX : K.In h) (Gm : h.Ns mainGlobals mg) (c : SaysZ ck fas fn K) : BodyOk P w K mg base "FieldFact.__init__" (defScope (inClass (top 10) 0)) (defBody (inClass (top 10) 0)) (He.fAd K (("FieldFact" : Str), some ("__init__" : Str))) ns_FieldFact___init___at_Values (nm K) 0 sv_FieldFact___init___at_Values := by
  have nd := (sc_FieldFact___init___at_Values).nd
  intro cdv A outer s H E hr tk hp
  exact z_cons (z_putO (i := 0) (k := 9) rfl (hfa c) rfl rfl (z_up (z_var (i := 1)))) (z_one1 (z_putO (i := 0) (k := 10) rfl (hfa c) rfl rfl (z_up (z_var (i := 2)))))
theorem ok_FieldFact___init___at_Values (KX : K.In h) (Gm : h.Ns mainGlobals mg) (c : SaysZ ck fas fn K) : ∃ fd, (FunD K "__init__" "FieldFact.__init__" (defArgs (inClass (top 10) 0)) (defBody (inClass (top 10) 0)) (defScope (inClass (top 10) 0)) [] (d_20.kws K) (He.fAd K (("FieldFact" : Str), some ("__init__" : Str))) fd) ∧ FnOk P w K mg base (L2.CX P w) 1 (He.fAd K (("FieldFact" : Str), some ("__init__" : Str))) fd ps_FieldFact___init___at_Values (spG (nm K) 4 G_FieldFact___init___at_Values 2) := by
  obtain ⟨fd, F⟩ := c.d.def_ 20 (d := d_20) rfl
  exact ⟨fd, F, z_init F sc_FieldFact___init___at_Values rfl (bo_FieldFact___init___at_Values KX Gm c)⟩
abbrev ns_Values___init__ : List Str := ["self", "field", "choices", "lack"]
abbrev ps_Values___init__ : List Str := ["self", "field", "choices", "lack"]
theorem sc_Values___init__ : FnScope ns_Values___init__ ps_Values___init__ (defScope (inClass (top 12) 0)) := ⟨rfl, rfl, rfl, by decide +kernel, rfl, by decide +kernel, by decide +kernel⟩
theorem b_Values___init__ {fd : FuncData} (F : FunD K "__init__" "Values.__init__" (defArgs (inClass (top 12) 0)) (defBody (inClass (top 12) 0)) (defScope (inClass (top 12) 0)) [] (d_22.kws K) (He.fAd K (("Values" : Str), some ("__init__" : Str))) fd) : BnS (nm K) fd ps_Values___init__ 2 [("lack" : Str)] gCat := by
  obtain ⟨mv, k⟩ := FunD.kbinds0 (ps := ps_Values___init__) F 3 [("lack" : Str)] [] (fun us _ ws => us ++ ws) (by simp [d_22, He.DefD.kws]) (fun _ h => absurd h (by simp)) (fun r _ s => r.append s) (fun _ _ _ _ _ _ us mv ws h1 h2 h3 => match us, mv, ws, h1, h2, h3 with | [_, _, _], [], [_], _, _, _ => rfl)
  exact .kw (hU := fun us ws => us ++ ws) (hV := fun us ws => us ++ ws) k (fun _ _ _ => rfl) (fun _ _ _ => rfl) (fun vs zs h1 h2 => by rw [List.length_append, h1, h2]; rfl) fun _ _ _ _ _ _ _ r1 r2 _ _ => r1.append r2
theorem bo_Values___init__ (KX : K.In h) (Gm : h.Ns mainGlobals mg) (c : SaysZ ck fas fn K) : BodyOk P w K mg base "Values.__init__" (defScope (inClass (top 12) 0)) (defBody (inClass (top 12) 0)) (He.fAd K (("Values" : Str), some ("__init__" : Str))) ns_Values___init__ (nm K) 1 sv_Values___init__ := by
  have nd := (sc_Values___init__).nd
  obtain ⟨fd_FieldFact___init___at_Values, D_FieldFact___init___at_Values, G_FieldFact___init___at_Values_ok⟩ := ok_FieldFact___init___at_Values (P := P) (w := w) (base := base) KX Gm c
  intro cdv A outer s H E hr tk hp
  exact z_cons (z_sup (c := 4) (i := 0) (G := G_FieldFact___init___at_Values) rfl tk (sup_FieldFact c).1 (sup_FieldFact c).2 D_FieldFact___init___at_Values.kp (by rfl) (g_FieldFact KX Gm c) rfl G_FieldFact___init___at_Values_ok (hr.mono (by decide)) (b_FieldFact___init___at_Values D_FieldFact___init___at_Values) rfl (z_acons (z_up (z_var (i := 1))) (z_acons (z_up (z_var (i := 3))) (z_anil))) (alen_cons (alen_cons alen_nil))) (z_one1 (z_putO (i := 0) (k := 11) rfl (hfa c) rfl rfl (z_up (z_t1 call_tuple_of (us_tup rfl) (by rfl) (fr_tuple KX Gm c) boot_tuple (z_var (i := 2))))))
theorem ok_Values___init__ (KX : K.In h) (Gm : h.Ns mainGlobals mg) (c : SaysZ ck fas fn K) : ∃ fd, (FunD K "__init__" "Values.__init__" (defArgs (inClass (top 12) 0)) (defBody (inClass (top 12) 0)) (defScope (inClass (top 12) 0)) [] (d_22.kws K) (He.fAd K (("Values" : Str), some ("__init__" : Str))) fd) ∧ FnOk P w K mg base (L2.CX P w) 2 (He.fAd K (("Values" : Str), some ("__init__" : Str))) fd ps_Values___init__ (spG (nm K) 4 G_Values___init__ 3) := by
  obtain ⟨fd, F⟩ := c.d.def_ 22 (d := d_22) rfl
  exact ⟨fd, F, z_init F sc_Values___init__ rfl (bo_Values___init__ KX Gm c)⟩
abbrev ns_Counts___init__ : List Str := ["self", "words", "word", "count"]
abbrev ps_Counts___init__ : List Str := ["self", "words"]
theorem sc_Counts___init__ : FnScope ns_Counts___init__ ps_Counts___init__ (defScope (inClass (top 13) 0)) := ⟨rfl, rfl, rfl, by decide +kernel, rfl, by decide +kernel, by decide +kernel⟩
theorem b_Counts___init__ {fd : FuncData} (F : FunD K "__init__" "Counts.__init__" (defArgs (inClass (top 13) 0)) (defBody (inClass (top 13) 0)) (defScope (inClass (top 13) 0)) [] (d_23.kws K) (He.fAd K (("Counts" : Str), some ("__init__" : Str))) fd) : BnS (nm K) fd ps_Counts___init__ 1 [] gId := .plain (FunD.bindsN F fun _ _ _ _ _ _ us hl => match us, hl with | [_, _], _ => rfl) rfl
theorem bo_Counts___init__ (KX : K.In h) (Gm : h.Ns mainGlobals mg) (c : SaysZ ck fas fn K) : BodyOk P w K mg base "Counts.__init__" (defScope (inClass (top 13) 0)) (defBody (inClass (top 13) 0)) (He.fAd K (("Counts" : Str), some ("__init__" : Str))) ns_Counts___init__ (nm K) 0 sv_Counts___init__ := by
  have nd := (sc_Counts___init__).nd
  intro cdv A outer s H E hr tk hp
  exact z_one1 (z_putO (i := 0) (k := 12) rfl (hfa c) rfl rfl (z_t1E call_tuple_of (us_tup rfl) (by rfl) (fr_tuple KX Gm c) boot_tuple (z_lst (z_lc (own := [(("word" : Str), 2), (("count" : Str), 3)]) rfl nd (z_it rfl (z_up (z_var (i := 1)))) rfl (by decide) (fun _ _ _ _ _ => z_gtup rfl rfl (z_gcons (z_gname (i := 2) nd rfl (by first | exact .inl rfl | exact .inr rfl)) (z_gcons (z_gname (i := 3) nd rfl (by first | exact .inl rfl | exact .inr rfl)) (z_gnil)))) (fun _ _ _ _ _ => z_ifs0) (fun _ _ _ _ _ => z_tup (z_acons (z_up (z_var (i := 2))) (z_acons (z_up (z_var (i := 3))) (z_anil))))))))
theorem ok_Counts___init__ (KX : K.In h) (Gm : h.Ns mainGlobals mg) (c : SaysZ ck fas fn K) : ∃ fd, (FunD K "__init__" "Counts.__init__" (defArgs (inClass (top 13) 0)) (defBody (inClass (top 13) 0)) (defScope (inClass (top 13) 0)) [] (d_23.kws K) (He.fAd K (("Counts" : Str), some ("__init__" : Str))) fd) ∧ FnOk P w K mg base (L2.CX P w) 1 (He.fAd K (("Counts" : Str), some ("__init__" : Str))) fd ps_Counts___init__ (spG (nm K) 5 G_Counts___init__ 1) := by
  obtain ⟨fd, F⟩ := c.d.def_ 23 (d := d_23) rfl
  exact ⟨fd, F, z_init F sc_Counts___init__ rfl (bo_Counts___init__ KX Gm c)⟩
abbrev ns_Names___init__ : List Str := ["self", "low", "high"]
abbrev ps_Names___init__ : List Str := ["self", "low", "high"]
theorem sc_Names___init__ : FnScope ns_Names___init__ ps_Names___init__ (defScope (inClass (top 14) 0)) := ⟨rfl, rfl, rfl, by decide +kernel, rfl, by decide +kernel, by decide +kernel⟩
theorem b_Names___init__ {fd : FuncData} (F : FunD K "__init__" "Names.__init__" (defArgs (inClass (top 14) 0)) (defBody (inClass (top 14) 0)) (defScope (inClass (top 14) 0)) [] (d_24.kws K) (He.fAd K (("Names" : Str), some ("__init__" : Str))) fd) : BnS (nm K) fd ps_Names___init__ 2 [] gId := .plain (FunD.bindsN F fun _ _ _ _ _ _ us hl => match us, hl with | [_, _, _], _ => rfl) rfl
theorem bo_Names___init__ (KX : K.In h) (Gm : h.Ns mainGlobals mg) (c : SaysZ ck fas fn K) : BodyOk P w K mg base "Names.__init__" (defScope (inClass (top 14) 0)) (defBody (inClass (top 14) 0)) (He.fAd K (("Names" : Str), some ("__init__" : Str))) ns_Names___init__ (nm K) 0 sv_Names___init__ := by
  have nd := (sc_Names___init__).nd
  intro cdv A outer s H E hr tk hp
  exact z_cons (z_putO (i := 0) (k := 6) rfl (hfa c) rfl rfl (z_up (z_var (i := 1)))) (z_one1 (z_putO (i := 0) (k := 7) rfl (hfa c) rfl rfl (z_up (z_var (i := 2)))))
theorem ok_Names___init__ (KX : K.In h) (Gm : h.Ns mainGlobals mg) (c : SaysZ ck fas fn K) : ∃ fd, (FunD K "__init__" "Names.__init__" (defArgs (inClass (top 14) 0)) (defBody (inClass (top 14) 0)) (defScope (inClass (top 14) 0)) [] (d_24.kws K) (He.fAd K (("Names" : Str), some ("__init__" : Str))) fd) ∧ FnOk P w K mg base (L2.CX P w) 1 (He.fAd K (("Names" : Str), some ("__init__" : Str))) fd ps_Names___init__ (spG (nm K) 6 G_Names___init__ 2) := by
  obtain ⟨fd, F⟩ := c.d.def_ 24 (d := d_24) rfl
  exact ⟨fd, F, z_init F sc_Names___init__ rfl (bo_Names___init__ KX Gm c)⟩
abbrev ns__law_fact : List Str := ["_law_state", "_law_kind", "_law_k", "_law_lack"]
abbrev ps__law_fact : List Str := ["_law_state"]
theorem sc__law_fact : FnScope ns__law_fact ps__law_fact (defScope (top 47)) := ⟨rfl, rfl, rfl, by decide +kernel, rfl, by decide +kernel, by decide +kernel⟩
theorem b__law_fact {fd : FuncData} (F : FunD K "_law_fact" "_law_fact" (defArgs (top 47)) (defBody (top 47)) (defScope (top 47)) [] (d_25.kws K) (He.fAd K (("_law_fact" : Str), none)) fd) : Bn (nm K) fd ps__law_fact ps__law_fact.length [] gId := .plain (FunD.bindsN F fun _ _ _ _ _ _ us hl => match us, hl with | [_], _ => rfl)
theorem bo__law_fact (KX : K.In h) (Gm : h.Ns mainGlobals mg) (c : SaysZ ck fas fn K) : BodyOk P w K mg base "_law_fact" (defScope (top 47)) (defBody (top 47)) (He.fAd K (("_law_fact" : Str), none)) ns__law_fact (nm K) 4 sv__law_fact := by
  have nd := (sc__law_fact).nd
  obtain ⟨fd__law_next, D__law_next, G__law_next⟩ := ok__law_next (P := P) (w := w) (base := base) KX Gm c
  obtain ⟨fd_Parts___init__, D_Parts___init__, G_Parts___init___ok⟩ := ok_Parts___init__ (P := P) (w := w) (base := base) KX Gm c
  obtain ⟨fd_Part___init__, D_Part___init__, G_Part___init___ok⟩ := ok_Part___init__ (P := P) (w := w) (base := base) KX Gm c
  obtain ⟨fd__law_numbers, D__law_numbers, G__law_numbers⟩ := ok__law_numbers (P := P) (w := w) (base := base) KX Gm c
  obtain ⟨fd_Cell___init__, D_Cell___init__, G_Cell___init___ok⟩ := ok_Cell___init__ (P := P) (w := w) (base := base) KX Gm c
  obtain ⟨fd_Box___init__, D_Box___init__, G_Box___init___ok⟩ := ok_Box___init__ (P := P) (w := w) (base := base) KX Gm c
  obtain ⟨fd_Norms___init__, D_Norms___init__, G_Norms___init___ok⟩ := ok_Norms___init__ (P := P) (w := w) (base := base) KX Gm c
  obtain ⟨fd_Differ___init__, D_Differ___init__, G_Differ___init___ok⟩ := ok_Differ___init__ (P := P) (w := w) (base := base) KX Gm c
  obtain ⟨fd_Range___init__, D_Range___init__, G_Range___init___ok⟩ := ok_Range___init__ (P := P) (w := w) (base := base) KX Gm c
  obtain ⟨fd__law_string, D__law_string, G__law_string⟩ := ok__law_string (P := P) (w := w) (base := base) KX Gm c
  obtain ⟨fd_Values___init__, D_Values___init__, G_Values___init___ok⟩ := ok_Values___init__ (P := P) (w := w) (base := base) KX Gm c
  obtain ⟨fd__law_worth, D__law_worth, G__law_worth⟩ := ok__law_worth (P := P) (w := w) (base := base) KX Gm c
  obtain ⟨fd_Counts___init__, D_Counts___init__, G_Counts___init___ok⟩ := ok_Counts___init__ (P := P) (w := w) (base := base) KX Gm c
  obtain ⟨fd_Names___init__, D_Names___init__, G_Names___init___ok⟩ := ok_Names___init__ (P := P) (w := w) (base := base) KX Gm c
  intro cdv A outer s H E hr tk hp
  exact z_cons (z_set (i := 1) nd rfl (by first | exact .inl rfl | exact .inr rfl) (z_call (F := F__law_next) rfl tk G__law_next (hr.mono (by decide)) (b__law_next D__law_next) (by rfl) (g__law_next KX Gm c) D__law_next.kp (z_acons (z_up (z_var (i := 0))) (z_acons (z_up (z_int)) (z_anil))) (alen_cons (alen_cons alen_nil)))) (z_cons (z_ifS (z_tcmp (op_eqD (hu4 hr)) (os_eq rfl) (z_var (i := 1)) (z_int)) (z_one1 (z_ret (z_mkI (c := 8) (G := G_Parts___init__) rfl tk (mk_Parts c) rfl (cls_Parts c) rfl G_Parts___init___ok (hr.mono (by decide)) (b_Parts___init__ D_Parts___init__) (by rfl) (g_Parts KX Gm c) (z_acons (z_lst (z_lc (own := [(("_law_k" : Str), 2)]) rfl nd (z_range1 (by rfl) (fr_range KX Gm c) (z_acons (z_call (F := F__law_next) rfl tk G__law_next (hr.mono (by decide)) (b__law_next D__law_next) (by rfl) (g__law_next KX Gm c) D__law_next.kp (z_acons (z_up (z_var (i := 0))) (z_acons (z_up (z_int)) (z_anil))) (alen_cons (alen_cons alen_nil))) (z_anil))) rfl (by decide) (fun _ _ _ _ _ => z_gname (i := 2) nd rfl (by first | exact .inl rfl | exact .inr rfl)) (fun _ _ _ _ _ => z_ifs0) (fun _ _ _ _ _ => z_mkI (c := 7) (G := G_Part___init__) rfl tk0 (mk_Part c) rfl (cls_Part c) rfl G_Part___init___ok (hr.mono (by decide)) (b_Part___init__ D_Part___init__) (by rfl) (g_Part KX Gm c) (z_acons (z_call (F := F__law_next) rfl tk0 G__law_next (hr.mono (by decide)) (b__law_next D__law_next) (by rfl) (g__law_next KX Gm c) D__law_next.kp (z_acons (z_up (z_var (i := 0))) (z_acons (z_up (z_int)) (z_anil))) (alen_cons (alen_cons alen_nil))) (z_acons (z_call (F := F__law_numbers) rfl tk0 G__law_numbers (hr.mono (by decide)) (b__law_numbers D__law_numbers) (by rfl) (g__law_numbers KX Gm c) D__law_numbers.kp (z_acons (z_up (z_var (i := 0))) (z_anil)) (alen_cons alen_nil)) (z_acons (z_call (F := F__law_next) rfl tk0 G__law_next (hr.mono (by decide)) (b__law_next D__law_next) (by rfl) (g__law_next KX Gm c) D__law_next.kp (z_acons (z_up (z_var (i := 0))) (z_acons (z_up (z_int)) (z_anil))) (alen_cons (alen_cons alen_nil))) (z_anil)))) (alen_cons (alen_cons (alen_cons alen_nil))) (z_knil) alen_nil))) (z_anil)) (alen_cons alen_nil) (z_knil) alen_nil))) (z_nil)) (z_cons (z_ifS (z_tcmp (op_eqD (hu4 hr)) (os_eq rfl) (z_var (i := 1)) (z_int)) (z_one1 (z_ret (z_mkI (c := 9) (G := G_Cell___init__) rfl tk (mk_Cell c) rfl (cls_Cell c) rfl G_Cell___init___ok (hr.mono (by decide)) (b_Cell___init__ D_Cell___init__) (by rfl) (g_Cell KX Gm c) (z_acons (z_call (F := F__law_numbers) rfl tk G__law_numbers (hr.mono (by decide)) (b__law_numbers D__law_numbers) (by rfl) (g__law_numbers KX Gm c) D__law_numbers.kp (z_acons (z_up (z_var (i := 0))) (z_anil)) (alen_cons alen_nil)) (z_acons (z_call (F := F__law_numbers) rfl tk G__law_numbers (hr.mono (by decide)) (b__law_numbers D__law_numbers) (by rfl) (g__law_numbers KX Gm c) D__law_numbers.kp (z_acons (z_up (z_var (i := 0))) (z_anil)) (alen_cons alen_nil)) (z_anil))) (alen_cons (alen_cons alen_nil)) (z_knil) alen_nil))) (z_nil)) (z_cons (z_ifS (z_tcmp (op_eqD (hu4 hr)) (os_eq rfl) (z_var (i := 1)) (z_int)) (z_one1 (z_ret (z_mkI (c := 10) (G := G_Box___init__) rfl tk (mk_Box c) rfl (cls_Box c) rfl G_Box___init___ok (hr.mono (by decide)) (b_Box___init__ D_Box___init__) (by rfl) (g_Box KX Gm c) (z_acons (z_call (F := F__law_numbers) rfl tk G__law_numbers (hr.mono (by decide)) (b__law_numbers D__law_numbers) (by rfl) (g__law_numbers KX Gm c) D__law_numbers.kp (z_acons (z_up (z_var (i := 0))) (z_anil)) (alen_cons alen_nil)) (z_acons (z_call (F := F__law_numbers) rfl tk G__law_numbers (hr.mono (by decide)) (b__law_numbers D__law_numbers) (by rfl) (g__law_numbers KX Gm c) D__law_numbers.kp (z_acons (z_up (z_var (i := 0))) (z_anil)) (alen_cons alen_nil)) (z_anil))) (alen_cons (alen_cons alen_nil)) (z_knil) alen_nil))) (z_nil)) (z_cons (z_ifS (z_tcmp (op_eqD (hu4 hr)) (os_eq rfl) (z_var (i := 1)) (z_int)) (z_one1 (z_ret (z_mkI (c := 11) (G := G_Norms___init__) rfl tk (mk_Norms c) rfl (cls_Norms c) rfl G_Norms___init___ok (hr.mono (by decide)) (b_Norms___init__ D_Norms___init__) (by rfl) (g_Norms KX Gm c) (z_acons (z_call (F := F__law_next) rfl tk G__law_next (hr.mono (by decide)) (b__law_next D__law_next) (by rfl) (g__law_next KX Gm c) D__law_next.kp (z_acons (z_up (z_var (i := 0))) (z_acons (z_up (z_int)) (z_anil))) (alen_cons (alen_cons alen_nil))) (z_acons (z_binE op_mul os_mul (z_call (F := F__law_next) rfl tk G__law_next (hr.mono (by decide)) (b__law_next D__law_next) (by rfl) (g__law_next KX Gm c) D__law_next.kp (z_acons (z_up (z_var (i := 0))) (z_acons (z_up (z_int)) (z_anil))) (alen_cons (alen_cons alen_nil))) (z_up (z_bin op_pow os_pow (z_int) (z_int)))) (z_anil))) (alen_cons (alen_cons alen_nil)) (z_knil) alen_nil))) (z_nil)) (z_cons (z_ifS (z_tcmp (op_eqD (hu4 hr)) (os_eq rfl) (z_var (i := 1)) (z_int)) (z_one1 (z_ret (z_mkI (c := 12) (G := G_Differ___init__) rfl tk (mk_Differ c) rfl (cls_Differ c) rfl G_Differ___init___ok (hr.mono (by decide)) (b_Differ___init__ D_Differ___init__) (by rfl) (g_Differ KX Gm c) (z_acons (z_call (F := F__law_numbers) rfl tk G__law_numbers (hr.mono (by decide)) (b__law_numbers D__law_numbers) (by rfl) (g__law_numbers KX Gm c) D__law_numbers.kp (z_acons (z_up (z_var (i := 0))) (z_anil)) (alen_cons alen_nil)) (z_acons (z_call (F := F__law_next) rfl tk G__law_next (hr.mono (by decide)) (b__law_next D__law_next) (by rfl) (g__law_next KX Gm c) D__law_next.kp (z_acons (z_up (z_var (i := 0))) (z_acons (z_up (z_int)) (z_anil))) (alen_cons (alen_cons alen_nil))) (z_anil))) (alen_cons (alen_cons alen_nil)) (z_knil) alen_nil))) (z_nil)) (z_cons (z_set (i := 3) nd rfl (by first | exact .inl rfl | exact .inr rfl) (z_ixE rfl (z_lst (z_disp (z_acons (z_up (z_str)) (z_acons (z_up (z_str)) (z_acons (z_up (z_str)) (z_anil)))))) (z_call (F := F__law_next) rfl tk G__law_next (hr.mono (by decide)) (b__law_next D__law_next) (by rfl) (g__law_next KX Gm c) D__law_next.kp (z_acons (z_up (z_var (i := 0))) (z_acons (z_up (z_int)) (z_anil))) (alen_cons (alen_cons alen_nil))))) (z_cons (z_ifS (z_tcmp (op_eqD (hu4 hr)) (os_eq rfl) (z_var (i := 1)) (z_int)) (z_one1 (z_ret (z_mkI (c := 3) (G := G_Range___init__) rfl tk (mk_Range c) rfl (cls_Range c) rfl G_Range___init___ok (hr.mono (by decide)) (b_Range___init__ D_Range___init__) (by rfl) (g_Range KX Gm c) (z_acons (z_call (F := F__law_string) rfl tk G__law_string (hr.mono (by decide)) (b__law_string D__law_string) (by rfl) (g__law_string KX Gm c) D__law_string.kp (z_acons (z_up (z_var (i := 0))) (z_anil)) (alen_cons alen_nil)) (z_acons (z_unE (z_call (F := F__law_next) rfl tk G__law_next (hr.mono (by decide)) (b__law_next D__law_next) (by rfl) (g__law_next KX Gm c) D__law_next.kp (z_acons (z_up (z_var (i := 0))) (z_acons (z_up (z_int)) (z_anil))) (alen_cons (alen_cons alen_nil)))) (z_acons (z_call (F := F__law_next) rfl tk G__law_next (hr.mono (by decide)) (b__law_next D__law_next) (by rfl) (g__law_next KX Gm c) D__law_next.kp (z_acons (z_up (z_var (i := 0))) (z_acons (z_up (z_int)) (z_anil))) (alen_cons (alen_cons alen_nil))) (z_anil)))) (alen_cons (alen_cons (alen_cons alen_nil))) (z_kcons (z_up (z_var (i := 3))) (z_knil)) (alen_cons alen_nil)))) (z_nil)) (z_cons (z_ifS (z_tcmp (op_eqD (hu4 hr)) (os_eq rfl) (z_var (i := 1)) (z_int)) (z_one1 (z_ret (z_mkI (c := 4) (G := G_Values___init__) rfl tk (mk_Values c) rfl (cls_Values c) rfl G_Values___init___ok (hr.mono (by decide)) (b_Values___init__ D_Values___init__) (by rfl) (g_Values KX Gm c) (z_acons (z_call (F := F__law_string) rfl tk G__law_string (hr.mono (by decide)) (b__law_string D__law_string) (by rfl) (g__law_string KX Gm c) D__law_string.kp (z_acons (z_up (z_var (i := 0))) (z_anil)) (alen_cons alen_nil)) (z_acons (z_lst (z_lc (own := [(("_law_k" : Str), 2)]) rfl nd (z_range1 (by rfl) (fr_range KX Gm c) (z_acons (z_call (F := F__law_next) rfl tk G__law_next (hr.mono (by decide)) (b__law_next D__law_next) (by rfl) (g__law_next KX Gm c) D__law_next.kp (z_acons (z_up (z_var (i := 0))) (z_acons (z_up (z_int)) (z_anil))) (alen_cons (alen_cons alen_nil))) (z_anil))) rfl (by decide) (fun _ _ _ _ _ => z_gname (i := 2) nd rfl (by first | exact .inl rfl | exact .inr rfl)) (fun _ _ _ _ _ => z_ifs0) (fun _ _ _ _ _ => z_call (F := F__law_worth) rfl tk0 G__law_worth (hr.mono (by decide)) (b__law_worth D__law_worth) (by rfl) (g__law_worth KX Gm c) D__law_worth.kp (z_acons (z_up (z_var (i := 0))) (z_anil)) (alen_cons alen_nil)))) (z_anil))) (alen_cons (alen_cons alen_nil)) (z_kcons (z_up (z_var (i := 3))) (z_knil)) (alen_cons alen_nil)))) (z_nil)) (z_cons (z_ifS (z_tcmp (op_eqD (hu4 hr)) (os_eq rfl) (z_var (i := 1)) (z_int)) (z_one1 (z_ret (z_mkI (c := 5) (G := G_Counts___init__) rfl tk (mk_Counts c) rfl (cls_Counts c) rfl G_Counts___init___ok (hr.mono (by decide)) (b_Counts___init__ D_Counts___init__) (by rfl) (g_Counts KX Gm c) (z_acons (z_lst (z_lc (own := [(("_law_k" : Str), 2)]) rfl nd (z_range1 (by rfl) (fr_range KX Gm c) (z_acons (z_call (F := F__law_next) rfl tk G__law_next (hr.mono (by decide)) (b__law_next D__law_next) (by rfl) (g__law_next KX Gm c) D__law_next.kp (z_acons (z_up (z_var (i := 0))) (z_acons (z_up (z_int)) (z_anil))) (alen_cons (alen_cons alen_nil))) (z_anil))) rfl (by decide) (fun _ _ _ _ _ => z_gname (i := 2) nd rfl (by first | exact .inl rfl | exact .inr rfl)) (fun _ _ _ _ _ => z_ifs0) (fun _ _ _ _ _ => z_tup (z_acons (z_call (F := F__law_string) rfl tk0 G__law_string (hr.mono (by decide)) (b__law_string D__law_string) (by rfl) (g__law_string KX Gm c) D__law_string.kp (z_acons (z_up (z_var (i := 0))) (z_anil)) (alen_cons alen_nil)) (z_acons (z_call (F := F__law_next) rfl tk0 G__law_next (hr.mono (by decide)) (b__law_next D__law_next) (by rfl) (g__law_next KX Gm c) D__law_next.kp (z_acons (z_up (z_var (i := 0))) (z_acons (z_up (z_int)) (z_anil))) (alen_cons (alen_cons alen_nil))) (z_anil)))))) (z_anil)) (alen_cons alen_nil) (z_knil) alen_nil))) (z_nil)) (z_one1 (z_ret (z_mkI (c := 6) (G := G_Names___init__) rfl tk (mk_Names c) rfl (cls_Names c) rfl G_Names___init___ok (hr.mono (by decide)) (b_Names___init__ D_Names___init__) (by rfl) (g_Names KX Gm c) (z_acons (z_call (F := F__law_string) rfl tk G__law_string (hr.mono (by decide)) (b__law_string D__law_string) (by rfl) (g__law_string KX Gm c) D__law_string.kp (z_acons (z_up (z_var (i := 0))) (z_anil)) (alen_cons alen_nil)) (z_acons (z_call (F := F__law_string) rfl tk G__law_string (hr.mono (by decide)) (b__law_string D__law_string) (by rfl) (g__law_string KX Gm c) D__law_string.kp (z_acons (z_up (z_var (i := 0))) (z_anil)) (alen_cons alen_nil)) (z_anil))) (alen_cons (alen_cons alen_nil)) (z_knil) alen_nil))))))))))))
theorem ok__law_fact (KX : K.In h) (Gm : h.Ns mainGlobals mg) (c : SaysZ ck fas fn K) : ∃ fd, (FunD K "_law_fact" "_law_fact" (defArgs (top 47)) (defBody (top 47)) (defScope (top 47)) [] (d_25.kws K) (He.fAd K (("_law_fact" : Str), none)) fd) ∧ FnOk P w K mg base (L2.CX P w) 5 (He.fAd K (("_law_fact" : Str), none)) fd ps__law_fact (spF (nm K) F__law_fact ps__law_fact.length) := by
  obtain ⟨fd, F⟩ := c.d.def_ 25 (d := d_25) rfl
  exact ⟨fd, F, z_fun F sc__law_fact (bo__law_fact KX Gm c)⟩
abbrev ns_pairs_code : List Str := ["pairs", "word", "count"]
abbrev ps_pairs_code : List Str := ["pairs"]
theorem sc_pairs_code : FnScope ns_pairs_code ps_pairs_code (defScope (top 29)) := ⟨rfl, rfl, rfl, by decide +kernel, rfl, by decide +kernel, by decide +kernel⟩
theorem b_pairs_code {fd : FuncData} (F : FunD K "pairs_code" "pairs_code" (defArgs (top 29)) (defBody (top 29)) (defScope (top 29)) [] (d_26.kws K) (He.fAd K (("pairs_code" : Str), none)) fd) : Bn (nm K) fd ps_pairs_code ps_pairs_code.length [] gId := .plain (FunD.bindsN F fun _ _ _ _ _ _ us hl => match us, hl with | [_], _ => rfl)
theorem bo_pairs_code (KX : K.In h) (Gm : h.Ns mainGlobals mg) (c : SaysZ ck fas fn K) : BodyOk P w K mg base "pairs_code" (defScope (top 29)) (defBody (top 29)) (He.fAd K (("pairs_code" : Str), none)) ns_pairs_code (nm K) 2 sv_pairs_code := by
  have nd := (sc_pairs_code).nd
  obtain ⟨fd_list_code, D_list_code, G_list_code⟩ := ok_list_code (P := P) (w := w) (base := base) KX Gm c
  obtain ⟨fd_string_code, D_string_code, G_string_code⟩ := ok_string_code (P := P) (w := w) (base := base) KX Gm c
  intro cdv A outer s H E hr tk hp
  exact z_one1 (z_ret (z_call (F := F_list_code) rfl tk G_list_code (hr.mono (by decide)) (b_list_code D_list_code) (by rfl) (g_list_code KX Gm c) D_list_code.kp (z_acons (z_lst (z_lc (own := [(("word" : Str), 1), (("count" : Str), 2)]) rfl nd (z_it rfl (z_up (z_var (i := 0)))) rfl (by decide) (fun _ _ _ _ _ => z_gtup rfl rfl (z_gcons (z_gname (i := 1) nd rfl (by first | exact .inl rfl | exact .inr rfl)) (z_gcons (z_gname (i := 2) nd rfl (by first | exact .inl rfl | exact .inr rfl)) (z_gnil)))) (fun _ _ _ _ _ => z_ifs0) (fun _ _ _ _ _ => z_binE op_addU os_add (z_call (F := F_string_code) rfl tk0 G_string_code (hr.mono (by decide)) (b_string_code D_string_code) (by rfl) (g_string_code KX Gm c) D_string_code.kp (z_acons (z_up (z_var (i := 1))) (z_anil)) (alen_cons alen_nil)) (z_lst (z_disp (z_acons (z_up (z_var (i := 2))) (z_anil))))))) (z_anil)) (alen_cons alen_nil)))
theorem ok_pairs_code (KX : K.In h) (Gm : h.Ns mainGlobals mg) (c : SaysZ ck fas fn K) : ∃ fd, (FunD K "pairs_code" "pairs_code" (defArgs (top 29)) (defBody (top 29)) (defScope (top 29)) [] (d_26.kws K) (He.fAd K (("pairs_code" : Str), none)) fd) ∧ FnOk P w K mg base (L2.CX P w) 3 (He.fAd K (("pairs_code" : Str), none)) fd ps_pairs_code (spF (nm K) F_pairs_code ps_pairs_code.length) := by
  obtain ⟨fd, F⟩ := c.d.def_ 26 (d := d_26) rfl
  exact ⟨fd, F, z_fun F sc_pairs_code (bo_pairs_code KX Gm c)⟩
abbrev ns_fact_code : List Str := ["fact", "part", "choices", "choice"]
abbrev ps_fact_code : List Str := ["fact"]
theorem sc_fact_code : FnScope ns_fact_code ps_fact_code (defScope (top 31)) := ⟨rfl, rfl, rfl, by decide +kernel, rfl, by decide +kernel, by decide +kernel⟩
theorem b_fact_code {fd : FuncData} (F : FunD K "fact_code" "fact_code" (defArgs (top 31)) (defBody (top 31)) (defScope (top 31)) [] (d_27.kws K) (He.fAd K (("fact_code" : Str), none)) fd) : Bn (nm K) fd ps_fact_code ps_fact_code.length [] gId := .plain (FunD.bindsN F fun _ _ _ _ _ _ us hl => match us, hl with | [_], _ => rfl)
theorem bo_fact_code (KX : K.In h) (Gm : h.Ns mainGlobals mg) (c : SaysZ ck fas fn K) : BodyOk P w K mg base "fact_code" (defScope (top 31)) (defBody (top 31)) (He.fAd K (("fact_code" : Str), none)) ns_fact_code (nm K) 3 sv_fact_code := by
  have nd := (sc_fact_code).nd
  obtain ⟨fd_list_code, D_list_code, G_list_code⟩ := ok_list_code (P := P) (w := w) (base := base) KX Gm c
  obtain ⟨fd_numbers_code, D_numbers_code, G_numbers_code⟩ := ok_numbers_code (P := P) (w := w) (base := base) KX Gm c
  obtain ⟨fd_string_code, D_string_code, G_string_code⟩ := ok_string_code (P := P) (w := w) (base := base) KX Gm c
  obtain ⟨fd_value_code, D_value_code, G_value_code⟩ := ok_value_code (P := P) (w := w) (base := base) KX Gm c
  obtain ⟨fd_pairs_code, D_pairs_code, G_pairs_code⟩ := ok_pairs_code (P := P) (w := w) (base := base) KX Gm c
  intro cdv A outer s H E hr tk hp
  exact z_cons (z_ifS (z_tval (z_up (z_isi rfl (.own _) (qo_Parts c) (by rfl) (fr_isinstance KX Gm c) (pe_glob (v := .ref (He.ga K ("Parts" : Str))) (by rfl) (g_Parts KX Gm c) rfl) (z_var (i := 0))))) (z_one1 (z_ret (z_binE op_addU os_add (z_lst (z_disp (z_acons (z_up (z_int)) (z_anil)))) (z_call (F := F_list_code) rfl tk G_list_code (hr.mono (by decide)) (b_list_code D_list_code) (by rfl) (g_list_code KX Gm c) D_list_code.kp (z_acons (z_lst (z_lc (own := [(("part" : Str), 1)]) rfl nd (z_it rfl (z_up (z_fld (k := 0) rfl rfl (z_var (i := 0))))) rfl (by decide) (fun _ _ _ _ _ => z_gname (i := 1) nd rfl (by first | exact .inl rfl | exact .inr rfl)) (fun _ _ _ _ _ => z_ifs0) (fun _ _ _ _ _ => z_binE op_addU os_add (z_binE op_addU os_add (z_lst (z_disp (z_acons (z_up (z_fld (k := 1) rfl rfl (z_var (i := 1)))) (z_anil)))) (z_call (F := F_numbers_code) rfl tk0 G_numbers_code (hr.mono (by decide)) (b_numbers_code D_numbers_code) (by rfl) (g_numbers_code KX Gm c) D_numbers_code.kp (z_acons (z_up (z_fld (k := 2) rfl rfl (z_var (i := 1)))) (z_anil)) (alen_cons alen_nil))) (z_lst (z_disp (z_acons (z_up (z_fld (k := 3) rfl rfl (z_var (i := 1)))) (z_anil))))))) (z_anil)) (alen_cons alen_nil))))) (z_nil)) (z_cons (z_ifS (z_tval (z_up (z_isi rfl (.own _) (qo_Cell c) (by rfl) (fr_isinstance KX Gm c) (pe_glob (v := .ref (He.ga K ("Cell" : Str))) (by rfl) (g_Cell KX Gm c) rfl) (z_var (i := 0))))) (z_one1 (z_ret (z_binE op_addU os_add (z_binE op_addU os_add (z_lst (z_disp (z_acons (z_up (z_int)) (z_anil)))) (z_call (F := F_numbers_code) rfl tk G_numbers_code (hr.mono (by decide)) (b_numbers_code D_numbers_code) (by rfl) (g_numbers_code KX Gm c) D_numbers_code.kp (z_acons (z_up (z_fld (k := 4) rfl rfl (z_var (i := 0)))) (z_anil)) (alen_cons alen_nil))) (z_call (F := F_numbers_code) rfl tk G_numbers_code (hr.mono (by decide)) (b_numbers_code D_numbers_code) (by rfl) (g_numbers_code KX Gm c) D_numbers_code.kp (z_acons (z_up (z_fld (k := 5) rfl rfl (z_var (i := 0)))) (z_anil)) (alen_cons alen_nil))))) (z_nil)) (z_cons (z_ifS (z_tval (z_up (z_isi rfl (.own _) (qo_Box c) (by rfl) (fr_isinstance KX Gm c) (pe_glob (v := .ref (He.ga K ("Box" : Str))) (by rfl) (g_Box KX Gm c) rfl) (z_var (i := 0))))) (z_one1 (z_ret (z_binE op_addU os_add (z_binE op_addU os_add (z_lst (z_disp (z_acons (z_up (z_int)) (z_anil)))) (z_call (F := F_numbers_code) rfl tk G_numbers_code (hr.mono (by decide)) (b_numbers_code D_numbers_code) (by rfl) (g_numbers_code KX Gm c) D_numbers_code.kp (z_acons (z_up (z_fld (k := 6) rfl rfl (z_var (i := 0)))) (z_anil)) (alen_cons alen_nil))) (z_call (F := F_numbers_code) rfl tk G_numbers_code (hr.mono (by decide)) (b_numbers_code D_numbers_code) (by rfl) (g_numbers_code KX Gm c) D_numbers_code.kp (z_acons (z_up (z_fld (k := 7) rfl rfl (z_var (i := 0)))) (z_anil)) (alen_cons alen_nil))))) (z_nil)) (z_cons (z_ifS (z_tval (z_up (z_isi rfl (.own _) (qo_Norms c) (by rfl) (fr_isinstance KX Gm c) (pe_glob (v := .ref (He.ga K ("Norms" : Str))) (by rfl) (g_Norms KX Gm c) rfl) (z_var (i := 0))))) (z_one1 (z_ret (z_lst (z_disp (z_acons (z_up (z_int)) (z_acons (z_up (z_fld (k := 6) rfl rfl (z_var (i := 0)))) (z_acons (z_up (z_fld (k := 7) rfl rfl (z_var (i := 0)))) (z_anil)))))))) (z_nil)) (z_cons (z_ifS (z_tval (z_up (z_isi rfl (.own _) (qo_Differ c) (by rfl) (fr_isinstance KX Gm c) (pe_glob (v := .ref (He.ga K ("Differ" : Str))) (by rfl) (g_Differ KX Gm c) rfl) (z_var (i := 0))))) (z_one1 (z_ret (z_binE op_addU os_add (z_binE op_addU os_add (z_lst (z_disp (z_acons (z_up (z_int)) (z_anil)))) (z_call (F := F_numbers_code) rfl tk G_numbers_code (hr.mono (by decide)) (b_numbers_code D_numbers_code) (by rfl) (g_numbers_code KX Gm c) D_numbers_code.kp (z_acons (z_up (z_fld (k := 2) rfl rfl (z_var (i := 0)))) (z_anil)) (alen_cons alen_nil))) (z_lst (z_disp (z_acons (z_up (z_fld (k := 8) rfl rfl (z_var (i := 0)))) (z_anil))))))) (z_nil)) (z_cons (z_ifS (z_tval (z_up (z_isi rfl (.own _) (qo_Range c) (by rfl) (fr_isinstance KX Gm c) (pe_glob (v := .ref (He.ga K ("Range" : Str))) (by rfl) (g_Range KX Gm c) rfl) (z_var (i := 0))))) (z_one1 (z_ret (z_binE op_addU os_add (z_binE op_addU os_add (z_lst (z_disp (z_acons (z_up (z_int)) (z_anil)))) (z_call (F := F_string_code) rfl tk G_string_code (hr.mono (by decide)) (b_string_code D_string_code) (by rfl) (g_string_code KX Gm c) D_string_code.kp (z_acons (z_up (z_fld (k := 9) rfl rfl (z_var (i := 0)))) (z_anil)) (alen_cons alen_nil))) (z_lst (z_disp (z_acons (z_up (z_fld (k := 6) rfl rfl (z_var (i := 0)))) (z_acons (z_up (z_fld (k := 7) rfl rfl (z_var (i := 0)))) (z_acons (z_tidx (zs := zs_LACKS) (ys := [[110, 111, 98, 111, 100, 121], [115, 111, 109, 101], [97, 108, 108]]) (by rfl) (g_LACKS KX Gm c) (tt_LACKS c) (th_LACKS c) rfl (z_up (z_fld (k := 10) rfl rfl (z_var (i := 0))))) (z_anil))))))))) (z_nil)) (z_cons (z_ifS (z_tval (z_up (z_isi rfl (.own _) (qo_Values c) (by rfl) (fr_isinstance KX Gm c) (pe_glob (v := .ref (He.ga K ("Values" : Str))) (by rfl) (g_Values KX Gm c) rfl) (z_var (i := 0))))) (z_cons (z_set (i := 2) nd rfl (by first | exact .inl rfl | exact .inr rfl) (z_call (F := F_list_code) rfl tk G_list_code (hr.mono (by decide)) (b_list_code D_list_code) (by rfl) (g_list_code KX Gm c) D_list_code.kp (z_acons (z_lst (z_lc (own := [(("choice" : Str), 3)]) rfl nd (z_it rfl (z_up (z_fld (k := 11) rfl rfl (z_var (i := 0))))) rfl (by decide) (fun _ _ _ _ _ => z_gname (i := 3) nd rfl (by first | exact .inl rfl | exact .inr rfl)) (fun _ _ _ _ _ => z_ifs0) (fun _ _ _ _ _ => z_call (F := F_value_code) rfl tk0 G_value_code (hr.mono (by decide)) (b_value_code D_value_code) (by rfl) (g_value_code KX Gm c) D_value_code.kp (z_acons (z_up (z_var (i := 3))) (z_anil)) (alen_cons alen_nil)))) (z_anil)) (alen_cons alen_nil))) (z_one1 (z_ret (z_binE op_addU os_add (z_binE op_addU os_add (z_binE op_addU os_add (z_lst (z_disp (z_acons (z_up (z_int)) (z_anil)))) (z_call (F := F_string_code) rfl tk G_string_code (hr.mono (by decide)) (b_string_code D_string_code) (by rfl) (g_string_code KX Gm c) D_string_code.kp (z_acons (z_up (z_fld (k := 9) rfl rfl (z_var (i := 0)))) (z_anil)) (alen_cons alen_nil))) (z_up (z_var (i := 2)))) (z_lst (z_disp (z_acons (z_tidx (zs := zs_LACKS) (ys := [[110, 111, 98, 111, 100, 121], [115, 111, 109, 101], [97, 108, 108]]) (by rfl) (g_LACKS KX Gm c) (tt_LACKS c) (th_LACKS c) rfl (z_up (z_fld (k := 10) rfl rfl (z_var (i := 0))))) (z_anil)))))))) (z_nil)) (z_cons (z_ifS (z_tval (z_up (z_isi rfl (.own _) (qo_Counts c) (by rfl) (fr_isinstance KX Gm c) (pe_glob (v := .ref (He.ga K ("Counts" : Str))) (by rfl) (g_Counts KX Gm c) rfl) (z_var (i := 0))))) (z_one1 (z_ret (z_binE op_addU os_add (z_lst (z_disp (z_acons (z_up (z_int)) (z_anil)))) (z_call (F := F_pairs_code) rfl tk G_pairs_code (hr.mono (by decide)) (b_pairs_code D_pairs_code) (by rfl) (g_pairs_code KX Gm c) D_pairs_code.kp (z_acons (z_up (z_fld (k := 12) rfl rfl (z_var (i := 0)))) (z_anil)) (alen_cons alen_nil))))) (z_nil)) (z_cons (z_ass (z_tval (z_up (z_isi rfl (.own _) (qo_Names c) (by rfl) (fr_isinstance KX Gm c) (pe_glob (v := .ref (He.ga K ("Names" : Str))) (by rfl) (g_Names KX Gm c) rfl) (z_var (i := 0)))))) (z_one1 (z_ret (z_binE op_addU os_add (z_binE op_addU os_add (z_lst (z_disp (z_acons (z_up (z_int)) (z_anil)))) (z_call (F := F_string_code) rfl tk G_string_code (hr.mono (by decide)) (b_string_code D_string_code) (by rfl) (g_string_code KX Gm c) D_string_code.kp (z_acons (z_up (z_fld (k := 6) rfl rfl (z_var (i := 0)))) (z_anil)) (alen_cons alen_nil))) (z_call (F := F_string_code) rfl tk G_string_code (hr.mono (by decide)) (b_string_code D_string_code) (by rfl) (g_string_code KX Gm c) D_string_code.kp (z_acons (z_up (z_fld (k := 7) rfl rfl (z_var (i := 0)))) (z_anil)) (alen_cons alen_nil)))))))))))))
theorem ok_fact_code (KX : K.In h) (Gm : h.Ns mainGlobals mg) (c : SaysZ ck fas fn K) : ∃ fd, (FunD K "fact_code" "fact_code" (defArgs (top 31)) (defBody (top 31)) (defScope (top 31)) [] (d_27.kws K) (He.fAd K (("fact_code" : Str), none)) fd) ∧ FnOk P w K mg base (L2.CX P w) 4 (He.fAd K (("fact_code" : Str), none)) fd ps_fact_code (spF (nm K) F_fact_code ps_fact_code.length) := by
  obtain ⟨fd, F⟩ := c.d.def_ 27 (d := d_27) rfl
  exact ⟨fd, F, z_fun F sc_fact_code (bo_fact_code KX Gm c)⟩
abbrev ns__law_list : List Str := ["_law_codes", "_law_code", "_law_part"]
abbrev ps__law_list : List Str := ["_law_codes"]
theorem sc__law_list : FnScope ns__law_list ps__law_list (defScope (top 52)) := ⟨rfl, rfl, rfl, by decide +kernel, rfl, by decide +kernel, by decide +kernel⟩
theorem b__law_list {fd : FuncData} (F : FunD K "_law_list" "_law_list" (defArgs (top 52)) (defBody (top 52)) (defScope (top 52)) [] (d_28.kws K) (He.fAd K (("_law_list" : Str), none)) fd) : Bn (nm K) fd ps__law_list ps__law_list.length [] gId := .plain (FunD.bindsN F fun _ _ _ _ _ _ us hl => match us, hl with | [_], _ => rfl)
theorem bo__law_list (KX : K.In h) (Gm : h.Ns mainGlobals mg) (c : SaysZ ck fas fn K) : BodyOk P w K mg base "_law_list" (defScope (top 52)) (defBody (top 52)) (He.fAd K (("_law_list" : Str), none)) ns__law_list (nm K) 0 sv__law_list := by
  have nd := (sc__law_list).nd
  intro cdv A outer s H E hr tk hp
  exact z_cons (z_set (i := 1) nd rfl (by first | exact .inl rfl | exact .inr rfl) (z_lst (z_disp (z_acons (z_up (z_b1 call_lenU (us_len rfl) (by rfl) (fr_len KX Gm c) boot_len (z_var (i := 0)))) (z_anil))))) (z_cons (z_for hp rfl (z_it rfl (z_up (z_var (i := 0)))) (z_gname (i := 2) nd rfl (by first | exact .inl rfl | exact .inr rfl)) (z_one1 (z_set (i := 1) nd rfl (by first | exact .inl rfl | exact .inr rfl) (z_up (z_bin op_addU os_add (z_var (i := 1)) (z_var (i := 2))))))) (z_one1 (z_ret (z_up (z_var (i := 1))))))
theorem ok__law_list (KX : K.In h) (Gm : h.Ns mainGlobals mg) (c : SaysZ ck fas fn K) : ∃ fd, (FunD K "_law_list" "_law_list" (defArgs (top 52)) (defBody (top 52)) (defScope (top 52)) [] (d_28.kws K) (He.fAd K (("_law_list" : Str), none)) fd) ∧ FnOk P w K mg base (L2.CX P w) 1 (He.fAd K (("_law_list" : Str), none)) fd ps__law_list (spF (nm K) F__law_list ps__law_list.length) := by
  obtain ⟨fd, F⟩ := c.d.def_ 28 (d := d_28) rfl
  exact ⟨fd, F, z_fun F sc__law_list (bo__law_list KX Gm c)⟩
abbrev ns__law_fact_due : List Str := ["_law_fact_here", "_law_part", "_law_choices", "_law_choice", "_law_word", "_law_count"]
abbrev ps__law_fact_due : List Str := ["_law_fact_here"]
theorem sc__law_fact_due : FnScope ns__law_fact_due ps__law_fact_due (defScope (top 54)) := ⟨rfl, rfl, rfl, by decide +kernel, rfl, by decide +kernel, by decide +kernel⟩
theorem b__law_fact_due {fd : FuncData} (F : FunD K "_law_fact_due" "_law_fact_due" (defArgs (top 54)) (defBody (top 54)) (defScope (top 54)) [] (d_29.kws K) (He.fAd K (("_law_fact_due" : Str), none)) fd) : Bn (nm K) fd ps__law_fact_due ps__law_fact_due.length [] gId := .plain (FunD.bindsN F fun _ _ _ _ _ _ us hl => match us, hl with | [_], _ => rfl)
theorem bo__law_fact_due (KX : K.In h) (Gm : h.Ns mainGlobals mg) (c : SaysZ ck fas fn K) : BodyOk P w K mg base "_law_fact_due" (defScope (top 54)) (defBody (top 54)) (He.fAd K (("_law_fact_due" : Str), none)) ns__law_fact_due (nm K) 2 sv__law_fact_due := by
  have nd := (sc__law_fact_due).nd
  obtain ⟨fd__law_list, D__law_list, G__law_list⟩ := ok__law_list (P := P) (w := w) (base := base) KX Gm c
  obtain ⟨fd__law_counted, D__law_counted, G__law_counted⟩ := ok__law_counted (P := P) (w := w) (base := base) KX Gm c
  obtain ⟨fd__law_text, D__law_text, G__law_text⟩ := ok__law_text (P := P) (w := w) (base := base) KX Gm c
  obtain ⟨fd__law_value, D__law_value, G__law_value⟩ := ok__law_value (P := P) (w := w) (base := base) KX Gm c
  intro cdv A outer s H E hr tk hp
  exact z_cons (z_ifS (z_tval (z_up (z_isi rfl (.own _) (qo_Parts c) (by rfl) (fr_isinstance KX Gm c) (pe_glob (v := .ref (He.ga K ("Parts" : Str))) (by rfl) (g_Parts KX Gm c) rfl) (z_var (i := 0))))) (z_one1 (z_ret (z_binE op_addU os_add (z_lst (z_disp (z_acons (z_up (z_int)) (z_anil)))) (z_call (F := F__law_list) rfl tk G__law_list (hr.mono (by decide)) (b__law_list D__law_list) (by rfl) (g__law_list KX Gm c) D__law_list.kp (z_acons (z_lst (z_lc (own := [(("_law_part" : Str), 1)]) rfl nd (z_it rfl (z_up (z_fld (k := 0) rfl rfl (z_var (i := 0))))) rfl (by decide) (fun _ _ _ _ _ => z_gname (i := 1) nd rfl (by first | exact .inl rfl | exact .inr rfl)) (fun _ _ _ _ _ => z_ifs0) (fun _ _ _ _ _ => z_binE op_addU os_add (z_binE op_addU os_add (z_lst (z_disp (z_acons (z_up (z_fld (k := 1) rfl rfl (z_var (i := 1)))) (z_anil)))) (z_call (F := F__law_counted) rfl tk0 G__law_counted (hr.mono (by decide)) (b__law_counted D__law_counted) (by rfl) (g__law_counted KX Gm c) D__law_counted.kp (z_acons (z_up (z_fld (k := 2) rfl rfl (z_var (i := 1)))) (z_anil)) (alen_cons alen_nil))) (z_lst (z_disp (z_acons (z_up (z_fld (k := 3) rfl rfl (z_var (i := 1)))) (z_anil))))))) (z_anil)) (alen_cons alen_nil))))) (z_nil)) (z_cons (z_ifS (z_tval (z_up (z_isi rfl (.own _) (qo_Cell c) (by rfl) (fr_isinstance KX Gm c) (pe_glob (v := .ref (He.ga K ("Cell" : Str))) (by rfl) (g_Cell KX Gm c) rfl) (z_var (i := 0))))) (z_one1 (z_ret (z_binE op_addU os_add (z_binE op_addU os_add (z_lst (z_disp (z_acons (z_up (z_int)) (z_anil)))) (z_call (F := F__law_counted) rfl tk G__law_counted (hr.mono (by decide)) (b__law_counted D__law_counted) (by rfl) (g__law_counted KX Gm c) D__law_counted.kp (z_acons (z_up (z_fld (k := 4) rfl rfl (z_var (i := 0)))) (z_anil)) (alen_cons alen_nil))) (z_call (F := F__law_counted) rfl tk G__law_counted (hr.mono (by decide)) (b__law_counted D__law_counted) (by rfl) (g__law_counted KX Gm c) D__law_counted.kp (z_acons (z_up (z_fld (k := 5) rfl rfl (z_var (i := 0)))) (z_anil)) (alen_cons alen_nil))))) (z_nil)) (z_cons (z_ifS (z_tval (z_up (z_isi rfl (.own _) (qo_Box c) (by rfl) (fr_isinstance KX Gm c) (pe_glob (v := .ref (He.ga K ("Box" : Str))) (by rfl) (g_Box KX Gm c) rfl) (z_var (i := 0))))) (z_one1 (z_ret (z_binE op_addU os_add (z_binE op_addU os_add (z_lst (z_disp (z_acons (z_up (z_int)) (z_anil)))) (z_call (F := F__law_counted) rfl tk G__law_counted (hr.mono (by decide)) (b__law_counted D__law_counted) (by rfl) (g__law_counted KX Gm c) D__law_counted.kp (z_acons (z_up (z_fld (k := 6) rfl rfl (z_var (i := 0)))) (z_anil)) (alen_cons alen_nil))) (z_call (F := F__law_counted) rfl tk G__law_counted (hr.mono (by decide)) (b__law_counted D__law_counted) (by rfl) (g__law_counted KX Gm c) D__law_counted.kp (z_acons (z_up (z_fld (k := 7) rfl rfl (z_var (i := 0)))) (z_anil)) (alen_cons alen_nil))))) (z_nil)) (z_cons (z_ifS (z_tval (z_up (z_isi rfl (.own _) (qo_Norms c) (by rfl) (fr_isinstance KX Gm c) (pe_glob (v := .ref (He.ga K ("Norms" : Str))) (by rfl) (g_Norms KX Gm c) rfl) (z_var (i := 0))))) (z_one1 (z_ret (z_lst (z_disp (z_acons (z_up (z_int)) (z_acons (z_up (z_fld (k := 6) rfl rfl (z_var (i := 0)))) (z_acons (z_up (z_fld (k := 7) rfl rfl (z_var (i := 0)))) (z_anil)))))))) (z_nil)) (z_cons (z_ifS (z_tval (z_up (z_isi rfl (.own _) (qo_Differ c) (by rfl) (fr_isinstance KX Gm c) (pe_glob (v := .ref (He.ga K ("Differ" : Str))) (by rfl) (g_Differ KX Gm c) rfl) (z_var (i := 0))))) (z_one1 (z_ret (z_binE op_addU os_add (z_binE op_addU os_add (z_lst (z_disp (z_acons (z_up (z_int)) (z_anil)))) (z_call (F := F__law_counted) rfl tk G__law_counted (hr.mono (by decide)) (b__law_counted D__law_counted) (by rfl) (g__law_counted KX Gm c) D__law_counted.kp (z_acons (z_up (z_fld (k := 2) rfl rfl (z_var (i := 0)))) (z_anil)) (alen_cons alen_nil))) (z_lst (z_disp (z_acons (z_up (z_fld (k := 8) rfl rfl (z_var (i := 0)))) (z_anil))))))) (z_nil)) (z_cons (z_ifS (z_tval (z_up (z_isi rfl (.own _) (qo_Range c) (by rfl) (fr_isinstance KX Gm c) (pe_glob (v := .ref (He.ga K ("Range" : Str))) (by rfl) (g_Range KX Gm c) rfl) (z_var (i := 0))))) (z_one1 (z_ret (z_binE op_addU os_add (z_binE op_addU os_add (z_lst (z_disp (z_acons (z_up (z_int)) (z_anil)))) (z_call (F := F__law_text) rfl tk G__law_text (hr.mono (by decide)) (b__law_text D__law_text) (by rfl) (g__law_text KX Gm c) D__law_text.kp (z_acons (z_up (z_fld (k := 9) rfl rfl (z_var (i := 0)))) (z_anil)) (alen_cons alen_nil))) (z_lst (z_disp (z_acons (z_up (z_fld (k := 6) rfl rfl (z_var (i := 0)))) (z_acons (z_up (z_fld (k := 7) rfl rfl (z_var (i := 0)))) (z_acons (z_idx rfl (hu5 hr) (z_lst (z_disp (z_acons (z_up (z_str)) (z_acons (z_up (z_str)) (z_acons (z_up (z_str)) (z_anil)))))) (z_up (z_fld (k := 10) rfl rfl (z_var (i := 0))))) (z_anil))))))))) (z_nil)) (z_cons (z_ifS (z_tval (z_up (z_isi rfl (.own _) (qo_Values c) (by rfl) (fr_isinstance KX Gm c) (pe_glob (v := .ref (He.ga K ("Values" : Str))) (by rfl) (g_Values KX Gm c) rfl) (z_var (i := 0))))) (z_cons (z_set (i := 2) nd rfl (by first | exact .inl rfl | exact .inr rfl) (z_call (F := F__law_list) rfl tk G__law_list (hr.mono (by decide)) (b__law_list D__law_list) (by rfl) (g__law_list KX Gm c) D__law_list.kp (z_acons (z_lst (z_lc (own := [(("_law_choice" : Str), 3)]) rfl nd (z_it rfl (z_up (z_fld (k := 11) rfl rfl (z_var (i := 0))))) rfl (by decide) (fun _ _ _ _ _ => z_gname (i := 3) nd rfl (by first | exact .inl rfl | exact .inr rfl)) (fun _ _ _ _ _ => z_ifs0) (fun _ _ _ _ _ => z_call (F := F__law_value) rfl tk0 G__law_value (hr.mono (by decide)) (b__law_value D__law_value) (by rfl) (g__law_value KX Gm c) D__law_value.kp (z_acons (z_up (z_var (i := 3))) (z_anil)) (alen_cons alen_nil)))) (z_anil)) (alen_cons alen_nil))) (z_one1 (z_ret (z_binE op_addU os_add (z_binE op_addU os_add (z_binE op_addU os_add (z_lst (z_disp (z_acons (z_up (z_int)) (z_anil)))) (z_call (F := F__law_text) rfl tk G__law_text (hr.mono (by decide)) (b__law_text D__law_text) (by rfl) (g__law_text KX Gm c) D__law_text.kp (z_acons (z_up (z_fld (k := 9) rfl rfl (z_var (i := 0)))) (z_anil)) (alen_cons alen_nil))) (z_up (z_var (i := 2)))) (z_lst (z_disp (z_acons (z_idx rfl (hu5 hr) (z_lst (z_disp (z_acons (z_up (z_str)) (z_acons (z_up (z_str)) (z_acons (z_up (z_str)) (z_anil)))))) (z_up (z_fld (k := 10) rfl rfl (z_var (i := 0))))) (z_anil)))))))) (z_nil)) (z_cons (z_ifS (z_tval (z_up (z_isi rfl (.own _) (qo_Counts c) (by rfl) (fr_isinstance KX Gm c) (pe_glob (v := .ref (He.ga K ("Counts" : Str))) (by rfl) (g_Counts KX Gm c) rfl) (z_var (i := 0))))) (z_one1 (z_ret (z_binE op_addU os_add (z_lst (z_disp (z_acons (z_up (z_int)) (z_anil)))) (z_call (F := F__law_list) rfl tk G__law_list (hr.mono (by decide)) (b__law_list D__law_list) (by rfl) (g__law_list KX Gm c) D__law_list.kp (z_acons (z_lst (z_lc (own := [(("_law_word" : Str), 4), (("_law_count" : Str), 5)]) rfl nd (z_it rfl (z_up (z_fld (k := 12) rfl rfl (z_var (i := 0))))) rfl (by decide) (fun _ _ _ _ _ => z_gtup rfl rfl (z_gcons (z_gname (i := 4) nd rfl (by first | exact .inl rfl | exact .inr rfl)) (z_gcons (z_gname (i := 5) nd rfl (by first | exact .inl rfl | exact .inr rfl)) (z_gnil)))) (fun _ _ _ _ _ => z_ifs0) (fun _ _ _ _ _ => z_binE op_addU os_add (z_call (F := F__law_text) rfl tk0 G__law_text (hr.mono (by decide)) (b__law_text D__law_text) (by rfl) (g__law_text KX Gm c) D__law_text.kp (z_acons (z_up (z_var (i := 4))) (z_anil)) (alen_cons alen_nil)) (z_lst (z_disp (z_acons (z_up (z_var (i := 5))) (z_anil))))))) (z_anil)) (alen_cons alen_nil))))) (z_nil)) (z_one1 (z_ret (z_binE op_addU os_add (z_binE op_addU os_add (z_lst (z_disp (z_acons (z_up (z_int)) (z_anil)))) (z_call (F := F__law_text) rfl tk G__law_text (hr.mono (by decide)) (b__law_text D__law_text) (by rfl) (g__law_text KX Gm c) D__law_text.kp (z_acons (z_up (z_fld (k := 6) rfl rfl (z_var (i := 0)))) (z_anil)) (alen_cons alen_nil))) (z_call (F := F__law_text) rfl tk G__law_text (hr.mono (by decide)) (b__law_text D__law_text) (by rfl) (g__law_text KX Gm c) D__law_text.kp (z_acons (z_up (z_fld (k := 7) rfl rfl (z_var (i := 0)))) (z_anil)) (alen_cons alen_nil))))))))))))
theorem ok__law_fact_due (KX : K.In h) (Gm : h.Ns mainGlobals mg) (c : SaysZ ck fas fn K) : ∃ fd, (FunD K "_law_fact_due" "_law_fact_due" (defArgs (top 54)) (defBody (top 54)) (defScope (top 54)) [] (d_29.kws K) (He.fAd K (("_law_fact_due" : Str), none)) fd) ∧ FnOk P w K mg base (L2.CX P w) 3 (He.fAd K (("_law_fact_due" : Str), none)) fd ps__law_fact_due (spF (nm K) F__law_fact_due ps__law_fact_due.length) := by
  obtain ⟨fd, F⟩ := c.d.def_ 29 (d := d_29) rfl
  exact ⟨fd, F, z_fun F sc__law_fact_due (bo__law_fact_due KX Gm c)⟩
abbrev ns_Region___init__ : List Str := ["self", "parent", "facts"]
abbrev ps_Region___init__ : List Str := ["self", "parent", "facts"]
theorem sc_Region___init__ : FnScope ns_Region___init__ ps_Region___init__ (defScope (inClass (top 37) 0)) := ⟨rfl, rfl, rfl, by decide +kernel, rfl, by decide +kernel, by decide +kernel⟩
theorem b_Region___init__ {fd : FuncData} (F : FunD K "__init__" "Region.__init__" (defArgs (inClass (top 37) 0)) (defBody (inClass (top 37) 0)) (defScope (inClass (top 37) 0)) [] (d_30.kws K) (He.fAd K (("Region" : Str), some ("__init__" : Str))) fd) : BnS (nm K) fd ps_Region___init__ 2 [] gId := .plain (FunD.bindsN F fun _ _ _ _ _ _ us hl => match us, hl with | [_, _, _], _ => rfl) rfl
theorem bo_Region___init__ (KX : K.In h) (Gm : h.Ns mainGlobals mg) (c : SaysZ ck fas fn K) : BodyOk P w K mg base "Region.__init__" (defScope (inClass (top 37) 0)) (defBody (inClass (top 37) 0)) (He.fAd K (("Region" : Str), some ("__init__" : Str))) ns_Region___init__ (nm K) 0 sv_Region___init__ := by
  have nd := (sc_Region___init__).nd
  intro cdv A outer s H E hr tk hp
  exact z_cons (z_putO (i := 0) (k := 13) rfl (hfa c) rfl rfl (z_up (z_var (i := 1)))) (z_one1 (z_putO (i := 0) (k := 14) rfl (hfa c) rfl rfl (z_up (z_t1 call_tuple_of (us_tup rfl) (by rfl) (fr_tuple KX Gm c) boot_tuple (z_var (i := 2))))))
theorem ok_Region___init__ (KX : K.In h) (Gm : h.Ns mainGlobals mg) (c : SaysZ ck fas fn K) : ∃ fd, (FunD K "__init__" "Region.__init__" (defArgs (inClass (top 37) 0)) (defBody (inClass (top 37) 0)) (defScope (inClass (top 37) 0)) [] (d_30.kws K) (He.fAd K (("Region" : Str), some ("__init__" : Str))) fd) ∧ FnOk P w K mg base (L2.CX P w) 1 (He.fAd K (("Region" : Str), some ("__init__" : Str))) fd ps_Region___init__ (spG (nm K) 13 G_Region___init__ 2) := by
  obtain ⟨fd, F⟩ := c.d.def_ 30 (d := d_30) rfl
  exact ⟨fd, F, z_init F sc_Region___init__ rfl (bo_Region___init__ KX Gm c)⟩
abbrev ns_Entry___init__ : List Str := ["self", "number", "record", "leaves"]
abbrev ps_Entry___init__ : List Str := ["self", "number", "record", "leaves"]
theorem sc_Entry___init__ : FnScope ns_Entry___init__ ps_Entry___init__ (defScope (inClass (top 39) 0)) := ⟨rfl, rfl, rfl, by decide +kernel, rfl, by decide +kernel, by decide +kernel⟩
theorem b_Entry___init__ {fd : FuncData} (F : FunD K "__init__" "Entry.__init__" (defArgs (inClass (top 39) 0)) (defBody (inClass (top 39) 0)) (defScope (inClass (top 39) 0)) [] (d_31.kws K) (He.fAd K (("Entry" : Str), some ("__init__" : Str))) fd) : BnS (nm K) fd ps_Entry___init__ 3 [] gId := .plain (FunD.bindsN F fun _ _ _ _ _ _ us hl => match us, hl with | [_, _, _, _], _ => rfl) rfl
theorem bo_Entry___init__ (KX : K.In h) (Gm : h.Ns mainGlobals mg) (c : SaysZ ck fas fn K) : BodyOk P w K mg base "Entry.__init__" (defScope (inClass (top 39) 0)) (defBody (inClass (top 39) 0)) (He.fAd K (("Entry" : Str), some ("__init__" : Str))) ns_Entry___init__ (nm K) 0 sv_Entry___init__ := by
  have nd := (sc_Entry___init__).nd
  intro cdv A outer s H E hr tk hp
  exact z_cons (z_putO (i := 0) (k := 15) rfl (hfa c) rfl rfl (z_up (z_var (i := 1)))) (z_cons (z_putO (i := 0) (k := 16) rfl (hfa c) rfl rfl (z_up (z_var (i := 2)))) (z_one1 (z_putO (i := 0) (k := 17) rfl (hfa c) rfl rfl (z_up (z_t1 call_tuple_of (us_tup rfl) (by rfl) (fr_tuple KX Gm c) boot_tuple (z_var (i := 3)))))))
theorem ok_Entry___init__ (KX : K.In h) (Gm : h.Ns mainGlobals mg) (c : SaysZ ck fas fn K) : ∃ fd, (FunD K "__init__" "Entry.__init__" (defArgs (inClass (top 39) 0)) (defBody (inClass (top 39) 0)) (defScope (inClass (top 39) 0)) [] (d_31.kws K) (He.fAd K (("Entry" : Str), some ("__init__" : Str))) fd) ∧ FnOk P w K mg base (L2.CX P w) 1 (He.fAd K (("Entry" : Str), some ("__init__" : Str))) fd ps_Entry___init__ (spG (nm K) 14 G_Entry___init__ 3) := by
  obtain ⟨fd, F⟩ := c.d.def_ 31 (d := d_31) rfl
  exact ⟨fd, F, z_init F sc_Entry___init__ rfl (bo_Entry___init__ KX Gm c)⟩
abbrev ns_Record___init__ : List Str := ["self", "name", "vector", "fields", "words", "field", "worth", "word", "count"]
abbrev ps_Record___init__ : List Str := ["self", "name", "vector", "fields", "words"]
theorem sc_Record___init__ : FnScope ns_Record___init__ ps_Record___init__ (defScope (inClass (top 6) 0)) := ⟨rfl, rfl, rfl, by decide +kernel, rfl, by decide +kernel, by decide +kernel⟩
theorem b_Record___init__ {fd : FuncData} (F : FunD K "__init__" "Record.__init__" (defArgs (inClass (top 6) 0)) (defBody (inClass (top 6) 0)) (defScope (inClass (top 6) 0)) [] (d_32.kws K) (He.fAd K (("Record" : Str), some ("__init__" : Str))) fd) : BnS (nm K) fd ps_Record___init__ 2 [("fields" : Str), ("words" : Str)] gCat := by
  obtain ⟨mv, k⟩ := FunD.kbinds0 (ps := ps_Record___init__) F 3 [("fields" : Str), ("words" : Str)] [] (fun us _ ws => us ++ ws) (by simp [d_32, He.DefD.kws]) (fun _ h => absurd h (by simp)) (fun r _ s => r.append s) (fun _ _ _ _ _ _ us mv ws h1 h2 h3 => match us, mv, ws, h1, h2, h3 with | [_, _, _], [], [_, _], _, _, _ => rfl)
  exact .kw (hU := fun us ws => us ++ ws) (hV := fun us ws => us ++ ws) k (fun _ _ _ => rfl) (fun _ _ _ => rfl) (fun vs zs h1 h2 => by rw [List.length_append, h1, h2]; rfl) fun _ _ _ _ _ _ _ r1 r2 _ _ => r1.append r2
theorem bo_Record___init__ (KX : K.In h) (Gm : h.Ns mainGlobals mg) (c : SaysZ ck fas fn K) : BodyOk P w K mg base "Record.__init__" (defScope (inClass (top 6) 0)) (defBody (inClass (top 6) 0)) (He.fAd K (("Record" : Str), some ("__init__" : Str))) ns_Record___init__ (nm K) 0 sv_Record___init__ := by
  have nd := (sc_Record___init__).nd
  intro cdv A outer s H E hr tk hp
  exact z_cons (z_putO (i := 0) (k := 18) rfl (hfa c) rfl rfl (z_up (z_var (i := 1)))) (z_cons (z_putO (i := 0) (k := 19) rfl (hfa c) rfl rfl (z_up (z_t1 call_tuple_of (us_tup rfl) (by rfl) (fr_tuple KX Gm c) boot_tuple (z_var (i := 2))))) (z_cons (z_putO (i := 0) (k := 20) rfl (hfa c) rfl rfl (z_t1E call_tuple_of (us_tup rfl) (by rfl) (fr_tuple KX Gm c) boot_tuple (z_lst (z_lc (own := [(("field" : Str), 5), (("worth" : Str), 6)]) rfl nd (z_it rfl (z_up (z_var (i := 3)))) rfl (by decide) (fun _ _ _ _ _ => z_gtup rfl rfl (z_gcons (z_gname (i := 5) nd rfl (by first | exact .inl rfl | exact .inr rfl)) (z_gcons (z_gname (i := 6) nd rfl (by first | exact .inl rfl | exact .inr rfl)) (z_gnil)))) (fun _ _ _ _ _ => z_ifs0) (fun _ _ _ _ _ => z_tup (z_acons (z_up (z_var (i := 5))) (z_acons (z_up (z_var (i := 6))) (z_anil)))))))) (z_one1 (z_putO (i := 0) (k := 12) rfl (hfa c) rfl rfl (z_t1E call_tuple_of (us_tup rfl) (by rfl) (fr_tuple KX Gm c) boot_tuple (z_lst (z_lc (own := [(("word" : Str), 7), (("count" : Str), 8)]) rfl nd (z_it rfl (z_up (z_var (i := 4)))) rfl (by decide) (fun _ _ _ _ _ => z_gtup rfl rfl (z_gcons (z_gname (i := 7) nd rfl (by first | exact .inl rfl | exact .inr rfl)) (z_gcons (z_gname (i := 8) nd rfl (by first | exact .inl rfl | exact .inr rfl)) (z_gnil)))) (fun _ _ _ _ _ => z_ifs0) (fun _ _ _ _ _ => z_tup (z_acons (z_up (z_var (i := 7))) (z_acons (z_up (z_var (i := 8))) (z_anil)))))))))))
theorem ok_Record___init__ (KX : K.In h) (Gm : h.Ns mainGlobals mg) (c : SaysZ ck fas fn K) : ∃ fd, (FunD K "__init__" "Record.__init__" (defArgs (inClass (top 6) 0)) (defBody (inClass (top 6) 0)) (defScope (inClass (top 6) 0)) [] (d_32.kws K) (He.fAd K (("Record" : Str), some ("__init__" : Str))) fd) ∧ FnOk P w K mg base (L2.CX P w) 1 (He.fAd K (("Record" : Str), some ("__init__" : Str))) fd ps_Record___init__ (spG (nm K) 1 G_Record___init__ 4) := by
  obtain ⟨fd, F⟩ := c.d.def_ 32 (d := d_32) rfl
  exact ⟨fd, F, z_init F sc_Record___init__ rfl (bo_Record___init__ KX Gm c)⟩
abbrev ns__law_record : List Str := ["_law_state", "_law_fields", "_law_k", "_law_words"]
abbrev ps__law_record : List Str := ["_law_state"]
theorem sc__law_record : FnScope ns__law_record ps__law_record (defScope (top 48)) := ⟨rfl, rfl, rfl, by decide +kernel, rfl, by decide +kernel, by decide +kernel⟩
theorem b__law_record {fd : FuncData} (F : FunD K "_law_record" "_law_record" (defArgs (top 48)) (defBody (top 48)) (defScope (top 48)) [] (d_33.kws K) (He.fAd K (("_law_record" : Str), none)) fd) : Bn (nm K) fd ps__law_record ps__law_record.length [] gId := .plain (FunD.bindsN F fun _ _ _ _ _ _ us hl => match us, hl with | [_], _ => rfl)
theorem bo__law_record (KX : K.In h) (Gm : h.Ns mainGlobals mg) (c : SaysZ ck fas fn K) : BodyOk P w K mg base "_law_record" (defScope (top 48)) (defBody (top 48)) (He.fAd K (("_law_record" : Str), none)) ns__law_record (nm K) 4 sv__law_record := by
  have nd := (sc__law_record).nd
  obtain ⟨fd__law_next, D__law_next, G__law_next⟩ := ok__law_next (P := P) (w := w) (base := base) KX Gm c
  obtain ⟨fd__law_worth, D__law_worth, G__law_worth⟩ := ok__law_worth (P := P) (w := w) (base := base) KX Gm c
  obtain ⟨fd__law_string, D__law_string, G__law_string⟩ := ok__law_string (P := P) (w := w) (base := base) KX Gm c
  obtain ⟨fd_Record___init__, D_Record___init__, G_Record___init___ok⟩ := ok_Record___init__ (P := P) (w := w) (base := base) KX Gm c
  obtain ⟨fd__law_numbers, D__law_numbers, G__law_numbers⟩ := ok__law_numbers (P := P) (w := w) (base := base) KX Gm c
  intro cdv A outer s H E hr tk hp
  exact z_cons (z_setLc (i := 1) (own := [(("_law_k" : Str), 2)]) rfl nd rfl rfl rfl rfl rfl rfl (z_range1 (by rfl) (fr_range KX Gm c) (z_acons (z_call (F := F__law_next) rfl tk G__law_next (hr.mono (by decide)) (b__law_next D__law_next) (by rfl) (g__law_next KX Gm c) D__law_next.kp (z_acons (z_up (z_var (i := 0))) (z_acons (z_up (z_int)) (z_anil))) (alen_cons (alen_cons alen_nil))) (z_anil))) rfl (by decide) (fun _ _ _ _ _ => z_gname (i := 2) nd rfl (by first | exact .inl rfl | exact .inr rfl)) (fun _ _ _ _ _ => z_ifs0) (fun _ _ _ _ _ => z_tup (z_acons (z_call (F := F__law_string) rfl tk0 G__law_string (hr.mono (by decide)) (b__law_string D__law_string) (by rfl) (g__law_string KX Gm c) D__law_string.kp (z_acons (z_up (z_var (i := 0))) (z_anil)) (alen_cons alen_nil)) (z_acons (z_call (F := F__law_worth) rfl tk0 G__law_worth (hr.mono (by decide)) (b__law_worth D__law_worth) (by rfl) (g__law_worth KX Gm c) D__law_worth.kp (z_acons (z_up (z_var (i := 0))) (z_anil)) (alen_cons alen_nil)) (z_anil))))) (z_cons (z_setLc (i := 3) (own := [(("_law_k" : Str), 2)]) rfl nd rfl rfl rfl rfl rfl rfl (z_range1 (by rfl) (fr_range KX Gm c) (z_acons (z_call (F := F__law_next) rfl tk G__law_next (hr.mono (by decide)) (b__law_next D__law_next) (by rfl) (g__law_next KX Gm c) D__law_next.kp (z_acons (z_up (z_var (i := 0))) (z_acons (z_up (z_int)) (z_anil))) (alen_cons (alen_cons alen_nil))) (z_anil))) rfl (by decide) (fun _ _ _ _ _ => z_gname (i := 2) nd rfl (by first | exact .inl rfl | exact .inr rfl)) (fun _ _ _ _ _ => z_ifs0) (fun _ _ _ _ _ => z_tup (z_acons (z_call (F := F__law_string) rfl tk0 G__law_string (hr.mono (by decide)) (b__law_string D__law_string) (by rfl) (g__law_string KX Gm c) D__law_string.kp (z_acons (z_up (z_var (i := 0))) (z_anil)) (alen_cons alen_nil)) (z_acons (z_binE op_addU os_add (z_up (z_int)) (z_call (F := F__law_next) rfl tk0 G__law_next (hr.mono (by decide)) (b__law_next D__law_next) (by rfl) (g__law_next KX Gm c) D__law_next.kp (z_acons (z_up (z_var (i := 0))) (z_acons (z_up (z_int)) (z_anil))) (alen_cons (alen_cons alen_nil)))) (z_anil))))) (z_one1 (z_ret (z_mkI (c := 1) (G := G_Record___init__) rfl tk (mk_Record c) rfl (cls_Record c) rfl G_Record___init___ok (hr.mono (by decide)) (b_Record___init__ D_Record___init__) (by rfl) (g_Record KX Gm c) (z_acons (z_call (F := F__law_string) rfl tk G__law_string (hr.mono (by decide)) (b__law_string D__law_string) (by rfl) (g__law_string KX Gm c) D__law_string.kp (z_acons (z_up (z_var (i := 0))) (z_anil)) (alen_cons alen_nil)) (z_acons (z_call (F := F__law_numbers) rfl tk G__law_numbers (hr.mono (by decide)) (b__law_numbers D__law_numbers) (by rfl) (g__law_numbers KX Gm c) D__law_numbers.kp (z_acons (z_up (z_var (i := 0))) (z_anil)) (alen_cons alen_nil)) (z_anil))) (alen_cons (alen_cons alen_nil)) (z_kcons (z_up (z_var (i := 1))) (z_kcons (z_up (z_var (i := 3))) (z_knil))) (alen_cons (alen_cons alen_nil))))))
theorem ok__law_record (KX : K.In h) (Gm : h.Ns mainGlobals mg) (c : SaysZ ck fas fn K) : ∃ fd, (FunD K "_law_record" "_law_record" (defArgs (top 48)) (defBody (top 48)) (defScope (top 48)) [] (d_33.kws K) (He.fAd K (("_law_record" : Str), none)) fd) ∧ FnOk P w K mg base (L2.CX P w) 5 (He.fAd K (("_law_record" : Str), none)) fd ps__law_record (spF (nm K) F__law_record ps__law_record.length) := by
  obtain ⟨fd, F⟩ := c.d.def_ 33 (d := d_33) rfl
  exact ⟨fd, F, z_fun F sc__law_record (bo__law_record KX Gm c)⟩
abbrev ns_Offer___init__ : List Str := ["self", "partitions", "entries", "regions"]
abbrev ps_Offer___init__ : List Str := ["self", "partitions", "entries"]
theorem sc_Offer___init__ : FnScope ns_Offer___init__ ps_Offer___init__ (defScope (inClass (top 40) 0)) := ⟨rfl, rfl, rfl, by decide +kernel, rfl, by decide +kernel, by decide +kernel⟩
theorem b_Offer___init__ {fd : FuncData} (F : FunD K "__init__" "Offer.__init__" (defArgs (inClass (top 40) 0)) (defBody (inClass (top 40) 0)) (defScope (inClass (top 40) 0)) [] (d_34.kws K) (He.fAd K (("Offer" : Str), some ("__init__" : Str))) fd) : BnS (nm K) fd ps_Offer___init__ 2 [] gId := .plain (FunD.bindsN F fun _ _ _ _ _ _ us hl => match us, hl with | [_, _, _], _ => rfl) rfl
theorem bo_Offer___init__ (KX : K.In h) (Gm : h.Ns mainGlobals mg) (c : SaysZ ck fas fn K) : BodyOk P w K mg base "Offer.__init__" (defScope (inClass (top 40) 0)) (defBody (inClass (top 40) 0)) (He.fAd K (("Offer" : Str), some ("__init__" : Str))) ns_Offer___init__ (nm K) 0 sv_Offer___init__ := by
  have nd := (sc_Offer___init__).nd
  intro cdv A outer s H E hr tk hp
  exact z_cons (z_putO (i := 0) (k := 21) rfl (hfa c) rfl rfl (z_t1E call_tuple_of (us_tup rfl) (by rfl) (fr_tuple KX Gm c) boot_tuple (z_lst (z_lc (own := [(("regions" : Str), 3)]) rfl nd (z_it rfl (z_up (z_var (i := 1)))) rfl (by decide) (fun _ _ _ _ _ => z_gname (i := 3) nd rfl (by first | exact .inl rfl | exact .inr rfl)) (fun _ _ _ _ _ => z_ifs0) (fun _ _ _ _ _ => z_up (z_t1 call_tuple_of (us_tup rfl) (by rfl) (fr_tuple KX Gm c) boot_tuple (z_var (i := 3)))))))) (z_one1 (z_putO (i := 0) (k := 22) rfl (hfa c) rfl rfl (z_up (z_t1 call_tuple_of (us_tup rfl) (by rfl) (fr_tuple KX Gm c) boot_tuple (z_var (i := 2))))))
theorem ok_Offer___init__ (KX : K.In h) (Gm : h.Ns mainGlobals mg) (c : SaysZ ck fas fn K) : ∃ fd, (FunD K "__init__" "Offer.__init__" (defArgs (inClass (top 40) 0)) (defBody (inClass (top 40) 0)) (defScope (inClass (top 40) 0)) [] (d_34.kws K) (He.fAd K (("Offer" : Str), some ("__init__" : Str))) fd) ∧ FnOk P w K mg base (L2.CX P w) 1 (He.fAd K (("Offer" : Str), some ("__init__" : Str))) fd ps_Offer___init__ (spG (nm K) 15 G_Offer___init__ 2) := by
  obtain ⟨fd, F⟩ := c.d.def_ 34 (d := d_34) rfl
  exact ⟨fd, F, z_init F sc_Offer___init__ rfl (bo_Offer___init__ KX Gm c)⟩
abbrev ns__law_offer : List Str := ["_law_state", "_law_partitions", "_law_k", "_law_regions", "_law_j", "_law_parent", "_law_i", "_law_entries"]
abbrev ps__law_offer : List Str := ["_law_state"]
theorem sc__law_offer : FnScope ns__law_offer ps__law_offer (defScope (top 49)) := ⟨rfl, rfl, rfl, by decide +kernel, rfl, by decide +kernel, by decide +kernel⟩
theorem b__law_offer {fd : FuncData} (F : FunD K "_law_offer" "_law_offer" (defArgs (top 49)) (defBody (top 49)) (defScope (top 49)) [] (d_35.kws K) (He.fAd K (("_law_offer" : Str), none)) fd) : Bn (nm K) fd ps__law_offer ps__law_offer.length [] gId := .plain (FunD.bindsN F fun _ _ _ _ _ _ us hl => match us, hl with | [_], _ => rfl)
theorem bo__law_offer (KX : K.In h) (Gm : h.Ns mainGlobals mg) (c : SaysZ ck fas fn K) : BodyOk P w K mg base "_law_offer" (defScope (top 49)) (defBody (top 49)) (He.fAd K (("_law_offer" : Str), none)) ns__law_offer (nm K) 5 sv__law_offer := by
  have nd := (sc__law_offer).nd
  obtain ⟨fd__law_next, D__law_next, G__law_next⟩ := ok__law_next (P := P) (w := w) (base := base) KX Gm c
  obtain ⟨fd_Region___init__, D_Region___init__, G_Region___init___ok⟩ := ok_Region___init__ (P := P) (w := w) (base := base) KX Gm c
  obtain ⟨fd__law_fact, D__law_fact, G__law_fact⟩ := ok__law_fact (P := P) (w := w) (base := base) KX Gm c
  obtain ⟨fd_Entry___init__, D_Entry___init__, G_Entry___init___ok⟩ := ok_Entry___init__ (P := P) (w := w) (base := base) KX Gm c
  obtain ⟨fd__law_numbers, D__law_numbers, G__law_numbers⟩ := ok__law_numbers (P := P) (w := w) (base := base) KX Gm c
  obtain ⟨fd__law_record, D__law_record, G__law_record⟩ := ok__law_record (P := P) (w := w) (base := base) KX Gm c
  obtain ⟨fd_Offer___init__, D_Offer___init__, G_Offer___init___ok⟩ := ok_Offer___init__ (P := P) (w := w) (base := base) KX Gm c
  intro cdv A outer s H E hr tk hp
  exact z_cons (z_setF (i := 1) nd rfl (by first | exact .inl rfl | exact .inr rfl) (z_disp (z_anil))) (z_cons (z_for hp rfl (z_range1 (by rfl) (fr_range KX Gm c) (z_acons (z_call (F := F__law_next) rfl tk G__law_next (hr.mono (by decide)) (b__law_next D__law_next) (by rfl) (g__law_next KX Gm c) D__law_next.kp (z_acons (z_up (z_var (i := 0))) (z_acons (z_up (z_int)) (z_anil))) (alen_cons (alen_cons alen_nil))) (z_anil))) (z_gname (i := 2) nd rfl (by first | exact .inl rfl | exact .inr rfl)) (z_cons (z_setF (i := 3) nd rfl (by first | exact .inl rfl | exact .inr rfl) (z_disp (z_anil))) (z_cons (z_for hp rfl (z_range1 (by rfl) (fr_range KX Gm c) (z_acons (z_call (F := F__law_next) rfl tk G__law_next (hr.mono (by decide)) (b__law_next D__law_next) (by rfl) (g__law_next KX Gm c) D__law_next.kp (z_acons (z_up (z_var (i := 0))) (z_acons (z_up (z_int)) (z_anil))) (alen_cons (alen_cons alen_nil))) (z_anil))) (z_gname (i := 4) nd rfl (by first | exact .inl rfl | exact .inr rfl)) (z_cons (z_set (i := 5) nd rfl (by first | exact .inl rfl | exact .inr rfl) (z_ixE rfl (z_lst (z_disp (z_acons (z_up (z_non)) (z_acons (z_binE op_sub os_sub (z_call (F := F__law_next) rfl tk G__law_next (hr.mono (by decide)) (b__law_next D__law_next) (by rfl) (g__law_next KX Gm c) D__law_next.kp (z_acons (z_up (z_var (i := 0))) (z_acons (z_up (z_int)) (z_anil))) (alen_cons (alen_cons alen_nil))) (z_up (z_int))) (z_anil))))) (z_call (F := F__law_next) rfl tk G__law_next (hr.mono (by decide)) (b__law_next D__law_next) (by rfl) (g__law_next KX Gm c) D__law_next.kp (z_acons (z_up (z_var (i := 0))) (z_acons (z_up (z_int)) (z_anil))) (alen_cons (alen_cons alen_nil))))) (z_one1 (z_mutO (i := 3) PySem.F.slot_list_append PySem.F.type_list_append mt_append ms_app rfl (z_acons (z_mkI (c := 13) (G := G_Region___init__) rfl tk (mk_Region c) rfl (cls_Region c) rfl G_Region___init___ok (hr.mono (by decide)) (b_Region___init__ D_Region___init__) (by rfl) (g_Region KX Gm c) (z_acons (z_up (z_var (i := 5))) (z_acons (z_lst (z_lc (own := [(("_law_i" : Str), 6)]) rfl nd (z_range1 (by rfl) (fr_range KX Gm c) (z_acons (z_call (F := F__law_next) rfl tk G__law_next (hr.mono (by decide)) (b__law_next D__law_next) (by rfl) (g__law_next KX Gm c) D__law_next.kp (z_acons (z_up (z_var (i := 0))) (z_acons (z_up (z_int)) (z_anil))) (alen_cons (alen_cons alen_nil))) (z_anil))) rfl (by decide) (fun _ _ _ _ _ => z_gname (i := 6) nd rfl (by first | exact .inl rfl | exact .inr rfl)) (fun _ _ _ _ _ => z_ifs0) (fun _ _ _ _ _ => z_call (F := F__law_fact) rfl tk0 G__law_fact (hr.mono (by decide)) (b__law_fact D__law_fact) (by rfl) (g__law_fact KX Gm c) D__law_fact.kp (z_acons (z_up (z_var (i := 0))) (z_anil)) (alen_cons alen_nil)))) (z_anil))) (alen_cons (alen_cons alen_nil)) (z_knil) alen_nil) (z_anil)))))) (z_frz (z_one1 (z_mutO (i := 1) PySem.F.slot_list_append PySem.F.type_list_append mt_append ms_app rfl (z_acons (z_up (z_var (i := 3))) (z_anil)))))))) (z_cons (z_setF (i := 7) nd rfl (by first | exact .inl rfl | exact .inr rfl) (z_disp (z_anil))) (z_cons (z_for hp rfl (z_range1 (by rfl) (fr_range KX Gm c) (z_acons (z_call (F := F__law_next) rfl tk G__law_next (hr.mono (by decide)) (b__law_next D__law_next) (by rfl) (g__law_next KX Gm c) D__law_next.kp (z_acons (z_up (z_var (i := 0))) (z_acons (z_up (z_int)) (z_anil))) (alen_cons (alen_cons alen_nil))) (z_anil))) (z_gname (i := 2) nd rfl (by first | exact .inl rfl | exact .inr rfl)) (z_one1 (z_mutO (i := 7) PySem.F.slot_list_append PySem.F.type_list_append mt_append ms_app rfl (z_acons (z_mkI (c := 14) (G := G_Entry___init__) rfl tk (mk_Entry c) rfl (cls_Entry c) rfl G_Entry___init___ok (hr.mono (by decide)) (b_Entry___init__ D_Entry___init__) (by rfl) (g_Entry KX Gm c) (z_acons (z_call (F := F__law_next) rfl tk G__law_next (hr.mono (by decide)) (b__law_next D__law_next) (by rfl) (g__law_next KX Gm c) D__law_next.kp (z_acons (z_up (z_var (i := 0))) (z_acons (z_up (z_bin op_pow os_pow (z_int) (z_int))) (z_anil))) (alen_cons (alen_cons alen_nil))) (z_acons (z_call (F := F__law_record) rfl tk G__law_record (hr.mono (by decide)) (b__law_record D__law_record) (by rfl) (g__law_record KX Gm c) D__law_record.kp (z_acons (z_up (z_var (i := 0))) (z_anil)) (alen_cons alen_nil)) (z_acons (z_call (F := F__law_numbers) rfl tk G__law_numbers (hr.mono (by decide)) (b__law_numbers D__law_numbers) (by rfl) (g__law_numbers KX Gm c) D__law_numbers.kp (z_acons (z_up (z_var (i := 0))) (z_anil)) (alen_cons alen_nil)) (z_anil)))) (alen_cons (alen_cons (alen_cons alen_nil))) (z_knil) alen_nil) (z_anil))))) (z_frz (z_frz (z_one1 (z_ret (z_mkI (c := 15) (G := G_Offer___init__) rfl tk (mk_Offer c) rfl (cls_Offer c) rfl G_Offer___init___ok (hr.mono (by decide)) (b_Offer___init__ D_Offer___init__) (by rfl) (g_Offer KX Gm c) (z_acons (z_up (z_var (i := 1))) (z_acons (z_up (z_var (i := 7))) (z_anil))) (alen_cons (alen_cons alen_nil)) (z_knil) alen_nil))))))))
theorem ok__law_offer (KX : K.In h) (Gm : h.Ns mainGlobals mg) (c : SaysZ ck fas fn K) : ∃ fd, (FunD K "_law_offer" "_law_offer" (defArgs (top 49)) (defBody (top 49)) (defScope (top 49)) [] (d_35.kws K) (He.fAd K (("_law_offer" : Str), none)) fd) ∧ FnOk P w K mg base (L2.CX P w) 6 (He.fAd K (("_law_offer" : Str), none)) fd ps__law_offer (spF (nm K) F__law_offer ps__law_offer.length) := by
  obtain ⟨fd, F⟩ := c.d.def_ 35 (d := d_35) rfl
  exact ⟨fd, F, z_fun F sc__law_offer (bo__law_offer KX Gm c)⟩
abbrev ns_region_code : List Str := ["region", "parent", "fact"]
abbrev ps_region_code : List Str := ["region"]
theorem sc_region_code : FnScope ns_region_code ps_region_code (defScope (top 32)) := ⟨rfl, rfl, rfl, by decide +kernel, rfl, by decide +kernel, by decide +kernel⟩
theorem b_region_code {fd : FuncData} (F : FunD K "region_code" "region_code" (defArgs (top 32)) (defBody (top 32)) (defScope (top 32)) [] (d_36.kws K) (He.fAd K (("region_code" : Str), none)) fd) : Bn (nm K) fd ps_region_code ps_region_code.length [] gId := .plain (FunD.bindsN F fun _ _ _ _ _ _ us hl => match us, hl with | [_], _ => rfl)
theorem bo_region_code (KX : K.In h) (Gm : h.Ns mainGlobals mg) (c : SaysZ ck fas fn K) : BodyOk P w K mg base "region_code" (defScope (top 32)) (defBody (top 32)) (He.fAd K (("region_code" : Str), none)) ns_region_code (nm K) 4 sv_region_code := by
  have nd := (sc_region_code).nd
  obtain ⟨fd_maybe_code, D_maybe_code, G_maybe_code⟩ := ok_maybe_code (P := P) (w := w) (base := base) KX Gm c
  obtain ⟨fd_list_code, D_list_code, G_list_code⟩ := ok_list_code (P := P) (w := w) (base := base) KX Gm c
  obtain ⟨fd_fact_code, D_fact_code, G_fact_code⟩ := ok_fact_code (P := P) (w := w) (base := base) KX Gm c
  intro cdv A outer s H E hr tk hp
  exact z_cons (z_set (i := 1) nd rfl (by first | exact .inl rfl | exact .inr rfl) (z_call (F := F_maybe_code) rfl tk G_maybe_code (hr.mono (by decide)) (b_maybe_code D_maybe_code) (by rfl) (g_maybe_code KX Gm c) D_maybe_code.kp (z_acons (z_if (z_tcmp op_isN os_isN (z_fld (k := 13) rfl rfl (z_var (i := 0))) (z_non)) (z_up (z_non)) (z_lst (z_disp (z_acons (z_up (z_fld (k := 13) rfl rfl (z_var (i := 0)))) (z_anil))))) (z_anil)) (alen_cons alen_nil))) (z_one1 (z_ret (z_binE op_addU os_add (z_up (z_var (i := 1))) (z_call (F := F_list_code) rfl tk G_list_code (hr.mono (by decide)) (b_list_code D_list_code) (by rfl) (g_list_code KX Gm c) D_list_code.kp (z_acons (z_lst (z_lc (own := [(("fact" : Str), 2)]) rfl nd (z_it rfl (z_up (z_fld (k := 14) rfl rfl (z_var (i := 0))))) rfl (by decide) (fun _ _ _ _ _ => z_gname (i := 2) nd rfl (by first | exact .inl rfl | exact .inr rfl)) (fun _ _ _ _ _ => z_ifs0) (fun _ _ _ _ _ => z_call (F := F_fact_code) rfl tk0 G_fact_code (hr.mono (by decide)) (b_fact_code D_fact_code) (by rfl) (g_fact_code KX Gm c) D_fact_code.kp (z_acons (z_up (z_var (i := 2))) (z_anil)) (alen_cons alen_nil)))) (z_anil)) (alen_cons alen_nil)))))
theorem ok_region_code (KX : K.In h) (Gm : h.Ns mainGlobals mg) (c : SaysZ ck fas fn K) : ∃ fd, (FunD K "region_code" "region_code" (defArgs (top 32)) (defBody (top 32)) (defScope (top 32)) [] (d_36.kws K) (He.fAd K (("region_code" : Str), none)) fd) ∧ FnOk P w K mg base (L2.CX P w) 5 (He.fAd K (("region_code" : Str), none)) fd ps_region_code (spF (nm K) F_region_code ps_region_code.length) := by
  obtain ⟨fd, F⟩ := c.d.def_ 36 (d := d_36) rfl
  exact ⟨fd, F, z_fun F sc_region_code (bo_region_code KX Gm c)⟩
abbrev ns__law_region_due : List Str := ["_law_region", "_law_parent", "_law_fact_here"]
abbrev ps__law_region_due : List Str := ["_law_region"]
theorem sc__law_region_due : FnScope ns__law_region_due ps__law_region_due (defScope (top 56)) := ⟨rfl, rfl, rfl, by decide +kernel, rfl, by decide +kernel, by decide +kernel⟩
theorem b__law_region_due {fd : FuncData} (F : FunD K "_law_region_due" "_law_region_due" (defArgs (top 56)) (defBody (top 56)) (defScope (top 56)) [] (d_37.kws K) (He.fAd K (("_law_region_due" : Str), none)) fd) : Bn (nm K) fd ps__law_region_due ps__law_region_due.length [] gId := .plain (FunD.bindsN F fun _ _ _ _ _ _ us hl => match us, hl with | [_], _ => rfl)
theorem bo__law_region_due (KX : K.In h) (Gm : h.Ns mainGlobals mg) (c : SaysZ ck fas fn K) : BodyOk P w K mg base "_law_region_due" (defScope (top 56)) (defBody (top 56)) (He.fAd K (("_law_region_due" : Str), none)) ns__law_region_due (nm K) 3 sv__law_region_due := by
  have nd := (sc__law_region_due).nd
  obtain ⟨fd__law_list, D__law_list, G__law_list⟩ := ok__law_list (P := P) (w := w) (base := base) KX Gm c
  obtain ⟨fd__law_fact_due, D__law_fact_due, G__law_fact_due⟩ := ok__law_fact_due (P := P) (w := w) (base := base) KX Gm c
  intro cdv A outer s H E hr tk hp
  exact z_cons (z_set (i := 1) nd rfl (by first | exact .inl rfl | exact .inr rfl) (z_lst (z_disp (z_acons (z_up (z_int)) (z_anil))))) (z_cons (z_ifS (z_tcmp op_notN os_notN (z_fld (k := 13) rfl rfl (z_var (i := 0))) (z_non)) (z_one1 (z_set (i := 1) nd rfl (by first | exact .inl rfl | exact .inr rfl) (z_lst (z_disp (z_acons (z_up (z_int)) (z_acons (z_up (z_fld (k := 13) rfl rfl (z_var (i := 0)))) (z_anil))))))) (z_nil)) (z_one1 (z_ret (z_binE op_addU os_add (z_up (z_var (i := 1))) (z_call (F := F__law_list) rfl tk G__law_list (hr.mono (by decide)) (b__law_list D__law_list) (by rfl) (g__law_list KX Gm c) D__law_list.kp (z_acons (z_lst (z_lc (own := [(("_law_fact_here" : Str), 2)]) rfl nd (z_it rfl (z_up (z_fld (k := 14) rfl rfl (z_var (i := 0))))) rfl (by decide) (fun _ _ _ _ _ => z_gname (i := 2) nd rfl (by first | exact .inl rfl | exact .inr rfl)) (fun _ _ _ _ _ => z_ifs0) (fun _ _ _ _ _ => z_call (F := F__law_fact_due) rfl tk0 G__law_fact_due (hr.mono (by decide)) (b__law_fact_due D__law_fact_due) (by rfl) (g__law_fact_due KX Gm c) D__law_fact_due.kp (z_acons (z_up (z_var (i := 2))) (z_anil)) (alen_cons alen_nil)))) (z_anil)) (alen_cons alen_nil))))))
theorem ok__law_region_due (KX : K.In h) (Gm : h.Ns mainGlobals mg) (c : SaysZ ck fas fn K) : ∃ fd, (FunD K "_law_region_due" "_law_region_due" (defArgs (top 56)) (defBody (top 56)) (defScope (top 56)) [] (d_37.kws K) (He.fAd K (("_law_region_due" : Str), none)) fd) ∧ FnOk P w K mg base (L2.CX P w) 4 (He.fAd K (("_law_region_due" : Str), none)) fd ps__law_region_due (spF (nm K) F__law_region_due ps__law_region_due.length) := by
  obtain ⟨fd, F⟩ := c.d.def_ 37 (d := d_37) rfl
  exact ⟨fd, F, z_fun F sc__law_region_due (bo__law_region_due KX Gm c)⟩
abbrev ns_partition_code : List Str := ["regions", "region"]
abbrev ps_partition_code : List Str := ["regions"]
theorem sc_partition_code : FnScope ns_partition_code ps_partition_code (defScope (top 33)) := ⟨rfl, rfl, rfl, by decide +kernel, rfl, by decide +kernel, by decide +kernel⟩
theorem b_partition_code {fd : FuncData} (F : FunD K "partition_code" "partition_code" (defArgs (top 33)) (defBody (top 33)) (defScope (top 33)) [] (d_38.kws K) (He.fAd K (("partition_code" : Str), none)) fd) : Bn (nm K) fd ps_partition_code ps_partition_code.length [] gId := .plain (FunD.bindsN F fun _ _ _ _ _ _ us hl => match us, hl with | [_], _ => rfl)
theorem bo_partition_code (KX : K.In h) (Gm : h.Ns mainGlobals mg) (c : SaysZ ck fas fn K) : BodyOk P w K mg base "partition_code" (defScope (top 33)) (defBody (top 33)) (He.fAd K (("partition_code" : Str), none)) ns_partition_code (nm K) 5 sv_partition_code := by
  have nd := (sc_partition_code).nd
  obtain ⟨fd_list_code, D_list_code, G_list_code⟩ := ok_list_code (P := P) (w := w) (base := base) KX Gm c
  obtain ⟨fd_region_code, D_region_code, G_region_code⟩ := ok_region_code (P := P) (w := w) (base := base) KX Gm c
  intro cdv A outer s H E hr tk hp
  exact z_one1 (z_ret (z_call (F := F_list_code) rfl tk G_list_code (hr.mono (by decide)) (b_list_code D_list_code) (by rfl) (g_list_code KX Gm c) D_list_code.kp (z_acons (z_lst (z_lc (own := [(("region" : Str), 1)]) rfl nd (z_it rfl (z_up (z_var (i := 0)))) rfl (by decide) (fun _ _ _ _ _ => z_gname (i := 1) nd rfl (by first | exact .inl rfl | exact .inr rfl)) (fun _ _ _ _ _ => z_ifs0) (fun _ _ _ _ _ => z_call (F := F_region_code) rfl tk0 G_region_code (hr.mono (by decide)) (b_region_code D_region_code) (by rfl) (g_region_code KX Gm c) D_region_code.kp (z_acons (z_up (z_var (i := 1))) (z_anil)) (alen_cons alen_nil)))) (z_anil)) (alen_cons alen_nil)))
theorem ok_partition_code (KX : K.In h) (Gm : h.Ns mainGlobals mg) (c : SaysZ ck fas fn K) : ∃ fd, (FunD K "partition_code" "partition_code" (defArgs (top 33)) (defBody (top 33)) (defScope (top 33)) [] (d_38.kws K) (He.fAd K (("partition_code" : Str), none)) fd) ∧ FnOk P w K mg base (L2.CX P w) 6 (He.fAd K (("partition_code" : Str), none)) fd ps_partition_code (spF (nm K) F_partition_code ps_partition_code.length) := by
  obtain ⟨fd, F⟩ := c.d.def_ 38 (d := d_38) rfl
  exact ⟨fd, F, z_fun F sc_partition_code (bo_partition_code KX Gm c)⟩
abbrev ns_record_code : List Str := ["record", "fields", "name", "worth"]
abbrev ps_record_code : List Str := ["record"]
theorem sc_record_code : FnScope ns_record_code ps_record_code (defScope (top 30)) := ⟨rfl, rfl, rfl, by decide +kernel, rfl, by decide +kernel, by decide +kernel⟩
theorem b_record_code {fd : FuncData} (F : FunD K "record_code" "record_code" (defArgs (top 30)) (defBody (top 30)) (defScope (top 30)) [] (d_39.kws K) (He.fAd K (("record_code" : Str), none)) fd) : Bn (nm K) fd ps_record_code ps_record_code.length [] gId := .plain (FunD.bindsN F fun _ _ _ _ _ _ us hl => match us, hl with | [_], _ => rfl)
theorem bo_record_code (KX : K.In h) (Gm : h.Ns mainGlobals mg) (c : SaysZ ck fas fn K) : BodyOk P w K mg base "record_code" (defScope (top 30)) (defBody (top 30)) (He.fAd K (("record_code" : Str), none)) ns_record_code (nm K) 3 sv_record_code := by
  have nd := (sc_record_code).nd
  obtain ⟨fd_list_code, D_list_code, G_list_code⟩ := ok_list_code (P := P) (w := w) (base := base) KX Gm c
  obtain ⟨fd_string_code, D_string_code, G_string_code⟩ := ok_string_code (P := P) (w := w) (base := base) KX Gm c
  obtain ⟨fd_value_code, D_value_code, G_value_code⟩ := ok_value_code (P := P) (w := w) (base := base) KX Gm c
  obtain ⟨fd_numbers_code, D_numbers_code, G_numbers_code⟩ := ok_numbers_code (P := P) (w := w) (base := base) KX Gm c
  obtain ⟨fd_pairs_code, D_pairs_code, G_pairs_code⟩ := ok_pairs_code (P := P) (w := w) (base := base) KX Gm c
  intro cdv A outer s H E hr tk hp
  exact z_cons (z_set (i := 1) nd rfl (by first | exact .inl rfl | exact .inr rfl) (z_call (F := F_list_code) rfl tk G_list_code (hr.mono (by decide)) (b_list_code D_list_code) (by rfl) (g_list_code KX Gm c) D_list_code.kp (z_acons (z_lst (z_lc (own := [(("name" : Str), 2), (("worth" : Str), 3)]) rfl nd (z_it rfl (z_up (z_fld (k := 20) rfl rfl (z_var (i := 0))))) rfl (by decide) (fun _ _ _ _ _ => z_gtup rfl rfl (z_gcons (z_gname (i := 2) nd rfl (by first | exact .inl rfl | exact .inr rfl)) (z_gcons (z_gname (i := 3) nd rfl (by first | exact .inl rfl | exact .inr rfl)) (z_gnil)))) (fun _ _ _ _ _ => z_ifs0) (fun _ _ _ _ _ => z_binE op_addU os_add (z_call (F := F_string_code) rfl tk0 G_string_code (hr.mono (by decide)) (b_string_code D_string_code) (by rfl) (g_string_code KX Gm c) D_string_code.kp (z_acons (z_up (z_var (i := 2))) (z_anil)) (alen_cons alen_nil)) (z_call (F := F_value_code) rfl tk0 G_value_code (hr.mono (by decide)) (b_value_code D_value_code) (by rfl) (g_value_code KX Gm c) D_value_code.kp (z_acons (z_up (z_var (i := 3))) (z_anil)) (alen_cons alen_nil))))) (z_anil)) (alen_cons alen_nil))) (z_one1 (z_ret (z_binE op_addU os_add (z_binE op_addU os_add (z_binE op_addU os_add (z_call (F := F_string_code) rfl tk G_string_code (hr.mono (by decide)) (b_string_code D_string_code) (by rfl) (g_string_code KX Gm c) D_string_code.kp (z_acons (z_up (z_fld (k := 18) rfl rfl (z_var (i := 0)))) (z_anil)) (alen_cons alen_nil)) (z_call (F := F_numbers_code) rfl tk G_numbers_code (hr.mono (by decide)) (b_numbers_code D_numbers_code) (by rfl) (g_numbers_code KX Gm c) D_numbers_code.kp (z_acons (z_up (z_fld (k := 19) rfl rfl (z_var (i := 0)))) (z_anil)) (alen_cons alen_nil))) (z_up (z_var (i := 1)))) (z_call (F := F_pairs_code) rfl tk G_pairs_code (hr.mono (by decide)) (b_pairs_code D_pairs_code) (by rfl) (g_pairs_code KX Gm c) D_pairs_code.kp (z_acons (z_up (z_fld (k := 12) rfl rfl (z_var (i := 0)))) (z_anil)) (alen_cons alen_nil)))))
theorem ok_record_code (KX : K.In h) (Gm : h.Ns mainGlobals mg) (c : SaysZ ck fas fn K) : ∃ fd, (FunD K "record_code" "record_code" (defArgs (top 30)) (defBody (top 30)) (defScope (top 30)) [] (d_39.kws K) (He.fAd K (("record_code" : Str), none)) fd) ∧ FnOk P w K mg base (L2.CX P w) 4 (He.fAd K (("record_code" : Str), none)) fd ps_record_code (spF (nm K) F_record_code ps_record_code.length) := by
  obtain ⟨fd, F⟩ := c.d.def_ 39 (d := d_39) rfl
  exact ⟨fd, F, z_fun F sc_record_code (bo_record_code KX Gm c)⟩
abbrev ns__law_record_due : List Str := ["_law_record_here", "_law_code", "_law_name", "_law_worth_here", "_law_word", "_law_count"]
abbrev ps__law_record_due : List Str := ["_law_record_here"]
theorem sc__law_record_due : FnScope ns__law_record_due ps__law_record_due (defScope (top 55)) := ⟨rfl, rfl, rfl, by decide +kernel, rfl, by decide +kernel, by decide +kernel⟩
theorem b__law_record_due {fd : FuncData} (F : FunD K "_law_record_due" "_law_record_due" (defArgs (top 55)) (defBody (top 55)) (defScope (top 55)) [] (d_40.kws K) (He.fAd K (("_law_record_due" : Str), none)) fd) : Bn (nm K) fd ps__law_record_due ps__law_record_due.length [] gId := .plain (FunD.bindsN F fun _ _ _ _ _ _ us hl => match us, hl with | [_], _ => rfl)
theorem bo__law_record_due (KX : K.In h) (Gm : h.Ns mainGlobals mg) (c : SaysZ ck fas fn K) : BodyOk P w K mg base "_law_record_due" (defScope (top 55)) (defBody (top 55)) (He.fAd K (("_law_record_due" : Str), none)) ns__law_record_due (nm K) 2 sv__law_record_due := by
  have nd := (sc__law_record_due).nd
  obtain ⟨fd__law_text, D__law_text, G__law_text⟩ := ok__law_text (P := P) (w := w) (base := base) KX Gm c
  obtain ⟨fd__law_counted, D__law_counted, G__law_counted⟩ := ok__law_counted (P := P) (w := w) (base := base) KX Gm c
  obtain ⟨fd__law_list, D__law_list, G__law_list⟩ := ok__law_list (P := P) (w := w) (base := base) KX Gm c
  obtain ⟨fd__law_value, D__law_value, G__law_value⟩ := ok__law_value (P := P) (w := w) (base := base) KX Gm c
  intro cdv A outer s H E hr tk hp
  exact z_cons (z_set (i := 1) nd rfl (by first | exact .inl rfl | exact .inr rfl) (z_binE op_addU os_add (z_call (F := F__law_text) rfl tk G__law_text (hr.mono (by decide)) (b__law_text D__law_text) (by rfl) (g__law_text KX Gm c) D__law_text.kp (z_acons (z_up (z_fld (k := 18) rfl rfl (z_var (i := 0)))) (z_anil)) (alen_cons alen_nil)) (z_call (F := F__law_counted) rfl tk G__law_counted (hr.mono (by decide)) (b__law_counted D__law_counted) (by rfl) (g__law_counted KX Gm c) D__law_counted.kp (z_acons (z_up (z_fld (k := 19) rfl rfl (z_var (i := 0)))) (z_anil)) (alen_cons alen_nil)))) (z_cons (z_set (i := 1) nd rfl (by first | exact .inl rfl | exact .inr rfl) (z_binE op_addU os_add (z_up (z_var (i := 1))) (z_call (F := F__law_list) rfl tk G__law_list (hr.mono (by decide)) (b__law_list D__law_list) (by rfl) (g__law_list KX Gm c) D__law_list.kp (z_acons (z_lst (z_lc (own := [(("_law_name" : Str), 2), (("_law_worth_here" : Str), 3)]) rfl nd (z_it rfl (z_up (z_fld (k := 20) rfl rfl (z_var (i := 0))))) rfl (by decide) (fun _ _ _ _ _ => z_gtup rfl rfl (z_gcons (z_gname (i := 2) nd rfl (by first | exact .inl rfl | exact .inr rfl)) (z_gcons (z_gname (i := 3) nd rfl (by first | exact .inl rfl | exact .inr rfl)) (z_gnil)))) (fun _ _ _ _ _ => z_ifs0) (fun _ _ _ _ _ => z_binE op_addU os_add (z_call (F := F__law_text) rfl tk0 G__law_text (hr.mono (by decide)) (b__law_text D__law_text) (by rfl) (g__law_text KX Gm c) D__law_text.kp (z_acons (z_up (z_var (i := 2))) (z_anil)) (alen_cons alen_nil)) (z_call (F := F__law_value) rfl tk0 G__law_value (hr.mono (by decide)) (b__law_value D__law_value) (by rfl) (g__law_value KX Gm c) D__law_value.kp (z_acons (z_up (z_var (i := 3))) (z_anil)) (alen_cons alen_nil))))) (z_anil)) (alen_cons alen_nil)))) (z_one1 (z_ret (z_binE op_addU os_add (z_up (z_var (i := 1))) (z_call (F := F__law_list) rfl tk G__law_list (hr.mono (by decide)) (b__law_list D__law_list) (by rfl) (g__law_list KX Gm c) D__law_list.kp (z_acons (z_lst (z_lc (own := [(("_law_word" : Str), 4), (("_law_count" : Str), 5)]) rfl nd (z_it rfl (z_up (z_fld (k := 12) rfl rfl (z_var (i := 0))))) rfl (by decide) (fun _ _ _ _ _ => z_gtup rfl rfl (z_gcons (z_gname (i := 4) nd rfl (by first | exact .inl rfl | exact .inr rfl)) (z_gcons (z_gname (i := 5) nd rfl (by first | exact .inl rfl | exact .inr rfl)) (z_gnil)))) (fun _ _ _ _ _ => z_ifs0) (fun _ _ _ _ _ => z_binE op_addU os_add (z_call (F := F__law_text) rfl tk0 G__law_text (hr.mono (by decide)) (b__law_text D__law_text) (by rfl) (g__law_text KX Gm c) D__law_text.kp (z_acons (z_up (z_var (i := 4))) (z_anil)) (alen_cons alen_nil)) (z_lst (z_disp (z_acons (z_up (z_var (i := 5))) (z_anil))))))) (z_anil)) (alen_cons alen_nil))))))
theorem ok__law_record_due (KX : K.In h) (Gm : h.Ns mainGlobals mg) (c : SaysZ ck fas fn K) : ∃ fd, (FunD K "_law_record_due" "_law_record_due" (defArgs (top 55)) (defBody (top 55)) (defScope (top 55)) [] (d_40.kws K) (He.fAd K (("_law_record_due" : Str), none)) fd) ∧ FnOk P w K mg base (L2.CX P w) 3 (He.fAd K (("_law_record_due" : Str), none)) fd ps__law_record_due (spF (nm K) F__law_record_due ps__law_record_due.length) := by
  obtain ⟨fd, F⟩ := c.d.def_ 40 (d := d_40) rfl
  exact ⟨fd, F, z_fun F sc__law_record_due (bo__law_record_due KX Gm c)⟩
abbrev ns_entry_code : List Str := ["entry"]
abbrev ps_entry_code : List Str := ["entry"]
theorem sc_entry_code : FnScope ns_entry_code ps_entry_code (defScope (top 34)) := ⟨rfl, rfl, rfl, by decide +kernel, rfl, by decide +kernel, by decide +kernel⟩
theorem b_entry_code {fd : FuncData} (F : FunD K "entry_code" "entry_code" (defArgs (top 34)) (defBody (top 34)) (defScope (top 34)) [] (d_41.kws K) (He.fAd K (("entry_code" : Str), none)) fd) : Bn (nm K) fd ps_entry_code ps_entry_code.length [] gId := .plain (FunD.bindsN F fun _ _ _ _ _ _ us hl => match us, hl with | [_], _ => rfl)
theorem bo_entry_code (KX : K.In h) (Gm : h.Ns mainGlobals mg) (c : SaysZ ck fas fn K) : BodyOk P w K mg base "entry_code" (defScope (top 34)) (defBody (top 34)) (He.fAd K (("entry_code" : Str), none)) ns_entry_code (nm K) 4 sv_entry_code := by
  have nd := (sc_entry_code).nd
  obtain ⟨fd_record_code, D_record_code, G_record_code⟩ := ok_record_code (P := P) (w := w) (base := base) KX Gm c
  obtain ⟨fd_numbers_code, D_numbers_code, G_numbers_code⟩ := ok_numbers_code (P := P) (w := w) (base := base) KX Gm c
  intro cdv A outer s H E hr tk hp
  exact z_one1 (z_ret (z_binE op_addU os_add (z_binE op_addU os_add (z_lst (z_disp (z_acons (z_up (z_fld (k := 15) rfl rfl (z_var (i := 0)))) (z_anil)))) (z_call (F := F_record_code) rfl tk G_record_code (hr.mono (by decide)) (b_record_code D_record_code) (by rfl) (g_record_code KX Gm c) D_record_code.kp (z_acons (z_up (z_fld (k := 16) rfl rfl (z_var (i := 0)))) (z_anil)) (alen_cons alen_nil))) (z_call (F := F_numbers_code) rfl tk G_numbers_code (hr.mono (by decide)) (b_numbers_code D_numbers_code) (by rfl) (g_numbers_code KX Gm c) D_numbers_code.kp (z_acons (z_up (z_fld (k := 17) rfl rfl (z_var (i := 0)))) (z_anil)) (alen_cons alen_nil))))
theorem ok_entry_code (KX : K.In h) (Gm : h.Ns mainGlobals mg) (c : SaysZ ck fas fn K) : ∃ fd, (FunD K "entry_code" "entry_code" (defArgs (top 34)) (defBody (top 34)) (defScope (top 34)) [] (d_41.kws K) (He.fAd K (("entry_code" : Str), none)) fd) ∧ FnOk P w K mg base (L2.CX P w) 5 (He.fAd K (("entry_code" : Str), none)) fd ps_entry_code (spF (nm K) F_entry_code ps_entry_code.length) := by
  obtain ⟨fd, F⟩ := c.d.def_ 41 (d := d_41) rfl
  exact ⟨fd, F, z_fun F sc_entry_code (bo_entry_code KX Gm c)⟩
abbrev ns_offer_code : List Str := ["offer", "partitions", "regions", "entry"]
abbrev ps_offer_code : List Str := ["offer"]
theorem sc_offer_code : FnScope ns_offer_code ps_offer_code (defScope (top 35)) := ⟨rfl, rfl, rfl, by decide +kernel, rfl, by decide +kernel, by decide +kernel⟩
theorem b_offer_code {fd : FuncData} (F : FunD K "offer_code" "offer_code" (defArgs (top 35)) (defBody (top 35)) (defScope (top 35)) [] (d_42.kws K) (He.fAd K (("offer_code" : Str), none)) fd) : Bn (nm K) fd ps_offer_code ps_offer_code.length [] gId := .plain (FunD.bindsN F fun _ _ _ _ _ _ us hl => match us, hl with | [_], _ => rfl)
theorem bo_offer_code (KX : K.In h) (Gm : h.Ns mainGlobals mg) (c : SaysZ ck fas fn K) : BodyOk P w K mg base "offer_code" (defScope (top 35)) (defBody (top 35)) (He.fAd K (("offer_code" : Str), none)) ns_offer_code (nm K) 6 sv_offer_code := by
  have nd := (sc_offer_code).nd
  obtain ⟨fd_list_code, D_list_code, G_list_code⟩ := ok_list_code (P := P) (w := w) (base := base) KX Gm c
  obtain ⟨fd_partition_code, D_partition_code, G_partition_code⟩ := ok_partition_code (P := P) (w := w) (base := base) KX Gm c
  obtain ⟨fd_entry_code, D_entry_code, G_entry_code⟩ := ok_entry_code (P := P) (w := w) (base := base) KX Gm c
  intro cdv A outer s H E hr tk hp
  exact z_cons (z_set (i := 1) nd rfl (by first | exact .inl rfl | exact .inr rfl) (z_call (F := F_list_code) rfl tk G_list_code (hr.mono (by decide)) (b_list_code D_list_code) (by rfl) (g_list_code KX Gm c) D_list_code.kp (z_acons (z_lst (z_lc (own := [(("regions" : Str), 2)]) rfl nd (z_it rfl (z_up (z_fld (k := 21) rfl rfl (z_var (i := 0))))) rfl (by decide) (fun _ _ _ _ _ => z_gname (i := 2) nd rfl (by first | exact .inl rfl | exact .inr rfl)) (fun _ _ _ _ _ => z_ifs0) (fun _ _ _ _ _ => z_call (F := F_partition_code) rfl tk0 G_partition_code (hr.mono (by decide)) (b_partition_code D_partition_code) (by rfl) (g_partition_code KX Gm c) D_partition_code.kp (z_acons (z_up (z_var (i := 2))) (z_anil)) (alen_cons alen_nil)))) (z_anil)) (alen_cons alen_nil))) (z_one1 (z_ret (z_binE op_addU os_add (z_up (z_var (i := 1))) (z_call (F := F_list_code) rfl tk G_list_code (hr.mono (by decide)) (b_list_code D_list_code) (by rfl) (g_list_code KX Gm c) D_list_code.kp (z_acons (z_lst (z_lc (own := [(("entry" : Str), 3)]) rfl nd (z_it rfl (z_up (z_fld (k := 22) rfl rfl (z_var (i := 0))))) rfl (by decide) (fun _ _ _ _ _ => z_gname (i := 3) nd rfl (by first | exact .inl rfl | exact .inr rfl)) (fun _ _ _ _ _ => z_ifs0) (fun _ _ _ _ _ => z_call (F := F_entry_code) rfl tk0 G_entry_code (hr.mono (by decide)) (b_entry_code D_entry_code) (by rfl) (g_entry_code KX Gm c) D_entry_code.kp (z_acons (z_up (z_var (i := 3))) (z_anil)) (alen_cons alen_nil)))) (z_anil)) (alen_cons alen_nil)))))
theorem ok_offer_code (KX : K.In h) (Gm : h.Ns mainGlobals mg) (c : SaysZ ck fas fn K) : ∃ fd, (FunD K "offer_code" "offer_code" (defArgs (top 35)) (defBody (top 35)) (defScope (top 35)) [] (d_42.kws K) (He.fAd K (("offer_code" : Str), none)) fd) ∧ FnOk P w K mg base (L2.CX P w) 7 (He.fAd K (("offer_code" : Str), none)) fd ps_offer_code (spF (nm K) F_offer_code ps_offer_code.length) := by
  obtain ⟨fd, F⟩ := c.d.def_ 42 (d := d_42) rfl
  exact ⟨fd, F, z_fun F sc_offer_code (bo_offer_code KX Gm c)⟩
abbrev ns_law : List Str := ["_law_script", "_law_state", "_law_turn", "_law_fact_here", "_law_offer_here", "_law_partitions", "_law_regions", "_law_region", "_law_entries", "_law_entry"]
abbrev ps_law : List Str := ["_law_script"]
theorem sc_law : FnScope ns_law ps_law (defScope (top 58)) := ⟨rfl, rfl, rfl, by decide +kernel, rfl, by decide +kernel, by decide +kernel⟩
theorem b_law {fd : FuncData} (F : FunD K "law" "law" (defArgs (top 58)) (defBody (top 58)) (defScope (top 58)) [] (d_43.kws K) (He.fAd K (("law" : Str), none)) fd) : Bn (nm K) fd ps_law ps_law.length [] gId := .plain (FunD.bindsN F fun _ _ _ _ _ _ us hl => match us, hl with | [_], _ => rfl)
theorem bo_law (KX : K.In h) (Gm : h.Ns mainGlobals mg) (c : SaysZ ck fas fn K) : BodyOk P w K mg base "law" (defScope (top 58)) (defBody (top 58)) (He.fAd K (("law" : Str), none)) ns_law (nm K) 7 sv_law := by
  have nd := (sc_law).nd
  obtain ⟨fd__law_parts_agree, D__law_parts_agree, G__law_parts_agree⟩ := ok__law_parts_agree (P := P) (w := w) (base := base) KX Gm c
  obtain ⟨fd__law_fact, D__law_fact, G__law_fact⟩ := ok__law_fact (P := P) (w := w) (base := base) KX Gm c
  obtain ⟨fd_fact_code, D_fact_code, G_fact_code⟩ := ok_fact_code (P := P) (w := w) (base := base) KX Gm c
  obtain ⟨fd__law_fact_due, D__law_fact_due, G__law_fact_due⟩ := ok__law_fact_due (P := P) (w := w) (base := base) KX Gm c
  obtain ⟨fd__law_offer, D__law_offer, G__law_offer⟩ := ok__law_offer (P := P) (w := w) (base := base) KX Gm c
  obtain ⟨fd_region_code, D_region_code, G_region_code⟩ := ok_region_code (P := P) (w := w) (base := base) KX Gm c
  obtain ⟨fd__law_region_due, D__law_region_due, G__law_region_due⟩ := ok__law_region_due (P := P) (w := w) (base := base) KX Gm c
  obtain ⟨fd__law_list, D__law_list, G__law_list⟩ := ok__law_list (P := P) (w := w) (base := base) KX Gm c
  obtain ⟨fd_partition_code, D_partition_code, G_partition_code⟩ := ok_partition_code (P := P) (w := w) (base := base) KX Gm c
  obtain ⟨fd_record_code, D_record_code, G_record_code⟩ := ok_record_code (P := P) (w := w) (base := base) KX Gm c
  obtain ⟨fd__law_record_due, D__law_record_due, G__law_record_due⟩ := ok__law_record_due (P := P) (w := w) (base := base) KX Gm c
  obtain ⟨fd__law_counted, D__law_counted, G__law_counted⟩ := ok__law_counted (P := P) (w := w) (base := base) KX Gm c
  obtain ⟨fd_entry_code, D_entry_code, G_entry_code⟩ := ok_entry_code (P := P) (w := w) (base := base) KX Gm c
  obtain ⟨fd_offer_code, D_offer_code, G_offer_code⟩ := ok_offer_code (P := P) (w := w) (base := base) KX Gm c
  intro cdv A outer s H E hr tk hp
  exact z_cons (z_set (i := 1) nd rfl (by first | exact .inl rfl | exact .inr rfl) (z_asH (z_disp (z_acons (z_lst (z_t1F call_list_of (uf_list rfl) (by rfl) (fr_list KX Gm c) boot_list (z_var (i := 0)))) (z_acons (z_up (z_int)) (z_acons (z_up (z_int)) (z_anil))))))) (z_cons (z_ifS (z_tnot (z_tval (z_call (F := F__law_parts_agree) rfl tk G__law_parts_agree (hr.mono (by decide)) (b__law_parts_agree D__law_parts_agree) (by rfl) (g__law_parts_agree KX Gm c) D__law_parts_agree.kp (z_acons (z_up (z_var (i := 1))) (z_anil)) (alen_cons alen_nil)))) (z_one1 (z_ret (z_up (z_bl)))) (z_nil)) (z_cons (z_for hp rfl (z_range1 (by rfl) (fr_range KX Gm c) (z_acons (z_up (z_int)) (z_anil))) (z_gname (i := 2) nd rfl (by first | exact .inl rfl | exact .inr rfl)) (z_cons (z_set (i := 3) nd rfl (by first | exact .inl rfl | exact .inr rfl) (z_call (F := F__law_fact) rfl tk G__law_fact (hr.mono (by decide)) (b__law_fact D__law_fact) (by rfl) (g__law_fact KX Gm c) D__law_fact.kp (z_acons (z_up (z_var (i := 1))) (z_anil)) (alen_cons alen_nil))) (z_one1 (z_ifS (z_tcmpE (op_neD (hu4 hr)) (os_ne rfl) (z_call (F := F_fact_code) rfl tk G_fact_code (hr.mono (by decide)) (b_fact_code D_fact_code) (by rfl) (g_fact_code KX Gm c) D_fact_code.kp (z_acons (z_up (z_var (i := 3))) (z_anil)) (alen_cons alen_nil)) (z_call (F := F__law_fact_due) rfl tk G__law_fact_due (hr.mono (by decide)) (b__law_fact_due D__law_fact_due) (by rfl) (g__law_fact_due KX Gm c) D__law_fact_due.kp (z_acons (z_up (z_var (i := 3))) (z_anil)) (alen_cons alen_nil))) (z_one1 (z_ret (z_up (z_bl)))) (z_nil))))) (z_cons (z_set (i := 4) nd rfl (by first | exact .inl rfl | exact .inr rfl) (z_call (F := F__law_offer) rfl tk G__law_offer (hr.mono (by decide)) (b__law_offer D__law_offer) (by rfl) (g__law_offer KX Gm c) D__law_offer.kp (z_acons (z_up (z_var (i := 1))) (z_anil)) (alen_cons alen_nil))) (z_cons (z_setF (i := 5) nd rfl (by first | exact .inl rfl | exact .inr rfl) (z_disp (z_anil))) (z_cons (z_for hp rfl (z_it rfl (z_up (z_fld (k := 21) rfl rfl (z_var (i := 4))))) (z_gname (i := 6) nd rfl (by first | exact .inl rfl | exact .inr rfl)) (z_cons (z_for hp rfl (z_it rfl (z_up (z_var (i := 6)))) (z_gname (i := 7) nd rfl (by first | exact .inl rfl | exact .inr rfl)) (z_one1 (z_ifS (z_tcmpE (op_neD (hu4 hr)) (os_ne rfl) (z_call (F := F_region_code) rfl tk G_region_code (hr.mono (by decide)) (b_region_code D_region_code) (by rfl) (g_region_code KX Gm c) D_region_code.kp (z_acons (z_up (z_var (i := 7))) (z_anil)) (alen_cons alen_nil)) (z_call (F := F__law_region_due) rfl tk G__law_region_due (hr.mono (by decide)) (b__law_region_due D__law_region_due) (by rfl) (g__law_region_due KX Gm c) D__law_region_due.kp (z_acons (z_up (z_var (i := 7))) (z_anil)) (alen_cons alen_nil))) (z_one1 (z_ret (z_up (z_bl)))) (z_nil)))) (z_cons (z_mutO (i := 5) PySem.F.slot_list_append PySem.F.type_list_append mt_append ms_app rfl (z_acons (z_call (F := F__law_list) rfl tk G__law_list (hr.mono (by decide)) (b__law_list D__law_list) (by rfl) (g__law_list KX Gm c) D__law_list.kp (z_acons (z_lst (z_lc (own := [(("_law_region" : Str), 7)]) rfl nd (z_it rfl (z_up (z_var (i := 6)))) rfl (by decide) (fun _ _ _ _ _ => z_gname (i := 7) nd rfl (by first | exact .inl rfl | exact .inr rfl)) (fun _ _ _ _ _ => z_ifs0) (fun _ _ _ _ _ => z_call (F := F__law_region_due) rfl tk0 G__law_region_due (hr.mono (by decide)) (b__law_region_due D__law_region_due) (by rfl) (g__law_region_due KX Gm c) D__law_region_due.kp (z_acons (z_up (z_var (i := 7))) (z_anil)) (alen_cons alen_nil)))) (z_anil)) (alen_cons alen_nil)) (z_anil))) (z_one1 (z_ifS (z_tcmpE (op_neD (hu4 hr)) (os_ne rfl) (z_call (F := F_partition_code) rfl tk G_partition_code (hr.mono (by decide)) (b_partition_code D_partition_code) (by rfl) (g_partition_code KX Gm c) D_partition_code.kp (z_acons (z_up (z_var (i := 6))) (z_anil)) (alen_cons alen_nil)) (z_up (z_ix rfl (z_var (i := 5)) (z_bin op_sub os_sub (z_b1 call_lenU (us_len rfl) (by rfl) (fr_len KX Gm c) boot_len (z_var (i := 5))) (z_int))))) (z_one1 (z_ret (z_up (z_bl)))) (z_nil)))))) (z_cons (z_setF (i := 8) nd rfl (by first | exact .inl rfl | exact .inr rfl) (z_disp (z_anil))) (z_cons (z_for hp rfl (z_it rfl (z_up (z_fld (k := 22) rfl rfl (z_var (i := 4))))) (z_gname (i := 9) nd rfl (by first | exact .inl rfl | exact .inr rfl)) (z_cons (z_ifS (z_tcmpE (op_neD (hu4 hr)) (os_ne rfl) (z_call (F := F_record_code) rfl tk G_record_code (hr.mono (by decide)) (b_record_code D_record_code) (by rfl) (g_record_code KX Gm c) D_record_code.kp (z_acons (z_up (z_fld (k := 16) rfl rfl (z_var (i := 9)))) (z_anil)) (alen_cons alen_nil)) (z_call (F := F__law_record_due) rfl tk G__law_record_due (hr.mono (by decide)) (b__law_record_due D__law_record_due) (by rfl) (g__law_record_due KX Gm c) D__law_record_due.kp (z_acons (z_up (z_fld (k := 16) rfl rfl (z_var (i := 9)))) (z_anil)) (alen_cons alen_nil))) (z_one1 (z_ret (z_up (z_bl)))) (z_nil)) (z_cons (z_mutO (i := 8) PySem.F.slot_list_append PySem.F.type_list_append mt_append ms_app rfl (z_acons (z_binE op_addU os_add (z_binE op_addU os_add (z_lst (z_disp (z_acons (z_up (z_fld (k := 15) rfl rfl (z_var (i := 9)))) (z_anil)))) (z_call (F := F__law_record_due) rfl tk G__law_record_due (hr.mono (by decide)) (b__law_record_due D__law_record_due) (by rfl) (g__law_record_due KX Gm c) D__law_record_due.kp (z_acons (z_up (z_fld (k := 16) rfl rfl (z_var (i := 9)))) (z_anil)) (alen_cons alen_nil))) (z_call (F := F__law_counted) rfl tk G__law_counted (hr.mono (by decide)) (b__law_counted D__law_counted) (by rfl) (g__law_counted KX Gm c) D__law_counted.kp (z_acons (z_up (z_fld (k := 17) rfl rfl (z_var (i := 9)))) (z_anil)) (alen_cons alen_nil))) (z_anil))) (z_one1 (z_ifS (z_tcmpE (op_neD (hu4 hr)) (os_ne rfl) (z_call (F := F_entry_code) rfl tk G_entry_code (hr.mono (by decide)) (b_entry_code D_entry_code) (by rfl) (g_entry_code KX Gm c) D_entry_code.kp (z_acons (z_up (z_var (i := 9))) (z_anil)) (alen_cons alen_nil)) (z_up (z_ix rfl (z_var (i := 8)) (z_bin op_sub os_sub (z_b1 call_lenU (us_len rfl) (by rfl) (fr_len KX Gm c) boot_len (z_var (i := 8))) (z_int))))) (z_one1 (z_ret (z_up (z_bl)))) (z_nil)))))) (z_frz (z_frz (z_one1 (z_ret (z_cmpE (op_eqD (hu4 hr)) (os_eq rfl) (z_call (F := F_offer_code) rfl tk G_offer_code (hr.mono (by decide)) (b_offer_code D_offer_code) (by rfl) (g_offer_code KX Gm c) D_offer_code.kp (z_acons (z_up (z_var (i := 4))) (z_anil)) (alen_cons alen_nil)) (z_binE op_addU os_add (z_call (F := F__law_list) rfl tk G__law_list (hr.mono (by decide)) (b__law_list D__law_list) (by rfl) (g__law_list KX Gm c) D__law_list.kp (z_acons (z_up (z_var (i := 5))) (z_anil)) (alen_cons alen_nil)) (z_call (F := F__law_list) rfl tk G__law_list (hr.mono (by decide)) (b__law_list D__law_list) (by rfl) (g__law_list KX Gm c) D__law_list.kp (z_acons (z_up (z_var (i := 8))) (z_anil)) (alen_cons alen_nil)))))))))))))))
theorem ok_law (KX : K.In h) (Gm : h.Ns mainGlobals mg) (c : SaysZ ck fas fn K) : ∃ fd, (FunD K "law" "law" (defArgs (top 58)) (defBody (top 58)) (defScope (top 58)) [] (d_43.kws K) (He.fAd K (("law" : Str), none)) fd) ∧ FnOk P w K mg base (L2.CX P w) 8 (He.fAd K (("law" : Str), none)) fd ps_law (spF (nm K) F_law ps_law.length) := by
  obtain ⟨fd, F⟩ := c.d.def_ 43 (d := d_43) rfl
  exact ⟨fd, F, z_fun F sc_law (bo_law KX Gm c)⟩
end
end Q

set_option maxHeartbeats 0
namespace Q
open PySem PySem.Spec PyProof.Rows L2 Z
def loose : List PySem.Str := (["_wall", "Fact", "same_value", "same_fields", "Record", "same_values", "FieldFact", "Range", "Values", "Counts", "Names", "Part", "Parts", "Cell", "Box", "Norms", "Differ", "LACKS", "list_code", "numbers_code", "string_code", "value_code", "maybe_code", "pairs_code", "record_code"] : List PySem.Str) ++ (["fact_code", "region_code", "partition_code", "entry_code", "offer_code", "Region", "Entry", "Offer", "_law_row", "_law_next", "_law_string", "_law_numbers", "_law_worth", "_law_fact", "_law_record", "_law_offer", "_law_text", "_law_value", "_law_list", "_law_counted", "_law_fact_due", "_law_record_due", "_law_region_due", "_law_parts_agree"] : List PySem.Str)
abbrev R0 : PySem.W.OpenRow := PySem.W.OpenLaw.row PySem.Challenge.rw_surenear_k36_codes_number_by_number
def nsH : List Str := (["Box", "Cell", "Counts", "Differ", "Entry", "FieldFact", "LACKS", "Names", "Norms", "Offer", "Part", "Parts", "Range", "Record", "Region", "Values", "_law_counted", "_law_fact", "_law_fact_due", "_law_list"] : List PySem.Str) ++ (["_law_next", "_law_numbers", "_law_offer", "_law_parts_agree", "_law_record", "_law_record_due", "_law_region_due", "_law_row", "_law_string", "_law_text", "_law_value", "_law_worth", "entry_code", "fact_code", "law", "list_code", "maybe_code", "numbers_code", "offer_code", "pairs_code"] : List PySem.Str) ++ (["partition_code", "record_code", "region_code", "string_code", "value_code"] : List PySem.Str)
abbrev hk : PySem.W.Hook := hookN nsH ck fas fn
def ob (s : PySem.W.SharedT) : AlZ := obsNG nsH ck fas fn (HandSHeadRun.getT s)
theorem ob_eq (s : PySem.W.SharedT) : ob s = hk.obs s.abs := obsNG_eq (HandSHeadRun.getT_eq s)
theorem run0 (w : PySem.World) : HandSHeadRun.RunEq R0 (PySem.W.view R0.prog [58]) hk ob 9000 loose (w.withFollow "special-get-raises" false) := by
  intro os
  kernel_rfl
theorem run1 (w : PySem.World) : HandSHeadRun.RunEq R0 (PySem.W.view R0.prog [58]) hk ob 9000 loose (w.withFollow "special-get-raises" true) := by
  intro os
  kernel_rfl
theorem run (w : PySem.World) : HandSHeadRun.RunEq R0 (PySem.W.view R0.prog [58]) hk ob 9000 loose w := PySem.W.byRow2 "special-get-raises" run0 run1 w
end Q

set_option maxHeartbeats 1000000
namespace Q
open PySem PySem.Spec PyProof.Rows L2 Z
/-! ### how the evaluators run -/
theorem oI_ok {C : Int → Int → Prop} [∀ i j, Decidable (C i j)] {g : Int → Int → D} {M : Mm} {i j : Int} (h : C i j) : oI C g M (.d (.int i)) (.d (.int j)) = some (g i j) := by
  show (if C i j then some (g i j) else none) = _
  rw [if_pos h]
@[simp] theorem r_ok {α β : Type} (a : α) (f : α → R β) : (R.ok a).bind f = f a := rfl
@[simp] theorem r_st {α : Type} (a : α) (Γ : Gm) (f : α → SR) : (R.ok a).st Γ f = f a := rfl
@[simp] theorem s_nx (Γ : Gm) (M : Mm) (f : SV) : (SR.ok (.nx Γ) M).bind f = f Γ M := rfl
@[simp] theorem s_rt (x : D) (M : Mm) (f : SV) : (SR.ok (.rt x) M).bind f = .ok (.rt x) M := rfl
@[simp] theorem ob_some {α β : Type} (a : α) (f : α → R β) : orBad (some a) f = f a := rfl
@[simp] theorem up_eq (p : PV) (Γ : Gm) (M : Mm) : up p Γ M = orBad (p Γ M) (Ev.up M) := rfl
@[simp] theorem evup (x : D) (M : Mm) : Ev.up M (.d x) = .ok (x, M) := rfl
@[simp] theorem pC_eq (x : D) (Γ : Gm) (M : Mm) : pC x Γ M = some (.d x) := rfl
@[simp] theorem pVar_eq (i : Nat) (Γ : Gm) (M : Mm) : pVar i Γ M = match Γ[i]? with
  | some (.d x) => some (.d x)
  | some (.o y) => some (.o y)
  | _ => none := rfl
@[simp] theorem p1_eq (op : Mm → Ev → Option D) (p : PV) (Γ : Gm) (M : Mm) : p1 op p Γ M = (p Γ M).bind fun e => (op M e).map .d := rfl
@[simp] theorem p2_eq (op : Mm → Ev → Ev → Option D) (p q : PV) (Γ : Gm) (M : Mm) : p2 op p q Γ M = (p Γ M).bind fun e => (q Γ M).bind fun f => (op M e f).map .d := rfl
@[simp] theorem e1_eq (op : Mm → Ev → Option D) (p : EV) (Γ : Gm) (M : Mm) : e1 op p Γ M = (p Γ M).bind fun r => orBad (op r.2 (.d r.1)) fun d => .ok (d, r.2) := rfl
@[simp] theorem e2_eq (op : Mm → Ev → Ev → Option D) (p q : EV) (Γ : Gm) (M : Mm) : e2 op p q Γ M = (p Γ M).bind fun r => (q Γ r.2).bind fun s => orBad (op s.2 (.d r.1) (.d s.1)) fun d => .ok (d, s.2) := rfl
@[simp] theorem bT_eq (p : EV) (Γ : Gm) (M : Mm) : bT p Γ M = (p Γ M).bind fun r => orBad (vBl (.d r.1)) fun b => .ok (b, r.2) := rfl
@[simp] theorem vInt_eq (i : Int) : Z.vInt (.d (.int i)) = some i := rfl
@[simp] theorem vStr_eq (x : List Nat) : Z.vStr (.d (.str x)) = some x := rfl
@[simp] theorem vLst_eq (M : Mm) (x : List D) : vLst M (.d (.lst x)) = some x := rfl
@[simp] theorem vTup_eq (x : List D) : vTup (.d (.tup x)) = some x := rfl
@[simp] theorem vBl_eq (b : Bool) : vBl (.d (.bl b)) = some b := rfl
@[simp] theorem sSeq_eq (a b : SV) (Γ : Gm) (M : Mm) : sSeq a b Γ M = (a Γ M).bind b := rfl
@[simp] theorem sNil_eq (Γ : Gm) (M : Mm) : sNil Γ M = .ok (.nx Γ) M := rfl
@[simp] theorem sAsg_eq (i : Nat) (p : EV) (Γ : Gm) (M : Mm) : sAsg i p Γ M = (p Γ M).st Γ fun r => if i < Γ.length then .ok (.nx (Γ.set i (.d r.1))) r.2 else .bad := rfl
@[simp] theorem sRet_eq (p : EV) (Γ : Gm) (M : Mm) : sRet p Γ M = (p Γ M).st Γ fun r => .ok (.rt r.1) r.2 := rfl
@[simp] theorem sIf_eq (t : TV) (a b : SV) (Γ : Gm) (M : Mm) : sIf t a b Γ M = (t Γ M).st Γ fun r => if r.1 = true then a Γ r.2 else b Γ r.2 := rfl
@[simp] theorem aNil_eq (Γ : Gm) (M : Mm) : aNil Γ M = .ok ([], M) := rfl
@[simp] theorem aCons_eq (e : EV) (r : AV) (Γ : Gm) (M : Mm) : aCons e r Γ M = (e Γ M).bind fun x => (r Γ x.2).bind fun s => .ok (x.1 :: s.1, s.2) := rfl
@[simp] theorem callE_eq (F : Fn) (a : AV) (Γ : Gm) (M : Mm) : callE F gId a Γ M = (a Γ M).bind fun r => F r.1 r.2 := rfl
@[simp] theorem asD_eq (e : AV) (Γ : Gm) (M : Mm) : asD e Γ M = (e Γ M).bind fun r => .ok (.lst r.1, r.2) := rfl
@[simp] theorem fLst_eq (e : AV) (Γ : Gm) (M : Mm) : fLst e Γ M = (e Γ M).bind fun r => if r.1.length ≤ big then .ok (r.1, r.2) else .bad := rfl
@[simp] theorem eTup_eq (e : AV) (Γ : Gm) (M : Mm) : eTup e Γ M = (e Γ M).bind fun r => if r.1.length ≤ big then .ok (.tup r.1, r.2) else .bad := rfl
@[simp] theorem asH_eq (e : AV) (Γ : Gm) (M : Mm) : asH e Γ M = (e Γ M).bind fun r => .ok (.hdl r.2.length, r.2 ++ [.lst r.1]) := rfl
@[simp] theorem oAdd_int (M : Mm) (i j : Int) : oAdd M (.d (.int i)) (.d (.int j)) = some (.int (i + j)) := rfl
@[simp] theorem oSub_int (M : Mm) (i j : Int) : oSub M (.d (.int i)) (.d (.int j)) = some (.int (i - j)) := rfl
@[simp] theorem oLt_int (M : Mm) (i j : Int) : oLtU M (.d (.int i)) (.d (.int j)) = some (.bl (decide (i < j))) := rfl
@[simp] theorem oNeg_int (M : Mm) (i : Int) : oNeg M (.d (.int i)) = some (.int (-i)) := rfl
@[simp] theorem oInt1_int (M : Mm) (i : Int) : oInt1 M (.d (.int i)) = some (.int i) := rfl
@[simp] theorem oLen_lst (M : Mm) (ds : List D) : oLen M (.d (.lst ds)) = some (.int ds.length) := rfl
theorem oMul_ok {M : Mm} {i j : Int} (h : CMulD i j) : oMul M (.d (.int i)) (.d (.int j)) = some (.int (i * j)) := oI_ok h
theorem oMod_ok {M : Mm} {i j : Int} (h : 0 < j) : oMod M (.d (.int i)) (.d (.int j)) = some (.int (i % j)) := oI_ok (C := fun _ j => 0 < j) h
theorem oFdiv_ok {M : Mm} {i j : Int} (h : CDivD i j) : oFdiv M (.d (.int i)) (.d (.int j)) = some (.int (i / j)) := oI_ok h
theorem oPow_ok {M : Mm} {i j : Int} (h : CPowD i j) : oPow M (.d (.int i)) (.d (.int j)) = some (.int (i ^ j.toNat)) := oI_ok h
theorem oIx_lst {M : Mm} {ds : List D} {i : Int} {d : D} (h : atI ds i = some d) : oIx M (.d (.lst ds)) (.d (.int i)) = some d := h
theorem atI_nat {α : Type} {xs : List α} {i : Nat} {x : α} (h : xs[i]? = some x) : atI xs (i : Int) = some x := by
  unfold atI ixN
  have hl := (List.getElem?_eq_some_iff.mp h).1
  rw [if_pos (by omega), if_pos (by omega)]
  simpa using h
theorem mulC {i j : Int} (h : -18446744073709551616 < j ∧ j < 18446744073709551616) : CMulD i j := .inr h
theorem oMul_r {M : Mm} {i j : Int} (h1 : -18446744073709551616 < j) (h2 : j < 18446744073709551616) : oMul M (.d (.int i)) (.d (.int j)) = some (.int (i * j)) := oMul_ok (.inr ⟨h1, h2⟩)
theorem oMul_l {M : Mm} {i j : Int} (h1 : -18446744073709551616 < i) (h2 : i < 18446744073709551616) : oMul M (.d (.int i)) (.d (.int j)) = some (.int (i * j)) := oMul_ok (.inl ⟨h1, h2⟩)
theorem oMul_m {M : Mm} {i x m : Int} (h1 : 0 < m) (h2 : m < 18446744073709551616) : oMul M (.d (.int i)) (.d (.int (x % m))) = some (.int (i * (x % m))) := oMul_ok (.inr ⟨by have := Int.emod_nonneg x (show m ≠ 0 by omega); omega, by have := Int.emod_lt_of_pos x h1; omega⟩)
theorem oPow_r {M : Mm} {i j : Int} (h1 : 0 ≤ j) (h2 : j ≤ 1000) (h3 : i.natAbs < 18446744073709551616) : oPow M (.d (.int i)) (.d (.int j)) = some (.int (i ^ j.toNat)) := oPow_ok ⟨h1, h2, h3⟩
theorem oFdiv_r {M : Mm} {i j : Int} (h1 : 0 < j) (h2 : j < 18446744073709551616) : oFdiv M (.d (.int i)) (.d (.int j)) = some (.int (i / j)) := oFdiv_ok ⟨h1, h2⟩
def rowT : SV := sSeq (sIf (bT (up (p2 oLtU (pVar 2) (p2 oPow (pC (.int 10)) (pC (.int 9)))))) (sSeq (sAsg 3 (up (p2 oMod (p1 oInt1 (p2 oAdd (p2 oAdd (p2 oMul (pVar 2) (pC (.int 48271))) (p2 oMul (pVar 1) (pC (.int 69621)))) (pC (.int 11)))) (pC (.int 2147483647))))) (sSeq (sAsg 4 (up (p2 oMod (p1 oInt1 (p2 oAdd (p2 oAdd (p2 oAdd (p2 oMul (pVar 3) (pC (.int 16807))) (p2 oMul (pVar 2) (pC (.int 7)))) (pVar 1)) (pC (.int 5)))) (pC (.int 2147483629))))) (sSeq (sAsg 5 (up (p2 oMod (p1 oInt1 (p2 oAdd (p2 oAdd (p2 oMul (pVar 4) (pC (.int 39373))) (p2 oMul (pVar 3) (pVar 4))) (pC (.int 3)))) (pC (.int 2147483587))))) (sAsg 2 (up (p2 oAdd (p2 oAdd (pVar 3) (p2 oMul (pVar 4) (pC (.int 2147483647)))) (p2 oMul (pVar 5) (p2 oPow (pC (.int 2147483647)) (pC (.int 2)))))))))) (sNil)) (sRet (up (pVar 2)))
def rowV (k c1 : Int) : Int := (fun a => (fun b => (fun z => a + b * 2147483647 + z * 4611686014132420609) ((b * 39373 + a * b + 3) % 2147483587)) ((a * 16807 + c1 * 7 + k + 5) % 2147483629)) ((c1 * 48271 + k * 69621 + 11) % 2147483647)
theorem rowV_nn (k c1 : Int) : 0 ≤ rowV k c1 := by
  unfold rowV
  generalize (c1 * 48271 + (k : Int) * 69621 + 11) = x
  simp only []
  generalize (x % 2147483647 * 16807 + c1 * 7 + (k : Int) + 5) = y
  generalize (y % 2147483629 * 39373 + x % 2147483647 * (y % 2147483629) + 3) = z
  have h1 := Int.emod_nonneg x (show (2147483647 : Int) ≠ 0 by decide)
  have h2 := Int.emod_nonneg y (show (2147483629 : Int) ≠ 0 by decide)
  have h3 := Int.emod_nonneg z (show (2147483587 : Int) ≠ 0 by decide)
  omega
theorem row_tail (l : List D) (k c1 : Int) (M : Mm) (v3 v4 v5 : Sl) : rowT [.d (.lst l), .d (.int k), .d (.int c1), v3, v4, v5] M = .ok (.rt (.int (if c1 < 1000000000 then rowV k c1 else c1))) M := by
  have p9 : oPow M (.d (.int 10)) (.d (.int 9)) = some (.int 1000000000) := oPow_r (by decide) (by decide) (by decide)
  have p2' : oPow M (.d (.int 2147483647)) (.d (.int 2)) = some (.int 4611686014132420609) := oPow_r (by decide) (by decide) (by decide)
  unfold rowT
  by_cases h9 : c1 < 1000000000
  · simp only [sSeq_eq, sIf_eq, bT_eq, up_eq, p2_eq, p1_eq, pVar_eq, pC_eq, List.getElem?_cons_succ, List.getElem?_cons_zero, Option.bind_some, p9, oLt_int, h9, Option.map_some, ob_some, evup, r_ok, vBl_eq, r_st, decide_true, if_true, sAsg_eq, List.length_cons, List.length_nil, List.set, s_nx, oMul_r (M := M) (j := 48271) (by decide) (by decide), oMul_r (M := M) (j := 69621) (by decide) (by decide), oMul_r (M := M) (j := 16807) (by decide) (by decide), oMul_r (M := M) (j := 7) (by decide) (by decide), oMul_r (M := M) (j := 39373) (by decide) (by decide), oMul_r (M := M) (j := 2147483647) (by decide) (by decide), oMul_r (M := M) (j := 4611686014132420609) (by decide) (by decide),
      oMul_m (M := M) (m := 2147483629) (by decide) (by decide), oMod_ok (M := M) (j := 2147483647) (by decide), oMod_ok (M := M) (j := 2147483629) (by decide), oMod_ok (M := M) (j := 2147483587) (by decide), oAdd_int, oInt1_int, p2', sRet_eq, Nat.reduceAdd, Nat.reduceLT]
    rfl
  · simp only [sSeq_eq, sIf_eq, bT_eq, up_eq, p2_eq, p1_eq, pVar_eq, pC_eq, List.getElem?_cons_succ, List.getElem?_cons_zero, Option.bind_some, p9, oLt_int, h9, Option.map_some, ob_some, evup, r_ok, vBl_eq, r_st, decide_false, Bool.false_eq_true, if_false, sNil_eq, s_nx, sRet_eq]
theorem law_row_ok (ns : List Int) (k : Nat) (M : Mm) : ∃ r : Int, 0 ≤ r ∧ F__law_row [.lst (ns.map .int), .int k] M = .ok (.int r, M) := by
  have e1 : ∀ h : k < ns.length, oIx M (.d (.lst (ns.map D.int))) (.d (.int (k : Int))) = some (.int ns[k]) := fun h => oIx_lst (atI_nat (by simp [h]))
  have fin : ∀ c1 : Int, 0 ≤ c1 → 0 ≤ (if c1 < 1000000000 then rowV k c1 else c1) := fun c1 h => by
    split
    · exact rowV_nn _ _
    · exact h
  have key : ∀ c0 : Int, ∃ r : Int, 0 ≤ r ∧ ∀ v3 v4 v5, (sSeq (sIf (bT (up (p2 oLtU (pVar 2) (pC (.int 0))))) (sAsg 2 (up (p2 oSub (p2 oMul (p1 oNeg (pC (.int 2))) (pVar 2)) (pC (.int 1))))) (sNil)) rowT) [.d (.lst (ns.map .int)), .d (.int k), .d (.int c0), v3, v4, v5] M = .ok (.rt (.int r)) M := fun c0 => by
    by_cases h0 : c0 < 0
    · refine ⟨_, fin (-2 * c0 - 1) (by omega), fun v3 v4 v5 => ?_⟩
      simp [h0, oMul_l, row_tail]
    · refine ⟨_, fin c0 (by omega), fun v3 v4 v5 => ?_⟩
      simp [h0, row_tail]
  have eF : ∀ c0 : Int, (∀ v3 v4 v5, sIf (bT (up (p2 oLtU (pVar 1) (p1 oLen (pVar 0))))) (sAsg 2 (up (p2 oIx (pVar 0) (pVar 1)))) sNil [.d (.lst (ns.map .int)), .d (.int k), .d (.int 0), v3, v4, v5] M = .ok (.nx [.d (.lst (ns.map .int)), .d (.int k), .d (.int c0), v3, v4, v5]) M) →
      ∃ r : Int, 0 ≤ r ∧ F__law_row [.lst (ns.map .int), .int k] M = .ok (.int r, M) := fun c0 h => by
    obtain ⟨r, hr, e⟩ := key c0
    refine ⟨r, hr, ?_⟩
    have e2 : sv__law_row = sSeq (sAsg 2 (up (pC (.int 0)))) (sSeq (sIf (bT (up (p2 oLtU (pVar 1) (p1 oLen (pVar 0))))) (sAsg 2 (up (p2 oIx (pVar 0) (pVar 1)))) sNil) (sSeq (sIf (bT (up (p2 oLtU (pVar 2) (pC (.int 0))))) (sAsg 2 (up (p2 oSub (p2 oMul (p1 oNeg (pC (.int 2))) (pVar 2)) (pC (.int 1))))) (sNil)) rowT)) := rfl
    unfold F__law_row runF
    rw [e2, sSeq_eq]
    have e3 : (sAsg 2 (up (pC (.int 0)))) (List.map Sl.d [.lst (ns.map .int), .int k] ++ List.replicate (6 - [D.lst (ns.map .int), .int k].length) Sl.un) M = .ok (.nx [.d (.lst (ns.map .int)), .d (.int k), .d (.int 0), .un, .un, .un]) M := rfl
    rw [e3, s_nx, sSeq_eq, h, s_nx, e]
  by_cases h : k < ns.length
  · exact eF ns[k] fun v3 v4 v5 => by simp [e1 h, h]
  · exact eF 0 fun v3 v4 v5 => by simp [h]
end Q

set_option maxHeartbeats 1000000
namespace Q
open PySem PySem.Spec PyProof.Rows L2 Z
/-- the law's drawing -/
abbrev S (ns : List Int) (i : Nat) (c : Int) : O := .lst [.lst (ns.map .int), .int i, .int c]
theorem oIx_h (ds : List D) (Mt : Mm) (i : Int) : oIx (.lst ds :: Mt) (.d (.hdl 0)) (.d (.int i)) = atI ds i := rfl
theorem at0 (a b c : D) : atI [a, b, c] 0 = some a := rfl
theorem at1 (a b c : D) : atI [a, b, c] 1 = some b := rfl
theorem at2 (a b c : D) : atI [a, b, c] 2 = some c := rfl
theorem sSetIx_eq (eo ei ev : EV) (Γ : Gm) (M : Mm) : sSetIx eo ei ev Γ M = (ev Γ M).st Γ fun r => (eo Γ r.2).st Γ fun s => (ei Γ s.2).st Γ fun t => match s.1 with
  | .hdl k => (match t.2[k]? with
    | some (.lst ds) => (match t.1 with
      | .int i => (match ixN ds.length i with
        | some j => .ok (.nx Γ) (t.2.set k (.lst (ds.set j r.1)))
        | none => .bad)
      | _ => .bad)
    | _ => .bad)
  | _ => .bad := rfl
theorem ix31 : ixN 3 1 = some 1 := rfl
theorem ix32 : ixN 3 2 = some 2 := rfl
theorem law_next_ok (ns : List Int) (i : Nat) (c m : Int) (Mt : Mm) (hc : 0 ≤ c) (h1 : 0 < m) (h2 : m < 18446744073709551616) :
    ∃ (r : Int) (i' : Nat) (c' : Int), 0 ≤ r ∧ r < m ∧ 0 ≤ c' ∧ F__law_next [.hdl 0, .int m] (S ns i c :: Mt) = .ok (.int r, S ns i' c' :: Mt) := by
  have tail : ∀ (i : Nat) (c : Int), 0 ≤ c → ∃ (r : Int) (i' : Nat) (c' : Int), 0 ≤ r ∧ r < m ∧ 0 ≤ c' ∧
      (sSeq (sAsg 2 (up (p2 oMod (p1 oInt1 (p2 oIx (pVar 0) (pC (.int 2)))) (pVar 1)))) (sSeq (sSetIx (up (pVar 0)) (up (pC (.int 2))) (up (p2 oFdiv (p2 oIx (pVar 0) (pC (.int 2))) (pVar 1)))) (sRet (up (pVar 2))))) [.d (.hdl 0), .d (.int m), .un] (S ns i c :: Mt) = .ok (.rt (.int r)) (S ns i' c' :: Mt) := fun i c hc => by
    refine ⟨c % m, i, c / m, Int.emod_nonneg _ (by omega), Int.emod_lt_of_pos _ h1, Int.ediv_nonneg hc (by omega), ?_⟩
    simp [sSetIx_eq, oIx_h, at0, at1, at2, oMod_ok h1, oFdiv_r h1 h2, ix32, S]
  have e2 : sv__law_next = sSeq (sIf (bT (up (p2 oLtU (p2 oIx (pVar 0) (pC (.int 2))) (pVar 1)))) (sSeq (sSetIx (up (pVar 0)) (up (pC (.int 2))) (callE F__law_row gId (aCons (up (p2 oIx (pVar 0) (pC (.int 0)))) (aCons (up (p2 oIx (pVar 0) (pC (.int 1)))) (aNil))))) (sSetIx (up (pVar 0)) (up (pC (.int 1))) (up (p2 oAdd (p2 oIx (pVar 0) (pC (.int 1))) (pC (.int 1)))))) (sNil)) (sSeq (sAsg 2 (up (p2 oMod (p1 oInt1 (p2 oIx (pVar 0) (pC (.int 2)))) (pVar 1)))) (sSeq (sSetIx (up (pVar 0)) (up (pC (.int 2))) (up (p2 oFdiv (p2 oIx (pVar 0) (pC (.int 2))) (pVar 1)))) (sRet (up (pVar 2))))) := rfl
  have head : ∃ (i' : Nat) (c' : Int), 0 ≤ c' ∧ sIf (bT (up (p2 oLtU (p2 oIx (pVar 0) (pC (.int 2))) (pVar 1)))) (sSeq (sSetIx (up (pVar 0)) (up (pC (.int 2))) (callE F__law_row gId (aCons (up (p2 oIx (pVar 0) (pC (.int 0)))) (aCons (up (p2 oIx (pVar 0) (pC (.int 1)))) (aNil))))) (sSetIx (up (pVar 0)) (up (pC (.int 1))) (up (p2 oAdd (p2 oIx (pVar 0) (pC (.int 1))) (pC (.int 1)))))) (sNil) [.d (.hdl 0), .d (.int m), .un] (S ns i c :: Mt) = .ok (.nx [.d (.hdl 0), .d (.int m), .un]) (S ns i' c' :: Mt) := by
    by_cases hlt : c < m
    · obtain ⟨r, hr, e⟩ := law_row_ok ns i (S ns i c :: Mt)
      refine ⟨i + 1, r, hr, ?_⟩
      simp [sSetIx_eq, oIx_h, at0, at1, at2, hlt, e, ix31, ix32, S]
    · refine ⟨i, c, hc, ?_⟩
      simp [oIx_h, at2, hlt, S]
  obtain ⟨i1, c1, hc1, e1⟩ := head
  obtain ⟨r, i2, c2, hr, hrm, hc2, e3⟩ := tail i1 c1 hc1
  refine ⟨r, i2, c2, hr, hrm, hc2, ?_⟩
  unfold F__law_next runF
  rw [e2, sSeq_eq]
  show (match ((sIf _ _ _ [.d (.hdl 0), .d (.int m), .un] (S ns i c :: Mt)).bind _) with
    | .ok (.rt x) M' => R.ok (x, M')
    | .ok (.nx _) M' => .ok (.non, M')
    | .exc c _ M' => .exc c M'
    | _ => .bad) = _
  rw [e1, s_nx, e3]
/-! ### comprehensions -/
theorem lcL_nil (g : GV) (t : TV) (e : EV) (Γ : Gm) (M : Mm) : lcL g t e Γ [] M = .ok ([], M) := rfl
theorem lcL_cons {g : GV} {t : TV} {e : EV} {Γ Γ' : Gm} {z : D} {xs : List D} {M : Mm} (h : g z Γ = some Γ') : lcL g t e Γ (z :: xs) M = (t Γ' M).calm.bind fun b => if b.1 = true then (e Γ' b.2).calm.bind fun y => (lcL g t e Γ xs y.2).bind fun r => .ok (y.1 :: r.1, r.2) else lcL g t e Γ xs b.2 := by
  rw [lcL, h]
theorem lc_map {g : GV} {e : EV} {Γ : Gm} {M : Mm} {f : D → D} : ∀ {xs : List D}, (∀ z ∈ xs, ∃ Γ', g z Γ = some Γ' ∧ e Γ' M = .ok (f z, M)) → lcL g tYesV e Γ xs M = .ok (xs.map f, M)
  | [], _ => rfl
  | z :: xs, h => by
    obtain ⟨Γ', h1, h2⟩ := h z (List.mem_cons_self ..)
    rw [lcL_cons h1]
    show ((e Γ' M).calm.bind fun y => (lcL g tYesV e Γ xs y.2).bind fun r => R.ok (y.1 :: r.1, r.2)) = _
    rw [h2]
    show ((lcL g tYesV e Γ xs M).bind fun r => R.ok (f z :: r.1, r.2)) = _
    rw [lc_map fun y hy => h y (List.mem_cons_of_mem _ hy)]
    rfl
/-- the memory turns, each item is as wished -/
theorem lc_draw {g : GV} {e : EV} {Γ : Gm} {I : Mm → Prop} {Pd : D → Prop} : ∀ {xs : List D} {M : Mm}, I M → (∀ z ∈ xs, ∀ M, I M → ∃ Γ' y M', g z Γ = some Γ' ∧ Pd y ∧ I M' ∧ e Γ' M = .ok (y, M')) → ∃ ys M', lcL g tYesV e Γ xs M = .ok (ys, M') ∧ I M' ∧ (∀ y ∈ ys, Pd y) ∧ ys.length = xs.length
  | [], M, hI, _ => ⟨[], M, rfl, hI, fun y hy => absurd hy (by simp), rfl⟩
  | z :: xs, M, hI, h => by
    obtain ⟨Γ', y, M1, h1, hp, hI1, h2⟩ := h z (List.mem_cons_self ..) M hI
    obtain ⟨ys, M2, e2, hI2, hP, hl⟩ := lc_draw hI1 fun w hw => h w (List.mem_cons_of_mem _ hw)
    refine ⟨y :: ys, M2, ?_, hI2, fun w hw => ?_, by simp [hl]⟩
    · rw [lcL_cons h1]
      show ((e Γ' M).calm.bind fun y => (lcL g tYesV e Γ xs y.2).bind fun r => R.ok (y.1 :: r.1, r.2)) = _
      rw [h2]
      show ((lcL g tYesV e Γ xs M1).bind fun r => R.ok (y :: r.1, r.2)) = _
      rw [e2]
      rfl
    · rcases List.mem_cons.mp hw with z | z
      · rw [z]; exact hp
      · exact hP w z
theorem fLc_tup {ev : EV} {vs : List Nat} {g : GV} {t : TV} {e : EV} {Γ G : Gm} {M M1 : Mm} {xs : List D} (h1 : ev Γ M = .ok (.tup xs, M1)) (h2 : wipG vs Γ = some G) (h3 : xs.length ≤ big) : fLc ev vs g t e Γ M = lcL g t e G xs M1 := by
  show ((ev Γ M).bind fun r => match wipG vs Γ with | some G => lcD g t e G r.1 r.2 | none => .bad) = _
  rw [h1, h2]
  show (if xs.length ≤ big then lcL g t e G xs M1 else .bad) = _
  rw [if_pos h3]
theorem fLc_lst {ev : EV} {vs : List Nat} {g : GV} {t : TV} {e : EV} {Γ G : Gm} {M M1 : Mm} {xs : List D} (h1 : ev Γ M = .ok (.lst xs, M1)) (h2 : wipG vs Γ = some G) (h3 : xs.length ≤ big) : fLc ev vs g t e Γ M = lcL g t e G xs M1 := by
  show ((ev Γ M).bind fun r => match wipG vs Γ with | some G => lcD g t e G r.1 r.2 | none => .bad) = _
  rw [h1, h2]
  show (if xs.length ≤ big then lcL g t e G xs M1 else .bad) = _
  rw [if_pos h3]
theorem fLc_str {ev : EV} {vs : List Nat} {g : GV} {t : TV} {e : EV} {Γ G : Gm} {M M1 : Mm} {s : List Nat} (h1 : ev Γ M = .ok (.str s, M1)) (h2 : wipG vs Γ = some G) (h3 : s.length ≤ big) : fLc ev vs g t e Γ M = lcL g t e G (s.map fun c => .str [c]) M1 := by
  show ((ev Γ M).bind fun r => match wipG vs Γ with | some G => lcD g t e G r.1 r.2 | none => .bad) = _
  rw [h1, h2]
  show (if (s.map fun c => D.str [c]).length ≤ big then lcL g t e G (s.map fun c => .str [c]) M1 else .bad) = _
  rw [if_pos (by simpa using h3)]
/-- a def's end -/
theorem runF_rt {n : Nat} {sv : SV} {ds : List D} {M M' : Mm} {x : D} (h : sv (ds.map .d ++ List.replicate (n - ds.length) .un) M = .ok (.rt x) M') : runF n sv ds M = .ok (x, M') := by
  unfold runF
  rw [h]
/-! ### the codes as lists of ints -/
def ii (l : List Int) : List D := l.map .int
@[simp] theorem ii_len (l : List Int) : (ii l).length = l.length := by simp [ii]
theorem ii_cons (a : Int) (l : List Int) : ii (a :: l) = .int a :: ii l := rfl
theorem ii_app (a b : List Int) : ii (a ++ b) = ii a ++ ii b := by simp [ii]
def Li (l : List Int) : D := .lst (ii l)
theorem Li_lst (l : List Int) : D.lst (ii l) = Li l := rfl
def cNum (l : List Int) : List Int := (l.length : Int) :: l
def oi (s : List Nat) : List Int := s.map Int.ofNat
@[simp] theorem oi_len (s : List Nat) : (oi s).length = s.length := by simp [oi]
def cStr (s : List Nat) : List Int := cNum (oi s)
def cLis (cs : List (List Int)) : List Int := (cs.length : Int) :: cs.flatten
theorem big1 : 1 ≤ big := by decide
theorem oAdd_lst {M : Mm} {a b : List D} (h : a.length + b.length ≤ big) : oAdd M (.d (.lst a)) (.d (.lst b)) = some (.lst (a ++ b)) := by
  show (oCat M (.d (.lst a)) (.d (.lst b))).map D.lst = _
  unfold oCat
  simp [h]
theorem oAdd_Li {M : Mm} {a b : List Int} (h : a.length + b.length ≤ big) : oAdd M (.d (Li a)) (.d (Li b)) = some (Li (a ++ b)) := by
  unfold Li
  rw [oAdd_lst (by simpa using h), ii_app]
theorem f1_vSeq_lst (i : Nat) (Γ : Gm) (M : Mm) (xs : List D) (h : Γ[i]? = some (.d (.lst xs))) : f1 vSeq (pVar i) Γ M = .ok (xs, M) := by
  unfold f1
  simp [h, vSeq]
theorem f1_vSeq_tup (i : Nat) (Γ : Gm) (M : Mm) (xs : List D) (h : Γ[i]? = some (.d (.tup xs))) : f1 vSeq (pVar i) Γ M = .ok (xs, M) := by
  unfold f1
  simp [h, vSeq]
  rfl
/-- the display of ints -/
theorem Li1 (a : Int) : D.lst [.int a] = Li [a] := rfl
theorem Li2 (a b : Int) : D.lst [.int a, .int b] = Li [a, b] := rfl
theorem Li3 (a b c : Int) : D.lst [.int a, .int b, .int c] = Li [a, b, c] := rfl
theorem numbers_lst (l : List Int) (M : Mm) (h : l.length + 1 ≤ big) : F_numbers_code [Li l] M = .ok (Li (cNum l), M) := by
  refine runF_rt ?_
  unfold sv_numbers_code
  have e : oLen M (.d (Li l)) = some (.int l.length) := by
    unfold Li
    simp
  simp [f1_vSeq_lst 0 [.d (Li l)] M (ii l) rfl, e, big1, Li1, Li_lst, oAdd_Li (M := M) (a := [(l.length : Int)]) (b := l) (by simp; omega), cNum]
theorem numbers_tup (l : List Int) (M : Mm) (h : l.length + 1 ≤ big) : F_numbers_code [.tup (ii l)] M = .ok (Li (cNum l), M) := by
  refine runF_rt ?_
  unfold sv_numbers_code
  have e : oLen M (.d (.tup (ii l))) = some (.int l.length) := by
    show some (D.int ((ii l).length : Nat)) = _
    simp
  simp [f1_vSeq_tup 0 [.d (.tup (ii l))] M (ii l) rfl, e, big1, Li1, Li_lst, oAdd_Li (M := M) (a := [(l.length : Int)]) (b := l) (by simp; omega), cNum]
theorem counted_lst (l : List Int) (M : Mm) (h : l.length + 1 ≤ big) : F__law_counted [Li l] M = .ok (Li (cNum l), M) := numbers_lst l M h
theorem counted_tup (l : List Int) (M : Mm) (h : l.length + 1 ≤ big) : F__law_counted [.tup (ii l)] M = .ok (Li (cNum l), M) := numbers_tup l M h
theorem ords (G : Gm) (hG : 1 < G.length) (M : Mm) (s : List Nat) : lcL (gvN 1) tYesV (up (p1 oOrd (pVar 1))) G (s.map fun c => .str [c]) M = .ok (ii (oi s), M) := by
  have h := lc_map (g := gvN 1) (e := up (p1 oOrd (pVar 1))) (Γ := G) (M := M) (f := fun z => match z with | .str [c] => .int (c : Int) | _ => .non) (xs := s.map fun c => .str [c]) fun z hz => by
    obtain ⟨c, _, rfl⟩ := List.mem_map.mp hz
    refine ⟨G.set 1 (.d (.str [c])), ?_, ?_⟩
    · unfold gvN
      rw [if_pos hG]
    · have e : (G.set 1 (.d (.str [c])))[1]? = some (.d (.str [c])) := List.getElem?_set_self hG
      simp [e, oOrd]
  rw [h, List.map_map]
  unfold ii oi
  rw [List.map_map]
  rfl
theorem ords_lc (s : List Nat) (M : Mm) (h : s.length ≤ big) : fLc (itU (up (pVar 0))) [1] (gvN 1) tYesV (up (p1 oOrd (pVar 1))) [.d (.str s), .un] M = .ok (ii (oi s), M) := by
  rw [fLc_str (G := [.d (.str s), .un]) (s := s) (M1 := M) rfl rfl h]
  exact ords _ (by simp) M s
theorem oLen_str {M : Mm} {s : List Nat} (h : s.length ≤ big) : oLen M (.d (.str s)) = some (.int s.length) := by
  show ((some s).bind fun z => if z.length ≤ big then some (D.int z.length) else none) = _
  simp [h]
theorem law_text_ok (s : List Nat) (M : Mm) (h : s.length + 1 ≤ big) : F__law_text [.str s] M = .ok (Li (cStr s), M) := by
  refine runF_rt ?_
  unfold sv__law_text
  simp [oLen_str (M := M) (s := s) (by omega), ords_lc s M (by omega), big1, Li1, Li_lst, oAdd_Li (M := M) (a := [(s.length : Int)]) (b := oi s) (by simp; omega), cStr, cNum]
theorem string_ok (s : List Nat) (M : Mm) (h : s.length + 1 ≤ big) : F_string_code [.str s] M = .ok (Li (cStr s), M) := by
  refine runF_rt ?_
  unfold sv_string_code
  simp [ords_lc s M (by omega), Li_lst, numbers_lst (oi s) M (by simpa using h), cStr]
/-! ### values -/
inductive Wv : D → Prop where
  | int (i : Int) : Wv (.int i)
  | str (s : List Nat) (h : s.length ≤ 4) : Wv (.str s)
  | bl (b : Bool) : Wv (.bl b)
def cVal : D → List Int
  | .bl b => [2, if b then 1 else 0]
  | .str s => 1 :: cStr s
  | .int i => [0, i]
  | _ => []
theorem cStr_len (s : List Nat) : (cStr s).length = s.length + 1 := by simp [cStr, cNum]
theorem b4 {n : Nat} (h : n ≤ 4) : n + 100 ≤ big := by unfold big; omega
theorem isi_bl (b : Bool) (M : Mm) : oIsi q_bool M (.d (.bl b)) = some (.bl true) := rfl
theorem isi_bl_int (i : Int) (M : Mm) : oIsi q_bool M (.d (.int i)) = some (.bl false) := rfl
theorem isi_bl_str (s : List Nat) (M : Mm) : oIsi q_bool M (.d (.str s)) = some (.bl false) := rfl
theorem isi_s_int (i : Int) (M : Mm) : oIsi q_str M (.d (.int i)) = some (.bl false) := rfl
theorem isi_s_str (s : List Nat) (M : Mm) : oIsi q_str M (.d (.str s)) = some (.bl true) := rfl
theorem ifE_eq (t : TV) (a b : EV) (Γ : Gm) (M : Mm) : ifE t a b Γ M = (t Γ M).bind fun r => if r.1 = true then a Γ r.2 else b Γ r.2 := rfl
theorem value_ok {w : D} (hw : Wv w) (M : Mm) : F_value_code [w] M = .ok (Li (cVal w), M) := by
  refine runF_rt ?_
  unfold sv_value_code
  cases hw with
  | int i => simp [isi_bl_int, isi_s_int, big, Li2, cVal]
  | str s h =>
    have hb := b4 h
    simp [isi_bl_str, isi_s_str, big1, Li1, string_ok s M (by omega), oAdd_Li (M := M) (a := [1]) (b := cStr s) (by rw [cStr_len]; simp; omega), cVal]
  | bl b => cases b <;> simp [isi_bl, big, ifE_eq, Li2, cVal]
theorem oInt1_bl (M : Mm) (b : Bool) : oInt1 M (.d (.bl b)) = some (.int (if b then 1 else 0)) := rfl
theorem law_value_ok {w : D} (hw : Wv w) (M : Mm) : F__law_value [w] M = .ok (Li (cVal w), M) := by
  refine runF_rt ?_
  unfold sv__law_value
  cases hw with
  | int i => simp [isi_bl_int, isi_s_int, big, Li2, cVal]
  | str s h =>
    have hb := b4 h
    simp [isi_bl_str, isi_s_str, big1, Li1, law_text_ok s M (by omega), oAdd_Li (M := M) (a := [1]) (b := cStr s) (by rw [cStr_len]; simp; omega), cVal]
  | bl b => simp [isi_bl, oInt1_bl, big, Li2, cVal]
theorem cVal_len {w : D} (hw : Wv w) : (cVal w).length ≤ 6 := by
  cases hw with
  | int i => simp [cVal]
  | str s h => simp [cVal, cStr_len]; omega
  | bl b => simp [cVal]
/-! ### lists of codes -/
def CL (cs : List (List Int)) : List D := cs.map Li
@[simp] theorem CL_len (cs : List (List Int)) : (CL cs).length = cs.length := by simp [CL]
abbrev Cs (cs : List (List Int)) : D := .lst (CL cs)
theorem sMut_ext {i : Nat} {ea : AV} {Γ : Gm} {M : Mm} {a b : List Int} (h1 : Γ[i]? = some (.o (.lst (ii a)))) (h2 : ea Γ M = .ok ([Li b], M)) (h3 : a.length + b.length ≤ big) : sMut oExt i ea Γ M = .ok (.nx (Γ.set i (.o (.lst (ii (a ++ b)))))) M := by
  unfold sMut
  rw [h1]
  show ((ea Γ M).st Γ fun s => match oExt s.2 s.1 (ii a) with | some t => SR.ok (.nx (Γ.set i (.o (.lst t.2)))) s.2 | none => .bad) = _
  rw [h2]
  show (match (if (ii a).length + (ii b).length ≤ big then some (D.non, ii a ++ ii b) else none) with | some t => SR.ok (.nx (Γ.set i (.o (.lst t.2)))) M | none => .bad) = _
  rw [if_pos (by simpa using h3), ii_app]
theorem list_loop (d : D) (M : Mm) : ∀ (cs : List (List Int)) (a : List Int) (v : Sl), a.length + cs.flatten.length ≤ big → ∃ v', loopL (gvN 2) (sMut oExt 1 (aCons (up (pVar 2)) aNil)) (cs.map Li) [.d d, .o (.lst (ii a)), v] M = .ok (.nx [.d d, .o (.lst (ii (a ++ cs.flatten))), v']) M
  | [], a, v, _ => ⟨v, by simp [loopL]⟩
  | c :: cs, a, v, h => by
    rw [List.flatten_cons, List.length_append] at h
    obtain ⟨v', e⟩ := list_loop d M cs (a ++ c) (.d (Li c)) (by rw [List.length_append]; omega)
    refine ⟨v', ?_⟩
    rw [List.map_cons, loopL]
    show ((sMut oExt 1 (aCons (up (pVar 2)) aNil) [.d d, .o (.lst (ii a)), .d (Li c)] M).loop _) = _
    rw [sMut_ext (a := a) (b := c) rfl rfl (by omega)]
    show loopL (gvN 2) (sMut oExt 1 (aCons (up (pVar 2)) aNil)) (cs.map Li) [.d d, .o (.lst (ii (a ++ c))), .d (Li c)] M = _
    rw [e, List.flatten_cons, List.append_assoc]
theorem sFrz_o {i : Nat} {s : SV} {Γ : Gm} {M : Mm} {ds : List D} (h : Γ[i]? = some (.o (.lst ds))) : sFrz i s Γ M = s (Γ.set i (.d (.lst ds))) M := by
  unfold sFrz
  rw [h]
theorem sFor_lst {ev : EV} {g : GV} {b : SV} {Γ : Gm} {M M1 : Mm} {xs : List D} (h : ev Γ M = .ok (.lst xs, M1)) : sFor ev g b Γ M = loopL g b xs Γ M1 := by
  unfold sFor
  rw [h]
  rfl
theorem sFor_tup {ev : EV} {g : GV} {b : SV} {Γ : Gm} {M M1 : Mm} {xs : List D} (h : ev Γ M = .ok (.tup xs, M1)) : sFor ev g b Γ M = loopL g b xs Γ M1 := by
  unfold sFor
  rw [h]
  rfl
theorem sAsgF_eq (i : Nat) (ea : AV) (Γ : Gm) (M : Mm) : sAsgF i ea Γ M = (ea Γ M).st Γ fun r => if i < Γ.length then .ok (.nx (Γ.set i (.o (.lst r.1)))) r.2 else .bad := rfl
theorem list_ok (cs : List (List Int)) (M : Mm) (h : cs.flatten.length + 1 ≤ big) : F_list_code [Cs cs] M = .ok (Li (cLis cs), M) := by
  refine runF_rt ?_
  unfold sv_list_code
  obtain ⟨v', e⟩ := list_loop (Cs cs) M cs [(cs.length : Int)] .un (by rw [List.length_singleton]; omega)
  have e1 : sAsgF 1 (fLst (aCons (up (p1 oLen (pVar 0))) aNil)) [.d (Cs cs), .un, .un] M = .ok (.nx [.d (Cs cs), .o (.lst (ii [(cs.length : Int)])), .un]) M := by
    simp [sAsgF_eq, big1, ii]
  show ((sAsgF 1 (fLst (aCons (up (p1 oLen (pVar 0))) aNil)) [.d (Cs cs), .un, .un] M).bind _) = _
  rw [e1, s_nx, sSeq_eq, sFor_lst (xs := CL cs) (M1 := M) rfl, (show loopL _ _ (CL cs) _ M = _ from e), s_nx, sFrz_o (ds := ii ([(cs.length : Int)] ++ cs.flatten)) rfl]
  rfl
end Q

set_option maxHeartbeats 1000000
namespace Q
open PySem PySem.Spec PyProof.Rows L2 Z
theorem lc_codes {g : GV} {e : EV} {G : Gm} {M : Mm} {cf : D → List Int} {xs : List D} (h : ∀ z ∈ xs, ∃ Γ', g z G = some Γ' ∧ e Γ' M = .ok (Li (cf z), M)) : lcL g tYesV e G xs M = .ok (CL (xs.map cf), M) := by
  rw [lc_map (f := fun z => Li (cf z)) h]
  unfold CL
  rw [List.map_map]
  rfl
theorem ll_loop (d : D) (M : Mm) : ∀ (cs : List (List Int)) (a : List Int) (v : Sl), a.length + cs.flatten.length ≤ big → ∃ v', loopL (gvN 2) (sAsg 1 (up (p2 oAdd (pVar 1) (pVar 2)))) (cs.map Li) [.d d, .d (Li a), v] M = .ok (.nx [.d d, .d (Li (a ++ cs.flatten)), v']) M
  | [], a, v, _ => ⟨v, by simp [loopL]⟩
  | c :: cs, a, v, h => by
    rw [List.flatten_cons, List.length_append] at h
    obtain ⟨v', e⟩ := ll_loop d M cs (a ++ c) (.d (Li c)) (by rw [List.length_append]; omega)
    refine ⟨v', ?_⟩
    rw [List.map_cons, loopL]
    have e1 : sAsg 1 (up (p2 oAdd (pVar 1) (pVar 2))) [.d d, .d (Li a), .d (Li c)] M = .ok (.nx [.d d, .d (Li (a ++ c)), .d (Li c)]) M := by
      simp [oAdd_Li (M := M) (a := a) (b := c) (by omega)]
    show ((sAsg 1 (up (p2 oAdd (pVar 1) (pVar 2))) [.d d, .d (Li a), .d (Li c)] M).loop _) = _
    rw [e1]
    show loopL (gvN 2) (sAsg 1 (up (p2 oAdd (pVar 1) (pVar 2)))) (cs.map Li) [.d d, .d (Li (a ++ c)), .d (Li c)] M = _
    rw [e, List.flatten_cons, List.append_assoc]
theorem law_list_ok (cs : List (List Int)) (M : Mm) (h : cs.flatten.length + 1 ≤ big) : F__law_list [Cs cs] M = .ok (Li (cLis cs), M) := by
  refine runF_rt ?_
  unfold sv__law_list
  obtain ⟨v', e⟩ := ll_loop (Cs cs) M cs [(cs.length : Int)] .un (by rw [List.length_singleton]; omega)
  have e1 : sAsg 1 (asD (fLst (aCons (up (p1 oLen (pVar 0))) aNil))) [.d (Cs cs), .un, .un] M = .ok (.nx [.d (Cs cs), .d (Li [(cs.length : Int)]), .un]) M := by
    simp [big1, Li1]
  show ((sAsg 1 (asD (fLst (aCons (up (p1 oLen (pVar 0))) aNil))) [.d (Cs cs), .un, .un] M).bind _) = _
  rw [e1, s_nx, sSeq_eq, sFor_lst (xs := CL cs) (M1 := M) rfl, (show loopL _ _ (CL cs) _ M = _ from e), s_nx]
  rfl
/-! ### sizes -/
theorem flat_len {cs : List (List Int)} {k : Nat} (h : ∀ c ∈ cs, c.length ≤ k) : cs.flatten.length ≤ cs.length * k := by
  induction cs with
  | nil => simp
  | cons c cs ih =>
    rw [List.flatten_cons, List.length_append, List.length_cons, Nat.succ_mul]
    have h1 := h c (List.mem_cons_self ..)
    have h2 := ih fun d hd => h d (List.mem_cons_of_mem _ hd)
    omega
theorem cLis_len {cs : List (List Int)} {k n : Nat} (h : ∀ c ∈ cs, c.length ≤ k) (hn : cs.length ≤ n) : (cLis cs).length ≤ n * k + 1 := by
  have h1 := flat_len h
  have h2 := Nat.mul_le_mul_right k hn
  simp only [cLis, List.length_cons]
  omega
theorem mapc_len {xs : List D} {cf : D → List Int} {k : Nat} (h : ∀ z ∈ xs, (cf z).length ≤ k) : ∀ c ∈ xs.map cf, c.length ≤ k := fun c hc => by
  obtain ⟨z, hz, rfl⟩ := List.mem_map.mp hc
  exact h z hz
/-! ### pairs of a text and an int -/
inductive Wpr : D → Prop where
  | mk (s : List Nat) (i : Int) (h : s.length ≤ 4) : Wpr (.tup [.str s, .int i])
def cPr : D → List Int
  | .tup [.str s, .int i] => cStr s ++ [i]
  | _ => []
theorem cPr_len {z : D} (h : Wpr z) : (cPr z).length ≤ 6 := by
  cases h with
  | mk s i h => simp [cPr, cStr_len]; omega
def cPrs (xs : List D) : List Int := cLis (xs.map cPr)
theorem cPrs_len {xs : List D} (h : ∀ z ∈ xs, Wpr z) (hl : xs.length ≤ 4) : (cPrs xs).length ≤ 25 := cLis_len (mapc_len fun z hz => cPr_len (h z hz)) (by simpa using hl)
theorem prs_big {xs : List D} (h : ∀ z ∈ xs, Wpr z) (hl : xs.length ≤ 4) : (xs.map cPr).flatten.length + 1 ≤ big := by
  have h1 := flat_len (mapc_len (cf := cPr) fun z hz => cPr_len (h z hz))
  have h2 : (xs.map cPr).length * 6 ≤ 4 * 6 := Nat.mul_le_mul_right 6 (by simpa using hl)
  have h3 : 25 ≤ big := by decide
  omega
theorem pairs_ok {xs : List D} (h : ∀ z ∈ xs, Wpr z) (hl : xs.length ≤ 4) (M : Mm) : F_pairs_code [.tup xs] M = .ok (Li (cPrs xs), M) := by
  refine runF_rt ?_
  unfold sv_pairs_code
  have hb : xs.length ≤ big := by have := b4 hl; omega
  have e : fLc (itU (up (pVar 0))) [1, 2] (gvT 2 (gvCons (gvN 1) (gvCons (gvN 2) (gvNil)))) (tYesV) (e2 oAdd (callE F_string_code gId (aCons (up (pVar 1)) (aNil))) (asD (fLst (aCons (up (pVar 2)) (aNil))))) [.d (.tup xs), .un, .un] M = .ok (CL (xs.map cPr), M) := by
    rw [fLc_tup (G := [.d (.tup xs), .un, .un]) (xs := xs) (M1 := M) rfl rfl hb]
    refine lc_codes fun z hz => ?_
    cases h z hz with
    | mk s i hs =>
      have := b4 hs
      refine ⟨[.d (.tup xs), .d (.str s), .d (.int i)], rfl, ?_⟩
      simp [string_ok s M (by omega), big1, Li1, oAdd_Li (M := M) (a := cStr s) (b := [i]) (by rw [cStr_len]; simp; omega), cPr]
  simp [e, list_ok _ M (prs_big h hl), cPrs]
theorem law_pairs_lc {xs : List D} (h : ∀ z ∈ xs, Wpr z) (hl : xs.length ≤ 4) (M : Mm) {ev : EV} {Γ G : Gm} (h1 : ev Γ M = .ok (.tup xs, M)) (h2 : wipG [4, 5] Γ = some G) (h3 : 5 < G.length) : fLc ev [4, 5] (gvT 2 (gvCons (gvN 4) (gvCons (gvN 5) (gvNil)))) (tYesV) (e2 oAdd (callE F__law_text gId (aCons (up (pVar 4)) (aNil))) (asD (fLst (aCons (up (pVar 5)) (aNil))))) Γ M = .ok (CL (xs.map cPr), M) := by
  have hb : xs.length ≤ big := by have := b4 hl; omega
  rw [fLc_tup h1 h2 hb]
  refine lc_codes fun z hz => ?_
  cases h z hz with
  | mk s i hs =>
    have := b4 hs
    refine ⟨(G.set 4 (.d (.str s))).set 5 (.d (.int i)), ?_, ?_⟩
    · simp [gvT, gvCons, gvNil, gvN, show 4 < G.length by omega, h3]
    · have e4 : ((G.set 4 (.d (.str s))).set 5 (.d (.int i)))[4]? = some (.d (.str s)) := by
        rw [List.getElem?_set_ne (by decide), List.getElem?_set_self (by omega)]
      have e5 : ((G.set 4 (.d (.str s))).set 5 (.d (.int i)))[5]? = some (.d (.int i)) := List.getElem?_set_self (by simpa using h3)
      simp [e4, e5, law_text_ok s M (by omega), big1, Li1, oAdd_Li (M := M) (a := cStr s) (b := [i]) (by rw [cStr_len]; simp; omega), cPr]
/-! ### facts -/
def lk0 : List Nat := [110, 111, 98, 111, 100, 121]
def lk1 : List Nat := [115, 111, 109, 101]
def lk2 : List Nat := [97, 108, 108]
inductive Wl : List Nat → Int → Prop where
  | a : Wl [110, 111, 98, 111, 100, 121] 0
  | b : Wl [115, 111, 109, 101] 1
  | c : Wl [97, 108, 108] 2
inductive Wpt : D → Prop where
  | mk (a r : Int) (l : List Int) (h : l.length ≤ 4) : Wpt (.ins 7 [(1, .int a), (2, .tup (ii l)), (3, .int r)])
def unI (l : List D) : List Int := l.map fun d => match d with
  | .int i => i
  | _ => 0
theorem unI_ii (l : List Int) : unI (ii l) = l := by
  unfold unI ii
  rw [List.map_map]
  exact List.map_id l
def cPt : D → List Int
  | .ins _ [(_, .int a), (_, .tup l), (_, .int r)] => a :: (cNum (unI l) ++ [r])
  | _ => []
theorem cPt_len {p : D} (h : Wpt p) : (cPt p).length ≤ 7 := by
  cases h with
  | mk a r l h => simp [cPt, cNum, unI_ii]; omega
inductive Wf : D → List Int → Prop where
  | parts (ps : List D) (h : ∀ p ∈ ps, Wpt p) (hl : ps.length ≤ 4) : Wf (.ins 8 [(0, .tup ps)]) (1 :: cLis (ps.map cPt))
  | cell (a b : List Int) (h : a.length ≤ 4) (h2 : b.length ≤ 4) : Wf (.ins 9 [(4, .tup (ii a)), (5, .tup (ii b))]) (2 :: (cNum a ++ cNum b))
  | box (a b : List Int) (h : a.length ≤ 4) (h2 : b.length ≤ 4) : Wf (.ins 10 [(6, .tup (ii a)), (7, .tup (ii b))]) (3 :: (cNum a ++ cNum b))
  | norms (a b : Int) : Wf (.ins 11 [(6, .int a), (7, .int b)]) [4, a, b]
  | differ (a : List Int) (m : Int) (h : a.length ≤ 4) : Wf (.ins 12 [(2, .tup (ii a)), (8, .int m)]) (5 :: (cNum a ++ [m]))
  | range (s l : List Nat) (a b k : Int) (h : s.length ≤ 4) (hk : Wl l k) : Wf (.ins 3 [(9, .str s), (10, .str l), (6, .int a), (7, .int b)]) (6 :: (cStr s ++ [a, b, k]))
  | values (s l : List Nat) (ws : List D) (k : Int) (h : s.length ≤ 4) (hk : Wl l k) (hw : ∀ w ∈ ws, Wv w) (hl : ws.length ≤ 4) : Wf (.ins 4 [(9, .str s), (10, .str l), (11, .tup ws)]) (7 :: (cStr s ++ (cLis (ws.map cVal) ++ [k])))
  | counts (xs : List D) (h : ∀ z ∈ xs, Wpr z) (hl : xs.length ≤ 4) : Wf (.ins 5 [(12, .tup xs)]) (8 :: cPrs xs)
  | names (s t : List Nat) (h : s.length ≤ 4) (h2 : t.length ≤ 4) : Wf (.ins 6 [(6, .str s), (7, .str t)]) (9 :: (cStr s ++ cStr t))
theorem isi_Parts_8 (fs : List (Nat × D)) (M : Mm) : oIsi q_Parts M (.d (.ins 8 fs)) = some (.bl true) := rfl
theorem isi_Parts_9 (fs : List (Nat × D)) (M : Mm) : oIsi q_Parts M (.d (.ins 9 fs)) = some (.bl false) := rfl
theorem isi_Parts_10 (fs : List (Nat × D)) (M : Mm) : oIsi q_Parts M (.d (.ins 10 fs)) = some (.bl false) := rfl
theorem isi_Parts_11 (fs : List (Nat × D)) (M : Mm) : oIsi q_Parts M (.d (.ins 11 fs)) = some (.bl false) := rfl
theorem isi_Parts_12 (fs : List (Nat × D)) (M : Mm) : oIsi q_Parts M (.d (.ins 12 fs)) = some (.bl false) := rfl
theorem isi_Parts_3 (fs : List (Nat × D)) (M : Mm) : oIsi q_Parts M (.d (.ins 3 fs)) = some (.bl false) := rfl
theorem isi_Parts_4 (fs : List (Nat × D)) (M : Mm) : oIsi q_Parts M (.d (.ins 4 fs)) = some (.bl false) := rfl
theorem isi_Parts_5 (fs : List (Nat × D)) (M : Mm) : oIsi q_Parts M (.d (.ins 5 fs)) = some (.bl false) := rfl
theorem isi_Parts_6 (fs : List (Nat × D)) (M : Mm) : oIsi q_Parts M (.d (.ins 6 fs)) = some (.bl false) := rfl
theorem isi_Cell_8 (fs : List (Nat × D)) (M : Mm) : oIsi q_Cell M (.d (.ins 8 fs)) = some (.bl false) := rfl
theorem isi_Cell_9 (fs : List (Nat × D)) (M : Mm) : oIsi q_Cell M (.d (.ins 9 fs)) = some (.bl true) := rfl
theorem isi_Cell_10 (fs : List (Nat × D)) (M : Mm) : oIsi q_Cell M (.d (.ins 10 fs)) = some (.bl false) := rfl
theorem isi_Cell_11 (fs : List (Nat × D)) (M : Mm) : oIsi q_Cell M (.d (.ins 11 fs)) = some (.bl false) := rfl
theorem isi_Cell_12 (fs : List (Nat × D)) (M : Mm) : oIsi q_Cell M (.d (.ins 12 fs)) = some (.bl false) := rfl
theorem isi_Cell_3 (fs : List (Nat × D)) (M : Mm) : oIsi q_Cell M (.d (.ins 3 fs)) = some (.bl false) := rfl
theorem isi_Cell_4 (fs : List (Nat × D)) (M : Mm) : oIsi q_Cell M (.d (.ins 4 fs)) = some (.bl false) := rfl
theorem isi_Cell_5 (fs : List (Nat × D)) (M : Mm) : oIsi q_Cell M (.d (.ins 5 fs)) = some (.bl false) := rfl
theorem isi_Cell_6 (fs : List (Nat × D)) (M : Mm) : oIsi q_Cell M (.d (.ins 6 fs)) = some (.bl false) := rfl
theorem isi_Box_8 (fs : List (Nat × D)) (M : Mm) : oIsi q_Box M (.d (.ins 8 fs)) = some (.bl false) := rfl
theorem isi_Box_9 (fs : List (Nat × D)) (M : Mm) : oIsi q_Box M (.d (.ins 9 fs)) = some (.bl false) := rfl
theorem isi_Box_10 (fs : List (Nat × D)) (M : Mm) : oIsi q_Box M (.d (.ins 10 fs)) = some (.bl true) := rfl
theorem isi_Box_11 (fs : List (Nat × D)) (M : Mm) : oIsi q_Box M (.d (.ins 11 fs)) = some (.bl false) := rfl
theorem isi_Box_12 (fs : List (Nat × D)) (M : Mm) : oIsi q_Box M (.d (.ins 12 fs)) = some (.bl false) := rfl
theorem isi_Box_3 (fs : List (Nat × D)) (M : Mm) : oIsi q_Box M (.d (.ins 3 fs)) = some (.bl false) := rfl
theorem isi_Box_4 (fs : List (Nat × D)) (M : Mm) : oIsi q_Box M (.d (.ins 4 fs)) = some (.bl false) := rfl
theorem isi_Box_5 (fs : List (Nat × D)) (M : Mm) : oIsi q_Box M (.d (.ins 5 fs)) = some (.bl false) := rfl
theorem isi_Box_6 (fs : List (Nat × D)) (M : Mm) : oIsi q_Box M (.d (.ins 6 fs)) = some (.bl false) := rfl
theorem isi_Norms_8 (fs : List (Nat × D)) (M : Mm) : oIsi q_Norms M (.d (.ins 8 fs)) = some (.bl false) := rfl
theorem isi_Norms_9 (fs : List (Nat × D)) (M : Mm) : oIsi q_Norms M (.d (.ins 9 fs)) = some (.bl false) := rfl
theorem isi_Norms_10 (fs : List (Nat × D)) (M : Mm) : oIsi q_Norms M (.d (.ins 10 fs)) = some (.bl false) := rfl
theorem isi_Norms_11 (fs : List (Nat × D)) (M : Mm) : oIsi q_Norms M (.d (.ins 11 fs)) = some (.bl true) := rfl
theorem isi_Norms_12 (fs : List (Nat × D)) (M : Mm) : oIsi q_Norms M (.d (.ins 12 fs)) = some (.bl false) := rfl
theorem isi_Norms_3 (fs : List (Nat × D)) (M : Mm) : oIsi q_Norms M (.d (.ins 3 fs)) = some (.bl false) := rfl
theorem isi_Norms_4 (fs : List (Nat × D)) (M : Mm) : oIsi q_Norms M (.d (.ins 4 fs)) = some (.bl false) := rfl
theorem isi_Norms_5 (fs : List (Nat × D)) (M : Mm) : oIsi q_Norms M (.d (.ins 5 fs)) = some (.bl false) := rfl
theorem isi_Norms_6 (fs : List (Nat × D)) (M : Mm) : oIsi q_Norms M (.d (.ins 6 fs)) = some (.bl false) := rfl
theorem isi_Differ_8 (fs : List (Nat × D)) (M : Mm) : oIsi q_Differ M (.d (.ins 8 fs)) = some (.bl false) := rfl
theorem isi_Differ_9 (fs : List (Nat × D)) (M : Mm) : oIsi q_Differ M (.d (.ins 9 fs)) = some (.bl false) := rfl
theorem isi_Differ_10 (fs : List (Nat × D)) (M : Mm) : oIsi q_Differ M (.d (.ins 10 fs)) = some (.bl false) := rfl
theorem isi_Differ_11 (fs : List (Nat × D)) (M : Mm) : oIsi q_Differ M (.d (.ins 11 fs)) = some (.bl false) := rfl
theorem isi_Differ_12 (fs : List (Nat × D)) (M : Mm) : oIsi q_Differ M (.d (.ins 12 fs)) = some (.bl true) := rfl
theorem isi_Differ_3 (fs : List (Nat × D)) (M : Mm) : oIsi q_Differ M (.d (.ins 3 fs)) = some (.bl false) := rfl
theorem isi_Differ_4 (fs : List (Nat × D)) (M : Mm) : oIsi q_Differ M (.d (.ins 4 fs)) = some (.bl false) := rfl
theorem isi_Differ_5 (fs : List (Nat × D)) (M : Mm) : oIsi q_Differ M (.d (.ins 5 fs)) = some (.bl false) := rfl
theorem isi_Differ_6 (fs : List (Nat × D)) (M : Mm) : oIsi q_Differ M (.d (.ins 6 fs)) = some (.bl false) := rfl
theorem isi_Range_8 (fs : List (Nat × D)) (M : Mm) : oIsi q_Range M (.d (.ins 8 fs)) = some (.bl false) := rfl
theorem isi_Range_9 (fs : List (Nat × D)) (M : Mm) : oIsi q_Range M (.d (.ins 9 fs)) = some (.bl false) := rfl
theorem isi_Range_10 (fs : List (Nat × D)) (M : Mm) : oIsi q_Range M (.d (.ins 10 fs)) = some (.bl false) := rfl
theorem isi_Range_11 (fs : List (Nat × D)) (M : Mm) : oIsi q_Range M (.d (.ins 11 fs)) = some (.bl false) := rfl
theorem isi_Range_12 (fs : List (Nat × D)) (M : Mm) : oIsi q_Range M (.d (.ins 12 fs)) = some (.bl false) := rfl
theorem isi_Range_3 (fs : List (Nat × D)) (M : Mm) : oIsi q_Range M (.d (.ins 3 fs)) = some (.bl true) := rfl
theorem isi_Range_4 (fs : List (Nat × D)) (M : Mm) : oIsi q_Range M (.d (.ins 4 fs)) = some (.bl false) := rfl
theorem isi_Range_5 (fs : List (Nat × D)) (M : Mm) : oIsi q_Range M (.d (.ins 5 fs)) = some (.bl false) := rfl
theorem isi_Range_6 (fs : List (Nat × D)) (M : Mm) : oIsi q_Range M (.d (.ins 6 fs)) = some (.bl false) := rfl
theorem isi_Values_8 (fs : List (Nat × D)) (M : Mm) : oIsi q_Values M (.d (.ins 8 fs)) = some (.bl false) := rfl
theorem isi_Values_9 (fs : List (Nat × D)) (M : Mm) : oIsi q_Values M (.d (.ins 9 fs)) = some (.bl false) := rfl
theorem isi_Values_10 (fs : List (Nat × D)) (M : Mm) : oIsi q_Values M (.d (.ins 10 fs)) = some (.bl false) := rfl
theorem isi_Values_11 (fs : List (Nat × D)) (M : Mm) : oIsi q_Values M (.d (.ins 11 fs)) = some (.bl false) := rfl
theorem isi_Values_12 (fs : List (Nat × D)) (M : Mm) : oIsi q_Values M (.d (.ins 12 fs)) = some (.bl false) := rfl
theorem isi_Values_3 (fs : List (Nat × D)) (M : Mm) : oIsi q_Values M (.d (.ins 3 fs)) = some (.bl false) := rfl
theorem isi_Values_4 (fs : List (Nat × D)) (M : Mm) : oIsi q_Values M (.d (.ins 4 fs)) = some (.bl true) := rfl
theorem isi_Values_5 (fs : List (Nat × D)) (M : Mm) : oIsi q_Values M (.d (.ins 5 fs)) = some (.bl false) := rfl
theorem isi_Values_6 (fs : List (Nat × D)) (M : Mm) : oIsi q_Values M (.d (.ins 6 fs)) = some (.bl false) := rfl
theorem isi_Counts_8 (fs : List (Nat × D)) (M : Mm) : oIsi q_Counts M (.d (.ins 8 fs)) = some (.bl false) := rfl
theorem isi_Counts_9 (fs : List (Nat × D)) (M : Mm) : oIsi q_Counts M (.d (.ins 9 fs)) = some (.bl false) := rfl
theorem isi_Counts_10 (fs : List (Nat × D)) (M : Mm) : oIsi q_Counts M (.d (.ins 10 fs)) = some (.bl false) := rfl
theorem isi_Counts_11 (fs : List (Nat × D)) (M : Mm) : oIsi q_Counts M (.d (.ins 11 fs)) = some (.bl false) := rfl
theorem isi_Counts_12 (fs : List (Nat × D)) (M : Mm) : oIsi q_Counts M (.d (.ins 12 fs)) = some (.bl false) := rfl
theorem isi_Counts_3 (fs : List (Nat × D)) (M : Mm) : oIsi q_Counts M (.d (.ins 3 fs)) = some (.bl false) := rfl
theorem isi_Counts_4 (fs : List (Nat × D)) (M : Mm) : oIsi q_Counts M (.d (.ins 4 fs)) = some (.bl false) := rfl
theorem isi_Counts_5 (fs : List (Nat × D)) (M : Mm) : oIsi q_Counts M (.d (.ins 5 fs)) = some (.bl true) := rfl
theorem isi_Counts_6 (fs : List (Nat × D)) (M : Mm) : oIsi q_Counts M (.d (.ins 6 fs)) = some (.bl false) := rfl
theorem isi_Names_8 (fs : List (Nat × D)) (M : Mm) : oIsi q_Names M (.d (.ins 8 fs)) = some (.bl false) := rfl
theorem isi_Names_9 (fs : List (Nat × D)) (M : Mm) : oIsi q_Names M (.d (.ins 9 fs)) = some (.bl false) := rfl
theorem isi_Names_10 (fs : List (Nat × D)) (M : Mm) : oIsi q_Names M (.d (.ins 10 fs)) = some (.bl false) := rfl
theorem isi_Names_11 (fs : List (Nat × D)) (M : Mm) : oIsi q_Names M (.d (.ins 11 fs)) = some (.bl false) := rfl
theorem isi_Names_12 (fs : List (Nat × D)) (M : Mm) : oIsi q_Names M (.d (.ins 12 fs)) = some (.bl false) := rfl
theorem isi_Names_3 (fs : List (Nat × D)) (M : Mm) : oIsi q_Names M (.d (.ins 3 fs)) = some (.bl false) := rfl
theorem isi_Names_4 (fs : List (Nat × D)) (M : Mm) : oIsi q_Names M (.d (.ins 4 fs)) = some (.bl false) := rfl
theorem isi_Names_5 (fs : List (Nat × D)) (M : Mm) : oIsi q_Names M (.d (.ins 5 fs)) = some (.bl false) := rfl
theorem isi_Names_6 (fs : List (Nat × D)) (M : Mm) : oIsi q_Names M (.d (.ins 6 fs)) = some (.bl true) := rfl
theorem fld_eq (k : Nat) (M : Mm) (c : Nat) (fs : List (Nat × D)) : oFld k M (.d (.ins c fs)) = fs.lookup k := rfl
theorem tIdx_ok {l : List Nat} {k : Int} (h : Wl l k) {ea : EV} {Γ : Gm} {M : Mm} (he : ea Γ M = .ok (.str l, M)) : tIdx [[110, 111, 98, 111, 100, 121], [115, 111, 109, 101], [97, 108, 108]] ea Γ M = .ok (.int k, M) := by
  show ((ea Γ M).bind fun s => orBad (Z.vStr (.d s.1)) fun z => orBad ([[110, 111, 98, 111, 100, 121], [115, 111, 109, 101], [97, 108, 108]].findIdx? fun y => decide (y = z)) fun (j : Nat) => R.ok (D.int (j : Int), s.2)) = _
  rw [he]
  cases h <;> rfl
theorem oIdx_ok {l : List Nat} {k : Int} (h : Wl l k) (M : Mm) : oIdx M (.d (.lst [.str [110, 111, 98, 111, 100, 121], .str [115, 111, 109, 101], .str [97, 108, 108]])) (.d (.str l)) = some (.int k) := by
  cases h <;> kernel_rfl
theorem idxE_eq (eo ea : EV) (Γ : Gm) (M : Mm) : idxE eo ea Γ M = (eo Γ M).bind fun r => orBad (vLst r.2 (.d r.1)) fun _ => (ea Γ r.2).bind fun s => orBad (oIdx s.2 (.d r.1) (.d s.1)) fun d => .ok (d, s.2) := rfl
end Q

set_option maxHeartbeats 2000000
namespace Q
open PySem PySem.Spec PyProof.Rows L2 Z
theorem sAss_eq (t : TV) (Γ : Gm) (M : Mm) : sAss t Γ M = (t Γ M).st Γ fun r => if r.1 = true then .ok (.nx Γ) r.2 else .bad := rfl
theorem fact_ok {f : D} {c : List Int} (h : Wf f c) (M : Mm) : F_fact_code [f] M = .ok (Li c, M) := by
  have bb : 100 ≤ big := by decide
  refine runF_rt ?_
  unfold sv_fact_code
  cases h with
  | parts ps h hl =>
    have hb : ps.length ≤ big := by omega
    have sz : (ps.map cPt).flatten.length + 1 ≤ big := by
      have h1 := flat_len (mapc_len (cf := cPt) fun z hz => cPt_len (h z hz))
      have h2 : (ps.map cPt).length * 7 ≤ 4 * 7 := Nat.mul_le_mul_right 7 (by simpa using hl)
      omega
    have sz2 : (cLis (ps.map cPt)).length ≤ 4 * 7 + 1 := cLis_len (mapc_len fun z hz => cPt_len (h z hz)) (by simpa using hl)
    have e : fLc (itU (up (p1 (oFld 0) (pVar 0)))) [1] (gvN 1) (tYesV) (e2 oAdd (e2 oAdd (asD (fLst (aCons (up (p1 (oFld 1) (pVar 1))) (aNil)))) (callE F_numbers_code gId (aCons (up (p1 (oFld 2) (pVar 1))) (aNil)))) (asD (fLst (aCons (up (p1 (oFld 3) (pVar 1))) (aNil))))) [.d (.ins 8 [(0, .tup ps)]), .un, .un, .un] M = .ok (CL (ps.map cPt), M) := by
      rw [fLc_tup (G := [.d (.ins 8 [(0, .tup ps)]), .un, .un, .un]) (xs := ps) (M1 := M) rfl rfl hb]
      refine lc_codes fun z hz => ?_
      cases h z hz with
      | mk a r l hl =>
        refine ⟨_, rfl, ?_⟩
        simp [fld_eq, List.lookup, big1, Li1, Li_lst, numbers_tup l M (by omega), oAdd_Li (M := M) (a := [a]) (b := cNum l) (by simp [cNum]; omega), oAdd_Li (M := M) (a := a :: cNum l) (b := [r]) (by simp [cNum]; omega), cPt, unI_ii]
    simp [isi_Parts_8, isi_Cell_8, isi_Box_8, isi_Norms_8, isi_Differ_8, isi_Range_8, isi_Values_8, isi_Counts_8, isi_Names_8, fld_eq, List.lookup, big1, big, Li1, Li2, Li3, Li_lst, e, list_ok _ M sz, oAdd_Li (M := M) (a := [1]) (b := cLis (ps.map cPt)) (by simp; omega)]
  | cell a b h h2 => simp [isi_Parts_9, isi_Cell_9, isi_Box_9, isi_Norms_9, isi_Differ_9, isi_Range_9, isi_Values_9, isi_Counts_9, isi_Names_9, fld_eq, List.lookup, big1, big, Li1, Li2, Li3, Li_lst, numbers_tup a M (by omega), numbers_tup b M (by omega), oAdd_Li (M := M) (a := [2]) (b := cNum a) (by simp [cNum]; omega), oAdd_Li (M := M) (a := 2 :: cNum a) (b := cNum b) (by simp [cNum]; omega)]
  | box a b h h2 => simp [isi_Parts_10, isi_Cell_10, isi_Box_10, isi_Norms_10, isi_Differ_10, isi_Range_10, isi_Values_10, isi_Counts_10, isi_Names_10, fld_eq, List.lookup, big1, big, Li1, Li2, Li3, Li_lst, numbers_tup a M (by omega), numbers_tup b M (by omega), oAdd_Li (M := M) (a := [3]) (b := cNum a) (by simp [cNum]; omega), oAdd_Li (M := M) (a := 3 :: cNum a) (b := cNum b) (by simp [cNum]; omega)]
  | norms a b => simp [isi_Parts_11, isi_Cell_11, isi_Box_11, isi_Norms_11, isi_Differ_11, isi_Range_11, isi_Values_11, isi_Counts_11, isi_Names_11, fld_eq, List.lookup, big1, big, Li1, Li2, Li3, Li_lst, r_ok]
  | differ a m h => simp [isi_Parts_12, isi_Cell_12, isi_Box_12, isi_Norms_12, isi_Differ_12, isi_Range_12, isi_Values_12, isi_Counts_12, isi_Names_12, fld_eq, List.lookup, big1, big, Li1, Li2, Li3, Li_lst, numbers_tup a M (by omega), oAdd_Li (M := M) (a := [5]) (b := cNum a) (by simp [cNum]; omega), oAdd_Li (M := M) (a := 5 :: cNum a) (b := [m]) (by simp [cNum]; omega)]
  | range s l a b k h hk =>
    have tI : ∀ (v1 v2 v3 : Sl), tIdx [[110, 111, 98, 111, 100, 121], [115, 111, 109, 101], [97, 108, 108]] (up (p1 (oFld 10) (pVar 0))) [.d (.ins 3 [(9, .str s), (10, .str l), (6, .int a), (7, .int b)]), v1, v2, v3] M = .ok (.int k, M) := fun v1 v2 v3 => tIdx_ok hk rfl
    simp [isi_Parts_3, isi_Cell_3, isi_Box_3, isi_Norms_3, isi_Differ_3, isi_Range_3, isi_Values_3, isi_Counts_3, isi_Names_3, fld_eq, List.lookup, big1, big, Li1, Li2, Li3, Li_lst, string_ok s M (by omega), tI, oAdd_Li (M := M) (a := [6]) (b := cStr s) (by simp [cStr_len]; omega), oAdd_Li (M := M) (a := 6 :: cStr s) (b := [a, b, k]) (by simp [cStr_len]; omega)]
  | values s l ws k h hk hw hl =>
    have hb : ws.length ≤ big := by omega
    have sz : (ws.map cVal).flatten.length + 1 ≤ big := by
      have h1 := flat_len (mapc_len (cf := cVal) fun z hz => cVal_len (hw z hz))
      have h2 : (ws.map cVal).length * 6 ≤ 4 * 6 := Nat.mul_le_mul_right 6 (by simpa using hl)
      omega
    have sz2 : (cLis (ws.map cVal)).length ≤ 4 * 6 + 1 := cLis_len (mapc_len fun z hz => cVal_len (hw z hz)) (by simpa using hl)
    have e : fLc (itU (up (p1 (oFld 11) (pVar 0)))) [3] (gvN 3) (tYesV) (callE F_value_code gId (aCons (up (pVar 3)) (aNil))) [.d (.ins 4 [(9, .str s), (10, .str l), (11, .tup ws)]), .un, .un, .un] M = .ok (CL (ws.map cVal), M) := by
      rw [fLc_tup (G := [.d (.ins 4 [(9, .str s), (10, .str l), (11, .tup ws)]), .un, .un, .un]) (xs := ws) (M1 := M) rfl rfl hb]
      refine lc_codes fun z hz => ⟨_, rfl, ?_⟩
      simp [value_ok (hw z hz) M]
    have tI : ∀ (v1 v2 v3 : Sl), tIdx [[110, 111, 98, 111, 100, 121], [115, 111, 109, 101], [97, 108, 108]] (up (p1 (oFld 10) (pVar 0))) [.d (.ins 4 [(9, .str s), (10, .str l), (11, .tup ws)]), v1, v2, v3] M = .ok (.int k, M) := fun v1 v2 v3 => tIdx_ok hk rfl
    simp [isi_Parts_4, isi_Cell_4, isi_Box_4, isi_Norms_4, isi_Differ_4, isi_Range_4, isi_Values_4, isi_Counts_4, isi_Names_4, fld_eq, List.lookup, big1, big, Li1, Li2, Li3, Li_lst, e, list_ok _ M sz, string_ok s M (by omega), tI, oAdd_Li (M := M) (a := [7]) (b := cStr s) (by simp [cStr_len]; omega), oAdd_Li (M := M) (a := 7 :: cStr s) (b := cLis (ws.map cVal)) (by simp [cStr_len]; omega), oAdd_Li (M := M) (a := 7 :: (cStr s ++ cLis (ws.map cVal))) (b := [k]) (by simp [cStr_len]; omega)]
  | counts xs h hl =>
    have sz := cPrs_len h hl
    simp [isi_Parts_5, isi_Cell_5, isi_Box_5, isi_Norms_5, isi_Differ_5, isi_Range_5, isi_Values_5, isi_Counts_5, isi_Names_5, fld_eq, List.lookup, big1, big, Li1, Li2, Li3, Li_lst, pairs_ok h hl M, oAdd_Li (M := M) (a := [8]) (b := cPrs xs) (by simp; omega)]
  | names s t h h2 => simp [isi_Parts_6, isi_Cell_6, isi_Box_6, isi_Norms_6, isi_Differ_6, isi_Range_6, isi_Values_6, isi_Counts_6, isi_Names_6, fld_eq, List.lookup, big1, big, Li1, Li2, Li3, Li_lst, sAss_eq, string_ok s M (by omega), string_ok t M (by omega), oAdd_Li (M := M) (a := [9]) (b := cStr s) (by simp [cStr_len]; omega), oAdd_Li (M := M) (a := 9 :: cStr s) (b := cStr t) (by simp [cStr_len]; omega)]
theorem law_fact_ok {f : D} {c : List Int} (h : Wf f c) (M : Mm) : F__law_fact_due [f] M = .ok (Li c, M) := by
  have bb : 100 ≤ big := by decide
  refine runF_rt ?_
  unfold sv__law_fact_due
  cases h with
  | parts ps h hl =>
    have hb : ps.length ≤ big := by omega
    have sz : (ps.map cPt).flatten.length + 1 ≤ big := by
      have h1 := flat_len (mapc_len (cf := cPt) fun z hz => cPt_len (h z hz))
      have h2 : (ps.map cPt).length * 7 ≤ 4 * 7 := Nat.mul_le_mul_right 7 (by simpa using hl)
      omega
    have sz2 : (cLis (ps.map cPt)).length ≤ 4 * 7 + 1 := cLis_len (mapc_len fun z hz => cPt_len (h z hz)) (by simpa using hl)
    have e : fLc (itU (up (p1 (oFld 0) (pVar 0)))) [1] (gvN 1) (tYesV) (e2 oAdd (e2 oAdd (asD (fLst (aCons (up (p1 (oFld 1) (pVar 1))) (aNil)))) (callE F__law_counted gId (aCons (up (p1 (oFld 2) (pVar 1))) (aNil)))) (asD (fLst (aCons (up (p1 (oFld 3) (pVar 1))) (aNil))))) [.d (.ins 8 [(0, .tup ps)]), .un, .un, .un, .un, .un] M = .ok (CL (ps.map cPt), M) := by
      rw [fLc_tup (G := [.d (.ins 8 [(0, .tup ps)]), .un, .un, .un, .un, .un]) (xs := ps) (M1 := M) rfl rfl hb]
      refine lc_codes fun z hz => ?_
      cases h z hz with
      | mk a r l hl =>
        refine ⟨_, rfl, ?_⟩
        simp [fld_eq, List.lookup, big1, Li1, Li_lst, counted_tup l M (by omega), oAdd_Li (M := M) (a := [a]) (b := cNum l) (by simp [cNum]; omega), oAdd_Li (M := M) (a := a :: cNum l) (b := [r]) (by simp [cNum]; omega), cPt, unI_ii]
    simp [isi_Parts_8, isi_Cell_8, isi_Box_8, isi_Norms_8, isi_Differ_8, isi_Range_8, isi_Values_8, isi_Counts_8, isi_Names_8, fld_eq, List.lookup, big1, big, Li1, Li2, Li3, Li_lst, e, law_list_ok _ M sz, oAdd_Li (M := M) (a := [1]) (b := cLis (ps.map cPt)) (by simp; omega)]
  | cell a b h h2 => simp [isi_Parts_9, isi_Cell_9, isi_Box_9, isi_Norms_9, isi_Differ_9, isi_Range_9, isi_Values_9, isi_Counts_9, isi_Names_9, fld_eq, List.lookup, big1, big, Li1, Li2, Li3, Li_lst, counted_tup a M (by omega), counted_tup b M (by omega), oAdd_Li (M := M) (a := [2]) (b := cNum a) (by simp [cNum]; omega), oAdd_Li (M := M) (a := 2 :: cNum a) (b := cNum b) (by simp [cNum]; omega)]
  | box a b h h2 => simp [isi_Parts_10, isi_Cell_10, isi_Box_10, isi_Norms_10, isi_Differ_10, isi_Range_10, isi_Values_10, isi_Counts_10, isi_Names_10, fld_eq, List.lookup, big1, big, Li1, Li2, Li3, Li_lst, counted_tup a M (by omega), counted_tup b M (by omega), oAdd_Li (M := M) (a := [3]) (b := cNum a) (by simp [cNum]; omega), oAdd_Li (M := M) (a := 3 :: cNum a) (b := cNum b) (by simp [cNum]; omega)]
  | norms a b => simp [isi_Parts_11, isi_Cell_11, isi_Box_11, isi_Norms_11, isi_Differ_11, isi_Range_11, isi_Values_11, isi_Counts_11, isi_Names_11, fld_eq, List.lookup, big1, big, Li1, Li2, Li3, Li_lst, r_ok]
  | differ a m h => simp [isi_Parts_12, isi_Cell_12, isi_Box_12, isi_Norms_12, isi_Differ_12, isi_Range_12, isi_Values_12, isi_Counts_12, isi_Names_12, fld_eq, List.lookup, big1, big, Li1, Li2, Li3, Li_lst, counted_tup a M (by omega), oAdd_Li (M := M) (a := [5]) (b := cNum a) (by simp [cNum]; omega), oAdd_Li (M := M) (a := 5 :: cNum a) (b := [m]) (by simp [cNum]; omega)]
  | range s l a b k h hk =>
    simp [isi_Parts_3, isi_Cell_3, isi_Box_3, isi_Norms_3, isi_Differ_3, isi_Range_3, isi_Values_3, isi_Counts_3, isi_Names_3, fld_eq, List.lookup, big1, big, Li1, Li2, Li3, Li_lst, law_text_ok s M (by omega), oIdx_ok hk M, idxE_eq, oAdd_Li (M := M) (a := [6]) (b := cStr s) (by simp [cStr_len]; omega), oAdd_Li (M := M) (a := 6 :: cStr s) (b := [a, b, k]) (by simp [cStr_len]; omega)]
  | values s l ws k h hk hw hl =>
    have hb : ws.length ≤ big := by omega
    have sz : (ws.map cVal).flatten.length + 1 ≤ big := by
      have h1 := flat_len (mapc_len (cf := cVal) fun z hz => cVal_len (hw z hz))
      have h2 : (ws.map cVal).length * 6 ≤ 4 * 6 := Nat.mul_le_mul_right 6 (by simpa using hl)
      omega
    have sz2 : (cLis (ws.map cVal)).length ≤ 4 * 6 + 1 := cLis_len (mapc_len fun z hz => cVal_len (hw z hz)) (by simpa using hl)
    have e : fLc (itU (up (p1 (oFld 11) (pVar 0)))) [3] (gvN 3) (tYesV) (callE F__law_value gId (aCons (up (pVar 3)) (aNil))) [.d (.ins 4 [(9, .str s), (10, .str l), (11, .tup ws)]), .un, .un, .un, .un, .un] M = .ok (CL (ws.map cVal), M) := by
      rw [fLc_tup (G := [.d (.ins 4 [(9, .str s), (10, .str l), (11, .tup ws)]), .un, .un, .un, .un, .un]) (xs := ws) (M1 := M) rfl rfl hb]
      refine lc_codes fun z hz => ⟨_, rfl, ?_⟩
      simp [law_value_ok (hw z hz) M]
    simp [isi_Parts_4, isi_Cell_4, isi_Box_4, isi_Norms_4, isi_Differ_4, isi_Range_4, isi_Values_4, isi_Counts_4, isi_Names_4, fld_eq, List.lookup, big1, big, Li1, Li2, Li3, Li_lst, e, law_list_ok _ M sz, law_text_ok s M (by omega), oIdx_ok hk M, idxE_eq, oAdd_Li (M := M) (a := [7]) (b := cStr s) (by simp [cStr_len]; omega), oAdd_Li (M := M) (a := 7 :: cStr s) (b := cLis (ws.map cVal)) (by simp [cStr_len]; omega), oAdd_Li (M := M) (a := 7 :: (cStr s ++ cLis (ws.map cVal))) (b := [k]) (by simp [cStr_len]; omega)]
  | counts xs h hl =>
    have sz := cPrs_len h hl
    simp [isi_Parts_5, isi_Cell_5, isi_Box_5, isi_Norms_5, isi_Differ_5, isi_Range_5, isi_Values_5, isi_Counts_5, isi_Names_5, fld_eq, List.lookup, big1, big, Li1, Li2, Li3, Li_lst, law_pairs_lc h hl M (ev := itU (up (p1 (oFld 12) (pVar 0)))) (Γ := [.d (.ins 5 [(12, .tup xs)]), .un, .un, .un, .un, .un]) (G := [.d (.ins 5 [(12, .tup xs)]), .un, .un, .un, .un, .un]) rfl rfl (by simp), law_list_ok _ M (prs_big h hl), oAdd_Li (M := M) (a := [8]) (b := cPrs xs) (by simp; omega), show cLis (xs.map cPr) = cPrs xs from rfl]
  | names s t h h2 => simp [isi_Parts_6, isi_Cell_6, isi_Box_6, isi_Norms_6, isi_Differ_6, isi_Range_6, isi_Values_6, isi_Counts_6, isi_Names_6, fld_eq, List.lookup, big1, big, Li1, Li2, Li3, Li_lst, law_text_ok s M (by omega), law_text_ok t M (by omega), oAdd_Li (M := M) (a := [9]) (b := cStr s) (by simp [cStr_len]; omega), oAdd_Li (M := M) (a := 9 :: cStr s) (b := cStr t) (by simp [cStr_len]; omega)]
theorem cFact_len {f : D} {c : List Int} (h : Wf f c) : c.length ≤ 60 := by
  cases h with
  | parts ps h hl =>
    have sz2 : (cLis (ps.map cPt)).length ≤ 4 * 7 + 1 := cLis_len (mapc_len fun z hz => cPt_len (h z hz)) (by simpa using hl)
    simp; omega
  | cell a b h h2 => simp [cNum]; omega
  | box a b h h2 => simp [cNum]; omega
  | norms a b => simp
  | differ a m h => simp [cNum]; omega
  | range s l a b k h hk => simp [cStr_len]; omega
  | values s l ws k h hk hw hl =>
    have sz2 : (cLis (ws.map cVal)).length ≤ 4 * 6 + 1 := cLis_len (mapc_len fun z hz => cVal_len (hw z hz)) (by simpa using hl)
    simp [cStr_len]; omega
  | counts xs h hl =>
    have := cPrs_len h hl
    simp; omega
  | names s t h h2 => simp [cStr_len]; omega
end Q

set_option maxHeartbeats 2000000
namespace Q
open PySem PySem.Spec PyProof.Rows L2 Z
/-! ### == of ints, of lists of ints -/
def pI (l : List Int) : List PyData := l.map .int
theorem pys_ii : ∀ l : List Int, pys (ii l) = some (pI l)
  | [] => rfl
  | a :: l => by
    show (some (PyData.int a)).bind (fun y => (pys (ii l)).map fun ys => y :: ys) = _
    rw [pys_ii l]
    rfl
theorem lay_pI : ∀ l : List Int, PyData.canLayAll0 (pI l) = true
  | [] => rfl
  | a :: l => by
    show (true && PyData.canLayAll0 (pI l)) = true
    rw [lay_pI l]
    rfl
theorem dep_pI : ∀ l : List Int, PyData.depthAll (pI l) ≤ 1
  | [] => by
    show PyData.depthAll [] ≤ 1
    decide
  | a :: l => by
    have := dep_pI l
    unfold pI
    rw [List.map_cons]
    simp only [PyData.depthAll, PyData.depth]
    unfold pI at this
    omega
theorem shp_pI (l : List Int) : SeqAt.shaped (.list (pI l)) = true := by
  unfold SeqAt.shaped
  have h1 : (PyData.list (pI l)).canLay0 = true := by
    show PyData.canLayAll0 (pI l) = true
    exact lay_pI l
  have h2 : (PyData.list (pI l)).depth ≤ 64 := by
    have := dep_pI l
    simp only [PyData.depth]
    omega
  rw [h1, decide_eq_true h2]
  rfl
theorem oEq_Li (b : Bool) (M : Mm) (l : List Int) : oEq b M (.d (Li l)) (.d (Li l)) = some (.bl (!b)) := by
  have e : pyE M (.d (Li l)) = some (.list (pI l)) := by
    show (pys (ii l)).map PyData.list = _
    rw [pys_ii]
    rfl
  unfold oEq
  rw [e]
  show (if (SeqAt.shaped (.list (pI l)) && SeqAt.shaped (.list (pI l))) = true then some (D.bl (if b = true then !PyData.eqv (.list (pI l)) (.list (pI l)) else PyData.eqv (.list (pI l)) (.list (pI l)))) else none) = _
  rw [shp_pI, SeqAt.eqv_refl (.list (pI l)) (lay_pI l)]
  cases b <;> rfl
theorem oEq_int (M : Mm) (i j : Int) : oEq false M (.d (.int i)) (.d (.int j)) = some (.bl (i == j)) := by
  have e : SeqAt.shaped (.int i) && SeqAt.shaped (.int j) = true := by
    simp [SeqAt.shaped, PyData.canLay0, PyData.depth]
  show (if (SeqAt.shaped (.int i) && SeqAt.shaped (.int j)) = true then some (D.bl (PyData.eqv (.int i) (.int j))) else none) = _
  rw [if_pos (by simpa using e)]
  simp [PyData.eqv]
/-! ### what has a code -/
structure Cd (F G : Fn) (k : Nat) (d : D) (c : List Int) : Prop where
  len : c.length ≤ k
  f : ∀ M, F [d] M = .ok (Li c, M)
  g : ∀ M, G [d] M = .ok (Li c, M)
def HasC (F G : Fn) (k : Nat) (d : D) : Prop := ∃ c, Cd F G k d c
open Classical in
noncomputable def cOf (F G : Fn) (k : Nat) (d : D) : List Int := if h : HasC F G k d then choose h else []
theorem cOf_ok {F G : Fn} {k : Nat} {d : D} (h : HasC F G k d) : Cd F G k d (cOf F G k d) := by
  unfold cOf
  rw [dif_pos h]
  exact Classical.choose_spec h
theorem codes_big {F G : Fn} {k n : Nat} {xs : List D} (h : ∀ z ∈ xs, HasC F G k z) (hl : xs.length ≤ n) (hb : n * k + 1 ≤ big) : (xs.map (cOf F G k)).flatten.length + 1 ≤ big := by
  have h1 := flat_len (mapc_len (cf := cOf F G k) fun z hz => (cOf_ok (h z hz)).len)
  have h2 : (xs.map (cOf F G k)).length * k ≤ n * k := Nat.mul_le_mul_right k (by simpa using hl)
  omega
theorem codes_len {F G : Fn} {k n : Nat} {xs : List D} (h : ∀ z ∈ xs, HasC F G k z) (hl : xs.length ≤ n) : (cLis (xs.map (cOf F G k))).length ≤ n * k + 1 := cLis_len (mapc_len fun z hz => (cOf_ok (h z hz)).len) (by simpa using hl)
theorem lc_F {F G : Fn} {k i : Nat} {xs : List D} {G0 : Gm} {M : Mm} (h : ∀ z ∈ xs, HasC F G k z) (hi : i < G0.length) : lcL (gvN i) tYesV (callE F gId (aCons (up (pVar i)) aNil)) G0 xs M = .ok (CL (xs.map (cOf F G k)), M) := by
  refine lc_codes fun z hz => ⟨G0.set i (.d z), ?_, ?_⟩
  · unfold gvN
    rw [if_pos hi]
  · have e : (G0.set i (.d z))[i]? = some (.d z) := List.getElem?_set_self hi
    simp [e, (cOf_ok (h z hz)).f M]
theorem lc_G {F G : Fn} {k i : Nat} {xs : List D} {G0 : Gm} {M : Mm} (h : ∀ z ∈ xs, HasC F G k z) (hi : i < G0.length) : lcL (gvN i) tYesV (callE G gId (aCons (up (pVar i)) aNil)) G0 xs M = .ok (CL (xs.map (cOf F G k)), M) := by
  refine lc_codes fun z hz => ⟨G0.set i (.d z), ?_, ?_⟩
  · unfold gvN
    rw [if_pos hi]
  · have e : (G0.set i (.d z))[i]? = some (.d z) := List.getElem?_set_self hi
    simp [e, (cOf_ok (h z hz)).g M]
abbrev HF : D → Prop := HasC F_fact_code F__law_fact_due 60
theorem hf_of {f : D} {c : List Int} (h : Wf f c) : HF f := ⟨c, cFact_len h, fact_ok h, law_fact_ok h⟩
/-! ### regions -/
abbrev Rg (p : D) (fs : List D) : D := .ins 13 [(13, p), (14, .tup fs)]
inductive Wpar : D → Prop where
  | non : Wpar .non
  | int (i : Int) : Wpar (.int i)
def cPar : D → List Int
  | .int i => [1, i]
  | _ => [0]
theorem cPar_len (p : D) : (cPar p).length ≤ 2 := by
  unfold cPar
  split <;> simp
theorem isN_non (M : Mm) : oIsN M (.d .non) (.d .non) = some (.bl true) := rfl
theorem isN_int (M : Mm) (i : Int) : oIsN M (.d (.int i)) (.d .non) = some (.bl false) := rfl
theorem isN_lst (M : Mm) (l : List D) : oIsN M (.d (.lst l)) (.d .non) = some (.bl false) := rfl
theorem notN_non (M : Mm) : oNotN M (.d .non) (.d .non) = some (.bl false) := rfl
theorem notN_int (M : Mm) (i : Int) : oNotN M (.d (.int i)) (.d .non) = some (.bl true) := rfl
theorem maybe_non (M : Mm) : F_maybe_code [.non] M = .ok (Li [0], M) := by
  refine runF_rt ?_
  unfold sv_maybe_code
  simp [ifE_eq, isN_non, big1, Li1]
theorem maybe_Li (l : List Int) (M : Mm) (h : l.length + 1 ≤ big) : F_maybe_code [Li l] M = .ok (Li (1 :: l), M) := by
  refine runF_rt ?_
  unfold sv_maybe_code
  have e : oIsN M (.d (Li l)) (.d .non) = some (.bl false) := rfl
  simp [ifE_eq, e, big1, Li1, oAdd_Li (M := M) (a := [1]) (b := l) (by simp; omega)]
abbrev HR : D → Prop := HasC F_region_code F__law_region_due 400
theorem region_hc {p : D} {fs : List D} (hp : Wpar p) (hf : ∀ f ∈ fs, HF f) (hl : fs.length ≤ 4) : HR (Rg p fs) := by
  have bb : 1000 ≤ big := by decide
  have hb : fs.length ≤ big := by omega
  have sz := codes_big hf hl (by omega)
  have sz2 := codes_len hf hl
  have sp := cPar_len p
  refine ⟨cPar p ++ cLis (fs.map (cOf F_fact_code F__law_fact_due 60)), by rw [List.length_append]; omega, fun M => ?_, fun M => ?_⟩
  · refine runF_rt ?_
    unfold sv_region_code
    have e : ∀ x, fLc (itU (up (p1 (oFld 14) (pVar 0)))) [2] (gvN 2) (tYesV) (callE F_fact_code gId (aCons (up (pVar 2)) (aNil))) [.d (Rg p fs), .d x, .un] M = .ok (CL (fs.map (cOf F_fact_code F__law_fact_due 60)), M) := fun x => by
      rw [fLc_tup (G := [.d (Rg p fs), .d x, .un]) (xs := fs) (M1 := M) rfl rfl hb]
      exact lc_F hf (by simp)
    cases hp with
    | non => simp [fld_eq, List.lookup, ifE_eq, isN_non, maybe_non, e, list_ok _ M sz, cPar, oAdd_Li (M := M) (a := [0]) (b := cLis (fs.map (cOf F_fact_code F__law_fact_due 60))) (by simp; omega)]
    | int i => simp [fld_eq, List.lookup, ifE_eq, isN_int, big1, Li1, maybe_Li [i] M (by simp; omega), e, list_ok _ M sz, cPar, oAdd_Li (M := M) (a := [1, i]) (b := cLis (fs.map (cOf F_fact_code F__law_fact_due 60))) (by simp; omega)]
  · refine runF_rt ?_
    unfold sv__law_region_due
    have e : ∀ x, fLc (itU (up (p1 (oFld 14) (pVar 0)))) [2] (gvN 2) (tYesV) (callE F__law_fact_due gId (aCons (up (pVar 2)) (aNil))) [.d (Rg p fs), .d x, .un] M = .ok (CL (fs.map (cOf F_fact_code F__law_fact_due 60)), M) := fun x => by
      rw [fLc_tup (G := [.d (Rg p fs), .d x, .un]) (xs := fs) (M1 := M) rfl rfl hb]
      exact lc_G hf (by simp)
    cases hp with
    | non => simp [fld_eq, List.lookup, notN_non, e, big1, Li1, law_list_ok _ M sz, cPar, oAdd_Li (M := M) (a := [0]) (b := cLis (fs.map (cOf F_fact_code F__law_fact_due 60))) (by simp; omega)]
    | int i => simp [fld_eq, List.lookup, notN_int, e, big, Li1, Li2, law_list_ok _ M sz, cPar, oAdd_Li (M := M) (a := [1, i]) (b := cLis (fs.map (cOf F_fact_code F__law_fact_due 60))) (by simp; omega)]
/-! ### partitions -/
noncomputable abbrev cRg : D → List Int := cOf F_region_code F__law_region_due 400
theorem part_ok {rs : List D} (h : ∀ r ∈ rs, HR r) (hl : rs.length ≤ 4) (M : Mm) : F_partition_code [.tup rs] M = .ok (Li (cLis (rs.map cRg)), M) := by
  have bb : 2000 ≤ big := by decide
  refine runF_rt ?_
  unfold sv_partition_code
  have e : fLc (itU (up (pVar 0))) [1] (gvN 1) (tYesV) (callE F_region_code gId (aCons (up (pVar 1)) (aNil))) [.d (.tup rs), .un] M = .ok (CL (rs.map cRg), M) := by
    rw [fLc_tup (G := [.d (.tup rs), .un]) (xs := rs) (M1 := M) rfl rfl (by omega)]
    exact lc_F h (by simp)
  simp [e, list_ok _ M (codes_big h hl (by omega))]
/-! ### records -/
inductive Wfv : D → Prop where
  | mk (s : List Nat) (w : D) (h : s.length ≤ 4) (hw : Wv w) : Wfv (.tup [.str s, w])
def cFv : D → List Int
  | .tup [.str s, w] => cStr s ++ cVal w
  | _ => []
theorem cFv_len {z : D} (h : Wfv z) : (cFv z).length ≤ 11 := by
  cases h with
  | mk s w h hw => have := cVal_len hw; simp [cFv, cStr_len]; omega
abbrev Rc (s : List Nat) (v : List Int) (fs ws : List D) : D := .ins 1 [(18, .str s), (19, .tup (ii v)), (20, .tup fs), (12, .tup ws)]
abbrev HRc : D → Prop := HasC F_record_code F__law_record_due 200
theorem record_hc {s : List Nat} {v : List Int} {fs ws : List D} (hs : s.length ≤ 4) (hv : v.length ≤ 4) (hf : ∀ z ∈ fs, Wfv z) (hl : fs.length ≤ 4) (hw : ∀ z ∈ ws, Wpr z) (hl2 : ws.length ≤ 4) : HRc (Rc s v fs ws) := by
  have bb : 1000 ≤ big := by decide
  have sz : (fs.map cFv).flatten.length + 1 ≤ big := by
    have h1 := flat_len (mapc_len (cf := cFv) fun z hz => cFv_len (hf z hz))
    have h2 : (fs.map cFv).length * 11 ≤ 4 * 11 := Nat.mul_le_mul_right 11 (by simpa using hl)
    omega
  have sz2 : (cLis (fs.map cFv)).length ≤ 4 * 11 + 1 := cLis_len (mapc_len fun z hz => cFv_len (hf z hz)) (by simpa using hl)
  have sw := cPrs_len hw hl2
  have a1 : ∀ M, oAdd M (.d (Li (cStr s))) (.d (Li (cNum v))) = some (Li (cStr s ++ cNum v)) := fun M => oAdd_Li (by simp [cStr_len, cNum]; omega)
  have a2 : ∀ M, oAdd M (.d (Li (cStr s ++ cNum v))) (.d (Li (cLis (fs.map cFv)))) = some (Li (cStr s ++ cNum v ++ cLis (fs.map cFv))) := fun M => oAdd_Li (by simp [cStr_len, cNum]; omega)
  have a3 : ∀ M, oAdd M (.d (Li (cStr s ++ cNum v ++ cLis (fs.map cFv)))) (.d (Li (cPrs ws))) = some (Li (cStr s ++ cNum v ++ cLis (fs.map cFv) ++ cPrs ws)) := fun M => oAdd_Li (by simp [cStr_len, cNum]; omega)
  refine ⟨cStr s ++ cNum v ++ cLis (fs.map cFv) ++ cPrs ws, by simp [cStr_len, cNum]; omega, fun M => ?_, fun M => ?_⟩
  · refine runF_rt ?_
    unfold sv_record_code
    have e : fLc (itU (up (p1 (oFld 20) (pVar 0)))) [2, 3] (gvT 2 (gvCons (gvN 2) (gvCons (gvN 3) (gvNil)))) (tYesV) (e2 oAdd (callE F_string_code gId (aCons (up (pVar 2)) (aNil))) (callE F_value_code gId (aCons (up (pVar 3)) (aNil)))) [.d (Rc s v fs ws), .un, .un, .un] M = .ok (CL (fs.map cFv), M) := by
      rw [fLc_tup (G := [.d (Rc s v fs ws), .un, .un, .un]) (xs := fs) (M1 := M) rfl rfl (by omega)]
      refine lc_codes fun z hz => ?_
      cases hf z hz with
      | mk t w ht hw =>
        have := cVal_len hw
        refine ⟨[.d (Rc s v fs ws), .un, .d (.str t), .d w], rfl, ?_⟩
        simp [string_ok t M (by omega), value_ok hw M, oAdd_Li (M := M) (a := cStr t) (b := cVal w) (by simp [cStr_len]; omega), cFv]
    simp only [sSeq_eq, sAsg_eq, callE_eq, aCons_eq, aNil_eq, asD_eq, e, r_ok, List.map, List.replicate, List.length_cons, List.length_nil, List.cons_append, List.nil_append, List.append_eq, Nat.reduceSub, Nat.reduceAdd, list_ok _ M sz, r_st, Nat.reduceLT, if_true, List.set, s_nx, sRet_eq, e2_eq, up_eq, p1_eq, pVar_eq, List.getElem?_cons_zero, List.getElem?_cons_succ, Option.bind_some, fld_eq, List.lookup, Nat.reduceBEq, Option.map_some, ob_some, evup, string_ok s M (by omega), numbers_tup v M (by omega), pairs_ok hw hl2 M, a1, a2, a3]
  · refine runF_rt ?_
    unfold sv__law_record_due
    have e : ∀ x, fLc (itU (up (p1 (oFld 20) (pVar 0)))) [2, 3] (gvT 2 (gvCons (gvN 2) (gvCons (gvN 3) (gvNil)))) (tYesV) (e2 oAdd (callE F__law_text gId (aCons (up (pVar 2)) (aNil))) (callE F__law_value gId (aCons (up (pVar 3)) (aNil)))) [.d (Rc s v fs ws), .d x, .un, .un, .un, .un] M = .ok (CL (fs.map cFv), M) := fun x => by
      rw [fLc_tup (G := [.d (Rc s v fs ws), .d x, .un, .un, .un, .un]) (xs := fs) (M1 := M) rfl rfl (by omega)]
      refine lc_codes fun z hz => ?_
      cases hf z hz with
      | mk t w ht hw =>
        have := cVal_len hw
        refine ⟨[.d (Rc s v fs ws), .d x, .d (.str t), .d w, .un, .un], rfl, ?_⟩
        simp [law_text_ok t M (by omega), law_value_ok hw M, oAdd_Li (M := M) (a := cStr t) (b := cVal w) (by simp [cStr_len]; omega), cFv]
    have e2' : ∀ x, fLc (itU (up (p1 (oFld 12) (pVar 0)))) [4, 5] (gvT 2 (gvCons (gvN 4) (gvCons (gvN 5) (gvNil)))) (tYesV) (e2 oAdd (callE F__law_text gId (aCons (up (pVar 4)) (aNil))) (asD (fLst (aCons (up (pVar 5)) (aNil))))) [.d (Rc s v fs ws), .d x, .un, .un, .un, .un] M = .ok (CL (ws.map cPr), M) := fun x =>
      law_pairs_lc hw hl2 M rfl rfl (by simp)
    have a3' : oAdd M (.d (Li (cStr s ++ cNum v ++ cLis (fs.map cFv)))) (.d (Li (cLis (ws.map cPr)))) = some (Li (cStr s ++ cNum v ++ cLis (fs.map cFv) ++ cPrs ws)) := a3 M
    simp only [sSeq_eq, sAsg_eq, callE_eq, aCons_eq, aNil_eq, asD_eq, e, e2', r_ok, List.map, List.replicate, List.length_cons, List.length_nil, List.cons_append, List.nil_append, List.append_eq, Nat.reduceSub, Nat.reduceAdd, law_list_ok _ M sz, law_list_ok _ M (prs_big hw hl2), r_st, Nat.reduceLT, if_true, List.set, s_nx, sRet_eq, e2_eq, up_eq, p1_eq, pVar_eq, List.getElem?_cons_zero, List.getElem?_cons_succ, Option.bind_some, fld_eq, List.lookup, Nat.reduceBEq, Option.map_some, ob_some, evup, law_text_ok s M (by omega), counted_tup v M (by omega), a1, a2, a3']
end Q

set_option maxHeartbeats 2000000
namespace Q
open PySem PySem.Spec PyProof.Rows L2 Z
/-! ### what is drawn -/
def St (ns : List Int) (M : Mm) : Prop := ∃ (i : Nat) (c : Int), 0 ≤ c ∧ M = [S ns i c]
theorem next_ok {ns : List Int} {M : Mm} (hM : St ns M) {m : Int} (h1 : 0 < m) (h2 : m < 18446744073709551616) : ∃ (r : Int) (M' : Mm), 0 ≤ r ∧ r < m ∧ St ns M' ∧ F__law_next [.hdl 0, .int m] M = .ok (.int r, M') := by
  obtain ⟨i, c, hc, rfl⟩ := hM
  obtain ⟨r, i', c', hr, hrm, hc', e⟩ := law_next_ok ns i c m [] hc h1 h2
  exact ⟨r, _, hr, hrm, ⟨i', c', hc', rfl⟩, e⟩
theorem string_draw {ns : List Int} {M : Mm} (hM : St ns M) : ∃ (s : List Nat) (M' : Mm), s.length ≤ 4 ∧ St ns M' ∧ F__law_string [.hdl 0] M = .ok (.str s, M') := by
  obtain ⟨r, M', h0, h1, hM', e⟩ := next_ok hM (m := 6) (by decide) (by decide)
  have hr : r = 0 ∨ r = 1 ∨ r = 2 ∨ r = 3 ∨ r = 4 ∨ r = 5 := by omega
  have key : ∃ s : List Nat, s.length ≤ 4 ∧ atI [D.str [], .str [97], .str [114, 101, 100], .str [120, 32, 121], .str [97, 92, 98], .str [126, 33]] r = some (.str s) := by
    rcases hr with rfl | rfl | rfl | rfl | rfl | rfl
    · exact ⟨[], by simp, rfl⟩
    · exact ⟨[97], by simp, rfl⟩
    · exact ⟨[114, 101, 100], by simp, rfl⟩
    · exact ⟨[120, 32, 121], by simp, rfl⟩
    · exact ⟨[97, 92, 98], by simp, rfl⟩
    · exact ⟨[126, 33], by simp, rfl⟩
  obtain ⟨s, hs, es⟩ := key
  refine ⟨s, M', hs, hM', runF_rt ?_⟩
  unfold sv__law_string
  simp [big, e, oIx_lst es]
theorem ints_of {ys : List D} (h : ∀ y ∈ ys, ∃ i : Int, y = .int i) : ∃ l : List Int, ys = ii l := by
  induction ys with
  | nil => exact ⟨[], rfl⟩
  | cons y ys ih =>
    obtain ⟨i, rfl⟩ := h y (List.mem_cons_self ..)
    obtain ⟨l, rfl⟩ := ih fun z hz => h z (List.mem_cons_of_mem _ hz)
    exact ⟨i :: l, rfl⟩
theorem itR1_eq (a : AV) (Γ : Gm) (M : Mm) : itR1 a Γ M = (a Γ M).bind fun r => match r.1 with
  | [.int j] => if -4611686018427387904 ≤ j ∧ j < 4611686018427387904 then .ok (.tup (rngD 0 j.toNat), r.2) else .bad
  | _ => .bad := rfl
theorem drawn {ns : List Int} {M : Mm} {j : Nat} {m : Int} {e : EV} {Γ G : Gm} {Pd : D → Prop} (hM : St ns M) (h1 : 0 < m) (h2 : m ≤ 1000) (h0 : Γ[0]? = some (.d (.hdl 0))) (hw : wipG [j] Γ = some G) (hj : j < G.length)
    (he : ∀ z M, St ns M → ∃ y M', Pd y ∧ St ns M' ∧ e (G.set j (.d z)) M = .ok (y, M')) :
    ∃ ys M', St ns M' ∧ (∀ y ∈ ys, Pd y) ∧ (ys.length : Int) < m ∧ fLc (itR1 (aCons (callE F__law_next gId (aCons (up (pVar 0)) (aCons (up (pC (.int m))) (aNil)))) (aNil))) [j] (gvN j) (tYesV) e Γ M = .ok (ys, M') := by
  obtain ⟨r, M1, hr0, hr1, hM1, e1⟩ := next_ok hM h1 (by omega)
  obtain ⟨ys, M2, e2, hM2, hP, hl⟩ := lc_draw (g := gvN j) (e := e) (Γ := G) (I := St ns) (Pd := Pd) (xs := rngD 0 r.toNat) hM1 fun z hz M hM => by
    obtain ⟨y, M', h1, h2, h3⟩ := he z M hM
    refine ⟨G.set j (.d z), y, M', ?_, h1, h2, h3⟩
    unfold gvN
    rw [if_pos hj]
  refine ⟨ys, M2, hM2, hP, by rw [hl, rngD_len]; omega, ?_⟩
  have e3 : itR1 (aCons (callE F__law_next gId (aCons (up (pVar 0)) (aCons (up (pC (.int m))) (aNil)))) (aNil)) Γ M = .ok (.tup (rngD 0 r.toNat), M1) := by
    simp [itR1_eq, h0, e1]
    omega
  rw [fLc_tup e3 hw (by rw [rngD_len]; have : 1000 ≤ big := by decide
                        omega), e2]
theorem numbers_draw {ns : List Int} {M : Mm} (hM : St ns M) : ∃ (l : List Int) (M' : Mm), l.length ≤ 4 ∧ St ns M' ∧ F__law_numbers [.hdl 0] M = .ok (Li l, M') := by
  obtain ⟨ys, M', hM', hP, hl, e⟩ := drawn (j := 1) (m := 4) (Γ := [.d (.hdl 0), .un]) (G := [.d (.hdl 0), .un]) (e := e2 oSub (callE F__law_next gId (aCons (up (pVar 0)) (aCons (up (pC (.int 9))) (aNil)))) (up (pC (.int 4)))) (Pd := fun y => ∃ i : Int, y = .int i) hM (by decide) (by decide) rfl rfl (by simp) fun z M hM => by
    obtain ⟨r, M1, _, _, hM1, e1⟩ := next_ok hM (m := 9) (by decide) (by decide)
    exact ⟨.int (r - 4), M1, ⟨_, rfl⟩, hM1, by simp [e1]⟩
  obtain ⟨l, rfl⟩ := ints_of hP
  refine ⟨l, M', by simp at hl; omega, hM', runF_rt ?_⟩
  unfold sv__law_numbers
  simp [e, Li_lst]
theorem worth_draw {ns : List Int} {M : Mm} (hM : St ns M) : ∃ (w : D) (M' : Mm), Wv w ∧ St ns M' ∧ F__law_worth [.hdl 0] M = .ok (w, M') := by
  obtain ⟨r1, M1, _, _, hM1, e1⟩ := next_ok hM (m := 9) (by decide) (by decide)
  obtain ⟨s, M2, hs, hM2, e2⟩ := string_draw hM1
  obtain ⟨r3, M3, _, _, hM3, e3⟩ := next_ok hM2 (m := 2) (by decide) (by decide)
  obtain ⟨r, M4, h0, h1, hM4, e4⟩ := next_ok hM3 (m := 3) (by decide) (by decide)
  have hr : r = 0 ∨ r = 1 ∨ r = 2 := by omega
  have key : ∃ w, Wv w ∧ atI [.int (r1 - 4), .str s, .bl (r3 == 0)] r = some w := by
    rcases hr with rfl | rfl | rfl
    · exact ⟨_, .int _, rfl⟩
    · exact ⟨_, .str s hs, rfl⟩
    · exact ⟨_, .bl _, rfl⟩
  obtain ⟨w, hw, ew⟩ := key
  refine ⟨w, M4, hw, hM4, runF_rt ?_⟩
  unfold sv__law_worth
  simp [e1, e2, e3, e4, oEq_int, big, oIx_lst ew]
/-! ### objects made -/
theorem akE_eq (ea ek : AV) (q : List D → List D → Mm → R (D × Mm)) (Γ : Gm) (M : Mm) : akE ea ek q Γ M = (ea Γ M).bind fun r => (ek Γ r.2).bind fun s => q r.1 s.1 s.2 := rfl
theorem mkI_eq (c : Nat) (G : Gn) (g : List D → List D → List D) (ds ez : List D) (M : Mm) : mkI c G g ds ez M = (G [] (g ds ez) M).bind fun t => .ok (.ins c t.1, t.2) := rfl
theorem gI (a b : List D) : gId a b = a := rfl
theorem gC (a b : List D) : gCat a b = a ++ b := rfl
theorem G_Parts (xs : List D) (M : Mm) : G_Parts___init__ [] [.lst xs] M = .ok ([(0, .tup xs)], M) := rfl
theorem G_Part (a r : Int) (l : List Int) (M : Mm) : G_Part___init__ [] [.int a, Li l, .int r] M = .ok ([(1, .int a), (2, .tup (ii l)), (3, .int r)], M) := rfl
theorem G_Cell (a b : List Int) (M : Mm) : G_Cell___init__ [] [Li a, Li b] M = .ok ([(4, .tup (ii a)), (5, .tup (ii b))], M) := rfl
theorem G_Box (a b : List Int) (M : Mm) : G_Box___init__ [] [Li a, Li b] M = .ok ([(6, .tup (ii a)), (7, .tup (ii b))], M) := rfl
theorem G_Norms (a b : Int) (M : Mm) : G_Norms___init__ [] [.int a, .int b] M = .ok ([(6, .int a), (7, .int b)], M) := rfl
theorem G_Differ (a : List Int) (b : Int) (M : Mm) : G_Differ___init__ [] [Li a, .int b] M = .ok ([(2, .tup (ii a)), (8, .int b)], M) := rfl
theorem G_Range (s l : List Nat) (a b : Int) (M : Mm) : G_Range___init__ [] [.str s, .int a, .int b, .str l] M = .ok ([(9, .str s), (10, .str l), (6, .int a), (7, .int b)], M) := rfl
theorem G_Values (s l : List Nat) (ws : List D) (M : Mm) : G_Values___init__ [] [.str s, .lst ws, .str l] M = .ok ([(9, .str s), (10, .str l), (11, .tup ws)], M) := rfl
theorem G_Names (s t : List Nat) (M : Mm) : G_Names___init__ [] [.str s, .str t] M = .ok ([(6, .str s), (7, .str t)], M) := rfl
theorem sPutO_eq (i k : Nat) (ev : EV) (Γ : Gm) (M : Mm) : sPutO fa i k ev Γ M = (ev Γ M).st Γ fun r => match Γ[i]? with
  | some (.o (.ins c fs)) => if fa c k = true ∧ fs.length < 1000 then .ok (.nx (Γ.set i (.o (.ins c (putD k r.1 fs))))) r.2 else .bad
  | _ => .bad := rfl
/-- a pair is laid anew -/
theorem pair_lc {xs : List D} {i j : Nat} {G : Gm} {M : Mm} (h : ∀ z ∈ xs, ∃ a b, z = .tup [a, b]) (hij : i ≠ j) (hi : i < G.length) (hj : j < G.length) : lcL (gvT 2 (gvCons (gvN i) (gvCons (gvN j) (gvNil)))) tYesV (eTup (aCons (up (pVar i)) (aCons (up (pVar j)) (aNil)))) G xs M = .ok (xs, M) := by
  have e := lc_map (g := gvT 2 (gvCons (gvN i) (gvCons (gvN j) (gvNil)))) (e := eTup (aCons (up (pVar i)) (aCons (up (pVar j)) (aNil)))) (Γ := G) (M := M) (f := fun z => z) (xs := xs) fun z hz => by
    obtain ⟨a, b, rfl⟩ := h z hz
    refine ⟨(G.set i (.d a)).set j (.d b), ?_, ?_⟩
    · simp [gvT, gvCons, gvNil, gvN, hi, hj]
    · have e1 : ((G.set i (.d a)).set j (.d b))[i]? = some (.d a) := by
        rw [List.getElem?_set_ne hij.symm, List.getElem?_set_self hi]
      have e2 : ((G.set i (.d a)).set j (.d b))[j]? = some (.d b) := List.getElem?_set_self (by simpa using hj)
      simp [e1, e2, big]
  rw [e, List.map_id']
theorem G_Counts {xs : List D} (h : ∀ z ∈ xs, Wpr z) (hl : xs.length ≤ 4) (M : Mm) : G_Counts___init__ [] [.lst xs] M = .ok ([(12, .tup xs)], M) := by
  have bb : 1000 ≤ big := by decide
  have e : fLc (itU (up (pVar 1))) [2, 3] (gvT 2 (gvCons (gvN 2) (gvCons (gvN 3) (gvNil)))) (tYesV) (eTup (aCons (up (pVar 2)) (aCons (up (pVar 3)) (aNil)))) [.o (.ins 5 []), .d (.lst xs), .un, .un] M = .ok (xs, M) := by
    rw [fLc_lst (G := [.o (.ins 5 []), .d (.lst xs), .un, .un]) (xs := xs) (M1 := M) rfl rfl (by omega)]
    exact pair_lc (fun z hz => by
      cases h z hz with
      | mk s i h => exact ⟨_, _, rfl⟩) (by decide) (by simp) (by simp)
  have e2 : sv_Counts___init__ [.o (.ins 5 []), .d (.lst xs), .un, .un] M = .ok (.nx [.o (.ins 5 [(12, .tup xs)]), .d (.lst xs), .un, .un]) M := by
    unfold sv_Counts___init__
    rw [sPutO_eq, e1_eq, asD_eq, e]
    rfl
  show (match sv_Counts___init__ [.o (.ins 5 []), .d (.lst xs), .un, .un] M with
    | .ok (.nx Γ) M' => (match (Γ[0]? : Option Sl) with
      | some (.o (.ins c' fs')) => if c' = 5 then R.ok (fs', M') else .bad
      | _ => .bad)
    | .exc c _ M' => .exc c M'
    | _ => .bad) = _
  rw [e2]
  rfl
theorem fact_draw {ns : List Int} {M : Mm} (hM : St ns M) : ∃ (f : D) (M' : Mm), HF f ∧ St ns M' ∧ F__law_fact [.hdl 0] M = .ok (f, M') := by
  have p9 : ∀ M, oPow M (.d (.int 10)) (.d (.int 9)) = some (.int 1000000000) := fun M => oPow_r (by decide) (by decide) (by decide)
  obtain ⟨k, M1, h0, h1, hM1, e1⟩ := next_ok hM (m := 9) (by decide) (by decide)
  have hk : k = 0 ∨ k = 1 ∨ k = 2 ∨ k = 3 ∨ k = 4 ∨ (5 ≤ k ∧ k ≤ 8) := by omega
  have fin : ∀ {f : D} {c : List Int} {M' : Mm}, Wf f c → St ns M' → F__law_fact [.hdl 0] M = .ok (f, M') → ∃ (f : D) (M' : Mm), HF f ∧ St ns M' ∧ F__law_fact [.hdl 0] M = .ok (f, M') := fun h1 h2 h3 => ⟨_, _, hf_of h1, h2, h3⟩
  rcases hk with rfl | rfl | rfl | rfl | rfl | hk
  · obtain ⟨ys, M2, hM2, hP, hl, e2⟩ := drawn (j := 2) (m := 3) (Γ := [.d (.hdl 0), .d (.int 0), .un, .un]) (G := [.d (.hdl 0), .d (.int 0), .un, .un]) (Pd := Wpt)
      (e := akE (aCons (callE F__law_next gId (aCons (up (pVar 0)) (aCons (up (pC (.int 4))) (aNil)))) (aCons (callE F__law_numbers gId (aCons (up (pVar 0)) (aNil))) (aCons (callE F__law_next gId (aCons (up (pVar 0)) (aCons (up (pC (.int 90))) (aNil)))) (aNil)))) (aNil) (mkI 7 G_Part___init__ gId)) hM1 (by decide) (by decide) rfl rfl (by simp) fun z M hM => by
        obtain ⟨a, M1, _, _, hM1, e1⟩ := next_ok hM (m := 4) (by decide) (by decide)
        obtain ⟨l, M2, hl, hM2, e2⟩ := numbers_draw hM1
        obtain ⟨r, M3, _, _, hM3, e3⟩ := next_ok hM2 (m := 90) (by decide) (by decide)
        exact ⟨_, M3, .mk a r l hl, hM3, by simp [akE_eq, mkI_eq, gI, e1, e2, e3, G_Part]⟩
    refine fin (.parts ys hP (by omega)) hM2 (runF_rt ?_)
    unfold sv__law_fact
    simp [e1, oEq_int, e2, akE_eq, mkI_eq, gI, G_Parts]
  · obtain ⟨a, M2, ha, hM2, e2⟩ := numbers_draw hM1
    obtain ⟨b, M3, hb, hM3, e3⟩ := numbers_draw hM2
    refine fin (.cell a b ha hb) hM3 (runF_rt ?_)
    unfold sv__law_fact
    simp [e1, oEq_int, e2, e3, akE_eq, mkI_eq, gI, G_Cell]
  · obtain ⟨a, M2, ha, hM2, e2⟩ := numbers_draw hM1
    obtain ⟨b, M3, hb, hM3, e3⟩ := numbers_draw hM2
    refine fin (.box a b ha hb) hM3 (runF_rt ?_)
    unfold sv__law_fact
    simp [e1, oEq_int, e2, e3, akE_eq, mkI_eq, gI, G_Box]
  · obtain ⟨a, M2, _, _, hM2, e2⟩ := next_ok hM1 (m := 90) (by decide) (by decide)
    obtain ⟨b, M3, _, _, hM3, e3⟩ := next_ok hM2 (m := 90) (by decide) (by decide)
    refine fin (.norms a (b * 1000000000)) hM3 (runF_rt ?_)
    unfold sv__law_fact
    simp [e1, oEq_int, e2, e3, p9, oMul_r, akE_eq, mkI_eq, gI, G_Norms]
  · obtain ⟨a, M2, ha, hM2, e2⟩ := numbers_draw hM1
    obtain ⟨b, M3, _, _, hM3, e3⟩ := next_ok hM2 (m := 9) (by decide) (by decide)
    refine fin (.differ a b ha) hM3 (runF_rt ?_)
    unfold sv__law_fact
    simp [e1, oEq_int, e2, e3, akE_eq, mkI_eq, gI, G_Differ]
  · obtain ⟨q, M2, hq0, hq1, hM2, e2⟩ := next_ok hM1 (m := 3) (by decide) (by decide)
    have key : ∃ (l : List Nat) (v : Int), Wl l v ∧ atI [D.str [110, 111, 98, 111, 100, 121], .str [115, 111, 109, 101], .str [97, 108, 108]] q = some (.str l) := by
      have : q = 0 ∨ q = 1 ∨ q = 2 := by omega
      rcases this with rfl | rfl | rfl
      · exact ⟨_, _, .a, rfl⟩
      · exact ⟨_, _, .b, rfl⟩
      · exact ⟨_, _, .c, rfl⟩
    obtain ⟨l, v, hl, el⟩ := key
    have hk : k = 5 ∨ k = 6 ∨ k = 7 ∨ k = 8 := by omega
    rcases hk with rfl | rfl | rfl | rfl
    · obtain ⟨s, M3, hs, hM3, e3⟩ := string_draw hM2
      obtain ⟨a, M4, _, _, hM4, e4⟩ := next_ok hM3 (m := 90) (by decide) (by decide)
      obtain ⟨b, M5, _, _, hM5, e5⟩ := next_ok hM4 (m := 90) (by decide) (by decide)
      refine fin (.range s l (-a) b v hs hl) hM5 (runF_rt ?_)
      unfold sv__law_fact
      simp [e1, oEq_int, e2, oIx_lst el, big, e3, e4, e5, akE_eq, mkI_eq, gC, G_Range]
    · obtain ⟨s, M3, hs, hM3, e3⟩ := string_draw hM2
      obtain ⟨ys, M4, hM4, hP, hly, e4⟩ := drawn (j := 2) (m := 3) (Γ := [.d (.hdl 0), .d (.int 6), .un, .d (.str l)]) (G := [.d (.hdl 0), .d (.int 6), .un, .d (.str l)]) (Pd := Wv) (e := callE F__law_worth gId (aCons (up (pVar 0)) (aNil))) hM3 (by decide) (by decide) rfl rfl (by simp) fun z M hM => by
        obtain ⟨w, M', hw, hM', e⟩ := worth_draw hM
        exact ⟨w, M', hw, hM', by simp [e]⟩
      refine fin (.values s l ys v hs hl hP (by omega)) hM4 (runF_rt ?_)
      unfold sv__law_fact
      simp [e1, oEq_int, e2, oIx_lst el, big, e3, e4, akE_eq, mkI_eq, gC, G_Values]
    · obtain ⟨ys, M4, hM4, hP, hly, e4⟩ := drawn (j := 2) (m := 3) (Γ := [.d (.hdl 0), .d (.int 7), .un, .d (.str l)]) (G := [.d (.hdl 0), .d (.int 7), .un, .d (.str l)]) (Pd := Wpr) (e := eTup (aCons (callE F__law_string gId (aCons (up (pVar 0)) (aNil))) (aCons (callE F__law_next gId (aCons (up (pVar 0)) (aCons (up (pC (.int 9))) (aNil)))) (aNil)))) hM2 (by decide) (by decide) rfl rfl (by simp) fun z M hM => by
        obtain ⟨s, M1, hs, hM1, e1⟩ := string_draw hM
        obtain ⟨b, M2, _, _, hM2, e2⟩ := next_ok hM1 (m := 9) (by decide) (by decide)
        exact ⟨_, M2, .mk s b hs, hM2, by simp [e1, e2, big]⟩
      refine fin (.counts ys hP (by omega)) hM4 (runF_rt ?_)
      unfold sv__law_fact
      simp [e1, oEq_int, e2, oIx_lst el, big, e4, akE_eq, mkI_eq, gI, G_Counts hP (by omega)]
    · obtain ⟨s, M3, hs, hM3, e3⟩ := string_draw hM2
      obtain ⟨t, M4, ht, hM4, e4⟩ := string_draw hM3
      refine fin (.names s t hs ht) hM4 (runF_rt ?_)
      unfold sv__law_fact
      simp [e1, oEq_int, e2, oIx_lst el, big, e3, e4, akE_eq, mkI_eq, gI, G_Names]
end Q

set_option maxHeartbeats 2000000
namespace Q
open PySem PySem.Spec PyProof.Rows L2 Z
theorem fsplit {x : D} {xs : List D} : True := trivial
theorem G_Record {s : List Nat} {v : List Int} {fs ws : List D} (hf : ∀ z ∈ fs, Wfv z) (hl : fs.length ≤ 4) (hw : ∀ z ∈ ws, Wpr z) (hl2 : ws.length ≤ 4) (M : Mm) : G_Record___init__ [] [.str s, Li v, .lst fs, .lst ws] M = .ok ([(18, .str s), (19, .tup (ii v)), (20, .tup fs), (12, .tup ws)], M) := by
  have bb : 1000 ≤ big := by decide
  have e1 : ∀ o, fLc (itU (up (pVar 3))) [5, 6] (gvT 2 (gvCons (gvN 5) (gvCons (gvN 6) (gvNil)))) (tYesV) (eTup (aCons (up (pVar 5)) (aCons (up (pVar 6)) (aNil)))) [.o o, .d (.str s), .d (Li v), .d (.lst fs), .d (.lst ws), .un, .un, .un, .un] M = .ok (fs, M) := fun o => by
    rw [fLc_lst (G := [.o o, .d (.str s), .d (Li v), .d (.lst fs), .d (.lst ws), .un, .un, .un, .un]) (xs := fs) (M1 := M) rfl rfl (by omega)]
    exact pair_lc (fun z hz => by
      cases hf z hz with
      | mk s w h hw => exact ⟨_, _, rfl⟩) (by decide) (by simp) (by simp)
  have e2 : ∀ o, fLc (itU (up (pVar 4))) [7, 8] (gvT 2 (gvCons (gvN 7) (gvCons (gvN 8) (gvNil)))) (tYesV) (eTup (aCons (up (pVar 7)) (aCons (up (pVar 8)) (aNil)))) [.o o, .d (.str s), .d (Li v), .d (.lst fs), .d (.lst ws), .un, .un, .un, .un] M = .ok (ws, M) := fun o => by
    rw [fLc_lst (G := [.o o, .d (.str s), .d (Li v), .d (.lst fs), .d (.lst ws), .un, .un, .un, .un]) (xs := ws) (M1 := M) rfl rfl (by omega)]
    exact pair_lc (fun z hz => by
      cases hw z hz with
      | mk s i h => exact ⟨_, _, rfl⟩) (by decide) (by simp) (by simp)
  have e3 : sv_Record___init__ [.o (.ins 1 []), .d (.str s), .d (Li v), .d (.lst fs), .d (.lst ws), .un, .un, .un, .un] M = .ok (.nx [.o (.ins 1 [(18, .str s), (19, .tup (ii v)), (20, .tup fs), (12, .tup ws)]), .d (.str s), .d (Li v), .d (.lst fs), .d (.lst ws), .un, .un, .un, .un]) M := by
    unfold sv_Record___init__
    rw [sSeq_eq]
    show ((SR.ok (.nx [.o (.ins 1 [(18, .str s)]), .d (.str s), .d (Li v), .d (.lst fs), .d (.lst ws), .un, .un, .un, .un]) M).bind _) = _
    rw [s_nx, sSeq_eq]
    show ((SR.ok (.nx [.o (.ins 1 [(18, .str s), (19, .tup (ii v))]), .d (.str s), .d (Li v), .d (.lst fs), .d (.lst ws), .un, .un, .un, .un]) M).bind _) = _
    rw [s_nx, sSeq_eq, sPutO_eq, e1_eq, asD_eq, e1]
    show ((SR.ok (.nx [.o (.ins 1 [(18, .str s), (19, .tup (ii v)), (20, .tup fs)]), .d (.str s), .d (Li v), .d (.lst fs), .d (.lst ws), .un, .un, .un, .un]) M).bind _) = _
    rw [s_nx, sPutO_eq, e1_eq, asD_eq, e2]
    rfl
  show (match sv_Record___init__ [.o (.ins 1 []), .d (.str s), .d (Li v), .d (.lst fs), .d (.lst ws), .un, .un, .un, .un] M with
    | .ok (.nx Γ) M' => (match (Γ[0]? : Option Sl) with
      | some (.o (.ins c' fs')) => if c' = 1 then R.ok (fs', M') else .bad
      | _ => .bad)
    | .exc c _ M' => .exc c M'
    | _ => .bad) = _
  rw [e3]
  rfl
theorem record_draw {ns : List Int} {M : Mm} (hM : St ns M) : ∃ (r : D) (M' : Mm), HRc r ∧ St ns M' ∧ F__law_record [.hdl 0] M = .ok (r, M') := by
  obtain ⟨fs, M1, hM1, hP1, hl1, e1⟩ := drawn (j := 2) (m := 3) (Γ := [.d (.hdl 0), .un, .un, .un]) (G := [.d (.hdl 0), .un, .un, .un]) (Pd := Wfv) (e := eTup (aCons (callE F__law_string gId (aCons (up (pVar 0)) (aNil))) (aCons (callE F__law_worth gId (aCons (up (pVar 0)) (aNil))) (aNil)))) hM (by decide) (by decide) rfl rfl (by simp) fun z M hM => by
    obtain ⟨s, M1, hs, hM1, e1⟩ := string_draw hM
    obtain ⟨w, M2, hw, hM2, e2⟩ := worth_draw hM1
    exact ⟨_, M2, .mk s w hs hw, hM2, by simp [e1, e2, big]⟩
  obtain ⟨ws, M2, hM2, hP2, hl2, e2⟩ := drawn (j := 2) (m := 3) (Γ := [.d (.hdl 0), .d (.lst fs), .un, .un]) (G := [.d (.hdl 0), .d (.lst fs), .un, .un]) (Pd := Wpr) (e := eTup (aCons (callE F__law_string gId (aCons (up (pVar 0)) (aNil))) (aCons (e2 oAdd (up (pC (.int 1))) (callE F__law_next gId (aCons (up (pVar 0)) (aCons (up (pC (.int 9))) (aNil))))) (aNil)))) hM1 (by decide) (by decide) rfl rfl (by simp) fun z M hM => by
    obtain ⟨s, M1, hs, hM1, e1⟩ := string_draw hM
    obtain ⟨r, M2, _, _, hM2, e2⟩ := next_ok hM1 (m := 9) (by decide) (by decide)
    exact ⟨_, M2, .mk s (1 + r) hs, hM2, by simp [e1, e2, big]⟩
  obtain ⟨s, M3, hs, hM3, e3⟩ := string_draw hM2
  obtain ⟨v, M4, hv, hM4, e4⟩ := numbers_draw hM3
  refine ⟨_, M4, record_hc hs hv hP1 (by omega) hP2 (by omega), hM4, runF_rt ?_⟩
  unfold sv__law_record
  simp [e1, e2, e3, e4, akE_eq, mkI_eq, gC, G_Record hP1 (by omega) hP2 (by omega)]
/-! ### loops that draw -/
theorem loop_inv {N : Nat} {g : GV} {b : SV} {I : Nat → Gm → Mm → Prop} : ∀ {xs : List D} {n : Nat} {Γ : Gm} {M : Mm}, n + xs.length ≤ N → I n Γ M → (∀ z ∈ xs, ∀ n Γ M, n < N → I n Γ M → ∃ Γ' Γ2 M2, g z Γ = some Γ' ∧ b Γ' M = .ok (.nx Γ2) M2 ∧ I (n + 1) Γ2 M2) → ∃ Γ2 M2, loopL g b xs Γ M = .ok (.nx Γ2) M2 ∧ I (n + xs.length) Γ2 M2
  | [], n, Γ, M, _, hI, _ => ⟨Γ, M, rfl, hI⟩
  | z :: xs, n, Γ, M, hN, hI, h => by
    rw [List.length_cons] at hN
    obtain ⟨Γ', Γ2, M2, h1, h2, h3⟩ := h z (List.mem_cons_self ..) n Γ M (by omega) hI
    obtain ⟨Γ3, M3, h4, h5⟩ := loop_inv (by omega) h3 fun w hw => h w (List.mem_cons_of_mem _ hw)
    refine ⟨Γ3, M3, ?_, by rw [List.length_cons, show n + (xs.length + 1) = n + 1 + xs.length by omega]; exact h5⟩
    rw [loopL, h1]
    show ((b Γ' M).loop fun Γ2 M2 => loopL g b xs Γ2 M2) = _
    rw [h2]
    exact h4
theorem sMut_app {i : Nat} {ea : AV} {Γ : Gm} {M M' : Mm} {ds : List D} {x : D} (h1 : Γ[i]? = some (.o (.lst ds))) (h2 : ea Γ M = .ok ([x], M')) (h3 : ds.length < big) : sMut oApp i ea Γ M = .ok (.nx (Γ.set i (.o (.lst (ds ++ [x]))))) M' := by
  unfold sMut
  rw [h1]
  show ((ea Γ M).st Γ fun s => match oApp s.2 s.1 ds with | some t => SR.ok (.nx (Γ.set i (.o (.lst t.2)))) s.2 | none => .bad) = _
  rw [h2]
  show (match (if ds.length < big then some (D.non, ds ++ [x]) else none) with | some t => SR.ok (.nx (Γ.set i (.o (.lst t.2)))) M' | none => .bad) = _
  rw [if_pos h3]
theorem G_Region (p : D) (fs : List D) (M : Mm) : G_Region___init__ [] [p, .lst fs] M = .ok ([(13, p), (14, .tup fs)], M) := rfl
theorem G_Entry (n : Int) (r : D) (l : List Int) (M : Mm) : G_Entry___init__ [] [.int n, r, Li l] M = .ok ([(15, .int n), (16, r), (17, .tup (ii l))], M) := rfl
theorem range_it {ns : List Int} {M : Mm} {Γ : Gm} {m : Int} (hM : St ns M) (h1 : 0 < m) (h2 : m ≤ 1000) (h0 : Γ[0]? = some (.d (.hdl 0))) : ∃ (r : Int) (M1 : Mm), 0 ≤ r ∧ r < m ∧ St ns M1 ∧ itR1 (aCons (callE F__law_next gId (aCons (up (pVar 0)) (aCons (up (pC (.int m))) (aNil)))) (aNil)) Γ M = .ok (.tup (rngD 0 r.toNat), M1) := by
  obtain ⟨r, M1, hr0, hr1, hM1, e1⟩ := next_ok hM h1 (by omega)
  refine ⟨r, M1, hr0, hr1, hM1, ?_⟩
  simp [itR1_eq, h0, e1]
  omega
/-- the regions of a partition are drawn -/
def bReg : SV := (sSeq (sAsg 5 (e2 oIx (asD (fLst (aCons (up (pC .non)) (aCons (e2 oSub (callE F__law_next gId (aCons (up (pVar 0)) (aCons (up (pC (.int 5))) (aNil)))) (up (pC (.int 1)))) (aNil))))) (callE F__law_next gId (aCons (up (pVar 0)) (aCons (up (pC (.int 2))) (aNil)))))) (sMut oApp 3 (aCons (akE (aCons (up (pVar 5)) (aCons (asD (fLc (itR1 (aCons (callE F__law_next gId (aCons (up (pVar 0)) (aCons (up (pC (.int 3))) (aNil)))) (aNil))) [6] (gvN 6) (tYesV) (callE F__law_fact gId (aCons (up (pVar 0)) (aNil))))) (aNil))) (aNil) (mkI 13 G_Region___init__ gId)) (aNil))))
theorem reg_turn {ns : List Int} {M : Mm} (hM : St ns M) (a1 a2 a4 a5 a7 : Sl) (rs : List D) (hl : rs.length < 100) (hr : ∀ r ∈ rs, HR r) :
    ∃ (a5' : Sl) (r : D) (M' : Mm), HR r ∧ St ns M' ∧ bReg [.d (.hdl 0), a1, a2, .o (.lst rs), a4, a5, .un, a7] M = .ok (.nx [.d (.hdl 0), a1, a2, .o (.lst (rs ++ [r])), a4, a5', .un, a7]) M' := by
  have bb : 1000 ≤ big := by decide
  obtain ⟨p, M1, _, _, hM1, e1⟩ := next_ok hM (m := 5) (by decide) (by decide)
  obtain ⟨q, M2, hq0, hq1, hM2, e2⟩ := next_ok hM1 (m := 2) (by decide) (by decide)
  have key : ∃ d, Wpar d ∧ atI [D.non, .int (p - 1)] q = some d := by
    have : q = 0 ∨ q = 1 := by omega
    rcases this with rfl | rfl
    · exact ⟨_, .non, rfl⟩
    · exact ⟨_, .int _, rfl⟩
  obtain ⟨d, hd, ed⟩ := key
  obtain ⟨fs, M3, hM3, hP, hlf, e3⟩ := drawn (j := 6) (m := 3) (Γ := [.d (.hdl 0), a1, a2, .o (.lst rs), a4, .d d, .un, a7]) (G := [.d (.hdl 0), a1, a2, .o (.lst rs), a4, .d d, .un, a7]) (Pd := HF) (e := callE F__law_fact gId (aCons (up (pVar 0)) (aNil))) hM2 (by decide) (by decide) rfl rfl (by simp) fun z M hM => by
    obtain ⟨f, M', hf, hM', e⟩ := fact_draw hM
    exact ⟨f, M', hf, hM', by simp [e]⟩
  refine ⟨.d d, Rg d fs, M3, region_hc hd hP (by omega), hM3, ?_⟩
  unfold bReg
  rw [sSeq_eq]
  have e4 : sAsg 5 (Z.e2 oIx (asD (fLst (aCons (up (pC .non)) (aCons (Z.e2 oSub (callE F__law_next gId (aCons (up (pVar 0)) (aCons (up (pC (.int 5))) (aNil)))) (up (pC (.int 1)))) (aNil))))) (callE F__law_next gId (aCons (up (pVar 0)) (aCons (up (pC (.int 2))) (aNil))))) [.d (.hdl 0), a1, a2, .o (.lst rs), a4, a5, .un, a7] M = .ok (.nx [.d (.hdl 0), a1, a2, .o (.lst rs), a4, .d d, .un, a7]) M2 := by
    simp [e1, e2, oIx_lst ed, big]
  rw [e4, s_nx, sMut_app (ds := rs) (x := Rg d fs) (M' := M3) rfl (by simp [akE_eq, mkI_eq, gI, e3, G_Region]) (by omega)]
  rfl
/-- what a partition of an offer is -/
def HP (d : D) : Prop := ∃ rs : List D, d = .lst rs ∧ rs.length ≤ 4 ∧ ∀ r ∈ rs, HR r
inductive We : D → Prop where
  | mk (n : Int) (r : D) (l : List Int) (hr : HRc r) (hl : l.length ≤ 4) : We (.ins 14 [(15, .int n), (16, r), (17, .tup (ii l))])
def toT : D → D
  | .lst xs => .tup xs
  | d => d
theorem G_Offer {ps es : List D} (hp : ∀ p ∈ ps, HP p) (hl : ps.length < 100) (M : Mm) : G_Offer___init__ [] [.lst ps, .lst es] M = .ok ([(21, .tup (ps.map toT)), (22, .tup es)], M) := by
  have bb : 1000 ≤ big := by decide
  have e1 : fLc (itU (up (pVar 1))) [3] (gvN 3) (tYesV) (up (p1 oTupOf (pVar 3))) [.o (.ins 15 []), .d (.lst ps), .d (.lst es), .un] M = .ok (ps.map toT, M) := by
    rw [fLc_lst (G := [.o (.ins 15 []), .d (.lst ps), .d (.lst es), .un]) (xs := ps) (M1 := M) rfl rfl (by omega)]
    refine lc_map fun z hz => ⟨_, rfl, ?_⟩
    obtain ⟨rs, rfl, _⟩ := hp z hz
    rfl
  have e3 : sv_Offer___init__ [.o (.ins 15 []), .d (.lst ps), .d (.lst es), .un] M = .ok (.nx [.o (.ins 15 [(21, .tup (ps.map toT)), (22, .tup es)]), .d (.lst ps), .d (.lst es), .un]) M := by
    unfold sv_Offer___init__
    rw [sSeq_eq, sPutO_eq, e1_eq, asD_eq, e1]
    rfl
  show (match sv_Offer___init__ [.o (.ins 15 []), .d (.lst ps), .d (.lst es), .un] M with
    | .ok (.nx Γ) M' => (match (Γ[0]? : Option Sl) with
      | some (.o (.ins c' fs')) => if c' = 15 then R.ok (fs', M') else .bad
      | _ => .bad)
    | .exc c _ M' => .exc c M'
    | _ => .bad) = _
  rw [e3]
  rfl
def bPar : SV := sSeq (sAsgF 3 (fLst (aNil))) (sSeq (sFor (itR1 (aCons (callE F__law_next gId (aCons (up (pVar 0)) (aCons (up (pC (.int 4))) (aNil)))) (aNil))) (gvN 4) bReg) (sFrz 3 (sMut oApp 1 (aCons (up (pVar 3)) (aNil)))))
theorem par_turn {ns : List Int} {M : Mm} (hM : St ns M) (a2 a3 a4 a5 : Sl) (ps : List D) (hl : ps.length < 100) :
    ∃ (a3' a4' a5' : Sl) (p : D) (M' : Mm), HP p ∧ St ns M' ∧ bPar [.d (.hdl 0), .o (.lst ps), a2, a3, a4, a5, .un, .un] M = .ok (.nx [.d (.hdl 0), .o (.lst (ps ++ [p])), a2, a3', a4', a5', .un, .un]) M' := by
  have bb : 1000 ≤ big := by decide
  obtain ⟨r1, M1, h10, h11, hM1, e1⟩ := range_it (m := 4) (Γ := [.d (.hdl 0), .o (.lst ps), a2, .o (.lst []), a4, a5, .un, .un]) hM (by decide) (by decide) rfl
  obtain ⟨Γ2, M2, h2, b4, b5, rs, rfl, hrl, hrs, hM2⟩ := loop_inv (N := 4) (g := gvN 4) (b := bReg) (I := fun n Γ M => ∃ (b4 b5 : Sl) (rs : List D), Γ = [.d (.hdl 0), .o (.lst ps), a2, .o (.lst rs), b4, b5, .un, .un] ∧ rs.length = n ∧ (∀ r ∈ rs, HR r) ∧ St ns M)
    (xs := rngD 0 r1.toNat) (n := 0) (Γ := [.d (.hdl 0), .o (.lst ps), a2, .o (.lst []), a4, a5, .un, .un]) (M := M1) (by rw [rngD_len]; omega) ⟨_, _, [], rfl, rfl, fun p hp => absurd hp (by simp), hM1⟩ fun z hz n Γ M hn hI => by
      obtain ⟨b4, b5, rs, rfl, hrl, hrs, hM⟩ := hI
      obtain ⟨b5', r, M', hr, hM', e⟩ := reg_turn hM (.o (.lst ps)) a2 (.d z) b5 .un rs (by omega) hrs
      refine ⟨[.d (.hdl 0), .o (.lst ps), a2, .o (.lst rs), .d z, b5, .un, .un], _, M', rfl, e, _, _, _, rfl, by simp [hrl], fun q hq => ?_, hM'⟩
      rcases List.mem_append.mp hq with h | h
      · exact hrs q h
      · rw [List.mem_singleton.mp h]; exact hr
  rw [rngD_len] at hrl
  refine ⟨.d (.lst rs), b4, b5, .lst rs, M2, ⟨rs, rfl, by omega, hrs⟩, hM2, ?_⟩
  unfold bPar
  rw [sSeq_eq]
  show ((SR.ok (.nx [.d (.hdl 0), .o (.lst ps), a2, .o (.lst []), a4, a5, .un, .un]) M).bind _) = _
  rw [s_nx, sSeq_eq, sFor_tup e1, h2, s_nx, sFrz_o (ds := rs) rfl, sMut_app (ds := ps) (x := .lst rs) (M' := M2) rfl rfl (by omega)]
  rfl
def bEnt : SV := sMut oApp 7 (aCons (akE (aCons (callE F__law_next gId (aCons (up (pVar 0)) (aCons (up (p2 oPow (pC (.int 10)) (pC (.int 6)))) (aNil)))) (aCons (callE F__law_record gId (aCons (up (pVar 0)) (aNil))) (aCons (callE F__law_numbers gId (aCons (up (pVar 0)) (aNil))) (aNil)))) (aNil) (mkI 14 G_Entry___init__ gId)) (aNil))
theorem ent_turn {ns : List Int} {M : Mm} (hM : St ns M) (a1 a2 a3 a4 a5 a6 : Sl) (es : List D) (hl : es.length < 100) :
    ∃ (e : D) (M' : Mm), We e ∧ St ns M' ∧ bEnt [.d (.hdl 0), a1, a2, a3, a4, a5, a6, .o (.lst es)] M = .ok (.nx [.d (.hdl 0), a1, a2, a3, a4, a5, a6, .o (.lst (es ++ [e]))]) M' := by
  have bb : 1000 ≤ big := by decide
  have p6 : ∀ M, oPow M (.d (.int 10)) (.d (.int 6)) = some (.int 1000000) := fun M => oPow_r (by decide) (by decide) (by decide)
  obtain ⟨n, M1, _, _, hM1, h1⟩ := next_ok hM (m := 1000000) (by decide) (by decide)
  obtain ⟨r, M2, hr, hM2, h2⟩ := record_draw hM1
  obtain ⟨l, M3, hl3, hM3, h3⟩ := numbers_draw hM2
  refine ⟨_, M3, .mk n r l hr hl3, hM3, ?_⟩
  unfold bEnt
  rw [sMut_app (ds := es) (x := .ins 14 [(15, .int n), (16, r), (17, .tup (ii l))]) (M' := M3) rfl (by simp [akE_eq, mkI_eq, gI, p6, h1, h2, h3, G_Entry]) (by omega)]
  rfl
theorem offer_draw {ns : List Int} {M : Mm} (hM : St ns M) : ∃ (ps es : List D) (M' : Mm), (∀ p ∈ ps, HP p) ∧ ps.length ≤ 4 ∧ (∀ e ∈ es, We e) ∧ es.length ≤ 4 ∧ St ns M' ∧ F__law_offer [.hdl 0] M = .ok (.ins 15 [(21, .tup (ps.map toT)), (22, .tup es)], M') := by
  have bb : 1000 ≤ big := by decide
  obtain ⟨r1, M1, h10, h11, hM1, h1⟩ := range_it (m := 3) (Γ := [.d (.hdl 0), .o (.lst []), .un, .un, .un, .un, .un, .un]) hM (by decide) (by decide) rfl
  obtain ⟨Γ2, M2, h2, b2, b3, b4, b5, ps, rfl, hpl, hps, hM2⟩ := loop_inv (N := 4) (g := gvN 2) (b := bPar)
    (I := fun n Γ M => ∃ (a2 a3 a4 a5 : Sl) (ps : List D), Γ = [.d (.hdl 0), .o (.lst ps), a2, a3, a4, a5, .un, .un] ∧ ps.length = n ∧ (∀ p ∈ ps, HP p) ∧ St ns M) (xs := rngD 0 r1.toNat) (n := 0) (Γ := [.d (.hdl 0), .o (.lst []), .un, .un, .un, .un, .un, .un]) (M := M1) (by rw [rngD_len]; omega) ⟨_, _, _, _, [], rfl, rfl, fun p hp => absurd hp (by simp), hM1⟩ fun z hz n Γ M hn hI => by
      obtain ⟨a2, a3, a4, a5, ps, rfl, hpl, hps, hM⟩ := hI
      obtain ⟨a3', a4', a5', p, M', hp, hM', e⟩ := par_turn hM (.d z) a3 a4 a5 ps (by omega)
      refine ⟨[.d (.hdl 0), .o (.lst ps), .d z, a3, a4, a5, .un, .un], _, M', rfl, e, _, _, _, _, _, rfl, by simp [hpl], fun q hq => ?_, hM'⟩
      rcases List.mem_append.mp hq with h | h
      · exact hps q h
      · rw [List.mem_singleton.mp h]; exact hp
  rw [rngD_len] at hpl
  obtain ⟨r3, M3, h30, h31, hM3, h3⟩ := range_it (m := 4) (Γ := [.d (.hdl 0), .o (.lst ps), b2, b3, b4, b5, .un, .o (.lst [])]) hM2 (by decide) (by decide) rfl
  obtain ⟨Γ4, M4, h4, c2, es, rfl, hel, hes, hM4⟩ := loop_inv (N := 4) (g := gvN 2) (b := bEnt)
    (I := fun n Γ M => ∃ (a2 : Sl) (es : List D), Γ = [.d (.hdl 0), .o (.lst ps), a2, b3, b4, b5, .un, .o (.lst es)] ∧ es.length = n ∧ (∀ e ∈ es, We e) ∧ St ns M) (xs := rngD 0 r3.toNat) (n := 0) (Γ := [.d (.hdl 0), .o (.lst ps), b2, b3, b4, b5, .un, .o (.lst [])]) (M := M3) (by rw [rngD_len]; omega) ⟨_, [], rfl, rfl, fun p hp => absurd hp (by simp), hM3⟩ fun z hz n Γ M hn hI => by
      obtain ⟨a2, es, rfl, hel, hes, hM⟩ := hI
      obtain ⟨e, M', he, hM', h⟩ := ent_turn hM (.o (.lst ps)) (.d z) b3 b4 b5 .un es (by omega)
      refine ⟨[.d (.hdl 0), .o (.lst ps), .d z, b3, b4, b5, .un, .o (.lst es)], _, M', rfl, h, _, _, rfl, by simp [hel], fun q hq => ?_, hM'⟩
      rcases List.mem_append.mp hq with h | h
      · exact hes q h
      · rw [List.mem_singleton.mp h]; exact he
  rw [rngD_len] at hel
  refine ⟨ps, es, M4, hps, by omega, hes, by omega, hM4, runF_rt ?_⟩
  have hsv : sv__law_offer = sSeq (sAsgF 1 (fLst (aNil))) (sSeq (sFor (itR1 (aCons (callE F__law_next gId (aCons (up (pVar 0)) (aCons (up (pC (.int 3))) (aNil)))) (aNil))) (gvN 2) bPar) (sSeq (sAsgF 7 (fLst (aNil))) (sSeq (sFor (itR1 (aCons (callE F__law_next gId (aCons (up (pVar 0)) (aCons (up (pC (.int 4))) (aNil)))) (aNil))) (gvN 2) bEnt) (sFrz 7 (sFrz 1 (sRet (akE (aCons (up (pVar 1)) (aCons (up (pVar 7)) (aNil))) (aNil) (mkI 15 G_Offer___init__ gId)))))))) := rfl
  rw [hsv, sSeq_eq]
  show ((SR.ok (.nx [.d (.hdl 0), .o (.lst []), .un, .un, .un, .un, .un, .un]) M).bind _) = _
  rw [s_nx, sSeq_eq, sFor_tup h1, h2, s_nx, sSeq_eq]
  show ((SR.ok (.nx [.d (.hdl 0), .o (.lst ps), b2, b3, b4, b5, .un, .o (.lst [])]) M2).bind _) = _
  rw [s_nx, sSeq_eq, sFor_tup h3, h4, s_nx, sFrz_o (ds := es) rfl, sFrz_o (ds := ps) rfl]
  simp [akE_eq, mkI_eq, gI, G_Offer hps (show ps.length < 100 by omega)]
end Q

set_option maxHeartbeats 2000000
namespace Q
open PySem PySem.Spec PyProof.Rows L2 Z
theorem orT_eq (t u : TV) (Γ : Gm) (M : Mm) : orT t u Γ M = (t Γ M).bind fun r => if r.1 = true then .ok (true, r.2) else u Γ r.2 := rfl
theorem nT_eq (t : TV) (Γ : Gm) (M : Mm) : nT t Γ M = (t Γ M).bind fun r => .ok (!r.1, r.2) := rfl
theorem parts_agree_ok {ns : List Int} {M : Mm} (hM : St ns M) : ∃ M', St ns M' ∧ F__law_parts_agree [.hdl 0] M = .ok (.bl true, M') := by
  have bb : 1000 ≤ big := by decide
  obtain ⟨s, M1, hs, hM1, h1⟩ := string_draw hM
  obtain ⟨w, M2, hw, hM2, h2⟩ := worth_draw hM1
  obtain ⟨l, M3, hl, hM3, h3⟩ := numbers_draw hM2
  refine ⟨M3, hM3, runF_rt ?_⟩
  have eC : D.lst [Li l, Li [], Li [7]] = Cs [l, [], [7]] := rfl
  have e0 : D.lst [] = Li [] := rfl
  have vs : ∀ Γ : Gm, Γ[3]? = some (.d (Li l)) → f1 vSeq (pVar 3) Γ M3 = .ok (ii l, M3) := fun Γ h => f1_vSeq_lst 3 Γ M3 (ii l) h
  have lst := list_ok [l, [], [7]] M3 (by simp; omega)
  have eL : cLis [l, [], [7]] = 3 :: (l ++ [7]) := by simp [cLis]
  rw [eL] at lst
  unfold sv__law_parts_agree
  simp [h1, h2, h3, string_ok s M3 (by omega), law_text_ok s M3 (by omega), value_ok hw M3, law_value_ok hw M3, numbers_lst l M3 (by omega), counted_lst l M3 (by omega), oEq_Li, orT_eq, vs, Li_lst, maybe_non, maybe_Li l M3 (by omega), big1, Li1, e0, oAdd_Li (M := M3) (a := [1]) (b := l) (by simp; omega), oAdd_Li (M := M3) (a := [3]) (b := l) (by simp; omega), oAdd_Li (M := M3) (a := 3 :: l) (b := [7]) (by simp; omega), eC, lst, show 3 ≤ big by omega, list_ok [l, [], [7]] M3 (by simp; omega), cLis]
/-! ### the law's loops -/
def bF : SV := sSeq (sAsg 3 (callE F__law_fact gId (aCons (up (pVar 1)) (aNil)))) (sIf (bT (e2 (oEq true) (callE F_fact_code gId (aCons (up (pVar 3)) (aNil))) (callE F__law_fact_due gId (aCons (up (pVar 3)) (aNil))))) (sRet (up (pC (.bl false)))) (sNil))
theorem fact_turn {ns : List Int} {M : Mm} (hM : St ns M) (a0 a2 a3 : Sl) : ∃ (b3 : Sl) (M' : Mm), St ns M' ∧ bF [a0, .d (.hdl 0), a2, a3, .un, .un, .un, .un, .un, .un] M = .ok (.nx [a0, .d (.hdl 0), a2, b3, .un, .un, .un, .un, .un, .un]) M' := by
  obtain ⟨f, M1, hf, hM1, h1⟩ := fact_draw hM
  refine ⟨.d f, M1, hM1, ?_⟩
  unfold bF
  simp [h1, (cOf_ok hf).f M1, (cOf_ok hf).g M1, oEq_Li]
def bR : SV := sIf (bT (e2 (oEq true) (callE F_region_code gId (aCons (up (pVar 7)) (aNil))) (callE F__law_region_due gId (aCons (up (pVar 7)) (aNil))))) (sRet (up (pC (.bl false)))) (sNil)
theorem regs_loop (M : Mm) (a0 a1 a2 a3 a4 a5 a6 a8 a9 : Sl) : ∀ (rs : List D) (v : Sl), (∀ r ∈ rs, HR r) → (∀ y, v ≠ .o y) → ∃ v', (∀ y, v' ≠ .o y) ∧ loopL (gvN 7) bR rs [a0, a1, a2, a3, a4, a5, a6, v, a8, a9] M = .ok (.nx [a0, a1, a2, a3, a4, a5, a6, v', a8, a9]) M
  | [], v, _, hv => ⟨v, hv, rfl⟩
  | r :: rs, v, h, _ => by
    obtain ⟨v', hv', e⟩ := regs_loop M a0 a1 a2 a3 a4 a5 a6 a8 a9 rs (.d r) (fun z hz => h z (List.mem_cons_of_mem _ hz)) (fun y z => nomatch z)
    have hr := cOf_ok (h r (List.mem_cons_self ..))
    refine ⟨v', hv', ?_⟩
    have e1 : bR [a0, a1, a2, a3, a4, a5, a6, .d r, a8, a9] M = .ok (.nx [a0, a1, a2, a3, a4, a5, a6, .d r, a8, a9]) M := by
      unfold bR
      simp [hr.f M, hr.g M, oEq_Li]
    rw [loopL]
    show ((bR [a0, a1, a2, a3, a4, a5, a6, .d r, a8, a9] M).loop _) = _
    rw [e1]
    exact e
def bP : SV := sSeq (sFor (itU (up (pVar 6))) (gvN 7) bR) (sSeq (sMut oApp 5 (aCons (callE F__law_list gId (aCons (asD (fLc (itU (up (pVar 6))) [7] (gvN 7) (tYesV) (callE F__law_region_due gId (aCons (up (pVar 7)) (aNil))))) (aNil))) (aNil))) (sIf (bT (e2 (oEq true) (callE F_partition_code gId (aCons (up (pVar 6)) (aNil))) (up (p2 oIx (pVar 5) (p2 oSub (p1 oLen (pVar 5)) (pC (.int 1))))))) (sRet (up (pC (.bl false)))) (sNil)))
noncomputable def cP : D → List Int
  | .lst rs => cLis (rs.map cRg)
  | _ => []
theorem cP_len {p : D} (h : HP p) : (cP p).length ≤ 1601 := by
  obtain ⟨rs, rfl, hl, hr⟩ := h
  exact codes_len hr hl
theorem CL_app (a : List (List Int)) (c : List Int) : CL a ++ [Li c] = CL (a ++ [c]) := by simp [CL]
theorem last_at (M : Mm) (a : List (List Int)) (c : List Int) : oIx M (.o (.lst (CL (a ++ [c])))) (.d (.int ((a.length : Int) + 1 - 1))) = some (Li c) := by
  show atI (CL (a ++ [c])) ((a.length : Int) + 1 - 1) = _
  rw [show ((a.length : Int) + 1 - 1) = ((a.length : Nat) : Int) by omega]
  exact atI_nat (by simp [CL])
theorem last_at2 (M : Mm) (a : List (List Int)) (c : List Int) : oIx M (.o (.lst (CL (a ++ [c])))) (.d (.int (a.length : Int))) = some (Li c) := by
  show atI (CL (a ++ [c])) (a.length : Int) = _
  exact atI_nat (by simp [CL])
theorem len_o (M : Mm) (ds : List D) : oLen M (.o (.lst ds)) = some (.int ds.length) := rfl
theorem wip7 (a0 a1 a2 a3 a4 a5 a6 v a8 a9 : Sl) (hv : ∀ y, v ≠ .o y) : wipG [7] [a0, a1, a2, a3, a4, a5, a6, v, a8, a9] = some [a0, a1, a2, a3, a4, a5, a6, .un, a8, a9] := by
  cases v with
  | un => rfl
  | d x => rfl
  | o y => exact absurd rfl (hv y)
theorem parts_loop (M : Mm) (a0 a1 a2 a3 a4 a8 a9 : Sl) : ∀ (ps : List D) (acc : List (List Int)) (v6 v7 : Sl), (∀ p ∈ ps, HP p) → acc.length + ps.length ≤ 100 → (∀ y, v7 ≠ .o y) → ∃ v6' v7', loopL (gvN 6) bP (ps.map toT) [a0, a1, a2, a3, a4, .o (.lst (CL acc)), v6, v7, a8, a9] M = .ok (.nx [a0, a1, a2, a3, a4, .o (.lst (CL (acc ++ ps.map cP))), v6', v7', a8, a9]) M
  | [], acc, v6, v7, _, _, _ => ⟨v6, v7, by rw [List.map_nil, List.map_nil, List.append_nil]; rfl⟩
  | p :: ps, acc, v6, v7, h, hl, hv => by
    have bb : 2000 ≤ big := by decide
    rw [List.length_cons] at hl
    obtain ⟨rs, rfl, hrl, hrs⟩ := h p (List.mem_cons_self ..)
    obtain ⟨w7, hw7, e1⟩ := regs_loop M a0 a1 a2 a3 a4 (.o (.lst (CL acc))) (.d (.tup rs)) a8 a9 rs v7 hrs hv
    obtain ⟨v6', v7', e⟩ := parts_loop M a0 a1 a2 a3 a4 a8 a9 ps (acc ++ [cLis (rs.map cRg)]) (.d (.tup rs)) w7 (fun z hz => h z (List.mem_cons_of_mem _ hz)) (by rw [List.length_append, List.length_singleton]; omega) hw7
    refine ⟨v6', v7', ?_⟩
    have sz := codes_big hrs hrl (show 4 * 400 + 1 ≤ big by omega)
    have e2 : fLc (itU (up (pVar 6))) [7] (gvN 7) (tYesV) (callE F__law_region_due gId (aCons (up (pVar 7)) (aNil))) [a0, a1, a2, a3, a4, .o (.lst (CL acc)), .d (.tup rs), w7, a8, a9] M = .ok (CL (rs.map cRg), M) := by
      rw [fLc_tup (xs := rs) (M1 := M) rfl (wip7 a0 a1 a2 a3 a4 (.o (.lst (CL acc))) (.d (.tup rs)) w7 a8 a9 hw7) (by omega)]
      exact lc_G hrs (by simp)
    have e3 : bP [a0, a1, a2, a3, a4, .o (.lst (CL acc)), .d (.tup rs), v7, a8, a9] M = .ok (.nx [a0, a1, a2, a3, a4, .o (.lst (CL (acc ++ [cLis (rs.map cRg)]))), .d (.tup rs), w7, a8, a9]) M := by
      unfold bP
      rw [sSeq_eq, sFor_tup (xs := rs) (M1 := M) rfl, e1, s_nx, sSeq_eq, sMut_app (ds := CL acc) (x := Li (cLis (rs.map cRg))) (M' := M) rfl (by simp [e2, law_list_ok _ M sz]) (by simp; omega), CL_app, s_nx]
      simp [part_ok hrs hrl M, len_o, last_at2, oEq_Li]
    rw [List.map_cons, loopL]
    show ((bP [a0, a1, a2, a3, a4, .o (.lst (CL acc)), .d (.tup rs), v7, a8, a9] M).loop _) = _
    rw [e3, List.map_cons]
    show loopL (gvN 6) bP (ps.map toT) [a0, a1, a2, a3, a4, .o (.lst (CL (acc ++ [cLis (rs.map cRg)]))), .d (.tup rs), w7, a8, a9] M = _
    rw [e, List.append_assoc]
    rfl
def bE : SV := sSeq (sIf (bT (e2 (oEq true) (callE F_record_code gId (aCons (up (p1 (oFld 16) (pVar 9))) (aNil))) (callE F__law_record_due gId (aCons (up (p1 (oFld 16) (pVar 9))) (aNil))))) (sRet (up (pC (.bl false)))) (sNil)) (sSeq (sMut oApp 8 (aCons (e2 oAdd (e2 oAdd (asD (fLst (aCons (up (p1 (oFld 15) (pVar 9))) (aNil)))) (callE F__law_record_due gId (aCons (up (p1 (oFld 16) (pVar 9))) (aNil)))) (callE F__law_counted gId (aCons (up (p1 (oFld 17) (pVar 9))) (aNil)))) (aNil))) (sIf (bT (e2 (oEq true) (callE F_entry_code gId (aCons (up (pVar 9)) (aNil))) (up (p2 oIx (pVar 8) (p2 oSub (p1 oLen (pVar 8)) (pC (.int 1))))))) (sRet (up (pC (.bl false)))) (sNil)))
noncomputable def cRc : D → List Int := cOf F_record_code F__law_record_due 200
theorem cRc_ok {r : D} (h : HRc r) : Cd F_record_code F__law_record_due 200 r (cRc r) := cOf_ok h
noncomputable def cE : D → List Int
  | .ins _ [(_, .int n), (_, r), (_, .tup l)] => n :: (cRc r ++ cNum (unI l))
  | _ => []
theorem cE_len {e : D} (h : We e) : (cE e).length ≤ 210 := by
  cases h with
  | mk n r l hr hl =>
    have := (cRc_ok hr).len
    simp [cE, cNum, unI_ii]
    omega
theorem entry_ok {e : D} (h : We e) (M : Mm) : F_entry_code [e] M = .ok (Li (cE e), M) := by
  have bb : 2000 ≤ big := by decide
  refine runF_rt ?_
  cases h with
  | mk n r l hr hl =>
    have hl2 := (cRc_ok hr).len
    unfold sv_entry_code
    simp [fld_eq, List.lookup, big1, Li1, (cRc_ok hr).f M, numbers_tup l M (by omega), oAdd_Li (M := M) (a := [n]) (b := cRc r) (by simp; omega), oAdd_Li (M := M) (a := n :: cRc r) (b := cNum l) (by simp [cNum]; omega), cE, unI_ii]
theorem ents_loop (M : Mm) (a0 a1 a2 a3 a4 a5 a6 a7 : Sl) : ∀ (es : List D) (acc : List (List Int)) (v9 : Sl), (∀ e ∈ es, We e) → acc.length + es.length ≤ 100 → ∃ v9', loopL (gvN 9) bE es [a0, a1, a2, a3, a4, a5, a6, a7, .o (.lst (CL acc)), v9] M = .ok (.nx [a0, a1, a2, a3, a4, a5, a6, a7, .o (.lst (CL (acc ++ es.map cE))), v9']) M
  | [], acc, v9, _, _ => ⟨v9, by rw [List.map_nil, List.append_nil]; rfl⟩
  | e :: es, acc, v9, h, hl => by
    have bb : 2000 ≤ big := by decide
    rw [List.length_cons] at hl
    obtain ⟨v9', e1⟩ := ents_loop M a0 a1 a2 a3 a4 a5 a6 a7 es (acc ++ [cE e]) (.d e) (fun z hz => h z (List.mem_cons_of_mem _ hz)) (by rw [List.length_append, List.length_singleton]; omega)
    refine ⟨v9', ?_⟩
    have he := h e (List.mem_cons_self ..)
    have e3 : bE [a0, a1, a2, a3, a4, a5, a6, a7, .o (.lst (CL acc)), .d e] M = .ok (.nx [a0, a1, a2, a3, a4, a5, a6, a7, .o (.lst (CL (acc ++ [cE e]))), .d e]) M := by
      have ok := entry_ok he M
      cases he with
      | mk n r l hr hle =>
        have hl2 := (cRc_ok hr).len
        have q1 : (sIf (bT (Z.e2 (oEq true) (callE F_record_code gId (aCons (up (p1 (oFld 16) (pVar 9))) (aNil))) (callE F__law_record_due gId (aCons (up (p1 (oFld 16) (pVar 9))) (aNil))))) (sRet (up (pC (.bl false)))) (sNil)) [a0, a1, a2, a3, a4, a5, a6, a7, .o (.lst (CL acc)), .d (.ins 14 [(15, .int n), (16, r), (17, .tup (ii l))])] M = .ok (.nx [a0, a1, a2, a3, a4, a5, a6, a7, .o (.lst (CL acc)), .d (.ins 14 [(15, .int n), (16, r), (17, .tup (ii l))])]) M := by
          simp [fld_eq, List.lookup, (cRc_ok hr).f M, (cRc_ok hr).g M, oEq_Li]
        unfold bE
        rw [sSeq_eq, q1, s_nx, sSeq_eq, sMut_app (ds := CL acc) (x := Li (cE (.ins 14 [(15, .int n), (16, r), (17, .tup (ii l))]))) (M' := M) rfl (by simp [fld_eq, List.lookup, big1, Li1, (cRc_ok hr).g M, counted_tup l M (by omega), oAdd_Li (M := M) (a := [n]) (b := cRc r) (by simp; omega), oAdd_Li (M := M) (a := n :: cRc r) (b := cNum l) (by simp [cNum]; omega), cE, unI_ii]) (by simp; omega), CL_app, s_nx]
        simp [ok, len_o, last_at2, oEq_Li]
    rw [loopL]
    show ((bE [a0, a1, a2, a3, a4, a5, a6, a7, .o (.lst (CL acc)), .d e] M).loop _) = _
    rw [e3]
    show loopL (gvN 9) bE es [a0, a1, a2, a3, a4, a5, a6, a7, .o (.lst (CL (acc ++ [cE e]))), .d e] M = _
    rw [e1, List.append_assoc]
    rfl
theorem offer_ok {ps es : List D} (hp : ∀ p ∈ ps, HP p) (hl : ps.length ≤ 4) (he : ∀ e ∈ es, We e) (hl2 : es.length ≤ 4) (M : Mm) : F_offer_code [.ins 15 [(21, .tup (ps.map toT)), (22, .tup es)]] M = .ok (Li (cLis (ps.map cP) ++ cLis (es.map cE)), M) := by
  have bb : 10000 ≤ big := by decide
  have s1 : (ps.map cP).flatten.length + 1 ≤ big := by
    have h1 := flat_len (mapc_len (cf := cP) fun z hz => cP_len (hp z hz))
    have h2 : (ps.map cP).length * 1601 ≤ 4 * 1601 := Nat.mul_le_mul_right 1601 (by simpa using hl)
    omega
  have s2 : (cLis (ps.map cP)).length ≤ 4 * 1601 + 1 := cLis_len (mapc_len fun z hz => cP_len (hp z hz)) (by simpa using hl)
  have s3 : (es.map cE).flatten.length + 1 ≤ big := by
    have h1 := flat_len (mapc_len (cf := cE) fun z hz => cE_len (he z hz))
    have h2 : (es.map cE).length * 210 ≤ 4 * 210 := Nat.mul_le_mul_right 210 (by simpa using hl2)
    omega
  have s4 : (cLis (es.map cE)).length ≤ 4 * 210 + 1 := cLis_len (mapc_len fun z hz => cE_len (he z hz)) (by simpa using hl2)
  refine runF_rt ?_
  unfold sv_offer_code
  have e1 : ∀ o, o = .ins 15 [(21, .tup (ps.map toT)), (22, .tup es)] → fLc (itU (up (p1 (oFld 21) (pVar 0)))) [2] (gvN 2) (tYesV) (callE F_partition_code gId (aCons (up (pVar 2)) (aNil))) [.d o, .un, .un, .un] M = .ok (CL (ps.map cP), M) := fun o ho => by
    subst ho
    rw [fLc_tup (G := [.d (.ins 15 [(21, .tup (ps.map toT)), (22, .tup es)]), .un, .un, .un]) (xs := ps.map toT) (M1 := M) rfl rfl (by simp; omega)]
    have h := lc_codes (g := gvN 2) (e := callE F_partition_code gId (aCons (up (pVar 2)) (aNil))) (G := [.d (.ins 15 [(21, .tup (ps.map toT)), (22, .tup es)]), .un, .un, .un]) (M := M) (cf := fun d => match d with
      | .tup rs => cLis (rs.map cRg)
      | _ => []) (xs := ps.map toT) fun z hz => by
        obtain ⟨p, hpm, rfl⟩ := List.mem_map.mp hz
        obtain ⟨rs, rfl, hrl, hrs⟩ := hp p hpm
        exact ⟨_, rfl, by simp [toT, part_ok hrs hrl M]⟩
    rw [h, List.map_map]
    have hm : ps.map ((fun d => match d with
      | .tup rs => cLis (rs.map cRg)
      | _ => []) ∘ toT) = ps.map cP := List.map_congr_left fun p hpm => by
        obtain ⟨rs, rfl, _⟩ := hp p hpm
        rfl
    rw [hm]
  have e2 : ∀ o x, o = .ins 15 [(21, .tup (ps.map toT)), (22, .tup es)] → fLc (itU (up (p1 (oFld 22) (pVar 0)))) [3] (gvN 3) (tYesV) (callE F_entry_code gId (aCons (up (pVar 3)) (aNil))) [.d o, .d x, .un, .un] M = .ok (CL (es.map cE), M) := fun o x ho => by
    subst ho
    rw [fLc_tup (G := [.d (.ins 15 [(21, .tup (ps.map toT)), (22, .tup es)]), .d x, .un, .un]) (xs := es) (M1 := M) rfl rfl (by omega)]
    exact lc_codes fun z hz => ⟨_, rfl, by simp [entry_ok (he z hz) M]⟩
  have a1 : oAdd M (.d (Li (cLis (ps.map cP)))) (.d (Li (cLis (es.map cE)))) = some (Li (cLis (ps.map cP) ++ cLis (es.map cE))) := oAdd_Li (by omega)
  generalize ho : D.ins 15 [(21, .tup (ps.map toT)), (22, .tup es)] = o at *
  simp [e1 o rfl, e2 o _ rfl, list_ok _ M s1, list_ok _ M s3, a1]
end Q

set_option maxHeartbeats 2000000
namespace Q
open PySem PySem.Spec PyProof.Rows L2 Z
theorem nT_sIf {t : TV} {b : SV} {Γ : Gm} {M M' : Mm} (h : t Γ M = .ok (true, M')) : sIf (nT t) b sNil Γ M = .ok (.nx Γ) M' := by
  simp [nT_eq, h]
theorem law_true (ns : List Int) : ∃ M', F_law [.scr ns] [] = .ok (.bl true, M') := by
  have bb : 20000 ≤ big := by decide
  have hM0 : St ns [S ns 0 0] := ⟨0, 0, by decide, rfl⟩
  obtain ⟨M1, hM1, h1⟩ := parts_agree_ok hM0
  -- four facts
  obtain ⟨Γ2, M2, h2, b2, b3, rfl, hM2⟩ := loop_inv (N := 4) (g := gvN 2) (b := bF) (I := fun n Γ M => ∃ (a2 a3 : Sl), Γ = [.d (.scr ns), .d (.hdl 0), a2, a3, .un, .un, .un, .un, .un, .un] ∧ St ns M) (xs := rngD 0 4) (n := 0) (Γ := [.d (.scr ns), .d (.hdl 0), .un, .un, .un, .un, .un, .un, .un, .un]) (M := M1) (by decide) ⟨_, _, rfl, hM1⟩ fun z hz n Γ M hn hI => by
    obtain ⟨a2, a3, rfl, hM⟩ := hI
    obtain ⟨b3, M', hM', e⟩ := fact_turn hM (.d (.scr ns)) (.d z) a3
    exact ⟨[.d (.scr ns), .d (.hdl 0), .d z, a3, .un, .un, .un, .un, .un, .un], _, M', rfl, e, _, _, rfl, hM'⟩
  obtain ⟨ps, es, M3, hp, hpl, he, hel, hM3, h3⟩ := offer_draw hM2
  obtain ⟨v6, v7, h4⟩ := parts_loop M3 (.d (.scr ns)) (.d (.hdl 0)) b2 b3 (.d (.ins 15 [(21, .tup (ps.map toT)), (22, .tup es)])) .un .un ps [] .un .un hp (by simp; omega) (fun y z => nomatch z)
  obtain ⟨v9, h5⟩ := ents_loop M3 (.d (.scr ns)) (.d (.hdl 0)) b2 b3 (.d (.ins 15 [(21, .tup (ps.map toT)), (22, .tup es)])) (.o (.lst (CL ([] ++ ps.map cP)))) v6 v7 es [] .un he (by simp; omega)
  have h6 := offer_ok hp hpl he hel M3
  have s1 : (ps.map cP).flatten.length + 1 ≤ big := by
    have h1 := flat_len (mapc_len (cf := cP) fun z hz => cP_len (hp z hz))
    have h2 : (ps.map cP).length * 1601 ≤ 4 * 1601 := Nat.mul_le_mul_right 1601 (by simpa using hpl)
    omega
  have s2 : (cLis (ps.map cP)).length ≤ 4 * 1601 + 1 := cLis_len (mapc_len fun z hz => cP_len (hp z hz)) (by simpa using hpl)
  have s3 : (es.map cE).flatten.length + 1 ≤ big := by
    have h1 := flat_len (mapc_len (cf := cE) fun z hz => cE_len (he z hz))
    have h2 : (es.map cE).length * 210 ≤ 4 * 210 := Nat.mul_le_mul_right 210 (by simpa using hel)
    omega
  have s4 : (cLis (es.map cE)).length ≤ 4 * 210 + 1 := cLis_len (mapc_len fun z hz => cE_len (he z hz)) (by simpa using hel)
  have a1 : oAdd M3 (.d (Li (cLis (ps.map cP)))) (.d (Li (cLis (es.map cE)))) = some (Li (cLis (ps.map cP) ++ cLis (es.map cE))) := oAdd_Li (by omega)
  refine ⟨M3, runF_rt ?_⟩
  have hsv : sv_law = sSeq (sAsg 1 (asH (fLst (aCons (asD (f1 vSeq (pVar 0))) (aCons (up (pC (.int 0))) (aCons (up (pC (.int 0))) (aNil))))))) (sSeq (sIf (nT (bT (callE F__law_parts_agree gId (aCons (up (pVar 1)) (aNil))))) (sRet (up (pC (.bl false)))) (sNil)) (sSeq (sFor (itR1 (aCons (up (pC (.int 4))) (aNil))) (gvN 2) bF) (sSeq (sAsg 4 (callE F__law_offer gId (aCons (up (pVar 1)) (aNil)))) (sSeq (sAsgF 5 (fLst (aNil))) (sSeq (sFor (itU (up (p1 (oFld 21) (pVar 4)))) (gvN 6) bP) (sSeq (sAsgF 8 (fLst (aNil))) (sSeq (sFor (itU (up (p1 (oFld 22) (pVar 4)))) (gvN 9) bE) (sFrz 8 (sFrz 5 (sRet (e2 (oEq false) (callE F_offer_code gId (aCons (up (pVar 4)) (aNil))) (e2 oAdd (callE F__law_list gId (aCons (up (pVar 5)) (aNil))) (callE F__law_list gId (aCons (up (pVar 8)) (aNil)))))))))))))))  := rfl
  rw [hsv, sSeq_eq]
  show ((SR.ok (.nx [.d (.scr ns), .d (.hdl 0), .un, .un, .un, .un, .un, .un, .un, .un]) [S ns 0 0]).bind _) = _
  rw [s_nx, sSeq_eq, nT_sIf (M' := M1) (by simp [h1]), s_nx, sSeq_eq]
  have q1 : itR1 (aCons (up (pC (.int 4))) (aNil)) [.d (.scr ns), .d (.hdl 0), .un, .un, .un, .un, .un, .un, .un, .un] M1 = .ok (.tup (rngD 0 4), M1) := by
    simp [itR1_eq]
  rw [sFor_tup q1, h2, s_nx, sSeq_eq]
  have q2 : sAsg 4 (callE F__law_offer gId (aCons (up (pVar 1)) (aNil))) [.d (.scr ns), .d (.hdl 0), b2, b3, .un, .un, .un, .un, .un, .un] M2 = .ok (.nx [.d (.scr ns), .d (.hdl 0), b2, b3, .d (.ins 15 [(21, .tup (ps.map toT)), (22, .tup es)]), .un, .un, .un, .un, .un]) M3 := by
    simp [h3]
  rw [q2, s_nx, sSeq_eq]
  show ((SR.ok (.nx [.d (.scr ns), .d (.hdl 0), b2, b3, .d (.ins 15 [(21, .tup (ps.map toT)), (22, .tup es)]), .o (.lst (CL [])), .un, .un, .un, .un]) M3).bind _) = _
  rw [s_nx, sSeq_eq, sFor_tup (xs := ps.map toT) (M1 := M3) rfl, h4, s_nx, sSeq_eq]
  show ((SR.ok (.nx [.d (.scr ns), .d (.hdl 0), b2, b3, .d (.ins 15 [(21, .tup (ps.map toT)), (22, .tup es)]), .o (.lst (CL ([] ++ ps.map cP))), v6, v7, .o (.lst (CL [])), .un]) M3).bind _) = _
  rw [s_nx, sSeq_eq, sFor_tup (xs := es) (M1 := M3) rfl, h5, s_nx, sFrz_o (ds := CL ([] ++ es.map cE)) rfl, sFrz_o (ds := CL ([] ++ ps.map cP)) rfl]
  rw [List.nil_append, List.nil_append]
  have q3 : ∀ Γ : Gm, Γ[4]? = some (.d (.ins 15 [(21, .tup (ps.map toT)), (22, .tup es)])) → Γ[5]? = some (.d (Cs (ps.map cP))) → Γ[8]? = some (.d (Cs (es.map cE))) → sRet (Z.e2 (oEq false) (callE F_offer_code gId (aCons (up (pVar 4)) (aNil))) (Z.e2 oAdd (callE F__law_list gId (aCons (up (pVar 5)) (aNil))) (callE F__law_list gId (aCons (up (pVar 8)) (aNil))))) Γ M3 = .ok (.rt (.bl true)) M3 := fun Γ g4 g5 g8 => by
    generalize ho : D.ins 15 [(21, .tup (ps.map toT)), (22, .tup es)] = o at *
    simp [g4, g5, g8, h6, law_list_ok _ M3 s1, law_list_ok _ M3 s3, a1, oEq_Li]
  exact q3 _ rfl rfl rfl
end Q

set_option maxHeartbeats 0
namespace Q
open PySem PySem.Spec PyProof.Rows L2 Z
theorem facts {P : Program} {w : PySem.World} {K : PySem.W.Frag} {h : Heap} {mg : Str → Option Value} {f : Addr} (KX : K.In h) (Gm : h.Ns mainGlobals mg) (hfa : mg ("law" : Str) = some (.ref f)) (c : SaysZ ck fas fn K) :
    ∃ fd : FuncData, (∀ (s : Shared) (v : Value), BindsTo s fd ⟨[v], []⟩ [("_law_script", v)]) ∧ ∀ base : Heap, FnOk P w K mg base (L2.CX P w) 8 f fd ["_law_script"] (spF (nm K) F_law 1) := by
  obtain ⟨fd, F⟩ := c.d.def_ 43 (d := d_43) rfl
  have e := hfa.symm.trans (g_law KX Gm c)
  cases e
  have b := FunD.bindsA (ps := ["_law_script"]) F fun _ _ _ _ _ _ us hl => match us, hl with | [_], _ => rfl
  exact ⟨fd, fun s v => b s [v] rfl, fun base => z_fun F sc_law (bo_law KX Gm c)⟩
end Q
open PySem PySem.W PySem.Calls PyProof.Rows
theorem PySem.Challenge.cw_surenear_k36_codes_number_by_number_holds : PySem.Challenge.rw_surenear_k36_codes_number_by_number.Holds := by
  w_on; o_law
  refine HandSHeadRun.head_any (r := OpenLaw.row PySem.Challenge.rw_surenear_k36_codes_number_by_number) (q := view (OpenLaw.row PySem.Challenge.rw_surenear_k36_codes_number_by_number).prog [58]) (H := Q.hk) (ob := Q.ob) (M := 9000) (loose := Q.loose) (d := HandSHeadRun.topDef (OpenLaw.row PySem.Challenge.rw_surenear_k36_codes_number_by_number).prog 58) (kwd := []) Q.ob_eq
    (by kernel_rfl) (fun s => by kernel_rfl) Q.run (by kernel_rfl) (by kernel_rfl) (by kernel_rfl) (by rfl) (by first | assumption | decide +kernel) (by decide +kernel) ⟨rfl, rfl, rfl, rfl, rfl, by decide +kernel⟩ ?hw ?hc
  case hw => w_witness2
  case hc =>
    refine Z.walkW (law := PySem.Challenge.rw_surenear_k36_codes_number_by_number) (m := 63) (lv := 8) (arg := "_law_script") (CW := fun w => L2.CX (PySem.Challenge.rw_surenear_k36_codes_number_by_number).prog w) rfl (by decide) (by kernel_rfl) ⟨rfl, by decide, by decide⟩ ?F (fun _ _ _ _ _ z => by
      obtain ⟨_, _, _, _, _, _, _, _, _, _, _, _, z⟩ := z
      exact z)
    intro w mg fa h Y G hmg0
    obtain ⟨K, KX, c⟩ := Y
    have hmg : mg ("law" : PySem.Str) = some (.ref fa) := by
      have e : (HandSHeadRun.topDef (OpenLaw.row PySem.Challenge.rw_surenear_k36_codes_number_by_number).prog 58).name = ("law" : PySem.Str) := by kernel_rfl
      rw [← e]
      exact hmg0
    obtain ⟨fd, hb, hF⟩ := Q.facts (P := (PySem.Challenge.rw_surenear_k36_codes_number_by_number).prog) (w := w) KX G hmg c
    exact ⟨K, fd, Z.spF (Q.nm K) Q.F_law 1, KX, hb, fun H a ns hl ho hS => Z.sp_law (K := K) rfl (by
      rcases hS with (hS | hS) | hS
      · rcases ho a with e | ⟨o, xs, e⟩
        · rw [hS] at e; cases e
        · rw [hS] at e; cases e
      · exact .inl hS
      · exact .inr hS) (Q.law_true ns) fun _ => rfl, fun base _ _ => hF base⟩
