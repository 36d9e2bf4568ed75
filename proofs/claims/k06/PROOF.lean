import PyProof.Rows.All
import Wide.All
import OpenK.AllK
import Wide.FinOn
import HandS.Lambda
import HandS.ForMost
import HandS.Exc
import HandS.WideBits
import HandS.Deep
import HandS.Style
import HandS.ExcOwn
import HandS.WordsExc
import HandS.EndBits
import HandS.IsInst
import HandS.Wide
import HandS.TupAny
import PyProof.ReprRoads
import HandS.NoneIn
import HandS.TryOnly
import HandS.More
import HandS.Codes
import HandS.Defaults
import KE.IntBitsLaws
import HandS.ExcValue
import HandS.SortInts
import OpenK.KCell
import KE.KSuper
import HandS.ExcInit
import KE.KExcSuper
import HandS.ExcField
import HandS.ExcIs
import HandS.Iter
import HandS.Zip
import KE.KNestM
import HandS.EndTab
import PyProof.TableCode
import PySem.Challenge.RW_baysout_k06_sides_and_stretches_that_mee
set_option Elab.async false
set_option linter.all false
set_option maxRecDepth 100000
set_option maxHeartbeats 4000000
namespace Pf
open PySem L2

/-! ### data -/
inductive D where
  | non | bl (b : Bool) | int (i : Int) | str (s : Str) | ty (n : String)
  | lst (xs : List D) | tup (xs : List D) | rol (xs : List D)
  | dk (kvs : List (Key × D)) | dt (kvs : List (List Key × D))
  | ins (c : Str) (fs : List (Str × D))
  | cls (c : Str)
  | exn (c : Str) (fs : List (Str × D))
  deriving Inhabited

/-- what is owned: a list, an instance, a dict -/
inductive O where
  | lst (xs : List D) | ins (c : Str) (fs : List (Str × D)) | dk (kvs : List (Key × D)) | dt (kvs : List (List Key × D))
  deriving Inhabited
/-- as data -/
def O.d : O → D
  | .lst xs => .lst xs
  | .ins c fs => .ins c fs
  | .dk kvs => .dk kvs
  | .dt kvs => .dt kvs
/-- what a slot or a temporary holds: shared data, an owned thing, the value of a slot that owns -/
inductive T where
  | sh (d : D) | own (o : O) | al (i : Nat)
  deriving Inhabited
abbrev Env := List (Option T)

/-- an exception: its class, its fields -/
structure Exn where
  cls : Str
  fs : List (Str × D)

inductive R (α : Type) where
  | ok (a : α) (ρ : Env) | ex (e : Exn) (ρ : Env) | bad
inductive RS where
  | nx (ρ : Env) | rt (t : T) (ρ : Env) | bk (ρ : Env) | ct (ρ : Env) | ex (e : Exn) (ρ : Env) | bad

/-! ### what stands in the heap -/
structure Cfg where
  K : PySem.W.Frag
  mg : Str → Option Value

/-- an error's object: its class, its dict -/
def exV (a : Addr) (cls : Value) (d : Option Addr) : HO := .ext fun h => ∃ (o : Obj) (vs : Array Value), h.get? a = some o ∧ Zc cls d o ∧ o.data = .fields vs
mutual
inductive Rep (G : Cfg) (F : Hp) : V → D → Prop
  | non : Rep G F .non .non
  | bl {b} : Rep G F (.bl b) (.bl b)
  | int {i} : Rep G F (.int i) (.int i)
  | str {s} : Rep G F (.str s) (.str s)
  | ty {n} : Rep G F (.ty n) (.ty n)
  | lst {p vs ds} : F p = some (.lst vs) → Reps G F vs ds → Rep G F (.ref p) (.lst ds)
  | rol {p vs ds} : SqL G.K F p vs → Reps G F vs ds → Rep G F (.ref p) (.rol ds)
  | tup {p vs ds} : SqT G.K F p vs → Reps G F vs ds → Rep G F (.ref p) (.tup ds)
  | dk {p kvs ds} : F p = some (.dK kvs) → kvs.map (·.1) = ds.map (·.1) → Reps G F (kvs.map (·.2)) (ds.map (·.2)) → Rep G F (.ref p) (.dk ds)
  | dt {p kvs ds} : F p = some (.dT kvs) → kvs.map (·.1) = ds.map (·.1) → Reps G F (kvs.map (·.2)) (ds.map (·.2)) → Rep G F (.ref p) (.dt ds)
  | cls {C c} : G.mg c = some (.ref C) → Rep G F (.ref C) (.cls c)
  | ins {p C dx fs c ds} : F p = some (.ins C dx fs) → G.mg c = some (.ref C) → fs.map (·.1) = ds.map (·.1) → Reps G F (fs.map (·.2)) (ds.map (·.2)) → Rep G F (.ref p) (.ins c ds)
  | exn {p C dd fs c ds} : F p = some (exV p (.ref C) (some dd)) → F dd = some (.xd fs) → G.mg c = some (.ref C) → fs.map (·.1) = ds.map (·.1) → Reps G F (fs.map (·.2)) (ds.map (·.2)) → Rep G F (.ref p) (.exn c ds)
inductive Reps (G : Cfg) (F : Hp) : List V → List D → Prop
  | nil : Reps G F [] []
  | cons {v d vs ds} : Rep G F v d → Reps G F vs ds → Reps G F (v :: vs) (d :: ds)
end

theorem sqL_mono {K : PySem.W.Frag} {F F' : Hp} (e : Same F F') {a : Addr} {xs : List V} (h : SqL K F a xs) : SqL K F' a xs := e.seq h
theorem rd_mono {F F' : Hp} (e : Same F F') {a : Addr} {u : HO} (h : Rd F a u) : Rd F' a u := by
  rcases h with h | ⟨o, h⟩
  · exact .inl (e _ _ h)
  · exact .inr ⟨o, e _ _ h⟩
theorem sqT_mono {K : PySem.W.Frag} {F F' : Hp} (e : Same F F') {a : Addr} {xs : List V} (h : SqT K F a xs) : SqT K F' a xs := by
  rcases h with h | h
  · exact .inl (rd_mono e h)
  · exact .inr h
section
variable {G : Cfg} {F F' : Hp}
mutual
theorem Rep.mono (e : Same F F') : ∀ {v d}, Rep G F v d → Rep G F' v d
  | _, _, .non => .non
  | _, _, .bl => .bl
  | _, _, .int => .int
  | _, _, .str => .str
  | _, _, .ty => .ty
  | _, _, .lst h r => .lst (e _ _ h) (r.mono e)
  | _, _, .rol h r => .rol (sqL_mono e h) (r.mono e)
  | _, _, .tup h r => .tup (sqT_mono e h) (r.mono e)
  | _, _, .dk h q r => .dk (e _ _ h) q (r.mono e)
  | _, _, .dt h q r => .dt (e _ _ h) q (r.mono e)
  | _, _, .cls m => .cls m
  | _, _, .ins h m q r => .ins (e _ _ h) m q (r.mono e)
  | _, _, .exn h h2 m q r => .exn (e _ _ h) (e _ _ h2) m q (r.mono e)
theorem Reps.mono (e : Same F F') : ∀ {vs ds}, Reps G F vs ds → Reps G F' vs ds
  | _, _, .nil => .nil
  | _, _, .cons h t => .cons (h.mono e) (t.mono e)
end
theorem Reps.length : ∀ {vs ds}, Reps G F vs ds → vs.length = ds.length
  | _, _, .nil => rfl
  | _, _, .cons _ t => by simp only [List.length_cons, t.length]
theorem Reps.get : ∀ {vs ds} {i : Nat} {d : D}, Reps G F vs ds → ds[i]? = some d → ∃ v, vs[i]? = some v ∧ Rep G F v d
  | _, _, _, _, .nil, e => by simp at e
  | _, _, 0, _, .cons r _, e => by simp at e; subst e; exact ⟨_, rfl, r⟩
  | _, _, i + 1, _, .cons _ t, e => by
    obtain ⟨v, h1, h2⟩ := Reps.get (i := i) t (by simpa using e)
    exact ⟨v, by simpa using h1, h2⟩
theorem Reps.getV : ∀ {vs ds} {i : Nat} {v : V}, Reps G F vs ds → vs[i]? = some v → ∃ d, ds[i]? = some d ∧ Rep G F v d
  | _, _, _, _, .nil, e => by simp at e
  | _, _, 0, _, .cons r _, e => by simp at e; subst e; exact ⟨_, rfl, r⟩
  | _, _, i + 1, _, .cons _ t, e => by
    obtain ⟨d, h1, h2⟩ := Reps.getV (i := i) t (by simpa using e)
    exact ⟨d, by simpa using h1, h2⟩
theorem Reps.append : ∀ {vs ds vs' ds'}, Reps G F vs ds → Reps G F vs' ds' → Reps G F (vs ++ vs') (ds ++ ds')
  | _, _, _, _, .nil, s => s
  | _, _, _, _, .cons r t, s => .cons r (t.append s)
theorem Reps.take : ∀ {vs ds} (n : Nat), Reps G F vs ds → Reps G F (vs.take n) (ds.take n)
  | _, _, 0, _ => .nil
  | _, _, _ + 1, .nil => .nil
  | _, _, n + 1, .cons r t => .cons r (t.take n)
theorem Reps.drop : ∀ {vs ds} (n : Nat), Reps G F vs ds → Reps G F (vs.drop n) (ds.drop n)
  | _, _, 0, r => r
  | _, _, _ + 1, .nil => .nil
  | _, _, n + 1, .cons _ t => t.drop n
theorem Reps.set : ∀ {vs ds} {v d} (i : Nat), Reps G F vs ds → Rep G F v d → Reps G F (vs.set i v) (ds.set i d)
  | _, _, _, _, _, .nil, _ => .nil
  | _, _, _, _, 0, .cons _ t, h => .cons h t
  | _, _, _, _, i + 1, .cons r t, h => .cons r (t.set i h)
theorem Reps.one {v d} (h : Rep G F v d) : Reps G F [v] [d] := .cons h .nil
end

/-- what stands at an address shows what is owned -/
inductive RepO (G : Cfg) (F : Hp) : HO → O → Prop
  | lst {vs ds} : Reps G F vs ds → RepO G F (.lst vs) (.lst ds)
  | ins {C dx fs c ds} : G.mg c = some (.ref C) → fs.map (·.1) = ds.map (·.1) → Reps G F (fs.map (·.2)) (ds.map (·.2)) → RepO G F (.ins C dx fs) (.ins c ds)
  | dk {kvs ds} : kvs.map (·.1) = ds.map (·.1) → Reps G F (kvs.map (·.2)) (ds.map (·.2)) → RepO G F (.dK kvs) (.dk ds)
  | dt {kvs ds} : kvs.map (·.1) = ds.map (·.1) → Reps G F (kvs.map (·.2)) (ds.map (·.2)) → RepO G F (.dT kvs) (.dt ds)
theorem RepO.mono {G : Cfg} {F F' : Hp} {u : HO} {o : O} (e : Same F F') (h : RepO G F u o) : RepO G F' u o := by
  cases h with
  | lst r => exact .lst (r.mono e)
  | ins m q r => exact .ins m q (r.mono e)
  | dk q r => exact .dk q (r.mono e)
  | dt q r => exact .dt q (r.mono e)
theorem RepO.rep {G : Cfg} {F : Hp} {p : Addr} {u : HO} {o : O} (h : RepO G F u o) (e : F p = some u) : Rep G F (.ref p) o.d := by
  cases h with
  | lst r => exact .lst e r
  | ins m q r => exact .ins e m q r
  | dk q r => exact .dk e q r
  | dt q r => exact .dt e q r
theorem RepO.isLst {G : Cfg} {F : Hp} {u : HO} {ds : List D} (h : RepO G F u (.lst ds)) : ∃ vs, u = .lst vs ∧ Reps G F vs ds := by
  cases h with
  | lst r => exact ⟨_, rfl, r⟩

/-- what a value shows at this moment: shared data, or a thing that a slot owns -/
def RepV (G : Cfg) (F H : Hp) (v : V) (d : D) : Prop := Rep G F v d ∨ ∃ p u o, v = .ref p ∧ d = O.d o ∧ H p = some u ∧ RepO G F u o

inductive RepT (G : Cfg) (σ : L2.St) (F H : Hp) : V → T → List Addr → Prop
  | sh {v d} : Rep G F v d → RepT G σ F H v (.sh d) []
  | own {p u o} : H p = some u → F p = none → RepO G F u o → RepT G σ F H (.ref p) (.own o) [p]
  | al {i v} : σ[i]? = some (some v) → RepT G σ F H v (.al i) []
/-- the slots -/
inductive RepS (G : Cfg) (F H : Hp) : L2.St → Env → List Addr → Prop
  | nil : RepS G F H [] [] []
  | skip {o σ ρ A} : RepS G F H σ ρ A → RepS G F H (o :: σ) (none :: ρ) A
  | sh {v d σ ρ A} : Rep G F v d → RepS G F H σ ρ A → RepS G F H (some v :: σ) (some (.sh d) :: ρ) A
  | own {p u o σ ρ A} : H p = some u → F p = none → RepO G F u o → RepS G F H σ ρ A → RepS G F H (some (.ref p) :: σ) (some (.own o) :: ρ) (p :: A)
/-- the temporaries -/
inductive RepL (G : Cfg) (σ : L2.St) (F H : Hp) : List (V × T) → List Addr → Prop
  | nil : RepL G σ F H [] []
  | cons {v t τ A B} : RepT G σ F H v t A → RepL G σ F H τ B → RepL G σ F H ((v, t) :: τ) (A ++ B)

/-- the frame at its entry: what was shared, what stood, what was lent (with its slots) -/
structure Fm where
  F0 : Hp
  H0 : Hp
  B : List Addr
  m : List (Nat × V)
  T : List (Addr × Str)

/-- the tables of code objects: known, not shared, not among what stood at the entry -/
def TabsF (fm : Fm) (F H : Hp) : Prop := ∀ p ∈ fm.T, LamX.TabS H p.1 p.2 ∧ F p.1 = none ∧ fm.H0 p.1 = none
theorem TabsF.ne {fm : Fm} {F H : Hp} {G : Cfg} {p : Addr} {u : HO} {o : O} (t : TabsF fm F H) (hp : H p = some u) (r : RepO G F u o) : ∀ q ∈ fm.T, q.1 ≠ p := fun q hq z => by
  obtain ⟨⟨ps, h1, _⟩, _⟩ := t q hq
  rw [z, hp] at h1
  cases h1
  cases r
theorem TabsF.froze {fm : Fm} {F H : Hp} {G : Cfg} {p : Addr} {u : HO} {o : O} (t : TabsF fm F H) (hp : H p = some u) (r : RepO G F u o) (vs : HO) : TabsF fm (upd F p vs) H := fun q hq =>
  ⟨(t q hq).1, by rw [upd_ne (t.ne hp r q hq)]; exact (t q hq).2.1, (t q hq).2.2⟩

structure Good (G : Cfg) (fm : Fm) (ρ : Env) (σ : L2.St) (τ : List (V × T)) (F H : Hp) : Prop where
  FH : Same F H
  F0 : Same fm.F0 F
  keep : ∀ a o, fm.H0 a = some o → a ∉ fm.B → H a = some o
  hid : ∀ a, fm.H0 a ≠ none → fm.F0 a = none → F a = none
  live : ∀ a, fm.H0 a ≠ none → H a ≠ none
  pin : ∀ p ∈ fm.m, σ[p.1]? = some (some p.2)
  lent : ∀ pr ∈ fm.m, (∃ o, ρ[pr.1]? = some (some (.own o))) ∨ ∀ a, pr.2 = .ref a → a ∉ fm.B
  lb : ∀ a ∈ fm.B, ∃ j, (j, V.ref a) ∈ fm.m
  tab : TabsF fm F H
  own : ∃ A1 A2, RepS G F H σ ρ A1 ∧ RepL G σ F H τ A2 ∧ (A1 ++ A2).Nodup ∧ ∀ a ∈ A1 ++ A2, fm.H0 a = none ∨ a ∈ fm.B

theorem tab_but {G : Cfg} {F H H' : Hp} {p P : Addr} {u : HO} {o : O} {q : Str} (t : LamX.TabS H P q) (hp : H p = some u) (r : RepO G F u o) (e : ∀ a x, a ≠ p → H a = some x → H' a = some x) : LamX.TabS H' P q := by
  obtain ⟨ps, h1, h2, h3⟩ := t
  refine ⟨ps, e _ _ (fun z => ?_) h1, h2, fun pos cv hc => ?_⟩
  · rw [z, hp] at h1
    cases h1
    cases r
  · obtain ⟨c, e1, e2⟩ := h3 pos cv hc
    refine ⟨c, e1, e _ _ (fun z => ?_) e2⟩
    rw [z, hp] at e2
    unfold LamX.CodeO at e2
    cases r <;> cases e2
theorem TabsF.but {fm : Fm} {F H F' H' : Hp} {G : Cfg} {p : Addr} {u : HO} {o : O} (t : TabsF fm F H) (hp : H p = some u) (r : RepO G F u o) (e : ∀ a x, a ≠ p → H a = some x → H' a = some x) (hid : ∀ a, H a ≠ none → F a = none → F' a = none) : TabsF fm F' H' := fun q hq =>
  ⟨tab_but (t q hq).1 hp r e, hid _ (by obtain ⟨ps, h1, _⟩ := (t q hq).1; rw [h1]; exact fun z => nomatch z) (t q hq).2.1, (t q hq).2.2⟩
theorem Good.lentAt {G : Cfg} {fm : Fm} {ρ : Env} {σ : L2.St} {τ : List (V × T)} {F H : Hp} (g : Good G fm ρ σ τ F H) (a : Addr) (h : a ∈ fm.B) : ∃ j o, (j, V.ref a) ∈ fm.m ∧ ρ[j]? = some (some (.own o)) := by
  obtain ⟨j, hj⟩ := g.lb a h
  rcases g.lent _ hj with ⟨ds, e⟩ | e
  · exact ⟨j, ds, hj, e⟩
  · exact absurd h (e a rfl)

/-- what grows: the heap, the shared part; what stood hidden stays so -/
structure Grow (F H F' H' : Hp) : Prop where
  FF : Same F F'
  HH : Same H H'
  hid : ∀ a, H a ≠ none → F a = none → F' a = none
  FH : Same F' H'
theorem Grow.refl {F H : Hp} (h : Same F H) : Grow F H F H := ⟨.refl _, .refl _, fun _ _ h => h, h⟩
theorem Grow.trans {F H F1 H1 F2 H2 : Hp} (a : Grow F H F1 H1) (b : Grow F1 H1 F2 H2) : Grow F H F2 H2 :=
  ⟨a.FF.trans b.FF, a.HH.trans b.HH, fun x h1 h2 => b.hid x (fun z => by
    cases q : H x with
    | none => exact h1 q
    | some o => rw [a.HH x o q] at z; cases z) (a.hid x h1 h2), b.FH⟩

theorem same_upd_new {H : Hp} {p : Addr} {o : HO} (h : H p = none) : Same H (upd H p o) := fun a u e => by
  rw [upd_ne (ne_of_none e h)]; exact e
theorem same_upd_upd {F H : Hp} {p : Addr} {o : HO} (e : Same F H) : Same (upd F p o) (upd H p o) := fun a u q => by
  by_cases h : a = p
  · subst h; rw [upd_same] at q ⊢; exact q
  · rw [upd_ne h] at q ⊢; exact e _ _ q
theorem none_of_same {F H : Hp} (e : Same F H) {p : Addr} (h : H p = none) : F p = none := e.free h
/-- a new shared thing -/
theorem Grow.new {F H : Hp} {p : Addr} {o : HO} (e : Same F H) (h : H p = none) : Grow F H (upd F p o) (upd H p o) :=
  ⟨same_upd_new (none_of_same e h), same_upd_new h, fun a h1 h2 => by
    rw [upd_ne (fun z => h1 (by rw [z]; exact h))]; exact h2, same_upd_upd e⟩
/-- a new thing of one's own -/
theorem Grow.newOwn {F H : Hp} {p : Addr} {o : HO} (e : Same F H) (h : H p = none) : Grow F H F (upd H p o) :=
  ⟨.refl _, same_upd_new h, fun _ _ h => h, e.trans (same_upd_new h)⟩

section
variable {G : Cfg} {σ σ' : L2.St} {F H F' H' : Hp} {ρ : Env} {τ : List (V × T)} {A : List Addr} {v : V} {t : T} {fm : Fm}
theorem RepS.mono (eF : Same F F') (eH : ∀ a ∈ A, ∀ o, H a = some o → H' a = some o) (hid : ∀ a ∈ A, F' a = none) (h : RepS G F H σ ρ A) : RepS G F' H' σ ρ A := by
  induction h with
  | nil => exact .nil
  | skip _ ih => exact .skip (ih eH hid)
  | sh r _ ih => exact .sh (r.mono eF) (ih eH hid)
  | own h1 h2 h3 _ ih => exact .own (eH _ (List.mem_cons_self ..) _ h1) (hid _ (List.mem_cons_self ..)) (h3.mono eF) (ih (fun a ha => eH a (List.mem_cons_of_mem _ ha)) fun a ha => hid a (List.mem_cons_of_mem _ ha))
theorem RepT.mono (eF : Same F F') (eH : ∀ a ∈ A, ∀ o, H a = some o → H' a = some o) (hid : ∀ a ∈ A, F' a = none) (h : RepT G σ F H v t A) : RepT G σ F' H' v t A := by
  cases h with
  | sh r => exact .sh (r.mono eF)
  | own h1 h2 h3 => exact .own (eH _ (List.mem_cons_self ..) _ h1) (hid _ (List.mem_cons_self ..)) (h3.mono eF)
  | al e => exact .al e
theorem RepL.mono (eF : Same F F') (eH : ∀ a ∈ A, ∀ o, H a = some o → H' a = some o) (hid : ∀ a ∈ A, F' a = none) (h : RepL G σ F H τ A) : RepL G σ F' H' τ A := by
  induction h with
  | nil => exact .nil
  | cons r _ ih => exact .cons (r.mono eF (fun a ha => eH a (List.mem_append_left _ ha)) fun a ha => hid a (List.mem_append_left _ ha)) (ih (fun a ha => eH a (List.mem_append_right _ ha)) fun a ha => hid a (List.mem_append_right _ ha))
theorem RepS.len (h : RepS G F H σ ρ A) : σ.length = ρ.length := by
  induction h with
  | nil => rfl
  | skip _ ih => simp [ih]
  | sh _ _ ih => simp [ih]
  | own _ _ _ _ ih => simp [ih]
theorem RepS.mem (h : RepS G F H σ ρ A) : ∀ a ∈ A, F a = none ∧ ∃ u, H a = some u := by
  induction h with
  | nil => exact fun a ha => nomatch ha
  | skip _ ih => exact ih
  | sh _ _ ih => exact ih
  | own h1 h2 _ _ ih =>
    intro a ha
    rcases List.mem_cons.mp ha with rfl | ha
    · exact ⟨h2, _, h1⟩
    · exact ih a ha
theorem RepT.mem (h : RepT G σ F H v t A) : ∀ a ∈ A, F a = none ∧ ∃ u, H a = some u := by
  cases h with
  | sh _ => exact fun a ha => nomatch ha
  | own h1 h2 _ =>
    intro a ha
    rcases List.mem_cons.mp ha with rfl | ha
    · exact ⟨h2, _, h1⟩
    · exact nomatch ha
  | al _ => exact fun a ha => nomatch ha
theorem RepL.mem (h : RepL G σ F H τ A) : ∀ a ∈ A, F a = none ∧ ∃ u, H a = some u := by
  induction h with
  | nil => exact fun a ha => nomatch ha
  | cons r _ ih =>
    intro a ha
    rcases List.mem_append.mp ha with ha | ha
    · exact r.mem a ha
    · exact ih a ha
theorem RepS.get (h : RepS G F H σ ρ A) : ∀ {i : Nat} {t : T}, ρ[i]? = some (some t) → ∃ v, σ[i]? = some (some v) ∧ ((∃ d, t = .sh d ∧ Rep G F v d) ∨ ∃ p u o, t = .own o ∧ v = .ref p ∧ H p = some u ∧ RepO G F u o ∧ p ∈ A) := by
  induction h with
  | nil => intro i t e; simp at e
  | skip _ ih =>
    intro i t e
    cases i with
    | zero => simp at e
    | succ i => simpa using ih (i := i) (by simpa using e)
  | sh r _ ih =>
    intro i t e
    cases i with
    | zero => simp at e; subst e; exact ⟨_, rfl, .inl ⟨_, rfl, r⟩⟩
    | succ i => simpa using ih (i := i) (by simpa using e)
  | own h1 h2 h3 _ ih =>
    intro i t e
    cases i with
    | zero => simp at e; subst e; exact ⟨_, rfl, .inr ⟨_, _, _, rfl, rfl, h1, h3, List.mem_cons_self ..⟩⟩
    | succ i =>
      obtain ⟨v, e1, q⟩ := ih (i := i) (by simpa using e)
      refine ⟨v, by simpa using e1, ?_⟩
      rcases q with q | ⟨p, vs, ds, a, b, c, d, m⟩
      · exact .inl q
      · exact .inr ⟨p, vs, ds, a, b, c, d, List.mem_cons_of_mem _ m⟩
end
end Pf

namespace Pf
open PySem PySem.Spec L2

/-- the data that a slot shows -/
def slotD : Option (Option T) → Option D
  | some (some (.sh d)) => some d
  | some (some (.own o)) => some o.d
  | _ => none
/-- the data that a temporary shows -/
def view (ρ : Env) : T → Option D
  | .sh d => some d
  | .own o => some o.d
  | .al i => slotD ρ[i]?
section
variable {G : Cfg} {σ σ' : L2.St} {F H F' H' : Hp} {ρ ρ' : Env} {τ : List (V × T)} {A : List Addr} {v : V} {t : T} {fm : Fm}
theorem Good.pop {x : V × T} (g : Good G fm ρ σ (x :: τ) F H) : Good G fm ρ σ τ F H := by
  obtain ⟨A1, A2, s, l, nd, k⟩ := g.own
  cases l with
  | cons r l =>
    rename_i A B
    refine ⟨g.FH, g.F0, g.keep, g.hid, g.live, g.pin, g.lent, g.lb, g.tab, A1, B, s, l, ?_, fun a ha => k a ?_⟩
    · refine nd.sublist ?_
      exact List.Sublist.append_left (List.sublist_append_right _ _) _
    · rcases List.mem_append.mp ha with ha | ha
      · exact List.mem_append_left _ ha
      · exact List.mem_append_right _ (List.mem_append_right _ ha)

theorem Good.view {d : D} (g : Good G fm ρ σ ((v, t) :: τ) F H) (e : view ρ t = some d) : RepV G F H v d := by
  obtain ⟨A1, A2, s, l, nd, k⟩ := g.own
  cases l with
  | cons r l =>
    cases r with
    | sh r => cases e; exact .inl r
    | own h1 h2 h3 => cases e; exact .inr ⟨_, _, _, rfl, rfl, h1, h3⟩
    | al q =>
      rename_i i
      have e : slotD ρ[i]? = some d := e
      cases hq : ρ[i]? with
      | none => rw [hq] at e; cases e
      | some o =>
        rw [hq] at e
        cases o with
        | none => cases e
        | some t =>
          obtain ⟨v', e1, q'⟩ := s.get hq
          rw [q] at e1; cases e1
          rcases q' with ⟨d', rfl, r'⟩ | ⟨p, vs, ds, rfl, rfl, h1, h3, _⟩
          · cases e; exact .inl r'
          · cases e; exact .inr ⟨p, vs, ds, rfl, rfl, h1, h3⟩
/-- what stands among the temporaries -/
theorem Good.viewAt {τ' : List (V × T)} {d : D} (g : Good G fm ρ σ (τ' ++ (v, t) :: τ) F H) (e : Pf.view ρ t = some d) : RepV G F H v d := by
  induction τ' with
  | nil => exact g.view e
  | cons x τ' ih => exact ih g.pop

/-- a grown state, one more temporary -/
theorem Good.grow (g : Good G fm ρ σ τ F H) (k : Grow F H F' H') : Good G fm ρ σ τ F' H' := by
  obtain ⟨A1, A2, s, l, nd, k'⟩ := g.own
  have hs := s.mem
  have hl := l.mem
  refine ⟨k.FH, g.F0.trans k.FF, fun a o e n => k.HH _ _ (g.keep a o e n), fun a h1 h2 => k.hid a (g.live a h1) (g.hid a h1 h2), fun a h => ?_, g.pin, g.lent, g.lb, fun p hp => ⟨(g.tab p hp).1.ext k.HH, k.hid _ (by obtain ⟨ps, h1, _⟩ := (g.tab p hp).1; rw [h1]; exact fun z => nomatch z) (g.tab p hp).2.1, (g.tab p hp).2.2⟩,
    A1, A2, s.mono k.FF (fun a ha o e => k.HH _ _ e) (fun a ha => ?_), l.mono k.FF (fun a ha o e => k.HH _ _ e) (fun a ha => ?_), nd, k'⟩
  · cases q : H a with
    | none => exact absurd q (g.live a h)
    | some o => rw [k.HH _ _ q]; exact fun z => nomatch z
  · obtain ⟨h1, vs, h2⟩ := hs a ha
    exact k.hid a (by rw [h2]; exact fun z => nomatch z) h1
  · obtain ⟨h1, vs, h2⟩ := hl a ha
    exact k.hid a (by rw [h2]; exact fun z => nomatch z) h1
theorem Good.pushSh {d : D} (g : Good G fm ρ σ τ F H) (r : Rep G F v d) : Good G fm ρ σ ((v, .sh d) :: τ) F H := by
  obtain ⟨A1, A2, s, l, nd, k⟩ := g.own
  exact ⟨g.FH, g.F0, g.keep, g.hid, g.live, g.pin, g.lent, g.lb, g.tab, A1, [] ++ A2, s, .cons (.sh r) l, nd, k⟩
theorem Good.pushAl {i : Nat} (g : Good G fm ρ σ τ F H) (r : σ[i]? = some (some v)) : Good G fm ρ σ ((v, .al i) :: τ) F H := by
  obtain ⟨A1, A2, s, l, nd, k⟩ := g.own
  exact ⟨g.FH, g.F0, g.keep, g.hid, g.live, g.pin, g.lent, g.lb, g.tab, A1, [] ++ A2, s, .cons (.al r) l, nd, k⟩
/-- a new thing of one's own: H ahead, H' behind; p is new -/
theorem Good.pushOwn {p : Addr} {u : HO} {o : O} (g : Good G fm ρ σ τ F H) (k : Grow F H F' H') (hp : H p = none) (h1 : H' p = some u) (h2 : F' p = none) (r : RepO G F' u o) :
    Good G fm ρ σ ((.ref p, .own o) :: τ) F' H' := by
  have g' := g.grow k
  obtain ⟨A1, A2, s, l, nd, k'⟩ := g.own
  have n1 : p ∉ A1 := fun ha => by
    obtain ⟨_, vs, h2⟩ := s.mem p ha
    rw [hp] at h2; cases h2
  have n2 : p ∉ A2 := fun ha => by
    obtain ⟨_, vs, h2⟩ := l.mem p ha
    rw [hp] at h2; cases h2
  have np : fm.H0 p = none := by
    cases q : fm.H0 p with
    | none => rfl
    | some o => exact absurd hp (g.live p (by rw [q]; exact fun z => nomatch z))
  have hs : RepS G F' H' σ ρ A1 := s.mono k.FF (fun a ha o e => k.HH _ _ e) (fun a ha => by
    obtain ⟨h1, vs, h2⟩ := s.mem a ha
    exact k.hid a (by rw [h2]; exact fun z => nomatch z) h1)
  have hl : RepL G σ F' H' τ A2 := l.mono k.FF (fun a ha o e => k.HH _ _ e) (fun a ha => by
    obtain ⟨h1, vs, h2⟩ := l.mem a ha
    exact k.hid a (by rw [h2]; exact fun z => nomatch z) h1)
  refine ⟨g'.FH, g'.F0, g'.keep, g'.hid, g'.live, g'.pin, g'.lent, g'.lb, g'.tab, A1, [p] ++ A2, hs, .cons (.own h1 h2 r) hl, ?_, fun a ha => ?_⟩
  · rw [List.nodup_append] at nd ⊢
    refine ⟨nd.1, List.nodup_cons.mpr ⟨n2, nd.2.1⟩, fun a ha b hb => ?_⟩
    rcases List.mem_cons.mp hb with rfl | hb
    · exact fun e => n1 (e ▸ ha)
    · exact nd.2.2 a ha b hb
  · rcases List.mem_append.mp ha with ha | ha
    · exact k' a (List.mem_append_left _ ha)
    · rcases List.mem_cons.mp ha with rfl | ha
      · exact .inl np
      · exact k' a (List.mem_append_right _ ha)
end


/-! ### freezing -/
section
variable {G : Cfg} {σ σ' : L2.St} {F H F' H' : Hp} {ρ ρ' : Env} {τ : List (V × T)} {A : List Addr} {v : V} {t : T} {fm : Fm}
/-- the slot i, a thing of its own -/
theorem RepS.at_own (h : RepS G F H σ ρ A) : ∀ {i : Nat} {ds : O}, ρ[i]? = some (some (.own ds)) → A.Nodup →
    ∃ (p : Addr) (vs : HO) (A1 A2 : List Addr), A = A1 ++ p :: A2 ∧ σ[i]? = some (some (.ref p)) ∧ H p = some vs ∧ F p = none ∧ RepO G F vs ds ∧
      (∀ F' H', Same F F' → (∀ a ∈ A1 ++ A2, H' a = H a) → (∀ a ∈ A1 ++ A2, F' a = none) → ∀ d, Rep G F' (.ref p) d → RepS G F' H' σ (ρ.set i (some (.sh d))) (A1 ++ A2)) ∧
      (∀ F' H', Same F F' → (∀ a ∈ A1 ++ A2, H' a = H a) → (∀ a ∈ A, F' a = none) → ∀ vs' ds', H' p = some vs' → RepO G F' vs' ds' → RepS G F' H' σ (ρ.set i (some (.own ds'))) A) ∧
      (∀ F' H' o, Same F F' → (∀ a ∈ A1 ++ A2, H' a = H a) → (∀ a ∈ A1 ++ A2, F' a = none) → RepS G F' H' (σ.set i o) (ρ.set i none) (A1 ++ A2)) ∧
      (∀ j ds', ρ[j]? = some (some (.own ds')) → σ[j]? = some (some (.ref p)) → j = i) := by
  induction h with
  | nil => intro i ds e; simp at e
  | skip _ ih =>
    intro i ds e nd
    cases i with
    | zero => simp at e
    | succ i =>
      obtain ⟨p, vs, A1, A2, e1, e2, e3, e4, e5, k1, k2, k3, k4⟩ := ih (i := i) (by simpa using e) nd
      refine ⟨p, vs, A1, A2, e1, by simpa using e2, e3, e4, e5, fun F' H' a b c d r => .skip (k1 F' H' a b c d r), fun F' H' a b c vs' ds' d r => .skip (k2 F' H' a b c vs' ds' d r), fun F' H' o a b c => .skip (k3 F' H' o a b c), fun j ds' q1 q2 => ?_⟩
      cases j with
      | zero => simp at q1
      | succ j => rw [k4 j ds' (by simpa using q1) (by simpa using q2)]
  | sh r0 _ ih =>
    intro i ds e nd
    cases i with
    | zero => simp at e
    | succ i =>
      obtain ⟨p, vs, A1, A2, e1, e2, e3, e4, e5, k1, k2, k3, k4⟩ := ih (i := i) (by simpa using e) nd
      refine ⟨p, vs, A1, A2, e1, by simpa using e2, e3, e4, e5, fun F' H' a b c d r => .sh (r0.mono a) (k1 F' H' a b c d r), fun F' H' a b c vs' ds' d r => .sh (r0.mono a) (k2 F' H' a b c vs' ds' d r), fun F' H' o a b c => .sh (r0.mono a) (k3 F' H' o a b c), fun j ds' q1 q2 => ?_⟩
      cases j with
      | zero => simp at q1
      | succ j => rw [k4 j ds' (by simpa using q1) (by simpa using q2)]
  | own h1 h2 h3 hr ih =>
    rename_i p0 vs0 ds0 σ0 ρ0 A0
    intro i ds e nd
    cases i with
    | zero =>
      simp at e
      subst e
      have np := (List.nodup_cons.mp nd).1
      refine ⟨p0, vs0, [], A0, rfl, rfl, h1, h2, h3, fun F' H' a b c d r => .sh r ?_, fun F' H' a b c vs' ds' d r => .own d (c _ (List.mem_cons_self ..)) r ?_, fun F' H' o a b c => .skip ?_, fun j ds' q1 q2 => ?_⟩
      · exact hr.mono a (fun x hx o q => by rw [b x (by simpa using hx)]; exact q) fun x hx => c x (by simpa using hx)
      · exact hr.mono a (fun x hx o q => by rw [b x (by simpa using hx)]; exact q) fun x hx => c x (List.mem_cons_of_mem _ hx)
      · exact hr.mono a (fun x hx o q => by rw [b x (by simpa using hx)]; exact q) fun x hx => c x (by simpa using hx)
      · cases j with
        | zero => rfl
        | succ j =>
          obtain ⟨v, e1, q⟩ := hr.get (i := j) (by simpa using q1)
          have q2' : σ0[j]? = some (some (V.ref p0)) := by simpa using q2
          rw [q2'] at e1; cases e1
          rcases q with ⟨d, z, _⟩ | ⟨p, vs, ds, _, z, _, _, m⟩
          · cases z
          · cases z; exact absurd m np
    | succ i =>
      have nd' := List.nodup_cons.mp nd
      obtain ⟨p, vs, A1, A2, e1, e2, e3, e4, e5, k1, k2, k3, k4⟩ := ih (i := i) (by simpa using e) nd'.2
      have hm : ∀ x ∈ A1 ++ A2, x ∈ p0 :: A1 ++ A2 := fun x hx => List.mem_cons_of_mem _ hx
      refine ⟨p, vs, p0 :: A1, A2, by rw [e1]; rfl, by simpa using e2, e3, e4, e5, fun F' H' a b c d r => .own ?_ (c _ (List.mem_cons_self ..)) (h3.mono a) (k1 F' H' a (fun x hx => b x (hm x hx)) (fun x hx => c x (hm x hx)) d r),
        fun F' H' a b c vs' ds' d r => .own ?_ (c _ (List.mem_cons_self ..)) (h3.mono a) (k2 F' H' a (fun x hx => b x (hm x hx)) (fun x hx => c x (List.mem_cons_of_mem _ hx)) vs' ds' d r),
        fun F' H' o a b c => .own ?_ (c _ (List.mem_cons_self ..)) (h3.mono a) (k3 F' H' o a (fun x hx => b x (hm x hx)) (fun x hx => c x (hm x hx))), fun j ds' q1 q2 => ?_⟩
      · rw [b _ (List.mem_cons_self ..)]; exact h1
      · rw [b _ (List.mem_cons_self ..)]; exact h1
      · rw [b _ (List.mem_cons_self ..)]; exact h1
      · cases j with
        | zero =>
          simp at q2
          subst q2
          exact absurd (by rw [e1]; exact List.mem_append_right _ (List.mem_cons_self ..)) nd'.1
        | succ j => rw [k4 j ds' (by simpa using q1) (by simpa using q2)]
theorem RepS.set_none (h : RepS G F H σ ρ A) : ∀ (i : Nat) (o : Option V), ∃ B, RepS G F H (σ.set i o) (ρ.set i none) B ∧ B.Sublist A := by
  induction h with
  | nil => exact fun i o => ⟨[], .nil, .slnil⟩
  | skip h ih =>
    intro i o
    cases i with
    | zero => exact ⟨_, .skip h, List.Sublist.refl _⟩
    | succ i => obtain ⟨B, b1, b2⟩ := ih i o; exact ⟨B, .skip b1, b2⟩
  | sh r h ih =>
    intro i o
    cases i with
    | zero => exact ⟨_, .skip h, List.Sublist.refl _⟩
    | succ i => obtain ⟨B, b1, b2⟩ := ih i o; exact ⟨B, .sh r b1, b2⟩
  | own h1 h2 h3 h ih =>
    intro i o
    cases i with
    | zero => exact ⟨_, .skip h, List.sublist_cons_self _ _⟩
    | succ i => obtain ⟨B, b1, b2⟩ := ih i o; exact ⟨_, .own h1 h2 h3 b1, b2.cons_cons _⟩

/-- the pinned slots -/
def Pins (fm : Fm) (m : List Nat) : Prop := ∀ p ∈ fm.m, p.1 ∈ m
/-- the lambdas' table of the law -/
def LamAt (K : PySem.W.Frag) (mg : Str → Option Value) (base : Heap) (fm : Fm) : Prop := ∃ (fl : Addr) (oc : Value) (od : Option Addr) (fd : FuncData) (osl : Array (Option Value)) (c P : Addr), mg "law" = some (.ref fl) ∧ K.lookup fl = some ⟨oc, od, .func fd, osl⟩ ∧ fd.code = .ref c ∧ LamX.TabB base mg c P ∧
  (P, Str.ofString "law.<locals>.<lambda>") ∈ fm.T ∧ ∀ p ∈ fm.T, p.1 = P → p.2 = Str.ofString "law.<locals>.<lambda>"
/-- what is asked of a frame; the mark 1000: there are lambdas -/
structure PinS (K : PySem.W.Frag) (mg : Str → Option Value) (base : Heap) (fm : Fm) (m : List Nat) : Prop where
  pin : Pins fm m
  lam : 1000 ∈ m → LamAt K mg base fm
instance {K : PySem.W.Frag} {mg : Str → Option Value} {base : Heap} {fm : Fm} {m : List Nat} : CoeOut (PinS K mg base fm m) (Pins fm m) := ⟨PinS.pin⟩
abbrev PinX (X : Cx) (fm : Fm) (m : List Nat) : Prop := PinS X.K X.mg X.base fm m
theorem nd_mid {p : Addr} {A1 A2 B : List Addr} (h : ((A1 ++ p :: A2) ++ B).Nodup) : ((A1 ++ A2) ++ B).Nodup ∧ p ∉ A1 ++ A2 ∧ p ∉ B := by
  have h' : (p :: ((A1 ++ A2) ++ B)).Nodup := by
    refine (List.Perm.nodup_iff ?_).mp h
    simp only [List.append_assoc, List.cons_append]
    exact List.perm_middle
  have q := List.nodup_cons.mp h'
  exact ⟨q.2, fun z => q.1 (List.mem_append_left _ z), fun z => q.1 (List.mem_append_right _ z)⟩
/-- a slot's own thing is shared from now on -/
theorem Good.freeze {m : List Nat} (hm : Pins fm m) (g : Good G fm ρ σ τ F H) {i : Nat} {ds : O} (e : ρ[i]? = some (some (.own ds))) (hi : i ∉ m) :
    ∃ F', Good G fm (ρ.set i (some (.sh ds.d))) σ τ F' H ∧ Same F F' ∧ ∃ p, σ[i]? = some (some (.ref p)) ∧ Rep G F' (.ref p) ds.d := by
  obtain ⟨A1, A2, s, l, nd, k⟩ := id g.own
  obtain ⟨p, vs, B1, B2, e1, e2, e3, e4, e5, k1, k2, k3, k4⟩ := s.at_own e (List.nodup_append.mp nd).1
  subst e1
  obtain ⟨nd2, n1, n2⟩ := nd_mid nd
  have hF : Same F (upd F p vs) := same_upd_new e4
  have r : Rep G (upd F p vs) (.ref p) ds.d := (e5.mono hF).rep upd_same
  have hF' : ∀ a, a ≠ p → upd F p vs a = F a := fun a h => upd_ne h
  refine ⟨upd F p vs, ⟨fun a o q => ?_, g.F0.trans hF, g.keep, fun a h1 h2 => ?_, g.live, g.pin, fun pr hp => ?_, g.lb, g.tab.froze e3 e5 _, B1 ++ B2, A2, ?_, ?_, nd2, fun a ha => k a ?_⟩, hF, p, e2, r⟩
  · by_cases ha : a = p
    · subst ha; rw [upd_same] at q; rw [e3]; exact q
    · rw [upd_ne ha] at q; exact g.FH _ _ q
  · have hne : a ≠ p := by
      rintro rfl
      rcases k a (List.mem_append_left _ (List.mem_append_right _ (List.mem_cons_self ..))) with z | z
      · exact h1 z
      · obtain ⟨j, ds', m1, m2⟩ := g.lentAt a z
        have := k4 j ds' m2 (g.pin _ m1)
        subst this
        exact hi (hm _ m1)
    rw [upd_ne hne]
    exact g.hid a h1 h2
  · rcases g.lent pr hp with ⟨ds', m2⟩ | m2
    · refine .inl ⟨ds', ?_⟩
      have hj : i ≠ pr.1 := by rintro rfl; exact hi (hm _ hp)
      rw [List.getElem?_set_ne hj]; exact m2
    · exact .inr m2
  · refine k1 _ _ hF (fun _ _ => rfl) (fun a ha => ?_) _ r
    rw [upd_ne (show a ≠ p by intro z; rw [z] at ha; exact n1 ha)]
    exact (s.mem a (by rcases List.mem_append.mp ha with h | h; exact List.mem_append_left _ h; exact List.mem_append_right _ (List.mem_cons_of_mem _ h))).1
  · refine l.mono hF (fun _ _ _ q => q) fun a ha => ?_
    rw [upd_ne (show a ≠ p by intro z; rw [z] at ha; exact n2 ha)]
    exact (l.mem a ha).1
  · rcases List.mem_append.mp ha with ha | ha
    · refine List.mem_append_left _ ?_
      rcases List.mem_append.mp ha with h | h
      · exact List.mem_append_left _ h
      · exact List.mem_append_right _ (List.mem_cons_of_mem _ h)
    · exact List.mem_append_right _ ha
/-- a temporary thing is shared from now on -/
theorem Good.freezeTop {p : V} {ds : O} (g : Good G fm ρ σ ((p, .own ds) :: τ) F H) : ∃ F', Good G fm ρ σ ((p, .sh ds.d) :: τ) F' H ∧ Same F F' := by
  obtain ⟨A1, A2, s, l, nd, k⟩ := id g.own
  cases l with
  | cons r l =>
    rename_i A B
    cases r with
    | own h1 h2 h3 =>
      rename_i p vs
      have hF : Same F (upd F p vs) := same_upd_new h2
      have hp : p ∈ A1 ++ ([p] ++ B) := List.mem_append_right _ (List.mem_append_left _ (List.mem_cons_self ..))
      have nd' : (p :: (A1 ++ B)).Nodup := by
        refine (List.Perm.nodup_iff ?_).mp nd
        exact List.perm_middle
      have n0 := (List.nodup_cons.mp nd').1
      have n1 : p ∉ A1 := fun z => n0 (List.mem_append_left _ z)
      have n2 : p ∉ B := fun z => n0 (List.mem_append_right _ z)
      have r : Rep G (upd F p vs) (.ref p) ds.d := (h3.mono hF).rep upd_same
      refine ⟨upd F p vs, ⟨fun a o q => ?_, g.F0.trans hF, g.keep, fun a z1 z2 => ?_, g.live, g.pin, g.lent, g.lb, g.tab.froze h1 h3 _, A1, [] ++ B, ?_, .cons (.sh r) ?_, (List.nodup_cons.mp nd').2, fun a ha => k a ?_⟩, hF⟩
      · by_cases ha : a = p
        · subst ha; rw [upd_same] at q; rw [h1]; exact q
        · rw [upd_ne ha] at q; exact g.FH _ _ q
      · have hne : a ≠ p := by
          rintro rfl
          rcases k a hp with z | z
          · exact z1 z
          · obtain ⟨j, ds', m1, m2⟩ := g.lentAt a z
            obtain ⟨v, q1, q2⟩ := s.get m2
            rw [g.pin _ m1] at q1; cases q1
            rcases q2 with ⟨d, z, _⟩ | ⟨p, vs, ds, _, z, _, _, mm⟩
            · cases z
            · cases z; exact n1 mm
        rw [upd_ne hne]
        exact g.hid a z1 z2
      · refine s.mono hF (fun _ _ _ q => q) fun a ha => ?_
        rw [upd_ne (show a ≠ p by intro z; rw [z] at ha; exact n1 ha)]
        exact (s.mem a ha).1
      · refine l.mono hF (fun _ _ _ q => q) fun a ha => ?_
        rw [upd_ne (show a ≠ p by intro z; rw [z] at ha; exact n2 ha)]
        exact (l.mem a ha).1
      · rcases List.mem_append.mp ha with ha | ha
        · exact List.mem_append_left _ ha
        · exact List.mem_append_right _ (List.mem_append_right _ ha)
end
/-! ### readings of code as such -/
def tE (X : Cx) (e : Expr) : TE := fun σ H Q => ∀ pins s, Inv X pins σ H s → wpAny (model X.prog X.w) X.A (eval e X.env) (EP X pins σ Q) X.xe s
def tT (X : Cx) (e : Expr) : TT := fun σ H Q => ∀ pins s, Inv X pins σ H s → wpAny (model X.prog X.w) X.A (isTrue e X.env (eval e X.env)) (TP X pins σ Q) X.xe s
def tS (X : Cx) (st : Stmt) : TS := fun D σ H => ∀ pins s, Inv X pins σ H s → wpAny (model X.prog X.w) X.A (exec st X.env) (SP X pins D) X.xe s
def tSs (X : Cx) (st : List Stmt) : TS := fun D σ H => ∀ pins s, Inv X pins σ H s → wpAny (model X.prog X.w) X.A (execs st X.env) (SP X pins D) X.xe s
end Pf

namespace Pf
open PySem PySem.Spec L2

abbrev gX (X : Cx) : Cfg := ⟨X.K, X.mg⟩
/-- an exception as it lies: its class, its dict -/
def RepX (G : Cfg) (F : Hp) (x : Exn) (cls : Value) (d : Option Addr) : Prop :=
  ∃ (C dd : Addr) (fs : List (Str × V)), cls = .ref C ∧ G.mg x.cls = some (.ref C) ∧ d = some dd ∧ F dd = some (.xd fs) ∧ fs.map (·.1) = x.fs.map (·.1) ∧ Reps G F (fs.map (·.2)) (x.fs.map (·.2))

section
variable (X : Cx) (fm : Fm) (W : WX)
def PostX (σ : L2.St) (τ : List (V × T)) (x : Exn) (ρ' : Env) : Prop := ∀ cls d F' H', Good (gX X) fm ρ' σ τ F' H' → RepX (gX X) F' x cls d → W cls d σ H'
def PostE (σ : L2.St) (τ : List (V × T)) (r : R T) (Q : VK) : Prop := match r with
  | .ok t ρ' => ∀ v F' H', Good (gX X) fm ρ' σ ((v, t) :: τ) F' H' → Q v H'
  | .ex x ρ' => PostX X fm W σ τ x ρ'
  | .bad => False
def PostT (σ : L2.St) (τ : List (V × T)) (r : R Bool) (Q : Bool → Hp → Prop) : Prop := match r with
  | .ok b ρ' => ∀ F' H', Good (gX X) fm ρ' σ τ F' H' → Q b H'
  | .ex x ρ' => PostX X fm W σ τ x ρ'
  | .bad => False
def pushAll (vs : List V) (ts : List T) (τ : List (V × T)) : List (V × T) := (vs.zip ts).reverse ++ τ
def PostA (σ : L2.St) (τ : List (V × T)) (r : R (List T)) (Q : List V → Hp → Prop) : Prop := match r with
  | .ok ts ρ' => ∀ vs F' H', vs.length = ts.length → Good (gX X) fm ρ' σ (pushAll vs ts τ) F' H' → Q vs H'
  | .ex x ρ' => PostX X fm W σ τ x ρ'
  | .bad => False
def PostS (τ : List (V × T)) (r : RS) (D : Ends) : Prop := match r with
  | .nx ρ' => ∀ σ' F' H', Good (gX X) fm ρ' σ' τ F' H' → D.nx σ' H'
  | .rt t ρ' => ∀ v σ' F' H', Good (gX X) fm ρ' σ' ((v, t) :: τ) F' H' → D.rt v H'
  | .bk ρ' => ∀ σ' F' H', Good (gX X) fm ρ' σ' τ F' H' → D.bk σ' H'
  | .ct ρ' => ∀ σ' F' H', Good (gX X) fm ρ' σ' τ F' H' → D.ct σ' H'
  | .ex x ρ' => ∀ σ', PostX X fm W σ' τ x ρ'
  | .bad => False
end
/-- temporaries without aliases stand when slots are stored -/
def noAl : T → Bool
  | .al _ => false
  | _ => true
def NoAls (τ : List (V × T)) : Prop := ∀ x ∈ τ, noAl x.2 = true
section
variable (X : Cx) (m : List Nat) (W : WX)
def SE (e : Expr) (f : Env → R T) : Prop := ∀ fm, PinX X fm m → ∀ ρ σ τ F H Q, Good (gX X) fm ρ σ τ F H → PostE X fm W σ τ (f ρ) Q → tE X e σ H Q
def ST (e : Expr) (f : Env → R Bool) : Prop := ∀ fm, PinX X fm m → ∀ ρ σ τ F H Q, Good (gX X) fm ρ σ τ F H → PostT X fm W σ τ (f ρ) Q → tT X e σ H Q
def SA (es : List Expr) (f : Env → R (List T)) : Prop := ∃ t, PA X es t ∧ ∀ fm, PinX X fm m → ∀ ρ σ τ F H Q, Good (gX X) fm ρ σ τ F H → PostA X fm W σ τ (f ρ) Q → t σ H Q
def SS (st : Stmt) (g : Env → RS) : Prop := ∀ fm, PinX X fm m → ∀ ρ σ τ F H D, NoAls τ → Good (gX X) fm ρ σ τ F H → PostS X fm W τ (g ρ) D → tS X st D σ H
def SSs (st : List Stmt) (g : Env → RS) : Prop := ∀ fm, PinX X fm m → ∀ ρ σ τ F H D, NoAls τ → Good (gX X) fm ρ σ τ F H → PostS X fm W τ (g ρ) D → tSs X st D σ H
end

section
variable {X : Cx}
theorem pe_tE {e : Expr} : PE X e (tE X e) := ⟨fun pins s σ H Q I h => h pins s I⟩
theorem pt_tT {e : Expr} : PT X e (tT X e) := ⟨fun pins s σ H Q I h => h pins s I⟩
theorem ps_tS {e : Stmt} : PS X e (tS X e) := ⟨fun pins s σ H Q I h => h pins s I⟩
theorem pss_tSs {e : List Stmt} : PSs X e (tSs X e) := ⟨fun pins s σ H Q I h => h pins s I⟩
theorem tE_of {e : Expr} {t : TE} (h : PE X e t) {σ : L2.St} {H : Hp} {Q : VK} (q : t σ H Q) : tE X e σ H Q := fun pins s I => h.run pins s σ H Q I q
theorem tT_of {e : Expr} {t : TT} (h : PT X e t) {σ : L2.St} {H : Hp} {Q : Bool → Hp → Prop} (q : t σ H Q) : tT X e σ H Q := fun pins s I => h.run pins s σ H Q I q
theorem tS_of {e : Stmt} {t : TS} (h : PS X e t) {σ : L2.St} {H : Hp} {D : Ends} (q : t D σ H) : tS X e D σ H := fun pins s I => h.run pins s σ H D I q
theorem tSs_of {e : List Stmt} {t : TS} (h : PSs X e t) {σ : L2.St} {H : Hp} {D : Ends} (q : t D σ H) : tSs X e D σ H := fun pins s I => h.run pins s σ H D I q
end

/-! ### results -/
def ResT (G : Cfg) (H0 F H : Hp) (v : V) : T → Prop
  | .sh d => Rep G F v d
  | .own o => ∃ p u, v = .ref p ∧ H0 p = none ∧ F p = none ∧ H p = some u ∧ RepO G F u o
  | .al _ => False
theorem Good.res {G : Cfg} {σ : L2.St} {F H F' H' : Hp} {ρ : Env} {τ : List (V × T)} {v : V} {t : T} {fm : Fm} (g : Good G fm ρ σ τ F H) (k : Grow F H F' H') (r : ResT G H F' H' v t) : Good G fm ρ σ ((v, t) :: τ) F' H' := by
  cases t with
  | sh d => exact (g.grow k).pushSh r
  | own ds =>
    obtain ⟨p, vs, rfl, h1, h2, h3, h4⟩ := r
    exact g.pushOwn k h1 h3 h2 h4
  | al i => exact r.elim
theorem RepV.mono {G : Cfg} {F H F' H' : Hp} {v : V} {d : D} (a : Same F F') (b : Same H H') (h : RepV G F H v d) : RepV G F' H' v d := by
  rcases h with h | ⟨p, vs, ds, h1, h2, h3, h4⟩
  · exact .inl (h.mono a)
  · exact .inr ⟨p, vs, ds, h1, h2, b _ _ h3, h4.mono a⟩

inductive RepVs (G : Cfg) (F H : Hp) : List V → List D → Prop
  | nil : RepVs G F H [] []
  | cons {v d vs ds} : RepV G F H v d → RepVs G F H vs ds → RepVs G F H (v :: vs) (d :: ds)
theorem Reps.toV {G : Cfg} {F H : Hp} : ∀ {vs ds}, Reps G F vs ds → RepVs G F H vs ds
  | _, _, .nil => .nil
  | _, _, .cons h t => .cons (.inl h) t.toV

def Op1 (G : Cfg) (r : V → Hp → VK → Prop) (op : D → Option T) : Prop := ∀ F H x dx t Q, Same F H → RepV G F H x dx → op dx = some t → (∀ v F' H', Grow F H F' H' → ResT G H F' H' v t → Q v H') → r x H Q
def Op2 (G : Cfg) (r : R2) (op : D → D → Option T) : Prop := ∀ F H x y dx dy t Q, Same F H → RepV G F H x dx → RepV G F H y dy → op dx dy = some t → (∀ v F' H', Grow F H F' H' → ResT G H F' H' v t → Q v H') → r x y H Q
def OpN (G : Cfg) (r : List V → Hp → VK → Prop) (op : List D → Option T) : Prop := ∀ F H vs ds t Q, Same F H → RepVs G F H vs ds → op ds = some t → (∀ v F' H', Grow F H F' H' → ResT G H F' H' v t → Q v H') → r vs H Q

/-! ### denotations of expressions -/
def R.bind {α β : Type} (r : R α) (k : α → Env → R β) : R β := match r with
  | .ok a ρ => k a ρ
  | .ex x ρ => .ex x ρ
  | .bad => .bad
def opt {β : Type} (o : Option β) (ρ : Env) : R β := match o with
  | some b => .ok b ρ
  | none => .bad
def views (ρ : Env) : List T → Option (List D)
  | [] => some []
  | t :: ts => match view ρ t, views ρ ts with
    | some d, some ds => some (d :: ds)
    | _, _ => none
/-- a value, no matter where -/
def eC (d : D) : Env → R T := fun ρ => .ok (.sh d) ρ
def eV (i : Nat) : Env → R T := fun ρ => match ρ[i]? with
  | some (some (.sh d)) => .ok (.sh d) ρ
  | some (some (.own _)) => .ok (.al i) ρ
  | _ => .bad
def e1 (op : D → Option T) (fa : Env → R T) : Env → R T := fun ρ => (fa ρ).bind fun ta ρ1 => opt ((view ρ1 ta).bind op) ρ1
def e2 (op : D → D → Option T) (fa fb : Env → R T) : Env → R T := fun ρ => (fa ρ).bind fun ta ρ1 => (fb ρ1).bind fun tb ρ2 => opt ((view ρ2 ta).bind fun a => (view ρ2 tb).bind fun b => op a b) ρ2
def eN (op : List D → Option T) (fs : Env → R (List T)) : Env → R T := fun ρ => (fs ρ).bind fun ts ρ1 => opt ((views ρ1 ts).bind op) ρ1
def aNil : Env → R (List T) := fun ρ => .ok [] ρ
def aCons (fa : Env → R T) (fs : Env → R (List T)) : Env → R (List T) := fun ρ => (fa ρ).bind fun t ρ1 => (fs ρ1).bind fun ts ρ2 => .ok (t :: ts) ρ2
/-- as a test -/
def truD : D → Option Bool
  | .non => some false
  | .bl b => some b
  | .int i => some (i != 0)
  | .str y => if y.length ≤ sizeLine then some ((y.length : Int) != 0) else none
  | .lst xs => some (!xs.isEmpty)
  | .tup xs => some (!xs.isEmpty)
  | _ => none
def cV (fa : Env → R T) : Env → R Bool := fun ρ => (fa ρ).bind fun t ρ1 => opt ((view ρ1 t).bind truD) ρ1
def cAnd (fa fb : Env → R Bool) : Env → R Bool := fun ρ => (fa ρ).bind fun a ρ1 => if a = true then fb ρ1 else .ok false ρ1
def cOr (fa fb : Env → R Bool) : Env → R Bool := fun ρ => (fa ρ).bind fun a ρ1 => if a = true then .ok true ρ1 else fb ρ1
def cNot (fa : Env → R Bool) : Env → R Bool := fun ρ => (fa ρ).bind fun a ρ1 => .ok (!a) ρ1
def eIf (c : Env → R Bool) (fa fb : Env → R T) : Env → R T := fun ρ => (c ρ).bind fun b ρ1 => if b = true then fa ρ1 else fb ρ1
/-- a and b, a or b, not a: truths -/
def isBl : D → Option Bool
  | .bl b => some b
  | _ => none
def eAnd (fa fb : Env → R T) : Env → R T := fun ρ => (fa ρ).bind fun t ρ1 => match (view ρ1 t).bind isBl with
  | some true => fb ρ1
  | some false => .ok (.sh (.bl false)) ρ1
  | none => .bad
def eOr (fa fb : Env → R T) : Env → R T := fun ρ => (fa ρ).bind fun t ρ1 => match (view ρ1 t).bind isBl with
  | some true => .ok (.sh (.bl true)) ρ1
  | some false => fb ρ1
  | none => .bad
def eNot (fa : Env → R T) : Env → R T := fun ρ => (fa ρ).bind fun t ρ1 => match (view ρ1 t).bind isBl with
  | some b => .ok (.sh (.bl (!b))) ρ1
  | none => .bad

section
variable {X : Cx} {fm : Fm} {m : List Nat} {W : WX} {σ : L2.St} {τ : List (V × T)} {ρ : Env}
theorem PostX.pop {x : Exn} {y : V × T} (h : PostX X fm W σ τ x ρ) : PostX X fm W σ (y :: τ) x ρ := fun cls d F' H' g r => h cls d F' H' g.pop r
theorem opt_some {β : Type} {o : Option β} {b : β} (h : o = some b) : opt o ρ = .ok b ρ := by rw [h]; rfl

theorem se_c {v : V} {d : D} {e : Expr} (h : PE X e (tC v)) (r : ∀ F, Rep (gX X) F v d) : SE X m W e (eC d) := fun fm hm ρ σ τ F H Q g q =>
  tE_of h (q v F H (g.pushSh (r F)))
theorem se_int {i j pos} : SE X m W (.Constant (.int i) j pos) (eC (.int i)) := se_c pe_int fun _ => .int
theorem se_bl {b j pos} : SE X m W (.Constant (.bool b) j pos) (eC (.bl b)) := se_c pe_bl fun _ => .bl
theorem se_non {j pos} : SE X m W (.Constant .none j pos) (eC .non) := se_c pe_non fun _ => .non
theorem se_str {x j pos} : SE X m W (.Constant (.str x) j pos) (eC (.str x)) := se_c pe_str fun _ => .str
theorem se_var (i : Nat) {x : Str} {pos : Pos} (hN : X.N[i]? = some x := by rfl) (hv : Vis X.env.scope x := by first | exact Or.inl rfl | exact Or.inr (Or.inl rfl) | exact Or.inr (Or.inr rfl)) (hd : (x == ("__debug__" : Str)) = false := by decide)
    (hcd : (x == ("__classdict__" : Str)) = false := by decide) : SE X m W (.Name x pos) (eV i) := fun fm hm ρ σ τ F H Q g q => by
  obtain ⟨A1, A2, s, l, nd, k⟩ := id g.own
  unfold eV at q
  split at q
  · rename_i d e
    obtain ⟨v, e1, r⟩ := s.get e
    rcases r with ⟨d', e2, r⟩ | ⟨p, vs, ds, e2, _⟩
    · cases e2
      exact tE_of (pe_var hN hv hd hcd) ⟨v, e1, q v F H (g.pushSh r)⟩
    · cases e2
  · rename_i ds e
    obtain ⟨v, e1, r⟩ := s.get e
    exact tE_of (pe_var hN hv hd hcd) ⟨v, e1, q v F H (g.pushAl e1)⟩
  · exact q.elim

/-- one part, then what is made of its value -/
theorem se_bind {a : Expr} {fa : Env → R T} (hm : PinX X fm m) (ha : SE X m W a fa) {F H : Hp} (g : Good (gX X) fm ρ σ τ F H) {k : T → Env → R T} {Q : VK} (q : PostE X fm W σ τ ((fa ρ).bind k) Q) {Q1 : VK}
    (h : ∀ t ρ1 v F' H', Good (gX X) fm ρ1 σ ((v, t) :: τ) F' H' → PostE X fm W σ τ (k t ρ1) Q → Q1 v H') : tE X a σ H Q1 := by
  refine ha fm hm ρ σ τ F H Q1 g ?_
  cases e : fa ρ with
  | ok t ρ1 =>
    rw [e] at q
    exact fun v F' H' g' => h t ρ1 v F' H' g' q
  | ex x ρ1 =>
    rw [e] at q
    exact q
  | bad =>
    rw [e] at q
    exact q
theorem se_op1 {r : V → Hp → VK → Prop} {op : UnaryOp} {g : D → Option T} {a : Expr} {fa : Env → R T} {pos : Pos} (ho : UnR X (unaryOp op) r) (hs : Op1 (gX X) r g) (ha : SE X m W a fa) : SE X m W (.UnaryOp op a pos) (e1 g fa) := fun fm hm ρ σ τ F H Q gd q => by
  refine tE_of (pe_un ho pe_tE) (se_bind hm ha gd q fun t ρ1 v F' H' g' q' => ?_)
  unfold opt at q'
  split at q'
  · rename_i t' e
    obtain ⟨d, e1, e2⟩ := Option.bind_eq_some_iff.mp e
    exact hs F' H' v d t' Q g'.FH (g'.view e1) e2 fun v2 F2 H2 k r => q' v2 F2 H2 (g'.pop.res k r)
  · exact q'.elim
/-- two parts -/
theorem se_two {a b : Expr} {fa fb : Env → R T} (hm : PinX X fm m) (ha : SE X m W a fa) (hb : SE X m W b fb) {F H : Hp} (g : Good (gX X) fm ρ σ τ F H) {k : T → T → Env → R T} {Q : VK}
    (q : PostE X fm W σ τ ((fa ρ).bind fun ta ρ1 => (fb ρ1).bind fun tb ρ2 => k ta tb ρ2) Q) {Q1 : V → V → Hp → Prop}
    (h : ∀ ta tb ρ2 v u F' H', Good (gX X) fm ρ2 σ ((u, tb) :: (v, ta) :: τ) F' H' → PostE X fm W σ τ (k ta tb ρ2) Q → Q1 v u H') : tE X a σ H fun v H1 => tE X b σ H1 fun u H2 => Q1 v u H2 := by
  refine se_bind hm ha g q fun ta ρ1 v F1 H1 g1 q1 => ?_
  refine hb fm hm ρ1 σ _ F1 H1 _ g1 ?_
  cases e : fb ρ1 with
  | ok tb ρ2 =>
    rw [e] at q1
    exact fun u F2 H2 g2 => h ta tb ρ2 v u F2 H2 g2 q1
  | ex x ρ2 =>
    rw [e] at q1
    exact PostX.pop q1
  | bad =>
    rw [e] at q1
    exact q1
theorem op2_end {r : R2} {g : D → D → Option T} (hs : Op2 (gX X) r g) {ta tb : T} {v u : V} {F H : Hp} {Q : VK} (gd : Good (gX X) fm ρ σ ((u, tb) :: (v, ta) :: τ) F H)
    (q : PostE X fm W σ τ (opt ((view ρ ta).bind fun a => (view ρ tb).bind fun b => g a b) ρ) Q) : r v u H Q := by
  unfold opt at q
  split at q
  · rename_i t' e
    obtain ⟨a, e1, e⟩ := Option.bind_eq_some_iff.mp e
    obtain ⟨b, e2, e3⟩ := Option.bind_eq_some_iff.mp e
    exact hs F H v u a b t' Q gd.FH (gd.pop.view e1) (gd.view e2) e3 fun v2 F2 H2 k r => q v2 F2 H2 (gd.pop.pop.res k r)
  · exact q.elim
theorem se_op2 {r : R2} {op : Operator} {g : D → D → Option T} {a b : Expr} {fa fb : Env → R T} {pos : Pos} (ho : OpR X (binaryOp op) r) (hs : Op2 (gX X) r g) (ha : SE X m W a fa) (hb : SE X m W b fb) : SE X m W (.BinOp a op b pos) (e2 g fa fb) := fun fm hm ρ σ τ F H Q gd q =>
  tE_of (pe_op ho pe_tE pe_tE) (se_two hm ha hb gd q fun ta tb ρ2 v u F' H' g' q' => op2_end hs g' q')
theorem se_cmp {r : R2} {op : CmpOp} {g : D → D → Option T} {a b : Expr} {fa fb : Env → R T} {pos : Pos} (ho : OpR X (compareOp op) r) (hs : Op2 (gX X) r g) (ha : SE X m W a fa) (hb : SE X m W b fb) (hb0 : behindInMarks op b = false := by first | exact nomark _ | with_unfolding_all rfl) :
    SE X m W (.Compare a [op] [b] pos) (e2 g fa fb) := fun fm hm ρ σ τ F H Q gd q =>
  tE_of (pe_cmpR ho pe_tE pe_tE hb0) (se_two hm ha hb gd q fun ta tb ρ2 v u F' H' g' q' => op2_end hs g' q')
end
end Pf

namespace Pf
open PySem PySem.Spec L2

/-! ### what is shared from now on -/
def frz (m : List Nat) (ρ : Env) : T → Option (D × Env)
  | .sh d => some (d, ρ)
  | .own o => some (o.d, ρ)
  | .al i => match ρ[i]? with
    | some (some (.sh d)) => some (d, ρ)
    | some (some (.own o)) => if i ∈ m then none else some (o.d, ρ.set i (some (.sh o.d)))
    | _ => none
def eF (m : List Nat) (fa : Env → R T) : Env → R T := fun ρ => (fa ρ).bind fun t ρ1 => match frz m ρ1 t with
  | some (d, ρ2) => .ok (.sh d) ρ2
  | none => .bad
def shs : List T → Option (List D)
  | [] => some []
  | .sh d :: ts => (shs ts).map (d :: ·)
  | _ :: _ => none
def eTup (fs : Env → R (List T)) : Env → R T := fun ρ => (fs ρ).bind fun ts ρ1 => match shs ts with
  | some ds => if ds.length ≤ sizeLine then .ok (.sh (.tup ds)) ρ1 else .bad
  | none => .bad
def eLst (fs : Env → R (List T)) : Env → R T := fun ρ => (fs ρ).bind fun ts ρ1 => match shs ts with
  | some ds => if ds.length ≤ sizeLine then .ok (.own (.lst ds)) ρ1 else .bad
  | none => .bad
def eChain (g g' : D → D → Option Bool) (fa fb fc : Env → R T) : Env → R T := fun ρ => (fa ρ).bind fun ta ρ1 => (fb ρ1).bind fun tb ρ2 =>
  match (view ρ2 ta).bind fun a => (view ρ2 tb).bind fun b => g a b with
  | some true => (fc ρ2).bind fun tc ρ3 => opt (((view ρ3 tb).bind fun b => (view ρ3 tc).bind fun c => g' b c).map fun k => .sh (.bl k)) ρ3
  | some false => .ok (.sh (.bl false)) ρ2
  | none => .bad
def asBl (g : D → D → Option Bool) : D → D → Option T := fun a b => (g a b).map fun k => .sh (.bl k)

section
variable {X : Cx} {fm : Fm} {m : List Nat} {W : WX} {σ : L2.St} {τ : List (V × T)} {ρ : Env}
theorem Good.frz (hm : Pins fm m) {G : Cfg} {F H : Hp} {v : V} {t : T} {d : D} {ρ2 : Env} (g : Good G fm ρ σ ((v, t) :: τ) F H) (e : Pf.frz m ρ t = some (d, ρ2)) :
    ∃ F', Good G fm ρ2 σ ((v, .sh d) :: τ) F' H := by
  cases t with
  | sh d' => cases e; exact ⟨F, g⟩
  | own ds =>
    cases e
    obtain ⟨F', g', _⟩ := g.freezeTop
    exact ⟨F', g'⟩
  | al i =>
    unfold Pf.frz at e
    dsimp only at e
    obtain ⟨A1, A2, s, l, nd, k⟩ := id g.own
    have hv : σ[i]? = some (some v) := by
      cases l with
      | cons r _ => cases r with | al q => exact q
    split at e
    · rename_i d' q
      cases e
      obtain ⟨v', e1, r⟩ := s.get q
      rw [hv] at e1; cases e1
      rcases r with ⟨d', e2, r⟩ | ⟨p, vs, ds, e2, _⟩
      · cases e2; exact ⟨F, g.pop.pushSh r⟩
      · cases e2
    · rename_i ds q
      split at e
      · cases e
      · rename_i hi
        cases e
        obtain ⟨F', g', hF, p, q1, q2⟩ := g.pop.freeze hm q hi
        rw [hv] at q1; cases q1
        exact ⟨F', g'.pushSh q2⟩
    · cases e
theorem se_f {e : Expr} {f : Env → R T} (h : SE X m W e f) : SE X m W e (eF m f) := fun fm hm ρ σ τ F H Q g q => by
  refine se_bind hm h g q fun t ρ1 v F' H' g' q' => ?_
  split at q'
  · rename_i d ρ2 e
    obtain ⟨F2, g2⟩ := g'.frz hm e
    exact q' v F2 H' g2
  · exact q'.elim

/-! ### arguments -/
theorem sa_nil : SA X m W [] aNil := ⟨tNil, pa_nil, fun fm hm ρ σ τ F H Q g q => q [] F H rfl g⟩
theorem pushAll_cons {v : V} {vs : List V} {t : T} {ts : List T} {τ : List (V × T)} : pushAll (v :: vs) (t :: ts) τ = pushAll vs ts ((v, t) :: τ) := by
  unfold pushAll
  simp [List.zip_cons_cons]
theorem sa_cons {e : Expr} {es : List Expr} {fa : Env → R T} {fs : Env → R (List T)} (h : SE X m W e fa) (hr : SA X m W es fs) (hs : starEach (e :: es) X.env = (false, eval e X.env) :: starEach es X.env := by rfl) : SA X m W (e :: es) (aCons fa fs) := by
  obtain ⟨tr, pr, r⟩ := hr
  refine ⟨tCons (tE X e) tr, pa_cons pe_tE pr hs, fun fm hm ρ σ τ F H Q g q => ?_⟩
  refine h fm hm ρ σ τ F H _ g ?_
  unfold aCons at q
  cases e1 : fa ρ with
  | ok t ρ1 =>
    rw [e1] at q
    refine fun v F' H' g' => r fm hm ρ1 σ _ F' H' _ g' ?_
    have q : PostA X fm W σ τ ((fs ρ1).bind fun ts ρ2 => R.ok (t :: ts) ρ2) Q := q
    cases e2 : fs ρ1 with
    | ok ts ρ2 =>
      rw [e2] at q
      intro vs F2 H2 hl g2
      exact q (v :: vs) F2 H2 (by simp [hl]) (by rw [pushAll_cons]; exact g2)
    | ex x ρ2 =>
      rw [e2] at q
      exact PostX.pop q
    | bad =>
      rw [e2] at q
      exact q
  | ex x ρ1 =>
    rw [e1] at q
    exact q
  | bad =>
    rw [e1] at q
    exact q
theorem sa_bind {es : List Expr} {fs : Env → R (List T)} {t : TA} (hm : PinX X fm m) (r : ∀ fm, PinX X fm m → ∀ ρ σ τ F H Q, Good (gX X) fm ρ σ τ F H → PostA X fm W σ τ (fs ρ) Q → t σ H Q) {F H : Hp} (g : Good (gX X) fm ρ σ τ F H) {k : List T → Env → R T} {Q : VK}
    (q : PostE X fm W σ τ ((fs ρ).bind k) Q) {Q1 : List V → Hp → Prop} (h : ∀ ts ρ1 vs F' H', vs.length = ts.length → Good (gX X) fm ρ1 σ (pushAll vs ts τ) F' H' → PostE X fm W σ τ (k ts ρ1) Q → Q1 vs H') : t σ H Q1 := by
  refine r fm hm ρ σ τ F H Q1 g ?_
  cases e : fs ρ with
  | ok ts ρ1 =>
    rw [e] at q
    exact fun vs F' H' hl g' => h ts ρ1 vs F' H' hl g' q
  | ex x ρ1 =>
    rw [e] at q
    exact q
  | bad =>
    rw [e] at q
    exact q
theorem pushAll_pop {G : Cfg} {F H : Hp} : ∀ (vs : List V) (ts : List T) (τ : List (V × T)), Good G fm ρ σ (pushAll vs ts τ) F H → Good G fm ρ σ τ F H := fun vs ts τ g => by
  unfold pushAll at g
  generalize (vs.zip ts).reverse = l at g
  induction l with
  | nil => exact g
  | cons x l ih => exact ih g.pop
theorem pushAll_views {G : Cfg} {F H : Hp} : ∀ {vs : List V} {ts : List T} {τ : List (V × T)} {ds : List D}, vs.length = ts.length → Good G fm ρ σ (pushAll vs ts τ) F H → views ρ ts = some ds → RepVs G F H vs ds
  | [], [], _, ds, _, g, e => by cases e; exact .nil
  | v :: vs, t :: ts, τ, ds, hl, g, e => by
    rw [pushAll_cons] at g
    unfold views at e
    split at e
    · rename_i d ds' e1 e2
      cases e
      exact .cons ((pushAll_pop _ _ _ g).view e1) (pushAll_views (by simpa using hl) g e2)
    · cases e
  | [], _ :: _, _, _, hl, _, _ => by simp at hl
  | _ :: _, [], _, _, hl, _, _ => by simp at hl
theorem pushAll_shs {G : Cfg} {F H : Hp} : ∀ {vs : List V} {ts : List T} {τ : List (V × T)} {ds : List D}, vs.length = ts.length → Good G fm ρ σ (pushAll vs ts τ) F H → shs ts = some ds → Reps G F vs ds
  | [], [], _, ds, _, g, e => by cases e; exact .nil
  | v :: vs, t :: ts, τ, ds, hl, g, e => by
    rw [pushAll_cons] at g
    cases t with
    | sh d =>
      unfold shs at e
      obtain ⟨ds', e1, e2⟩ := Option.map_eq_some_iff.mp e
      subst e2
      have g1 := pushAll_pop _ _ _ g
      obtain ⟨_, _, _, l, _, _⟩ := g1.own
      cases l with
      | cons r _ => cases r with | sh r => exact .cons r (pushAll_shs (by simpa using hl) g e1)
    | own ds => cases e
    | al i => cases e
  | [], _ :: _, _, _, hl, _, _ => by simp at hl
  | _ :: _, [], _, _, hl, _, _ => by simp at hl
theorem se_tup {es : List Expr} {fs : Env → R (List T)} {x1} {pos : Pos} (h : SA X m W es fs) : SE X m W (.Tuple es x1 pos) (eTup fs) := fun fm hm ρ σ τ F H Q g q => by
  obtain ⟨t, pa, r⟩ := h
  refine tE_of (pe_tup pa) (sa_bind (es := es) hm r g q fun ts ρ1 vs F' H' hl g' q' => ?_)
  split at q'
  · rename_i ds e
    split at q'
    · rename_i hz
      have rs := pushAll_shs hl g' e
      refine ⟨by rw [rs.length]; exact hz, fun p hp => ?_⟩
      have k := Grow.new (o := HO.tup vs) g'.FH hp
      exact q' _ _ _ (((pushAll_pop _ _ _ g').grow k).pushSh (.tup (SqT.of upd_same) (rs.mono k.FF)))
    · exact q'.elim
  · exact q'.elim
theorem se_lst {es : List Expr} {fs : Env → R (List T)} {pos : Pos} (h : SA X m W es fs) : SE X m W (.List es pos) (eLst fs) := fun fm hm ρ σ τ F H Q g q => by
  obtain ⟨t, pa, r⟩ := h
  refine tE_of (pe_lst pa) (sa_bind (es := es) hm r g q fun ts ρ1 vs F' H' hl g' q' => ?_)
  split at q'
  · rename_i ds e
    split at q'
    · rename_i hz
      have rs := pushAll_shs hl g' e
      refine ⟨by rw [rs.length]; exact hz, fun p hp => ?_⟩
      have k := Grow.newOwn (o := HO.lst vs) g'.FH hp
      exact q' _ _ _ ((pushAll_pop _ _ _ g').pushOwn k hp upd_same (none_of_same g'.FH hp) (.lst rs))
    · exact q'.elim
  · exact q'.elim
/-- a built-in's call -/
theorem opN_end {r : List V → Hp → VK → Prop} {op : List D → Option T} (hs : OpN (gX X) r op) {ts : List T} {vs : List V} {F H : Hp} {Q : VK} (hl : vs.length = ts.length) (g : Good (gX X) fm ρ σ (pushAll vs ts τ) F H)
    (q : PostE X fm W σ τ (opt ((views ρ ts).bind op) ρ) Q) : r vs H Q := by
  unfold opt at q
  split at q
  · rename_i t e
    obtain ⟨ds, e1, e2⟩ := Option.bind_eq_some_iff.mp e
    exact hs F H vs ds t Q g.FH (pushAll_views hl g e1) e2 fun v F2 H2 k rr => q v F2 H2 ((pushAll_pop _ _ _ g).res k rr)
  · exact q.elim
theorem se_callB {id : String} {r : List V → Hp → VK → Prop} {op : List D → Option T} {x : Str} {e : Expr} {es : List Expr} {fs : Env → R (List T)} {p pos : Pos} (hc : CallR X (.builtin id) r) (hs : OpN (gX X) r op) (hmg : X.mg x = none) (hv : bootBuiltins x = some (.builtin id)) (ha : SA X m W (e :: es) fs)
    (hg : Gl X x := by rfl) (hn : x ≠ "__name__" := by decide) (hdb : (x == ("__debug__" : Str)) = false := by decide)
    (he : starEach (e :: es) X.env = (false, eval e X.env) :: starEach es X.env := by rfl) (hpl : (backTo pos (starEach es X.env)).any (·.1) = false := by rfl) : SE X m W (.Call (.Name x p) (e :: es) [] pos) (eN op fs) := fun fm hm ρ σ τ F H Q g q => by
  obtain ⟨t, pa, rr⟩ := ha
  exact tE_of (pe_callB hc hg hmg hv pa hn hdb he hpl) (sa_bind (es := e :: es) hm rr g q fun ts ρ1 vs F' H' hl g' q' => opN_end hs hl g' q')
theorem se_callTy {id : String} {r : List V → Hp → VK → Prop} {op : List D → Option T} {x : Str} {e : Expr} {es : List Expr} {fs : Env → R (List T)} {p pos : Pos} (hc : CallR X (.type id) r) (hs : OpN (gX X) r op) (hmg : X.mg x = none) (hv : bootBuiltins x = some (.type id)) (ha : SA X m W (e :: es) fs)
    (hg : Gl X x := by rfl) (hn : x ≠ "__name__" := by decide) (hdb : (x == ("__debug__" : Str)) = false := by decide)
    (he : starEach (e :: es) X.env = (false, eval e X.env) :: starEach es X.env := by rfl) (hpl : (backTo pos (starEach es X.env)).any (·.1) = false := by rfl) : SE X m W (.Call (.Name x p) (e :: es) [] pos) (eN op fs) := fun fm hm ρ σ τ F H Q g q => by
  obtain ⟨t, pa, rr⟩ := ha
  exact tE_of (pe_callTy hc hg hmg hv pa hn hdb he hpl) (sa_bind (es := e :: es) hm rr g q fun ts ρ1 vs F' H' hl g' q' => opN_end hs hl g' q')
/-- a[b] -/
theorem se_ix {r : R2} {g : D → D → Option T} {a b : Expr} {fa fb : Env → R T} {pos : Pos} (hr : IxR X r) (hs : Op2 (gX X) r g) (ha : SE X m W a fa) (hb : SE X m W b fb) (hp : PlainIx b := by exact fun _ _ => rfl) : SE X m W (.Subscript a b pos) (e2 g fa fb) := fun fm hm ρ σ τ F H Q gd q =>
  tE_of (pe_ix hr pe_tE pe_tE hp) (se_two hm ha hb gd q fun ta tb ρ2 v u F' H' g' q' => op2_end hs g' q')

/-! ### truths -/
theorem bind_ok {α β : Type} {r : R α} {k : α → Env → R β} {b : β} {ρ' : Env} (h : r.bind k = .ok b ρ') : ∃ a ρ1, r = .ok a ρ1 ∧ k a ρ1 = .ok b ρ' := by
  cases r with
  | ok a ρ1 => exact ⟨a, ρ1, rfl, h⟩
  | ex x ρ1 => cases h
  | bad => cases h
theorem isBl_of {G : Cfg} {F H : Hp} {v : V} {d : D} {b : Bool} (r : RepV G F H v d) (e : isBl d = some b) : v = .bl b := by
  cases d with
  | bl c =>
    cases e
    rcases r with r | ⟨p, vs, ds, _, z, _⟩
    · cases r; rfl
    · cases ds <;> cases z
  | _ => cases e
theorem good_isBl {G : Cfg} {F H : Hp} {v : V} {t : T} {b : Bool} (g : Good G fm ρ σ ((v, t) :: τ) F H) (e : (view ρ t).bind isBl = some b) : v = .bl b := by
  obtain ⟨d, e1, e2⟩ := Option.bind_eq_some_iff.mp e
  exact isBl_of (g.view e1) e2
theorem se_and1 {op : BoolOp} {a : Expr} {fa : Env → R T} {pos : Pos} (ha : SE X m W a fa) : SE X m W (.BoolOp op [a] pos) fa := fun fm hm ρ σ τ F H Q g q => tE_of (pe_one pe_tE) (ha fm hm ρ σ τ F H Q g q)
theorem se_and {a b : Expr} {rest : List Expr} {fa fb : Env → R T} {pos : Pos} (ha : SE X m W a fa) (hb : SE X m W (.BoolOp .And (b :: rest) pos) fb) : SE X m W (.BoolOp .And (a :: b :: rest) pos) (eAnd fa fb) := fun fm hm ρ σ τ F H Q g q => by
  refine tE_of (pe_and pe_tE pe_tE) (se_bind hm ha g q fun t ρ1 v F' H' g' q' => ?_)
  split at q'
  · rename_i e
    exact ⟨true, good_isBl g' e, by rw [if_pos rfl]; exact hb fm hm ρ1 σ τ F' H' Q g'.pop q'⟩
  · rename_i e
    exact ⟨false, good_isBl g' e, by rw [if_neg Bool.false_ne_true]; exact q' _ F' H' (g'.pop.pushSh .bl)⟩
  · exact q'.elim
theorem se_or {a b : Expr} {rest : List Expr} {fa fb : Env → R T} {pos : Pos} (ha : SE X m W a fa) (hb : SE X m W (.BoolOp .Or (b :: rest) pos) fb) : SE X m W (.BoolOp .Or (a :: b :: rest) pos) (eOr fa fb) := fun fm hm ρ σ τ F H Q g q => by
  refine tE_of (pe_or pe_tE pe_tE) (se_bind hm ha g q fun t ρ1 v F' H' g' q' => ?_)
  split at q'
  · rename_i e
    exact ⟨true, good_isBl g' e, by rw [if_pos rfl]; exact q' _ F' H' (g'.pop.pushSh .bl)⟩
  · rename_i e
    exact ⟨false, good_isBl g' e, by rw [if_neg Bool.false_ne_true]; exact hb fm hm ρ1 σ τ F' H' Q g'.pop q'⟩
  · exact q'.elim
theorem se_not {a : Expr} {fa : Env → R T} {pos : Pos} (ha : SE X m W a fa) : SE X m W (.UnaryOp .Not a pos) (eNot fa) := fun fm hm ρ σ τ F H Q g q => by
  refine tE_of (pe_not pe_tE) (se_bind hm ha g q fun t ρ1 v F' H' g' q' => ?_)
  split at q'
  · rename_i b e
    exact ⟨b, good_isBl g' e, q' _ F' H' (g'.pop.pushSh .bl)⟩
  · exact q'.elim
theorem tru_of {G : Cfg} {F H : Hp} {v : V} {d : D} {b : Bool} (f : Same F H) (r : RepV G F H v d) (e : truD d = some b) : TruV G.K v H b := by
  rcases r with r | ⟨p, vs, ds, rfl, rfl, h1, h2⟩
  · cases r with
    | non => cases e; rfl
    | bl => cases e; rfl
    | int => cases e; rfl
    | str =>
      rename_i y
      have e : (if y.length ≤ sizeLine then some ((y.length : Int) != 0) else none) = some b := e
      by_cases hz : y.length ≤ sizeLine
      · rw [if_pos hz] at e; cases e; exact ⟨hz, rfl⟩
      · rw [if_neg hz] at e; cases e
    | ty => cases e
    | lst h rs =>
      cases e
      refine .inl ⟨_, SqL.of (f _ _ h), ?_⟩
      cases rs <;> rfl
    | rol h rs => cases e
    | tup h rs =>
      cases e
      refine .inr (.inl ⟨_, sqT_mono f h, ?_⟩)
      cases rs <;> rfl
    | dk => cases e
    | dt => cases e
    | ins => cases e
    | cls => cases e
    | exn => cases e
  · cases h2 with
    | lst h2 =>
      cases e
      refine .inl ⟨_, SqL.of h1, ?_⟩
      cases h2 <;> rfl
    | ins => cases e
    | dk => cases e
    | dt => cases e
theorem st_v {e : Expr} {fa : Env → R T} (h : SE X m W e fa) (he : ∀ whole, isTrue e X.env whole = (do let v ← whole; standAt e.pos; holding [v] (truthy v)) := by exact fun _ => rfl) : ST X m W e (cV fa) := fun fm hm ρ σ τ F H Q g q => by
  refine tT_of (pt_truth pe_tE he) (h fm hm ρ σ τ F H _ g ?_)
  unfold cV at q
  cases e1 : fa ρ with
  | ok t ρ1 =>
    rw [e1] at q
    intro v F' H' g'
    have q : PostT X fm W σ τ (opt ((view ρ1 t).bind truD) ρ1) Q := q
    cases e2 : (view ρ1 t).bind truD with
    | none => rw [e2] at q; exact q.elim
    | some b =>
      rw [e2] at q
      obtain ⟨d, e3, e4⟩ := Option.bind_eq_some_iff.mp e2
      exact ⟨b, tru_of g'.FH (g'.view e3) e4, q F' H' g'.pop⟩
  | ex x ρ1 =>
    rw [e1] at q
    exact q
  | bad =>
    rw [e1] at q
    exact q
/-- a test that is a comparison -/
def cB (fa : Env → R T) : Env → R Bool := fun ρ => (fa ρ).bind fun t ρ1 => opt ((view ρ1 t).bind isBl) ρ1
theorem cB_end {fa : Env → R T} {F H : Hp} {Q : Bool → Hp → Prop} (q : PostT X fm W σ τ (cB fa ρ) Q) : PostE X fm W σ τ (fa ρ) (fun x H' => ∃ k, x = .bl k ∧ Q k H') := by
  unfold cB at q
  cases e1 : fa ρ with
  | ok t ρ1 =>
    rw [e1] at q
    intro v F' H' g'
    have q : PostT X fm W σ τ (opt ((view ρ1 t).bind isBl) ρ1) Q := q
    cases e2 : (view ρ1 t).bind isBl with
    | none => rw [e2] at q; exact q.elim
    | some b =>
      rw [e2] at q
      exact ⟨b, good_isBl g' e2, q F' H' g'.pop⟩
  | ex x ρ1 =>
    rw [e1] at q
    exact q
  | bad =>
    rw [e1] at q
    exact q
theorem st_cmp {r : R2} {op : CmpOp} {g : D → D → Option T} {a b : Expr} {fa fb : Env → R T} {pos : Pos} (ho : OpR X (compareOp op) r) (hs : Op2 (gX X) r g) (ha : SE X m W a fa) (hb : SE X m W b fb) (hb0 : behindInMarks op b = false := by first | exact nomark _ | with_unfolding_all rfl) :
    ST X m W (.Compare a [op] [b] pos) (cB (e2 g fa fb)) := fun fm hm ρ σ τ F H Q gd q =>
  tT_of (pt_cmpR ho pe_tE pe_tE hb0) (se_two hm ha hb gd (cB_end (F := F) (H := H) q) fun ta tb ρ2 v u F' H' g' q' => op2_end hs g' q')
theorem st_not {a : Expr} {fa : Env → R Bool} {pos : Pos} (ha : ST X m W a fa) : ST X m W (.UnaryOp .Not a pos) (cNot fa) := fun fm hm ρ σ τ F H Q g q => by
  refine tT_of (L2.pt_not pt_tT) (ha fm hm ρ σ τ F H _ g ?_)
  unfold cNot at q
  cases e1 : fa ρ with
  | ok t ρ1 => rw [e1] at q; exact q
  | ex x ρ1 => rw [e1] at q; exact q
  | bad => rw [e1] at q; exact q
def tW (X : Cx) (e : Expr) : TT := fun σ H Q => ∀ whole pins s, Inv X pins σ H s → wpAny (model X.prog X.w) X.A (isTrue e X.env whole) (TP X pins σ Q) X.xe s
theorem pw_tW {e : Expr} : PW X e (tW X e) := ⟨fun whole pins s σ H Q I h => h whole pins s I⟩
def SW (X : Cx) (m : List Nat) (W : WX) (e : Expr) (f : Env → R Bool) : Prop := ∀ fm, PinX X fm m → ∀ ρ σ τ F H Q, Good (gX X) fm ρ σ τ F H → PostT X fm W σ τ (f ρ) Q → tW X e σ H Q
theorem tW_of {e : Expr} {t : TT} (h : PW X e t) {σ : L2.St} {H : Hp} {Q : Bool → Hp → Prop} (q : t σ H Q) : tW X e σ H Q := fun whole pins s I => h.run whole pins s σ H Q I q
theorem st_w {e : Expr} {f : Env → R Bool} (h : SW X m W e f) : ST X m W e f := fun fm hm ρ σ τ F H Q g q => tT_of (PW.pt pw_tW) (h fm hm ρ σ τ F H Q g q)
theorem sw_and1 {a : Expr} {fa : Env → R Bool} {pos : Pos} (ha : ST X m W a fa) : SW X m W (.BoolOp .And [a] pos) fa := fun fm hm ρ σ τ F H Q g q => tW_of (pw_and1 pt_tT) (ha fm hm ρ σ τ F H Q g q)
theorem sw_or1 {a : Expr} {fa : Env → R Bool} {pos : Pos} (ha : ST X m W a fa) : SW X m W (.BoolOp .Or [a] pos) fa := fun fm hm ρ σ τ F H Q g q => tW_of (pw_or1 pt_tT) (ha fm hm ρ σ τ F H Q g q)
theorem sw_and {a b : Expr} {rest : List Expr} {fa fb : Env → R Bool} {pos : Pos} (ha : ST X m W a fa) (hb : SW X m W (.BoolOp .And (b :: rest) pos) fb) : SW X m W (.BoolOp .And (a :: b :: rest) pos) (cAnd fa fb) := fun fm hm ρ σ τ F H Q g q => by
  refine tW_of (pw_and pt_tT pw_tW) ?_
  show tT X a σ H fun x H1 => if x = true then tW X (.BoolOp .And (b :: rest) pos) σ H1 Q else Q false H1
  refine ha fm hm ρ σ τ F H _ g ?_
  unfold cAnd at q
  cases e1 : fa ρ with
  | ok t ρ1 =>
    rw [e1] at q
    intro F' H' g'
    cases t with
    | true => exact hb fm hm ρ1 σ τ F' H' Q g' q
    | false => exact q F' H' g'
  | ex x ρ1 => rw [e1] at q; exact q
  | bad => rw [e1] at q; exact q
theorem sw_or {a b : Expr} {rest : List Expr} {fa fb : Env → R Bool} {pos : Pos} (ha : ST X m W a fa) (hb : SW X m W (.BoolOp .Or (b :: rest) pos) fb) : SW X m W (.BoolOp .Or (a :: b :: rest) pos) (cOr fa fb) := fun fm hm ρ σ τ F H Q g q => by
  refine tW_of (pw_or pt_tT pw_tW) ?_
  show tT X a σ H fun x H1 => if x = true then Q true H1 else tW X (.BoolOp .Or (b :: rest) pos) σ H1 Q
  refine ha fm hm ρ σ τ F H _ g ?_
  unfold cOr at q
  cases e1 : fa ρ with
  | ok t ρ1 =>
    rw [e1] at q
    intro F' H' g'
    cases t with
    | true => exact q F' H' g'
    | false => exact hb fm hm ρ1 σ τ F' H' Q g' q
  | ex x ρ1 => rw [e1] at q; exact q
  | bad => rw [e1] at q; exact q
theorem se_if {c a b : Expr} {fc : Env → R Bool} {fa fb : Env → R T} {pos : Pos} (hc : ST X m W c fc) (ha : SE X m W a fa) (hb : SE X m W b fb) : SE X m W (.IfExp c a b pos) (eIf fc fa fb) := fun fm hm ρ σ τ F H Q g q => by
  refine tE_of (pe_ifExp pt_tT pe_tE pe_tE) ?_
  show tT X c σ H fun k H1 => if k = true then tE X a σ H1 Q else tE X b σ H1 Q
  refine hc fm hm ρ σ τ F H _ g ?_
  unfold eIf at q
  cases e1 : fc ρ with
  | ok t ρ1 =>
    rw [e1] at q
    intro F' H' g'
    cases t with
    | true => exact ha fm hm ρ1 σ τ F' H' Q g' q
    | false => exact hb fm hm ρ1 σ τ F' H' Q g' q
  | ex x ρ1 => rw [e1] at q; exact q
  | bad => rw [e1] at q; exact q
end
end Pf

namespace Pf
open PySem PySem.Spec L2

section
variable {G : Cfg} {σ σ' : L2.St} {F H F' H' : Hp} {ρ ρ' : Env} {τ τ' : List (V × T)} {A : List Addr} {v : V} {t : T} {fm : Fm} {m : List Nat}
/-- what is shared now is shared at the entry, for a while -/
theorem Good.rebase (g : Good G fm ρ σ τ F H) : Good G { fm with F0 := F } ρ σ τ F H :=
  ⟨g.FH, Same.refl F, g.keep, fun _ _ h => h, g.live, g.pin, g.lent, g.lb, g.tab, g.own⟩
theorem Good.unbase {F0 : Hp} (g0 : Good G fm ρ' σ' τ' F0 H) (g : Good G { fm with F0 := F0 } ρ σ τ F' H') : Good G fm ρ σ τ F' H' ∧ Same F0 F' :=
  ⟨⟨g.FH, g0.F0.trans g.F0, g.keep, fun a h1 h2 => g.hid a h1 (g0.hid a h1 h2), g.live, g.pin, g.lent, g.lb, g.tab, g.own⟩, g.F0⟩

/-- the slot i takes the temporary -/
theorem RepS.put_sh {d : D} (h : RepS G F H σ ρ A) (r : Rep G F v d) : ∀ i, ∃ B, RepS G F H (σ.set i (some v)) (ρ.set i (some (.sh d))) B ∧ B.Sublist A := by
  induction h with
  | nil => exact fun i => ⟨[], .nil, .slnil⟩
  | skip h ih =>
    intro i
    cases i with
    | zero => exact ⟨_, .sh r h, List.Sublist.refl _⟩
    | succ i => obtain ⟨B, b1, b2⟩ := ih i; exact ⟨B, .skip b1, b2⟩
  | sh r' h ih =>
    intro i
    cases i with
    | zero => exact ⟨_, .sh r h, List.Sublist.refl _⟩
    | succ i => obtain ⟨B, b1, b2⟩ := ih i; exact ⟨B, .sh r' b1, b2⟩
  | own h1 h2 h3 h ih =>
    intro i
    cases i with
    | zero => exact ⟨_, .sh r h, List.sublist_cons_self _ _⟩
    | succ i => obtain ⟨B, b1, b2⟩ := ih i; exact ⟨_, .own h1 h2 h3 b1, b2.cons_cons _⟩
theorem RepS.put_own {p : Addr} {vs : HO} {ds : O} (h : RepS G F H σ ρ A) (q1 : H p = some vs) (q2 : F p = none) (q3 : RepO G F vs ds) : ∀ i, ∃ B B', RepS G F H (σ.set i (some (.ref p))) (ρ.set i (some (.own ds))) B ∧ B'.Sublist A ∧ (B = B' ∨ B.Perm (p :: B')) := by
  induction h with
  | nil => exact fun i => ⟨[], [], .nil, .slnil, .inl rfl⟩
  | skip h ih =>
    intro i
    cases i with
    | zero => exact ⟨_, _, .own q1 q2 q3 h, List.Sublist.refl _, .inr (List.Perm.refl _)⟩
    | succ i => obtain ⟨B, B', b1, b2, b3⟩ := ih i; exact ⟨B, B', .skip b1, b2, b3⟩
  | sh r' h ih =>
    intro i
    cases i with
    | zero => exact ⟨_, _, .own q1 q2 q3 h, List.Sublist.refl _, .inr (List.Perm.refl _)⟩
    | succ i => obtain ⟨B, B', b1, b2, b3⟩ := ih i; exact ⟨B, B', .sh r' b1, b2, b3⟩
  | own h1 h2 h3 h ih =>
    rename_i p0 _ _ _ _ _
    intro i
    cases i with
    | zero => exact ⟨_, _, .own q1 q2 q3 h, List.sublist_cons_self _ _, .inr (List.Perm.refl _)⟩
    | succ i =>
      obtain ⟨B, B', b1, b2, b3⟩ := ih i
      refine ⟨_, p0 :: B', .own h1 h2 h3 b1, b2.cons_cons _, ?_⟩
      rcases b3 with rfl | b3
      · exact .inl rfl
      · exact .inr ((b3.cons p0).trans (List.Perm.swap _ _ _))
theorem lent_set (g : Good G fm ρ σ τ F H) (hm : Pins fm m) {i : Nat} (hi : i ∉ m) (o : Option T) : ∀ pr ∈ fm.m, (∃ ds, (ρ.set i o)[pr.1]? = some (some (.own ds))) ∨ ∀ a, pr.2 = .ref a → a ∉ fm.B := fun pr hp => by
  rcases g.lent pr hp with ⟨ds', m2⟩ | m2
  · refine .inl ⟨ds', ?_⟩
    have hj : i ≠ pr.1 := by rintro rfl; exact hi (hm _ hp)
    rw [List.getElem?_set_ne hj]; exact m2
  · exact .inr m2
theorem pin_set (g : Good G fm ρ σ τ F H) (hm : Pins fm m) {i : Nat} (hi : i ∉ m) (o : Option V) : ∀ p ∈ fm.m, (σ.set i o)[p.1]? = some (some p.2) := fun p hp => by
  have hj : i ≠ p.1 := by rintro rfl; exact hi (hm _ hp)
  rw [List.getElem?_set_ne hj]; exact g.pin p hp
theorem RepL.restore (h : RepL G σ F H τ A) (na : NoAls τ) (σ' : L2.St) : RepL G σ' F H τ A := by
  induction h with
  | nil => exact .nil
  | cons r _ ih =>
    refine .cons ?_ (ih (fun x hx => na x (List.mem_cons_of_mem _ hx)))
    cases r with
    | sh r => exact .sh r
    | own a b c => exact .own a b c
    | al q => exact absurd (na _ (List.mem_cons_self ..)) Bool.false_ne_true
theorem Good.putSh {d : D} (hm : Pins fm m) {i : Nat} (hi : i ∉ m) (g : Good G fm ρ σ ((v, .sh d) :: τ) F H) (na : NoAls τ) : Good G fm (ρ.set i (some (.sh d))) (σ.set i (some v)) τ F H := by
  obtain ⟨A1, A2, s, l, nd, k⟩ := id g.own
  cases l with
  | cons r l =>
    cases r with
    | sh r =>
      obtain ⟨B, b1, b2⟩ := s.put_sh r i
      refine ⟨g.FH, g.F0, g.keep, g.hid, g.live, pin_set g hm hi _, lent_set g hm hi _, g.lb, g.tab, B, _, b1, l.restore na _, nd.sublist (List.Sublist.append_right b2 _), fun a ha => k a ?_⟩
      rcases List.mem_append.mp ha with ha | ha
      · exact List.mem_append_left _ (b2.subset ha)
      · exact List.mem_append_right _ ha
theorem Good.putOwn {ds : O} (hm : Pins fm m) {i : Nat} (hi : i ∉ m) (g : Good G fm ρ σ ((v, .own ds) :: τ) F H) (na : NoAls τ) : Good G fm (ρ.set i (some (.own ds))) (σ.set i (some v)) τ F H := by
  obtain ⟨A1, A2, s, l, nd, k⟩ := id g.own
  cases l with
  | cons r l =>
    rename_i A B0
    cases r with
    | own h1 h2 h3 =>
      rename_i p vs
      obtain ⟨B, B', b1, b2, b3⟩ := s.put_own h1 h2 h3 i
      have nd' : (p :: (A1 ++ B0)).Nodup := (List.Perm.nodup_iff List.perm_middle).mp nd
      have sub : (p :: (B' ++ B0)).Sublist (p :: (A1 ++ B0)) := (List.Sublist.append_right b2 _).cons_cons _
      have nd2 := nd'.sublist sub
      refine ⟨g.FH, g.F0, g.keep, g.hid, g.live, pin_set g hm hi _, lent_set g hm hi _, g.lb, g.tab, B, B0, b1, l.restore na _, ?_, fun a ha => ?_⟩
      · rcases b3 with rfl | b3
        · exact (List.nodup_cons.mp nd2).2
        · exact (List.Perm.nodup_iff (b3.append_right B0)).mpr nd2
      · have : a ∈ p :: (B' ++ B0) := by
          rcases List.mem_append.mp ha with ha | ha
          · rcases b3 with rfl | b3
            · exact List.mem_cons_of_mem _ (List.mem_append_left _ ha)
            · rcases List.mem_cons.mp (b3.mem_iff.mp ha) with rfl | h
              · exact List.mem_cons_self ..
              · exact List.mem_cons_of_mem _ (List.mem_append_left _ h)
          · exact List.mem_cons_of_mem _ (List.mem_append_right _ ha)
        refine k a ?_
        have := sub.subset this
        rcases List.mem_cons.mp this with rfl | h
        · exact List.mem_append_right _ (List.mem_append_left _ (List.mem_cons_self ..))
        · rcases List.mem_append.mp h with h | h
          · exact List.mem_append_left _ h
          · exact List.mem_append_right _ (List.mem_append_right _ h)
/-- a slot is forgotten -/
theorem Good.drop {i : Nat} (hm : Pins fm m) (hi : i ∉ m) (g : Good G fm ρ σ τ F H) (o : Option V) (na : NoAls τ) : Good G fm (ρ.set i none) (σ.set i o) τ F H := by
  obtain ⟨A1, A2, s, l, nd, k⟩ := id g.own
  obtain ⟨B, b1, b2⟩ := s.set_none i o
  refine ⟨g.FH, g.F0, g.keep, g.hid, g.live, pin_set g hm hi _, lent_set g hm hi _, g.lb, g.tab, B, _, b1, l.restore na _, nd.sublist (List.Sublist.append_right b2 _), fun a ha => k a ?_⟩
  rcases List.mem_append.mp ha with ha | ha
  · exact List.mem_append_left _ (b2.subset ha)
  · exact List.mem_append_right _ ha
/-- the thing of a slot is changed -/
theorem Good.mutate {i : Nat} {ds : O} (g : Good G fm ρ σ τ F H) (e : ρ[i]? = some (some (.own ds))) : ∃ p vs, σ[i]? = some (some (.ref p)) ∧ H p = some vs ∧ RepO G F vs ds ∧
    ∀ vs' ds', RepO G F vs' ds' → Good G fm (ρ.set i (some (.own ds'))) σ τ F (upd H p vs') := by
  obtain ⟨A1, A2, s, l, nd, k⟩ := id g.own
  obtain ⟨p, vs, B1, B2, e1, e2, e3, e4, e5, k1, k2, k3, k4⟩ := s.at_own e (List.nodup_append.mp nd).1
  refine ⟨p, vs, e2, e3, e5, fun vs' ds' r => ?_⟩
  subst e1
  obtain ⟨nd2, n1, n2⟩ := nd_mid nd
  refine ⟨fun a o q => ?_, g.F0, fun a o q n => ?_, g.hid, fun a h => ?_, g.pin, fun pr hp => ?_, g.lb, g.tab.but e3 e5 (fun a o n q => by rw [upd_ne n]; exact q) (fun _ _ z => z), B1 ++ p :: B2, A2, ?_, ?_, nd, k⟩
  · rw [upd_ne (ne_of_none q e4)]; exact g.FH _ _ q
  · by_cases ha : a = p
    · subst ha
      rcases k a (List.mem_append_left _ (List.mem_append_right _ (List.mem_cons_self ..))) with z | z
      · rw [z] at q; cases q
      · exact absurd z n
    · rw [upd_ne ha]; exact g.keep _ _ q n
  · by_cases ha : a = p
    · subst ha; rw [upd_same]; exact fun z => nomatch z
    · rw [upd_ne ha]; exact g.live a h
  · rcases g.lent pr hp with ⟨ds2, m2⟩ | m2
    · by_cases hj : i = pr.1
      · refine .inl ⟨ds', ?_⟩
        have hlt : i < ρ.length := (List.getElem?_eq_some_iff.mp e).1
        rw [← hj, List.getElem?_set_self hlt]
      · exact .inl ⟨ds2, by rw [List.getElem?_set_ne hj]; exact m2⟩
    · exact .inr m2
  · refine k2 _ _ (Same.refl _) (fun a ha => upd_ne ?_) (fun a ha => (s.mem a ha).1) vs' ds' upd_same r
    rintro rfl; exact n1 ha
  · refine l.mono (Same.refl _) (fun a ha o q => ?_) fun a ha => (l.mem a ha).1
    rw [upd_ne (show a ≠ p by rintro rfl; exact n2 ha)]; exact q
end

/-! ### denotations of statements -/
def RS.bind (r : RS) (k : Env → RS) : RS := match r with
  | .nx ρ => k ρ
  | r => r
def R.s {α : Type} (r : R α) (k : α → Env → RS) : RS := match r with
  | .ok a ρ => k a ρ
  | .ex x ρ => .ex x ρ
  | .bad => .bad
def sNil : Env → RS := fun ρ => .nx ρ
def sSeq (g h : Env → RS) : Env → RS := fun ρ => (g ρ).bind h
/-- the temporary, no alias any more; a slot of one's own is shared -/
def put (m : List Nat) (i : Nat) (t : T) (ρ : Env) : RS := match t with
  | .sh d => .nx (ρ.set i (some (.sh d)))
  | .own o => .nx (ρ.set i (some (.own o)))
  | .al j => match frz m ρ (.al j) with
    | some (d, ρ1) => .nx (ρ1.set i (some (.sh d)))
    | none => .bad
def sSet (m : List Nat) (i : Nat) (fa : Env → R T) : Env → RS := fun ρ => (fa ρ).s fun t ρ1 => put m i t ρ1
def sExpr (fa : Env → R T) : Env → RS := fun ρ => (fa ρ).s fun _ ρ1 => .nx ρ1
def sIf (c : Env → R Bool) (g h : Env → RS) : Env → RS := fun ρ => (c ρ).s fun b ρ1 => if b = true then g ρ1 else h ρ1
/-- what is handed back: a slot's own list goes along -/
def ret (m : List Nat) (t : T) (ρ : Env) : RS := match t with
  | .sh d => .rt (.sh d) ρ
  | .own o => .rt (.own o) ρ
  | .al j => match ρ[j]? with
    | some (some (.sh d)) => .rt (.sh d) ρ
    | some (some (.own o)) => if j ∈ m then .bad else .rt (.own o) (ρ.set j none)
    | _ => .bad
def sRet (m : List Nat) (fa : Env → R T) : Env → RS := fun ρ => (fa ρ).s fun t ρ1 => ret m t ρ1
def sRetN : Env → RS := fun ρ => .rt (.sh .non) ρ

end Pf

namespace Pf
open PySem PySem.Spec L2

structure Cok (X : Cx) : Prop where
  calm : X.calm = true
  pass : PassesOwn (model X.prog X.w) X.A X.env X.xe
  nd : X.N.Nodup

section
variable {X : Cx} {fm : Fm} {m : List Nat} {W : WX} {σ : L2.St} {τ : List (V × T)} {ρ : Env}
theorem ss_s {a : Expr} {fa : Env → R T} (hm : PinX X fm m) (ha : SE X m W a fa) {F H : Hp} (g : Good (gX X) fm ρ σ τ F H) {k : T → Env → RS} {D : Ends} (q : PostS X fm W τ ((fa ρ).s k) D) {Q1 : VK}
    (h : ∀ t ρ1 v F' H', Good (gX X) fm ρ1 σ ((v, t) :: τ) F' H' → PostS X fm W τ (k t ρ1) D → Q1 v H') : tE X a σ H Q1 := by
  refine ha fm hm ρ σ τ F H Q1 g ?_
  cases e : fa ρ with
  | ok t ρ1 =>
    rw [e] at q
    exact fun v F' H' g' => h t ρ1 v F' H' g' q
  | ex x ρ1 =>
    rw [e] at q
    exact q σ
  | bad =>
    rw [e] at q
    exact q
theorem NoAls.cons {v : V} {d : D} (na : NoAls τ) : NoAls ((v, .sh d) :: τ) := fun x hx => by
  rcases List.mem_cons.mp hx with rfl | hx
  · rfl
  · exact na x hx

/-- the store of a temporary -/
theorem put_end (hm : Pins fm m) {i : Nat} (hi : i ∉ m) (na : NoAls τ) {v : V} {t : T} {F H : Hp} {D : Ends} (g : Good (gX X) fm ρ σ ((v, t) :: τ) F H) (q : PostS X fm W τ (put m i t ρ) D) : D.nx (σ.set i (some v)) H := by
  cases t with
  | sh d => exact q _ F H (g.putSh hm hi na)
  | own ds => exact q _ F H (g.putOwn hm hi na)
  | al j =>
    have q : PostS X fm W τ (match frz m ρ (.al j) with | some (d, ρ1) => RS.nx (ρ1.set i (some (.sh d))) | none => .bad) D := q
    cases e : frz m ρ (.al j) with
    | none => rw [e] at q; exact q.elim
    | some r =>
      obtain ⟨d, ρ1⟩ := r
      rw [e] at q
      obtain ⟨F', g'⟩ := g.frz hm e
      exact q _ F' H (g'.putSh hm hi na)
theorem ss_set (cx : Cok X) (i : Nat) {x : Str} {e : Expr} {fa : Env → R T} {pos pos' : Pos} (he : SE X m W e fa) (hi : i ∉ m := by decide) (hN : X.N[i]? = some x := by rfl) (hx : Loc X.env.scope x := by first | exact Or.inl rfl | exact Or.inr rfl)
    (hs : swapsWith e (some (.Name x pos')) pos.line X.env = pure false := by rfl) (hf : X.fn x = true ∨ X.env.scope.names.lookup x = some .local := by first | exact .inl rfl | exact .inr rfl) : SS X m W (.Assign [.Name x pos'] e pos) (sSet m i fa) := fun fm hm ρ σ τ F H D na g q =>
  tS_of (ps_set cx.nd hN hx pe_tE hs hf) (ss_s hm he g q fun t ρ1 v F' H' g' q' => put_end hm hi na g' q')
theorem ss_expr {e : Expr} {fa : Env → R T} {pos : Pos} (he : SE X m W e fa) (hs : swapsWith e none pos.line X.env = pure false := by rfl) : SS X m W (.Expr e pos) (sExpr fa) := fun fm hm ρ σ τ F H D na g q =>
  tS_of (ps_expr pe_tE hs) (ss_s hm he g q fun t ρ1 v F' H' g' q' => q' σ F' H' g'.pop)
theorem ss_pass {pos : Pos} : SS X m W (.Pass pos) sNil := fun fm hm ρ σ τ F H D na g q => tS_of ps_pass (q σ F H g)
def sBreak : Env → RS := fun ρ => .bk ρ
def sCont : Env → RS := fun ρ => .ct ρ
theorem ss_break {pos : Pos} : SS X m W (.Break pos) sBreak := fun fm hm ρ σ τ F H D na g q => tS_of ps_break (q σ F H g)
theorem ss_cont {pos : Pos} : SS X m W (.Continue pos) sCont := fun fm hm ρ σ τ F H D na g q => tS_of ps_continue (q σ F H g)
theorem set_self {i : Nat} {o : Option V} (h : σ[i]? = some o) : σ.set i o = σ := by
  apply List.ext_getElem?
  intro j
  by_cases hj : i = j
  · subst hj
    rw [List.getElem?_set_self (List.getElem?_eq_some_iff.mp h).1, h]
  · rw [List.getElem?_set_ne hj]
/-- a slot's own thing goes along as the temporary -/
theorem Good.move {G : Cfg} {F H : Hp} (hm : Pins fm m) {i : Nat} {ds : O} {v : V} (hi : i ∉ m) (g : Good G fm ρ σ τ F H) (e : ρ[i]? = some (some (.own ds))) (hv : σ[i]? = some (some v)) : Good G fm (ρ.set i none) σ ((v, .own ds) :: τ) F H := by
  obtain ⟨A1, A2, s, l, nd, k⟩ := id g.own
  obtain ⟨p, vs, B1, B2, e1, e2, e3, e4, e5, k1, k2, k3, k4⟩ := s.at_own e (List.nodup_append.mp nd).1
  rw [hv] at e2; cases e2
  subst e1
  have hs := k3 F H (some (.ref p)) (Same.refl _) (fun _ _ => rfl) (fun a ha => (s.mem a (by rcases List.mem_append.mp ha with h | h; exact List.mem_append_left _ h; exact List.mem_append_right _ (List.mem_cons_of_mem _ h))).1)
  rw [set_self hv] at hs
  have pm : ((B1 ++ p :: B2) ++ A2).Perm ((B1 ++ B2) ++ ([p] ++ A2)) := by
    simp only [List.append_assoc, List.cons_append, List.nil_append]
    refine List.Perm.append_left _ ?_
    exact (List.perm_middle (l₁ := B2) (l₂ := A2) (a := p)).symm
  exact ⟨g.FH, g.F0, g.keep, g.hid, g.live, g.pin, lent_set g hm hi _, g.lb, g.tab, B1 ++ B2, [p] ++ A2, hs, .cons (.own e3 e4 e5) l, (List.Perm.nodup_iff pm).mp nd, fun a ha => k a (pm.mem_iff.mpr ha)⟩
theorem ret_end (hm : Pins fm m) {v : V} {t : T} {F H : Hp} {D : Ends} (g : Good (gX X) fm ρ σ ((v, t) :: τ) F H) (q : PostS X fm W τ (ret m t ρ) D) : D.rt v H := by
  cases t with
  | sh d => exact q v σ F H g
  | own ds => exact q v σ F H g
  | al j =>
    obtain ⟨A1, A2, s, l, nd, k⟩ := id g.own
    have hv : σ[j]? = some (some v) := by
      cases l with
      | cons r _ => cases r with | al q => exact q
    have q : PostS X fm W τ (match ρ[j]? with | some (some (.sh d)) => RS.rt (.sh d) ρ | some (some (.own ds)) => if j ∈ m then .bad else .rt (.own ds) (ρ.set j none) | _ => .bad) D := q
    split at q
    · rename_i d e
      obtain ⟨v', e1, r⟩ := s.get e
      rw [hv] at e1; cases e1
      rcases r with ⟨d', e2, r⟩ | ⟨p, vs, ds, e2, _⟩
      · cases e2; exact q v σ F H (g.pop.pushSh r)
      · cases e2
    · rename_i ds e
      split at q
      · exact q.elim
      · rename_i hi
        exact q v σ F H (g.pop.move hm hi e hv)
    · exact q.elim
theorem ss_ret {e : Expr} {fa : Env → R T} {pos : Pos} (he : SE X m W e fa) : SS X m W (.Return (some e) pos) (sRet m fa) := fun fm hm ρ σ τ F H D na g q =>
  tS_of (ps_ret pe_tE) (ss_s hm he g q fun t ρ1 v F' H' g' q' => ret_end hm g' q')
theorem ss_retN {pos : Pos} : SS X m W (.Return none pos) sRetN := fun fm hm ρ σ τ F H D na g q => tS_of ps_retN (q .non σ F H (g.pushSh .non))
theorem ss_if {c : Expr} {a b : List Stmt} {fc : Env → R Bool} {ga gb : Env → RS} {pos : Pos} (hc : ST X m W c fc) (ha : SSs X m W a ga) (hb : SSs X m W b gb) : SS X m W (.If c a b pos) (sIf fc ga gb) := fun fm hm ρ σ τ F H D na g q => by
  refine tS_of (ps_if pt_tT pss_tSs pss_tSs) ?_
  show tT X c σ H fun k H1 => if k = true then tSs X a D σ H1 else tSs X b D σ H1
  refine hc fm hm ρ σ τ F H _ g ?_
  have q : PostS X fm W τ ((fc ρ).s fun b ρ1 => if b = true then ga ρ1 else gb ρ1) D := q
  cases e1 : fc ρ with
  | ok t ρ1 =>
    rw [e1] at q
    intro F' H' g'
    cases t with
    | true => exact ha fm hm ρ1 σ τ F' H' D na g' q
    | false => exact hb fm hm ρ1 σ τ F' H' D na g' q
  | ex x ρ1 => rw [e1] at q; exact q σ
  | bad => rw [e1] at q; exact q
theorem sss_nil : SSs X m W [] sNil := fun fm hm ρ σ τ F H D na g q => tSs_of pss_nil (q σ F H g)
theorem sss_cons {st : Stmt} {rest : List Stmt} {g h : Env → RS} (h1 : SS X m W st g) (h2 : SSs X m W rest h) : SSs X m W (st :: rest) (sSeq g h) := fun fm hm ρ σ τ F H D na gd q => by
  refine tSs_of (pss_cons ps_tS pss_tSs) ?_
  refine h1 fm hm ρ σ τ F H _ na gd ?_
  have q : PostS X fm W τ ((g ρ).bind h) D := q
  cases e : g ρ with
  | nx ρ1 =>
    rw [e] at q
    exact fun σ' F' H' g' => h2 fm hm ρ1 σ' τ F' H' D na g' q
  | rt t ρ1 => rw [e] at q; exact q
  | bk ρ1 => rw [e] at q; exact q
  | ct ρ1 => rw [e] at q; exact q
  | ex x ρ1 => rw [e] at q; exact q
  | bad => rw [e] at q; exact q
theorem sss_one {st : Stmt} {g : Env → RS} (h1 : SS X m W st g) : SSs X m W [st] g := fun fm hm ρ σ τ F H D na gd q => tSs_of (pss_one ps_tS) (h1 fm hm ρ σ τ F H D na gd q)

/-! ### what is walked -/
def Feeds (G : Cfg) (fm : Fm) (J : It) (ι : List (V × T)) (items : List D) : Prop :=
  ∀ (i : Nat) (ρ : Env) (σ : L2.St) (τ : List (V × T)) (F H : Hp), Good G fm ρ σ (ι ++ τ) F H →
    (∀ d, items[i]? = some d → J.go i H ∧ ∀ x H', J.yld i H x H' → ∃ F', Grow F H F' H' ∧ Rep G F' x d) ∧ (items.length ≤ i → J.stop i H)
def PostI (X : Cx) (fm : Fm) (W : WX) (σ : L2.St) (τ : List (V × T)) (r : R (List D)) (Q : It → Hp → Prop) : Prop := match r with
  | .ok items ρ' => ∀ J ι F' H', NoAls ι → Good (gX X) fm ρ' σ (ι ++ τ) F' H' → (∀ F0, Feeds (gX X) { fm with F0 := F0 } J ι items) → Q J H'
  | .ex x ρ' => PostX X fm W σ τ x ρ'
  | .bad => False
def SI (X : Cx) (m : List Nat) (W : WX) (tg iter : Expr) (f : Env → R (List D)) : Prop := ∃ wi, PI X tg iter wi ∧ ∀ fm, PinX X fm m → ∀ ρ σ τ F H Q, Good (gX X) fm ρ σ τ F H → PostI X fm W σ τ (f ρ) Q → wi σ H Q
/-- where an item goes -/
def SGd (G : Cfg) (m : List Nat) (g : TG) (gt : D → Env → Option Env) : Prop := ∀ fm, Pins fm m → ∀ ρ σ τ F H v d ρ' (Q : L2.St → Hp → Prop), NoAls τ → Good G fm ρ σ τ F H → Rep G F v d → gt d ρ = some ρ' → (∀ σ' F' H', Good G fm ρ' σ' τ F' H' → Q σ' H') → g v σ H Q
def gN (i : Nat) : D → Env → Option Env := fun d ρ => some (ρ.set i (some (.sh d)))
theorem sg_name {G : Cfg} (i : Nat) (hi : i ∉ m := by decide) : SGd G m (gName i) (gN i) := fun fm hm ρ σ τ F H v d ρ' Q na g r e q => by
  cases e
  exact q _ F H ((g.pushSh r).putSh hm hi na)
def gsNil : List D → Env → Option Env := fun ds ρ => if ds = [] then some ρ else none
end
end Pf

namespace Pf
open PySem PySem.Spec L2

section
variable {X : Cx} {fm : Fm} {m : List Nat} {W : WX} {σ : L2.St} {τ : List (V × T)} {ρ : Env}

/-! ### lists, tuples, texts -/
def iAny (K : PySem.W.Frag) (tl : TE) : TI := fun σ H R => tl σ H fun x H1 => (∃ a, x = .ref a ∧ (∃ xs, SqL K H1 a xs) ∧ R (Itl K a) H1) ∨ (∃ a, x = .ref a ∧ (∃ xs, SqT K H1 a xs) ∧ R (Itt K a) H1) ∨ ∃ y, x = .str y ∧ R (Its y) H1
theorem pi_any {tg l : Expr} {tl : TE} (hl : PE X l tl) : PI X tg l (iAny X.K tl) := by
  refine ⟨fun pins s σ H R I h => ?_⟩
  refine thn (hl.run pins s σ H _ I h) fun v s1 ⟨x, H1, I1, r1, q1⟩ => ?_
  rcases q1 with ⟨a, e, ⟨xs, hq⟩, q⟩ | ⟨a, e, ⟨xs, hq⟩, q⟩ | ⟨y, e, q⟩
  · subst e
    cases r1
    obtain ⟨its, rv, p, hz⟩ := I1.list hq
    refine wpAny_pyIter_list p.isList ?_
    refine ⟨s1.heap.objs.size, [s1.heap.objs.size], _, _, H1, rfl, I1.kept (t' := s1.toks) fun b o e => Heap.get?_push_of_some _ e, turn_list a _, ⟨_, Heap.get?_push_size _ rfl, rfl, rfl⟩, fun b hb => ?_, q⟩
    have e : b = s1.heap.objs.size := by simpa using hb
    subst e
    exact I1.fpOk (Nat.le_refl _) (I1.hok.fresh (Nat.le_refl _))
  · subst e
    cases r1
    obtain ⟨its, rv, p, hz⟩ := I1.tuple hq
    refine wpAny_pyIter_tuple (show s1.heap.IsTuple a its.toArray from p) ?_
    refine ⟨s1.heap.objs.size, [s1.heap.objs.size], _, _, H1, rfl, I1.kept (t' := s1.toks) fun b o e => Heap.get?_push_of_some _ e, turn_tuple a _, ⟨_, Heap.get?_push_size _ rfl, rfl, rfl⟩, fun b hb => ?_, q⟩
    have e : b = s1.heap.objs.size := by simpa using hb
    subst e
    exact I1.fpOk (Nat.le_refl _) (I1.hok.fresh (Nat.le_refl _))
  · subst e
    obtain ⟨t, rfl⟩ := r1
    cases ha : y.cps.all (· < 128)
    · exact wpAny_pyIter_wide ha (pi_one (tk := s1.toks) I1 _ (turn_str _ y t "str_iterator" (.inr rfl)) ⟨_, Heap.get?_push_size _ rfl, rfl, rfl⟩ q)
    · exact wpAny_pyIter_ascii ha (pi_one (tk := s1.toks) I1 _ (turn_str _ y t "str_ascii_iterator" (.inl rfl)) ⟨_, Heap.get?_push_size _ rfl, rfl, rfl⟩ q)
/-- the items of what is walked -/
def signD (c : Nat) : D := .str ⟨#[c]⟩
def itemsD : D → Option (List D)
  | .lst xs => some xs
  | .rol xs => some xs
  | .tup xs => some xs
  | .str y => some (y.cps.toList.map signD)
  | _ => none
def iSeq (m : List Nat) (fa : Env → R T) : Env → R (List D) := fun ρ => (eF m fa ρ).bind fun t ρ1 => opt ((view ρ1 t).bind itemsD) ρ1

theorem Good.topSh {G : Cfg} {F H : Hp} {v : V} {d : D} (g : Good G fm ρ σ ((v, .sh d) :: τ) F H) : Rep G F v d := by
  obtain ⟨_, _, _, l, _, _⟩ := g.own
  cases l with
  | cons r _ => cases r with | sh r => exact r
theorem Reps.getLt {G : Cfg} {F : Hp} {vs : List V} {ds : List D} (r : Reps G F vs ds) {i : Nat} {d : D} (h : ds[i]? = some d) : ∃ v, vs[i]? = some v ∧ Rep G F v d := r.get h
/-- what the iterator over v gives -/
theorem feeds_of {G : Cfg} {v : V} {d : D} {items : List D} {F0 H0 : Hp} {ρ0 : Env} {σ0 : L2.St} {τ0 : List (V × T)} (e : itemsD d = some items) (g0 : Good G fm ρ0 σ0 ((v, .sh d) :: τ0) F0 H0) :
    ∃ J : It, ((∃ a, v = .ref a ∧ (∃ xs, SqL G.K H0 a xs) ∧ J = Itl G.K a) ∨ (∃ a, v = .ref a ∧ (∃ xs, SqT G.K H0 a xs) ∧ J = Itt G.K a) ∨ ∃ y, v = .str y ∧ J = Its y) ∧ ∀ F1, Feeds G { fm with F0 := F1 } J [(v, .sh d)] items := by
  have r0 := g0.topSh
  cases r0 with
  | lst h rs =>
    cases e
    rename_i p vs
    refine ⟨Itl G.K p, .inl ⟨p, rfl, ⟨vs, SqL.of (g0.FH _ _ h)⟩, rfl⟩, fun F1 i ρ σ τ F H g => ?_⟩
    cases g.topSh with
    | lst h rs =>
      refine ⟨fun d e => ?_, fun hi => ⟨_, SqL.of (g.FH _ _ h), by rw [rs.length]; exact hi⟩⟩
      obtain ⟨x, e1, r⟩ := rs.get e
      exact ⟨⟨_, x, SqL.of (g.FH _ _ h), e1⟩, fun y H' hy => by
        obtain ⟨rfl, hy⟩ := hy
        have := hy _ (SqL.of (g.FH _ _ h))
        rw [e1] at this; cases this
        exact ⟨F, Grow.refl g.FH, r⟩⟩
  | rol h rs =>
    cases e
    rename_i p vs
    refine ⟨Itl G.K p, .inl ⟨p, rfl, ⟨vs, sqL_mono g0.FH h⟩, rfl⟩, fun F1 i ρ σ τ F H g => ?_⟩
    cases g.topSh with
    | rol h rs =>
      refine ⟨fun d e => ?_, fun hi => ⟨_, sqL_mono g.FH h, by rw [rs.length]; exact hi⟩⟩
      obtain ⟨x, e1, r⟩ := rs.get e
      exact ⟨⟨_, x, sqL_mono g.FH h, e1⟩, fun y H' hy => by
        obtain ⟨rfl, hy⟩ := hy
        have := hy _ (sqL_mono g.FH h)
        rw [e1] at this; cases this
        exact ⟨F, Grow.refl g.FH, r⟩⟩
  | tup h rs =>
    cases e
    rename_i p vs
    refine ⟨Itt G.K p, .inr (.inl ⟨p, rfl, ⟨vs, sqT_mono g0.FH h⟩, rfl⟩), fun F1 i ρ σ τ F H g => ?_⟩
    cases g.topSh with
    | tup h rs =>
      refine ⟨fun d e => ?_, fun hi => ⟨_, sqT_mono g.FH h, by rw [rs.length]; exact hi⟩⟩
      obtain ⟨x, e1, r⟩ := rs.get e
      exact ⟨⟨_, x, sqT_mono g.FH h, e1⟩, fun y H' hy => by
        obtain ⟨rfl, hy⟩ := hy
        have := hy _ (sqT_mono g.FH h)
        rw [e1] at this; cases this
        exact ⟨F, Grow.refl g.FH, r⟩⟩
  | str =>
    cases e
    rename_i y
    refine ⟨Its y, .inr (.inr ⟨y, rfl, rfl⟩), fun F1 i ρ σ τ F H g => ⟨fun d e => ?_, fun hi => show y.cps.size ≤ i by simpa using hi⟩⟩
    rw [List.getElem?_map] at e
    obtain ⟨c, e1, rfl⟩ := Option.map_eq_some_iff.mp e
    have e2 : y.cps[i]? = some c := by rw [← Array.getElem?_toList]; exact e1
    refine ⟨?_, fun x H' hy => ?_⟩
    · have := (Array.getElem?_eq_some_iff.mp e2).1
      exact this
    · obtain ⟨rfl, c', e3, rfl⟩ := hy
      rw [e2] at e3; cases e3
      exact ⟨F, Grow.refl g.FH, .str⟩
  | _ => cases e
theorem si_any {tg l : Expr} {fa : Env → R T} (he : SE X m W l fa) : SI X m W tg l (iSeq m fa) := by
  refine ⟨_, pi_any pe_tE, fun fm hm ρ σ τ F H Q g q => ?_⟩
  refine se_f he fm hm ρ σ τ F H _ g ?_
  unfold iSeq at q
  cases e1 : eF m fa ρ with
  | ex x ρ1 => rw [e1] at q; exact q
  | bad => rw [e1] at q; exact q
  | ok t ρ1 =>
    rw [e1] at q
    intro v F' H' g'
    have hsh : ∃ d, t = .sh d := by
      unfold eF at e1
      obtain ⟨t0, ρ0, _, e2⟩ := bind_ok e1
      split at e2
      · cases e2; exact ⟨_, rfl⟩
      · cases e2
    obtain ⟨d, rfl⟩ := hsh
    have q : PostI X fm W σ τ (opt ((some d).bind itemsD) ρ1) Q := q
    rw [Option.bind_some] at q
    cases e2 : itemsD d with
    | none => rw [e2] at q; exact q.elim
    | some items =>
      rw [e2] at q
      obtain ⟨J, hJ, hF⟩ := feeds_of e2 g'
      have fin := q J [(v, .sh d)] F' H' (fun x hx => by rcases List.mem_cons.mp hx with rfl | hx; rfl; exact nomatch hx) g' hF
      rcases hJ with ⟨a, h1, h2, h3⟩ | ⟨a, h1, h2, h3⟩ | ⟨y, h1, h3⟩
      · exact .inl ⟨a, h1, h2, by rw [← h3]; exact fin⟩
      · exact .inr (.inl ⟨a, h1, h2, by rw [← h3]; exact fin⟩)
      · exact .inr (.inr ⟨y, h1, by rw [← h3]; exact fin⟩)

/-! ### ranges -/
def rngD (lo hi : Int) : List D := (List.range (hi - lo).toNat).map fun i => .int (lo + (i : Nat))
def i62 (i : Int) : Bool := decide (-(2 ^ 62) ≤ i ∧ i < 2 ^ 62)
def rng1 : List D → Option (List D)
  | [.int j] => if i62 j = true then some (rngD 0 j) else none
  | _ => none
def rng2 : List D → Option (List D)
  | [.int i, .int j] => if (i62 i && i62 j) = true then some (rngD i j) else none
  | _ => none
def iR (op : List D → Option (List D)) (fs : Env → R (List T)) : Env → R (List D) := fun ρ => (fs ρ).bind fun ts ρ1 => opt ((views ρ1 ts).bind op) ρ1
theorem feeds_rng {G : Cfg} {lo hi : Int} : Feeds G fm (Itr lo (hi - lo).toNat) [] (rngD lo hi) := fun i ρ σ τ F H g => by
  refine ⟨fun d e => ?_, fun h => show (hi - lo).toNat ≤ i by simpa only [rngD, List.length_map, List.length_range] using h⟩
  unfold rngD at e
  rw [List.getElem?_map] at e
  obtain ⟨c, e1, rfl⟩ := Option.map_eq_some_iff.mp e
  obtain ⟨h1, h2⟩ := List.getElem?_eq_some_iff.mp e1
  rw [List.getElem_range] at h2
  subst h2
  refine ⟨show i < (hi - lo).toNat by simpa only [List.length_range] using h1, fun x H' hy => ?_⟩
  obtain ⟨rfl, rfl⟩ := hy
  exact ⟨F, Grow.refl g.FH, .int⟩
theorem repVs_int {G : Cfg} {F H : Hp} {v : V} {i : Int} (r : RepV G F H v (.int i)) : v = .int i := by
  rcases r with r | ⟨p, vs, ds, _, z, _⟩
  · cases r; rfl
  · cases ds <;> cases z
theorem si_range1 {tg a : Expr} {p pos : Pos} {fs : Env → R (List T)} (hmg : X.mg "range" = none) (ha : SA X m W [a] fs) (hg : Gl X "range" := by rfl) (hs : starEach [a] X.env = [(false, eval a X.env)] := by rfl) :
    SI X m W tg (.Call (.Name "range" p) [a] [] pos) (iR rng1 fs) := by
  obtain ⟨t, pa, r⟩ := ha
  refine ⟨_, pi_range1 hg hmg pa hs, fun fm hm ρ σ τ F H Q g q => ?_⟩
  refine r fm hm ρ σ τ F H _ g ?_
  unfold iR at q
  cases e1 : fs ρ with
  | ex x ρ1 => rw [e1] at q; exact q
  | bad => rw [e1] at q; exact q
  | ok ts ρ1 =>
    rw [e1] at q
    intro vs F' H' hl g'
    have q : PostI X fm W σ τ (opt ((views ρ1 ts).bind rng1) ρ1) Q := q
    cases e2 : (views ρ1 ts).bind rng1 with
    | none => rw [e2] at q; exact q.elim
    | some items =>
      rw [e2] at q
      obtain ⟨ds, e3, e4⟩ := Option.bind_eq_some_iff.mp e2
      have rs := pushAll_views hl g' e3
      unfold rng1 at e4
      split at e4
      · rename_i j
        split at e4
        · rename_i hz
          cases e4
          have hz := of_decide_eq_true hz
          cases rs with
          | cons r1 rr =>
            cases rr
            rw [repVs_int r1]
            exact ⟨j, rfl, hz.1, hz.2, by
              have := q (Itr 0 (j - 0).toNat) [] F' H' (fun x hx => nomatch hx) (pushAll_pop _ _ _ g') fun F0 => feeds_rng
              simpa using this⟩
        · cases e4
      · cases e4
theorem si_range2 {tg a b : Expr} {p pos : Pos} {fs : Env → R (List T)} (hmg : X.mg "range" = none) (ha : SA X m W [a, b] fs) (hg : Gl X "range" := by rfl) (hs : starEach [a, b] X.env = [(false, eval a X.env), (false, eval b X.env)] := by rfl)
    (hs2 : starEach [b] X.env = [(false, eval b X.env)] := by rfl) : SI X m W tg (.Call (.Name "range" p) [a, b] [] pos) (iR rng2 fs) := by
  obtain ⟨t, pa, r⟩ := ha
  refine ⟨_, pi_range2 hg hmg pa hs hs2, fun fm hm ρ σ τ F H Q g q => ?_⟩
  refine r fm hm ρ σ τ F H _ g ?_
  unfold iR at q
  cases e1 : fs ρ with
  | ex x ρ1 => rw [e1] at q; exact q
  | bad => rw [e1] at q; exact q
  | ok ts ρ1 =>
    rw [e1] at q
    intro vs F' H' hl g'
    have q : PostI X fm W σ τ (opt ((views ρ1 ts).bind rng2) ρ1) Q := q
    cases e2 : (views ρ1 ts).bind rng2 with
    | none => rw [e2] at q; exact q.elim
    | some items =>
      rw [e2] at q
      obtain ⟨ds, e3, e4⟩ := Option.bind_eq_some_iff.mp e2
      have rs := pushAll_views hl g' e3
      unfold rng2 at e4
      split at e4
      · rename_i i j
        split at e4
        · rename_i hz
          cases e4
          obtain ⟨hz1, hz2⟩ := Bool.and_eq_true_iff.mp hz
          have hz1 := of_decide_eq_true hz1
          have hz2 := of_decide_eq_true hz2
          cases rs with
          | cons r1 rr =>
            cases rr with
            | cons r2 rr =>
              cases rr
              rw [repVs_int r1, repVs_int r2]
              exact ⟨i, j, rfl, ⟨hz1.1, hz1.2, hz2.1, hz2.2⟩, q _ [] F' H' (fun x hx => nomatch hx) (pushAll_pop _ _ _ g') fun F0 => feeds_rng⟩
        · cases e4
      · cases e4

/-! ### targets of several names -/
def gAll : List (D → Env → Option Env) → List D → Env → Option Env
  | [], [], ρ => some ρ
  | g :: gs, d :: ds, ρ => (g d ρ).bind fun ρ1 => gAll gs ds ρ1
  | _, _, _ => none
def gT (gs : List (D → Env → Option Env)) : D → Env → Option Env := fun d ρ => match d with
  | .tup ds => gAll gs ds ρ
  | _ => none
def SGs (G : Cfg) (m : List Nat) (n : Nat) (g : TGs) (gs : List (D → Env → Option Env)) : Prop := gs.length = n ∧ ∀ fm, Pins fm m → ∀ ρ σ τ F H vs ds ρ' (Q : L2.St → Hp → Prop), NoAls τ → Good G fm ρ σ τ F H → Reps G F vs ds → gAll gs ds ρ = some ρ' → (∀ σ' F' H', Good G fm ρ' σ' τ F' H' → Q σ' H') → g vs σ H Q
theorem sgs_nil {G : Cfg} : SGs G m 0 gNil [] := ⟨rfl, fun fm hm ρ σ τ F H vs ds ρ' Q na g r e q => by
  cases ds with
  | nil => cases e; cases r; exact ⟨rfl, q σ F H g⟩
  | cons d ds => cases e⟩
theorem Good.pushAllSh {G : Cfg} {F H : Hp} : ∀ {vs : List V} {ds : List D} {τ : List (V × T)}, Good G fm ρ σ τ F H → Reps G F vs ds → Good G fm ρ σ ((vs.zip (ds.map T.sh)) ++ τ) F H
  | _, _, _, g, .nil => g
  | _, _, _, g, .cons r t => (Good.pushAllSh g t).pushSh r
theorem reps_of_push {G : Cfg} {F H : Hp} : ∀ {vs : List V} {ds : List D} {τ : List (V × T)}, vs.length = ds.length → Good G fm ρ σ ((vs.zip (ds.map T.sh)) ++ τ) F H → Reps G F vs ds ∧ Good G fm ρ σ τ F H
  | [], [], _, _, g => ⟨.nil, g⟩
  | v :: vs, d :: ds, _, h, g => by
    obtain ⟨a, b⟩ := reps_of_push (vs := vs) (ds := ds) (by simpa using h) g.pop
    exact ⟨.cons g.topSh a, b⟩
  | [], _ :: _, _, h, _ => by simp at h
  | _ :: _, [], _, h, _ => by simp at h
theorem noAls_push {vs : List V} {ds : List D} (na : NoAls τ) : NoAls ((vs.zip (ds.map T.sh)) ++ τ) := fun x hx => by
  rcases List.mem_append.mp hx with hx | hx
  · obtain ⟨v, t⟩ := x
    have := (List.of_mem_zip hx).2
    obtain ⟨d, _, rfl⟩ := List.mem_map.mp this
    rfl
  · exact na x hx
theorem sgs_cons {G : Cfg} {n : Nat} {g : TG} {gs' : TGs} {g0 : D → Env → Option Env} {gs : List (D → Env → Option Env)} (h1 : SGd G m g g0) (h2 : SGs G m n gs' gs) : SGs G m (n + 1) (gCons g gs') (g0 :: gs) := ⟨by simp [h2.1], fun fm hm ρ σ τ F H vs ds ρ' Q na gd r e q => by
  cases ds with
  | nil => cases e
  | cons d ds =>
    cases r with
    | cons r rs =>
      rename_i v vs
      have e : (g0 d ρ).bind (fun ρ1 => gAll gs ds ρ1) = some ρ' := e
      obtain ⟨ρ1, e1, e2⟩ := Option.bind_eq_some_iff.mp e
      refine ⟨_, _, rfl, h1 fm hm ρ σ _ F H v d ρ1 _ (noAls_push (vs := vs) (ds := ds) na) (gd.pushAllSh rs) r e1 fun σ1 F1 H1 g1 => ?_⟩
      obtain ⟨rs1, g1'⟩ := reps_of_push rs.length g1
      exact h2.2 fm hm ρ1 σ1 τ F1 H1 vs ds ρ' Q na g1' rs1 e2 q⟩
theorem gAll_len : ∀ {gs : List (D → Env → Option Env)} {ds : List D} {ρ ρ' : Env}, gAll gs ds ρ = some ρ' → ds.length = gs.length
  | [], [], _, _, _ => rfl
  | g :: gs, d :: ds, ρ, ρ', e => by
    have e : (g d ρ).bind (fun ρ1 => gAll gs ds ρ1) = some ρ' := e
    obtain ⟨ρ1, _, e2⟩ := Option.bind_eq_some_iff.mp e
    simp [gAll_len e2]
  | [], _ :: _, _, _, e => nomatch e
  | _ :: _, [], _, _, e => nomatch e
theorem sg_tup {G : Cfg} {n : Nat} {g : TGs} {gs : List (D → Env → Option Env)} (h : SGs G m n g gs) : SGd G m (gTup G.K n g) (gT gs) := fun fm hm ρ σ τ F H v d ρ' Q na gd r e q => by
  cases r with
  | tup ht rs =>
    have e : gAll gs _ ρ = some ρ' := e
    refine ⟨_, _, rfl, sqT_mono gd.FH ht, ?_, h.2 fm hm ρ σ τ F H _ _ ρ' Q na gd rs e q⟩
    rw [rs.length, gAll_len e, h.1]
  | _ => cases e

/-! ### temporaries left out -/
theorem RepL.sub {G : Cfg} {F H : Hp} {τ' : List (V × T)} {A : List Addr} (h : τ'.Sublist τ) : RepL G σ F H τ A → ∃ B, RepL G σ F H τ' B ∧ B.Sublist A := by
  induction h generalizing A with
  | slnil => exact fun r => ⟨A, r, List.Sublist.refl _⟩
  | cons x h ih =>
    intro r
    cases r with
    | cons r l =>
      obtain ⟨B, b1, b2⟩ := ih l
      exact ⟨B, b1, b2.trans (List.sublist_append_right _ _)⟩
  | cons_cons x h ih =>
    intro r
    cases r with
    | cons r l =>
      obtain ⟨B, b1, b2⟩ := ih l
      exact ⟨_, .cons r b1, List.Sublist.append_left b2 _⟩
theorem Good.sub {G : Cfg} {F H : Hp} {τ' : List (V × T)} (g : Good G fm ρ σ τ F H) (h : τ'.Sublist τ) : Good G fm ρ σ τ' F H := by
  obtain ⟨A1, A2, s, l, nd, k⟩ := id g.own
  obtain ⟨B, b1, b2⟩ := l.sub h
  refine ⟨g.FH, g.F0, g.keep, g.hid, g.live, g.pin, g.lent, g.lb, g.tab, A1, B, s, b1, nd.sublist (List.Sublist.append_left b2 _), fun a ha => k a ?_⟩
  rcases List.mem_append.mp ha with ha | ha
  · exact List.mem_append_left _ ha
  · exact List.mem_append_right _ (b2.subset ha)

/-! ### for -/
def forD (gt : D → Env → Option Env) (gb : Env → RS) : List D → Env → RS
  | [], ρ => .nx ρ
  | d :: ds, ρ => match gt d ρ with
    | none => .bad
    | some ρ1 => match gb ρ1 with
      | .nx ρ2 => forD gt gb ds ρ2
      | .ct ρ2 => forD gt gb ds ρ2
      | .bk ρ2 => .nx ρ2
      | r => r
def sFor (fi : Env → R (List D)) (gt : D → Env → Option Env) (gb : Env → RS) : Env → RS := fun ρ => (fi ρ).s fun items ρ1 => forD gt gb items ρ1
theorem ss_for (cx : Cok X) {tg iter : Expr} {body : List Stmt} {pos : Pos} {fi : Env → R (List D)} {gt : D → Env → Option Env} {gb : Env → RS} {g : TG} (hi : SI X m W tg iter fi) (hg : PG X tg g) (gs : SGd (gX X) m g gt) (hb : SSs X m W body gb)
    (hs : ∀ x, foldedSetIterable iter X.env x = pure x := by intro _; rfl) : SS X m W (.For tg iter body [] pos) (sFor fi gt gb) := fun fm hm ρ σ τ F H D na gd q => by
  obtain ⟨wi, pi, r⟩ := hi
  refine tS_of (ps_for cx.pass cx.calm pi hg pss_tSs hs) ?_
  refine r fm hm ρ σ τ F H _ gd ?_
  unfold sFor at q
  cases e1 : fi ρ with
  | ex x ρ1 => rw [e1] at q; exact q σ
  | bad => rw [e1] at q; exact q
  | ok items ρ1 =>
    rw [e1] at q
    have q : PostS X fm W τ (forD gt gb items ρ1) D := q
    intro J ι F1 H1 nι g1 fd
    have naι : NoAls (ι ++ τ) := fun x hx => (List.mem_append.mp hx).elim (nι x) (na x)
    refine ⟨fun i k σ' H' => k = items.length - i ∧ i ≤ items.length ∧ ∃ ρ' F', Good (gX X) fm ρ' σ' (ι ++ τ) F' H' ∧ PostS X fm W τ (forD gt gb (items.drop i) ρ') D, ⟨items.length, by simp, Nat.zero_le _, ρ1, F1, g1, by simpa using q⟩, ?_⟩
    rintro i k σ' H' ⟨rfl, hi, ρ', F', g', q'⟩
    have fd0 : Feeds (gX X) fm J ι items := fd fm.F0
    by_cases hlt : i < items.length
    · have e2 : items[i]? = some items[i] := List.getElem?_eq_getElem hlt
      have e3 : items.drop i = items[i] :: items.drop (i + 1) := List.drop_eq_getElem_cons hlt
      rw [e3] at q'
      obtain ⟨go, yl⟩ := (fd0 i ρ' σ' τ F' H' g').1 _ e2
      refine .inr ⟨go, fun σ2 H2 => i + 1 ≤ items.length ∧ ∃ ρ2 F2, Good (gX X) fm ρ2 σ2 (ι ++ τ) F2 H2 ∧ PostS X fm W τ (forD gt gb (items.drop (i + 1)) ρ2) D, fun σ2 H2 ⟨h1, h2⟩ => ⟨items.length - (i + 1), by omega, rfl, h1, h2⟩, fun x H2 hy => ?_⟩
      obtain ⟨F2, gr, rx⟩ := yl x H2 hy
      have q' : PostS X fm W τ (match gt items[i] ρ' with
        | none => RS.bad
        | some ρ1 => match gb ρ1 with
          | .nx ρ2 => forD gt gb (items.drop (i + 1)) ρ2
          | .ct ρ2 => forD gt gb (items.drop (i + 1)) ρ2
          | .bk ρ2 => .nx ρ2
          | r => r) D := q'
      cases e4 : gt items[i] ρ' with
      | none => rw [e4] at q'; exact q'.elim
      | some ρ2 =>
        rw [e4] at q'
        refine gs fm hm ρ' σ' (ι ++ τ) F2 H2 x _ ρ2 _ naι (g'.grow gr) rx e4 fun σ3 F3 H3 g3 => ?_
        refine hb fm hm ρ2 σ3 (ι ++ τ) F3 H3 _ naι g3 ?_
        have sb : τ.Sublist (ι ++ τ) := List.sublist_append_right _ _
        dsimp only at q'
        cases e5 : gb ρ2 with
        | nx ρ4 => rw [e5] at q'; exact fun σ4 F4 H4 g4 => ⟨hlt, ρ4, F4, g4, q'⟩
        | ct ρ4 => rw [e5] at q'; exact fun σ4 F4 H4 g4 => ⟨hlt, ρ4, F4, g4, q'⟩
        | bk ρ4 => rw [e5] at q'; exact fun σ4 F4 H4 g4 => q' σ4 F4 H4 (g4.sub sb)
        | rt t ρ4 => rw [e5] at q'; exact fun v σ4 F4 H4 g4 => q' v σ4 F4 H4 (g4.sub (sb.cons_cons _))
        | ex x ρ4 => rw [e5] at q'; exact fun σ4 cls d F4 H4 g4 r4 => q' σ4 cls d F4 H4 (g4.sub sb) r4
        | bad => rw [e5] at q'; exact q'
    · have e : i = items.length := by omega
      subst e
      rw [List.drop_length] at q'
      exact .inl ⟨(fd0 _ ρ' σ' τ F' H' g').2 (Nat.le_refl _), q' σ' F' H' (g'.sub (List.sublist_append_right _ _))⟩

/-! ### while -/
def whileD (c : Env → R Bool) (gb : Env → RS) : Nat → Env → RS
  | 0, _ => .bad
  | n + 1, ρ => (c ρ).s fun b ρ1 => if b = true then match gb ρ1 with
      | .nx ρ2 => whileD c gb n ρ2
      | .ct ρ2 => whileD c gb n ρ2
      | .bk ρ2 => .nx ρ2
      | r => r
    else .nx ρ1
def sWhile (fuel : Env → Nat) (c : Env → R Bool) (gb : Env → RS) : Env → RS := fun ρ => whileD c gb (fuel ρ) ρ
theorem ss_while (cx : Cok X) {c : Expr} {body : List Stmt} {pos : Pos} {fc : Env → R Bool} {gb : Env → RS} (fuel : Env → Nat) (hc : ST X m W c fc) (hb : SSs X m W body gb) : SS X m W (.While c body [] pos) (sWhile fuel fc gb) := fun fm hm ρ σ τ F H D na gd q => by
  refine tS_of (ps_while cx.pass pt_tT pss_tSs) ?_
  refine ⟨fun k σ' H' => ∃ ρ' F', Good (gX X) fm ρ' σ' τ F' H' ∧ PostS X fm W τ (whileD fc gb k ρ') D, ⟨fuel ρ, ρ, F, gd, q⟩, ?_⟩
  rintro k σ' H' ⟨ρ', F', g', q'⟩
  cases k with
  | zero => exact q'.elim
  | succ k =>
    have q' : PostS X fm W τ ((fc ρ').s fun b ρ1 => if b = true then match gb ρ1 with
      | .nx ρ2 => whileD fc gb k ρ2
      | .ct ρ2 => whileD fc gb k ρ2
      | .bk ρ2 => .nx ρ2
      | r => r
    else .nx ρ1) D := q'
    refine hc fm hm ρ' σ' τ F' H' _ g' ?_
    cases e1 : fc ρ' with
    | ex x ρ1 => rw [e1] at q'; exact q' σ'
    | bad => rw [e1] at q'; exact q'
    | ok b ρ1 =>
      rw [e1] at q'
      intro F2 H2 g2
      cases b with
      | false => exact q' σ' F2 H2 g2
      | true =>
        refine ⟨fun σ3 H3 => ∃ ρ3 F3, Good (gX X) fm ρ3 σ3 τ F3 H3 ∧ PostS X fm W τ (whileD fc gb k ρ3) D, fun σ3 H3 h => ⟨k, Nat.lt_succ_self _, h⟩, ?_⟩
        refine hb fm hm ρ1 σ' τ F2 H2 _ na g2 ?_
        have q' : PostS X fm W τ (match gb ρ1 with
          | .nx ρ2 => whileD fc gb k ρ2
          | .ct ρ2 => whileD fc gb k ρ2
          | .bk ρ2 => .nx ρ2
          | r => r) D := q'
        cases e5 : gb ρ1 with
        | nx ρ4 => rw [e5] at q'; exact fun σ4 F4 H4 g4 => ⟨ρ4, F4, g4, q'⟩
        | ct ρ4 => rw [e5] at q'; exact fun σ4 F4 H4 g4 => ⟨ρ4, F4, g4, q'⟩
        | bk ρ4 => rw [e5] at q'; exact q'
        | rt t ρ4 => rw [e5] at q'; exact q'
        | ex x ρ4 => rw [e5] at q'; exact q'
        | bad => rw [e5] at q'; exact q'
end
end Pf

namespace Pf
open PySem PySem.Spec L2

theorem wipe_get (σ : L2.St) (i : Nat) : ∀ vs : List Nat, (wipe σ vs)[i]? = if i ∈ vs then σ[i]?.map (fun _ => none) else σ[i]?
  | [] => by simp [wipe]
  | v :: vs => by
    have ih := wipe_get σ i vs
    unfold wipe
    by_cases h : v = i
    · subst h
      rw [if_pos (List.mem_cons_self ..)]
      by_cases hl : v < (wipe σ vs).length
      · rw [List.getElem?_set_self hl]
        rw [wipe_length] at hl
        rw [List.getElem?_eq_getElem hl]
        rfl
      · rw [List.getElem?_eq_none (by simpa using hl)]
        rw [wipe_length] at hl
        rw [List.getElem?_eq_none (by simpa using hl)]
        rfl
    · rw [List.getElem?_set_ne h, ih]
      by_cases h2 : i ∈ vs
      · rw [if_pos h2, if_pos (List.mem_cons_of_mem _ h2)]
      · rw [if_neg h2, if_neg (by intro z; rcases List.mem_cons.mp z with z | z; exact h z.symm; exact h2 z)]
theorem wipe_set {σ : L2.St} {j : Nat} {x : Option V} {vs : List Nat} (hj : j ∈ vs) : wipe (σ.set j x) vs = wipe σ vs := by
  apply List.ext_getElem?
  intro i
  rw [wipe_get, wipe_get]
  by_cases hi : i ∈ vs
  · rw [if_pos hi, if_pos hi]
    by_cases h : j = i
    · subst h
      by_cases hl : j < σ.length
      · rw [List.getElem?_set_self hl, List.getElem?_eq_getElem hl]; rfl
      · rw [List.getElem?_eq_none (by simpa using hl), List.getElem?_eq_none (by simpa using hl)]
    · rw [List.getElem?_set_ne h]
  · rw [if_neg hi, if_neg hi, List.getElem?_set_ne (by rintro rfl; exact hi hj)]
theorem wipe_wipe (σ : L2.St) (vs : List Nat) : wipe (wipe σ vs) vs = wipe σ vs := by
  apply List.ext_getElem?
  intro i
  rw [wipe_get, wipe_get]
  by_cases hi : i ∈ vs
  · rw [if_pos hi, if_pos hi, Option.map_map]; rfl
  · rw [if_neg hi]
def wipeE (ρ : Env) : List Nat → Env
  | [] => ρ
  | v :: vs => (wipeE ρ vs).set v none
def Gw (vs : List Nat) (g : TG) : Prop := ∀ v σ H Q, g v σ H Q → g v σ H fun σ2 H2 => wipe σ2 vs = wipe σ vs ∧ Q σ2 H2
def Gws (vs : List Nat) (g : TGs) : Prop := ∀ v σ H Q, g v σ H Q → g v σ H fun σ2 H2 => wipe σ2 vs = wipe σ vs ∧ Q σ2 H2
theorem gw_name {vs : List Nat} {i : Nat} (h : i ∈ vs := by decide) : Gw vs (gName i) := fun v σ H Q q => ⟨wipe_set h, q⟩
theorem gws_nil {vs : List Nat} : Gws vs gNil := fun v σ H Q q => ⟨q.1, rfl, q.2⟩
def Mono (g : TG) : Prop := ∀ v σ H Q Q', (∀ σ H, Q σ H → Q' σ H) → g v σ H Q → g v σ H Q'
def Monos (g : TGs) : Prop := ∀ v σ H Q Q', (∀ σ H, Q σ H → Q' σ H) → g v σ H Q → g v σ H Q'
theorem mono_name {i : Nat} : Mono (gName i) := fun _ _ _ _ _ h q => h _ _ q
theorem monos_nil : Monos gNil := fun _ _ _ _ _ h q => ⟨q.1, h _ _ q.2⟩
theorem monos_cons {g : TG} {gs : TGs} (a : Mono g) (b : Monos gs) : Monos (gCons g gs) := fun vs σ H Q Q' h ⟨v, r, e, q⟩ => ⟨v, r, e, a v σ H _ _ (fun σ1 H1 q1 => b r σ1 H1 _ _ h q1) q⟩
theorem mono_tup {K : PySem.W.Frag} {n : Nat} {g : TGs} (a : Monos g) : Mono (gTup K n g) := fun v σ H Q Q' h ⟨p, xs, e1, e2, e3, q⟩ => ⟨p, xs, e1, e2, e3, a xs σ H _ _ h q⟩
theorem gws_cons {vs : List Nat} {g : TG} {gs : TGs} (m1 : Mono g) (a : Gw vs g) (b : Gws vs gs) : Gws vs (gCons g gs) := fun v σ H Q ⟨x, r, e, q⟩ => ⟨x, r, e, m1 x σ H _ _ (fun σ1 H1 ⟨e1, q1⟩ => by
    have := b r σ1 H1 Q q1
    rw [e1] at this
    exact this) (a x σ H _ q)⟩
theorem gw_tup {vs : List Nat} {K : PySem.W.Frag} {n : Nat} {g : TGs} (a : Gws vs g) : Gw vs (gTup K n g) := fun v σ H Q ⟨p, xs, e1, e2, e3, q⟩ => ⟨p, xs, e1, e2, e3, a xs σ H Q q⟩

section
variable {G : Cfg} {fm : Fm} {m : List Nat} {σ : L2.St} {τ : List (V × T)} {ρ : Env} {F H : Hp}
theorem Good.wipe (hm : Pins fm m) (g : Good G fm ρ σ τ F H) (na : NoAls τ) : ∀ vs : List Nat, (∀ i ∈ vs, i ∉ m) → Good G fm (wipeE ρ vs) (L2.wipe σ vs) τ F H
  | [], _ => g
  | v :: vs, h => (Good.wipe hm g na vs fun i hi => h i (List.mem_cons_of_mem _ hi)).drop hm (h v (List.mem_cons_self ..)) none na
def ksh (ρ0 : Env) (v : Nat) : Option T := match ρ0[v]? with
  | some (some (.sh d)) => some (.sh d)
  | _ => none
def unw (ρ0 : Env) : List Nat → Env → Env
  | [], ρ => ρ
  | v :: vs, ρ => unw ρ0 vs (ρ.set v (ksh ρ0 v))
theorem RepS.unwipe {F0 H0 : Hp} {ρ0 : Env} {A0 : List Addr} (s0 : RepS G F0 H0 σ ρ0 A0) (e : Same F0 F) : ∀ (vs : List Nat) (σ1 : L2.St) (ρ : Env) (A : List Addr), σ1.length = σ.length → (∀ j, j ∉ vs → σ1[j]? = σ[j]?) → RepS G F H σ1 ρ A → ∃ B, RepS G F H σ (unw ρ0 vs ρ) B ∧ B.Sublist A
  | [], σ1, ρ, A, hl, h, s => by
    have : σ1 = σ := List.ext_getElem? fun j => h j (fun z => nomatch z)
    subst this
    exact ⟨A, s, List.Sublist.refl _⟩
  | v :: vs, σ1, ρ, A, hl, h, s => by
    have key : ∀ (o : Option V), (∀ j, j ∉ vs → (σ1.set v o)[j]? = σ[j]?) ↔ (∀ j, j ∉ vs → (σ1.set v o)[j]? = σ[j]?) := fun _ => Iff.rfl
    have agree : ∀ o : Option V, (v < σ.length → σ[v]? = some o) → ∀ j, j ∉ vs → (σ1.set v o)[j]? = σ[j]? := fun o ho j hj => by
      by_cases hv : v = j
      · subst hv
        by_cases hlt : v < σ.length
        · rw [List.getElem?_set_self (by omega), ho hlt]
        · rw [List.getElem?_eq_none (by simp; omega), List.getElem?_eq_none (by omega)]
      · rw [List.getElem?_set_ne hv]
        exact h j (by intro z; rcases List.mem_cons.mp z with z | z; exact hv z.symm; exact hj z)
    unfold unw
    have other : ksh ρ0 v = none → ∃ B, RepS G F H σ (unw ρ0 vs (ρ.set v none)) B ∧ B.Sublist A := fun _ => by
      obtain ⟨B, b1, b2⟩ := s.set_none v (σ[v]?.getD none)
      obtain ⟨B', b3, b4⟩ := RepS.unwipe s0 e vs _ _ _ (by simp [hl]) (agree _ fun hlt => by rw [List.getElem?_eq_getElem hlt]; rfl) b1
      exact ⟨B', b3, b4.trans b2⟩
    cases hk : ksh ρ0 v with
    | none => exact other hk
    | some t =>
      unfold ksh at hk
      split at hk
      · rename_i d q
        cases hk
        obtain ⟨x, e1, r⟩ := s0.get q
        rcases r with ⟨d', e2, r⟩ | ⟨p, ws, ds, e2, _⟩
        · cases e2
          obtain ⟨B, b1, b2⟩ := s.put_sh (r.mono e) v
          obtain ⟨B', b3, b4⟩ := RepS.unwipe s0 e vs _ _ _ (by simp [hl]) (agree _ fun _ => e1) b1
          exact ⟨B', b3, b4.trans b2⟩
        · cases e2
      · cases hk
theorem RepL.als {A : List Addr} (h : RepL G σ F H τ A) : ∀ x ∈ τ, ∀ i, x.2 = .al i → σ[i]? = some (some x.1) := by
  induction h with
  | nil => exact fun x hx => nomatch hx
  | cons r _ ih =>
    intro x hx i e
    rcases List.mem_cons.mp hx with rfl | hx
    · cases r with
      | al q => cases e; exact q
      | _ => cases e
    · exact ih x hx i e
theorem RepL.merge {σ' : L2.St} : ∀ {τ : List (V × T)} {A : List Addr}, RepL G σ' F H (τ.filter fun x => noAl x.2) A → (∀ x ∈ τ, ∀ i, x.2 = .al i → σ[i]? = some (some x.1)) → RepL G σ F H τ A
  | [], A, h, _ => by cases h; exact .nil
  | (v, t) :: τ, A, h, k => by
    cases t with
    | al i =>
      have h' : RepL G σ' F H (τ.filter fun x => noAl x.2) A := h
      exact .cons (.al (k _ (List.mem_cons_self ..) i rfl)) (RepL.merge h' fun x hx => k x (List.mem_cons_of_mem _ hx))
    | sh d =>
      have h' : RepL G σ' F H ((v, .sh d) :: τ.filter fun x => noAl x.2) A := h
      cases h' with
      | cons r l =>
        cases r with
        | sh r => exact .cons (.sh r) (RepL.merge l fun x hx => k x (List.mem_cons_of_mem _ hx))
    | own ds =>
      have h' : RepL G σ' F H ((v, .own ds) :: τ.filter fun x => noAl x.2) A := h
      cases h' with
      | cons r l =>
        cases r with
        | own a b c => exact .cons (.own a b c) (RepL.merge l fun x hx => k x (List.mem_cons_of_mem _ hx))
abbrev plain (τ : List (V × T)) : List (V × T) := τ.filter fun x => noAl x.2
theorem plain_noAls : NoAls (plain τ) := fun x hx => (List.mem_filter.mp hx).2
theorem plain_app {ι : List (V × T)} (h : NoAls ι) : plain (ι ++ τ) = ι ++ plain τ := by
  unfold plain
  rw [List.filter_append, List.filter_eq_self.mpr (fun x hx => h x hx)]
/-- behind a comprehension -/
theorem Good.unwipe (hm : Pins fm m) {vs : List Nat} (hv : ∀ i ∈ vs, i ∉ m) {ρ0 : Env} {F0 H0 : Hp} {ι : List (V × T)} (nι : NoAls ι) (g0 : Good G fm ρ0 σ τ F0 H0) (g : Good G { fm with F0 := F0 } ρ (L2.wipe σ vs) (ι ++ plain τ) F H) : Good G fm (unw ρ0 vs ρ) σ (ι ++ τ) F H := by
  obtain ⟨A1, A2, s, l, nd, k⟩ := id g.own
  obtain ⟨A01, A02, s0, l0, _, _⟩ := id g0.own
  have hF : Same F0 F := g.F0
  obtain ⟨B, b1, b2⟩ := s0.unwipe hF vs (L2.wipe σ vs) ρ A1 (wipe_length _ _) (fun j hj => by rw [wipe_get, if_neg hj]) s
  have hl := l0.als
  have l1 : RepL G (L2.wipe σ vs) F H (plain (ι ++ τ)) A2 := by rw [plain_app nι]; exact l
  have l2 : RepL G σ F H (ι ++ τ) A2 := RepL.merge (σ := σ) l1 fun x hx i e => by
    rcases List.mem_append.mp hx with hx | hx
    · have := nι x hx
      rw [e] at this; cases this
    · exact hl x hx i e
  refine ⟨g.FH, g0.F0.trans hF, g.keep, fun a h1 h2 => g.hid a h1 (g0.hid a h1 h2), g.live, g0.pin, fun pr hp => ?_, g0.lb, g.tab, B, A2, b1, l2, nd.sublist (List.Sublist.append_right b2 _), fun a ha => k a ?_⟩
  · rcases g.lent pr hp with ⟨ds, m2⟩ | m2
    case inr => exact .inr m2
    refine .inl ⟨ds, ?_⟩
    have hj : pr.1 ∈ m := hm _ hp
    generalize pr.1 = j at hj m2
    have key : ∀ (ws : List Nat) (ρ : Env), (∀ i ∈ ws, i ∉ m) → (unw ρ0 ws ρ)[j]? = ρ[j]? := fun ws => by
      induction ws with
      | nil => exact fun _ _ => rfl
      | cons w ws ih =>
        intro ρ hw
        unfold unw
        rw [ih _ fun i hi => hw i (List.mem_cons_of_mem _ hi), List.getElem?_set_ne (by rintro rfl; exact hw _ (List.mem_cons_self ..) hj)]
    rw [key vs ρ hv]; exact m2
  · rcases List.mem_append.mp ha with ha | ha
    · exact List.mem_append_left _ (b2.subset ha)
    · exact List.mem_append_right _ ha
/-- an item goes to a list that is being made -/
theorem Good.appTop {y L : V} {d : D} {ds : List D} (g : Good G fm ρ σ ((y, .sh d) :: (L, .own (.lst ds)) :: τ) F H) : ∃ p vs, L = .ref p ∧ H p = some (.lst vs) ∧ vs.length = ds.length ∧ Good G fm ρ σ ((L, .own (.lst (ds ++ [d]))) :: τ) F (upd H p (.lst (vs ++ [y]))) := by
  have ry := g.topSh
  have g1 := g.pop
  obtain ⟨A1, A2, s, l, nd, k⟩ := id g1.own
  cases l with
  | cons r l =>
    cases r with
    | own h1 h2 h3' =>
      rename_i B p u
      obtain ⟨vs, rfl, h3⟩ := h3'.isLst
      have nd' : (p :: (A1 ++ B)).Nodup := (List.Perm.nodup_iff List.perm_middle).mp nd
      have n0 := (List.nodup_cons.mp nd').1
      have n1 : p ∉ A1 := fun z => n0 (List.mem_append_left _ z)
      have n2 : p ∉ B := fun z => n0 (List.mem_append_right _ z)
      have hp : p ∈ A1 ++ ([p] ++ B) := List.mem_append_right _ (List.mem_append_left _ (List.mem_cons_self ..))
      have kp : fm.H0 p = none := by
        rcases k p hp with z | z
        · exact z
        · obtain ⟨j, ds', m1, m2⟩ := g1.lentAt p z
          obtain ⟨v, q1, q2⟩ := s.get m2
          rw [g1.pin _ m1] at q1; cases q1
          rcases q2 with ⟨d, z, _⟩ | ⟨p, vs, ds, _, z, _, _, mm⟩
          · cases z
          · cases z; exact absurd mm n1
      refine ⟨p, vs, rfl, h1, h3.length, fun a o q => ?_, g1.F0, fun a o q n => ?_, g1.hid, fun a h => ?_, g1.pin, g1.lent, g1.lb, g1.tab.but h1 (.lst h3) (fun a o n q => by rw [upd_ne n]; exact q) (fun _ _ z => z), A1, [p] ++ B, ?_, .cons (.own upd_same h2 (.lst (h3.append (.cons ry .nil)))) ?_, nd, k⟩
      · rw [upd_ne (ne_of_none q h2)]; exact g1.FH _ _ q
      · rw [upd_ne (ne_of_none q kp)]; exact g1.keep _ _ q n
      · rw [upd_ne (fun z => h (by rw [z]; exact kp))]; exact g1.live a h
      · refine s.mono (Same.refl _) (fun a ha o q => ?_) fun a ha => (s.mem a ha).1
        rw [upd_ne (show a ≠ p by rintro rfl; exact n1 ha)]; exact q
      · refine l.mono (Same.refl _) (fun a ha o q => ?_) fun a ha => (l.mem a ha).1
        rw [upd_ne (show a ≠ p by rintro rfl; exact n2 ha)]; exact q
theorem Good.ownTop {L : V} {ds : List D} (g : Good G fm ρ σ ((L, .own (.lst ds)) :: τ) F H) : ∃ p vs, L = .ref p ∧ H p = some (.lst vs) ∧ vs.length = ds.length := by
  obtain ⟨A1, A2, s, l, nd, k⟩ := id g.own
  cases l with
  | cons r l => cases r with | own h1 h2 h3 => obtain ⟨vs, rfl, h4⟩ := h3.isLst; exact ⟨_, _, rfl, h1, h4.length⟩
end

/-! ### list comprehensions -/
def lcD (m vs : List Nat) (gt : D → Env → Option Env) (c : Env → R Bool) (fe : Env → R T) : List D → Nat → Env → R (List D)
  | [], _, ρ => .ok [] ρ
  | d :: ds, n, ρ => match gt d ρ with
    | none => .bad
    | some ρ1 => match c ρ1 with
      | .ok true ρ2 => match eF m fe ρ2 with
        | .ok (.sh x) ρ3 => if n < sizeLine then match lcD m vs gt c fe ds (n + 1) (wipeE ρ3 vs) with
            | .ok xs ρ4 => .ok (x :: xs) ρ4
            | _ => .bad
          else .bad
        | _ => .bad
      | .ok false ρ2 => lcD m vs gt c fe ds n (wipeE ρ2 vs)
      | _ => .bad
def eLc (m vs : List Nat) (fi : Env → R (List D)) (gt : D → Env → Option Env) (c : Env → R Bool) (fe : Env → R T) : Env → R T := fun ρ => (fi ρ).bind fun items ρ1 => match lcD m vs gt c fe items 0 (wipeE ρ1 vs) with
  | .ok xs ρ2 => .ok (.own (.lst xs)) (unw ρ1 vs ρ2)
  | _ => .bad
def cYes : Env → R Bool := fun ρ => .ok true ρ

section
variable {X : Cx} {fm : Fm} {m : List Nat} {W : WX} {σ : L2.St} {τ : List (V × T)} {ρ : Env}
/-- the reading of a comprehension's loop -/
theorem lc_end {items : List D} {fe : Env → R T} {c : Env → R Bool} {gt : D → Env → Option Env} {g : TG} {tt : TT} {te : TE} {vs : List Nat} (hm : PinX X fm m) (hv : ∀ i ∈ vs, i ∉ m)
    (gs : SGd (gX X) m g gt) (gm : Mono g) (gw : Gw vs g)
    (hc : ∀ fm, PinX X fm m → ∀ ρ σ τ F H Q, Good (gX X) fm ρ σ τ F H → (match c ρ with | .ok b ρ' => ∀ F' H', Good (gX X) fm ρ' σ τ F' H' → Q b H' | _ => False) → tt σ H Q)
    (he : ∀ fm, PinX X fm m → ∀ ρ σ τ F H Q, Good (gX X) fm ρ σ τ F H → (match eF m fe ρ with | .ok t ρ' => ∀ v F' H', Good (gX X) fm ρ' σ ((v, t) :: τ) F' H' → Q v H' | _ => False) → te σ H Q)
    {J : It} {ι : List (V × T)} {F1 H1 : Hp} {ρ1 : Env} {Q : VK} (nι : NoAls ι) (g1 : Good (gX X) fm ρ1 σ (ι ++ τ) F1 H1) (fd : ∀ F0, Feeds (gX X) { fm with F0 := F0 } J ι items)
    {xs : List D} {ρ2 : Env} (e : lcD m vs gt c fe items 0 (wipeE ρ1 vs) = .ok xs ρ2) (q : ∀ v F' H', Good (gX X) fm (unw ρ1 vs ρ2) σ ((v, .own (.lst xs)) :: τ) F' H' → Q v H') :
    ∀ D, H1 D = none → ∃ W : Nat → Nat → Hp → Prop, (∃ k, W 0 k (upd H1 D (.lst []))) ∧ ∀ i k H, W i k H →
      (J.stop i H ∧ Q (.ref D) H) ∨ (J.go i H ∧ ∃ Nx : Hp → Prop, (∀ H', Nx H' → ∃ m', m' < k ∧ W (i + 1) m' H') ∧ ∀ x H', J.yld i H x H' → g x (L2.wipe σ vs) H' fun σ2 H2 => L2.wipe σ2 vs = L2.wipe σ vs ∧ tt σ2 H2 fun b H3 =>
        if b = true then te σ2 H3 fun y H4 => ∃ acc, H4 D = some (.lst acc) ∧ acc.length < sizeLine ∧ Nx (upd H4 D (.lst (acc ++ [y]))) else Nx H3) := by
  intro L hL
  have nall : NoAls (ι ++ plain τ) := fun x hx => (List.mem_append.mp hx).elim (nι x) (plain_noAls x)
  have gp : Good (gX X) { fm with F0 := F1 } ρ1 σ (ι ++ plain τ) F1 H1 := (g1.sub (List.Sublist.append_left List.filter_sublist _)).rebase
  have hm1 : PinX X { fm with F0 := F1 } m := ⟨hm.pin, hm.lam⟩
  have gp2 := gp.wipe hm1 nall vs hv
  have g0 : Good (gX X) { fm with F0 := F1 } (wipeE ρ1 vs) (L2.wipe σ vs) ((.ref L, .own (.lst [])) :: (ι ++ plain τ)) F1 (upd H1 L (.lst [])) :=
    gp2.pushOwn (Grow.newOwn g1.FH hL) hL upd_same (none_of_same g1.FH hL) (.lst .nil)
  have nL : ∀ acc, NoAls ((V.ref L, T.own (.lst acc)) :: (ι ++ plain τ)) := fun acc x hx => by
    rcases List.mem_cons.mp hx with rfl | hx
    · rfl
    · exact nall x hx
  refine ⟨fun i k H' => k = items.length - i ∧ i ≤ items.length ∧ ∃ acc ys ρ' F', xs = acc ++ ys ∧ Good (gX X) { fm with F0 := F1 } ρ' (L2.wipe σ vs) ((.ref L, .own (.lst acc)) :: (ι ++ plain τ)) F' H' ∧ lcD m vs gt c fe (items.drop i) acc.length ρ' = .ok ys ρ2,
    ⟨items.length, by simp, Nat.zero_le _, [], xs, _, F1, rfl, g0, by simpa using e⟩, ?_⟩
  rintro i k H' ⟨rfl, hi, acc, ys, ρ', F', ex, g', e'⟩
  -- the iterator's temporaries first
  have swap : ∀ {ρ : Env} {σ : L2.St} {acc : List D} {F H : Hp}, Good (gX X) { fm with F0 := F1 } ρ σ ((.ref L, .own (.lst acc)) :: (ι ++ plain τ)) F H → Good (gX X) { fm with F0 := F1 } ρ σ (ι ++ plain τ) F H := fun g => g.pop
  have fdi := fd F1
  by_cases hlt : i < items.length
  · have e2 : items[i]? = some items[i] := List.getElem?_eq_getElem hlt
    have e3 : items.drop i = items[i] :: items.drop (i + 1) := List.drop_eq_getElem_cons hlt
    rw [e3] at e'
    obtain ⟨go, yl⟩ := (fdi i ρ' _ _ F' H' (swap g')).1 _ e2
    refine .inr ⟨go, fun H2 => i + 1 ≤ items.length ∧ ∃ acc ys ρ' F', xs = acc ++ ys ∧ Good (gX X) { fm with F0 := F1 } ρ' (L2.wipe σ vs) ((.ref L, .own (.lst acc)) :: (ι ++ plain τ)) F' H2 ∧ lcD m vs gt c fe (items.drop (i + 1)) acc.length ρ' = .ok ys ρ2,
      fun H2 ⟨h1, h2⟩ => ⟨items.length - (i + 1), by omega, rfl, h1, h2⟩, fun x H2 hy => ?_⟩
    obtain ⟨F2, gr, rx⟩ := yl x H2 hy
    have e' : (match gt items[i] ρ' with
      | none => R.bad
      | some ρ1 => match c ρ1 with
        | .ok true ρ2 => match eF m fe ρ2 with
          | .ok (.sh x) ρ3 => if acc.length < sizeLine then match lcD m vs gt c fe (items.drop (i + 1)) (acc.length + 1) (wipeE ρ3 vs) with
              | .ok xs ρ4 => .ok (x :: xs) ρ4
              | _ => .bad
            else .bad
          | _ => .bad
        | .ok false ρ2 => lcD m vs gt c fe (items.drop (i + 1)) acc.length (wipeE ρ2 vs)
        | _ => .bad) = .ok ys ρ2 := e'
    cases e4 : gt items[i] ρ' with
    | none => rw [e4] at e'; cases e'
    | some ρ3 =>
      rw [e4] at e'
      dsimp only at e'
      have gx := g'.grow gr
      refine gm x _ H2 _ _ (fun σ3 H3 h => ?_) (gw x _ H2 _ (gs { fm with F0 := F1 } hm1 ρ' _ _ F2 H2 x _ ρ3 (fun σ' H' => ∃ F', Good (gX X) { fm with F0 := F1 } ρ3 σ' ((.ref L, .own (.lst acc)) :: (ι ++ plain τ)) F' H') (nL acc) gx rx e4 fun σ' F' H' g => ⟨F', g⟩))
      obtain ⟨ew, F3, g3⟩ := h
      rw [wipe_wipe] at ew
      refine ⟨ew, ?_⟩
      refine hc { fm with F0 := F1 } hm1 ρ3 σ3 _ F3 H3 _ g3 ?_
      cases e5 : c ρ3 with
      | ex x ρ4 => rw [e5] at e'; cases e'
      | bad => rw [e5] at e'; cases e'
      | ok b ρ4 =>
        rw [e5] at e'
        intro F4 H4 g4
        cases b with
        | false =>
          dsimp only at e'
          rw [if_neg Bool.false_ne_true]
          have g5 := g4.wipe hm1 (nL acc) vs hv
          rw [ew] at g5
          exact ⟨hlt, acc, ys, _, F4, ex, g5, e'⟩
        | true =>
          dsimp only at e'
          rw [if_pos rfl]
          refine he { fm with F0 := F1 } hm1 ρ4 σ3 _ F4 H4 _ g4 ?_
          cases e6 : eF m fe ρ4 with
          | ex x ρ4 => rw [e6] at e'; cases e'
          | bad => rw [e6] at e'; cases e'
          | ok t ρ5 =>
            rw [e6] at e'
            cases t with
            | own ds => cases e'
            | al i => cases e'
            | sh z =>
              dsimp only at e'
              intro y F5 H5 g5
              split at e'
              · rename_i hz
                split at e'
                · rename_i zs ρ6 e7
                  cases e'
                  obtain ⟨p, ws, e8, h1, h2, g6⟩ := g5.appTop
                  cases e8
                  refine ⟨ws, h1, by rw [h2]; exact hz, hlt, acc ++ [z], zs, _, F5, by rw [ex]; simp, ?_, by rw [List.length_append]; exact e7⟩
                  have g7 := g6.wipe hm1 (nL _) vs hv
                  rw [ew] at g7
                  exact g7
                · cases e'
              · cases e'
  · have ei : i = items.length := by omega
    subst ei
    rw [List.drop_length] at e'
    have e' : R.ok [] ρ' = R.ok ys ρ2 := e'
    cases e'
    rw [List.append_nil] at ex
    subst ex
    refine .inl ⟨(fdi _ _ _ _ F' H' (swap g')).2 (Nat.le_refl _), q _ F' H' ?_⟩
    have g2 : Good (gX X) { fm with F0 := F1 } _ (L2.wipe σ vs) ([(.ref L, .own (.lst xs))] ++ plain τ) F' H' := g'.sub (List.Sublist.cons_cons _ (List.sublist_append_right _ _))
    have nn : NoAls [(V.ref L, T.own (.lst xs))] := fun x hx => by
      rcases List.mem_cons.mp hx with rfl | hx
      · rfl
      · exact nomatch hx
    exact Good.unwipe hm hv nn (g1.sub (List.sublist_append_right _ _)) g2
def WF : WX := fun _ _ _ _ => False
theorem blk_post {P : Prop} {r : R T} {Q : VK} {X' : Cx} (hX : gX X' = gX X) (h : match r with | .ok t ρ' => ∀ v F' H', Good (gX X) fm ρ' σ ((v, t) :: τ) F' H' → Q v H' | _ => False) : PostE X' fm WF σ τ r Q := by
  cases r with
  | ok t ρ => intro v F' H' g; rw [hX] at g; exact h v F' H' g
  | ex x ρ => exact h.elim
  | bad => exact h
/-- a comprehension's parts -/
structure LcOk (X : Cx) (m : List Nat) (W : WX) (tg iter elt : Expr) (ifs : List Expr) (scope : Scope) (vs : List Nat) (f : Env → R T) : Prop where
  ok : ∃ (wi : TI) (g : TG) (tt : TT) (te : TE), PI X tg iter wi ∧ (∀ (s : Shared) (H : Hp) (C : Addr) (cl : List (Str × Addr)) (fp : List Addr), PG (X.blk s H scope (compEnvC scope cl C X.env) fp) tg g) ∧
    (∀ (s : Shared) (H : Hp) (C : Addr) (cl : List (Str × Addr)) (fp : List Addr), PTs (X.blk s H scope (compEnvC scope cl C X.env) fp) ifs tt) ∧
    (∀ (s : Shared) (H : Hp) (C : Addr) (cl : List (Str × Addr)) (fp : List Addr), PE (X.blk s H scope (compEnvC scope cl C X.env) fp) elt te) ∧
    ∀ fm, PinX X fm m → ∀ ρ σ τ F H Q, Good (gX X) fm ρ σ τ F H → PostE X fm W σ τ (f ρ) Q → tLc wi g tt te vs σ H Q
theorem lc_all {elt tg iter : Expr} {ifs : List Expr} {scope : Scope} {fi : Env → R (List D)} {fe : Env → R T} {fc : Env → R Bool} {gt : D → Env → Option Env} {g : TG} {tt : TT} {vs : List Nat}
    (hi : SI X m W tg iter fi) (hg : ∀ (s : Shared) (H : Hp) (C : Addr) (cl : List (Str × Addr)) (fp : List Addr), PG (X.blk s H scope (compEnvC scope cl C X.env) fp) tg g)
    (gs : SGd (gX X) m g gt) (gm : Mono g) (gw : Gw vs g)
    (ht : ∀ (s : Shared) (H : Hp) (C : Addr) (cl : List (Str × Addr)) (fp : List Addr), PTs (X.blk s H scope (compEnvC scope cl C X.env) fp) ifs tt)
    (hc : ∀ fm, PinX X fm m → ∀ ρ σ τ F H Q, Good (gX X) fm ρ σ τ F H → (match fc ρ with | .ok b ρ' => ∀ F' H', Good (gX X) fm ρ' σ τ F' H' → Q b H' | _ => False) → tt σ H Q)
    (he : ∀ (s : Shared) (H : Hp) (C : Addr) (cl : List (Str × Addr)) (fp : List Addr), SE (X.blk s H scope (compEnvC scope cl C X.env) fp) m WF elt fe) (hv : ∀ i ∈ vs, i ∉ m) :
    LcOk X m W tg iter elt ifs scope vs (eLc m vs fi gt fc fe) := by
  obtain ⟨wi, pi, r⟩ := hi
  refine ⟨wi, g, tt, fun σ H Q => ∀ s H0 C cl fp, tE (X.blk s H0 scope (compEnvC scope cl C X.env) fp) elt σ H Q, pi, hg, ht, fun s H C cl fp => ⟨fun pins s' σ' H' Q' I h => h s H C cl fp pins s' I⟩, fun fm hm ρ σ τ F H Q gd q => ?_⟩
  refine r fm hm ρ σ τ F H _ gd ?_
  unfold eLc at q
  cases e1 : fi ρ with
  | ex x ρ1 => rw [e1] at q; exact q
  | bad => rw [e1] at q; exact q
  | ok items ρ1 =>
    rw [e1] at q
    intro J ι F1 H1 nι g1 fd
    have q : PostE X fm W σ τ (match lcD m vs gt fc fe items 0 (wipeE ρ1 vs) with
      | .ok xs ρ2 => R.ok (.own (.lst xs)) (unw ρ1 vs ρ2)
      | _ => .bad) Q := q
    split at q
    · rename_i xs ρ2 e2
      exact lc_end hm hv gs gm gw hc (fun fm hm ρ σ τ F H Q g h s H0 C cl fp => by
        refine se_f (he s H0 C cl fp) fm hm ρ σ τ F H Q g ?_
        exact blk_post (P := True) (X := X) rfl h) nι g1 fd e2 q
    · exact q.elim
/-- without a test -/
theorem lc0 {elt tg iter : Expr} {scope : Scope} {fi : Env → R (List D)} {fe : Env → R T} {gt : D → Env → Option Env} {g : TG} (vs : List Nat)
    (hi : SI X m W tg iter fi) (hg : ∀ (s : Shared) (H : Hp) (C : Addr) (cl : List (Str × Addr)) (fp : List Addr), PG (X.blk s H scope (compEnvC scope cl C X.env) fp) tg g)
    (gs : SGd (gX X) m g gt) (gm : Mono g) (gw : Gw vs g)
    (he : ∀ (s : Shared) (H : Hp) (C : Addr) (cl : List (Str × Addr)) (fp : List Addr), SE (X.blk s H scope (compEnvC scope cl C X.env) fp) m WF elt fe) (hv : ∀ i ∈ vs, i ∉ m := by decide) :
    LcOk X m W tg iter elt [] scope vs (eLc m vs fi gt cYes fe) :=
  lc_all (tt := tYes) hi hg gs gm gw (fun _ _ _ _ _ => pts_nil) (fun fm hm ρ σ τ F H Q g h => (show ∀ F' H', Good (gX X) fm ρ σ τ F' H' → Q true H' from h) F H g) he hv
/-- with one test -/
theorem lc1 {elt tg iter c : Expr} {scope : Scope} {fi : Env → R (List D)} {fe : Env → R T} {fc : Env → R Bool} {gt : D → Env → Option Env} {g : TG} (vs : List Nat)
    (hi : SI X m W tg iter fi) (hg : ∀ (s : Shared) (H : Hp) (C : Addr) (cl : List (Str × Addr)) (fp : List Addr), PG (X.blk s H scope (compEnvC scope cl C X.env) fp) tg g)
    (gs : SGd (gX X) m g gt) (gm : Mono g) (gw : Gw vs g)
    (hc : ∀ (s : Shared) (H : Hp) (C : Addr) (cl : List (Str × Addr)) (fp : List Addr), ST (X.blk s H scope (compEnvC scope cl C X.env) fp) m WF c fc)
    (he : ∀ (s : Shared) (H : Hp) (C : Addr) (cl : List (Str × Addr)) (fp : List Addr), SE (X.blk s H scope (compEnvC scope cl C X.env) fp) m WF elt fe) (hv : ∀ i ∈ vs, i ∉ m := by decide) :
    LcOk X m W tg iter elt [c] scope vs (eLc m vs fi gt fc fe) :=
  lc_all (tt := fun σ H Q => ∀ s H0 C cl fp, tT (X.blk s H0 scope (compEnvC scope cl C X.env) fp) c σ H Q) hi hg gs gm gw (fun s H C cl fp => pts_one ⟨fun pins s' σ' H' Q' I h => h s H C cl fp pins s' I⟩)
    (fun fm hm ρ σ τ F H Q g h s H0 C cl fp => by
      refine hc s H0 C cl fp fm hm ρ σ τ F H Q g ?_
      cases e3 : fc ρ with
      | ok b ρ' => rw [e3] at h; exact h
      | ex x ρ' => rw [e3] at h; exact h.elim
      | bad => rw [e3] at h; exact h) he hv
theorem se_lc (cx : Cok X) {elt tg iter : Expr} {ifs : List Expr} {scope : Scope} {own : List (Str × Nat)} {pos : Pos} {f : Env → R T} {vs : List Nat} (L : LcOk X m W tg iter elt ifs scope vs f) (ok : BlkOk X.N X.env.scope scope own) (hov : own.map (·.2) = vs := by rfl)
    (hs : ∀ x, foldedSetIterable iter X.env x = pure x := by intro _; rfl) : SE X m W (.ListComp elt [⟨tg, iter, ifs, 0⟩] scope pos) f := fun fm hm ρ σ τ F H Q gd q => by
  obtain ⟨wi, g, tt, te, h1, h2, h3, h4, h5⟩ := L.ok
  subst hov
  exact tE_of (pe_lc cx.calm cx.nd h1 ok h2 h3 h4 hs) (h5 fm hm ρ σ τ F H Q gd q)
theorem ss_setLc (cx : Cok X) (i : Nat) {y : Str} {py : Pos} {elt tg iter : Expr} {ifs : List Expr} {scope : Scope} {own : List (Str × Nat)} {pos spos : Pos} {f : Env → R T} {vs : List Nat} (L : LcOk X m W tg iter elt ifs scope vs f) (ok : BlkOk X.N X.env.scope scope own)
    (hsw : swapsWith (.ListComp elt [⟨tg, iter, ifs, 0⟩] scope pos) (some (.Name y py)) spos.line X.env = pure true) (hi : i ∉ m := by decide) (hN : X.N[i]? = some y := by rfl) (hy : X.env.scope.names.lookup y = some .local := by rfl) (hov : own.map (·.2) = vs := by rfl)
    (hs : ∀ x, foldedSetIterable iter X.env x = pure x := by intro _; rfl) : SS X m W (.Assign [.Name y py] (.ListComp elt [⟨tg, iter, ifs, 0⟩] scope pos) spos) (sSet m i f) := fun fm hm ρ σ τ F H D na gd q => by
  obtain ⟨wi, g, tt, te, h1, h2, h3, h4, h5⟩ := L.ok
  subst hov
  refine tS_of (ps_setLc cx.calm cx.nd hN hy hsw h1 ok h2 h3 h4 hs) ?_
  refine h5 fm hm ρ σ τ F H (fun x H1 => D.nx (σ.set i (some x)) H1) gd ?_
  unfold sSet at q
  cases e : f ρ with
  | ok t ρ1 =>
    rw [e] at q
    exact fun v F' H' g' => put_end hm hi na g' q
  | ex x ρ1 => rw [e] at q; exact q σ
  | bad => rw [e] at q; exact q
end
end Pf

namespace Pf
open PySem PySem.Spec L2
open PyProof.Rows (envOfC)

/-! ### room, and no guard around -/
structure Rm (k : Nat) (A : Around) : Prop where
  r : Room k A
  g : A.guards = some []
theorem Rm.mono {j k : Nat} {A : Around} (h : Rm k A) (l : j ≤ k) : Rm j A := ⟨h.r.mono l, h.g⟩
theorem Rm.deeper {k : Nat} {A : Around} (h : Rm (k + 1) A) (e : PySem.Env) : Rm k (A.deeper e) := ⟨h.r.deeper e, h.g⟩

/-- a def keeps its promise where no guard is around -/
structure FnG (P : Program) (w : World) (K : PySem.W.Frag) (mg : Str → Option Value) (base : Heap) (k : Nat) (f : Addr) (fd : FuncData) (ps : List Str) (sp : Sp) : Prop where
  len : ∀ vs H Q E, sp vs H Q E → vs.length = ps.length
  run : ∀ (A : Around) (outer : List PySem.Env) (s : Shared) (H : Hp) (args : Args) (us : List Value) (vs : List V) (Q : VK) (E : XK), Rm k A → Env0 P w K mg base A outer s H → BindsTo s fd args (ps.zip us) → Vals vs us → sp vs H Q E →
    codeAny (model P w) A (.call (.ref f) args) (CR (L2.CX P w) outer P w H s Q E) s
/-- a def of the text by its name -/
structure CallD (P : Program) (w : World) (K : PySem.W.Frag) (mg : Str → Option Value) (base : Heap) (x qual : Str) (st : Stmt) (ps : List Str) (k : Nat) (sp : Sp) (f : Addr) (fd : FuncData) : Prop where
  nm : mg x = some (.ref f)
  fn : L2.Fun K x qual st f fd
  bd : Binds K fd ps []
  ok : FnG P w K mg base k f fd ps sp
def Callee (P : Program) (w : World) (K : PySem.W.Frag) (mg : Str → Option Value) (base : Heap) (x qual : Str) (st : Stmt) (ps : List Str) (k : Nat) (sp : Sp) : Prop := ∃ f fd, CallD P w K mg base x qual st ps k sp f fd
abbrev CalleeX (X : Cx) (x qual : Str) (st : Stmt) (ps : List Str) (k : Nat) (sp : Sp) : Prop := Callee X.prog X.w X.K X.mg X.base x qual st ps k sp

section
variable {X : Cx} {pins : List (Addr × Obj)} {σ : L2.St} {H : Hp} {s : Shared} {W : WX}
/-- the def at f called with values and keywords, as they bind -/
theorem run_g {k : Nat} {f : Addr} {fd : FuncData} {ps : List Str} {sp : Sp} {Q : VK} {args : Args} {us : List Value} {vs : List V} (F : FnG X.prog X.w X.K X.mg X.base k f fd ps sp) (hr : Rm k X.A) (tk : Takes X W)
    (I : Inv X pins σ H s) (hb : BindsTo s fd args (ps.zip us)) (r : Vals vs us) (h : sp vs H Q (WE W σ)) : wpAny (model X.prog X.w) X.A (call (.ref f) args.pos args.kw) (EP X pins σ Q) X.xe s := by
  have q := F.run X.A X.stack s H args us vs Q (WE W σ) hr I.env0 hb r h
  refine wpAny_call (codeAny_mono q ?_)
  intro res s' hq
  match res, hq with
  | .error e, hq => exact passAt tk σ pins H s e s' I hq
  | .ok (.ret u), hq => exact I.after hq
  | .ok .next, hq => exact hq.elim
  | .ok .brk, hq => exact hq.elim
  | .ok .cont, hq => exact hq.elim
/-- by place -/
def tG (sp : Sp) (W : WX) (t : TA) : TE := fun σ H Q => t σ H fun vs H1 => sp vs H1 Q (WE W σ)
theorem pe_g {k : Nat} {f : Addr} {fd : FuncData} {ps : List Str} {sp : Sp} {x qual : Str} {st : Stmt} {p pos : Pos} {e : Expr} {es : List Expr} {t : TA} (C : CallD X.prog X.w X.K X.mg X.base x qual st ps k sp f fd) (hr : Rm k X.A) (tk : Takes X W) (hg : Gl X x) (ha : PA X (e :: es) t)
    (hdb : (x == ("__debug__" : Str)) = false) (he : starEach (e :: es) X.env = (false, eval e X.env) :: starEach es X.env) (hpl : (backTo pos (starEach es X.env)).any (·.1) = false) :
    PE X (.Call (.Name x p) (e :: es) [] pos) (tG sp W t) := ⟨fun pins s σ H Q I h => by
  refine wpAny_Call_Name_kw (ld_glob I hg C.nm ?_ hdb)
  refine PySem.W.callWith_K (h₀ := X.base) I.ok.mod.kin C.fn.kp (thn (ha.run pos pins s σ H _ I h) ?_) he hpl
  rintro us s1 ⟨vs, H1, I1, r, q⟩
  refine ⟨I1.kIn, run_g (args := ⟨us, []⟩) C.ok hr tk I1 ?_ r q⟩
  have b := C.bd s1 us I1.kIn (by rw [List.append_nil, ← r.length]; exact C.ok.len _ _ _ _ q)
  rw [List.append_nil] at b
  exact b⟩
theorem pe_g0 {k : Nat} {f : Addr} {fd : FuncData} {ps : List Str} {sp : Sp} {x qual : Str} {st : Stmt} {p pos : Pos} (C : CallD X.prog X.w X.K X.mg X.base x qual st ps k sp f fd) (hr : Rm k X.A) (tk : Takes X W) (hg : Gl X x)
    (hdb : (x == ("__debug__" : Str)) = false) : PE X (.Call (.Name x p) [] [] pos) (tG sp W tNil) := ⟨fun pins s σ H Q I h => by
  refine wpAny_Call_Name_kw (ld_glob I hg C.nm ?_ hdb)
  refine PySem.W.callWith_K0 I.kIn C.fn.kp (run_g (args := ⟨[], []⟩) (us := []) (vs := []) C.ok hr tk I ?_ .nil h)
  have b := C.bd s [] I.kIn (by have := C.ok.len _ _ _ _ h; simpa using this)
  exact b⟩
/-- by place and by name: the positional values, then the keywords' -/
def tGK (sp : Sp) (g : List V → List V → List V) (W : WX) (t tk : TA) : TE := fun σ H Q => t σ H fun vs H1 => tk σ H1 fun zs H2 => sp (g vs zs) H2 Q (WE W σ)
theorem pe_gk {k : Nat} {f : Addr} {fd : FuncData} {ps ks : List Str} {sp : Sp} {x qual : Str} {st : Stmt} {p pos : Pos} {e : Expr} {es : List Expr} {kws : List Keyword} {t t2 : TA} {g : List Value → List Value → List Value} {gV : List V → List V → List V}
    (C : CallD X.prog X.w X.K X.mg X.base x qual st ps k sp f fd) (hr : Rm k X.A) (tk : Takes X W) (hg : Gl X x) (hb : KBinds X.K fd ps ks g gV) (ha : PA X (e :: es) t) (hkw : PK X kws t2)
    (hall : (backToKw pos (keywordEach kws X.env)).all (·.1.isSome) = true) (hks : (backToKw pos (keywordEach kws X.env)).filterMap (·.1) = ks)
    (hdb : (x == ("__debug__" : Str)) = false) (he : starEach (e :: es) X.env = (false, eval e X.env) :: starEach es X.env)
    (hpl : ((backTo pos (starEach (e :: es) X.env)).any (·.1) || (backToKw pos (keywordEach kws X.env)).any (·.1.isNone)) = false) :
    PE X (.Call (.Name x p) (e :: es) kws pos) (tGK sp gV W t t2) := ⟨fun pins s σ H Q I h => by
  refine wpAny_Call_Name_kw (ld_glob I hg C.nm ?_ hdb)
  refine PySem.W.callWith_KW (h₀ := X.base) I.ok.mod.kin C.fn.kp hall (thn (ha.run pos pins s σ H _ I h) ?_) hpl he
  rintro us s1 ⟨vs, H1, I1, r, q⟩
  refine thn (hkw.run pos pins s1 σ H1 _ I1 q) ?_
  rintro ws s2 ⟨zs, H2, I2, rz, q2⟩
  refine ⟨I2.kIn, ?_⟩
  rw [hks]
  have r2 := hb.rel r rz
  exact run_g (args := ⟨us, ks.zip ws⟩) C.ok hr tk I2 (hb.to s2 us ws I2.kIn (by rw [← r2.length]; exact C.ok.len _ _ _ _ q2)) r2 q2⟩
/-- by name alone -/
theorem pe_gk0 {k : Nat} {f : Addr} {fd : FuncData} {ps ks : List Str} {sp : Sp} {x qual : Str} {st : Stmt} {p pos : Pos} {kws : List Keyword} {t2 : TA} {g : List Value → List Value → List Value} {gV : List V → List V → List V}
    (C : CallD X.prog X.w X.K X.mg X.base x qual st ps k sp f fd) (hr : Rm k X.A) (tk : Takes X W) (hg : Gl X x) (hb : KBinds X.K fd ps ks g gV) (hkw : PK X kws t2)
    (hall : (backToKw pos (keywordEach kws X.env)).all (·.1.isSome) = true) (hks : (backToKw pos (keywordEach kws X.env)).filterMap (·.1) = ks)
    (hdb : (x == ("__debug__" : Str)) = false) (hpl : (backToKw pos (keywordEach kws X.env)).any (·.1.isNone) = false) :
    PE X (.Call (.Name x p) [] kws pos) (tGK sp gV W tNil t2) := ⟨fun pins s σ H Q I h => by
  refine wpAny_Call_Name_kw (ld_glob I hg C.nm ?_ hdb)
  refine PySem.W.callWith_KW0 (h₀ := X.base) I.ok.mod.kin C.fn.kp hall (thn (hkw.run pos pins s σ H _ I h) ?_) hpl
  rintro ws s2 ⟨zs, H2, I2, rz, q2⟩
  refine ⟨I2.kIn, ?_⟩
  rw [hks]
  have r2 := hb.rel (vs := []) (us := []) .nil rz
  exact run_g (args := ⟨[], ks.zip ws⟩) C.ok hr tk I2 (hb.to s2 [] ws I2.kIn (by rw [← r2.length]; exact C.ok.len _ _ _ _ q2)) r2 q2⟩
end

/-! ### a def by its body -/
section
variable {P : Program} {w : World} {K : PySem.W.Frag} {mg : Str → Option Value} {base : Heap}
theorem fn_g {x qual : Str} {st : Stmt} {f : Addr} {fd : FuncData} {N ps : List Str} {k : Nat} {sp : Sp} (Fn : L2.Fun K x qual st f fd) (S : FnScope N ps (defScope st)) (len : ∀ vs H Q E, sp vs H Q E → vs.length = ps.length)
    (hbody : ∀ (cdv : Value) (A : Around) (outer : List PySem.Env) (s : Shared) (H : Hp) (vs : List V) (Q : VK) (E : XK), Rm k (A.deeper (envOfC qual (defScope st) s.heap.objs.size f cdv)) → sp vs H Q E →
      ∃ t, PSs (cxOf (L2.CX P w) P w K mg base N qual (defScope st) f cdv A outer s H E) (defBody st) t ∧ t { nx := fun _ H' => Q .non H', rt := Q } (L2.start N vs) H) : FnG P w K mg base (k + 1) f fd ps sp := by
  obtain ⟨oc, od, kV, doc, pm, an, cdv, ct, osl, rfl, lk, hcd⟩ := Fn.ex
  constructor
  · exact len
  intro A outer s H args us vs Q E hr e0 hb r hsp
  have stay : ∀ b o, base.get? b = some o → s.heap.get? b = some o := fun b o e => (e0.bs b o e).1
  have KX : K.In s.heap := e0.mod.kin.keeps stay
  have kinds : ∀ y ∈ ps.zip us, (defScope st).names.lookup y.1 = some .local ∨ ((defScope st).names.lookup y.1 = some .cell ∧ ((cellsFrom (s.heap.objs.size + 1) (defScope st).names []).lookup y.1).isSome = true) := by
    intro y hy
    have hp : y.1 ∈ ps := (List.of_mem_zip (a := y.1) (b := y.2) hy).1
    rcases S.par y.1 hp with q | q
    · exact Or.inl q
    · exact Or.inr ⟨q, PySem.W.cellsFrom_some _ _ _ (Or.inl q)⟩
  refine codeAny_call_function hr.r.depth (KX _ _ lk) rfl S.co S.gen rfl (PySem.W.codeRec_of KX hcd) (hb _ _ _ _ ?_)
  refine wpAny_newFunctionEnv_cells S.kind kinds ?_
  intro env he s1 x
  subst he
  refine ⟨(e0.mod.nolimit.keeps stay).keeps x.toInCall.keep, codeAny_func ?_⟩
  obtain ⟨t, ht, hq⟩ := hbody cdv A outer s H vs Q E (hr.deeper _) hsp
  have I := inv_start (CX := L2.CX P w) (cd := cdv) (qual := qual) (f := f) (A := A) (outer := outer) (E := E) S hr.r.hd e0 (len _ _ _ _ hsp) r x
  have run := ht.run [] s1 (L2.start N vs) H _ I hq
  refine wpAny_mono run ?_ (fun e s' hs => hs)
  intro fl s' hs
  match fl, hs with
  | .ret u, ⟨v, σ', H', J, rv, q⟩ => exact ⟨v, H', J.os, J.bare, J.base, J.hok, rv, q⟩
  | .next, ⟨σ', H', J, q⟩ => exact ⟨V.non, H', J.os, J.bare, J.base, J.hok, rfl, q⟩
  | .brk, ⟨_, _, _, q⟩ => exact q.elim
  | .cont, ⟨_, _, _, q⟩ => exact q.elim
end
end Pf

namespace Pf
open PySem PySem.Spec L2

inductive RP where
  | ok (r : T) | ex (x : Exn) | bad
inductive RM where
  | ok (r : T) (o : O) | ex (x : Exn) (o : O) | bad
/-- behind a call that was lent the thing at p -/
structure GrowM (p : Addr) (F H F' H' : Hp) : Prop where
  FF : Same F F'
  HH : ∀ a o, a ≠ p → H a = some o → H' a = some o
  hid : ∀ a, H a ≠ none → F a = none → F' a = none
  FH : Same F' H'
/-- a def that changes nothing -/
def SpP (G : Cfg) (f : List D → RP) : Sp := fun vs H Q E => ∃ (F : Hp) (ds : List D), Same F H ∧ Reps G F vs ds ∧ match f ds with
  | .ok r => ∀ v F' H', Grow F H F' H' → ResT G H F' H' v r → Q v H'
  | .ex x => ∀ cls d F' H', Grow F H F' H' → RepX G F' x cls d → E cls d H'
  | .bad => False
/-- a def whose first parameter is a thing that it may change -/
def SpM (G : Cfg) (f : O → List D → RM) : Sp := fun vs H Q E => ∃ (F : Hp) (p : Addr) (vs' : List V) (ws : HO) (ds0 : O) (ds : List D), vs = .ref p :: vs' ∧ Same F H ∧ H p = some ws ∧ F p = none ∧ RepO G F ws ds0 ∧ Reps G F vs' ds ∧ match f ds0 ds with
  | .ok r ds1 => ∀ v F' H' ws', GrowM p F H F' H' → H' p = some ws' → RepO G F' ws' ds1 → ResT G H F' H' v r → Q v H'
  | .ex x ds1 => ∀ cls d F' H' ws', GrowM p F H F' H' → H' p = some ws' → RepO G F' ws' ds1 → RepX G F' x cls d → E cls d H'
  | .bad => False

/-! ### denotations of calls and defs -/
def eCall (f : List D → RP) (fs : Env → R (List T)) : Env → R T := fun ρ => (fs ρ).bind fun ts ρ1 => match shs ts with
  | some ds => match f ds with
    | .ok r => .ok r ρ1
    | .ex x => .ex x ρ1
    | .bad => .bad
  | none => .bad
def eCallM (f : O → List D → RM) (fs : Env → R (List T)) : Env → R T := fun ρ => (fs ρ).bind fun ts ρ1 => match ts with
  | .al i :: ts' => match ρ1[i]?, shs ts' with
    | some (some (.own ds0)), some ds => match f ds0 ds with
      | .ok r ds1 => .ok r (ρ1.set i (some (.own ds1)))
      | .ex x ds1 => .ex x (ρ1.set i (some (.own ds1)))
      | .bad => .bad
    | _, _ => .bad
  | _ => .bad
def startE (n : Nat) (ts : List T) : Env := ts.map some ++ List.replicate (n - ts.length) none
def resP : RS → RP
  | .rt (T.sh d) _ => .ok (T.sh d)
  | .rt (T.own o) _ => .ok (T.own o)
  | .nx _ => .ok (T.sh .non)
  | .ex x _ => .ex x
  | _ => .bad
def lent0 (ρ : Env) (k : O → RM) : RM := match ρ[0]? with
  | some (some (T.own ds1)) => k ds1
  | _ => .bad
def resM : RS → RM
  | .rt (T.sh d) ρ => lent0 ρ fun ds1 => .ok (T.sh d) ds1
  | .rt (T.own o) ρ => lent0 ρ fun ds1 => .ok (T.own o) ds1
  | .nx ρ => lent0 ρ fun ds1 => .ok (T.sh .non) ds1
  | .ex x ρ => lent0 ρ fun ds1 => .ex x ds1
  | _ => .bad
def denP (np n : Nat) (g : Env → RS) : List D → RP := fun ds => if ds.length = np then resP (g (startE n (ds.map T.sh))) else .bad
def denM (np n : Nat) (g : Env → RS) : O → List D → RM := fun ds0 ds => if ds.length + 1 = np then resM (g (startE n (T.own ds0 :: ds.map T.sh))) else .bad

section
variable {X : Cx} {fm : Fm} {m : List Nat} {W : WX} {σ : L2.St} {τ : List (V × T)} {ρ : Env}
/-- the thing of the slot i was lent -/
theorem Good.lend {G : Cfg} {F H : Hp} {i : Nat} {ds : O} (g : Good G fm ρ σ τ F H) (e : ρ[i]? = some (some (.own ds))) : ∃ p ws, σ[i]? = some (some (.ref p)) ∧ H p = some ws ∧ F p = none ∧ RepO G F ws ds ∧
    ∀ F' H' ws' ds', GrowM p F H F' H' → H' p = some ws' → RepO G F' ws' ds' → Good G fm (ρ.set i (some (.own ds'))) σ τ F' H' := by
  obtain ⟨A1, A2, s, l, nd, k⟩ := id g.own
  obtain ⟨p, vs, B1, B2, e1, e2, e3, e4, e5, k1, k2, k3, k4⟩ := s.at_own e (List.nodup_append.mp nd).1
  refine ⟨p, vs, e2, e3, e4, e5, fun F' H' ws' ds' gm hp r => ?_⟩
  subst e1
  obtain ⟨nd2, n1, n2⟩ := nd_mid nd
  have hs : ∀ a ∈ B1 ++ p :: B2, F' a = none := fun a ha => by
    obtain ⟨h1, ws, h2⟩ := s.mem a ha
    exact gm.hid a (by rw [h2]; exact fun z => nomatch z) h1
  have hmem : ∀ a ∈ B1 ++ B2, a ∈ B1 ++ p :: B2 := fun a ha => by
    rcases List.mem_append.mp ha with h | h
    · exact List.mem_append_left _ h
    · exact List.mem_append_right _ (List.mem_cons_of_mem _ h)
  refine ⟨gm.FH, g.F0.trans gm.FF, fun a o q n => ?_, fun a h1 h2 => gm.hid a (g.live a h1) (g.hid a h1 h2), fun a h => ?_, g.pin, fun pr hp => ?_, g.lb, g.tab.but e3 e5 (fun a o n q => gm.HH _ _ n q) gm.hid, B1 ++ p :: B2, A2, ?_, ?_, nd, k⟩
  · by_cases ha : a = p
    · subst ha
      rcases k a (List.mem_append_left _ (List.mem_append_right _ (List.mem_cons_self ..))) with z | z
      · rw [z] at q; cases q
      · exact absurd z n
    · exact gm.HH _ _ ha (g.keep _ _ q n)
  · by_cases ha : a = p
    · subst ha; rw [hp]; exact fun z => nomatch z
    · cases q : H a with
      | none => exact absurd q (g.live a h)
      | some o => rw [gm.HH _ _ ha q]; exact fun z => nomatch z
  · rcases g.lent pr hp with ⟨ds2, m2⟩ | m2
    · by_cases hj : i = pr.1
      · refine .inl ⟨ds', ?_⟩
        have hlt : i < ρ.length := (List.getElem?_eq_some_iff.mp e).1
        rw [← hj, List.getElem?_set_self hlt]
      · exact .inl ⟨ds2, by rw [List.getElem?_set_ne hj]; exact m2⟩
    · exact .inr m2
  · refine k2 F' H' gm.FF (fun a ha => ?_) hs ws' ds' hp r
    obtain ⟨_, ws, h2⟩ := s.mem a (hmem a ha)
    rw [h2]
    exact gm.HH _ _ (by rintro rfl; exact n1 ha) h2
  · refine l.mono gm.FF (fun a ha o q => gm.HH _ _ (by rintro rfl; exact n2 ha) q) fun a ha => ?_
    obtain ⟨h1, ws, h2⟩ := l.mem a ha
    exact gm.hid a (by rw [h2]; exact fun z => nomatch z) h1
theorem Good.resM {G : Cfg} {F H F' H' : Hp} {p : Addr} {v : V} {t : T} (g0 : Good G fm ρ σ τ F' H') (gm : GrowM p F H F' H') (hlive : ∀ a, fm.H0 a ≠ none → H a ≠ none) (hτ : True) (r : ResT G H F' H' v t) (hA : ∀ q, H q = none → ∀ ρ0 τ0, Good G fm ρ0 σ τ0 F H → True)
    (gprev : ∃ ρ0, Good G fm ρ0 σ τ F H ∧ ∀ A1, RepS G F' H' σ ρ A1 → ∀ a ∈ A1, H a ≠ none) : Good G fm ρ σ ((v, t) :: τ) F' H' := by
  cases t with
  | sh d => exact g0.pushSh r
  | own ds =>
    obtain ⟨q, vs, rfl, h1, h2, h3, h4⟩ := r
    obtain ⟨ρ0, gp, hS⟩ := gprev
    obtain ⟨A1, A2, s, l, nd, k⟩ := id g0.own
    obtain ⟨P1, P2, ps, pl, pnd, pk⟩ := id gp.own
    have n1 : q ∉ A1 := fun z => hS A1 s q z h1
    have n2 : q ∉ A2 := by
      have key : ∀ {τ : List (V × T)} {A B : List Addr}, RepL G σ F' H' τ A → RepL G σ F H τ B → A = B := by
        intro τ
        induction τ with
        | nil => intro A B a b; cases a; cases b; rfl
        | cons x τ ih =>
          intro A B a b
          cases a with
          | cons ra la =>
            cases b with
            | cons rb lb =>
              rw [ih la lb]
              congr 1
              cases ra with
              | sh _ => cases rb; rfl
              | own _ _ _ => cases rb; rfl
              | al _ => cases rb; rfl
      rw [key l pl]
      intro z
      obtain ⟨_, ws, h⟩ := pl.mem q z
      rw [h1] at h; cases h
    have n0 : fm.H0 q = none := by
      cases e : fm.H0 q with
      | none => rfl
      | some o => exact absurd h1 (hlive q (by rw [e]; exact fun z => nomatch z))
    refine ⟨g0.FH, g0.F0, g0.keep, g0.hid, g0.live, g0.pin, g0.lent, g0.lb, g0.tab, A1, [q] ++ A2, s, .cons (.own h3 h2 h4) l, ?_, fun a ha => ?_⟩
    · rw [List.nodup_append] at nd ⊢
      refine ⟨nd.1, List.nodup_cons.mpr ⟨n2, nd.2.1⟩, fun a ha b hb => ?_⟩
      rcases List.mem_cons.mp hb with rfl | hb
      · exact fun e => n1 (e ▸ ha)
      · exact nd.2.2 a ha b hb
    · rcases List.mem_append.mp ha with ha | ha
      · exact k a (List.mem_append_left _ ha)
      · rcases List.mem_cons.mp ha with rfl | ha
        · exact .inl n0
        · exact k a (List.mem_append_right _ ha)
  | al i => exact r.elim
theorem se_call {x qual : Str} {st : Stmt} {ps : List Str} {k j : Nat} {f : List D → RP} {e : Expr} {es : List Expr} {fs : Env → R (List T)} {p pos : Pos} (C : CalleeX X x qual st ps k (SpP (gX X) f)) (hr : Rm j X.A) (tk : Takes X W) (ha : SA X m W (e :: es) fs) (hk : k ≤ j := by decide) (hg : Gl X x := by rfl)
    (hdb : (x == ("__debug__" : Str)) = false := by decide) (he : starEach (e :: es) X.env = (false, eval e X.env) :: starEach es X.env := by rfl) (hpl : (backTo pos (starEach es X.env)).any (·.1) = false := by rfl) :
    SE X m W (.Call (.Name x p) (e :: es) [] pos) (eCall f fs) := fun fm hm ρ σ τ F H Q g q => by
  obtain ⟨fa, fd, C⟩ := C
  obtain ⟨t, pa, r⟩ := ha
  refine tE_of (pe_g C (hr.mono hk) tk hg pa hdb he hpl) ?_
  refine sa_bind (es := e :: es) hm r g q fun ts ρ1 vs F' H' hl g' q' => ?_
  split at q'
  · rename_i ds e1
    have rs := pushAll_shs hl g' e1
    have g0 := pushAll_pop _ _ _ g'
    refine ⟨F', ds, g'.FH, rs, ?_⟩
    cases e2 : f ds with
    | ok r =>
      rw [e2] at q'
      exact fun v F2 H2 gr rr => q' v F2 H2 (g0.res gr rr)
    | ex x =>
      rw [e2] at q'
      exact fun cls d F2 H2 gr rx => q' cls d F2 H2 (g0.grow gr) rx
    | bad => rw [e2] at q'; exact q'
  · exact q'.elim
theorem se_callM {x qual : Str} {st : Stmt} {ps : List Str} {k j : Nat} {f : O → List D → RM} {e : Expr} {es : List Expr} {fs : Env → R (List T)} {p pos : Pos} (C : CalleeX X x qual st ps k (SpM (gX X) f)) (hr : Rm j X.A) (tk : Takes X W) (ha : SA X m W (e :: es) fs) (hk : k ≤ j := by decide) (hg : Gl X x := by rfl)
    (hdb : (x == ("__debug__" : Str)) = false := by decide) (he : starEach (e :: es) X.env = (false, eval e X.env) :: starEach es X.env := by rfl) (hpl : (backTo pos (starEach es X.env)).any (·.1) = false := by rfl) :
    SE X m W (.Call (.Name x p) (e :: es) [] pos) (eCallM f fs) := fun fm hm ρ σ τ F H Q g q => by
  obtain ⟨fa, fd, C⟩ := C
  obtain ⟨t, pa, r⟩ := ha
  refine tE_of (pe_g C (hr.mono hk) tk hg pa hdb he hpl) ?_
  refine sa_bind (es := e :: es) hm r g q fun ts ρ1 vs F' H' hl g' q' => ?_
  split at q'
  · rename_i i ts'
    split at q'
    · rename_i ds0 ds e1 e2
      cases vs with
      | nil => simp at hl
      | cons v vs =>
        rw [pushAll_cons] at g'
        have hl' : vs.length = ts'.length := by simpa using hl
        have rs := pushAll_shs hl' g' e2
        have g1 := pushAll_pop _ _ _ g'
        have g0 := g1.pop
        obtain ⟨pp, ws, q1, q2, q3, q4, lend⟩ := g0.lend e1
        have hv : v = .ref pp := by
          obtain ⟨_, _, _, l, _, _⟩ := g1.own
          cases l with
          | cons r _ => cases r with | al z => rw [q1] at z; cases z; rfl
        subst hv
        refine ⟨F', pp, vs, ws, ds0, ds, rfl, g'.FH, q2, q3, q4, rs, ?_⟩
        cases e3 : f ds0 ds with
        | ok r ds1 =>
          rw [e3] at q'
          intro v F2 H2 ws' gm hp r1 rr
          have g2 := lend F2 H2 ws' ds1 gm hp r1
          refine q' v F2 H2 (Good.resM g2 gm g0.live trivial rr (fun _ _ _ _ _ => trivial) ⟨ρ1, g0, fun A1 s a ha z => ?_⟩)
          -- addresses of slots stood ahead of the call
          obtain ⟨P1, P2, ps, pl, pnd, pk⟩ := id g0.own
          have key : ∀ {σ : L2.St} {ρ : Env} {A : List Addr} {j : Nat} {B : List Addr}, RepS (gX X) F2 H2 σ (ρ.set j (some (.own ds1))) A → RepS (gX X) F' H' σ ρ B → σ[j]? = some (some (.ref pp)) → ∀ a ∈ A, a = pp ∨ a ∈ B := by
            intro σ
            induction σ with
            | nil => intro ρ A j B h1 h2 h3; cases h2; rw [List.set_nil] at h1; cases h1; exact fun a ha => nomatch ha
            | cons o σ ih =>
              intro ρ A j B h1 h2 h3 a ha
              cases ρ with
              | nil => cases h2
              | cons t ρ =>
                cases j with
                | zero =>
                  rw [List.set_cons_zero] at h1
                  simp at h3
                  subst h3
                  cases h1 with
                  | own a1 a2 a3 s1 =>
                    rcases List.mem_cons.mp ha with rfl | ha
                    · exact .inl rfl
                    · have e : ∀ {σ : L2.St} {ρ : Env} {A B : List Addr}, RepS (gX X) F2 H2 σ ρ A → RepS (gX X) F' H' σ ρ B → A = B := by
                        intro σ
                        induction σ with
                        | nil => intro ρ A B h1 h2; cases h1; cases h2; rfl
                        | cons o σ ih =>
                          intro ρ A B h1 h2
                          cases h1 with
                          | skip h1 => cases h2 with | skip h2 => exact ih h1 h2
                          | sh _ h1 => cases h2 with | sh _ h2 => exact ih h1 h2
                          | own _ _ _ h1 => cases h2 with | own _ _ _ h2 => rw [ih h1 h2]
                      cases h2 with
                      | skip h2 => rw [← e s1 h2]; exact .inr ha
                      | sh _ h2 => rw [← e s1 h2]; exact .inr ha
                      | own _ _ _ h2 => rw [← e s1 h2]; exact .inr (List.mem_cons_of_mem _ ha)
                | succ j =>
                  rw [List.set_cons_succ] at h1
                  have h3 : σ[j]? = some (some (.ref pp)) := by simpa using h3
                  cases h1 with
                  | skip h1 => cases h2 with | skip h2 => exact ih h1 h2 h3 a ha
                  | sh _ h1 => cases h2 with | sh _ h2 => exact ih h1 h2 h3 a ha
                  | own _ _ _ h1 =>
                    cases h2 with
                    | own _ _ _ h2 =>
                      rcases List.mem_cons.mp ha with rfl | ha
                      · exact .inr (List.mem_cons_self ..)
                      · rcases ih h1 h2 h3 a ha with z | z
                        · exact .inl z
                        · exact .inr (List.mem_cons_of_mem _ z)
          rcases key s ps q1 a ha with h | h
          · rw [h, q2] at z; cases z
          · obtain ⟨_, ws, h⟩ := ps.mem a h
            rw [h] at z; cases z
        | ex x ds1 =>
          rw [e3] at q'
          exact fun cls d F2 H2 ws' gm hp r1 rx => q' cls d F2 H2 (lend F2 H2 ws' ds1 gm hp r1) rx
        | bad => rw [e3] at q'; exact q'
    · exact q'.elim
  · exact q'.elim
end
end Pf

namespace Pf
open PySem PySem.Spec L2
open PyProof.Rows (envOfC)

section
variable {G : Cfg} {F H F' H' : Hp} {fm : Fm} {ρ : Env} {σ : L2.St} {τ : List (V × T)}
theorem RepS.blank : ∀ (k : Nat), RepS G F H (List.replicate k none) (List.replicate k none) []
  | 0 => .nil
  | k + 1 => .skip (RepS.blank k)
theorem RepS.start : ∀ {vs : List V} {ds : List D} (k : Nat), Reps G F vs ds → RepS G F H (vs.map some ++ List.replicate k none) ((ds.map T.sh).map some ++ List.replicate k none) []
  | _, _, k, .nil => RepS.blank k
  | _, _, k, .cons r t => .sh r (RepS.start k t)
theorem Good.growOf (g : Good G ⟨F, H, [], [], []⟩ ρ σ τ F' H') : Grow F H F' H' := ⟨g.F0, fun a o e => g.keep a o e (fun z => nomatch z), g.hid, g.FH⟩
theorem Good.growMOf {p : Addr} {m : List (Nat × V)} (g : Good G ⟨F, H, [p], m, []⟩ ρ σ τ F' H') : GrowM p F H F' H' := ⟨g.F0, fun a o n e => g.keep a o e (fun z => n (List.mem_singleton.mp z)), g.hid, g.FH⟩
/-- the result behind a call -/
theorem Good.resTop {v : V} {t : T} (g : Good G fm ρ σ ((v, t) :: τ) F' H') (ht : noAl t = true) (hF : fm.F0 = F) : ResT G fm.H0 F' H' v t := by
  cases t with
  | sh d => exact g.topSh
  | al i => cases ht
  | own ds =>
    obtain ⟨A1, A2, s, l, nd, k⟩ := id g.own
    cases l with
    | cons r l =>
      cases r with
      | own h1 h2 h3 =>
        rename_i p vs
        refine ⟨p, vs, rfl, ?_, h2, h1, h3⟩
        rcases k p (List.mem_append_right _ (List.mem_append_left _ (List.mem_cons_self ..))) with z | z
        · exact z
        · obtain ⟨j, ds', m1, m2⟩ := g.lentAt p z
          obtain ⟨v, q1, q2⟩ := s.get m2
          rw [g.pin _ m1] at q1; cases q1
          rcases q2 with ⟨d, z, _⟩ | ⟨q, vs, ds, _, z, _, _, mm⟩
          · cases z
          · cases z
            exact absurd rfl ((List.nodup_append.mp nd).2.2 p mm p (List.mem_append_left _ (List.mem_cons_self ..)))
end
section
variable {P : Program} {w : World} {K : PySem.W.Frag} {mg : Str → Option Value} {base : Heap}
theorem denP_len {np n : Nat} {g : Env → RS} {ds : List D} (h : denP np n g ds ≠ .bad) : ds.length = np := by
  unfold denP at h
  split at h
  · assumption
  · exact absurd rfl h
theorem denM_len {np n : Nat} {g : Env → RS} {ds0 : O} {ds : List D} (h : denM np n g ds0 ds ≠ .bad) : ds.length + 1 = np := by
  unfold denM at h
  split at h
  · assumption
  · exact absurd rfl h
/-- THE RULE for a def that changes nothing of its arguments -/
theorem okP {x qual : Str} {st : Stmt} {f : Addr} {fd : FuncData} {N ps : List Str} {k : Nat} {g : Env → RS} (Fn : L2.Fun K x qual st f fd) (S : FnScope N ps (defScope st))
    (hb : ∀ (cdv : Value) (A : Around) (outer : List PySem.Env) (s : Shared) (H : Hp) (E : XK), Rm k (A.deeper (envOfC qual (defScope st) s.heap.objs.size f cdv)) →
      SSs (cxOf (L2.CX P w) P w K mg base N qual (defScope st) f cdv A outer s H E) [] (fun cls d _ H' => E cls d H') (defBody st) g) : FnG P w K mg base (k + 1) f fd ps (SpP ⟨K, mg⟩ (denP ps.length N.length g)) := by
  have lens : ∀ {vs : List V} {H : Hp} {Q : VK} {E : XK}, SpP ⟨K, mg⟩ (denP ps.length N.length g) vs H Q E → ∃ F ds, vs.length = ds.length ∧ ds.length = ps.length ∧ Same F H ∧ Reps ⟨K, mg⟩ F vs ds ∧ (match denP ps.length N.length g ds with
      | .ok r => ∀ v F' H', Grow F H F' H' → ResT ⟨K, mg⟩ H F' H' v r → Q v H'
      | .ex x => ∀ cls d F' H', Grow F H F' H' → RepX ⟨K, mg⟩ F' x cls d → E cls d H'
      | .bad => False) := fun {vs H Q E} h => by
    obtain ⟨F, ds, h1, h2, h3⟩ := h
    refine ⟨F, ds, h2.length, denP_len (g := g) (n := N.length) ?_, h1, h2, h3⟩
    intro z
    rw [z] at h3
    exact h3
  refine fn_g Fn S (fun vs H Q E h => ?_) (fun cdv A outer s H vs Q E hr h => ?_)
  · obtain ⟨F, ds, e1, e2, _⟩ := lens h
    omega
  · obtain ⟨F, ds, e1, e2, h1, h2, h3⟩ := lens h
    refine ⟨_, pss_tSs, hb cdv A outer s H E hr ⟨F, H, [], [], []⟩ ⟨(fun p hp => nomatch hp), fun z => nomatch z⟩ (startE N.length (ds.map T.sh)) (L2.start N vs) [] F H _ (fun x hx => nomatch hx) ?_ ?_⟩
    · refine ⟨h1, Same.refl _, fun _ _ e _ => e, fun _ _ h => h, fun _ h => h, (fun p hp => nomatch hp), (fun p hp => nomatch hp), (fun p hp => nomatch hp), (fun p hp => nomatch hp), [], [], ?_, .nil, List.nodup_nil, fun a ha => nomatch ha⟩
      have := RepS.start (G := ⟨K, mg⟩) (H := H) (N.length - vs.length) h2
      unfold startE L2.start
      rw [List.length_map, ← e1]
      exact this
    · unfold denP at h3
      rw [if_pos e2] at h3
      cases e : g (startE N.length (ds.map T.sh)) with
      | nx ρ' =>
        rw [e] at h3
        exact fun σ' F' H' gd => h3 .non F' H' gd.growOf .non
      | rt t ρ' =>
        rw [e] at h3
        intro v σ' F' H' gd
        cases t with
        | sh d => exact h3 v F' H' gd.pop.growOf (gd.resTop rfl rfl)
        | own xs => exact h3 v F' H' gd.pop.growOf (gd.resTop rfl rfl)
        | al i => exact h3.elim
      | bk ρ' => rw [e] at h3; exact h3.elim
      | ct ρ' => rw [e] at h3; exact h3.elim
      | bad => rw [e] at h3; exact h3.elim
      | ex x ρ' =>
        rw [e] at h3
        exact fun σ' cls d F' H' gd r => h3 cls d F' H' gd.growOf r
theorem lent0_ok {ρ' : Env} {k : O → RM} {Q : RM → Prop} (h : Q (lent0 ρ' k)) (hb : ¬ Q .bad) : ∃ ds1, ρ'[0]? = some (some (.own ds1)) ∧ Q (k ds1) := by
  unfold lent0 at h
  split at h
  · exact ⟨_, by assumption, h⟩
  · exact absurd h hb
theorem Good.lentEnd {G : Cfg} {F H F' H' : Hp} {p : Addr} {ρ' : Env} {σ' : L2.St} {τ : List (V × T)} {ds1 : O} (g : Good G ⟨F, H, [p], [(0, .ref p)], []⟩ ρ' σ' τ F' H') (e : ρ'[0]? = some (some (.own ds1))) : ∃ ws', H' p = some ws' ∧ RepO G F' ws' ds1 := by
  obtain ⟨A1, A2, s, l, nd, k⟩ := g.own
  obtain ⟨v, q1, q2⟩ := s.get e
  rw [g.pin _ (List.mem_cons_self ..)] at q1; cases q1
  rcases q2 with ⟨d, z, _⟩ | ⟨q, vs, ds, z1, z, h1, h2, mm⟩
  · cases z
  · cases z; cases z1; exact ⟨vs, h1, h2⟩
/-- THE RULE for a def that may change the list that is its first argument -/
theorem okM {x qual : Str} {st : Stmt} {f : Addr} {fd : FuncData} {N ps : List Str} {k : Nat} {g : Env → RS} (Fn : L2.Fun K x qual st f fd) (S : FnScope N ps (defScope st))
    (hb : ∀ (cdv : Value) (A : Around) (outer : List PySem.Env) (s : Shared) (H : Hp) (E : XK), Rm k (A.deeper (envOfC qual (defScope st) s.heap.objs.size f cdv)) →
      SSs (cxOf (L2.CX P w) P w K mg base N qual (defScope st) f cdv A outer s H E) [0] (fun cls d _ H' => E cls d H') (defBody st) g) : FnG P w K mg base (k + 1) f fd ps (SpM ⟨K, mg⟩ (denM ps.length N.length g)) := by
  have lens : ∀ {vs : List V} {H : Hp} {Q : VK} {E : XK}, SpM ⟨K, mg⟩ (denM ps.length N.length g) vs H Q E → ∃ F p vs' ws ds0 ds, vs = .ref p :: vs' ∧ vs'.length = ds.length ∧ ds.length + 1 = ps.length ∧ Same F H ∧ H p = some ws ∧ F p = none ∧ RepO ⟨K, mg⟩ F ws ds0 ∧ Reps ⟨K, mg⟩ F vs' ds ∧ (match denM ps.length N.length g ds0 ds with
      | .ok r ds1 => ∀ v F' H' ws', GrowM p F H F' H' → H' p = some ws' → RepO ⟨K, mg⟩ F' ws' ds1 → ResT ⟨K, mg⟩ H F' H' v r → Q v H'
      | .ex x ds1 => ∀ cls d F' H' ws', GrowM p F H F' H' → H' p = some ws' → RepO ⟨K, mg⟩ F' ws' ds1 → RepX ⟨K, mg⟩ F' x cls d → E cls d H'
      | .bad => False) := fun {vs H Q E} h => by
    obtain ⟨F, p, vs', ws, ds0, ds, e, h1, h2, h3, h4, h5, h6⟩ := h
    refine ⟨F, p, vs', ws, ds0, ds, e, h5.length, denM_len (g := g) (n := N.length) (ds0 := ds0) ?_, h1, h2, h3, h4, h5, h6⟩
    intro z
    rw [z] at h6
    exact h6
  refine fn_g Fn S (fun vs H Q E h => ?_) (fun cdv A outer s H vs Q E hr h => ?_)
  · obtain ⟨F, p, vs', ws, ds0, ds, rfl, e1, e2, _⟩ := lens h
    simp only [List.length_cons]
    omega
  · obtain ⟨F, p, vs', ws, ds0, ds, rfl, e1, e2, h1, h2, h3, h4, h5, h6⟩ := lens h
    refine ⟨_, pss_tSs, hb cdv A outer s H E hr ⟨F, H, [p], [(0, .ref p)], []⟩ ⟨fun q hq => by rw [List.mem_singleton.mp hq]; exact List.mem_cons_self .., fun z => absurd z (by decide)⟩ (startE N.length (T.own ds0 :: ds.map T.sh)) (L2.start N (.ref p :: vs')) [] F H _ (fun x hx => nomatch hx) ?_ ?_⟩
    · refine ⟨h1, Same.refl _, fun _ _ e _ => e, fun _ _ h => h, fun _ h => h, fun q hq => ?_, fun q hq => ?_, fun a ha => ?_, (fun p hp => nomatch hp), [p], [], ?_, .nil, by simp, fun a ha => .inr (by simpa using ha)⟩
      · rw [List.mem_singleton.mp hq]; rfl
      · rw [List.mem_singleton.mp hq]; exact .inl ⟨ds0, rfl⟩
      · rw [List.mem_singleton.mp ha]; exact ⟨0, List.mem_cons_self ..⟩
      · have := RepS.start (G := ⟨K, mg⟩) (H := H) (N.length - (vs'.length + 1)) h5
        unfold startE L2.start
        rw [List.length_cons, List.length_cons, List.length_map, ← e1]
        exact .own h2 h3 h4 this
    · unfold denM at h6
      rw [if_pos e2] at h6
      have hbad : ¬ (match RM.bad with
        | .ok r ds1 => ∀ v F' H' ws', GrowM p F H F' H' → H' p = some ws' → RepO ⟨K, mg⟩ F' ws' ds1 → ResT ⟨K, mg⟩ H F' H' v r → Q v H'
        | .ex x ds1 => ∀ cls d F' H' ws', GrowM p F H F' H' → H' p = some ws' → RepO ⟨K, mg⟩ F' ws' ds1 → RepX ⟨K, mg⟩ F' x cls d → E cls d H'
        | .bad => False) := id
      cases e : g (startE N.length (T.own ds0 :: ds.map T.sh)) with
      | nx ρ' =>
        rw [e] at h6
        obtain ⟨ds1, q1, q2⟩ := lent0_ok (Q := fun r => match r with
          | .ok r ds1 => ∀ v F' H' ws', GrowM p F H F' H' → H' p = some ws' → RepO ⟨K, mg⟩ F' ws' ds1 → ResT ⟨K, mg⟩ H F' H' v r → Q v H'
          | .ex x ds1 => ∀ cls d F' H' ws', GrowM p F H F' H' → H' p = some ws' → RepO ⟨K, mg⟩ F' ws' ds1 → RepX ⟨K, mg⟩ F' x cls d → E cls d H'
          | .bad => False) h6 hbad
        intro σ' F' H' gd
        obtain ⟨ws', w1, w2⟩ := gd.lentEnd q1
        exact q2 .non F' H' ws' gd.growMOf w1 w2 .non
      | rt t ρ' =>
        rw [e] at h6
        intro v σ' F' H' gd
        cases t with
        | sh d =>
          obtain ⟨ds1, q1, q2⟩ := lent0_ok (Q := fun r => match r with
            | .ok r ds1 => ∀ v F' H' ws', GrowM p F H F' H' → H' p = some ws' → RepO ⟨K, mg⟩ F' ws' ds1 → ResT ⟨K, mg⟩ H F' H' v r → Q v H'
            | .ex x ds1 => ∀ cls d F' H' ws', GrowM p F H F' H' → H' p = some ws' → RepO ⟨K, mg⟩ F' ws' ds1 → RepX ⟨K, mg⟩ F' x cls d → E cls d H'
            | .bad => False) h6 hbad
          obtain ⟨ws', w1, w2⟩ := gd.lentEnd q1
          exact q2 v F' H' ws' gd.growMOf w1 w2 (gd.resTop rfl rfl)
        | own xs =>
          obtain ⟨ds1, q1, q2⟩ := lent0_ok (Q := fun r => match r with
            | .ok r ds1 => ∀ v F' H' ws', GrowM p F H F' H' → H' p = some ws' → RepO ⟨K, mg⟩ F' ws' ds1 → ResT ⟨K, mg⟩ H F' H' v r → Q v H'
            | .ex x ds1 => ∀ cls d F' H' ws', GrowM p F H F' H' → H' p = some ws' → RepO ⟨K, mg⟩ F' ws' ds1 → RepX ⟨K, mg⟩ F' x cls d → E cls d H'
            | .bad => False) h6 hbad
          obtain ⟨ws', w1, w2⟩ := gd.lentEnd q1
          exact q2 v F' H' ws' gd.growMOf w1 w2 (gd.resTop rfl rfl)
        | al i => exact h6.elim
      | bk ρ' => rw [e] at h6; exact h6.elim
      | ct ρ' => rw [e] at h6; exact h6.elim
      | bad => rw [e] at h6; exact h6.elim
      | ex x ρ' =>
        rw [e] at h6
        obtain ⟨ds1, q1, q2⟩ := lent0_ok (Q := fun r => match r with
          | .ok r ds1 => ∀ v F' H' ws', GrowM p F H F' H' → H' p = some ws' → RepO ⟨K, mg⟩ F' ws' ds1 → ResT ⟨K, mg⟩ H F' H' v r → Q v H'
          | .ex x ds1 => ∀ cls d F' H' ws', GrowM p F H F' H' → H' p = some ws' → RepO ⟨K, mg⟩ F' ws' ds1 → RepX ⟨K, mg⟩ F' x cls d → E cls d H'
          | .bad => False) h6 hbad
        intro σ' cls d F' H' gd r
        obtain ⟨ws', w1, w2⟩ := gd.lentEnd q1
        exact q2 cls d F' H' ws' gd.growMOf w1 w2 r
end
end Pf

namespace Pf
open PySem PySem.Spec L2

/-! ### data as the library has it -/
mutual
def toPy : D → Option PyData
  | .non => some .none
  | .bl b => some (.bool b)
  | .int i => some (.int i)
  | .str s => some (.str s)
  | .lst xs => (toPys xs).map .list
  | .rol xs => (toPys xs).map .list
  | .tup xs => (toPys xs).map .tuple
  | _ => none
def toPys : List D → Option (List PyData)
  | [] => some []
  | d :: ds => match toPy d, toPys ds with
    | some p, some ps => some (p :: ps)
    | _, _ => none
end
section
variable {G : Cfg} {F H : Hp}
mutual
theorem Rep.dp (e : Same F H) : ∀ {d : D} {v : V} {p : PyData}, Rep G F v d → toPy d = some p → Dp G.K H v p
  | .non, _, _, r, q => by cases r; cases q; exact .non
  | .bl b, _, _, r, q => by cases r; cases q; exact .bl b
  | .int i, _, _, r, q => by cases r; cases q; exact .int i
  | .str i, _, _, r, q => by cases r; cases q; exact .str i
  | .lst xs, _, _, r, q => by
    cases r with
    | lst h rs =>
      obtain ⟨ps, e1, e2⟩ := Option.map_eq_some_iff.mp (show (toPys xs).map PyData.list = some _ from q)
      subst e2
      exact .lst (SqL.of (e _ _ h)) (Reps.dp e rs e1)
  | .rol xs, _, _, r, q => by
    cases r with
    | rol h rs =>
      obtain ⟨ps, e1, e2⟩ := Option.map_eq_some_iff.mp (show (toPys xs).map PyData.list = some _ from q)
      subst e2
      exact .lst (sqL_mono e h) (Reps.dp e rs e1)
  | .tup xs, _, _, r, q => by
    cases r with
    | tup h rs =>
      obtain ⟨ps, e1, e2⟩ := Option.map_eq_some_iff.mp (show (toPys xs).map PyData.tuple = some _ from q)
      subst e2
      exact .tup (sqT_mono e h) (Reps.dp e rs e1)
  | .ty n, _, _, _, q => by cases q
  | .dk n, _, _, _, q => by cases q
  | .dt n, _, _, _, q => by cases q
  | .ins _ _, _, _, _, q => by cases q
  | .cls _, _, _, _, q => by cases q
  | .exn _ _, _, _, _, q => by cases q
theorem Reps.dp (e : Same F H) : ∀ {ds : List D} {vs : List V} {ps : List PyData}, Reps G F vs ds → toPys ds = some ps → DpAll G.K H vs ps
  | [], _, _, r, q => by cases r; cases q; exact .nil
  | d :: ds, _, _, r, q => by
    cases r with
    | cons r rs =>
      unfold toPys at q
      split at q
      · rename_i e1 e2
        cases q
        exact .cons (Rep.dp e r e1) (Reps.dp e rs e2)
      · cases q
end
theorem RepV.dp (e : Same F H) {d : D} {v : V} {p : PyData} (r : RepV G F H v d) (q : toPy d = some p) : Dp G.K H v p := by
  rcases r with r | ⟨a, vs, ds, rfl, rfl, h1, h2⟩
  · exact r.dp e q
  · cases h2 with
    | lst h2 =>
      obtain ⟨ps, e1, e2⟩ := Option.map_eq_some_iff.mp (show (toPys _).map PyData.list = some _ from q)
      subst e2
      exact .lst (SqL.of h1) (Reps.dp e h2 e1)
    | ins => cases q
    | dk => cases q
    | dt => cases q
theorem RepV.int {v : V} {i : Int} (r : RepV G F H v (.int i)) : v = .int i := repVs_int r
theorem RepV.str {v : V} {i : Str} (r : RepV G F H v (.str i)) : v = .str i := by
  rcases r with r | ⟨p, vs, ds, _, z, _⟩
  · cases r; rfl
  · cases ds <;> cases z
theorem RepV.bl {v : V} {i : Bool} (r : RepV G F H v (.bl i)) : v = .bl i := by
  rcases r with r | ⟨p, vs, ds, _, z, _⟩
  · cases r; rfl
  · cases ds <;> cases z
theorem RepV.non {v : V} (r : RepV G F H v .non) : v = .non := by
  rcases r with r | ⟨p, vs, ds, _, z, _⟩
  · cases r; rfl
  · cases ds <;> cases z
theorem RepV.ty {v : V} {n : String} (r : RepV G F H v (.ty n)) : v = .ty n := by
  rcases r with r | ⟨p, vs, ds, _, z, _⟩
  · cases r; rfl
  · cases ds <;> cases z
theorem RepV.lst {v : V} {ds : List D} (e : Same F H) (r : RepV G F H v (.lst ds)) : ∃ p vs, v = .ref p ∧ H p = some (.lst vs) ∧ Reps G F vs ds := by
  rcases r with r | ⟨p, vs, ds', h, z, h1, h2⟩
  · cases r with | lst h rs => exact ⟨_, _, rfl, e _ _ h, rs⟩
  · cases h2 <;> cases z; exact ⟨p, _, h, h1, by assumption⟩
theorem RepV.rol {v : V} {ds : List D} (e : Same F H) (r : RepV G F H v (.rol ds)) : ∃ p vs, v = .ref p ∧ SqL G.K H p vs ∧ Reps G F vs ds := by
  rcases r with r | ⟨p, vs, ds', h, z, h1, h2⟩
  · cases r with | rol h rs => exact ⟨_, _, rfl, sqL_mono e h, rs⟩
  · cases ds' <;> cases z
theorem RepV.tup {v : V} {ds : List D} (e : Same F H) (r : RepV G F H v (.tup ds)) : ∃ p vs, v = .ref p ∧ SqT G.K H p vs ∧ Reps G F vs ds ∧ Rep G F v (.tup ds) := by
  rcases r with r | ⟨p, vs, ds', h, z, h1, h2⟩
  · cases r with | tup h rs => exact ⟨_, _, rfl, sqT_mono e h, rs, .tup h rs⟩
  · cases ds' <;> cases z
end

/-! ### what may be either -/
theorem opR_or {X : Cx} {f : Value → Value → Sem Value} {r r' : R2} (h : OpR X f r) (h' : OpR X f r') : OpR X f (fun x y H Q => r x y H Q ∨ r' x y H Q) := by
  intro pins s σ H x y v u Q I rx ry q
  rcases q with q | q
  · exact h pins s σ H x y v u Q I rx ry q
  · exact h' pins s σ H x y v u Q I rx ry q
theorem callR_or {X : Cx} {f : Value} {r r' : List V → Hp → VK → Prop} (h : CallR X f r) (h' : CallR X f r') : CallR X f (fun xs H Q => r xs H Q ∨ r' xs H Q) := by
  intro pins s σ H xs us Q I rs q
  rcases q with q | q
  · exact h pins s σ H xs us Q I rs q
  · exact h' pins s σ H xs us Q I rs q

/-! ### the operators on data -/
def sz (n : Nat) : Bool := decide (n ≤ sizeLine)
def addD : D → D → Option T
  | .int a, .int b => some (.sh (.int (a + b)))
  | .str a, .str b => if sz (a.length + b.length) = true then some (.sh (.str (a ++ b))) else none
  | .lst a, .lst b => if sz (a.length + b.length) = true then some (.own (.lst (a ++ b))) else none
  | .tup (a :: as), .tup (b :: bs) => if sz ((a :: as).length + (b :: bs).length) = true then some (.sh (.tup ((a :: as) ++ (b :: bs)))) else none
  | _, _ => none
def subD : D → D → Option T
  | .int a, .int b => some (.sh (.int (a - b)))
  | _, _ => none
def mulOk (a b : Int) : Bool := decide ((Builtin.Int.intBits a : Int) + (Builtin.Int.intBits b : Int) ≤ 134217728)
def mulD : D → D → Option T
  | .int a, .int b => if mulOk a b = true then some (.sh (.int (a * b))) else none
  | .lst a, .int k => if decide (-(2 ^ 63) ≤ k ∧ k < 2 ^ 63 ∧ a.length * k.toNat ≤ sizeLine) = true then some (.own (.lst (List.replicate k.toNat a).flatten)) else none
  | _, _ => none
def divOk (b : Int) : Bool := decide (b ≠ 0 ∧ b.natAbs < 1073741824) || decide (0 < b ∧ b.natAbs.log2 < 9000)
def fdivD : D → D → Option T
  | .int a, .int b => if divOk b = true then some (.sh (.int (a.fdiv b))) else none
  | _, _ => none
def modD : D → D → Option T
  | .int a, .int b => if b = 0 then none else some (.sh (.int (a.fmod b)))
  | _, _ => none
def powD : D → D → Option T
  | .int a, .int b => if decide (0 ≤ b ∧ b ≤ 1000000 ∧ a.natAbs < 2 ^ 64) = true then some (.sh (.int (a ^ b.toNat))) else none
  | _, _ => none
def negD : D → Option T
  | .int a => some (.sh (.int (-a)))
  | _ => none
def eqD : D → D → Option Bool
  | .str a, .str b => some (decide (a = b))
  | a, b => match toPy a, toPy b with
    | some p, some q => if (SeqAt.shaped p && SeqAt.shaped q) = true then some (PyData.eqv p q) else none
    | _, _ => none
def neD (a b : D) : Option Bool := (eqD a b).map (!·)
def ltD : D → D → Option Bool
  | .int a, .int b => some (decide (a < b))
  | _, _ => none
def leD : D → D → Option Bool
  | .int a, .int b => some (decide (a ≤ b))
  | _, _ => none
def gtD (a b : D) : Option Bool := ltD b a
def geD (a b : D) : Option Bool := leD b a
def isNonD : D → Bool
  | .non => true
  | _ => false
def isD : D → D → Option Bool
  | a, .non => some (isNonD a)
  | .bl a, .bl b => some (decide (a = b))
  | _, _ => none
def isNotD (a b : D) : Option Bool := (isD a b).map (!·)

section
variable {G : Cfg}
theorem res_sh {F H : Hp} {v : V} {d : D} {Q : VK} (f : Same F H) (r : Rep G F v d) (k : ∀ v F' H', Grow F H F' H' → ResT G H F' H' v (.sh d) → Q v H') : Q v H := k v F H (Grow.refl f) r
theorem res_own {F H : Hp} {vs : List V} {ds : List D} {Q : VK} (f : Same F H) (r : Reps G F vs ds) (k : ∀ v F' H', Grow F H F' H' → ResT G H F' H' v (.own (.lst ds)) → Q v H') (p : Addr) (hp : H p = none) : Q (.ref p) (upd H p (.lst vs)) :=
  k _ F _ (Grow.newOwn f hp) ⟨p, _, rfl, hp, none_of_same f hp, upd_same, .lst r⟩
theorem res_tup {F H : Hp} {vs : List V} {ds : List D} {Q : VK} (f : Same F H) (r : Reps G F vs ds) (k : ∀ v F' H', Grow F H F' H' → ResT G H F' H' v (.sh (.tup ds)) → Q v H') (p : Addr) (hp : H p = none) : Q (.ref p) (upd H p (.tup vs)) :=
  k _ _ _ (Grow.new f hp) (.tup (SqT.of upd_same) (r.mono (Grow.new (o := HO.tup vs) f hp).FF))
end
section
variable {X : Cx} {m : List Nat} {W : WX} {a b : Expr} {fa fb : Env → R T} {pos : Pos}
theorem Reps.ne {G : Cfg} {F : Hp} {vs : List V} {d : D} {ds : List D} (r : Reps G F vs (d :: ds)) : vs ≠ [] := by cases r; simp
theorem se_add (ha : SE X m W a fa) (hb : SE X m W b fb) : SE X m W (.BinOp a .Add b pos) (e2 addD fa fb) := by
  refine se_op2 (opR_or op_add (opR_or op_add_str (opR_or op_cat op_catT))) (fun F H x y dx dy t Q f rx ry e k => ?_) ha hb
  unfold addD at e
  split at e
  · cases e
    exact .inl ⟨_, _, rx.int, ry.int, res_sh f .int k⟩
  · split at e
    · rename_i hz
      cases e
      exact .inr (.inl ⟨_, _, rx.str, ry.str, of_decide_eq_true hz, res_sh f .str k⟩)
    · cases e
  · split at e
    · rename_i hz
      cases e
      obtain ⟨p, vs, h1, h2, h3⟩ := rx.lst f
      obtain ⟨q, ws, g1, g2, g3⟩ := ry.lst f
      exact .inr (.inr (.inl ⟨p, q, vs, ws, h1, g1, h2, g2, by rw [h3.length, g3.length]; exact of_decide_eq_true hz, res_own f (h3.append g3) k⟩))
    · cases e
  · split at e
    · rename_i hz
      cases e
      obtain ⟨p, vs, h1, h2, h3, _⟩ := rx.tup f
      obtain ⟨q, ws, g1, g2, g3, _⟩ := ry.tup f
      exact .inr (.inr (.inr ⟨p, q, vs, ws, h1, g1, h2, g2, h3.ne, by rw [h3.length, g3.length]; exact of_decide_eq_true hz, fun z => absurd z g3.ne, fun _ => res_tup f (h3.append g3) k⟩))
    · cases e
  · cases e
theorem se_sub (ha : SE X m W a fa) (hb : SE X m W b fb) : SE X m W (.BinOp a .Sub b pos) (e2 subD fa fb) := by
  refine se_op2 op_sub (fun F H x y dx dy t Q f rx ry e k => ?_) ha hb
  unfold subD at e
  split at e
  · cases e
    exact ⟨_, _, rx.int, ry.int, res_sh f .int k⟩
  · cases e
theorem flatten_reps {G : Cfg} {F : Hp} {vs : List V} {ds : List D} (r : Reps G F vs ds) : ∀ n, Reps G F (List.replicate n vs).flatten (List.replicate n ds).flatten
  | 0 => .nil
  | n + 1 => by
    rw [List.replicate_succ, List.replicate_succ, List.flatten_cons, List.flatten_cons]
    exact r.append (flatten_reps r n)
theorem se_mul (ha : SE X m W a fa) (hb : SE X m W b fb) : SE X m W (.BinOp a .Mult b pos) (e2 mulD fa fb) := by
  refine se_op2 (opR_or op_mulX op_rep) (fun F H x y dx dy t Q f rx ry e k => ?_) ha hb
  unfold mulD at e
  split at e
  · split at e
    · rename_i hz
      cases e
      have hz := of_decide_eq_true hz
      exact .inl ⟨_, _, rx.int, ry.int, hz, res_sh f .int k⟩
    · cases e
  · split at e
    · rename_i hz
      cases e
      obtain ⟨h1, h2, h3⟩ := of_decide_eq_true hz
      obtain ⟨p, vs, q1, q2, q3⟩ := rx.lst f
      exact .inr ⟨p, _, vs, q1, ry.int, q2, h1, h2, by rw [q3.length]; exact h3, fun p hp => res_own f (flatten_reps q3 _) k p hp⟩
    · cases e
  · cases e
theorem se_fdiv (ha : SE X m W a fa) (hb : SE X m W b fb) : SE X m W (.BinOp a .FloorDiv b pos) (e2 fdivD fa fb) := by
  refine se_op2 (opR_or op_fdivN op_fdivW) (fun F H x y dx dy t Q f rx ry e k => ?_) ha hb
  unfold fdivD at e
  split at e
  · rename_i i j
    split at e
    · rename_i hz
      cases e
      rcases Bool.or_eq_true_iff.mp hz with hz | hz
      · have hz := of_decide_eq_true hz
        exact .inl ⟨_, _, rx.int, ry.int, hz, res_sh f .int k⟩
      · have hz := of_decide_eq_true hz
        refine .inr ⟨_, _, rx.int, ry.int, hz, ?_⟩
        show Q (V.int (i / j)) H
        rw [← Int.fdiv_eq_ediv_of_nonneg i (Int.le_of_lt hz.1)]
        exact res_sh f .int k
    · cases e
  · cases e
theorem se_mod (ha : SE X m W a fa) (hb : SE X m W b fb) : SE X m W (.BinOp a .Mod b pos) (e2 modD fa fb) := by
  refine se_op2 op_modN (fun F H x y dx dy t Q f rx ry e k => ?_) ha hb
  unfold modD at e
  split at e
  · split at e
    · cases e
    · rename_i hz
      cases e
      exact ⟨_, _, rx.int, ry.int, hz, res_sh f .int k⟩
  · cases e
theorem se_pow (ha : SE X m W a fa) (hb : SE X m W b fb) : SE X m W (.BinOp a .Pow b pos) (e2 powD fa fb) := by
  refine se_op2 op_pow (fun F H x y dx dy t Q f rx ry e k => ?_) ha hb
  unfold powD at e
  split at e
  · split at e
    · rename_i hz
      cases e
      have hz := of_decide_eq_true hz
      exact ⟨_, _, rx.int, ry.int, hz, res_sh f .int k⟩
    · cases e
  · cases e
theorem se_neg (ha : SE X m W a fa) : SE X m W (.UnaryOp .USub a pos) (e1 negD fa) := by
  refine se_op1 un_neg (fun F H x dx t Q f rx e k => ?_) ha
  unfold negD at e
  split at e
  · cases e
    exact ⟨_, rx.int, res_sh f .int k⟩
  · cases e

/-! ### comparisons -/
theorem asBl_some {g : D → D → Option Bool} {x y : D} {t : T} (e : asBl g x y = some t) : ∃ k, g x y = some k ∧ t = .sh (.bl k) := by
  unfold asBl at e
  obtain ⟨k, e1, e2⟩ := Option.map_eq_some_iff.mp e
  exact ⟨k, e1, e2.symm⟩
theorem eqD_some {G : Cfg} {F H : Hp} {x y : V} {a b : D} {k : Bool} (f : Same F H) (rx : RepV G F H x a) (ry : RepV G F H y b) (e : eqD a b = some k) : (scal x y = true ∧ k = decide (x = y)) ∨ ∃ p q, Dp G.K H x p ∧ Dp G.K H y q ∧ SeqAt.shaped p = true ∧ SeqAt.shaped q = true ∧ k = PyData.eqv p q := by
  unfold eqD at e
  split at e
  · cases e
    rw [rx.str, ry.str]
    refine .inl ⟨rfl, ?_⟩
    rename_i a b
    by_cases h : a = b
    · subst h; simp
    · rw [decide_eq_false h, decide_eq_false (fun z => h (V.str.inj z))]
  · split at e
    · rename_i p q e1 e2
      split at e
      · rename_i hz
        cases e
        obtain ⟨z1, z2⟩ := Bool.and_eq_true_iff.mp hz
        exact .inr ⟨p, q, rx.dp f e1, ry.dp f e2, z1, z2, rfl⟩
      · cases e
    · cases e
theorem o2_eq : Op2 (gX X) (fun x y H Q => rEq x y H Q ∨ rEqD X.K x y H Q) (asBl eqD) := fun F H x y dx dy t Q f rx ry e k => by
  obtain ⟨b, e1, rfl⟩ := asBl_some e
  rcases eqD_some f rx ry e1 with ⟨h, rfl⟩ | ⟨p, q, h1, h2, h3, h4, rfl⟩
  · exact .inl ⟨h, res_sh f .bl k⟩
  · exact .inr ⟨p, q, h1, h2, h3, h4, res_sh f .bl k⟩
theorem o2_ne : Op2 (gX X) (fun x y H Q => rNe x y H Q ∨ rNeD X.K x y H Q) (asBl neD) := fun F H x y dx dy t Q f rx ry e k => by
  obtain ⟨b, e1, rfl⟩ := asBl_some e
  obtain ⟨b', e2, rfl⟩ := Option.map_eq_some_iff.mp e1
  rcases eqD_some f rx ry e2 with ⟨h, rfl⟩ | ⟨p, q, h1, h2, h3, h4, rfl⟩
  · exact .inl ⟨h, res_sh f .bl k⟩
  · exact .inr ⟨p, q, h1, h2, h3, h4, res_sh f .bl k⟩
theorem or_eq {j : Nat} (hr : Room j X.A) : OpR X (compareOp .Eq) (fun x y H Q => rEq x y H Q ∨ rEqD X.K x y H Q) := opR_or op_eq (op_eqD hr.units)
theorem or_ne {j : Nat} (hr : Room j X.A) : OpR X (compareOp .NotEq) (fun x y H Q => rNe x y H Q ∨ rNeD X.K x y H Q) := opR_or op_ne (op_neD hr.units)
theorem o2_lt : Op2 (gX X) (rI0 fun i j => .bl (decide (i < j))) (asBl ltD) := fun F H x y dx dy t Q f rx ry e k => by
  obtain ⟨b, e1, rfl⟩ := asBl_some e
  unfold ltD at e1
  split at e1
  · cases e1; exact ⟨_, _, rx.int, ry.int, res_sh f .bl k⟩
  · cases e1
theorem o2_le : Op2 (gX X) (rI0 fun i j => .bl (decide (i ≤ j))) (asBl leD) := fun F H x y dx dy t Q f rx ry e k => by
  obtain ⟨b, e1, rfl⟩ := asBl_some e
  unfold leD at e1
  split at e1
  · cases e1; exact ⟨_, _, rx.int, ry.int, res_sh f .bl k⟩
  · cases e1
theorem o2_gt : Op2 (gX X) (rI0 fun i j => .bl (decide (j < i))) (asBl gtD) := fun F H x y dx dy t Q f rx ry e k => by
  obtain ⟨b, e1, rfl⟩ := asBl_some e
  unfold gtD ltD at e1
  split at e1
  · cases e1; exact ⟨_, _, rx.int, ry.int, res_sh f .bl k⟩
  · cases e1
theorem o2_ge : Op2 (gX X) (rI0 fun i j => .bl (decide (j ≤ i))) (asBl geD) := fun F H x y dx dy t Q f rx ry e k => by
  obtain ⟨b, e1, rfl⟩ := asBl_some e
  unfold geD leD at e1
  split at e1
  · cases e1; exact ⟨_, _, rx.int, ry.int, res_sh f .bl k⟩
  · cases e1
theorem isNon_of {G : Cfg} {F H : Hp} {x : V} {d : D} (r : RepV G F H x d) : decide (x = .non) = isNonD d := by
  rcases r with r | ⟨p, vs, ds, rfl, rfl, _⟩
  · cases r <;> simp [isNonD]
  · cases ds <;> simp [isNonD, O.d]
theorem o2_is : Op2 (gX X) (fun x y H Q => (y = .non ∧ Q (.bl (decide (x = .non))) H) ∨ rIsB x y H Q) (asBl isD) := fun F H x y dx dy t Q f rx ry e k => by
  obtain ⟨b, e1, rfl⟩ := asBl_some e
  unfold isD at e1
  split at e1
  · cases e1
    rw [isNon_of rx]
    exact .inl ⟨ry.non, res_sh f .bl k⟩
  · cases e1
    exact .inr ⟨_, _, rx.bl, ry.bl, res_sh f .bl k⟩
  · cases e1
theorem or_is : OpR X (compareOp .Is) (fun x y H Q => (y = .non ∧ Q (.bl (decide (x = .non))) H) ∨ rIsB x y H Q) := opR_or op_isN op_isBl
theorem o2_isNot : Op2 (gX X) (fun x y H Q => (y = .non ∧ Q (.bl (!decide (x = .non))) H) ∨ rNotB x y H Q) (asBl isNotD) := fun F H x y dx dy t Q f rx ry e k => by
  obtain ⟨b, e1, rfl⟩ := asBl_some e
  obtain ⟨b', e2, rfl⟩ := Option.map_eq_some_iff.mp e1
  unfold isD at e2
  split at e2
  · cases e2
    rw [isNon_of rx]
    exact .inl ⟨ry.non, res_sh f .bl k⟩
  · cases e2
    exact .inr ⟨_, _, rx.bl, ry.bl, res_sh f .bl k⟩
  · cases e2
theorem or_isNot : OpR X (compareOp .IsNot) (fun x y H Q => (y = .non ∧ Q (.bl (!decide (x = .non))) H) ∨ rNotB x y H Q) := opR_or op_notN op_notBl
end
end Pf

namespace Pf
open PySem PySem.Spec L2

/-! ### built-in calls on data -/
def intsD : List D → Option (List Int)
  | [] => some []
  | .int i :: ds => (intsD ds).map (i :: ·)
  | _ => none
def blsD : List D → Option (List Bool)
  | [] => some []
  | .bl i :: ds => (blsD ds).map (i :: ·)
  | _ => none
section
variable {G : Cfg} {F H : Hp}
theorem Reps.intsD : ∀ {vs : List V} {ds : List D} {ns : List Int}, Reps G F vs ds → Pf.intsD ds = some ns → vs = ns.map V.int
  | _, _, _, .nil, e => by cases e; rfl
  | _, _, _, .cons r t, e => by
    cases r with
    | int =>
      obtain ⟨ns, e1, e2⟩ := Option.map_eq_some_iff.mp e
      subst e2
      rw [Reps.intsD t e1]; rfl
    | _ => cases e
theorem Reps.blsD : ∀ {vs : List V} {ds : List D} {ns : List Bool}, Reps G F vs ds → Pf.blsD ds = some ns → vs = ns.map V.bl
  | _, _, _, .nil, e => by cases e; rfl
  | _, _, _, .cons r t, e => by
    cases r with
    | bl =>
      obtain ⟨ns, e1, e2⟩ := Option.map_eq_some_iff.mp e
      subst e2
      rw [Reps.blsD t e1]; rfl
    | _ => cases e
theorem repVs1 {vs : List V} {d : D} (r : RepVs G F H vs [d]) : ∃ v, vs = [v] ∧ RepV G F H v d := by
  cases r with
  | cons r t => cases t; exact ⟨_, rfl, r⟩
theorem repVs2 {vs : List V} {d e : D} (r : RepVs G F H vs [d, e]) : ∃ v w, vs = [v, w] ∧ RepV G F H v d ∧ RepV G F H w e := by
  cases r with
  | cons r t =>
    cases t with
    | cons r' t => cases t; exact ⟨_, _, rfl, r, r'⟩
end
def lenD : List D → Option T
  | [.lst xs] => some (.sh (.int xs.length))
  | [.rol xs] => some (.sh (.int xs.length))
  | [.tup xs] => some (.sh (.int xs.length))
  | [.str y] => if sz y.length = true then some (.sh (.int y.length)) else none
  | _ => none
def intD : List D → Option T
  | [.int i] => some (.sh (.int i))
  | [.bl b] => some (.sh (.int (if b then 1 else 0)))
  | _ => none
def absD : List D → Option T
  | [.int i] => some (.sh (.int (if i < 0 then -i else i)))
  | _ => none
def boolD : List D → Option T
  | [.int i] => some (.sh (.bl (i != 0)))
  | [.bl b] => some (.sh (.bl b))
  | _ => none
def listOf : D → Option (List D)
  | .lst xs => some xs
  | _ => none
def allD : List D → Option T
  | [.lst xs] => (blsD xs).map fun bs => .sh (.bl (bs.all id))
  | _ => none
def anyD : List D → Option T
  | [.lst xs] => (blsD xs).map fun bs => .sh (.bl (bs.any id))
  | _ => none
def sumD : List D → Option T
  | [.lst xs] => (intsD xs).map fun ns => .sh (.int ns.sum)
  | _ => none
def tupleD : List D → Option T
  | [.lst xs] => some (.sh (.tup xs))
  | [.tup xs] => some (.sh (.tup xs))
  | _ => none
def listD : List D → Option T
  | [.lst xs] => some (.own (.lst xs))
  | [.tup xs] => some (.own (.lst xs))
  | _ => none
def strD : List D → Option T
  | [.int i] => if decide (i.natAbs.log2 < 1920) = true then some (.sh (.str (toString i))) else none
  | _ => none
def max2D : List D → Option T
  | [.int i, .int j] => some (.sh (.int (if j > i then j else i)))
  | _ => none
def min2D : List D → Option T
  | [.int i, .int j] => some (.sh (.int (if j < i then j else i)))
  | _ => none
section
variable {X : Cx}
abbrev rLenX (X : Cx) : List V → Hp → VK → Prop := fun xs H Q => ∃ x n, xs = [x] ∧ LenV X.K x H n ∧ Q (.int n) H
theorem on_len : OpN (gX X) (rLenX X) lenD := fun F H vs ds t Q f r e k => by
  unfold lenD at e
  split at e
  · cases e
    obtain ⟨v, rfl, rv⟩ := repVs1 r
    obtain ⟨p, ws, rfl, h1, h2⟩ := rv.lst f
    refine ⟨_, _, rfl, .inl ⟨ws, SqL.of h1, rfl⟩, ?_⟩
    rw [h2.length]
    exact res_sh f .int k
  · cases e
    obtain ⟨v, rfl, rv⟩ := repVs1 r
    obtain ⟨p, ws, rfl, h1, h2⟩ := rv.rol f
    refine ⟨_, _, rfl, .inl ⟨ws, h1, rfl⟩, ?_⟩
    rw [h2.length]
    exact res_sh f .int k
  · cases e
    obtain ⟨v, rfl, rv⟩ := repVs1 r
    obtain ⟨p, ws, rfl, h1, h2, _⟩ := rv.tup f
    refine ⟨_, _, rfl, .inr ⟨ws, h1, rfl⟩, ?_⟩
    rw [h2.length]
    exact res_sh f .int k
  · split at e
    · rename_i hz
      cases e
      obtain ⟨v, rfl, rv⟩ := repVs1 r
      rw [rv.str]
      exact ⟨_, _, rfl, ⟨of_decide_eq_true hz, rfl⟩, res_sh f .int k⟩
    · cases e
  · cases e
theorem on_int : OpN (gX X) (fun xs H Q => (∃ i, xs = [.int i] ∧ Q (.int i) H) ∨ ∃ k, xs = [.bl k] ∧ Q (.int (if k then 1 else 0)) H) intD := fun F H vs ds t Q f r e k => by
  unfold intD at e
  split at e
  · cases e
    obtain ⟨v, rfl, rv⟩ := repVs1 r
    rw [rv.int]
    exact .inl ⟨_, rfl, res_sh f .int k⟩
  · cases e
    obtain ⟨v, rfl, rv⟩ := repVs1 r
    rw [rv.bl]
    exact .inr ⟨_, rfl, res_sh f .int k⟩
  · cases e
theorem on_bool : OpN (gX X) (fun xs H Q => (∃ i, xs = [.int i] ∧ Q (.bl (i != 0)) H) ∨ ∃ k, xs = [.bl k] ∧ Q (.bl k) H) boolD := fun F H vs ds t Q f r e k => by
  unfold boolD at e
  split at e
  · cases e
    obtain ⟨v, rfl, rv⟩ := repVs1 r
    rw [rv.int]
    exact .inl ⟨_, rfl, res_sh f .bl k⟩
  · cases e
    obtain ⟨v, rfl, rv⟩ := repVs1 r
    rw [rv.bl]
    exact .inr ⟨_, rfl, res_sh f .bl k⟩
  · cases e
theorem on_abs : OpN (gX X) (fun xs H Q => ∃ i, xs = [.int i] ∧ Q (.int (if i < 0 then -i else i)) H) absD := fun F H vs ds t Q f r e k => by
  unfold absD at e
  split at e
  · cases e
    obtain ⟨v, rfl, rv⟩ := repVs1 r
    rw [rv.int]
    exact ⟨_, rfl, res_sh f .int k⟩
  · cases e
theorem on_all : OpN (gX X) (rAll X.K) allD := fun F H vs ds t Q f r e k => by
  unfold allD at e
  split at e
  · obtain ⟨bs, e1, e2⟩ := Option.map_eq_some_iff.mp e
    subst e2
    obtain ⟨v, rfl, rv⟩ := repVs1 r
    obtain ⟨p, ws, rfl, h1, h2⟩ := rv.lst f
    rw [h2.blsD e1] at h1
    exact ⟨p, bs, rfl, SqL.of h1, res_sh f .bl k⟩
  · cases e
theorem on_any : OpN (gX X) (rAny X.K) anyD := fun F H vs ds t Q f r e k => by
  unfold anyD at e
  split at e
  · obtain ⟨bs, e1, e2⟩ := Option.map_eq_some_iff.mp e
    subst e2
    obtain ⟨v, rfl, rv⟩ := repVs1 r
    obtain ⟨p, ws, rfl, h1, h2⟩ := rv.lst f
    rw [h2.blsD e1] at h1
    exact ⟨p, bs, rfl, SqL.of h1, res_sh f .bl k⟩
  · cases e
theorem on_sum : OpN (gX X) (rSum X.K) sumD := fun F H vs ds t Q f r e k => by
  unfold sumD at e
  split at e
  · obtain ⟨bs, e1, e2⟩ := Option.map_eq_some_iff.mp e
    subst e2
    obtain ⟨v, rfl, rv⟩ := repVs1 r
    obtain ⟨p, ws, rfl, h1, h2⟩ := rv.lst f
    rw [h2.intsD e1] at h1
    exact ⟨p, bs, rfl, SqL.of h1, res_sh f .int k⟩
  · cases e
theorem on_tuple : OpN (gX X) (fun xs H Q => ∃ p ys, xs = [.ref p] ∧ ((SqL X.K H p ys ∧ ∀ l, H l = none → Q (.ref l) (upd H l (.tup ys))) ∨ (SqT X.K H p ys ∧ Q (.ref p) H))) tupleD := fun F H vs ds t Q f r e k => by
  unfold tupleD at e
  split at e
  · cases e
    obtain ⟨v, rfl, rv⟩ := repVs1 r
    obtain ⟨p, ws, rfl, h1, h2⟩ := rv.lst f
    exact ⟨p, ws, rfl, .inl ⟨SqL.of h1, res_tup f h2 k⟩⟩
  · cases e
    obtain ⟨v, rfl, rv⟩ := repVs1 r
    obtain ⟨p, ws, rfl, h1, h2, h3⟩ := rv.tup f
    exact ⟨p, ws, rfl, .inr ⟨h1, res_sh f h3 k⟩⟩
  · cases e
theorem on_list : OpN (gX X) (fun xs H Q => ∃ p ys, xs = [.ref p] ∧ (SqL X.K H p ys ∨ SqT X.K H p ys) ∧ ∀ l, H l = none → Q (.ref l) (upd H l (.lst ys))) listD := fun F H vs ds t Q f r e k => by
  unfold listD at e
  split at e
  · cases e
    obtain ⟨v, rfl, rv⟩ := repVs1 r
    obtain ⟨p, ws, rfl, h1, h2⟩ := rv.lst f
    exact ⟨p, ws, rfl, .inl (SqL.of h1), res_own f h2 k⟩
  · cases e
    obtain ⟨v, rfl, rv⟩ := repVs1 r
    obtain ⟨p, ws, rfl, h1, h2, h3⟩ := rv.tup f
    exact ⟨p, ws, rfl, .inr h1, res_own f h2 k⟩
  · cases e
theorem on_str : OpN (gX X) (fun xs H Q => ∃ i, xs = [.int i] ∧ i.natAbs.log2 < 1920 ∧ Q (.str (toString i)) H) strD := fun F H vs ds t Q f r e k => by
  unfold strD at e
  split at e
  · split at e
    · rename_i hz
      cases e
      obtain ⟨v, rfl, rv⟩ := repVs1 r
      rw [rv.int]
      exact ⟨_, rfl, of_decide_eq_true hz, res_sh f .str k⟩
    · cases e
  · cases e
theorem on_max2 : OpN (gX X) (fun xs H Q => ∃ i j, xs = [.int i, .int j] ∧ Q (.int (if j > i then j else i)) H) max2D := fun F H vs ds t Q f r e k => by
  unfold max2D at e
  split at e
  · cases e
    obtain ⟨v, w, rfl, rv, rw'⟩ := repVs2 r
    rw [rv.int, rw'.int]
    exact ⟨_, _, rfl, res_sh f .int k⟩
  · cases e
theorem on_min2 : OpN (gX X) (fun xs H Q => ∃ i j, xs = [.int i, .int j] ∧ Q (.int (if j < i then j else i)) H) min2D := fun F H vs ds t Q f r e k => by
  unfold min2D at e
  split at e
  · cases e
    obtain ⟨v, w, rfl, rv, rw'⟩ := repVs2 r
    rw [rv.int, rw'.int]
    exact ⟨_, _, rfl, res_sh f .int k⟩
  · cases e
end

/-! ### isinstance of built-in classes -/
def tyName : D → Option String
  | .non => some "NoneType"
  | .bl _ => some "bool"
  | .int _ => some "int"
  | .str _ => some "str"
  | .lst _ => some "list"
  | .rol _ => none
  | .tup _ => some "tuple"
  | .dk _ => some "dict"
  | _ => none
def isiTab (a b : String) : Option Bool :=
  if ["NoneType", "bool", "int", "str", "list", "tuple", "dict"].contains a && ["bool", "int", "str", "list", "tuple", "dict"].contains b then some (a == b || (a == "bool" && b == "int")) else none
theorem isiTab_ok {K : PySem.W.Frag} {a b : String} {r : Bool} (h : isiTab a b = some r) : PySem.W.kitOne K (.type a) (.type b) = some r := by
  refine kit_ty ?_
  unfold isiTab at h
  split at h
  · rename_i hc
    obtain ⟨h1, h2⟩ := Bool.and_eq_true_iff.mp hc
    have h := Option.some.inj h
    subst h
    simp only [List.contains_cons, List.contains_nil, Bool.or_false, Bool.or_eq_true, beq_iff_eq] at h1 h2
    rcases h1 with rfl | rfl | rfl | rfl | rfl | rfl | rfl <;> rcases h2 with rfl | rfl | rfl | rfl | rfl | rfl <;> decide +kernel
  · cases h
theorem tyX_of {G : Cfg} {F H : Hp} {v : V} {d : D} {n : String} (f : Same F H) (r : RepV G F H v d) (e : tyName d = some n) : TyX G.K H v (.type n) := by
  rcases r with r | ⟨p, vs, ds, rfl, rfl, h1, h2⟩
  · cases r with
    | non => cases e; exact .base .non
    | bl => cases e; exact .base (.bl _)
    | int => cases e; exact .base (.int _)
    | str => cases e; exact .base (.str _)
    | lst h _ => cases e; exact .base (.lst (f _ _ h))
    | rol h _ => cases e
    | tup h _ =>
      cases e
      rcases h with (h | ⟨o, h⟩) | ⟨o, its, n, h, c, _⟩
      · exact .base (.tup (f _ _ h))
      · exact .fTuple (f _ _ h)
      · exact .kTuple h c
    | dk h _ _ => cases e; exact .base (.dK (f _ _ h))
    | _ => cases e
  · cases h2 with
    | lst h2 => cases e; exact .base (.lst h1)
    | ins => cases e
    | dk => cases e; exact .base (.dK h1)
    | dt => cases e
def isiAny (a : String) : List D → Option Bool
  | [] => some false
  | .ty b :: cs => (isiTab a b).bind fun q => (isiAny a cs).map fun r => q || r
  | _ => none
def isiD : List D → Option T
  | [d, .ty b] => (tyName d).bind fun a => (isiTab a b).map fun k => .sh (.bl k)
  | [d, .tup cs] => (tyName d).bind fun a => (isiAny a cs).map fun k => .sh (.bl k)
  | _ => none
theorem isiAny_ok {G : Cfg} {F : Hp} {a : String} : ∀ {cs : List D} {vs : List V} {k : Bool}, Reps G F vs cs → isiAny a cs = some k → ∃ us, Paired ClsV vs us ∧ PySem.W.kitAny G.K (.type a) us = some k
  | [], _, _, .nil, e => by cases e; exact ⟨[], .nil, kitAny_nil⟩
  | c :: cs, _, k, .cons r t, e => by
    cases r with
    | ty =>
      rename_i vs b
      obtain ⟨q, e1, e⟩ := Option.bind_eq_some_iff.mp (show (isiTab a b).bind (fun q => (isiAny a cs).map fun r => q || r) = some k from e)
      obtain ⟨r, e2, e⟩ := Option.map_eq_some_iff.mp e
      obtain ⟨us, h1, h2⟩ := isiAny_ok t e2
      subst e
      refine ⟨.type b :: us, .cons (.ty b) h1, kitAny_cons (b := q) (isiTab_ok e1) (fun z => ?_) fun z => ?_⟩
      · subst z; rw [h2]; rfl
      · subst z; rfl
    | _ => cases e
end Pf

namespace Pf
open PySem PySem.Spec L2

/-! ### isinstance -/
section
variable {X : Cx} {fm : Fm} {m : List Nat} {W : WX} {σ : L2.St} {τ : List (V × T)} {ρ : Env}
def isi1 : List D → Option T
  | [d, .ty b] => (tyName d).bind fun a => (isiTab a b).map fun k => .sh (.bl k)
  | _ => none
theorem RepV.ty' {G : Cfg} {F H : Hp} {v : V} {n : String} (r : RepV G F H v (.ty n)) : v = .ty n := by
  rcases r with r | ⟨p, vs, ds, _, z, _⟩
  · cases r; rfl
  · cases ds <;> cases z
theorem on_isi : OpN (gX X) (rIsi X.K) isi1 := fun F H vs ds t Q f r e k => by
  unfold isi1 at e
  split at e
  · obtain ⟨a, e1, e⟩ := Option.bind_eq_some_iff.mp e
    obtain ⟨q, e2, e⟩ := Option.map_eq_some_iff.mp e
    subst e
    obtain ⟨v, w, rfl, rv, rw'⟩ := repVs2 r
    rw [rw'.ty']
    exact ⟨_, _, _, _, q, rfl, .ty _, tyX_of f rv e1, isiTab_ok e2, res_sh f .bl k⟩
  · cases e
/-- types by their names -/
def tyAll (X : Cx) (bs : List String) : TA := fun σ H Q => Q (bs.map V.ty) H
theorem pa_tys0 : PA X [] (tyAll X []) := ⟨pa_nil.run⟩
theorem pa_tys {e : Expr} {es : List Expr} {b : String} {bs : List String} (h : PE X e (tC (.ty b))) (hr : PA X es (tyAll X bs)) (hs : starEach (e :: es) X.env = (false, eval e X.env) :: starEach es X.env := by rfl) : PA X (e :: es) (tyAll X (b :: bs)) := ⟨(pa_cons h hr hs).run⟩
def isiAll (a : String) : List String → Option Bool
  | [] => some false
  | b :: bs => (isiTab a b).bind fun q => (isiAll a bs).map fun r => q || r
theorem isiAll_ok {K : PySem.W.Frag} {a : String} : ∀ {bs : List String} {k : Bool}, isiAll a bs = some k → PySem.W.kitAny K (.type a) (bs.map Value.type) = some k
  | [], k, e => by cases e; exact kitAny_nil
  | b :: bs, k, e => by
    obtain ⟨q, e1, e⟩ := Option.bind_eq_some_iff.mp e
    obtain ⟨r, e2, e⟩ := Option.map_eq_some_iff.mp e
    have h2 := isiAll_ok (K := K) e2
    subst e
    exact kitAny_cons (b := q) (isiTab_ok e1) (fun z => by subst z; rw [h2]; rfl) fun z => by subst z; rfl
theorem paired_tys : ∀ (bs : List String), Paired ClsV (bs.map V.ty) (bs.map Value.type)
  | [] => .nil
  | b :: bs => .cons (.ty b) (paired_tys bs)
def eIsiT (bs : List String) (fa : Env → R T) : Env → R T := fun ρ => (fa ρ).bind fun t ρ1 => opt ((view ρ1 t).bind fun d => (tyName d).bind fun a => (isiAll a bs).map fun k => T.sh (.bl k)) ρ1
theorem se_isiT {x : Str} {e : Expr} {es : List Expr} {bs : List String} {fa : Env → R T} {p pos p2 : Pos} {k2} (hx : x = ("isinstance" : Str)) (hmg : X.mg x = none) (ha : SE X m W e fa) (hb : PA X es (tyAll X bs)) (hn9 : bs.length ≤ sizeLine := by decide)
    (hg : Gl X x := by rfl) (hv : bootBuiltins x = some (.builtin "isinstance") := by rfl) (hn : x ≠ "__name__" := by decide) (hdb : (x == ("__debug__" : Str)) = false := by decide)
    (he : starEach [e, .Tuple es k2 p2] X.env = (false, eval e X.env) :: starEach [.Tuple es k2 p2] X.env := by rfl) (he2 : starEach [.Tuple es k2 p2] X.env = (false, eval (.Tuple es k2 p2) X.env) :: starEach [] X.env := by rfl) (hpl : (backTo pos (starEach [.Tuple es k2 p2] X.env)).any (·.1) = false := by rfl) :
    SE X m W (.Call (.Name x p) [e, .Tuple es k2 p2] [] pos) (eIsiT bs fa) := fun fm hm ρ σ τ F H Q g q => by
  refine tE_of (pe_callB call_isiT hg hmg hv (pa_cons pe_tE (pa_cons (pe_tup hb) pa_nil he2) he) hn hdb he hpl) ?_
  refine se_bind hm ha g q fun t ρ1 v F' H' g' q' => ?_
  unfold opt at q'
  split at q'
  · rename_i t' e1
    obtain ⟨d, e2, e1⟩ := Option.bind_eq_some_iff.mp e1
    obtain ⟨a, e3, e1⟩ := Option.bind_eq_some_iff.mp e1
    obtain ⟨k, e4, e1⟩ := Option.map_eq_some_iff.mp e1
    subst e1
    refine ⟨by rw [List.length_map]; exact hn9, fun l hl => ?_⟩
    have gr := Grow.new (o := HO.tup (bs.map V.ty)) g'.FH hl
    have g2 := g'.grow gr
    exact ⟨_, l, _, _, _, k, rfl, upd_same, paired_tys bs, tyX_of g2.FH (g2.view e2) e3, isiAll_ok e4, q' _ _ _ (g2.pop.pushSh .bl)⟩
  · exact q'.elim

/-! ### subscripts, slices -/
theorem Reps.atI {G : Cfg} {F : Hp} {vs : List V} {ds : List D} {i : Int} {d : D} (r : Reps G F vs ds) (e : L2.atI ds i = some d) : ∃ v, L2.atI vs i = some v ∧ Rep G F v d := by
  unfold L2.atI at e ⊢
  rw [← r.length] at e
  obtain ⟨j, e1, e2⟩ := Option.bind_eq_some_iff.mp e
  obtain ⟨v, e3, r'⟩ := r.get e2
  exact ⟨v, by rw [e1]; exact e3, r'⟩
def ixD : D → D → Option T
  | .lst xs, .int i => (L2.atI xs i).map .sh
  | .rol xs, .int i => (L2.atI xs i).map .sh
  | .tup xs, .int i => (L2.atI xs i).map .sh
  | .str z, .int i => if sz z.length = true then (L2.atI z.cps.toList i).map fun c => .sh (.str ⟨#[c]⟩) else none
  | _, _ => none
theorem o2_ix : Op2 (gX X) (rIx X.K) ixD := fun F H x y dx dy t Q f rx ry e k => by
  unfold ixD at e
  split at e
  · obtain ⟨d, e1, e2⟩ := Option.map_eq_some_iff.mp e
    subst e2
    rw [ry.int]
    obtain ⟨p, ws, rfl, h1, h2⟩ := rx.lst f
    obtain ⟨v, e3, r⟩ := h2.atI e1
    exact .inl ⟨_, _, _, _, rfl, rfl, SqL.of h1, e3, res_sh f r k⟩
  · obtain ⟨d, e1, e2⟩ := Option.map_eq_some_iff.mp e
    subst e2
    rw [ry.int]
    obtain ⟨p, ws, rfl, h1, h2⟩ := rx.rol f
    obtain ⟨v, e3, r⟩ := h2.atI e1
    exact .inl ⟨_, _, _, _, rfl, rfl, h1, e3, res_sh f r k⟩
  · obtain ⟨d, e1, e2⟩ := Option.map_eq_some_iff.mp e
    subst e2
    rw [ry.int]
    obtain ⟨p, ws, rfl, h1, h2, _⟩ := rx.tup f
    obtain ⟨v, e3, r⟩ := h2.atI e1
    exact .inr (.inl ⟨_, _, _, _, rfl, rfl, h1, e3, res_sh f r k⟩)
  · split at e
    · rename_i hz
      obtain ⟨d, e1, e2⟩ := Option.map_eq_some_iff.mp e
      subst e2
      rw [ry.int, rx.str]
      exact .inr (.inr ⟨_, _, _, rfl, rfl, of_decide_eq_true hz, e1, res_sh f .str k⟩)
    · cases e
  · cases e
theorem se_sub_ix {a b : Expr} {fa fb : Env → R T} {pos : Pos} (ha : SE X m W a fa) (hb : SE X m W b fb) (hp : PlainIx b := by exact fun _ _ => rfl) : SE X m W (.Subscript a b pos) (e2 ixD fa fb) := se_ix ix_seq o2_ix ha hb hp

/-- a part of a slice -/
def SO (X : Cx) (m : List Nat) (W : WX) (o : Option Expr) (f : Env → R (Option Int)) : Prop := ∃ t, PO X o t ∧ ∀ fm, PinX X fm m → ∀ ρ σ τ F H (Q : Option Int → Hp → Prop), Good (gX X) fm ρ σ τ F H →
  (match f ρ with | .ok o ρ' => ∀ F' H', Good (gX X) fm ρ' σ τ F' H' → Q o H' | .ex x ρ' => PostX X fm W σ τ x ρ' | .bad => False) → t σ H Q
def oNone : Env → R (Option Int) := fun ρ => .ok none ρ
def oSome (fa : Env → R T) : Env → R (Option Int) := fun ρ => (fa ρ).bind fun t ρ1 => match view ρ1 t with
  | some (.int i) => .ok (some i) ρ1
  | _ => .bad
theorem so_none : SO X m W none oNone := ⟨_, po_none, fun fm hm ρ σ τ F H Q g q => q F H g⟩
theorem so_some {e : Expr} {fa : Env → R T} (h : SE X m W e fa) : SO X m W (some e) (oSome fa) := ⟨_, po_some pe_tE, fun fm hm ρ σ τ F H Q g q => by
  refine h fm hm ρ σ τ F H _ g ?_
  have q : (match (fa ρ).bind (fun t ρ1 => match view ρ1 t with
      | some (.int i) => R.ok (some i) ρ1
      | _ => .bad) with | .ok o ρ' => ∀ F' H', Good (gX X) fm ρ' σ τ F' H' → Q o H' | .ex x ρ' => PostX X fm W σ τ x ρ' | .bad => False) := q
  cases e1 : fa ρ with
  | ok t ρ1 =>
    rw [e1] at q
    intro v F' H' g'
    have q : (match (match view ρ1 t with
      | some (.int i) => R.ok (some i) ρ1
      | _ => R.bad) with | .ok o ρ' => ∀ F' H', Good (gX X) fm ρ' σ τ F' H' → Q o H' | .ex x ρ' => PostX X fm W σ τ x ρ' | .bad => False) := q
    split at q
    · rename_i heq
      split at heq
      · rename_i i e2
        cases heq
        have := (g'.view e2).int
        subst this
        exact ⟨i, rfl, q _ _ g'.pop⟩
      · cases heq
    · rename_i heq; split at heq <;> cases heq
    · exact q.elim
  | ex x ρ1 => rw [e1] at q; exact q
  | bad => rw [e1] at q; exact q⟩
def cutD (xs : List D) (lo hi : Option Int) : List D := (xs.drop (HT.sIx xs.length 0 lo)).take (HT.sIx xs.length xs.length hi - HT.sIx xs.length 0 lo)
theorem Reps.cut {G : Cfg} {F : Hp} {vs : List V} {ds : List D} (r : Reps G F vs ds) (lo hi : Option Int) : Reps G F (cutV vs lo hi) (cutD ds lo hi) := by
  unfold cutV cutD
  rw [r.length]
  exact (r.drop _).take _
def slD (d : D) (lo hi : Option Int) : Option T := match d with
  | .lst xs => some (.own (.lst (cutD xs lo hi)))
  | .rol xs => some (.own (.lst (cutD xs lo hi)))
  | .tup xs => if HT.sIx xs.length 0 lo = 0 ∧ HT.sIx xs.length xs.length hi = xs.length then none else some (.sh (.tup (cutD xs lo hi)))
  | .str z => if sz z.length = true then some (.sh (.str (Txt.slice z lo hi))) else none
  | _ => none
abbrev rSlA (K : PySem.W.Frag) : V → Option Int → Option Int → Hp → VK → Prop := fun x lo hi H Q => rSlL K x lo hi H Q ∨ rSlT K x lo hi H Q ∨ C8.rSlX x lo hi H Q
theorem sl_any : SlR X (rSlA X.K) := sl_list.or (sl_tup.or C8.sl_txt)
def eSl (fa : Env → R T) (lo hi : Env → R (Option Int)) : Env → R T := fun ρ => (fa ρ).bind fun t ρ1 => (lo ρ1).bind fun l ρ2 => (hi ρ2).bind fun h ρ3 => opt ((view ρ3 t).bind fun d => slD d l h) ρ3
theorem se_sl {e : Expr} {lo hi : Option Expr} {fa : Env → R T} {fl fh : Env → R (Option Int)} {p2 pos : Pos} (ha : SE X m W e fa) (hl : SO X m W lo fl) (hh : SO X m W hi fh) : SE X m W (.Subscript e (.Slice lo hi none p2) pos) (eSl fa fl fh) := fun fm hm ρ σ τ F H Q g q => by
  obtain ⟨tl, pl, rl⟩ := hl
  obtain ⟨th, ph, rh⟩ := hh
  refine tE_of (pe_slice sl_any pe_tE pl ph) (se_bind hm ha g q fun t ρ1 v F1 H1 g1 q1 => ?_)
  refine rl fm hm ρ1 σ _ F1 H1 _ g1 ?_
  have q1 : PostE X fm W σ τ ((fl ρ1).bind fun l ρ2 => (fh ρ2).bind fun h ρ3 => opt ((view ρ3 t).bind fun d => slD d l h) ρ3) Q := q1
  cases e1 : fl ρ1 with
  | ex x ρ2 => rw [e1] at q1; exact PostX.pop q1
  | bad => rw [e1] at q1; exact q1
  | ok l ρ2 =>
    rw [e1] at q1
    intro F2 H2 g2
    refine rh fm hm ρ2 σ _ F2 H2 _ g2 ?_
    have q1 : PostE X fm W σ τ ((fh ρ2).bind fun h ρ3 => opt ((view ρ3 t).bind fun d => slD d l h) ρ3) Q := q1
    cases e2 : fh ρ2 with
    | ex x ρ3 => rw [e2] at q1; exact PostX.pop q1
    | bad => rw [e2] at q1; exact q1
    | ok h ρ3 =>
      rw [e2] at q1
      intro F3 H3 g3
      have q1 : PostE X fm W σ τ (opt ((view ρ3 t).bind fun d => slD d l h) ρ3) Q := q1
      unfold opt at q1
      split at q1
      · rename_i t' e3
        obtain ⟨d, e4, e5⟩ := Option.bind_eq_some_iff.mp e3
        have rv := g3.view e4
        unfold slD at e5
        split at e5
        · cases e5
          obtain ⟨p, ws, rfl, h1, h2⟩ := rv.lst g3.FH
          exact .inl ⟨_, _, rfl, SqL.of h1, res_own g3.FH (h2.cut l h) fun v F' H' k r => q1 v F' H' (g3.pop.res k r)⟩
        · cases e5
          obtain ⟨p, ws, rfl, h1, h2⟩ := rv.rol g3.FH
          exact .inl ⟨_, _, rfl, h1, res_own g3.FH (h2.cut l h) fun v F' H' k r => q1 v F' H' (g3.pop.res k r)⟩
        · split at e5
          · cases e5
          · rename_i hn
            cases e5
            obtain ⟨p, ws, rfl, h1, h2, _⟩ := rv.tup g3.FH
            exact .inr (.inl ⟨_, _, rfl, h1, by rw [h2.length]; exact hn, res_tup g3.FH (h2.cut l h) fun v F' H' k r => q1 v F' H' (g3.pop.res k r)⟩)
        · split at e5
          · rename_i hz
            cases e5
            rw [rv.str]
            exact .inr (.inr ⟨_, rfl, of_decide_eq_true hz, q1 _ _ _ (g3.pop.pushSh .str)⟩)
          · cases e5
        · cases e5
      · exact q1.elim

/-! ### methods of a slot's own list -/
def OpL (G : Cfg) (r : V → List V → Hp → VK → Prop) (op : List D → List D → Option (D × List D)) : Prop := ∀ F H p ws vs ds0 ds d ds1 Q, Same F H → H p = some (.lst ws) → Reps G F ws ds0 → Reps G F vs ds → op ds0 ds = some (d, ds1) →
  (∀ v vs', Rep G F v d → Reps G F vs' ds1 → Q v (upd H p (.lst vs'))) → r (.ref p) vs H Q
def eBM (i : Nat) (op : List D → List D → Option (D × List D)) (fs : Env → R (List T)) : Env → R T := fun ρ => match ρ[i]? with
  | some (some (.own (.lst _))) => (fs ρ).bind fun ts ρ1 => match ρ1[i]?, shs ts with
    | some (some (.own (.lst ds0))), some ds => match op ds0 ds with
      | some (d, ds1) => .ok (.sh d) (ρ1.set i (some (.own (.lst ds1))))
      | none => .bad
    | _, _ => .bad
  | _ => .bad
theorem pushAll_append : ∀ {vs : List V} {ts : List T} {τ : List (V × T)} {v : V} {t : T} {G : Cfg} {F H : Hp}, Good G fm ρ σ (pushAll vs ts ((v, t) :: τ)) F H → Good G fm ρ σ ((v, t) :: τ) F H := fun g => pushAll_pop _ _ _ g
theorem bm_end {G : Cfg} {i : Nat} {op : List D → List D → Option (D × List D)} {r : V → List V → Hp → VK → Prop} (hr : OpL G r op) {ts : List T} {vs : List V} {F H : Hp} {v : V} {ds0 ds ds1 : List D} {d : D} {Q : VK} (hl : vs.length = ts.length)
    (g : Good G fm ρ σ (pushAll vs ts ((v, .al i) :: τ)) F H) (e0 : ρ[i]? = some (some (.own (.lst ds0)))) (e1 : shs ts = some ds) (e2 : op ds0 ds = some (d, ds1)) (q : ∀ v' H', Good G fm (ρ.set i (some (.own (.lst ds1)))) σ ((v', .sh d) :: τ) F H' → Q v' H') : r v vs H Q ∧ ∃ p ws, v = .ref p ∧ H p = some (.lst ws) := by
  have rs := pushAll_shs hl g e1
  have ga := pushAll_pop _ _ _ g
  have hv : σ[i]? = some (some v) := by
    obtain ⟨_, _, _, l, _, _⟩ := ga.own
    cases l with
    | cons r _ => cases r with | al z => exact z
  have g0 := ga.pop
  obtain ⟨p, ws, q1, q2, q3, mu⟩ := g0.mutate e0
  rw [hv] at q1; cases q1
  obtain ⟨ws, rfl, q4⟩ := q3.isLst
  exact ⟨hr F H p ws vs ds0 ds d ds1 Q g0.FH q2 q4 rs e2 fun v' vs' r1 r2 => q v' _ ((mu (.lst vs') (.lst ds1) (.lst r2)).pushSh r1), p, ws, rfl, q2⟩
theorem se_bm {i : Nat} {x name : Str} {op : List D → List D → Option (D × List D)} {r : V → List V → Hp → VK → Prop} {e : Expr} {es : List Expr} {fs : Env → R (List T)} {p apos cpos : Pos} {idS : String} (hr : OpL (gX X) r op) (slot : Slot "list" name idS)
    (hty : typeOf (.builtin idS) = pure (.type "method_descriptor")) (hm' : MtR X idS r) (ha : SA X m W (e :: es) fs) (hN : X.N[i]? = some x := by rfl) (hv : Vis X.env.scope x := by first | exact Or.inl rfl | exact Or.inr (Or.inl rfl) | exact Or.inr (Or.inr rfl)) (hd : (x == ("__debug__" : Str)) = false := by decide)
    (hcd : (x == ("__classdict__" : Str)) = false := by decide)
    (hbase : attributeBase (.Name x p) name X.env (eval (.Name x p) X.env) = eval (.Name x p) X.env := by rfl)
    (hfew : ((backTo cpos (starEach (e :: es) X.env)).all (fun x => !x.1) && (backToKw cpos (keywordEach [] X.env)).all (fun x => x.1.isSome)
      && decide ((e :: es).length + ([] : List Keyword).length + (if ([] : List Keyword).isEmpty then 0 else 1) < 30)) = true := by rfl)
    (hline : (apos.endLine == cpos.line) = true := by rfl) (hs : starEach (e :: es) X.env = (false, eval e X.env) :: starEach es X.env := by rfl) (hplain : (backTo cpos (starEach es X.env)).any (·.1) = false := by rfl) :
    SE X m W (.Call (.Attribute (.Name x p) name apos) (e :: es) [] cpos) (eBM i op fs) := fun fm hm ρ σ τ F H Q g q => by
  obtain ⟨t, pa, rr⟩ := ha
  unfold eBM at q
  split at q
  · rename_i dsx e0
    refine tE_of (pe_bm PySem.F.plainAttrs_list slot hty hm' (pe_var hN hv hd hcd) pa hbase hfew hline hs hplain) ?_
    obtain ⟨pp, vs0, q1, q2, q3, _⟩ := g.mutate e0
    obtain ⟨vs0, rfl, _⟩ := q3.isLst
    have ga : Good (gX X) fm ρ σ ((.ref pp, .al i) :: τ) F H := g.pushAl q1
    refine ⟨_, q1, .inl ⟨rfl, _, SqL.of q2⟩, ?_⟩
    refine rr fm hm ρ σ _ F H _ ga ?_
    cases e1 : fs ρ with
    | ex y ρ1 => rw [e1] at q; exact PostX.pop q
    | bad => rw [e1] at q; exact q
    | ok ts ρ1 =>
      rw [e1] at q
      intro vs F' H' hl g'
      have q : PostE X fm W σ τ (match ρ1[i]?, shs ts with
        | some (some (.own (.lst ds0))), some ds => match op ds0 ds with
          | some (d, ds1) => R.ok (T.sh d) (ρ1.set i (some (.own (.lst ds1))))
          | none => .bad
        | _, _ => .bad) Q := q
      split at q
      · rename_i ds0 ds e2 e3
        split at q
        · rename_i d ds1 e4
          exact (bm_end hr hl g' e2 e3 e4 fun v' H2 g2 => q v' F' H2 g2).1
        · exact q.elim
      · exact q.elim
  · exact q.elim
end
def appD : List D → List D → Option (D × List D)
  | xs, [d] => if decide (xs.length < sizeLine) = true then some (.non, xs ++ [d]) else none
  | _, _ => none
def extD : List D → List D → Option (D × List D)
  | xs, [.lst ys] => if decide (xs.length + ys.length ≤ sizeLine) = true then some (.non, xs ++ ys) else none
  | _, _ => none
section
variable {X : Cx} {fm : Fm} {m : List Nat} {W : WX} {σ : L2.St} {τ : List (V × T)} {ρ : Env}
theorem ol_app {G : Cfg} : OpL G rAppend appD := fun F H p ws vs ds0 ds d ds1 Q f h0 r0 r e k => by
  unfold appD at e
  split at e
  · split at e
    · rename_i hz
      cases e
      cases r with
      | cons r t =>
        cases t
        exact ⟨_, _, _, rfl, rfl, h0, by rw [r0.length]; exact of_decide_eq_true hz, k _ _ .non (r0.append (.cons r .nil))⟩
    · cases e
  · cases e
theorem ol_ext {G : Cfg} : OpL G rExtend extD := fun F H p ws vs ds0 ds d ds1 Q f h0 r0 r e k => by
  unfold extD at e
  split at e
  · split at e
    · rename_i hz
      cases e
      cases r with
      | cons r t =>
        cases t
        cases r with
        | lst h1 h2 =>
          exact ⟨_, _, _, _, rfl, rfl, h0, f _ _ h1, by rw [r0.length, h2.length]; exact of_decide_eq_true hz, k _ _ .non (r0.append h2)⟩
    · cases e
  · cases e

/-! ### stores into a slot's own list -/
def sIxK (i : Nat) (d : D) (tk : T) (ρ2 : Env) : RS := match view ρ2 tk, ρ2[i]? with
  | some (.int k), some (some (.own (.lst ds))) => match ixN ds.length k with
    | some j => .nx (ρ2.set i (some (.own (.lst (ds.set j d)))))
    | none => .bad
  | _, _ => .bad
def sIxJ (i : Nat) (fk : Env → R T) (tv : T) (ρ1 : Env) : RS := match tv, ρ1[i]? with
  | .sh d, some (some (.own (.lst _))) => (fk ρ1).s fun tk ρ2 => sIxK i d tk ρ2
  | _, _ => .bad
def sIx (i : Nat) (fv fk : Env → R T) : Env → RS := fun ρ => (fv ρ).s fun tv ρ1 => sIxJ i fk tv ρ1
theorem ss_ix {i : Nat} {x : Str} {e k : Expr} {fv fk : Env → R T} {p pos pos' : Pos} (he : SE X m W e fv) (hk : SE X m W k fk) (hN : X.N[i]? = some x := by rfl) (hv : Vis X.env.scope x := by first | exact Or.inl rfl | exact Or.inr (Or.inl rfl) | exact Or.inr (Or.inr rfl)) (hd : (x == ("__debug__" : Str)) = false := by decide)
    (hcd : (x == ("__classdict__" : Str)) = false := by decide)
    (ha : ∀ v, assign (.Subscript (.Name x p) k pos') X.env v = (do
      let ov ← holding [v] (eval (.Name x p) X.env)
      let iv ← holding [v, ov] (eval k X.env)
      standAt pos'
      holding [v, ov, iv] (setItem ov iv v)
      release [v, ov, iv] []) := by intro _; rfl)
    (hs : swapsWithSole [.Subscript (.Name x p) k pos'] e pos.line X.env = pure false := by rfl) (hw : swappedStores [.Subscript (.Name x p) k pos'] e X.env = pure none := by rfl)
    (h1 : (assignEach [.Subscript (.Name x p) k pos'] X.env).map (·.2) = [assign (.Subscript (.Name x p) k pos') X.env] := by rfl) :
    SS X m W (.Assign [.Subscript (.Name x p) k pos'] e pos) (sIx i fv fk) := fun fm hm ρ σ τ F H D na g q => by
  refine tS_of (ps_asg pe_tE (pg_sub (pe_var hN hv hd hcd) pe_tE set_list ha) hs hw h1) ?_
  refine ss_s hm he g q fun tv ρ1 v F1 H1 g1 q1 => ?_
  unfold sIxJ at q1
  split at q1
  · rename_i d dsx e0
    obtain ⟨pp, vs0, s1, s2, _, _⟩ := g1.mutate e0
    refine ⟨_, s1, ?_⟩
    have ga : Good (gX X) fm ρ1 σ ((.ref pp, .al i) :: (v, .sh d) :: τ) F1 H1 := g1.pushAl s1
    refine hk fm hm ρ1 σ _ F1 H1 _ ga ?_
    cases e1 : fk ρ1 with
    | ex y ρ2 => rw [e1] at q1; exact PostX.pop (PostX.pop (q1 σ))
    | bad => rw [e1] at q1; exact q1
    | ok tk ρ2 =>
      rw [e1] at q1
      intro u F2 H2 g2
      have q1 : PostS X fm W τ (sIxK i d tk ρ2) D := q1
      unfold sIxK at q1
      split at q1
      · rename_i kk ds e2 e3
        split at q1
        · rename_i j e4
          have hu := (g2.view e2).int
          subst hu
          have g3 := g2.pop.pop
          obtain ⟨p2, ws, t1, t2, t3, mu⟩ := g3.mutate e3
          rw [s1] at t1; cases t1
          obtain ⟨ws, rfl, t4⟩ := t3.isLst
          refine ⟨pp, ws, kk, j, rfl, rfl, t2, by rw [t4.length]; exact e4, ?_⟩
          exact q1 _ _ _ (mu (.lst _) (.lst _) (.lst (t4.set j g3.topSh))).pop
        · exact q1.elim
      · exact q1.elim
  all_goals exact q1.elim

/-! ### several names -/
def gL (gs : List (D → Env → Option Env)) : D → Env → Option Env := fun d ρ => match d with
  | .lst ds => gAll gs ds ρ
  | _ => none
theorem sg_lst {G : Cfg} {n : Nat} {g : TGs} {gs : List (D → Env → Option Env)} (h : SGs G m n g gs) : SGd G m (gLst G.K n g) (gL gs) := fun fm hm ρ σ τ F H v d ρ' Q na gd r e q => by
  cases r with
  | lst ht rs =>
    have e : gAll gs _ ρ = some ρ' := e
    refine ⟨_, _, rfl, sqL_mono gd.FH (SqL.of ht), ?_, h.2 fm hm ρ σ τ F H _ _ ρ' Q na gd rs e q⟩
    rw [rs.length, gAll_len e, h.1]
  | _ => cases e
def sUnp (gt : D → Env → Option Env) (fa : Env → R T) : Env → RS := fun ρ => (fa ρ).s fun t ρ1 => match t with
  | .sh d => match gt d ρ1 with
    | some ρ2 => .nx ρ2
    | none => .bad
  | _ => .bad
theorem ss_unp {tg e : Expr} {g : TG} {gt : D → Env → Option Env} {fa : Env → R T} {pos : Pos} (he : SE X m W e fa) (hg : PG X tg g) (hgt : SGd (gX X) m g gt) (hs : swapsWithSole [tg] e pos.line X.env = pure false := by rfl) (hw : swappedStores [tg] e X.env = pure none := by rfl)
    (h1 : (assignEach [tg] X.env).map (·.2) = [assign tg X.env] := by rfl) : SS X m W (.Assign [tg] e pos) (sUnp gt fa) := fun fm hm ρ σ τ F H D na gd q => by
  refine tS_of (ps_asg pe_tE hg hs hw h1) (ss_s hm he gd q fun t ρ1 v F' H' g' q' => ?_)
  split at q'
  · rename_i d
    split at q'
    · rename_i ρ2 e1
      exact hgt fm hm ρ1 σ τ F' H' v d ρ2 _ na g'.pop g'.topSh e1 fun σ' F2 H2 g2 => q' σ' F2 H2 g2
    · exact q'.elim
  · exact q'.elim
/-- a, b = e1, e2 -/
def parK (i j : Nat) (ts : List T) (ρ1 : Env) : RS := match ts with
  | [.sh a, .sh b] => .nx ((ρ1.set i (some (.sh a))).set j (some (.sh b)))
  | _ => .bad
def sPar (i j : Nat) (fs : Env → R (List T)) : Env → RS := fun ρ => (fs ρ).s fun ts ρ1 => parK i j ts ρ1
theorem ss_par (cx : Cok X) (i j : Nat) {x y : Str} {a b : Expr} {fs : Env → R (List T)} {px py pt pt2 pos : Pos} {kt k2} (ha : SA X m W [a, b] fs) (hi : i ∉ m := by decide) (hj : j ∉ m := by decide) (hNi : X.N[i]? = some x := by rfl) (hNj : X.N[j]? = some y := by rfl) (hij : i ≠ j := by decide)
    (hx : X.env.scope.names.lookup x = some .local := by rfl) (hy : X.env.scope.names.lookup y = some .local := by rfl)
    (hw : swappedStores [.Tuple [.Name x px, .Name y py] kt pt] (.Tuple [a, b] k2 pt2) X.env = pure (some [x, y]) := by rfl)
    (hs : swapsWithSole [.Tuple [.Name x px, .Name y py] kt pt] (.Tuple [a, b] k2 pt2) pos.line X.env = pure false := by rfl) :
    SS X m W (.Assign [.Tuple [.Name x px, .Name y py] kt pt] (.Tuple [a, b] k2 pt2) pos) (sPar i j fs) := fun fm hm ρ σ τ F H D na g q => by
  obtain ⟨t, pa, r⟩ := ha
  refine tS_of (ps_par cx.calm cx.nd hNi hNj hij hx hy pa hw hs) ?_
  refine r fm hm ρ σ τ F H _ g ?_
  have q : PostS X fm W τ ((fs ρ).s fun ts ρ1 => parK i j ts ρ1) D := q
  cases e1 : fs ρ with
  | ex z ρ1 => rw [e1] at q; exact q σ
  | bad => rw [e1] at q; exact q
  | ok ts ρ1 =>
    rw [e1] at q
    intro vs F' H' hl g'
    have q : PostS X fm W τ (parK i j ts ρ1) D := q
    unfold parK at q
    split at q
    · match vs, hl with
      | [v, w], _ =>
        rw [pushAll_cons, pushAll_cons] at g'
        have g1 := g'
        change Good (gX X) fm ρ1 σ ((w, .sh _) :: (v, .sh _) :: τ) F' H' at g1
        have rb := g1.topSh
        have ra := g1.pop.topSh
        have g2 := g1.pop.putSh hm hi na
        exact ⟨v, w, rfl, q _ _ _ ((g2.pushSh rb).putSh hm hj na)⟩
    · exact q.elim
/-- a name of a built-in type -/
theorem pe_ty {x : Str} {b : String} {pos : Pos} (hmg : X.mg x = none) (hv : bootBuiltins x = some (.type b) := by rfl) (hg : Gl X x := by rfl) (hn : x ≠ "__name__" := by decide) (hd : (x == ("__debug__" : Str)) = false := by decide) : PE X (.Name x pos) (tC (.ty b)) := pe_bltn hg hmg hv rfl hn hd
theorem se_ty {x : Str} {b : String} {pos : Pos} (hmg : X.mg x = none) (hv : bootBuiltins x = some (.type b) := by rfl) (hg : Gl X x := by rfl) (hn : x ≠ "__name__" := by decide) (hd : (x == ("__debug__" : Str)) = false := by decide) : SE X m W (.Name x pos) (eC (.ty b)) := se_c (pe_ty hmg hv hg hn hd) fun _ => .ty
end
end Pf

namespace Pf
open PySem PySem.Spec L2

/-! ### repr of lists and tuples -/
def seqD : D → Bool
  | .lst _ => true
  | .rol _ => true
  | .tup _ => true
  | _ => false
def reprD : List D → Option T
  | [d] => (toPy d).bind fun p => if (seqD d && p.showable && !p.hasDict && decide (p.depth ≤ 60) && sz p.shown.length) = true then some (.sh (.str p.shown)) else none
  | _ => none
section
variable {X : Cx} {fm : Fm} {m : List Nat} {W : WX} {σ : L2.St} {τ : List (V × T)} {ρ : Env}
abbrev rRepr (K : PySem.W.Frag) : List V → Hp → VK → Prop := fun xs H Q => ∃ (a : Addr) (p : PyData), xs = [.ref a] ∧ Dp K H (.ref a) p ∧ p.showable = true ∧ p.hasDict = false ∧ p.depth ≤ 60 ∧ p.shown.length ≤ sizeLine ∧ Q (.str p.shown) H
theorem call_repr {j : Nat} (hr : Rm j X.A) : CallR X (.builtin "repr") (rRepr X.K) := by
  intro pins s σ H xs us Q I r h
  obtain ⟨a, p, rfl, dp, h1, h2, h3, h4, q⟩ := h
  obtain ⟨u, rfl, ru⟩ := vals1 r
  obtain ⟨as, rd⟩ := Dp.reads I p (.ref a) u dp ru
  cases (show u = Value.ref a from ru)
  have hu := hr.r.units
  refine repr_of_reads' rd h1 (PyData.noDict_hsm h2) hr.g (by omega) (fun _ _ e => e) (fun h' u tk hk => ?_) h4
  exact ⟨.str p.shown, H, I.kept (t' := tk) hk, ⟨u, rfl⟩, q⟩
theorem on_repr : OpN (gX X) (rRepr X.K) reprD := fun F H vs ds t Q f r e k => by
  unfold reprD at e
  split at e
  · rename_i d
    obtain ⟨p, e1, e⟩ := Option.bind_eq_some_iff.mp e
    split at e
    · rename_i hc
      cases e
      simp only [Bool.and_eq_true, Bool.not_eq_true', decide_eq_true_eq] at hc
      obtain ⟨⟨⟨⟨c1, c2⟩, c3⟩, c4⟩, c5⟩ := hc
      obtain ⟨v, rfl, rv⟩ := repVs1 r
      have dp := rv.dp f e1
      have hv : ∃ a, v = .ref a := by
        cases d with
        | lst xs => obtain ⟨q, ws, rfl, _⟩ := rv.lst f; exact ⟨_, rfl⟩
        | rol xs => obtain ⟨q, ws, rfl, _⟩ := rv.rol f; exact ⟨_, rfl⟩
        | tup xs => obtain ⟨q, ws, rfl, _⟩ := rv.tup f; exact ⟨_, rfl⟩
        | _ => cases c1
      obtain ⟨a, rfl⟩ := hv
      exact ⟨a, p, rfl, dp, c2, c3, c4, of_decide_eq_true c5, res_sh f .str k⟩
    · cases e
  · cases e

/-! ### keywords -/
def perm {α : Type} (π : List Nat) (xs : List α) : List α := π.filterMap fun i => xs[i]?
theorem perm_vals {vs : List V} {us : List Value} (r : Vals vs us) : ∀ π, Vals (perm π vs) (perm π us)
  | [] => .nil
  | i :: π => by
    have ih := perm_vals r π
    unfold perm at ih ⊢
    cases e : vs[i]? with
    | none =>
      have e2 : us[i]? = none := by rw [List.getElem?_eq_none_iff] at e ⊢; rw [← r.length]; exact e
      rw [List.filterMap_cons_none e, List.filterMap_cons_none e2]; exact ih
    | some v =>
      obtain ⟨u, e2, rr⟩ := r.get e
      rw [List.filterMap_cons_some e, List.filterMap_cons_some e2]; exact .cons rr ih
theorem perm_reps {G : Cfg} {F : Hp} {vs : List V} {us : List D} (r : Reps G F vs us) : ∀ π, Reps G F (perm π vs) (perm π us)
  | [] => .nil
  | i :: π => by
    have ih := perm_reps r π
    unfold perm at ih ⊢
    cases e : vs[i]? with
    | none =>
      have e2 : us[i]? = none := by rw [List.getElem?_eq_none_iff] at e ⊢; rw [← r.length]; exact e
      rw [List.filterMap_cons_none e, List.filterMap_cons_none e2]; exact ih
    | some v =>
      obtain ⟨u, e2, rr⟩ := r.getV e
      rw [List.filterMap_cons_some e, List.filterMap_cons_some e2]; exact .cons rr ih
/-- a call of n values by place and the keywords ks binds the values in the order π -/
def KB (K : PySem.W.Frag) (fd : FuncData) (ps : List Str) (n : Nat) (ks : List Str) (π : List Nat) : Prop := ∀ (s : Shared) (us ws : List Value), K.In s.heap → us.length = n → ws.length = ks.length → BindsTo s fd ⟨us, ks.zip ws⟩ (ps.zip (perm π (us ++ ws)))
def SK (X : Cx) (m : List Nat) (W : WX) (kws : List Keyword) (f : Env → R (List T)) : Prop := ∃ t, PK X kws t ∧ ∀ fm, PinX X fm m → ∀ ρ σ τ F H Q, Good (gX X) fm ρ σ τ F H → PostA X fm W σ τ (f ρ) Q → t σ H Q
theorem sk_nil : SK X m W [] aNil := ⟨tNil, pk_nil, fun fm hm ρ σ τ F H Q g q => q [] F H rfl g⟩
theorem acons_run {e : Expr} {fa : Env → R T} {fs : Env → R (List T)} {tr : TA} (h : SE X m W e fa) (r : ∀ fm, PinX X fm m → ∀ ρ σ τ F H Q, Good (gX X) fm ρ σ τ F H → PostA X fm W σ τ (fs ρ) Q → tr σ H Q) :
    ∀ fm, PinX X fm m → ∀ ρ σ τ F H Q, Good (gX X) fm ρ σ τ F H → PostA X fm W σ τ (aCons fa fs ρ) Q → tCons (tE X e) tr σ H Q := fun fm hm ρ σ τ F H Q g q => by
  refine h fm hm ρ σ τ F H _ g ?_
  unfold aCons at q
  cases e1 : fa ρ with
  | ok t ρ1 =>
    rw [e1] at q
    refine fun v F' H' g' => r fm hm ρ1 σ _ F' H' _ g' ?_
    have q : PostA X fm W σ τ ((fs ρ1).bind fun ts ρ2 => R.ok (t :: ts) ρ2) Q := q
    cases e2 : fs ρ1 with
    | ok ts ρ2 =>
      rw [e2] at q
      intro vs F2 H2 hl g2
      exact q (v :: vs) F2 H2 (by simp [hl]) (by rw [pushAll_cons]; exact g2)
    | ex x ρ2 => rw [e2] at q; exact PostX.pop q
    | bad => rw [e2] at q; exact q
  | ex x ρ1 => rw [e1] at q; exact q
  | bad => rw [e1] at q; exact q
theorem sk_cons {e : Expr} {kws : List Keyword} {nm : Option Str} {kp : Pos} {fa : Env → R T} {fs : Env → R (List T)} (h : SE X m W e fa) (hr : SK X m W kws fs) : SK X m W (⟨nm, e, kp⟩ :: kws) (aCons fa fs) := by
  obtain ⟨tr, pr, r⟩ := hr
  exact ⟨tCons (tE X e) tr, pk_cons pe_tE pr, acons_run h r⟩
/-- by place and by name, as they lie -/
def tKn (sp : Sp) (π : List Nat) (n nk : Nat) (W : WX) (t tk : TA) : TE := fun σ H Q => t σ H fun vs H1 => tk σ H1 fun zs H2 => vs.length = n ∧ zs.length = nk ∧ sp (perm π (vs ++ zs)) H2 Q (WE W σ)
theorem pe_kn {k n : Nat} {π : List Nat} {f : Addr} {fd : FuncData} {ps ks : List Str} {sp : Sp} {x qual : Str} {st : Stmt} {p pos : Pos} {e : Expr} {es : List Expr} {kws : List Keyword} {t t2 : TA}
    (C : CallD X.prog X.w X.K X.mg X.base x qual st ps k sp f fd) (hr : Rm k X.A) (tk : Takes X W) (hg : Gl X x) (hb : KB X.K fd ps n ks π) (ha : PA X (e :: es) t) (hkw : PK X kws t2)
    (hall : (backToKw pos (keywordEach kws X.env)).all (·.1.isSome) = true) (hks : (backToKw pos (keywordEach kws X.env)).filterMap (·.1) = ks)
    (hdb : (x == ("__debug__" : Str)) = false) (he : starEach (e :: es) X.env = (false, eval e X.env) :: starEach es X.env)
    (hpl : ((backTo pos (starEach (e :: es) X.env)).any (·.1) || (backToKw pos (keywordEach kws X.env)).any (·.1.isNone)) = false) :
    PE X (.Call (.Name x p) (e :: es) kws pos) (tKn sp π n ks.length W t t2) := ⟨fun pins s σ H Q I h => by
  refine wpAny_Call_Name_kw (ld_glob I hg C.nm ?_ hdb)
  refine PySem.W.callWith_KW (h₀ := X.base) I.ok.mod.kin C.fn.kp hall (thn (ha.run pos pins s σ H _ I h) ?_) hpl he
  rintro us s1 ⟨vs, H1, I1, r, q⟩
  refine thn (hkw.run pos pins s1 σ H1 _ I1 q) ?_
  rintro ws s2 ⟨zs, H2, I2, rz, l1, l2, q2⟩
  refine ⟨I2.kIn, ?_⟩
  rw [hks]
  exact run_g (args := ⟨us, ks.zip ws⟩) C.ok hr tk I2 (hb s2 us ws I2.kIn (by rw [← r.length]; exact l1) (by rw [← rz.length]; exact l2)) (perm_vals (r.append rz) π) q2⟩
theorem pe_kn0 {k : Nat} {π : List Nat} {f : Addr} {fd : FuncData} {ps ks : List Str} {sp : Sp} {x qual : Str} {st : Stmt} {p pos : Pos} {kws : List Keyword} {t2 : TA}
    (C : CallD X.prog X.w X.K X.mg X.base x qual st ps k sp f fd) (hr : Rm k X.A) (tk : Takes X W) (hg : Gl X x) (hb : KB X.K fd ps 0 ks π) (hkw : PK X kws t2)
    (hall : (backToKw pos (keywordEach kws X.env)).all (·.1.isSome) = true) (hks : (backToKw pos (keywordEach kws X.env)).filterMap (·.1) = ks)
    (hdb : (x == ("__debug__" : Str)) = false) (hpl : (backToKw pos (keywordEach kws X.env)).any (·.1.isNone) = false) :
    PE X (.Call (.Name x p) [] kws pos) (tKn sp π 0 ks.length W tNil t2) := ⟨fun pins s σ H Q I h => by
  refine wpAny_Call_Name_kw (ld_glob I hg C.nm ?_ hdb)
  refine PySem.W.callWith_KW0 (h₀ := X.base) I.ok.mod.kin C.fn.kp hall (thn (hkw.run pos pins s σ H _ I h) ?_) hpl
  rintro ws s2 ⟨zs, H2, I2, rz, _, l2, q2⟩
  refine ⟨I2.kIn, ?_⟩
  rw [hks]
  exact run_g (args := ⟨[], ks.zip ws⟩) (us := perm π ([] ++ ws)) (vs := perm π ([] ++ zs)) C.ok hr tk I2 (hb s2 [] ws I2.kIn rfl (by rw [← rz.length]; exact l2)) (perm_vals (by simpa using rz) π) q2⟩
def callP (f : List D → RP) (ds : List D) (ρ : Env) : R T := match f ds with
  | .ok r => .ok r ρ
  | .ex x => .ex x ρ
  | .bad => .bad
def eCallK (n nk : Nat) (π : List Nat) (f : List D → RP) (fs fk : Env → R (List T)) : Env → R T := fun ρ => (fs ρ).bind fun ts ρ1 => (fk ρ1).bind fun us ρ2 => if ts.length = n ∧ us.length = nk then match shs ts, shs us with
  | some ds, some es => callP f (perm π (ds ++ es)) ρ2
  | _, _ => .bad
  else .bad
theorem callP_end {f : List D → RP} {ds : List D} {vs : List V} {F H : Hp} {Q : VK} (g : Good (gX X) fm ρ σ τ F H) (rs : Reps (gX X) F vs ds) (q : PostE X fm W σ τ (callP f ds ρ) Q) : SpP (gX X) f vs H Q (WE W σ) := by
  refine ⟨F, ds, g.FH, rs, ?_⟩
  unfold callP at q
  cases e2 : f ds with
  | ok r =>
    rw [e2] at q
    exact fun v F2 H2 gr rr => q v F2 H2 (g.res gr rr)
  | ex x =>
    rw [e2] at q
    exact fun cls d F2 H2 gr rx => q cls d F2 H2 (g.grow gr) rx
  | bad => rw [e2] at q; exact q
theorem pushAll_two {G : Cfg} {F H : Hp} {vs zs : List V} {ts us : List T} {ds es : List D} (hl : vs.length = ts.length) (hl2 : zs.length = us.length) (g : Good G fm ρ σ (pushAll zs us (pushAll vs ts τ)) F H) (e1 : shs ts = some ds) (e2 : shs us = some es) : Reps G F (vs ++ zs) (ds ++ es) :=
  (pushAll_shs hl (pushAll_pop _ _ _ g) e1).append (pushAll_shs hl2 g e2)
theorem kn_run {n nk : Nat} {π : List Nat} {f : List D → RP} {fs fk : Env → R (List T)} {t t2 : TA} (r : ∀ fm, PinX X fm m → ∀ ρ σ τ F H Q, Good (gX X) fm ρ σ τ F H → PostA X fm W σ τ (fs ρ) Q → t σ H Q)
    (r2 : ∀ fm, PinX X fm m → ∀ ρ σ τ F H Q, Good (gX X) fm ρ σ τ F H → PostA X fm W σ τ (fk ρ) Q → t2 σ H Q) (hm : PinX X fm m) {F H : Hp} {Q : VK} (g : Good (gX X) fm ρ σ τ F H) (q : PostE X fm W σ τ (eCallK n nk π f fs fk ρ) Q) : tKn (SpP (gX X) f) π n nk W t t2 σ H Q := by
  refine r fm hm ρ σ τ F H _ g ?_
  unfold eCallK at q
  cases e1 : fs ρ with
  | ex x ρ1 => rw [e1] at q; exact q
  | bad => rw [e1] at q; exact q
  | ok ts ρ1 =>
    rw [e1] at q
    intro vs F1 H1 l1 g1
    refine r2 fm hm ρ1 σ _ F1 H1 _ g1 ?_
    have q : PostE X fm W σ τ ((fk ρ1).bind fun us ρ2 => if ts.length = n ∧ us.length = nk then match shs ts, shs us with
      | some ds, some es => callP f (perm π (ds ++ es)) ρ2
      | _, _ => .bad
      else .bad) Q := q
    cases e2 : fk ρ1 with
    | ex x ρ2 => rw [e2] at q; exact fun cls d F' H' g' rx => q cls d F' H' (pushAll_pop _ _ _ g') rx
    | bad => rw [e2] at q; exact q
    | ok us ρ2 =>
      rw [e2] at q
      intro zs F2 H2 l2 g2
      change PostE X fm W σ τ (if ts.length = n ∧ us.length = nk then match shs ts, shs us with
        | some ds, some es => callP f (perm π (ds ++ es)) ρ2
        | _, _ => .bad
        else .bad) Q at q
      split at q
      · rename_i hn
        refine ⟨l1.trans hn.1, l2.trans hn.2, ?_⟩
        split at q
        · rename_i ds es e3 e4
          exact callP_end (pushAll_pop _ _ _ (pushAll_pop _ _ _ g2)) (perm_reps (pushAll_two l1 l2 g2 e3 e4) π) q
        · exact q.elim
      · exact q.elim
theorem sa0_run : ∀ fm, PinX X fm m → ∀ ρ σ τ F H Q, Good (gX X) fm ρ σ τ F H → PostA X fm W σ τ (aNil ρ) Q → tNil σ H Q := fun fm hm ρ σ τ F H Q g q => q [] F H rfl g
theorem se_callK {n : Nat} {π : List Nat} {ks : List Str} {x qual : Str} {st : Stmt} {ps : List Str} {k j : Nat} {f : List D → RP} {e : Expr} {es : List Expr} {kws : List Keyword} {fs fk : Env → R (List T)} {p pos : Pos} (C : CalleeX X x qual st ps k (SpP (gX X) f)) (hb : ∀ fa fd, L2.Fun X.K x qual st fa fd → KB X.K fd ps n ks π) (hr : Rm j X.A) (tk : Takes X W) (ha : SA X m W (e :: es) fs) (hkw : SK X m W kws fk) (hk : k ≤ j := by decide) (hg : Gl X x := by rfl)
    (hall : (backToKw pos (keywordEach kws X.env)).all (·.1.isSome) = true := by rfl) (hks : (backToKw pos (keywordEach kws X.env)).filterMap (·.1) = ks := by rfl)
    (hdb : (x == ("__debug__" : Str)) = false := by decide) (he : starEach (e :: es) X.env = (false, eval e X.env) :: starEach es X.env := by rfl) (hpl : ((backTo pos (starEach (e :: es) X.env)).any (·.1) || (backToKw pos (keywordEach kws X.env)).any (·.1.isNone)) = false := by rfl) :
    SE X m W (.Call (.Name x p) (e :: es) kws pos) (eCallK n ks.length π f fs fk) := fun fm hm ρ σ τ F H Q g q => by
  obtain ⟨fa, fd, C⟩ := C
  obtain ⟨t, pa, r⟩ := ha
  obtain ⟨t2, pk, r2⟩ := hkw
  exact tE_of (pe_kn C (hr.mono hk) tk hg (hb fa fd C.fn) pa pk hall hks hdb he hpl) (kn_run r r2 hm g q)
theorem se_callK0 {π : List Nat} {ks : List Str} {x qual : Str} {st : Stmt} {ps : List Str} {k j : Nat} {f : List D → RP} {kws : List Keyword} {fk : Env → R (List T)} {p pos : Pos} (C : CalleeX X x qual st ps k (SpP (gX X) f)) (hb : ∀ fa fd, L2.Fun X.K x qual st fa fd → KB X.K fd ps 0 ks π) (hr : Rm j X.A) (tk : Takes X W) (hkw : SK X m W kws fk) (hk : k ≤ j := by decide) (hg : Gl X x := by rfl)
    (hall : (backToKw pos (keywordEach kws X.env)).all (·.1.isSome) = true := by rfl) (hks : (backToKw pos (keywordEach kws X.env)).filterMap (·.1) = ks := by rfl)
    (hdb : (x == ("__debug__" : Str)) = false := by decide) (hpl : (backToKw pos (keywordEach kws X.env)).any (·.1.isNone) = false := by rfl) :
    SE X m W (.Call (.Name x p) [] kws pos) (eCallK 0 ks.length π f aNil fk) := fun fm hm ρ σ τ F H Q g q => by
  obtain ⟨fa, fd, C⟩ := C
  obtain ⟨t2, pk, r2⟩ := hkw
  exact tE_of (pe_kn0 C (hr.mono hk) tk hg (hb fa fd C.fn) pk hall hks hdb hpl) (kn_run (fs := aNil) (t := tNil) sa0_run r2 hm g q)
/-- f() -/
theorem se_call0 {x qual : Str} {st : Stmt} {k j : Nat} {f : List D → RP} {p pos : Pos} (C : CalleeX X x qual st [] k (SpP (gX X) f)) (hr : Rm j X.A) (tk : Takes X W) (hk : k ≤ j := by decide) (hg : Gl X x := by rfl)
    (hdb : (x == ("__debug__" : Str)) = false := by decide) : SE X m W (.Call (.Name x p) [] [] pos) (fun ρ => callP f [] ρ) := fun fm hm ρ σ τ F H Q g q => by
  obtain ⟨fa, fd, C⟩ := C
  exact tE_of (pe_g0 C (hr.mono hk) tk hg hdb) (callP_end g .nil q)

/-! ### dict displays of constants -/
structure KC (X : Cx) (k v : Expr) (key : Key) (d : D) : Prop where
  hk : PE X k (tC (kV key))
  hv : ∃ x, PE X v (tC x) ∧ ∀ F, Rep (gX X) F x d
theorem kc_of {k v : Expr} {key : Key} {x : V} {d : D} (h : PE X k (tC (kV key))) (h2 : PE X v (tC x)) (h3 : ∀ F, Rep (gX X) F x d) : KC X k v key d := ⟨h, x, h2, h3⟩
def KCs (X : Cx) (pos : Pos) (keys : List (Option Expr)) (values : List Expr) (kvs : List (Key × D)) : Prop :=
  ∃ (trs : List (TE × TE)) (xs : List (Key × V)), PPs X pos keys values trs ∧ (∀ σ H (Q : List (V × V) → Hp → Prop), Q (xs.map fun kv => (kV kv.1, kv.2)) H → tPairs trs σ H Q) ∧ xs.map (·.1) = kvs.map (·.1) ∧ ∀ F, Reps (gX X) F (xs.map (·.2)) (kvs.map (·.2))
theorem kcs_nil {pos : Pos} : KCs X pos [] [] [] := ⟨[], [], pps_nil, fun _ _ _ q => q, rfl, fun _ => .nil⟩
theorem kcs_cons {pos : Pos} {k v : Expr} {key : Key} {d : D} {keys : List (Option Expr)} {values : List Expr} {kvs : List (Key × D)} (h : KC X k v key d) (hr : KCs X pos keys values kvs) : KCs X pos (some k :: keys) (v :: values) ((key, d) :: kvs) := by
  obtain ⟨trs, xs, a, b, c, dd⟩ := hr
  obtain ⟨x, hv, hx⟩ := h.hv
  refine ⟨_, (key, x) :: xs, pps_cons h.hk hv a, fun σ H Q q => ?_, by simp [c], fun F => .cons (hx F) (dd F)⟩
  exact b σ H _ q
theorem any_fst {α β : Type} {k : Key} : ∀ {xs : List (Key × α)} {ys : List (Key × β)}, xs.map (·.1) = ys.map (·.1) → (xs.any fun kv => decide (kv.1 = k)) = (ys.any fun kv => decide (kv.1 = k))
  | [], [], _ => rfl
  | [], _ :: _, h => by simp at h
  | _ :: _, [], h => by simp at h
  | x :: xs, y :: ys, h => by
    simp only [List.map_cons, List.cons.injEq] at h
    simp only [List.any_cons, h.1, any_fst h.2]
theorem rep_swap {G : Cfg} {F : Hp} {k : Key} {x : V} {d : D} (r : Rep G F x d) : ∀ {xs : List (Key × V)} {ys : List (Key × D)}, xs.map (·.1) = ys.map (·.1) → Reps G F (xs.map (·.2)) (ys.map (·.2)) →
    ((xs.map fun kv => if kv.1 = k then (kv.1, x) else kv).map (·.1) = (ys.map fun kv => if kv.1 = k then (kv.1, d) else kv).map (·.1)) ∧ Reps G F ((xs.map fun kv => if kv.1 = k then (kv.1, x) else kv).map (·.2)) ((ys.map fun kv => if kv.1 = k then (kv.1, d) else kv).map (·.2))
  | [], [], _, _ => ⟨rfl, .nil⟩
  | [], _ :: _, h, _ => by simp at h
  | _ :: _, [], h, _ => by simp at h
  | p :: xs, q :: ys, h, rs => by
    simp only [List.map_cons, List.cons.injEq] at h
    cases rs with
    | cons r1 rs =>
      obtain ⟨a, b⟩ := rep_swap (k := k) r h.2 rs
      by_cases hk : p.1 = k
      · have hq : q.1 = k := h.1 ▸ hk
        refine ⟨?_, ?_⟩
        · simp only [List.map_cons, if_pos hk, if_pos hq, a, h.1]
        · simp only [List.map_cons, if_pos hk, if_pos hq]; exact .cons r b
      · have hq : ¬ q.1 = k := h.1 ▸ hk
        refine ⟨?_, ?_⟩
        · simp only [List.map_cons, if_neg hk, if_neg hq, a, h.1]
        · simp only [List.map_cons, if_neg hk, if_neg hq]; exact .cons r1 b
def putD (kvs : List (Key × D)) (k : Key) (v : D) : List (Key × D) :=
  if (kvs.any fun kv => decide (kv.1 = k)) = true then kvs.map (fun kv => if kv.1 = k then (kv.1, v) else kv) else kvs ++ [(k, v)]
theorem rep_put {G : Cfg} {F : Hp} {k : Key} {x : V} {d : D} {xs : List (Key × V)} {ys : List (Key × D)} (r : Rep G F x d) (h : xs.map (·.1) = ys.map (·.1)) (rs : Reps G F (xs.map (·.2)) (ys.map (·.2))) :
    (putK xs k x).map (·.1) = (putD ys k d).map (·.1) ∧ Reps G F ((putK xs k x).map (·.2)) ((putD ys k d).map (·.2)) := by
  unfold putK putD
  rw [any_fst h]
  split
  · exact rep_swap r h rs
  · refine ⟨by simp [h], ?_⟩
    rw [List.map_append, List.map_append]
    exact rs.append (.cons r .nil)
def mergeD (kvs more : List (Key × D)) : List (Key × D) := more.foldl (fun acc kv => putD acc kv.1 kv.2) kvs
theorem rep_merge {G : Cfg} {F : Hp} : ∀ {ms : List (Key × V)} {ns : List (Key × D)} {xs : List (Key × V)} {ys : List (Key × D)}, ms.map (·.1) = ns.map (·.1) → Reps G F (ms.map (·.2)) (ns.map (·.2)) → xs.map (·.1) = ys.map (·.1) → Reps G F (xs.map (·.2)) (ys.map (·.2)) →
    (mergeK xs ms).map (·.1) = (mergeD ys ns).map (·.1) ∧ Reps G F ((mergeK xs ms).map (·.2)) ((mergeD ys ns).map (·.2))
  | [], [], _, _, _, _, h, r => ⟨h, r⟩
  | [], _ :: _, _, _, h, _, _, _ => by simp at h
  | _ :: _, [], _, _, h, _, _, _ => by simp at h
  | p :: ms, q :: ns, xs, ys, h, rs, h2, r2 => by
    simp only [List.map_cons, List.cons.injEq] at h
    cases rs with
    | cons r1 rs =>
      obtain ⟨a, b⟩ := rep_put (k := p.1) r1 h2 r2
      have := rep_merge (xs := putK xs p.1 p.2) (ys := putD ys p.1 q.2) h.2 rs a b
      unfold mergeK mergeD at this ⊢
      rw [List.foldl_cons, List.foldl_cons, ← h.1]
      exact this
def eDict (kvs : List (Key × D)) : Env → R T := fun ρ => .ok (.sh (.dk (mergeD [] kvs))) ρ
theorem se_dict0 {pos : Pos} : SE X m W (.Dict [] [] pos) (eDict []) := fun fm hm ρ σ τ F H Q g q => by
  refine tE_of pe_dnewK fun p hp => ?_
  have k := Grow.new (o := HO.dK []) g.FH hp
  exact q _ _ _ ((g.grow k).pushSh (.dk (kvs := []) upd_same rfl .nil))
theorem se_dict {pos : Pos} {keys : List (Option Expr)} {values : List Expr} {kvs : List (Key × D)} (h : KCs X pos keys values kvs) (hall : keys.all (·.isSome) = true := by rfl) (hl : keys.length = values.length := by rfl) (h0 : keys ≠ [] := by simp) (h15 : keys.length ≤ 15 := by decide) (hkl : kvs.length ≤ 15 := by decide) :
    SE X m W (.Dict keys values pos) (eDict kvs) := fun fm hm ρ σ τ F H Q g q => by
  obtain ⟨trs, xs, a, b, c, dd⟩ := h
  refine tE_of (pe_disp a hall hl h0 h15) fun p hp => ?_
  refine b σ _ _ ⟨upd_same, xs, rfl, ?_, ?_⟩
  · have : xs.length = kvs.length := by simpa using congrArg List.length c
    omega
  · rw [upd_upd]
    have k := Grow.new (o := HO.dK (mergeK [] xs)) g.FH hp
    have rm := rep_merge (xs := []) (ys := []) c (dd F) rfl .nil
    exact q _ _ _ ((g.grow k).pushSh (.dk upd_same rm.1 (rm.2.mono k.FF)))

end
end Pf

namespace Pf
open PySem PySem.Spec L2
open PyProof.Rows (IntsAre AllBare)

/-! ### the end of a law -/
section
variable {P : Program} {w : World} {K : PySem.W.Frag} {mg mb : Str → Option Value} {a : Addr} {s1 : Shared} {us : List Value} {ns : List Int}
/-- the script's object -/
abbrev scO (us : List Value) : Obj := { cls := .type "list", data := .seq us.toArray }
/-- the abstract heap: the script alone, unless the module holds it -/
def scH (K : PySem.W.Frag) (a : Addr) (us : List Value) (ns : List Int) : Hp := fun b => if b = a ∧ K.lookup a = none then some (.frz (scO us) (.lst (ns.map V.int))) else none
theorem scH_some {b : Addr} {u : HO} (e : scH K a us ns b = some u) : b = a ∧ K.lookup a = none ∧ u = .frz (scO us) (.lst (ns.map V.int)) := by
  unfold scH at e
  split at e
  · rename_i h; cases e; exact ⟨h.1, h.2, rfl⟩
  · cases e
theorem scH_none {b : Addr} (h : ¬ (b = a ∧ K.lookup a = none)) : scH K a us ns b = none := if_neg h
theorem law_g {k : Nat} {fa : Addr} {fd : FuncData} {x : Str} {sp : Sp} (kin : K.In s1.heap) (top : s1.heap.Ns mainGlobals mg) (bt : s1.heap.Ns builtinsNs mb) (bt2 : ∀ x : Str, x ≠ "__name__" → mb x = bootBuiltins x) (lim : s1.heap.NoLimit) (gen : s1.gens = #[])
    (sc : s1.heap.get? a = some (scO us)) (it : IntsAre us ns) (few : ns.length ≤ sizeLine) (room : Rm k callerA)
    (run : ∀ base : Heap, K.In base → base.Ns mainGlobals mg → FnG P w K mg base k fa fd [x] sp) (bind : ∀ (s : Shared) (u : Value), BindsTo s fd ⟨[u], []⟩ [(x, u)])
    (goal : ∀ H : Hp, SqL K H a (ns.map V.int) → sp [.ref a] H (fun v _ => v = .bl true) fun _ _ _ => False) :
    codeAny (model P w) callerA (.call (.ref fa) ⟨[.ref a], []⟩) (fun r s' => r = .ok (.ret (.bool true)) ∧ OldK s1.heap s'.heap ∧ s'.os = s1.os ∧ AllBare s'.gens) s1 := by
  have vl := vals_ints it
  -- the heap without the script still holds what the module asks
  have low : ∀ {b : Addr} {o : Obj}, s1.heap.get? b = some o → (b = a → K.lookup a ≠ none) → (hidT s1.heap (scH K a us ns)).get? b = some o := fun e n => hidT_get e (scH_none fun h => n h.1 h.2)
  have lowNs : ∀ {b : Addr} {q : Str → Option Value}, s1.heap.Ns b q → (hidT s1.heap (scH K a us ns)).Ns b q := by
    rintro b q ⟨o, es, ep, e, d, r⟩
    refine ⟨o, es, ep, hidT_get e (scH_none fun h => ?_), d, r⟩
    rw [h.1, sc] at e
    cases e
    exact (nomatch (show Data.seq us.toArray _ = Data.dict es ep from d))
  have lowK : K.In (hidT s1.heap (scH K a us ns)) := fun b o e => low (kin b o e) fun z n => by rw [z, n] at e; cases e
  have ok : HOk P w (scH K a us ns) s1.heap := fun b u e => by
    obtain ⟨rfl, _, rfl⟩ := scH_some e
    exact ⟨sc, by rw [List.length_map]; exact few, us, _, vl, sc⟩
  have sq : SqL K (scH K a us ns) a (ns.map V.int) := by
    cases e : K.lookup a with
    | none => exact .inl (.inr ⟨scO us, if_pos ⟨rfl, e⟩⟩)
    | some o =>
      have e2 := kin a o e
      rw [sc] at e2
      cases e2
      exact .inr ⟨_, us.toArray, _, e, rfl, rfl, rfl, by rw [List.size_toArray, it.length]; exact few, by simpa using vl⟩
  obtain ⟨mc, l1, l2⟩ := lim
  have env : Env0 P w K mg (hidT s1.heap (scH K a us ns)) callerA [] s1 (scH K a us ns) :=
    ⟨rfl, ⟨lowK, lowNs top, ⟨mb, lowNs bt, bt2⟩, ⟨mc, lowNs l1, l2⟩⟩, fun b o e => of_hidT e, Nat.le_of_eq (hidT_size _ _), trivial, fun b hb => absurd (show b ∈ ([] : List Addr) from hb) List.not_mem_nil, ok, .of_eq gen⟩
  have go := (run _ lowK (lowNs top)).run callerA [] s1 _ ⟨[.ref a], []⟩ [.ref a] [.ref a] _ _ room env (bind s1 (.ref a)) (.cons rfl .nil) (goal _ sq)
  refine codeAny_mono go fun r s2 h => ?_
  match r, h with
  | .error e, ⟨_, _, _, _, _, _, _, _, _, _, _, _, z⟩ => exact False.elim z
  | .ok .next, h => exact False.elim h
  | .ok .brk, h => exact False.elim h
  | .ok .cont, h => exact False.elim h
  | .ok (.ret u), ⟨v, H2, os, bare, un, ok2, rv, q⟩ =>
    cases (show v = .bl true from q)
    cases (show u = Value.bool true from rv)
    refine ⟨rfl, .of_keep fun b o e => ?_, os, bare⟩
    cases q2 : scH K a us ns b with
    | none => exact un.keep b o e q2 (fun z => List.not_mem_nil (show b ∈ ([] : List Addr) from z)) (by simp)
    | some y =>
      obtain ⟨rfl, hn, rfl⟩ := scH_some q2
      have := (ok2 b _ (un.frzs b _ _ q2)).1
      rw [sc] at e
      cases e
      exact this
end
end Pf

namespace Pf
open PySem PySem.Spec L2

theorem takes_wf {X : Cx} : Takes X WF := fun u s' ⟨a, B, sI, pins, σ, H, cls, d, e, I, nb, up, sky, na, os, ag, z⟩ => False.elim z
theorem vainP {G : Cfg} {vs : List V} {H : Hp} {Q : VK} {E : XK} (h : SpP G (fun _ => .bad) vs H Q E) : False := by
  obtain ⟨_, _, _, _, z⟩ := h
  exact z
theorem vainM {G : Cfg} {vs : List V} {H : Hp} {Q : VK} {E : XK} (h : SpM G (fun _ _ => .bad) vs H Q E) : False := by
  obtain ⟨_, _, _, _, _, _, _, _, _, _, _, _, z⟩ := h
  exact z
section
variable {P : Program} {w : World} {K : PySem.W.Frag} {mg : Str → Option Value} {base : Heap}
theorem FnG.vain {k : Nat} {f : Addr} {fd : FuncData} {ps : List Str} {sp : Sp} (h : ∀ vs H Q E, sp vs H Q E → False) : FnG P w K mg base k f fd ps sp :=
  ⟨fun vs H Q E z => (h vs H Q E z).elim, fun _ _ _ H _ _ vs Q E _ _ _ _ z => (h vs H Q E z).elim⟩
theorem kb_of {x qual : Str} {st : Stmt} {f : Addr} {fd : FuncData} {ps ks : List Str} {n : Nat} {π : List Nat} (Fn : L2.Fun K x qual st f fd)
    (h : ∀ (kV doc pm : Value) (an : Option Addr) (cdv ct : Value) (us ws : List Value), us.length = n → ws.length = ks.length → bindArgs (PySem.W.fnOf x qual (defArgs st) (defBody st) (defScope st) .none kV doc pm an cdv ct) ⟨us, ks.zip ws⟩ = pure (ps.zip (perm π (us ++ ws)))) : KB K fd ps n ks π := by
  obtain ⟨oc, od, kV, doc, pm, an, cdv, ct, osl, rfl, _⟩ := Fn.ex
  exact fun s us ws _ h1 h2 => .of_eq (h kV doc pm an cdv ct us ws h1 h2)
/-- the row's walk, from the law's promise and what it computes -/
theorem walk_g {l : PySem.W.OpenLaw} {n k : Nat} {q : Program} {loose : List Str} {XP : (Str → Option Value) → Heap → Prop} {YP : World → Heap → Prop} {d : PySem.DefRec} {K : Params → PySem.W.Frag} {x : Str} {f : List D → RP}
    (hn : l.most = some n) (hn2 : n ≤ sizeLine) (hdf : d.params.defaults = []) (hr : Rm k callerA)
    (hY : ∀ (w : World) (h : Heap), YP w h → (K w.params).In h)
    (F : ∀ (w : World) (mg : Str → Option Value) (fa : Addr) (h : Heap), (K w.params).In h → h.Ns mainGlobals mg → mg d.name = some (.ref fa) →
      ∃ fd : FuncData, (∀ (s : Shared) (u : Value), BindsTo s fd ⟨[u], []⟩ [(x, u)]) ∧ ∀ base : Heap, (K w.params).In base → base.Ns mainGlobals mg → FnG l.prog w (K w.params) mg base k fa fd [x] (SpP ⟨K w.params, mg⟩ f))
    (plain : ∀ ns : List Int, ns.length ≤ n → (∀ z ∈ ns, Builtin.Int.intBits z ≤ 1048576) → f [.rol (ns.map D.int)] = .ok (.sh (.bl true))) :
    PySem.W.WalkO q loose XP YP l.row.toRowW d [] (fun f vs => PySem.call f vs) := by
  refine Att.attach_callB hn hdf fun w s0 s1 mg mb fa o pm cd doc a us ns G Y ho hd hcd hmg hobj it few bits gen => ?_
  have kin := hY w _ Y
  obtain ⟨fd, hb, hF⟩ := F w mg fa _ kin G.T.g hmg
  refine law_g kin G.T.g G.T.b G.T.builtins G.T.nolimit gen hobj it (Nat.le_trans few hn2) hr hF hb fun H sq => ?_
  have allI : ∀ ns : List Int, Reps ⟨K w.params, mg⟩ H (ns.map V.int) (ns.map D.int) := fun ns => by
    induction ns with
    | nil => exact .nil
    | cons i ns ih => exact .cons .int ih
  refine ⟨H, [.rol (ns.map D.int)], Same.refl H, .cons (.rol sq (allI ns)) .nil, ?_⟩
  rw [plain ns few bits]
  intro v F' H' _ r
  have r : Rep _ F' v (.bl true) := r
  cases r
  rfl
/-- a body's context -/
abbrev bX (P : Program) (w : World) (K : PySem.W.Frag) (mg : Str → Option Value) (base : Heap) (N : List Str) (qual : Str) (st : Stmt) (f : Addr) (cdv : Value) (A : Around) (outer : List PySem.Env) (s : Shared) (H : Hp) (E : XK) : Cx := cxOf (L2.CX P w) P w K mg base N qual (defScope st) f cdv A outer s H E
theorem cok_b {N ps : List Str} {qual : Str} {st : Stmt} {f : Addr} {cdv : Value} {A : Around} {outer : List PySem.Env} {s : Shared} {H : Hp} {E : XK} (S : FnScope N ps (defScope st)) : Cok (bX P w K mg base N qual st f cdv A outer s H E) := ⟨rfl, passes_of rfl, S.nd⟩
theorem takes_b {N : List Str} {qual : Str} {st : Stmt} {f : Addr} {cdv : Value} {A : Around} {outer : List PySem.Env} {s : Shared} {H : Hp} {E : XK} : Takes (bX P w K mg base N qual st f cdv A outer s H E) (fun cls d _ H' => E cls d H') := takes_of rfl rfl rfl rfl
end
/-- a block's names, checked -/
def blkB (N : List Str) (sc scope : Scope) (own : List (Str × Nat)) : Bool :=
  (scope.kind == .function) && scope.names.all (fun y => decide (scope.names.lookup y.1 = some y.2)) && own.all (fun p => decide (N[p.2]? = some p.1)) &&
    scope.names.all (fun y => !decide (y.2 = .free) || (decide (sc.names.lookup y.1 = some .cell) || decide (sc.names.lookup y.1 = some .free))) &&
    scope.names.all (fun y => !(decide (y.2 = .local) || decide (y.2 = .cell)) || (decide (y.1 ∈ own.map (·.1)) || !decide (y.1 ∈ N)))
theorem blk_of {N : List Str} {sc scope : Scope} {own : List (Str × Nat)} (h : blkB N sc scope own = true) (hk : scope.kind = .function := by rfl) : BlkOk N sc scope own := by
  unfold blkB at h
  simp only [Bool.and_eq_true, List.all_eq_true, Bool.or_eq_true, decide_eq_true_eq, Bool.not_eq_true', decide_eq_false_iff_not, Bool.or_eq_false_iff] at h
  obtain ⟨⟨⟨⟨_, h2⟩, h3⟩, h4⟩, h5⟩ := h
  refine ⟨hk, h2, h3, fun y hy e => ?_, fun y hy e => ?_⟩
  · rcases h4 y hy with z | z
    · exact absurd e z
    · exact z
  · rcases h5 y hy with z | z
    · rcases e with e | e
      · exact absurd e z.1
      · exact absurd e z.2
    · exact z
section
variable {P : Program} {w : World} {K : PySem.W.Frag} {mg : Str → Option Value} {base : Heap}
open PyProof.Rows (envOfC)
theorem okPn {x qual : Str} {st : Stmt} {f : Addr} {fd : FuncData} {N ps : List Str} {k np n : Nat} {g : Env → RS} (Fn : L2.Fun K x qual st f fd) (S : FnScope N ps (defScope st)) (e1 : ps.length = np) (e2 : N.length = n)
    (hb : ∀ (cdv : Value) (A : Around) (outer : List PySem.Env) (s : Shared) (H : Hp) (E : XK), Rm k (A.deeper (envOfC qual (defScope st) s.heap.objs.size f cdv)) →
      SSs (bX P w K mg base N qual st f cdv A outer s H E) [] (fun cls d _ H' => E cls d H') (defBody st) g) : FnG P w K mg base (k + 1) f fd ps (SpP ⟨K, mg⟩ (denP np n g)) := by
  subst e1 e2
  exact okP Fn S hb
theorem okMn {x qual : Str} {st : Stmt} {f : Addr} {fd : FuncData} {N ps : List Str} {k np n : Nat} {g : Env → RS} (Fn : L2.Fun K x qual st f fd) (S : FnScope N ps (defScope st)) (e1 : ps.length = np) (e2 : N.length = n)
    (hb : ∀ (cdv : Value) (A : Around) (outer : List PySem.Env) (s : Shared) (H : Hp) (E : XK), Rm k (A.deeper (envOfC qual (defScope st) s.heap.objs.size f cdv)) →
      SSs (bX P w K mg base N qual st f cdv A outer s H E) [0] (fun cls d _ H' => E cls d H') (defBody st) g) : FnG P w K mg base (k + 1) f fd ps (SpM ⟨K, mg⟩ (denM np n g)) := by
  subst e1 e2
  exact okM Fn S hb
end
end Pf

namespace Pf
open PySem PySem.Spec L2
/-! ### one step of what is computed, for rewriting -/
section
variable {α β : Type} {ρ : Env} {i : Nat} {m : List Nat} {d : D} {xs ds ds0 ds1 : List D} {o o0 o1 : O} {t : T} {ts : List T}
theorem q_od1 : (O.lst xs).d = .lst xs := rfl
theorem q_od2 {c : Str} {fs : List (Str × D)} : (O.ins c fs).d = .ins c fs := rfl
theorem q_od3 {kvs : List (Key × D)} : (O.dk kvs).d = .dk kvs := rfl
theorem q_od4 {kvs : List (List Key × D)} : (O.dt kvs).d = .dt kvs := rfl
theorem q_bind {a : α} {k : α → Env → R β} : R.bind (.ok a ρ) k = k a ρ := rfl
theorem q_bindx {e : Exn} {k : α → Env → R β} : R.bind (.ex e ρ) k = .ex e ρ := rfl
theorem q_s {a : α} {k : α → Env → RS} : R.s (.ok a ρ) k = k a ρ := rfl
theorem q_sx {e : Exn} {k : α → Env → RS} : R.s (.ex e ρ) k = .ex e ρ := rfl
theorem q_nx {k : Env → RS} : RS.bind (.nx ρ) k = k ρ := rfl
theorem q_rt {k : Env → RS} : RS.bind (.rt t ρ) k = .rt t ρ := rfl
theorem q_bk {k : Env → RS} : RS.bind (.bk ρ) k = .bk ρ := rfl
theorem q_ct {k : Env → RS} : RS.bind (.ct ρ) k = .ct ρ := rfl
theorem q_ex {e : Exn} {k : Env → RS} : RS.bind (.ex e ρ) k = .ex e ρ := rfl
theorem q_seq {g h : Env → RS} : sSeq g h ρ = (g ρ).bind h := rfl
theorem q_nil : sNil ρ = .nx ρ := rfl
theorem q_if {c : Env → R Bool} {g h : Env → RS} : sIf c g h ρ = (c ρ).s fun b ρ1 => if b = true then g ρ1 else h ρ1 := rfl
theorem q_expr {fa : Env → R T} : sExpr fa ρ = (fa ρ).s fun _ ρ1 => .nx ρ1 := rfl
theorem q_set {fa : Env → R T} : sSet m i fa ρ = (fa ρ).s fun t ρ1 => put m i t ρ1 := rfl
theorem q_put : put m i (.sh d) ρ = .nx (ρ.set i (some (.sh d))) := rfl
theorem q_puto : put m i (.own o) ρ = .nx (ρ.set i (some (.own o))) := rfl
def lookP (m : List Nat) (i j : Nat) (ρ : Env) : Option (Option T) → RS
  | some (some (.sh d)) => .nx (ρ.set i (some (.sh d)))
  | some (some (.own o)) => if j ∈ m then .bad else .nx ((ρ.set j (some (.sh o.d))).set i (some (.sh o.d)))
  | _ => .bad
theorem q_puta {j : Nat} : put m i (.al j) ρ = lookP m i j ρ ρ[j]? := by
  show (match frz m ρ (.al j) with
    | some (d, ρ1) => RS.nx (ρ1.set i (some (.sh d)))
    | none => .bad) = _
  unfold frz lookP
  dsimp only
  generalize ρ[j]? = o
  cases o with
  | none => rfl
  | some o =>
    cases o with
    | none => rfl
    | some t =>
      cases t with
      | sh d => rfl
      | own o => dsimp only; by_cases hj : j ∈ m <;> simp only [hj, if_true, if_false]
      | al k => rfl
theorem q_lookPs {j : Nat} : lookP m i j ρ (some (some (.sh d))) = .nx (ρ.set i (some (.sh d))) := rfl
theorem q_lookPo {j : Nat} : lookP m i j ρ (some (some (.own o))) = if j ∈ m then .bad else .nx ((ρ.set j (some (.sh o.d))).set i (some (.sh o.d))) := rfl
theorem q_ret0 {fa : Env → R T} : sRet m fa ρ = (fa ρ).s fun t ρ1 => ret m t ρ1 := rfl
theorem q_ret : ret m (.sh d) ρ = .rt (.sh d) ρ := rfl
theorem q_reto : ret m (.own o) ρ = .rt (.own o) ρ := rfl
def lookR (m : List Nat) (j : Nat) (ρ : Env) : Option (Option T) → RS
  | some (some (.sh d)) => .rt (.sh d) ρ
  | some (some (.own o)) => if j ∈ m then .bad else .rt (.own o) (ρ.set j none)
  | _ => .bad
theorem q_reta {j : Nat} : ret m (.al j) ρ = lookR m j ρ ρ[j]? := rfl
theorem q_lookRs {j : Nat} : lookR m j ρ (some (some (.sh d))) = .rt (.sh d) ρ := rfl
theorem q_lookRo {j : Nat} : lookR m j ρ (some (some (.own o))) = if j ∈ m then .bad else .rt (.own o) (ρ.set j none) := rfl
theorem q_c : eC d ρ = .ok (.sh d) ρ := rfl
def lookV (i : Nat) (ρ : Env) : Option (Option T) → R T
  | some (some (.sh d)) => .ok (.sh d) ρ
  | some (some (.own _)) => .ok (.al i) ρ
  | _ => .bad
theorem q_v : eV i ρ = lookV i ρ ρ[i]? := rfl
theorem q_lookVs : lookV i ρ (some (some (.sh d))) = .ok (.sh d) ρ := rfl
theorem q_lookVo : lookV i ρ (some (some (.own o))) = .ok (.al i) ρ := rfl
theorem q_view : view ρ (.sh d) = some d := rfl
theorem q_viewo : view ρ (.own o) = some o.d := rfl
theorem q_viewa : view ρ (.al i) = slotD ρ[i]? := rfl
theorem q_slots : slotD (some (some (.sh d))) = some d := rfl
theorem q_sloto : slotD (some (some (.own o))) = some o.d := rfl
theorem q_opt {b : β} : opt (some b) ρ = .ok b ρ := rfl
theorem q_e1 {op : D → Option T} {fa : Env → R T} : e1 op fa ρ = (fa ρ).bind fun ta ρ1 => opt ((view ρ1 ta).bind op) ρ1 := rfl
theorem q_e2 {op : D → D → Option T} {fa fb : Env → R T} : e2 op fa fb ρ = (fa ρ).bind fun ta ρ1 => (fb ρ1).bind fun tb ρ2 => opt ((view ρ2 ta).bind fun a => (view ρ2 tb).bind fun b => op a b) ρ2 := rfl
theorem q_eN {op : List D → Option T} {fs : Env → R (List T)} : eN op fs ρ = (fs ρ).bind fun ts ρ1 => opt ((views ρ1 ts).bind op) ρ1 := rfl
theorem q_an : aNil ρ = .ok [] ρ := rfl
theorem q_ac {fa : Env → R T} {fs : Env → R (List T)} : aCons fa fs ρ = (fa ρ).bind fun t ρ1 => (fs ρ1).bind fun ts ρ2 => .ok (t :: ts) ρ2 := rfl
theorem q_views0 : views ρ [] = some [] := rfl
theorem q_views : views ρ (t :: ts) = (view ρ t).bind fun d => (views ρ ts).map (d :: ·) := by
  show (match view ρ t, views ρ ts with
    | some d, some ds => some (d :: ds)
    | _, _ => none) = _
  cases view ρ t with
  | none => rfl
  | some d => cases views ρ ts <;> rfl
theorem q_shs0 : shs [] = some [] := rfl
theorem q_shs : shs (.sh d :: ts) = (shs ts).map (d :: ·) := rfl
def frzK (m : List Nat) (t : T) (ρ : Env) : R T := match frz m ρ t with
  | some (d, ρ2) => .ok (.sh d) ρ2
  | none => .bad
theorem q_f {fa : Env → R T} : eF m fa ρ = (fa ρ).bind fun t ρ1 => frzK m t ρ1 := rfl
theorem q_frz : frzK m (.sh d) ρ = .ok (.sh d) ρ := rfl
theorem q_frzo : frzK m (.own o) ρ = .ok (.sh o.d) ρ := rfl
def lookF (m : List Nat) (j : Nat) (ρ : Env) : Option (Option T) → R T
  | some (some (.sh d)) => .ok (.sh d) ρ
  | some (some (.own o)) => if j ∈ m then .bad else .ok (.sh o.d) (ρ.set j (some (.sh o.d)))
  | _ => .bad
theorem q_frza {j : Nat} : frzK m (.al j) ρ = lookF m j ρ ρ[j]? := by
  unfold frzK frz lookF
  dsimp only
  generalize ρ[j]? = o
  cases o with
  | none => rfl
  | some o =>
    cases o with
    | none => rfl
    | some t =>
      cases t with
      | sh d => rfl
      | own o => dsimp only; by_cases hj : j ∈ m <;> simp only [hj, if_true, if_false]
      | al k => rfl
theorem q_lookFs {j : Nat} : lookF m j ρ (some (some (.sh d))) = .ok (.sh d) ρ := rfl
theorem q_lookFo {j : Nat} : lookF m j ρ (some (some (.own o))) = if j ∈ m then .bad else .ok (.sh o.d) (ρ.set j (some (.sh o.d))) := rfl
def mkL (ρ : Env) : Option (List D) → R T
  | some ds => if ds.length ≤ sizeLine then .ok (.own (.lst ds)) ρ else .bad
  | none => .bad
def mkT (ρ : Env) : Option (List D) → R T
  | some ds => if ds.length ≤ sizeLine then .ok (.sh (.tup ds)) ρ else .bad
  | none => .bad
theorem q_lst {fs : Env → R (List T)} : eLst fs ρ = (fs ρ).bind fun ts ρ1 => mkL ρ1 (shs ts) := by
  rfl
theorem q_tup {fs : Env → R (List T)} : eTup fs ρ = (fs ρ).bind fun ts ρ1 => mkT ρ1 (shs ts) := by
  rfl
theorem q_mkL : mkL ρ (some ds) = if ds.length ≤ sizeLine then .ok (.own (.lst ds)) ρ else .bad := rfl
theorem q_mkT : mkT ρ (some ds) = if ds.length ≤ sizeLine then .ok (.sh (.tup ds)) ρ else .bad := rfl
theorem small {n : Nat} (h : n ≤ 1000) : n ≤ sizeLine := Nat.le_trans h (by decide)
theorem q_cB {fa : Env → R T} : cB fa ρ = (fa ρ).bind fun t ρ1 => opt ((view ρ1 t).bind isBl) ρ1 := rfl
theorem q_cV {fa : Env → R T} : cV fa ρ = (fa ρ).bind fun t ρ1 => opt ((view ρ1 t).bind truD) ρ1 := rfl
theorem q_cAnd {fa fb : Env → R Bool} : cAnd fa fb ρ = (fa ρ).bind fun a ρ1 => if a = true then fb ρ1 else .ok false ρ1 := rfl
theorem q_cOr {fa fb : Env → R Bool} : cOr fa fb ρ = (fa ρ).bind fun a ρ1 => if a = true then .ok true ρ1 else fb ρ1 := rfl
theorem q_cNot {fa : Env → R Bool} : cNot fa ρ = (fa ρ).bind fun a ρ1 => .ok (!a) ρ1 := rfl
theorem q_eIf {c : Env → R Bool} {fa fb : Env → R T} : eIf c fa fb ρ = (c ρ).bind fun b ρ1 => if b = true then fa ρ1 else fb ρ1 := rfl
theorem q_isBl {b : Bool} : isBl (.bl b) = some b := rfl
def andK (fb : Env → R T) (ρ : Env) : Option Bool → R T
  | some true => fb ρ
  | some false => .ok (.sh (.bl false)) ρ
  | none => .bad
def orK (fb : Env → R T) (ρ : Env) : Option Bool → R T
  | some true => .ok (.sh (.bl true)) ρ
  | some false => fb ρ
  | none => .bad
def notK (ρ : Env) : Option Bool → R T
  | some b => .ok (.sh (.bl (!b))) ρ
  | none => .bad
theorem q_eAnd {fa fb : Env → R T} : eAnd fa fb ρ = (fa ρ).bind fun t ρ1 => andK fb ρ1 ((view ρ1 t).bind isBl) := rfl
theorem q_eOr {fa fb : Env → R T} : eOr fa fb ρ = (fa ρ).bind fun t ρ1 => orK fb ρ1 ((view ρ1 t).bind isBl) := rfl
theorem q_eNot {fa : Env → R T} : eNot fa ρ = (fa ρ).bind fun t ρ1 => notK ρ1 ((view ρ1 t).bind isBl) := rfl
theorem q_andT {fb : Env → R T} : andK fb ρ (some true) = fb ρ := rfl
theorem q_andF {fb : Env → R T} : andK fb ρ (some false) = .ok (.sh (.bl false)) ρ := rfl
theorem q_orT {fb : Env → R T} : orK fb ρ (some true) = .ok (.sh (.bl true)) ρ := rfl
theorem q_orF {fb : Env → R T} : orK fb ρ (some false) = fb ρ := rfl
theorem q_notK {b : Bool} : notK ρ (some b) = .ok (.sh (.bl (!b))) ρ := rfl
/-! stores -/
theorem q_ix {fv fk : Env → R T} : sIx i fv fk ρ = (fv ρ).s fun tv ρ1 => sIxJ i fk tv ρ1 := rfl
def lookJ (i : Nat) (fk : Env → R T) (d : D) (ρ : Env) : Option (Option T) → RS
  | some (some (.own (.lst _))) => (fk ρ).s fun tk ρ2 => sIxK i d tk ρ2
  | _ => .bad
theorem q_ixJ {fk : Env → R T} : sIxJ i fk (.sh d) ρ = lookJ i fk d ρ ρ[i]? := by
  unfold sIxJ lookJ
  generalize ρ[i]? = o
  cases o with
  | none => rfl
  | some o =>
    cases o with
    | none => rfl
    | some t => cases t with
      | own o => cases o <;> rfl
      | _ => rfl
theorem q_lookJ {fk : Env → R T} : lookJ i fk d ρ (some (some (.own (.lst ds)))) = (fk ρ).s fun tk ρ2 => sIxK i d tk ρ2 := rfl
def stK (i : Nat) (d : D) (ρ : Env) (ds : List D) : Option Nat → RS
  | some j => .nx (ρ.set i (some (.own (.lst (ds.set j d)))))
  | none => .bad
def lookK (i : Nat) (d : D) (ρ : Env) : Option D → Option (Option T) → RS
  | some (.int k), some (some (.own (.lst ds))) => stK i d ρ ds (L2.ixN ds.length k)
  | _, _ => .bad
theorem q_ixK {tk : T} : sIxK i d tk ρ = lookK i d ρ (view ρ tk) ρ[i]? := by
  unfold sIxK lookK stK
  rfl
theorem q_lookK {k : Int} : lookK i d ρ (some (.int k)) (some (some (.own (.lst ds)))) = stK i d ρ ds (L2.ixN ds.length k) := rfl
theorem q_stK {j : Nat} : stK i d ρ ds (some j) = .nx (ρ.set i (some (.own (.lst (ds.set j d))))) := rfl
/-! calls -/
theorem q_callP {f : List D → RP} : callP f ds ρ = match f ds with
  | .ok r => .ok r ρ
  | .ex x => .ex x ρ
  | .bad => .bad := rfl
def callO (f : List D → RP) (ρ : Env) : Option (List D) → R T
  | some ds => callP f ds ρ
  | none => .bad
theorem q_call {f : List D → RP} {fs : Env → R (List T)} : eCall f fs ρ = (fs ρ).bind fun ts ρ1 => callO f ρ1 (shs ts) := rfl
theorem q_callO {f : List D → RP} : callO f ρ (some ds) = callP f ds ρ := rfl
def resC (i : Nat) (ρ : Env) : RM → R T
  | .ok r o1 => .ok r (ρ.set i (some (.own o1)))
  | .ex x o1 => .ex x (ρ.set i (some (.own o1)))
  | .bad => .bad
def lookC (f : O → List D → RM) (i : Nat) (ρ : Env) : Option (Option T) → Option (List D) → R T
  | some (some (.own o0)), some ds => resC i ρ (f o0 ds)
  | _, _ => .bad
def callK (f : O → List D → RM) (ts : List T) (ρ1 : Env) : R T := match ts with
  | .al i :: ts' => lookC f i ρ1 ρ1[i]? (shs ts')
  | _ => .bad
theorem q_callM {f : O → List D → RM} {fs : Env → R (List T)} : eCallM f fs ρ = (fs ρ).bind fun ts ρ1 => callK f ts ρ1 := rfl
theorem q_callK {f : O → List D → RM} : callK f (.al i :: ts) ρ = lookC f i ρ ρ[i]? (shs ts) := rfl
theorem q_lookC {f : O → List D → RM} : lookC f i ρ (some (some (.own o0))) (some ds) = resC i ρ (f o0 ds) := rfl
theorem q_resC : resC i ρ (.ok t o1) = .ok t (ρ.set i (some (.own o1))) := rfl
theorem q_resCx {x : Exn} : resC i ρ (.ex x o1) = .ex x (ρ.set i (some (.own o1))) := rfl
def lookL (k : O → RM) : Option (Option T) → RM
  | some (some (T.own o1)) => k o1
  | _ => .bad
theorem q_lent {k : O → RM} : lent0 ρ k = lookL k ρ[0]? := rfl
theorem q_lookL {k : O → RM} : lookL k (some (some (.own o))) = k o := rfl
theorem q_resM : resM (.rt (.sh d) ρ) = lent0 ρ fun ds1 => .ok (.sh d) ds1 := rfl
theorem q_resMo : resM (.rt (.own o) ρ) = lent0 ρ fun ds1 => .ok (.own o) ds1 := rfl
theorem q_resMn : resM (.nx ρ) = lent0 ρ fun ds1 => .ok (.sh .non) ds1 := rfl
theorem q_resMx {x : Exn} : resM (.ex x ρ) = lent0 ρ fun ds1 => .ex x ds1 := rfl
theorem q_resP : resP (.rt (.sh d) ρ) = .ok (.sh d) := rfl
theorem q_resPo : resP (.rt (.own o) ρ) = .ok (.own o) := rfl
theorem q_resPn : resP (.nx ρ) = .ok (.sh .non) := rfl
theorem q_resPx {x : Exn} : resP (.ex x ρ) = .ex x := rfl
theorem q_denM {np n : Nat} {g : Env → RS} (h : ds.length + 1 = np) : denM np n g o0 ds = resM (g (startE n (T.own o0 :: ds.map T.sh))) := if_pos h
theorem q_denP {np n : Nat} {g : Env → RS} (h : ds.length = np) : denP np n g ds = resP (g (startE n (ds.map T.sh))) := if_pos h
/-! operators -/
theorem q_asBl {g : D → D → Option Bool} {a b : D} : asBl g a b = (g a b).map fun k => .sh (.bl k) := rfl
theorem q_lt {a b : Int} : ltD (.int a) (.int b) = some (decide (a < b)) := rfl
theorem q_le {a b : Int} : leD (.int a) (.int b) = some (decide (a ≤ b)) := rfl
theorem q_gt {a b : Int} : gtD (.int a) (.int b) = some (decide (b < a)) := rfl
theorem q_ge {a b : Int} : geD (.int a) (.int b) = some (decide (b ≤ a)) := rfl
theorem q_add {a b : Int} : addD (.int a) (.int b) = some (.sh (.int (a + b))) := rfl
theorem q_sub {a b : Int} : subD (.int a) (.int b) = some (.sh (.int (a - b))) := rfl
theorem q_mul {a b : Int} : mulD (.int a) (.int b) = if mulOk a b = true then some (.sh (.int (a * b))) else none := rfl
theorem q_fdiv {a b : Int} : fdivD (.int a) (.int b) = if divOk b = true then some (.sh (.int (a.fdiv b))) else none := rfl
theorem q_mod {a b : Int} : modD (.int a) (.int b) = if b = 0 then none else some (.sh (.int (a.fmod b))) := rfl
theorem q_neg {a : Int} : negD (.int a) = some (.sh (.int (-a))) := rfl
theorem q_int {a : Int} : intD [.int a] = some (.sh (.int a)) := rfl
theorem q_intb {b : Bool} : intD [.bl b] = some (.sh (.int (if b then 1 else 0))) := rfl
theorem q_abs {a : Int} : absD [.int a] = some (.sh (.int (if a < 0 then -a else a))) := rfl
theorem q_len : lenD [.lst xs] = some (.sh (.int xs.length)) := rfl
theorem q_lent1 : lenD [.tup xs] = some (.sh (.int xs.length)) := rfl
theorem q_lenr : lenD [.rol xs] = some (.sh (.int xs.length)) := rfl
theorem q_ixl {k : Int} : ixD (.lst xs) (.int k) = (L2.atI xs k).map .sh := rfl
theorem q_ixt {k : Int} : ixD (.tup xs) (.int k) = (L2.atI xs k).map .sh := rfl
theorem q_ixr {k : Int} : ixD (.rol xs) (.int k) = (L2.atI xs k).map .sh := rfl
theorem q_trub {b : Bool} : truD (.bl b) = some b := rfl
theorem q_trun : truD .non = some false := rfl
theorem q_trui {a : Int} : truD (.int a) = some (a != 0) := rfl
theorem q_trul : truD (.lst xs) = some (!xs.isEmpty) := rfl
theorem q_trut : truD (.tup xs) = some (!xs.isEmpty) := rfl
theorem q_isn {a : D} : isD a .non = some (isNonD a) := by cases a <;> rfl
theorem q_isNn {a : D} : isNotD a .non = some (!isNonD a) := by cases a <;> rfl
theorem q_isiT {bs : List String} {fa : Env → R T} : eIsiT bs fa ρ = (fa ρ).bind fun t ρ1 => opt ((view ρ1 t).bind fun d => (tyName d).bind fun a => (isiAll a bs).map fun k => T.sh (.bl k)) ρ1 := rfl
theorem at0 {a : α} {xs : List α} : L2.atI (a :: xs) 0 = some a := by
  unfold L2.atI L2.ixN
  simp
theorem at1 {a b : α} {xs : List α} : L2.atI (a :: b :: xs) 1 = some b := by
  unfold L2.atI L2.ixN
  have h : (1 : Int) < ((a :: b :: xs).length : Nat) := by simp only [List.length_cons]; omega
  rw [if_pos (by decide), if_pos h]
  rfl
theorem at2 {a b c : α} {xs : List α} : L2.atI (a :: b :: c :: xs) 2 = some c := by
  unfold L2.atI L2.ixN
  have h : (2 : Int) < ((a :: b :: c :: xs).length : Nat) := by simp only [List.length_cons]; omega
  rw [if_pos (by decide), if_pos h]
  rfl
theorem ixN1 {n : Nat} : L2.ixN (n + 1 + 1) 1 = some 1 := by
  unfold L2.ixN
  rw [if_pos (by decide), if_pos (by omega)]
  rfl
theorem ixN2 {n : Nat} : L2.ixN (n + 1 + 1 + 1) 2 = some 2 := by
  unfold L2.ixN
  rw [if_pos (by decide), if_pos (by omega)]
  rfl
end
end Pf

namespace Pf
open PySem PySem.Spec L2

/-! ### plain facts -/
def Big (z : Int) : Prop := Builtin.Int.intBits z ≤ 1048576
theorem bits64 {z : Int} (h : z.natAbs < 2 ^ 64) : Builtin.Int.intBits z ≤ 64 := intBits_le_iff.mpr h
theorem mulOk_of {a b : Int} {m n : Nat} (ha : Builtin.Int.intBits a ≤ m) (hb : Builtin.Int.intBits b ≤ n) (h : m + n ≤ 134217728) : mulOk a b = true := by
  unfold mulOk
  refine decide_eq_true ?_
  omega
theorem mulOk64 {a b : Int} (ha : a.natAbs < 2 ^ 64) (hb : b.natAbs < 2 ^ 64) : mulOk a b = true := mulOk_of (bits64 ha) (bits64 hb) (by decide)
theorem divOk_of {b : Int} (h : 0 < b) (h2 : b < 1073741824) : divOk b = true := by
  unfold divOk
  rw [Bool.or_eq_true]
  exact .inl (decide_eq_true ⟨by omega, by omega⟩)
theorem powOk {a b : Int} (h : 0 ≤ b) (h2 : b ≤ 1000000) (h3 : a.natAbs < 2 ^ 64) : powD (.int a) (.int b) = some (.sh (.int (a ^ b.toNat))) := by
  unfold powD
  dsimp only
  rw [if_pos (decide_eq_true ⟨h, h2, h3⟩)]
theorem toPys_int : ∀ cs : List Int, toPys (cs.map D.int) = some (cs.map PyData.int)
  | [] => rfl
  | c :: cs => by
    show (match toPy (.int c), toPys (cs.map D.int) with
      | some p, some ps => some (p :: ps)
      | _, _ => none) = _
    rw [toPys_int cs]
    rfl
theorem can_int : ∀ cs : List Int, PyData.canLayAll0 (cs.map PyData.int) = true
  | [] => rfl
  | c :: cs => by
    rw [List.map_cons]
    unfold PyData.canLayAll0
    rw [can_int cs]
    rfl
theorem depth_int : ∀ cs : List Int, PyData.depthAll (cs.map PyData.int) = 0
  | [] => rfl
  | c :: cs => by
    rw [List.map_cons]
    unfold PyData.depthAll
    rw [depth_int cs]
    rfl
theorem shaped_int (cs : List Int) : SeqAt.shaped (.list (cs.map PyData.int)) = true := by
  unfold SeqAt.shaped
  have h1 : PyData.canLay0 (.list (cs.map PyData.int)) = true := can_int cs
  have h2 : PyData.depth (.list (cs.map PyData.int)) = 1 := by
    show PyData.depthAll _ + 1 = 1
    rw [depth_int]
  rw [h1, h2]
  rfl
/-- a list of ints against the empty list -/
theorem ne_empty (cs : List Int) : neD (.lst (cs.map D.int)) (.lst []) = some (!cs.isEmpty) := by
  unfold neD eqD
  dsimp only
  have e1 : toPy (.lst (cs.map D.int)) = some (.list (cs.map PyData.int)) := by
    show (toPys _).map PyData.list = _
    rw [toPys_int]; rfl
  have e2 : toPy (.lst []) = some (.list []) := rfl
  rw [e1, e2]
  have e3 : SeqAt.shaped (.list []) = true := shaped_int []
  simp only [shaped_int, e3, Bool.and_self, if_true, Option.map_some]
  cases cs with
  | nil => rfl
  | cons c cs => rfl
/-! ### the source of numbers -/
def driftT (fc : Env → R T) (k1 k2 q1 k3 k4 q2 k5 k6 k7 q3 : Int) : Env → RS :=
  sSeq (sIf (cB (e2 (asBl gtD) (e2 ixD (eV 0) (eC (.int 2))) (eC (.int 0)))) (sSeq (sSet [0] 2 (eN intD (aCons (e2 ixD (eV 0) (eC (.int 2))) (aNil)))) (sSeq (sIx 0 (e2 fdivD (eV 2) (eV 1)) (eC (.int 2))) (sRet [0] (e2 modD (eN intD (aCons (eV 2) (aNil))) (eV 1))))) (sNil))
  (sSeq (sSet [0] 3 (e2 ixD (eV 0) (eC (.int 1))))
  (sSeq (sIx 0 (eF [0] (e2 addD (eV 3) (eC (.int 1)))) (eC (.int 1)))
  (sSeq (sSet [0] 4 (e2 addD (e2 mulD (eC (.int k1)) (eV 3)) (eC (.int k2))))
  (sSeq (sIf (cB (e2 (asBl neD) (e2 ixD (eV 0) (eC (.int 0))) (eLst (aNil)))) (sSet [0] 4 (e2 ixD (e2 ixD (eV 0) (eC (.int 0))) (e2 modD (eN intD (aCons (eV 3) (aNil))) (eN lenD (aCons (e2 ixD (eV 0) (eC (.int 0))) (aNil)))))) (sNil))
  (sSeq (sIf (cAnd (cB (e2 (asBl ltD) (eV 3) (eN lenD (aCons (e2 ixD (eV 0) (eC (.int 0))) (aNil))))) (cB (e2 (asBl geD) (eN absD (aCons (eV 4) (aNil))) (e2 powD (eC (.int 10)) (eC (.int 18))))))
    (sSeq (sSet [0] 2 (e2 addD (e2 mulD (eC (.int 2)) (e2 subD (eN absD (aCons fc (aNil))) (e2 powD (eC (.int 10)) (eC (.int 18))))) (eN intD (aCons (e2 (asBl ltD) (eV 4) (eC (.int 0))) (aNil))))) (sSeq (sIx 0 (e2 fdivD (eV 2) (eV 1)) (eC (.int 2))) (sRet [0] (e2 modD (eN intD (aCons (eV 2) (aNil))) (eV 1))))) (sNil))
  (sSeq (sSet [0] 5 (e2 modD (eN intD (aCons (e2 powD (e2 addD (e2 addD (e2 modD (eN intD (aCons (eV 4) (aNil))) (eC (.int q1))) (e2 mulD (eC (.int k3)) (eV 3))) (eC (.int k4))) (eC (.int 5))) (aNil))) (eC (.int q2))))
  (sSeq (sSet [0] 5 (e2 modD (eN intD (aCons (e2 powD (e2 addD (e2 addD (e2 mulD (eV 5) (e2 addD (e2 mulD (eC (.int 2)) (eV 3)) (eC (.int k5)))) (e2 mulD (e2 mulD (eC (.int k6)) (eV 3)) (eV 3))) (eC (.int k7))) (eC (.int 3))) (aNil))) (eC (.int q3))))
  (sRet [0] (e2 modD (eN intD (aCons (e2 fdivD (eV 5) (eC (.int 64))) (aNil))) (eV 1))))))))))
/-- the source's state: at most n turns -/
structure Src (n : Nat) (ds : List D) : Prop where
  ex : ∃ (cs : List Int) (t l : Int), ds = [.lst (cs.map D.int), .int t, .int l] ∧ 0 ≤ t ∧ t ≤ n ∧ 0 ≤ l ∧ (∀ c ∈ cs, Big c) ∧ cs.length ≤ 64
theorem Src.mono {m n : Nat} {ds : List D} (h : Src m ds) (l : m ≤ n) : Src n ds := by
  obtain ⟨cs, t, k, h1, h2, h3, h4⟩ := h.ex
  exact ⟨cs, t, k, h1, h2, by omega, h4⟩
theorem at_int {cs : List Int} {i : Int} (h0 : 0 ≤ i) (h1 : i < cs.length) : ∃ c ∈ cs, L2.atI (cs.map D.int) i = some (.int c) := by
  have h2 : i.toNat < cs.length := by omega
  refine ⟨cs[i.toNat], List.getElem_mem h2, ?_⟩
  unfold L2.atI L2.ixN
  rw [List.length_map, if_pos h0, if_pos h1]
  show (cs.map D.int)[i.toNat]? = _
  rw [List.getElem?_map, List.getElem?_eq_getElem h2]
  rfl
theorem pow18 : powD (.int 10) (.int 18) = some (.sh (.int 1000000000000000000)) := by rfl
theorem drift_left {fc : Env → R T} {k1 k2 q1 k3 k4 q2 k5 k6 k7 q3 : Int} {cs : List Int} {t l many : Int} (hl : 0 < l) (h0 : 0 < many) (h1 : many < 1073741824) :
    denM 2 6 (driftT fc k1 k2 q1 k3 k4 q2 k5 k6 k7 q3) (.lst [.lst (cs.map D.int), .int t, .int l]) [.int many] = .ok (.sh (.int (l.fmod many))) (.lst [.lst (cs.map D.int), .int t, .int (l.fdiv many)]) := by
  have e := divOk_of h0 h1
  have hm : ¬ many = 0 := by omega
  refine (q_denM rfl).trans ?_
  unfold driftT
  simp only [q_od1, q_od2, q_od3, q_od4, q_bind, q_bindx, q_s, q_sx, q_nx, q_rt, q_bk, q_ct, q_ex, q_seq, q_nil, q_if, q_expr, q_set, q_put, q_puto, q_puta, q_lookPs, q_lookPo, q_ret0, q_ret, q_reto, q_reta, q_lookRs, q_lookRo, q_c, q_v, q_lookVs, q_lookVo, q_view, q_viewo, q_viewa, q_slots, q_sloto, q_opt, q_e1, q_e2, q_eN, q_an, q_ac, q_views0, q_views, q_shs0, q_shs, q_f, q_frz, q_frzo, q_frza, q_lookFs, q_lookFo, q_lst, q_tup, q_mkL, q_mkT, q_cB, q_cV, q_cAnd, q_cOr, q_cNot, q_eIf, q_isBl, q_eAnd, q_eOr, q_eNot, q_andT, q_andF, q_orT, q_orF, q_notK, q_ix, q_ixJ, q_lookJ, q_ixK, q_lookK, q_stK, q_call, q_callO, q_callM, q_callK, q_lookC, q_resC, q_resCx, q_lent, q_lookL, q_resM, q_resMo, q_resMn, q_resMx, q_resP, q_resPo, q_resPn, q_resPx, q_asBl, List.not_mem_nil, q_lt, q_le, q_gt, q_ge, q_add, q_sub, q_mul, q_fdiv, q_mod, q_neg, q_int, q_intb, q_abs, q_len, q_lent1, q_lenr, q_ixl, q_ixt, q_ixr, q_trub, q_trun, q_trui, q_trul, q_trut, q_isn, q_isNn, q_isiT, at0, at1, at2, ixN1, ixN2, startE, List.map_cons, List.map_nil, List.length_cons, List.length_nil, List.replicate, List.cons_append, List.nil_append, List.getElem?_cons_zero, List.getElem?_cons_succ, List.set_cons_zero, List.set_cons_succ, Option.map_some, Option.bind_some, Option.map_none, Option.bind_none, Nat.reduceAdd, Nat.reduceSub, if_true, if_false, Bool.false_eq_true, decide_true, decide_false, Bool.not_true, Bool.not_false, reduceIte, List.length_map, hl, e, hm]
def mixV (q1 k3 k4 q2 k5 k6 k7 q3 t c : Int) : Int := (((((c.fmod q1 + k3 * t + k4) ^ 5).fmod q2 * (2 * t + k5) + k6 * t * t + k7) ^ 3).fmod q3).fdiv 64
theorem drift_mix {fc : Env → R T} {k1 k2 q1 k3 k4 q2 k5 k6 k7 q3 : Int} {t many c : Int} {cs : List Int} (h0 : 0 < many)
    (a1 : mulOk k1 t = true) (a2 : mulOk k3 t = true) (a3 : ∀ z, 0 ≤ z → z < q2 → mulOk z (2 * t + k5) = true) (a4 : mulOk 2 t = true) (a5 : mulOk k6 t = true) (a6 : mulOk (k6 * t) t = true) (q1p : 0 < q1) (q2p : 0 < q2) (q3p : 0 < q3)
    (p1 : powD (.int (c.fmod q1 + k3 * t + k4)) (.int 5) = some (.sh (.int ((c.fmod q1 + k3 * t + k4) ^ 5)))) (p2 : ∀ z, 0 ≤ z → z < q2 → powD (.int (z * (2 * t + k5) + k6 * t * t + k7)) (.int 3) = some (.sh (.int ((z * (2 * t + k5) + k6 * t * t + k7) ^ 3))))
    (t0 : 0 ≤ t) (hc : (cs = [] ∧ c = k1 * t + k2) ∨ (cs ≠ [] ∧ L2.atI (cs.map D.int) (t.fmod cs.length) = some (.int c))) (hs : ¬ (t < cs.length ∧ (1000000000000000000 : Int) ≤ (if c < 0 then -c else c))) :
    denM 2 6 (driftT fc k1 k2 q1 k3 k4 q2 k5 k6 k7 q3) (.lst [.lst (cs.map D.int), .int t, .int 0]) [.int many] = .ok (.sh (.int ((mixV q1 k3 k4 q2 k5 k6 k7 q3 t c).fmod many))) (.lst [.lst (cs.map D.int), .int (t + 1), .int 0]) := by
  have hm : ¬ many = 0 := by omega
  have d64 : divOk 64 = true := by decide
  have n1 : ¬ q1 = 0 := by omega
  have n2 : ¬ q2 = 0 := by omega
  have n3 : ¬ q3 = 0 := by omega
  have tn : ¬ t < 0 := by omega
  have z1 : 0 ≤ ((c.fmod q1 + k3 * t + k4) ^ 5).fmod q2 := Int.fmod_nonneg_of_pos _ q2p
  have z2 : ((c.fmod q1 + k3 * t + k4) ^ 5).fmod q2 < q2 := Int.fmod_lt_of_pos _ q2p
  have b1 := a3 _ z1 z2
  have b2 := p2 _ z1 z2
  have l0 : ¬ (0 : Int) < 0 := by decide
  have sz0 : (0 : Nat) ≤ sizeLine := Nat.zero_le _
  refine (q_denM rfl).trans ?_
  unfold driftT mixV
  rcases hc with ⟨rfl, rfl⟩ | ⟨hne, hat⟩
  · have e0 : neD (.lst (([] : List Int).map D.int)) (.lst []) = some false := ne_empty []
    have e0 : neD (.lst []) (.lst []) = some false := e0
    have hl : ¬ t < (((0 : Nat)) : Int) := by show ¬ t < (0 : Int); exact tn
    simp only [q_od1, q_od2, q_od3, q_od4, q_bind, q_bindx, q_s, q_sx, q_nx, q_rt, q_bk, q_ct, q_ex, q_seq, q_nil, q_if, q_expr, q_set, q_put, q_puto, q_puta, q_lookPs, q_lookPo, q_ret0, q_ret, q_reto, q_reta, q_lookRs, q_lookRo, q_c, q_v, q_lookVs, q_lookVo, q_view, q_viewo, q_viewa, q_slots, q_sloto, q_opt, q_e1, q_e2, q_eN, q_an, q_ac, q_views0, q_views, q_shs0, q_shs, q_f, q_frz, q_frzo, q_frza, q_lookFs, q_lookFo, q_lst, q_tup, q_mkL, q_mkT, q_cB, q_cV, q_cAnd, q_cOr, q_cNot, q_eIf, q_isBl, q_eAnd, q_eOr, q_eNot, q_andT, q_andF, q_orT, q_orF, q_notK, q_ix, q_ixJ, q_lookJ, q_ixK, q_lookK, q_stK, q_call, q_callO, q_callM, q_callK, q_lookC, q_resC, q_resCx, q_lent, q_lookL, q_resM, q_resMo, q_resMn, q_resMx, q_resP, q_resPo, q_resPn, q_resPx, q_asBl, List.not_mem_nil, q_lt, q_le, q_gt, q_ge, q_add, q_sub, q_mul, q_fdiv, q_mod, q_neg, q_int, q_intb, q_abs, q_len, q_lent1, q_lenr, q_ixl, q_ixt, q_ixr, q_trub, q_trun, q_trui, q_trul, q_trut, q_isn, q_isNn, q_isiT, at0, at1, at2, ixN1, ixN2, startE, List.map_cons, List.map_nil, List.length_cons, List.length_nil, List.replicate, List.cons_append, List.nil_append, List.getElem?_cons_zero, List.getElem?_cons_succ, List.set_cons_zero, List.set_cons_succ, Option.map_some, Option.bind_some, Option.map_none, Option.bind_none, Nat.reduceAdd, Nat.reduceSub, if_true, if_false, Bool.false_eq_true, decide_true, decide_false, Bool.not_true, Bool.not_false, reduceIte, List.length_map, sz0, l0, e0, a1, a2, a4, a5, a6, b1, b2, p1, n1, n2, n3, hm, d64, tn, List.length_map, hl]
  · have e0 : neD (.lst (cs.map D.int)) (.lst []) = some true := by rw [ne_empty]; cases cs with | nil => exact absurd rfl hne | cons _ _ => rfl
    have hn : ¬ (cs.length : Int) = 0 := by cases cs with | nil => exact absurd rfl hne | cons _ _ => simp only [List.length_cons]; omega
    by_cases hl : t < cs.length
    · have hb : ¬ ((1000000000000000000 : Int) ≤ (if c < 0 then -c else c)) := fun z => hs ⟨hl, z⟩
      simp only [q_od1, q_od2, q_od3, q_od4, q_bind, q_bindx, q_s, q_sx, q_nx, q_rt, q_bk, q_ct, q_ex, q_seq, q_nil, q_if, q_expr, q_set, q_put, q_puto, q_puta, q_lookPs, q_lookPo, q_ret0, q_ret, q_reto, q_reta, q_lookRs, q_lookRo, q_c, q_v, q_lookVs, q_lookVo, q_view, q_viewo, q_viewa, q_slots, q_sloto, q_opt, q_e1, q_e2, q_eN, q_an, q_ac, q_views0, q_views, q_shs0, q_shs, q_f, q_frz, q_frzo, q_frza, q_lookFs, q_lookFo, q_lst, q_tup, q_mkL, q_mkT, q_cB, q_cV, q_cAnd, q_cOr, q_cNot, q_eIf, q_isBl, q_eAnd, q_eOr, q_eNot, q_andT, q_andF, q_orT, q_orF, q_notK, q_ix, q_ixJ, q_lookJ, q_ixK, q_lookK, q_stK, q_call, q_callO, q_callM, q_callK, q_lookC, q_resC, q_resCx, q_lent, q_lookL, q_resM, q_resMo, q_resMn, q_resMx, q_resP, q_resPo, q_resPn, q_resPx, q_asBl, List.not_mem_nil, q_lt, q_le, q_gt, q_ge, q_add, q_sub, q_mul, q_fdiv, q_mod, q_neg, q_int, q_intb, q_abs, q_len, q_lent1, q_lenr, q_ixl, q_ixt, q_ixr, q_trub, q_trun, q_trui, q_trul, q_trut, q_isn, q_isNn, q_isiT, at0, at1, at2, ixN1, ixN2, startE, List.map_cons, List.map_nil, List.length_cons, List.length_nil, List.replicate, List.cons_append, List.nil_append, List.getElem?_cons_zero, List.getElem?_cons_succ, List.set_cons_zero, List.set_cons_succ, Option.map_some, Option.bind_some, Option.map_none, Option.bind_none, Nat.reduceAdd, Nat.reduceSub, if_true, if_false, Bool.false_eq_true, decide_true, decide_false, Bool.not_true, Bool.not_false, reduceIte, List.length_map, sz0, l0, e0, hat, hn, a1, a2, a4, a5, a6, b1, b2, p1, n1, n2, n3, hm, d64, tn, hl, hb, pow18, List.length_map]
    · simp only [q_od1, q_od2, q_od3, q_od4, q_bind, q_bindx, q_s, q_sx, q_nx, q_rt, q_bk, q_ct, q_ex, q_seq, q_nil, q_if, q_expr, q_set, q_put, q_puto, q_puta, q_lookPs, q_lookPo, q_ret0, q_ret, q_reto, q_reta, q_lookRs, q_lookRo, q_c, q_v, q_lookVs, q_lookVo, q_view, q_viewo, q_viewa, q_slots, q_sloto, q_opt, q_e1, q_e2, q_eN, q_an, q_ac, q_views0, q_views, q_shs0, q_shs, q_f, q_frz, q_frzo, q_frza, q_lookFs, q_lookFo, q_lst, q_tup, q_mkL, q_mkT, q_cB, q_cV, q_cAnd, q_cOr, q_cNot, q_eIf, q_isBl, q_eAnd, q_eOr, q_eNot, q_andT, q_andF, q_orT, q_orF, q_notK, q_ix, q_ixJ, q_lookJ, q_ixK, q_lookK, q_stK, q_call, q_callO, q_callM, q_callK, q_lookC, q_resC, q_resCx, q_lent, q_lookL, q_resM, q_resMo, q_resMn, q_resMx, q_resP, q_resPo, q_resPn, q_resPx, q_asBl, List.not_mem_nil, q_lt, q_le, q_gt, q_ge, q_add, q_sub, q_mul, q_fdiv, q_mod, q_neg, q_int, q_intb, q_abs, q_len, q_lent1, q_lenr, q_ixl, q_ixt, q_ixr, q_trub, q_trun, q_trui, q_trul, q_trut, q_isn, q_isNn, q_isiT, at0, at1, at2, ixN1, ixN2, startE, List.map_cons, List.map_nil, List.length_cons, List.length_nil, List.replicate, List.cons_append, List.nil_append, List.getElem?_cons_zero, List.getElem?_cons_succ, List.set_cons_zero, List.set_cons_succ, Option.map_some, Option.bind_some, Option.map_none, Option.bind_none, Nat.reduceAdd, Nat.reduceSub, if_true, if_false, Bool.false_eq_true, decide_true, decide_false, Bool.not_true, Bool.not_false, reduceIte, List.length_map, sz0, l0, e0, hat, hn, a1, a2, a4, a5, a6, b1, b2, p1, n1, n2, n3, hm, d64, tn, hl, pow18, List.length_map]
theorem drift_far {fc : Env → R T} {k1 k2 q1 k3 k4 q2 k5 k6 k7 q3 : Int} {t many c : Int} {cs : List Int} (h0 : 0 < many) (h1 : many < 1073741824)
    (hf : ∀ (a b e f g : Option T) (c : Int), fc [a, b, e, f, some (.sh (.int c)), g] = .ok (.sh (.int c)) [a, b, e, f, some (.sh (.int c)), g])
    (a1 : mulOk k1 t = true) (a2 : mulOk 2 ((if c < 0 then -c else c) - 1000000000000000000) = true)
    (t0 : 0 ≤ t) (hne : cs ≠ []) (hat : L2.atI (cs.map D.int) (t.fmod cs.length) = some (.int c)) (hl : t < cs.length) (hb : (1000000000000000000 : Int) ≤ (if c < 0 then -c else c)) :
    denM 2 6 (driftT fc k1 k2 q1 k3 k4 q2 k5 k6 k7 q3) (.lst [.lst (cs.map D.int), .int t, .int 0]) [.int many] =
      .ok (.sh (.int ((2 * ((if c < 0 then -c else c) - 1000000000000000000) + (if decide (c < 0) = true then 1 else 0)).fmod many))) (.lst [.lst (cs.map D.int), .int (t + 1), .int ((2 * ((if c < 0 then -c else c) - 1000000000000000000) + (if decide (c < 0) = true then 1 else 0)).fdiv many)]) := by
  have e := divOk_of h0 h1
  have hm : ¬ many = 0 := by omega
  have l0 : ¬ (0 : Int) < 0 := by decide
  have sz0 : (0 : Nat) ≤ sizeLine := Nat.zero_le _
  refine (q_denM rfl).trans ?_
  unfold driftT
  have e0 : neD (.lst (cs.map D.int)) (.lst []) = some true := by rw [ne_empty]; cases cs with | nil => exact absurd rfl hne | cons _ _ => rfl
  have hn : ¬ (cs.length : Int) = 0 := by cases cs with | nil => exact absurd rfl hne | cons _ _ => simp only [List.length_cons]; omega
  simp only [q_od1, q_od2, q_od3, q_od4, q_bind, q_bindx, q_s, q_sx, q_nx, q_rt, q_bk, q_ct, q_ex, q_seq, q_nil, q_if, q_expr, q_set, q_put, q_puto, q_puta, q_lookPs, q_lookPo, q_ret0, q_ret, q_reto, q_reta, q_lookRs, q_lookRo, q_c, q_v, q_lookVs, q_lookVo, q_view, q_viewo, q_viewa, q_slots, q_sloto, q_opt, q_e1, q_e2, q_eN, q_an, q_ac, q_views0, q_views, q_shs0, q_shs, q_f, q_frz, q_frzo, q_frza, q_lookFs, q_lookFo, q_lst, q_tup, q_mkL, q_mkT, q_cB, q_cV, q_cAnd, q_cOr, q_cNot, q_eIf, q_isBl, q_eAnd, q_eOr, q_eNot, q_andT, q_andF, q_orT, q_orF, q_notK, q_ix, q_ixJ, q_lookJ, q_ixK, q_lookK, q_stK, q_call, q_callO, q_callM, q_callK, q_lookC, q_resC, q_resCx, q_lent, q_lookL, q_resM, q_resMo, q_resMn, q_resMx, q_resP, q_resPo, q_resPn, q_resPx, q_asBl, List.not_mem_nil, q_lt, q_le, q_gt, q_ge, q_add, q_sub, q_mul, q_fdiv, q_mod, q_neg, q_int, q_intb, q_abs, q_len, q_lent1, q_lenr, q_ixl, q_ixt, q_ixr, q_trub, q_trun, q_trui, q_trul, q_trut, q_isn, q_isNn, q_isiT, at0, at1, at2, ixN1, ixN2, startE, List.map_cons, List.map_nil, List.length_cons, List.length_nil, List.replicate, List.cons_append, List.nil_append, List.getElem?_cons_zero, List.getElem?_cons_succ, List.set_cons_zero, List.set_cons_succ, Option.map_some, Option.bind_some, Option.map_none, Option.bind_none, Nat.reduceAdd, Nat.reduceSub, if_true, if_false, Bool.false_eq_true, decide_true, decide_false, Bool.not_true, Bool.not_false, reduceIte, List.length_map, sz0, l0, e, e0, hat, hn, a1, a2, hm, hl, hb, hf, pow18, List.length_map]
/-- the constants of a source -/
structure CK (k1 k2 q1 k3 k4 q2 k5 k6 k7 q3 : Int) : Prop where
  c1 : 0 ≤ k1 ∧ k1 ≤ 1048576
  c3 : 0 ≤ k3 ∧ k3 ≤ 1048576
  c4 : 0 ≤ k4 ∧ k4 ≤ 1048576
  c5 : 0 ≤ k5 ∧ k5 ≤ 1048576
  c6 : 0 ≤ k6 ∧ k6 ≤ 1048576
  c7 : 0 ≤ k7 ∧ k7 ≤ 1048576
  p1 : 0 < q1 ∧ q1 ≤ 2147483648
  p2 : 0 < q2 ∧ q2 ≤ 2147483648
  p3 : 0 < q3 ∧ q3 ≤ 2147483648
theorem mul_in {a b m n : Int} (ha : 0 ≤ a) (hb : 0 ≤ b) (ha2 : a ≤ m) (hb2 : b ≤ n) : 0 ≤ a * b ∧ a * b ≤ m * n :=
  ⟨Int.mul_nonneg ha hb, Int.mul_le_mul ha2 hb2 hb (Int.le_trans ha ha2)⟩
theorem drift_ok {fc : Env → R T} {k1 k2 q1 k3 k4 q2 k5 k6 k7 q3 : Int} (hk : CK k1 k2 q1 k3 k4 q2 k5 k6 k7 q3)
    (hf : ∀ (a b e f g : Option T) (c : Int), fc [a, b, e, f, some (.sh (.int c)), g] = .ok (.sh (.int c)) [a, b, e, f, some (.sh (.int c)), g]) {n : Nat} {ds : List D} {many : Int} (h : Src n ds) (hn : n ≤ 1000000) (h0 : 0 < many) (h1 : many < 1073741824) :
    ∃ (r : Int) (ds' : List D), denM 2 6 (driftT fc k1 k2 q1 k3 k4 q2 k5 k6 k7 q3) (.lst ds) [.int many] = .ok (.sh (.int r)) (.lst ds') ∧ 0 ≤ r ∧ r < many ∧ Src (n + 1) ds' := by
  obtain ⟨cs, t, l, rfl, t0, t1, l0, big, few⟩ := h.ex
  by_cases hl : 0 < l
  · exact ⟨_, _, drift_left hl h0 h1, Int.fmod_nonneg_of_pos _ h0, Int.fmod_lt_of_pos _ h0, ⟨cs, t, _, rfl, t0, by omega, Int.fdiv_nonneg l0 (by omega), big, few⟩⟩
  · obtain rfl : l = 0 := by omega
    have tb : t ≤ 1000000 := by omega
    have m1 := mul_in hk.c1.1 t0 hk.c1.2 tb
    have m3 := mul_in hk.c3.1 t0 hk.c3.2 tb
    have m6 := mul_in hk.c6.1 t0 hk.c6.2 tb
    have m66 := mul_in m6.1 t0 m6.2 tb
    obtain ⟨_, _⟩ := hk.c4
    obtain ⟨_, _⟩ := hk.c5
    obtain ⟨_, _⟩ := hk.c7
    obtain ⟨_, _⟩ := hk.p1
    obtain ⟨_, _⟩ := hk.p2
    have k1b := hk.c1
    have k3b := hk.c3
    have k6b := hk.c6
    have a1 : mulOk k1 t = true := mulOk64 (by omega) (by omega)
    have a2 : mulOk k3 t = true := mulOk64 (by omega) (by omega)
    have a3 : ∀ z, 0 ≤ z → z < q2 → mulOk z (2 * t + k5) = true := fun z z0 z1 => mulOk64 (by omega) (by omega)
    have a4 : mulOk 2 t = true := mulOk64 (by omega) (by omega)
    have a5 : mulOk k6 t = true := mulOk64 (by omega) (by omega)
    have a6 : mulOk (k6 * t) t = true := mulOk64 (by omega) (by omega)
    have p1 : ∀ c : Int, powD (.int (c.fmod q1 + k3 * t + k4)) (.int 5) = some (.sh (.int ((c.fmod q1 + k3 * t + k4) ^ 5))) := fun c => by
      have := Int.fmod_nonneg_of_pos c hk.p1.1
      have := Int.fmod_lt_of_pos c hk.p1.1
      exact powOk (by decide) (by decide) (by omega)
    have p2 : ∀ z, 0 ≤ z → z < q2 → powD (.int (z * (2 * t + k5) + k6 * t * t + k7)) (.int 3) = some (.sh (.int ((z * (2 * t + k5) + k6 * t * t + k7) ^ 3))) := fun z z0 z1 => by
      have := mul_in (a := z) (b := 2 * t + k5) (m := 2147483648) (n := 3048576) z0 (by omega) (by omega) (by omega)
      exact powOk (by decide) (by decide) (by omega)
    have done : ∀ c, ((cs = [] ∧ c = k1 * t + k2) ∨ (cs ≠ [] ∧ L2.atI (cs.map D.int) (t.fmod cs.length) = some (.int c))) → ¬ (t < cs.length ∧ (1000000000000000000 : Int) ≤ (if c < 0 then -c else c)) →
        ∃ (r : Int) (ds' : List D), denM 2 6 (driftT fc k1 k2 q1 k3 k4 q2 k5 k6 k7 q3) (.lst [.lst (cs.map D.int), .int t, .int 0]) [.int many] = .ok (.sh (.int r)) (.lst ds') ∧ 0 ≤ r ∧ r < many ∧ Src (n + 1) ds' := fun c hc hs =>
      ⟨_, _, drift_mix h0 a1 a2 a3 a4 a5 a6 hk.p1.1 hk.p2.1 hk.p3.1 (p1 c) p2 t0 hc hs, Int.fmod_nonneg_of_pos _ h0, Int.fmod_lt_of_pos _ h0, ⟨cs, t + 1, 0, rfl, by omega, by omega, by omega, big, few⟩⟩
    by_cases hne : cs = []
    · exact done _ (.inl ⟨hne, rfl⟩) fun z => by rw [hne] at z; exact absurd z.1 (by show ¬ t < (0 : Int); omega)
    · have lp : (0 : Int) < cs.length := by cases cs with | nil => exact absurd rfl hne | cons _ _ => simp only [List.length_cons]; omega
      obtain ⟨c, hc, hat⟩ := at_int (cs := cs) (i := t.fmod cs.length) (Int.fmod_nonneg_of_pos _ lp) (Int.fmod_lt_of_pos _ lp)
      by_cases hs : t < cs.length ∧ (1000000000000000000 : Int) ≤ (if c < 0 then -c else c)
      · have hbig := big c hc
        have ha : mulOk 2 ((if c < 0 then -c else c) - 1000000000000000000) = true := by
          refine mulOk_of (m := 64) (n := 1048577) (bits64 (by decide)) ?_ (by decide)
          have h1 : Builtin.Int.intBits (if c < 0 then -c else c) ≤ 1048576 := by
            split
            · exact intBits_neg_le hbig
            · exact hbig
          have h2 := intBits_sub_le (y := 1000000000000000000) (n := 64) h1 (bits64 (by decide))
          exact Nat.le_trans h2 (by decide)
        refine ⟨_, _, drift_far h0 h1 hf a1 ha t0 hne hat hs.1 hs.2, Int.fmod_nonneg_of_pos _ h0, Int.fmod_lt_of_pos _ h0, ⟨cs, t + 1, _, rfl, by omega, by omega, Int.fdiv_nonneg ?_ (by omega), big, few⟩⟩
        have := hs.2
        split <;> omega
      · exact done c (.inr ⟨hne, hat⟩) hs
theorem fc_int : ∀ (a b e f g : Option T) (c : Int), eN intD (aCons (eV 4) aNil) [a, b, e, f, some (.sh (.int c)), g] = .ok (.sh (.int c)) [a, b, e, f, some (.sh (.int c)), g] := fun _ _ _ _ _ _ => rfl
theorem fc_v : ∀ (a b e f g : Option T) (c : Int), eV 4 [a, b, e, f, some (.sh (.int c)), g] = .ok (.sh (.int c)) [a, b, e, f, some (.sh (.int c)), g] := fun _ _ _ _ _ _ => rfl
end Pf

namespace Pf
open PySem PySem.Spec L2
/-! ### comprehensions and loops, plainly -/
section
variable {m vs : List Nat} {gt : D → Env → Option Env} {fe : Env → R T} {fc : Env → R Bool} {gb : Env → RS} {ρ : Env}
def lcK (ρ1 : Env) (vs : List Nat) : R (List D) → R T
  | .ok xs ρ2 => .ok (.own (.lst xs)) (unw ρ1 vs ρ2)
  | _ => .bad
theorem q_lc {fi : Env → R (List D)} {c : Env → R Bool} : eLc m vs fi gt c fe ρ = (fi ρ).bind fun items ρ1 => lcK ρ1 vs (lcD m vs gt c fe items 0 (wipeE ρ1 vs)) := by
  rfl
theorem q_lcK {ρ2 : Env} {xs : List D} : lcK ρ vs (.ok xs ρ2) = .ok (.own (.lst xs)) (unw ρ vs ρ2) := rfl
theorem q_iSeq {fa : Env → R T} : iSeq m fa ρ = (eF m fa ρ).bind fun t ρ1 => opt ((view ρ1 t).bind itemsD) ρ1 := rfl
theorem q_iR {op : List D → Option (List D)} {fs : Env → R (List T)} : iR op fs ρ = (fs ρ).bind fun ts ρ1 => opt ((views ρ1 ts).bind op) ρ1 := rfl
theorem q_for {fi : Env → R (List D)} : sFor fi gt gb ρ = (fi ρ).s fun items ρ1 => forD gt gb items ρ1 := rfl
theorem q_gN {i : Nat} {d : D} : gN i d ρ = some (ρ.set i (some (.sh d))) := rfl
theorem q_sl {fa : Env → R T} {lo hi : Env → R (Option Int)} : eSl fa lo hi ρ = (fa ρ).bind fun t ρ1 => (lo ρ1).bind fun l ρ2 => (hi ρ2).bind fun h ρ3 => opt ((view ρ3 t).bind fun d => slD d l h) ρ3 := rfl
theorem q_oN : oNone ρ = .ok none ρ := rfl
def oK (ρ : Env) : Option D → R (Option Int)
  | some (.int i) => .ok (some i) ρ
  | _ => .bad
theorem q_oS {fa : Env → R T} : oSome fa ρ = (fa ρ).bind fun t ρ1 => oK ρ1 (view ρ1 t) := rfl
theorem q_oK {i : Int} : oK ρ (some (.int i)) = .ok (some i) ρ := rfl
theorem q_slr {xs : List D} {l h : Option Int} : slD (.rol xs) l h = some (.own (.lst (cutD xs l h))) := rfl
theorem q_sll {xs : List D} {l h : Option Int} : slD (.lst xs) l h = some (.own (.lst (cutD xs l h))) := rfl
theorem q_itl {xs : List D} : itemsD (.lst xs) = some xs := rfl
theorem q_itt {xs : List D} : itemsD (.tup xs) = some xs := rfl
/-- a comprehension without a test, by an invariant -/
theorem lcD_inv {items : List D} (I : Nat → Env → Prop) (Pd : D → Prop) (step : ∀ i d ρ, items[i]? = some d → I i ρ → ∃ ρ1 x ρ3, gt d ρ = some ρ1 ∧ eF m fe ρ1 = .ok (.sh x) ρ3 ∧ Pd x ∧ I (i + 1) (wipeE ρ3 vs)) :
    ∀ (j : Nat) (k : Nat) (ρ : Env), j ≤ items.length → k + (items.length - j) ≤ sizeLine → I j ρ → ∃ xs ρ', lcD m vs gt cYes fe (items.drop j) k ρ = .ok xs ρ' ∧ xs.length = items.length - j ∧ (∀ x ∈ xs, Pd x) ∧ I items.length ρ' := by
  intro j
  generalize hn : items.length - j = n
  induction n generalizing j with
  | zero =>
    intro k ρ hj _ h
    have e : j = items.length := by omega
    subst e
    rw [List.drop_length]
    exact ⟨[], ρ, rfl, rfl, fun x hx => (nomatch hx), h⟩
  | succ n ih =>
    intro k ρ hj hk h
    have hlt : j < items.length := by omega
    rw [List.drop_eq_getElem_cons hlt]
    obtain ⟨ρ1, x, ρ3, e1, e2, px, h3⟩ := step j items[j] ρ (List.getElem?_eq_getElem hlt) h
    obtain ⟨xs, ρ', e3, e4, e5, e6⟩ := ih (j + 1) (by omega) (k + 1) _ (by omega) (by omega) h3
    refine ⟨x :: xs, ρ', ?_, by rw [List.length_cons, e4], fun y hy => ?_, e6⟩
    · show (match gt items[j] ρ with
        | none => R.bad
        | some ρ1 => match cYes ρ1 with
          | .ok true ρ2 => match eF m fe ρ2 with
            | .ok (.sh x) ρ3 => if k < sizeLine then match lcD m vs gt cYes fe (items.drop (j + 1)) (k + 1) (wipeE ρ3 vs) with
                | .ok xs ρ4 => .ok (x :: xs) ρ4
                | _ => .bad
              else .bad
            | _ => .bad
          | .ok false ρ2 => lcD m vs gt cYes fe (items.drop (j + 1)) k (wipeE ρ2 vs)
          | _ => .bad) = _
      rw [e1]
      dsimp only [cYes]
      rw [e2]
      dsimp only
      rw [if_pos (by omega), e3]
    · rcases List.mem_cons.mp hy with rfl | hy
      · exact px
      · exact e5 y hy
theorem lcD_all {items : List D} (I : Nat → Env → Prop) (Pd : D → Prop) (step : ∀ i d ρ, items[i]? = some d → I i ρ → ∃ ρ1 x ρ3, gt d ρ = some ρ1 ∧ eF m fe ρ1 = .ok (.sh x) ρ3 ∧ Pd x ∧ I (i + 1) (wipeE ρ3 vs))
    {ρ : Env} (hz : items.length ≤ sizeLine) (h : I 0 ρ) : ∃ xs ρ', lcD m vs gt cYes fe items 0 ρ = .ok xs ρ' ∧ xs.length = items.length ∧ (∀ x ∈ xs, Pd x) ∧ I items.length ρ' := by
  have := lcD_inv I Pd step 0 0 ρ (Nat.zero_le _) (by omega) h
  simpa using this
/-- a comprehension that is a map -/
theorem lcD_map {h : D → D} {ρ : Env} : ∀ {items : List D} (k : Nat), k + items.length ≤ sizeLine → (∀ d ∈ items, ∃ ρ1 ρ3, gt d ρ = some ρ1 ∧ eF m fe ρ1 = .ok (.sh (h d)) ρ3 ∧ wipeE ρ3 vs = ρ) → lcD m vs gt cYes fe items k ρ = .ok (items.map h) ρ
  | [], _, _, _ => rfl
  | d :: items, k, hk, step => by
    obtain ⟨ρ1, ρ3, e1, e2, e3⟩ := step d (List.mem_cons_self ..)
    have ih := lcD_map (h := h) (ρ := ρ) (items := items) (k + 1) (by rw [List.length_cons] at hk; omega) fun x hx => step x (List.mem_cons_of_mem _ hx)
    show (match gt d ρ with
        | none => R.bad
        | some ρ1 => match cYes ρ1 with
          | .ok true ρ2 => match eF m fe ρ2 with
            | .ok (.sh x) ρ3 => if k < sizeLine then match lcD m vs gt cYes fe items (k + 1) (wipeE ρ3 vs) with
                | .ok xs ρ4 => .ok (x :: xs) ρ4
                | _ => .bad
              else .bad
            | _ => .bad
          | .ok false ρ2 => lcD m vs gt cYes fe items k (wipeE ρ2 vs)
          | _ => .bad) = _
    rw [e1]
    dsimp only [cYes]
    rw [e2]
    dsimp only
    rw [if_pos (by rw [List.length_cons] at hk; omega), e3, ih]
    rfl
/-- a loop that goes to its end -/
theorem forD_inv {items : List D} (I : Nat → Env → Prop) (step : ∀ i d ρ, items[i]? = some d → I i ρ → ∃ ρ1 ρ2, gt d ρ = some ρ1 ∧ (gb ρ1 = .nx ρ2 ∨ gb ρ1 = .ct ρ2) ∧ I (i + 1) ρ2) :
    ∀ (j : Nat) (ρ : Env), j ≤ items.length → I j ρ → ∃ ρ', forD gt gb (items.drop j) ρ = .nx ρ' ∧ I items.length ρ' := by
  intro j
  generalize hn : items.length - j = n
  induction n generalizing j with
  | zero =>
    intro ρ hj h
    have e : j = items.length := by omega
    subst e
    rw [List.drop_length]
    exact ⟨ρ, rfl, h⟩
  | succ n ih =>
    intro ρ hj h
    have hlt : j < items.length := by omega
    rw [List.drop_eq_getElem_cons hlt]
    obtain ⟨ρ1, ρ2, e1, e2, h3⟩ := step j items[j] ρ (List.getElem?_eq_getElem hlt) h
    obtain ⟨ρ', e3, e4⟩ := ih (j + 1) (by omega) _ (by omega) h3
    refine ⟨ρ', ?_, e4⟩
    show (match gt items[j] ρ with
      | none => RS.bad
      | some ρ1 => match gb ρ1 with
        | .nx ρ2 => forD gt gb (items.drop (j + 1)) ρ2
        | .ct ρ2 => forD gt gb (items.drop (j + 1)) ρ2
        | .bk ρ2 => .nx ρ2
        | r => r) = _
    rw [e1]
    dsimp only
    rcases e2 with e2 | e2 <;> (rw [e2]; exact e3)
theorem forD_all {items : List D} (I : Nat → Env → Prop) (step : ∀ i d ρ, items[i]? = some d → I i ρ → ∃ ρ1 ρ2, gt d ρ = some ρ1 ∧ (gb ρ1 = .nx ρ2 ∨ gb ρ1 = .ct ρ2) ∧ I (i + 1) ρ2) {ρ : Env} (h : I 0 ρ) : ∃ ρ', forD gt gb items ρ = .nx ρ' ∧ I items.length ρ' := by
  have := forD_inv I step 0 ρ (Nat.zero_le _) h
  simpa using this
end
/-! ### the source at its start, a pick -/
def duneT : Env → RS := sRet [] (eLst (aCons (eF [] (eLc [] [1] (iSeq [] (eSl (eV 0) (oNone) (oSome (eC (.int 60))))) (gN 1) cYes (eN intD (aCons (eV 1) (aNil))))) (aCons (eC (.int 0)) (aCons (eC (.int 0)) (aNil)))))
theorem cutD_ints (ns : List Int) : cutD (ns.map D.int) none (some 60) = (ns.take 60).map D.int := by
  unfold cutD
  have h1 : HT.sIx (ns.map D.int).length 0 none = 0 := rfl
  have h2 : HT.sIx (ns.map D.int).length (ns.map D.int).length (some 60) = min 60 (ns.map D.int).length := HT.sIx_nat _ _ 60
  rw [h1, h2, List.drop_zero, Nat.sub_zero, List.map_take, List.length_map]
  apply List.ext_getElem?
  intro i
  simp only [List.getElem?_take, List.getElem?_map]
  by_cases h60 : i < 60
  · by_cases hn : i < ns.length
    · rw [if_pos (by omega), if_pos h60]
    · rw [if_neg (by omega), if_pos h60, List.getElem?_eq_none (by omega)]; rfl
  · rw [if_neg (by omega), if_neg h60]
theorem dune_ok (ns : List Int) (h1 : ns.length ≤ 63) (h2 : ∀ z ∈ ns, Builtin.Int.intBits z ≤ 1048576) : ∃ ds, denP 1 2 duneT [.rol (ns.map D.int)] = .ok (.own (.lst ds)) ∧ Src 0 ds := by
  have hz : 0 + ((ns.take 60).map D.int).length ≤ sizeLine := by
    rw [List.length_map, List.length_take]
    exact Nat.le_trans (show _ ≤ 60 by omega) (by decide)
  refine ⟨[.lst ((ns.take 60).map D.int), .int 0, .int 0], ?_, ⟨ns.take 60, 0, 0, rfl, by decide, by decide, by decide, fun c hc => h2 c (List.mem_of_mem_take hc), by rw [List.length_take]; omega⟩⟩
  refine (q_denP rfl).trans ?_
  unfold duneT
  have e := lcD_map (m := []) (vs := [1]) (gt := gN 1) (fe := eN intD (aCons (eV 1) (aNil))) (h := id) (ρ := [some (T.sh (.rol (ns.map D.int))), none]) (items := (ns.take 60).map D.int) 0 hz fun d hd => by
    obtain ⟨z, _, rfl⟩ := List.mem_map.mp hd
    exact ⟨_, _, rfl, rfl, rfl⟩
  rw [List.map_id] at e
  have sz3 : (0 : Nat) + 1 + 1 + 1 ≤ sizeLine := by decide
  simp only [q_od1, q_od2, q_od3, q_od4, q_bind, q_bindx, q_s, q_sx, q_nx, q_rt, q_bk, q_ct, q_ex, q_seq, q_nil, q_if, q_expr, q_set, q_put, q_puto, q_puta, q_lookPs, q_lookPo, q_ret0, q_ret, q_reto, q_reta, q_lookRs, q_lookRo, q_c, q_v, q_lookVs, q_lookVo, q_view, q_viewo, q_viewa, q_slots, q_sloto, q_opt, q_e1, q_e2, q_eN, q_an, q_ac, q_views0, q_views, q_shs0, q_shs, q_f, q_frz, q_frzo, q_frza, q_lookFs, q_lookFo, q_lst, q_tup, q_mkL, q_mkT, q_cB, q_cV, q_cAnd, q_cOr, q_cNot, q_eIf, q_isBl, q_eAnd, q_eOr, q_eNot, q_andT, q_andF, q_orT, q_orF, q_notK, q_ix, q_ixJ, q_lookJ, q_ixK, q_lookK, q_stK, q_call, q_callO, q_callM, q_callK, q_lookC, q_resC, q_resCx, q_lent, q_lookL, q_resM, q_resMo, q_resMn, q_resMx, q_resP, q_resPo, q_resPn, q_resPx, q_asBl, List.not_mem_nil, q_lt, q_le, q_gt, q_ge, q_add, q_sub, q_mul, q_fdiv, q_mod, q_neg, q_int, q_intb, q_abs, q_len, q_lent1, q_lenr, q_ixl, q_ixt, q_ixr, q_trub, q_trun, q_trui, q_trul, q_trut, q_isn, q_isNn, q_isiT, at0, at1, at2, ixN1, ixN2, startE, List.map_cons, List.map_nil, List.length_cons, List.length_nil, List.replicate, List.cons_append, List.nil_append, List.getElem?_cons_zero, List.getElem?_cons_succ, List.set_cons_zero, List.set_cons_succ, Option.map_some, Option.bind_some, Option.map_none, Option.bind_none, Nat.reduceAdd, Nat.reduceSub, if_true, if_false, Bool.false_eq_true, decide_true, decide_false, Bool.not_true, Bool.not_false, reduceIte, List.length_map, q_lc, q_lcK, q_iSeq, q_sl, q_oN, q_oS, q_oK, q_slr, q_itl, cutD_ints, e, unw, wipeE, ksh, sz3]
def Drifts (f : O → List D → RM) : Prop := ∀ {n : Nat} {ds : List D} {many : Int}, Src n ds → n ≤ 1000000 → 0 < many → many < 1073741824 → ∃ (r : Int) (ds' : List D), f (.lst ds) [.int many] = .ok (.sh (.int r)) (.lst ds') ∧ 0 ≤ r ∧ r < many ∧ Src (n + 1) ds'
def pickT (f : O → List D → RM) : Env → RS := sRet [0] (e2 ixD (eV 1) (eCallM f (aCons (eV 0) (aCons (eF [0] (eN lenD (aCons (eV 1) (aNil)))) (aNil)))))
theorem at_some {xs : List D} {i : Int} (h0 : 0 ≤ i) (h1 : i < xs.length) : ∃ d ∈ xs, L2.atI xs i = some d ∧ xs[i.toNat]? = some d := by
  have h2 : i.toNat < xs.length := by omega
  refine ⟨xs[i.toNat], List.getElem_mem h2, ?_, List.getElem?_eq_getElem h2⟩
  unfold L2.atI L2.ixN
  rw [if_pos h0, if_pos h1]
  exact List.getElem?_eq_getElem h2
def Picks (f : O → List D → RM) : Prop := ∀ {n : Nat} {ds : List D} {xs : List D}, Src n ds → n ≤ 1000000 → xs ≠ [] → xs.length ≤ 1000000 → ∃ (i : Nat) (d : D) (ds' : List D), f (.lst ds) [.lst xs] = .ok (.sh d) (.lst ds') ∧ xs[i]? = some d ∧ d ∈ xs ∧ Src (n + 1) ds'
theorem pick_ok {f : O → List D → RM} (hf : Drifts f) : Picks (denM 2 2 (pickT f)) := by
  intro n ds xs h hn hne hlen
  have lp : (0 : Int) < xs.length := by cases xs with | nil => exact absurd rfl hne | cons _ _ => simp only [List.length_cons]; omega
  obtain ⟨r, ds', e1, r0, r1, h'⟩ := hf h hn lp (by omega)
  obtain ⟨d, hd, e2, e3⟩ := at_some r0 r1
  refine ⟨r.toNat, d, ds', ?_, e3, hd, h'⟩
  refine (q_denM rfl).trans ?_
  unfold pickT
  simp only [q_od1, q_od2, q_od3, q_od4, q_bind, q_bindx, q_s, q_sx, q_nx, q_rt, q_bk, q_ct, q_ex, q_seq, q_nil, q_if, q_expr, q_set, q_put, q_puto, q_puta, q_lookPs, q_lookPo, q_ret0, q_ret, q_reto, q_reta, q_lookRs, q_lookRo, q_c, q_v, q_lookVs, q_lookVo, q_view, q_viewo, q_viewa, q_slots, q_sloto, q_opt, q_e1, q_e2, q_eN, q_an, q_ac, q_views0, q_views, q_shs0, q_shs, q_f, q_frz, q_frzo, q_frza, q_lookFs, q_lookFo, q_lst, q_tup, q_mkL, q_mkT, q_cB, q_cV, q_cAnd, q_cOr, q_cNot, q_eIf, q_isBl, q_eAnd, q_eOr, q_eNot, q_andT, q_andF, q_orT, q_orF, q_notK, q_ix, q_ixJ, q_lookJ, q_ixK, q_lookK, q_stK, q_call, q_callO, q_callM, q_callK, q_lookC, q_resC, q_resCx, q_lent, q_lookL, q_resM, q_resMo, q_resMn, q_resMx, q_resP, q_resPo, q_resPn, q_resPx, q_asBl, List.not_mem_nil, q_lt, q_le, q_gt, q_ge, q_add, q_sub, q_mul, q_fdiv, q_mod, q_neg, q_int, q_intb, q_abs, q_len, q_lent1, q_lenr, q_ixl, q_ixt, q_ixr, q_trub, q_trun, q_trui, q_trul, q_trut, q_isn, q_isNn, q_isiT, at0, at1, at2, ixN1, ixN2, startE, List.map_cons, List.map_nil, List.length_cons, List.length_nil, List.replicate, List.cons_append, List.nil_append, List.getElem?_cons_zero, List.getElem?_cons_succ, List.set_cons_zero, List.set_cons_succ, Option.map_some, Option.bind_some, Option.map_none, Option.bind_none, Nat.reduceAdd, Nat.reduceSub, if_true, if_false, Bool.false_eq_true, decide_true, decide_false, Bool.not_true, Bool.not_false, reduceIte, List.length_map, e1, e2]
section
variable {ρ : Env} {d : D} {ds es xs : List D} {x : D}
def consO (o : Option D) (l : List D) : List D := match o with
  | some x => x :: l
  | none => l
theorem q_perm0 : perm [] xs = [] := rfl
theorem q_perm {i : Nat} {π : List Nat} : perm (i :: π) xs = consO xs[i]? (perm π xs) := by
  unfold perm consO
  cases e : xs[i]? with
  | none => rw [List.filterMap_cons_none e]
  | some v => rw [List.filterMap_cons_some e]
theorem q_consO : consO (some x) xs = x :: xs := rfl
def kwO (f : List D → RP) (π : List Nat) (ρ : Env) : Option (List D) → Option (List D) → R T
  | some ds, some es => callP f (perm π (ds ++ es)) ρ
  | _, _ => .bad
theorem q_callKw {n nk : Nat} {π : List Nat} {f : List D → RP} {fs fk : Env → R (List T)} : eCallK n nk π f fs fk ρ = (fs ρ).bind fun ts ρ1 => (fk ρ1).bind fun us ρ2 => if ts.length = n ∧ us.length = nk then kwO f π ρ2 (shs ts) (shs us) else .bad := rfl
theorem q_kwO {π : List Nat} {f : List D → RP} : kwO f π ρ (some ds) (some es) = callP f (perm π (ds ++ es)) ρ := rfl
def unpO : Option Env → RS
  | some ρ2 => .nx ρ2
  | none => .bad
def unpK (gt : D → Env → Option Env) (t : T) (ρ : Env) : RS := match t with
  | .sh d => unpO (gt d ρ)
  | _ => .bad
theorem q_unp {gt : D → Env → Option Env} {fa : Env → R T} : sUnp gt fa ρ = (fa ρ).s fun t ρ1 => unpK gt t ρ1 := rfl
theorem q_unpK {gt : D → Env → Option Env} : unpK gt (.sh d) ρ = unpO (gt d ρ) := rfl
theorem q_unpO : unpO (some ρ) = .nx ρ := rfl
theorem q_gL {gs : List (D → Env → Option Env)} : gL gs (.lst ds) ρ = gAll gs ds ρ := rfl
theorem q_gT {gs : List (D → Env → Option Env)} : gT gs (.tup ds) ρ = gAll gs ds ρ := rfl
theorem q_gA0 : gAll [] [] ρ = some ρ := rfl
theorem q_gA {g : D → Env → Option Env} {gs : List (D → Env → Option Env)} : gAll (g :: gs) (d :: ds) ρ = (g d ρ).bind fun ρ1 => gAll gs ds ρ1 := rfl
theorem ne_str {s : Str} : neD (.str s) (.str s) = some false := by
  show (some (decide (s = s))).map (!·) = _
  rw [decide_eq_true rfl]
  rfl
theorem mul_bl {b : Bool} : mulD (.lst [.bl b]) (.int 2) = some (.own (.lst [.bl b, .bl b])) := by rfl
def rp2 (a b : Bool) : Str := PyData.shown (.list [.bool a, .bool b])
theorem repr_bl2 {a b : Bool} : reprD [.lst [.bl a, .bl b]] = some (.sh (.str (rp2 a b))) := by
  cases a <;> cases b <;> rfl
end
theorem seq_to {g h : Env → RS} {ρ ρ1 : Env} (e : g ρ = .nx ρ1) : sSeq g h ρ = h ρ1 := by
  unfold sSeq
  rw [e]
  rfl
theorem seq_rt {g h : Env → RS} {ρ ρ1 : Env} {t : T} (e : g ρ = .rt t ρ1) : sSeq g h ρ = .rt t ρ1 := by
  unfold sSeq
  rw [e]
  rfl
end Pf

namespace Pf
open PySem PySem.Spec L2 PyProof.Rows

/-! ### a caught error that stays -/
theorem exV_ok {P : Program} {w : World} {H : Hp} {h : Heap} {a : Addr} {cls : Value} {d : Option Addr} {o : Obj} {vs : Array Value} (e : h.get? a = some o) (z : Zc cls d o) (f : o.data = .fields vs) : ObjOk P w H h a (exV a cls d) :=
  ⟨⟨o, vs, e, z, f⟩, ⟨o, e⟩, fun _ _ ⟨o, vs, e, z⟩ k => ⟨o, vs, k o e, z⟩⟩
section
variable {X : Cx} {pins : List (Addr × Obj)} {σ : L2.St} {H : Hp} {s : Shared} {a : Addr} {cls : Value} {d : Option Addr} {o : Obj} {vs : Array Value}
/-- an object that came up behind the entry and is known is tracked from now on -/
theorem Inv.track (I : Inv X pins σ H s) (e : s.heap.get? a = some o) (z : Zc cls d o) (f : o.data = .fields vs) (na : H a = none) (n0 : X.s_0.heap.get? a = none) (np : ∀ p ∈ X.pn ++ pins, p.1 ≠ a) : Inv X pins σ (upd H a (exV a cls d)) s := by
  have other : ∀ {b : Addr} {u : HO}, H b = some u → upd H a (exV a cls d) b = some u := fun {b u} q => by
    rw [upd_ne (fun z => by rw [z, na] at q; cases q)]; exact q
  have free : ∀ {b : Addr}, b ≠ a → H b = none → upd H a (exV a cls d) b = none := fun hb q => by rw [upd_ne hb]; exact q
  obtain ⟨m, ⟨ol, es, ep, l1, l2, l3⟩, hm⟩ := I.loc
  refine ⟨I.ok, I.os, I.bare, ?_, ⟨m, ⟨ol, es, ep, l1, l2, l3⟩, hm⟩, I.cell, free (fun z => ?_) I.free, fun x c hc => free (fun z => ?_) (I.freeC x c hc), fun p hp => ?_, ?_, I.len⟩
  · refine ⟨I.base.keep, I.base.slot, fun b u q n x => free (fun z => by rw [z, n0] at q; cases q) (I.base.free b u q n x), I.base.there, fun b xs q => other (I.base.tups b xs q), fun b u v q => other (I.base.frzs b u v q), fun b ps q => ?_⟩
    obtain ⟨more, q2⟩ := I.base.tbls b ps q
    exact ⟨more, other q2⟩
  · rw [z, e] at l1
    cases l1
    rw [f] at l2
    cases l2
  · obtain ⟨v, hv⟩ := I.cell x c hc
    rw [z] at hv
    obtain ⟨oc, c1, c2⟩ := hv
    rw [e] at c1
    cases c1
    rw [f] at c2
    cases c2
  · obtain ⟨p1, p2, p3⟩ := I.pin p hp
    exact ⟨p1, free (np p hp) p2, p3⟩
  · exact HOk.laidN I.hok (fun _ _ q => q) na (exV_ok e z f)
end
/-- the wish of the clause: behind its suite the error's object is known -/
def wKeep (K : PySem.W.Frag) (c : Value) (i : Nat) (ts : Addr → Value → Option Addr → TS) (Wout : WX) (D : Ends) : WX := fun cls d σ H => ∃ b, PySem.W.exmOne K cls c = some b ∧ (b = false → Wout cls d σ H) ∧
  (b = true → ∀ a, H a = none → ts a cls d { nx := fun σ' H' => H' a = none → D.nx (σ'.set i none) (upd H' a (exV a cls d)), rt := fun v H' => H' a = none → D.rt v (upd H' a (exV a cls d)), bk := fun σ' H' => H' a = none → D.bk (σ'.set i none) (upd H' a (exV a cls d)), ct := fun σ' H' => H' a = none → D.ct (σ'.set i none) (upd H' a (exV a cls d)) } (σ.set i (some (.ref a))) H)
section
variable {X : Cx} {x n : Str} {c : Value} {i : Nat} {body su : List Stmt} {s0 : Stmt} {p1 p2 p3 : Pos} {tb : WX → TS} {ts : Addr → Value → Option Addr → TS} {Wout : WX}
theorem ps_keep (stk : X.stack = X.env :: X.outer) (frm : X.env.frame = some X.env.locals) (nd : X.N.Nodup) (hi : X.N[i]? = some n) (hl : X.env.kindOf n = some .local) (nm : Names X x c) (tk : Takes X Wout) (hex : X.ex = [])
    (hb : ∀ (W : WX) (pn : List (Addr × Obj)) (xe : Value → Shared → Prop), Takes (X.tr pn xe) W → PassesOwn (model X.prog X.w) X.A X.env xe → PSs (X.tr pn xe) body (tb W))
    (hsu : ∀ (a : Addr) (o : Obj) (cls : Value) (d : Option Addr) (pn : List (Addr × Obj)), Zc cls d o → (∃ vs, o.data = .fields vs) → PSs (X.suite a ((a, o) :: pn)) (s0 :: su) (ts a cls d)) :
    PS X (.Try body [.ExceptHandler (some (.Name x p1)) (some n) (s0 :: su) p2] [] [] p3) (fun D σ H => tb (wKeep X.K c i ts Wout D) D σ H) := ⟨fun pins s σ H D I h => by
  have ok := I.ok
  have fr : X.A.frames = some (X.env :: X.outer) := ok.frames.trans (by rw [stk])
  refine wpAny_Try_except (wpAny_mono ((hb (wKeep X.K c i ts Wout D) (X.pn ++ pins) (fun e s₁ => wpAny (model X.prog X.w) X.A (noteFrame e X.env) (fun _ s₂ => wpAny (model X.prog X.w) X.A (setFlight e none) (fun _ s₃ =>
    wpAny (model X.prog X.w) X.A (handleBy e X.env [.ExceptHandler (some (.Name x p1)) (some n) (s0 :: su) p2]) (SP X pins D) X.xe s₃) X.xe s₂) X.xe s₁) ?k1 PassesOwn.looking).run [] s σ H D (I.toTry _) h) ?k2 (fun _ _ z => z))
  case k2 =>
    intro f s1 q
    match f, q with
    | .next, ⟨σ', H', J, q⟩ => exact wpAny_execs_nil ⟨σ', H', J.ofTry ok, q⟩
    | .brk, ⟨σ', H', J, q⟩ => exact ⟨σ', H', J.ofTry ok, q⟩
    | .cont, ⟨σ', H', J, q⟩ => exact ⟨σ', H', J.ofTry ok, q⟩
    | .ret u, ⟨v, σ', H', J, r, q⟩ => exact ⟨v, σ', H', J.ofTry ok, r, q⟩
  case k1 =>
    rintro u s1 ⟨a, B, sI, pl, σ1, H1, cls, d, rfl, K1, nb, up, sky, na, os, ag, b, e1, no, yes⟩
    have I1 : Inv X pins σ1 H1 sI := K1.ofTry ok
    show wpAny (model X.prog X.w) X.A (noteFrame (.ref a) X.env) _ _ _
    refine Sky.land (L := X.env.locals) Zc.steady fr frm (by rw [← stk]; exact sky) fun h2 fly up2 => ?_
    have I2 : Inv X pins σ1 H1 { s1 with heap := h2 } := I1.landed nb fly.1 (up.trans up2) os ag
    obtain ⟨o2, v2, g2, z2, f2⟩ := fly.there
    -- the error is no frame, no pin, nothing that stood at the entry
    have nfr : a ∉ frs (X.env :: X.outer) := fun hm => by
      obtain ⟨_, o', e', hn⟩ := fly.2.2.1.mem hm
      rw [g2] at e'; cases e'
      exact hn _ f2
    have nloc : a ≠ X.env.locals := fun z => nfr (List.mem_filterMap.mpr ⟨X.env, List.mem_cons_self, by rw [frm, z]⟩)
    have nfs : a ∉ X.fs := fun hm => by
      obtain ⟨e, he, q⟩ := List.mem_filterMap.mp hm
      exact nfr (List.mem_filterMap.mpr ⟨e, List.mem_cons_of_mem _ he, q⟩)
    have gB : B.get? a = none := fly.2.1
    have low : ∀ o, sI.heap.get? a ≠ some o := fun o e => by
      rw [nb a o e (by rw [stk]; exact nfr)] at gB
      cases gB
    have n0 : X.s_0.heap.get? a = none := by
      cases e : X.s_0.heap.get? a with
      | none => rfl
      | some o =>
        obtain ⟨o', e'⟩ := I1.base.there a o e (by rw [hex]; exact List.not_mem_nil)
        exact absurd e' (low o')
    have npin : ∀ p ∈ X.pn ++ pins, p.1 ≠ a := fun p hp z => low p.2 (by rw [← z]; exact (I1.pin p hp).1)
    have S2 := I2.suite g2 f2 na nloc nfs
    refine wpAny_handleBy_cons (codeAny_handlers_test ?_) (by intro q; cases q)
    have ty : PySem.W.Looks (model X.prog X.w) h2 (typeOf (.ref a)) cls := fun A Q E s k q => wpAny_typeOf_ref (k _ _ g2) (by rw [z2.1]; exact q)
    have go : ∀ {Q E : Value → Shared → Prop}, Q c { s1 with heap := h2 } → wpAny (model X.prog X.w) (X.A.mark (some (.ref a))) (eval (.Name x p1) X.env) Q E { s1 with heap := h2 } := fun {Q E} q => by
      obtain ⟨hg, hd, hm | ⟨hm, hv, hn⟩⟩ := nm
      · exact ld_glob (X := X.suite a ((a, o2) :: (X.pn ++ pins))) S2 hg hm q hd
      · exact ld_blt (X := X.suite a ((a, o2) :: (X.pn ++ pins))) S2 hg hm hv q hn hd
    refine go ((PySem.W.exm_one (M := model X.prog X.w) I2.kIn ty e1).here ?_)
    cases b with
    | true =>
      refine codeAny_handlers_suite_as (HandSPX.lands_againZ fly fun h3 fly3 up3 => ?_)
      have I3 : Inv X pins σ1 H1 { s1 with heap := h3 } := I1.landed nb fly3.1 ((up.trans up2).trans up3) os ag
      obtain ⟨o3, v3, g3, z3, f3⟩ := fly3.there
      refine store_ok (X := X.suite a ((a, o3) :: (X.pn ++ pins))) (v := .ref a) (I3.suite g3 f3 na nloc nfs) nd hi (.inl hl) rfl (fun s5 S5 => ?_) (.inr hl)
      refine wpAny_mono ((hsu a o3 cls d (X.pn ++ pins) z3 ⟨_, f3⟩).run [] s5 _ H1 _ S5 (yes rfl a na)) ?_ fun _ _ z => z.elim
      intro f s6 q6
      -- behind the suite: the error is tracked, the clause's name is gone
      have fin : ∀ {σ6 : L2.St} {H6 : Hp} {Q : Shared → Prop}, Inv (X.suite a ((a, o3) :: (X.pn ++ pins))) [] σ6 H6 s6 → (H6 a = none → ∀ s7, Inv X pins (σ6.set i none) (upd H6 a (exV a cls d)) s7 → Q s7) →
          wpAny (model X.prog X.w) X.A (do bindName X.env n .none; unbindBehindTheSuite X.env n p2) (fun _ s7 => Q s7) X.xe s6 := fun {σ6 H6 Q} S6 hq => by
        obtain ⟨q1, q2, _⟩ := S6.pin (a, o3) (List.mem_append_left _ (List.mem_cons_self ..))
        exact gone_ok (Inv.track (S6.unsuite ok) q1 z3 f3 q2 n0 npin) nd hi hl (hq q2)
      match f, q6 with
      | .next, ⟨σ6, H6, S6, q⟩ => exact fin S6 fun z s7 J => ⟨_, _, J, q z⟩
      | .brk, ⟨σ6, H6, S6, q⟩ => exact fin S6 fun z s7 J => ⟨_, _, J, q z⟩
      | .cont, ⟨σ6, H6, S6, q⟩ => exact fin S6 fun z s7 J => ⟨_, _, J, q z⟩
      | .ret u, ⟨v6, σ6, H6, S6, r6, q⟩ => exact fin S6 fun z s7 J => ⟨_, _, _, J, r6, q z⟩
    | false =>
      refine wpAny_handleBy_nil ?_
      obtain ⟨k1, k2, k3, oe, ve, tr, oT, ts', he, hz, hd, h1, hr⟩ := id fly
      unfold PySem.passOn
      refine wpAny_bind (wpAny_field he hd h1 ?_)
      rw [if_neg (by simp : ¬ ((Value.ref tr == Value.none) = true))]
      have out : wpAny (model X.prog X.w) X.A (setFlight (.ref a) X.env.frame) (fun _ s4 => wpAny (model X.prog X.w) X.A (throw (.ref a) : Sem Flow) (SP X pins D) X.xe s4) X.xe { s1 with heap := h2 } := by
        rw [frm]
        exact HandSPX.setFlight_upZ fly fun h4 held up4 => wpAny_throw (tk _ _ ⟨a, B, sI, pins, σ1, H1, cls, d, rfl, I1, nb, (up.trans up2).trans up4, .inr (.inr (by rw [stk]; exact held)), na, os, ag, no rfl⟩)
      first
        | exact wpAny_bind out
        | exact wpAny_bind (wpAny_pure (wpAny_bind out))⟩
end
end Pf

namespace Pf
open PySem PySem.Spec L2
section
variable {X : Cx} {fm : Fm} {m : List Nat} {W : WX} {σ : L2.St} {τ : List (V × T)} {ρ : Env}
theorem PostE.pop {r : R T} {Q : VK} {y : V × T} (h : PostE X fm W σ τ r Q) : PostE X fm W σ (y :: τ) r Q := by
  cases r with
  | ok t ρ1 => exact fun v F H g => h v F H (g.sub (List.Sublist.cons_cons _ (List.sublist_cons_self _ _)))
  | ex x ρ1 => exact PostX.pop h
  | bad => exact h
/-! ### a op b op c -/
def chK (g' : D → D → Option Bool) (fc : Env → R T) (tb : T) (ρ2 : Env) : Option Bool → R T
  | some true => (fc ρ2).bind fun tc ρ3 => opt (((view ρ3 tb).bind fun b => (view ρ3 tc).bind fun c => g' b c).map fun k => .sh (.bl k)) ρ3
  | some false => .ok (.sh (.bl false)) ρ2
  | none => .bad
theorem q_chain {g g' : D → D → Option Bool} {fa fb fc : Env → R T} : eChain g g' fa fb fc ρ = (fa ρ).bind fun ta ρ1 => (fb ρ1).bind fun tb ρ2 => chK g' fc tb ρ2 ((view ρ2 ta).bind fun a => (view ρ2 tb).bind fun b => g a b) := by
  unfold eChain chK
  rfl
theorem chain_run {r r' : R2} {g g' : D → D → Option Bool} {a b c : Expr} {fa fb fc : Env → R T} (hs : Op2 (gX X) r (asBl g)) (hs' : Op2 (gX X) r' (asBl g')) (ha : SE X m W a fa) (hb : SE X m W b fb) (hc : SE X m W c fc) (hm : PinX X fm m) {F H : Hp} {Q : VK}
    (gd : Good (gX X) fm ρ σ τ F H) (q : PostE X fm W σ τ (eChain g g' fa fb fc ρ) Q) : tChain r r' (tE X a) (tE X b) (tE X c) σ H Q := by
  rw [q_chain] at q
  refine se_two hm ha hb gd q fun ta tb ρ2 v u F1 H1 g1 q1 => ?_
  cases e1 : (view ρ2 ta).bind fun a => (view ρ2 tb).bind fun b => g a b with
  | none => rw [e1] at q1; exact q1.elim
  | some k =>
    rw [e1] at q1
    obtain ⟨da, e2, e3⟩ := Option.bind_eq_some_iff.mp e1
    obtain ⟨db, e4, e5⟩ := Option.bind_eq_some_iff.mp e3
    refine hs F1 H1 v u da db (.sh (.bl k)) _ g1.FH (g1.pop.view e2) (g1.view e4) (by unfold asBl; rw [e5]; rfl) fun z F2 H2 gr rz => ?_
    have rz : Rep _ F2 z (.bl k) := rz
    cases rz
    refine ⟨k, rfl, ?_⟩
    have g2 := g1.grow gr
    cases k with
    | false => exact q1 _ F2 H2 (g2.pop.pop.pushSh .bl)
    | true =>
      refine se_bind hm hc g2 (PostE.pop (PostE.pop q1)) fun tc ρ3 w' F3 H3 g3 q3 => ?_
      cases e6 : (view ρ3 tb).bind fun b => (view ρ3 tc).bind fun c => g' b c with
      | none => rw [e6] at q3; exact q3.elim
      | some k2 =>
        rw [e6] at q3
        obtain ⟨db2, e7, e8⟩ := Option.bind_eq_some_iff.mp e6
        obtain ⟨dc, e9, e10⟩ := Option.bind_eq_some_iff.mp e8
        exact hs' F3 H3 u w' db2 dc (.sh (.bl k2)) Q g3.FH (g3.pop.view e7) (g3.view e9) (by unfold asBl; rw [e10]; rfl) fun v2 F4 H4 gr4 r4 => q3 v2 F4 H4 (g3.pop.res gr4 r4)
theorem se_chain {r r' : R2} {op op' : CmpOp} {g g' : D → D → Option Bool} {a b c : Expr} {fa fb fc : Env → R T} {pos : Pos} (ho : OpR X (compareOp op) r) (hs : Op2 (gX X) r (asBl g)) (ho' : OpR X (compareOp op') r') (hs' : Op2 (gX X) r' (asBl g'))
    (ha : SE X m W a fa) (hb : SE X m W b fb) (hc : SE X m W c fc) (hmk : lastMarks [op, op'] [b, c] = false := by with_unfolding_all rfl) : SE X m W (.Compare a [op, op'] [b, c] pos) (eChain g g' fa fb fc) := fun fm hm ρ σ τ F H Q gd q =>
  tE_of (pe_chain ho ho' pe_tE pe_tE pe_tE hmk) (chain_run hs hs' ha hb hc hm gd q)
theorem st_chain {r r' : R2} {op op' : CmpOp} {g g' : D → D → Option Bool} {a b c : Expr} {fa fb fc : Env → R T} {pos : Pos} (ho : OpR X (compareOp op) r) (hs : Op2 (gX X) r (asBl g)) (ho' : OpR X (compareOp op') r') (hs' : Op2 (gX X) r' (asBl g'))
    (ha : SE X m W a fa) (hb : SE X m W b fb) (hc : SE X m W c fc) (hmk : lastMarks [op, op'] [b, c] = false := by with_unfolding_all rfl) : ST X m W (.Compare a [op, op'] [b, c] pos) (cB (eChain g g' fa fb fc)) := fun fm hm ρ σ τ F H Q gd q =>
  tT_of (pt_chain ho ho' pe_tE pe_tE pe_tE hmk) (chain_run hs hs' ha hb hc hm gd (cB_end (F := F) (H := H) q))

/-! ### sorted, of ints -/
def insD (i : Int) : List Int → List Int
  | [] => [i]
  | j :: js => if i ≤ j then i :: j :: js else j :: insD i js
def sortD : List Int → List Int
  | [] => []
  | i :: is => insD i (sortD is)
theorem insD_perm (i : Int) : ∀ js, (insD i js).Perm (i :: js)
  | [] => .refl _
  | j :: js => by
    unfold insD
    split
    · exact .refl _
    · exact ((insD_perm i js).cons j).trans (.swap i j js)
theorem sortD_perm : ∀ is, (sortD is).Perm is
  | [] => .refl _
  | i :: is => (insD_perm i _).trans ((sortD_perm is).cons i)
theorem insD_sorted (i : Int) : ∀ {js : List Int}, js.Pairwise (· ≤ ·) → (insD i js).Pairwise (· ≤ ·)
  | [], _ => by simp [insD]
  | j :: js, h => by
    obtain ⟨h1, h2⟩ := List.pairwise_cons.mp h
    unfold insD
    split
    · rename_i hij
      refine List.pairwise_cons.mpr ⟨fun x hx => ?_, h⟩
      rcases List.mem_cons.mp hx with rfl | hx
      · exact hij
      · exact Int.le_trans hij (h1 x hx)
    · refine List.pairwise_cons.mpr ⟨fun x hx => ?_, insD_sorted i h2⟩
      rcases List.mem_cons.mp ((insD_perm i js).mem_iff.mp hx) with rfl | hx
      · omega
      · exact h1 x hx
theorem sortD_sorted : ∀ is : List Int, (sortD is).Pairwise (· ≤ ·)
  | [] => .nil
  | i :: is => insD_sorted i (sortD_sorted is)
theorem sorted_eq : ∀ {xs ys : List Int}, xs.Perm ys → xs.Pairwise (· ≤ ·) → ys.Pairwise (· ≤ ·) → xs = ys := fun {xs ys} p a b => p.eq_of_pairwise (fun x y _ _ h1 h2 => Int.le_antisymm h1 h2) a b
def sortedD : List D → Option T
  | [.lst xs] => (intsD xs).map fun ns => .own (.lst ((sortD ns).map D.int))
  | _ => none
theorem reps_ints {G : Cfg} {F : Hp} : ∀ ns : List Int, Reps G F (ns.map V.int) (ns.map D.int)
  | [] => .nil
  | _ :: ns => .cons .int (reps_ints ns)
theorem on_sorted : OpN (gX X) (rSortedI X.K) sortedD := fun F H vs ds t Q f r e k => by
  unfold sortedD at e
  split at e
  · obtain ⟨ns, e1, e2⟩ := Option.map_eq_some_iff.mp e
    subst e2
    obtain ⟨v, rfl, rv⟩ := repVs1 r
    obtain ⟨p, ws, rfl, h1, h2⟩ := rv.lst f
    rw [h2.intsD e1] at h1
    refine ⟨p, ns, rfl, SqL.of h1, fun ns' q pm st hq => ?_⟩
    rw [sorted_eq (pm.trans (sortD_perm ns).symm) st (sortD_sorted ns)]
    exact res_own f (reps_ints _) k q hq
  · cases e
theorem q_chT {g' : D → D → Option Bool} {fc : Env → R T} {tb : T} : chK g' fc tb ρ (some true) = (fc ρ).bind fun tc ρ3 => opt (((view ρ3 tb).bind fun b => (view ρ3 tc).bind fun c => g' b c).map fun k => .sh (.bl k)) ρ3 := rfl
theorem q_chF {g' : D → D → Option Bool} {fc : Env → R T} {tb : T} : chK g' fc tb ρ (some false) = .ok (.sh (.bl false)) ρ := rfl
end
end Pf

namespace Pf
open PySem PySem.Spec L2
/-! ### a def within a class that says super() -/
/-- its scope: parameters, names of its own, __class__ -/
structure SupScope (N ps : List Str) (sc : Scope) : Prop where
  kind : sc.kind = .function
  co : sc.isCoroutine = false
  gen : sc.isGenerator = false
  nd : N.Nodup
  pre : N.take ps.length = ps
  par : ∀ x ∈ ps, sc.names.lookup x = some .local
  nocell : ∀ y ∈ sc.names, y.2 ≠ .cell
  free : ∀ y ∈ sc.names, y.2 = .free → y.1 = ("__class__" : Str)
abbrev envS (qual : Str) (sc : Scope) (L f : Addr) (cd : Value) (cc : Addr) : PySem.Env := PySem.W.envX qual sc L f cd [("__class__", cc)]
/-- its context -/
def sxOf (CX : CXT) (P : Program) (w : World) (K : PySem.W.Frag) (mg : Str → Option Value) (base : Heap) (N : List Str) (qual : Str) (sc : Scope) (f : Addr) (cd : Value) (cc : Addr) (A : Around) (outer : List PySem.Env) (s : Shared) (H : Hp) (E : XK) : Cx where
  prog := P
  w := w
  K := K
  mg := mg
  base := base
  A := A.deeper (envS qual sc s.heap.objs.size f cd cc)
  N := N
  s_0 := s
  H_0 := H
  env := envS qual sc s.heap.objs.size f cd cc
  outer := outer
  stack := envS qual sc s.heap.objs.size f cd cc :: outer
  ex := []
  fn := fun x => x != ("__class__" : Str)
  calm := true
  pn := []
  xe := fun e s' => wpAny (model P w) (A.deeper (envS qual sc s.heap.objs.size f cd cc)) (leaving (envS qual sc s.heap.objs.size f cd cc) e) (fun _ s'' => CX outer H s E e s'') (fun e' s'' => CX outer H s E e' s'') s'
theorem one_look {x : Str} {c cc : Addr} (h : List.lookup x [(("__class__" : Str), cc)] = some c) : x = "__class__" ∧ c = cc := by
  have := PySem.mem_of_lookup h
  simp only [List.mem_cons, List.not_mem_nil, or_false, Prod.mk.injEq] at this
  exact this
section
variable {CX : CXT} {P : Program} {w : World} {K : PySem.W.Frag} {mg : Str → Option Value} {base : Heap} {N ps : List Str} {qual : Str} {sc : Scope} {f cc : Addr} {cd : Value} {A : Around} {outer : List PySem.Env} {s : Shared} {H : Hp} {E : XK} {us : List Value} {vs : List V}
theorem inv_sup {h1 : Heap} {t1 : Nat} {oc : Obj} {v : Option Value} (S : SupScope N ps sc) (hd : A.handled = none) (e0 : Env0 P w K mg base A outer s H) (hl : vs.length = ps.length) (r : Vals vs us) (hcc : K.lookup cc = some oc) (hcv : oc.data = .cell v)
    (ns : h1.Ns s.heap.objs.size fun x => (ps.zip us).reverse.lookup x) (keep : ∀ b o, s.heap.get? b = some o → h1.get? b = some o) :
    Inv (sxOf CX P w K mg base N qual sc f cd cc A outer s H E) [] (L2.start N vs) H { s with heap := h1, toks := t1 } := by
  have hpl : ps.length ≤ N.length := by have := congrArg List.length S.pre; rw [List.length_take] at this; omega
  have bc := e0.mod.kin _ _ hcc
  have sc1 := (e0.bs _ _ bc).1
  have noA : ∀ b : Addr, b ∉ (sxOf CX P w K mg base N qual sc f cd cc A outer s H E).ex := fun b z => List.not_mem_nil (show b ∈ ([] : List Addr) from z)
  have look : ∀ {x : Str} {c : Addr}, (sxOf CX P w K mg base N qual sc f cd cc A outer s H E).env.cells.lookup x = some c → x = "__class__" ∧ c = cc := fun h => one_look h
  refine ⟨⟨e0.mod, S.kind, rfl, rfl, Nat.le_refl _, fun y z c h1 h2 => (look h1).1.trans (look h2).1.symm, fun y hy => ?_, fun y c h1 h2 => ?_, fun _ => hd, Around.frames_deeper e0.frames, .inr ⟨rfl, rfl⟩, fun b z => absurd z (noA b), e0.bs, e0.bsz, fun b _ _ => noA b, fun b z => absurd z (noA b), e0.funs, e0.frf⟩,
    rfl, e0.bare, Un.kept keep, ⟨_, ns, fun i y v h1 h2 h3 => ?_⟩, fun y c h => ?_, e0.hok.fresh (Nat.le_refl _), fun y c h => ?_, fun p hp => absurd (show p ∈ ([] : List (Addr × Obj)) from hp) List.not_mem_nil, e0.hok.kept keep, ?_⟩
  · have hy : sc.names.lookup y = some .cell ∨ sc.names.lookup y = some .free := hy
    rcases hy with hy | hy
    · exact absurd rfl (S.nocell _ (PySem.mem_of_lookup hy))
    · have := S.free _ (PySem.mem_of_lookup hy) rfl
      exact ⟨cc, by show List.lookup y [(("__class__" : Str), cc)] = some cc; rw [show y = "__class__" from this]; rfl⟩
  · have := (look h2).1
    subst this
    have h1 : (("__class__" : Str) != ("__class__" : Str)) = true := h1
    rw [bne_self_eq_false] at h1
    cases h1
  · have hi : i < vs.length := by
      refine Nat.lt_of_not_le fun hi => ?_
      unfold L2.start at h2
      rw [List.getElem?_append_right (by simpa using hi), List.getElem?_replicate] at h2
      split at h2 <;> cases h2
    have ha : vs[i]? = some v := by
      unfold L2.start at h2
      rw [List.getElem?_append_left (by simpa using hi), List.getElem?_map] at h2
      obtain ⟨a, e1, e2⟩ := Option.map_eq_some_iff.mp h2
      cases e2
      exact e1
    obtain ⟨u, hu, rv⟩ := r.get ha
    have hp : ps[i]? = some y := by
      rw [← S.pre, List.getElem?_take_of_lt (by omega)]; exact h1
    have ndP : ps.Nodup := by rw [← S.pre]; exact S.nd.sublist (List.take_sublist _ _)
    refine ⟨u, rv, .inl ⟨S.par y (List.mem_of_getElem? hp), ?_⟩⟩
    have key : ∀ {ps : List Str} {us : List Value} {i : Nat}, ps.Nodup → ps[i]? = some y → us[i]? = some u → (ps.zip us).reverse.lookup y = some u := by
      intro ps
      induction ps with
      | nil => intro us i _ h; simp at h
      | cons p ps ih =>
        intro us i nd h1 h2
        cases us with
        | nil => simp at h2
        | cons u0 us =>
          rw [List.zip_cons_cons, List.reverse_cons, List.lookup_append]
          cases i with
          | zero =>
            simp at h1 h2
            subst h1 h2
            have : (ps.zip us).reverse.lookup p = none := by
              rw [List.lookup_eq_none_iff]
              intro q hq
              have := (List.of_mem_zip (List.mem_reverse.mp hq)).1
              have hne : p ≠ q.1 := fun e => (List.nodup_cons.mp nd).1 (e ▸ this)
              simpa using hne
            rw [this]
            simp [List.lookup]
          | succ i =>
            rw [ih (List.nodup_cons.mp nd).2 (by simpa using h1) (by simpa using h2)]
            rfl
    exact key ndP hp hu
  · rw [(look h).2]
    exact ⟨v, oc, keep _ _ sc1, hcv⟩
  · rw [(look h).2]
    exact (e0.bs _ _ bc).2
  · unfold L2.start
    show ((vs.map some) ++ List.replicate (N.length - vs.length) none).length = N.length
    rw [List.length_append, List.length_map, List.length_replicate]
    omega
end
/-- such a def as it stands -/
structure SupFun (K : PySem.W.Frag) (x qual : Str) (st : Stmt) (f : Addr) (fd : FuncData) (cc D : Addr) : Prop where
  ex : ∃ (oc : Value) (od : Option Addr) (kV doc pm : Value) (an : Option Addr) (cdv ct : Value) (osl : Array (Option Value)),
    fd = PySem.W.ksFn x qual (defArgs st) (defBody st) (defScope st) .none kV doc pm an cdv ct cc ∧ K.lookup f = some ⟨oc, od, .func fd, osl⟩ ∧ PySem.W.codeIn K cdv qual = true
  cell : ∃ (cl : Value) (cd : Option Addr) (sl : Array (Option Value)), K.lookup cc = some ⟨cl, cd, .cell (some (.ref D)), sl⟩
section
variable {P : Program} {w : World} {K : PySem.W.Frag} {mg : Str → Option Value} {base : Heap}
theorem fn_s {x qual : Str} {st : Stmt} {f cc D : Addr} {fd : FuncData} {N ps : List Str} {k : Nat} {sp : Sp} (Fn : SupFun K x qual st f fd cc D) (S : SupScope N ps (defScope st)) (len : ∀ vs H Q E, sp vs H Q E → vs.length = ps.length)
    (hbody : ∀ (cdv : Value) (A : Around) (outer : List PySem.Env) (s : Shared) (H : Hp) (vs : List V) (Q : VK) (E : XK), Rm k (A.deeper (envS qual (defScope st) s.heap.objs.size f cdv cc)) → sp vs H Q E →
      ∃ t, PSs (sxOf (L2.CX P w) P w K mg base N qual (defScope st) f cdv cc A outer s H E) (defBody st) t ∧ t { nx := fun _ H' => Q .non H', rt := Q } (L2.start N vs) H) : FnG P w K mg base (k + 1) f fd ps sp := by
  obtain ⟨oc, od, kV, doc, pm, an, cdv, ct, osl, rfl, lk, hcd⟩ := Fn.ex
  obtain ⟨cl, cld, sl, hcc⟩ := Fn.cell
  refine ⟨len, fun A outer s H args us vs Q E hr e0 hb r hsp => ?_⟩
  have stay : ∀ b o, base.get? b = some o → s.heap.get? b = some o := fun b o e => (e0.bs b o e).1
  have KX : K.In s.heap := e0.mod.kin.keeps stay
  have lv : vs.length = ps.length := len _ _ _ _ hsp
  refine codeAny_call_function hr.r.depth (KX _ _ lk) rfl S.co S.gen rfl (PySem.W.codeRec_of KX hcd) (hb _ _ _ _ ?_)
  refine wpAny_newFunctionEnv (fun y hy => S.nocell y hy) (fun y hy => S.par y.1 (List.of_mem_zip (a := y.1) (b := y.2) hy).1) (fun h1 ns sb => ?_) S.kind
  have keep : ∀ b o, s.heap.get? b = some o → h1.get? b = some o := fun b o e => (sb.2 b (Nat.ne_of_lt (Heap.lt_size e))).trans (Heap.get?_push_of_some _ e)
  refine ⟨(e0.mod.nolimit.keeps stay).keeps keep, codeAny_func ?_⟩
  obtain ⟨t, ht, hq⟩ := hbody cdv A outer s H vs Q E (hr.deeper _) hsp
  have I := inv_sup (CX := L2.CX P w) (qual := qual) (f := f) (cd := cdv) (A := A) (outer := outer) (E := E) (t1 := s.toks + (ps.zip us).length) S hr.r.hd e0 lv r hcc rfl ns keep
  refine wpAny_mono (ht.run [] _ (L2.start N vs) H _ I hq) ?_ (fun e s' hs => hs)
  intro fl s' hs
  match fl, hs with
  | .ret u, ⟨v, σ', H', J, rv, q⟩ => exact ⟨v, H', J.os, J.bare, J.base, J.hok, rv, q⟩
  | .next, ⟨σ', H', J, q⟩ => exact ⟨V.non, H', J.os, J.bare, J.base, J.hok, rfl, q⟩
  | .brk, ⟨_, _, _, q⟩ => exact q.elim
  | .cont, ⟨_, _, _, q⟩ => exact q.elim
end
end Pf

namespace Pf
open PySem PySem.Spec L2
/-! ### super().__init__(text) in an error's __init__ -/
/-- what the text says of such a def's place -/
structure SupAt (X : Cx) (cc cda f D : Addr) (pn : Str) : Prop where
  kf : X.env.scope.kind = .function
  ks : X.env.kindOf "super" = some .globalImplicit
  kc : X.env.kindOf "__class__" = some .free
  kp : X.env.kindOf pn = some .local
  n0 : X.N[0]? = some pn
  fu : X.env.func = some f
  fd : ∃ (of : Obj) (fd : FuncData) (ar : Arg), X.K.lookup f = some of ∧ of.data = .func fd ∧ (fd.params.posonlyargs ++ fd.params.args).head? = some ar ∧ ar.arg = pn
  co : X.env.code = .ref cda
  cd : ∃ (oc : Obj) (vs : Array Value) (file : Str) (tf : Tok), X.K.lookup cda = some oc ∧ oc.data = .fields vs ∧ vs[2]? = some (.str file tf) ∧ ((X.prog.main.file : Str) == file) = true
  top : (X.prog.main.scope.names.lookup ("super" : Str)).isSome = false
  cl : X.env.cells.lookup ("__class__" : Str) = some cc
  cell : ∃ (oc : Obj), X.K.lookup cc = some oc ∧ oc.data = .cell (some (.ref D))
  cls : ∃ cdD, PySem.W.clsIn X.K D = some cdD
  nosup : X.mg "super" = none

section
variable {X : Cx} {pins : List (Addr × Obj)} {σ : L2.St} {H : Hp} {s : Shared} {Q : Value → Shared → Prop} {E : Value → Shared → Prop} {a C D cc cda f : Addr} {pn : Str} {ox : Obj}
theorem cls_at {K : PySem.W.Frag} {h : Heap} {D : Addr} {cd : ClassData} (X : K.In h) (e : PySem.W.clsIn K D = some cd) : ∃ o, h.get? D = some o ∧ o.data = .cls cd ∧ K.lookup D = some o := by
  unfold PySem.W.clsIn at e
  split at e
  · rename_i c d cd' sl ho
    cases e
    exact ⟨_, X _ _ ho, rfl, ho⟩
  · cases e
/-- the super object, and its method sought -/
theorem sup_base (S : SupAt X cc cda f D pn) (I : Inv X pins σ H s) (h0 : σ[0]? = some (some (.ref a))) (hx : s.heap.get? a = some ox) (hxc : ox.cls = .ref C) (hnc : ∀ c, ox.data ≠ .cls c) (hsub : PySem.W.mroIn X.K C (.ref D) = some true)
    {body : List Stmt} {p0 p1 : Pos} {attr : Str} {whole : Sem Value} (hat : (attr == ("__class__" : Str)) = false)
    (h : ∀ so h', h'.get? so = some (PySem.W.ks_superObj D a C) → (∀ y o, s.heap.get? y = some o → h'.get? y = some o) → Inv X pins σ H { s with heap := h' } → Q (.ref so) { s with heap := h' }) :
    _root_.PySem.wpAt (model X.prog X.w) X.A (.func body X.env) (attributeBase (.Call (.Name "super" p0) [] [] p1) attr X.env whole) Q E s := by
  obtain ⟨of, fd, ar, f1, f2, f3, rfl⟩ := S.fd
  obtain ⟨oc, vs, file, tf, c1, c2, c3, c4⟩ := S.cd
  obtain ⟨ol, l1, l2⟩ := S.cell
  obtain ⟨cdD, hD⟩ := S.cls
  obtain ⟨oD, hD1, hD2, _⟩ := cls_at I.kIn hD
  obtain ⟨mb, b1, b2⟩ := I.mod.blt
  obtain ⟨m, hn, hl⟩ := I.loc
  obtain ⟨u, ru, lu⟩ := hl 0 _ _ S.n0 h0 (.inl S.kp)
  cases (show u = Value.ref a from ru)
  refine PySem.ks_wpAt_super_base S.ks S.kc hat S.fu (I.kIn _ _ f1) f2 f3 S.co (I.kIn _ _ c1) c2 c3 c4 S.top ?_
  refine PySem.W.ks_loadName_global S.kf S.ks (Calls.loadGlobal_builtin (by rw [I.ok.glob]; exact I.mod.glob.keeps I.bk) S.nosup (by rw [I.ok.blt]; exact b1.keeps I.bk) ((b2 "super" (by decide)).trans (by decide +kernel)) ⟨rfl, ?_⟩)
  refine wpAny_loadName_free S.kf S.kc S.cl ⟨_, I.kIn _ _ l1, l2⟩ ?_
  have hm : m ar.arg = some (.ref a) := by
    rcases lu with lu | ⟨c, _, _⟩
    · exact lu.2
    · rcases c with c | c <;> rw [S.kp] at c <;> cases c
  refine wpAny_loadName_local S.kf S.kp hn hm ?_
  refine PySem.ks_wpAny_isType_cls hD1 hD2 ⟨rfl, ?_⟩
  obtain ⟨hh, g, d, t, os⟩ := s
  refine PySem.ks_wpAny_call_super hD1 hD2 hx hxc hnc (PySem.W.looks_mroIn I.kIn hsub) (fun h' e k => ?_)
  exact h _ h' e k (I.kept (t' := t) k)
theorem excObj_of {K : PySem.W.Frag} {C : Addr} (T : OexC K C) : ∃ cd, PySem.W.clsIn K C = some cd ∧ PySem.W.mroIn K C (.ref C) = some true ∧ PySem.W.subIn K (.ref C) (.type "ValueError") = some true := by
  obtain ⟨nm, q, N, bs, bm, sn, sub, ab, col, dd, k0, k1, k2, k3, k5, hC, hbm⟩ := T.cls
  have hcl : PySem.W.clsIn K C = some { name := nm, bases := bs, mro := .ref C :: bm, ns := N, qualname := q, hasDict := true, slotNames := sn, subclasses := sub, abstract := ab, collection := col, hasDel := false } := by unfold PySem.W.clsIn; rw [hC] <;> rfl
  have hmro : ∀ b : Value, PySem.W.mroIn K C b = some ((Value.ref C :: bm).contains b) := fun b => by
    unfold PySem.W.mroIn
    rw [hcl]
    rfl
  refine ⟨_, hcl, ?_, ?_⟩
  · rw [hmro]; simp
  · show PySem.W.mroIn K C _ = _
    rw [hmro, List.contains_cons, PySem.HandSPX.refsVE_contains "ValueError" bm hbm]
    rfl
theorem sup_init (S : SupAt X cc cda f C pn) (T : OexC X.K C) (I : Inv X pins σ H s) (h0 : σ[0]? = some (some (.ref a))) (ea : H a = some (exo a C none)) (na : a ≠ C) (fa : a ≠ X.env.locals)
    (hm : PySem.W.ks_superIn X.K C C "__init__" = some (some (.builtin "ValueError.__init__"))) (ho : PySem.W.nsIn X.K PySem.cStatics "thirdparty.any" = some none)
    {body : List Stmt} {p0 p1 p2 p3 p4 : Pos} {txt : Str} {j} {pl : Sem Bool}
    (he : eval (.Call (.Attribute (.Call (.Name "super" p0) [] [] p1) "__init__" p2) [.Constant (.str txt) j p3] [] p4) X.env = (do
      let ov ← attributeBase (.Call (.Name "super" p0) [] [] p1) "__init__" X.env (eval (.Call (.Name "super" p0) [] [] p1) X.env)
      standAt p2.atName
      let (f, first) ← holding [ov] (getMethod ov "__init__" pl)
      callWith p4 f first (backTo p4 (starEach [.Constant (.str txt) j p3] X.env)) []))
    (h : ∀ s', Inv X pins σ H s' → Q .none s') :
    _root_.PySem.wpAt (model X.prog X.w) X.A (.func body X.env) (eval (.Call (.Attribute (.Call (.Name "super" p0) [] [] p1) "__init__" p2) [.Constant (.str txt) j p3] [] p4) X.env) Q X.xe s := by
  obtain ⟨cd, hcl, hmro, hsub⟩ := excObj_of T
  obtain ⟨t1, hx⟩ := exo_at I.hok ea
  refine PySem.ks_wpAt_MethodCall (pl := pl) ?_ he
  refine sup_base S I h0 hx rfl (fun c z => by cases z) hmro (by decide) fun so h' so1 k1 I1 => ?_
  have hx1 := k1 _ _ hx
  have Io : PySem.W.InstAt h' a ({ cls := .ref C, dict := none, data := .fields #[.ref t1, .none, .none, .none, .bool false, .none] } : Obj) C none := ⟨hx1, rfl, rfl, trivial⟩
  have hI : PySem.W.Looks (model X.prog X.w) h' (isInstance (.ref a) (.type "ValueError")) true := Io.type.andThen (PySem.W.looks_subIn I1.kIn hsub)
  have hmr : PySem.W.Looks (model X.prog X.w) h' (mroOf (.ref C)) cd.mro := (PySem.W.looks_clsIn I1.kIn hcl).andThen .now
  have hal : PySem.W.alongIn X.K "__init__" ((cd.mro.dropWhile (· != .ref C)).drop 1) = some (some (.builtin "ValueError.__init__")) := by
    unfold PySem.W.ks_superIn at hm
    rw [hcl] at hm
    exact hm
  obtain ⟨hh, g, d, t, os⟩ := s
  refine PySem.W.kxs_getMethod (K := X.K) PySem.W.kxs_ValueError so1 (PySem.W.looks_opaque I1.kIn ho) hmr rfl I1.kIn hal hI na (by decide) ?_
  have k2 : ∀ y o, h'.get? y = some o → (h'.push (PySem.W.kxs_mw "ValueError.__init__" a)).get? y = some o := fun y o e => Heap.get?_push_of_some _ e
  have I2 : Inv X pins σ H { heap := h'.push (PySem.W.kxs_mw "ValueError.__init__" a), gens := g, drawn := d, toks := t + 1, os := os } := I1.kept (t' := t + 1) k2
  have hu : (h'.push (PySem.W.kxs_mw "ValueError.__init__" a)).get? h'.objs.size = some (PySem.W.kxs_mw "ValueError.__init__" a) := Heap.get?_push_at rfl rfl
  have I3 : Inv X ((h'.objs.size, PySem.W.kxs_mw "ValueError.__init__" a) :: pins) σ H { heap := h'.push (PySem.W.kxs_mw "ValueError.__init__" a), gens := g, drawn := d, toks := t + 1, os := os } := by
    refine I2.pins_of fun p hp => ?_
    rcases List.mem_cons.mp hp with rfl | hp
    · refine ⟨hu, I1.hok.fresh (Nat.le_refl _), fun z => ?_, I1.nofs (Nat.le_refl _), fun v z => by cases z⟩
      have := I1.lt
      rw [← show h'.objs.size = X.env.locals from z] at this
      exact absurd this (Nat.lt_irrefl _)
    · exact I2.pin p (List.mem_append_right _ hp)
  refine PySem.W.kxs_callWith (i := "ValueError.__init__") (x := a) (by rfl) ?_
  have hst : backTo p4 (starEach [.Constant (.str txt) j p3] X.env) = (false, eval (.Constant (.str txt) j p3) X.env) :: backTo p4 (starEach [] X.env) := by rfl
  rw [hst]
  refine Calls.evalArgs_plain ?_
  rw [← hst]
  refine thn ((pa_cons (pe_str (x := txt) (j := j) (pos := p3)) pa_nil (by rfl)).run p4 _ _ σ H (fun vs H1 => vs = [V.str txt] ∧ H1 = H) I3 ⟨rfl, rfl⟩) fun us s4 ⟨vs, H4, I4, r4, e1, e2⟩ => ?_
  subst e1 e2
  have hlen : us.length ≤ sizeLine := by rw [← Paired.length r4]; show 1 ≤ sizeLine; decide
  have hu4 := (I4.pin (h'.objs.size, PySem.W.kxs_mw "ValueError.__init__" a) (List.mem_append_right _ (List.mem_cons_self ..))).1
  refine ⟨hu4, ?_⟩
  have I5 : Inv X pins σ H4 s4 := I4.pins_of fun p hp => I4.pin p (List.mem_append_right _ (List.mem_cons_of_mem _ hp))
  obtain ⟨nm, q, N, bs, bm, sn, sub, ab, col, dd, k0, k1', k2', k3, k5, hC, hbm⟩ := T.cls
  obtain ⟨t4, hx4⟩ := exo_at I5.hok ea
  obtain ⟨h4, g4, d4, tk4, os4⟩ := s4
  refine wpAny_call (codeAny_of_tree ?_)
  show wpAny _ X.A.in1 (callAny (.ref h'.objs.size) ⟨us, []⟩) _ _ _
  simp only [callAny]
  refine wpAny_bind (wpAny_load hu4 ?_)
  simp only [PySem.W.kxs_mw, show (Value.type "method-wrapper" == Value.type "method" || Value.type "method-wrapper" == Value.type "builtin_function_or_method" || Value.type "method-wrapper" == Value.type "method-wrapper") = true by decide, if_true]
  refine PySem.W.KFB.if_so (by decide) ?_
  refine wpAny_bind (PySem.W.check_bound_init F.excBase_ValueError.toExcCallFacts (I5.kIn _ _ hC) hx4 rfl ?_)
  refine wpAny_bind (wpAny_pure (wpAny_pure ?_))
  refine ⟨plainId_quiet F.excBase_ValueError.init.plain _, codeAny_builtin F.excBase_ValueError.initEntry ?_⟩
  refine PySem.W.exc_init_tree (cls := .ref C) (t0 := t4) (dv := none) (c2 := .none) (c3 := .none) (b4 := .bool false) hx4 hlen fun h6 k6 e6 _ => ?_
  have J := I5.write (t' := tk4) (x := a) (e := a) (o := exo a C none) (by rw [ea]; exact True.intro) (.inl rfl) k6 ⟨_, e6⟩ (exo_ok e6)
  have eu : upd H4 a (exo a C none) = H4 := by
    funext b
    by_cases hb : b = a
    · rw [hb, upd_same, ea]
    · rw [upd_ne hb]
  rw [eu] at J
  exact h _ J
end
section
variable {P : Program} {w : World} {K : PySem.W.Frag} {mg : Str → Option Value} {base : Heap}
/-- what the text says of an error's __init__ -/
structure SupTxt (P : Program) (K : PySem.W.Frag) (mg : Str → Option Value) (cc D : Addr) (fd : FuncData) (pn : Str) : Prop where
  nosup : mg "super" = none
  par : ∃ ar : Arg, (fd.params.posonlyargs ++ fd.params.args).head? = some ar ∧ ar.arg = pn
  top : (P.main.scope.names.lookup ("super" : Str)).isSome = false
  cls : ∃ cdD, PySem.W.clsIn K D = some cdD
  opq : PySem.W.nsIn K PySem.cStatics "thirdparty.any" = some none
def CodeAt (P : Program) (K : PySem.W.Frag) (cdv : Value) : Prop := ∃ (cda : Addr) (oc : Obj) (vs : Array Value) (file : Str) (tf : Tok), cdv = .ref cda ∧ K.lookup cda = some oc ∧ oc.data = .fields vs ∧ vs[2]? = some (.str file tf) ∧ ((P.main.file : Str) == file) = true
/-- such a def as it stands, its code's place told -/
structure SupFun2 (P : Program) (K : PySem.W.Frag) (x qual : Str) (st : Stmt) (f : Addr) (fd : FuncData) (cc D : Addr) : Prop where
  ex : ∃ (oc : Value) (od : Option Addr) (kV doc pm : Value) (an : Option Addr) (cdv ct : Value) (osl : Array (Option Value)),
    fd = PySem.W.ksFn x qual (defArgs st) (defBody st) (defScope st) .none kV doc pm an cdv ct cc ∧ K.lookup f = some ⟨oc, od, .func fd, osl⟩ ∧ PySem.W.codeIn K cdv qual = true ∧ CodeAt P K cdv
  cell : ∃ (cl : Value) (cd : Option Addr) (sl : Array (Option Value)), K.lookup cc = some ⟨cl, cd, .cell (some (.ref D)), sl⟩
theorem fn_e {x qual pn : Str} {st : Stmt} {f cc C : Addr} {fd : FuncData} {N ps : List Str} {k : Nat} {sp : Sp} {rest : List Stmt} {p0 p1 p2 p3 p4 p5 : Pos} {txt : Str} {j} {pl : Sem Bool} (Fn : SupFun2 P K x qual st f fd cc C) (ST : SupTxt P K mg cc C fd pn) (S : SupScope N ps (defScope st)) (len : ∀ vs H Q E, sp vs H Q E → vs.length = ps.length)
    (T : OexC K C) (hsu : PySem.W.ks_superIn K C C "__init__" = some (some (.builtin "ValueError.__init__")))
    (hks : (defScope st).names.lookup ("super" : Str) = some .globalImplicit) (hkc : (defScope st).names.lookup ("__class__" : Str) = some .free) (hkp : (defScope st).names.lookup pn = some .local) (hn0 : N[0]? = some pn)
    (hb0 : defBody st = .Expr (.Call (.Attribute (.Call (.Name "super" p0) [] [] p1) "__init__" p2) [.Constant (.str txt) j p3] [] p4) p5 :: rest)
    (he : ∀ env : PySem.Env, eval (.Call (.Attribute (.Call (.Name "super" p0) [] [] p1) "__init__" p2) [.Constant (.str txt) j p3] [] p4) env = (do
      let ov ← attributeBase (.Call (.Name "super" p0) [] [] p1) "__init__" env (eval (.Call (.Name "super" p0) [] [] p1) env)
      standAt p2.atName
      let (f, first) ← holding [ov] (getMethod ov "__init__" pl)
      callWith p4 f first (backTo p4 (starEach [.Constant (.str txt) j p3] env)) []))
    (hbody : ∀ (cdv : Value) (A : Around) (outer : List PySem.Env) (s : Shared) (H : Hp) (vs : List V) (Q : VK) (E : XK), Rm k (A.deeper (envS qual (defScope st) s.heap.objs.size f cdv cc)) → sp vs H Q E →
      ∃ a vs', vs = .ref a :: vs' ∧ a ≠ C ∧ H a = some (exo a C none) ∧ ∃ t, PSs (sxOf (L2.CX P w) P w K mg base N qual (defScope st) f cdv cc A outer s H E) rest t ∧ t { nx := fun _ H' => Q .non H', rt := Q } (L2.start N vs) H) : FnG P w K mg base (k + 1) f fd ps sp := by
  obtain ⟨oc, od, kV, doc, pm, an, cdv, ct, osl, rfl, lk, hcd, hcode⟩ := Fn.ex
  obtain ⟨cl, cld, sl, hcc⟩ := Fn.cell
  refine ⟨len, fun A outer s H args us vs Q E hr e0 hb r hsp => ?_⟩
  have stay : ∀ b o, base.get? b = some o → s.heap.get? b = some o := fun b o e => (e0.bs b o e).1
  have KX : K.In s.heap := e0.mod.kin.keeps stay
  have lv : vs.length = ps.length := len _ _ _ _ hsp
  refine codeAny_call_function hr.r.depth (KX _ _ lk) rfl S.co S.gen rfl (PySem.W.codeRec_of KX hcd) (hb _ _ _ _ ?_)
  refine wpAny_newFunctionEnv (fun y hy => S.nocell y hy) (fun y hy => S.par y.1 (List.of_mem_zip (a := y.1) (b := y.2) hy).1) (fun h1 ns sb => ?_) S.kind
  have keep : ∀ b o, s.heap.get? b = some o → h1.get? b = some o := fun b o e => (sb.2 b (Nat.ne_of_lt (Heap.lt_size e))).trans (Heap.get?_push_of_some _ e)
  refine ⟨(e0.mod.nolimit.keeps stay).keeps keep, PySem.ks_codeAny_funcAt ?_⟩
  obtain ⟨a, vs', rfl, hac, ea, t, ht, hq⟩ := hbody cdv A outer s H vs Q E (hr.deeper _) hsp
  have I := inv_sup (CX := L2.CX P w) (qual := qual) (f := f) (cd := cdv) (A := A) (outer := outer) (E := E) (t1 := s.toks + (ps.zip us).length) S hr.r.hd e0 lv r hcc rfl ns keep
  obtain ⟨cda, occ, cvs, file, tf, rfl, q1, q2, q3, q4⟩ := hcode
  have SA : SupAt (sxOf (L2.CX P w) P w K mg base N qual (defScope st) f (.ref cda) cc A outer s H E) cc cda f C pn := by
    obtain ⟨ar, a1, a2⟩ := ST.par
    exact ⟨S.kind, hks, hkc, hkp, hn0, rfl, ⟨_, _, ar, lk, rfl, a1, a2⟩, rfl, ⟨occ, cvs, file, tf, q1, q2, q3, q4⟩, ST.top, rfl, ⟨_, hcc, rfl⟩, ST.cls, ST.nosup⟩
  show _root_.PySem.wpAt (model P w) (A.deeper (envS qual (defScope st) s.heap.objs.size f (.ref cda) cc)) (.func (defBody st) (envS qual (defScope st) s.heap.objs.size f (.ref cda) cc)) (execs (defBody st) (envS qual (defScope st) s.heap.objs.size f (.ref cda) cc)) _ _ _
  rw [hb0]
  refine PySem.ks_wpAt_execs_cons (PySem.ks_wpAt_Expr_any ?_ (hi := by unfold interactive; rw [show (envS qual (defScope st) s.heap.objs.size f (.ref cda) cc).scope.kind = .function from S.kind]; rfl))
  refine sup_init SA T I rfl ea hac (fun z => ?_) hsu ST.opq (he _) (fun s2 J => ?_)
  · have := I.free
    rw [← z, ea] at this
    cases this
  refine wpAt_of_wpAny ?_
  refine wpAny_mono (ht.run [] _ (L2.start N (.ref a :: vs')) H _ J hq) ?_ (fun e s' hs => hs)
  intro fl s' hs
  match fl, hs with
  | .ret u, ⟨v, σ', H', J, rv, q⟩ => exact ⟨v, H', J.os, J.bare, J.base, J.hok, rv, q⟩
  | .next, ⟨σ', H', J, q⟩ => exact ⟨V.non, H', J.os, J.bare, J.base, J.hok, rfl, q⟩
  | .brk, ⟨_, _, _, q⟩ => exact q.elim
  | .cont, ⟨_, _, _, q⟩ => exact q.elim
end
end Pf

namespace Pf
open PySem PySem.Spec L2

/-! ### what the written part says of a class of errors: one look -/
def oexB (K : PySem.W.Frag) (C : Addr) : Bool := match K.lookup C with
  | some ⟨.type "type", _, .cls cd, sl⟩ => (match cd.mro, sl.toList with
    | .ref C' :: bm, [_, _, _, _, some (.builtin n), _] => C' == C && n == "ValueError.__new__" && !cd.hasDel && cd.hasDict && PySem.HandSPX.refsVE bm
    | _, _ => false)
  | _ => false
theorem oexB_ok {K : PySem.W.Frag} {C : Addr} (q : oexB K C = true) : ∃ nm q N bs bm sn sub ab col dd k0 k1 k2 k3 k5, K.lookup C = some (excClassObj nm q C N bs bm true sn sub ab col dd k0 k1 k2 k3 k5 "ValueError.__new__") ∧ PySem.HandSPX.refsVE bm = true := by
  unfold oexB at q
  split at q
  · rename_i dd cd sl ho
    split at q
    · rename_i C' bm k0 k1 k2 k3 n k5 hm hs
      simp only [Bool.and_eq_true, beq_iff_eq, Bool.not_eq_true'] at q
      obtain ⟨⟨⟨⟨rfl, rfl⟩, hdel⟩, hdct⟩, ht⟩ := q
      obtain ⟨nm, bs, mro, ns, qn, hd, sn, sub, ab, col, del⟩ := cd
      dsimp only at hm hdel hdct
      subst hm hdel hdct
      have hsl : sl = #[k0, k1, k2, k3, some (.builtin "ValueError.__new__"), k5] := by
        obtain ⟨l⟩ := sl
        simp only at hs
        rw [hs]
      subst hsl
      exact ⟨nm, qn, ns, bs, bm, sn, sub, ab, col, dd, k0, k1, k2, k3, k5, ho, ht⟩
    · cases q
  · cases q
/-- all that is asked of an error's class C, its __init__ at fI, its fields -/
def errB (K : PySem.W.Frag) (C fI : Addr) (fs : List Str) : Bool :=
  oexB K C && decide (PySem.W.findIn K (.ref C) "__setattr__" = some (some (.builtin "object.__setattr__"))) && decide (PySem.W.subIn K (.ref C) (.type "BaseException") = some true) &&
  decide (PySem.W.typeIn K (.ref C) = some (.type "type")) && PySem.W.keepIn K (.ref C) && decide (PySem.W.findIn K (.ref C) "__getattribute__" = some (some (.builtin "BaseException.__getattribute__"))) &&
  decide (PySem.W.findIn K (.ref C) "__getattr__" = some none) && PySem.W.hasDictIn K C && decide (PySem.W.findIn K (.ref C) "__class__" = some (some (.builtin "object.__class__"))) &&
  decide (PySem.W.specialIn K (.builtin "object.__class__") "__get__" = some (some (.builtin "getset_descriptor.__get__"))) && decide (PySem.W.takesIn K (.builtin "object.__class__") = some true) && decide (PySem.W.mroIn K C (.type "object") = some true) &&
  decide (PySem.W.ks_superIn K C C "__init__" = some (some (.builtin "ValueError.__init__"))) && decide (PySem.W.findIn K (.ref C) "__init__" = some (some (.ref fI))) && decide (PySem.W.typeIn K (.ref fI) = some (.type "function")) &&
  fs.all fun f => decide (PySem.W.findIn K (.ref C) f = some none)
structure ErrC (K : PySem.W.Frag) (C fI : Addr) (fs : List Str) : Prop where
  ox : OexC K C
  xf : XfC K C
  ec : ExcC K C
  su : PySem.W.ks_superIn K C C "__init__" = some (some (.builtin "ValueError.__init__"))
  iC : PySem.W.findIn K (.ref C) "__init__" = some (some (.ref fI))
  tI : PySem.W.typeIn K (.ref fI) = some (.type "function")
  no : ∀ f ∈ fs, PySem.W.findIn K (.ref C) f = some none
theorem errB_ok {K : PySem.W.Frag} {C fI : Addr} {fs : List Str} (h : errB K C fI fs = true) : ErrC K C fI fs := by
  unfold errB at h
  simp only [Bool.and_eq_true, decide_eq_true_eq, List.all_eq_true] at h
  obtain ⟨⟨⟨⟨⟨⟨⟨⟨⟨⟨⟨⟨⟨⟨⟨h1, h2⟩, h3⟩, h4⟩, h5⟩, h6⟩, h7⟩, h8⟩, h9⟩, h10⟩, h11⟩, h12⟩, h13⟩, h14⟩, h15⟩, h16⟩ := h
  exact ⟨⟨oexB_ok h1, h2, h3, h4, h5⟩, ⟨h6, h7, h3, h8⟩, ⟨h6, h7, h3, h8, h9, h10, h11, h12⟩, h13, h14, h15, h16⟩

/-! ### the __init__ of an error: its promise -/
def SpEI (C : Addr) (fs : List Str) : Sp := fun vs H Q _ => ∃ a ws, vs = .ref a :: ws ∧ ws.length = fs.length ∧ a ≠ C ∧ H a = some (exo a C none) ∧
  ∀ d, H d = none → d ≠ a → Q .non (upd (upd H d (exd d (fs.zip ws).reverse)) a (exo a C (some d)))
theorem spEI_len {C : Addr} {fs ps : List Str} (h : ps.length = fs.length + 1) : ∀ vs H Q E, SpEI C fs vs H Q E → vs.length = ps.length := fun vs H Q E ⟨a, ws, e, l, _⟩ => by rw [e, List.length_cons, l, h]
section
variable {X : Cx} {f g : Str} {o e o2 e2 : Expr} {p' q' pos pos2 : Pos} {a C : Addr} {y z : V} {H : Hp} {σ : L2.St} {D : Ends}
/-- one field -/
theorem ei_one (T : OexC X.K C) (n1 : PySem.W.findIn X.K (.ref C) f = some none) (h0 : σ[0]? = some (some (.ref a))) (h1 : σ[1]? = some (some y)) (ea : H a = some (exo a C none))
    (q : ∀ d, H d = none → d ≠ a → D.nx σ (upd (upd H d (exd d [(f, y)])) a (exo a C (some d)))) : tOst X.K f (tVar 0) (tVar 1) D σ H :=
  ⟨y, h1, .ref a, h0, a, C, rfl, T, n1, .inl ⟨ea, q⟩⟩
/-- two fields -/
theorem ei_two (T : OexC X.K C) (n1 : PySem.W.findIn X.K (.ref C) f = some none) (n2 : PySem.W.findIn X.K (.ref C) g = some none) (h0 : σ[0]? = some (some (.ref a))) (h1 : σ[1]? = some (some y)) (h2 : σ[2]? = some (some z)) (ea : H a = some (exo a C none))
    (q : ∀ d, H d = none → d ≠ a → D.nx σ (upd (upd H d (exd d [(g, z), (f, y)])) a (exo a C (some d)))) : tSeq (tOst X.K f (tVar 0) (tVar 1)) (tOst X.K g (tVar 0) (tVar 2)) D σ H :=
  ⟨y, h1, .ref a, h0, a, C, rfl, T, n1, .inl ⟨ea, fun d hd hda => ⟨z, h2, .ref a, h0, a, C, rfl, T, n2, .inr ⟨d, [(f, y)], upd_same, by rw [upd_ne hda]; exact upd_same, (by show 1 ≤ 900; decide), by
    have e : upd (upd (upd H d (exd d [(f, y)])) a (exo a C (some d))) d (exd d ((g, z) :: [(f, y)])) = upd (upd H d (exd d [(g, z), (f, y)])) a (exo a C (some d)) := by
      funext b
      by_cases hb : b = d
      · subst hb
        rw [upd_same, upd_ne hda, upd_same]
      · rw [upd_ne hb]
        by_cases ha : b = a
        · subst ha; rw [upd_same, upd_same]
        · rw [upd_ne ha, upd_ne ha, upd_ne hb, upd_ne hb]
    show D.nx σ (upd (upd (upd H d (exd d [(f, y)])) a (exo a C (some d))) d (exd d ((g, z) :: [(f, y)])))
    rw [e]
    exact q d hd hda⟩⟩⟩⟩
end
section
variable {P : Program} {w : World} {K : PySem.W.Frag} {mg : Str → Option Value} {base : Heap}
theorem fn_e1 {x qual pn q1 : Str} {st s1 : Stmt} {f cc C fI : Addr} {fd : FuncData} {N : List Str} {fld : Str} {p0 p1 p2 p3 p4 p5 : Pos} {txt : Str} {j} {pl : Sem Bool} (Fn : SupFun2 P K x qual st f fd cc C) (ST : SupTxt P K mg cc C fd pn) (S : SupScope N [pn, q1] (defScope st))
    (T : ErrC K C fI [fld]) (hks : (defScope st).names.lookup ("super" : Str) = some .globalImplicit) (hkc : (defScope st).names.lookup ("__class__" : Str) = some .free) (hkp : (defScope st).names.lookup pn = some .local) (hn0 : N[0]? = some pn)
    (hb0 : defBody st = [.Expr (.Call (.Attribute (.Call (.Name "super" p0) [] [] p1) "__init__" p2) [.Constant (.str txt) j p3] [] p4) p5, s1])
    (he : ∀ env : PySem.Env, eval (.Call (.Attribute (.Call (.Name "super" p0) [] [] p1) "__init__" p2) [.Constant (.str txt) j p3] [] p4) env = (do
      let ov ← attributeBase (.Call (.Name "super" p0) [] [] p1) "__init__" env (eval (.Call (.Name "super" p0) [] [] p1) env)
      standAt p2.atName
      let (f, first) ← holding [ov] (getMethod ov "__init__" pl)
      callWith p4 f first (backTo p4 (starEach [.Constant (.str txt) j p3] env)) []))
    (h1 : ∀ (cdv : Value) (A : Around) (outer : List PySem.Env) (s : Shared) (H : Hp) (E : XK), PS (sxOf (L2.CX P w) P w K mg base N qual (defScope st) f cdv cc A outer s H E) s1 (tOst K fld (tVar 0) (tVar 1))) :
    FnG P w K mg base 1 f fd [pn, q1] (SpEI C [fld]) :=
  fn_e (k := 0) Fn ST S (spEI_len rfl) T.ox T.su hks hkc hkp hn0 hb0 he fun cdv A outer s H vs Q E hr ⟨a, ws, e, l, na, ea, q⟩ => by
    subst e
    match ws, l with
    | [y], _ => exact ⟨a, [y], rfl, na, ea, _, pss_one (h1 cdv A outer s H E), ei_one (X := sxOf (L2.CX P w) P w K mg base N qual (defScope st) f cdv cc A outer s H E) T.ox (T.no _ (List.mem_cons_self ..)) rfl rfl ea q⟩
theorem fn_e2 {x qual pn q1 q2 : Str} {st s1 s2 : Stmt} {f cc C fI : Addr} {fd : FuncData} {N : List Str} {fld gld : Str} {p0 p1 p2 p3 p4 p5 : Pos} {txt : Str} {j} {pl : Sem Bool} (Fn : SupFun2 P K x qual st f fd cc C) (ST : SupTxt P K mg cc C fd pn) (S : SupScope N [pn, q1, q2] (defScope st))
    (T : ErrC K C fI [fld, gld]) (hks : (defScope st).names.lookup ("super" : Str) = some .globalImplicit) (hkc : (defScope st).names.lookup ("__class__" : Str) = some .free) (hkp : (defScope st).names.lookup pn = some .local) (hn0 : N[0]? = some pn)
    (hb0 : defBody st = [.Expr (.Call (.Attribute (.Call (.Name "super" p0) [] [] p1) "__init__" p2) [.Constant (.str txt) j p3] [] p4) p5, s1, s2])
    (he : ∀ env : PySem.Env, eval (.Call (.Attribute (.Call (.Name "super" p0) [] [] p1) "__init__" p2) [.Constant (.str txt) j p3] [] p4) env = (do
      let ov ← attributeBase (.Call (.Name "super" p0) [] [] p1) "__init__" env (eval (.Call (.Name "super" p0) [] [] p1) env)
      standAt p2.atName
      let (f, first) ← holding [ov] (getMethod ov "__init__" pl)
      callWith p4 f first (backTo p4 (starEach [.Constant (.str txt) j p3] env)) []))
    (h1 : ∀ (cdv : Value) (A : Around) (outer : List PySem.Env) (s : Shared) (H : Hp) (E : XK), PS (sxOf (L2.CX P w) P w K mg base N qual (defScope st) f cdv cc A outer s H E) s1 (tOst K fld (tVar 0) (tVar 1)))
    (h2 : ∀ (cdv : Value) (A : Around) (outer : List PySem.Env) (s : Shared) (H : Hp) (E : XK), PS (sxOf (L2.CX P w) P w K mg base N qual (defScope st) f cdv cc A outer s H E) s2 (tOst K gld (tVar 0) (tVar 2))) :
    FnG P w K mg base 1 f fd [pn, q1, q2] (SpEI C [fld, gld]) :=
  fn_e (k := 0) Fn ST S (spEI_len rfl) T.ox T.su hks hkc hkp hn0 hb0 he fun cdv A outer s H vs Q E hr ⟨a, ws, e, l, na, ea, q⟩ => by
    subst e
    match ws, l with
    | [y, z], _ => exact ⟨a, [y, z], rfl, na, ea, _, pss_cons (h1 cdv A outer s H E) (pss_one (h2 cdv A outer s H E)), ei_two (X := sxOf (L2.CX P w) P w K mg base N qual (defScope st) f cdv cc A outer s H E) T.ox (T.no _ (List.mem_cons_self ..)) (T.no _ (List.mem_cons_of_mem _ (List.mem_cons_self ..))) rfl rfl rfl ea q⟩
end

/-! ### an error is made -/
theorem Rm.make {k : Nat} {A : Around} (r : Rm (k + 1) A) (C : Addr) (us : List Value) (kw : List (Str × Value)) : Rm k (A.under (.builtin "type.__call__" ⟨.ref C :: us, kw⟩)) := ⟨r.r.make C us kw, r.g⟩
section
variable {X : Cx}
theorem err_end {H1 H2 : Hp} {a d C : Addr} {L : List (Str × V)} (n : H1 a = none) (hda : d ≠ a) (e : H2 = upd (upd (upd H1 a (exo a C none)) d (exd d L)) a (exo a C (some d))) : upd (del H2 a) d (.xd L) = upd H1 d (.xd L) := by
  subst e
  funext b
  by_cases hd : b = d
  · subst hd; rw [upd_same, upd_same]
  · rw [upd_ne hd, upd_ne hd]
    by_cases ha : b = a
    · subst ha; rw [del_same, n]
    · rw [del_ne ha, upd_ne ha, upd_ne hd, upd_ne ha]
/-- the own __init__ at work on a fresh error -/
theorem err_run {C fI : Addr} {fd : FuncData} {ps fs : List Str} {pins : List (Addr × Obj)} {σ : L2.St} {H1 : Hp} {Q : XK} {hp : Heap} {g : Array GenState} {dr : Drawn} {tk : Nat} {os : OsState} {us us2 : List Value} {vs : List V} {kw : List (Str × Value)}
    (T : ErrC X.K C fI fs) (F1 : FnG X.prog X.w X.K X.mg X.base 1 fI fd ps (SpEI C fs)) (hr : Rm 2 X.A) (I1 : Inv X pins σ H1 ⟨hp, g, dr, tk, os⟩) (r1 : Vals vs us2) (hl : vs.length = fs.length)
    (hb : ∀ s : Shared, X.K.In s.heap → BindsTo s fd ⟨.ref (hp.objs.size + 1) :: us, kw⟩ (ps.zip (Value.ref (hp.objs.size + 1) :: us2))) (q : ∀ d, H1 d = none → Q (.ref C) (some d) (upd H1 d (.xd (fs.zip vs).reverse))) :
    codeAny (model X.prog X.w) (X.A.under (.builtin "type.__call__" ⟨.ref C :: us, kw⟩)) (.call (.ref fI) ⟨.ref (hp.objs.size + 1) :: us, kw⟩)
      (fun r s' => match r with | .ok (.ret v) => v = .none ∧ MkP X pins σ Q (.ref (hp.objs.size + 1)) s' | .ok _ => False | .error e => X.xe e s') ⟨(hp.push (PySem.W.kdv_tup us)).push (PySem.HandSPX.excO C hp.objs.size), g, dr, tk, os⟩ := by
  obtain ⟨nm, qq, N, bs, bm, sn, sub, ab, col, dd, k0, k1, k2, k3, k5, hC, hbm⟩ := T.ox.cls
  have hsz : hp.objs.size ≤ hp.objs.size + 1 := Nat.le_succ _
  have hn : H1 (hp.objs.size + 1) = none := I1.hok.fresh hsz
  have kk : ∀ b o, hp.get? b = some o → ((hp.push (PySem.W.kdv_tup us)).push (PySem.HandSPX.excO C hp.objs.size)).get? b = some o := fun b o e => Heap.get?_push_of_some _ (Heap.get?_push_of_some _ e)
  have hget : ((hp.push (PySem.W.kdv_tup us)).push (PySem.HandSPX.excO C hp.objs.size)).get? (hp.objs.size + 1) = some (PySem.HandSPX.excO C hp.objs.size) := by heap_get
  have I2 : Inv X pins σ (upd H1 (hp.objs.size + 1) (exo (hp.objs.size + 1) C none)) ⟨(hp.push (PySem.W.kdv_tup us)).push (PySem.HandSPX.excO C hp.objs.size), g, dr, tk, os⟩ :=
    I1.laid (t' := tk) (a := hp.objs.size + 1) (o := exo (hp.objs.size + 1) C none) (h' := (hp.push (PySem.W.kdv_tup us)).push (PySem.HandSPX.excO C hp.objs.size)) kk hsz (exo_ok hget)
  have hac : hp.objs.size + 1 ≠ C := fun z => by
    have := Heap.lt_size (I1.kIn _ _ hC)
    rw [← z] at this
    exact absurd this (Nat.not_lt_of_le hsz)
  have hq : SpEI C fs (V.ref (hp.objs.size + 1) :: vs) (upd H1 (hp.objs.size + 1) (exo (hp.objs.size + 1) C none)) (fun v H2 => v = .non ∧ ∃ (d : Addr) (L : List (Str × V)), H2 (hp.objs.size + 1) = some (exo (hp.objs.size + 1) C (some d)) ∧ H2 d = some (exd d L) ∧ H1 d = none ∧ Q (.ref C) (some d) (upd (del H2 (hp.objs.size + 1)) d (.xd L))) (WE WF σ) := by
    refine ⟨_, vs, rfl, hl, hac, upd_same, fun d hd hda => ⟨rfl, d, _, upd_same, by rw [upd_ne hda, upd_same], by rw [upd_ne hda] at hd; exact hd, ?_⟩⟩
    rw [err_end hn hda rfl]
    rw [upd_ne hda] at hd
    exact q d hd
  refine codeAny_mono (F1.run _ X.stack _ _ ⟨Value.ref (hp.objs.size + 1) :: us, kw⟩ (Value.ref (hp.objs.size + 1) :: us2) _ _ (WE WF σ) (hr.make C us kw) (I2.env0.make C us kw) (hb _ I2.kIn) (.cons (show RelV (V.ref (hp.objs.size + 1)) (Value.ref (hp.objs.size + 1)) from rfl) r1) hq) fun r s' hq' => ?_
  cases r with
  | error er => exact passAt takes_wf σ pins _ _ er s' I2 hq'
  | ok fl =>
    cases fl with
    | ret u =>
      obtain ⟨v, H2, os2, bare2, un2, hok2, rv, ev, d, L, ea, ed, hd1, q2⟩ := hq'
      subst ev
      obtain ⟨h2, g2, d2, t2, os'⟩ := s'
      exact ⟨rv, mk_end (raises_own T.ox.exC T.ox.tyC) I1 hsz kk un2 hok2 os2 bare2 ea ed hd1 q2⟩
    | next => exact False.elim hq'
    | brk => exact False.elim hq'
    | cont => exact False.elim hq'
/-- C(e, ..) by place -/
theorem pmk_err {x : Str} {C fI : Addr} {fd : FuncData} {ps fs : List Str} {e : Expr} {es : List Expr} {ta : TA} {p pos : Pos} (T : ErrC X.K C fI fs) (F1 : FnG X.prog X.w X.K X.mg X.base 1 fI fd ps (SpEI C fs)) (hr : Rm 2 X.A) (hb : Binds X.K fd ps [])
    (hg : Gl X x) (hm : X.mg x = some (.ref C)) (ha : PA X (e :: es) ta) (hf : fs.length ≤ 10)
    (hdb : (x == ("__debug__" : Str)) = false) (he : starEach (e :: es) X.env = (false, eval e X.env) :: starEach es X.env) (hpl : (backTo pos (starEach es X.env)).any (·.1) = false) :
    PMk X (.Call (.Name x p) (e :: es) [] pos) (fun σ H Q => ta σ H fun vs H1 => vs.length = fs.length ∧ ∀ d, H1 d = none → Q (.ref C) (some d) (upd H1 d (.xd (fs.zip vs).reverse))) := by
  intro pins s σ H Q I h
  obtain ⟨nm, q, N, bs, bm, sn, sub, ab, col, dd, k0, k1, k2, k3, k5, hC, hbm⟩ := T.ox.cls
  refine wpAny_Call_Name_kw (ld_glob I hg hm ?_ hdb)
  refine PySem.W.callWith_K (h₀ := X.base) I.ok.mod.kin T.ox.kC (thn (ha.run pos pins s σ H _ I h) fun us s1 ⟨vs, H1, I1, r1, hz, q1⟩ => ⟨I1.kIn, ?_⟩) he hpl
  show wpAny _ _ (call (.ref C) us) _ _ _
  obtain ⟨hp, g, dr, tk, os⟩ := s1
  have hus : us.length ≤ sizeLine := by
    rw [← Paired.length r1, hz, sizeLine_eq]
    omega
  have hps : ps.length = fs.length + 1 := by
    have e0 : ∃ Q E, SpEI C fs (V.ref (C + 1) :: vs) (fun b => if b = C + 1 then some (exo (C + 1) C none) else none) Q E := ⟨fun _ _ => True, fun _ _ _ => True, C + 1, vs, rfl, hz, Nat.succ_ne_self C, if_pos rfl, fun _ _ _ => True.intro⟩
    obtain ⟨Q0, E0, z⟩ := e0
    have := F1.len _ _ _ _ z
    rw [List.length_cons, hz] at this
    exact this.symm
  refine wpAny_call (PySem.HandSPX.call_own F.excBase_ValueError (fun Y => PySem.HandSPX.refsVE_contains Y bm hbm) (I1.kIn _ _ hC) (PySem.W.looks_findIn I1.kIn T.iC) (fun self => PySem.W.bind_fn I1.kIn self T.tI) hus
    (codeAny_mono (err_run T F1 hr I1 r1 hz (fun s2 K2 => ?_) q1) fun r s' hq' => hq'))
  have := hb s2 (Value.ref (hp.objs.size + 1) :: us) K2 (by
    rw [List.append_nil, List.length_cons, ← Paired.length r1, hz, hps])
  rw [List.append_nil] at this
  exact this
end
end Pf

namespace Pf
open PySem PySem.Spec L2

/-! ### errors made, raised, held -/
structure ErrD (P : Program) (w : World) (K : PySem.W.Frag) (mg : Str → Option Value) (base : Heap) (x : Str) (ps fs : List Str) (C fI : Addr) (fd : FuncData) : Prop where
  nm : mg x = some (.ref C)
  ok : ErrC K C fI fs
  run : FnG P w K mg base 1 fI fd ps (SpEI C fs)
  bd : Binds K fd ps []
def ErrIs (P : Program) (w : World) (K : PySem.W.Frag) (mg : Str → Option Value) (base : Heap) (x : Str) (ps fs : List Str) : Prop := ∃ C fI fd, ErrD P w K mg base x ps fs C fI fd
abbrev ErrX (X : Cx) (x : Str) (ps fs : List Str) : Prop := ErrIs X.prog X.w X.K X.mg X.base x ps fs
def SMk (X : Cx) (m : List Nat) (W : WX) (e : Expr) (f : Env → R Exn) : Prop := ∃ t, PMk X e t ∧ ∀ fm, PinX X fm m → ∀ ρ σ τ F H (Q : XK), Good (gX X) fm ρ σ τ F H →
  (match f ρ with | .ok x ρ' => ∀ cls d F' H', Good (gX X) fm ρ' σ τ F' H' → RepX (gX X) F' x cls d → Q cls d H' | .ex x ρ' => PostX X fm W σ τ x ρ' | .bad => False) → t σ H Q
def mkE (c : Str) (fs : List Str) (fa : Env → R (List T)) : Env → R Exn := fun ρ => (fa ρ).bind fun ts ρ1 => match shs ts with
  | some ds => if ds.length = fs.length then .ok ⟨c, (fs.zip ds).reverse⟩ ρ1 else .bad
  | none => .bad
def sRaise (f : Env → R Exn) : Env → RS := fun ρ => (f ρ).s fun x ρ1 => .ex x ρ1
def eExn (f : Env → R Exn) : Env → R T := fun ρ => (f ρ).bind fun x ρ1 => .ok (.sh (.exn x.cls x.fs)) ρ1
theorem zip_rev {α β γ : Type} : ∀ {fs : List α} {vs : List β} {ds : List γ}, vs.length = ds.length → (fs.zip vs).map (·.1) = (fs.zip ds).map (·.1)
  | [], _, _, _ => rfl
  | _ :: _, [], [], _ => rfl
  | f :: fs, v :: vs, d :: ds, h => by
    simp only [List.zip_cons_cons, List.map_cons]
    rw [zip_rev (fs := fs) (vs := vs) (ds := ds) (by simpa using h)]
  | _ :: _, [], _ :: _, h => by simp at h
  | _ :: _, _ :: _, [], h => by simp at h
theorem Reps.reverse {G : Cfg} {F : Hp} : ∀ {vs : List V} {ds : List D}, Reps G F vs ds → Reps G F vs.reverse ds.reverse
  | _, _, .nil => .nil
  | _, _, .cons r t => by
    rw [List.reverse_cons, List.reverse_cons]
    exact (Reps.reverse t).append (.cons r .nil)
theorem zip_snd {α β : Type} : ∀ {fs : List α} {vs : List β}, vs.length = fs.length → (fs.zip vs).map (·.2) = vs
  | [], [], _ => rfl
  | f :: fs, v :: vs, h => by
    simp only [List.zip_cons_cons, List.map_cons]
    rw [zip_snd (by simpa using h)]
  | [], _ :: _, h => by simp at h
  | _ :: _, [], h => by simp at h
section
variable {X : Cx} {fm : Fm} {m : List Nat} {W : WX} {σ : L2.St} {τ : List (V × T)} {ρ : Env}
theorem repX_new {x : Str} {C : Addr} {fs : List Str} {vs : List V} {ds : List D} {F H : Hp} {d : Addr} (hm : X.mg x = some (.ref C)) (r : Reps (gX X) F vs ds) (hl : ds.length = fs.length) (f : Same F H) (hd : H d = none) :
    RepX (gX X) (upd F d (.xd (fs.zip vs).reverse)) ⟨x, (fs.zip ds).reverse⟩ (.ref C) (some d) := by
  have k := Grow.new (o := HO.xd (fs.zip vs).reverse) f hd
  refine ⟨C, d, (fs.zip vs).reverse, rfl, hm, rfl, upd_same, ?_, ?_⟩
  · rw [List.map_reverse, List.map_reverse, zip_rev r.length]
  · show Reps (gX X) _ (((fs.zip vs).reverse).map (·.2)) (((fs.zip ds).reverse).map (·.2))
    rw [List.map_reverse, List.map_reverse, zip_snd (by rw [r.length, hl]), zip_snd hl]
    exact (r.mono k.FF).reverse
theorem sm_err {x : Str} {ps fs : List Str} {j : Nat} {e : Expr} {es : List Expr} {fa : Env → R (List T)} {p pos : Pos} (C : ErrX X x ps fs) (hr : Rm j X.A) (ha : SA X m W (e :: es) fa) (hk : 2 ≤ j := by decide) (hf : fs.length ≤ 10 := by decide) (hg : Gl X x := by rfl)
    (hdb : (x == ("__debug__" : Str)) = false := by decide) (he : starEach (e :: es) X.env = (false, eval e X.env) :: starEach es X.env := by rfl) (hpl : (backTo pos (starEach es X.env)).any (·.1) = false := by rfl) :
    SMk X m W (.Call (.Name x p) (e :: es) [] pos) (mkE x fs fa) := by
  obtain ⟨C, fI, fd, C⟩ := C
  obtain ⟨ta, pa, r⟩ := ha
  refine ⟨_, pmk_err C.ok C.run (hr.mono hk) C.bd hg C.nm pa hf hdb he hpl, fun fm hm ρ σ τ F H Q g q => ?_⟩
  refine r fm hm ρ σ τ F H _ g ?_
  unfold mkE at q
  cases e1 : fa ρ with
  | ex y ρ1 => rw [e1] at q; exact q
  | bad => rw [e1] at q; exact q
  | ok ts ρ1 =>
    rw [e1] at q
    intro vs F1 H1 hl g1
    have q : (match (match shs ts with
      | some ds => if ds.length = fs.length then R.ok (⟨x, (fs.zip ds).reverse⟩ : Exn) ρ1 else .bad
      | none => R.bad) with | .ok x ρ' => ∀ cls d F' H', Good (gX X) fm ρ' σ τ F' H' → RepX (gX X) F' x cls d → Q cls d H' | .ex x ρ' => PostX X fm W σ τ x ρ' | .bad => False) := q
    cases e2 : shs ts with
    | none => rw [e2] at q; exact q.elim
    | some ds =>
      rw [e2] at q
      dsimp only at q
      by_cases hn : ds.length = fs.length
      · rw [if_pos hn] at q
        have rs := pushAll_shs hl g1 e2
        refine ⟨rs.length.trans hn, fun d hd => ?_⟩
        exact q _ _ _ _ ((pushAll_pop _ _ _ g1).grow (Grow.new (o := HO.xd (fs.zip vs).reverse) g1.FH hd)) (repX_new C.nm rs hn g1.FH hd)
      · rw [if_neg hn] at q; exact q.elim
theorem ss_raise (cx : Cok X) (tk : Takes X W) {e : Expr} {f : Env → R Exn} {pos : Pos} (h : SMk X m W e f) : SS X m W (.Raise (some e) none pos) (sRaise f) := fun fm hm ρ σ τ F H D na g q => by
  obtain ⟨t, pm, r⟩ := h
  refine tS_of (ps_raise cx.calm tk pm) ?_
  refine r fm hm ρ σ τ F H _ g ?_
  unfold sRaise at q
  cases e1 : f ρ with
  | ex y ρ1 => rw [e1] at q; exact q σ
  | bad => rw [e1] at q; exact q
  | ok x ρ1 =>
    rw [e1] at q
    exact fun cls d F' H' g' rx => q σ cls d F' H' g' rx
/-- an error as a value -/
theorem pe_exn {e : Expr} {t : L2.St → Hp → XK → Prop} (h : PMk X e t) : PE X e (fun σ H Q => t σ H fun cls d H' => ∀ a, H' a = none → Q (.ref a) (upd H' a (exV a cls d))) := by
  refine ⟨fun pins s σ H Q I q => ?_⟩
  refine wpAny_mono (h pins s σ H _ I q) (fun u s1 hu => ?_) fun _ _ z => z
  obtain ⟨a, oe, vs, sI, H', cls, d, rfl, J, k, hne, ha, hz, hd, h1, na, os, ag, r, q1⟩ := hu
  exact ⟨.ref a, _, J.call' (ch := []) os (Un.laidN k hne na) (J.hok.laidN k na (exV_ok ha hz hd)) ag (fun b z => absurd z (by simp)), rfl, q1 a na⟩
theorem repX_exn {F H : Hp} {x : Exn} {cls : Value} {d : Option Addr} {a : Addr} (f : Same F H) (ha : H a = none) (r : RepX (gX X) F x cls d) : Rep (gX X) (upd F a (exV a cls d)) (.ref a) (.exn x.cls x.fs) := by
  obtain ⟨C, dd, L, rfl, hm, rfl, e1, e2, e3⟩ := r
  have k := Grow.new (o := exV a (.ref C) (some dd)) f ha
  exact .exn upd_same (k.FF _ _ e1) hm e2 (e3.mono k.FF)
theorem se_exn {e : Expr} {f : Env → R Exn} (h : SMk X m W e f) : SE X m W e (eExn f) := fun fm hm ρ σ τ F H Q g q => by
  obtain ⟨t, pm, r⟩ := h
  refine tE_of (pe_exn pm) ?_
  refine r fm hm ρ σ τ F H _ g ?_
  unfold eExn at q
  cases e1 : f ρ with
  | ex y ρ1 => rw [e1] at q; exact q
  | bad => rw [e1] at q; exact q
  | ok x ρ1 =>
    rw [e1] at q
    exact fun cls d F' H' g' rx a ha => q _ _ _ ((g'.grow (Grow.new (o := exV a cls d) g'.FH ha)).pushSh (repX_exn g'.FH ha rx))

/-! ### try: .. except C as e: x = e -/
def sTry (c : Str → Option Bool) (i j : Nat) (g : Env → RS) : Env → RS := fun ρ => match g ρ with
  | .ex x ρ1 => (match c x.cls with
    | some true => if i < ρ1.length then .nx ((ρ1.set i none).set j (some (.sh (.exn x.cls x.fs)))) else .bad
    | some false => .ex x ρ1
    | none => .bad)
  | r => r
/-- which classes a clause takes -/
def Exm (X : Cx) (x : Str) (c : Str → Option Bool) : Prop := ∃ CF, X.mg x = some (.ref CF) ∧ ∀ a b, c a = some b → ∀ C, X.mg a = some (.ref C) → PySem.W.exmOne X.K (.ref C) (.ref CF) = some b
theorem ss_try (cx : Cok X) (tk : Takes X W) (i j : Nat) {x n y : Str} {c : Str → Option Bool} {body : List Stmt} {g : Env → RS} {p1 p2 p3 py pn2 ps : Pos} (hx : Exm X x c)
    (hb : ∀ (W' : WX) (pn : List (Addr × Obj)) (xe : Value → Shared → Prop), Takes (X.tr pn xe) W' → Cok (X.tr pn xe) → SSs (X.tr pn xe) m W' body g)
    (hij : i ≠ j := by decide) (hi : i ∉ m := by decide) (hj : j ∉ m := by decide) (hNi : X.N[i]? = some n := by rfl) (hNj : X.N[j]? = some y := by rfl) (hg : Gl X x := by rfl) (hd : (x == ("__debug__" : Str)) = false := by decide) (hl : X.env.kindOf n = some .local := by rfl)
    (stk : X.stack = X.env :: X.outer := by rfl) (frm : X.env.frame = some X.env.locals := by rfl) (hex : X.ex = [] := by rfl) (hy : Loc X.env.scope y := by first | exact Or.inl rfl | exact Or.inr rfl) (hd2 : (n == ("__debug__" : Str)) = false := by decide) (hcd : (n == ("__classdict__" : Str)) = false := by decide)
    (hs : swapsWith (.Name n pn2) (some (.Name y py)) ps.line X.env = pure false := by rfl) (hf : X.fn y = true ∨ X.env.scope.names.lookup y = some .local := by first | exact .inl rfl | exact .inr rfl) :
    SS X m W (.Try body [.ExceptHandler (some (.Name x p1)) (some n) [.Assign [.Name y py] (.Name n pn2) ps] p2] [] [] p3) (sTry c i j g) := fun fm hm ρ σ τ F H D na gd q => by
  obtain ⟨CF, mF, hx⟩ := hx
  refine tS_of (ps_keep (c := .ref CF) (Wout := W) (ts := fun a cls d => tAsg (tVar i) (gName j)) (tb := fun W' D σ H => ∀ pn xe, Takes (X.tr pn xe) W' → PassesOwn (model X.prog X.w) X.A X.env xe → tSs (X.tr pn xe) body D σ H) stk frm cx.nd hNi hl ⟨hg, hd, .inl mF⟩ tk hex
    (fun W' pn xe t p => ⟨fun pins s σ' H' D' I h => h pn xe t p pins s I⟩) (fun a o cls d pn hz hfl => pss_one (ps_set (X := X.suite a ((a, o) :: pn)) cx.nd hNj hy (pe_var hNi (.inl hl) hd2 hcd) hs hf))) ?_
  intro pn xe tk' pass
  refine hb _ pn xe tk' ⟨cx.calm, pass, cx.nd⟩ fm hm ρ σ τ F H D na gd ?_
  have q : PostS X fm W τ (match g ρ with
    | .ex x ρ1 => (match c x.cls with
      | some true => if i < ρ1.length then .nx ((ρ1.set i none).set j (some (.sh (.exn x.cls x.fs)))) else .bad
      | some false => .ex x ρ1
      | none => .bad)
    | r => r) D := q
  cases e1 : g ρ with
  | nx ρ1 => rw [e1] at q; exact q
  | rt t ρ1 => rw [e1] at q; exact q
  | bk ρ1 => rw [e1] at q; exact q
  | ct ρ1 => rw [e1] at q; exact q
  | bad => rw [e1] at q; exact q
  | ex z ρ1 =>
    rw [e1] at q
    dsimp only at q
    intro σ1 cls d F1 H1 g1 rx
    have rx' := rx
    obtain ⟨C, dd, L, rfl, hmC, rfl, e2, e3, e4⟩ := rx'
    cases e5 : c z.cls with
    | none => rw [e5] at q; exact q.elim
    | some b =>
      rw [e5] at q
      refine ⟨b, hx _ _ e5 C hmC, fun hb0 => ?_, fun hb1 a ha => ?_⟩
      · subst hb0
        exact q σ1 (.ref C) (some dd) F1 H1 g1 rx
      · subst hb1
        dsimp only at q
        have hlen : σ1.length = ρ1.length := by obtain ⟨A1, A2, s, l, _, _⟩ := g1.own; exact s.len
        by_cases hil : i < ρ1.length
        · rw [if_pos hil] at q
          refine ⟨.ref a, List.getElem?_set_self (by omega), fun ha2 => ?_⟩
          have g2 := g1.drop hm hi (σ := σ1) none na
          have gr := Grow.new (o := exV a (.ref C) (some dd)) g1.FH ha
          have g3 := ((g2.grow gr).pushSh (repX_exn g1.FH ha rx)).putSh hm hj na
          have es : ((σ1.set i (some (V.ref a))).set j (some (V.ref a))).set i none = (σ1.set i none).set j (some (V.ref a)) := by
            rw [List.set_comm _ _ (Ne.symm hij)]
            rw [List.set_set]
          show D.nx (((σ1.set i (some (V.ref a))).set j (some (V.ref a))).set i none) _
          rw [es]
          exact q _ _ _ g3
        · rw [if_neg hil] at q; exact q.elim
end
end Pf

namespace Pf
open PySem PySem.Spec L2

/-! ### isinstance, instances and errors too -/
inductive TyY (K : PySem.W.Frag) (H : Hp) : V → Value → Prop where
  | x {v : V} {t : Value} (h : TyX K H v t) : TyY K H v t
  | exn {a C dd : Addr} {L : List (Str × V)} (e : H a = some (exV a (.ref C) (some dd))) (f : H dd = some (.xd L)) (c : ExcC K C) : TyY K H (.ref a) (.ref C)
section
open PySem.W PySem.Calls PyProof.Rows
variable {prog : Program} {w : World} {A : Around} {E : Value → Shared → Prop} {s : Shared} {K : Frag} {x D : Addr} {ox : Obj} {od : Option Obj}
theorem findObj_dataO {C : Addr} {name : Str} {a g : Value} (hc : (clsIn K C).isSome = true) (ha : findIn K (.ref C) name = some (some a)) (hg : specialIn K a "__get__" = some (some g)) (ht : takesIn K a = some true) : findObj K C od name = some (.bind g a) := by
  obtain ⟨cd, hc⟩ := Option.isSome_iff_exists.mp hc
  unfold findObj
  rw [hc, Option.bind_some, ha, Option.bind_some]
  simp [hg, ht]
theorem kin_classO {Q : Option Value → Shared → Prop} (hga : findIn K (.ref D) "__getattribute__" = some (some (.builtin "BaseException.__getattribute__"))) (hgt : findIn K (.ref D) "__getattr__" = some none) (hsub : subIn K (.ref D) (.type "BaseException") = some true)
    (hdct : hasDictIn K D = true) (ha : findIn K (.ref D) "__class__" = some (some (.builtin "object.__class__")))
    (hn : specialIn K (.builtin "object.__class__") "__get__" = some (some (.builtin "getset_descriptor.__get__"))) (htk : takesIn K (.builtin "object.__class__") = some true) (hm : mroIn K D (.type "object") = some true)
    (X : K.In s.heap) (I : InstAt s.heap x ox D od) (h : Q (some (.ref D)) { s with toks := s.toks + 1 }) : wpAny (model prog w) A (getAttr? (.ref x) "__class__") Q E s := by
  have hf : findObj K D od "__class__" = some (.bind (.builtin "getset_descriptor.__get__") (.builtin "object.__class__")) := findObj_dataO (by obtain ⟨cd, hc, _⟩ := any_some hdct; rw [hc]; rfl) ha hn htk
  obtain ⟨hp, g, d, t, os⟩ := s
  have L0 := I.type (M := model prog w)
  have L1 := looks_findIn (M := model prog w) X hga
  have L2 := looks_findIn (M := model prog w) X hgt
  have L3 := looks_find (M := model prog w) X I hf
  have sub : Looks (model prog w) hp (isInstance (.ref x) (.type "BaseException")) true := L0.andThen (looks_subIn X hsub)
  have hx0 : (false && onTheHeap (Value.builtin "BaseException.__getattribute__")) = false := rfl
  have hx2 : (Value.builtin "BaseException.__getattribute__" == Value.builtin "object.__getattribute__") = false := by decide +kernel
  have hx1 : (onTheHeap (Value.ref D) && Value.builtin "BaseException.__getattribute__" == Value.builtin "object.__getattribute__") = false := by rw [hx2]; rfl
  unfold getAttr? getAttrBy? getAttrBy
  refine wpAny_bind (wpAny_mkText (wpAny_bind (wpAny_attempt (wpAny_holding (wpAny_bind (L0.at (wpAny_bind (L1.at ?_))))))))
  show wpAny _ _ (if (onTheHeap (Value.ref D) && Value.builtin "BaseException.__getattribute__" == Value.builtin "object.__getattribute__") = true then _ else _) _ _ _
  rw [hx1, if_neg Bool.false_ne_true]
  unfold getAttrByItsOwn hookBefore
  refine wpAny_bind ?_
  rw [if_pos (show onTheHeap (Value.ref D) = true from rfl)]
  refine L2.at ?_
  refine wpAny_bind (wpAny_attempt (wpAny_holding ?_))
  unfold callGetattribute
  rw [hx0, if_neg Bool.false_ne_true]
  unfold boundAndCalled
  rw [PySem.F.excAttr_ValueError.ga.bind (.ref x)]
  refine wpAny_bind (wpAny_pure ?_)
  show wpAny _ _ (call (.builtin "BaseException.__getattribute__") [.ref x, .str "__class__" t]) _ _ _
  refine wpAny_call (codeAny_call_builtin PySem.F.excAttr_ValueError.ga.plain PySem.F.entry_bexc_ga ?_)
  refine @check_slot (model prog w) _ _ ⟨hp, g, d, t + 1, os⟩ "BaseException.__getattribute__" "BaseException" "__getattribute__" (.ref x) [.str "__class__" t] [] _ (by decide +kernel) (by decide +kernel) sub (PySem.F.args_bexc_ga (.ref x) (.str "__class__" t)) ?_
  unfold Builtin.«object.__getattribute__»
  refine wpAny_bind (wpAny_of_eq (a := ((Value.ref x : Value), [Value.str "__class__" t])) (by first | rfl | (simp only [slotArgs]; rfl)) ?_)
  refine wpAny_bind (wpAny_pure (wpAny_bind (L0.at (wpAny_bind (L3.at ?_)))))
  show wpAny _ _ (holding [Value.builtin "object.__class__"] (call (.builtin "getset_descriptor.__get__") [.builtin "object.__class__", .ref x, .ref D]) >>= PySem.ret) _ _ _
  refine wpAny_bind (wpAny_holding (wpAny_call (class_get (s := ⟨hp, g, d, t + 1, os⟩) (ox := ox) (od := od) X I hm ?_)))
  refine wpAny_pure ?_
  show wpAny _ _ (handedOut (.ref D)) _ _ _
  rw [handedOut_of (v := .ref D) rfl]
  first
    | exact wpAny_pure (wpAny_pure h)
    | exact wpAny_pure h
    | exact wpAny_pure (wpAny_bind (wpAny_pure (wpAny_pure h)))
theorem kitx_excO (C : ExcC K D) : KitX K (.ref x) (.ref D) (fun h => InstAt h x ox D od) where
  ty := fun _ _ _ I => I.type
  it := fun _ _ X _ => by
    obtain ⟨cdD, hcD, _⟩ := any_some C.hd
    unfold clsIn at hcD
    split at hcD
    · rename_i c' d' cd' sl' ho
      intro A' Q' E' s' k q
      unfold isType loadHead
      exact wpAny_bind (wpAny_loadPart (k _ _ (X _ _ ho)) (wpAny_pure q))
    · cases hcD
  ne := fun h tp dd its n sl X htp => by
    obtain ⟨cdD, hcD, _⟩ := any_some C.hd
    refine Bool.eq_false_iff.mpr fun q => ?_
    have e : D = tp := Value.ref.inj (beq_iff_eq.mp q)
    subst e
    unfold clsIn at hcD
    split at hcD
    · rename_i c' d' cd' sl' ho
      have z := (X _ _ ho).symm.trans htp
      cases z
    · cases hcD
  ca := fun X I k => kin_classO C.hg C.hk C.hs C.hd C.ha C.hn C.ht C.hm X I k
end
section
variable {X : Cx} {pins : List (Addr × Obj)} {σ : L2.St} {H : Hp} {s : Shared}
theorem exV_at {a : Addr} {cls : Value} {d : Option Addr} (I : Inv X pins σ H s) (e : H a = some (exV a cls d)) : ∃ (o : Obj) (vs : Array Value), s.heap.get? a = some o ∧ Zc cls d o ∧ o.data = .fields vs := by
  have h : ObjOk X.prog X.w H s.heap a (.ext fun h => ∃ (o : Obj) (vs : Array Value), h.get? a = some o ∧ Zc cls d o ∧ o.data = .fields vs) := I.hok a _ e
  exact h.1
theorem exV_inst {a C dd : Addr} {L : List (Str × V)} (I : Inv X pins σ H s) (e : H a = some (exV a (.ref C) (some dd))) (f : H dd = some (.xd L)) :
    ∃ (o od : Obj), PySem.W.InstAt s.heap a o C (some od) ∧ ∀ n, ∀ v, L.lookup n = some v → ∃ u, PySem.W.lookIn n od = some (some u) ∧ RelV v u := by
  obtain ⟨o, vs, h1, hz, hd⟩ := exV_at I e
  have hx : ObjOk X.prog X.w H s.heap dd (.xd L) := I.hok dd _ f
  obtain ⟨mA, hns, hr⟩ := hx
  obtain ⟨od, ho, hl⟩ := lookIn_ns hns
  refine ⟨o, od, ⟨h1, hz.1, by unfold PySem.W.notCls; rw [hd] <;> rfl, by rw [hz.2]; exact ho⟩, fun n v l => ?_⟩
  obtain ⟨u, hu, ru⟩ := RelO.some_of (v := v) (o := mA n) (by rw [← l]; exact hr n)
  exact ⟨u, by rw [hl, hu], ru⟩
theorem kit_ofY {x : V} {u t : Value} (I : Inv X pins σ H s) (rx : RelV x u) (ty : TyY X.K H x t) : ∃ P : Heap → Prop, PySem.W.KitX X.K u t P ∧ P s.heap ∧ u ≠ .builtin "__main__.__loader__#opaque" := by
  cases ty with
  | x h => exact kit_of I rx h
  | exn e f c =>
    obtain ⟨o, od, J, _⟩ := exV_inst I e f
    cases (show u = Value.ref _ from rx)
    exact ⟨_, kitx_excO c, J, fun z => nomatch z⟩
end
def rIsiY (K : PySem.W.Frag) : List V → Hp → VK → Prop := fun xs H Q => ∃ (x c : V) (t u : Value) (b : Bool), xs = [x, c] ∧ ClsV c u ∧ TyY K H x t ∧ PySem.W.kitOne K t u = some b ∧ Q (.bl b) H
def rIsiYT (K : PySem.W.Frag) : List V → Hp → VK → Prop := fun xs H Q => ∃ (x : V) (tp : Addr) (cs : List V) (t : Value) (us : List Value) (b : Bool), xs = [x, .ref tp] ∧ H tp = some (.tup cs) ∧ Paired ClsV cs us ∧ TyY K H x t ∧ PySem.W.kitAny K t us = some b ∧ Q (.bl b) H
section
variable {X : Cx}
theorem call_isiY : CallR X (.builtin "isinstance") (rIsiY X.K) := by
  intro pins s σ H xs us Q I r h
  obtain ⟨x, c, t, u, b, rfl, k, ty, e, q⟩ := h
  obtain ⟨u1, u2, rfl, r1, r2⟩ := vals2 r
  have e2 := k.eq r2
  subst e2
  obtain ⟨P, Z, p, hx⟩ := kit_ofY I r1 ty
  exact PySem.W.kia_one Z I.kIn p e hx fun tk => ⟨.bl b, H, I.tok tk, rfl, q⟩
theorem call_isiYT : CallR X (.builtin "isinstance") (rIsiYT X.K) := by
  intro pins s σ H xs us Q I r h
  obtain ⟨x, tp, cs, t, ws, b, rfl, hT, k, ty, e, q⟩ := h
  obtain ⟨u1, u2, rfl, r1, r2⟩ := vals2 r
  cases (show u2 = Value.ref tp from r2)
  obtain ⟨P, Z, p, hx⟩ := kit_ofY I r1 ty
  obtain ⟨_, its, rv, o, h1, h2, n, h3⟩ := (show ObjOk X.prog X.w H s.heap tp (.tup cs) from I.hok tp _ hT)
  have e3 := ClsV.all k rv
  subst e3
  obtain ⟨oc, od, dt, sl⟩ := o
  simp only at h2 h3
  subst h2 h3
  exact PySem.W.kia_tup Z I.kIn p h1 e hx fun tk => ⟨.bl b, H, I.tok tk, rfl, q⟩
end

/-! ### which class a value is of, which class is over which -/
def tyRef : D → Option D
  | .non => some (.ty "NoneType")
  | .bl _ => some (.ty "bool")
  | .int _ => some (.ty "int")
  | .str _ => some (.ty "str")
  | .lst _ => some (.ty "list")
  | .tup _ => some (.ty "tuple")
  | .dk _ => some (.ty "dict")
  | .dt _ => some (.ty "dict")
  | .ins c _ => some (.cls c)
  | .exn c _ => some (.cls c)
  | _ => none
inductive TyRep (mg : Str → Option Value) : D → Value → Prop
  | ty {n} : TyRep mg (.ty n) (.type n)
  | cls {c C} : mg c = some (.ref C) → TyRep mg (.cls c) (.ref C)
def tys7 : List String := ["NoneType", "bool", "int", "str", "list", "tuple", "dict"]
/-- anc: the own classes with all above them (and themselves); ex: those that are errors; bl: built-in classes asked for -/
structure Tab where
  anc : List (Str × List Str)
  ex : List Str
  ins : List Str
  fld : List (Str × List Str)
  bl : List String
def Tab.rel (T : Tab) : D → D → Option Bool
  | .ty a, .ty b => isiTab a b
  | .ty a, .cls c => if (tys7.contains a && (T.anc.map (·.1)).contains c) = true then some false else none
  | .cls a, .cls c => if ((T.anc.map (·.1)).contains a && (T.anc.map (·.1)).contains c) = true then some ((T.anc.lookup a).any (·.contains c)) else none
  | .cls a, .ty b => if ((T.anc.map (·.1)).contains a && T.bl.contains b) = true then some (T.ex.contains a && ["ValueError", "Exception", "BaseException"].contains b) else none
  | _, _ => none
def Tab.exm (T : Tab) (c a : Str) : Option Bool := if ((T.anc.map (·.1)).contains a && (T.anc.map (·.1)).contains c && T.ex.contains c) = true then some ((T.anc.lookup a).any (·.contains c)) else none
/-- what an own class of instances says -/
structure InsF (K : PySem.W.Frag) (C : Addr) : Prop where
  cl : Cls K C
  ha : PySem.W.findIn K (.ref C) "__class__" = some (some (.builtin "object.__class__"))
  hn : PySem.W.specialIn K (.builtin "object.__class__") "__get__" = some (some (.builtin "getset_descriptor.__get__"))
  ht : PySem.W.takesIn K (.builtin "object.__class__") = some true
  hm : PySem.W.mroIn K C (.type "object") = some true
def insB (K : PySem.W.Frag) (C : Addr) : Bool :=
  PySem.W.plainGet K C Str.empty && PySem.W.hasDictIn K C && PySem.W.plainOver K C && decide (PySem.W.findIn K (.ref C) "__setattr__" = some (some (.builtin "object.__setattr__"))) &&
  decide (PySem.W.findIn K (.ref C) "__class__" = some (some (.builtin "object.__class__"))) && decide (PySem.W.specialIn K (.builtin "object.__class__") "__get__" = some (some (.builtin "getset_descriptor.__get__"))) && decide (PySem.W.takesIn K (.builtin "object.__class__") = some true) && decide (PySem.W.mroIn K C (.type "object") = some true)
theorem insB_ok {K : PySem.W.Frag} {C : Addr} (h : insB K C = true) : InsF K C := by
  unfold insB at h
  simp only [Bool.and_eq_true, decide_eq_true_eq] at h
  obtain ⟨⟨⟨⟨⟨⟨⟨h1, h2⟩, h3⟩, h4⟩, h5⟩, h6⟩, h7⟩, h8⟩ := h
  exact ⟨⟨h1, h2, h3, h4⟩, h5, h6, h7, h8⟩
structure RelOk (K : PySem.W.Frag) (mg : Str → Option Value) (T : Tab) : Prop where
  rel : ∀ a c b, T.rel a c = some b → ∀ va vc, TyRep mg a va → TyRep mg c vc → PySem.W.kitOne K va vc = some b
  exm : ∀ c a b, T.exm c a = some b → ∀ A C, mg a = some (.ref A) → mg c = some (.ref C) → PySem.W.exmOne K (.ref A) (.ref C) = some b
  exc : ∀ c C, T.ex.contains c = true → mg c = some (.ref C) → ExcC K C
  ins : ∀ c C, T.ins.contains c = true → mg c = some (.ref C) → InsF K C
  fld : ∀ c f C, (T.fld.lookup c).any (·.contains f) = true → mg c = some (.ref C) → PySem.W.findIn K (.ref C) f = some none
def excCB (K : PySem.W.Frag) (C : Addr) : Bool :=
  decide (PySem.W.findIn K (.ref C) "__getattribute__" = some (some (.builtin "BaseException.__getattribute__"))) && decide (PySem.W.findIn K (.ref C) "__getattr__" = some none) && decide (PySem.W.subIn K (.ref C) (.type "BaseException") = some true) && PySem.W.hasDictIn K C &&
  decide (PySem.W.findIn K (.ref C) "__class__" = some (some (.builtin "object.__class__"))) && decide (PySem.W.specialIn K (.builtin "object.__class__") "__get__" = some (some (.builtin "getset_descriptor.__get__"))) && decide (PySem.W.takesIn K (.builtin "object.__class__") = some true) && decide (PySem.W.mroIn K C (.type "object") = some true)
theorem excCB_ok {K : PySem.W.Frag} {C : Addr} (h : excCB K C = true) : ExcC K C := by
  unfold excCB at h
  simp only [Bool.and_eq_true, decide_eq_true_eq] at h
  obtain ⟨⟨⟨⟨⟨⟨⟨h1, h2⟩, h3⟩, h4⟩, h5⟩, h6⟩, h7⟩, h8⟩ := h
  exact ⟨h1, h2, h3, h4, h5, h6, h7, h8⟩
def relB (K : PySem.W.Frag) (cs : List (Str × Addr)) (T : Tab) : Bool :=
  cs.all fun p => tys7.all (fun t => decide (PySem.W.kitOne K (.type t) (.ref p.2) = some false)) && T.bl.all (fun b => decide (PySem.W.kitOne K (.ref p.2) (.type b) = some (T.ex.contains p.1 && ["ValueError", "Exception", "BaseException"].contains b))) &&
    (!(T.ex.contains p.1) || excCB K p.2) && (!(T.ins.contains p.1) || insB K p.2) && ((T.fld.lookup p.1).getD []).all (fun f => decide (PySem.W.findIn K (.ref p.2) f = some none)) &&
    cs.all fun q => decide (PySem.W.kitOne K (.ref p.2) (.ref q.2) = some ((T.anc.lookup p.1).any (·.contains q.1))) && (!(T.ex.contains q.1) || decide (PySem.W.exmOne K (.ref p.2) (.ref q.2) = some ((T.anc.lookup p.1).any (·.contains q.1))))
theorem relB_ok {K : PySem.W.Frag} {mg : Str → Option Value} {cs : List (Str × Addr)} {T : Tab} (h : relB K cs T = true) (hm : ∀ p ∈ cs, mg p.1 = some (.ref p.2)) (hk : cs.map (·.1) = T.anc.map (·.1)) (hex : T.ex.all (fun c => (T.anc.map (·.1)).contains c) = true) (hins : T.ins.all (fun c => (T.anc.map (·.1)).contains c) = true) (hfld : T.fld.all (fun c => (T.anc.map (·.1)).contains c.1) = true) : RelOk K mg T := by
  unfold relB at h
  rw [List.all_eq_true] at h
  have inn : ∀ {c : Str} {C : Addr}, (T.anc.map (·.1)).contains c = true → mg c = some (.ref C) → (c, C) ∈ cs := fun {c C} h1 h2 => by
    rw [← hk, List.contains_iff_mem, List.mem_map] at h1
    obtain ⟨p, hp, rfl⟩ := h1
    have := hm p hp
    rw [h2] at this
    cases this
    exact hp
  have parts : ∀ p ∈ cs, (∀ t ∈ tys7, PySem.W.kitOne K (.type t) (.ref p.2) = some false) ∧ (∀ b ∈ T.bl, PySem.W.kitOne K (.ref p.2) (.type b) = some (T.ex.contains p.1 && ["ValueError", "Exception", "BaseException"].contains b)) ∧ (T.ex.contains p.1 = true → ExcC K p.2) ∧ (T.ins.contains p.1 = true → InsF K p.2) ∧ (∀ f, (T.fld.lookup p.1).any (·.contains f) = true → PySem.W.findIn K (.ref p.2) f = some none) ∧
      ∀ q ∈ cs, PySem.W.kitOne K (.ref p.2) (.ref q.2) = some ((T.anc.lookup p.1).any (·.contains q.1)) ∧ (T.ex.contains q.1 = true → PySem.W.exmOne K (.ref p.2) (.ref q.2) = some ((T.anc.lookup p.1).any (·.contains q.1))) := fun p hp => by
    have z := h p hp
    rw [Bool.and_eq_true, Bool.and_eq_true, Bool.and_eq_true, Bool.and_eq_true, Bool.and_eq_true] at z
    obtain ⟨⟨⟨⟨⟨z1, z2⟩, z3⟩, zi⟩, zf⟩, z4⟩ := z
    refine ⟨fun t ht => of_decide_eq_true (List.all_eq_true.mp z1 t ht), fun b hb => of_decide_eq_true (List.all_eq_true.mp z2 b hb), fun e => ?_, fun e => ?_, fun f e => ?_, fun q hq => ?_⟩
    · rw [e] at z3; exact excCB_ok z3
    · rw [e] at zi; exact insB_ok zi
    · cases hl : T.fld.lookup p.1 with
      | none => rw [hl] at e; cases e
      | some l =>
        rw [hl] at e zf
        exact of_decide_eq_true (List.all_eq_true.mp zf f (List.contains_iff_mem.mp e))
    · have z5 := List.all_eq_true.mp z4 q hq
      rw [Bool.and_eq_true] at z5
      refine ⟨of_decide_eq_true z5.1, fun e => ?_⟩
      have z6 := z5.2
      rw [e] at z6
      exact of_decide_eq_true z6
  refine ⟨fun a c b e va vc ra rc => ?_, fun c a b e A C ma mc => ?_, fun c C e mc => ?_, fun c C e mc => ?_, fun c f C e mc => ?_⟩
  · cases ra with
    | ty =>
      cases rc with
      | ty => exact isiTab_ok e
      | cls mc =>
        unfold Tab.rel at e
        dsimp only at e
        split at e
        · rename_i hc
          cases e
          obtain ⟨h1, h2⟩ := Bool.and_eq_true_iff.mp hc
          exact (parts _ (inn h2 mc)).1 _ (List.contains_iff_mem.mp h1)
        · cases e
    | cls ma =>
      cases rc with
      | ty =>
        unfold Tab.rel at e
        dsimp only at e
        split at e
        · rename_i hc
          cases e
          obtain ⟨h1, h2⟩ := Bool.and_eq_true_iff.mp hc
          exact (parts _ (inn h1 ma)).2.1 _ (List.contains_iff_mem.mp h2)
        · cases e
      | cls mc =>
        unfold Tab.rel at e
        dsimp only at e
        split at e
        · rename_i hc
          cases e
          obtain ⟨h1, h2⟩ := Bool.and_eq_true_iff.mp hc
          exact ((parts _ (inn h1 ma)).2.2.2.2.2 _ (inn h2 mc)).1
        · cases e
  · unfold Tab.exm at e
    split at e
    · rename_i hc
      cases e
      obtain ⟨hc, h3⟩ := Bool.and_eq_true_iff.mp hc
      obtain ⟨h1, h2⟩ := Bool.and_eq_true_iff.mp hc
      exact ((parts _ (inn h1 ma)).2.2.2.2.2 _ (inn h2 mc)).2 h3
    · cases e
  · exact (parts _ (inn (List.all_eq_true.mp hex c (List.contains_iff_mem.mp e)) mc)).2.2.1 e
  · exact (parts _ (inn (List.all_eq_true.mp hins c (List.contains_iff_mem.mp e)) mc)).2.2.2.1 e
  · refine (parts (c, C) (inn ?_ mc)).2.2.2.2.1 f e
    cases hl : T.fld.lookup c with
    | none => rw [hl] at e; cases e
    | some l => exact List.all_eq_true.mp hfld (c, l) (PySem.mem_of_lookup hl)
end Pf

namespace Pf
open PySem PySem.Spec L2

section
variable {X : Cx} {fm : Fm} {m : List Nat} {W : WX} {σ : L2.St} {τ : List (V × T)} {ρ : Env}
/-- a class, a def by its name -/
def GlbIs (mg : Str → Option Value) (x : Str) : Prop := ∃ C, mg x = some (.ref C)
theorem se_glb {x : Str} {pos : Pos} (h : GlbIs X.mg x) (hg : Gl X x := by rfl) (hd : (x == ("__debug__" : Str)) = false := by decide) : SE X m W (.Name x pos) (eC (.cls x)) := by
  obtain ⟨C, h⟩ := h
  exact se_c (pe_glob hg h (v := .ref C) (rfl : Value.ref C = Value.ref C) hd) fun _ => .cls h

/-! ### isinstance -/
theorem tyY_of {Tb : Tab} {F H : Hp} {v : V} {d t : D} (R : RelOk X.K X.mg Tb) (f : Same F H) (r : RepV (gX X) F H v d) (e : tyRef d = some t) (hk : ∀ c, t = .cls c → (Tb.ex.contains c || Tb.ins.contains c) = true ∧ ((∃ fs, d = .exn c fs) → Tb.ex.contains c = true) ∧ ((∃ fs, d = .ins c fs) → Tb.ins.contains c = true)) :
    ∃ vt, TyRep X.mg t vt ∧ TyY X.K H v vt := by
  have base : ∀ {n : String}, tyName d = some n → t = .ty n → ∃ vt, TyRep X.mg t vt ∧ TyY X.K H v vt := fun {n} h ht => by subst ht; exact ⟨_, .ty, .x (tyX_of (G := gX X) f r h)⟩
  cases d with
  | non => cases e; exact base rfl rfl
  | bl b => cases e; exact base rfl rfl
  | int b => cases e; exact base rfl rfl
  | str b => cases e; exact base rfl rfl
  | lst b => cases e; exact base rfl rfl
  | tup b => cases e; exact base rfl rfl
  | dk b => cases e; exact base rfl rfl
  | dt b =>
    cases e
    rcases r with r | ⟨p, u, o, rfl, ho, h1, h2⟩
    · cases r with
      | dt h _ _ => exact ⟨_, .ty, .x (.base (.dT (f _ _ h)))⟩
    · cases h2 with
      | dt q r => exact ⟨_, .ty, .x (.base (.dT h1))⟩
      | _ => cases ho
  | ins c fs =>
    cases e
    have hi := (hk c rfl).2.2 ⟨fs, rfl⟩
    rcases r with r | ⟨p, u, o, rfl, ho, h1, h2⟩
    · cases r with
      | ins h m _ _ =>
        have I := R.ins _ _ hi m
        exact ⟨_, .cls m, .x (.base (.ins (f _ _ h) I.cl I.ha I.hn I.ht I.hm))⟩
    · cases h2 with
      | ins m q r =>
        cases ho
        have I := R.ins _ _ hi m
        exact ⟨_, .cls m, .x (.base (.ins h1 I.cl I.ha I.hn I.ht I.hm))⟩
      | _ => cases ho
  | exn c fs =>
    cases e
    have hi := (hk c rfl).2.1 ⟨fs, rfl⟩
    rcases r with r | ⟨p, u, o, rfl, ho, h1, h2⟩
    · cases r with
      | exn h hd m _ _ => exact ⟨_, .cls m, .exn (f _ _ h) (f _ _ hd) (R.exc _ _ hi m)⟩
    · cases o <;> cases ho
  | _ => cases e
/-- the type of a value, if its class is known for what it is -/
def Tab.ty (Tb : Tab) : D → Option D
  | .ins c _ => if Tb.ins.contains c = true then some (.cls c) else none
  | .exn c _ => if Tb.ex.contains c = true then some (.cls c) else none
  | d => tyRef d
theorem tab_ty {Tb : Tab} {F H : Hp} {v : V} {d t : D} (R : RelOk X.K X.mg Tb) (f : Same F H) (r : RepV (gX X) F H v d) (e : Tb.ty d = some t) : ∃ vt, TyRep X.mg t vt ∧ TyY X.K H v vt := by
  have key : tyRef d = some t ∧ ∀ c, t = .cls c → (Tb.ex.contains c || Tb.ins.contains c) = true ∧ ((∃ fs, d = .exn c fs) → Tb.ex.contains c = true) ∧ ((∃ fs, d = .ins c fs) → Tb.ins.contains c = true) := by
    cases d with
    | ins c fs =>
      unfold Tab.ty at e
      dsimp only at e
      split at e
      · rename_i h
        cases e
        refine ⟨rfl, fun c' hc => ?_⟩
        cases hc
        refine ⟨by rw [h]; simp, fun z => ?_, fun _ => h⟩
        obtain ⟨_, z⟩ := z
        cases z
      · cases e
    | exn c fs =>
      unfold Tab.ty at e
      dsimp only at e
      split at e
      · rename_i h
        cases e
        refine ⟨rfl, fun c' hc => ?_⟩
        cases hc
        refine ⟨by rw [h]; rfl, fun _ => h, fun z => ?_⟩
        obtain ⟨_, z⟩ := z
        cases z
      · cases e
    | non => cases e; exact ⟨rfl, fun c hc => nomatch hc⟩
    | bl b => cases e; exact ⟨rfl, fun c hc => nomatch hc⟩
    | int b => cases e; exact ⟨rfl, fun c hc => nomatch hc⟩
    | str b => cases e; exact ⟨rfl, fun c hc => nomatch hc⟩
    | lst b => cases e; exact ⟨rfl, fun c hc => nomatch hc⟩
    | tup b => cases e; exact ⟨rfl, fun c hc => nomatch hc⟩
    | dk b => cases e; exact ⟨rfl, fun c hc => nomatch hc⟩
    | dt b => cases e; exact ⟨rfl, fun c hc => nomatch hc⟩
    | _ => cases e
  exact tyY_of R f r key.1 key.2
theorem repC {G : Cfg} {F H : Hp} {v : V} {c : D} (r : RepV G F H v c) (e : (∃ n, c = .ty n) ∨ ∃ x, c = .cls x) : ∃ vc, TyRep G.mg c vc ∧ ClsV v vc := by
  rcases r with r | ⟨p, u, o, rfl, ho, h1, h2⟩
  · cases r with
    | ty => exact ⟨_, .ty, .ty _⟩
    | cls m => exact ⟨_, .cls m, .own _⟩
    | _ => rcases e with ⟨_, z⟩ | ⟨_, z⟩ <;> cases z
  · rcases e with ⟨_, z⟩ | ⟨_, z⟩ <;> (rw [ho] at z; cases o <;> cases z)
def isC : D → Bool
  | .ty _ => true
  | .cls _ => true
  | _ => false
theorem isC_ok {c : D} (h : isC c = true) : (∃ n, c = .ty n) ∨ ∃ x, c = .cls x := by
  cases c with
  | ty n => exact .inl ⟨n, rfl⟩
  | cls x => exact .inr ⟨x, rfl⟩
  | _ => cases h
def isiR (Tb : Tab) : List D → Option T
  | [d, c] => if isC c = true then (Tb.ty d).bind fun t => (Tb.rel t c).map fun b => .sh (.bl b) else none
  | _ => none
theorem on_isiR {Tb : Tab} (R : RelOk X.K X.mg Tb) : OpN (gX X) (rIsiY X.K) (isiR Tb) := fun F H vs ds t Q f r e k => by
  unfold isiR at e
  split at e
  · split at e
    · rename_i hc
      obtain ⟨a, e1, e⟩ := Option.bind_eq_some_iff.mp e
      obtain ⟨q, e2, e⟩ := Option.map_eq_some_iff.mp e
      subst e
      obtain ⟨v, w, rfl, rv, rw'⟩ := repVs2 r
      obtain ⟨vt, t1, t2⟩ := tab_ty R f rv e1
      obtain ⟨vc, c1, c2⟩ := repC rw' (isC_ok hc)
      exact ⟨_, _, _, _, q, rfl, c2, t2, R.rel _ _ _ e2 _ _ t1 c1, res_sh f .bl k⟩
    · cases e
  · cases e
def Tab.any (Tb : Tab) (t : D) : List D → Option Bool
  | [] => some false
  | c :: cs => if isC c = true then (Tb.rel t c).bind fun q => (Tb.any t cs).map fun r => q || r else none
def isiRT (Tb : Tab) : D → List D → Option T := fun d cs => (Tb.ty d).bind fun t => (Tb.any t cs).map fun b => .sh (.bl b)
theorem tab_any {Tb : Tab} (R : RelOk X.K X.mg Tb) {t : D} {vt : Value} (ht : TyRep X.mg t vt) : ∀ {cs : List D} {vs : List V} {F : Hp} {b : Bool}, Reps (gX X) F vs cs → Tb.any t cs = some b → ∃ us, Paired ClsV vs us ∧ PySem.W.kitAny X.K vt us = some b
  | [], _, _, _, .nil, e => by cases e; exact ⟨[], .nil, kitAny_nil⟩
  | c :: cs, _, _, b, .cons r rs, e => by
    unfold Tab.any at e
    split at e
    · rename_i hc
      obtain ⟨q, e1, e⟩ := Option.bind_eq_some_iff.mp e
      obtain ⟨r', e2, e⟩ := Option.map_eq_some_iff.mp e
      obtain ⟨us, h1, h2⟩ := tab_any R ht rs e2
      subst e
      obtain ⟨vc, c1, c2⟩ := repC (.inl r : RepV (gX X) _ (fun _ => none) _ c) (isC_ok hc)
      refine ⟨vc :: us, .cons c2 h1, kitAny_cons (b := q) (R.rel _ _ _ e1 _ _ ht c1) (fun z => ?_) fun z => ?_⟩
      · subst z; rw [h2]; rfl
      · subst z; rfl
    · cases e
/-- isinstance(e, (C, ..)) -/
def eIsiR (Tb : Tab) (fa : Env → R T) (fs : Env → R (List T)) : Env → R T := fun ρ => (fa ρ).bind fun t ρ1 => (fs ρ1).bind fun ts ρ2 => match shs ts with
  | some cs => if cs.length ≤ sizeLine then opt ((view ρ2 t).bind fun d => isiRT Tb d cs) ρ2 else .bad
  | none => .bad
theorem se_isiR {Tb : Tab} {x : Str} {e : Expr} {es : List Expr} {fa : Env → R T} {fs : Env → R (List T)} {p pos p2 : Pos} {k2} (R : RelOk X.K X.mg Tb) (hx : x = ("isinstance" : Str)) (hmg : X.mg x = none) (ha : SE X m W e fa) (hb : SA X m W es fs)
    (hg : Gl X x := by rfl) (hv : bootBuiltins x = some (.builtin "isinstance") := by rfl) (hn : x ≠ "__name__" := by decide) (hdb : (x == ("__debug__" : Str)) = false := by decide)
    (he : starEach [e, .Tuple es k2 p2] X.env = (false, eval e X.env) :: starEach [.Tuple es k2 p2] X.env := by rfl) (he2 : starEach [.Tuple es k2 p2] X.env = (false, eval (.Tuple es k2 p2) X.env) :: starEach [] X.env := by rfl) (hpl : (backTo pos (starEach [.Tuple es k2 p2] X.env)).any (·.1) = false := by rfl) :
    SE X m W (.Call (.Name x p) [e, .Tuple es k2 p2] [] pos) (eIsiR Tb fa fs) := fun fm hm ρ σ τ F H Q g q => by
  obtain ⟨tb, pb, rb⟩ := hb
  refine tE_of (pe_callB call_isiYT hg hmg hv (pa_cons pe_tE (pa_cons (pe_tup pb) pa_nil he2) he) hn hdb he hpl) ?_
  refine se_bind hm ha g q fun t ρ1 v F' H' g' q' => ?_
  refine rb fm hm ρ1 σ _ F' H' _ g' ?_
  cases e1 : fs ρ1 with
  | ex y ρ2 => rw [e1] at q'; exact PostX.pop q'
  | bad => rw [e1] at q'; exact q'
  | ok ts ρ2 =>
    rw [e1] at q'
    intro vs F2 H2 hl g2
    have q' : PostE X fm W σ τ (match shs ts with
      | some cs => if cs.length ≤ sizeLine then opt ((view ρ2 t).bind fun d => isiRT Tb d cs) ρ2 else .bad
      | none => .bad) Q := q'
    split at q'
    · rename_i cs e2
      split at q'
      · rename_i hz
        have rs := pushAll_shs hl g2 e2
        have g3 := pushAll_pop _ _ _ g2
        refine ⟨by rw [rs.length]; exact hz, fun l hlN => ?_⟩
        unfold opt at q'
        split at q'
        · rename_i t' e3
          obtain ⟨d, e4, e5⟩ := Option.bind_eq_some_iff.mp e3
          obtain ⟨ty, e6, e5⟩ := Option.bind_eq_some_iff.mp e5
          obtain ⟨b, e7, e5⟩ := Option.map_eq_some_iff.mp e5
          subst e5
          have gr := Grow.new (o := HO.tup vs) g3.FH hlN
          have g4 := g3.grow gr
          obtain ⟨vt, t1, t2⟩ := tab_ty R g4.FH (g4.view e4) e6
          obtain ⟨us, u1, u2⟩ := tab_any R t1 rs e7
          exact ⟨_, l, _, _, _, b, rfl, upd_same, u1, t2, u2, q' _ _ _ (g4.pop.pushSh .bl)⟩
        · exact q'.elim
      · exact q'.elim
    · exact q'.elim

/-! ### fields -/
def tAttr (K : PySem.W.Frag) (te : TE) (f : Str) : TE := fun σ H Q => te σ H fun x H1 => (∃ a C dx fs v, x = .ref a ∧ H1 a = some (.ins C dx fs) ∧ Cls K C ∧ NoAttr K C f ∧ fs.lookup f = some v ∧ Q v H1) ∨
  ∃ a C dd L v, x = .ref a ∧ H1 a = some (exV a (.ref C) (some dd)) ∧ H1 dd = some (.xd L) ∧ ExcC K C ∧ PySem.W.findIn K (.ref C) f = some none ∧ L.lookup f = some v ∧ Q v H1
theorem pe_attr {e : Expr} {te : TE} {f : Str} {pos : Pos} (he : PE X e te) (hb : attributeBase e f X.env (eval e X.env) = eval e X.env := by rfl) : PE X (.Attribute e f pos) (tAttr X.K te f) := by
  refine ⟨fun pins s σ H Q I h => ?_⟩
  refine attr_of hb (thn (he.run pins s σ H _ I h) fun u s1 ⟨x, H1, I1, rx, q⟩ => ?_)
  rcases q with ⟨a, C, dx, fs, v, rfl, ea, c, n, l, q⟩ | ⟨a, C, dd, L, v, rfl, ea, ed, c, n, l, q⟩
  · obtain rfl : u = Value.ref a := rx
    exact getattr_ok I1 ea c n l fun u' s2 I2 ru => ⟨v, H1, I2, ru, q⟩
  · obtain rfl : u = Value.ref a := rx
    obtain ⟨o, od, J, lk⟩ := exV_inst I1 ea ed
    obtain ⟨u, hu, ru⟩ := lk f v l
    exact HandSPX.exc_get I1.kIn J c.hg c.hk c.hs (PySem.W.findObj_own c.hd n rfl hu) (handed_of ru) ⟨v, H1, I1.tok _, ru, q⟩
def fldD (Tb : Tab) (f : Str) : D → Option T
  | .ins c fs => if (Tb.ins.contains c && (Tb.fld.lookup c).any (·.contains f)) = true then (fs.lookup f).map .sh else none
  | .exn c fs => if (Tb.ex.contains c && (Tb.fld.lookup c).any (·.contains f)) = true then (fs.lookup f).map .sh else none
  | _ => none
theorem rep_lookup {G : Cfg} {F : Hp} {f : Str} : ∀ {xs : List (Str × V)} {ys : List (Str × D)} {d : D}, xs.map (·.1) = ys.map (·.1) → Reps G F (xs.map (·.2)) (ys.map (·.2)) → ys.lookup f = some d → ∃ v, xs.lookup f = some v ∧ Rep G F v d
  | [], [], _, _, _, e => by cases e
  | (a, x) :: xs, (b, y) :: ys, d, h, r, e => by
    simp only [List.map_cons, List.cons.injEq] at h
    obtain ⟨rfl, h⟩ := h
    cases r with
    | cons r rs =>
      unfold List.lookup at e ⊢
      split at e
      · rename_i hb; cases e; exact ⟨x, rfl, r⟩
      · rename_i hb
        obtain ⟨v, h1, h2⟩ := rep_lookup h rs e
        exact ⟨v, h1, h2⟩
  | [], _ :: _, _, h, _, _ => by simp at h
  | _ :: _, [], _, h, _, _ => by simp at h
theorem se_attr {Tb : Tab} {e : Expr} {f : Str} {fa : Env → R T} {pos : Pos} (R : RelOk X.K X.mg Tb) (he : SE X m W e fa) (hb : attributeBase e f X.env (eval e X.env) = eval e X.env := by rfl) : SE X m W (.Attribute e f pos) (e1 (fldD Tb f) fa) := fun fm hm ρ σ τ F H Q g q => by
  refine tE_of (pe_attr pe_tE hb) (se_bind hm he g q fun t ρ1 v F1 H1 g1 q1 => ?_)
  unfold opt at q1
  split at q1
  · rename_i t' e1
    obtain ⟨d, e2, e3⟩ := Option.bind_eq_some_iff.mp e1
    have rv := g1.view e2
    unfold fldD at e3
    split at e3
    · split at e3
      · rename_i hc
        obtain ⟨h1, h2⟩ := Bool.and_eq_true_iff.mp hc
        obtain ⟨d', e4, e5⟩ := Option.map_eq_some_iff.mp e3
        subst e5
        rcases rv with r | ⟨p, u, o, rfl, ho, q2, q3⟩
        · cases r with
          | ins h m0 n0 r0 =>
            obtain ⟨v', l1, l2⟩ := rep_lookup n0 r0 e4
            exact .inl ⟨_, _, _, _, v', rfl, g1.FH _ _ h, (R.ins _ _ h1 m0).cl, R.fld _ _ _ h2 m0, l1, q1 _ _ _ (g1.pop.pushSh l2)⟩
        · cases q3 with
          | ins m0 n0 r0 =>
            cases ho
            obtain ⟨v', l1, l2⟩ := rep_lookup n0 r0 e4
            exact .inl ⟨_, _, _, _, v', rfl, q2, (R.ins _ _ h1 m0).cl, R.fld _ _ _ h2 m0, l1, q1 _ _ _ (g1.pop.pushSh l2)⟩
          | _ => cases ho
      · cases e3
    · split at e3
      · rename_i hc
        obtain ⟨h1, h2⟩ := Bool.and_eq_true_iff.mp hc
        obtain ⟨d', e4, e5⟩ := Option.map_eq_some_iff.mp e3
        subst e5
        rcases rv with r | ⟨p, u, o, rfl, ho, q2, q3⟩
        · cases r with
          | exn h hd m0 n0 r0 =>
            obtain ⟨v', l1, l2⟩ := rep_lookup n0 r0 e4
            exact .inr ⟨_, _, _, _, v', rfl, g1.FH _ _ h, g1.FH _ _ hd, R.exc _ _ h1 m0, R.fld _ _ _ h2 m0, l1, q1 _ _ _ (g1.pop.pushSh l2)⟩
        · cases o <;> cases ho
      · cases e3
    · cases e3
  · exact q1.elim
end
end Pf

namespace Pf
open PySem PySem.Spec L2

/-! ### enumerate, zip -/
def enumD (xs : List D) : List D := (List.range xs.length).map fun i => .tup [.int (i : Nat), xs.getD i .non]
theorem enumD_at {xs : List D} {i : Nat} {d : D} (e : (enumD xs)[i]? = some d) : ∃ x, xs[i]? = some x ∧ d = .tup [.int (i : Nat), x] := by
  unfold enumD at e
  rw [List.getElem?_map] at e
  obtain ⟨j, e1, rfl⟩ := Option.map_eq_some_iff.mp e
  obtain ⟨h1, h2⟩ := List.getElem?_eq_some_iff.mp e1
  rw [List.getElem_range] at h2
  subst h2
  have hi : i < xs.length := by simpa using h1
  exact ⟨xs[i], List.getElem?_eq_getElem hi, by rw [List.getD_eq_getElem?_getD, List.getElem?_eq_getElem hi]; rfl⟩
theorem enumD_len {xs : List D} : (enumD xs).length = xs.length := by unfold enumD; simp
def zipD (xs ys : List D) : List D := (xs.zip ys).map fun p => .tup [p.1, p.2]
def lstD : D → Option (List D)
  | .lst xs => some xs
  | .rol xs => some xs
  | _ => none
section
variable {X : Cx} {fm : Fm} {m : List Nat} {W : WX} {σ : L2.St} {τ : List (V × T)} {ρ : Env}
theorem rep_lstD {G : Cfg} {F H : Hp} {v : V} {d : D} {xs : List D} (f : Same F H) (r : Rep G F v d) (e : lstD d = some xs) : ∃ p vs, v = .ref p ∧ SqL G.K H p vs ∧ Reps G F vs xs := by
  cases r with
  | lst h rs => cases e; exact ⟨_, _, rfl, SqL.of (f _ _ h), rs⟩
  | rol h rs => cases e; exact ⟨_, _, rfl, sqL_mono f h, rs⟩
  | _ => cases e
/-- a pair is made anew -/
theorem pair_new {G : Cfg} {F H : Hp} {T : Addr} {v w : V} {a b : D} (f : Same F H) (hT : H T = none) (ra : Rep G F v a) (rb : Rep G F w b) : Grow F H (upd F T (.tup [v, w])) (upd H T (.tup [v, w])) ∧ Rep G (upd F T (.tup [v, w])) (.ref T) (.tup [a, b]) := by
  have k := Grow.new (o := HO.tup [v, w]) f hT
  exact ⟨k, .tup (SqT.of upd_same) (.cons (ra.mono k.FF) (.cons (rb.mono k.FF) .nil))⟩
def iEnumD (m : List Nat) (fa : Env → R T) : Env → R (List D) := fun ρ => (eF m fa ρ).bind fun t ρ1 => opt ((view ρ1 t).bind fun d => (lstD d).map enumD) ρ1
theorem eF_sh {fa : Env → R T} {t : T} {ρ1 : Env} (e : eF m fa ρ = .ok t ρ1) : ∃ d, t = .sh d := by
  unfold eF at e
  obtain ⟨t0, ρ0, _, e2⟩ := bind_ok e
  split at e2
  · cases e2; exact ⟨_, rfl⟩
  · cases e2
theorem sa_one {e : Expr} {fa : Env → R T} (h : SE X m W e fa) (hs : starEach [e] X.env = (false, eval e X.env) :: starEach [] X.env := by rfl) : PA X [e] (tCons (tE X e) tNil) := pa_cons pe_tE pa_nil hs
theorem si_enum {e : Expr} {fa : Env → R T} {p pos tpos : Pos} {elts : List Expr} {kk : Nat} (hm : X.mg "enumerate" = none) (he : SE X m W e fa) (hg : Gl X "enumerate" := by rfl) (hs : starEach [e] X.env = [(false, eval e X.env)] := by rfl) :
    SI X m W (.Tuple elts kk tpos) (.Call (.Name "enumerate" p) [e] [] pos) (iEnumD m fa) := by
  refine ⟨_, pi_enum hg hm (pa_cons pe_tE pa_nil hs) hs, fun fm hmm ρ σ τ F H Q g q => ?_⟩
  refine se_f he fm hmm ρ σ τ F H _ g ?_
  unfold iEnumD at q
  cases e1 : eF m fa ρ with
  | ex x ρ1 => rw [e1] at q; exact q
  | bad => rw [e1] at q; exact q
  | ok t ρ1 =>
    rw [e1] at q
    intro v F' H' g'
    obtain ⟨d, rfl⟩ := eF_sh e1
    have q : PostI X fm W σ τ (opt ((some d).bind fun d => (lstD d).map enumD) ρ1) Q := q
    rw [Option.bind_some] at q
    cases e2 : lstD d with
    | none => rw [e2] at q; exact q.elim
    | some xs =>
      rw [e2] at q
      obtain ⟨a, vs, rfl, h1, h2⟩ := rep_lstD g'.FH g'.topSh e2
      refine ⟨a, vs, rfl, h1, q (Ite X.K a) [(.ref a, .sh d)] F' H' (fun x hx => by rcases List.mem_cons.mp hx with rfl | hx; rfl; exact nomatch hx) g' fun F0 i ρ2 σ2 τ2 F2 H2 g2 => ?_⟩
      obtain ⟨a2, ws, ea, h3, h4⟩ := rep_lstD g2.FH g2.topSh e2
      cases ea
      refine ⟨fun z ez => ?_, fun hi => ⟨ws, h3, by rw [h4.length, ← enumD_len]; exact hi⟩⟩
      obtain ⟨x, ex, rfl⟩ := enumD_at ez
      obtain ⟨y, ey, ry⟩ := h4.get ex
      refine ⟨⟨ws, y, h3, ey⟩, fun u H3 hy => ?_⟩
      obtain ⟨T, x', rfl, hT, rfl, hx'⟩ := hy
      have := hx' ws h3
      rw [ey] at this; cases this
      obtain ⟨k, r⟩ := pair_new g2.FH hT (.int (i := (i : Nat))) ry
      exact ⟨_, k, r⟩
def tupD : D → Option (List D)
  | .tup xs => some xs
  | _ => none
theorem rep_tupD {G : Cfg} {F H : Hp} {v : V} {d : D} {xs : List D} (f : Same F H) (r : Rep G F v d) (e : tupD d = some xs) : ∃ p vs, v = .ref p ∧ SqT G.K H p vs ∧ Reps G F vs xs := by
  cases r with
  | tup h rs => cases e; exact ⟨_, _, rfl, sqT_mono f h, rs⟩
  | _ => cases e
def zip2 : D → D → Option (List D)
  | .tup xs, .tup ys => some (zipD xs ys)
  | a, b => (lstD a).bind fun xs => (lstD b).map fun ys => zipD xs ys
def iZipD (m : List Nat) (fa fb : Env → R T) : Env → R (List D) := fun ρ => (eF m fa ρ).bind fun ta ρ1 => (eF m fb ρ1).bind fun tb ρ2 => opt ((view ρ2 ta).bind fun a => (view ρ2 tb).bind fun b => zip2 a b) ρ2
theorem zipD_at {xs ys : List D} {i : Nat} {d : D} (e : (zipD xs ys)[i]? = some d) : ∃ x y, xs[i]? = some x ∧ ys[i]? = some y ∧ d = .tup [x, y] := by
  unfold zipD at e
  rw [List.getElem?_map] at e
  obtain ⟨p, e1, rfl⟩ := Option.map_eq_some_iff.mp e
  rw [List.getElem?_zip_eq_some] at e1
  exact ⟨_, _, e1.1, e1.2, rfl⟩
theorem zipD_len {xs ys : List D} : (zipD xs ys).length = min xs.length ys.length := by unfold zipD; simp
theorem si_zip {e e' : Expr} {fa fb : Env → R T} {p pos tpos : Pos} {elts : List Expr} {kk : Nat} (hmg : X.mg "zip" = none) (ha : SE X m W e fa) (hb : SE X m W e' fb) (hg : Gl X "zip" := by rfl) (hs : starEach [e, e'] X.env = (false, eval e X.env) :: starEach [e'] X.env := by rfl) (hs2 : starEach [e'] X.env = (false, eval e' X.env) :: starEach [] X.env := by rfl) (hpl : (backTo pos (starEach [e'] X.env)).any (·.1) = false := by rfl) :
    SI X m W (.Tuple elts kk tpos) (.Call (.Name "zip" p) [e, e'] [] pos) (iZipD m fa fb) := by
  refine ⟨_, RZ.pi_zipA hg hmg (pa_cons pe_tE (pa_cons pe_tE pa_nil hs2) hs) hs hpl, fun fm hm ρ σ τ F H Q g q => ?_⟩
  refine se_f ha fm hm ρ σ τ F H _ g ?_
  unfold iZipD at q
  cases e1 : eF m fa ρ with
  | ex x ρ1 => rw [e1] at q; exact q
  | bad => rw [e1] at q; exact q
  | ok ta ρ1 =>
    rw [e1] at q
    intro v F1 H1 g1
    obtain ⟨da, rfl⟩ := eF_sh e1
    have q : PostI X fm W σ τ ((eF m fb ρ1).bind fun tb ρ2 => opt ((some da).bind fun a => (view ρ2 tb).bind fun b => zip2 a b) ρ2) Q := q
    refine se_f hb fm hm ρ1 σ _ F1 H1 _ g1 ?_
    cases e2 : eF m fb ρ1 with
    | ex x ρ2 => rw [e2] at q; exact PostX.pop q
    | bad => rw [e2] at q; exact q
    | ok tb ρ2 =>
      rw [e2] at q
      intro u F2 H2 g2
      obtain ⟨db, rfl⟩ := eF_sh e2
      have q : PostI X fm W σ τ (opt (zip2 da db) ρ2) Q := q
      cases e3 : zip2 da db with
      | none => rw [e3] at q; exact q.elim
      | some items =>
        rw [e3] at q
        have fin := fun J hF => q J [(u, .sh db), (v, .sh da)] F2 H2 (fun x hx => by rcases List.mem_cons.mp hx with rfl | hx; rfl; rcases List.mem_cons.mp hx with rfl | hx; rfl; exact nomatch hx) g2 hF
        have tt : (∃ xs ys, tupD da = some xs ∧ tupD db = some ys ∧ items = zipD xs ys) ∨ (∃ xs ys, lstD da = some xs ∧ lstD db = some ys ∧ items = zipD xs ys) := by
          unfold zip2 at e3
          split at e3
          · cases e3; exact .inl ⟨_, _, rfl, rfl, rfl⟩
          · obtain ⟨xs, q1, e3⟩ := Option.bind_eq_some_iff.mp e3
            obtain ⟨ys, q2, e3⟩ := Option.map_eq_some_iff.mp e3
            exact .inr ⟨xs, ys, q1, q2, e3.symm⟩
        rcases tt with ⟨xs, ys, t1, t2, rfl⟩ | ⟨xs, ys, t1, t2, rfl⟩
        · obtain ⟨a, va, rfl, h1, h2⟩ := rep_tupD g2.FH g2.pop.topSh t1
          obtain ⟨b, vb, rfl, h3, h4⟩ := rep_tupD g2.FH g2.topSh t2
          refine ⟨a, b, va, vb, rfl, .inr ⟨h1, h3, fin _ fun F0 i ρ3 σ3 τ3 F3 H3 g3 => ?_⟩⟩
          obtain ⟨a', wa, ea, k1, k2⟩ := rep_tupD g3.FH g3.pop.topSh t1
          obtain ⟨b', wb, eb, k3, k4⟩ := rep_tupD g3.FH g3.topSh t2
          cases ea
          cases eb
          refine ⟨fun z ez => ?_, fun hi => ⟨wa, wb, k1, k3, by rw [k2.length, k4.length]; rw [zipD_len] at hi; omega⟩⟩
          obtain ⟨x, y, ex, ey, rfl⟩ := zipD_at ez
          obtain ⟨x', ex', rx⟩ := k2.get ex
          obtain ⟨y', ey', ry⟩ := k4.get ey
          refine ⟨⟨wa, wb, x', y', k1, k3, ex', ey'⟩, fun u H4 hy => ?_⟩
          obtain ⟨T, x2, y2, rfl, hT, rfl, hx2, hy2⟩ := hy
          have := hx2 wa k1
          rw [ex'] at this; cases this
          have := hy2 wb k3
          rw [ey'] at this; cases this
          obtain ⟨k, r⟩ := pair_new g3.FH hT rx ry
          exact ⟨_, k, r⟩
        · obtain ⟨a, va, rfl, h1, h2⟩ := rep_lstD g2.FH g2.pop.topSh t1
          obtain ⟨b, vb, rfl, h3, h4⟩ := rep_lstD g2.FH g2.topSh t2
          refine ⟨a, b, va, vb, rfl, .inl ⟨h1, h3, fin _ fun F0 i ρ3 σ3 τ3 F3 H3 g3 => ?_⟩⟩
          obtain ⟨a', wa, ea, k1, k2⟩ := rep_lstD g3.FH g3.pop.topSh t1
          obtain ⟨b', wb, eb, k3, k4⟩ := rep_lstD g3.FH g3.topSh t2
          cases ea
          cases eb
          refine ⟨fun z ez => ?_, fun hi => ⟨wa, wb, k1, k3, by rw [k2.length, k4.length]; rw [zipD_len] at hi; omega⟩⟩
          obtain ⟨x, y, ex, ey, rfl⟩ := zipD_at ez
          obtain ⟨x', ex', rx⟩ := k2.get ex
          obtain ⟨y', ey', ry⟩ := k4.get ey
          refine ⟨⟨wa, wb, x', y', k1, k3, ex', ey'⟩, fun u H4 hy => ?_⟩
          obtain ⟨T, x2, y2, rfl, hT, rfl, hx2, hy2⟩ := hy
          have := hx2 wa k1
          rw [ex'] at this; cases this
          have := hy2 wb k3
          rw [ey'] at this; cases this
          obtain ⟨k, r⟩ := pair_new g3.FH hT rx ry
          exact ⟨_, k, r⟩
end
end Pf

namespace Pf
open PySem PySem.Spec L2

/-! ### repr, dicts within -/
def keyPy : Key → PyData
  | .inl i => .int i
  | .inr s => .str s
mutual
def toPyD : D → Option PyData
  | .non => some .none
  | .bl b => some (.bool b)
  | .int i => some (.int i)
  | .str s => some (.str s)
  | .lst xs => (toPyDs xs).map .list
  | .tup xs => (toPyDs xs).map .tuple
  | .dk kvs => (toPyKs kvs).map .dict
  | _ => none
def toPyDs : List D → Option (List PyData)
  | [] => some []
  | d :: ds => match toPyD d, toPyDs ds with
    | some p, some ps => some (p :: ps)
    | _, _ => none
def toPyKs : List (Key × D) → Option (List (PyData × PyData))
  | [] => some []
  | (k, d) :: ds => match toPyD d, toPyKs ds with
    | some p, some ps => some ((keyPy k, p) :: ps)
    | _, _ => none
end
mutual
/-- no list within -/
def nol : PyData → Bool
  | .list _ => false
  | .tuple xs => nols xs
  | .dict kvs => nolk kvs
  | _ => true
def nols : List PyData → Bool
  | [] => true
  | x :: xs => nol x && nols xs
def nolk : List (PyData × PyData) → Bool
  | [] => true
  | (_, y) :: xs => nol y && nolk xs
end
section
variable {X : Cx} {pins : List (Addr × Obj)} {σ : L2.St} {F H : Hp} {s : Shared}
mutual
theorem Rep.readsD (I : Inv X pins σ H s) (e : Same F H) : ∀ {d : D} {v : V} {u : Value} {p : PyData}, Rep (gX X) F v d → RelV v u → toPyD d = some p → ∃ as, Reads s.heap u p as ∧ (nol p = true → sysModules ∉ as)
  | .non, _, _, _, r, q, z => by cases r; cases z; cases q; exact ⟨_, .none, by simp⟩
  | .bl b, _, _, _, r, q, z => by cases r; cases z; cases q; exact ⟨_, .bool b, by simp⟩
  | .int i, _, _, _, r, q, z => by cases r; cases z; obtain ⟨t, rfl⟩ := q; exact ⟨_, .int i t, by simp⟩
  | .str i, _, _, _, r, q, z => by cases r; cases z; obtain ⟨t, rfl⟩ := q; exact ⟨_, .str i t, by simp⟩
  | .lst xs, _, _, _, r, q, z => by
    cases r with
    | lst h rs =>
      obtain ⟨ps, e1, e2⟩ := Option.map_eq_some_iff.mp (show (toPyDs xs).map PyData.list = some _ from z)
      subst e2
      cases q
      obtain ⟨its, rv, ⟨o, n, ho, hc, _, hd⟩, _⟩ := I.list (SqL.of (e _ _ h))
      obtain ⟨as, h1, _⟩ := Reps.readsD I e rs rv e1
      exact ⟨_, .list ho hc hd h1, fun y => by simp [nol] at y⟩
  | .tup xs, _, _, _, r, q, z => by
    cases r with
    | tup h rs =>
      obtain ⟨ps, e1, e2⟩ := Option.map_eq_some_iff.mp (show (toPyDs xs).map PyData.tuple = some _ from z)
      subst e2
      cases q
      obtain ⟨its, rv, ⟨o, ho, hc, n, hd⟩, _⟩ := I.tuple (sqT_mono e h)
      obtain ⟨as, h1, h2⟩ := Reps.readsD I e rs rv e1
      exact ⟨_, .tuple ho hc hd h1, fun y => h2 (by simpa [nol] using y)⟩
  | .dk kvs, _, _, _, r, q, z => by
    cases r with
    | dk h hk rs =>
      obtain ⟨ps, e1, e2⟩ := Option.map_eq_some_iff.mp (show (toPyKs kvs).map PyData.dict = some _ from z)
      subst e2
      cases q
      obtain ⟨_, hs, vs, kv, o, es, ep, ho, hx, hd, hkk, hp, _⟩ := I.hok _ _ (e _ _ h)
      obtain ⟨as, bs, h1, h2, h3⟩ := RepKs.readsD I e hk rs kv hp e1
      exact ⟨_, .dict ho hx.1 hd h1 h2, fun y hm => by
        obtain ⟨h3, h4⟩ := h3 (by simpa [nol] using y)
        rcases List.mem_append.mp hm with hm | hm
        · exact (List.mem_cons.mp hm).elim (fun z => by simp [z] at hs) h3
        · exact h4 hm⟩
  | .ty n, _, _, _, _, _, z => by cases z
  | .dt n, _, _, _, _, _, z => by cases z
  | .rol n, _, _, _, _, _, z => by cases z
  | .ins _ _, _, _, _, _, _, z => by cases z
  | .cls _, _, _, _, _, _, z => by cases z
  | .exn _ _, _, _, _, _, _, z => by cases z
theorem Reps.readsD (I : Inv X pins σ H s) (e : Same F H) : ∀ {ds : List D} {vs : List V} {us : List Value} {ps : List PyData}, Reps (gX X) F vs ds → Vals vs us → toPyDs ds = some ps → ∃ as, ReadsAll s.heap us ps as ∧ (nols ps = true → sysModules ∉ as)
  | [], _, _, _, r, q, z => by cases r; cases q; cases z; exact ⟨_, .nil, by simp⟩
  | d :: ds, _, _, _, r, q, z => by
    cases r with
    | cons r rs =>
      cases q with
      | cons q qs =>
        unfold toPyDs at z
        split at z
        · rename_i e1 e2
          cases z
          obtain ⟨as, h1, h2⟩ := Rep.readsD I e r q e1
          obtain ⟨bs, h3, h4⟩ := Reps.readsD I e rs qs e2
          exact ⟨_, .cons h1 h3, fun y hm => by
            simp only [nols, Bool.and_eq_true] at y
            exact (List.mem_append.mp hm).elim (h2 y.1) (h4 y.2)⟩
        · cases z
theorem RepKs.readsD (I : Inv X pins σ H s) (e : Same F H) : ∀ {ds : List (Key × D)} {kvs : List (Key × V)} {vs : List (Key × Value)} {es : List DictEntry} {ps : List (PyData × PyData)}, kvs.map (·.1) = ds.map (·.1) → Reps (gX X) F (kvs.map (·.2)) (ds.map (·.2)) → KV kvs vs → Pairs (mixKind X.prog X.w) es vs → toPyKs ds = some ps →
    ∃ as bs, ReadsAll s.heap (es.map (·.key)) (ps.map (·.1)) as ∧ ReadsAll s.heap (es.map (·.val)) (ps.map (·.2)) bs ∧ (nolk ps = true → sysModules ∉ as ∧ sysModules ∉ bs)
  | [], kvs, _, _, _, hk, r, q, w, z => by
    cases kvs with
    | nil => cases q; cases w; cases z; exact ⟨_, _, .nil, .nil, by simp⟩
    | cons _ _ => simp at hk
  | (k, d) :: ds, kvs, _, _, _, hk, r, q, w, z => by
    cases kvs with
    | nil => simp at hk
    | cons kv kvs =>
      simp only [List.map_cons, List.cons.injEq] at hk r
      cases r with
      | cons r rs =>
        cases q with
        | cons q qs =>
          cases w with
          | cons w we ws =>
            unfold toPyKs at z
            split at z
            · rename_i e1 e2
              cases z
              obtain ⟨rfl, hk⟩ := hk
              obtain ⟨q1, q2⟩ := q
              obtain ⟨as, h1, h2⟩ := Rep.readsD I e r q2 e1
              obtain ⟨bs, cs, h3, h4, h5⟩ := RepKs.readsD I e hk rs qs ws e2
              rw [← q1] at w
              rw [← we] at h1
              refine ⟨[] ++ bs, as ++ cs, ?_, .cons h1 h4, fun y => by
                simp only [nolk, Bool.and_eq_true] at y
                obtain ⟨h5, h6⟩ := h5 y.2
                exact ⟨h5, fun hm => (List.mem_append.mp hm).elim (h2 y.1) h6⟩⟩
              rcases keyIs_shape w with ⟨i, t, z1, z2⟩ | ⟨x, t, z1, z2⟩
              · simp only [List.map_cons]
                rw [z1, z2]
                exact .cons (.int i t) h3
              · simp only [List.map_cons]
                rw [z1, z2]
                exact .cons (.str x t) h3
            · cases z
end
/-- what may be told: every item is without dicts or without lists -/
def tellOk (ps : List PyData) : Bool := ps.all fun p => !p.hasDict || nol p
theorem Reps.tells (I : Inv X pins σ H s) (e : Same F H) : ∀ {ds : List D} {vs : List V} {us : List Value} {ps : List PyData}, Reps (gX X) F vs ds → Vals vs us → toPyDs ds = some ps → tellOk ps = true → PyData.showableAll ps = true → (∀ t ∈ PyData.shownAll ps, t.length ≤ sizeLine) →
    ∃ as bs, ReadsAll s.heap us ps as ∧ ReadAtMost s.heap (PyData.depthAll ps) bs ∧ ReprAllK X.prog X.w bs s.heap (PyData.depthAll ps) us (PyData.shownAll ps)
  | [], _, _, _, r, q, z, _, _, _ => by cases r; cases q; cases z; exact ⟨_, [], .nil, (fun _ h => nomatch h), by simp only [PyData.shownAll]; exact .nil⟩
  | d :: ds, _, _, _, r, q, z, t1, t2, t3 => by
    cases r with
    | cons r rs =>
      cases q with
      | cons q qs =>
        unfold toPyDs at z
        split at z
        · rename_i p ps e1 e2
          cases z
          simp only [tellOk, List.all_cons, Bool.and_eq_true, PyData.showableAll, PyData.shownAll] at t1 t2 t3
          obtain ⟨as, h1, h2⟩ := Rep.readsD I e r q e1
          obtain ⟨as', bs, g1, g2, g3⟩ := Reps.tells I e rs qs e2 t1.2 t2.2 (fun t ht => t3 t (List.mem_cons_of_mem _ ht))
          obtain ⟨cs, c1, c2⟩ := ReprK.of_reads (prog := X.prog) (w := X.w) h1 t2.1 (fun hd => h2 (by have := t1.1; rw [hd] at this; simpa using this)) (t3 _ List.mem_cons_self)
          refine ⟨_, cs ++ bs, .cons h1 g1, ?_, ?_⟩
          · simp only [PyData.depthAll]
            exact (c1.mono (Nat.le_max_left ..)).append (g2.mono (Nat.le_max_right ..))
          · simp only [PyData.depthAll, PyData.shownAll]
            exact .cons ((c2.more fun _ => List.mem_append_left bs).level_le (Nat.le_max_left ..)) (g3.more_le (fun _ => List.mem_append_right cs) (Nat.le_max_right ..))
        · cases z
end
def itemsP : PyData → List PyData
  | .list xs | .tuple xs => xs
  | _ => []
def reprX : List D → Option T
  | [d] => (toPyD d).bind fun p => if (seqD d && tellOk (itemsP p) && p.showable && decide (p.depth ≤ 60) && sz p.shown.length) = true then some (.sh (.str p.shown)) else none
  | _ => none
section
variable {X : Cx} {fm : Fm} {m : List Nat} {W : WX} {σ : L2.St} {τ : List (V × T)} {ρ : Env}
/-- repr(e), e a list or a tuple -/
def rReprX (X : Cx) : List V → Hp → VK → Prop := fun xs H Q => ∃ (a : Addr) (y : Str), xs = [.ref a] ∧ (∀ {pins : List (Addr × Obj)} {σ : L2.St} {s : Shared} {A : Around} {E : Value → Shared → Prop} {R : Value → Shared → Prop}, Inv X pins σ H s → RelV (.ref a) (.ref a) → A.guards = some [] → A.units + 62 < cLine →
    (∀ h' u tk, (∀ b o, s.heap.get? b = some o → h'.get? b = some o) → R (.str y u) { s with heap := h', toks := tk }) → wpAny (model X.prog X.w) A (call (.builtin "repr") [.ref a]) R E s) ∧ Q (.str y) H
theorem call_reprX {j : Nat} (hr : Rm j X.A) : CallR X (.builtin "repr") (rReprX X) := by
  intro pins s σ H xs us Q I r h
  obtain ⟨a, y, rfl, rd, q⟩ := h
  obtain ⟨u, rfl, ru⟩ := vals1 r
  cases (show u = Value.ref a from ru)
  have hu := hr.r.units
  exact rd I ru hr.g (by omega) (fun h' u tk hk => ⟨.str y, H, I.kept (t' := tk) hk, ⟨u, rfl⟩, q⟩)
theorem tell_list {pins : List (Addr × Obj)} {σ : L2.St} {H : Hp} {s : Shared} {A : Around} {E R : Value → Shared → Prop} (I : Inv X pins σ H s) {a : Addr} {vs : List V} {ds : List D} {ps : List PyData} {Fz : Hp} (e : Same Fz H) (hs : SqL X.K H a vs) (rs : Reps (gX X) Fz vs ds) (hz : toPyDs ds = some ps) (t1 : tellOk ps = true) (t2 : PyData.showableAll ps = true) (hl : (PyData.list ps).shown.length ≤ sizeLine)
    (hg : A.guards = some []) (hu : A.units + ((PyData.list ps).depth + 1) < cLine)
    (hR : ∀ h' u tk, (∀ b o, s.heap.get? b = some o → h'.get? b = some o) → R (.str (PyData.list ps).shown u) { s with heap := h', toks := tk }) : wpAny (model X.prog X.w) A (call (.builtin "repr") [.ref a]) R E s := by
  obtain ⟨its, rv, ⟨o, n, ho, hc, _, hd⟩, _⟩ := I.list hs
  have hl' : (listText (PyData.shownAll ps)).length ≤ sizeLine := by simpa only [PyData.shown] using hl
  obtain ⟨as, bs, h1, h2, h3⟩ := Reps.tells I e rs rv hz t1 t2 (fun t ht => Nat.le_trans (listText_mem_le ht) hl')
  have hn : a ∉ bs := not_mem_of_deeper (.list ho hc hd h1) (by simp only [PyData.depth]; omega) h2
  simp only [PyData.depth] at hu
  simp only [PyData.shown] at hR
  refine call_repr_slot (by omega) ⟨o, ho, hc⟩ F.slot_list_repr.toG ?_
  have fin : ∀ h' u tk, (∀ b o, s.heap.get? b = some o → h'.get? b = some o) → ∃ x t, (Value.str (listText (PyData.shownAll ps)) u) = .str x t ∧ R (.str (listText (PyData.shownAll ps)) u) { s with heap := h', toks := tk } := fun h' u tk hk => ⟨_, _, rfl, hR h' u tk hk⟩
  cases its with
  | nil =>
    cases h1
    simp only [PyData.shownAll, listText_nil] at fin
    exact call_list_repr_empty ⟨o, ho, hc⟩ ho hd (fin s.heap _ _ fun _ _ y => y)
  | cons x l => exact call_list_reprK ho hc hd hn (by simpa using h3.length_eq) (fun i y ey => h3.item i y (by simpa using ey)) hg (fun b _ => Clear.nil b) (by show A.units + 1 + _ < cLine; omega) (fun _ _ y => y) fin hl'
theorem tell_tuple {pins : List (Addr × Obj)} {σ : L2.St} {H : Hp} {s : Shared} {A : Around} {E R : Value → Shared → Prop} (I : Inv X pins σ H s) {a : Addr} {vs : List V} {ds : List D} {ps : List PyData} {Fz : Hp} (e : Same Fz H) (hs : SqT X.K H a vs) (rs : Reps (gX X) Fz vs ds) (hz : toPyDs ds = some ps) (t1 : tellOk ps = true) (t2 : PyData.showableAll ps = true) (hl : (PyData.tuple ps).shown.length ≤ sizeLine)
    (hg : A.guards = some []) (hu : A.units + ((PyData.tuple ps).depth + 1) < cLine)
    (hR : ∀ h' u tk, (∀ b o, s.heap.get? b = some o → h'.get? b = some o) → R (.str (PyData.tuple ps).shown u) { s with heap := h', toks := tk }) : wpAny (model X.prog X.w) A (call (.builtin "repr") [.ref a]) R E s := by
  obtain ⟨its, rv, ⟨o, ho, hc, n, hd⟩, _⟩ := I.tuple hs
  have hl' : (tupleText (PyData.shownAll ps)).length ≤ sizeLine := by simpa only [PyData.shown] using hl
  obtain ⟨as, bs, h1, h2, h3⟩ := Reps.tells I e rs rv hz t1 t2 (fun t ht => Nat.le_trans (tupleText_mem_le ht) hl')
  have hn : a ∉ bs := not_mem_of_deeper (.tuple ho hc hd h1) (by simp only [PyData.depth]; omega) h2
  simp only [PyData.depth] at hu
  simp only [PyData.shown] at hR
  refine call_repr_slot (by omega) ⟨o, ho, hc⟩ F.slot_tuple_repr ?_
  exact call_tuple_reprK ho hc hd hn h3 hg (fun b _ => Clear.nil b) (by show A.units + 1 + _ < cLine; omega) (fun _ _ y => y) (fun h' u tk hk => ⟨_, _, rfl, hR h' u tk hk⟩) hl'
theorem on_reprX : OpN (gX X) (rReprX X) reprX := fun F H vs ds t Q f r e k => by
  unfold reprX at e
  split at e
  · rename_i d
    obtain ⟨p, e1, e⟩ := Option.bind_eq_some_iff.mp e
    split at e
    · rename_i hc
      cases e
      simp only [Bool.and_eq_true, decide_eq_true_eq] at hc
      obtain ⟨⟨⟨⟨c1, c3⟩, c2⟩, c4⟩, c5⟩ := hc
      obtain ⟨v, rfl, rv⟩ := repVs1 r
      cases d with
      | lst xs =>
        obtain ⟨a, ws, rfl, h1, h2⟩ := rv.lst f
        obtain ⟨ps, z1, z2⟩ := Option.map_eq_some_iff.mp (show (toPyDs xs).map PyData.list = some _ from e1)
        subst z2
        exact ⟨a, _, rfl, fun I _ hg hu hR => tell_list I f (SqL.of h1) h2 z1 c3 (by simpa [PyData.showable] using c2) (of_decide_eq_true c5) hg (by omega) hR, res_sh f .str k⟩
      | tup xs =>
        obtain ⟨a, ws, rfl, h1, h2, _⟩ := rv.tup f
        obtain ⟨ps, z1, z2⟩ := Option.map_eq_some_iff.mp (show (toPyDs xs).map PyData.tuple = some _ from e1)
        subst z2
        exact ⟨a, _, rfl, fun I _ hg hu hR => tell_tuple I f h1 h2 z1 c3 (by simpa [PyData.showable] using c2) (of_decide_eq_true c5) hg (by omega) hR, res_sh f .str k⟩
      | rol xs => cases e1
      | _ => cases c1
    · cases e
  · cases e
end
end Pf

namespace Pf
open PySem PySem.Spec L2
/-! ### errors made by keywords -/
section
open PySem.W PySem.HandSPX Builtin Builtin.ObjectAttr
variable {prog : Program} {w : World} {M : Model} {A : Around} {E : Value → Shared → Prop} {R : Result → Shared → Prop} {h : Heap} {g : Array GenState} {d : Drawn} {t : Nat} {os : OsState}
variable {nm q : Str} {C N : Addr} {bs bm bmB : List Value} {hdct : Bool} {sn : List Str} {sub : List Value} {ab : Bool} {col : Option Bool} {dd : Option Addr} {k0 k1 k2 k3 k5 : Option Value} {B newId initId : String}
theorem check_new_kw (F : ExcBaseFacts B newId initId bmB) (hT : ∀ X : String, bm.contains (.type X) = bmB.contains (.type X)) {rest : List Value} {kw : List (Str × Value)} {Q : Unit → Shared → Prop}
    (hC : h.get? C = some (excClassObj nm q C N bs bm hdct sn sub ab col dd k0 k1 k2 k3 k5 newId)) (hq : Q () ⟨h, g, d, t, os⟩) : wpAny M A (checkBuiltinCall newId ⟨.ref C :: rest, kw⟩) Q E ⟨h, g, d, t, os⟩ := by
  have hcont : (Value.ref C :: bm).contains (.type B) = true := by rw [List.contains_cons, hT, F.hasB, Bool.or_true]
  have hstar := F.noStar
  simp only [checkBuiltinCall, F.newKind, F.newSplit, F.newRow]
  repeat (first | refine wpAny_loadPart_at hC ?_ | (refine wpAny_isSubtype_exc hC ?_; rw [hcont]) | refine wpAny_staticBase_exc hC ?_ | refine wpAny_madeBy_exc hC ?_ | simp only [bne_self_eq_false, Bool.false_eq_true, if_false] | wp_step)
  exact hq
theorem new_kw (F : ExcBaseFacts B newId initId bmB) (hT : ∀ X : String, bm.contains (.type X) = bmB.contains (.type X)) {rest : List Value} {kw : List (Str × Value)}
    (hC : h.get? C = some (excClassObj nm q C N bs bm hdct sn sub ab col dd k0 k1 k2 k3 k5 newId))
    (hq : R (.ok (.ret (.ref (h.objs.size + 1)))) ⟨(h.push { cls := .type "tuple", data := .seq rest.toArray }).push
      { cls := .ref C, data := .fields #[.ref h.objs.size, .none, .none, .none, .bool false, .none] }, g, d, t, os⟩) (hrest : rest.length ≤ sizeLine) :
    codeAny (model prog w) A (.builtin newId ⟨.ref C :: rest, kw⟩) R ⟨h, g, d, t, os⟩ := by
  have hends := F.ends
  have hcB : (Value.ref C :: bm).contains (.type B) = true := by rw [List.contains_cons, hT, F.hasB, Bool.or_true]
  have hcA : (Value.ref C :: bm).contains (.type "AttributeError") = false := by rw [List.contains_cons, hT, F.noAttr]; rfl
  have hcN : (Value.ref C :: bm).contains (.type "NameError") = false := by rw [List.contains_cons, hT, F.noName]; rfl
  refine codeAny_builtinAt F.entry ?_
  unfold Builtin.«BaseException.__new__»
  refine wpAt_bind ?_
  show wpAt _ _ _ (stack >>= _) _ _ _
  refine wpAt_bind (wpAt_stack fun p below => wpAt_of_wpAny ?_)
  wp_walk
  refine wpAt_of_wpAny ?_
  rw [F.owner]
  repeat (first | with_reducible refine wpAny_madeHere_exc F.canon hC ?_ | with_reducible refine wpAny_loadPart_at hC ?_ | (with_reducible refine wpAny_isSubtype_exc hC ?_; first | rw [hcB] | rw [hcA] | rw [hcN]) | wp_step)
  show R _ _
  rw [Heap.size_push]
  exact hq
theorem type_call_kw (F : ExcBaseFacts B newId initId bmB) (hT : ∀ X : String, bm.contains (.type X) = bmB.contains (.type X)) {rest : List Value} {kw : List (Str × Value)} {fI : Addr} {Q : Fin → Shared → Prop}
    (hC : h.get? C = some (excClassObj nm q C N bs bm hdct sn sub ab col dd k0 k1 k2 k3 k5 newId))
    (hi : Looks (model prog w) h (typeLookup (.ref C) "__init__") (some (.ref fI))) (hb : ∀ self, Looks (model prog w) h (bindSpecial (.ref fI) self) (.ref fI, [self])) (hrest : rest.length ≤ sizeLine)
    (hq : codeAny (model prog w) A (.call (.ref fI) ⟨.ref (h.objs.size + 1) :: rest, kw⟩)
      (fun r s' => match r with | .ok (.ret v) => v = .none ∧ Q (.done (.ret (.ref (h.objs.size + 1)))) s' | .ok _ => False | .error e => E e s')
      ⟨(h.push (kdv_tup rest)).push (excO C h.objs.size), g, d, t, os⟩) :
    wpAny (model prog w) A (Builtin.«type.__call__» ⟨.ref C :: rest, kw⟩) Q E ⟨h, g, d, t, os⟩ := by
  repeat (first | with_reducible refine wpAny_loadPart_at hC ?_ | with_reducible refine wpAny_madeBy_exc hC ?_ | wp_step)
  refine codeAny_call_builtin_code (Code.quiet_builtin _ F.quiet) (check_new_kw F hT hC ?_)
  refine new_kw F hT hC ?_ hrest
  show wpAny _ _ _ _ _ _
  have k : ∀ b o, h.get? b = some o → ((h.push (kdv_tup rest)).push (excO C h.objs.size)).get? b = some o := fun b o e => Heap.get?_push_of_some _ (Heap.get?_push_of_some _ e)
  have hC₁ := k _ _ hC
  have hget : ((h.push (kdv_tup rest)).push (excO C h.objs.size)).get? (h.objs.size + 1) = some (excO C h.objs.size) := by heap_get
  have hcC : (Value.ref C :: bm).contains (.ref C) = true := by simp
  have i1 := hi.keeps k
  have b1 := (hb (.ref (h.objs.size + 1))).keeps k
  unfold isInstance
  repeat (first | with_reducible refine wpAny_loadPart_at hget ?_ | (with_reducible refine wpAny_isSubtype_exc hC₁ ?_; rw [hcC]) | wp_step)
  show wpAny _ _ (typeLookup (.ref C) _) _ _ _
  refine i1.at ?_
  refine wpAny_holding (wpAny_bind (b1.at ?_))
  refine wpAny_bind (wpAny_call (codeAny_mono hq fun r s' z => ?_))
  rcases r with e | (v | _ | _ | _) <;> first | exact z | exact z.elim | skip
  obtain ⟨rfl, z⟩ := z
  first
    | exact wpAny_pure (wpAny_pure z)
    | (wp_walk; exact z)
theorem call_own_kw (F : ExcBaseFacts B newId initId bmB) (hT : ∀ X : String, bm.contains (.type X) = bmB.contains (.type X)) {rest : List Value} {kw : List (Str × Value)} {fI : Addr}
    (hC : h.get? C = some (excClassObj nm q C N bs bm hdct sn sub ab col dd k0 k1 k2 k3 k5 newId))
    (hi : Looks (model prog w) h (typeLookup (.ref C) "__init__") (some (.ref fI))) (hb : ∀ self, Looks (model prog w) h (bindSpecial (.ref fI) self) (.ref fI, [self])) (hrest : rest.length ≤ sizeLine)
    (hq : codeAny (model prog w) (A.under (.builtin "type.__call__" ⟨.ref C :: rest, kw⟩)) (.call (.ref fI) ⟨.ref (h.objs.size + 1) :: rest, kw⟩) (InitBack (h.objs.size + 1) R)
      ⟨(h.push (kdv_tup rest)).push (excO C h.objs.size), g, d, t, os⟩) :
    codeAny (model prog w) A (.call (.ref C) ⟨rest, kw⟩) R ⟨h, g, d, t, os⟩ := by
  have f1 := tc_lookup
  have f2 := tc_bind (.ref C)
  have hTy : (⟨h, g, d, t, os⟩ : Shared).TypeIs (.ref C) "type" := ⟨_, hC, rfl⟩
  refine codeAny_of_tree ?_
  show wpAny _ _ (callAny (.ref C) _) _ _ _
  repeat (any_goals (first | assumption | with_reducible refine wpAny_loadPart_at hC ?_ | wp_step))
  refine ⟨rfl, ?_⟩
  refine codeAny_call_builtin_at (Code.quiet_builtin _ (by decide +kernel)) entry_typeCall (wpAny_check_type_call_sub hC (type_call_kw F hT hC hi hb hrest ?_))
  refine codeAny_mono hq fun r s' z => ?_
  rcases r with e | (v | _ | _ | _) <;> exact z
end
section
variable {X : Cx} {fm : Fm} {m : List Nat} {W : WX} {σ : L2.St} {τ : List (V × T)} {ρ : Env}
/-- an __init__ called with the keywords ks alone -/
def KBi (K : PySem.W.Frag) (fd : FuncData) (ps ks : List Str) (π : List Nat) : Prop := ∀ (s : Shared) (self : Value) (ws : List Value), K.In s.heap → ws.length = ks.length → BindsTo s fd ⟨[self], ks.zip ws⟩ (ps.zip (self :: perm π ws))
theorem pmk_errK {x : Str} {C fI : Addr} {fd : FuncData} {ps fs ks : List Str} {π : List Nat} {kws : List Keyword} {t2 : TA} {p pos : Pos} (T : ErrC X.K C fI fs) (F1 : FnG X.prog X.w X.K X.mg X.base 1 fI fd ps (SpEI C fs)) (hr : Rm 2 X.A) (hb : KBi X.K fd ps ks π)
    (hg : Gl X x) (hm : X.mg x = some (.ref C)) (hkw : PK X kws t2) (hall : (backToKw pos (keywordEach kws X.env)).all (·.1.isSome) = true) (hks : (backToKw pos (keywordEach kws X.env)).filterMap (·.1) = ks)
    (hdb : (x == ("__debug__" : Str)) = false) (hpl : (backToKw pos (keywordEach kws X.env)).any (·.1.isNone) = false) :
    PMk X (.Call (.Name x p) [] kws pos) (fun σ H Q => t2 σ H fun zs H1 => zs.length = ks.length ∧ (perm π zs).length = fs.length ∧ ∀ d, H1 d = none → Q (.ref C) (some d) (upd H1 d (.xd (fs.zip (perm π zs)).reverse))) := by
  intro pins s σ H Q I h
  obtain ⟨nm, q, N, bs, bm, sn, sub, ab, col, dd, k0, k1, k2, k3, k5, hC, hbm⟩ := T.ox.cls
  refine wpAny_Call_Name_kw (ld_glob I hg hm ?_ hdb)
  refine PySem.W.callWith_KW0 (h₀ := X.base) I.ok.mod.kin T.ox.kC hall (thn (hkw.run pos pins s σ H _ I h) ?_) hpl
  rintro ws s2 ⟨zs, H1, I1, rz, l1, l2, q1⟩
  refine ⟨I1.kIn, ?_⟩
  rw [hks]
  obtain ⟨hp, g, dr, tk, os⟩ := s2
  refine wpAny_call (call_own_kw F.excBase_ValueError (fun Y => PySem.HandSPX.refsVE_contains Y bm hbm) (I1.kIn _ _ hC) (PySem.W.looks_findIn I1.kIn T.iC) (fun self => PySem.W.bind_fn I1.kIn self T.tI) (Nat.zero_le _)
    (codeAny_mono (err_run (us := []) T F1 hr I1 (perm_vals rz π) l2 (fun s2 K2 => hb s2 _ ws K2 (by rw [← rz.length]; exact l1)) q1) fun r s' hq' => hq'))
def mkEK (c : Str) (fs : List Str) (nk : Nat) (π : List Nat) (fk : Env → R (List T)) : Env → R Exn := fun ρ => (fk ρ).bind fun ts ρ1 => match shs ts with
  | some ds => if ds.length = nk ∧ (perm π ds).length = fs.length then .ok ⟨c, (fs.zip (perm π ds)).reverse⟩ ρ1 else .bad
  | none => .bad
/-- .. with the binding told -/
def ErrKIs (P : Program) (w : World) (K : PySem.W.Frag) (mg : Str → Option Value) (base : Heap) (x : Str) (ps fs ks : List Str) (π : List Nat) : Prop := ∃ C fI fd, ErrD P w K mg base x ps fs C fI fd ∧ KBi K fd ps ks π
abbrev ErrKX (X : Cx) (x : Str) (ps fs ks : List Str) (π : List Nat) : Prop := ErrKIs X.prog X.w X.K X.mg X.base x ps fs ks π
theorem exm_of {Tb : Tab} {x : Str} (R : RelOk X.K X.mg Tb) (g : GlbIs X.mg x) : Exm X x (Tb.exm x) := by
  obtain ⟨CF, mF⟩ := g
  exact ⟨CF, mF, fun a b e C mC => R.exm x a b e C CF mC mF⟩
theorem fun2_mk {P : Program} {K : PySem.W.Frag} {x qual : Str} {st : Stmt} {f cc D cda : Addr} {oc : Value} {od an : Option Addr} {osl : Array (Option Value)} {kV doc pm ct : Value} {cl : Value} {cld : Option Addr} {csl : Array (Option Value)} {ccl : Value} {cdd : Option Addr} {vs : Array Value} {ccs : Array (Option Value)} {file : Str} {tf : Tok}
    (l : K.lookup f = some ⟨oc, od, .func (PySem.W.ksFn x qual (defArgs st) (defBody st) (defScope st) .none kV doc pm an (.ref cda) ct cc), osl⟩) (c : PySem.W.codeIn K (.ref cda) qual = true) (lc : K.lookup cc = some ⟨cl, cld, .cell (some (.ref D)), csl⟩) (ld : K.lookup cda = some ⟨ccl, cdd, .fields vs, ccs⟩) (h2 : vs[2]? = some (.str file tf)) (hf : ((P.main.file : Str) == file) = true) :
    SupFun2 P K x qual st f (PySem.W.ksFn x qual (defArgs st) (defBody st) (defScope st) .none kV doc pm an (.ref cda) ct cc) cc D :=
  ⟨⟨oc, od, kV, doc, pm, an, .ref cda, ct, osl, rfl, l, c, cda, _, vs, file, tf, rfl, ld, rfl, h2, hf⟩, cl, cld, csl, lc⟩
theorem SupFun2.binds {P : Program} {K : PySem.W.Frag} {x qual : Str} {st : Stmt} {f cc D : Addr} {fd : FuncData} {ps : List Str} (F : SupFun2 P K x qual st f fd cc D)
    (h : ∀ (kV doc pm : Value) (an : Option Addr) (cdv ct : Value) (us : List Value), us.length = ps.length → bindArgs (PySem.W.ksFn x qual (defArgs st) (defBody st) (defScope st) .none kV doc pm an cdv ct cc) ⟨us, []⟩ = pure (ps.zip us)) : Binds K fd ps [] := by
  obtain ⟨oc, od, kV, doc, pm, an, cdv, ct, osl, rfl, _⟩ := F.ex
  exact .all (h kV doc pm an cdv ct)
theorem kbi_of {P : Program} {K : PySem.W.Frag} {x qual : Str} {st : Stmt} {f cc D : Addr} {fd : FuncData} {ps ks : List Str} {π : List Nat} (F : SupFun2 P K x qual st f fd cc D)
    (h : ∀ (kV doc pm : Value) (an : Option Addr) (cdv ct self : Value) (ws : List Value), ws.length = ks.length → bindArgs (PySem.W.ksFn x qual (defArgs st) (defBody st) (defScope st) .none kV doc pm an cdv ct cc) ⟨[self], ks.zip ws⟩ = pure (ps.zip (self :: perm π ws))) : KBi K fd ps ks π := by
  obtain ⟨oc, od, kV, doc, pm, an, cdv, ct, osl, rfl, _⟩ := F.ex
  exact fun s self ws _ hl => .of_eq (h kV doc pm an cdv ct self ws hl)
theorem sm_errK {x : Str} {ps fs ks : List Str} {π : List Nat} {j nk : Nat} {kws : List Keyword} {fk : Env → R (List T)} {p pos : Pos} (C : ErrKX X x ps fs ks π) (hr : Rm j X.A) (ha : SK X m W kws fk) (hk : 2 ≤ j := by decide) (hn : ks.length = nk := by rfl) (hg : Gl X x := by rfl)
    (hall : (backToKw pos (keywordEach kws X.env)).all (·.1.isSome) = true := by rfl) (hks : (backToKw pos (keywordEach kws X.env)).filterMap (·.1) = ks := by rfl) (hdb : (x == ("__debug__" : Str)) = false := by decide) (hpl : (backToKw pos (keywordEach kws X.env)).any (·.1.isNone) = false := by rfl) :
    SMk X m W (.Call (.Name x p) [] kws pos) (mkEK x fs nk π fk) := by
  obtain ⟨C, fI, fd, C, kb⟩ := C
  obtain ⟨ta, pa, r⟩ := ha
  refine ⟨_, pmk_errK C.ok C.run (hr.mono hk) kb hg C.nm pa hall hks hdb hpl, fun fm hm ρ σ τ F H Q g q => ?_⟩
  refine r fm hm ρ σ τ F H _ g ?_
  unfold mkEK at q
  cases e1 : fk ρ with
  | ex y ρ1 => rw [e1] at q; exact q
  | bad => rw [e1] at q; exact q
  | ok ts ρ1 =>
    rw [e1] at q
    intro vs F1 H1 hl g1
    have q : (match (match shs ts with
      | some ds => if ds.length = nk ∧ (perm π ds).length = fs.length then R.ok (⟨x, (fs.zip (perm π ds)).reverse⟩ : Exn) ρ1 else .bad
      | none => R.bad) with | .ok x ρ' => ∀ cls d F' H', Good (gX X) fm ρ' σ τ F' H' → RepX (gX X) F' x cls d → Q cls d H' | .ex x ρ' => PostX X fm W σ τ x ρ' | .bad => False) := q
    cases e2 : shs ts with
    | none => rw [e2] at q; exact q.elim
    | some ds =>
      rw [e2] at q
      dsimp only at q
      by_cases hn2 : ds.length = nk ∧ (perm π ds).length = fs.length
      · rw [if_pos hn2] at q
        have rs := pushAll_shs hl g1 e2
        have rp := perm_reps rs π
        refine ⟨by rw [rs.length, hn2.1, hn], rp.length.trans hn2.2, fun d hd => ?_⟩
        exact q _ _ _ _ ((pushAll_pop _ _ _ g1).grow (Grow.new (o := HO.xd (fs.zip (perm π vs)).reverse) g1.FH hd)) (repX_new C.nm rp hn2.2 g1.FH hd)
      · rw [if_neg hn2] at q; exact q.elim
end
end Pf

namespace Pf
open PySem PySem.Spec L2
open PyProof.Rows (envOfC)

/-! ### lambdas: the object -/
abbrev lamFn (qual : Str) (params : Arguments) (body : Expr) (scope : Scope) (cl : List (Str × Addr)) (dv pm cdv ct : Value) : FuncData :=
  { PySem.W.kla_fn "<lambda>" qual params body scope cl pm cdv ct with defaults := dv }
abbrev lamO (qual : Str) (params : Arguments) (body : Expr) (scope : Scope) (cl : List (Str × Addr)) (dv pm cdv ct : Value) : Obj :=
  { cls := .type "function", data := .func (lamFn qual params body scope cl dv pm cdv ct) }
/-- the code object cv for the place pos: found, or new and told in the table at P -/
inductive Made (h : Heap) (P : Addr) (ps : Array Value) (pos : Pos) (qual : Str) (cv : Value) (h' : Heap) : Prop
  | hit : codeAmong pos ps.toList = some cv → (∀ b o, h.get? b = some o → h'.get? b = some o) → h.objs.size ≤ h'.objs.size → Made h P ps pos qual cv h'
  | new (c' : Addr) : codeAmong pos ps.toList = none → cv = .ref c' → Heap.ExtBut P h h' → h.objs.size ≤ c' → c' < h'.objs.size → h'.CodeRec (.ref c') qual →
      h'.get? P = some { cls := .none, data := .fields (ps ++ #[rawInt pos.line, rawInt pos.col, .ref c']) } → Made h P ps pos qual cv h'
section
variable {h h1 h' : Heap} {P : Addr} {ps : Array Value} {pos : Pos} {qual : Str} {cv : Value}
theorem Made.ext (d : Made h P ps pos qual cv h') : Heap.ExtBut P h h' := by
  cases d with
  | hit _ k _ => exact fun b o _ e => k b o e
  | new _ _ _ x => exact x
theorem Made.from (d : Made h1 P ps pos qual cv h') (k : ∀ b o, h.get? b = some o → h1.get? b = some o) (z : h.objs.size ≤ h1.objs.size) : Made h P ps pos qual cv h' := by
  cases d with
  | hit a k1 z1 => exact .hit a (fun b o e => k1 b o (k b o e)) (Nat.le_trans z z1)
  | new c' a b x z1 z2 r t => exact .new c' a b (fun q o n e => x q o n (k q o e)) (Nat.le_trans z z1) z2 r t
end
section
variable {M : Model} {A : Around} {E : Value → Shared → Prop} {s : Shared} {qual : Str} {params : Arguments} {body : Expr} {scope : Scope} {env : PySem.Env} {c P : Addr} {ps : Array Value} {pos : Pos} {firstLine : Nat} {mg : Str → Option Value}
  {clos : List (Str × Addr)} {dv : Value}
theorem code_made {Q : Value → Shared → Prop} (hcode : env.code = .ref c) (C : PySem.W.CodeHd s.heap c P) (hP : s.heap.get? P = some { cls := .none, data := .fields ps }) (ht : TriplesOk ps.toList)
    (q : ∀ (cv : Value) (h' : Heap) (tk : Nat), Made s.heap P ps pos qual cv h' → Q cv { s with heap := h', toks := tk }) : wpAny M A (functionCode env pos firstLine "<lambda>" qual params scope (.expr body)) Q E s := by
  cases e : codeAmong pos ps.toList with
  | some cv => exact PySem.wpAny_functionCode_hit hcode (C.code hP ht) e (q cv s.heap s.toks (.hit e (fun _ _ z => z) (Nat.le_refl _)))
  | none => exact PySem.wpAny_functionCodeX hcode (C.code hP ht) (C.tab hP) e fun c' h' tk x1 x2 x3 _ x4 x5 _ => q _ h' tk (.new c' e rfl x1 x2 x3 x4 x5.2)
theorem lam_tail {Q : Value → Shared → Prop} (hcl : closureFor scope env = pure clos) (hge : env.globals = mainGlobals) (hg : s.heap.Ns mainGlobals mg) (hcode : env.code = .ref c) (C : PySem.W.CodeHd s.heap c P) (hP : s.heap.get? P = some { cls := .none, data := .fields ps }) (ht : TriplesOk ps.toList)
    (hgP : mainGlobals ≠ P) (hb : s.heap.BuiltinsAt mg P)
    (q : ∀ (cv ctv : Value) (h' : Heap) (tk : Nat), Made s.heap P ps pos qual cv h' → Q (.ref h'.objs.size) { s with heap := h'.push (lamO qual params body scope clos dv ((mg "__name__").getD .none) cv ctv), toks := tk }) :
    wpAny M A (PySem.makeTail "<lambda>" qual params (.expr body) scope env dv .none none pos firstLine) Q E s := by
  obtain ⟨bm, ob, b1, b2, _, b3, b4, b5, b6, b7⟩ := hb
  unfold PySem.makeTail
  rw [hcl, hge]
  refine wpAny_bind (wpAny_pure ?_)
  cases clos with
  | nil =>
    simp only [List.isEmpty_nil, if_true]
    refine wpAny_bind (wpAny_pure ?_)
    refine wpAny_bind (code_made (qual := qual) hcode C hP ht fun cv h' tk d => ?_)
    have ns := hg.extBut d.ext hgP
    refine wpAny_bind (wpAny_builtinsFor ns b1 b2 (d.ext _ _ b3 b4) b5 b6 b7 (wpAny_bind (wpAny_nsGet ns ?_)))
    exact wpAny_bind (wpAny_pure (wpAny_newObj_type (q cv .none h' tk d) (by size_fits)))
  | cons y ys =>
    simp only [List.isEmpty_cons, Bool.false_eq_true, if_false]
    refine wpAny_bind (wpAny_newTextTuple ?_)
    have up : ∀ (o : Obj) (b : Addr) (u : Obj), s.heap.get? b = some u → (s.heap.push o).get? b = some u := fun o b u e => Heap.get?_push_of_some _ e
    have big : ∀ o : Obj, s.heap.objs.size ≤ (s.heap.push o).objs.size := fun o => by rw [Heap.size_push]; omega
    refine wpAny_bind (code_made (qual := qual) hcode (C.keeps (up _)) (up _ _ _ hP) ht fun cv h' tk d => ?_)
    have ns := (hg.push _).extBut d.ext hgP
    refine wpAny_bind (wpAny_builtinsFor ns b1 b2 (d.ext _ _ b3 (up _ _ _ b4)) b5 b6 b7 (wpAny_bind (wpAny_nsGet ns ?_)))
    exact wpAny_bind (wpAny_pure (wpAny_newObj_type (q cv _ h' tk (d.from (up _) (big _))) (by size_fits)))
/-- the defaults of a lambda: none, or one written int -/
inductive LamDf (params : Arguments) (env : PySem.Env) : Option Int → Prop
  | no : defaultsOf params env = ([], []) → params.kwonlyargs = [] → LamDf params env none
  | one {i : Int} {k : Nat} {p : Pos} : defaultsOf params env = ([eval (.Constant (.int i) k p) env], []) → params.kwonlyargs = [] → LamDf params env (some i)
/-- what stands for the defaults -/
def DfV (h : Heap) : Option Int → Value → Prop
  | none, dv => dv = .none
  | some i, dv => ∃ T tk, dv = .ref T ∧ h.get? T = some { cls := .type "tuple", data := .seq #[Value.int i tk] }
theorem lam_eval {Q : Value → Shared → Prop} {df : Option Int} (hd : LamDf params env df)
    (q : ∀ (dv : Value) (h1 : Heap) (tk : Nat), (∀ b o, s.heap.get? b = some o → h1.get? b = some o) → s.heap.objs.size ≤ h1.objs.size → DfV h1 df dv → (∀ T, dv = .ref T → s.heap.objs.size ≤ T) → wpAny M A (PySem.makeTail "<lambda>" (env.qual ++ "<lambda>") params (.expr body) scope env dv .none none pos pos.line) Q E { s with heap := h1, toks := tk }) :
    wpAny M A (eval (.Lambda params body scope pos) env) Q E s := by
  rw [arm_eval_Lambda]
  cases hd with
  | no h hk =>
    rw [h]
    show wpAny M A (do let dv ← evalAll []; let kdv ← holding dv (evalAllOpt []); makeFunction "<lambda>" (env.qual ++ "<lambda>") params (.expr body) scope env dv kdv [] pos pos.line) Q E s
    refine wpAny_bind (wpAny_pure (wpAny_bind (wpAny_holding (wpAny_pure ?_))))
    rw [PySem.makeFunction_eq]
    simp only [List.zip_nil_right, List.filterMap_nil, List.isEmpty_nil, if_true, pure_bind]
    exact q .none s.heap s.toks (fun _ _ e => e) (Nat.le_refl _) rfl (fun _ z => nomatch z)
  | one h hk =>
    rename_i i k p
    rw [h]
    show wpAny M A (do let dv ← (do let v ← eval (.Constant (.int i) k p) env; return v :: (← holding [v] (evalAll []))); let kdv ← holding dv (evalAllOpt []); makeFunction "<lambda>" (env.qual ++ "<lambda>") params (.expr body) scope env dv kdv [] pos pos.line) Q E s
    refine wpAny_bind (wpAny_bind (wpAny_Constant_int ?_))
    refine wpAny_bind (wpAny_holding (wpAny_pure (wpAny_pure ?_)))
    refine wpAny_bind (wpAny_holding (wpAny_pure ?_))
    rw [PySem.makeFunction_eq]
    simp only [List.zip_nil_right, List.filterMap_nil, List.isEmpty_nil, List.isEmpty_cons, Bool.false_eq_true, if_false, if_true, pure_bind]
    refine wpAny_bind (wpAny_newTextTuple ?_)
    exact q _ _ _ (fun b o e => Heap.get?_push_of_some _ e) (by show s.heap.objs.size ≤ (s.heap.push _).objs.size; rw [Heap.size_push]; omega) ⟨_, _, rfl, Heap.get?_push_size _ rfl⟩ (fun T z => by cases z; exact Nat.le_refl _)
end
end Pf

namespace Pf
open PySem PySem.Spec L2
open PyProof.Rows (envOfC)

theorem DfV.mono {h h' : Heap} {df : Option Int} {dv : Value} (d : DfV h df dv) (k : ∀ T o, dv = .ref T → h.get? T = some o → h'.get? T = some o) : DfV h' df dv := by
  cases df with
  | none => exact d
  | some i =>
    obtain ⟨T, tk, e, ho⟩ := d
    exact ⟨T, tk, e, k _ _ e ho⟩
/-- the lambda's qualified name in the context X -/
abbrev lamQ (X : Cx) : Str := X.env.qual ++ "<lambda>"
section
variable {X : Cx} {pins : List (Addr × Obj)} {σ : L2.St} {H : Hp} {s : Shared}
theorem lam_new {T : List (Addr × Str)} {c P : Addr} {params : Arguments} {body : Expr} {scope : Scope} {pos : Pos} {df : Option Int} {E Q : Value → Shared → Prop} (I : Inv X pins σ H s) (TB : LamX.TabB X.base X.mg c P) (hcode : X.env.code = .ref c)
    (hm : (P, lamQ X) ∈ T) (hu : ∀ p ∈ T, p.1 = P → p.2 = lamQ X) (hT : LamX.Tabs T H) (hdf : LamDf params X.env df) (hfree : ∀ y ∈ scope.names, y.2 = .free → ∃ c, X.env.cells.lookup y.1 = some c)
    (k : ∀ (f c' : Addr) (dv pm ctv : Value) (H1 : Hp) (s' : Shared), Inv X pins σ H1 s' → (∀ b o, b ≠ P → H b = some o → H1 b = some o) → LamX.Tabs T H1 →
      s'.heap.get? f = some (lamO (lamQ X) params body scope (cloFrom X.env.cells scope.names []) dv pm (.ref c') ctv) → H1 f = none → f ∉ frs X.stack → DfV s'.heap df dv → (∀ D, dv = .ref D → H1 D = none ∧ D ∉ frs X.stack) → H1 c' = some (LamX.CodeO c' (lamQ X)) → Q (.ref f) s') :
    wpAny (model X.prog X.w) X.A (eval (.Lambda params body scope pos) X.env) Q E s := by
  obtain ⟨ps, hP, tri, told⟩ := hT _ hm
  have new : ∀ a : Addr, s.heap.objs.size ≤ a → H a = none ∧ a ∉ frs X.stack := fun a ha => ⟨I.hok.fresh ha, fun z => by
    rcases List.mem_cons.mp (I.stkSub _ z) with z1 | z1
    · have := I.lt
      rw [← z1] at this
      exact Nat.lt_irrefl _ (Nat.lt_of_lt_of_le this ha)
    · exact I.nofs ha z1⟩
  refine lam_eval hdf fun dv h1 tk k1 z1 d1 d2 => ?_
  have J : Inv X pins σ H { s with heap := h1, toks := tk } := I.kept k1
  have P1 : h1.get? P = some { cls := .none, data := .fields ps } := J.hok P _ hP
  have lp : P < s.heap.objs.size := Heap.lt_size (I.hok P _ hP : s.heap.get? P = some _)
  refine lam_tail (mg := X.mg) (closure_ok hfree) J.ok.glob (J.mod.glob.keeps J.bk) hcode (TB.code.keeps J.bk) P1 tri TB.gP (TB.bm.keeps J.bk) fun cv ctv h' tk' d => ?_
  cases d with
  | hit a k2 z2 =>
    obtain ⟨c', rfl, hc'⟩ := told pos cv a
    have up : ∀ b o, h1.get? b = some o → (h'.push (lamO (lamQ X) params body scope (cloFrom X.env.cells scope.names []) dv ((X.mg "__name__").getD .none) (.ref c') ctv)).get? b = some o := fun b o e => Heap.get?_push_of_some _ (k2 b o e)
    obtain ⟨n1, n2⟩ := new h'.objs.size (Nat.le_trans z1 z2)
    exact k h'.objs.size c' dv _ ctv H _ (J.kept up) (fun _ _ _ e => e) hT (Heap.get?_push_size _ rfl) n1 n2 (d1.mono fun D o _ e => up D o e) (fun D e => new D (d2 D e)) hc'
  | new c' a e x z2 z3 r t =>
    subst e
    have z2 : h1.objs.size ≤ c' := z2
    have z1 : s.heap.objs.size ≤ h1.objs.size := z1
    have z12 : s.heap.objs.size ≤ c' := Nat.le_trans z1 z2
    have z4 : s.heap.objs.size ≤ h'.objs.size := Nat.le_trans z12 (Nat.le_of_lt z3)
    obtain ⟨c2, oc, vs, tt, q1, q2, q3, q4⟩ := r
    cases q1
    have nc : H c' = none := (new c' (Nat.le_trans z1 z2)).1
    have neP : c' ≠ P := fun z => by rw [z] at z2; exact absurd (Nat.lt_of_lt_of_le lp (Nat.le_trans z1 z2)) (Nat.lt_irrefl _)
    have J2 := LamX.inv_table (t' := tk') (q := lamQ X) (more := #[rawInt pos.line, rawInt pos.col, .ref c']) (h' := h'.push (lamO (lamQ X) params body scope (cloFrom X.env.cells scope.names []) dv ((X.mg "__name__").getD .none) (.ref c') ctv)) J hP
      (fun b o n e => Heap.get?_push_of_some _ (x b o n e)) (Heap.get?_push_of_some _ t) z2 ⟨oc, vs, tt, Heap.get?_push_of_some _ q2, q3, q4⟩
    have only : ∀ b, b ≠ P → b ≠ c' → upd (upd H P (.tbl (ps ++ #[rawInt pos.line, rawInt pos.col, .ref c']))) c' (LamX.CodeO c' (lamQ X)) b = H b := fun b u1 u2 => by rw [upd_ne u2, upd_ne u1]
    have stay : ∀ b o, b ≠ P → H b = some o → upd (upd H P (.tbl (ps ++ #[rawInt pos.line, rawInt pos.col, .ref c']))) c' (LamX.CodeO c' (lamQ X)) b = some o := fun b o u1 e => by
      rw [only b u1 (fun z => by rw [z, nc] at e; cases e)]
      exact e
    obtain ⟨n1, n2⟩ := new h'.objs.size z4
    have lst : (ps ++ #[rawInt pos.line, rawInt pos.col, .ref c']).toList = ps.toList ++ [rawInt pos.line, rawInt pos.col, .ref c'] := by simp
    refine k h'.objs.size c' dv _ ctv _ _ J2 stay (fun p hp => ?_) (Heap.get?_push_size _ rfl) ?_ n2 (d1.mono fun D o eD e => ?_) (fun D eD => ?_) upd_same
    · by_cases eP : p.1 = P
      · rw [hu p hp eP, eP]
        refine ⟨_, by rw [upd_ne neP.symm, upd_same], by rw [lst]; exact PySem.TriplesOk_snoc _ _ _ _ tri, fun pos' cv' hc => ?_⟩
        rw [lst] at hc
        rcases LamX.among_app _ tri hc with z | z
        · obtain ⟨c0, w1, w2⟩ := told pos' cv' z
          exact ⟨c0, w1, stay _ _ (fun z => by rw [z, hP] at w2; unfold LamX.CodeO at w2; cases w2) w2⟩
        · exact ⟨c', z, upd_same⟩
      · obtain ⟨ps', w1, w2, w3⟩ := hT p hp
        refine ⟨ps', stay _ _ eP w1, w2, fun pos' cv' hc => ?_⟩
        obtain ⟨c0, v1, v2⟩ := w3 pos' cv' hc
        exact ⟨c0, v1, stay _ _ (fun z => by rw [z, hP] at v2; unfold LamX.CodeO at v2; cases v2) v2⟩
    · rw [only _ (fun z => by rw [← z] at lp; exact Nat.lt_irrefl _ (Nat.lt_of_lt_of_le lp z4)) (Nat.ne_of_gt z3)]
      exact n1
    · exact Heap.get?_push_of_some _ (x _ _ (fun z => by rw [z] at eD; exact Nat.lt_irrefl _ (Nat.lt_of_lt_of_le lp (d2 P eD))) e)
    · obtain ⟨u1, u2⟩ := new D (d2 D eD)
      refine ⟨?_, u2⟩
      have lD : D < h1.objs.size := by
        cases df with
        | none => rw [show dv = Value.none from d1] at eD; cases eD
        | some i =>
          obtain ⟨D', tk2, e1, e2⟩ := d1
          rw [eD] at e1
          cases e1
          exact Heap.lt_size e2
      rw [only D (fun z => by have := d2 D eD; rw [z] at this; exact Nat.lt_irrefl _ (Nat.lt_of_lt_of_le lp this)) (Nat.ne_of_lt (Nat.lt_of_lt_of_le lD z2))]
      exact u1
end
/-! ### the lambda's names -/
/-- captured names, globals, and its own parameters, which the maker does not know -/
structure LamN (sc scope : Scope) (N ps : List Str) : Prop where
  kind : scope.kind = .function
  co : scope.isCoroutine = false
  gen : scope.isGenerator = false
  nocell : ∀ y ∈ scope.names, y.2 ≠ .cell
  loc : ∀ y ∈ scope.names, y.2 = .local → y.1 ∉ N
  free : ∀ y ∈ scope.names, y.2 = .free → sc.names.lookup y.1 = some .cell ∨ sc.names.lookup y.1 = some .free
  par : ∀ p ∈ ps, scope.names.lookup p = some .local
def lamNB (sc scope : Scope) (N ps : List Str) : Bool :=
  (scope.kind == .function) && !scope.isCoroutine && !scope.isGenerator && scope.names.all (fun y => !decide (y.2 = .cell) && (!decide (y.2 = .local) || !decide (y.1 ∈ N)) && (!decide (y.2 = .free) || (decide (sc.names.lookup y.1 = some .cell) || decide (sc.names.lookup y.1 = some .free)))) && ps.all fun p => decide (scope.names.lookup p = some .local)
theorem lamN_of {sc scope : Scope} {N ps : List Str} (h : lamNB sc scope N ps = true) (hk : scope.kind = .function := by rfl) : LamN sc scope N ps := by
  unfold lamNB at h
  simp only [Bool.and_eq_true, Bool.or_eq_true, Bool.not_eq_true', decide_eq_true_eq, decide_eq_false_iff_not, List.all_eq_true] at h
  obtain ⟨⟨⟨⟨_, h2⟩, h3⟩, h4⟩, h5⟩ := h
  exact ⟨hk, h2, h3, fun y hy => (h4 y hy).1.1, fun y hy e => (h4 y hy).1.2.elim (fun z => absurd e z) id, fun y hy e => (h4 y hy).2.elim (fun z => absurd e z) id, h5⟩
theorem LamN.has {X : Cx} {scope : Scope} {N ps : List Str} (L : LamN X.env.scope scope N ps) (ok : X.Ok) : ∀ y ∈ scope.names, y.2 = .free → ∃ c, X.env.cells.lookup y.1 = some c := fun y hy e =>
  (L.free y hy e).elim (fun z => ok.has _ (.inl z)) fun z => ok.has _ (.inr z)
section
variable {X : Cx} {pins : List (Addr × Obj)} {σ : L2.St} {H HZ : Hp} {s s1 : Shared}
theorem lam_start {A : Around} {outer : List PySem.Env} {E : XK} {scope : Scope} {ps : List Str} {f c' : Addr} {h1 : Heap} {tk : Nat} {m1 : Str → Option Value} (I : Inv X pins σ H s) (L : LamN X.env.scope scope X.N ps) (e0 : Env0 X.prog X.w X.K X.mg X.base A outer s1 HZ) (hd : A.handled = none)
    (un : Un (frs X.stack) [] H HZ s.heap s1.heap) (hns : h1.Ns s1.heap.objs.size m1) (kp : ∀ b o, s1.heap.get? b = some o → h1.get? b = some o) :
    Inv (LamX.lamCx X A outer s1 HZ E scope f c') [] σ HZ { s1 with heap := h1, toks := tk } := by
  have own := L.has I.ok
  have back : ∀ {y : Str} {a : Addr}, (cloFrom X.env.cells scope.names []).lookup y = some a → X.env.cells.lookup y = some a := fun {y a} e => by
    rcases cloFrom_mem (PySem.mem_of_lookup e) with z | ⟨z1, z2⟩
    · cases z
    · obtain ⟨b, hb⟩ := own _ z1 rfl
      have hb : X.env.cells.lookup y = some b := hb
      have : a = b := by
        rw [z2, hb] <;> rfl
      rw [this]; exact hb
  have front : ∀ {y : Str}, scope.names.lookup y = some .free → ∃ a, (cloFrom X.env.cells scope.names []).lookup y = some a := fun {y} z => by
    have z : (y, NameKind.free) ∈ scope.names := PySem.mem_of_lookup z
    exact mem_lookup (cloFrom_has (cells := X.env.cells) (acc := []) z)
  have isC : ∀ {a : Addr} {u : Option Value}, H a = none → s.heap.IsCell a u → h1.IsCell a u := fun {a u} n z => by
    obtain ⟨o, ho, hd⟩ := z
    obtain ⟨sl, e⟩ := un.any ho n (by simp)
    exact ⟨_, kp _ _ e, hd⟩
  have noX : ∀ b : Addr, b ∉ (LamX.lamCx X A outer s1 HZ E scope f c').ex := fun b z => (nomatch (show b ∈ ([] : List Addr) from z))
  have okc : (LamX.lamCx X A outer s1 HZ E scope f c').Ok := by
    constructor
    case mod => exact e0.mod
    case kind => exact L.kind
    case glob => rfl
    case blt => rfl
    case above => exact Nat.le_refl _
    case inj => exact fun y z a e1 e2 => I.ok.inj y z a (back e1) (back e2)
    case has =>
      intro y hy
      rcases (show scope.names.lookup y = some .cell ∨ scope.names.lookup y = some .free from hy) with z | z
      · exact absurd rfl (L.nocell _ (PySem.mem_of_lookup z))
      · exact front z
    case cab => exact fun y a z _ => absurd (show false = true from z) Bool.false_ne_true
    case hd => exact fun _ => hd
    case frames => exact Around.frames_deeper e0.frames
    case stk => exact .inr ⟨rfl, rfl⟩
    case exf => exact fun b z => absurd z (noX b)
    case bs => exact e0.bs
    case bsz => exact e0.bsz
    case noex => exact fun b _ _ => noX b
    case exfs => exact fun b z => absurd z (noX b)
    case funs => exact e0.funs
    case frf => exact e0.frf
  refine ⟨okc, rfl, e0.bare, Un.kept kp, ⟨_, hns, fun i y v e1 e2 e3 => ?_⟩, fun y a e => ?_, e0.hok.fresh (Nat.le_refl _), fun y a e => ?_, fun p hp => (nomatch (show p ∈ ([] : List (Addr × Obj)) from hp)), e0.hok.kept kp, I.len⟩
  · rcases (show Vis scope y from e3) with z | z | z
    · exact absurd (List.mem_of_getElem? e1) (L.loc _ (PySem.mem_of_lookup z) rfl)
    · exact absurd rfl (L.nocell _ (PySem.mem_of_lookup z))
    · have fr := L.free _ (PySem.mem_of_lookup z) rfl
      obtain ⟨m, _, hl⟩ := I.loc
      obtain ⟨u, r, look⟩ := hl i y v e1 e2 (.inr fr)
      obtain ⟨a, ha⟩ := front z
      refine ⟨u, r, .inr ⟨.inr z, a, ha, ?_⟩⟩
      rcases look with ⟨q, _⟩ | ⟨_, b, e', w⟩
      · have q : X.env.scope.names.lookup y = some .local := q
        rcases fr with k | k <;> (rw [show X.env.scope.names.lookup y = _ from k] at q; cases q)
      · rw [back ha] at e'
        cases e'
        exact isC (I.freeC y _ (back ha)) w
  · obtain ⟨u, z⟩ := I.cell y a (back e)
    exact ⟨u, isC (I.freeC y a (back e)) z⟩
  · obtain ⟨u, o, ho, hd⟩ := I.cell y a (back e)
    exact un.free a o ho (I.freeC y a (back e)) (by simp)
end
end Pf

namespace Pf
open PySem PySem.Spec L2
open PyProof.Rows (envOfC)

/-! ### a lambda called, in the def that got it -/
/-- how the lambda's parameters bind -/
def LamBd (params : Arguments) (body : Expr) (scope : Scope) (ps : List Str) (df : Option Int) : Prop :=
  ∀ (M : Model) (A : Around) (E : Value → Shared → Prop) (Q : List (Str × Value) → Shared → Prop) (s : Shared) (q : Str) (cl : List (Str × Addr)) (dv pm cv ctv : Value), DfV s.heap df dv → (∀ bs : List (Str × Value), (∀ y ∈ bs, y.1 ∈ ps) → Q bs s) → wpAny M A (bindArgs (lamFn q params body scope cl dv pm cv ctv) ⟨[], []⟩) Q E s
theorem lamBd0 {params : Arguments} {body : Expr} {scope : Scope} (h : ∀ (q : Str) (cl : List (Str × Addr)) (pm cv ctv : Value), bindArgs (lamFn q params body scope cl .none pm cv ctv) ⟨[], []⟩ = pure []) : LamBd params body scope [] none := fun M A E Q s q cl dv pm cv ctv d k => by
  cases (show dv = Value.none from d)
  rw [h]
  exact wpAny_pure (k [] fun y hy => nomatch hy)
theorem lamBd1 {params : Arguments} {body : Expr} {scope : Scope} {p : Str} {i : Int} (h : ∀ (q : Str) (cl : List (Str × Addr)) (D : Addr) (pm cv ctv v : Value), ∃ k : Option (Array Value) → Sem (List (Str × Value)), bindArgs (lamFn q params body scope cl (.ref D) pm cv ctv) ⟨[], []⟩ = seqItems? (.ref D) >>= k ∧ k (some #[v]) = pure [(p, v)]) : LamBd params body scope [p] (some i) := fun M A E Q s q cl dv pm cv ctv d k => by
  obtain ⟨D, tk, rfl, ho⟩ := d
  obtain ⟨k', e1, e2⟩ := h q cl D pm cv ctv (.int i tk)
  rw [e1]
  refine wpAny_bind (wpAny_seqItems ho rfl ?_)
  rw [e2]
  exact wpAny_pure (k _ fun y hy => by rw [List.mem_singleton.mp hy]; exact List.mem_singleton.mpr rfl)
section
variable {P : Program} {w : World} {K : PySem.W.Frag} {mg : Str → Option Value} {base : Heap}
variable {X : Cx} {pins : List (Addr × Obj)} {σ : L2.St} {H : Hp} {s : Shared}
/-- the context of the def that got the lambda -/
abbrev zX (X : Cx) (N : List Str) (qg : Str) (st : Stmt) (g : Addr) (cdg : Value) (s : Shared) (H : Hp) (E : XK) : Cx := bX X.prog X.w X.K X.mg X.base N qg st g cdg X.A X.stack s H E
theorem pe_act {N : List Str} {qg : Str} {st : Stmt} {g f c' : Addr} {cdg dv pm ctv : Value} {params : Arguments} {body : Expr} {scope : Scope} {ps : List Str} {df : Option Int} {k : Nat} {a : Str} {pn : List (Addr × Obj)} {xe : Value → Shared → Prop} {W : WX} {Eg : XK} {tb : XK → TE} {p1 p2 : Pos}
    (I : Inv X pins σ H s) (L : LamN X.env.scope scope X.N ps) (hf : s.heap.get? f = some (lamO (lamQ X) params body scope (cloFrom X.env.cells scope.names []) dv pm (.ref c') ctv)) (hfn : H f = none) (hfr : f ∉ frs X.stack) (hd1 : DfV s.heap df dv) (hd2 : ∀ D, dv = .ref D → H D = none ∧ D ∉ frs X.stack)
    (hbind : LamBd params body scope ps df) (tk : Takes ((zX X N qg st g cdg s H Eg).tr pn xe) W) (hr : Rm (k + 1) (X.A.deeper (envOfC qg (defScope st) s.heap.objs.size g cdg)))
    (hbody : ∀ (A : Around) (outer : List PySem.Env) (s : Shared) (H : Hp) (E : XK), Rm k (A.deeper (LamX.lamEnv X scope s.heap.objs.size f c')) → PE (LamX.lamCx X A outer s H E scope f c') body (tb E))
    (hN : N[0]? = some a) (hv : Vis (defScope st) a) (hd : (a == ("__debug__" : Str)) = false := by decide) (hcd : (a == ("__classdict__" : Str)) = false := by decide) :
    PE ((zX X N qg st g cdg s H Eg).tr pn xe) (.Call (.Name a p1) [] [] p2) (fun σZ HZ Q => σZ[0]? = some (some (.ref f)) ∧ HZ c' = some (LamX.CodeO c' (lamQ X)) ∧ tb (WE W σZ) σ HZ Q) := by
  refine ⟨fun pinsZ sZ σZ HZ Q IZ h => ?_⟩
  obtain ⟨h1, h2, h3⟩ := h
  refine wpAny_Call_Name_kw (thn ((pe_var (pos := p1) (i := 0) hN hv hd hcd).run pinsZ sZ σZ HZ (fun v H1 => v = .ref f ∧ H1 = HZ) IZ ⟨.ref f, h1, rfl, rfl⟩) fun u s1 ⟨v, H1, J, r, q⟩ => ?_)
  obtain ⟨rfl, rfl⟩ := q
  cases (show u = Value.ref f from r)
  have stays : ∀ b o, s.heap.get? b = some o → H b = none → b ∉ frs X.stack → s1.heap.get? b = some o := fun b o e n n2 => J.base.keep b o e n n2 (fun z => nomatch (show b ∈ ([] : List Addr) from z))
  have of1 := stays f _ hf hfn hfr
  have df1 : DfV s1.heap df dv := hd1.mono fun D o e ho => stays D o ho (hd2 D e).1 (hd2 D e).2
  refine PySem.W.callWith_F0 ⟨_, _, _, _, of1⟩ ?_
  have un : Un (frs X.stack) [] H H1 s.heap s1.heap := J.base
  obtain ⟨⟨oc, vs, t, c1, c2, c3⟩, _, _⟩ := J.hok c' _ h2
  have go : codeAny (model X.prog X.w) (X.A.deeper (envOfC qg (defScope st) s.heap.objs.size g cdg)) (.call (.ref f) ⟨[], []⟩) (CR (L2.CX X.prog X.w) (envOfC qg (defScope st) s.heap.objs.size g cdg :: X.stack) X.prog X.w H1 s1 Q (WE W σZ)) s1 := by
    refine PySem.W.kla_callFunE hr.r.depth of1 rfl L.co L.gen rfl ⟨c', oc, vs, t, rfl, c1, c2, c3⟩ ?_
    refine hbind _ _ _ _ _ _ _ _ _ _ _ df1 fun bs hbs => ?_
    refine wpAny_newFunctionEnv L.nocell (fun y hy => L.par _ (hbs y hy)) (fun h' hns sb => ⟨J.nolimit.fresh _ sb, ?_⟩) L.kind
    show codeAny _ _ (.expr body (LamX.lamEnv X scope s1.heap.objs.size f c')) _ _
    have kp : ∀ b o, s1.heap.get? b = some o → h'.get? b = some o := fun b o e => sb.extBut b o (Nat.ne_of_lt (Heap.lt_size e)) (Heap.get?_push_of_some _ e)
    have J2 := lam_start (A := X.A.deeper (envOfC qg (defScope st) s.heap.objs.size g cdg)) (outer := envOfC qg (defScope st) s.heap.objs.size g cdg :: X.stack) (E := WE W σZ) (f := f) (c' := c') (tk := s1.toks + bs.length) I L J.env0 hr.r.hd un hns kp
    refine PySem.W.kla_codeExpr (wpAny_mono ((hbody _ _ s1 H1 (WE W σZ) (hr.deeper _)).run [] _ _ H1 Q J2 h3) (fun v s' z => ?_) fun e s' z => z)
    obtain ⟨v', H', J', rv, q⟩ := z
    exact ⟨v', H', J'.os, J'.bare, J'.base, J'.hok, rv, q⟩
  refine wpAny_call (codeAny_mono go fun res s' hq => ?_)
  match res, hq with
  | .error e, hq => exact passAt tk σZ pinsZ H1 s1 e s' J hq
  | .ok (.ret u), hq => exact J.after hq
  | .ok .next, hq => exact hq.elim
  | .ok .brk, hq => exact hq.elim
  | .ok .cont, hq => exact hq.elim
end
/-- a def run at one state -/
theorem run_at {P : Program} {w : World} {K : PySem.W.Frag} {mg : Str → Option Value} {base : Heap} {x qual : Str} {st : Stmt} {f : Addr} {fd : FuncData} {N ps : List Str} {k : Nat} (Fn : L2.Fun K x qual st f fd) (S : FnScope N ps (defScope st)) {A : Around} {outer : List PySem.Env} {s : Shared} {H : Hp} {args : Args} {us : List Value} {vs : List V} {Q : VK} {E : XK}
    (hr : Rm (k + 1) A) (e0 : Env0 P w K mg base A outer s H) (hb : BindsTo s fd args (ps.zip us)) (r : Vals vs us) (hl : vs.length = ps.length)
    (hbody : ∀ cdv : Value, fd.code = cdv → Rm k (A.deeper (envOfC qual (defScope st) s.heap.objs.size f cdv)) → tSs (bX P w K mg base N qual st f cdv A outer s H E) (defBody st) { nx := fun _ H' => Q .non H', rt := Q } (L2.start N vs) H) :
    codeAny (model P w) A (.call (.ref f) args) (CR (L2.CX P w) outer P w H s Q E) s := by
  obtain ⟨oc, od, kV, doc, pm, an, cdv, ct, osl, rfl, lk, hcd⟩ := Fn.ex
  have stay : ∀ b o, base.get? b = some o → s.heap.get? b = some o := fun b o e => (e0.bs b o e).1
  have KX : K.In s.heap := e0.mod.kin.keeps stay
  have kinds : ∀ y ∈ ps.zip us, (defScope st).names.lookup y.1 = some .local ∨ ((defScope st).names.lookup y.1 = some .cell ∧ ((cellsFrom (s.heap.objs.size + 1) (defScope st).names []).lookup y.1).isSome = true) := by
    intro y hy
    rcases S.par y.1 (List.of_mem_zip (a := y.1) (b := y.2) hy).1 with q | q
    · exact Or.inl q
    · exact Or.inr ⟨q, PySem.W.cellsFrom_some _ _ _ (Or.inl q)⟩
  refine codeAny_call_function hr.r.depth (KX _ _ lk) rfl S.co S.gen rfl (PySem.W.codeRec_of KX hcd) (hb _ _ _ _ ?_)
  refine wpAny_newFunctionEnv_cells S.kind kinds ?_
  intro env he s1 x
  subst he
  refine ⟨(e0.mod.nolimit.keeps stay).keeps x.toInCall.keep, codeAny_func ?_⟩
  have I := inv_start (CX := L2.CX P w) (cd := cdv) (qual := qual) (f := f) (A := A) (outer := outer) (E := E) S hr.r.hd e0 hl r x
  refine wpAny_mono (hbody cdv rfl (hr.deeper _) [] s1 I) ?_ (fun e s' hs => hs)
  intro fl s' hs
  match fl, hs with
  | .ret u, ⟨v, σ', H', J, rv, q⟩ => exact ⟨v, H', J.os, J.bare, J.base, J.hok, rv, q⟩
  | .next, ⟨σ', H', J, q⟩ => exact ⟨V.non, H', J.os, J.bare, J.base, J.hok, rfl, q⟩
  | .brk, ⟨_, _, _, q⟩ => exact q.elim
  | .cont, ⟨_, _, _, q⟩ => exact q.elim
end Pf

namespace Pf
open PySem PySem.Spec L2
open PyProof.Rows (envOfC)

/-! ### the def that calls what it got -/
def sTryR (c : Str → Option Bool) (i j : Nat) : RS → RS
  | .ex x ρ1 => (match c x.cls with
    | some true => if i < ρ1.length then .nx ((ρ1.set i none).set j (some (.sh (.exn x.cls x.fs)))) else .bad
    | some false => .ex x ρ1
    | none => .bad)
  | r => r
/-- try at one state -/
theorem try_at {X : Cx} {fm : Fm} {m : List Nat} {W : WX} {σ : L2.St} {τ : List (V × T)} {H : Hp} {D : Ends} (cx : Cok X) (tk : Takes X W) (i j : Nat) {x n y : Str} {c : Str → Option Bool} {body : List Stmt} {r : RS} {p1 p2 p3 py pn2 ps : Pos} (hx : Exm X x c) (hm : Pins fm m) (na : NoAls τ)
    (hb : ∀ (W' : WX) (pn : List (Addr × Obj)) (xe : Value → Shared → Prop), Takes (X.tr pn xe) W' → Cok (X.tr pn xe) → ∀ D', PostS (X.tr pn xe) fm W' τ r D' → tSs (X.tr pn xe) body D' σ H)
    (q : PostS X fm W τ (sTryR c i j r) D) (hij : i ≠ j) (hi : i ∉ m) (hj : j ∉ m) (hNi : X.N[i]? = some n) (hNj : X.N[j]? = some y) (hg : Gl X x) (hd : (x == ("__debug__" : Str)) = false) (hl : X.env.kindOf n = some .local)
    (stk : X.stack = X.env :: X.outer) (frm : X.env.frame = some X.env.locals) (hex : X.ex = []) (hy : Loc X.env.scope y) (hd2 : (n == ("__debug__" : Str)) = false) (hcd : (n == ("__classdict__" : Str)) = false)
    (hs : swapsWith (.Name n pn2) (some (.Name y py)) ps.line X.env = pure false) (hf : X.fn y = true ∨ X.env.scope.names.lookup y = some .local) :
    tS X (.Try body [.ExceptHandler (some (.Name x p1)) (some n) [.Assign [.Name y py] (.Name n pn2) ps] p2] [] [] p3) D σ H := by
  obtain ⟨CF, mF, hx⟩ := hx
  refine tS_of (ps_keep (c := .ref CF) (Wout := W) (ts := fun a cls d => tAsg (tVar i) (gName j)) (tb := fun W' D σ H => ∀ pn xe, Takes (X.tr pn xe) W' → PassesOwn (model X.prog X.w) X.A X.env xe → tSs (X.tr pn xe) body D σ H) stk frm cx.nd hNi hl ⟨hg, hd, .inl mF⟩ tk hex
    (fun W' pn xe t p => ⟨fun pins s σ' H' D' I h => h pn xe t p pins s I⟩) (fun a o cls d pn hz hfl => pss_one (ps_set (X := X.suite a ((a, o) :: pn)) cx.nd hNj hy (pe_var hNi (.inl hl) hd2 hcd) hs hf))) ?_
  intro pn xe tk' pass
  refine hb _ pn xe tk' ⟨cx.calm, pass, cx.nd⟩ _ ?_
  cases r with
  | nx ρ1 => exact q
  | rt t ρ1 => exact q
  | bk ρ1 => exact q
  | ct ρ1 => exact q
  | bad => exact q
  | ex z ρ1 =>
    dsimp only [sTryR] at q
    intro σ1 cls d F1 H1 g1 rx
    have rx' := rx
    obtain ⟨C, dd, L, rfl, hmC, rfl, e2, e3, e4⟩ := rx'
    cases e5 : c z.cls with
    | none => rw [e5] at q; exact q.elim
    | some b =>
      rw [e5] at q
      refine ⟨b, hx _ _ e5 C hmC, fun hb0 => ?_, fun hb1 a ha => ?_⟩
      · subst hb0
        exact q σ1 (.ref C) (some dd) F1 H1 g1 rx
      · subst hb1
        dsimp only at q
        have hlen : σ1.length = ρ1.length := by obtain ⟨A1, A2, s, l, _, _⟩ := g1.own; exact s.len
        by_cases hil : i < ρ1.length
        · rw [if_pos hil] at q
          refine ⟨.ref a, List.getElem?_set_self (by omega), fun ha2 => ?_⟩
          have g2 := g1.drop hm hi (σ := σ1) none na
          have gr := Grow.new (o := exV a (.ref C) (some dd)) g1.FH ha
          have g3 := ((g2.grow gr).pushSh (repX_exn g1.FH ha rx)).putSh hm hj na
          have es : ((σ1.set i (some (V.ref a))).set j (some (V.ref a))).set i none = (σ1.set i none).set j (some (V.ref a)) := by
            rw [List.set_comm _ _ (Ne.symm hij)]
            rw [List.set_set]
          show D.nx (((σ1.set i (some (V.ref a))).set j (some (V.ref a))).set i none) _
          rw [es]
          exact q _ _ _ g3
        · rw [if_neg hil] at q; exact q.elim
/-- what a thunk, called, tells: o -/
def TlOk (G : Cfg) (F H : Hp) (o : RP) (tl : XK → Hp → VK → Prop) : Prop := ∀ (FZ HZ : Hp) (E : XK) (Q : VK), Grow F H FZ HZ → (match o with
  | .ok t => ∀ v F' H', Grow FZ HZ F' H' → ResT G HZ F' H' v t → Q v H'
  | .ex x => ∀ cls d F' H', Grow FZ HZ F' H' → RepX G F' x cls d → E cls d H'
  | .bad => False) → tl E HZ Q
/-- the call as a statement -/
def askT (o : RP) : Env → RS := fun ρ => match o with
  | .ok _ => .nx ρ
  | .ex x => .ex x ρ
  | .bad => .bad
/-- the def's promise: what it makes of the thunk's outcome -/
def ThkOk (P : Program) (w : World) (K : PySem.W.Frag) (mg : Str → Option Value) (base : Heap) (N : List Str) (qual : Str) (st : Stmt) (g : Addr) (k : Nat) (a : Str) (dT : RP → RP) : Prop :=
  ∀ (cdv : Value) (A : Around) (outer : List PySem.Env) (s : Shared) (H F : Hp) (E : XK) (Q : VK) (f c' : Addr) (q : Str) (tl : XK → Hp → VK → Prop) (o : RP), Rm k (A.deeper (envOfC qual (defScope st) s.heap.objs.size g cdv)) → Same F H → H c' = some (LamX.CodeO c' q) →
    (∀ (W : WX) (pn : List (Addr × Obj)) (xe : Value → Shared → Prop) (p1 p2 : Pos), Takes ((bX P w K mg base N qual st g cdv A outer s H E).tr pn xe) W → PE ((bX P w K mg base N qual st g cdv A outer s H E).tr pn xe) (.Call (.Name a p1) [] [] p2) (fun σZ HZ Q => σZ[0]? = some (some (.ref f)) ∧ HZ c' = some (LamX.CodeO c' q) ∧ tl (WE W σZ) HZ Q)) →
    TlOk ⟨K, mg⟩ F H o tl → (match dT o with
      | .ok r => ∀ v F' H', Grow F H F' H' → ResT ⟨K, mg⟩ H F' H' v r → Q v H'
      | .ex x => ∀ cls d F' H', Grow F H F' H' → RepX ⟨K, mg⟩ F' x cls d → E cls d H'
      | .bad => False) → tSs (bX P w K mg base N qual st g cdv A outer s H E) (defBody st) { nx := fun _ H' => Q .non H', rt := Q } (L2.start N [.ref f]) H
theorem RepS.skips {G : Cfg} {F H : Hp} : ∀ σ : L2.St, RepS G F H σ (List.replicate σ.length none) []
  | [] => .nil
  | _ :: σ => .skip (RepS.skips σ)
theorem Good.growOf1 {G : Cfg} {fm : Fm} {ρ : Env} {σ : L2.St} {τ : List (V × T)} {F H : Hp} (g : Good G fm ρ σ τ F H) (hB : fm.B = []) : Grow fm.F0 fm.H0 F H :=
  ⟨g.F0, fun a o e => g.keep a o e (by rw [hB]; exact List.not_mem_nil), g.hid, g.FH⟩
/-- c = None; try: a() / except x as n: c = n; .. -/
def denT (n : Nat) (g1 : Env → RS) (c : Str → Option Bool) (i j : Nat) (g : Env → RS) : RP → RP := fun o => resP (sSeq g1 (sSeq (fun ρ => sTryR c i j (askT o ρ)) g) (List.replicate n none))
theorem okT {P : Program} {w : World} {K : PySem.W.Frag} {mg : Str → Option Value} {base : Heap} {N : List Str} {qual : Str} {st : Stmt} {g : Addr} {k n i j : Nat} {a x en y : Str} {g1 gr : Env → RS} {c : Str → Option Bool} {s1 : Stmt} {rest : List Stmt} {p1 p2 p3 p4 p5 p6 py pn2 pp : Pos}
    (hst : defBody st = s1 :: .Try [.Expr (.Call (.Name a p1) [] [] p2) p3] [.ExceptHandler (some (.Name x p4)) (some en) [.Assign [.Name y py] (.Name en pn2) pp] p5] [] [] p6 :: rest) (hn : N.length = n) (h0 : 0 < n) (nd : N.Nodup)
    (hx : ∀ (cdv : Value) (A : Around) (outer : List PySem.Env) (s : Shared) (H : Hp) (E : XK), Exm (bX P w K mg base N qual st g cdv A outer s H E) x c)
    (hb1 : ∀ (cdv : Value) (A : Around) (outer : List PySem.Env) (s : Shared) (H : Hp) (E : XK), Rm k (A.deeper (envOfC qual (defScope st) s.heap.objs.size g cdv)) → SS (bX P w K mg base N qual st g cdv A outer s H E) [0] (fun cls d _ H' => E cls d H') s1 g1)
    (hbr : ∀ (cdv : Value) (A : Around) (outer : List PySem.Env) (s : Shared) (H : Hp) (E : XK), Rm k (A.deeper (envOfC qual (defScope st) s.heap.objs.size g cdv)) → SSs (bX P w K mg base N qual st g cdv A outer s H E) [0] (fun cls d _ H' => E cls d H') rest gr)
    (hij : i ≠ j) (hi : i ∉ [0]) (hj : j ∉ [0]) (hNi : N[i]? = some en) (hNj : N[j]? = some y) (hg : (defScope st).names.lookup x = some .globalImplicit) (hd : (x == ("__debug__" : Str)) = false) (hl : (defScope st).names.lookup en = some .local)
    (hy : Loc (defScope st) y) (hd2 : (en == ("__debug__" : Str)) = false) (hcd : (en == ("__classdict__" : Str)) = false)
    (hs : ∀ (cdv : Value) (s : Shared), swapsWith (.Name en pn2) (some (.Name y py)) pp.line (envOfC qual (defScope st) s.heap.objs.size g cdv) = pure false) (hs2 : ∀ (cdv : Value) (s : Shared), swapsWith (.Call (.Name a p1) [] [] p2) none p3.line (envOfC qual (defScope st) s.heap.objs.size g cdv) = pure false) :
    ThkOk P w K mg base N qual st g k a (denT n g1 c i j gr) := by
  intro cdv A outer s H F E Q f c' q tl o hr sFH hc act tlo post
  have fmP : PinS K mg base ⟨F, H, [], [(0, .ref f)], []⟩ [0] := ⟨fun p hp => by rw [List.mem_singleton.mp hp]; exact List.mem_singleton.mpr rfl, fun z => absurd z (by decide)⟩
  have len : (L2.start N [.ref f]).length = n := by
    unfold L2.start
    simp only [List.length_append, List.length_map, List.length_cons, List.length_nil, List.length_replicate]
    omega
  have g0 : Good ⟨K, mg⟩ ⟨F, H, [], [(0, .ref f)], []⟩ (List.replicate n none) (L2.start N [.ref f]) [] F H := by
    refine ⟨sFH, Same.refl _, fun _ _ e _ => e, fun _ _ h => h, fun _ h => h, fun p hp => ?_, fun p hp => .inr fun _ _ => List.not_mem_nil, (fun p hp => nomatch hp), (fun p hp => nomatch hp), [], [], ?_, .nil, List.nodup_nil, fun a ha => nomatch ha⟩
    · rw [List.mem_singleton.mp hp]; rfl
    · rw [← len]; exact RepS.skips _
  rw [hst]
  -- what is asked of the body's end
  have fin : PostS (bX P w K mg base N qual st g cdv A outer s H E) ⟨F, H, [], [(0, .ref f)], []⟩ (fun cls d _ H' => E cls d H') [] (sSeq g1 (sSeq (fun ρ => sTryR c i j (askT o ρ)) gr) (List.replicate n none)) { nx := fun _ H' => Q .non H', rt := Q } := by
    unfold denT at post
    cases e : sSeq g1 (sSeq (fun ρ => sTryR c i j (askT o ρ)) gr) (List.replicate n none) with
    | nx ρ' =>
      rw [e] at post
      exact fun σ' F' H' gd => post .non F' H' (gd.growOf1 rfl) .non
    | rt t ρ' =>
      rw [e] at post
      intro v σ' F' H' gd
      cases t with
      | sh d => exact post v F' H' (gd.growOf1 rfl) (gd.resTop rfl rfl)
      | own xs => exact post v F' H' (gd.growOf1 rfl) (gd.resTop rfl rfl)
      | al i => exact post.elim
    | bk ρ' => rw [e] at post; exact post.elim
    | ct ρ' => rw [e] at post; exact post.elim
    | bad => rw [e] at post; exact post.elim
    | ex x ρ' =>
      rw [e] at post
      exact fun σ' cls d F' H' gd r => post cls d F' H' (gd.growOf1 rfl) r
  refine tSs_of (pss_cons ps_tS pss_tSs) ?_
  refine hb1 cdv A outer s H E hr _ fmP (List.replicate n none) (L2.start N [.ref f]) [] F H _ (fun x hx => nomatch hx) g0 ?_
  have fin : PostS (bX P w K mg base N qual st g cdv A outer s H E) ⟨F, H, [], [(0, .ref f)], []⟩ (fun cls d _ H' => E cls d H') [] ((g1 (List.replicate n none)).bind (sSeq (fun ρ => sTryR c i j (askT o ρ)) gr)) { nx := fun _ H' => Q .non H', rt := Q } := fin
  cases e1 : g1 (List.replicate n none) with
  | rt t ρ1 => rw [e1] at fin; exact fin
  | bk ρ1 => rw [e1] at fin; exact fin
  | ct ρ1 => rw [e1] at fin; exact fin
  | bad => rw [e1] at fin; exact fin
  | ex x ρ1 => rw [e1] at fin; exact fin
  | nx ρ1 =>
    rw [e1] at fin
    intro σ1 F1 H1 gd1
    refine tSs_of (pss_cons ps_tS pss_tSs) ?_
    have fin : PostS (bX P w K mg base N qual st g cdv A outer s H E) ⟨F, H, [], [(0, .ref f)], []⟩ (fun cls d _ H' => E cls d H') [] ((sTryR c i j (askT o ρ1)).bind gr) { nx := fun _ H' => Q .non H', rt := Q } := fin
    refine try_at (W := fun cls d _ H' => E cls d H') (r := askT o ρ1) (fm := ⟨F, H, [], [(0, .ref f)], []⟩) (τ := []) ⟨rfl, passes_of rfl, nd⟩ takes_b i j (hx cdv A outer s H E) fmP.pin (fun x hx => nomatch hx) (fun W' pn xe tk cxk D' q' => ?_) ?_ hij hi hj hNi hNj hg hd hl rfl rfl rfl hy hd2 hcd (hs cdv s) (.inl rfl)
    · have k1 := gd1.growOf1 rfl
      refine tSs_of (pss_one (ps_expr (act W' pn xe p1 p2 tk) (hs2 cdv s))) ?_
      refine ⟨gd1.pin (0, .ref f) (List.mem_singleton.mpr rfl), k1.HH _ _ hc, tlo F1 H1 _ _ k1 ?_⟩
      cases o with
      | bad => exact q'
      | ex x => exact fun cls d F' H' k2 rx => q' σ1 cls d F' H' (gd1.grow k2) rx
      | ok t => exact fun v F' H' k2 rt => q' σ1 F' H' (gd1.grow k2)
    · cases e2 : sTryR c i j (askT o ρ1) with
      | nx ρ2 =>
        rw [e2] at fin
        exact fun σ2 F2 H2 gd2 => hbr cdv A outer s H E hr _ fmP ρ2 σ2 [] F2 H2 _ (fun x hx => nomatch hx) gd2 fin
      | rt t ρ1 => rw [e2] at fin; exact fin
      | bk ρ1 => rw [e2] at fin; exact fin
      | ct ρ1 => rw [e2] at fin; exact fin
      | bad => rw [e2] at fin; exact fin
      | ex x ρ1 => rw [e2] at fin; exact fin
end Pf

namespace Pf
open PySem PySem.Spec L2
open PyProof.Rows (envOfC)

/-! ### f(lambda: e), in the law -/
def frz1 (ρ : Env) (i : Nat) : Option (Option T) → Env
  | some (some (.own o)) => ρ.set i (some (.sh o.d))
  | _ => ρ
def frzE : List Nat → Env → Env
  | [], ρ => ρ
  | i :: fz, ρ => frzE fz (frz1 ρ i ρ[i]?)
def hideT : Option T → Option T
  | some (.sh d) => some (.sh d)
  | _ => none
def lamD (fb : Env → R T) (ρ : Env) : RP := match fb (ρ.map hideT) with
  | .ok (.sh d) _ => .ok (.sh d)
  | .ok (.own o) _ => .ok (.own o)
  | .ex x _ => .ex x
  | _ => .bad
def thkR (ρ : Env) : RP → R T
  | .ok t => .ok t ρ
  | .ex x => .ex x ρ
  | .bad => .bad
def eThk (fz : List Nat) (fb : Env → R T) (dT : RP → RP) : Env → R T := fun ρ => thkR (frzE fz ρ) (dT (lamD fb (frzE fz ρ)))
section
variable {G : Cfg} {fm : Fm} {m : List Nat} {σ : L2.St} {F H H1 : Hp} {τ : List (V × T)} {A : List Addr} {ρ : Env}
theorem Good.frzE (hm : Pins fm m) : ∀ (fz : List Nat), (∀ i ∈ fz, i ∉ m) → ∀ {ρ : Env} {F : Hp}, Good G fm ρ σ τ F H → ∃ F', Good G fm (Pf.frzE fz ρ) σ τ F' H
  | [], _, ρ, F, g => ⟨F, g⟩
  | i :: fz, hi, ρ, F, g => by
    have key : ∃ F', Good G fm (frz1 ρ i ρ[i]?) σ τ F' H := by
      unfold frz1
      split
      · rename_i o e
        obtain ⟨F', g', _⟩ := g.freeze hm e (hi i (List.mem_cons_self ..))
        exact ⟨F', g'⟩
      · exact ⟨F, g⟩
    obtain ⟨F1, g1⟩ := key
    exact Good.frzE hm fz (fun j hj => hi j (List.mem_cons_of_mem _ hj)) g1
theorem RepS.hide (h : RepS G F H σ ρ A) : RepS G F H σ (ρ.map hideT) [] := by
  induction h with
  | nil => exact .nil
  | skip _ ih => exact .skip ih
  | sh r _ ih => exact .sh r ih
  | own _ _ _ _ ih => exact .skip ih
theorem Good.hide (g : Good G fm ρ σ τ F H) : Good G ⟨F, H, [], [], []⟩ (ρ.map hideT) σ [] F H := by
  obtain ⟨A1, A2, s, l, nd, k⟩ := g.own
  exact ⟨g.FH, Same.refl _, fun _ _ e _ => e, fun _ _ h => h, fun _ h => h, (fun p hp => nomatch hp), (fun p hp => nomatch hp), (fun p hp => nomatch hp), (fun p hp => nomatch hp), [], [], s.hide, .nil, List.nodup_nil, fun a ha => nomatch ha⟩
theorem RepS.noTbl (h : RepS G F H σ ρ A) : ∀ a ∈ A, ∀ ps, H a ≠ some (.tbl ps) := by
  induction h with
  | nil => exact fun a ha => nomatch ha
  | skip _ ih => exact ih
  | sh _ _ ih => exact ih
  | own h1 _ h3 _ ih =>
    intro a ha ps z
    rcases List.mem_cons.mp ha with rfl | ha
    · rw [h1] at z; cases z; cases h3
    · exact ih a ha ps z
theorem RepL.noTbl (h : RepL G σ F H τ A) : ∀ a ∈ A, ∀ ps, H a ≠ some (.tbl ps) := by
  induction h with
  | nil => exact fun a ha => nomatch ha
  | cons r _ ih =>
    intro a ha ps z
    rcases List.mem_append.mp ha with ha | ha
    · cases r with
      | sh _ => exact nomatch ha
      | al _ => exact nomatch ha
      | own h1 _ h3 =>
        rw [List.mem_singleton.mp ha, h1] at z; cases z; cases h3
    · exact ih a ha ps z
/-- the table alone is written -/
theorem Good.tabled {P : Addr} {q : Str} (g : Good G fm ρ σ τ F H) (hP : (P, q) ∈ fm.T) (e : ∀ b o, b ≠ P → H b = some o → H1 b = some o) (t : LamX.Tabs fm.T H1) : Good G fm ρ σ τ F H1 := by
  obtain ⟨⟨ps, t1, _⟩, t2, t3⟩ := g.tab _ hP
  obtain ⟨A1, A2, s, l, nd, k⟩ := id g.own
  have nA : ∀ a ∈ A1, a ≠ P := fun a ha z => s.noTbl a ha ps (by rw [z]; exact t1)
  have nB : ∀ a ∈ A2, a ≠ P := fun a ha z => l.noTbl a ha ps (by rw [z]; exact t1)
  have n0 : ∀ a, fm.H0 a ≠ none → a ≠ P := fun a h z => h (by rw [z]; exact t3)
  refine ⟨fun a o q => e a o (fun z => by rw [z, t2] at q; cases q) (g.FH a o q), g.F0, fun a o q n => e a o (n0 a (by rw [q]; exact fun z => nomatch z)) (g.keep a o q n), g.hid, fun a h => ?_, g.pin, g.lent, g.lb, fun p hp => ⟨t p hp, (g.tab p hp).2⟩, A1, A2,
    s.mono (Same.refl _) (fun a ha o q => e a o (nA a ha) q) (fun a ha => (s.mem a ha).1), l.mono (Same.refl _) (fun a ha o q => e a o (nB a ha) q) (fun a ha => (l.mem a ha).1), nd, k⟩
  cases z : H a with
  | none => exact absurd z (g.live a h)
  | some o => rw [e a o (n0 a h) z]; exact fun z => nomatch z
end
section
variable {X : Cx} {m : List Nat} {W : WX}
theorem takes_lam {A : Around} {outer : List PySem.Env} {s : Shared} {H : Hp} {E : XK} {scope : Scope} {f c' : Addr} : Takes (LamX.lamCx X A outer s H E scope f c') (fun cls d _ H' => E cls d H') := takes_of rfl rfl rfl rfl
theorem cok_lam {A : Around} {outer : List PySem.Env} {s : Shared} {H : Hp} {E : XK} {scope : Scope} {f c' : Addr} (nd : X.N.Nodup) : Cok (LamX.lamCx X A outer s H E scope f c') := ⟨rfl, passes_of rfl, nd⟩
/-- the law's own code object -/
def LawCode (X : Cx) : Prop := ∃ (fl : Addr) (oc : Value) (od : Option Addr) (fd : FuncData) (osl : Array (Option Value)), X.mg "law" = some (.ref fl) ∧ X.K.lookup fl = some ⟨oc, od, .func fd, osl⟩ ∧ fd.code = X.env.code
theorem se_thk {x a : Str} {st : Stmt} {g : Addr} {fd : FuncData} {N ps : List Str} {k : Nat} {dT : RP → RP} {fb : Env → R T} {fz : List Nat} {df : Option Int} {params : Arguments} {body : Expr} {scope : Scope} {p lpos pos : Pos} (cx : Cok X) (tk : Takes X W)
    (hm : 1000 ∈ m) (hlaw : LawCode X) (hq : lamQ X = Str.ofString "law.<locals>.<lambda>") (hg : Gl X x) (hmg : X.mg x = some (.ref g)) (Fn : L2.Fun X.K x x st g fd) (hb : Binds X.K fd [a] []) (S : FnScope N [a] (defScope st)) (hr : Rm (k + 2) X.A)
    (ok : ThkOk X.prog X.w X.K X.mg X.base N x st g (k + 1) a dT) (L : LamN X.env.scope scope X.N ps) (hdf : LamDf params X.env df) (hbind : LamBd params body scope ps df) (hN : N[0]? = some a) (hv : Vis (defScope st) a)
    (hbody : ∀ (A : Around) (outer : List PySem.Env) (s : Shared) (H : Hp) (E : XK) (f c' : Addr), Rm k (A.deeper (LamX.lamEnv X scope s.heap.objs.size f c')) → SE (LamX.lamCx X A outer s H E scope f c') [] (fun cls d _ H' => E cls d H') body fb)
    (hfz : ∀ i ∈ fz, i ∉ m) (hdb : (x == ("__debug__" : Str)) = false := by decide) (hd : (a == ("__debug__" : Str)) = false := by decide) (hcd : (a == ("__classdict__" : Str)) = false := by decide) :
    SE X m W (.Call (.Name x p) [.Lambda params body scope lpos] [] pos) (eThk fz fb dT) := fun fm hpin ρ σ τ F H Q gd q => by
  obtain ⟨fl, oc, od, fdl, osl, c, P, l1, l2, l3, TB, l4, l5⟩ := hpin.lam hm
  obtain ⟨fl', oc', od', fdl', osl', r1, r2, r3⟩ := hlaw
  rw [l1] at r1; cases r1
  rw [l2] at r2; cases r2
  rw [l3] at r3
  rw [← hq] at l4 l5
  obtain ⟨F1, g1⟩ := gd.frzE hpin.pin fz hfz
  intro pins s I
  refine wpAny_Call_Name_kw (ld_glob I hg hmg ?_ hdb)
  refine PySem.W.callWith_K (h₀ := X.base) I.ok.mod.kin Fn.kp ?_ (by rfl) (by rfl)
  show wpAny _ _ (spliced ((false, eval (.Lambda params body scope lpos) X.env) :: backTo pos (starEach [] X.env))) _ _ s
  refine Calls.spliced_cons (lam_new I TB r3.symm l4 l5 (fun p hp => (g1.tab p hp).1) hdf (L.has I.ok) fun f c' dv pm ctv H1 s' I1 keep T1 hf hfn hfr d1 d2 hco => ?_)
  refine Calls.spliced_nil ⟨I1.kIn, ?_⟩
  have g2 := g1.tabled l4 keep T1
  have bd : BindsTo s' fd ⟨[.ref f], []⟩ ([a].zip [.ref f]) := by
    have b := hb s' [.ref f] I1.kIn rfl
    rw [List.append_nil] at b
    exact b
  have run : codeAny (model X.prog X.w) X.A (.call (.ref g) ⟨[.ref f], []⟩) (CR (L2.CX X.prog X.w) X.stack X.prog X.w H1 s' Q (WE W σ)) s' := by
    refine run_at Fn S hr I1.env0 (us := [.ref f]) (vs := [.ref f]) bd (.cons rfl .nil) rfl fun cdv _ hr1 => ?_
    refine ok cdv X.A X.stack s' H1 F1 (WE W σ) Q f c' (lamQ X) (fun E HZ Q' => ∀ (A : Around) (outer : List PySem.Env) (s0 : Shared) (H0 : Hp), Rm k (A.deeper (LamX.lamEnv X scope s0.heap.objs.size f c')) → tE (LamX.lamCx X A outer s0 H0 E scope f c') body σ HZ Q') (lamD fb (frzE fz ρ)) hr1 g2.FH hco (fun W' pn xe p1 p2 tk' => ?_) (fun FZ HZ E Q' gr po A outer s0 H0 hr0 => ?_) ?_
    · exact pe_act (tb := fun E σ' H' Q' => ∀ (A : Around) (outer : List PySem.Env) (s0 : Shared) (H0 : Hp), Rm k (A.deeper (LamX.lamEnv X scope s0.heap.objs.size f c')) → tE (LamX.lamCx X A outer s0 H0 E scope f c') body σ' H' Q') I1 L hf hfn hfr d1 d2 hbind tk' hr1 (fun A outer s0 H0 E hr0 => ⟨fun pins s σ' H' Q' I h => h A outer s0 H0 hr0 pins s I⟩) hN hv hd hcd
    · have g3 := (g2.grow gr).hide
      refine hbody A outer s0 H0 E f c' hr0 ⟨FZ, HZ, [], [], []⟩ ⟨(fun p hp => nomatch hp), fun z => nomatch z⟩ _ σ [] FZ HZ Q' g3 ?_
      unfold lamD at po
      cases e : fb ((frzE fz ρ).map hideT) with
      | ok t ρ2 =>
        rw [e] at po
        cases t with
        | sh d => exact fun v F' H' g4 => po v F' H' (g4.pop.growOf1 rfl) (g4.resTop rfl rfl)
        | own o => exact fun v F' H' g4 => po v F' H' (g4.pop.growOf1 rfl) (g4.resTop rfl rfl)
        | al i => exact po.elim
      | ex x ρ2 =>
        rw [e] at po
        exact fun cls d F' H' g4 rx => po cls d F' H' (g4.growOf1 rfl) rx
      | bad => rw [e] at po; exact po.elim
    · have q : PostE X fm W σ τ (thkR (frzE fz ρ) (dT (lamD fb (frzE fz ρ)))) Q := q
      cases e : dT (lamD fb (frzE fz ρ)) with
      | ok t => rw [e] at q; exact fun v F' H' k1 rt => q v F' H' (g2.res k1 rt)
      | ex x => rw [e] at q; exact fun cls d F' H' k1 rx => q cls d F' H' (g2.grow k1) rx
      | bad => rw [e] at q; exact q.elim
  refine wpAny_call (codeAny_mono run fun res s2 hq => ?_)
  match res, hq with
  | .error e, hq => exact passAt tk σ pins H1 s' e s2 I1 hq
  | .ok (.ret u), hq => exact I1.after hq
  | .ok .next, hq => exact hq.elim
  | .ok .brk, hq => exact hq.elim
  | .ok .cont, hq => exact hq.elim
end
end Pf

namespace Pf
open PySem PySem.Spec L2
open PyProof.Rows (IntsAre AllBare envOfC)

/-! ### a law with lambdas -/
/-- the law's promise -/
def SpL (G : Cfg) (f : List D → RP) (P : Addr) : Sp := fun vs H Q E => ∃ (F : Hp) (ds : List D) (d : D), Same F H ∧ F P = none ∧ H P = some (.tbl #[]) ∧ Reps G F vs ds ∧ f ds = .ok (.sh d) ∧ ∀ v F' H', Rep G F' v d → Q v H'
theorem okL {P : Program} {w : World} {K : PySem.W.Frag} {mg : Str → Option Value} {base : Heap} {x qual : Str} {st : Stmt} {f : Addr} {fd : FuncData} {N ps : List Str} {k np n : Nat} {g : Env → RS} {c Pt : Addr} (Fn : L2.Fun K x qual st f fd) (S : FnScope N ps (defScope st)) (e1 : ps.length = np) (e2 : N.length = n)
    (hmg : mg "law" = some (.ref f)) (hc : fd.code = .ref c) (TB : LamX.TabB base mg c Pt)
    (hb : ∀ (cdv : Value) (A : Around) (outer : List PySem.Env) (s : Shared) (H : Hp) (E : XK), fd.code = cdv → Rm k (A.deeper (envOfC qual (defScope st) s.heap.objs.size f cdv)) →
      SSs (bX P w K mg base N qual st f cdv A outer s H E) [1000] (fun cls d _ H' => E cls d H') (defBody st) g) : FnG P w K mg base (k + 1) f fd ps (SpL ⟨K, mg⟩ (denP np n g) Pt) := by
  have lens : ∀ {vs : List V} {H : Hp} {Q : VK} {E : XK}, SpL ⟨K, mg⟩ (denP np n g) Pt vs H Q E → vs.length = ps.length := fun {vs H Q E} h => by
    obtain ⟨F, ds, d, _, _, _, h4, h5, _⟩ := h
    rw [h4.length, e1]
    exact denP_len (g := g) (n := n) (by rw [h5]; exact fun z => nomatch z)
  refine ⟨fun vs H Q E h => lens h, fun A outer s H args us vs Q E hr e0 bd r h => ?_⟩
  refine run_at Fn S hr e0 bd r (lens h) fun cdv hcd hr1 => ?_
  obtain ⟨F, ds, d, h1, h2, h3, h4, h5, h6⟩ := h
  have hl : ds.length = np := denP_len (g := g) (n := n) (by rw [h5]; exact fun z => nomatch z)
  obtain ⟨oc, od, kV, doc, pm, an, cdv', ct, osl, efd, lk, _⟩ := id Fn.ex
  have PX : PinS K mg base ⟨F, fun a => if a = Pt then none else H a, [], [], [(Pt, Str.ofString "law.<locals>.<lambda>")]⟩ [1000] :=
    ⟨(fun p hp => nomatch hp), fun _ => ⟨f, oc, od, fd, osl, c, Pt, hmg, lk, hc, TB, List.mem_singleton.mpr rfl, fun p hp _ => by rw [List.mem_singleton.mp hp]⟩⟩
  have low : ∀ a, (fun a => if a = Pt then none else H a) a ≠ none → H a ≠ none := fun a z => by
    dsimp only at z
    split at z
    · exact absurd rfl z
    · exact z
  refine hb cdv A outer s H E hcd hr1 _ PX (startE n (ds.map T.sh)) (L2.start N vs) [] F H _ (fun x hx => nomatch hx) ?_ ?_
  · refine ⟨h1, Same.refl _, fun a o q _ => ?_, fun _ _ h => h, low, (fun p hp => nomatch hp), (fun p hp => nomatch hp), (fun p hp => nomatch hp), fun p hp => ?_, [], [], ?_, .nil, List.nodup_nil, fun a ha => nomatch ha⟩
    · dsimp only at q
      split at q
      · cases q
      · exact q
    · rw [List.mem_singleton.mp hp]
      exact ⟨LamX.TabS.nil h3, h2, if_pos rfl⟩
    · have := RepS.start (G := ⟨K, mg⟩) (H := H) (N.length - vs.length) h4
      unfold startE L2.start
      rw [List.length_map, ← e2, ← h4.length]
      exact this
  · unfold denP at h5
    rw [if_pos hl] at h5
    cases e : g (startE n (ds.map T.sh)) with
    | nx ρ' =>
      rw [e] at h5
      cases h5
      exact fun σ' F' H' gd => h6 .non F' H' .non
    | rt t ρ' =>
      rw [e] at h5
      cases t with
      | sh d' => cases h5; exact fun v σ' F' H' gd => h6 v F' H' gd.topSh
      | own o => cases h5
      | al i => cases h5
    | bk ρ' => rw [e] at h5; cases h5
    | ct ρ' => rw [e] at h5; cases h5
    | bad => rw [e] at h5; cases h5
    | ex x ρ' => rw [e] at h5; cases h5
section
variable {P : Program} {w : World} {K : PySem.W.Frag} {mg mb : Str → Option Value} {a c Pt : Addr} {s1 : Shared} {us : List Value} {ns : List Int}
/-- the abstract heap: the script and the table -/
def tbH (K : PySem.W.Frag) (a Pt : Addr) (us : List Value) (ns : List Int) : Hp := fun b => if b = Pt then some (.tbl #[]) else scH K a us ns b
theorem law_gT {k : Nat} {fa : Addr} {fd : FuncData} {x : Str} {sp : Sp} (kin : K.In s1.heap) (top : s1.heap.Ns mainGlobals mg) (bt : s1.heap.Ns builtinsNs mb) (bt2 : ∀ x : Str, x ≠ "__name__" → mb x = bootBuiltins x) (lim : s1.heap.NoLimit) (gen : s1.gens = #[])
    (hP : s1.heap.get? Pt = some { cls := .none, data := .fields #[] }) (nP : K.lookup Pt = none) (cd : PySem.W.codeHdIn K c Pt = true)
    (bm : ∃ (bm : Addr) (ob : Obj), mg "__builtins__" = some (.ref bm) ∧ bm ≠ builtinsNs ∧ s1.heap.get? bm = some ob ∧ ob.cls = .type "module" ∧ ob.dict = some builtinsNs ∧ ob.data = .plain)
    (sc : s1.heap.get? a = some (scO us)) (it : IntsAre us ns) (few : ns.length ≤ sizeLine) (room : Rm k callerA)
    (run : ∀ base : Heap, K.In base → base.Ns mainGlobals mg → LamX.TabB base mg c Pt → FnG P w K mg base k fa fd [x] sp) (bind : ∀ (s : Shared) (u : Value), BindsTo s fd ⟨[u], []⟩ [(x, u)])
    (goal : ∀ H : Hp, SqL K H a (ns.map V.int) → H Pt = some (.tbl #[]) → a ≠ Pt → sp [.ref a] H (fun v _ => v = .bl true) fun _ _ _ => False) :
    codeAny (model P w) callerA (.call (.ref fa) ⟨[.ref a], []⟩) (fun r s' => r = .ok (.ret (.bool true)) ∧ OldK s1.heap s'.heap ∧ s'.os = s1.os ∧ AllBare s'.gens) s1 := by
  have vl := vals_ints it
  have aP : a ≠ Pt := fun z => by
    rw [z, hP] at sc
    exact nomatch (congrArg Obj.data (Option.some.inj sc) : Data.fields #[] = Data.seq us.toArray _)
  have atP : tbH K a Pt us ns Pt = some (.tbl #[]) := if_pos rfl
  have off : ∀ {b : Addr}, b ≠ Pt → tbH K a Pt us ns b = scH K a us ns b := fun n => if_neg n
  have low : ∀ {b : Addr} {o : Obj}, s1.heap.get? b = some o → b ≠ Pt → (b = a → K.lookup a ≠ none) → (hidT s1.heap (tbH K a Pt us ns)).get? b = some o := fun e n1 n => hidT_get e (by rw [off n1]; exact scH_none fun h => n h.1 h.2)
  have lowD : ∀ {b : Addr} {o : Obj}, s1.heap.get? b = some o → (∀ vs n, o.data ≠ .seq vs n) → (∀ vs, o.data ≠ .fields vs) → (hidT s1.heap (tbH K a Pt us ns)).get? b = some o := fun {b o} e n1 n2 => by
    refine low e (fun z => ?_) fun z _ => ?_
    · rw [z, hP] at e; cases e; exact n2 _ rfl
    · rw [z, sc] at e; cases e; exact n1 _ _ rfl
  have lowNs : ∀ {b : Addr} {q : Str → Option Value}, s1.heap.Ns b q → (hidT s1.heap (tbH K a Pt us ns)).Ns b q := by
    rintro b q ⟨o, es, ep, e, d, r⟩
    exact ⟨o, es, ep, lowD e (fun vs n z => by rw [d] at z; cases z) (fun vs z => by rw [d] at z; cases z), d, r⟩
  have lowK : K.In (hidT s1.heap (tbH K a Pt us ns)) := fun b o e => low (kin b o e) (fun z => by rw [z, nP] at e; cases e) fun z n => by rw [z, n] at e; cases e
  have ok : HOk P w (tbH K a Pt us ns) s1.heap := fun b u e => by
    by_cases hb : b = Pt
    · subst hb
      rw [atP] at e
      cases e
      exact hP
    · rw [off hb] at e
      obtain ⟨rfl, _, rfl⟩ := scH_some e
      exact ⟨sc, by rw [List.length_map]; exact few, us, _, vl, sc⟩
  have sq : SqL K (tbH K a Pt us ns) a (ns.map V.int) := by
    cases e : K.lookup a with
    | none => exact .inl (.inr ⟨scO us, by rw [off aP]; exact if_pos ⟨rfl, e⟩⟩)
    | some o =>
      have e2 := kin a o e
      rw [sc] at e2
      cases e2
      exact .inr ⟨_, us.toArray, _, e, rfl, rfl, rfl, by rw [List.size_toArray, it.length]; exact few, by simpa using vl⟩
  have TB : LamX.TabB (hidT s1.heap (tbH K a Pt us ns)) mg c Pt := by
    obtain ⟨b, ob, b1, b2, b3, b4, b5, b6⟩ := bm
    obtain ⟨ot, es, ep, t1, t2, _⟩ := id top
    refine LamX.TabB.mk (PySem.W.codeHd_of_K lowK cd) ⟨b, ob, b1, b2, fun z => ?_, fun z => ?_, lowD b3 (fun vs n z => by rw [b6] at z; cases z) (fun vs z => by rw [b6] at z; cases z), b4, b5, b6⟩ fun z => ?_
    · rw [z, t1] at b3; cases b3; rw [t2] at b6; cases b6
    · rw [z, hP] at b3; cases b3; cases b6
    · rw [z, hP] at t1; cases t1; cases t2
  obtain ⟨mc, l1, l2⟩ := lim
  have env : Env0 P w K mg (hidT s1.heap (tbH K a Pt us ns)) callerA [] s1 (tbH K a Pt us ns) :=
    ⟨rfl, ⟨lowK, lowNs top, ⟨mb, lowNs bt, bt2⟩, ⟨mc, lowNs l1, l2⟩⟩, fun b o e => of_hidT e, Nat.le_of_eq (hidT_size _ _), trivial, fun b hb => absurd (show b ∈ ([] : List Addr) from hb) List.not_mem_nil, ok, .of_eq gen⟩
  have go := (run _ lowK (lowNs top) TB).run callerA [] s1 _ ⟨[.ref a], []⟩ [.ref a] [.ref a] _ _ room env (bind s1 (.ref a)) (.cons rfl .nil) (goal _ sq atP aP)
  refine codeAny_mono go fun r s2 h => ?_
  match r, h with
  | .error e, ⟨_, _, _, _, _, _, _, _, _, _, _, _, z⟩ => exact False.elim z
  | .ok .next, h => exact False.elim h
  | .ok .brk, h => exact False.elim h
  | .ok .cont, h => exact False.elim h
  | .ok (.ret u), ⟨v, H2, os, bare, un, ok2, rv, q⟩ =>
    cases (show v = .bl true from q)
    cases (show u = Value.bool true from rv)
    have keep : ∀ b o, b ≠ Pt → s1.heap.get? b = some o → s2.heap.get? b = some o := fun b o n e => by
      cases q2 : tbH K a Pt us ns b with
      | none => exact un.keep b o e q2 (fun z => List.not_mem_nil (show b ∈ ([] : List Addr) from z)) (by simp)
      | some y =>
        have q3 := q2
        rw [off n] at q3
        obtain ⟨rfl, hn, rfl⟩ := scH_some q3
        have := (ok2 b _ (un.frzs b _ _ q2)).1
        rw [sc] at e
        cases e
        exact this
    obtain ⟨more, m1⟩ := un.tbls Pt #[] atP
    have m2 : s2.heap.get? Pt = some { cls := .none, data := .fields (#[] ++ more) } := ok2 Pt _ m1
    refine ⟨rfl, ⟨fun b o e => ?_, fun b o e => ?_⟩, os, bare⟩
    · by_cases hb : b = Pt
      · subst hb
        rw [hP] at e
        cases e
        exact .inr (.inl ⟨((PySem.W.codeHd_of_K kin cd).tab hP).isCodeTable, rfl, #[], more, rfl, m2⟩)
      · exact .inl (keep b o hb e)
    · by_cases hb : b = Pt
      · subst hb
        exact ⟨_, m2⟩
      · exact ⟨o, keep b o hb e⟩
theorem walk_gT {l : PySem.W.OpenLaw} {n k : Nat} {q : Program} {loose : List Str} {XP : (Str → Option Value) → Heap → Prop} {YP : World → Heap → Prop} {d : PySem.DefRec} {K : Params → PySem.W.Frag} {x : Str} {f : List D → RP}
    (hn : l.most = some n) (hn2 : n ≤ sizeLine) (hdf : d.params.defaults = []) (hr : Rm k callerA)
    (hY : ∀ (w : World) (h : Heap), YP w h → (K w.params).In h)
    (F : ∀ (w : World) (mg : Str → Option Value) (fa : Addr) (h : Heap), YP w h → (K w.params).In h → h.Ns mainGlobals mg → mg d.name = some (.ref fa) →
      ∃ (fd : FuncData) (c Pt : Addr), h.get? Pt = some { cls := .none, data := .fields #[] } ∧ (K w.params).lookup Pt = none ∧ PySem.W.codeHdIn (K w.params) c Pt = true ∧ (∀ (s : Shared) (u : Value), BindsTo s fd ⟨[u], []⟩ [(x, u)]) ∧
        ∀ base : Heap, (K w.params).In base → base.Ns mainGlobals mg → LamX.TabB base mg c Pt → FnG l.prog w (K w.params) mg base k fa fd [x] (SpL ⟨K w.params, mg⟩ f Pt))
    (plain : ∀ ns : List Int, ns.length ≤ n → (∀ z ∈ ns, Builtin.Int.intBits z ≤ 1048576) → f [.rol (ns.map D.int)] = .ok (.sh (.bl true))) :
    PySem.W.WalkO q loose XP YP l.row.toRowW d [] (fun f vs => PySem.call f vs) := by
  refine Att.attach_callB hn hdf fun w s0 s1 mg mb fa o pm cd doc a us ns G Y ho hd hcd hmg hobj it few bits gen => ?_
  have kin := hY w _ Y
  obtain ⟨fd, c, Pt, h1, h2, h3, hb, hF⟩ := F w mg fa _ Y kin G.T.g hmg
  refine law_gT kin G.T.g G.T.b G.T.builtins G.T.nolimit gen h1 h2 h3 G.T.bmain hobj it (Nat.le_trans few hn2) hr hF hb fun H sq hP aP => ?_
  have allI : ∀ (F : Hp) (ns : List Int), Reps ⟨K w.params, mg⟩ F (ns.map V.int) (ns.map D.int) := fun F ns => by
    induction ns with
    | nil => exact .nil
    | cons i ns ih => exact .cons .int ih
  have same : Same (fun b => if b = Pt then none else H b) H := fun b o e => by
    dsimp only at e
    split at e
    · cases e
    · exact e
  have sq2 : SqL (K w.params) (fun b => if b = Pt then none else H b) a (ns.map V.int) := by
    rcases sq with z | z
    · rcases z with z | ⟨o, z⟩
      · exact .inl (.inl (by show (if a = Pt then none else H a) = _; rw [if_neg aP]; exact z))
      · exact .inl (.inr ⟨o, by show (if a = Pt then none else H a) = _; rw [if_neg aP]; exact z⟩)
    · exact .inr z
  refine ⟨_, [.rol (ns.map D.int)], .bl true, same, if_pos rfl, hP, .cons (.rol sq2 (allI _ ns)) .nil, plain ns few bits, fun v F' H' r => ?_⟩
  cases r
  rfl
end
end Pf

namespace Pf
open PySem PySem.Spec L2
open PyProof.Rows (IntsAre AllBare envOfC)

/-! ### sorted((a, b)) -/
section
open PyProof.Rows
variable {prog : Program} {w : World} {A : Around} {E : Value → Shared → Prop} {s : Shared}
theorem collect_tup {a : Addr} {o : Obj} {vs : List Value} {n : Nat} {Q : List Value → Shared → Prop} (ho : s.heap.get? a = some o) (hc : o.cls = .type "tuple") (hd : o.data = .seq vs.toArray n)
    (q : Q vs { s with heap := (s.heap.push (seqObj "list" #[] 0)).update s.heap.objs.size (Obj.mapSeq (· ++ vs.toArray)) }) (hz : vs.length ≤ sizeLine) : wpAny (model prog w) A (collect (.ref a)) Q E s := by
  unfold collect
  refine wpAny_bind (wpAny_runValue (codeAny_builtin entry_proto_collect' ?_))
  show wpAny _ _ (do again (.builtin "list.__iadd__" ⟨[← newList [], .ref a], []⟩)) _ _ s
  refine wpAny_bind (wpAny_newList (wpAny_pure ⟨Code.quiet_builtin _ (by decide +kernel), codeAny_builtin entry_list_iadd' ?_⟩))
  show wpAny _ _ (Builtin.List.listExtendWith (.ref s.heap.objs.size) (.ref a) (.ref s.heap.objs.size)) _ _ { s with heap := s.heap.push (seqObj "list" #[] 0) }
  have up : (s.heap.push (seqObj "list" #[] 0)).get? a = some o := Heap.get?_push_of_some _ ho
  have new : (s.heap.push (seqObj "list" #[] 0)).get? s.heap.objs.size = some (seqObj "list" #[] 0) := Heap.get?_push_size _ rfl
  have ty : (Value.type "tuple" == Value.type "tuple") = true := by rfl
  unfold Builtin.List.listExtendWith
  refine wpAny_bind (wpAny_typeOf (T := "tuple") ⟨o, up, hc⟩ ?_)
  rw [if_pos (by rw [ty]; simp)]
  refine wpAny_bind (listItems_at up hd (wpAny_bind (listItems_at (xs := #[]) (n := 0) new rfl ?_)))
  rw [if_neg (by simp)]
  refine wpAny_bind (listUpdate_at (xs := #[]) (n := 0) new rfl (wpAny_pure ?_) (Nat.zero_le _) (by show (#[] ++ vs.toArray).size ≤ sizeLine + 1; simp only [Array.size_append, List.size_toArray, List.length_nil]; omega))
  show wpAny (model prog w) A (do
      let o ← load s.heap.objs.size
      match o.data with
      | .seq xs _ => pure xs.toList
      | _ => unsupported "internal:collect") Q E { s with heap := (s.heap.push (seqObj "list" #[] 0)).update s.heap.objs.size (Obj.mapSeq (· ++ vs.toArray)) }
  refine wpAny_bind (wpAny_load (get?_update_seq new _) ?_)
  show wpAny _ _ (pure ((#[] : Array Value) ++ vs.toArray).toList) Q E _
  rw [show ((#[] : Array Value) ++ vs.toArray).toList = vs by simp]
  exact wpAny_pure q
theorem sorted_tup {a : Addr} {ob : Obj} {vs : List Value} {n : Nat} {ltv : Value → Value → Bool} {Q : Value → Shared → Prop} (O : SrtO.Swo ltv) (ho : s.heap.get? a = some ob) (hc : ob.cls = .type "tuple") (hd : ob.data = .seq vs.toArray n) (hz : vs.length ≤ sizeLine)
    (hS : 2 ≤ vs.length → ∀ (h1 : Heap) (b : Addr), SrtO.SortableO prog w A.in1.in1 { s with heap := h1 } b vs ltv)
    (q : ∀ out : List Value, SrtO.Srtd ltv out → SrtO.Stb ltv out vs → Q (.ref (s.heap.objs.size + 1)) { s with heap := sortedAll s.heap vs out.toArray }) : wpAny (model prog w) A (call (.builtin "sorted") [.ref a]) Q E s := by
  refine Calls.call_function_entry kind_sorted plain_sorted entry_sorted (args_sorted1 _) ?_
  unfold Builtin.«sorted»
  refine wpAny_bind (m := checkCount "sorted" 1 1 _) (wpAny_pure (wpAny_bind (collect_tup ho hc hd (wpAny_bind (wpAny_newList ?_ hz)) hz)))
  have z1 : ((s.heap.push (seqObj "list" #[] 0)).update s.heap.objs.size (Obj.mapSeq (· ++ vs.toArray))).objs.size = s.heap.objs.size + 1 := by rw [Heap.size_update, size_push']
  have z2 : (((s.heap.push (seqObj "list" #[] 0)).update s.heap.objs.size (Obj.mapSeq (· ++ vs.toArray))).push (seqObj "list" vs.toArray 0)).get? (s.heap.objs.size + 1) = some (seqObj "list" vs.toArray 0) := by
    rw [← z1]; exact Heap.get?_push_size _ rfl
  show wpAny _ _ _ _ _ { s with heap := ((s.heap.push (seqObj "list" #[] 0)).update s.heap.objs.size (Obj.mapSeq (· ++ vs.toArray))).push (seqObj "list" vs.toArray 0) }
  rw [z1]
  exact wpAny_bind (wpAny_holding (wpAny_call_entry slot_list_sort ⟨_, z2, rfl⟩ entry_list_sort (SrtO.list_sort_ord O z2 hz (fun h2 => hS h2 _ _) fun out h1 h2 => ⟨_, rfl, wpAny_pure ⟨_, rfl, q out h1 h2⟩⟩) (args_list_sort _)))
end
section
variable {X : Cx}
def rSortT (K : PySem.W.Frag) : List V → Hp → VK → Prop := fun vs H Q => ∃ (a : Addr) (ns : List Int), vs = [V.ref a] ∧ SqT K H a (ns.map V.int) ∧ ns.length ≤ sizeLine ∧
  ∀ (ns' : List Int) (p : Addr), ns'.Perm ns → ns'.Pairwise (· ≤ ·) → H p = none → Q (.ref p) (upd H p (.lst (ns'.map V.int)))
theorem cr_sortT : CallR X (.builtin "sorted") (rSortT X.K) := by
  intro pins s σ H vs us Q I r h
  obtain ⟨a, ns, rfl, hs, hz, q⟩ := h
  obtain ⟨its, rv, ⟨o, ho, hc, n, hd⟩, _⟩ := I.tuple hs
  rw [Vals.ref1 r]
  have hi := rv.ints
  have hl : its.length ≤ sizeLine := by rw [← rv.length, List.length_map]; exact hz
  refine sorted_tup SrtO.swo_int ho hc hd hl (fun h2 _ _ => SrtO.ints_sortable hi h2) fun out h1 h2 => ?_
  obtain ⟨k1, k2, k3⟩ := SrtO.ints_out hi h1 h2
  obtain ⟨ep, e⟩ := PyProof.Rows.sortedAll_at s.heap its out.toArray
  have hn : ((out.map SrtO.iv).map V.int).length ≤ sizeLine := by rw [List.length_map, k2.length_eq]; exact hz
  exact ⟨.ref _, upd H (s.heap.objs.size + 1) (.lst ((out.map SrtO.iv).map V.int)), I.laid (t' := s.toks) (fun _ _ => PyProof.Rows.sortedAll_old) (Nat.le_succ _) ⟨hn, out, ep, vals_of_ints k1, e⟩, rfl, q _ _ k2 k3 (I.hok.fresh (Nat.le_succ _))⟩
def sortTD : List D → Option T
  | [.tup xs] => if sz xs.length = true then (intsD xs).map fun ns => .own (.lst ((sortD ns).map D.int)) else none
  | _ => none
theorem on_sortT : OpN (gX X) (rSortT X.K) sortTD := fun F H vs ds t Q f r e k => by
  unfold sortTD at e
  split at e
  · rename_i xs
    split at e
    · rename_i hz
      obtain ⟨ns, e1, e2⟩ := Option.map_eq_some_iff.mp e
      subst e2
      obtain ⟨v, rfl, rv⟩ := repVs1 r
      obtain ⟨p, ws, rfl, h1, h2, _⟩ := rv.tup f
      have hw := h2.intsD e1
      have hl : ns.length ≤ sizeLine := by
        have := h2.length
        rw [hw, List.length_map] at this
        rw [this]
        exact of_decide_eq_true hz
      rw [hw] at h1
      refine ⟨p, ns, rfl, h1, hl, fun ns' q pm st hq => ?_⟩
      rw [sorted_eq (pm.trans (sortD_perm ns).symm) st (sortD_sorted ns)]
      exact res_own f (reps_ints _) k q hq
    · cases e
  · cases e
/-! ### max(xs), min(xs) -/
def maxI : List Int → Option Int
  | [] => none
  | [i] => some i
  | i :: is => (maxI is).map fun j => if i < j then j else i
theorem maxI_ok : ∀ {is : List Int} {m : Int}, maxI is = some m → m ∈ is ∧ ∀ y ∈ is, y ≤ m
  | [i], m, e => by cases e; simp
  | i :: j :: is, m, e => by
    obtain ⟨k, e1, rfl⟩ := Option.map_eq_some_iff.mp (show (maxI (j :: is)).map (fun j => if i < j then j else i) = some m from e)
    obtain ⟨h1, h2⟩ := maxI_ok e1
    refine ⟨?_, fun y hy => ?_⟩
    · split
      · exact List.mem_cons_of_mem _ h1
      · exact List.mem_cons_self ..
    · rcases List.mem_cons.mp hy with rfl | hy
      · split <;> omega
      · have := h2 y hy
        split <;> omega
def maxLD : List D → Option T
  | [.lst xs] => (intsD xs).bind fun ns => (maxI ns).map fun m => .sh (.int m)
  | _ => none
theorem on_maxL : OpN (gX X) (L2.rMax X.K) maxLD := fun F H vs ds t Q f r e k => by
  unfold maxLD at e
  split at e
  · obtain ⟨ns, e1, e2⟩ := Option.bind_eq_some_iff.mp e
    obtain ⟨m, e3, rfl⟩ := Option.map_eq_some_iff.mp e2
    obtain ⟨v, rfl, rv⟩ := repVs1 r
    obtain ⟨p, ws, rfl, h1, h2⟩ := rv.lst f
    rw [h2.intsD e1] at h1
    obtain ⟨m1, m2⟩ := maxI_ok e3
    refine ⟨p, ns, rfl, SqL.of h1, List.length_pos_of_mem m1, fun m' h3 h4 => ?_⟩
    have : m' = m := Int.le_antisymm (m2 _ h3) (h4 _ m1)
    subst this
    exact res_sh f .int k
  · cases e
end
/-! ### a, b, c = e1, e2, e3 -/
section
variable {X : Cx} {m : List Nat} {W : WX}
def parK3 (i j l : Nat) (ts : List T) (ρ1 : Env) : RS := match ts with
  | [.sh a, .sh b, .sh c] => .nx (((ρ1.set i (some (.sh a))).set j (some (.sh b))).set l (some (.sh c)))
  | _ => .bad
def sPar3 (i j l : Nat) (fs : Env → R (List T)) : Env → RS := fun ρ => (fs ρ).s fun ts ρ1 => parK3 i j l ts ρ1
theorem ss_par3 (cx : Cok X) (i j l : Nat) {x y z : Str} {a b c : Expr} {fs : Env → R (List T)} {px py pz pt pt2 pos : Pos} {kt k2} (ha : SA X m W [a, b, c] fs) (hi : i ∉ m := by decide) (hj : j ∉ m := by decide) (hl : l ∉ m := by decide) (hNi : X.N[i]? = some x := by rfl) (hNj : X.N[j]? = some y := by rfl) (hNl : X.N[l]? = some z := by rfl) (hij : i ≠ j := by decide) (hil : i ≠ l := by decide) (hjl : j ≠ l := by decide)
    (hx : X.env.scope.names.lookup x = some .local := by rfl) (hy : X.env.scope.names.lookup y = some .local := by rfl) (hz : X.env.scope.names.lookup z = some .local := by rfl)
    (hw : swappedStores [.Tuple [.Name x px, .Name y py, .Name z pz] kt pt] (.Tuple [a, b, c] k2 pt2) X.env = pure (some [x, y, z]) := by rfl)
    (hs : swapsWithSole [.Tuple [.Name x px, .Name y py, .Name z pz] kt pt] (.Tuple [a, b, c] k2 pt2) pos.line X.env = pure false := by rfl) :
    SS X m W (.Assign [.Tuple [.Name x px, .Name y py, .Name z pz] kt pt] (.Tuple [a, b, c] k2 pt2) pos) (sPar3 i j l fs) := fun fm hm ρ σ τ F H D na g q => by
  obtain ⟨t, pa, r⟩ := ha
  refine tS_of (L2.ps_par3 cx.calm cx.nd hNi hNj hNl hij hil hjl hx hy hz pa hw hs) ?_
  refine r fm hm ρ σ τ F H _ g ?_
  have q : PostS X fm W τ ((fs ρ).s fun ts ρ1 => parK3 i j l ts ρ1) D := q
  cases e1 : fs ρ with
  | ex z ρ1 => rw [e1] at q; exact q σ
  | bad => rw [e1] at q; exact q
  | ok ts ρ1 =>
    rw [e1] at q
    intro vs F' H' hlen g'
    have q : PostS X fm W τ (parK3 i j l ts ρ1) D := q
    unfold parK3 at q
    split at q
    · match vs, hlen with
      | [v, w, u], _ =>
        rw [pushAll_cons, pushAll_cons, pushAll_cons] at g'
        have g1 := g'
        change Good (gX X) fm ρ1 σ ((u, .sh _) :: (w, .sh _) :: (v, .sh _) :: τ) F' H' at g1
        have rc := g1.topSh
        have rb := g1.pop.topSh
        have g2 := g1.pop.pop.putSh hm hi na
        have g3 := (g2.pushSh rb).putSh hm hj na
        exact ⟨v, w, u, rfl, q _ _ _ ((g3.pushSh rc).putSh hm hl na)⟩
    · exact q.elim
end
/-! ### thunks, by name -/
def CThk (P : Program) (w : World) (K : PySem.W.Frag) (mg : Str → Option Value) (base : Heap) (x : Str) (st : Stmt) (N : List Str) (a : Str) (k : Nat) (dT : RP → RP) : Prop :=
  ∃ g fd, mg x = some (.ref g) ∧ L2.Fun K x x st g fd ∧ Binds K fd [a] [] ∧ ThkOk P w K mg base N x st g k a dT
theorem law_code {P : Program} {w : World} {K : PySem.W.Frag} {mg : Str → Option Value} {base : Heap} {x qual : Str} {st : Stmt} {f : Addr} {fd : FuncData} {N : List Str} {cdv : Value} {A : Around} {outer : List PySem.Env} {s : Shared} {H : Hp} {E : XK} (Fn : L2.Fun K x qual st f fd) (nm : mg "law" = some (.ref f)) (h : fd.code = cdv) :
    LawCode (bX P w K mg base N qual st f cdv A outer s H E) := by
  obtain ⟨oc, od, kV, doc, pm, an, cdv', ct, osl, e, lk, _⟩ := Fn.ex
  exact ⟨f, oc, od, fd, osl, nm, lk, h⟩
section
variable {X : Cx} {m : List Nat} {W : WX}
theorem se_thunk {x a : Str} {st : Stmt} {N ps : List Str} {k : Nat} {dT : RP → RP} {fb : Env → R T} {df : Option Int} {params : Arguments} {body : Expr} {scope : Scope} {p lpos pos : Pos} (cx : Cok X) (tk : Takes X W) (fz : List Nat) (C : CThk X.prog X.w X.K X.mg X.base x st N a (k + 1) dT) (S : FnScope N [a] (defScope st)) (hr : Rm (k + 2) X.A) (hlaw : LawCode X)
    (L : LamN X.env.scope scope X.N ps) (hdf : LamDf params X.env df) (hbind : LamBd params body scope ps df)
    (hbody : ∀ (A : Around) (outer : List PySem.Env) (s : Shared) (H : Hp) (E : XK) (f c' : Addr), Rm k (A.deeper (LamX.lamEnv X scope s.heap.objs.size f c')) → SE (LamX.lamCx X A outer s H E scope f c') [] (fun cls d _ H' => E cls d H') body fb)
    (hm : 1000 ∈ m := by decide) (hq : lamQ X = Str.ofString "law.<locals>.<lambda>" := by rfl) (hg : Gl X x := by rfl) (hN : N[0]? = some a := by rfl) (hv : Vis (defScope st) a := by first | exact .inl rfl | exact .inr (.inl rfl))
    (hfz : ∀ i ∈ fz, i ∉ m := by decide) (hdb : (x == ("__debug__" : Str)) = false := by decide) (hd : (a == ("__debug__" : Str)) = false := by decide) (hcd : (a == ("__classdict__" : Str)) = false := by decide) :
    SE X m W (.Call (.Name x p) [.Lambda params body scope lpos] [] pos) (eThk fz fb dT) := by
  obtain ⟨g, fd, h1, h2, h3, h4⟩ := C
  exact se_thk cx tk hm hlaw hq hg h1 h2 h3 S hr h4 L hdf hbind hN hv hbody hfz hdb hd hcd
end
end Pf

namespace Pf
namespace k06
open PySem PySem.Spec L2
def top (i : Nat) : Stmt := PySem.Challenge.pw_baysout_k06_sides_and_stretches_that_mee.main.body.getD i (.Pass ⟨0, 0, 0, 0⟩)
abbrev s_is_integer : Stmt := top 5
abbrev s_is_point : Stmt := top 6
abbrev s_need_point : Stmt := top 7
abbrev s_are_apart : Stmt := top 14
abbrev s_cross : Stmt := top 10
abbrev s_way : Stmt := top 9
abbrev s_turn_of : Stmt := top 12
abbrev s_is_on : Stmt := top 13
abbrev s_sign_of : Stmt := top 11
abbrev s_meet_in : Stmt := top 15
abbrev s_do_meet : Stmt := top 17
abbrev s_side_of : Stmt := top 16
abbrev s__law_keg : Stmt := top 19
abbrev s__law_pour : Stmt := top 20
abbrev s__law_pick : Stmt := top 21
abbrev s__law_point : Stmt := top 24
abbrev s__law_way : Stmt := top 22
abbrev s__law_cross : Stmt := top 23
abbrev s__law_common : Stmt := top 25
abbrev s__law_part : Stmt := top 26
abbrev s_law : Stmt := top 27
def clsB (s : Stmt) : List Stmt := match s with
  | .ClassDef _ _ _ b _ _ _ _ _ _ _ => b
  | _ => []
abbrev s_BadPoint_init : Stmt := (clsB (top 2)).getD 0 (.Pass ⟨0, 0, 0, 0⟩)
abbrev s_Misfit_init : Stmt := (clsB (top 3)).getD 0 (.Pass ⟨0, 0, 0, 0⟩)
def tab : Tab := { anc := [("FenceError", ["FenceError"]), ("BadPoint", ["BadPoint", "FenceError"]), ("Misfit", ["Misfit", "FenceError"])], ex := ["FenceError", "BadPoint", "Misfit"], ins := [], fld := [("BadPoint", ["part"]), ("Misfit", ["part"])], bl := ["int", "bool", "tuple", "list"] }
/-! ### what the text computes -/
def g_is_integer : Env → RS :=
  sRet [] (eAnd (eN (isiR tab) (aCons (eV 0) (aCons (eC (.ty "int")) aNil))) (eNot (eN (isiR tab) (aCons (eV 0) (aCons (eC (.ty "bool")) aNil)))))
def d_is_integer : List D → RP := denP 1 1 g_is_integer
def g_is_point : Env → RS :=
  sRet [] (eAnd (eIsiR tab (eV 0) (aCons (eC (.ty "list")) (aCons (eC (.ty "tuple")) (aNil)))) (eAnd (e2 (asBl eqD) (eN lenD (aCons (eV 0) (aNil))) (eC (.int 2))) (eN allD (aCons (eLc [] [1] (iSeq [] (eV 0)) (gN 1) cYes (eCall d_is_integer (aCons (eF [] (eV 1)) (aNil)))) (aNil)))))
def d_is_point : List D → RP := denP 1 2 g_is_point
def g_need_point : Env → RS :=
  sSeq (sIf (cNot (cV (eCall d_is_point (aCons (eF [] (eV 0)) (aNil))))) (sRaise (mkE "BadPoint" ["part"] (aCons (eF [] (eV 1)) (aNil)))) (sNil)) (sRet [] (eN tupleD (aCons (eV 0) (aNil))))
def d_need_point : List D → RP := denP 2 2 g_need_point
def g_are_apart_b1 : Env → RS :=
  sSeq (sPar 5 6 (aCons (eF [] (eN sortTD (aCons (eTup (aCons (eF [] (e2 ixD (eV 0) (eV 4))) (aCons (eF [] (e2 ixD (eV 1) (eV 4))) (aNil)))) (aNil)))) (aCons (eF [] (eN sortTD (aCons (eTup (aCons (eF [] (e2 ixD (eV 2) (eV 4))) (aCons (eF [] (e2 ixD (eV 3) (eV 4))) (aNil)))) (aNil)))) (aNil)))) (sIf (cOr (cB (e2 (asBl ltD) (e2 ixD (eV 5) (eC (.int 1))) (e2 ixD (eV 6) (eC (.int 0))))) (cB (e2 (asBl ltD) (e2 ixD (eV 6) (eC (.int 1))) (e2 ixD (eV 5) (eC (.int 0)))))) (sRet [] (eC (.bl true))) (sNil))
def g_are_apart : Env → RS :=
  sSeq (sFor (iSeq [] (eTup (aCons (eC (.int 0)) (aCons (eC (.int 1)) (aNil))))) (gN 4) (g_are_apart_b1)) (sRet [] (eC (.bl false)))
def d_are_apart : List D → RP := denP 4 7 g_are_apart
def g_cross : Env → RS :=
  sRet [] (e2 subD (e2 mulD (e2 ixD (eV 0) (eC (.int 0))) (e2 ixD (eV 1) (eC (.int 1)))) (e2 mulD (e2 ixD (eV 0) (eC (.int 1))) (e2 ixD (eV 1) (eC (.int 0)))))
def d_cross : List D → RP := denP 2 2 g_cross
def g_way : Env → RS :=
  sRet [] (eTup (aCons (e2 subD (e2 ixD (eV 1) (eC (.int 0))) (e2 ixD (eV 0) (eC (.int 0)))) (aCons (e2 subD (e2 ixD (eV 1) (eC (.int 1))) (e2 ixD (eV 0) (eC (.int 1)))) (aNil))))
def d_way : List D → RP := denP 2 2 g_way
def g_turn_of : Env → RS :=
  sRet [] (eCall d_cross (aCons (eF [] (eCall d_way (aCons (eF [] (eV 0)) (aCons (eF [] (eV 1)) (aNil))))) (aCons (eF [] (eCall d_way (aCons (eF [] (eV 0)) (aCons (eF [] (eV 2)) (aNil))))) (aNil))))
def d_turn_of : List D → RP := denP 3 3 g_turn_of
def g_is_on : Env → RS :=
  sSeq (sIf (cB (e2 (asBl neD) (eCall d_turn_of (aCons (eF [] (eV 1)) (aCons (eF [] (eV 2)) (aCons (eF [] (eV 0)) (aNil))))) (eC (.int 0)))) (sRet [] (eC (.bl false))) (sNil)) (sSeq (sSet [] 3 (eLc [] [4] (iSeq [] (eTup (aCons (eC (.int 0)) (aCons (eC (.int 1)) (aNil))))) (gN 4) cYes (eChain leD leD (eN min2D (aCons (e2 ixD (eV 1) (eV 4)) (aCons (e2 ixD (eV 2) (eV 4)) (aNil)))) (e2 ixD (eV 0) (eV 4)) (eN max2D (aCons (e2 ixD (eV 1) (eV 4)) (aCons (e2 ixD (eV 2) (eV 4)) (aNil))))))) (sRet [] (e2 (asBl eqD) (eV 3) (eLst (aCons (eC (.bl true)) (aCons (eC (.bl true)) (aNil)))))))
def d_is_on : List D → RP := denP 3 5 g_is_on
def g_sign_of : Env → RS :=
  sRet [] (e2 subD (eN intD (aCons (e2 (asBl gtD) (eV 0) (eC (.int 0))) (aNil))) (eN intD (aCons (e2 (asBl ltD) (eV 0) (eC (.int 0))) (aNil))))
def d_sign_of : List D → RP := denP 1 1 g_sign_of
def g_meet_in : Env → RS :=
  sSeq (sIf (cV (eCall d_are_apart (aCons (eF [] (eV 0)) (aCons (eF [] (eV 1)) (aCons (eF [] (eV 2)) (aCons (eF [] (eV 3)) (aNil))))))) (sRet [] (eC (.bl false))) (sNil)) (sSeq (sIf (cOr (cV (eCall d_is_on (aCons (eF [] (eV 2)) (aCons (eF [] (eV 0)) (aCons (eF [] (eV 1)) (aNil)))))) (cV (eCall d_is_on (aCons (eF [] (eV 3)) (aCons (eF [] (eV 0)) (aCons (eF [] (eV 1)) (aNil))))))) (sRet [] (eC (.bl true))) (sNil)) (sSeq (sIf (cOr (cV (eCall d_is_on (aCons (eF [] (eV 0)) (aCons (eF [] (eV 2)) (aCons (eF [] (eV 3)) (aNil)))))) (cV (eCall d_is_on (aCons (eF [] (eV 1)) (aCons (eF [] (eV 2)) (aCons (eF [] (eV 3)) (aNil))))))) (sRet [] (eC (.bl true))) (sNil)) (sSeq (sSet [] 4 (e2 mulD (eCall d_sign_of (aCons (eF [] (eCall d_turn_of (aCons (eF [] (eV 0)) (aCons (eF [] (eV 1)) (aCons (eF [] (eV 2)) (aNil)))))) (aNil))) (eCall d_sign_of (aCons (eF [] (eCall d_turn_of (aCons (eF [] (eV 0)) (aCons (eF [] (eV 1)) (aCons (eF [] (eV 3)) (aNil)))))) (aNil))))) (sRet [] (eAnd (e2 (asBl ltD) (eV 4) (eC (.int 0))) (e2 (asBl ltD) (e2 mulD (eCall d_sign_of (aCons (eF [] (eCall d_turn_of (aCons (eF [] (eV 2)) (aCons (eF [] (eV 3)) (aCons (eF [] (eV 0)) (aNil)))))) (aNil))) (eCall d_sign_of (aCons (eF [] (eCall d_turn_of (aCons (eF [] (eV 2)) (aCons (eF [] (eV 3)) (aCons (eF [] (eV 1)) (aNil)))))) (aNil)))) (eC (.int 0))))))))
def d_meet_in : List D → RP := denP 4 5 g_meet_in
def g_do_meet : Env → RS :=
  sSeq (sPar 4 5 (aCons (eF [] (eCall d_need_point (aCons (eF [] (eV 0)) (aCons (eC (.str "one")) (aNil))))) (aCons (eF [] (eCall d_need_point (aCons (eF [] (eV 1)) (aCons (eC (.str "other")) (aNil))))) (aNil)))) (sRet [] (eCall d_meet_in (aCons (eF [] (eV 4)) (aCons (eF [] (eV 5)) (aCons (eF [] (eCall d_need_point (aCons (eF [] (eV 2)) (aCons (eC (.str "third")) (aNil))))) (aCons (eF [] (eCall d_need_point (aCons (eF [] (eV 3)) (aCons (eC (.str "fourth")) (aNil))))) (aNil)))))))
def d_do_meet : List D → RP := denP 4 6 g_do_meet
def g_side_of : Env → RS :=
  sSeq (sPar3 3 4 5 (aCons (eF [] (eCall d_need_point (aCons (eF [] (eV 0)) (aCons (eC (.str "one")) (aNil))))) (aCons (eF [] (eCall d_need_point (aCons (eF [] (eV 1)) (aCons (eC (.str "other")) (aNil))))) (aCons (eF [] (eCall d_need_point (aCons (eF [] (eV 2)) (aCons (eC (.str "point")) (aNil))))) (aNil))))) (sSeq (sIf (cB (e2 (asBl eqD) (eV 3) (eV 4))) (sRaise (mkE "Misfit" ["part"] (aCons (eC (.str "other")) (aNil)))) (sNil)) (sRet [] (eCall d_sign_of (aCons (eF [] (eCall d_turn_of (aCons (eF [] (eV 3)) (aCons (eF [] (eV 4)) (aCons (eF [] (eV 5)) (aNil)))))) (aNil)))))
def d_side_of : List D → RP := denP 3 6 g_side_of
def g__law_keg : Env → RS :=
  sRet [] (eLst (aCons (eF [] (eLc [] [1] (iSeq [] (eSl (eV 0) (oNone) (oSome (eC (.int 60))))) (gN 1) cYes (eN intD (aCons (eV 1) (aNil))))) (aCons (eC (.int 0)) (aCons (eC (.int 0)) (aNil)))))
def d__law_keg : List D → RP := denP 1 2 g__law_keg
def g__law_pour : Env → RS :=
  sSeq (sIf (cB (e2 (asBl gtD) (e2 ixD (eV 0) (eC (.int 2))) (eC (.int 0)))) (sSeq (sSet [0] 2 (eN intD (aCons (e2 ixD (eV 0) (eC (.int 2))) (aNil)))) (sSeq (sIx 0 (e2 fdivD (eV 2) (eV 1)) (eC (.int 2))) (sRet [0] (e2 modD (eN intD (aCons (eV 2) (aNil))) (eV 1))))) (sNil)) (sSeq (sSet [0] 3 (e2 ixD (eV 0) (eC (.int 1)))) (sSeq (sIx 0 (eF [0] (e2 addD (eV 3) (eC (.int 1)))) (eC (.int 1))) (sSeq (sSet [0] 4 (e2 addD (e2 mulD (eC (.int 59285)) (eV 3)) (eC (.int 7585)))) (sSeq (sIf (cB (e2 (asBl neD) (e2 ixD (eV 0) (eC (.int 0))) (eLst (aNil)))) (sSet [0] 4 (e2 ixD (e2 ixD (eV 0) (eC (.int 0))) (e2 modD (eN intD (aCons (eV 3) (aNil))) (eN lenD (aCons (e2 ixD (eV 0) (eC (.int 0))) (aNil)))))) (sNil)) (sSeq (sIf (cAnd (cB (e2 (asBl ltD) (eV 3) (eN lenD (aCons (e2 ixD (eV 0) (eC (.int 0))) (aNil))))) (cB (e2 (asBl geD) (eN absD (aCons (eV 4) (aNil))) (e2 powD (eC (.int 10)) (eC (.int 18)))))) (sSeq (sSet [0] 2 (e2 addD (e2 mulD (eC (.int 2)) (e2 subD (eN absD (aCons (eV 4) (aNil))) (e2 powD (eC (.int 10)) (eC (.int 18))))) (eN intD (aCons (e2 (asBl ltD) (eV 4) (eC (.int 0))) (aNil))))) (sSeq (sIx 0 (e2 fdivD (eV 2) (eV 1)) (eC (.int 2))) (sRet [0] (e2 modD (eN intD (aCons (eV 2) (aNil))) (eV 1))))) (sNil)) (sSeq (sSet [0] 5 (e2 modD (eN intD (aCons (e2 powD (e2 addD (e2 addD (e2 modD (eN intD (aCons (eV 4) (aNil))) (eC (.int 2147483123))) (e2 mulD (eC (.int 35867)) (eV 3))) (eC (.int 7585))) (eC (.int 5))) (aNil))) (eC (.int 2147483587)))) (sSeq (sSet [0] 5 (e2 modD (eN intD (aCons (e2 powD (e2 addD (e2 addD (e2 mulD (eV 5) (e2 addD (e2 mulD (eC (.int 2)) (eV 3)) (eC (.int 4113)))) (e2 mulD (e2 mulD (eC (.int 59285)) (eV 3)) (eV 3))) (eC (.int 35867))) (eC (.int 3))) (aNil))) (eC (.int 2147483497)))) (sRet [0] (e2 modD (eN intD (aCons (e2 fdivD (eV 5) (eC (.int 64))) (aNil))) (eV 1))))))))))
def d__law_pour : O → List D → RM := denM 2 6 g__law_pour
def g__law_pick : Env → RS :=
  sRet [0] (e2 ixD (eV 1) (eCallM d__law_pour (aCons (eV 0) (aCons (eF [0] (eN lenD (aCons (eV 1) (aNil)))) (aNil)))))
def d__law_pick : O → List D → RM := denM 2 2 g__law_pick
def g__law_point : Env → RS :=
  sSeq (sPar 2 3 (aCons (eF [0] (eCallM d__law_pour (aCons (eV 0) (aCons (eC (.int 5)) (aNil))))) (aCons (eF [0] (eCallM d__law_pour (aCons (eV 0) (aCons (eC (.int 5)) (aNil))))) (aNil)))) (sRet [0] (eTup (aCons (eF [0] (e2 mulD (eV 2) (eV 1))) (aCons (e2 subD (e2 mulD (eV 3) (eV 1)) (eCallM d__law_pick (aCons (eV 0) (aCons (eF [0] (eLst (aCons (eC (.int 0)) (aCons (eC (.int 0)) (aCons (eC (.int 1)) (aNil)))))) (aNil))))) (aNil)))))
def d__law_point : O → List D → RM := denM 2 4 g__law_point
def g__law_way : Env → RS :=
  sRet [] (eTup (aCons (e2 subD (e2 ixD (eV 1) (eC (.int 0))) (e2 ixD (eV 0) (eC (.int 0)))) (aCons (e2 subD (e2 ixD (eV 1) (eC (.int 1))) (e2 ixD (eV 0) (eC (.int 1)))) (aNil))))
def d__law_way : List D → RP := denP 2 2 g__law_way
def g__law_cross : Env → RS :=
  sRet [] (e2 subD (e2 mulD (e2 ixD (eV 0) (eC (.int 0))) (e2 ixD (eV 1) (eC (.int 1)))) (e2 mulD (e2 ixD (eV 0) (eC (.int 1))) (e2 ixD (eV 1) (eC (.int 0)))))
def d__law_cross : List D → RP := denP 2 2 g__law_cross
def g__law_common_b1 : Env → RS :=
  sSeq (sSet [] 14 (eLc [] [15] (iSeq [] (eTup (aCons (eC (.int 0)) (aCons (eC (.int 1)) (aNil))))) (gN 15) cYes (e2 mulD (e2 subD (e2 ixD (eV 11) (eV 15)) (e2 ixD (eV 12) (eV 15))) (e2 subD (e2 ixD (eV 11) (eV 15)) (e2 ixD (eV 13) (eV 15)))))) (sIf (cAnd (cB (e2 (asBl eqD) (eCall d__law_cross (aCons (eF [] (eCall d__law_way (aCons (eF [] (eV 12)) (aCons (eF [] (eV 11)) (aNil))))) (aCons (eF [] (eCall d__law_way (aCons (eF [] (eV 12)) (aCons (eF [] (eV 13)) (aNil))))) (aNil)))) (eC (.int 0)))) (cB (e2 (asBl leD) (eN maxLD (aCons (eV 14) (aNil))) (eC (.int 0))))) (sRet [] (eC (.bl true))) (sNil))
def g__law_common : Env → RS :=
  sSeq (sPar3 4 5 6 (aCons (eF [] (eCall d__law_way (aCons (eF [] (eV 0)) (aCons (eF [] (eV 1)) (aNil))))) (aCons (eF [] (eCall d__law_way (aCons (eF [] (eV 2)) (aCons (eF [] (eV 3)) (aNil))))) (aCons (eF [] (eCall d__law_way (aCons (eF [] (eV 0)) (aCons (eF [] (eV 2)) (aNil))))) (aNil))))) (sSeq (sSet [] 7 (eCall d__law_cross (aCons (eF [] (eV 4)) (aCons (eF [] (eV 5)) (aNil))))) (sSeq (sIf (cB (e2 (asBl neD) (eV 7) (eC (.int 0)))) (sSeq (sPar 8 9 (aCons (eF [] (eCall d__law_cross (aCons (eF [] (eV 6)) (aCons (eF [] (eV 5)) (aNil))))) (aCons (eF [] (eCall d__law_cross (aCons (eF [] (eV 6)) (aCons (eF [] (eV 4)) (aNil))))) (aNil)))) (sRet [] (eAnd (eChain leD leD (eC (.int 0)) (e2 mulD (eV 8) (eV 7)) (e2 mulD (eV 7) (eV 7))) (eChain leD leD (eC (.int 0)) (e2 mulD (eV 9) (eV 7)) (e2 mulD (eV 7) (eV 7)))))) (sNil)) (sSeq (sSet [] 10 (eLst (aCons (eTup (aCons (eF [] (eV 0)) (aCons (eF [] (eV 2)) (aCons (eF [] (eV 3)) (aNil))))) (aCons (eTup (aCons (eF [] (eV 1)) (aCons (eF [] (eV 2)) (aCons (eF [] (eV 3)) (aNil))))) (aCons (eTup (aCons (eF [] (eV 2)) (aCons (eF [] (eV 0)) (aCons (eF [] (eV 1)) (aNil))))) (aCons (eTup (aCons (eF [] (eV 3)) (aCons (eF [] (eV 0)) (aCons (eF [] (eV 1)) (aNil))))) (aNil))))))) (sSeq (sFor (iSeq [] (eV 10)) (gT [gN 11, gN 12, gN 13]) (g__law_common_b1)) (sRet [] (eC (.bl false)))))))
def d__law_common : List D → RP := denP 4 16 g__law_common
def g__law_part_1 : Env → RS :=
  sSet [0] 1 (eC .non)
def g__law_part_r : Env → RS :=
  sSeq (sIf (cV (eIsiR tab (eV 1) (aCons (eC (.cls "BadPoint")) (aCons (eC (.cls "Misfit")) (aNil))))) (sRet [0] (eTup (aCons (eF [0] (eIf (cV (eN (isiR tab) (aCons (eV 1) (aCons (eC (.cls "BadPoint")) aNil)))) (eC (.str "point")) (eC (.str "misfit")))) (aCons (eF [0] (e1 (fldD tab "part") (eV 1))) (aNil))))) (sNil)) (sRet [0] (eIf (cB (e2 (asBl isD) (eV 1) (eC .non))) (eC .non) (eTup (aCons (eC (.str "other")) (aCons (eC .non) (aNil))))))
def d__law_part : RP → RP := denT 3 g__law_part_1 (tab.exm "FenceError") 2 1 g__law_part_r
def g_law_b1 : Env → RS :=
  sSeq (sSet [1000] 3 (eCallM d__law_pick (aCons (eV 1) (aCons (eF [1000] (eLst (aCons (eC (.int 1)) (aCons (eC (.int 1)) (aCons (eC (.int 2)) (aCons (e2 powD (eC (.int 10)) (eC (.int 30))) (aNil))))))) (aNil))))) (sSeq (sUnp (gL [gN 4, gN 5, gN 6, gN 7]) (eF [1000] (eLc [1000] [14] (iR rng1 (aCons (eC (.int 4)) (aNil))) (gN 14) cYes (eCallM d__law_point (aCons (eV 1) (aCons (eF [1000] (eV 3)) (aNil))))))) (sSeq (sSet [1000] 6 (eCallM d__law_pick (aCons (eV 1) (aCons (eF [1000] (eLst (aCons (eF [1000] (eV 6)) (aCons (eF [1000] (eV 4)) (aCons (eTup (aCons (e2 subD (e2 addD (e2 ixD (eV 4) (eC (.int 0))) (e2 ixD (eV 5) (eC (.int 0)))) (e2 ixD (eV 6) (eC (.int 0)))) (aCons (e2 subD (e2 addD (e2 ixD (eV 4) (eC (.int 1))) (e2 ixD (eV 5) (eC (.int 1)))) (e2 ixD (eV 6) (eC (.int 1)))) (aNil)))) (aCons (eTup (aCons (e2 subD (e2 mulD (eC (.int 2)) (e2 ixD (eV 5) (eC (.int 0)))) (e2 ixD (eV 4) (eC (.int 0)))) (aCons (e2 subD (e2 mulD (eC (.int 2)) (e2 ixD (eV 5) (eC (.int 1)))) (e2 ixD (eV 4) (eC (.int 1)))) (aNil)))) (aNil))))))) (aNil))))) (sSeq (sSet [1000] 8 (eCall d__law_common (aCons (eF [1000] (eV 4)) (aCons (eF [1000] (eV 5)) (aCons (eF [1000] (eV 6)) (aCons (eF [1000] (eV 7)) (aNil))))))) (sSeq (sSet [1000] 9 (eLst (aCons (eF [1000] (eCall d_do_meet (aCons (eF [1000] (eV 4)) (aCons (eF [1000] (eV 5)) (aCons (eF [1000] (eV 6)) (aCons (eF [1000] (eV 7)) (aNil))))))) (aCons (eF [1000] (eCall d_do_meet (aCons (eF [1000] (eN listD (aCons (eV 6) (aNil)))) (aCons (eF [1000] (eV 7)) (aCons (eF [1000] (eV 5)) (aCons (eF [1000] (eV 4)) (aNil))))))) (aCons (eF [1000] (eCallK 0 4 [3, 2, 1, 0] d_do_meet aNil (aCons (eF [1000] (eV 5)) (aCons (eF [1000] (eV 4)) (aCons (eF [1000] (eV 6)) (aCons (eF [1000] (eN listD (aCons (eV 7) (aNil)))) (aNil))))))) (aNil)))))) (sSeq (sIf (cOr (cB (e2 (asBl neD) (eN reprX (aCons (eV 9) (aNil))) (eN reprX (aCons (e2 mulD (eLst (aCons (eF [1000] (eV 8)) (aNil))) (eC (.int 3))) (aNil))))) (cB (e2 (asBl isNotD) (eCall d_do_meet (aCons (eF [1000] (eV 4)) (aCons (eF [1000] (eV 4)) (aCons (eF [1000] (eV 4)) (aCons (eF [1000] (eV 7)) (aNil)))))) (eC (.bl true))))) (sRet [1000] (eC (.bl false))) (sNil)) (sIf (cB (e2 (asBl neD) (eV 4) (eV 5))) (sSeq (sSet [1000] 10 (eCall d__law_cross (aCons (eF [1000] (eCall d__law_way (aCons (eF [1000] (eV 4)) (aCons (eF [1000] (eV 5)) (aNil))))) (aCons (eF [1000] (eCall d__law_way (aCons (eF [1000] (eV 4)) (aCons (eF [1000] (eV 6)) (aNil))))) (aNil))))) (sSeq (sSet [1000] 8 (e2 subD (eN intD (aCons (e2 (asBl gtD) (eV 10) (eC (.int 0))) (aNil))) (eN intD (aCons (e2 (asBl ltD) (eV 10) (eC (.int 0))) (aNil))))) (sIf (cB (e2 (asBl neD) (eN reprX (aCons (eLst (aCons (eF [1000] (eCall d_side_of (aCons (eF [1000] (eV 4)) (aCons (eF [1000] (eV 5)) (aCons (eF [1000] (eV 6)) (aNil)))))) (aCons (eF [1000] (eCallK 0 3 [2, 1, 0] d_side_of aNil (aCons (eF [1000] (eN listD (aCons (eV 6) (aNil)))) (aCons (eF [1000] (eV 5)) (aCons (eF [1000] (eV 4)) (aNil)))))) (aCons (eF [1000] (eCall d_side_of (aCons (eF [1000] (eV 5)) (aCons (eF [1000] (eV 4)) (aCons (eF [1000] (eV 6)) (aNil)))))) (aCons (eF [1000] (eCall d_side_of (aCons (eF [1000] (eV 4)) (aCons (eF [1000] (eV 5)) (aCons (eF [1000] (eV 5)) (aNil)))))) (aNil)))))) (aNil))) (eN reprX (aCons (eLst (aCons (eF [1000] (eV 8)) (aCons (eF [1000] (eV 8)) (aCons (e1 negD (eV 8)) (aCons (eC (.int 0)) (aNil)))))) (aNil))))) (sRet [1000] (eC (.bl false))) (sNil)))) (sNil)))))))
def g_law : Env → RS :=
  sSeq (sSet [1000] 1 (eCall d__law_keg (aCons (eF [1000] (eV 0)) (aNil)))) (sSeq (sFor (iR rng1 (aCons (eC (.int 8)) (aNil))) (gN 2) (g_law_b1)) (sSeq (sSet [1000] 11 (eLc [1000] [15] (iR rng1 (aCons (eC (.int 4)) (aNil))) (gN 15) cYes (eCallM d__law_pick (aCons (eV 1) (aCons (eF [1000] (eLst (aCons (eC .non) (aCons (eC (.int 5)) (aCons (eTup (aCons (eC (.int 1)) (aNil))) (aCons (eTup (aCons (eC (.int 1)) (aCons (eC (.bl true)) (aNil)))) (aCons (eC (.str "12")) (aCons (eF [1000] (eLst (aCons (eC (.int 1)) (aCons (eC (.int 2)) (aCons (eC (.int 3)) (aNil)))))) (aCons (eDict []) (aNil)))))))))) (aNil)))))) (sSeq (sSet [1000] 12 (eLc [1000] [16] (iSeq [1000] (eV 11)) (gN 16) cYes (eCallM d__law_pick (aCons (eV 1) (aCons (eF [1000] (eLst (aCons (eTup (aCons (eC (.int 0)) (aCons (eC (.int 0)) (aNil)))) (aCons (eF [1000] (eV 16)) (aNil))))) (aNil)))))) (sSeq (sSet [1000] 13 (eLst (aCons (eF [1000] (eThk [11, 12] (eCall d_side_of (aCons (eF [] (e2 ixD (eV 11) (eC (.int 0)))) (aCons (eF [] (e2 ixD (eV 12) (eC (.int 1)))) (aCons (eF [] (e2 ixD (eV 12) (eC (.int 2)))) (aNil))))) d__law_part)) (aCons (eF [1000] (eThk [11, 12] (eCall d_side_of (aCons (eTup (aCons (eC (.int 1)) (aCons (eC (.int 1)) (aNil)))) (aCons (eF [] (e2 ixD (eV 11) (eC (.int 1)))) (aCons (eF [] (e2 ixD (eV 12) (eC (.int 2)))) (aNil))))) d__law_part)) (aCons (eF [1000] (eThk [11] (eCall d_side_of (aCons (eTup (aCons (eC (.int 1)) (aCons (eC (.int 1)) (aNil)))) (aCons (eF [] (eLst (aCons (eC (.int 1)) (aCons (eC (.int 1)) (aNil))))) (aCons (eF [] (e2 ixD (eV 11) (eC (.int 2)))) (aNil))))) d__law_part)) (aNil)))))) (sSeq (sSet [1000] 13 (e2 addD (eV 13) (eLst (aCons (eF [1000] (eThk [] (eCall d_side_of (aCons (eF [] (eLst (aCons (eC (.int 1)) (aCons (eC (.int 1)) (aNil))))) (aCons (eTup (aCons (eC (.int 1)) (aCons (eC (.int 1)) (aNil)))) (aCons (eTup (aCons (eC (.int 0)) (aCons (eC (.int 0)) (aNil)))) (aNil))))) d__law_part)) (aCons (eF [1000] (eThk [11, 12] (eCall d_do_meet (aCons (eF [] (e2 ixD (eV 11) (eC (.int 0)))) (aCons (eF [] (e2 ixD (eV 12) (eC (.int 1)))) (aCons (eF [] (e2 ixD (eV 12) (eC (.int 2)))) (aCons (eF [] (e2 ixD (eV 12) (eC (.int 3)))) (aNil)))))) d__law_part)) (aNil)))))) (sSeq (sSet [1000] 13 (e2 addD (eV 13) (eLst (aCons (eF [1000] (eThk [11, 12] (eCall d_do_meet (aCons (eTup (aCons (eC (.int 0)) (aCons (eC (.int 1)) (aNil)))) (aCons (eF [] (e2 ixD (eV 11) (eC (.int 1)))) (aCons (eF [] (e2 ixD (eV 12) (eC (.int 2)))) (aCons (eF [] (e2 ixD (eV 12) (eC (.int 3)))) (aNil)))))) d__law_part)) (aCons (eF [1000] (eThk [11, 12] (eCall d_do_meet (aCons (eTup (aCons (eC (.int 0)) (aCons (eC (.int 1)) (aNil)))) (aCons (eTup (aCons (eC (.int 0)) (aCons (eC (.int 0)) (aNil)))) (aCons (eF [] (e2 ixD (eV 11) (eC (.int 2)))) (aCons (eF [] (e2 ixD (eV 12) (eC (.int 3)))) (aNil)))))) d__law_part)) (aNil)))))) (sSeq (sExpr (eBM 13 appD (aCons (eF [1000] (eThk [11] (eCall d_do_meet (aCons (eTup (aCons (eC (.int 0)) (aCons (eC (.int 1)) (aNil)))) (aCons (eTup (aCons (eC (.int 0)) (aCons (eC (.int 0)) (aNil)))) (aCons (eTup (aCons (eC (.int 0)) (aCons (eC (.int 0)) (aNil)))) (aCons (eF [] (e2 ixD (eV 11) (eC (.int 3)))) (aNil)))))) d__law_part)) (aNil)))) (sRet [1000] (e2 (asBl eqD) (eV 13) (eLst (aCons (eTup (aCons (eC (.str "point")) (aCons (eC (.str "one")) (aNil)))) (aCons (eTup (aCons (eC (.str "point")) (aCons (eC (.str "other")) (aNil)))) (aCons (eTup (aCons (eC (.str "point")) (aCons (eC (.str "point")) (aNil)))) (aCons (eTup (aCons (eC (.str "misfit")) (aCons (eC (.str "other")) (aNil)))) (aCons (eTup (aCons (eC (.str "point")) (aCons (eC (.str "one")) (aNil)))) (aCons (eTup (aCons (eC (.str "point")) (aCons (eC (.str "other")) (aNil)))) (aCons (eTup (aCons (eC (.str "point")) (aCons (eC (.str "third")) (aNil)))) (aCons (eTup (aCons (eC (.str "point")) (aCons (eC (.str "fourth")) (aNil)))) (aNil)))))))))))))))))))
def d_law : List D → RP := denP 1 17 g_law
/-! ### the walk -/
structure Txt (P : Program) (w : World) (K : PySem.W.Frag) (mg : Str → Option Value) (base : Heap) : Prop where
  b_abs : mg "abs" = none
  b_all : mg "all" = none
  b_bool : mg "bool" = none
  b_int : mg "int" = none
  b_isinstance : mg "isinstance" = none
  b_len : mg "len" = none
  b_list : mg "list" = none
  b_max : mg "max" = none
  b_min : mg "min" = none
  b_range : mg "range" = none
  b_repr : mg "repr" = none
  b_sorted : mg "sorted" = none
  b_tuple : mg "tuple" = none
  rel : RelOk K mg tab
  e_BadPoint : ErrIs P w K mg base "BadPoint" ["self", "part"] ["part"]
  e_Misfit : ErrIs P w K mg base "Misfit" ["self", "part"] ["part"]
  g_FenceError : GlbIs mg "FenceError"
  g_Misfit : GlbIs mg "Misfit"
  g_BadPoint : GlbIs mg "BadPoint"
section
variable {P : Program} {w : World} {K : PySem.W.Frag} {mg : Str → Option Value} {base : Heap}
theorem sc_BadPoint_init : SupScope ["self", "part"] ["self", "part"] (defScope s_BadPoint_init) := ⟨rfl, rfl, rfl, by decide +kernel, rfl, by decide +kernel, by decide +kernel, by decide +kernel⟩
theorem einit_BadPoint {cc C fI : Addr} {fd : FuncData} (Fn : SupFun2 P K "__init__" "BadPoint.__init__" s_BadPoint_init fI fd cc C) (ST : SupTxt P K mg cc C fd "self") (T : ErrC K C fI ["part"]) : FnG P w K mg base 1 fI fd ["self", "part"] (SpEI C ["part"]) := fn_e1 (N := ["self", "part"]) Fn ST sc_BadPoint_init T rfl rfl rfl rfl rfl (fun _ => rfl) (fun cdv A outer s H E => ps_ost (pe_var (i := 0) rfl (.inl rfl)) (pe_var (i := 1) rfl (.inl rfl)))
theorem sc_Misfit_init : SupScope ["self", "part"] ["self", "part"] (defScope s_Misfit_init) := ⟨rfl, rfl, rfl, by decide +kernel, rfl, by decide +kernel, by decide +kernel, by decide +kernel⟩
theorem einit_Misfit {cc C fI : Addr} {fd : FuncData} (Fn : SupFun2 P K "__init__" "Misfit.__init__" s_Misfit_init fI fd cc C) (ST : SupTxt P K mg cc C fd "self") (T : ErrC K C fI ["part"]) : FnG P w K mg base 1 fI fd ["self", "part"] (SpEI C ["part"]) := fn_e1 (N := ["self", "part"]) Fn ST sc_Misfit_init T rfl rfl rfl rfl rfl (fun _ => rfl) (fun cdv A outer s H E => ps_ost (pe_var (i := 0) rfl (.inl rfl)) (pe_var (i := 1) rfl (.inl rfl)))
theorem kb_do_meet_0 {fa : Addr} {fd : FuncData} (Fn : L2.Fun K "do_meet" "do_meet" s_do_meet fa fd) : KB K fd ["one", "other", "third", "fourth"] 0 ["fourth", "third", "other", "one"] [3, 2, 1, 0] := kb_of Fn fun _ _ _ _ _ _ us ws h1 h2 => match us, ws, h1, h2 with | [], [_, _, _, _], _, _ => rfl
theorem kb_side_of_0 {fa : Addr} {fd : FuncData} (Fn : L2.Fun K "side_of" "side_of" s_side_of fa fd) : KB K fd ["one", "other", "point"] 0 ["point", "other", "one"] [2, 1, 0] := kb_of Fn fun _ _ _ _ _ _ us ws h1 h2 => match us, ws, h1, h2 with | [], [_, _, _], _, _ => rfl
theorem sc_is_integer : FnScope ["value"] ["value"] (defScope s_is_integer) := ⟨rfl, rfl, rfl, by decide +kernel, rfl, by decide +kernel, by decide +kernel⟩
theorem ok_is_integer (T : Txt P w K mg base) {f : Addr} {fd : FuncData} (Fn : L2.Fun K "is_integer" "is_integer" s_is_integer f fd) : FnG P w K mg base 1 f fd ["value"] (SpP ⟨K, mg⟩ d_is_integer) := okPn Fn sc_is_integer rfl rfl fun cdv A outer s H E hr => by
  have cx := cok_b (P := P) (w := w) (K := K) (mg := mg) (base := base) (qual := "is_integer") (f := f) (cdv := cdv) (A := A) (outer := outer) (s := s) (H := H) (E := E) sc_is_integer
  have tk := takes_b (P := P) (w := w) (K := K) (mg := mg) (base := base) (N := ["value"]) (qual := "is_integer") (st := s_is_integer) (f := f) (cdv := cdv) (A := A) (outer := outer) (s := s) (H := H) (E := E)
  have S := sc_is_integer
  refine sss_one ?_
  refine ss_ret ?_
  refine se_and ?_ ?_
  · refine se_callB call_isiY (on_isiR T.rel) T.b_isinstance rfl ?_
    refine sa_cons ?_ ?_
    · exact se_var 0
    refine sa_cons ?_ ?_
    · exact se_ty T.b_int
    exact sa_nil
  refine se_and1 ?_
  refine se_not ?_
  refine se_callB call_isiY (on_isiR T.rel) T.b_isinstance rfl ?_
  refine sa_cons ?_ ?_
  · exact se_var 0
  refine sa_cons ?_ ?_
  · exact se_ty T.b_bool
  exact sa_nil
theorem sc_is_point : FnScope ["value", "each"] ["value"] (defScope s_is_point) := ⟨rfl, rfl, rfl, by decide +kernel, rfl, by decide +kernel, by decide +kernel⟩
theorem ok_is_point (T : Txt P w K mg base) (C_is_integer : Callee P w K mg base "is_integer" "is_integer" s_is_integer ["value"] 1 (SpP ⟨K, mg⟩ d_is_integer)) {f : Addr} {fd : FuncData} (Fn : L2.Fun K "is_point" "is_point" s_is_point f fd) : FnG P w K mg base 2 f fd ["value"] (SpP ⟨K, mg⟩ d_is_point) := okPn Fn sc_is_point rfl rfl fun cdv A outer s H E hr => by
  have cx := cok_b (P := P) (w := w) (K := K) (mg := mg) (base := base) (qual := "is_point") (f := f) (cdv := cdv) (A := A) (outer := outer) (s := s) (H := H) (E := E) sc_is_point
  have tk := takes_b (P := P) (w := w) (K := K) (mg := mg) (base := base) (N := ["value", "each"]) (qual := "is_point") (st := s_is_point) (f := f) (cdv := cdv) (A := A) (outer := outer) (s := s) (H := H) (E := E)
  have S := sc_is_point
  have hk_is_integer : 1 ≤ 1 := by decide
  refine sss_one ?_
  refine ss_ret ?_
  refine se_and ?_ ?_
  · refine se_isiR T.rel rfl T.b_isinstance ?_ ?_
    · exact se_var 0
    refine sa_cons ?_ ?_
    · exact se_ty T.b_list
    refine sa_cons ?_ ?_
    · exact se_ty T.b_tuple
    exact sa_nil
  refine se_and ?_ ?_
  · refine se_cmp (or_eq hr.r) o2_eq ?_ ?_
    · refine se_callB call_len on_len T.b_len rfl ?_
      refine sa_cons ?_ ?_
      · exact se_var 0
      exact sa_nil
    exact se_int
  refine se_and1 ?_
  refine se_callB (cr_all rfl) on_all T.b_all rfl ?_
  refine sa_cons ?_ ?_
  · refine se_lc cx ?_ (own := [("each", 1)]) (blk_of (by kernel_rfl))
    refine lc0 [1] ?_ (fun _ _ _ _ _ => pg_name (i := 1) S.nd rfl (by first | exact Or.inl rfl | exact Or.inr rfl)) (sg_name 1) (mono_name) (gw_name) ?_
    · refine si_any ?_
      exact se_var 0
    intro _ _ _ _ _
    refine se_call C_is_integer hr takes_wf ?_ (hk := hk_is_integer)
    refine sa_cons ?_ ?_
    · refine se_f ?_
      exact se_var 1
    exact sa_nil
  exact sa_nil
theorem sc_need_point : FnScope ["value", "part"] ["value", "part"] (defScope s_need_point) := ⟨rfl, rfl, rfl, by decide +kernel, rfl, by decide +kernel, by decide +kernel⟩
theorem ok_need_point (T : Txt P w K mg base) (C_is_point : Callee P w K mg base "is_point" "is_point" s_is_point ["value"] 2 (SpP ⟨K, mg⟩ d_is_point)) {f : Addr} {fd : FuncData} (Fn : L2.Fun K "need_point" "need_point" s_need_point f fd) : FnG P w K mg base 3 f fd ["value", "part"] (SpP ⟨K, mg⟩ d_need_point) := okPn Fn sc_need_point rfl rfl fun cdv A outer s H E hr => by
  have cx := cok_b (P := P) (w := w) (K := K) (mg := mg) (base := base) (qual := "need_point") (f := f) (cdv := cdv) (A := A) (outer := outer) (s := s) (H := H) (E := E) sc_need_point
  have tk := takes_b (P := P) (w := w) (K := K) (mg := mg) (base := base) (N := ["value", "part"]) (qual := "need_point") (st := s_need_point) (f := f) (cdv := cdv) (A := A) (outer := outer) (s := s) (H := H) (E := E)
  have S := sc_need_point
  have hk_is_point : 2 ≤ 2 := by decide
  have hk_err : 2 ≤ 2 := by decide
  refine sss_cons ?_ ?_
  · refine ss_if ?_ ?_ ?_
    · refine st_not ?_
      refine st_v ?_
      refine se_call C_is_point hr tk ?_ (hk := hk_is_point)
      refine sa_cons ?_ ?_
      · refine se_f ?_
        exact se_var 0
      exact sa_nil
    · refine sss_one ?_
      refine ss_raise cx tk ?_
      refine sm_err T.e_BadPoint hr ?_ (hk := hk_err)
      refine sa_cons ?_ ?_
      · refine se_f ?_
        exact se_var 1
      exact sa_nil
    exact sss_nil
  refine sss_one ?_
  refine ss_ret ?_
  refine se_callTy call_tuple_of on_tuple T.b_tuple rfl ?_
  refine sa_cons ?_ ?_
  · exact se_var 0
  exact sa_nil
theorem sc_are_apart : FnScope ["one", "other", "third", "fourth", "at", "mine", "its"] ["one", "other", "third", "fourth"] (defScope s_are_apart) := ⟨rfl, rfl, rfl, by decide +kernel, rfl, by decide +kernel, by decide +kernel⟩
theorem ok_are_apart (T : Txt P w K mg base) {f : Addr} {fd : FuncData} (Fn : L2.Fun K "are_apart" "are_apart" s_are_apart f fd) : FnG P w K mg base 1 f fd ["one", "other", "third", "fourth"] (SpP ⟨K, mg⟩ d_are_apart) := okPn Fn sc_are_apart rfl rfl fun cdv A outer s H E hr => by
  have cx := cok_b (P := P) (w := w) (K := K) (mg := mg) (base := base) (qual := "are_apart") (f := f) (cdv := cdv) (A := A) (outer := outer) (s := s) (H := H) (E := E) sc_are_apart
  have tk := takes_b (P := P) (w := w) (K := K) (mg := mg) (base := base) (N := ["one", "other", "third", "fourth", "at", "mine", "its"]) (qual := "are_apart") (st := s_are_apart) (f := f) (cdv := cdv) (A := A) (outer := outer) (s := s) (H := H) (E := E)
  have S := sc_are_apart
  refine sss_cons ?_ ?_
  · refine ss_for cx ?_ (pg_name (i := 4) S.nd rfl (by first | exact Or.inl rfl | exact Or.inr rfl)) (sg_name 4) ?_
    · refine si_any ?_
      refine se_tup ?_
      refine sa_cons ?_ ?_
      · exact se_int
      refine sa_cons ?_ ?_
      · exact se_int
      exact sa_nil
    refine sss_cons ?_ ?_
    · refine ss_par cx 5 6 ?_
      refine sa_cons ?_ ?_
      · refine se_f ?_
        refine se_callB cr_sortT on_sortT T.b_sorted rfl ?_
        refine sa_cons ?_ ?_
        · refine se_tup ?_
          refine sa_cons ?_ ?_
          · refine se_f ?_
            refine se_sub_ix ?_ ?_
            · exact se_var 0
            exact se_var 4
          refine sa_cons ?_ ?_
          · refine se_f ?_
            refine se_sub_ix ?_ ?_
            · exact se_var 1
            exact se_var 4
          exact sa_nil
        exact sa_nil
      refine sa_cons ?_ ?_
      · refine se_f ?_
        refine se_callB cr_sortT on_sortT T.b_sorted rfl ?_
        refine sa_cons ?_ ?_
        · refine se_tup ?_
          refine sa_cons ?_ ?_
          · refine se_f ?_
            refine se_sub_ix ?_ ?_
            · exact se_var 2
            exact se_var 4
          refine sa_cons ?_ ?_
          · refine se_f ?_
            refine se_sub_ix ?_ ?_
            · exact se_var 3
            exact se_var 4
          exact sa_nil
        exact sa_nil
      exact sa_nil
    refine sss_one ?_
    refine ss_if ?_ ?_ ?_
    · refine st_w ?_
      refine sw_or ?_ ?_
      · refine st_cmp op_lt o2_lt ?_ ?_
        · refine se_sub_ix ?_ ?_
          · exact se_var 5
          exact se_int
        refine se_sub_ix ?_ ?_
        · exact se_var 6
        exact se_int
      refine sw_or1 ?_
      refine st_cmp op_lt o2_lt ?_ ?_
      · refine se_sub_ix ?_ ?_
        · exact se_var 6
        exact se_int
      refine se_sub_ix ?_ ?_
      · exact se_var 5
      exact se_int
    · refine sss_one ?_
      refine ss_ret ?_
      exact se_bl
    exact sss_nil
  refine sss_one ?_
  refine ss_ret ?_
  exact se_bl
theorem sc_cross : FnScope ["one", "other"] ["one", "other"] (defScope s_cross) := ⟨rfl, rfl, rfl, by decide +kernel, rfl, by decide +kernel, by decide +kernel⟩
theorem ok_cross (T : Txt P w K mg base) {f : Addr} {fd : FuncData} (Fn : L2.Fun K "cross" "cross" s_cross f fd) : FnG P w K mg base 1 f fd ["one", "other"] (SpP ⟨K, mg⟩ d_cross) := okPn Fn sc_cross rfl rfl fun cdv A outer s H E hr => by
  have cx := cok_b (P := P) (w := w) (K := K) (mg := mg) (base := base) (qual := "cross") (f := f) (cdv := cdv) (A := A) (outer := outer) (s := s) (H := H) (E := E) sc_cross
  have tk := takes_b (P := P) (w := w) (K := K) (mg := mg) (base := base) (N := ["one", "other"]) (qual := "cross") (st := s_cross) (f := f) (cdv := cdv) (A := A) (outer := outer) (s := s) (H := H) (E := E)
  have S := sc_cross
  refine sss_one ?_
  refine ss_ret ?_
  refine se_sub ?_ ?_
  · refine se_mul ?_ ?_
    · refine se_sub_ix ?_ ?_
      · exact se_var 0
      exact se_int
    refine se_sub_ix ?_ ?_
    · exact se_var 1
    exact se_int
  refine se_mul ?_ ?_
  · refine se_sub_ix ?_ ?_
    · exact se_var 0
    exact se_int
  refine se_sub_ix ?_ ?_
  · exact se_var 1
  exact se_int
theorem sc_way : FnScope ["one", "other"] ["one", "other"] (defScope s_way) := ⟨rfl, rfl, rfl, by decide +kernel, rfl, by decide +kernel, by decide +kernel⟩
theorem ok_way (T : Txt P w K mg base) {f : Addr} {fd : FuncData} (Fn : L2.Fun K "way" "way" s_way f fd) : FnG P w K mg base 1 f fd ["one", "other"] (SpP ⟨K, mg⟩ d_way) := okPn Fn sc_way rfl rfl fun cdv A outer s H E hr => by
  have cx := cok_b (P := P) (w := w) (K := K) (mg := mg) (base := base) (qual := "way") (f := f) (cdv := cdv) (A := A) (outer := outer) (s := s) (H := H) (E := E) sc_way
  have tk := takes_b (P := P) (w := w) (K := K) (mg := mg) (base := base) (N := ["one", "other"]) (qual := "way") (st := s_way) (f := f) (cdv := cdv) (A := A) (outer := outer) (s := s) (H := H) (E := E)
  have S := sc_way
  refine sss_one ?_
  refine ss_ret ?_
  refine se_tup ?_
  refine sa_cons ?_ ?_
  · refine se_sub ?_ ?_
    · refine se_sub_ix ?_ ?_
      · exact se_var 1
      exact se_int
    refine se_sub_ix ?_ ?_
    · exact se_var 0
    exact se_int
  refine sa_cons ?_ ?_
  · refine se_sub ?_ ?_
    · refine se_sub_ix ?_ ?_
      · exact se_var 1
      exact se_int
    refine se_sub_ix ?_ ?_
    · exact se_var 0
    exact se_int
  exact sa_nil
theorem sc_turn_of : FnScope ["one", "other", "point"] ["one", "other", "point"] (defScope s_turn_of) := ⟨rfl, rfl, rfl, by decide +kernel, rfl, by decide +kernel, by decide +kernel⟩
theorem ok_turn_of (T : Txt P w K mg base) (C_cross : Callee P w K mg base "cross" "cross" s_cross ["one", "other"] 1 (SpP ⟨K, mg⟩ d_cross)) (C_way : Callee P w K mg base "way" "way" s_way ["one", "other"] 1 (SpP ⟨K, mg⟩ d_way)) {f : Addr} {fd : FuncData} (Fn : L2.Fun K "turn_of" "turn_of" s_turn_of f fd) : FnG P w K mg base 2 f fd ["one", "other", "point"] (SpP ⟨K, mg⟩ d_turn_of) := okPn Fn sc_turn_of rfl rfl fun cdv A outer s H E hr => by
  have cx := cok_b (P := P) (w := w) (K := K) (mg := mg) (base := base) (qual := "turn_of") (f := f) (cdv := cdv) (A := A) (outer := outer) (s := s) (H := H) (E := E) sc_turn_of
  have tk := takes_b (P := P) (w := w) (K := K) (mg := mg) (base := base) (N := ["one", "other", "point"]) (qual := "turn_of") (st := s_turn_of) (f := f) (cdv := cdv) (A := A) (outer := outer) (s := s) (H := H) (E := E)
  have S := sc_turn_of
  have hk_cross : 1 ≤ 1 := by decide
  have hk_way : 1 ≤ 1 := by decide
  refine sss_one ?_
  refine ss_ret ?_
  refine se_call C_cross hr tk ?_ (hk := hk_cross)
  refine sa_cons ?_ ?_
  · refine se_f ?_
    refine se_call C_way hr tk ?_ (hk := hk_way)
    refine sa_cons ?_ ?_
    · refine se_f ?_
      exact se_var 0
    refine sa_cons ?_ ?_
    · refine se_f ?_
      exact se_var 1
    exact sa_nil
  refine sa_cons ?_ ?_
  · refine se_f ?_
    refine se_call C_way hr tk ?_ (hk := hk_way)
    refine sa_cons ?_ ?_
    · refine se_f ?_
      exact se_var 0
    refine sa_cons ?_ ?_
    · refine se_f ?_
      exact se_var 2
    exact sa_nil
  exact sa_nil
theorem sc_is_on : FnScope ["point", "one", "other", "within", "at"] ["point", "one", "other"] (defScope s_is_on) := ⟨rfl, rfl, rfl, by decide +kernel, rfl, by decide +kernel, by decide +kernel⟩
theorem ok_is_on (T : Txt P w K mg base) (C_turn_of : Callee P w K mg base "turn_of" "turn_of" s_turn_of ["one", "other", "point"] 2 (SpP ⟨K, mg⟩ d_turn_of)) {f : Addr} {fd : FuncData} (Fn : L2.Fun K "is_on" "is_on" s_is_on f fd) : FnG P w K mg base 3 f fd ["point", "one", "other"] (SpP ⟨K, mg⟩ d_is_on) := okPn Fn sc_is_on rfl rfl fun cdv A outer s H E hr => by
  have cx := cok_b (P := P) (w := w) (K := K) (mg := mg) (base := base) (qual := "is_on") (f := f) (cdv := cdv) (A := A) (outer := outer) (s := s) (H := H) (E := E) sc_is_on
  have tk := takes_b (P := P) (w := w) (K := K) (mg := mg) (base := base) (N := ["point", "one", "other", "within", "at"]) (qual := "is_on") (st := s_is_on) (f := f) (cdv := cdv) (A := A) (outer := outer) (s := s) (H := H) (E := E)
  have S := sc_is_on
  have hk_turn_of : 2 ≤ 2 := by decide
  refine sss_cons ?_ ?_
  · refine ss_if ?_ ?_ ?_
    · refine st_cmp (or_ne hr.r) o2_ne ?_ ?_
      · refine se_call C_turn_of hr tk ?_ (hk := hk_turn_of)
        refine sa_cons ?_ ?_
        · refine se_f ?_
          exact se_var 1
        refine sa_cons ?_ ?_
        · refine se_f ?_
          exact se_var 2
        refine sa_cons ?_ ?_
        · refine se_f ?_
          exact se_var 0
        exact sa_nil
      exact se_int
    · refine sss_one ?_
      refine ss_ret ?_
      exact se_bl
    exact sss_nil
  refine sss_cons ?_ ?_
  · refine ss_setLc cx 3 ?_ (own := [("at", 4)]) (blk_of (by kernel_rfl)) ?_
    · refine lc0 [4] ?_ (fun _ _ _ _ _ => pg_name (i := 4) S.nd rfl (by first | exact Or.inl rfl | exact Or.inr rfl)) (sg_name 4) (mono_name) (gw_name) ?_
      · refine si_any ?_
        refine se_tup ?_
        refine sa_cons ?_ ?_
        · exact se_int
        refine sa_cons ?_ ?_
        · exact se_int
        exact sa_nil
      intro _ _ _ _ _
      refine se_chain op_le o2_le op_le o2_le ?_ ?_ ?_
      · refine se_callB (call_min2 rfl) on_min2 T.b_min rfl ?_
        refine sa_cons ?_ ?_
        · refine se_sub_ix ?_ ?_
          · exact se_var 1
          exact se_var 4
        refine sa_cons ?_ ?_
        · refine se_sub_ix ?_ ?_
          · exact se_var 2
          exact se_var 4
        exact sa_nil
      · refine se_sub_ix ?_ ?_
        · exact se_var 0
        exact se_var 4
      refine se_callB (call_max2 rfl) on_max2 T.b_max rfl ?_
      refine sa_cons ?_ ?_
      · refine se_sub_ix ?_ ?_
        · exact se_var 1
        exact se_var 4
      refine sa_cons ?_ ?_
      · refine se_sub_ix ?_ ?_
        · exact se_var 2
        exact se_var 4
      exact sa_nil
    exact sw_true rfl rfl rfl rfl
  refine sss_one ?_
  refine ss_ret ?_
  refine se_cmp (or_eq hr.r) o2_eq ?_ ?_
  · exact se_var 3
  refine se_lst ?_
  refine sa_cons ?_ ?_
  · exact se_bl
  refine sa_cons ?_ ?_
  · exact se_bl
  exact sa_nil
theorem sc_sign_of : FnScope ["number"] ["number"] (defScope s_sign_of) := ⟨rfl, rfl, rfl, by decide +kernel, rfl, by decide +kernel, by decide +kernel⟩
theorem ok_sign_of (T : Txt P w K mg base) {f : Addr} {fd : FuncData} (Fn : L2.Fun K "sign_of" "sign_of" s_sign_of f fd) : FnG P w K mg base 1 f fd ["number"] (SpP ⟨K, mg⟩ d_sign_of) := okPn Fn sc_sign_of rfl rfl fun cdv A outer s H E hr => by
  have cx := cok_b (P := P) (w := w) (K := K) (mg := mg) (base := base) (qual := "sign_of") (f := f) (cdv := cdv) (A := A) (outer := outer) (s := s) (H := H) (E := E) sc_sign_of
  have tk := takes_b (P := P) (w := w) (K := K) (mg := mg) (base := base) (N := ["number"]) (qual := "sign_of") (st := s_sign_of) (f := f) (cdv := cdv) (A := A) (outer := outer) (s := s) (H := H) (E := E)
  have S := sc_sign_of
  refine sss_one ?_
  refine ss_ret ?_
  refine se_sub ?_ ?_
  · refine se_callTy call_int1 on_int T.b_int rfl ?_
    refine sa_cons ?_ ?_
    · refine se_cmp op_gt o2_gt ?_ ?_
      · exact se_var 0
      exact se_int
    exact sa_nil
  refine se_callTy call_int1 on_int T.b_int rfl ?_
  refine sa_cons ?_ ?_
  · refine se_cmp op_lt o2_lt ?_ ?_
    · exact se_var 0
    exact se_int
  exact sa_nil
theorem sc_meet_in : FnScope ["one", "other", "third", "fourth", "first"] ["one", "other", "third", "fourth"] (defScope s_meet_in) := ⟨rfl, rfl, rfl, by decide +kernel, rfl, by decide +kernel, by decide +kernel⟩
theorem ok_meet_in (T : Txt P w K mg base) (C_are_apart : Callee P w K mg base "are_apart" "are_apart" s_are_apart ["one", "other", "third", "fourth"] 1 (SpP ⟨K, mg⟩ d_are_apart)) (C_is_on : Callee P w K mg base "is_on" "is_on" s_is_on ["point", "one", "other"] 3 (SpP ⟨K, mg⟩ d_is_on)) (C_sign_of : Callee P w K mg base "sign_of" "sign_of" s_sign_of ["number"] 1 (SpP ⟨K, mg⟩ d_sign_of)) (C_turn_of : Callee P w K mg base "turn_of" "turn_of" s_turn_of ["one", "other", "point"] 2 (SpP ⟨K, mg⟩ d_turn_of)) {f : Addr} {fd : FuncData} (Fn : L2.Fun K "meet_in" "meet_in" s_meet_in f fd) : FnG P w K mg base 4 f fd ["one", "other", "third", "fourth"] (SpP ⟨K, mg⟩ d_meet_in) := okPn Fn sc_meet_in rfl rfl fun cdv A outer s H E hr => by
  have cx := cok_b (P := P) (w := w) (K := K) (mg := mg) (base := base) (qual := "meet_in") (f := f) (cdv := cdv) (A := A) (outer := outer) (s := s) (H := H) (E := E) sc_meet_in
  have tk := takes_b (P := P) (w := w) (K := K) (mg := mg) (base := base) (N := ["one", "other", "third", "fourth", "first"]) (qual := "meet_in") (st := s_meet_in) (f := f) (cdv := cdv) (A := A) (outer := outer) (s := s) (H := H) (E := E)
  have S := sc_meet_in
  have hk_are_apart : 1 ≤ 3 := by decide
  have hk_is_on : 3 ≤ 3 := by decide
  have hk_sign_of : 1 ≤ 3 := by decide
  have hk_turn_of : 2 ≤ 3 := by decide
  refine sss_cons ?_ ?_
  · refine ss_if ?_ ?_ ?_
    · refine st_v ?_
      refine se_call C_are_apart hr tk ?_ (hk := hk_are_apart)
      refine sa_cons ?_ ?_
      · refine se_f ?_
        exact se_var 0
      refine sa_cons ?_ ?_
      · refine se_f ?_
        exact se_var 1
      refine sa_cons ?_ ?_
      · refine se_f ?_
        exact se_var 2
      refine sa_cons ?_ ?_
      · refine se_f ?_
        exact se_var 3
      exact sa_nil
    · refine sss_one ?_
      refine ss_ret ?_
      exact se_bl
    exact sss_nil
  refine sss_cons ?_ ?_
  · refine ss_if ?_ ?_ ?_
    · refine st_w ?_
      refine sw_or ?_ ?_
      · refine st_v ?_
        refine se_call C_is_on hr tk ?_ (hk := hk_is_on)
        refine sa_cons ?_ ?_
        · refine se_f ?_
          exact se_var 2
        refine sa_cons ?_ ?_
        · refine se_f ?_
          exact se_var 0
        refine sa_cons ?_ ?_
        · refine se_f ?_
          exact se_var 1
        exact sa_nil
      refine sw_or1 ?_
      refine st_v ?_
      refine se_call C_is_on hr tk ?_ (hk := hk_is_on)
      refine sa_cons ?_ ?_
      · refine se_f ?_
        exact se_var 3
      refine sa_cons ?_ ?_
      · refine se_f ?_
        exact se_var 0
      refine sa_cons ?_ ?_
      · refine se_f ?_
        exact se_var 1
      exact sa_nil
    · refine sss_one ?_
      refine ss_ret ?_
      exact se_bl
    exact sss_nil
  refine sss_cons ?_ ?_
  · refine ss_if ?_ ?_ ?_
    · refine st_w ?_
      refine sw_or ?_ ?_
      · refine st_v ?_
        refine se_call C_is_on hr tk ?_ (hk := hk_is_on)
        refine sa_cons ?_ ?_
        · refine se_f ?_
          exact se_var 0
        refine sa_cons ?_ ?_
        · refine se_f ?_
          exact se_var 2
        refine sa_cons ?_ ?_
        · refine se_f ?_
          exact se_var 3
        exact sa_nil
      refine sw_or1 ?_
      refine st_v ?_
      refine se_call C_is_on hr tk ?_ (hk := hk_is_on)
      refine sa_cons ?_ ?_
      · refine se_f ?_
        exact se_var 1
      refine sa_cons ?_ ?_
      · refine se_f ?_
        exact se_var 2
      refine sa_cons ?_ ?_
      · refine se_f ?_
        exact se_var 3
      exact sa_nil
    · refine sss_one ?_
      refine ss_ret ?_
      exact se_bl
    exact sss_nil
  refine sss_cons ?_ ?_
  · refine ss_set cx 4 ?_
    refine se_mul ?_ ?_
    · refine se_call C_sign_of hr tk ?_ (hk := hk_sign_of)
      refine sa_cons ?_ ?_
      · refine se_f ?_
        refine se_call C_turn_of hr tk ?_ (hk := hk_turn_of)
        refine sa_cons ?_ ?_
        · refine se_f ?_
          exact se_var 0
        refine sa_cons ?_ ?_
        · refine se_f ?_
          exact se_var 1
        refine sa_cons ?_ ?_
        · refine se_f ?_
          exact se_var 2
        exact sa_nil
      exact sa_nil
    refine se_call C_sign_of hr tk ?_ (hk := hk_sign_of)
    refine sa_cons ?_ ?_
    · refine se_f ?_
      refine se_call C_turn_of hr tk ?_ (hk := hk_turn_of)
      refine sa_cons ?_ ?_
      · refine se_f ?_
        exact se_var 0
      refine sa_cons ?_ ?_
      · refine se_f ?_
        exact se_var 1
      refine sa_cons ?_ ?_
      · refine se_f ?_
        exact se_var 3
      exact sa_nil
    exact sa_nil
  refine sss_one ?_
  refine ss_ret ?_
  refine se_and ?_ ?_
  · refine se_cmp op_lt o2_lt ?_ ?_
    · exact se_var 4
    exact se_int
  refine se_and1 ?_
  refine se_cmp op_lt o2_lt ?_ ?_
  · refine se_mul ?_ ?_
    · refine se_call C_sign_of hr tk ?_ (hk := hk_sign_of)
      refine sa_cons ?_ ?_
      · refine se_f ?_
        refine se_call C_turn_of hr tk ?_ (hk := hk_turn_of)
        refine sa_cons ?_ ?_
        · refine se_f ?_
          exact se_var 2
        refine sa_cons ?_ ?_
        · refine se_f ?_
          exact se_var 3
        refine sa_cons ?_ ?_
        · refine se_f ?_
          exact se_var 0
        exact sa_nil
      exact sa_nil
    refine se_call C_sign_of hr tk ?_ (hk := hk_sign_of)
    refine sa_cons ?_ ?_
    · refine se_f ?_
      refine se_call C_turn_of hr tk ?_ (hk := hk_turn_of)
      refine sa_cons ?_ ?_
      · refine se_f ?_
        exact se_var 2
      refine sa_cons ?_ ?_
      · refine se_f ?_
        exact se_var 3
      refine sa_cons ?_ ?_
      · refine se_f ?_
        exact se_var 1
      exact sa_nil
    exact sa_nil
  exact se_int
theorem sc_do_meet : FnScope ["one", "other", "third", "fourth", "first", "second"] ["one", "other", "third", "fourth"] (defScope s_do_meet) := ⟨rfl, rfl, rfl, by decide +kernel, rfl, by decide +kernel, by decide +kernel⟩
theorem ok_do_meet (T : Txt P w K mg base) (C_need_point : Callee P w K mg base "need_point" "need_point" s_need_point ["value", "part"] 3 (SpP ⟨K, mg⟩ d_need_point)) (C_meet_in : Callee P w K mg base "meet_in" "meet_in" s_meet_in ["one", "other", "third", "fourth"] 4 (SpP ⟨K, mg⟩ d_meet_in)) {f : Addr} {fd : FuncData} (Fn : L2.Fun K "do_meet" "do_meet" s_do_meet f fd) : FnG P w K mg base 5 f fd ["one", "other", "third", "fourth"] (SpP ⟨K, mg⟩ d_do_meet) := okPn Fn sc_do_meet rfl rfl fun cdv A outer s H E hr => by
  have cx := cok_b (P := P) (w := w) (K := K) (mg := mg) (base := base) (qual := "do_meet") (f := f) (cdv := cdv) (A := A) (outer := outer) (s := s) (H := H) (E := E) sc_do_meet
  have tk := takes_b (P := P) (w := w) (K := K) (mg := mg) (base := base) (N := ["one", "other", "third", "fourth", "first", "second"]) (qual := "do_meet") (st := s_do_meet) (f := f) (cdv := cdv) (A := A) (outer := outer) (s := s) (H := H) (E := E)
  have S := sc_do_meet
  have hk_need_point : 3 ≤ 4 := by decide
  have hk_meet_in : 4 ≤ 4 := by decide
  refine sss_cons ?_ ?_
  · refine ss_par cx 4 5 ?_
    refine sa_cons ?_ ?_
    · refine se_f ?_
      refine se_call C_need_point hr tk ?_ (hk := hk_need_point)
      refine sa_cons ?_ ?_
      · refine se_f ?_
        exact se_var 0
      refine sa_cons ?_ ?_
      · exact se_str
      exact sa_nil
    refine sa_cons ?_ ?_
    · refine se_f ?_
      refine se_call C_need_point hr tk ?_ (hk := hk_need_point)
      refine sa_cons ?_ ?_
      · refine se_f ?_
        exact se_var 1
      refine sa_cons ?_ ?_
      · exact se_str
      exact sa_nil
    exact sa_nil
  refine sss_one ?_
  refine ss_ret ?_
  refine se_call C_meet_in hr tk ?_ (hk := hk_meet_in)
  refine sa_cons ?_ ?_
  · refine se_f ?_
    exact se_var 4
  refine sa_cons ?_ ?_
  · refine se_f ?_
    exact se_var 5
  refine sa_cons ?_ ?_
  · refine se_f ?_
    refine se_call C_need_point hr tk ?_ (hk := hk_need_point)
    refine sa_cons ?_ ?_
    · refine se_f ?_
      exact se_var 2
    refine sa_cons ?_ ?_
    · exact se_str
    exact sa_nil
  refine sa_cons ?_ ?_
  · refine se_f ?_
    refine se_call C_need_point hr tk ?_ (hk := hk_need_point)
    refine sa_cons ?_ ?_
    · refine se_f ?_
      exact se_var 3
    refine sa_cons ?_ ?_
    · exact se_str
    exact sa_nil
  exact sa_nil
theorem sc_side_of : FnScope ["one", "other", "point", "mine", "its", "told"] ["one", "other", "point"] (defScope s_side_of) := ⟨rfl, rfl, rfl, by decide +kernel, rfl, by decide +kernel, by decide +kernel⟩
theorem ok_side_of (T : Txt P w K mg base) (C_need_point : Callee P w K mg base "need_point" "need_point" s_need_point ["value", "part"] 3 (SpP ⟨K, mg⟩ d_need_point)) (C_sign_of : Callee P w K mg base "sign_of" "sign_of" s_sign_of ["number"] 1 (SpP ⟨K, mg⟩ d_sign_of)) (C_turn_of : Callee P w K mg base "turn_of" "turn_of" s_turn_of ["one", "other", "point"] 2 (SpP ⟨K, mg⟩ d_turn_of)) {f : Addr} {fd : FuncData} (Fn : L2.Fun K "side_of" "side_of" s_side_of f fd) : FnG P w K mg base 4 f fd ["one", "other", "point"] (SpP ⟨K, mg⟩ d_side_of) := okPn Fn sc_side_of rfl rfl fun cdv A outer s H E hr => by
  have cx := cok_b (P := P) (w := w) (K := K) (mg := mg) (base := base) (qual := "side_of") (f := f) (cdv := cdv) (A := A) (outer := outer) (s := s) (H := H) (E := E) sc_side_of
  have tk := takes_b (P := P) (w := w) (K := K) (mg := mg) (base := base) (N := ["one", "other", "point", "mine", "its", "told"]) (qual := "side_of") (st := s_side_of) (f := f) (cdv := cdv) (A := A) (outer := outer) (s := s) (H := H) (E := E)
  have S := sc_side_of
  have hk_need_point : 3 ≤ 3 := by decide
  have hk_sign_of : 1 ≤ 3 := by decide
  have hk_turn_of : 2 ≤ 3 := by decide
  have hk_err : 2 ≤ 3 := by decide
  refine sss_cons ?_ ?_
  · refine ss_par3 cx 3 4 5 ?_
    refine sa_cons ?_ ?_
    · refine se_f ?_
      refine se_call C_need_point hr tk ?_ (hk := hk_need_point)
      refine sa_cons ?_ ?_
      · refine se_f ?_
        exact se_var 0
      refine sa_cons ?_ ?_
      · exact se_str
      exact sa_nil
    refine sa_cons ?_ ?_
    · refine se_f ?_
      refine se_call C_need_point hr tk ?_ (hk := hk_need_point)
      refine sa_cons ?_ ?_
      · refine se_f ?_
        exact se_var 1
      refine sa_cons ?_ ?_
      · exact se_str
      exact sa_nil
    refine sa_cons ?_ ?_
    · refine se_f ?_
      refine se_call C_need_point hr tk ?_ (hk := hk_need_point)
      refine sa_cons ?_ ?_
      · refine se_f ?_
        exact se_var 2
      refine sa_cons ?_ ?_
      · exact se_str
      exact sa_nil
    exact sa_nil
  refine sss_cons ?_ ?_
  · refine ss_if ?_ ?_ ?_
    · refine st_cmp (or_eq hr.r) o2_eq ?_ ?_
      · exact se_var 3
      exact se_var 4
    · refine sss_one ?_
      refine ss_raise cx tk ?_
      refine sm_err T.e_Misfit hr ?_ (hk := hk_err)
      refine sa_cons ?_ ?_
      · exact se_str
      exact sa_nil
    exact sss_nil
  refine sss_one ?_
  refine ss_ret ?_
  refine se_call C_sign_of hr tk ?_ (hk := hk_sign_of)
  refine sa_cons ?_ ?_
  · refine se_f ?_
    refine se_call C_turn_of hr tk ?_ (hk := hk_turn_of)
    refine sa_cons ?_ ?_
    · refine se_f ?_
      exact se_var 3
    refine sa_cons ?_ ?_
    · refine se_f ?_
      exact se_var 4
    refine sa_cons ?_ ?_
    · refine se_f ?_
      exact se_var 5
    exact sa_nil
  exact sa_nil
theorem sc__law_keg : FnScope ["_law_script", "_law_cell"] ["_law_script"] (defScope s__law_keg) := ⟨rfl, rfl, rfl, by decide +kernel, rfl, by decide +kernel, by decide +kernel⟩
theorem ok__law_keg (T : Txt P w K mg base) {f : Addr} {fd : FuncData} (Fn : L2.Fun K "_law_keg" "_law_keg" s__law_keg f fd) : FnG P w K mg base 1 f fd ["_law_script"] (SpP ⟨K, mg⟩ d__law_keg) := okPn Fn sc__law_keg rfl rfl fun cdv A outer s H E hr => by
  have cx := cok_b (P := P) (w := w) (K := K) (mg := mg) (base := base) (qual := "_law_keg") (f := f) (cdv := cdv) (A := A) (outer := outer) (s := s) (H := H) (E := E) sc__law_keg
  have tk := takes_b (P := P) (w := w) (K := K) (mg := mg) (base := base) (N := ["_law_script", "_law_cell"]) (qual := "_law_keg") (st := s__law_keg) (f := f) (cdv := cdv) (A := A) (outer := outer) (s := s) (H := H) (E := E)
  have S := sc__law_keg
  refine sss_one ?_
  refine ss_ret ?_
  refine se_lst ?_
  refine sa_cons ?_ ?_
  · refine se_f ?_
    refine se_lc cx ?_ (own := [("_law_cell", 1)]) (blk_of (by kernel_rfl))
    refine lc0 [1] ?_ (fun _ _ _ _ _ => pg_name (i := 1) S.nd rfl (by first | exact Or.inl rfl | exact Or.inr rfl)) (sg_name 1) (mono_name) (gw_name) ?_
    · refine si_any ?_
      refine se_sl ?_ ?_ ?_
      · exact se_var 0
      · exact so_none
      refine so_some ?_
      exact se_int
    intro _ _ _ _ _
    refine se_callTy call_int1 on_int T.b_int rfl ?_
    refine sa_cons ?_ ?_
    · exact se_var 1
    exact sa_nil
  refine sa_cons ?_ ?_
  · exact se_int
  refine sa_cons ?_ ?_
  · exact se_int
  exact sa_nil
theorem sc__law_pour : FnScope ["_law_keg_here", "_law_many", "_law_rest", "_law_turn", "_law_cell", "_law_mixed"] ["_law_keg_here", "_law_many"] (defScope s__law_pour) := ⟨rfl, rfl, rfl, by decide +kernel, rfl, by decide +kernel, by decide +kernel⟩
theorem ok__law_pour (T : Txt P w K mg base) {f : Addr} {fd : FuncData} (Fn : L2.Fun K "_law_pour" "_law_pour" s__law_pour f fd) : FnG P w K mg base 1 f fd ["_law_keg_here", "_law_many"] (SpM ⟨K, mg⟩ d__law_pour) := okMn Fn sc__law_pour rfl rfl fun cdv A outer s H E hr => by
  have cx := cok_b (P := P) (w := w) (K := K) (mg := mg) (base := base) (qual := "_law_pour") (f := f) (cdv := cdv) (A := A) (outer := outer) (s := s) (H := H) (E := E) sc__law_pour
  have tk := takes_b (P := P) (w := w) (K := K) (mg := mg) (base := base) (N := ["_law_keg_here", "_law_many", "_law_rest", "_law_turn", "_law_cell", "_law_mixed"]) (qual := "_law_pour") (st := s__law_pour) (f := f) (cdv := cdv) (A := A) (outer := outer) (s := s) (H := H) (E := E)
  have S := sc__law_pour
  refine sss_cons ?_ ?_
  · refine ss_if ?_ ?_ ?_
    · refine st_cmp op_gt o2_gt ?_ ?_
      · refine se_sub_ix ?_ ?_
        · exact se_var 0
        exact se_int
      exact se_int
    · refine sss_cons ?_ ?_
      · refine ss_set cx 2 ?_
        refine se_callTy call_int1 on_int T.b_int rfl ?_
        refine sa_cons ?_ ?_
        · refine se_sub_ix ?_ ?_
          · exact se_var 0
          exact se_int
        exact sa_nil
      refine sss_cons ?_ ?_
      · refine ss_ix (i := 0) ?_ ?_
        · refine se_fdiv ?_ ?_
          · exact se_var 2
          exact se_var 1
        exact se_int
      refine sss_one ?_
      refine ss_ret ?_
      refine se_mod ?_ ?_
      · refine se_callTy call_int1 on_int T.b_int rfl ?_
        refine sa_cons ?_ ?_
        · exact se_var 2
        exact sa_nil
      exact se_var 1
    exact sss_nil
  refine sss_cons ?_ ?_
  · refine ss_set cx 3 ?_
    refine se_sub_ix ?_ ?_
    · exact se_var 0
    exact se_int
  refine sss_cons ?_ ?_
  · refine ss_ix (i := 0) ?_ ?_
    · refine se_f ?_
      refine se_add ?_ ?_
      · exact se_var 3
      exact se_int
    exact se_int
  refine sss_cons ?_ ?_
  · refine ss_set cx 4 ?_
    refine se_add ?_ ?_
    · refine se_mul ?_ ?_
      · exact se_int
      exact se_var 3
    exact se_int
  refine sss_cons ?_ ?_
  · refine ss_if ?_ ?_ ?_
    · refine st_cmp (or_ne hr.r) o2_ne ?_ ?_
      · refine se_sub_ix ?_ ?_
        · exact se_var 0
        exact se_int
      refine se_lst ?_
      exact sa_nil
    · refine sss_one ?_
      refine ss_set cx 4 ?_
      refine se_sub_ix ?_ ?_
      · refine se_sub_ix ?_ ?_
        · exact se_var 0
        exact se_int
      refine se_mod ?_ ?_
      · refine se_callTy call_int1 on_int T.b_int rfl ?_
        refine sa_cons ?_ ?_
        · exact se_var 3
        exact sa_nil
      refine se_callB call_len on_len T.b_len rfl ?_
      refine sa_cons ?_ ?_
      · refine se_sub_ix ?_ ?_
        · exact se_var 0
        exact se_int
      exact sa_nil
    exact sss_nil
  refine sss_cons ?_ ?_
  · refine ss_if ?_ ?_ ?_
    · refine st_w ?_
      refine sw_and ?_ ?_
      · refine st_cmp op_lt o2_lt ?_ ?_
        · exact se_var 3
        refine se_callB call_len on_len T.b_len rfl ?_
        refine sa_cons ?_ ?_
        · refine se_sub_ix ?_ ?_
          · exact se_var 0
          exact se_int
        exact sa_nil
      refine sw_and1 ?_
      refine st_cmp op_ge o2_ge ?_ ?_
      · refine se_callB call_abs on_abs T.b_abs rfl ?_
        refine sa_cons ?_ ?_
        · exact se_var 4
        exact sa_nil
      refine se_pow ?_ ?_
      · exact se_int
      exact se_int
    · refine sss_cons ?_ ?_
      · refine ss_set cx 2 ?_
        refine se_add ?_ ?_
        · refine se_mul ?_ ?_
          · exact se_int
          refine se_sub ?_ ?_
          · refine se_callB call_abs on_abs T.b_abs rfl ?_
            refine sa_cons ?_ ?_
            · exact se_var 4
            exact sa_nil
          refine se_pow ?_ ?_
          · exact se_int
          exact se_int
        refine se_callTy call_int1 on_int T.b_int rfl ?_
        refine sa_cons ?_ ?_
        · refine se_cmp op_lt o2_lt ?_ ?_
          · exact se_var 4
          exact se_int
        exact sa_nil
      refine sss_cons ?_ ?_
      · refine ss_ix (i := 0) ?_ ?_
        · refine se_fdiv ?_ ?_
          · exact se_var 2
          exact se_var 1
        exact se_int
      refine sss_one ?_
      refine ss_ret ?_
      refine se_mod ?_ ?_
      · refine se_callTy call_int1 on_int T.b_int rfl ?_
        refine sa_cons ?_ ?_
        · exact se_var 2
        exact sa_nil
      exact se_var 1
    exact sss_nil
  refine sss_cons ?_ ?_
  · refine ss_set cx 5 ?_
    refine se_mod ?_ ?_
    · refine se_callTy call_int1 on_int T.b_int rfl ?_
      refine sa_cons ?_ ?_
      · refine se_pow ?_ ?_
        · refine se_add ?_ ?_
          · refine se_add ?_ ?_
            · refine se_mod ?_ ?_
              · refine se_callTy call_int1 on_int T.b_int rfl ?_
                refine sa_cons ?_ ?_
                · exact se_var 4
                exact sa_nil
              exact se_int
            refine se_mul ?_ ?_
            · exact se_int
            exact se_var 3
          exact se_int
        exact se_int
      exact sa_nil
    exact se_int
  refine sss_cons ?_ ?_
  · refine ss_set cx 5 ?_
    refine se_mod ?_ ?_
    · refine se_callTy call_int1 on_int T.b_int rfl ?_
      refine sa_cons ?_ ?_
      · refine se_pow ?_ ?_
        · refine se_add ?_ ?_
          · refine se_add ?_ ?_
            · refine se_mul ?_ ?_
              · exact se_var 5
              refine se_add ?_ ?_
              · refine se_mul ?_ ?_
                · exact se_int
                exact se_var 3
              exact se_int
            refine se_mul ?_ ?_
            · refine se_mul ?_ ?_
              · exact se_int
              exact se_var 3
            exact se_var 3
          exact se_int
        exact se_int
      exact sa_nil
    exact se_int
  refine sss_one ?_
  refine ss_ret ?_
  refine se_mod ?_ ?_
  · refine se_callTy call_int1 on_int T.b_int rfl ?_
    refine sa_cons ?_ ?_
    · refine se_fdiv ?_ ?_
      · exact se_var 5
      exact se_int
    exact sa_nil
  exact se_var 1
theorem sc__law_pick : FnScope ["_law_keg_here", "_law_some"] ["_law_keg_here", "_law_some"] (defScope s__law_pick) := ⟨rfl, rfl, rfl, by decide +kernel, rfl, by decide +kernel, by decide +kernel⟩
theorem ok__law_pick (T : Txt P w K mg base) (C__law_pour : Callee P w K mg base "_law_pour" "_law_pour" s__law_pour ["_law_keg_here", "_law_many"] 1 (SpM ⟨K, mg⟩ d__law_pour)) {f : Addr} {fd : FuncData} (Fn : L2.Fun K "_law_pick" "_law_pick" s__law_pick f fd) : FnG P w K mg base 2 f fd ["_law_keg_here", "_law_some"] (SpM ⟨K, mg⟩ d__law_pick) := okMn Fn sc__law_pick rfl rfl fun cdv A outer s H E hr => by
  have cx := cok_b (P := P) (w := w) (K := K) (mg := mg) (base := base) (qual := "_law_pick") (f := f) (cdv := cdv) (A := A) (outer := outer) (s := s) (H := H) (E := E) sc__law_pick
  have tk := takes_b (P := P) (w := w) (K := K) (mg := mg) (base := base) (N := ["_law_keg_here", "_law_some"]) (qual := "_law_pick") (st := s__law_pick) (f := f) (cdv := cdv) (A := A) (outer := outer) (s := s) (H := H) (E := E)
  have S := sc__law_pick
  have hk__law_pour : 1 ≤ 1 := by decide
  refine sss_one ?_
  refine ss_ret ?_
  refine se_sub_ix ?_ ?_
  · exact se_var 1
  refine se_callM C__law_pour hr tk ?_ (hk := hk__law_pour)
  refine sa_cons ?_ ?_
  · exact se_var 0
  refine sa_cons ?_ ?_
  · refine se_f ?_
    refine se_callB call_len on_len T.b_len rfl ?_
    refine sa_cons ?_ ?_
    · exact se_var 1
    exact sa_nil
  exact sa_nil
theorem sc__law_point : FnScope ["_law_keg_here", "_law_far", "_law_x", "_law_y"] ["_law_keg_here", "_law_far"] (defScope s__law_point) := ⟨rfl, rfl, rfl, by decide +kernel, rfl, by decide +kernel, by decide +kernel⟩
theorem ok__law_point (T : Txt P w K mg base) (C__law_pour : Callee P w K mg base "_law_pour" "_law_pour" s__law_pour ["_law_keg_here", "_law_many"] 1 (SpM ⟨K, mg⟩ d__law_pour)) (C__law_pick : Callee P w K mg base "_law_pick" "_law_pick" s__law_pick ["_law_keg_here", "_law_some"] 2 (SpM ⟨K, mg⟩ d__law_pick)) {f : Addr} {fd : FuncData} (Fn : L2.Fun K "_law_point" "_law_point" s__law_point f fd) : FnG P w K mg base 3 f fd ["_law_keg_here", "_law_far"] (SpM ⟨K, mg⟩ d__law_point) := okMn Fn sc__law_point rfl rfl fun cdv A outer s H E hr => by
  have cx := cok_b (P := P) (w := w) (K := K) (mg := mg) (base := base) (qual := "_law_point") (f := f) (cdv := cdv) (A := A) (outer := outer) (s := s) (H := H) (E := E) sc__law_point
  have tk := takes_b (P := P) (w := w) (K := K) (mg := mg) (base := base) (N := ["_law_keg_here", "_law_far", "_law_x", "_law_y"]) (qual := "_law_point") (st := s__law_point) (f := f) (cdv := cdv) (A := A) (outer := outer) (s := s) (H := H) (E := E)
  have S := sc__law_point
  have hk__law_pour : 1 ≤ 2 := by decide
  have hk__law_pick : 2 ≤ 2 := by decide
  refine sss_cons ?_ ?_
  · refine ss_par cx 2 3 ?_
    refine sa_cons ?_ ?_
    · refine se_f ?_
      refine se_callM C__law_pour hr tk ?_ (hk := hk__law_pour)
      refine sa_cons ?_ ?_
      · exact se_var 0
      refine sa_cons ?_ ?_
      · exact se_int
      exact sa_nil
    refine sa_cons ?_ ?_
    · refine se_f ?_
      refine se_callM C__law_pour hr tk ?_ (hk := hk__law_pour)
      refine sa_cons ?_ ?_
      · exact se_var 0
      refine sa_cons ?_ ?_
      · exact se_int
      exact sa_nil
    exact sa_nil
  refine sss_one ?_
  refine ss_ret ?_
  refine se_tup ?_
  refine sa_cons ?_ ?_
  · refine se_f ?_
    refine se_mul ?_ ?_
    · exact se_var 2
    exact se_var 1
  refine sa_cons ?_ ?_
  · refine se_sub ?_ ?_
    · refine se_mul ?_ ?_
      · exact se_var 3
      exact se_var 1
    refine se_callM C__law_pick hr tk ?_ (hk := hk__law_pick)
    refine sa_cons ?_ ?_
    · exact se_var 0
    refine sa_cons ?_ ?_
    · refine se_f ?_
      refine se_lst ?_
      refine sa_cons ?_ ?_
      · exact se_int
      refine sa_cons ?_ ?_
      · exact se_int
      refine sa_cons ?_ ?_
      · exact se_int
      exact sa_nil
    exact sa_nil
  exact sa_nil
theorem sc__law_way : FnScope ["_law_one", "_law_other"] ["_law_one", "_law_other"] (defScope s__law_way) := ⟨rfl, rfl, rfl, by decide +kernel, rfl, by decide +kernel, by decide +kernel⟩
theorem ok__law_way (T : Txt P w K mg base) {f : Addr} {fd : FuncData} (Fn : L2.Fun K "_law_way" "_law_way" s__law_way f fd) : FnG P w K mg base 1 f fd ["_law_one", "_law_other"] (SpP ⟨K, mg⟩ d__law_way) := okPn Fn sc__law_way rfl rfl fun cdv A outer s H E hr => by
  have cx := cok_b (P := P) (w := w) (K := K) (mg := mg) (base := base) (qual := "_law_way") (f := f) (cdv := cdv) (A := A) (outer := outer) (s := s) (H := H) (E := E) sc__law_way
  have tk := takes_b (P := P) (w := w) (K := K) (mg := mg) (base := base) (N := ["_law_one", "_law_other"]) (qual := "_law_way") (st := s__law_way) (f := f) (cdv := cdv) (A := A) (outer := outer) (s := s) (H := H) (E := E)
  have S := sc__law_way
  refine sss_one ?_
  refine ss_ret ?_
  refine se_tup ?_
  refine sa_cons ?_ ?_
  · refine se_sub ?_ ?_
    · refine se_sub_ix ?_ ?_
      · exact se_var 1
      exact se_int
    refine se_sub_ix ?_ ?_
    · exact se_var 0
    exact se_int
  refine sa_cons ?_ ?_
  · refine se_sub ?_ ?_
    · refine se_sub_ix ?_ ?_
      · exact se_var 1
      exact se_int
    refine se_sub_ix ?_ ?_
    · exact se_var 0
    exact se_int
  exact sa_nil
theorem sc__law_cross : FnScope ["_law_one", "_law_other"] ["_law_one", "_law_other"] (defScope s__law_cross) := ⟨rfl, rfl, rfl, by decide +kernel, rfl, by decide +kernel, by decide +kernel⟩
theorem ok__law_cross (T : Txt P w K mg base) {f : Addr} {fd : FuncData} (Fn : L2.Fun K "_law_cross" "_law_cross" s__law_cross f fd) : FnG P w K mg base 1 f fd ["_law_one", "_law_other"] (SpP ⟨K, mg⟩ d__law_cross) := okPn Fn sc__law_cross rfl rfl fun cdv A outer s H E hr => by
  have cx := cok_b (P := P) (w := w) (K := K) (mg := mg) (base := base) (qual := "_law_cross") (f := f) (cdv := cdv) (A := A) (outer := outer) (s := s) (H := H) (E := E) sc__law_cross
  have tk := takes_b (P := P) (w := w) (K := K) (mg := mg) (base := base) (N := ["_law_one", "_law_other"]) (qual := "_law_cross") (st := s__law_cross) (f := f) (cdv := cdv) (A := A) (outer := outer) (s := s) (H := H) (E := E)
  have S := sc__law_cross
  refine sss_one ?_
  refine ss_ret ?_
  refine se_sub ?_ ?_
  · refine se_mul ?_ ?_
    · refine se_sub_ix ?_ ?_
      · exact se_var 0
      exact se_int
    refine se_sub_ix ?_ ?_
    · exact se_var 1
    exact se_int
  refine se_mul ?_ ?_
  · refine se_sub_ix ?_ ?_
    · exact se_var 0
    exact se_int
  refine se_sub_ix ?_ ?_
  · exact se_var 1
  exact se_int
theorem sc__law_common : FnScope ["_law_one", "_law_other", "_law_third", "_law_fourth", "_law_by", "_law_its", "_law_gap", "_law_below", "_law_above", "_law_share", "_law_ends", "_law_point_here", "_law_start", "_law_end", "_law_spans", "_law_at"] ["_law_one", "_law_other", "_law_third", "_law_fourth"] (defScope s__law_common) := ⟨rfl, rfl, rfl, by decide +kernel, rfl, by decide +kernel, by decide +kernel⟩
theorem ok__law_common (T : Txt P w K mg base) (C__law_way : Callee P w K mg base "_law_way" "_law_way" s__law_way ["_law_one", "_law_other"] 1 (SpP ⟨K, mg⟩ d__law_way)) (C__law_cross : Callee P w K mg base "_law_cross" "_law_cross" s__law_cross ["_law_one", "_law_other"] 1 (SpP ⟨K, mg⟩ d__law_cross)) {f : Addr} {fd : FuncData} (Fn : L2.Fun K "_law_common" "_law_common" s__law_common f fd) : FnG P w K mg base 2 f fd ["_law_one", "_law_other", "_law_third", "_law_fourth"] (SpP ⟨K, mg⟩ d__law_common) := okPn Fn sc__law_common rfl rfl fun cdv A outer s H E hr => by
  have cx := cok_b (P := P) (w := w) (K := K) (mg := mg) (base := base) (qual := "_law_common") (f := f) (cdv := cdv) (A := A) (outer := outer) (s := s) (H := H) (E := E) sc__law_common
  have tk := takes_b (P := P) (w := w) (K := K) (mg := mg) (base := base) (N := ["_law_one", "_law_other", "_law_third", "_law_fourth", "_law_by", "_law_its", "_law_gap", "_law_below", "_law_above", "_law_share", "_law_ends", "_law_point_here", "_law_start", "_law_end", "_law_spans", "_law_at"]) (qual := "_law_common") (st := s__law_common) (f := f) (cdv := cdv) (A := A) (outer := outer) (s := s) (H := H) (E := E)
  have S := sc__law_common
  have hk__law_way : 1 ≤ 1 := by decide
  have hk__law_cross : 1 ≤ 1 := by decide
  refine sss_cons ?_ ?_
  · refine ss_par3 cx 4 5 6 ?_
    refine sa_cons ?_ ?_
    · refine se_f ?_
      refine se_call C__law_way hr tk ?_ (hk := hk__law_way)
      refine sa_cons ?_ ?_
      · refine se_f ?_
        exact se_var 0
      refine sa_cons ?_ ?_
      · refine se_f ?_
        exact se_var 1
      exact sa_nil
    refine sa_cons ?_ ?_
    · refine se_f ?_
      refine se_call C__law_way hr tk ?_ (hk := hk__law_way)
      refine sa_cons ?_ ?_
      · refine se_f ?_
        exact se_var 2
      refine sa_cons ?_ ?_
      · refine se_f ?_
        exact se_var 3
      exact sa_nil
    refine sa_cons ?_ ?_
    · refine se_f ?_
      refine se_call C__law_way hr tk ?_ (hk := hk__law_way)
      refine sa_cons ?_ ?_
      · refine se_f ?_
        exact se_var 0
      refine sa_cons ?_ ?_
      · refine se_f ?_
        exact se_var 2
      exact sa_nil
    exact sa_nil
  refine sss_cons ?_ ?_
  · refine ss_set cx 7 ?_
    refine se_call C__law_cross hr tk ?_ (hk := hk__law_cross)
    refine sa_cons ?_ ?_
    · refine se_f ?_
      exact se_var 4
    refine sa_cons ?_ ?_
    · refine se_f ?_
      exact se_var 5
    exact sa_nil
  refine sss_cons ?_ ?_
  · refine ss_if ?_ ?_ ?_
    · refine st_cmp (or_ne hr.r) o2_ne ?_ ?_
      · exact se_var 7
      exact se_int
    · refine sss_cons ?_ ?_
      · refine ss_par cx 8 9 ?_
        refine sa_cons ?_ ?_
        · refine se_f ?_
          refine se_call C__law_cross hr tk ?_ (hk := hk__law_cross)
          refine sa_cons ?_ ?_
          · refine se_f ?_
            exact se_var 6
          refine sa_cons ?_ ?_
          · refine se_f ?_
            exact se_var 5
          exact sa_nil
        refine sa_cons ?_ ?_
        · refine se_f ?_
          refine se_call C__law_cross hr tk ?_ (hk := hk__law_cross)
          refine sa_cons ?_ ?_
          · refine se_f ?_
            exact se_var 6
          refine sa_cons ?_ ?_
          · refine se_f ?_
            exact se_var 4
          exact sa_nil
        exact sa_nil
      refine sss_one ?_
      refine ss_ret ?_
      refine se_and ?_ ?_
      · refine se_chain op_le o2_le op_le o2_le ?_ ?_ ?_
        · exact se_int
        · refine se_mul ?_ ?_
          · exact se_var 8
          exact se_var 7
        refine se_mul ?_ ?_
        · exact se_var 7
        exact se_var 7
      refine se_and1 ?_
      refine se_chain op_le o2_le op_le o2_le ?_ ?_ ?_
      · exact se_int
      · refine se_mul ?_ ?_
        · exact se_var 9
        exact se_var 7
      refine se_mul ?_ ?_
      · exact se_var 7
      exact se_var 7
    exact sss_nil
  refine sss_cons ?_ ?_
  · refine ss_set cx 10 ?_
    refine se_lst ?_
    refine sa_cons ?_ ?_
    · refine se_tup ?_
      refine sa_cons ?_ ?_
      · refine se_f ?_
        exact se_var 0
      refine sa_cons ?_ ?_
      · refine se_f ?_
        exact se_var 2
      refine sa_cons ?_ ?_
      · refine se_f ?_
        exact se_var 3
      exact sa_nil
    refine sa_cons ?_ ?_
    · refine se_tup ?_
      refine sa_cons ?_ ?_
      · refine se_f ?_
        exact se_var 1
      refine sa_cons ?_ ?_
      · refine se_f ?_
        exact se_var 2
      refine sa_cons ?_ ?_
      · refine se_f ?_
        exact se_var 3
      exact sa_nil
    refine sa_cons ?_ ?_
    · refine se_tup ?_
      refine sa_cons ?_ ?_
      · refine se_f ?_
        exact se_var 2
      refine sa_cons ?_ ?_
      · refine se_f ?_
        exact se_var 0
      refine sa_cons ?_ ?_
      · refine se_f ?_
        exact se_var 1
      exact sa_nil
    refine sa_cons ?_ ?_
    · refine se_tup ?_
      refine sa_cons ?_ ?_
      · refine se_f ?_
        exact se_var 3
      refine sa_cons ?_ ?_
      · refine se_f ?_
        exact se_var 0
      refine sa_cons ?_ ?_
      · refine se_f ?_
        exact se_var 1
      exact sa_nil
    exact sa_nil
  refine sss_cons ?_ ?_
  · refine ss_for cx ?_ (pg_tup rfl (pgs_cons (pg_name (i := 11) S.nd rfl (by first | exact Or.inl rfl | exact Or.inr rfl)) (pgs_cons (pg_name (i := 12) S.nd rfl (by first | exact Or.inl rfl | exact Or.inr rfl)) (pgs_cons (pg_name (i := 13) S.nd rfl (by first | exact Or.inl rfl | exact Or.inr rfl)) (pgs_nil))))) (sg_tup (sgs_cons (sg_name 11) (sgs_cons (sg_name 12) (sgs_cons (sg_name 13) (sgs_nil))))) ?_
    · refine si_any ?_
      exact se_var 10
    refine sss_cons ?_ ?_
    · refine ss_setLc cx 14 ?_ (own := [("_law_at", 15)]) (blk_of (by kernel_rfl)) ?_
      · refine lc0 [15] ?_ (fun _ _ _ _ _ => pg_name (i := 15) S.nd rfl (by first | exact Or.inl rfl | exact Or.inr rfl)) (sg_name 15) (mono_name) (gw_name) ?_
        · refine si_any ?_
          refine se_tup ?_
          refine sa_cons ?_ ?_
          · exact se_int
          refine sa_cons ?_ ?_
          · exact se_int
          exact sa_nil
        intro _ _ _ _ _
        refine se_mul ?_ ?_
        · refine se_sub ?_ ?_
          · refine se_sub_ix ?_ ?_
            · exact se_var 11
            exact se_var 15
          refine se_sub_ix ?_ ?_
          · exact se_var 12
          exact se_var 15
        refine se_sub ?_ ?_
        · refine se_sub_ix ?_ ?_
          · exact se_var 11
          exact se_var 15
        refine se_sub_ix ?_ ?_
        · exact se_var 13
        exact se_var 15
      exact sw_true rfl rfl rfl rfl
    refine sss_one ?_
    refine ss_if ?_ ?_ ?_
    · refine st_w ?_
      refine sw_and ?_ ?_
      · refine st_cmp (or_eq hr.r) o2_eq ?_ ?_
        · refine se_call C__law_cross hr tk ?_ (hk := hk__law_cross)
          refine sa_cons ?_ ?_
          · refine se_f ?_
            refine se_call C__law_way hr tk ?_ (hk := hk__law_way)
            refine sa_cons ?_ ?_
            · refine se_f ?_
              exact se_var 12
            refine sa_cons ?_ ?_
            · refine se_f ?_
              exact se_var 11
            exact sa_nil
          refine sa_cons ?_ ?_
          · refine se_f ?_
            refine se_call C__law_way hr tk ?_ (hk := hk__law_way)
            refine sa_cons ?_ ?_
            · refine se_f ?_
              exact se_var 12
            refine sa_cons ?_ ?_
            · refine se_f ?_
              exact se_var 13
            exact sa_nil
          exact sa_nil
        exact se_int
      refine sw_and1 ?_
      refine st_cmp op_le o2_le ?_ ?_
      · refine se_callB (cr_max rfl) on_maxL T.b_max rfl ?_
        refine sa_cons ?_ ?_
        · exact se_var 14
        exact sa_nil
      exact se_int
    · refine sss_one ?_
      refine ss_ret ?_
      exact se_bl
    exact sss_nil
  refine sss_one ?_
  refine ss_ret ?_
  exact se_bl
theorem sc__law_part : FnScope ["_law_ask", "_law_caught", "error"] ["_law_ask"] (defScope s__law_part) := ⟨rfl, rfl, rfl, by decide +kernel, rfl, by decide +kernel, by decide +kernel⟩
theorem ok__law_part (T : Txt P w K mg base) (ga : Addr) : ThkOk P w K mg base ["_law_ask", "_law_caught", "error"] "_law_part" s__law_part ga 6 "_law_ask" d__law_part := by
  refine okT (c := tab.exm "FenceError") rfl rfl (by decide) sc__law_part.nd (fun cdv A outer s H E => exm_of T.rel T.g_FenceError) ?_ ?_ (by decide) (by decide) (by decide) rfl rfl rfl (by decide) rfl (Or.inl rfl) (by decide) (by decide) (fun _ _ => rfl) (fun _ _ => rfl)
  · intro cdv A outer s H E hr
    have cx := cok_b (P := P) (w := w) (K := K) (mg := mg) (base := base) (qual := "_law_part") (f := ga) (cdv := cdv) (A := A) (outer := outer) (s := s) (H := H) (E := E) sc__law_part
    have tk := takes_b (P := P) (w := w) (K := K) (mg := mg) (base := base) (N := ["_law_ask", "_law_caught", "error"]) (qual := "_law_part") (st := s__law_part) (f := ga) (cdv := cdv) (A := A) (outer := outer) (s := s) (H := H) (E := E)
    have S := sc__law_part
    refine ss_set cx 1 ?_
    exact se_non
  · intro cdv A outer s H E hr
    have cx := cok_b (P := P) (w := w) (K := K) (mg := mg) (base := base) (qual := "_law_part") (f := ga) (cdv := cdv) (A := A) (outer := outer) (s := s) (H := H) (E := E) sc__law_part
    have tk := takes_b (P := P) (w := w) (K := K) (mg := mg) (base := base) (N := ["_law_ask", "_law_caught", "error"]) (qual := "_law_part") (st := s__law_part) (f := ga) (cdv := cdv) (A := A) (outer := outer) (s := s) (H := H) (E := E)
    have S := sc__law_part
    refine sss_cons ?_ ?_
    · refine ss_if ?_ ?_ ?_
      · refine st_v ?_
        refine se_isiR T.rel rfl T.b_isinstance ?_ ?_
        · exact se_var 1
        refine sa_cons ?_ ?_
        · exact se_glb T.g_BadPoint
        refine sa_cons ?_ ?_
        · exact se_glb T.g_Misfit
        exact sa_nil
      · refine sss_one ?_
        refine ss_ret ?_
        refine se_tup ?_
        refine sa_cons ?_ ?_
        · refine se_f ?_
          refine se_if ?_ ?_ ?_
          · refine st_v ?_
            refine se_callB call_isiY (on_isiR T.rel) T.b_isinstance rfl ?_
            refine sa_cons ?_ ?_
            · exact se_var 1
            refine sa_cons ?_ ?_
            · exact se_glb T.g_BadPoint
            exact sa_nil
          · exact se_str
          exact se_str
        refine sa_cons ?_ ?_
        · refine se_f ?_
          refine se_attr T.rel ?_
          exact se_var 1
        exact sa_nil
      exact sss_nil
    refine sss_one ?_
    refine ss_ret ?_
    refine se_if ?_ ?_ ?_
    · refine st_cmp or_is o2_is ?_ ?_
      · exact se_var 1
      exact se_non
    · exact se_non
    refine se_tup ?_
    refine sa_cons ?_ ?_
    · exact se_str
    refine sa_cons ?_ ?_
    · exact se_non
    exact sa_nil
theorem sc_law : FnScope ["_law_script", "_law_keg_here", "_law_turn", "_law_far", "_law_one", "_law_other", "_law_third", "_law_fourth", "_law_due", "_law_told", "_law_number", "_law_bad", "_law_call", "_law_heard", "_law_end", "_law_spot", "_law_each"] ["_law_script"] (defScope s_law) := ⟨rfl, rfl, rfl, by decide +kernel, rfl, by decide +kernel, by decide +kernel⟩
theorem ok_law (T : Txt P w K mg base) (C__law_keg : Callee P w K mg base "_law_keg" "_law_keg" s__law_keg ["_law_script"] 1 (SpP ⟨K, mg⟩ d__law_keg)) (C__law_pick : Callee P w K mg base "_law_pick" "_law_pick" s__law_pick ["_law_keg_here", "_law_some"] 2 (SpM ⟨K, mg⟩ d__law_pick)) (C__law_point : Callee P w K mg base "_law_point" "_law_point" s__law_point ["_law_keg_here", "_law_far"] 3 (SpM ⟨K, mg⟩ d__law_point)) (C__law_common : Callee P w K mg base "_law_common" "_law_common" s__law_common ["_law_one", "_law_other", "_law_third", "_law_fourth"] 2 (SpP ⟨K, mg⟩ d__law_common)) (C_do_meet : Callee P w K mg base "do_meet" "do_meet" s_do_meet ["one", "other", "third", "fourth"] 5 (SpP ⟨K, mg⟩ d_do_meet)) (C__law_cross : Callee P w K mg base "_law_cross" "_law_cross" s__law_cross ["_law_one", "_law_other"] 1 (SpP ⟨K, mg⟩ d__law_cross)) (C__law_way : Callee P w K mg base "_law_way" "_law_way" s__law_way ["_law_one", "_law_other"] 1 (SpP ⟨K, mg⟩ d__law_way)) (C_side_of : Callee P w K mg base "side_of" "side_of" s_side_of ["one", "other", "point"] 4 (SpP ⟨K, mg⟩ d_side_of)) (C__law_part : CThk P w K mg base "_law_part" s__law_part ["_law_ask", "_law_caught", "error"] "_law_ask" 6 d__law_part) {f : Addr} {fd : FuncData} (Fn : L2.Fun K "law" "law" s_law f fd) (nm : mg "law" = some (.ref f)) {cL Pt : Addr} (hc : fd.code = .ref cL) (TB : LamX.TabB base mg cL Pt) : FnG P w K mg base 8 f fd ["_law_script"] (SpL ⟨K, mg⟩ d_law Pt) := okL Fn sc_law rfl rfl nm hc TB fun cdv A outer s H E hcd hr => by
  have cx := cok_b (P := P) (w := w) (K := K) (mg := mg) (base := base) (qual := "law") (f := f) (cdv := cdv) (A := A) (outer := outer) (s := s) (H := H) (E := E) sc_law
  have tk := takes_b (P := P) (w := w) (K := K) (mg := mg) (base := base) (N := ["_law_script", "_law_keg_here", "_law_turn", "_law_far", "_law_one", "_law_other", "_law_third", "_law_fourth", "_law_due", "_law_told", "_law_number", "_law_bad", "_law_call", "_law_heard", "_law_end", "_law_spot", "_law_each"]) (qual := "law") (st := s_law) (f := f) (cdv := cdv) (A := A) (outer := outer) (s := s) (H := H) (E := E)
  have S := sc_law
  have hlaw := law_code (P := P) (w := w) (base := base) (N := ["_law_script", "_law_keg_here", "_law_turn", "_law_far", "_law_one", "_law_other", "_law_third", "_law_fourth", "_law_due", "_law_told", "_law_number", "_law_bad", "_law_call", "_law_heard", "_law_end", "_law_spot", "_law_each"]) (A := A) (outer := outer) (s := s) (H := H) (E := E) Fn nm hcd
  have hk__law_keg : 1 ≤ 7 := by decide
  have hk__law_pick : 2 ≤ 7 := by decide
  have hk__law_point : 3 ≤ 7 := by decide
  have hk__law_common : 2 ≤ 7 := by decide
  have hk_do_meet : 5 ≤ 7 := by decide
  have hk__law_cross : 1 ≤ 7 := by decide
  have hk__law_way : 1 ≤ 7 := by decide
  have hk_side_of : 4 ≤ 7 := by decide
  have hk__law_part : 7 ≤ 7 := by decide
  refine sss_cons ?_ ?_
  · refine ss_set cx 1 ?_
    refine se_call C__law_keg hr tk ?_ (hk := hk__law_keg)
    refine sa_cons ?_ ?_
    · refine se_f ?_
      exact se_var 0
    exact sa_nil
  refine sss_cons ?_ ?_
  · refine ss_for cx ?_ (pg_name (i := 2) S.nd rfl (by first | exact Or.inl rfl | exact Or.inr rfl)) (sg_name 2) ?_
    · refine si_range1 T.b_range ?_
      refine sa_cons ?_ ?_
      · exact se_int
      exact sa_nil
    refine sss_cons ?_ ?_
    · refine ss_set cx 3 ?_
      refine se_callM C__law_pick hr tk ?_ (hk := hk__law_pick)
      refine sa_cons ?_ ?_
      · exact se_var 1
      refine sa_cons ?_ ?_
      · refine se_f ?_
        refine se_lst ?_
        refine sa_cons ?_ ?_
        · exact se_int
        refine sa_cons ?_ ?_
        · exact se_int
        refine sa_cons ?_ ?_
        · exact se_int
        refine sa_cons ?_ ?_
        · refine se_pow ?_ ?_
          · exact se_int
          exact se_int
        exact sa_nil
      exact sa_nil
    refine sss_cons ?_ ?_
    · refine ss_unp ?_ (pg_lst rfl (pgs_cons (pg_name (i := 4) S.nd rfl (by first | exact Or.inl rfl | exact Or.inr rfl)) (pgs_cons (pg_name (i := 5) S.nd rfl (by first | exact Or.inl rfl | exact Or.inr rfl)) (pgs_cons (pg_name (i := 6) S.nd rfl (by first | exact Or.inl rfl | exact Or.inr rfl)) (pgs_cons (pg_name (i := 7) S.nd rfl (by first | exact Or.inl rfl | exact Or.inr rfl)) (pgs_nil)))))) (sg_lst (sgs_cons (sg_name 4) (sgs_cons (sg_name 5) (sgs_cons (sg_name 6) (sgs_cons (sg_name 7) (sgs_nil))))))
      refine se_f ?_
      refine se_lc cx ?_ (own := [("_law_end", 14)]) (blk_of (by kernel_rfl))
      refine lc0 [14] ?_ (fun _ _ _ _ _ => pg_name (i := 14) S.nd rfl (by first | exact Or.inl rfl | exact Or.inr rfl)) (sg_name 14) (mono_name) (gw_name) ?_
      · refine si_range1 T.b_range ?_
        refine sa_cons ?_ ?_
        · exact se_int
        exact sa_nil
      intro _ _ _ _ _
      refine se_callM C__law_point hr takes_wf ?_ (hk := hk__law_point)
      refine sa_cons ?_ ?_
      · exact se_var 1
      refine sa_cons ?_ ?_
      · refine se_f ?_
        exact se_var 3
      exact sa_nil
    refine sss_cons ?_ ?_
    · refine ss_set cx 6 ?_
      refine se_callM C__law_pick hr tk ?_ (hk := hk__law_pick)
      refine sa_cons ?_ ?_
      · exact se_var 1
      refine sa_cons ?_ ?_
      · refine se_f ?_
        refine se_lst ?_
        refine sa_cons ?_ ?_
        · refine se_f ?_
          exact se_var 6
        refine sa_cons ?_ ?_
        · refine se_f ?_
          exact se_var 4
        refine sa_cons ?_ ?_
        · refine se_tup ?_
          refine sa_cons ?_ ?_
          · refine se_sub ?_ ?_
            · refine se_add ?_ ?_
              · refine se_sub_ix ?_ ?_
                · exact se_var 4
                exact se_int
              refine se_sub_ix ?_ ?_
              · exact se_var 5
              exact se_int
            refine se_sub_ix ?_ ?_
            · exact se_var 6
            exact se_int
          refine sa_cons ?_ ?_
          · refine se_sub ?_ ?_
            · refine se_add ?_ ?_
              · refine se_sub_ix ?_ ?_
                · exact se_var 4
                exact se_int
              refine se_sub_ix ?_ ?_
              · exact se_var 5
              exact se_int
            refine se_sub_ix ?_ ?_
            · exact se_var 6
            exact se_int
          exact sa_nil
        refine sa_cons ?_ ?_
        · refine se_tup ?_
          refine sa_cons ?_ ?_
          · refine se_sub ?_ ?_
            · refine se_mul ?_ ?_
              · exact se_int
              refine se_sub_ix ?_ ?_
              · exact se_var 5
              exact se_int
            refine se_sub_ix ?_ ?_
            · exact se_var 4
            exact se_int
          refine sa_cons ?_ ?_
          · refine se_sub ?_ ?_
            · refine se_mul ?_ ?_
              · exact se_int
              refine se_sub_ix ?_ ?_
              · exact se_var 5
              exact se_int
            refine se_sub_ix ?_ ?_
            · exact se_var 4
            exact se_int
          exact sa_nil
        exact sa_nil
      exact sa_nil
    refine sss_cons ?_ ?_
    · refine ss_set cx 8 ?_
      refine se_call C__law_common hr tk ?_ (hk := hk__law_common)
      refine sa_cons ?_ ?_
      · refine se_f ?_
        exact se_var 4
      refine sa_cons ?_ ?_
      · refine se_f ?_
        exact se_var 5
      refine sa_cons ?_ ?_
      · refine se_f ?_
        exact se_var 6
      refine sa_cons ?_ ?_
      · refine se_f ?_
        exact se_var 7
      exact sa_nil
    refine sss_cons ?_ ?_
    · refine ss_set cx 9 ?_
      refine se_lst ?_
      refine sa_cons ?_ ?_
      · refine se_f ?_
        refine se_call C_do_meet hr tk ?_ (hk := hk_do_meet)
        refine sa_cons ?_ ?_
        · refine se_f ?_
          exact se_var 4
        refine sa_cons ?_ ?_
        · refine se_f ?_
          exact se_var 5
        refine sa_cons ?_ ?_
        · refine se_f ?_
          exact se_var 6
        refine sa_cons ?_ ?_
        · refine se_f ?_
          exact se_var 7
        exact sa_nil
      refine sa_cons ?_ ?_
      · refine se_f ?_
        refine se_call C_do_meet hr tk ?_ (hk := hk_do_meet)
        refine sa_cons ?_ ?_
        · refine se_f ?_
          refine se_callTy call_list_of on_list T.b_list rfl ?_
          refine sa_cons ?_ ?_
          · exact se_var 6
          exact sa_nil
        refine sa_cons ?_ ?_
        · refine se_f ?_
          exact se_var 7
        refine sa_cons ?_ ?_
        · refine se_f ?_
          exact se_var 5
        refine sa_cons ?_ ?_
        · refine se_f ?_
          exact se_var 4
        exact sa_nil
      refine sa_cons ?_ ?_
      · refine se_f ?_
        refine se_callK0 C_do_meet (fun _ _ Fn => kb_do_meet_0 Fn) hr tk ?_ (hk := hk_do_meet)
        refine sk_cons ?_ ?_
        · refine se_f ?_
          exact se_var 5
        refine sk_cons ?_ ?_
        · refine se_f ?_
          exact se_var 4
        refine sk_cons ?_ ?_
        · refine se_f ?_
          exact se_var 6
        refine sk_cons ?_ ?_
        · refine se_f ?_
          refine se_callTy call_list_of on_list T.b_list rfl ?_
          refine sa_cons ?_ ?_
          · exact se_var 7
          exact sa_nil
        exact sk_nil
      exact sa_nil
    refine sss_cons ?_ ?_
    · refine ss_if ?_ ?_ ?_
      · refine st_w ?_
        refine sw_or ?_ ?_
        · refine st_cmp (or_ne hr.r) o2_ne ?_ ?_
          · refine se_callB (call_reprX hr) on_reprX T.b_repr rfl ?_
            refine sa_cons ?_ ?_
            · exact se_var 9
            exact sa_nil
          refine se_callB (call_reprX hr) on_reprX T.b_repr rfl ?_
          refine sa_cons ?_ ?_
          · refine se_mul ?_ ?_
            · refine se_lst ?_
              refine sa_cons ?_ ?_
              · refine se_f ?_
                exact se_var 8
              exact sa_nil
            exact se_int
          exact sa_nil
        refine sw_or1 ?_
        refine st_cmp or_isNot o2_isNot ?_ ?_
        · refine se_call C_do_meet hr tk ?_ (hk := hk_do_meet)
          refine sa_cons ?_ ?_
          · refine se_f ?_
            exact se_var 4
          refine sa_cons ?_ ?_
          · refine se_f ?_
            exact se_var 4
          refine sa_cons ?_ ?_
          · refine se_f ?_
            exact se_var 4
          refine sa_cons ?_ ?_
          · refine se_f ?_
            exact se_var 7
          exact sa_nil
        exact se_bl
      · refine sss_one ?_
        refine ss_ret ?_
        exact se_bl
      exact sss_nil
    refine sss_one ?_
    refine ss_if ?_ ?_ ?_
    · refine st_cmp (or_ne hr.r) o2_ne ?_ ?_
      · exact se_var 4
      exact se_var 5
    · refine sss_cons ?_ ?_
      · refine ss_set cx 10 ?_
        refine se_call C__law_cross hr tk ?_ (hk := hk__law_cross)
        refine sa_cons ?_ ?_
        · refine se_f ?_
          refine se_call C__law_way hr tk ?_ (hk := hk__law_way)
          refine sa_cons ?_ ?_
          · refine se_f ?_
            exact se_var 4
          refine sa_cons ?_ ?_
          · refine se_f ?_
            exact se_var 5
          exact sa_nil
        refine sa_cons ?_ ?_
        · refine se_f ?_
          refine se_call C__law_way hr tk ?_ (hk := hk__law_way)
          refine sa_cons ?_ ?_
          · refine se_f ?_
            exact se_var 4
          refine sa_cons ?_ ?_
          · refine se_f ?_
            exact se_var 6
          exact sa_nil
        exact sa_nil
      refine sss_cons ?_ ?_
      · refine ss_set cx 8 ?_
        refine se_sub ?_ ?_
        · refine se_callTy call_int1 on_int T.b_int rfl ?_
          refine sa_cons ?_ ?_
          · refine se_cmp op_gt o2_gt ?_ ?_
            · exact se_var 10
            exact se_int
          exact sa_nil
        refine se_callTy call_int1 on_int T.b_int rfl ?_
        refine sa_cons ?_ ?_
        · refine se_cmp op_lt o2_lt ?_ ?_
          · exact se_var 10
          exact se_int
        exact sa_nil
      refine sss_one ?_
      refine ss_if ?_ ?_ ?_
      · refine st_cmp (or_ne hr.r) o2_ne ?_ ?_
        · refine se_callB (call_reprX hr) on_reprX T.b_repr rfl ?_
          refine sa_cons ?_ ?_
          · refine se_lst ?_
            refine sa_cons ?_ ?_
            · refine se_f ?_
              refine se_call C_side_of hr tk ?_ (hk := hk_side_of)
              refine sa_cons ?_ ?_
              · refine se_f ?_
                exact se_var 4
              refine sa_cons ?_ ?_
              · refine se_f ?_
                exact se_var 5
              refine sa_cons ?_ ?_
              · refine se_f ?_
                exact se_var 6
              exact sa_nil
            refine sa_cons ?_ ?_
            · refine se_f ?_
              refine se_callK0 C_side_of (fun _ _ Fn => kb_side_of_0 Fn) hr tk ?_ (hk := hk_side_of)
              refine sk_cons ?_ ?_
              · refine se_f ?_
                refine se_callTy call_list_of on_list T.b_list rfl ?_
                refine sa_cons ?_ ?_
                · exact se_var 6
                exact sa_nil
              refine sk_cons ?_ ?_
              · refine se_f ?_
                exact se_var 5
              refine sk_cons ?_ ?_
              · refine se_f ?_
                exact se_var 4
              exact sk_nil
            refine sa_cons ?_ ?_
            · refine se_f ?_
              refine se_call C_side_of hr tk ?_ (hk := hk_side_of)
              refine sa_cons ?_ ?_
              · refine se_f ?_
                exact se_var 5
              refine sa_cons ?_ ?_
              · refine se_f ?_
                exact se_var 4
              refine sa_cons ?_ ?_
              · refine se_f ?_
                exact se_var 6
              exact sa_nil
            refine sa_cons ?_ ?_
            · refine se_f ?_
              refine se_call C_side_of hr tk ?_ (hk := hk_side_of)
              refine sa_cons ?_ ?_
              · refine se_f ?_
                exact se_var 4
              refine sa_cons ?_ ?_
              · refine se_f ?_
                exact se_var 5
              refine sa_cons ?_ ?_
              · refine se_f ?_
                exact se_var 5
              exact sa_nil
            exact sa_nil
          exact sa_nil
        refine se_callB (call_reprX hr) on_reprX T.b_repr rfl ?_
        refine sa_cons ?_ ?_
        · refine se_lst ?_
          refine sa_cons ?_ ?_
          · refine se_f ?_
            exact se_var 8
          refine sa_cons ?_ ?_
          · refine se_f ?_
            exact se_var 8
          refine sa_cons ?_ ?_
          · refine se_neg ?_
            exact se_var 8
          refine sa_cons ?_ ?_
          · exact se_int
          exact sa_nil
        exact sa_nil
      · refine sss_one ?_
        refine ss_ret ?_
        exact se_bl
      exact sss_nil
    exact sss_nil
  refine sss_cons ?_ ?_
  · refine ss_set cx 11 ?_
    refine se_lc cx ?_ (own := [("_law_spot", 15)]) (blk_of (by kernel_rfl))
    refine lc0 [15] ?_ (fun _ _ _ _ _ => pg_name (i := 15) S.nd rfl (by first | exact Or.inl rfl | exact Or.inr rfl)) (sg_name 15) (mono_name) (gw_name) ?_
    · refine si_range1 T.b_range ?_
      refine sa_cons ?_ ?_
      · exact se_int
      exact sa_nil
    intro _ _ _ _ _
    refine se_callM C__law_pick hr takes_wf ?_ (hk := hk__law_pick)
    refine sa_cons ?_ ?_
    · exact se_var 1
    refine sa_cons ?_ ?_
    · refine se_f ?_
      refine se_lst ?_
      refine sa_cons ?_ ?_
      · exact se_non
      refine sa_cons ?_ ?_
      · exact se_int
      refine sa_cons ?_ ?_
      · refine se_tup ?_
        refine sa_cons ?_ ?_
        · exact se_int
        exact sa_nil
      refine sa_cons ?_ ?_
      · refine se_tup ?_
        refine sa_cons ?_ ?_
        · exact se_int
        refine sa_cons ?_ ?_
        · exact se_bl
        exact sa_nil
      refine sa_cons ?_ ?_
      · exact se_str
      refine sa_cons ?_ ?_
      · refine se_f ?_
        refine se_lst ?_
        refine sa_cons ?_ ?_
        · exact se_int
        refine sa_cons ?_ ?_
        · exact se_int
        refine sa_cons ?_ ?_
        · exact se_int
        exact sa_nil
      refine sa_cons ?_ ?_
      · exact se_dict0
      exact sa_nil
    exact sa_nil
  refine sss_cons ?_ ?_
  · refine ss_set cx 12 ?_
    refine se_lc cx ?_ (own := [("_law_each", 16)]) (blk_of (by kernel_rfl))
    refine lc0 [16] ?_ (fun _ _ _ _ _ => pg_name (i := 16) S.nd rfl (by first | exact Or.inl rfl | exact Or.inr rfl)) (sg_name 16) (mono_name) (gw_name) ?_
    · refine si_any ?_
      exact se_var 11
    intro _ _ _ _ _
    refine se_callM C__law_pick hr takes_wf ?_ (hk := hk__law_pick)
    refine sa_cons ?_ ?_
    · exact se_var 1
    refine sa_cons ?_ ?_
    · refine se_f ?_
      refine se_lst ?_
      refine sa_cons ?_ ?_
      · refine se_tup ?_
        refine sa_cons ?_ ?_
        · exact se_int
        refine sa_cons ?_ ?_
        · exact se_int
        exact sa_nil
      refine sa_cons ?_ ?_
      · refine se_f ?_
        exact se_var 16
      exact sa_nil
    exact sa_nil
  refine sss_cons ?_ ?_
  · refine ss_set cx 13 ?_
    refine se_lst ?_
    refine sa_cons ?_ ?_
    · refine se_f ?_
      refine se_thunk cx tk [11, 12] C__law_part sc__law_part (hr.mono hk__law_part) hlaw (lamN_of (ps := []) (by kernel_rfl)) (.no rfl rfl) (lamBd0 fun _ _ _ _ _ => rfl) ?_
      intro lA lo ls lH lE lf lc hrl
      refine se_call C_side_of hrl takes_lam ?_ (hk := by decide)
      refine sa_cons ?_ ?_
      · refine se_f ?_
        refine se_sub_ix ?_ ?_
        · exact se_var 11
        exact se_int
      refine sa_cons ?_ ?_
      · refine se_f ?_
        refine se_sub_ix ?_ ?_
        · exact se_var 12
        exact se_int
      refine sa_cons ?_ ?_
      · refine se_f ?_
        refine se_sub_ix ?_ ?_
        · exact se_var 12
        exact se_int
      exact sa_nil
    refine sa_cons ?_ ?_
    · refine se_f ?_
      refine se_thunk cx tk [11, 12] C__law_part sc__law_part (hr.mono hk__law_part) hlaw (lamN_of (ps := ["_law_a1"]) (by kernel_rfl)) (.one rfl rfl) (lamBd1 (p := "_law_a1") fun _ _ _ _ _ _ _ => ⟨_, rfl, rfl⟩) ?_
      intro lA lo ls lH lE lf lc hrl
      refine se_call C_side_of hrl takes_lam ?_ (hk := by decide)
      refine sa_cons ?_ ?_
      · refine se_tup ?_
        refine sa_cons ?_ ?_
        · exact se_int
        refine sa_cons ?_ ?_
        · exact se_int
        exact sa_nil
      refine sa_cons ?_ ?_
      · refine se_f ?_
        refine se_sub_ix ?_ ?_
        · exact se_var 11
        exact se_int
      refine sa_cons ?_ ?_
      · refine se_f ?_
        refine se_sub_ix ?_ ?_
        · exact se_var 12
        exact se_int
      exact sa_nil
    refine sa_cons ?_ ?_
    · refine se_f ?_
      refine se_thunk cx tk [11] C__law_part sc__law_part (hr.mono hk__law_part) hlaw (lamN_of (ps := ["_law_a2"]) (by kernel_rfl)) (.one rfl rfl) (lamBd1 (p := "_law_a2") fun _ _ _ _ _ _ _ => ⟨_, rfl, rfl⟩) ?_
      intro lA lo ls lH lE lf lc hrl
      refine se_call C_side_of hrl takes_lam ?_ (hk := by decide)
      refine sa_cons ?_ ?_
      · refine se_tup ?_
        refine sa_cons ?_ ?_
        · exact se_int
        refine sa_cons ?_ ?_
        · exact se_int
        exact sa_nil
      refine sa_cons ?_ ?_
      · refine se_f ?_
        refine se_lst ?_
        refine sa_cons ?_ ?_
        · exact se_int
        refine sa_cons ?_ ?_
        · exact se_int
        exact sa_nil
      refine sa_cons ?_ ?_
      · refine se_f ?_
        refine se_sub_ix ?_ ?_
        · exact se_var 11
        exact se_int
      exact sa_nil
    exact sa_nil
  refine sss_cons ?_ ?_
  · refine ss_set cx 13 ?_
    refine se_add ?_ ?_
    · exact se_var 13
    refine se_lst ?_
    refine sa_cons ?_ ?_
    · refine se_f ?_
      refine se_thunk cx tk [] C__law_part sc__law_part (hr.mono hk__law_part) hlaw (lamN_of (ps := []) (by kernel_rfl)) (.no rfl rfl) (lamBd0 fun _ _ _ _ _ => rfl) ?_
      intro lA lo ls lH lE lf lc hrl
      refine se_call C_side_of hrl takes_lam ?_ (hk := by decide)
      refine sa_cons ?_ ?_
      · refine se_f ?_
        refine se_lst ?_
        refine sa_cons ?_ ?_
        · exact se_int
        refine sa_cons ?_ ?_
        · exact se_int
        exact sa_nil
      refine sa_cons ?_ ?_
      · refine se_tup ?_
        refine sa_cons ?_ ?_
        · exact se_int
        refine sa_cons ?_ ?_
        · exact se_int
        exact sa_nil
      refine sa_cons ?_ ?_
      · refine se_tup ?_
        refine sa_cons ?_ ?_
        · exact se_int
        refine sa_cons ?_ ?_
        · exact se_int
        exact sa_nil
      exact sa_nil
    refine sa_cons ?_ ?_
    · refine se_f ?_
      refine se_thunk cx tk [11, 12] C__law_part sc__law_part (hr.mono hk__law_part) hlaw (lamN_of (ps := ["_law_a1"]) (by kernel_rfl)) (.one rfl rfl) (lamBd1 (p := "_law_a1") fun _ _ _ _ _ _ _ => ⟨_, rfl, rfl⟩) ?_
      intro lA lo ls lH lE lf lc hrl
      refine se_call C_do_meet hrl takes_lam ?_ (hk := by decide)
      refine sa_cons ?_ ?_
      · refine se_f ?_
        refine se_sub_ix ?_ ?_
        · exact se_var 11
        exact se_int
      refine sa_cons ?_ ?_
      · refine se_f ?_
        refine se_sub_ix ?_ ?_
        · exact se_var 12
        exact se_int
      refine sa_cons ?_ ?_
      · refine se_f ?_
        refine se_sub_ix ?_ ?_
        · exact se_var 12
        exact se_int
      refine sa_cons ?_ ?_
      · refine se_f ?_
        refine se_sub_ix ?_ ?_
        · exact se_var 12
        exact se_int
      exact sa_nil
    exact sa_nil
  refine sss_cons ?_ ?_
  · refine ss_set cx 13 ?_
    refine se_add ?_ ?_
    · exact se_var 13
    refine se_lst ?_
    refine sa_cons ?_ ?_
    · refine se_f ?_
      refine se_thunk cx tk [11, 12] C__law_part sc__law_part (hr.mono hk__law_part) hlaw (lamN_of (ps := []) (by kernel_rfl)) (.no rfl rfl) (lamBd0 fun _ _ _ _ _ => rfl) ?_
      intro lA lo ls lH lE lf lc hrl
      refine se_call C_do_meet hrl takes_lam ?_ (hk := by decide)
      refine sa_cons ?_ ?_
      · refine se_tup ?_
        refine sa_cons ?_ ?_
        · exact se_int
        refine sa_cons ?_ ?_
        · exact se_int
        exact sa_nil
      refine sa_cons ?_ ?_
      · refine se_f ?_
        refine se_sub_ix ?_ ?_
        · exact se_var 11
        exact se_int
      refine sa_cons ?_ ?_
      · refine se_f ?_
        refine se_sub_ix ?_ ?_
        · exact se_var 12
        exact se_int
      refine sa_cons ?_ ?_
      · refine se_f ?_
        refine se_sub_ix ?_ ?_
        · exact se_var 12
        exact se_int
      exact sa_nil
    refine sa_cons ?_ ?_
    · refine se_f ?_
      refine se_thunk cx tk [11, 12] C__law_part sc__law_part (hr.mono hk__law_part) hlaw (lamN_of (ps := ["_law_a1"]) (by kernel_rfl)) (.one rfl rfl) (lamBd1 (p := "_law_a1") fun _ _ _ _ _ _ _ => ⟨_, rfl, rfl⟩) ?_
      intro lA lo ls lH lE lf lc hrl
      refine se_call C_do_meet hrl takes_lam ?_ (hk := by decide)
      refine sa_cons ?_ ?_
      · refine se_tup ?_
        refine sa_cons ?_ ?_
        · exact se_int
        refine sa_cons ?_ ?_
        · exact se_int
        exact sa_nil
      refine sa_cons ?_ ?_
      · refine se_tup ?_
        refine sa_cons ?_ ?_
        · exact se_int
        refine sa_cons ?_ ?_
        · exact se_int
        exact sa_nil
      refine sa_cons ?_ ?_
      · refine se_f ?_
        refine se_sub_ix ?_ ?_
        · exact se_var 11
        exact se_int
      refine sa_cons ?_ ?_
      · refine se_f ?_
        refine se_sub_ix ?_ ?_
        · exact se_var 12
        exact se_int
      exact sa_nil
    exact sa_nil
  refine sss_cons ?_ ?_
  · refine ss_expr ?_
    refine se_bm (i := 13) ol_app PySem.F.slot_list_append PySem.F.type_list_append mt_append ?_
    refine sa_cons ?_ ?_
    · refine se_f ?_
      refine se_thunk cx tk [11] C__law_part sc__law_part (hr.mono hk__law_part) hlaw (lamN_of (ps := []) (by kernel_rfl)) (.no rfl rfl) (lamBd0 fun _ _ _ _ _ => rfl) ?_
      intro lA lo ls lH lE lf lc hrl
      refine se_call C_do_meet hrl takes_lam ?_ (hk := by decide)
      refine sa_cons ?_ ?_
      · refine se_tup ?_
        refine sa_cons ?_ ?_
        · exact se_int
        refine sa_cons ?_ ?_
        · exact se_int
        exact sa_nil
      refine sa_cons ?_ ?_
      · refine se_tup ?_
        refine sa_cons ?_ ?_
        · exact se_int
        refine sa_cons ?_ ?_
        · exact se_int
        exact sa_nil
      refine sa_cons ?_ ?_
      · refine se_tup ?_
        refine sa_cons ?_ ?_
        · exact se_int
        refine sa_cons ?_ ?_
        · exact se_int
        exact sa_nil
      refine sa_cons ?_ ?_
      · refine se_f ?_
        refine se_sub_ix ?_ ?_
        · exact se_var 11
        exact se_int
      exact sa_nil
    exact sa_nil
  refine sss_one ?_
  refine ss_ret ?_
  refine se_cmp (or_eq hr.r) o2_eq ?_ ?_
  · exact se_var 13
  refine se_lst ?_
  refine sa_cons ?_ ?_
  · refine se_tup ?_
    refine sa_cons ?_ ?_
    · exact se_str
    refine sa_cons ?_ ?_
    · exact se_str
    exact sa_nil
  refine sa_cons ?_ ?_
  · refine se_tup ?_
    refine sa_cons ?_ ?_
    · exact se_str
    refine sa_cons ?_ ?_
    · exact se_str
    exact sa_nil
  refine sa_cons ?_ ?_
  · refine se_tup ?_
    refine sa_cons ?_ ?_
    · exact se_str
    refine sa_cons ?_ ?_
    · exact se_str
    exact sa_nil
  refine sa_cons ?_ ?_
  · refine se_tup ?_
    refine sa_cons ?_ ?_
    · exact se_str
    refine sa_cons ?_ ?_
    · exact se_str
    exact sa_nil
  refine sa_cons ?_ ?_
  · refine se_tup ?_
    refine sa_cons ?_ ?_
    · exact se_str
    refine sa_cons ?_ ?_
    · exact se_str
    exact sa_nil
  refine sa_cons ?_ ?_
  · refine se_tup ?_
    refine sa_cons ?_ ?_
    · exact se_str
    refine sa_cons ?_ ?_
    · exact se_str
    exact sa_nil
  refine sa_cons ?_ ?_
  · refine se_tup ?_
    refine sa_cons ?_ ?_
    · exact se_str
    refine sa_cons ?_ ?_
    · exact se_str
    exact sa_nil
  refine sa_cons ?_ ?_
  · refine se_tup ?_
    refine sa_cons ?_ ?_
    · exact se_str
    refine sa_cons ?_ ?_
    · exact se_str
    exact sa_nil
  exact sa_nil
end
/-! ### what the top has written -/
theorem all_mk {l : PySem.W.OpenLaw} {w : World} {K : PySem.W.Frag} {h : Heap} {mg : Str → Option Value} {fa : Addr} {f0 f1 f2 f3 f4 f5 f6 f7 f8 f9 f10 f11 f12 f13 f14 f15 f16 f17 f18 f19 f20 : Addr} (X : K.In h) (G : h.Ns mainGlobals mg) (hfa : mg "law" = some (.ref fa))
    {od0 an0 od1 an1 od2 an2 od3 an3 od4 an4 od5 an5 od6 an6 od7 an7 od8 an8 od9 an9 od10 an10 od11 an11 od12 an12 od13 an13 od14 an14 od15 an15 od16 an16 od17 an17 od18 an18 od19 an19 od20 an20 : Option Addr} {sl0 sl1 sl2 sl3 sl4 sl5 sl6 sl7 sl8 sl9 sl10 sl11 sl12 sl13 sl14 sl15 sl16 sl17 sl18 sl19 sl20 : Array (Option Value)} {oc0 kV0 dc0 pm0 cd0 ct0 oc1 kV1 dc1 pm1 cd1 ct1 oc2 kV2 dc2 pm2 cd2 ct2 oc3 kV3 dc3 pm3 cd3 ct3 oc4 kV4 dc4 pm4 cd4 ct4 oc5 kV5 dc5 pm5 cd5 ct5 oc6 kV6 dc6 pm6 cd6 ct6 oc7 kV7 dc7 pm7 cd7 ct7 oc8 kV8 dc8 pm8 cd8 ct8 oc9 kV9 dc9 pm9 cd9 ct9 oc10 kV10 dc10 pm10 cd10 ct10 oc11 kV11 dc11 pm11 cd11 ct11 oc12 kV12 dc12 pm12 cd12 ct12 oc13 kV13 dc13 pm13 cd13 ct13 oc14 kV14 dc14 pm14 cd14 ct14 oc15 kV15 dc15 pm15 cd15 ct15 oc16 kV16 dc16 pm16 cd16 ct16 oc17 kV17 dc17 pm17 cd17 ct17 oc18 kV18 dc18 pm18 cd18 ct18 oc19 kV19 dc19 pm19 cd19 ct19 oc20 kV20 dc20 pm20 cd20 ct20 : Value}
    (a0 : PySem.W.nsIn K mainGlobals "is_integer" = some (some (.ref f0))) (l0 : K.lookup f0 = some ⟨oc0, od0, .func (PySem.W.fnOf "is_integer" "is_integer" (defArgs s_is_integer) (defBody s_is_integer) (defScope s_is_integer) .none kV0 dc0 pm0 an0 cd0 ct0), sl0⟩) (c0 : PySem.W.codeIn K cd0 "is_integer" = true) (k0 : PySem.W.keepIn K (.ref f0) = true)
    (a1 : PySem.W.nsIn K mainGlobals "is_point" = some (some (.ref f1))) (l1 : K.lookup f1 = some ⟨oc1, od1, .func (PySem.W.fnOf "is_point" "is_point" (defArgs s_is_point) (defBody s_is_point) (defScope s_is_point) .none kV1 dc1 pm1 an1 cd1 ct1), sl1⟩) (c1 : PySem.W.codeIn K cd1 "is_point" = true) (k1 : PySem.W.keepIn K (.ref f1) = true)
    (a2 : PySem.W.nsIn K mainGlobals "need_point" = some (some (.ref f2))) (l2 : K.lookup f2 = some ⟨oc2, od2, .func (PySem.W.fnOf "need_point" "need_point" (defArgs s_need_point) (defBody s_need_point) (defScope s_need_point) .none kV2 dc2 pm2 an2 cd2 ct2), sl2⟩) (c2 : PySem.W.codeIn K cd2 "need_point" = true) (k2 : PySem.W.keepIn K (.ref f2) = true)
    (a3 : PySem.W.nsIn K mainGlobals "are_apart" = some (some (.ref f3))) (l3 : K.lookup f3 = some ⟨oc3, od3, .func (PySem.W.fnOf "are_apart" "are_apart" (defArgs s_are_apart) (defBody s_are_apart) (defScope s_are_apart) .none kV3 dc3 pm3 an3 cd3 ct3), sl3⟩) (c3 : PySem.W.codeIn K cd3 "are_apart" = true) (k3 : PySem.W.keepIn K (.ref f3) = true)
    (a4 : PySem.W.nsIn K mainGlobals "cross" = some (some (.ref f4))) (l4 : K.lookup f4 = some ⟨oc4, od4, .func (PySem.W.fnOf "cross" "cross" (defArgs s_cross) (defBody s_cross) (defScope s_cross) .none kV4 dc4 pm4 an4 cd4 ct4), sl4⟩) (c4 : PySem.W.codeIn K cd4 "cross" = true) (k4 : PySem.W.keepIn K (.ref f4) = true)
    (a5 : PySem.W.nsIn K mainGlobals "way" = some (some (.ref f5))) (l5 : K.lookup f5 = some ⟨oc5, od5, .func (PySem.W.fnOf "way" "way" (defArgs s_way) (defBody s_way) (defScope s_way) .none kV5 dc5 pm5 an5 cd5 ct5), sl5⟩) (c5 : PySem.W.codeIn K cd5 "way" = true) (k5 : PySem.W.keepIn K (.ref f5) = true)
    (a6 : PySem.W.nsIn K mainGlobals "turn_of" = some (some (.ref f6))) (l6 : K.lookup f6 = some ⟨oc6, od6, .func (PySem.W.fnOf "turn_of" "turn_of" (defArgs s_turn_of) (defBody s_turn_of) (defScope s_turn_of) .none kV6 dc6 pm6 an6 cd6 ct6), sl6⟩) (c6 : PySem.W.codeIn K cd6 "turn_of" = true) (k6 : PySem.W.keepIn K (.ref f6) = true)
    (a7 : PySem.W.nsIn K mainGlobals "is_on" = some (some (.ref f7))) (l7 : K.lookup f7 = some ⟨oc7, od7, .func (PySem.W.fnOf "is_on" "is_on" (defArgs s_is_on) (defBody s_is_on) (defScope s_is_on) .none kV7 dc7 pm7 an7 cd7 ct7), sl7⟩) (c7 : PySem.W.codeIn K cd7 "is_on" = true) (k7 : PySem.W.keepIn K (.ref f7) = true)
    (a8 : PySem.W.nsIn K mainGlobals "sign_of" = some (some (.ref f8))) (l8 : K.lookup f8 = some ⟨oc8, od8, .func (PySem.W.fnOf "sign_of" "sign_of" (defArgs s_sign_of) (defBody s_sign_of) (defScope s_sign_of) .none kV8 dc8 pm8 an8 cd8 ct8), sl8⟩) (c8 : PySem.W.codeIn K cd8 "sign_of" = true) (k8 : PySem.W.keepIn K (.ref f8) = true)
    (a9 : PySem.W.nsIn K mainGlobals "meet_in" = some (some (.ref f9))) (l9 : K.lookup f9 = some ⟨oc9, od9, .func (PySem.W.fnOf "meet_in" "meet_in" (defArgs s_meet_in) (defBody s_meet_in) (defScope s_meet_in) .none kV9 dc9 pm9 an9 cd9 ct9), sl9⟩) (c9 : PySem.W.codeIn K cd9 "meet_in" = true) (k9 : PySem.W.keepIn K (.ref f9) = true)
    (a10 : PySem.W.nsIn K mainGlobals "do_meet" = some (some (.ref f10))) (l10 : K.lookup f10 = some ⟨oc10, od10, .func (PySem.W.fnOf "do_meet" "do_meet" (defArgs s_do_meet) (defBody s_do_meet) (defScope s_do_meet) .none kV10 dc10 pm10 an10 cd10 ct10), sl10⟩) (c10 : PySem.W.codeIn K cd10 "do_meet" = true) (k10 : PySem.W.keepIn K (.ref f10) = true)
    (a11 : PySem.W.nsIn K mainGlobals "side_of" = some (some (.ref f11))) (l11 : K.lookup f11 = some ⟨oc11, od11, .func (PySem.W.fnOf "side_of" "side_of" (defArgs s_side_of) (defBody s_side_of) (defScope s_side_of) .none kV11 dc11 pm11 an11 cd11 ct11), sl11⟩) (c11 : PySem.W.codeIn K cd11 "side_of" = true) (k11 : PySem.W.keepIn K (.ref f11) = true)
    (a12 : PySem.W.nsIn K mainGlobals "_law_keg" = some (some (.ref f12))) (l12 : K.lookup f12 = some ⟨oc12, od12, .func (PySem.W.fnOf "_law_keg" "_law_keg" (defArgs s__law_keg) (defBody s__law_keg) (defScope s__law_keg) .none kV12 dc12 pm12 an12 cd12 ct12), sl12⟩) (c12 : PySem.W.codeIn K cd12 "_law_keg" = true) (k12 : PySem.W.keepIn K (.ref f12) = true)
    (a13 : PySem.W.nsIn K mainGlobals "_law_pour" = some (some (.ref f13))) (l13 : K.lookup f13 = some ⟨oc13, od13, .func (PySem.W.fnOf "_law_pour" "_law_pour" (defArgs s__law_pour) (defBody s__law_pour) (defScope s__law_pour) .none kV13 dc13 pm13 an13 cd13 ct13), sl13⟩) (c13 : PySem.W.codeIn K cd13 "_law_pour" = true) (k13 : PySem.W.keepIn K (.ref f13) = true)
    (a14 : PySem.W.nsIn K mainGlobals "_law_pick" = some (some (.ref f14))) (l14 : K.lookup f14 = some ⟨oc14, od14, .func (PySem.W.fnOf "_law_pick" "_law_pick" (defArgs s__law_pick) (defBody s__law_pick) (defScope s__law_pick) .none kV14 dc14 pm14 an14 cd14 ct14), sl14⟩) (c14 : PySem.W.codeIn K cd14 "_law_pick" = true) (k14 : PySem.W.keepIn K (.ref f14) = true)
    (a15 : PySem.W.nsIn K mainGlobals "_law_point" = some (some (.ref f15))) (l15 : K.lookup f15 = some ⟨oc15, od15, .func (PySem.W.fnOf "_law_point" "_law_point" (defArgs s__law_point) (defBody s__law_point) (defScope s__law_point) .none kV15 dc15 pm15 an15 cd15 ct15), sl15⟩) (c15 : PySem.W.codeIn K cd15 "_law_point" = true) (k15 : PySem.W.keepIn K (.ref f15) = true)
    (a16 : PySem.W.nsIn K mainGlobals "_law_way" = some (some (.ref f16))) (l16 : K.lookup f16 = some ⟨oc16, od16, .func (PySem.W.fnOf "_law_way" "_law_way" (defArgs s__law_way) (defBody s__law_way) (defScope s__law_way) .none kV16 dc16 pm16 an16 cd16 ct16), sl16⟩) (c16 : PySem.W.codeIn K cd16 "_law_way" = true) (k16 : PySem.W.keepIn K (.ref f16) = true)
    (a17 : PySem.W.nsIn K mainGlobals "_law_cross" = some (some (.ref f17))) (l17 : K.lookup f17 = some ⟨oc17, od17, .func (PySem.W.fnOf "_law_cross" "_law_cross" (defArgs s__law_cross) (defBody s__law_cross) (defScope s__law_cross) .none kV17 dc17 pm17 an17 cd17 ct17), sl17⟩) (c17 : PySem.W.codeIn K cd17 "_law_cross" = true) (k17 : PySem.W.keepIn K (.ref f17) = true)
    (a18 : PySem.W.nsIn K mainGlobals "_law_common" = some (some (.ref f18))) (l18 : K.lookup f18 = some ⟨oc18, od18, .func (PySem.W.fnOf "_law_common" "_law_common" (defArgs s__law_common) (defBody s__law_common) (defScope s__law_common) .none kV18 dc18 pm18 an18 cd18 ct18), sl18⟩) (c18 : PySem.W.codeIn K cd18 "_law_common" = true) (k18 : PySem.W.keepIn K (.ref f18) = true)
    (a19 : PySem.W.nsIn K mainGlobals "_law_part" = some (some (.ref f19))) (l19 : K.lookup f19 = some ⟨oc19, od19, .func (PySem.W.fnOf "_law_part" "_law_part" (defArgs s__law_part) (defBody s__law_part) (defScope s__law_part) .none kV19 dc19 pm19 an19 cd19 ct19), sl19⟩) (c19 : PySem.W.codeIn K cd19 "_law_part" = true) (k19 : PySem.W.keepIn K (.ref f19) = true)
    (a20 : PySem.W.nsIn K mainGlobals "law" = some (some (.ref f20))) (l20 : K.lookup f20 = some ⟨oc20, od20, .func (PySem.W.fnOf "law" "law" (defArgs s_law) (defBody s_law) (defScope s_law) .none kV20 dc20 pm20 an20 cd20 ct20), sl20⟩) (c20 : PySem.W.codeIn K cd20 "law" = true) (k20 : PySem.W.keepIn K (.ref f20) = true)
    (z_abs : PySem.W.nsIn K mainGlobals "abs" = some none)
    (z_all : PySem.W.nsIn K mainGlobals "all" = some none)
    (z_bool : PySem.W.nsIn K mainGlobals "bool" = some none)
    (z_int : PySem.W.nsIn K mainGlobals "int" = some none)
    (z_isinstance : PySem.W.nsIn K mainGlobals "isinstance" = some none)
    (z_len : PySem.W.nsIn K mainGlobals "len" = some none)
    (z_list : PySem.W.nsIn K mainGlobals "list" = some none)
    (z_max : PySem.W.nsIn K mainGlobals "max" = some none)
    (z_min : PySem.W.nsIn K mainGlobals "min" = some none)
    (z_range : PySem.W.nsIn K mainGlobals "range" = some none)
    (z_repr : PySem.W.nsIn K mainGlobals "repr" = some none)
    (z_sorted : PySem.W.nsIn K mainGlobals "sorted" = some none)
    (z_tuple : PySem.W.nsIn K mainGlobals "tuple" = some none)
    {C_FenceError : Addr} (ga_FenceError : PySem.W.nsIn K mainGlobals "FenceError" = some (some (.ref C_FenceError)))
    {C_BadPoint I_BadPoint cc_BadPoint cda_BadPoint : Addr} {eod_BadPoint ean_BadPoint ecld_BadPoint ecdd_BadPoint : Option Addr} {esl_BadPoint ecsl_BadPoint eccs_BadPoint : Array (Option Value)} {eoc_BadPoint ekV_BadPoint edoc_BadPoint epm_BadPoint ect_BadPoint ecl_BadPoint eccl_BadPoint : Value} {evs_BadPoint : Array Value} {efile_BadPoint : Str} {etf_BadPoint : Tok}
    (ga_BadPoint : PySem.W.nsIn K mainGlobals "BadPoint" = some (some (.ref C_BadPoint))) (ei_BadPoint : PySem.W.findIn K (.ref C_BadPoint) "__init__" = some (some (.ref I_BadPoint)))
    (el_BadPoint : K.lookup I_BadPoint = some ⟨eoc_BadPoint, eod_BadPoint, .func (PySem.W.ksFn "__init__" "BadPoint.__init__" (defArgs s_BadPoint_init) (defBody s_BadPoint_init) (defScope s_BadPoint_init) .none ekV_BadPoint edoc_BadPoint epm_BadPoint ean_BadPoint (.ref cda_BadPoint) ect_BadPoint cc_BadPoint), esl_BadPoint⟩) (ec_BadPoint : PySem.W.codeIn K (.ref cda_BadPoint) "BadPoint.__init__" = true)
    (elc_BadPoint : K.lookup cc_BadPoint = some ⟨ecl_BadPoint, ecld_BadPoint, .cell (some (.ref C_BadPoint)), ecsl_BadPoint⟩) (eld_BadPoint : K.lookup cda_BadPoint = some ⟨eccl_BadPoint, ecdd_BadPoint, .fields evs_BadPoint, eccs_BadPoint⟩) (ev_BadPoint : evs_BadPoint[2]? = some (.str efile_BadPoint etf_BadPoint)) (ef_BadPoint : ((l.prog.main.file : Str) == efile_BadPoint) = true)
    (eb_BadPoint : errB K C_BadPoint I_BadPoint ["part"] = true)
    {C_Misfit I_Misfit cc_Misfit cda_Misfit : Addr} {eod_Misfit ean_Misfit ecld_Misfit ecdd_Misfit : Option Addr} {esl_Misfit ecsl_Misfit eccs_Misfit : Array (Option Value)} {eoc_Misfit ekV_Misfit edoc_Misfit epm_Misfit ect_Misfit ecl_Misfit eccl_Misfit : Value} {evs_Misfit : Array Value} {efile_Misfit : Str} {etf_Misfit : Tok}
    (ga_Misfit : PySem.W.nsIn K mainGlobals "Misfit" = some (some (.ref C_Misfit))) (ei_Misfit : PySem.W.findIn K (.ref C_Misfit) "__init__" = some (some (.ref I_Misfit)))
    (el_Misfit : K.lookup I_Misfit = some ⟨eoc_Misfit, eod_Misfit, .func (PySem.W.ksFn "__init__" "Misfit.__init__" (defArgs s_Misfit_init) (defBody s_Misfit_init) (defScope s_Misfit_init) .none ekV_Misfit edoc_Misfit epm_Misfit ean_Misfit (.ref cda_Misfit) ect_Misfit cc_Misfit), esl_Misfit⟩) (ec_Misfit : PySem.W.codeIn K (.ref cda_Misfit) "Misfit.__init__" = true)
    (elc_Misfit : K.lookup cc_Misfit = some ⟨ecl_Misfit, ecld_Misfit, .cell (some (.ref C_Misfit)), ecsl_Misfit⟩) (eld_Misfit : K.lookup cda_Misfit = some ⟨eccl_Misfit, ecdd_Misfit, .fields evs_Misfit, eccs_Misfit⟩) (ev_Misfit : evs_Misfit[2]? = some (.str efile_Misfit etf_Misfit)) (ef_Misfit : ((l.prog.main.file : Str) == efile_Misfit) = true)
    (eb_Misfit : errB K C_Misfit I_Misfit ["part"] = true)
    (zsup : PySem.W.nsIn K mainGlobals "super" = some none) (zopq : PySem.W.nsIn K PySem.cStatics "thirdparty.any" = some none) (ztop : (l.prog.main.scope.names.lookup ("super" : Str)).isSome = false)
    (zrel : relB K [("FenceError", C_FenceError), ("BadPoint", C_BadPoint), ("Misfit", C_Misfit)] tab = true)
    {cL Pt : Addr} (zg : h.get? Pt = some { cls := .none, data := .fields #[] }) (zc : cd20 = .ref cL) (zt : PySem.W.codeHdIn K cL Pt = true) (zn : K.lookup Pt = none)
    : ∃ (fd : FuncData) (c Pt : Addr), h.get? Pt = some { cls := .none, data := .fields #[] } ∧ K.lookup Pt = none ∧ PySem.W.codeHdIn K c Pt = true ∧ (∀ (s : Shared) (v : Value), BindsTo s fd ⟨[v], []⟩ [("_law_script", v)]) ∧ ∀ base : Heap, K.In base → base.Ns mainGlobals mg → LamX.TabB base mg c Pt → FnG l.prog w K mg base 8 fa fd ["_law_script"] (SpL ⟨K, mg⟩ d_law Pt) := by
  have e := hfa.symm.trans (PySem.W.mg_of X G a20)
  cases e
  have F0 := fun_mk (st := s_is_integer) l0 c0 k0
  have b0 := F0.binds (ps := ["value"]) fun _ _ _ _ _ _ us hl => match us, hl with | [_], _ => rfl
  have F1 := fun_mk (st := s_is_point) l1 c1 k1
  have b1 := F1.binds (ps := ["value"]) fun _ _ _ _ _ _ us hl => match us, hl with | [_], _ => rfl
  have F2 := fun_mk (st := s_need_point) l2 c2 k2
  have b2 := F2.binds (ps := ["value", "part"]) fun _ _ _ _ _ _ us hl => match us, hl with | [_, _], _ => rfl
  have F3 := fun_mk (st := s_are_apart) l3 c3 k3
  have b3 := F3.binds (ps := ["one", "other", "third", "fourth"]) fun _ _ _ _ _ _ us hl => match us, hl with | [_, _, _, _], _ => rfl
  have F4 := fun_mk (st := s_cross) l4 c4 k4
  have b4 := F4.binds (ps := ["one", "other"]) fun _ _ _ _ _ _ us hl => match us, hl with | [_, _], _ => rfl
  have F5 := fun_mk (st := s_way) l5 c5 k5
  have b5 := F5.binds (ps := ["one", "other"]) fun _ _ _ _ _ _ us hl => match us, hl with | [_, _], _ => rfl
  have F6 := fun_mk (st := s_turn_of) l6 c6 k6
  have b6 := F6.binds (ps := ["one", "other", "point"]) fun _ _ _ _ _ _ us hl => match us, hl with | [_, _, _], _ => rfl
  have F7 := fun_mk (st := s_is_on) l7 c7 k7
  have b7 := F7.binds (ps := ["point", "one", "other"]) fun _ _ _ _ _ _ us hl => match us, hl with | [_, _, _], _ => rfl
  have F8 := fun_mk (st := s_sign_of) l8 c8 k8
  have b8 := F8.binds (ps := ["number"]) fun _ _ _ _ _ _ us hl => match us, hl with | [_], _ => rfl
  have F9 := fun_mk (st := s_meet_in) l9 c9 k9
  have b9 := F9.binds (ps := ["one", "other", "third", "fourth"]) fun _ _ _ _ _ _ us hl => match us, hl with | [_, _, _, _], _ => rfl
  have F10 := fun_mk (st := s_do_meet) l10 c10 k10
  have b10 := F10.binds (ps := ["one", "other", "third", "fourth"]) fun _ _ _ _ _ _ us hl => match us, hl with | [_, _, _, _], _ => rfl
  have F11 := fun_mk (st := s_side_of) l11 c11 k11
  have b11 := F11.binds (ps := ["one", "other", "point"]) fun _ _ _ _ _ _ us hl => match us, hl with | [_, _, _], _ => rfl
  have F12 := fun_mk (st := s__law_keg) l12 c12 k12
  have b12 := F12.binds (ps := ["_law_script"]) fun _ _ _ _ _ _ us hl => match us, hl with | [_], _ => rfl
  have F13 := fun_mk (st := s__law_pour) l13 c13 k13
  have b13 := F13.binds (ps := ["_law_keg_here", "_law_many"]) fun _ _ _ _ _ _ us hl => match us, hl with | [_, _], _ => rfl
  have F14 := fun_mk (st := s__law_pick) l14 c14 k14
  have b14 := F14.binds (ps := ["_law_keg_here", "_law_some"]) fun _ _ _ _ _ _ us hl => match us, hl with | [_, _], _ => rfl
  have F15 := fun_mk (st := s__law_point) l15 c15 k15
  have b15 := F15.binds (ps := ["_law_keg_here", "_law_far"]) fun _ _ _ _ _ _ us hl => match us, hl with | [_, _], _ => rfl
  have F16 := fun_mk (st := s__law_way) l16 c16 k16
  have b16 := F16.binds (ps := ["_law_one", "_law_other"]) fun _ _ _ _ _ _ us hl => match us, hl with | [_, _], _ => rfl
  have F17 := fun_mk (st := s__law_cross) l17 c17 k17
  have b17 := F17.binds (ps := ["_law_one", "_law_other"]) fun _ _ _ _ _ _ us hl => match us, hl with | [_, _], _ => rfl
  have F18 := fun_mk (st := s__law_common) l18 c18 k18
  have b18 := F18.binds (ps := ["_law_one", "_law_other", "_law_third", "_law_fourth"]) fun _ _ _ _ _ _ us hl => match us, hl with | [_, _, _, _], _ => rfl
  have F19 := fun_mk (st := s__law_part) l19 c19 k19
  have b19 := F19.binds (ps := ["_law_ask"]) fun _ _ _ _ _ _ us hl => match us, hl with | [_], _ => rfl
  have F20 := fun_mk (st := s_law) l20 c20 k20
  refine ⟨PySem.W.fnOf "law" "law" (defArgs s_law) (defBody s_law) (defScope s_law) .none kV20 dc20 pm20 an20 cd20 ct20, cL, Pt, zg, zn, zt, fun s v => .of_eq rfl, fun base _ _ TB => ?_⟩
  have R : RelOk K mg tab := relB_ok zrel (by simp only [List.forall_mem_cons]; exact ⟨PySem.W.mg_of X G ga_FenceError, PySem.W.mg_of X G ga_BadPoint, PySem.W.mg_of X G ga_Misfit, fun _ h => absurd h List.not_mem_nil⟩) rfl rfl rfl rfl
  have EF_BadPoint := fun2_mk (P := l.prog) (st := s_BadPoint_init) el_BadPoint ec_BadPoint elc_BadPoint eld_BadPoint ev_BadPoint ef_BadPoint
  have EC_BadPoint := errB_ok eb_BadPoint
  have ED_BadPoint : ErrD l.prog w K mg base "BadPoint" ["self", "part"] ["part"] C_BadPoint I_BadPoint _ := ⟨PySem.W.mg_of X G ga_BadPoint, EC_BadPoint, einit_BadPoint EF_BadPoint ⟨PySem.W.mg_none_of X G zsup, ⟨_, rfl, rfl⟩, ztop, (let ⟨cd, h, _⟩ := excObj_of EC_BadPoint.ox; ⟨cd, h⟩), zopq⟩ EC_BadPoint, EF_BadPoint.binds (ps := ["self", "part"]) fun _ _ _ _ _ _ us hl => match us, hl with | [_, _], _ => rfl⟩
  have EF_Misfit := fun2_mk (P := l.prog) (st := s_Misfit_init) el_Misfit ec_Misfit elc_Misfit eld_Misfit ev_Misfit ef_Misfit
  have EC_Misfit := errB_ok eb_Misfit
  have ED_Misfit : ErrD l.prog w K mg base "Misfit" ["self", "part"] ["part"] C_Misfit I_Misfit _ := ⟨PySem.W.mg_of X G ga_Misfit, EC_Misfit, einit_Misfit EF_Misfit ⟨PySem.W.mg_none_of X G zsup, ⟨_, rfl, rfl⟩, ztop, (let ⟨cd, h, _⟩ := excObj_of EC_Misfit.ox; ⟨cd, h⟩), zopq⟩ EC_Misfit, EF_Misfit.binds (ps := ["self", "part"]) fun _ _ _ _ _ _ us hl => match us, hl with | [_, _], _ => rfl⟩
  have T : Txt l.prog w K mg base := ⟨PySem.W.mg_none_of X G z_abs, PySem.W.mg_none_of X G z_all, PySem.W.mg_none_of X G z_bool, PySem.W.mg_none_of X G z_int, PySem.W.mg_none_of X G z_isinstance, PySem.W.mg_none_of X G z_len, PySem.W.mg_none_of X G z_list, PySem.W.mg_none_of X G z_max, PySem.W.mg_none_of X G z_min, PySem.W.mg_none_of X G z_range, PySem.W.mg_none_of X G z_repr, PySem.W.mg_none_of X G z_sorted, PySem.W.mg_none_of X G z_tuple, R, ⟨_, _, _, ED_BadPoint⟩, ⟨_, _, _, ED_Misfit⟩, ⟨_, PySem.W.mg_of X G ga_FenceError⟩, ⟨_, PySem.W.mg_of X G ga_Misfit⟩, ⟨_, PySem.W.mg_of X G ga_BadPoint⟩⟩
  have C_is_integer : Callee l.prog w K mg base "is_integer" "is_integer" s_is_integer ["value"] 1 (SpP ⟨K, mg⟩ d_is_integer) := ⟨f0, _, PySem.W.mg_of X G a0, F0, b0, ok_is_integer T F0⟩
  have C_is_point : Callee l.prog w K mg base "is_point" "is_point" s_is_point ["value"] 2 (SpP ⟨K, mg⟩ d_is_point) := ⟨f1, _, PySem.W.mg_of X G a1, F1, b1, ok_is_point T C_is_integer F1⟩
  have C_need_point : Callee l.prog w K mg base "need_point" "need_point" s_need_point ["value", "part"] 3 (SpP ⟨K, mg⟩ d_need_point) := ⟨f2, _, PySem.W.mg_of X G a2, F2, b2, ok_need_point T C_is_point F2⟩
  have C_are_apart : Callee l.prog w K mg base "are_apart" "are_apart" s_are_apart ["one", "other", "third", "fourth"] 1 (SpP ⟨K, mg⟩ d_are_apart) := ⟨f3, _, PySem.W.mg_of X G a3, F3, b3, ok_are_apart T F3⟩
  have C_cross : Callee l.prog w K mg base "cross" "cross" s_cross ["one", "other"] 1 (SpP ⟨K, mg⟩ d_cross) := ⟨f4, _, PySem.W.mg_of X G a4, F4, b4, ok_cross T F4⟩
  have C_way : Callee l.prog w K mg base "way" "way" s_way ["one", "other"] 1 (SpP ⟨K, mg⟩ d_way) := ⟨f5, _, PySem.W.mg_of X G a5, F5, b5, ok_way T F5⟩
  have C_turn_of : Callee l.prog w K mg base "turn_of" "turn_of" s_turn_of ["one", "other", "point"] 2 (SpP ⟨K, mg⟩ d_turn_of) := ⟨f6, _, PySem.W.mg_of X G a6, F6, b6, ok_turn_of T C_cross C_way F6⟩
  have C_is_on : Callee l.prog w K mg base "is_on" "is_on" s_is_on ["point", "one", "other"] 3 (SpP ⟨K, mg⟩ d_is_on) := ⟨f7, _, PySem.W.mg_of X G a7, F7, b7, ok_is_on T C_turn_of F7⟩
  have C_sign_of : Callee l.prog w K mg base "sign_of" "sign_of" s_sign_of ["number"] 1 (SpP ⟨K, mg⟩ d_sign_of) := ⟨f8, _, PySem.W.mg_of X G a8, F8, b8, ok_sign_of T F8⟩
  have C_meet_in : Callee l.prog w K mg base "meet_in" "meet_in" s_meet_in ["one", "other", "third", "fourth"] 4 (SpP ⟨K, mg⟩ d_meet_in) := ⟨f9, _, PySem.W.mg_of X G a9, F9, b9, ok_meet_in T C_are_apart C_is_on C_sign_of C_turn_of F9⟩
  have C_do_meet : Callee l.prog w K mg base "do_meet" "do_meet" s_do_meet ["one", "other", "third", "fourth"] 5 (SpP ⟨K, mg⟩ d_do_meet) := ⟨f10, _, PySem.W.mg_of X G a10, F10, b10, ok_do_meet T C_need_point C_meet_in F10⟩
  have C_side_of : Callee l.prog w K mg base "side_of" "side_of" s_side_of ["one", "other", "point"] 4 (SpP ⟨K, mg⟩ d_side_of) := ⟨f11, _, PySem.W.mg_of X G a11, F11, b11, ok_side_of T C_need_point C_sign_of C_turn_of F11⟩
  have C__law_keg : Callee l.prog w K mg base "_law_keg" "_law_keg" s__law_keg ["_law_script"] 1 (SpP ⟨K, mg⟩ d__law_keg) := ⟨f12, _, PySem.W.mg_of X G a12, F12, b12, ok__law_keg T F12⟩
  have C__law_pour : Callee l.prog w K mg base "_law_pour" "_law_pour" s__law_pour ["_law_keg_here", "_law_many"] 1 (SpM ⟨K, mg⟩ d__law_pour) := ⟨f13, _, PySem.W.mg_of X G a13, F13, b13, ok__law_pour T F13⟩
  have C__law_pick : Callee l.prog w K mg base "_law_pick" "_law_pick" s__law_pick ["_law_keg_here", "_law_some"] 2 (SpM ⟨K, mg⟩ d__law_pick) := ⟨f14, _, PySem.W.mg_of X G a14, F14, b14, ok__law_pick T C__law_pour F14⟩
  have C__law_point : Callee l.prog w K mg base "_law_point" "_law_point" s__law_point ["_law_keg_here", "_law_far"] 3 (SpM ⟨K, mg⟩ d__law_point) := ⟨f15, _, PySem.W.mg_of X G a15, F15, b15, ok__law_point T C__law_pour C__law_pick F15⟩
  have C__law_way : Callee l.prog w K mg base "_law_way" "_law_way" s__law_way ["_law_one", "_law_other"] 1 (SpP ⟨K, mg⟩ d__law_way) := ⟨f16, _, PySem.W.mg_of X G a16, F16, b16, ok__law_way T F16⟩
  have C__law_cross : Callee l.prog w K mg base "_law_cross" "_law_cross" s__law_cross ["_law_one", "_law_other"] 1 (SpP ⟨K, mg⟩ d__law_cross) := ⟨f17, _, PySem.W.mg_of X G a17, F17, b17, ok__law_cross T F17⟩
  have C__law_common : Callee l.prog w K mg base "_law_common" "_law_common" s__law_common ["_law_one", "_law_other", "_law_third", "_law_fourth"] 2 (SpP ⟨K, mg⟩ d__law_common) := ⟨f18, _, PySem.W.mg_of X G a18, F18, b18, ok__law_common T C__law_way C__law_cross F18⟩
  have C__law_part : CThk l.prog w K mg base "_law_part" s__law_part ["_law_ask", "_law_caught", "error"] "_law_ask" 6 d__law_part := ⟨f19, _, PySem.W.mg_of X G a19, F19, b19, ok__law_part T f19⟩
  exact ok_law T C__law_keg C__law_pick C__law_point C__law_common C_do_meet C__law_cross C__law_way C_side_of C__law_part F20 (PySem.W.mg_of X G a20) zc TB
-- CASES !tab zg;a0;l0;c0;k0;a1;l1;c1;k1;a2;l2;c2;k2;a3;l3;c3;k3;a4;l4;c4;k4;a5;l5;c5;k5;a6;l6;c6;k6;a7;l7;c7;k7;a8;l8;c8;k8;a9;l9;c9;k9;a10;l10;c10;k10;a11;l11;c11;k11;a12;l12;c12;k12;a13;l13;c13;k13;a14;l14;c14;k14;a15;l15;c15;k15;a16;l16;c16;k16;a17;l17;c17;k17;a18;l18;c18;k18;a19;l19;c19;k19;a20;l20;c20;k20;z_abs;z_all;z_bool;z_int;z_isinstance;z_len;z_list;z_max;z_min;z_range;z_repr;z_sorted;z_tuple;ga_FenceError;ga_BadPoint;ei_BadPoint;el_BadPoint;ec_BadPoint;elc_BadPoint;eld_BadPoint;!rfl ev_BadPoint;!rfl ef_BadPoint;!eq eb_BadPoint;ga_Misfit;ei_Misfit;el_Misfit;ec_Misfit;elc_Misfit;eld_Misfit;!rfl ev_Misfit;!rfl ef_Misfit;!eq eb_Misfit;zsup;zopq;!rfl ztop;!eq zrel;!rfl zc;!eq zt;!eq zn
end k06
end Pf

namespace Pf
namespace k06
open PySem PySem.Spec L2
/-! ### the plane -/
theorem sq_pos {a : Int} (h : a ≠ 0) : 0 < a * a := by
  rcases Int.lt_or_gt_of_ne h with z | z
  · have := Int.mul_pos (show 0 < -a by omega) (show 0 < -a by omega)
    rw [Int.neg_mul_neg] at this
    exact this
  · exact Int.mul_pos z z
theorem sq_nn (a : Int) : 0 ≤ a * a := by
  by_cases h : a = 0
  · subst h; decide
  · exact Int.le_of_lt (sq_pos h)
theorem neg_of {s k : Int} (hs : 0 < s) (h : s * k ≤ 0) : k ≤ 0 := by
  rcases Int.lt_or_le 0 k with z | z
  · have := Int.mul_pos hs z
    omega
  · exact z
theorem np {s k : Int} (hs : 0 ≤ s) (h : k ≤ 0) : s * k ≤ 0 := by
  have := Int.mul_nonneg hs (show 0 ≤ -k by omega)
  rw [Int.mul_neg] at this
  omega
/-- p lies within a and b -/
def inB (p a b : Int) : Bool := decide ((if b < a then b else a) ≤ p) && decide (p ≤ (if b > a then b else a))
theorem between {p a b : Int} : inB p a b = true ↔ (p - a) * (p - b) ≤ 0 := by
  unfold inB
  rw [Bool.and_eq_true, decide_eq_true_eq, decide_eq_true_eq]
  constructor
  · intro ⟨h1, h2⟩
    have : (p - a ≤ 0 ∧ 0 ≤ p - b) ∨ (0 ≤ p - a ∧ p - b ≤ 0) := by
      split at h1 <;> split at h2 <;> omega
    rcases this with ⟨z, w⟩ | ⟨z, w⟩
    · have := np w z
      rw [Int.mul_comm]
      exact this
    · exact np z w
  · intro h
    rcases Int.lt_trichotomy p a with z | z | z
    · rcases Int.lt_or_le p b with w | w
      · have := Int.mul_pos (show 0 < a - p by omega) (show 0 < b - p by omega)
        have e : (a - p) * (b - p) = (p - a) * (p - b) := by grind
        omega
      · constructor <;> split <;> omega
    · constructor <;> split <;> omega
    · rcases Int.lt_or_le b p with w | w
      · have := Int.mul_pos (show 0 < p - a by omega) (show 0 < p - b by omega)
        omega
      · constructor <;> split <;> omega
/-- 0 ≤ t B ≤ B B says that t lies within 0 and B -/
theorem share_iff {t B : Int} (hB : B ≠ 0) : (0 ≤ t * B ∧ t * B ≤ B * B) ↔ t * (t - B) ≤ 0 := by
  have sp := sq_pos hB
  constructor
  · intro ⟨h1, h2⟩
    have e : B * B * (t * (t - B)) = (t * B) * (t * B - B * B) := by grind
    exact neg_of sp (by rw [e]; exact np h1 (by omega))
  · intro h
    have e : (t * B) * (t * B - B * B) ≤ 0 := by
      have : (t * B) * (t * B - B * B) = B * B * (t * (t - B)) := by grind
      rw [this]
      exact np (Int.le_of_lt sp) h
    generalize t * B = u at e
    generalize B * B = v at e sp
    rcases Int.lt_or_le u 0 with z | z
    · have := Int.mul_pos (show 0 < -u by omega) (show 0 < v - u by omega)
      have e2 : -u * (v - u) = u * (u - v) := by grind
      omega
    · refine ⟨z, ?_⟩
      rcases Int.lt_or_le v u with w | w
      · have := Int.mul_pos (show 0 < u by omega) (show 0 < u - v by omega)
        omega
      · exact w
/-- on a line: within, both ways -/
theorem line_iff {B t u g x a b : Int} (hB : B ≠ 0) (e1 : B * (x - a) = t * g) (e2 : B * (x - b) = u * g) : (t * u ≤ 0 → (x - a) * (x - b) ≤ 0) ∧ (g ≠ 0 → (x - a) * (x - b) ≤ 0 → t * u ≤ 0) := by
  have sp := sq_pos hB
  have e : B * B * ((x - a) * (x - b)) = g * g * (t * u) := by
    have : B * B * ((x - a) * (x - b)) = (B * (x - a)) * (B * (x - b)) := by grind
    rw [this, e1, e2]
    grind
  refine ⟨fun h => neg_of sp (by rw [e]; exact np (sq_nn g) h), fun hg h => neg_of (sq_pos hg) (by rw [← e]; exact np (Int.le_of_lt sp) h)⟩
/-- two stretches that share a place are not apart -/
theorem near {B t s a b c d M m : Int} (hB : 0 < B) (t0 : 0 ≤ t) (t1 : t ≤ B) (s0 : 0 ≤ s) (s1 : s ≤ B) (e : B * a + t * (b - a) = B * c + s * (d - c)) (h1 : a ≤ M) (h2 : b ≤ M) (h3 : m ≤ c) (h4 : m ≤ d) : m ≤ M := by
  have q1 := Int.mul_nonneg (show 0 ≤ B - t by omega) (show 0 ≤ M - a by omega)
  have q2 := Int.mul_nonneg t0 (show 0 ≤ M - b by omega)
  have q3 := Int.mul_nonneg (show 0 ≤ B - s by omega) (show 0 ≤ c - m by omega)
  have q4 := Int.mul_nonneg s0 (show 0 ≤ d - m by omega)
  have k : 0 ≤ B * (M - m) := by
    have : B * (M - m) = (B - t) * (M - a) + t * (M - b) + ((B - s) * (c - m) + s * (d - m)) + ((B * a + t * (b - a)) - (B * c + s * (d - c))) := by grind
    rw [this, e]
    omega
  rcases Int.lt_or_le M m with z | z
  · have := Int.mul_pos hB (show 0 < m - M by omega)
    have : B * (m - M) = - (B * (M - m)) := by grind
    omega
  · exact z
theorem near2 {B t s a b c d M m : Int} (hB : B ≠ 0) (ht : t * (t - B) ≤ 0) (hs : s * (s - B) ≤ 0) (e : B * a + t * (b - a) = B * c + s * (d - c)) (h1 : a ≤ M) (h2 : b ≤ M) (h3 : m ≤ c) (h4 : m ≤ d) : m ≤ M := by
  have rng : ∀ t B : Int, 0 < B → t * (t - B) ≤ 0 → 0 ≤ t ∧ t ≤ B := fun t B hB h => by
    constructor
    · rcases Int.lt_or_le t 0 with z | z
      · have := Int.mul_pos (show 0 < -t by omega) (show 0 < B - t by omega)
        have e2 : -t * (B - t) = t * (t - B) := by grind
        omega
      · exact z
    · rcases Int.lt_or_le B t with z | z
      · have := Int.mul_pos (show 0 < t by omega) (show 0 < t - B by omega)
        omega
      · exact z
  rcases Int.lt_or_gt_of_ne hB with z | z
  · obtain ⟨a1, a2⟩ := rng (-t) (-B) (by omega) (by have : -t * (-t - -B) = t * (t - B) := by grind
                                                    omega)
    obtain ⟨b1, b2⟩ := rng (-s) (-B) (by omega) (by have : -s * (-s - -B) = s * (s - B) := by grind
                                                    omega)
    exact near (B := -B) (by omega) a1 a2 b1 b2 (by grind) h1 h2 h3 h4
  · obtain ⟨a1, a2⟩ := rng t B z ht
    obtain ⟨b1, b2⟩ := rng s B z hs
    exact near z a1 a2 b1 b2 e h1 h2 h3 h4
/-! ### what the two texts tell -/
def crs (a b c d : Int) : Int := a * d - b * c
def trn (ax ay bx by_ px py : Int) : Int := crs (bx - ax) (by_ - ay) (px - ax) (py - ay)
def onB (px py ax ay bx by_ : Int) : Bool := decide (trn ax ay bx by_ px py = 0) && (inB px ax bx && inB py ay by_)
def aprt (a b c d : Int) : Bool := decide ((if b > a then b else a) < (if d < c then d else c)) || decide ((if d > c then d else c) < (if b < a then b else a))
def sg (n : Int) : Int := (if 0 < n then 1 else 0) - (if n < 0 then 1 else 0)
def meetB (ax ay bx by_ cx cy dx dy : Int) : Bool :=
  !(aprt ax bx cx dx || aprt ay by_ cy dy) && (onB cx cy ax ay bx by_ || onB dx dy ax ay bx by_ || (onB ax ay cx cy dx dy || onB bx by_ cx cy dx dy) ||
    (decide (sg (trn ax ay bx by_ cx cy) * sg (trn ax ay bx by_ dx dy) < 0) && decide (sg (trn cx cy dx dy ax ay) * sg (trn cx cy dx dy bx by_) < 0)))
def lieB (px py sx sy ex ey : Int) : Bool := decide (crs (px - sx) (py - sy) (ex - sx) (ey - sy) = 0) && (decide ((px - sx) * (px - ex) ≤ 0) && decide ((py - sy) * (py - ey) ≤ 0))
def ownB (ax ay bx by_ cx cy dx dy : Int) : Bool :=
  let B := crs (bx - ax) (by_ - ay) (dx - cx) (dy - cy)
  let t := crs (cx - ax) (cy - ay) (dx - cx) (dy - cy)
  let s := crs (cx - ax) (cy - ay) (bx - ax) (by_ - ay)
  if B ≠ 0 then (decide (0 ≤ t * B) && decide (t * B ≤ B * B)) && (decide (0 ≤ s * B) && decide (s * B ≤ B * B))
  else lieB ax ay cx cy dx dy || lieB bx by_ cx cy dx dy || lieB cx cy ax ay bx by_ || lieB dx dy ax ay bx by_
theorem sg_neg {a b : Int} : (sg a * sg b < 0) ↔ a * b < 0 := by
  have e : ∀ n : Int, (0 < n ∧ sg n = 1) ∨ (n = 0 ∧ sg n = 0) ∨ (n < 0 ∧ sg n = -1) := fun n => by
    unfold sg
    rcases Int.lt_trichotomy n 0 with z | z | z
    · exact .inr (.inr ⟨z, by rw [if_neg (by omega), if_pos z]; rfl⟩)
    · exact .inr (.inl ⟨z, by rw [if_neg (by omega), if_neg (by omega)]; rfl⟩)
    · exact .inl ⟨z, by rw [if_pos z, if_neg (by omega)]; rfl⟩
  rcases e a with ⟨h1, h2⟩ | ⟨h1, h2⟩ | ⟨h1, h2⟩ <;> rcases e b with ⟨k1, k2⟩ | ⟨k1, k2⟩ | ⟨k1, k2⟩ <;> rw [h2, k2]
  · have := Int.mul_pos h1 k1
    omega
  · subst k1; simp
  · have := Int.mul_pos h1 (show 0 < -b by omega)
    rw [Int.mul_neg] at this
    omega
  · subst h1; simp
  · subst h1; simp
  · subst h1; simp
  · have := Int.mul_pos (show 0 < -a by omega) k1
    rw [Int.neg_mul] at this
    omega
  · subst k1; simp
  · have := Int.mul_pos (show 0 < -a by omega) (show 0 < -b by omega)
    rw [Int.neg_mul_neg] at this
    omega
theorem on_lie {px py ax ay bx by_ : Int} : onB px py ax ay bx by_ = lieB px py ax ay bx by_ := by
  unfold onB lieB trn
  have e1 : decide (crs (bx - ax) (by_ - ay) (px - ax) (py - ay) = 0) = decide (crs (px - ax) (py - ay) (bx - ax) (by_ - ay) = 0) := by
    refine decide_eq_decide.mpr ?_
    unfold crs
    constructor <;> intro h <;> grind
  rw [e1]
  have e2 : inB px ax bx = decide ((px - ax) * (px - bx) ≤ 0) := by
    rw [Bool.eq_iff_iff, between, decide_eq_true_eq]
  have e3 : inB py ay by_ = decide ((py - ay) * (py - by_) ≤ 0) := by
    rw [Bool.eq_iff_iff, between, decide_eq_true_eq]
  rw [e2, e3]
theorem apart_of {p a b c d : Int} (h1 : inB p a b = true) (h2 : inB p c d = true) : aprt a b c d = false := by
  unfold inB at h1 h2
  unfold aprt
  simp only [Bool.and_eq_true, decide_eq_true_eq, Bool.or_eq_false_iff, decide_eq_false_iff_not] at h1 h2 ⊢
  obtain ⟨a1, a2⟩ := h1
  obtain ⟨b1, b2⟩ := h2
  refine ⟨fun z => ?_, fun z => ?_⟩ <;> omega
theorem in_left {a b : Int} : inB a a b = true := between.mpr (by rw [Int.sub_self, Int.zero_mul]; exact Int.le_refl _)
theorem in_right {a b : Int} : inB b a b = true := between.mpr (by rw [Int.sub_self, Int.mul_zero]; exact Int.le_refl _)
theorem meet_own (ax ay bx by_ cx cy dx dy : Int) : meetB ax ay bx by_ cx cy dx dy = ownB ax ay bx by_ cx cy dx dy := by
  -- the four turns
  have t1 : trn ax ay bx by_ cx cy = -crs (cx - ax) (cy - ay) (bx - ax) (by_ - ay) := by unfold trn crs; grind
  have t2 : trn ax ay bx by_ dx dy = crs (bx - ax) (by_ - ay) (dx - cx) (dy - cy) - crs (cx - ax) (cy - ay) (bx - ax) (by_ - ay) := by unfold trn crs; grind
  have t3 : trn cx cy dx dy ax ay = crs (cx - ax) (cy - ay) (dx - cx) (dy - cy) := by unfold trn crs; grind
  have t4 : trn cx cy dx dy bx by_ = crs (cx - ax) (cy - ay) (dx - cx) (dy - cy) - crs (bx - ax) (by_ - ay) (dx - cx) (dy - cy) := by unfold trn crs; grind
  have ex : crs (bx - ax) (by_ - ay) (dx - cx) (dy - cy) * (cx - ax) = crs (cx - ax) (cy - ay) (dx - cx) (dy - cy) * (bx - ax) - crs (cx - ax) (cy - ay) (bx - ax) (by_ - ay) * (dx - cx) := by unfold crs; grind
  have ey : crs (bx - ax) (by_ - ay) (dx - cx) (dy - cy) * (cy - ay) = crs (cx - ax) (cy - ay) (dx - cx) (dy - cy) * (by_ - ay) - crs (cx - ax) (cy - ay) (bx - ax) (by_ - ay) * (dy - cy) := by unfold crs; grind
  have nz : crs (bx - ax) (by_ - ay) (dx - cx) (dy - cy) ≠ 0 → (bx - ax ≠ 0 ∨ by_ - ay ≠ 0) ∧ (dx - cx ≠ 0 ∨ dy - cy ≠ 0) := fun h => by
    constructor
    · rcases Decidable.em (bx - ax = 0) with z | z
      · rcases Decidable.em (by_ - ay = 0) with w | w
        · exact absurd (by unfold crs; rw [z, w]; simp) h
        · exact .inr w
      · exact .inl z
    · rcases Decidable.em (dx - cx = 0) with z | z
      · rcases Decidable.em (dy - cy = 0) with w | w
        · exact absurd (by unfold crs; rw [z, w]; simp) h
        · exact .inr w
      · exact .inl z
  unfold meetB ownB
  dsimp only
  by_cases hB : crs (bx - ax) (by_ - ay) (dx - cx) (dy - cy) = 0
  · rw [if_neg (fun z => z hB)]
    rw [← on_lie, ← on_lie, ← on_lie, ← on_lie]
    have no : decide (sg (trn ax ay bx by_ cx cy) * sg (trn ax ay bx by_ dx dy) < 0) = false := by
      refine decide_eq_false fun z => ?_
      have z := sg_neg.mp z
      rw [t2, hB, show (0 : Int) - crs (cx - ax) (cy - ay) (bx - ax) (by_ - ay) = -crs (cx - ax) (cy - ay) (bx - ax) (by_ - ay) by omega, ← t1] at z
      have := sq_nn (trn ax ay bx by_ cx cy)
      omega
    rw [no, Bool.false_and, Bool.or_false]
    have near : ∀ px py : Int, (onB px py ax ay bx by_ = true ∧ inB px cx dx = true ∧ inB py cy dy = true) ∨ (onB px py cx cy dx dy = true ∧ inB px ax bx = true ∧ inB py ay by_ = true) → (aprt ax bx cx dx || aprt ay by_ cy dy) = false := fun px py h => by
      rcases h with ⟨h, k1, k2⟩ | ⟨h, k1, k2⟩ <;> (
        unfold onB at h
        simp only [Bool.and_eq_true] at h
        obtain ⟨_, j1, j2⟩ := h
        first
          | rw [apart_of j1 k1, apart_of j2 k2]; rfl
          | rw [apart_of k1 j1, apart_of k2 j2]; rfl)
    cases h1 : onB cx cy ax ay bx by_ with
    | true => rw [near cx cy (.inl ⟨h1, in_left, in_left⟩)]; simp
    | false =>
      cases h2 : onB dx dy ax ay bx by_ with
      | true => rw [near dx dy (.inl ⟨h2, in_right, in_right⟩)]; simp
      | false =>
        cases h3 : onB ax ay cx cy dx dy with
        | true => rw [near ax ay (.inr ⟨h3, in_left, in_left⟩)]; simp
        | false =>
          cases h4 : onB bx by_ cx cy dx dy with
          | true => rw [near bx by_ (.inr ⟨h4, in_right, in_right⟩)]; simp
          | false => simp
  · rw [if_pos hB]
    obtain ⟨nb, ni⟩ := nz hB
    have sh1 : (decide (0 ≤ crs (cx - ax) (cy - ay) (dx - cx) (dy - cy) * crs (bx - ax) (by_ - ay) (dx - cx) (dy - cy)) && decide (crs (cx - ax) (cy - ay) (dx - cx) (dy - cy) * crs (bx - ax) (by_ - ay) (dx - cx) (dy - cy) ≤ crs (bx - ax) (by_ - ay) (dx - cx) (dy - cy) * crs (bx - ax) (by_ - ay) (dx - cx) (dy - cy))) = decide (crs (cx - ax) (cy - ay) (dx - cx) (dy - cy) * (crs (cx - ax) (cy - ay) (dx - cx) (dy - cy) - crs (bx - ax) (by_ - ay) (dx - cx) (dy - cy)) ≤ 0) := by
      rw [Bool.eq_iff_iff, Bool.and_eq_true, decide_eq_true_eq, decide_eq_true_eq, decide_eq_true_eq]
      exact share_iff hB
    have sh2 : (decide (0 ≤ crs (cx - ax) (cy - ay) (bx - ax) (by_ - ay) * crs (bx - ax) (by_ - ay) (dx - cx) (dy - cy)) && decide (crs (cx - ax) (cy - ay) (bx - ax) (by_ - ay) * crs (bx - ax) (by_ - ay) (dx - cx) (dy - cy) ≤ crs (bx - ax) (by_ - ay) (dx - cx) (dy - cy) * crs (bx - ax) (by_ - ay) (dx - cx) (dy - cy))) = decide (crs (cx - ax) (cy - ay) (bx - ax) (by_ - ay) * (crs (cx - ax) (cy - ay) (bx - ax) (by_ - ay) - crs (bx - ax) (by_ - ay) (dx - cx) (dy - cy)) ≤ 0) := by
      rw [Bool.eq_iff_iff, Bool.and_eq_true, decide_eq_true_eq, decide_eq_true_eq, decide_eq_true_eq]
      exact share_iff hB
    rw [sh1, sh2]
    unfold onB
    rw [t1, t2, t3, t4]
    generalize crs (bx - ax) (by_ - ay) (dx - cx) (dy - cy) = B at *
    generalize crs (cx - ax) (cy - ay) (dx - cx) (dy - cy) = t at *
    generalize crs (cx - ax) (cy - ay) (bx - ax) (by_ - ay) = s at *
    have two : ∀ {p q a b c d g h u v : Int}, B * (p - a) = u * g → B * (p - b) = v * g → B * (q - c) = u * h → B * (q - d) = v * h → (g ≠ 0 ∨ h ≠ 0) → (inB p a b && inB q c d) = decide (u * v ≤ 0) := fun {p q a b c d g h u v} e1 e2 e3 e4 n => by
      rw [Bool.eq_iff_iff, Bool.and_eq_true, between, between, decide_eq_true_eq]
      constructor
      · intro ⟨k1, k2⟩
        rcases n with n | n
        · exact (line_iff hB e1 e2).2 n k1
        · exact (line_iff hB e3 e4).2 n k2
      · intro k
        exact ⟨(line_iff hB e1 e2).1 k, (line_iff hB e3 e4).1 k⟩
    have onc : (decide (-s = 0) && (inB cx ax bx && inB cy ay by_)) = (decide (s = 0) && decide (t * (t - B) ≤ 0)) := by
      by_cases z : s = 0
      · subst z
        rw [two (g := bx - ax) (h := by_ - ay) (u := t) (v := t - B) (by rw [ex]; grind) (by grind) (by rw [ey]; grind) (by grind) nb]
        simp
      · rw [decide_eq_false (by omega), decide_eq_false z]; rfl
    have ond : (decide (B - s = 0) && (inB dx ax bx && inB dy ay by_)) = (decide (s = B) && decide (t * (t - B) ≤ 0)) := by
      by_cases z : s = B
      · subst z
        rw [two (g := bx - ax) (h := by_ - ay) (u := t) (v := t - s) (by grind) (by grind) (by grind) (by grind) nb]
        simp
      · rw [decide_eq_false (by omega), decide_eq_false z]; rfl
    have ona : (decide (t = 0) && (inB ax cx dx && inB ay cy dy)) = (decide (t = 0) && decide (s * (s - B) ≤ 0)) := by
      by_cases z : t = 0
      · subst z
        rw [two (g := dx - cx) (h := dy - cy) (u := s) (v := s - B) (by grind) (by grind) (by grind) (by grind) ni]
      · rw [decide_eq_false z]; rfl
    have onb : (decide (t - B = 0) && (inB bx cx dx && inB by_ cy dy)) = (decide (t = B) && decide (s * (s - B) ≤ 0)) := by
      by_cases z : t = B
      · subst z
        rw [two (g := dx - cx) (h := dy - cy) (u := s) (v := s - t) (by grind) (by grind) (by grind) (by grind) ni]
        simp
      · rw [decide_eq_false (by omega), decide_eq_false z]; rfl
    rw [onc, ond, ona, onb]
    have st1 : decide (sg (-s) * sg (B - s) < 0) = decide (s * (s - B) < 0) := by
      refine decide_eq_decide.mpr (sg_neg.trans ?_)
      have : -s * (B - s) = s * (s - B) := by grind
      rw [this]
    have st2 : decide (sg t * sg (t - B) < 0) = decide (t * (t - B) < 0) := decide_eq_decide.mpr sg_neg
    rw [st1, st2]
    have zero : ∀ u : Int, u * (u - B) = 0 → u = 0 ∨ u = B := fun u h => by
      rcases Int.mul_eq_zero.mp h with z | z
      · exact .inl z
      · exact .inr (by omega)
    have z0 : ∀ u : Int, u = 0 ∨ u = B → u * (u - B) = 0 := fun u h => by
      rcases h with z | z
      · rw [z]; simp
      · rw [z]; simp
    -- not apart, where the shares lie within
    have near : t * (t - B) ≤ 0 → s * (s - B) ≤ 0 → (aprt ax bx cx dx || aprt ay by_ cy dy) = false := fun h1 h2 => by
      have go : ∀ a b c d : Int, B * (c - a) = t * (b - a) - s * (d - c) → aprt a b c d = false := fun a b c d e => by
        have e : B * a + t * (b - a) = B * c + s * (d - c) := by grind
        unfold aprt
        rw [Bool.or_eq_false_iff]
        refine ⟨decide_eq_false fun z => ?_, decide_eq_false fun z => ?_⟩
        · have := near2 (M := if b > a then b else a) (m := if d < c then d else c) hB h1 h2 e (by split <;> omega) (by split <;> omega) (by split <;> omega) (by split <;> omega)
          omega
        · have := near2 (M := if d > c then d else c) (m := if b < a then b else a) hB h2 h1 e.symm (by split <;> omega) (by split <;> omega) (by split <;> omega) (by split <;> omega)
          omega
      rw [go ax bx cx dx ex, go ay by_ cy dy ey]; rfl
    generalize (aprt ax bx cx dx || aprt ay by_ cy dy) = ap at near ⊢
    rcases Int.lt_trichotomy (t * (t - B)) 0 with p | p | p <;> rcases Int.lt_trichotomy (s * (s - B)) 0 with q | q | q
    · rw [near (by omega) (by omega), decide_eq_true p, decide_eq_true q, decide_eq_true (show t * (t - B) ≤ 0 by omega), decide_eq_true (show s * (s - B) ≤ 0 by omega)]; simp
    · rw [near (by omega) (by omega), decide_eq_true (show t * (t - B) ≤ 0 by omega), decide_eq_true (show s * (s - B) ≤ 0 by omega)]
      rcases zero s q with z | z <;> simp [z]
    · have n0 : ¬ s = 0 := fun z => by have := z0 s (.inl z); omega
      have n1 : ¬ s = B := fun z => by have := z0 s (.inr z); omega
      rw [decide_eq_false n0, decide_eq_false n1, decide_eq_false (show ¬ s * (s - B) ≤ 0 by omega), decide_eq_false (show ¬ s * (s - B) < 0 by omega)]; simp
    · rw [near (by omega) (by omega), decide_eq_true (show t * (t - B) ≤ 0 by omega), decide_eq_true (show s * (s - B) ≤ 0 by omega)]
      rcases zero t p with z | z <;> simp [z]
    · rw [near (by omega) (by omega), decide_eq_true (show t * (t - B) ≤ 0 by omega), decide_eq_true (show s * (s - B) ≤ 0 by omega)]
      rcases zero t p with z | z <;> simp [z]
    · have n0 : ¬ s = 0 := fun z => by have := z0 s (.inl z); omega
      have n1 : ¬ s = B := fun z => by have := z0 s (.inr z); omega
      rw [decide_eq_false n0, decide_eq_false n1, decide_eq_false (show ¬ s * (s - B) ≤ 0 by omega), decide_eq_false (show ¬ s * (s - B) < 0 by omega)]; simp
    all_goals
      have n0 : ¬ t = 0 := fun z => by have := z0 t (.inl z); omega
      have n1 : ¬ t = B := fun z => by have := z0 t (.inr z); omega
      rw [decide_eq_false n0, decide_eq_false n1, decide_eq_false (show ¬ t * (t - B) ≤ 0 by omega), decide_eq_false (show ¬ t * (t - B) < 0 by omega)]; simp
/-! ### the texts, plainly -/
theorem callP_ok {f : List D → RP} {ds : List D} {t : T} {ρ : Env} (e : f ds = .ok t) : callP f ds ρ = .ok t ρ := by
  unfold callP
  rw [e]
abbrev Bt (k : Nat) (z : Int) : Prop := Builtin.Int.intBits z ≤ k
abbrev P (a b : Int) : D := .tup [.int a, .int b]
theorem bt_sub {a b : Int} (h1 : Bt 110 a) (h2 : Bt 110 b) : Bt 200 (a - b) := Nat.le_trans (intBits_sub_le h1 h2) (by decide)
theorem bt_crs {a b c d : Int} (h1 : Bt 200 a) (h2 : Bt 200 b) (h3 : Bt 200 c) (h4 : Bt 200 d) : Bt 500 (crs a b c d) := Nat.le_trans (intBits_sub_le (intBits_mul_le h1 h4) (intBits_mul_le h2 h3)) (by decide)
theorem mo {a b : Int} (h1 : Bt 500 a) (h2 : Bt 500 b) : mulOk a b = true := mulOk_of h1 h2 (by decide)
theorem up5 {a : Int} (h : Bt 200 a) : Bt 500 a := Nat.le_trans h (by decide)
theorem way_ok {a b c d : Int} : d_way [P a b, P c d] = .ok (.sh (P (c - a) (d - b))) := by
  refine (q_denP rfl).trans ?_
  unfold g_way
  have sz2 : (0 : Nat) + 1 + 1 ≤ sizeLine := by decide
  simp only [q_od1, q_od2, q_od3, q_od4, q_bind, q_bindx, q_s, q_sx, q_nx, q_rt, q_bk, q_ct, q_ex, q_seq, q_nil, q_if, q_expr, q_set, q_put, q_puto, q_puta, q_lookPs, q_lookPo, q_ret0, q_ret, q_reto, q_reta, q_lookRs, q_lookRo, q_c, q_v, q_lookVs, q_lookVo, q_view, q_viewo, q_viewa, q_slots, q_sloto, q_opt, q_e1, q_e2, q_eN, q_an, q_ac, q_views0, q_views, q_shs0, q_shs, q_f, q_frz, q_frzo, q_frza, q_lookFs, q_lookFo, q_lst, q_tup, q_mkL, q_mkT, q_cB, q_cV, q_cAnd, q_cOr, q_cNot, q_eIf, q_isBl, q_eAnd, q_eOr, q_eNot, q_andT, q_andF, q_orT, q_orF, q_notK, q_ix, q_ixJ, q_lookJ, q_ixK, q_lookK, q_stK, q_call, q_callO, q_callM, q_callK, q_lookC, q_resC, q_resCx, q_lent, q_lookL, q_resM, q_resMo, q_resMn, q_resMx, q_resP, q_resPo, q_resPn, q_resPx, q_asBl, List.not_mem_nil, q_lt, q_le, q_gt, q_ge, q_add, q_sub, q_mul, q_fdiv, q_mod, q_neg, q_int, q_intb, q_abs, q_len, q_lent1, q_lenr, q_ixl, q_ixt, q_ixr, q_trub, q_trun, q_trui, q_trul, q_trut, q_isn, q_isNn, q_isiT, at0, at1, at2, ixN1, ixN2, startE, List.map_cons, List.map_nil, List.length_cons, List.length_nil, List.replicate, List.cons_append, List.nil_append, List.getElem?_cons_zero, List.getElem?_cons_succ, List.set_cons_zero, List.set_cons_succ, Option.map_some, Option.bind_some, Option.map_none, Option.bind_none, Nat.reduceAdd, Nat.reduceSub, if_true, if_false, Bool.false_eq_true, decide_true, decide_false, Bool.not_true, Bool.not_false, reduceIte, List.length_map, sz2]
theorem way2_ok {a b c d : Int} : d__law_way [P a b, P c d] = .ok (.sh (P (c - a) (d - b))) := way_ok
theorem cross_ok {a b c d : Int} (h1 : Bt 200 a) (h2 : Bt 200 b) (h3 : Bt 200 c) (h4 : Bt 200 d) : d_cross [P a b, P c d] = .ok (.sh (.int (crs a b c d))) := by
  have m1 : mulOk a d = true := mo (up5 h1) (up5 h4)
  have m2 : mulOk b c = true := mo (up5 h2) (up5 h3)
  refine (q_denP rfl).trans ?_
  unfold g_cross crs
  simp only [q_od1, q_od2, q_od3, q_od4, q_bind, q_bindx, q_s, q_sx, q_nx, q_rt, q_bk, q_ct, q_ex, q_seq, q_nil, q_if, q_expr, q_set, q_put, q_puto, q_puta, q_lookPs, q_lookPo, q_ret0, q_ret, q_reto, q_reta, q_lookRs, q_lookRo, q_c, q_v, q_lookVs, q_lookVo, q_view, q_viewo, q_viewa, q_slots, q_sloto, q_opt, q_e1, q_e2, q_eN, q_an, q_ac, q_views0, q_views, q_shs0, q_shs, q_f, q_frz, q_frzo, q_frza, q_lookFs, q_lookFo, q_lst, q_tup, q_mkL, q_mkT, q_cB, q_cV, q_cAnd, q_cOr, q_cNot, q_eIf, q_isBl, q_eAnd, q_eOr, q_eNot, q_andT, q_andF, q_orT, q_orF, q_notK, q_ix, q_ixJ, q_lookJ, q_ixK, q_lookK, q_stK, q_call, q_callO, q_callM, q_callK, q_lookC, q_resC, q_resCx, q_lent, q_lookL, q_resM, q_resMo, q_resMn, q_resMx, q_resP, q_resPo, q_resPn, q_resPx, q_asBl, List.not_mem_nil, q_lt, q_le, q_gt, q_ge, q_add, q_sub, q_mul, q_fdiv, q_mod, q_neg, q_int, q_intb, q_abs, q_len, q_lent1, q_lenr, q_ixl, q_ixt, q_ixr, q_trub, q_trun, q_trui, q_trul, q_trut, q_isn, q_isNn, q_isiT, at0, at1, at2, ixN1, ixN2, startE, List.map_cons, List.map_nil, List.length_cons, List.length_nil, List.replicate, List.cons_append, List.nil_append, List.getElem?_cons_zero, List.getElem?_cons_succ, List.set_cons_zero, List.set_cons_succ, Option.map_some, Option.bind_some, Option.map_none, Option.bind_none, Nat.reduceAdd, Nat.reduceSub, if_true, if_false, Bool.false_eq_true, decide_true, decide_false, Bool.not_true, Bool.not_false, reduceIte, List.length_map, m1, m2]
theorem cross2_ok {a b c d : Int} (h1 : Bt 200 a) (h2 : Bt 200 b) (h3 : Bt 200 c) (h4 : Bt 200 d) : d__law_cross [P a b, P c d] = .ok (.sh (.int (crs a b c d))) := cross_ok h1 h2 h3 h4
theorem turn_ok {a b c d e f : Int} (h1 : Bt 110 a) (h2 : Bt 110 b) (h3 : Bt 110 c) (h4 : Bt 110 d) (h5 : Bt 110 e) (h6 : Bt 110 f) : d_turn_of [P a b, P c d, P e f] = .ok (.sh (.int (trn a b c d e f))) := by
  have c1 := fun ρ => callP_ok (ρ := ρ) (way_ok (a := a) (b := b) (c := c) (d := d))
  have c2 := fun ρ => callP_ok (ρ := ρ) (way_ok (a := a) (b := b) (c := e) (d := f))
  have c3 := fun ρ => callP_ok (ρ := ρ) (cross_ok (bt_sub h3 h1) (bt_sub h4 h2) (bt_sub h5 h1) (bt_sub h6 h2))
  refine (q_denP rfl).trans ?_
  unfold g_turn_of trn
  simp only [q_od1, q_od2, q_od3, q_od4, q_bind, q_bindx, q_s, q_sx, q_nx, q_rt, q_bk, q_ct, q_ex, q_seq, q_nil, q_if, q_expr, q_set, q_put, q_puto, q_puta, q_lookPs, q_lookPo, q_ret0, q_ret, q_reto, q_reta, q_lookRs, q_lookRo, q_c, q_v, q_lookVs, q_lookVo, q_view, q_viewo, q_viewa, q_slots, q_sloto, q_opt, q_e1, q_e2, q_eN, q_an, q_ac, q_views0, q_views, q_shs0, q_shs, q_f, q_frz, q_frzo, q_frza, q_lookFs, q_lookFo, q_lst, q_tup, q_mkL, q_mkT, q_cB, q_cV, q_cAnd, q_cOr, q_cNot, q_eIf, q_isBl, q_eAnd, q_eOr, q_eNot, q_andT, q_andF, q_orT, q_orF, q_notK, q_ix, q_ixJ, q_lookJ, q_ixK, q_lookK, q_stK, q_call, q_callO, q_callM, q_callK, q_lookC, q_resC, q_resCx, q_lent, q_lookL, q_resM, q_resMo, q_resMn, q_resMx, q_resP, q_resPo, q_resPn, q_resPx, q_asBl, List.not_mem_nil, q_lt, q_le, q_gt, q_ge, q_add, q_sub, q_mul, q_fdiv, q_mod, q_neg, q_int, q_intb, q_abs, q_len, q_lent1, q_lenr, q_ixl, q_ixt, q_ixr, q_trub, q_trun, q_trui, q_trul, q_trut, q_isn, q_isNn, q_isiT, at0, at1, at2, ixN1, ixN2, startE, List.map_cons, List.map_nil, List.length_cons, List.length_nil, List.replicate, List.cons_append, List.nil_append, List.getElem?_cons_zero, List.getElem?_cons_succ, List.set_cons_zero, List.set_cons_succ, Option.map_some, Option.bind_some, Option.map_none, Option.bind_none, Nat.reduceAdd, Nat.reduceSub, if_true, if_false, Bool.false_eq_true, decide_true, decide_false, Bool.not_true, Bool.not_false, reduceIte, List.length_map, c1, c2, c3]
theorem sign_ok {n : Int} : d_sign_of [.int n] = .ok (.sh (.int (sg n))) := by
  refine (q_denP rfl).trans ?_
  unfold g_sign_of sg
  by_cases h1 : 0 < n
  · by_cases h2 : n < 0
    · omega
    · simp only [q_od1, q_od2, q_od3, q_od4, q_bind, q_bindx, q_s, q_sx, q_nx, q_rt, q_bk, q_ct, q_ex, q_seq, q_nil, q_if, q_expr, q_set, q_put, q_puto, q_puta, q_lookPs, q_lookPo, q_ret0, q_ret, q_reto, q_reta, q_lookRs, q_lookRo, q_c, q_v, q_lookVs, q_lookVo, q_view, q_viewo, q_viewa, q_slots, q_sloto, q_opt, q_e1, q_e2, q_eN, q_an, q_ac, q_views0, q_views, q_shs0, q_shs, q_f, q_frz, q_frzo, q_frza, q_lookFs, q_lookFo, q_lst, q_tup, q_mkL, q_mkT, q_cB, q_cV, q_cAnd, q_cOr, q_cNot, q_eIf, q_isBl, q_eAnd, q_eOr, q_eNot, q_andT, q_andF, q_orT, q_orF, q_notK, q_ix, q_ixJ, q_lookJ, q_ixK, q_lookK, q_stK, q_call, q_callO, q_callM, q_callK, q_lookC, q_resC, q_resCx, q_lent, q_lookL, q_resM, q_resMo, q_resMn, q_resMx, q_resP, q_resPo, q_resPn, q_resPx, q_asBl, List.not_mem_nil, q_lt, q_le, q_gt, q_ge, q_add, q_sub, q_mul, q_fdiv, q_mod, q_neg, q_int, q_intb, q_abs, q_len, q_lent1, q_lenr, q_ixl, q_ixt, q_ixr, q_trub, q_trun, q_trui, q_trul, q_trut, q_isn, q_isNn, q_isiT, at0, at1, at2, ixN1, ixN2, startE, List.map_cons, List.map_nil, List.length_cons, List.length_nil, List.replicate, List.cons_append, List.nil_append, List.getElem?_cons_zero, List.getElem?_cons_succ, List.set_cons_zero, List.set_cons_succ, Option.map_some, Option.bind_some, Option.map_none, Option.bind_none, Nat.reduceAdd, Nat.reduceSub, if_true, if_false, Bool.false_eq_true, decide_true, decide_false, Bool.not_true, Bool.not_false, reduceIte, List.length_map, h1, h2]
  · by_cases h2 : n < 0
    · simp only [q_od1, q_od2, q_od3, q_od4, q_bind, q_bindx, q_s, q_sx, q_nx, q_rt, q_bk, q_ct, q_ex, q_seq, q_nil, q_if, q_expr, q_set, q_put, q_puto, q_puta, q_lookPs, q_lookPo, q_ret0, q_ret, q_reto, q_reta, q_lookRs, q_lookRo, q_c, q_v, q_lookVs, q_lookVo, q_view, q_viewo, q_viewa, q_slots, q_sloto, q_opt, q_e1, q_e2, q_eN, q_an, q_ac, q_views0, q_views, q_shs0, q_shs, q_f, q_frz, q_frzo, q_frza, q_lookFs, q_lookFo, q_lst, q_tup, q_mkL, q_mkT, q_cB, q_cV, q_cAnd, q_cOr, q_cNot, q_eIf, q_isBl, q_eAnd, q_eOr, q_eNot, q_andT, q_andF, q_orT, q_orF, q_notK, q_ix, q_ixJ, q_lookJ, q_ixK, q_lookK, q_stK, q_call, q_callO, q_callM, q_callK, q_lookC, q_resC, q_resCx, q_lent, q_lookL, q_resM, q_resMo, q_resMn, q_resMx, q_resP, q_resPo, q_resPn, q_resPx, q_asBl, List.not_mem_nil, q_lt, q_le, q_gt, q_ge, q_add, q_sub, q_mul, q_fdiv, q_mod, q_neg, q_int, q_intb, q_abs, q_len, q_lent1, q_lenr, q_ixl, q_ixt, q_ixr, q_trub, q_trun, q_trui, q_trul, q_trut, q_isn, q_isNn, q_isiT, at0, at1, at2, ixN1, ixN2, startE, List.map_cons, List.map_nil, List.length_cons, List.length_nil, List.replicate, List.cons_append, List.nil_append, List.getElem?_cons_zero, List.getElem?_cons_succ, List.set_cons_zero, List.set_cons_succ, Option.map_some, Option.bind_some, Option.map_none, Option.bind_none, Nat.reduceAdd, Nat.reduceSub, if_true, if_false, Bool.false_eq_true, decide_true, decide_false, Bool.not_true, Bool.not_false, reduceIte, List.length_map, h1, h2]
    · simp only [q_od1, q_od2, q_od3, q_od4, q_bind, q_bindx, q_s, q_sx, q_nx, q_rt, q_bk, q_ct, q_ex, q_seq, q_nil, q_if, q_expr, q_set, q_put, q_puto, q_puta, q_lookPs, q_lookPo, q_ret0, q_ret, q_reto, q_reta, q_lookRs, q_lookRo, q_c, q_v, q_lookVs, q_lookVo, q_view, q_viewo, q_viewa, q_slots, q_sloto, q_opt, q_e1, q_e2, q_eN, q_an, q_ac, q_views0, q_views, q_shs0, q_shs, q_f, q_frz, q_frzo, q_frza, q_lookFs, q_lookFo, q_lst, q_tup, q_mkL, q_mkT, q_cB, q_cV, q_cAnd, q_cOr, q_cNot, q_eIf, q_isBl, q_eAnd, q_eOr, q_eNot, q_andT, q_andF, q_orT, q_orF, q_notK, q_ix, q_ixJ, q_lookJ, q_ixK, q_lookK, q_stK, q_call, q_callO, q_callM, q_callK, q_lookC, q_resC, q_resCx, q_lent, q_lookL, q_resM, q_resMo, q_resMn, q_resMx, q_resP, q_resPo, q_resPn, q_resPx, q_asBl, List.not_mem_nil, q_lt, q_le, q_gt, q_ge, q_add, q_sub, q_mul, q_fdiv, q_mod, q_neg, q_int, q_intb, q_abs, q_len, q_lent1, q_lenr, q_ixl, q_ixt, q_ixr, q_trub, q_trun, q_trui, q_trul, q_trut, q_isn, q_isNn, q_isiT, at0, at1, at2, ixN1, ixN2, startE, List.map_cons, List.map_nil, List.length_cons, List.length_nil, List.replicate, List.cons_append, List.nil_append, List.getElem?_cons_zero, List.getElem?_cons_succ, List.set_cons_zero, List.set_cons_succ, Option.map_some, Option.bind_some, Option.map_none, Option.bind_none, Nat.reduceAdd, Nat.reduceSub, if_true, if_false, Bool.false_eq_true, decide_true, decide_false, Bool.not_true, Bool.not_false, reduceIte, List.length_map, h1, h2]
theorem par_to {i j : Nat} {fs : Env → R (List T)} {ρ ρ1 : Env} {ts : List T} (e : fs ρ = .ok ts ρ1) : sPar i j fs ρ = parK i j ts ρ1 := by
  unfold sPar
  rw [e]
  rfl
theorem par3_to {i j l : Nat} {fs : Env → R (List T)} {ρ ρ1 : Env} {ts : List T} (e : fs ρ = .ok ts ρ1) : sPar3 i j l fs ρ = parK3 i j l ts ρ1 := by
  unfold sPar3
  rw [e]
  rfl
theorem lc_two {m vs : List Nat} {gt : D → Env → Option Env} {fe : Env → R T} {d1 d2 x1 x2 : D} {ρ ρ1 ρ2 ρ3 ρ4 : Env} (g1 : gt d1 ρ = some ρ1) (e1 : eF m fe ρ1 = .ok (.sh x1) ρ2) (g2 : gt d2 (wipeE ρ2 vs) = some ρ3) (e2 : eF m fe ρ3 = .ok (.sh x2) ρ4) : lcD m vs gt cYes fe [d1, d2] 0 ρ = .ok [x1, x2] (wipeE ρ4 vs) := by
  have z0 : (0 : Nat) < sizeLine := by decide
  have z1 : (1 : Nat) < sizeLine := by decide
  unfold lcD
  rw [g1]
  dsimp only [cYes]
  rw [e1]
  dsimp only
  rw [if_pos z0]
  unfold lcD
  rw [g2]
  dsimp only [cYes]
  rw [e2]
  dsimp only
  rw [if_pos z1]
  rfl
theorem eq_int {a b : Int} : eqD (.int a) (.int b) = some (a == b) := by
  show (if (SeqAt.shaped (.int a) && SeqAt.shaped (.int b)) = true then some (PyData.eqv (.int a) (.int b)) else none) = _
  have h : ∀ a : Int, SeqAt.shaped (.int a) = true := fun a => rfl
  rw [h, h]
  rfl
theorem eq_two {a b : Bool} : eqD (.lst [.bl a, .bl b]) (.lst [.bl true, .bl true]) = some (a && b) := by
  cases a <;> cases b <;> kernel_rfl
theorem q_min {a b : Int} : min2D [.int a, .int b] = some (.sh (.int (if b < a then b else a))) := rfl
theorem q_max {a b : Int} : max2D [.int a, .int b] = some (.sh (.int (if b > a then b else a))) := rfl
theorem beq0 {n : Int} : (n == 0) = decide (n = 0) := by
  by_cases h : n = 0
  · rw [decide_eq_true h, beq_iff_eq.mpr h]
  · rw [decide_eq_false h, beq_eq_false_iff_ne.mpr h]
theorem is_on_ok {p q a b c d : Int} (h1 : Bt 110 p) (h2 : Bt 110 q) (h3 : Bt 110 a) (h4 : Bt 110 b) (h5 : Bt 110 c) (h6 : Bt 110 d) : d_is_on [P p q, P a b, P c d] = .ok (.sh (.bl (onB p q a b c d))) := by
  have c1 := fun ρ => callP_ok (ρ := ρ) (turn_ok h3 h4 h5 h6 h1 h2)
  refine (q_denP rfl).trans ?_
  unfold g_is_on
  have ne : neD (.int (trn a b c d p q)) (.int 0) = some (!decide (trn a b c d p q = 0)) := by
    unfold neD
    rw [eq_int, beq0]
    rfl
  unfold onB
  cases ht : decide (trn a b c d p q = 0) with
  | false => simp only [q_od1, q_od2, q_od3, q_od4, q_bind, q_bindx, q_s, q_sx, q_nx, q_rt, q_bk, q_ct, q_ex, q_seq, q_nil, q_if, q_expr, q_set, q_put, q_puto, q_puta, q_lookPs, q_lookPo, q_ret0, q_ret, q_reto, q_reta, q_lookRs, q_lookRo, q_c, q_v, q_lookVs, q_lookVo, q_view, q_viewo, q_viewa, q_slots, q_sloto, q_opt, q_e1, q_e2, q_eN, q_an, q_ac, q_views0, q_views, q_shs0, q_shs, q_f, q_frz, q_frzo, q_frza, q_lookFs, q_lookFo, q_lst, q_tup, q_mkL, q_mkT, q_cB, q_cV, q_cAnd, q_cOr, q_cNot, q_eIf, q_isBl, q_eAnd, q_eOr, q_eNot, q_andT, q_andF, q_orT, q_orF, q_notK, q_ix, q_ixJ, q_lookJ, q_ixK, q_lookK, q_stK, q_call, q_callO, q_callM, q_callK, q_lookC, q_resC, q_resCx, q_lent, q_lookL, q_resM, q_resMo, q_resMn, q_resMx, q_resP, q_resPo, q_resPn, q_resPx, q_asBl, List.not_mem_nil, q_lt, q_le, q_gt, q_ge, q_add, q_sub, q_mul, q_fdiv, q_mod, q_neg, q_int, q_intb, q_abs, q_len, q_lent1, q_lenr, q_ixl, q_ixt, q_ixr, q_trub, q_trun, q_trui, q_trul, q_trut, q_isn, q_isNn, q_isiT, at0, at1, at2, ixN1, ixN2, startE, List.map_cons, List.map_nil, List.length_cons, List.length_nil, List.replicate, List.cons_append, List.nil_append, List.getElem?_cons_zero, List.getElem?_cons_succ, List.set_cons_zero, List.set_cons_succ, Option.map_some, Option.bind_some, Option.map_none, Option.bind_none, Nat.reduceAdd, Nat.reduceSub, if_true, if_false, Bool.false_eq_true, decide_true, decide_false, Bool.not_true, Bool.not_false, reduceIte, List.length_map, c1, ne, ht, Bool.false_and]
  | true =>
    have ch : ∀ (u v w : Int) (i : Int) (ρ : Env), (ρ = [some (.sh (P p q)), some (.sh (P a b)), some (.sh (P c d)), none, some (.sh (.int i))]) → (i = 0 ∧ u = p ∧ v = a ∧ w = c) ∨ (i = 1 ∧ u = q ∧ v = b ∧ w = d) →
        eF [] (eChain leD leD (eN min2D (aCons (Pf.e2 ixD (eV 1) (eV 4)) (aCons (Pf.e2 ixD (eV 2) (eV 4)) (aNil)))) (Pf.e2 ixD (eV 0) (eV 4)) (eN max2D (aCons (Pf.e2 ixD (eV 1) (eV 4)) (aCons (Pf.e2 ixD (eV 2) (eV 4)) (aNil))))) ρ = .ok (.sh (.bl (inB u v w))) ρ := fun u v w i ρ eρ h => by
      subst eρ
      unfold inB
      rcases h with ⟨rfl, rfl, rfl, rfl⟩ | ⟨rfl, rfl, rfl, rfl⟩
      · cases hm : decide ((if w < v then w else v) ≤ u) with
        | false => simp only [q_od1, q_od2, q_od3, q_od4, q_bind, q_bindx, q_s, q_sx, q_nx, q_rt, q_bk, q_ct, q_ex, q_seq, q_nil, q_if, q_expr, q_set, q_put, q_puto, q_puta, q_lookPs, q_lookPo, q_ret0, q_ret, q_reto, q_reta, q_lookRs, q_lookRo, q_c, q_v, q_lookVs, q_lookVo, q_view, q_viewo, q_viewa, q_slots, q_sloto, q_opt, q_e1, q_e2, q_eN, q_an, q_ac, q_views0, q_views, q_shs0, q_shs, q_f, q_frz, q_frzo, q_frza, q_lookFs, q_lookFo, q_lst, q_tup, q_mkL, q_mkT, q_cB, q_cV, q_cAnd, q_cOr, q_cNot, q_eIf, q_isBl, q_eAnd, q_eOr, q_eNot, q_andT, q_andF, q_orT, q_orF, q_notK, q_ix, q_ixJ, q_lookJ, q_ixK, q_lookK, q_stK, q_call, q_callO, q_callM, q_callK, q_lookC, q_resC, q_resCx, q_lent, q_lookL, q_resM, q_resMo, q_resMn, q_resMx, q_resP, q_resPo, q_resPn, q_resPx, q_asBl, List.not_mem_nil, q_lt, q_le, q_gt, q_ge, q_add, q_sub, q_mul, q_fdiv, q_mod, q_neg, q_int, q_intb, q_abs, q_len, q_lent1, q_lenr, q_ixl, q_ixt, q_ixr, q_trub, q_trun, q_trui, q_trul, q_trut, q_isn, q_isNn, q_isiT, at0, at1, at2, ixN1, ixN2, startE, List.map_cons, List.map_nil, List.length_cons, List.length_nil, List.replicate, List.cons_append, List.nil_append, List.getElem?_cons_zero, List.getElem?_cons_succ, List.set_cons_zero, List.set_cons_succ, Option.map_some, Option.bind_some, Option.map_none, Option.bind_none, Nat.reduceAdd, Nat.reduceSub, if_true, if_false, Bool.false_eq_true, decide_true, decide_false, Bool.not_true, Bool.not_false, reduceIte, List.length_map, q_perm0, q_chain, q_chT, q_chF, q_perm, q_consO, q_callKw, q_kwO, q_unp, q_unpK, q_unpO, q_gL, q_gT, q_gA0, q_gA, q_gN, q_lc, q_lcK, q_iSeq, q_iR, q_itl, q_itt, q_sl, q_oN, q_oS, q_oK, q_slr, q_sll, unw, wipeE, ksh, and_self, q_min, q_max, hm, Bool.false_and]
        | true => simp only [q_od1, q_od2, q_od3, q_od4, q_bind, q_bindx, q_s, q_sx, q_nx, q_rt, q_bk, q_ct, q_ex, q_seq, q_nil, q_if, q_expr, q_set, q_put, q_puto, q_puta, q_lookPs, q_lookPo, q_ret0, q_ret, q_reto, q_reta, q_lookRs, q_lookRo, q_c, q_v, q_lookVs, q_lookVo, q_view, q_viewo, q_viewa, q_slots, q_sloto, q_opt, q_e1, q_e2, q_eN, q_an, q_ac, q_views0, q_views, q_shs0, q_shs, q_f, q_frz, q_frzo, q_frza, q_lookFs, q_lookFo, q_lst, q_tup, q_mkL, q_mkT, q_cB, q_cV, q_cAnd, q_cOr, q_cNot, q_eIf, q_isBl, q_eAnd, q_eOr, q_eNot, q_andT, q_andF, q_orT, q_orF, q_notK, q_ix, q_ixJ, q_lookJ, q_ixK, q_lookK, q_stK, q_call, q_callO, q_callM, q_callK, q_lookC, q_resC, q_resCx, q_lent, q_lookL, q_resM, q_resMo, q_resMn, q_resMx, q_resP, q_resPo, q_resPn, q_resPx, q_asBl, List.not_mem_nil, q_lt, q_le, q_gt, q_ge, q_add, q_sub, q_mul, q_fdiv, q_mod, q_neg, q_int, q_intb, q_abs, q_len, q_lent1, q_lenr, q_ixl, q_ixt, q_ixr, q_trub, q_trun, q_trui, q_trul, q_trut, q_isn, q_isNn, q_isiT, at0, at1, at2, ixN1, ixN2, startE, List.map_cons, List.map_nil, List.length_cons, List.length_nil, List.replicate, List.cons_append, List.nil_append, List.getElem?_cons_zero, List.getElem?_cons_succ, List.set_cons_zero, List.set_cons_succ, Option.map_some, Option.bind_some, Option.map_none, Option.bind_none, Nat.reduceAdd, Nat.reduceSub, if_true, if_false, Bool.false_eq_true, decide_true, decide_false, Bool.not_true, Bool.not_false, reduceIte, List.length_map, q_perm0, q_chain, q_chT, q_chF, q_perm, q_consO, q_callKw, q_kwO, q_unp, q_unpK, q_unpO, q_gL, q_gT, q_gA0, q_gA, q_gN, q_lc, q_lcK, q_iSeq, q_iR, q_itl, q_itt, q_sl, q_oN, q_oS, q_oK, q_slr, q_sll, unw, wipeE, ksh, and_self, q_min, q_max, hm, Bool.true_and]
      · cases hm : decide ((if w < v then w else v) ≤ u) with
        | false => simp only [q_od1, q_od2, q_od3, q_od4, q_bind, q_bindx, q_s, q_sx, q_nx, q_rt, q_bk, q_ct, q_ex, q_seq, q_nil, q_if, q_expr, q_set, q_put, q_puto, q_puta, q_lookPs, q_lookPo, q_ret0, q_ret, q_reto, q_reta, q_lookRs, q_lookRo, q_c, q_v, q_lookVs, q_lookVo, q_view, q_viewo, q_viewa, q_slots, q_sloto, q_opt, q_e1, q_e2, q_eN, q_an, q_ac, q_views0, q_views, q_shs0, q_shs, q_f, q_frz, q_frzo, q_frza, q_lookFs, q_lookFo, q_lst, q_tup, q_mkL, q_mkT, q_cB, q_cV, q_cAnd, q_cOr, q_cNot, q_eIf, q_isBl, q_eAnd, q_eOr, q_eNot, q_andT, q_andF, q_orT, q_orF, q_notK, q_ix, q_ixJ, q_lookJ, q_ixK, q_lookK, q_stK, q_call, q_callO, q_callM, q_callK, q_lookC, q_resC, q_resCx, q_lent, q_lookL, q_resM, q_resMo, q_resMn, q_resMx, q_resP, q_resPo, q_resPn, q_resPx, q_asBl, List.not_mem_nil, q_lt, q_le, q_gt, q_ge, q_add, q_sub, q_mul, q_fdiv, q_mod, q_neg, q_int, q_intb, q_abs, q_len, q_lent1, q_lenr, q_ixl, q_ixt, q_ixr, q_trub, q_trun, q_trui, q_trul, q_trut, q_isn, q_isNn, q_isiT, at0, at1, at2, ixN1, ixN2, startE, List.map_cons, List.map_nil, List.length_cons, List.length_nil, List.replicate, List.cons_append, List.nil_append, List.getElem?_cons_zero, List.getElem?_cons_succ, List.set_cons_zero, List.set_cons_succ, Option.map_some, Option.bind_some, Option.map_none, Option.bind_none, Nat.reduceAdd, Nat.reduceSub, if_true, if_false, Bool.false_eq_true, decide_true, decide_false, Bool.not_true, Bool.not_false, reduceIte, List.length_map, q_perm0, q_chain, q_chT, q_chF, q_perm, q_consO, q_callKw, q_kwO, q_unp, q_unpK, q_unpO, q_gL, q_gT, q_gA0, q_gA, q_gN, q_lc, q_lcK, q_iSeq, q_iR, q_itl, q_itt, q_sl, q_oN, q_oS, q_oK, q_slr, q_sll, unw, wipeE, ksh, and_self, q_min, q_max, hm, Bool.false_and]
        | true => simp only [q_od1, q_od2, q_od3, q_od4, q_bind, q_bindx, q_s, q_sx, q_nx, q_rt, q_bk, q_ct, q_ex, q_seq, q_nil, q_if, q_expr, q_set, q_put, q_puto, q_puta, q_lookPs, q_lookPo, q_ret0, q_ret, q_reto, q_reta, q_lookRs, q_lookRo, q_c, q_v, q_lookVs, q_lookVo, q_view, q_viewo, q_viewa, q_slots, q_sloto, q_opt, q_e1, q_e2, q_eN, q_an, q_ac, q_views0, q_views, q_shs0, q_shs, q_f, q_frz, q_frzo, q_frza, q_lookFs, q_lookFo, q_lst, q_tup, q_mkL, q_mkT, q_cB, q_cV, q_cAnd, q_cOr, q_cNot, q_eIf, q_isBl, q_eAnd, q_eOr, q_eNot, q_andT, q_andF, q_orT, q_orF, q_notK, q_ix, q_ixJ, q_lookJ, q_ixK, q_lookK, q_stK, q_call, q_callO, q_callM, q_callK, q_lookC, q_resC, q_resCx, q_lent, q_lookL, q_resM, q_resMo, q_resMn, q_resMx, q_resP, q_resPo, q_resPn, q_resPx, q_asBl, List.not_mem_nil, q_lt, q_le, q_gt, q_ge, q_add, q_sub, q_mul, q_fdiv, q_mod, q_neg, q_int, q_intb, q_abs, q_len, q_lent1, q_lenr, q_ixl, q_ixt, q_ixr, q_trub, q_trun, q_trui, q_trul, q_trut, q_isn, q_isNn, q_isiT, at0, at1, at2, ixN1, ixN2, startE, List.map_cons, List.map_nil, List.length_cons, List.length_nil, List.replicate, List.cons_append, List.nil_append, List.getElem?_cons_zero, List.getElem?_cons_succ, List.set_cons_zero, List.set_cons_succ, Option.map_some, Option.bind_some, Option.map_none, Option.bind_none, Nat.reduceAdd, Nat.reduceSub, if_true, if_false, Bool.false_eq_true, decide_true, decide_false, Bool.not_true, Bool.not_false, reduceIte, List.length_map, q_perm0, q_chain, q_chT, q_chF, q_perm, q_consO, q_callKw, q_kwO, q_unp, q_unpK, q_unpO, q_gL, q_gT, q_gA0, q_gA, q_gN, q_lc, q_lcK, q_iSeq, q_iR, q_itl, q_itt, q_sl, q_oN, q_oS, q_oK, q_slr, q_sll, unw, wipeE, ksh, and_self, q_min, q_max, hm, Bool.true_and]
    have E := lc_two (m := []) (vs := [4]) (gt := gN 4) (fe := eChain leD leD (eN min2D (aCons (Pf.e2 ixD (eV 1) (eV 4)) (aCons (Pf.e2 ixD (eV 2) (eV 4)) (aNil)))) (Pf.e2 ixD (eV 0) (eV 4)) (eN max2D (aCons (Pf.e2 ixD (eV 1) (eV 4)) (aCons (Pf.e2 ixD (eV 2) (eV 4)) (aNil))))) (d1 := .int 0) (d2 := .int 1) (ρ := [some (.sh (P p q)), some (.sh (P a b)), some (.sh (P c d)), none, none]) rfl (ch p a c 0 _ rfl (.inl ⟨rfl, rfl, rfl, rfl⟩)) rfl (ch q b d 1 _ rfl (.inr ⟨rfl, rfl, rfl, rfl⟩))
    have sz2 : (0 : Nat) + 1 + 1 ≤ sizeLine := by decide
    simp only [q_od1, q_od2, q_od3, q_od4, q_bind, q_bindx, q_s, q_sx, q_nx, q_rt, q_bk, q_ct, q_ex, q_seq, q_nil, q_if, q_expr, q_set, q_put, q_puto, q_puta, q_lookPs, q_lookPo, q_ret0, q_ret, q_reto, q_reta, q_lookRs, q_lookRo, q_c, q_v, q_lookVs, q_lookVo, q_view, q_viewo, q_viewa, q_slots, q_sloto, q_opt, q_e1, q_e2, q_eN, q_an, q_ac, q_views0, q_views, q_shs0, q_shs, q_f, q_frz, q_frzo, q_frza, q_lookFs, q_lookFo, q_lst, q_tup, q_mkL, q_mkT, q_cB, q_cV, q_cAnd, q_cOr, q_cNot, q_eIf, q_isBl, q_eAnd, q_eOr, q_eNot, q_andT, q_andF, q_orT, q_orF, q_notK, q_ix, q_ixJ, q_lookJ, q_ixK, q_lookK, q_stK, q_call, q_callO, q_callM, q_callK, q_lookC, q_resC, q_resCx, q_lent, q_lookL, q_resM, q_resMo, q_resMn, q_resMx, q_resP, q_resPo, q_resPn, q_resPx, q_asBl, List.not_mem_nil, q_lt, q_le, q_gt, q_ge, q_add, q_sub, q_mul, q_fdiv, q_mod, q_neg, q_int, q_intb, q_abs, q_len, q_lent1, q_lenr, q_ixl, q_ixt, q_ixr, q_trub, q_trun, q_trui, q_trul, q_trut, q_isn, q_isNn, q_isiT, at0, at1, at2, ixN1, ixN2, startE, List.map_cons, List.map_nil, List.length_cons, List.length_nil, List.replicate, List.cons_append, List.nil_append, List.getElem?_cons_zero, List.getElem?_cons_succ, List.set_cons_zero, List.set_cons_succ, Option.map_some, Option.bind_some, Option.map_none, Option.bind_none, Nat.reduceAdd, Nat.reduceSub, if_true, if_false, Bool.false_eq_true, decide_true, decide_false, Bool.not_true, Bool.not_false, reduceIte, List.length_map, q_perm0, q_chain, q_chT, q_chF, q_perm, q_consO, q_callKw, q_kwO, q_unp, q_unpK, q_unpO, q_gL, q_gT, q_gA0, q_gA, q_gN, q_lc, q_lcK, q_iSeq, q_iR, q_itl, q_itt, q_sl, q_oN, q_oS, q_oK, q_slr, q_sll, unw, wipeE, ksh, and_self, c1, ne, ht, E, sz2, eq_two, Bool.true_and, wipeE]
theorem sort2 (a b : Int) : sortD [a, b] = [if b < a then b else a, if b > a then b else a] := by
  show (if a ≤ b then [a, b] else b :: insD a []) = _
  by_cases h : a ≤ b
  · rw [if_pos h, if_neg (by omega)]
    by_cases h2 : b > a
    · rw [if_pos h2]
    · have : a = b := by omega
      subst this
      rw [if_neg h2]
  · rw [if_neg h, if_pos (by omega), if_neg (by omega)]
    rfl
theorem q_sortT {a b : Int} : sortTD [.tup [.int a, .int b]] = some (.own (.lst [.int (if b < a then b else a), .int (if b > a then b else a)])) := by
  have h : sz 2 = true := by decide
  show (if sz 2 = true then some (T.own (.lst ((sortD [a, b]).map D.int))) else none) = _
  rw [if_pos h, sort2]
  rfl
theorem forD_nx {gt : D → Env → Option Env} {gb : Env → RS} {d : D} {ds : List D} {ρ ρ1 ρ2 : Env} (e1 : gt d ρ = some ρ1) (e2 : gb ρ1 = .nx ρ2) : forD gt gb (d :: ds) ρ = forD gt gb ds ρ2 := by
  conv => lhs; unfold forD
  rw [e1]
  dsimp only
  rw [e2]
theorem forD_rt {gt : D → Env → Option Env} {gb : Env → RS} {d : D} {ds : List D} {ρ ρ1 ρ2 : Env} {t : T} (e1 : gt d ρ = some ρ1) (e2 : gb ρ1 = .rt t ρ2) : forD gt gb (d :: ds) ρ = .rt t ρ2 := by
  conv => lhs; unfold forD
  rw [e1]
  dsimp only
  rw [e2]
theorem seq_rt2 {g h : Env → RS} {ρ ρ1 : Env} {t : T} (e : g ρ = .rt t ρ1) : sSeq g h ρ = .rt t ρ1 := seq_rt e
def two (a b : Int) : Option T := some (.sh (.lst [.int (if b < a then b else a), .int (if b > a then b else a)]))
theorem apart_body {p q r s : D} {a b c d : Int} {o5 o6 : Option T} {i : Int} (h : (i = 0 ∧ ∃ a' b' c' d', p = P a a' ∧ q = P b b' ∧ r = P c c' ∧ s = P d d') ∨ (i = 1 ∧ ∃ a' b' c' d', p = P a' a ∧ q = P b' b ∧ r = P c' c ∧ s = P d' d)) :
    g_are_apart_b1 [some (.sh p), some (.sh q), some (.sh r), some (.sh s), some (.sh (.int i)), o5, o6] = if aprt a b c d = true then .rt (.sh (.bl true)) [some (.sh p), some (.sh q), some (.sh r), some (.sh s), some (.sh (.int i)), two a b, two c d] else .nx [some (.sh p), some (.sh q), some (.sh r), some (.sh s), some (.sh (.int i)), two a b, two c d] := by
  have sz2 : (0 : Nat) + 1 + 1 ≤ sizeLine := by decide
  unfold g_are_apart_b1
  refine (seq_to (ρ1 := [some (.sh p), some (.sh q), some (.sh r), some (.sh s), some (.sh (.int i)), two a b, two c d]) ?_).trans ?_
  · refine (par_to (ts := [.sh (.lst [.int (if b < a then b else a), .int (if b > a then b else a)]), .sh (.lst [.int (if d < c then d else c), .int (if d > c then d else c)])]) (ρ1 := [some (.sh p), some (.sh q), some (.sh r), some (.sh s), some (.sh (.int i)), o5, o6]) ?_).trans rfl
    rcases h with ⟨rfl, _, _, _, _, rfl, rfl, rfl, rfl⟩ | ⟨rfl, _, _, _, _, rfl, rfl, rfl, rfl⟩ <;> simp only [q_od1, q_od2, q_od3, q_od4, q_bind, q_bindx, q_s, q_sx, q_nx, q_rt, q_bk, q_ct, q_ex, q_seq, q_nil, q_if, q_expr, q_set, q_put, q_puto, q_puta, q_lookPs, q_lookPo, q_ret0, q_ret, q_reto, q_reta, q_lookRs, q_lookRo, q_c, q_v, q_lookVs, q_lookVo, q_view, q_viewo, q_viewa, q_slots, q_sloto, q_opt, q_e1, q_e2, q_eN, q_an, q_ac, q_views0, q_views, q_shs0, q_shs, q_f, q_frz, q_frzo, q_frza, q_lookFs, q_lookFo, q_lst, q_tup, q_mkL, q_mkT, q_cB, q_cV, q_cAnd, q_cOr, q_cNot, q_eIf, q_isBl, q_eAnd, q_eOr, q_eNot, q_andT, q_andF, q_orT, q_orF, q_notK, q_ix, q_ixJ, q_lookJ, q_ixK, q_lookK, q_stK, q_call, q_callO, q_callM, q_callK, q_lookC, q_resC, q_resCx, q_lent, q_lookL, q_resM, q_resMo, q_resMn, q_resMx, q_resP, q_resPo, q_resPn, q_resPx, q_asBl, List.not_mem_nil, q_lt, q_le, q_gt, q_ge, q_add, q_sub, q_mul, q_fdiv, q_mod, q_neg, q_int, q_intb, q_abs, q_len, q_lent1, q_lenr, q_ixl, q_ixt, q_ixr, q_trub, q_trun, q_trui, q_trul, q_trut, q_isn, q_isNn, q_isiT, at0, at1, at2, ixN1, ixN2, startE, List.map_cons, List.map_nil, List.length_cons, List.length_nil, List.replicate, List.cons_append, List.nil_append, List.getElem?_cons_zero, List.getElem?_cons_succ, List.set_cons_zero, List.set_cons_succ, Option.map_some, Option.bind_some, Option.map_none, Option.bind_none, Nat.reduceAdd, Nat.reduceSub, if_true, if_false, Bool.false_eq_true, decide_true, decide_false, Bool.not_true, Bool.not_false, reduceIte, List.length_map, sz2, q_sortT]
  · unfold aprt two
    cases h1 : decide ((if b > a then b else a) < (if d < c then d else c)) with
    | true => simp only [q_od1, q_od2, q_od3, q_od4, q_bind, q_bindx, q_s, q_sx, q_nx, q_rt, q_bk, q_ct, q_ex, q_seq, q_nil, q_if, q_expr, q_set, q_put, q_puto, q_puta, q_lookPs, q_lookPo, q_ret0, q_ret, q_reto, q_reta, q_lookRs, q_lookRo, q_c, q_v, q_lookVs, q_lookVo, q_view, q_viewo, q_viewa, q_slots, q_sloto, q_opt, q_e1, q_e2, q_eN, q_an, q_ac, q_views0, q_views, q_shs0, q_shs, q_f, q_frz, q_frzo, q_frza, q_lookFs, q_lookFo, q_lst, q_tup, q_mkL, q_mkT, q_cB, q_cV, q_cAnd, q_cOr, q_cNot, q_eIf, q_isBl, q_eAnd, q_eOr, q_eNot, q_andT, q_andF, q_orT, q_orF, q_notK, q_ix, q_ixJ, q_lookJ, q_ixK, q_lookK, q_stK, q_call, q_callO, q_callM, q_callK, q_lookC, q_resC, q_resCx, q_lent, q_lookL, q_resM, q_resMo, q_resMn, q_resMx, q_resP, q_resPo, q_resPn, q_resPx, q_asBl, List.not_mem_nil, q_lt, q_le, q_gt, q_ge, q_add, q_sub, q_mul, q_fdiv, q_mod, q_neg, q_int, q_intb, q_abs, q_len, q_lent1, q_lenr, q_ixl, q_ixt, q_ixr, q_trub, q_trun, q_trui, q_trul, q_trut, q_isn, q_isNn, q_isiT, at0, at1, at2, ixN1, ixN2, startE, List.map_cons, List.map_nil, List.length_cons, List.length_nil, List.replicate, List.cons_append, List.nil_append, List.getElem?_cons_zero, List.getElem?_cons_succ, List.set_cons_zero, List.set_cons_succ, Option.map_some, Option.bind_some, Option.map_none, Option.bind_none, Nat.reduceAdd, Nat.reduceSub, if_true, if_false, Bool.false_eq_true, decide_true, decide_false, Bool.not_true, Bool.not_false, reduceIte, List.length_map, h1, Bool.true_or]
    | false =>
      cases h2 : decide ((if d > c then d else c) < (if b < a then b else a)) with
      | true => simp only [q_od1, q_od2, q_od3, q_od4, q_bind, q_bindx, q_s, q_sx, q_nx, q_rt, q_bk, q_ct, q_ex, q_seq, q_nil, q_if, q_expr, q_set, q_put, q_puto, q_puta, q_lookPs, q_lookPo, q_ret0, q_ret, q_reto, q_reta, q_lookRs, q_lookRo, q_c, q_v, q_lookVs, q_lookVo, q_view, q_viewo, q_viewa, q_slots, q_sloto, q_opt, q_e1, q_e2, q_eN, q_an, q_ac, q_views0, q_views, q_shs0, q_shs, q_f, q_frz, q_frzo, q_frza, q_lookFs, q_lookFo, q_lst, q_tup, q_mkL, q_mkT, q_cB, q_cV, q_cAnd, q_cOr, q_cNot, q_eIf, q_isBl, q_eAnd, q_eOr, q_eNot, q_andT, q_andF, q_orT, q_orF, q_notK, q_ix, q_ixJ, q_lookJ, q_ixK, q_lookK, q_stK, q_call, q_callO, q_callM, q_callK, q_lookC, q_resC, q_resCx, q_lent, q_lookL, q_resM, q_resMo, q_resMn, q_resMx, q_resP, q_resPo, q_resPn, q_resPx, q_asBl, List.not_mem_nil, q_lt, q_le, q_gt, q_ge, q_add, q_sub, q_mul, q_fdiv, q_mod, q_neg, q_int, q_intb, q_abs, q_len, q_lent1, q_lenr, q_ixl, q_ixt, q_ixr, q_trub, q_trun, q_trui, q_trul, q_trut, q_isn, q_isNn, q_isiT, at0, at1, at2, ixN1, ixN2, startE, List.map_cons, List.map_nil, List.length_cons, List.length_nil, List.replicate, List.cons_append, List.nil_append, List.getElem?_cons_zero, List.getElem?_cons_succ, List.set_cons_zero, List.set_cons_succ, Option.map_some, Option.bind_some, Option.map_none, Option.bind_none, Nat.reduceAdd, Nat.reduceSub, if_true, if_false, Bool.false_eq_true, decide_true, decide_false, Bool.not_true, Bool.not_false, reduceIte, List.length_map, h1, h2, Bool.false_or]
      | false => simp only [q_od1, q_od2, q_od3, q_od4, q_bind, q_bindx, q_s, q_sx, q_nx, q_rt, q_bk, q_ct, q_ex, q_seq, q_nil, q_if, q_expr, q_set, q_put, q_puto, q_puta, q_lookPs, q_lookPo, q_ret0, q_ret, q_reto, q_reta, q_lookRs, q_lookRo, q_c, q_v, q_lookVs, q_lookVo, q_view, q_viewo, q_viewa, q_slots, q_sloto, q_opt, q_e1, q_e2, q_eN, q_an, q_ac, q_views0, q_views, q_shs0, q_shs, q_f, q_frz, q_frzo, q_frza, q_lookFs, q_lookFo, q_lst, q_tup, q_mkL, q_mkT, q_cB, q_cV, q_cAnd, q_cOr, q_cNot, q_eIf, q_isBl, q_eAnd, q_eOr, q_eNot, q_andT, q_andF, q_orT, q_orF, q_notK, q_ix, q_ixJ, q_lookJ, q_ixK, q_lookK, q_stK, q_call, q_callO, q_callM, q_callK, q_lookC, q_resC, q_resCx, q_lent, q_lookL, q_resM, q_resMo, q_resMn, q_resMx, q_resP, q_resPo, q_resPn, q_resPx, q_asBl, List.not_mem_nil, q_lt, q_le, q_gt, q_ge, q_add, q_sub, q_mul, q_fdiv, q_mod, q_neg, q_int, q_intb, q_abs, q_len, q_lent1, q_lenr, q_ixl, q_ixt, q_ixr, q_trub, q_trun, q_trui, q_trul, q_trut, q_isn, q_isNn, q_isiT, at0, at1, at2, ixN1, ixN2, startE, List.map_cons, List.map_nil, List.length_cons, List.length_nil, List.replicate, List.cons_append, List.nil_append, List.getElem?_cons_zero, List.getElem?_cons_succ, List.set_cons_zero, List.set_cons_succ, Option.map_some, Option.bind_some, Option.map_none, Option.bind_none, Nat.reduceAdd, Nat.reduceSub, if_true, if_false, Bool.false_eq_true, decide_true, decide_false, Bool.not_true, Bool.not_false, reduceIte, List.length_map, h1, h2, Bool.false_or]
theorem q_forS {gt : D → Env → Option Env} {gb : Env → RS} {fi : Env → R (List D)} {ρ ρ1 : Env} {ds : List D} {r : RS} (e : fi ρ = .ok ds ρ1) (f : forD gt gb ds ρ1 = r) : sFor fi gt gb ρ = r := by
  rw [q_for, e]
  exact f
theorem apart_ok {a a' b b' c c' d d' : Int} : d_are_apart [P a a', P b b', P c c', P d d'] = .ok (.sh (.bl (aprt a b c d || aprt a' b' c' d'))) := by
  have sz2 : (0 : Nat) + 1 + 1 ≤ sizeLine := by decide
  have e0 := apart_body (p := P a a') (q := P b b') (r := P c c') (s := P d d') (o5 := none) (o6 := none) (i := 0) (.inl ⟨rfl, a', b', c', d', rfl, rfl, rfl, rfl⟩)
  have e1 := apart_body (p := P a a') (q := P b b') (r := P c c') (s := P d d') (o5 := two a b) (o6 := two c d) (i := 1) (.inr ⟨rfl, a, b, c, d, rfl, rfl, rfl, rfl⟩)
  have ei : iSeq [] (eTup (aCons (eC (.int 0)) (aCons (eC (.int 1)) (aNil)))) [some (.sh (P a a')), some (.sh (P b b')), some (.sh (P c c')), some (.sh (P d d')), none, none, none] = .ok [.int 0, .int 1] [some (.sh (P a a')), some (.sh (P b b')), some (.sh (P c c')), some (.sh (P d d')), none, none, none] := by
    simp only [q_od1, q_od2, q_od3, q_od4, q_bind, q_bindx, q_s, q_sx, q_nx, q_rt, q_bk, q_ct, q_ex, q_seq, q_nil, q_if, q_expr, q_set, q_put, q_puto, q_puta, q_lookPs, q_lookPo, q_ret0, q_ret, q_reto, q_reta, q_lookRs, q_lookRo, q_c, q_v, q_lookVs, q_lookVo, q_view, q_viewo, q_viewa, q_slots, q_sloto, q_opt, q_e1, q_e2, q_eN, q_an, q_ac, q_views0, q_views, q_shs0, q_shs, q_f, q_frz, q_frzo, q_frza, q_lookFs, q_lookFo, q_lst, q_tup, q_mkL, q_mkT, q_cB, q_cV, q_cAnd, q_cOr, q_cNot, q_eIf, q_isBl, q_eAnd, q_eOr, q_eNot, q_andT, q_andF, q_orT, q_orF, q_notK, q_ix, q_ixJ, q_lookJ, q_ixK, q_lookK, q_stK, q_call, q_callO, q_callM, q_callK, q_lookC, q_resC, q_resCx, q_lent, q_lookL, q_resM, q_resMo, q_resMn, q_resMx, q_resP, q_resPo, q_resPn, q_resPx, q_asBl, List.not_mem_nil, q_lt, q_le, q_gt, q_ge, q_add, q_sub, q_mul, q_fdiv, q_mod, q_neg, q_int, q_intb, q_abs, q_len, q_lent1, q_lenr, q_ixl, q_ixt, q_ixr, q_trub, q_trun, q_trui, q_trul, q_trut, q_isn, q_isNn, q_isiT, at0, at1, at2, ixN1, ixN2, startE, List.map_cons, List.map_nil, List.length_cons, List.length_nil, List.replicate, List.cons_append, List.nil_append, List.getElem?_cons_zero, List.getElem?_cons_succ, List.set_cons_zero, List.set_cons_succ, Option.map_some, Option.bind_some, Option.map_none, Option.bind_none, Nat.reduceAdd, Nat.reduceSub, if_true, if_false, Bool.false_eq_true, decide_true, decide_false, Bool.not_true, Bool.not_false, reduceIte, List.length_map, q_perm0, q_chain, q_chT, q_chF, q_perm, q_consO, q_callKw, q_kwO, q_unp, q_unpK, q_unpO, q_gL, q_gT, q_gA0, q_gA, q_gN, q_lc, q_lcK, q_iSeq, q_iR, q_itl, q_itt, q_sl, q_oN, q_oS, q_oK, q_slr, q_sll, unw, wipeE, ksh, and_self, sz2]
  refine (q_denP rfl).trans ?_
  unfold g_are_apart
  cases h1 : aprt a b c d with
  | true =>
    rw [h1, if_pos rfl] at e0
    exact congrArg resP (seq_rt (q_forS ei (forD_rt rfl e0)))
  | false =>
    rw [h1, if_neg Bool.false_ne_true] at e0
    cases h2 : aprt a' b' c' d' with
    | true =>
      rw [h2, if_pos rfl] at e1
      exact congrArg resP (seq_rt (q_forS ei ((forD_nx rfl e0).trans (forD_rt rfl e1))))
    | false =>
      rw [h2, if_neg Bool.false_ne_true] at e1
      exact congrArg resP (seq_to (q_forS ei ((forD_nx rfl e0).trans ((forD_nx rfl e1).trans rfl))))
theorem mul_sg {a b : Int} : mulOk (sg a) (sg b) = true := by
  have k : ∀ n : Int, Bt 500 (sg n) := fun n => Nat.le_trans (bits64 (by unfold sg; split <;> split <;> omega)) (by decide)
  exact mo (k a) (k b)
theorem meet_ok {ax ay bx by_ cx cy dx dy : Int} (h1 : Bt 110 ax) (h2 : Bt 110 ay) (h3 : Bt 110 bx) (h4 : Bt 110 by_) (h5 : Bt 110 cx) (h6 : Bt 110 cy) (h7 : Bt 110 dx) (h8 : Bt 110 dy) :
    d_meet_in [P ax ay, P bx by_, P cx cy, P dx dy] = .ok (.sh (.bl (meetB ax ay bx by_ cx cy dx dy))) := by
  have c0 := fun ρ => callP_ok (ρ := ρ) (apart_ok (a := ax) (a' := ay) (b := bx) (b' := by_) (c := cx) (c' := cy) (d := dx) (d' := dy))
  have o1 := fun ρ => callP_ok (ρ := ρ) (is_on_ok h5 h6 h1 h2 h3 h4)
  have o2 := fun ρ => callP_ok (ρ := ρ) (is_on_ok h7 h8 h1 h2 h3 h4)
  have o3 := fun ρ => callP_ok (ρ := ρ) (is_on_ok h1 h2 h5 h6 h7 h8)
  have o4 := fun ρ => callP_ok (ρ := ρ) (is_on_ok h3 h4 h5 h6 h7 h8)
  have t1 := fun ρ => callP_ok (ρ := ρ) (turn_ok h1 h2 h3 h4 h5 h6)
  have t2 := fun ρ => callP_ok (ρ := ρ) (turn_ok h1 h2 h3 h4 h7 h8)
  have t3 := fun ρ => callP_ok (ρ := ρ) (turn_ok h5 h6 h7 h8 h1 h2)
  have t4 := fun ρ => callP_ok (ρ := ρ) (turn_ok h5 h6 h7 h8 h3 h4)
  have s := fun n ρ => callP_ok (ρ := ρ) (sign_ok (n := n))
  have m := fun a b => mul_sg (a := a) (b := b)
  refine (q_denP rfl).trans ?_
  unfold g_meet_in meetB
  cases k0 : aprt ax bx cx dx || aprt ay by_ cy dy with
  | true => simp only [q_od1, q_od2, q_od3, q_od4, q_bind, q_bindx, q_s, q_sx, q_nx, q_rt, q_bk, q_ct, q_ex, q_seq, q_nil, q_if, q_expr, q_set, q_put, q_puto, q_puta, q_lookPs, q_lookPo, q_ret0, q_ret, q_reto, q_reta, q_lookRs, q_lookRo, q_c, q_v, q_lookVs, q_lookVo, q_view, q_viewo, q_viewa, q_slots, q_sloto, q_opt, q_e1, q_e2, q_eN, q_an, q_ac, q_views0, q_views, q_shs0, q_shs, q_f, q_frz, q_frzo, q_frza, q_lookFs, q_lookFo, q_lst, q_tup, q_mkL, q_mkT, q_cB, q_cV, q_cAnd, q_cOr, q_cNot, q_eIf, q_isBl, q_eAnd, q_eOr, q_eNot, q_andT, q_andF, q_orT, q_orF, q_notK, q_ix, q_ixJ, q_lookJ, q_ixK, q_lookK, q_stK, q_call, q_callO, q_callM, q_callK, q_lookC, q_resC, q_resCx, q_lent, q_lookL, q_resM, q_resMo, q_resMn, q_resMx, q_resP, q_resPo, q_resPn, q_resPx, q_asBl, List.not_mem_nil, q_lt, q_le, q_gt, q_ge, q_add, q_sub, q_mul, q_fdiv, q_mod, q_neg, q_int, q_intb, q_abs, q_len, q_lent1, q_lenr, q_ixl, q_ixt, q_ixr, q_trub, q_trun, q_trui, q_trul, q_trut, q_isn, q_isNn, q_isiT, at0, at1, at2, ixN1, ixN2, startE, List.map_cons, List.map_nil, List.length_cons, List.length_nil, List.replicate, List.cons_append, List.nil_append, List.getElem?_cons_zero, List.getElem?_cons_succ, List.set_cons_zero, List.set_cons_succ, Option.map_some, Option.bind_some, Option.map_none, Option.bind_none, Nat.reduceAdd, Nat.reduceSub, if_true, if_false, Bool.false_eq_true, decide_true, decide_false, Bool.not_true, Bool.not_false, reduceIte, List.length_map, c0, k0, Bool.false_and, Bool.not_true]
  | false =>
    cases k1 : onB cx cy ax ay bx by_ with
    | true => simp only [q_od1, q_od2, q_od3, q_od4, q_bind, q_bindx, q_s, q_sx, q_nx, q_rt, q_bk, q_ct, q_ex, q_seq, q_nil, q_if, q_expr, q_set, q_put, q_puto, q_puta, q_lookPs, q_lookPo, q_ret0, q_ret, q_reto, q_reta, q_lookRs, q_lookRo, q_c, q_v, q_lookVs, q_lookVo, q_view, q_viewo, q_viewa, q_slots, q_sloto, q_opt, q_e1, q_e2, q_eN, q_an, q_ac, q_views0, q_views, q_shs0, q_shs, q_f, q_frz, q_frzo, q_frza, q_lookFs, q_lookFo, q_lst, q_tup, q_mkL, q_mkT, q_cB, q_cV, q_cAnd, q_cOr, q_cNot, q_eIf, q_isBl, q_eAnd, q_eOr, q_eNot, q_andT, q_andF, q_orT, q_orF, q_notK, q_ix, q_ixJ, q_lookJ, q_ixK, q_lookK, q_stK, q_call, q_callO, q_callM, q_callK, q_lookC, q_resC, q_resCx, q_lent, q_lookL, q_resM, q_resMo, q_resMn, q_resMx, q_resP, q_resPo, q_resPn, q_resPx, q_asBl, List.not_mem_nil, q_lt, q_le, q_gt, q_ge, q_add, q_sub, q_mul, q_fdiv, q_mod, q_neg, q_int, q_intb, q_abs, q_len, q_lent1, q_lenr, q_ixl, q_ixt, q_ixr, q_trub, q_trun, q_trui, q_trul, q_trut, q_isn, q_isNn, q_isiT, at0, at1, at2, ixN1, ixN2, startE, List.map_cons, List.map_nil, List.length_cons, List.length_nil, List.replicate, List.cons_append, List.nil_append, List.getElem?_cons_zero, List.getElem?_cons_succ, List.set_cons_zero, List.set_cons_succ, Option.map_some, Option.bind_some, Option.map_none, Option.bind_none, Nat.reduceAdd, Nat.reduceSub, if_true, if_false, Bool.false_eq_true, decide_true, decide_false, Bool.not_true, Bool.not_false, reduceIte, List.length_map, c0, k0, o1, k1, Bool.true_and, Bool.true_or]
    | false =>
      cases k2 : onB dx dy ax ay bx by_ with
      | true => simp only [q_od1, q_od2, q_od3, q_od4, q_bind, q_bindx, q_s, q_sx, q_nx, q_rt, q_bk, q_ct, q_ex, q_seq, q_nil, q_if, q_expr, q_set, q_put, q_puto, q_puta, q_lookPs, q_lookPo, q_ret0, q_ret, q_reto, q_reta, q_lookRs, q_lookRo, q_c, q_v, q_lookVs, q_lookVo, q_view, q_viewo, q_viewa, q_slots, q_sloto, q_opt, q_e1, q_e2, q_eN, q_an, q_ac, q_views0, q_views, q_shs0, q_shs, q_f, q_frz, q_frzo, q_frza, q_lookFs, q_lookFo, q_lst, q_tup, q_mkL, q_mkT, q_cB, q_cV, q_cAnd, q_cOr, q_cNot, q_eIf, q_isBl, q_eAnd, q_eOr, q_eNot, q_andT, q_andF, q_orT, q_orF, q_notK, q_ix, q_ixJ, q_lookJ, q_ixK, q_lookK, q_stK, q_call, q_callO, q_callM, q_callK, q_lookC, q_resC, q_resCx, q_lent, q_lookL, q_resM, q_resMo, q_resMn, q_resMx, q_resP, q_resPo, q_resPn, q_resPx, q_asBl, List.not_mem_nil, q_lt, q_le, q_gt, q_ge, q_add, q_sub, q_mul, q_fdiv, q_mod, q_neg, q_int, q_intb, q_abs, q_len, q_lent1, q_lenr, q_ixl, q_ixt, q_ixr, q_trub, q_trun, q_trui, q_trul, q_trut, q_isn, q_isNn, q_isiT, at0, at1, at2, ixN1, ixN2, startE, List.map_cons, List.map_nil, List.length_cons, List.length_nil, List.replicate, List.cons_append, List.nil_append, List.getElem?_cons_zero, List.getElem?_cons_succ, List.set_cons_zero, List.set_cons_succ, Option.map_some, Option.bind_some, Option.map_none, Option.bind_none, Nat.reduceAdd, Nat.reduceSub, if_true, if_false, Bool.false_eq_true, decide_true, decide_false, Bool.not_true, Bool.not_false, reduceIte, List.length_map, c0, k0, o1, k1, o2, k2, Bool.true_and, Bool.true_or, Bool.false_or]
      | false =>
        cases k3 : onB ax ay cx cy dx dy with
        | true => simp only [q_od1, q_od2, q_od3, q_od4, q_bind, q_bindx, q_s, q_sx, q_nx, q_rt, q_bk, q_ct, q_ex, q_seq, q_nil, q_if, q_expr, q_set, q_put, q_puto, q_puta, q_lookPs, q_lookPo, q_ret0, q_ret, q_reto, q_reta, q_lookRs, q_lookRo, q_c, q_v, q_lookVs, q_lookVo, q_view, q_viewo, q_viewa, q_slots, q_sloto, q_opt, q_e1, q_e2, q_eN, q_an, q_ac, q_views0, q_views, q_shs0, q_shs, q_f, q_frz, q_frzo, q_frza, q_lookFs, q_lookFo, q_lst, q_tup, q_mkL, q_mkT, q_cB, q_cV, q_cAnd, q_cOr, q_cNot, q_eIf, q_isBl, q_eAnd, q_eOr, q_eNot, q_andT, q_andF, q_orT, q_orF, q_notK, q_ix, q_ixJ, q_lookJ, q_ixK, q_lookK, q_stK, q_call, q_callO, q_callM, q_callK, q_lookC, q_resC, q_resCx, q_lent, q_lookL, q_resM, q_resMo, q_resMn, q_resMx, q_resP, q_resPo, q_resPn, q_resPx, q_asBl, List.not_mem_nil, q_lt, q_le, q_gt, q_ge, q_add, q_sub, q_mul, q_fdiv, q_mod, q_neg, q_int, q_intb, q_abs, q_len, q_lent1, q_lenr, q_ixl, q_ixt, q_ixr, q_trub, q_trun, q_trui, q_trul, q_trut, q_isn, q_isNn, q_isiT, at0, at1, at2, ixN1, ixN2, startE, List.map_cons, List.map_nil, List.length_cons, List.length_nil, List.replicate, List.cons_append, List.nil_append, List.getElem?_cons_zero, List.getElem?_cons_succ, List.set_cons_zero, List.set_cons_succ, Option.map_some, Option.bind_some, Option.map_none, Option.bind_none, Nat.reduceAdd, Nat.reduceSub, if_true, if_false, Bool.false_eq_true, decide_true, decide_false, Bool.not_true, Bool.not_false, reduceIte, List.length_map, c0, k0, o1, k1, o2, k2, o3, k3, Bool.true_and, Bool.true_or, Bool.false_or]
        | false =>
          cases k4 : onB bx by_ cx cy dx dy with
          | true => simp only [q_od1, q_od2, q_od3, q_od4, q_bind, q_bindx, q_s, q_sx, q_nx, q_rt, q_bk, q_ct, q_ex, q_seq, q_nil, q_if, q_expr, q_set, q_put, q_puto, q_puta, q_lookPs, q_lookPo, q_ret0, q_ret, q_reto, q_reta, q_lookRs, q_lookRo, q_c, q_v, q_lookVs, q_lookVo, q_view, q_viewo, q_viewa, q_slots, q_sloto, q_opt, q_e1, q_e2, q_eN, q_an, q_ac, q_views0, q_views, q_shs0, q_shs, q_f, q_frz, q_frzo, q_frza, q_lookFs, q_lookFo, q_lst, q_tup, q_mkL, q_mkT, q_cB, q_cV, q_cAnd, q_cOr, q_cNot, q_eIf, q_isBl, q_eAnd, q_eOr, q_eNot, q_andT, q_andF, q_orT, q_orF, q_notK, q_ix, q_ixJ, q_lookJ, q_ixK, q_lookK, q_stK, q_call, q_callO, q_callM, q_callK, q_lookC, q_resC, q_resCx, q_lent, q_lookL, q_resM, q_resMo, q_resMn, q_resMx, q_resP, q_resPo, q_resPn, q_resPx, q_asBl, List.not_mem_nil, q_lt, q_le, q_gt, q_ge, q_add, q_sub, q_mul, q_fdiv, q_mod, q_neg, q_int, q_intb, q_abs, q_len, q_lent1, q_lenr, q_ixl, q_ixt, q_ixr, q_trub, q_trun, q_trui, q_trul, q_trut, q_isn, q_isNn, q_isiT, at0, at1, at2, ixN1, ixN2, startE, List.map_cons, List.map_nil, List.length_cons, List.length_nil, List.replicate, List.cons_append, List.nil_append, List.getElem?_cons_zero, List.getElem?_cons_succ, List.set_cons_zero, List.set_cons_succ, Option.map_some, Option.bind_some, Option.map_none, Option.bind_none, Nat.reduceAdd, Nat.reduceSub, if_true, if_false, Bool.false_eq_true, decide_true, decide_false, Bool.not_true, Bool.not_false, reduceIte, List.length_map, c0, k0, o1, k1, o2, k2, o3, k3, o4, k4, Bool.true_and, Bool.true_or, Bool.false_or]
          | false =>
            cases hs : decide (sg (trn ax ay bx by_ cx cy) * sg (trn ax ay bx by_ dx dy) < 0) with
            | true => simp only [q_od1, q_od2, q_od3, q_od4, q_bind, q_bindx, q_s, q_sx, q_nx, q_rt, q_bk, q_ct, q_ex, q_seq, q_nil, q_if, q_expr, q_set, q_put, q_puto, q_puta, q_lookPs, q_lookPo, q_ret0, q_ret, q_reto, q_reta, q_lookRs, q_lookRo, q_c, q_v, q_lookVs, q_lookVo, q_view, q_viewo, q_viewa, q_slots, q_sloto, q_opt, q_e1, q_e2, q_eN, q_an, q_ac, q_views0, q_views, q_shs0, q_shs, q_f, q_frz, q_frzo, q_frza, q_lookFs, q_lookFo, q_lst, q_tup, q_mkL, q_mkT, q_cB, q_cV, q_cAnd, q_cOr, q_cNot, q_eIf, q_isBl, q_eAnd, q_eOr, q_eNot, q_andT, q_andF, q_orT, q_orF, q_notK, q_ix, q_ixJ, q_lookJ, q_ixK, q_lookK, q_stK, q_call, q_callO, q_callM, q_callK, q_lookC, q_resC, q_resCx, q_lent, q_lookL, q_resM, q_resMo, q_resMn, q_resMx, q_resP, q_resPo, q_resPn, q_resPx, q_asBl, List.not_mem_nil, q_lt, q_le, q_gt, q_ge, q_add, q_sub, q_mul, q_fdiv, q_mod, q_neg, q_int, q_intb, q_abs, q_len, q_lent1, q_lenr, q_ixl, q_ixt, q_ixr, q_trub, q_trun, q_trui, q_trul, q_trut, q_isn, q_isNn, q_isiT, at0, at1, at2, ixN1, ixN2, startE, List.map_cons, List.map_nil, List.length_cons, List.length_nil, List.replicate, List.cons_append, List.nil_append, List.getElem?_cons_zero, List.getElem?_cons_succ, List.set_cons_zero, List.set_cons_succ, Option.map_some, Option.bind_some, Option.map_none, Option.bind_none, Nat.reduceAdd, Nat.reduceSub, if_true, if_false, Bool.false_eq_true, decide_true, decide_false, Bool.not_true, Bool.not_false, reduceIte, List.length_map, c0, k0, o1, k1, o2, k2, o3, k3, o4, k4, t1, t2, t3, t4, s, m, hs, Bool.true_and, Bool.false_or]
            | false => simp only [q_od1, q_od2, q_od3, q_od4, q_bind, q_bindx, q_s, q_sx, q_nx, q_rt, q_bk, q_ct, q_ex, q_seq, q_nil, q_if, q_expr, q_set, q_put, q_puto, q_puta, q_lookPs, q_lookPo, q_ret0, q_ret, q_reto, q_reta, q_lookRs, q_lookRo, q_c, q_v, q_lookVs, q_lookVo, q_view, q_viewo, q_viewa, q_slots, q_sloto, q_opt, q_e1, q_e2, q_eN, q_an, q_ac, q_views0, q_views, q_shs0, q_shs, q_f, q_frz, q_frzo, q_frza, q_lookFs, q_lookFo, q_lst, q_tup, q_mkL, q_mkT, q_cB, q_cV, q_cAnd, q_cOr, q_cNot, q_eIf, q_isBl, q_eAnd, q_eOr, q_eNot, q_andT, q_andF, q_orT, q_orF, q_notK, q_ix, q_ixJ, q_lookJ, q_ixK, q_lookK, q_stK, q_call, q_callO, q_callM, q_callK, q_lookC, q_resC, q_resCx, q_lent, q_lookL, q_resM, q_resMo, q_resMn, q_resMx, q_resP, q_resPo, q_resPn, q_resPx, q_asBl, List.not_mem_nil, q_lt, q_le, q_gt, q_ge, q_add, q_sub, q_mul, q_fdiv, q_mod, q_neg, q_int, q_intb, q_abs, q_len, q_lent1, q_lenr, q_ixl, q_ixt, q_ixr, q_trub, q_trun, q_trui, q_trul, q_trut, q_isn, q_isNn, q_isiT, at0, at1, at2, ixN1, ixN2, startE, List.map_cons, List.map_nil, List.length_cons, List.length_nil, List.replicate, List.cons_append, List.nil_append, List.getElem?_cons_zero, List.getElem?_cons_succ, List.set_cons_zero, List.set_cons_succ, Option.map_some, Option.bind_some, Option.map_none, Option.bind_none, Nat.reduceAdd, Nat.reduceSub, if_true, if_false, Bool.false_eq_true, decide_true, decide_false, Bool.not_true, Bool.not_false, reduceIte, List.length_map, c0, k0, o1, k1, o2, k2, o3, k3, o4, k4, t1, t2, t3, t4, s, m, hs, Bool.true_and, Bool.false_or, Bool.false_and]
abbrev PL (a b : Int) : D := .lst [.int a, .int b]
theorem need_ok (a b : Int) (s : Str) : d_need_point [P a b, .str s] = .ok (.sh (P a b)) := by kernel_rfl
theorem needL_ok (a b : Int) (s : Str) : d_need_point [PL a b, .str s] = .ok (.sh (P a b)) := by kernel_rfl
/-- a point, told as a tuple or as a list -/
inductive IsP : D → Int → Int → Prop
  | t (a b : Int) : IsP (P a b) a b
  | l (a b : Int) : IsP (PL a b) a b
theorem IsP.need {d : D} {a b : Int} (h : IsP d a b) (s : Str) : d_need_point [d, .str s] = .ok (.sh (P a b)) := by
  cases h with
  | t => exact need_ok a b s
  | l => exact needL_ok a b s
theorem do_meet_ok {p q r s : D} {ax ay bx by_ cx cy dx dy : Int} (hp : IsP p ax ay) (hq : IsP q bx by_) (hr : IsP r cx cy) (hs : IsP s dx dy) (h1 : Bt 110 ax) (h2 : Bt 110 ay) (h3 : Bt 110 bx) (h4 : Bt 110 by_) (h5 : Bt 110 cx) (h6 : Bt 110 cy) (h7 : Bt 110 dx) (h8 : Bt 110 dy) :
    d_do_meet [p, q, r, s] = .ok (.sh (.bl (meetB ax ay bx by_ cx cy dx dy))) := by
  have n1 := fun s ρ => callP_ok (ρ := ρ) (hp.need s)
  have n2 := fun s ρ => callP_ok (ρ := ρ) (hq.need s)
  have n3 := fun s ρ => callP_ok (ρ := ρ) (hr.need s)
  have n4 := fun t ρ => callP_ok (ρ := ρ) (hs.need t)
  have m := fun ρ => callP_ok (ρ := ρ) (meet_ok h1 h2 h3 h4 h5 h6 h7 h8)
  refine (q_denP rfl).trans ?_
  unfold g_do_meet
  refine (congrArg resP (seq_to (ρ1 := [some (.sh p), some (.sh q), some (.sh r), some (.sh s), some (.sh (P ax ay)), some (.sh (P bx by_))]) ?_)).trans ?_
  · refine (par_to (ts := [.sh (P ax ay), .sh (P bx by_)]) (ρ1 := [some (.sh p), some (.sh q), some (.sh r), some (.sh s), none, none]) ?_).trans rfl
    simp only [q_od1, q_od2, q_od3, q_od4, q_bind, q_bindx, q_s, q_sx, q_nx, q_rt, q_bk, q_ct, q_ex, q_seq, q_nil, q_if, q_expr, q_set, q_put, q_puto, q_puta, q_lookPs, q_lookPo, q_ret0, q_ret, q_reto, q_reta, q_lookRs, q_lookRo, q_c, q_v, q_lookVs, q_lookVo, q_view, q_viewo, q_viewa, q_slots, q_sloto, q_opt, q_e1, q_e2, q_eN, q_an, q_ac, q_views0, q_views, q_shs0, q_shs, q_f, q_frz, q_frzo, q_frza, q_lookFs, q_lookFo, q_lst, q_tup, q_mkL, q_mkT, q_cB, q_cV, q_cAnd, q_cOr, q_cNot, q_eIf, q_isBl, q_eAnd, q_eOr, q_eNot, q_andT, q_andF, q_orT, q_orF, q_notK, q_ix, q_ixJ, q_lookJ, q_ixK, q_lookK, q_stK, q_call, q_callO, q_callM, q_callK, q_lookC, q_resC, q_resCx, q_lent, q_lookL, q_resM, q_resMo, q_resMn, q_resMx, q_resP, q_resPo, q_resPn, q_resPx, q_asBl, List.not_mem_nil, q_lt, q_le, q_gt, q_ge, q_add, q_sub, q_mul, q_fdiv, q_mod, q_neg, q_int, q_intb, q_abs, q_len, q_lent1, q_lenr, q_ixl, q_ixt, q_ixr, q_trub, q_trun, q_trui, q_trul, q_trut, q_isn, q_isNn, q_isiT, at0, at1, at2, ixN1, ixN2, startE, List.map_cons, List.map_nil, List.length_cons, List.length_nil, List.replicate, List.cons_append, List.nil_append, List.getElem?_cons_zero, List.getElem?_cons_succ, List.set_cons_zero, List.set_cons_succ, Option.map_some, Option.bind_some, Option.map_none, Option.bind_none, Nat.reduceAdd, Nat.reduceSub, if_true, if_false, Bool.false_eq_true, decide_true, decide_false, Bool.not_true, Bool.not_false, reduceIte, List.length_map, n1, n2]
  · simp only [q_od1, q_od2, q_od3, q_od4, q_bind, q_bindx, q_s, q_sx, q_nx, q_rt, q_bk, q_ct, q_ex, q_seq, q_nil, q_if, q_expr, q_set, q_put, q_puto, q_puta, q_lookPs, q_lookPo, q_ret0, q_ret, q_reto, q_reta, q_lookRs, q_lookRo, q_c, q_v, q_lookVs, q_lookVo, q_view, q_viewo, q_viewa, q_slots, q_sloto, q_opt, q_e1, q_e2, q_eN, q_an, q_ac, q_views0, q_views, q_shs0, q_shs, q_f, q_frz, q_frzo, q_frza, q_lookFs, q_lookFo, q_lst, q_tup, q_mkL, q_mkT, q_cB, q_cV, q_cAnd, q_cOr, q_cNot, q_eIf, q_isBl, q_eAnd, q_eOr, q_eNot, q_andT, q_andF, q_orT, q_orF, q_notK, q_ix, q_ixJ, q_lookJ, q_ixK, q_lookK, q_stK, q_call, q_callO, q_callM, q_callK, q_lookC, q_resC, q_resCx, q_lent, q_lookL, q_resM, q_resMo, q_resMn, q_resMx, q_resP, q_resPo, q_resPn, q_resPx, q_asBl, List.not_mem_nil, q_lt, q_le, q_gt, q_ge, q_add, q_sub, q_mul, q_fdiv, q_mod, q_neg, q_int, q_intb, q_abs, q_len, q_lent1, q_lenr, q_ixl, q_ixt, q_ixr, q_trub, q_trun, q_trui, q_trul, q_trut, q_isn, q_isNn, q_isiT, at0, at1, at2, ixN1, ixN2, startE, List.map_cons, List.map_nil, List.length_cons, List.length_nil, List.replicate, List.cons_append, List.nil_append, List.getElem?_cons_zero, List.getElem?_cons_succ, List.set_cons_zero, List.set_cons_succ, Option.map_some, Option.bind_some, Option.map_none, Option.bind_none, Nat.reduceAdd, Nat.reduceSub, if_true, if_false, Bool.false_eq_true, decide_true, decide_false, Bool.not_true, Bool.not_false, reduceIte, List.length_map, n3, n4, m]
theorem eq_pt {a b c d : Int} : eqD (P a b) (P c d) = some ((a == c) && ((b == d) && true)) := by
  have h : ∀ a b : Int, SeqAt.shaped (.tuple [.int a, .int b]) = true := fun a b => by kernel_rfl
  show (if (SeqAt.shaped (.tuple [.int a, .int b]) && SeqAt.shaped (.tuple [.int c, .int d])) = true then some (PyData.eqv (.tuple [.int a, .int b]) (.tuple [.int c, .int d])) else none) = _
  rw [h, h]
  rfl
theorem side_ok {p q r : D} {ax ay bx by_ cx cy : Int} (hp : IsP p ax ay) (hq : IsP q bx by_) (hr : IsP r cx cy) (h1 : Bt 110 ax) (h2 : Bt 110 ay) (h3 : Bt 110 bx) (h4 : Bt 110 by_) (h5 : Bt 110 cx) (h6 : Bt 110 cy) (ne : ((ax == bx) && ((ay == by_) && true)) = false) :
    d_side_of [p, q, r] = .ok (.sh (.int (sg (trn ax ay bx by_ cx cy)))) := by
  have n1 := fun s ρ => callP_ok (ρ := ρ) (hp.need s)
  have n2 := fun s ρ => callP_ok (ρ := ρ) (hq.need s)
  have n3 := fun s ρ => callP_ok (ρ := ρ) (hr.need s)
  have t1 := fun ρ => callP_ok (ρ := ρ) (turn_ok h1 h2 h3 h4 h5 h6)
  have s := fun n ρ => callP_ok (ρ := ρ) (sign_ok (n := n))
  have e : eqD (P ax ay) (P bx by_) = some false := by rw [eq_pt, ne]
  refine (q_denP rfl).trans ?_
  unfold g_side_of
  refine (congrArg resP (seq_to (ρ1 := [some (.sh p), some (.sh q), some (.sh r), some (.sh (P ax ay)), some (.sh (P bx by_)), some (.sh (P cx cy))]) ?_)).trans ?_
  · refine (par3_to (ts := [.sh (P ax ay), .sh (P bx by_), .sh (P cx cy)]) (ρ1 := [some (.sh p), some (.sh q), some (.sh r), none, none, none]) ?_).trans rfl
    simp only [q_od1, q_od2, q_od3, q_od4, q_bind, q_bindx, q_s, q_sx, q_nx, q_rt, q_bk, q_ct, q_ex, q_seq, q_nil, q_if, q_expr, q_set, q_put, q_puto, q_puta, q_lookPs, q_lookPo, q_ret0, q_ret, q_reto, q_reta, q_lookRs, q_lookRo, q_c, q_v, q_lookVs, q_lookVo, q_view, q_viewo, q_viewa, q_slots, q_sloto, q_opt, q_e1, q_e2, q_eN, q_an, q_ac, q_views0, q_views, q_shs0, q_shs, q_f, q_frz, q_frzo, q_frza, q_lookFs, q_lookFo, q_lst, q_tup, q_mkL, q_mkT, q_cB, q_cV, q_cAnd, q_cOr, q_cNot, q_eIf, q_isBl, q_eAnd, q_eOr, q_eNot, q_andT, q_andF, q_orT, q_orF, q_notK, q_ix, q_ixJ, q_lookJ, q_ixK, q_lookK, q_stK, q_call, q_callO, q_callM, q_callK, q_lookC, q_resC, q_resCx, q_lent, q_lookL, q_resM, q_resMo, q_resMn, q_resMx, q_resP, q_resPo, q_resPn, q_resPx, q_asBl, List.not_mem_nil, q_lt, q_le, q_gt, q_ge, q_add, q_sub, q_mul, q_fdiv, q_mod, q_neg, q_int, q_intb, q_abs, q_len, q_lent1, q_lenr, q_ixl, q_ixt, q_ixr, q_trub, q_trun, q_trui, q_trul, q_trut, q_isn, q_isNn, q_isiT, at0, at1, at2, ixN1, ixN2, startE, List.map_cons, List.map_nil, List.length_cons, List.length_nil, List.replicate, List.cons_append, List.nil_append, List.getElem?_cons_zero, List.getElem?_cons_succ, List.set_cons_zero, List.set_cons_succ, Option.map_some, Option.bind_some, Option.map_none, Option.bind_none, Nat.reduceAdd, Nat.reduceSub, if_true, if_false, Bool.false_eq_true, decide_true, decide_false, Bool.not_true, Bool.not_false, reduceIte, List.length_map, n1, n2, n3]
  · simp only [q_od1, q_od2, q_od3, q_od4, q_bind, q_bindx, q_s, q_sx, q_nx, q_rt, q_bk, q_ct, q_ex, q_seq, q_nil, q_if, q_expr, q_set, q_put, q_puto, q_puta, q_lookPs, q_lookPo, q_ret0, q_ret, q_reto, q_reta, q_lookRs, q_lookRo, q_c, q_v, q_lookVs, q_lookVo, q_view, q_viewo, q_viewa, q_slots, q_sloto, q_opt, q_e1, q_e2, q_eN, q_an, q_ac, q_views0, q_views, q_shs0, q_shs, q_f, q_frz, q_frzo, q_frza, q_lookFs, q_lookFo, q_lst, q_tup, q_mkL, q_mkT, q_cB, q_cV, q_cAnd, q_cOr, q_cNot, q_eIf, q_isBl, q_eAnd, q_eOr, q_eNot, q_andT, q_andF, q_orT, q_orF, q_notK, q_ix, q_ixJ, q_lookJ, q_ixK, q_lookK, q_stK, q_call, q_callO, q_callM, q_callK, q_lookC, q_resC, q_resCx, q_lent, q_lookL, q_resM, q_resMo, q_resMn, q_resMx, q_resP, q_resPo, q_resPn, q_resPx, q_asBl, List.not_mem_nil, q_lt, q_le, q_gt, q_ge, q_add, q_sub, q_mul, q_fdiv, q_mod, q_neg, q_int, q_intb, q_abs, q_len, q_lent1, q_lenr, q_ixl, q_ixt, q_ixr, q_trub, q_trun, q_trui, q_trul, q_trut, q_isn, q_isNn, q_isiT, at0, at1, at2, ixN1, ixN2, startE, List.map_cons, List.map_nil, List.length_cons, List.length_nil, List.replicate, List.cons_append, List.nil_append, List.getElem?_cons_zero, List.getElem?_cons_succ, List.set_cons_zero, List.set_cons_succ, Option.map_some, Option.bind_some, Option.map_none, Option.bind_none, Nat.reduceAdd, Nat.reduceSub, if_true, if_false, Bool.false_eq_true, decide_true, decide_false, Bool.not_true, Bool.not_false, reduceIte, List.length_map, e, t1, s]
/-! ### the law's own look -/
theorem bt_mul {a b : Int} (h1 : Bt 500 a) (h2 : Bt 500 b) : Bt 1000 (a * b) := intBits_mul_le h1 h2
theorem le_dec {a b : Int} : leD (.int a) (.int b) = some (decide (a ≤ b)) := rfl
theorem max2L {u v : Int} : maxLD [.lst [.int u, .int v]] = some (.sh (.int (if u < v then v else u))) := by
  show some (T.sh (.int (if u < v then v else u))) = _
  rfl
theorem max_le {u v : Int} : decide ((if u < v then v else u) ≤ 0) = (decide (u ≤ 0) && decide (v ≤ 0)) := by
  rw [Bool.eq_iff_iff, Bool.and_eq_true, decide_eq_true_eq, decide_eq_true_eq, decide_eq_true_eq]
  constructor
  · intro h
    split at h <;> constructor <;> omega
  · intro ⟨h1, h2⟩
    split <;> omega
section
variable {o0 o1 o2 o3 o4 o5 o6 o7 o8 o9 o10 o14 : Option T}
theorem common_body {px py sx sy ex ey : Int} (h1 : Bt 110 px) (h2 : Bt 110 py) (h3 : Bt 110 sx) (h4 : Bt 110 sy) (h5 : Bt 110 ex) (h6 : Bt 110 ey) : ∃ x, g__law_common_b1 [o0, o1, o2, o3, o4, o5, o6, o7, o8, o9, o10, some (.sh (P px py)), some (.sh (P sx sy)), some (.sh (P ex ey)), o14, none] =
    if lieB px py sx sy ex ey = true then .rt (.sh (.bl true)) [o0, o1, o2, o3, o4, o5, o6, o7, o8, o9, o10, some (.sh (P px py)), some (.sh (P sx sy)), some (.sh (P ex ey)), x, none] else .nx [o0, o1, o2, o3, o4, o5, o6, o7, o8, o9, o10, some (.sh (P px py)), some (.sh (P sx sy)), some (.sh (P ex ey)), x, none] := by
  have m1 : mulOk (px - sx) (px - ex) = true := mo (up5 (bt_sub h1 h3)) (up5 (bt_sub h1 h5))
  have m2 : mulOk (py - sy) (py - ey) = true := mo (up5 (bt_sub h2 h4)) (up5 (bt_sub h2 h6))
  have sz2 : (0 : Nat) + 1 + 1 ≤ sizeLine := by decide
  have sp : ∀ (i : Int) (u v w : Int) (x : Option T), mulOk (u - v) (u - w) = true → (i = 0 ∧ u = px ∧ v = sx ∧ w = ex) ∨ (i = 1 ∧ u = py ∧ v = sy ∧ w = ey) →
      eF [] (Pf.e2 mulD (Pf.e2 subD (Pf.e2 ixD (eV 11) (eV 15)) (Pf.e2 ixD (eV 12) (eV 15))) (Pf.e2 subD (Pf.e2 ixD (eV 11) (eV 15)) (Pf.e2 ixD (eV 13) (eV 15)))) [o0, o1, o2, o3, o4, o5, o6, o7, o8, o9, o10, some (.sh (P px py)), some (.sh (P sx sy)), some (.sh (P ex ey)), x, some (.sh (.int i))] = .ok (.sh (.int ((u - v) * (u - w)))) [o0, o1, o2, o3, o4, o5, o6, o7, o8, o9, o10, some (.sh (P px py)), some (.sh (P sx sy)), some (.sh (P ex ey)), x, some (.sh (.int i))] := fun i u v w x m h => by
    rcases h with ⟨rfl, rfl, rfl, rfl⟩ | ⟨rfl, rfl, rfl, rfl⟩ <;> simp only [q_od1, q_od2, q_od3, q_od4, q_bind, q_bindx, q_s, q_sx, q_nx, q_rt, q_bk, q_ct, q_ex, q_seq, q_nil, q_if, q_expr, q_set, q_put, q_puto, q_puta, q_lookPs, q_lookPo, q_ret0, q_ret, q_reto, q_reta, q_lookRs, q_lookRo, q_c, q_v, q_lookVs, q_lookVo, q_view, q_viewo, q_viewa, q_slots, q_sloto, q_opt, q_e1, q_e2, q_eN, q_an, q_ac, q_views0, q_views, q_shs0, q_shs, q_f, q_frz, q_frzo, q_frza, q_lookFs, q_lookFo, q_lst, q_tup, q_mkL, q_mkT, q_cB, q_cV, q_cAnd, q_cOr, q_cNot, q_eIf, q_isBl, q_eAnd, q_eOr, q_eNot, q_andT, q_andF, q_orT, q_orF, q_notK, q_ix, q_ixJ, q_lookJ, q_ixK, q_lookK, q_stK, q_call, q_callO, q_callM, q_callK, q_lookC, q_resC, q_resCx, q_lent, q_lookL, q_resM, q_resMo, q_resMn, q_resMx, q_resP, q_resPo, q_resPn, q_resPx, q_asBl, List.not_mem_nil, q_lt, q_le, q_gt, q_ge, q_add, q_sub, q_mul, q_fdiv, q_mod, q_neg, q_int, q_intb, q_abs, q_len, q_lent1, q_lenr, q_ixl, q_ixt, q_ixr, q_trub, q_trun, q_trui, q_trul, q_trut, q_isn, q_isNn, q_isiT, at0, at1, at2, ixN1, ixN2, startE, List.map_cons, List.map_nil, List.length_cons, List.length_nil, List.replicate, List.cons_append, List.nil_append, List.getElem?_cons_zero, List.getElem?_cons_succ, List.set_cons_zero, List.set_cons_succ, Option.map_some, Option.bind_some, Option.map_none, Option.bind_none, Nat.reduceAdd, Nat.reduceSub, if_true, if_false, Bool.false_eq_true, decide_true, decide_false, Bool.not_true, Bool.not_false, reduceIte, List.length_map, m]
  have E := lc_two (m := []) (vs := [15]) (gt := gN 15) (fe := Pf.e2 mulD (Pf.e2 subD (Pf.e2 ixD (eV 11) (eV 15)) (Pf.e2 ixD (eV 12) (eV 15))) (Pf.e2 subD (Pf.e2 ixD (eV 11) (eV 15)) (Pf.e2 ixD (eV 13) (eV 15)))) (d1 := .int 0) (d2 := .int 1) (ρ := [o0, o1, o2, o3, o4, o5, o6, o7, o8, o9, o10, some (.sh (P px py)), some (.sh (P sx sy)), some (.sh (P ex ey)), o14, none]) rfl (sp 0 px sx ex o14 m1 (.inl ⟨rfl, rfl, rfl, rfl⟩)) rfl (sp 1 py sy ey o14 m2 (.inr ⟨rfl, rfl, rfl, rfl⟩))
  have w1 := fun ρ => callP_ok (ρ := ρ) (way2_ok (a := sx) (b := sy) (c := px) (d := py))
  have w2 := fun ρ => callP_ok (ρ := ρ) (way2_ok (a := sx) (b := sy) (c := ex) (d := ey))
  have c1 := fun ρ => callP_ok (ρ := ρ) (cross2_ok (bt_sub h1 h3) (bt_sub h2 h4) (bt_sub h5 h3) (bt_sub h6 h4))
  have e0 : ∀ n : Int, eqD (.int n) (.int 0) = some (decide (n = 0)) := fun n => by rw [eq_int, beq0]
  refine ⟨some (.own (.lst [.int ((px - sx) * (px - ex)), .int ((py - sy) * (py - ey))])), ?_⟩
  unfold g__law_common_b1
  refine (seq_to (ρ1 := [o0, o1, o2, o3, o4, o5, o6, o7, o8, o9, o10, some (.sh (P px py)), some (.sh (P sx sy)), some (.sh (P ex ey)), some (.own (.lst [.int ((px - sx) * (px - ex)), .int ((py - sy) * (py - ey))])), none]) ?_).trans ?_
  · simp only [q_od1, q_od2, q_od3, q_od4, q_bind, q_bindx, q_s, q_sx, q_nx, q_rt, q_bk, q_ct, q_ex, q_seq, q_nil, q_if, q_expr, q_set, q_put, q_puto, q_puta, q_lookPs, q_lookPo, q_ret0, q_ret, q_reto, q_reta, q_lookRs, q_lookRo, q_c, q_v, q_lookVs, q_lookVo, q_view, q_viewo, q_viewa, q_slots, q_sloto, q_opt, q_e1, q_e2, q_eN, q_an, q_ac, q_views0, q_views, q_shs0, q_shs, q_f, q_frz, q_frzo, q_frza, q_lookFs, q_lookFo, q_lst, q_tup, q_mkL, q_mkT, q_cB, q_cV, q_cAnd, q_cOr, q_cNot, q_eIf, q_isBl, q_eAnd, q_eOr, q_eNot, q_andT, q_andF, q_orT, q_orF, q_notK, q_ix, q_ixJ, q_lookJ, q_ixK, q_lookK, q_stK, q_call, q_callO, q_callM, q_callK, q_lookC, q_resC, q_resCx, q_lent, q_lookL, q_resM, q_resMo, q_resMn, q_resMx, q_resP, q_resPo, q_resPn, q_resPx, q_asBl, List.not_mem_nil, q_lt, q_le, q_gt, q_ge, q_add, q_sub, q_mul, q_fdiv, q_mod, q_neg, q_int, q_intb, q_abs, q_len, q_lent1, q_lenr, q_ixl, q_ixt, q_ixr, q_trub, q_trun, q_trui, q_trul, q_trut, q_isn, q_isNn, q_isiT, at0, at1, at2, ixN1, ixN2, startE, List.map_cons, List.map_nil, List.length_cons, List.length_nil, List.replicate, List.cons_append, List.nil_append, List.getElem?_cons_zero, List.getElem?_cons_succ, List.set_cons_zero, List.set_cons_succ, Option.map_some, Option.bind_some, Option.map_none, Option.bind_none, Nat.reduceAdd, Nat.reduceSub, if_true, if_false, Bool.false_eq_true, decide_true, decide_false, Bool.not_true, Bool.not_false, reduceIte, List.length_map, q_perm0, q_chain, q_chT, q_chF, q_perm, q_consO, q_callKw, q_kwO, q_unp, q_unpK, q_unpO, q_gL, q_gT, q_gA0, q_gA, q_gN, q_lc, q_lcK, q_iSeq, q_iR, q_itl, q_itt, q_sl, q_oN, q_oS, q_oK, q_slr, q_sll, unw, wipeE, ksh, and_self, sz2, E]
  · unfold lieB
    cases k1 : decide (crs (px - sx) (py - sy) (ex - sx) (ey - sy) = 0) with
    | false => simp only [q_od1, q_od2, q_od3, q_od4, q_bind, q_bindx, q_s, q_sx, q_nx, q_rt, q_bk, q_ct, q_ex, q_seq, q_nil, q_if, q_expr, q_set, q_put, q_puto, q_puta, q_lookPs, q_lookPo, q_ret0, q_ret, q_reto, q_reta, q_lookRs, q_lookRo, q_c, q_v, q_lookVs, q_lookVo, q_view, q_viewo, q_viewa, q_slots, q_sloto, q_opt, q_e1, q_e2, q_eN, q_an, q_ac, q_views0, q_views, q_shs0, q_shs, q_f, q_frz, q_frzo, q_frza, q_lookFs, q_lookFo, q_lst, q_tup, q_mkL, q_mkT, q_cB, q_cV, q_cAnd, q_cOr, q_cNot, q_eIf, q_isBl, q_eAnd, q_eOr, q_eNot, q_andT, q_andF, q_orT, q_orF, q_notK, q_ix, q_ixJ, q_lookJ, q_ixK, q_lookK, q_stK, q_call, q_callO, q_callM, q_callK, q_lookC, q_resC, q_resCx, q_lent, q_lookL, q_resM, q_resMo, q_resMn, q_resMx, q_resP, q_resPo, q_resPn, q_resPx, q_asBl, List.not_mem_nil, q_lt, q_le, q_gt, q_ge, q_add, q_sub, q_mul, q_fdiv, q_mod, q_neg, q_int, q_intb, q_abs, q_len, q_lent1, q_lenr, q_ixl, q_ixt, q_ixr, q_trub, q_trun, q_trui, q_trul, q_trut, q_isn, q_isNn, q_isiT, at0, at1, at2, ixN1, ixN2, startE, List.map_cons, List.map_nil, List.length_cons, List.length_nil, List.replicate, List.cons_append, List.nil_append, List.getElem?_cons_zero, List.getElem?_cons_succ, List.set_cons_zero, List.set_cons_succ, Option.map_some, Option.bind_some, Option.map_none, Option.bind_none, Nat.reduceAdd, Nat.reduceSub, if_true, if_false, Bool.false_eq_true, decide_true, decide_false, Bool.not_true, Bool.not_false, reduceIte, List.length_map, w1, w2, c1, e0, k1, Bool.false_and]
    | true =>
      cases k2 : decide ((px - sx) * (px - ex) ≤ 0) with
      | false =>
        have := max_le (u := (px - sx) * (px - ex)) (v := (py - sy) * (py - ey))
        rw [k2, Bool.false_and] at this
        simp only [q_od1, q_od2, q_od3, q_od4, q_bind, q_bindx, q_s, q_sx, q_nx, q_rt, q_bk, q_ct, q_ex, q_seq, q_nil, q_if, q_expr, q_set, q_put, q_puto, q_puta, q_lookPs, q_lookPo, q_ret0, q_ret, q_reto, q_reta, q_lookRs, q_lookRo, q_c, q_v, q_lookVs, q_lookVo, q_view, q_viewo, q_viewa, q_slots, q_sloto, q_opt, q_e1, q_e2, q_eN, q_an, q_ac, q_views0, q_views, q_shs0, q_shs, q_f, q_frz, q_frzo, q_frza, q_lookFs, q_lookFo, q_lst, q_tup, q_mkL, q_mkT, q_cB, q_cV, q_cAnd, q_cOr, q_cNot, q_eIf, q_isBl, q_eAnd, q_eOr, q_eNot, q_andT, q_andF, q_orT, q_orF, q_notK, q_ix, q_ixJ, q_lookJ, q_ixK, q_lookK, q_stK, q_call, q_callO, q_callM, q_callK, q_lookC, q_resC, q_resCx, q_lent, q_lookL, q_resM, q_resMo, q_resMn, q_resMx, q_resP, q_resPo, q_resPn, q_resPx, q_asBl, List.not_mem_nil, q_lt, q_le, q_gt, q_ge, q_add, q_sub, q_mul, q_fdiv, q_mod, q_neg, q_int, q_intb, q_abs, q_len, q_lent1, q_lenr, q_ixl, q_ixt, q_ixr, q_trub, q_trun, q_trui, q_trul, q_trut, q_isn, q_isNn, q_isiT, at0, at1, at2, ixN1, ixN2, startE, List.map_cons, List.map_nil, List.length_cons, List.length_nil, List.replicate, List.cons_append, List.nil_append, List.getElem?_cons_zero, List.getElem?_cons_succ, List.set_cons_zero, List.set_cons_succ, Option.map_some, Option.bind_some, Option.map_none, Option.bind_none, Nat.reduceAdd, Nat.reduceSub, if_true, if_false, Bool.false_eq_true, decide_true, decide_false, Bool.not_true, Bool.not_false, reduceIte, List.length_map, w1, w2, c1, e0, k1, max2L, this, Bool.false_and, Bool.true_and]
      | true =>
        have := max_le (u := (px - sx) * (px - ex)) (v := (py - sy) * (py - ey))
        rw [k2, Bool.true_and] at this
        cases k3 : decide ((py - sy) * (py - ey) ≤ 0) with
        | false => rw [k3] at this; simp only [q_od1, q_od2, q_od3, q_od4, q_bind, q_bindx, q_s, q_sx, q_nx, q_rt, q_bk, q_ct, q_ex, q_seq, q_nil, q_if, q_expr, q_set, q_put, q_puto, q_puta, q_lookPs, q_lookPo, q_ret0, q_ret, q_reto, q_reta, q_lookRs, q_lookRo, q_c, q_v, q_lookVs, q_lookVo, q_view, q_viewo, q_viewa, q_slots, q_sloto, q_opt, q_e1, q_e2, q_eN, q_an, q_ac, q_views0, q_views, q_shs0, q_shs, q_f, q_frz, q_frzo, q_frza, q_lookFs, q_lookFo, q_lst, q_tup, q_mkL, q_mkT, q_cB, q_cV, q_cAnd, q_cOr, q_cNot, q_eIf, q_isBl, q_eAnd, q_eOr, q_eNot, q_andT, q_andF, q_orT, q_orF, q_notK, q_ix, q_ixJ, q_lookJ, q_ixK, q_lookK, q_stK, q_call, q_callO, q_callM, q_callK, q_lookC, q_resC, q_resCx, q_lent, q_lookL, q_resM, q_resMo, q_resMn, q_resMx, q_resP, q_resPo, q_resPn, q_resPx, q_asBl, List.not_mem_nil, q_lt, q_le, q_gt, q_ge, q_add, q_sub, q_mul, q_fdiv, q_mod, q_neg, q_int, q_intb, q_abs, q_len, q_lent1, q_lenr, q_ixl, q_ixt, q_ixr, q_trub, q_trun, q_trui, q_trul, q_trut, q_isn, q_isNn, q_isiT, at0, at1, at2, ixN1, ixN2, startE, List.map_cons, List.map_nil, List.length_cons, List.length_nil, List.replicate, List.cons_append, List.nil_append, List.getElem?_cons_zero, List.getElem?_cons_succ, List.set_cons_zero, List.set_cons_succ, Option.map_some, Option.bind_some, Option.map_none, Option.bind_none, Nat.reduceAdd, Nat.reduceSub, if_true, if_false, Bool.false_eq_true, decide_true, decide_false, Bool.not_true, Bool.not_false, reduceIte, List.length_map, w1, w2, c1, e0, k1, max2L, this, Bool.false_and, Bool.true_and]
        | true => rw [k3] at this; simp only [q_od1, q_od2, q_od3, q_od4, q_bind, q_bindx, q_s, q_sx, q_nx, q_rt, q_bk, q_ct, q_ex, q_seq, q_nil, q_if, q_expr, q_set, q_put, q_puto, q_puta, q_lookPs, q_lookPo, q_ret0, q_ret, q_reto, q_reta, q_lookRs, q_lookRo, q_c, q_v, q_lookVs, q_lookVo, q_view, q_viewo, q_viewa, q_slots, q_sloto, q_opt, q_e1, q_e2, q_eN, q_an, q_ac, q_views0, q_views, q_shs0, q_shs, q_f, q_frz, q_frzo, q_frza, q_lookFs, q_lookFo, q_lst, q_tup, q_mkL, q_mkT, q_cB, q_cV, q_cAnd, q_cOr, q_cNot, q_eIf, q_isBl, q_eAnd, q_eOr, q_eNot, q_andT, q_andF, q_orT, q_orF, q_notK, q_ix, q_ixJ, q_lookJ, q_ixK, q_lookK, q_stK, q_call, q_callO, q_callM, q_callK, q_lookC, q_resC, q_resCx, q_lent, q_lookL, q_resM, q_resMo, q_resMn, q_resMx, q_resP, q_resPo, q_resPn, q_resPx, q_asBl, List.not_mem_nil, q_lt, q_le, q_gt, q_ge, q_add, q_sub, q_mul, q_fdiv, q_mod, q_neg, q_int, q_intb, q_abs, q_len, q_lent1, q_lenr, q_ixl, q_ixt, q_ixr, q_trub, q_trun, q_trui, q_trul, q_trut, q_isn, q_isNn, q_isiT, at0, at1, at2, ixN1, ixN2, startE, List.map_cons, List.map_nil, List.length_cons, List.length_nil, List.replicate, List.cons_append, List.nil_append, List.getElem?_cons_zero, List.getElem?_cons_succ, List.set_cons_zero, List.set_cons_succ, Option.map_some, Option.bind_some, Option.map_none, Option.bind_none, Nat.reduceAdd, Nat.reduceSub, if_true, if_false, Bool.false_eq_true, decide_true, decide_false, Bool.not_true, Bool.not_false, reduceIte, List.length_map, w1, w2, c1, e0, k1, max2L, this, Bool.false_and, Bool.true_and]
end
theorem common_ok {ax ay bx by_ cx cy dx dy : Int} (h1 : Bt 110 ax) (h2 : Bt 110 ay) (h3 : Bt 110 bx) (h4 : Bt 110 by_) (h5 : Bt 110 cx) (h6 : Bt 110 cy) (h7 : Bt 110 dx) (h8 : Bt 110 dy) :
    d__law_common [P ax ay, P bx by_, P cx cy, P dx dy] = .ok (.sh (.bl (ownB ax ay bx by_ cx cy dx dy))) := by
  have w1 := fun ρ => callP_ok (ρ := ρ) (way2_ok (a := ax) (b := ay) (c := bx) (d := by_))
  have w2 := fun ρ => callP_ok (ρ := ρ) (way2_ok (a := cx) (b := cy) (c := dx) (d := dy))
  have w3 := fun ρ => callP_ok (ρ := ρ) (way2_ok (a := ax) (b := ay) (c := cx) (d := cy))
  have c1 := fun ρ => callP_ok (ρ := ρ) (cross2_ok (bt_sub h3 h1) (bt_sub h4 h2) (bt_sub h7 h5) (bt_sub h8 h6))
  have c2 := fun ρ => callP_ok (ρ := ρ) (cross2_ok (bt_sub h5 h1) (bt_sub h6 h2) (bt_sub h7 h5) (bt_sub h8 h6))
  have c3 := fun ρ => callP_ok (ρ := ρ) (cross2_ok (bt_sub h5 h1) (bt_sub h6 h2) (bt_sub h3 h1) (bt_sub h4 h2))
  have bB := bt_crs (bt_sub h3 h1) (bt_sub h4 h2) (bt_sub h7 h5) (bt_sub h8 h6)
  have bt := bt_crs (bt_sub h5 h1) (bt_sub h6 h2) (bt_sub h7 h5) (bt_sub h8 h6)
  have bs := bt_crs (bt_sub h5 h1) (bt_sub h6 h2) (bt_sub h3 h1) (bt_sub h4 h2)
  have sz3 : (0 : Nat) + 1 + 1 + 1 ≤ sizeLine := by decide
  have sz4 : (0 : Nat) + 1 + 1 + 1 + 1 ≤ sizeLine := by decide
  refine (q_denP rfl).trans ?_
  unfold g__law_common ownB
  dsimp only
  refine (congrArg resP (seq_to (ρ1 := [some (.sh (P ax ay)), some (.sh (P bx by_)), some (.sh (P cx cy)), some (.sh (P dx dy)), some (.sh (P (bx - ax) (by_ - ay))), some (.sh (P (dx - cx) (dy - cy))), some (.sh (P (cx - ax) (cy - ay))), none, none, none, none, none, none, none, none, none]) ?_)).trans ?_
  · refine (par3_to (ts := [.sh (P (bx - ax) (by_ - ay)), .sh (P (dx - cx) (dy - cy)), .sh (P (cx - ax) (cy - ay))]) (ρ1 := [some (.sh (P ax ay)), some (.sh (P bx by_)), some (.sh (P cx cy)), some (.sh (P dx dy)), none, none, none, none, none, none, none, none, none, none, none, none]) ?_).trans rfl
    simp only [q_od1, q_od2, q_od3, q_od4, q_bind, q_bindx, q_s, q_sx, q_nx, q_rt, q_bk, q_ct, q_ex, q_seq, q_nil, q_if, q_expr, q_set, q_put, q_puto, q_puta, q_lookPs, q_lookPo, q_ret0, q_ret, q_reto, q_reta, q_lookRs, q_lookRo, q_c, q_v, q_lookVs, q_lookVo, q_view, q_viewo, q_viewa, q_slots, q_sloto, q_opt, q_e1, q_e2, q_eN, q_an, q_ac, q_views0, q_views, q_shs0, q_shs, q_f, q_frz, q_frzo, q_frza, q_lookFs, q_lookFo, q_lst, q_tup, q_mkL, q_mkT, q_cB, q_cV, q_cAnd, q_cOr, q_cNot, q_eIf, q_isBl, q_eAnd, q_eOr, q_eNot, q_andT, q_andF, q_orT, q_orF, q_notK, q_ix, q_ixJ, q_lookJ, q_ixK, q_lookK, q_stK, q_call, q_callO, q_callM, q_callK, q_lookC, q_resC, q_resCx, q_lent, q_lookL, q_resM, q_resMo, q_resMn, q_resMx, q_resP, q_resPo, q_resPn, q_resPx, q_asBl, List.not_mem_nil, q_lt, q_le, q_gt, q_ge, q_add, q_sub, q_mul, q_fdiv, q_mod, q_neg, q_int, q_intb, q_abs, q_len, q_lent1, q_lenr, q_ixl, q_ixt, q_ixr, q_trub, q_trun, q_trui, q_trul, q_trut, q_isn, q_isNn, q_isiT, at0, at1, at2, ixN1, ixN2, startE, List.map_cons, List.map_nil, List.length_cons, List.length_nil, List.replicate, List.cons_append, List.nil_append, List.getElem?_cons_zero, List.getElem?_cons_succ, List.set_cons_zero, List.set_cons_succ, Option.map_some, Option.bind_some, Option.map_none, Option.bind_none, Nat.reduceAdd, Nat.reduceSub, if_true, if_false, Bool.false_eq_true, decide_true, decide_false, Bool.not_true, Bool.not_false, reduceIte, List.length_map, w1, w2, w3]
  refine (congrArg resP (seq_to (ρ1 := [some (.sh (P ax ay)), some (.sh (P bx by_)), some (.sh (P cx cy)), some (.sh (P dx dy)), some (.sh (P (bx - ax) (by_ - ay))), some (.sh (P (dx - cx) (dy - cy))), some (.sh (P (cx - ax) (cy - ay))), some (.sh (.int (crs (bx - ax) (by_ - ay) (dx - cx) (dy - cy)))), none, none, none, none, none, none, none, none]) ?_)).trans ?_
  · simp only [q_od1, q_od2, q_od3, q_od4, q_bind, q_bindx, q_s, q_sx, q_nx, q_rt, q_bk, q_ct, q_ex, q_seq, q_nil, q_if, q_expr, q_set, q_put, q_puto, q_puta, q_lookPs, q_lookPo, q_ret0, q_ret, q_reto, q_reta, q_lookRs, q_lookRo, q_c, q_v, q_lookVs, q_lookVo, q_view, q_viewo, q_viewa, q_slots, q_sloto, q_opt, q_e1, q_e2, q_eN, q_an, q_ac, q_views0, q_views, q_shs0, q_shs, q_f, q_frz, q_frzo, q_frza, q_lookFs, q_lookFo, q_lst, q_tup, q_mkL, q_mkT, q_cB, q_cV, q_cAnd, q_cOr, q_cNot, q_eIf, q_isBl, q_eAnd, q_eOr, q_eNot, q_andT, q_andF, q_orT, q_orF, q_notK, q_ix, q_ixJ, q_lookJ, q_ixK, q_lookK, q_stK, q_call, q_callO, q_callM, q_callK, q_lookC, q_resC, q_resCx, q_lent, q_lookL, q_resM, q_resMo, q_resMn, q_resMx, q_resP, q_resPo, q_resPn, q_resPx, q_asBl, List.not_mem_nil, q_lt, q_le, q_gt, q_ge, q_add, q_sub, q_mul, q_fdiv, q_mod, q_neg, q_int, q_intb, q_abs, q_len, q_lent1, q_lenr, q_ixl, q_ixt, q_ixr, q_trub, q_trun, q_trui, q_trul, q_trut, q_isn, q_isNn, q_isiT, at0, at1, at2, ixN1, ixN2, startE, List.map_cons, List.map_nil, List.length_cons, List.length_nil, List.replicate, List.cons_append, List.nil_append, List.getElem?_cons_zero, List.getElem?_cons_succ, List.set_cons_zero, List.set_cons_succ, Option.map_some, Option.bind_some, Option.map_none, Option.bind_none, Nat.reduceAdd, Nat.reduceSub, if_true, if_false, Bool.false_eq_true, decide_true, decide_false, Bool.not_true, Bool.not_false, reduceIte, List.length_map, c1]
  generalize hBv : crs (bx - ax) (by_ - ay) (dx - cx) (dy - cy) = B at *
  have n0 : neD (.int B) (.int 0) = some (!decide (B = 0)) := by
    unfold neD
    rw [eq_int, beq0]
    rfl
  by_cases hB : B = 0
  · rw [if_neg (fun z => z hB)]
    have d0 : decide (B = 0) = true := decide_eq_true hB
    refine (congrArg resP (seq_to (ρ1 := [some (.sh (P ax ay)), some (.sh (P bx by_)), some (.sh (P cx cy)), some (.sh (P dx dy)), some (.sh (P (bx - ax) (by_ - ay))), some (.sh (P (dx - cx) (dy - cy))), some (.sh (P (cx - ax) (cy - ay))), some (.sh (.int B)), none, none, none, none, none, none, none, none]) ?_)).trans ?_
    · simp only [q_od1, q_od2, q_od3, q_od4, q_bind, q_bindx, q_s, q_sx, q_nx, q_rt, q_bk, q_ct, q_ex, q_seq, q_nil, q_if, q_expr, q_set, q_put, q_puto, q_puta, q_lookPs, q_lookPo, q_ret0, q_ret, q_reto, q_reta, q_lookRs, q_lookRo, q_c, q_v, q_lookVs, q_lookVo, q_view, q_viewo, q_viewa, q_slots, q_sloto, q_opt, q_e1, q_e2, q_eN, q_an, q_ac, q_views0, q_views, q_shs0, q_shs, q_f, q_frz, q_frzo, q_frza, q_lookFs, q_lookFo, q_lst, q_tup, q_mkL, q_mkT, q_cB, q_cV, q_cAnd, q_cOr, q_cNot, q_eIf, q_isBl, q_eAnd, q_eOr, q_eNot, q_andT, q_andF, q_orT, q_orF, q_notK, q_ix, q_ixJ, q_lookJ, q_ixK, q_lookK, q_stK, q_call, q_callO, q_callM, q_callK, q_lookC, q_resC, q_resCx, q_lent, q_lookL, q_resM, q_resMo, q_resMn, q_resMx, q_resP, q_resPo, q_resPn, q_resPx, q_asBl, List.not_mem_nil, q_lt, q_le, q_gt, q_ge, q_add, q_sub, q_mul, q_fdiv, q_mod, q_neg, q_int, q_intb, q_abs, q_len, q_lent1, q_lenr, q_ixl, q_ixt, q_ixr, q_trub, q_trun, q_trui, q_trul, q_trut, q_isn, q_isNn, q_isiT, at0, at1, at2, ixN1, ixN2, startE, List.map_cons, List.map_nil, List.length_cons, List.length_nil, List.replicate, List.cons_append, List.nil_append, List.getElem?_cons_zero, List.getElem?_cons_succ, List.set_cons_zero, List.set_cons_succ, Option.map_some, Option.bind_some, Option.map_none, Option.bind_none, Nat.reduceAdd, Nat.reduceSub, if_true, if_false, Bool.false_eq_true, decide_true, decide_false, Bool.not_true, Bool.not_false, reduceIte, List.length_map, n0, d0]
    refine (congrArg resP (seq_to (ρ1 := [some (.sh (P ax ay)), some (.sh (P bx by_)), some (.sh (P cx cy)), some (.sh (P dx dy)), some (.sh (P (bx - ax) (by_ - ay))), some (.sh (P (dx - cx) (dy - cy))), some (.sh (P (cx - ax) (cy - ay))), some (.sh (.int B)), none, none, some (.own (.lst [.tup [P ax ay, P cx cy, P dx dy], .tup [P bx by_, P cx cy, P dx dy], .tup [P cx cy, P ax ay, P bx by_], .tup [P dx dy, P ax ay, P bx by_]])), none, none, none, none, none]) ?_)).trans ?_
    · simp only [q_od1, q_od2, q_od3, q_od4, q_bind, q_bindx, q_s, q_sx, q_nx, q_rt, q_bk, q_ct, q_ex, q_seq, q_nil, q_if, q_expr, q_set, q_put, q_puto, q_puta, q_lookPs, q_lookPo, q_ret0, q_ret, q_reto, q_reta, q_lookRs, q_lookRo, q_c, q_v, q_lookVs, q_lookVo, q_view, q_viewo, q_viewa, q_slots, q_sloto, q_opt, q_e1, q_e2, q_eN, q_an, q_ac, q_views0, q_views, q_shs0, q_shs, q_f, q_frz, q_frzo, q_frza, q_lookFs, q_lookFo, q_lst, q_tup, q_mkL, q_mkT, q_cB, q_cV, q_cAnd, q_cOr, q_cNot, q_eIf, q_isBl, q_eAnd, q_eOr, q_eNot, q_andT, q_andF, q_orT, q_orF, q_notK, q_ix, q_ixJ, q_lookJ, q_ixK, q_lookK, q_stK, q_call, q_callO, q_callM, q_callK, q_lookC, q_resC, q_resCx, q_lent, q_lookL, q_resM, q_resMo, q_resMn, q_resMx, q_resP, q_resPo, q_resPn, q_resPx, q_asBl, List.not_mem_nil, q_lt, q_le, q_gt, q_ge, q_add, q_sub, q_mul, q_fdiv, q_mod, q_neg, q_int, q_intb, q_abs, q_len, q_lent1, q_lenr, q_ixl, q_ixt, q_ixr, q_trub, q_trun, q_trui, q_trul, q_trut, q_isn, q_isNn, q_isiT, at0, at1, at2, ixN1, ixN2, startE, List.map_cons, List.map_nil, List.length_cons, List.length_nil, List.replicate, List.cons_append, List.nil_append, List.getElem?_cons_zero, List.getElem?_cons_succ, List.set_cons_zero, List.set_cons_succ, Option.map_some, Option.bind_some, Option.map_none, Option.bind_none, Nat.reduceAdd, Nat.reduceSub, if_true, if_false, Bool.false_eq_true, decide_true, decide_false, Bool.not_true, Bool.not_false, reduceIte, List.length_map, sz3, sz4]
    -- the four ends
    have go : ∀ (F : D), ∃ ρ', (sFor (iSeq [] (eV 10)) (gT [gN 11, gN 12, gN 13]) g__law_common_b1 [some (.sh (P ax ay)), some (.sh (P bx by_)), some (.sh (P cx cy)), some (.sh (P dx dy)), some (.sh (P (bx - ax) (by_ - ay))), some (.sh (P (dx - cx) (dy - cy))), some (.sh (P (cx - ax) (cy - ay))), some (.sh (.int B)), none, none, some (.own (.lst [.tup [P ax ay, P cx cy, P dx dy], .tup [P bx by_, P cx cy, P dx dy], .tup [P cx cy, P ax ay, P bx by_], .tup [P dx dy, P ax ay, P bx by_]])), none, none, none, none, none]) =
        if (lieB ax ay cx cy dx dy || lieB bx by_ cx cy dx dy || lieB cx cy ax ay bx by_ || lieB dx dy ax ay bx by_) = true then .rt (.sh (.bl true)) ρ' else .nx ρ' := fun _ => by
      have ei : iSeq [] (eV 10) [some (.sh (P ax ay)), some (.sh (P bx by_)), some (.sh (P cx cy)), some (.sh (P dx dy)), some (.sh (P (bx - ax) (by_ - ay))), some (.sh (P (dx - cx) (dy - cy))), some (.sh (P (cx - ax) (cy - ay))), some (.sh (.int B)), none, none, some (.own (.lst [.tup [P ax ay, P cx cy, P dx dy], .tup [P bx by_, P cx cy, P dx dy], .tup [P cx cy, P ax ay, P bx by_], .tup [P dx dy, P ax ay, P bx by_]])), none, none, none, none, none] = .ok [.tup [P ax ay, P cx cy, P dx dy], .tup [P bx by_, P cx cy, P dx dy], .tup [P cx cy, P ax ay, P bx by_], .tup [P dx dy, P ax ay, P bx by_]] [some (.sh (P ax ay)), some (.sh (P bx by_)), some (.sh (P cx cy)), some (.sh (P dx dy)), some (.sh (P (bx - ax) (by_ - ay))), some (.sh (P (dx - cx) (dy - cy))), some (.sh (P (cx - ax) (cy - ay))), some (.sh (.int B)), none, none, some (.sh (.lst [.tup [P ax ay, P cx cy, P dx dy], .tup [P bx by_, P cx cy, P dx dy], .tup [P cx cy, P ax ay, P bx by_], .tup [P dx dy, P ax ay, P bx by_]])), none, none, none, none, none] := by simp only [q_od1, q_od2, q_od3, q_od4, q_bind, q_bindx, q_s, q_sx, q_nx, q_rt, q_bk, q_ct, q_ex, q_seq, q_nil, q_if, q_expr, q_set, q_put, q_puto, q_puta, q_lookPs, q_lookPo, q_ret0, q_ret, q_reto, q_reta, q_lookRs, q_lookRo, q_c, q_v, q_lookVs, q_lookVo, q_view, q_viewo, q_viewa, q_slots, q_sloto, q_opt, q_e1, q_e2, q_eN, q_an, q_ac, q_views0, q_views, q_shs0, q_shs, q_f, q_frz, q_frzo, q_frza, q_lookFs, q_lookFo, q_lst, q_tup, q_mkL, q_mkT, q_cB, q_cV, q_cAnd, q_cOr, q_cNot, q_eIf, q_isBl, q_eAnd, q_eOr, q_eNot, q_andT, q_andF, q_orT, q_orF, q_notK, q_ix, q_ixJ, q_lookJ, q_ixK, q_lookK, q_stK, q_call, q_callO, q_callM, q_callK, q_lookC, q_resC, q_resCx, q_lent, q_lookL, q_resM, q_resMo, q_resMn, q_resMx, q_resP, q_resPo, q_resPn, q_resPx, q_asBl, List.not_mem_nil, q_lt, q_le, q_gt, q_ge, q_add, q_sub, q_mul, q_fdiv, q_mod, q_neg, q_int, q_intb, q_abs, q_len, q_lent1, q_lenr, q_ixl, q_ixt, q_ixr, q_trub, q_trun, q_trui, q_trul, q_trut, q_isn, q_isNn, q_isiT, at0, at1, at2, ixN1, ixN2, startE, List.map_cons, List.map_nil, List.length_cons, List.length_nil, List.replicate, List.cons_append, List.nil_append, List.getElem?_cons_zero, List.getElem?_cons_succ, List.set_cons_zero, List.set_cons_succ, Option.map_some, Option.bind_some, Option.map_none, Option.bind_none, Nat.reduceAdd, Nat.reduceSub, if_true, if_false, Bool.false_eq_true, decide_true, decide_false, Bool.not_true, Bool.not_false, reduceIte, List.length_map, q_perm0, q_chain, q_chT, q_chF, q_perm, q_consO, q_callKw, q_kwO, q_unp, q_unpK, q_unpO, q_gL, q_gT, q_gA0, q_gA, q_gN, q_lc, q_lcK, q_iSeq, q_iR, q_itl, q_itt, q_sl, q_oN, q_oS, q_oK, q_slr, q_sll, unw, wipeE, ksh, and_self, ]
      obtain ⟨x1, e1⟩ := common_body (o0 := some (.sh (P ax ay))) (o1 := some (.sh (P bx by_))) (o2 := some (.sh (P cx cy))) (o3 := some (.sh (P dx dy))) (o4 := some (.sh (P (bx - ax) (by_ - ay)))) (o5 := some (.sh (P (dx - cx) (dy - cy)))) (o6 := some (.sh (P (cx - ax) (cy - ay)))) (o7 := some (.sh (.int B))) (o8 := none) (o9 := none) (o10 := some (.sh (.lst [.tup [P ax ay, P cx cy, P dx dy], .tup [P bx by_, P cx cy, P dx dy], .tup [P cx cy, P ax ay, P bx by_], .tup [P dx dy, P ax ay, P bx by_]]))) (o14 := none) h1 h2 h5 h6 h7 h8
      obtain ⟨x2, e2⟩ := common_body (o0 := some (.sh (P ax ay))) (o1 := some (.sh (P bx by_))) (o2 := some (.sh (P cx cy))) (o3 := some (.sh (P dx dy))) (o4 := some (.sh (P (bx - ax) (by_ - ay)))) (o5 := some (.sh (P (dx - cx) (dy - cy)))) (o6 := some (.sh (P (cx - ax) (cy - ay)))) (o7 := some (.sh (.int B))) (o8 := none) (o9 := none) (o10 := some (.sh (.lst [.tup [P ax ay, P cx cy, P dx dy], .tup [P bx by_, P cx cy, P dx dy], .tup [P cx cy, P ax ay, P bx by_], .tup [P dx dy, P ax ay, P bx by_]]))) (o14 := x1) h3 h4 h5 h6 h7 h8
      obtain ⟨x3, e3⟩ := common_body (o0 := some (.sh (P ax ay))) (o1 := some (.sh (P bx by_))) (o2 := some (.sh (P cx cy))) (o3 := some (.sh (P dx dy))) (o4 := some (.sh (P (bx - ax) (by_ - ay)))) (o5 := some (.sh (P (dx - cx) (dy - cy)))) (o6 := some (.sh (P (cx - ax) (cy - ay)))) (o7 := some (.sh (.int B))) (o8 := none) (o9 := none) (o10 := some (.sh (.lst [.tup [P ax ay, P cx cy, P dx dy], .tup [P bx by_, P cx cy, P dx dy], .tup [P cx cy, P ax ay, P bx by_], .tup [P dx dy, P ax ay, P bx by_]]))) (o14 := x2) h5 h6 h1 h2 h3 h4
      obtain ⟨x4, e4⟩ := common_body (o0 := some (.sh (P ax ay))) (o1 := some (.sh (P bx by_))) (o2 := some (.sh (P cx cy))) (o3 := some (.sh (P dx dy))) (o4 := some (.sh (P (bx - ax) (by_ - ay)))) (o5 := some (.sh (P (dx - cx) (dy - cy)))) (o6 := some (.sh (P (cx - ax) (cy - ay)))) (o7 := some (.sh (.int B))) (o8 := none) (o9 := none) (o10 := some (.sh (.lst [.tup [P ax ay, P cx cy, P dx dy], .tup [P bx by_, P cx cy, P dx dy], .tup [P cx cy, P ax ay, P bx by_], .tup [P dx dy, P ax ay, P bx by_]]))) (o14 := x3) h7 h8 h1 h2 h3 h4
      cases l1 : lieB ax ay cx cy dx dy with
      | true => rw [l1, if_pos rfl] at e1; exact ⟨_, q_forS ei (forD_rt rfl e1)⟩
      | false =>
        rw [l1, if_neg Bool.false_ne_true] at e1
        cases l2 : lieB bx by_ cx cy dx dy with
        | true => rw [l2, if_pos rfl] at e2; exact ⟨_, q_forS ei ((forD_nx rfl e1).trans (forD_rt rfl e2))⟩
        | false =>
          rw [l2, if_neg Bool.false_ne_true] at e2
          cases l3 : lieB cx cy ax ay bx by_ with
          | true => rw [l3, if_pos rfl] at e3; exact ⟨_, q_forS ei ((forD_nx rfl e1).trans ((forD_nx rfl e2).trans (forD_rt rfl e3)))⟩
          | false =>
            rw [l3, if_neg Bool.false_ne_true] at e3
            cases l4 : lieB dx dy ax ay bx by_ with
            | true => rw [l4, if_pos rfl] at e4; exact ⟨_, q_forS ei ((forD_nx rfl e1).trans ((forD_nx rfl e2).trans ((forD_nx rfl e3).trans (forD_rt rfl e4))))⟩
            | false => rw [l4, if_neg Bool.false_ne_true] at e4; exact ⟨_, q_forS ei ((forD_nx rfl e1).trans ((forD_nx rfl e2).trans ((forD_nx rfl e3).trans ((forD_nx rfl e4).trans rfl))))⟩
    obtain ⟨ρ', e⟩ := go .non
    cases hl : (lieB ax ay cx cy dx dy || lieB bx by_ cx cy dx dy || lieB cx cy ax ay bx by_ || lieB dx dy ax ay bx by_) with
    | true => rw [hl, if_pos rfl] at e; exact congrArg resP (seq_rt e)
    | false => rw [hl, if_neg Bool.false_ne_true] at e; exact congrArg resP ((seq_to e).trans rfl)
  · rw [if_pos hB]
    have d0 : decide (B = 0) = false := decide_eq_false hB
    generalize crs (cx - ax) (cy - ay) (dx - cx) (dy - cy) = t at *
    generalize crs (cx - ax) (cy - ay) (bx - ax) (by_ - ay) = s at *
    have m1 : mulOk t B = true := mo bt bB
    have m2 : mulOk s B = true := mo bs bB
    have m3 : mulOk B B = true := mo bB bB
    have c2' := fun ρ => c2 ρ
    have ini : sSeq (sPar 8 9 (aCons (eF [] (eCall d__law_cross (aCons (eF [] (eV 6)) (aCons (eF [] (eV 5)) (aNil))))) (aCons (eF [] (eCall d__law_cross (aCons (eF [] (eV 6)) (aCons (eF [] (eV 4)) (aNil))))) (aNil)))) (sRet [] (eAnd (eChain leD leD (eC (.int 0)) (Pf.e2 mulD (eV 8) (eV 7)) (Pf.e2 mulD (eV 7) (eV 7))) (eChain leD leD (eC (.int 0)) (Pf.e2 mulD (eV 9) (eV 7)) (Pf.e2 mulD (eV 7) (eV 7))))) [some (.sh (P ax ay)), some (.sh (P bx by_)), some (.sh (P cx cy)), some (.sh (P dx dy)), some (.sh (P (bx - ax) (by_ - ay))), some (.sh (P (dx - cx) (dy - cy))), some (.sh (P (cx - ax) (cy - ay))), some (.sh (.int B)), none, none, none, none, none, none, none, none] =
        .rt (.sh (.bl ((decide (0 ≤ t * B) && decide (t * B ≤ B * B)) && (decide (0 ≤ s * B) && decide (s * B ≤ B * B))))) [some (.sh (P ax ay)), some (.sh (P bx by_)), some (.sh (P cx cy)), some (.sh (P dx dy)), some (.sh (P (bx - ax) (by_ - ay))), some (.sh (P (dx - cx) (dy - cy))), some (.sh (P (cx - ax) (cy - ay))), some (.sh (.int B)), some (.sh (.int t)), some (.sh (.int s)), none, none, none, none, none, none] := by
      refine (seq_to (ρ1 := [some (.sh (P ax ay)), some (.sh (P bx by_)), some (.sh (P cx cy)), some (.sh (P dx dy)), some (.sh (P (bx - ax) (by_ - ay))), some (.sh (P (dx - cx) (dy - cy))), some (.sh (P (cx - ax) (cy - ay))), some (.sh (.int B)), some (.sh (.int t)), some (.sh (.int s)), none, none, none, none, none, none]) ?_).trans ?_
      · refine (par_to (ts := [.sh (.int t), .sh (.int s)]) (ρ1 := [some (.sh (P ax ay)), some (.sh (P bx by_)), some (.sh (P cx cy)), some (.sh (P dx dy)), some (.sh (P (bx - ax) (by_ - ay))), some (.sh (P (dx - cx) (dy - cy))), some (.sh (P (cx - ax) (cy - ay))), some (.sh (.int B)), none, none, none, none, none, none, none, none]) ?_).trans rfl
        simp only [q_od1, q_od2, q_od3, q_od4, q_bind, q_bindx, q_s, q_sx, q_nx, q_rt, q_bk, q_ct, q_ex, q_seq, q_nil, q_if, q_expr, q_set, q_put, q_puto, q_puta, q_lookPs, q_lookPo, q_ret0, q_ret, q_reto, q_reta, q_lookRs, q_lookRo, q_c, q_v, q_lookVs, q_lookVo, q_view, q_viewo, q_viewa, q_slots, q_sloto, q_opt, q_e1, q_e2, q_eN, q_an, q_ac, q_views0, q_views, q_shs0, q_shs, q_f, q_frz, q_frzo, q_frza, q_lookFs, q_lookFo, q_lst, q_tup, q_mkL, q_mkT, q_cB, q_cV, q_cAnd, q_cOr, q_cNot, q_eIf, q_isBl, q_eAnd, q_eOr, q_eNot, q_andT, q_andF, q_orT, q_orF, q_notK, q_ix, q_ixJ, q_lookJ, q_ixK, q_lookK, q_stK, q_call, q_callO, q_callM, q_callK, q_lookC, q_resC, q_resCx, q_lent, q_lookL, q_resM, q_resMo, q_resMn, q_resMx, q_resP, q_resPo, q_resPn, q_resPx, q_asBl, List.not_mem_nil, q_lt, q_le, q_gt, q_ge, q_add, q_sub, q_mul, q_fdiv, q_mod, q_neg, q_int, q_intb, q_abs, q_len, q_lent1, q_lenr, q_ixl, q_ixt, q_ixr, q_trub, q_trun, q_trui, q_trul, q_trut, q_isn, q_isNn, q_isiT, at0, at1, at2, ixN1, ixN2, startE, List.map_cons, List.map_nil, List.length_cons, List.length_nil, List.replicate, List.cons_append, List.nil_append, List.getElem?_cons_zero, List.getElem?_cons_succ, List.set_cons_zero, List.set_cons_succ, Option.map_some, Option.bind_some, Option.map_none, Option.bind_none, Nat.reduceAdd, Nat.reduceSub, if_true, if_false, Bool.false_eq_true, decide_true, decide_false, Bool.not_true, Bool.not_false, reduceIte, List.length_map, c2, c3]
      · cases a1 : decide (0 ≤ t * B) with
        | false => simp only [q_od1, q_od2, q_od3, q_od4, q_bind, q_bindx, q_s, q_sx, q_nx, q_rt, q_bk, q_ct, q_ex, q_seq, q_nil, q_if, q_expr, q_set, q_put, q_puto, q_puta, q_lookPs, q_lookPo, q_ret0, q_ret, q_reto, q_reta, q_lookRs, q_lookRo, q_c, q_v, q_lookVs, q_lookVo, q_view, q_viewo, q_viewa, q_slots, q_sloto, q_opt, q_e1, q_e2, q_eN, q_an, q_ac, q_views0, q_views, q_shs0, q_shs, q_f, q_frz, q_frzo, q_frza, q_lookFs, q_lookFo, q_lst, q_tup, q_mkL, q_mkT, q_cB, q_cV, q_cAnd, q_cOr, q_cNot, q_eIf, q_isBl, q_eAnd, q_eOr, q_eNot, q_andT, q_andF, q_orT, q_orF, q_notK, q_ix, q_ixJ, q_lookJ, q_ixK, q_lookK, q_stK, q_call, q_callO, q_callM, q_callK, q_lookC, q_resC, q_resCx, q_lent, q_lookL, q_resM, q_resMo, q_resMn, q_resMx, q_resP, q_resPo, q_resPn, q_resPx, q_asBl, List.not_mem_nil, q_lt, q_le, q_gt, q_ge, q_add, q_sub, q_mul, q_fdiv, q_mod, q_neg, q_int, q_intb, q_abs, q_len, q_lent1, q_lenr, q_ixl, q_ixt, q_ixr, q_trub, q_trun, q_trui, q_trul, q_trut, q_isn, q_isNn, q_isiT, at0, at1, at2, ixN1, ixN2, startE, List.map_cons, List.map_nil, List.length_cons, List.length_nil, List.replicate, List.cons_append, List.nil_append, List.getElem?_cons_zero, List.getElem?_cons_succ, List.set_cons_zero, List.set_cons_succ, Option.map_some, Option.bind_some, Option.map_none, Option.bind_none, Nat.reduceAdd, Nat.reduceSub, if_true, if_false, Bool.false_eq_true, decide_true, decide_false, Bool.not_true, Bool.not_false, reduceIte, List.length_map, q_perm0, q_chain, q_chT, q_chF, q_perm, q_consO, q_callKw, q_kwO, q_unp, q_unpK, q_unpO, q_gL, q_gT, q_gA0, q_gA, q_gN, q_lc, q_lcK, q_iSeq, q_iR, q_itl, q_itt, q_sl, q_oN, q_oS, q_oK, q_slr, q_sll, unw, wipeE, ksh, and_self, m1, m2, m3, a1, Bool.false_and]
        | true =>
          cases a2 : decide (t * B ≤ B * B) with
          | false => simp only [q_od1, q_od2, q_od3, q_od4, q_bind, q_bindx, q_s, q_sx, q_nx, q_rt, q_bk, q_ct, q_ex, q_seq, q_nil, q_if, q_expr, q_set, q_put, q_puto, q_puta, q_lookPs, q_lookPo, q_ret0, q_ret, q_reto, q_reta, q_lookRs, q_lookRo, q_c, q_v, q_lookVs, q_lookVo, q_view, q_viewo, q_viewa, q_slots, q_sloto, q_opt, q_e1, q_e2, q_eN, q_an, q_ac, q_views0, q_views, q_shs0, q_shs, q_f, q_frz, q_frzo, q_frza, q_lookFs, q_lookFo, q_lst, q_tup, q_mkL, q_mkT, q_cB, q_cV, q_cAnd, q_cOr, q_cNot, q_eIf, q_isBl, q_eAnd, q_eOr, q_eNot, q_andT, q_andF, q_orT, q_orF, q_notK, q_ix, q_ixJ, q_lookJ, q_ixK, q_lookK, q_stK, q_call, q_callO, q_callM, q_callK, q_lookC, q_resC, q_resCx, q_lent, q_lookL, q_resM, q_resMo, q_resMn, q_resMx, q_resP, q_resPo, q_resPn, q_resPx, q_asBl, List.not_mem_nil, q_lt, q_le, q_gt, q_ge, q_add, q_sub, q_mul, q_fdiv, q_mod, q_neg, q_int, q_intb, q_abs, q_len, q_lent1, q_lenr, q_ixl, q_ixt, q_ixr, q_trub, q_trun, q_trui, q_trul, q_trut, q_isn, q_isNn, q_isiT, at0, at1, at2, ixN1, ixN2, startE, List.map_cons, List.map_nil, List.length_cons, List.length_nil, List.replicate, List.cons_append, List.nil_append, List.getElem?_cons_zero, List.getElem?_cons_succ, List.set_cons_zero, List.set_cons_succ, Option.map_some, Option.bind_some, Option.map_none, Option.bind_none, Nat.reduceAdd, Nat.reduceSub, if_true, if_false, Bool.false_eq_true, decide_true, decide_false, Bool.not_true, Bool.not_false, reduceIte, List.length_map, q_perm0, q_chain, q_chT, q_chF, q_perm, q_consO, q_callKw, q_kwO, q_unp, q_unpK, q_unpO, q_gL, q_gT, q_gA0, q_gA, q_gN, q_lc, q_lcK, q_iSeq, q_iR, q_itl, q_itt, q_sl, q_oN, q_oS, q_oK, q_slr, q_sll, unw, wipeE, ksh, and_self, m1, m2, m3, a1, a2, Bool.false_and, Bool.true_and]
          | true =>
            cases a3 : decide (0 ≤ s * B) with
            | false => simp only [q_od1, q_od2, q_od3, q_od4, q_bind, q_bindx, q_s, q_sx, q_nx, q_rt, q_bk, q_ct, q_ex, q_seq, q_nil, q_if, q_expr, q_set, q_put, q_puto, q_puta, q_lookPs, q_lookPo, q_ret0, q_ret, q_reto, q_reta, q_lookRs, q_lookRo, q_c, q_v, q_lookVs, q_lookVo, q_view, q_viewo, q_viewa, q_slots, q_sloto, q_opt, q_e1, q_e2, q_eN, q_an, q_ac, q_views0, q_views, q_shs0, q_shs, q_f, q_frz, q_frzo, q_frza, q_lookFs, q_lookFo, q_lst, q_tup, q_mkL, q_mkT, q_cB, q_cV, q_cAnd, q_cOr, q_cNot, q_eIf, q_isBl, q_eAnd, q_eOr, q_eNot, q_andT, q_andF, q_orT, q_orF, q_notK, q_ix, q_ixJ, q_lookJ, q_ixK, q_lookK, q_stK, q_call, q_callO, q_callM, q_callK, q_lookC, q_resC, q_resCx, q_lent, q_lookL, q_resM, q_resMo, q_resMn, q_resMx, q_resP, q_resPo, q_resPn, q_resPx, q_asBl, List.not_mem_nil, q_lt, q_le, q_gt, q_ge, q_add, q_sub, q_mul, q_fdiv, q_mod, q_neg, q_int, q_intb, q_abs, q_len, q_lent1, q_lenr, q_ixl, q_ixt, q_ixr, q_trub, q_trun, q_trui, q_trul, q_trut, q_isn, q_isNn, q_isiT, at0, at1, at2, ixN1, ixN2, startE, List.map_cons, List.map_nil, List.length_cons, List.length_nil, List.replicate, List.cons_append, List.nil_append, List.getElem?_cons_zero, List.getElem?_cons_succ, List.set_cons_zero, List.set_cons_succ, Option.map_some, Option.bind_some, Option.map_none, Option.bind_none, Nat.reduceAdd, Nat.reduceSub, if_true, if_false, Bool.false_eq_true, decide_true, decide_false, Bool.not_true, Bool.not_false, reduceIte, List.length_map, q_perm0, q_chain, q_chT, q_chF, q_perm, q_consO, q_callKw, q_kwO, q_unp, q_unpK, q_unpO, q_gL, q_gT, q_gA0, q_gA, q_gN, q_lc, q_lcK, q_iSeq, q_iR, q_itl, q_itt, q_sl, q_oN, q_oS, q_oK, q_slr, q_sll, unw, wipeE, ksh, and_self, m1, m2, m3, a1, a2, a3, Bool.false_and, Bool.true_and]
            | true => simp only [q_od1, q_od2, q_od3, q_od4, q_bind, q_bindx, q_s, q_sx, q_nx, q_rt, q_bk, q_ct, q_ex, q_seq, q_nil, q_if, q_expr, q_set, q_put, q_puto, q_puta, q_lookPs, q_lookPo, q_ret0, q_ret, q_reto, q_reta, q_lookRs, q_lookRo, q_c, q_v, q_lookVs, q_lookVo, q_view, q_viewo, q_viewa, q_slots, q_sloto, q_opt, q_e1, q_e2, q_eN, q_an, q_ac, q_views0, q_views, q_shs0, q_shs, q_f, q_frz, q_frzo, q_frza, q_lookFs, q_lookFo, q_lst, q_tup, q_mkL, q_mkT, q_cB, q_cV, q_cAnd, q_cOr, q_cNot, q_eIf, q_isBl, q_eAnd, q_eOr, q_eNot, q_andT, q_andF, q_orT, q_orF, q_notK, q_ix, q_ixJ, q_lookJ, q_ixK, q_lookK, q_stK, q_call, q_callO, q_callM, q_callK, q_lookC, q_resC, q_resCx, q_lent, q_lookL, q_resM, q_resMo, q_resMn, q_resMx, q_resP, q_resPo, q_resPn, q_resPx, q_asBl, List.not_mem_nil, q_lt, q_le, q_gt, q_ge, q_add, q_sub, q_mul, q_fdiv, q_mod, q_neg, q_int, q_intb, q_abs, q_len, q_lent1, q_lenr, q_ixl, q_ixt, q_ixr, q_trub, q_trun, q_trui, q_trul, q_trut, q_isn, q_isNn, q_isiT, at0, at1, at2, ixN1, ixN2, startE, List.map_cons, List.map_nil, List.length_cons, List.length_nil, List.replicate, List.cons_append, List.nil_append, List.getElem?_cons_zero, List.getElem?_cons_succ, List.set_cons_zero, List.set_cons_succ, Option.map_some, Option.bind_some, Option.map_none, Option.bind_none, Nat.reduceAdd, Nat.reduceSub, if_true, if_false, Bool.false_eq_true, decide_true, decide_false, Bool.not_true, Bool.not_false, reduceIte, List.length_map, q_perm0, q_chain, q_chT, q_chF, q_perm, q_consO, q_callKw, q_kwO, q_unp, q_unpK, q_unpO, q_gL, q_gT, q_gA0, q_gA, q_gN, q_lc, q_lcK, q_iSeq, q_iR, q_itl, q_itt, q_sl, q_oN, q_oS, q_oK, q_slr, q_sll, unw, wipeE, ksh, and_self, m1, m2, m3, a1, a2, a3, Bool.true_and]
    have fin : ∀ (g h : Env → RS) (ρ ρ1 : Env) (b : Bool), g ρ = .rt (.sh (.bl b)) ρ1 → resP (sSeq g h ρ) = .ok (.sh (.bl b)) := fun g h ρ ρ1 b e => (congrArg resP (seq_rt e)).trans rfl
    refine fin _ _ _ [some (.sh (P ax ay)), some (.sh (P bx by_)), some (.sh (P cx cy)), some (.sh (P dx dy)), some (.sh (P (bx - ax) (by_ - ay))), some (.sh (P (dx - cx) (dy - cy))), some (.sh (P (cx - ax) (cy - ay))), some (.sh (.int B)), some (.sh (.int t)), some (.sh (.int s)), none, none, none, none, none, none] _ ?_
    refine Eq.trans ?_ ini
    have cd : cB (Pf.e2 (asBl neD) (eV 7) (eC (.int 0))) [some (.sh (P ax ay)), some (.sh (P bx by_)), some (.sh (P cx cy)), some (.sh (P dx dy)), some (.sh (P (bx - ax) (by_ - ay))), some (.sh (P (dx - cx) (dy - cy))), some (.sh (P (cx - ax) (cy - ay))), some (.sh (.int B)), none, none, none, none, none, none, none, none] = .ok true [some (.sh (P ax ay)), some (.sh (P bx by_)), some (.sh (P cx cy)), some (.sh (P dx dy)), some (.sh (P (bx - ax) (by_ - ay))), some (.sh (P (dx - cx) (dy - cy))), some (.sh (P (cx - ax) (cy - ay))), some (.sh (.int B)), none, none, none, none, none, none, none, none] := by
      simp only [q_od1, q_od2, q_od3, q_od4, q_bind, q_bindx, q_s, q_sx, q_nx, q_rt, q_bk, q_ct, q_ex, q_seq, q_nil, q_if, q_expr, q_set, q_put, q_puto, q_puta, q_lookPs, q_lookPo, q_ret0, q_ret, q_reto, q_reta, q_lookRs, q_lookRo, q_c, q_v, q_lookVs, q_lookVo, q_view, q_viewo, q_viewa, q_slots, q_sloto, q_opt, q_e1, q_e2, q_eN, q_an, q_ac, q_views0, q_views, q_shs0, q_shs, q_f, q_frz, q_frzo, q_frza, q_lookFs, q_lookFo, q_lst, q_tup, q_mkL, q_mkT, q_cB, q_cV, q_cAnd, q_cOr, q_cNot, q_eIf, q_isBl, q_eAnd, q_eOr, q_eNot, q_andT, q_andF, q_orT, q_orF, q_notK, q_ix, q_ixJ, q_lookJ, q_ixK, q_lookK, q_stK, q_call, q_callO, q_callM, q_callK, q_lookC, q_resC, q_resCx, q_lent, q_lookL, q_resM, q_resMo, q_resMn, q_resMx, q_resP, q_resPo, q_resPn, q_resPx, q_asBl, List.not_mem_nil, q_lt, q_le, q_gt, q_ge, q_add, q_sub, q_mul, q_fdiv, q_mod, q_neg, q_int, q_intb, q_abs, q_len, q_lent1, q_lenr, q_ixl, q_ixt, q_ixr, q_trub, q_trun, q_trui, q_trul, q_trut, q_isn, q_isNn, q_isiT, at0, at1, at2, ixN1, ixN2, startE, List.map_cons, List.map_nil, List.length_cons, List.length_nil, List.replicate, List.cons_append, List.nil_append, List.getElem?_cons_zero, List.getElem?_cons_succ, List.set_cons_zero, List.set_cons_succ, Option.map_some, Option.bind_some, Option.map_none, Option.bind_none, Nat.reduceAdd, Nat.reduceSub, if_true, if_false, Bool.false_eq_true, decide_true, decide_false, Bool.not_true, Bool.not_false, reduceIte, List.length_map, n0, d0]
    rw [q_if, cd]
    rfl
theorem pow30 : powD (.int 10) (.int 30) = some (.sh (.int 1000000000000000000000000000000)) := by rfl
theorem pow30x : ∃ N : Int, powD (.int 10) (.int 30) = some (.sh (.int N)) ∧ Bt 100 N := ⟨_, pow30, intBits_le_iff.mpr (by decide)⟩
theorem drifts : Drifts d__law_pour := fun h hn h0 h1 =>
  drift_ok (fc := eV 4) (k1 := 59285) (k2 := 7585) (q1 := 2147483123) (k3 := 35867) (k4 := 7585) (q2 := 2147483587) (k5 := 4113) (k6 := 59285) (k7 := 35867) (q3 := 2147483497)
    ⟨by decide, by decide, by decide, by decide, by decide, by decide, by decide, by decide, by decide⟩ fc_v h hn h0 h1
theorem picks : Picks d__law_pick := pick_ok drifts
theorem bt_small {r : Int} (h0 : 0 ≤ r) (h1 : r < 8) : Bt 3 r := intBits_le_iff.mpr (by omega)
theorem point_ok {n : Nat} {ds : List D} {far : Int} (h : Src n ds) (hn : n + 3 ≤ 1000000) (hf : Bt 100 far) : ∃ x y ds', d__law_point (.lst ds) [.int far] = .ok (.sh (P x y)) (.lst ds') ∧ Bt 104 x ∧ Bt 104 y ∧ Src (n + 3) ds' := by
  obtain ⟨r, d1, e1, r0, r1, s1⟩ := drifts h (many := 5) (by omega) (by decide) (by decide)
  obtain ⟨u, d2, e2, u0, u1, s2⟩ := drifts s1 (many := 5) (by omega) (by decide) (by decide)
  obtain ⟨_, d, d3, e3, _, hm, s3⟩ := picks s2 (xs := [.int 0, .int 0, .int 1]) (by omega) (by simp) (by simp only [List.length_cons, List.length_nil]; omega)
  obtain ⟨k, rfl, k0, k1⟩ : ∃ k : Int, d = .int k ∧ 0 ≤ k ∧ k ≤ 1 := by
    simp only [List.mem_cons, List.not_mem_nil, or_false] at hm
    rcases hm with h | h | h <;> exact ⟨_, h, by decide, by decide⟩
  have b1 : Bt 103 (r * far) := intBits_mul_le (bt_small r0 (by omega)) hf
  have b2 : Bt 103 (u * far) := intBits_mul_le (bt_small u0 (by omega)) hf
  have m1 : mulOk r far = true := mulOk_of (bt_small r0 (by omega)) hf (by decide)
  have m2 : mulOk u far = true := mulOk_of (bt_small u0 (by omega)) hf (by decide)
  have sz2 : (0 : Nat) + 1 + 1 ≤ sizeLine := by decide
  have sz3 : (0 : Nat) + 1 + 1 + 1 ≤ sizeLine := by decide
  refine ⟨r * far, u * far - k, d3, ?_, Nat.le_trans b1 (by decide), Nat.le_trans (intBits_sub_le b2 (bt_small k0 (by omega))) (by decide), s3⟩
  refine (q_denM rfl).trans ?_
  unfold g__law_point
  refine (congrArg resM (seq_to (ρ1 := [some (.own (.lst d2)), some (.sh (.int far)), some (.sh (.int r)), some (.sh (.int u))]) ?_)).trans ?_
  · refine (par_to (ts := [.sh (.int r), .sh (.int u)]) (ρ1 := [some (.own (.lst d2)), some (.sh (.int far)), none, none]) ?_).trans rfl
    simp only [q_od1, q_od2, q_od3, q_od4, q_bind, q_bindx, q_s, q_sx, q_nx, q_rt, q_bk, q_ct, q_ex, q_seq, q_nil, q_if, q_expr, q_set, q_put, q_puto, q_puta, q_lookPs, q_lookPo, q_ret0, q_ret, q_reto, q_reta, q_lookRs, q_lookRo, q_c, q_v, q_lookVs, q_lookVo, q_view, q_viewo, q_viewa, q_slots, q_sloto, q_opt, q_e1, q_e2, q_eN, q_an, q_ac, q_views0, q_views, q_shs0, q_shs, q_f, q_frz, q_frzo, q_frza, q_lookFs, q_lookFo, q_lst, q_tup, q_mkL, q_mkT, q_cB, q_cV, q_cAnd, q_cOr, q_cNot, q_eIf, q_isBl, q_eAnd, q_eOr, q_eNot, q_andT, q_andF, q_orT, q_orF, q_notK, q_ix, q_ixJ, q_lookJ, q_ixK, q_lookK, q_stK, q_call, q_callO, q_callM, q_callK, q_lookC, q_resC, q_resCx, q_lent, q_lookL, q_resM, q_resMo, q_resMn, q_resMx, q_resP, q_resPo, q_resPn, q_resPx, q_asBl, List.not_mem_nil, q_lt, q_le, q_gt, q_ge, q_add, q_sub, q_mul, q_fdiv, q_mod, q_neg, q_int, q_intb, q_abs, q_len, q_lent1, q_lenr, q_ixl, q_ixt, q_ixr, q_trub, q_trun, q_trui, q_trul, q_trut, q_isn, q_isNn, q_isiT, at0, at1, at2, ixN1, ixN2, startE, List.map_cons, List.map_nil, List.length_cons, List.length_nil, List.replicate, List.cons_append, List.nil_append, List.getElem?_cons_zero, List.getElem?_cons_succ, List.set_cons_zero, List.set_cons_succ, Option.map_some, Option.bind_some, Option.map_none, Option.bind_none, Nat.reduceAdd, Nat.reduceSub, if_true, if_false, Bool.false_eq_true, decide_true, decide_false, Bool.not_true, Bool.not_false, reduceIte, List.length_map, e1, e2]
  · simp only [q_od1, q_od2, q_od3, q_od4, q_bind, q_bindx, q_s, q_sx, q_nx, q_rt, q_bk, q_ct, q_ex, q_seq, q_nil, q_if, q_expr, q_set, q_put, q_puto, q_puta, q_lookPs, q_lookPo, q_ret0, q_ret, q_reto, q_reta, q_lookRs, q_lookRo, q_c, q_v, q_lookVs, q_lookVo, q_view, q_viewo, q_viewa, q_slots, q_sloto, q_opt, q_e1, q_e2, q_eN, q_an, q_ac, q_views0, q_views, q_shs0, q_shs, q_f, q_frz, q_frzo, q_frza, q_lookFs, q_lookFo, q_lst, q_tup, q_mkL, q_mkT, q_cB, q_cV, q_cAnd, q_cOr, q_cNot, q_eIf, q_isBl, q_eAnd, q_eOr, q_eNot, q_andT, q_andF, q_orT, q_orF, q_notK, q_ix, q_ixJ, q_lookJ, q_ixK, q_lookK, q_stK, q_call, q_callO, q_callM, q_callK, q_lookC, q_resC, q_resCx, q_lent, q_lookL, q_resM, q_resMo, q_resMn, q_resMx, q_resP, q_resPo, q_resPn, q_resPx, q_asBl, List.not_mem_nil, q_lt, q_le, q_gt, q_ge, q_add, q_sub, q_mul, q_fdiv, q_mod, q_neg, q_int, q_intb, q_abs, q_len, q_lent1, q_lenr, q_ixl, q_ixt, q_ixr, q_trub, q_trun, q_trui, q_trul, q_trut, q_isn, q_isNn, q_isiT, at0, at1, at2, ixN1, ixN2, startE, List.map_cons, List.map_nil, List.length_cons, List.length_nil, List.replicate, List.cons_append, List.nil_append, List.getElem?_cons_zero, List.getElem?_cons_succ, List.set_cons_zero, List.set_cons_succ, Option.map_some, Option.bind_some, Option.map_none, Option.bind_none, Nat.reduceAdd, Nat.reduceSub, if_true, if_false, Bool.false_eq_true, decide_true, decide_false, Bool.not_true, Bool.not_false, reduceIte, List.length_map, m1, m2, e3, sz2, sz3]
/-! ### turned round -/
theorem in_sw {p a b : Int} : inB p b a = inB p a b := by
  rw [Bool.eq_iff_iff, between, between, Int.mul_comm]
theorem ap_sw {a b c d : Int} : aprt a b d c = aprt a b c d := by
  unfold aprt
  have e1 : (if c < d then c else d) = (if d < c then d else c) := by split <;> split <;> omega
  have e2 : (if c > d then c else d) = (if d > c then d else c) := by split <;> split <;> omega
  rw [e1, e2]
theorem ap_sym {a b c d : Int} : aprt c d a b = aprt a b c d := Bool.or_comm _ _
theorem trn_sw {ax ay bx by_ px py : Int} : trn bx by_ ax ay px py = -trn ax ay bx by_ px py := by unfold trn crs; grind
theorem sg_n {n : Int} : sg (-n) = -sg n := by unfold sg; split <;> split <;> split <;> split <;> omega
theorem on_sw {px py ax ay bx by_ : Int} : onB px py bx by_ ax ay = onB px py ax ay bx by_ := by
  unfold onB
  rw [trn_sw, in_sw, in_sw (p := py)]
  have : decide (-trn ax ay bx by_ px py = 0) = decide (trn ax ay bx by_ px py = 0) := decide_eq_decide.mpr (by omega)
  rw [this]
theorem meet_sw {ax ay bx by_ cx cy dx dy : Int} : meetB ax ay bx by_ dx dy cx cy = meetB ax ay bx by_ cx cy dx dy := by
  unfold meetB
  rw [ap_sw, ap_sw (a := ay), on_sw (px := ax), on_sw (px := bx), Bool.or_comm (onB dx dy ax ay bx by_), trn_sw (ax := cx), trn_sw (ax := cx) (px := bx), sg_n, sg_n, Int.neg_mul_neg, Int.mul_comm (sg (trn ax ay bx by_ dx dy))]
theorem meet_sym {ax ay bx by_ cx cy dx dy : Int} : meetB cx cy dx dy ax ay bx by_ = meetB ax ay bx by_ cx cy dx dy := by
  unfold meetB
  rw [ap_sym, ap_sym (a := ay), Bool.or_comm (onB ax ay cx cy dx dy || onB bx by_ cx cy dx dy), Bool.and_comm (decide (sg (trn cx cy dx dy ax ay) * sg (trn cx cy dx dy bx by_) < 0))]
theorem meet_self {ax ay dx dy : Int} : meetB ax ay ax ay ax ay dx dy = true := by
  unfold meetB
  have o : onB ax ay ax ay ax ay = true := by
    unfold onB
    rw [in_left, in_left]
    have : trn ax ay ax ay ax ay = 0 := by unfold trn crs; grind
    rw [this]; rfl
  rw [o, apart_of (p := ax) in_left in_left, apart_of (p := ay) in_left in_left]
  rfl
theorem trn_0 {ax ay bx by_ : Int} : trn ax ay bx by_ bx by_ = 0 := by unfold trn crs; grind
theorem sg_3 (n : Int) : sg n = 1 ∨ sg n = 0 ∨ sg n = -1 := by unfold sg; split <;> split <;> omega
theorem rep3 (b : Bool) : ∃ y, reprX [.lst [.bl b, .bl b, .bl b]] = some (.sh (.str y)) := by cases b <;> exact ⟨_, rfl⟩
theorem mul3 (b : Bool) : mulD (.lst [.bl b]) (.int 3) = some (.own (.lst [.bl b, .bl b, .bl b])) := by rfl
theorem rep4 (s : Int) (h : s = 1 ∨ s = 0 ∨ s = -1) : ∃ y, reprX [.lst [.int s, .int s, .int (-s), .int 0]] = some (.sh (.str y)) := by
  rcases h with rfl | rfl | rfl <;> exact ⟨_, rfl⟩
section
variable {o0 o2 o3 o4 o5 o6 o7 o8 o9 o10 : Option T}
theorem four_ok {n : Nat} {ds : List D} {far : Int} (h : Src n ds) (hn : n + 12 ≤ 1000000) (hf : Bt 100 far) : ∃ ax ay bx by_ cx cy dx dy ds', sUnp (gL [gN 4, gN 5, gN 6, gN 7]) (eF [1000] (eLc [1000] [14] (iR rng1 (aCons (eC (.int 4)) (aNil))) (gN 14) cYes (eCallM d__law_point (aCons (eV 1) (aCons (eF [1000] (eV 3)) (aNil)))))) [o0, some (.own (.lst ds)), o2, some (.sh (.int far)), o4, o5, o6, o7, o8, o9, o10, none, none, none, none, none, none] = .nx [o0, some (.own (.lst ds')), o2, some (.sh (.int far)), some (.sh (P ax ay)), some (.sh (P bx by_)), some (.sh (P cx cy)), some (.sh (P dx dy)), o8, o9, o10, none, none, none, none, none, none] ∧
    (Bt 104 ax ∧ Bt 104 ay ∧ Bt 104 bx ∧ Bt 104 by_ ∧ Bt 104 cx ∧ Bt 104 cy ∧ Bt 104 dx ∧ Bt 104 dy) ∧ Src (n + 12) ds' := by
  obtain ⟨xs, ρ', E, l, pd, ds', rfl, s⟩ := lcD_all (m := [1000]) (vs := [14]) (gt := gN 14) (fe := eCallM d__law_point (aCons (eV 1) (aCons (eF [1000] (eV 3)) (aNil)))) (items := rngD 0 4)
    (fun i ρ => ∃ ds', ρ = [o0, some (.own (.lst ds')), o2, some (.sh (.int far)), o4, o5, o6, o7, o8, o9, o10, none, none, none, none, none, none] ∧ Src (n + i * 3) ds') (fun d => ∃ x y, d = P x y ∧ Bt 104 x ∧ Bt 104 y)
    (fun i x ρ hx ⟨ds', eρ, s⟩ => by
      subst eρ
      have hi : i < 4 := by simpa [rngD] using (List.getElem?_eq_some_iff.mp hx).1
      obtain ⟨u, v, d1, e1, b1, b2, s1⟩ := point_ok s (by omega) hf
      refine ⟨_, P u v, [o0, some (.own (.lst d1)), o2, some (.sh (.int far)), o4, o5, o6, o7, o8, o9, o10, none, none, none, some (.sh x), none, none], rfl, ?_, ⟨u, v, rfl, b1, b2⟩, d1, rfl, s1.mono (by omega)⟩
      simp only [q_od1, q_od2, q_od3, q_od4, q_bind, q_bindx, q_s, q_sx, q_nx, q_rt, q_bk, q_ct, q_ex, q_seq, q_nil, q_if, q_expr, q_set, q_put, q_puto, q_puta, q_lookPs, q_lookPo, q_ret0, q_ret, q_reto, q_reta, q_lookRs, q_lookRo, q_c, q_v, q_lookVs, q_lookVo, q_view, q_viewo, q_viewa, q_slots, q_sloto, q_opt, q_e1, q_e2, q_eN, q_an, q_ac, q_views0, q_views, q_shs0, q_shs, q_f, q_frz, q_frzo, q_frza, q_lookFs, q_lookFo, q_lst, q_tup, q_mkL, q_mkT, q_cB, q_cV, q_cAnd, q_cOr, q_cNot, q_eIf, q_isBl, q_eAnd, q_eOr, q_eNot, q_andT, q_andF, q_orT, q_orF, q_notK, q_ix, q_ixJ, q_lookJ, q_ixK, q_lookK, q_stK, q_call, q_callO, q_callM, q_callK, q_lookC, q_resC, q_resCx, q_lent, q_lookL, q_resM, q_resMo, q_resMn, q_resMx, q_resP, q_resPo, q_resPn, q_resPx, q_asBl, List.not_mem_nil, q_lt, q_le, q_gt, q_ge, q_add, q_sub, q_mul, q_fdiv, q_mod, q_neg, q_int, q_intb, q_abs, q_len, q_lent1, q_lenr, q_ixl, q_ixt, q_ixr, q_trub, q_trun, q_trui, q_trul, q_trut, q_isn, q_isNn, q_isiT, at0, at1, at2, ixN1, ixN2, startE, List.map_cons, List.map_nil, List.length_cons, List.length_nil, List.replicate, List.cons_append, List.nil_append, List.getElem?_cons_zero, List.getElem?_cons_succ, List.set_cons_zero, List.set_cons_succ, Option.map_some, Option.bind_some, Option.map_none, Option.bind_none, Nat.reduceAdd, Nat.reduceSub, if_true, if_false, Bool.false_eq_true, decide_true, decide_false, Bool.not_true, Bool.not_false, reduceIte, List.length_map, e1])
    (ρ := [o0, some (.own (.lst ds)), o2, some (.sh (.int far)), o4, o5, o6, o7, o8, o9, o10, none, none, none, none, none, none]) (by simp [rngD]; decide) ⟨ds, rfl, by simpa using h⟩
  have l4 : (rngD 0 4).length = 4 := by simp [rngD]
  rw [l4] at l s
  match xs, l with
  | [p1, p2, p3, p4], _ =>
    obtain ⟨ax, ay, rfl, a1, a2⟩ := pd p1 (by simp)
    obtain ⟨bx, by_, rfl, b1, b2⟩ := pd p2 (by simp)
    obtain ⟨cx, cy, rfl, c1, c2⟩ := pd p3 (by simp)
    obtain ⟨dx, dy, rfl, e1, e2⟩ := pd p4 (by simp)
    refine ⟨ax, ay, bx, by_, cx, cy, dx, dy, ds', ?_, ⟨a1, a2, b1, b2, c1, c2, e1, e2⟩, s.mono (by omega)⟩
    have er : rng1 [.int 4] = some (rngD 0 4) := rfl
    simp only [q_od1, q_od2, q_od3, q_od4, q_bind, q_bindx, q_s, q_sx, q_nx, q_rt, q_bk, q_ct, q_ex, q_seq, q_nil, q_if, q_expr, q_set, q_put, q_puto, q_puta, q_lookPs, q_lookPo, q_ret0, q_ret, q_reto, q_reta, q_lookRs, q_lookRo, q_c, q_v, q_lookVs, q_lookVo, q_view, q_viewo, q_viewa, q_slots, q_sloto, q_opt, q_e1, q_e2, q_eN, q_an, q_ac, q_views0, q_views, q_shs0, q_shs, q_f, q_frz, q_frzo, q_frza, q_lookFs, q_lookFo, q_lst, q_tup, q_mkL, q_mkT, q_cB, q_cV, q_cAnd, q_cOr, q_cNot, q_eIf, q_isBl, q_eAnd, q_eOr, q_eNot, q_andT, q_andF, q_orT, q_orF, q_notK, q_ix, q_ixJ, q_lookJ, q_ixK, q_lookK, q_stK, q_call, q_callO, q_callM, q_callK, q_lookC, q_resC, q_resCx, q_lent, q_lookL, q_resM, q_resMo, q_resMn, q_resMx, q_resP, q_resPo, q_resPn, q_resPx, q_asBl, List.not_mem_nil, q_lt, q_le, q_gt, q_ge, q_add, q_sub, q_mul, q_fdiv, q_mod, q_neg, q_int, q_intb, q_abs, q_len, q_lent1, q_lenr, q_ixl, q_ixt, q_ixr, q_trub, q_trun, q_trui, q_trul, q_trut, q_isn, q_isNn, q_isiT, at0, at1, at2, ixN1, ixN2, startE, List.map_cons, List.map_nil, List.length_cons, List.length_nil, List.replicate, List.cons_append, List.nil_append, List.getElem?_cons_zero, List.getElem?_cons_succ, List.set_cons_zero, List.set_cons_succ, Option.map_some, Option.bind_some, Option.map_none, Option.bind_none, Nat.reduceAdd, Nat.reduceSub, if_true, if_false, Bool.false_eq_true, decide_true, decide_false, Bool.not_true, Bool.not_false, reduceIte, List.length_map, q_perm0, q_chain, q_chT, q_chF, q_perm, q_consO, q_callKw, q_kwO, q_unp, q_unpK, q_unpO, q_gL, q_gT, q_gA0, q_gA, q_gN, q_lc, q_lcK, q_iSeq, q_iR, q_itl, q_itt, q_sl, q_oN, q_oS, q_oK, q_slr, q_sll, unw, wipeE, ksh, and_self, er, E]
theorem third_ok {n : Nat} {ds : List D} {ax ay bx by_ cx cy dx dy : Int} (h : Src n ds) (hn : n + 12 ≤ 1000000) (hb : Bt 104 ax ∧ Bt 104 ay ∧ Bt 104 bx ∧ Bt 104 by_ ∧ Bt 104 cx ∧ Bt 104 cy ∧ Bt 104 dx ∧ Bt 104 dy) : ∃ ex ey ds',
    sSet [1000] 6 (eCallM d__law_pick (aCons (eV 1) (aCons (eF [1000] (eLst (aCons (eF [1000] (eV 6)) (aCons (eF [1000] (eV 4)) (aCons (eTup (aCons (Pf.e2 subD (Pf.e2 addD (Pf.e2 ixD (eV 4) (eC (.int 0))) (Pf.e2 ixD (eV 5) (eC (.int 0)))) (Pf.e2 ixD (eV 6) (eC (.int 0)))) (aCons (Pf.e2 subD (Pf.e2 addD (Pf.e2 ixD (eV 4) (eC (.int 1))) (Pf.e2 ixD (eV 5) (eC (.int 1)))) (Pf.e2 ixD (eV 6) (eC (.int 1)))) (aNil)))) (aCons (eTup (aCons (Pf.e2 subD (Pf.e2 mulD (eC (.int 2)) (Pf.e2 ixD (eV 5) (eC (.int 0)))) (Pf.e2 ixD (eV 4) (eC (.int 0)))) (aCons (Pf.e2 subD (Pf.e2 mulD (eC (.int 2)) (Pf.e2 ixD (eV 5) (eC (.int 1)))) (Pf.e2 ixD (eV 4) (eC (.int 1)))) (aNil)))) (aNil))))))) (aNil)))) [o0, some (.own (.lst ds)), o2, o3, some (.sh (P ax ay)), some (.sh (P bx by_)), some (.sh (P cx cy)), some (.sh (P dx dy)), o8, o9, o10, none, none, none, none, none, none] = .nx [o0, some (.own (.lst ds')), o2, o3, some (.sh (P ax ay)), some (.sh (P bx by_)), some (.sh (P ex ey)), some (.sh (P dx dy)), o8, o9, o10, none, none, none, none, none, none] ∧ Bt 110 ex ∧ Bt 110 ey ∧ Src (n + 1) ds' := by
  obtain ⟨a1, a2, b1, b2, c1, c2, _, _⟩ := hb
  obtain ⟨_, d, d1, e, _, hm, s1⟩ := picks h (xs := [P cx cy, P ax ay, P (ax + bx - cx) (ay + by_ - cy), P (2 * bx - ax) (2 * by_ - ay)]) (by omega) (by simp) (by simp only [List.length_cons, List.length_nil]; omega)
  have m1 : mulOk 2 bx = true := mulOk_of (bt_small (r := 2) (by decide) (by decide)) b1 (by decide)
  have m2 : mulOk 2 by_ = true := mulOk_of (bt_small (r := 2) (by decide) (by decide)) b2 (by decide)
  have sz2 : (0 : Nat) + 1 + 1 ≤ sizeLine := by decide
  have sz4 : (0 : Nat) + 1 + 1 + 1 + 1 ≤ sizeLine := by decide
  have sum : ∀ u v w : Int, Bt 104 u → Bt 104 v → Bt 104 w → Bt 110 (u + v - w) := fun u v w h1 h2 h3 => Nat.le_trans (intBits_sub_le (intBits_add_le h1 h2) h3) (by decide)
  have dbl : ∀ u v : Int, Bt 104 u → Bt 104 v → Bt 110 (2 * u - v) := fun u v h1 h2 => Nat.le_trans (intBits_sub_le (intBits_mul_le (bt_small (r := 2) (by decide) (by decide)) h1) h2) (by decide)
  obtain ⟨ex, ey, rfl, k1, k2⟩ : ∃ ex ey, d = P ex ey ∧ Bt 110 ex ∧ Bt 110 ey := by
    simp only [List.mem_cons, List.not_mem_nil, or_false] at hm
    rcases hm with h | h | h | h
    · exact ⟨_, _, h, Nat.le_trans c1 (by decide), Nat.le_trans c2 (by decide)⟩
    · exact ⟨_, _, h, Nat.le_trans a1 (by decide), Nat.le_trans a2 (by decide)⟩
    · exact ⟨_, _, h, sum _ _ _ a1 b1 c1, sum _ _ _ a2 b2 c2⟩
    · exact ⟨_, _, h, dbl _ _ b1 a1, dbl _ _ b2 a2⟩
  refine ⟨ex, ey, d1, ?_, k1, k2, s1⟩
  simp only [q_od1, q_od2, q_od3, q_od4, q_bind, q_bindx, q_s, q_sx, q_nx, q_rt, q_bk, q_ct, q_ex, q_seq, q_nil, q_if, q_expr, q_set, q_put, q_puto, q_puta, q_lookPs, q_lookPo, q_ret0, q_ret, q_reto, q_reta, q_lookRs, q_lookRo, q_c, q_v, q_lookVs, q_lookVo, q_view, q_viewo, q_viewa, q_slots, q_sloto, q_opt, q_e1, q_e2, q_eN, q_an, q_ac, q_views0, q_views, q_shs0, q_shs, q_f, q_frz, q_frzo, q_frza, q_lookFs, q_lookFo, q_lst, q_tup, q_mkL, q_mkT, q_cB, q_cV, q_cAnd, q_cOr, q_cNot, q_eIf, q_isBl, q_eAnd, q_eOr, q_eNot, q_andT, q_andF, q_orT, q_orF, q_notK, q_ix, q_ixJ, q_lookJ, q_ixK, q_lookK, q_stK, q_call, q_callO, q_callM, q_callK, q_lookC, q_resC, q_resCx, q_lent, q_lookL, q_resM, q_resMo, q_resMn, q_resMx, q_resP, q_resPo, q_resPn, q_resPx, q_asBl, List.not_mem_nil, q_lt, q_le, q_gt, q_ge, q_add, q_sub, q_mul, q_fdiv, q_mod, q_neg, q_int, q_intb, q_abs, q_len, q_lent1, q_lenr, q_ixl, q_ixt, q_ixr, q_trub, q_trun, q_trui, q_trul, q_trut, q_isn, q_isNn, q_isiT, at0, at1, at2, ixN1, ixN2, startE, List.map_cons, List.map_nil, List.length_cons, List.length_nil, List.replicate, List.cons_append, List.nil_append, List.getElem?_cons_zero, List.getElem?_cons_succ, List.set_cons_zero, List.set_cons_succ, Option.map_some, Option.bind_some, Option.map_none, Option.bind_none, Nat.reduceAdd, Nat.reduceSub, if_true, if_false, Bool.false_eq_true, decide_true, decide_false, Bool.not_true, Bool.not_false, reduceIte, List.length_map, m1, m2, sz2, sz4, e]
end
section
variable {o0 o2 o3 o4 o5 o6 o7 o8 o9 o10 : Option T} {ds : List D} {ax ay bx by_ dx dy ex ey : Int}
def told : Env → RS := sSet [1000] 9 (eLst (aCons (eF [1000] (eCall d_do_meet (aCons (eF [1000] (eV 4)) (aCons (eF [1000] (eV 5)) (aCons (eF [1000] (eV 6)) (aCons (eF [1000] (eV 7)) (aNil))))))) (aCons (eF [1000] (eCall d_do_meet (aCons (eF [1000] (eN listD (aCons (eV 6) (aNil)))) (aCons (eF [1000] (eV 7)) (aCons (eF [1000] (eV 5)) (aCons (eF [1000] (eV 4)) (aNil))))))) (aCons (eF [1000] (eCallK 0 4 [3, 2, 1, 0] d_do_meet aNil (aCons (eF [1000] (eV 5)) (aCons (eF [1000] (eV 4)) (aCons (eF [1000] (eV 6)) (aCons (eF [1000] (eN listD (aCons (eV 7) (aNil)))) (aNil))))))) (aNil)))))
theorem q_listT {xs : List D} : listD [.tup xs] = some (.own (.lst xs)) := rfl
theorem told_ok (h1 : Bt 110 ax) (h2 : Bt 110 ay) (h3 : Bt 110 bx) (h4 : Bt 110 by_) (h5 : Bt 110 ex) (h6 : Bt 110 ey) (h7 : Bt 110 dx) (h8 : Bt 110 dy) : told [o0, some (.own (.lst ds)), o2, o3, some (.sh (P ax ay)), some (.sh (P bx by_)), some (.sh (P ex ey)), some (.sh (P dx dy)), o8, o9, o10, none, none, none, none, none, none] = .nx [o0, some (.own (.lst ds)), o2, o3, some (.sh (P ax ay)), some (.sh (P bx by_)), some (.sh (P ex ey)), some (.sh (P dx dy)), o8, some (.own (.lst [.bl (meetB ax ay bx by_ ex ey dx dy), .bl (meetB ax ay bx by_ ex ey dx dy), .bl (meetB ax ay bx by_ ex ey dx dy)])), o10, none, none, none, none, none, none] := by
  have c1 := fun ρ => callP_ok (ρ := ρ) (do_meet_ok (.t ax ay) (.t bx by_) (.t ex ey) (.t dx dy) h1 h2 h3 h4 h5 h6 h7 h8)
  have c2 := fun ρ => callP_ok (ρ := ρ) (do_meet_ok (.l ex ey) (.t dx dy) (.t bx by_) (.t ax ay) h5 h6 h7 h8 h3 h4 h1 h2)
  have c3 := fun ρ => callP_ok (ρ := ρ) (do_meet_ok (.l dx dy) (.t ex ey) (.t ax ay) (.t bx by_) h7 h8 h5 h6 h1 h2 h3 h4)
  have x2 : meetB ex ey dx dy bx by_ ax ay = meetB ax ay bx by_ ex ey dx dy := by rw [meet_sw, meet_sym]
  have x3 : meetB dx dy ex ey ax ay bx by_ = meetB ax ay bx by_ ex ey dx dy := by rw [meet_sym, meet_sw]
  rw [x2] at c2
  rw [x3] at c3
  have sz3 : (0 : Nat) + 1 + 1 + 1 ≤ sizeLine := by decide
  unfold told
  simp only [q_od1, q_od2, q_od3, q_od4, q_bind, q_bindx, q_s, q_sx, q_nx, q_rt, q_bk, q_ct, q_ex, q_seq, q_nil, q_if, q_expr, q_set, q_put, q_puto, q_puta, q_lookPs, q_lookPo, q_ret0, q_ret, q_reto, q_reta, q_lookRs, q_lookRo, q_c, q_v, q_lookVs, q_lookVo, q_view, q_viewo, q_viewa, q_slots, q_sloto, q_opt, q_e1, q_e2, q_eN, q_an, q_ac, q_views0, q_views, q_shs0, q_shs, q_f, q_frz, q_frzo, q_frza, q_lookFs, q_lookFo, q_lst, q_tup, q_mkL, q_mkT, q_cB, q_cV, q_cAnd, q_cOr, q_cNot, q_eIf, q_isBl, q_eAnd, q_eOr, q_eNot, q_andT, q_andF, q_orT, q_orF, q_notK, q_ix, q_ixJ, q_lookJ, q_ixK, q_lookK, q_stK, q_call, q_callO, q_callM, q_callK, q_lookC, q_resC, q_resCx, q_lent, q_lookL, q_resM, q_resMo, q_resMn, q_resMx, q_resP, q_resPo, q_resPn, q_resPx, q_asBl, List.not_mem_nil, q_lt, q_le, q_gt, q_ge, q_add, q_sub, q_mul, q_fdiv, q_mod, q_neg, q_int, q_intb, q_abs, q_len, q_lent1, q_lenr, q_ixl, q_ixt, q_ixr, q_trub, q_trun, q_trui, q_trul, q_trut, q_isn, q_isNn, q_isiT, at0, at1, at2, ixN1, ixN2, startE, List.map_cons, List.map_nil, List.length_cons, List.length_nil, List.replicate, List.cons_append, List.nil_append, List.getElem?_cons_zero, List.getElem?_cons_succ, List.set_cons_zero, List.set_cons_succ, Option.map_some, Option.bind_some, Option.map_none, Option.bind_none, Nat.reduceAdd, Nat.reduceSub, if_true, if_false, Bool.false_eq_true, decide_true, decide_false, Bool.not_true, Bool.not_false, reduceIte, List.length_map, q_perm0, q_chain, q_chT, q_chF, q_perm, q_consO, q_callKw, q_kwO, q_unp, q_unpK, q_unpO, q_gL, q_gT, q_gA0, q_gA, q_gN, q_lc, q_lcK, q_iSeq, q_iR, q_itl, q_itt, q_sl, q_oN, q_oS, q_oK, q_slr, q_sll, unw, wipeE, ksh, and_self, c1, c2, c3, sz3, q_listT]
def test1 : Env → RS := sIf (cOr (cB (Pf.e2 (asBl neD) (eN reprX (aCons (eV 9) (aNil))) (eN reprX (aCons (Pf.e2 mulD (eLst (aCons (eF [1000] (eV 8)) (aNil))) (eC (.int 3))) (aNil))))) (cB (Pf.e2 (asBl isNotD) (eCall d_do_meet (aCons (eF [1000] (eV 4)) (aCons (eF [1000] (eV 4)) (aCons (eF [1000] (eV 4)) (aCons (eF [1000] (eV 7)) (aNil)))))) (eC (.bl true))))) (sRet [1000] (eC (.bl false))) (sNil)
theorem isn_tt : isNotD (.bl true) (.bl true) = some false := rfl
theorem test1_ok {b : Bool} (h1 : Bt 110 ax) (h2 : Bt 110 ay) (h3 : Bt 110 bx) (h4 : Bt 110 by_) (h5 : Bt 110 ex) (h6 : Bt 110 ey) (h7 : Bt 110 dx) (h8 : Bt 110 dy) : test1 [o0, some (.own (.lst ds)), o2, o3, some (.sh (P ax ay)), some (.sh (P bx by_)), some (.sh (P ex ey)), some (.sh (P dx dy)), some (.sh (.bl b)), some (.own (.lst [.bl b, .bl b, .bl b])), o10, none, none, none, none, none, none] = .nx [o0, some (.own (.lst ds)), o2, o3, some (.sh (P ax ay)), some (.sh (P bx by_)), some (.sh (P ex ey)), some (.sh (P dx dy)), some (.sh (.bl b)), some (.own (.lst [.bl b, .bl b, .bl b])), o10, none, none, none, none, none, none] := by
  have c1 := fun ρ => callP_ok (ρ := ρ) (do_meet_ok (.t ax ay) (.t ax ay) (.t ax ay) (.t dx dy) h1 h2 h1 h2 h1 h2 h7 h8)
  obtain ⟨y, r⟩ := rep3 b
  have m := mul3 b
  have sz1 : (0 : Nat) + 1 ≤ sizeLine := by decide
  unfold test1
  simp only [q_od1, q_od2, q_od3, q_od4, q_bind, q_bindx, q_s, q_sx, q_nx, q_rt, q_bk, q_ct, q_ex, q_seq, q_nil, q_if, q_expr, q_set, q_put, q_puto, q_puta, q_lookPs, q_lookPo, q_ret0, q_ret, q_reto, q_reta, q_lookRs, q_lookRo, q_c, q_v, q_lookVs, q_lookVo, q_view, q_viewo, q_viewa, q_slots, q_sloto, q_opt, q_e1, q_e2, q_eN, q_an, q_ac, q_views0, q_views, q_shs0, q_shs, q_f, q_frz, q_frzo, q_frza, q_lookFs, q_lookFo, q_lst, q_tup, q_mkL, q_mkT, q_cB, q_cV, q_cAnd, q_cOr, q_cNot, q_eIf, q_isBl, q_eAnd, q_eOr, q_eNot, q_andT, q_andF, q_orT, q_orF, q_notK, q_ix, q_ixJ, q_lookJ, q_ixK, q_lookK, q_stK, q_call, q_callO, q_callM, q_callK, q_lookC, q_resC, q_resCx, q_lent, q_lookL, q_resM, q_resMo, q_resMn, q_resMx, q_resP, q_resPo, q_resPn, q_resPx, q_asBl, List.not_mem_nil, q_lt, q_le, q_gt, q_ge, q_add, q_sub, q_mul, q_fdiv, q_mod, q_neg, q_int, q_intb, q_abs, q_len, q_lent1, q_lenr, q_ixl, q_ixt, q_ixr, q_trub, q_trun, q_trui, q_trul, q_trut, q_isn, q_isNn, q_isiT, at0, at1, at2, ixN1, ixN2, startE, List.map_cons, List.map_nil, List.length_cons, List.length_nil, List.replicate, List.cons_append, List.nil_append, List.getElem?_cons_zero, List.getElem?_cons_succ, List.set_cons_zero, List.set_cons_succ, Option.map_some, Option.bind_some, Option.map_none, Option.bind_none, Nat.reduceAdd, Nat.reduceSub, if_true, if_false, Bool.false_eq_true, decide_true, decide_false, Bool.not_true, Bool.not_false, reduceIte, List.length_map, r, m, ne_str, c1, meet_self, isn_tt, sz1]
def test2 : Env → RS := sIf (cB (Pf.e2 (asBl neD) (eV 4) (eV 5))) (sSeq (sSet [1000] 10 (eCall d__law_cross (aCons (eF [1000] (eCall d__law_way (aCons (eF [1000] (eV 4)) (aCons (eF [1000] (eV 5)) (aNil))))) (aCons (eF [1000] (eCall d__law_way (aCons (eF [1000] (eV 4)) (aCons (eF [1000] (eV 6)) (aNil))))) (aNil))))) (sSeq (sSet [1000] 8 (Pf.e2 subD (eN intD (aCons (Pf.e2 (asBl gtD) (eV 10) (eC (.int 0))) (aNil))) (eN intD (aCons (Pf.e2 (asBl ltD) (eV 10) (eC (.int 0))) (aNil))))) (sIf (cB (Pf.e2 (asBl neD) (eN reprX (aCons (eLst (aCons (eF [1000] (eCall d_side_of (aCons (eF [1000] (eV 4)) (aCons (eF [1000] (eV 5)) (aCons (eF [1000] (eV 6)) (aNil)))))) (aCons (eF [1000] (eCallK 0 3 [2, 1, 0] d_side_of aNil (aCons (eF [1000] (eN listD (aCons (eV 6) (aNil)))) (aCons (eF [1000] (eV 5)) (aCons (eF [1000] (eV 4)) (aNil)))))) (aCons (eF [1000] (eCall d_side_of (aCons (eF [1000] (eV 5)) (aCons (eF [1000] (eV 4)) (aCons (eF [1000] (eV 6)) (aNil)))))) (aCons (eF [1000] (eCall d_side_of (aCons (eF [1000] (eV 4)) (aCons (eF [1000] (eV 5)) (aCons (eF [1000] (eV 5)) (aNil)))))) (aNil)))))) (aNil))) (eN reprX (aCons (eLst (aCons (eF [1000] (eV 8)) (aCons (eF [1000] (eV 8)) (aCons (e1 negD (eV 8)) (aCons (eC (.int 0)) (aNil)))))) (aNil))))) (sRet [1000] (eC (.bl false))) (sNil)))) (sNil)
theorem test2_ok {o9 : Option T} (h1 : Bt 110 ax) (h2 : Bt 110 ay) (h3 : Bt 110 bx) (h4 : Bt 110 by_) (h5 : Bt 110 ex) (h6 : Bt 110 ey) (h7 : Bt 110 dx) (h8 : Bt 110 dy) : ∃ x y, test2 [o0, some (.own (.lst ds)), o2, o3, some (.sh (P ax ay)), some (.sh (P bx by_)), some (.sh (P ex ey)), some (.sh (P dx dy)), o8, o9, o10, none, none, none, none, none, none] = .nx [o0, some (.own (.lst ds)), o2, o3, some (.sh (P ax ay)), some (.sh (P bx by_)), some (.sh (P ex ey)), some (.sh (P dx dy)), x, o9, y, none, none, none, none, none, none] := by
  have e : neD (P ax ay) (P bx by_) = some (!((ax == bx) && ((ay == by_) && true))) := by
    unfold neD
    rw [eq_pt]
    rfl
  unfold test2
  cases hn : ((ax == bx) && ((ay == by_) && true)) with
  | true =>
    refine ⟨o8, o10, ?_⟩
    simp only [q_od1, q_od2, q_od3, q_od4, q_bind, q_bindx, q_s, q_sx, q_nx, q_rt, q_bk, q_ct, q_ex, q_seq, q_nil, q_if, q_expr, q_set, q_put, q_puto, q_puta, q_lookPs, q_lookPo, q_ret0, q_ret, q_reto, q_reta, q_lookRs, q_lookRo, q_c, q_v, q_lookVs, q_lookVo, q_view, q_viewo, q_viewa, q_slots, q_sloto, q_opt, q_e1, q_e2, q_eN, q_an, q_ac, q_views0, q_views, q_shs0, q_shs, q_f, q_frz, q_frzo, q_frza, q_lookFs, q_lookFo, q_lst, q_tup, q_mkL, q_mkT, q_cB, q_cV, q_cAnd, q_cOr, q_cNot, q_eIf, q_isBl, q_eAnd, q_eOr, q_eNot, q_andT, q_andF, q_orT, q_orF, q_notK, q_ix, q_ixJ, q_lookJ, q_ixK, q_lookK, q_stK, q_call, q_callO, q_callM, q_callK, q_lookC, q_resC, q_resCx, q_lent, q_lookL, q_resM, q_resMo, q_resMn, q_resMx, q_resP, q_resPo, q_resPn, q_resPx, q_asBl, List.not_mem_nil, q_lt, q_le, q_gt, q_ge, q_add, q_sub, q_mul, q_fdiv, q_mod, q_neg, q_int, q_intb, q_abs, q_len, q_lent1, q_lenr, q_ixl, q_ixt, q_ixr, q_trub, q_trun, q_trui, q_trul, q_trut, q_isn, q_isNn, q_isiT, at0, at1, at2, ixN1, ixN2, startE, List.map_cons, List.map_nil, List.length_cons, List.length_nil, List.replicate, List.cons_append, List.nil_append, List.getElem?_cons_zero, List.getElem?_cons_succ, List.set_cons_zero, List.set_cons_succ, Option.map_some, Option.bind_some, Option.map_none, Option.bind_none, Nat.reduceAdd, Nat.reduceSub, if_true, if_false, Bool.false_eq_true, decide_true, decide_false, Bool.not_true, Bool.not_false, reduceIte, List.length_map, e, hn]
  | false =>
    have hn2 : ((bx == ax) && ((by_ == ay) && true)) = false := by
      rw [BEq.comm (a := bx), BEq.comm (a := by_)]
      exact hn
    have w1 := fun ρ => callP_ok (ρ := ρ) (way2_ok (a := ax) (b := ay) (c := bx) (d := by_))
    have w2 := fun ρ => callP_ok (ρ := ρ) (way2_ok (a := ax) (b := ay) (c := ex) (d := ey))
    have c1 := fun ρ => callP_ok (ρ := ρ) (cross2_ok (bt_sub h3 h1) (bt_sub h4 h2) (bt_sub h5 h1) (bt_sub h6 h2))
    have s1 := fun ρ => callP_ok (ρ := ρ) (side_ok (.t ax ay) (.t bx by_) (.t ex ey) h1 h2 h3 h4 h5 h6 hn)
    have s2 := fun ρ => callP_ok (ρ := ρ) (side_ok (.t ax ay) (.t bx by_) (.l ex ey) h1 h2 h3 h4 h5 h6 hn)
    have s3 := fun ρ => callP_ok (ρ := ρ) (side_ok (.t bx by_) (.t ax ay) (.t ex ey) h3 h4 h1 h2 h5 h6 hn2)
    have s4 := fun ρ => callP_ok (ρ := ρ) (side_ok (.t ax ay) (.t bx by_) (.t bx by_) h1 h2 h3 h4 h3 h4 hn)
    rw [trn_sw, sg_n] at s3
    rw [trn_0] at s4
    have s4 : ∀ ρ, callP d_side_of [P ax ay, P bx by_, P bx by_] ρ = .ok (.sh (.int 0)) ρ := s4
    have et : crs (bx - ax) (by_ - ay) (ex - ax) (ey - ay) = trn ax ay bx by_ ex ey := rfl
    rw [et] at c1
    generalize trn ax ay bx by_ ex ey = n at *
    obtain ⟨y, r⟩ := rep4 (sg n) (sg_3 n)
    have sz4 : (0 : Nat) + 1 + 1 + 1 + 1 ≤ sizeLine := by decide
    refine ⟨some (.sh (.int (sg n))), some (.sh (.int n)), ?_⟩
    have g : (Pf.e2 subD (eN intD (aCons (Pf.e2 (asBl gtD) (eV 10) (eC (.int 0))) (aNil))) (eN intD (aCons (Pf.e2 (asBl ltD) (eV 10) (eC (.int 0))) (aNil)))) [o0, some (.own (.lst ds)), o2, o3, some (.sh (P ax ay)), some (.sh (P bx by_)), some (.sh (P ex ey)), some (.sh (P dx dy)), o8, o9, some (.sh (.int n)), none, none, none, none, none, none] = .ok (.sh (.int (sg n))) [o0, some (.own (.lst ds)), o2, o3, some (.sh (P ax ay)), some (.sh (P bx by_)), some (.sh (P ex ey)), some (.sh (P dx dy)), o8, o9, some (.sh (.int n)), none, none, none, none, none, none] := by
      unfold sg
      by_cases k1 : 0 < n
      · by_cases k2 : n < 0
        · omega
        · simp only [q_od1, q_od2, q_od3, q_od4, q_bind, q_bindx, q_s, q_sx, q_nx, q_rt, q_bk, q_ct, q_ex, q_seq, q_nil, q_if, q_expr, q_set, q_put, q_puto, q_puta, q_lookPs, q_lookPo, q_ret0, q_ret, q_reto, q_reta, q_lookRs, q_lookRo, q_c, q_v, q_lookVs, q_lookVo, q_view, q_viewo, q_viewa, q_slots, q_sloto, q_opt, q_e1, q_e2, q_eN, q_an, q_ac, q_views0, q_views, q_shs0, q_shs, q_f, q_frz, q_frzo, q_frza, q_lookFs, q_lookFo, q_lst, q_tup, q_mkL, q_mkT, q_cB, q_cV, q_cAnd, q_cOr, q_cNot, q_eIf, q_isBl, q_eAnd, q_eOr, q_eNot, q_andT, q_andF, q_orT, q_orF, q_notK, q_ix, q_ixJ, q_lookJ, q_ixK, q_lookK, q_stK, q_call, q_callO, q_callM, q_callK, q_lookC, q_resC, q_resCx, q_lent, q_lookL, q_resM, q_resMo, q_resMn, q_resMx, q_resP, q_resPo, q_resPn, q_resPx, q_asBl, List.not_mem_nil, q_lt, q_le, q_gt, q_ge, q_add, q_sub, q_mul, q_fdiv, q_mod, q_neg, q_int, q_intb, q_abs, q_len, q_lent1, q_lenr, q_ixl, q_ixt, q_ixr, q_trub, q_trun, q_trui, q_trul, q_trut, q_isn, q_isNn, q_isiT, at0, at1, at2, ixN1, ixN2, startE, List.map_cons, List.map_nil, List.length_cons, List.length_nil, List.replicate, List.cons_append, List.nil_append, List.getElem?_cons_zero, List.getElem?_cons_succ, List.set_cons_zero, List.set_cons_succ, Option.map_some, Option.bind_some, Option.map_none, Option.bind_none, Nat.reduceAdd, Nat.reduceSub, if_true, if_false, Bool.false_eq_true, decide_true, decide_false, Bool.not_true, Bool.not_false, reduceIte, List.length_map, k1, k2]
      · by_cases k2 : n < 0
        · simp only [q_od1, q_od2, q_od3, q_od4, q_bind, q_bindx, q_s, q_sx, q_nx, q_rt, q_bk, q_ct, q_ex, q_seq, q_nil, q_if, q_expr, q_set, q_put, q_puto, q_puta, q_lookPs, q_lookPo, q_ret0, q_ret, q_reto, q_reta, q_lookRs, q_lookRo, q_c, q_v, q_lookVs, q_lookVo, q_view, q_viewo, q_viewa, q_slots, q_sloto, q_opt, q_e1, q_e2, q_eN, q_an, q_ac, q_views0, q_views, q_shs0, q_shs, q_f, q_frz, q_frzo, q_frza, q_lookFs, q_lookFo, q_lst, q_tup, q_mkL, q_mkT, q_cB, q_cV, q_cAnd, q_cOr, q_cNot, q_eIf, q_isBl, q_eAnd, q_eOr, q_eNot, q_andT, q_andF, q_orT, q_orF, q_notK, q_ix, q_ixJ, q_lookJ, q_ixK, q_lookK, q_stK, q_call, q_callO, q_callM, q_callK, q_lookC, q_resC, q_resCx, q_lent, q_lookL, q_resM, q_resMo, q_resMn, q_resMx, q_resP, q_resPo, q_resPn, q_resPx, q_asBl, List.not_mem_nil, q_lt, q_le, q_gt, q_ge, q_add, q_sub, q_mul, q_fdiv, q_mod, q_neg, q_int, q_intb, q_abs, q_len, q_lent1, q_lenr, q_ixl, q_ixt, q_ixr, q_trub, q_trun, q_trui, q_trul, q_trut, q_isn, q_isNn, q_isiT, at0, at1, at2, ixN1, ixN2, startE, List.map_cons, List.map_nil, List.length_cons, List.length_nil, List.replicate, List.cons_append, List.nil_append, List.getElem?_cons_zero, List.getElem?_cons_succ, List.set_cons_zero, List.set_cons_succ, Option.map_some, Option.bind_some, Option.map_none, Option.bind_none, Nat.reduceAdd, Nat.reduceSub, if_true, if_false, Bool.false_eq_true, decide_true, decide_false, Bool.not_true, Bool.not_false, reduceIte, List.length_map, k1, k2]
        · simp only [q_od1, q_od2, q_od3, q_od4, q_bind, q_bindx, q_s, q_sx, q_nx, q_rt, q_bk, q_ct, q_ex, q_seq, q_nil, q_if, q_expr, q_set, q_put, q_puto, q_puta, q_lookPs, q_lookPo, q_ret0, q_ret, q_reto, q_reta, q_lookRs, q_lookRo, q_c, q_v, q_lookVs, q_lookVo, q_view, q_viewo, q_viewa, q_slots, q_sloto, q_opt, q_e1, q_e2, q_eN, q_an, q_ac, q_views0, q_views, q_shs0, q_shs, q_f, q_frz, q_frzo, q_frza, q_lookFs, q_lookFo, q_lst, q_tup, q_mkL, q_mkT, q_cB, q_cV, q_cAnd, q_cOr, q_cNot, q_eIf, q_isBl, q_eAnd, q_eOr, q_eNot, q_andT, q_andF, q_orT, q_orF, q_notK, q_ix, q_ixJ, q_lookJ, q_ixK, q_lookK, q_stK, q_call, q_callO, q_callM, q_callK, q_lookC, q_resC, q_resCx, q_lent, q_lookL, q_resM, q_resMo, q_resMn, q_resMx, q_resP, q_resPo, q_resPn, q_resPx, q_asBl, List.not_mem_nil, q_lt, q_le, q_gt, q_ge, q_add, q_sub, q_mul, q_fdiv, q_mod, q_neg, q_int, q_intb, q_abs, q_len, q_lent1, q_lenr, q_ixl, q_ixt, q_ixr, q_trub, q_trun, q_trui, q_trul, q_trut, q_isn, q_isNn, q_isiT, at0, at1, at2, ixN1, ixN2, startE, List.map_cons, List.map_nil, List.length_cons, List.length_nil, List.replicate, List.cons_append, List.nil_append, List.getElem?_cons_zero, List.getElem?_cons_succ, List.set_cons_zero, List.set_cons_succ, Option.map_some, Option.bind_some, Option.map_none, Option.bind_none, Nat.reduceAdd, Nat.reduceSub, if_true, if_false, Bool.false_eq_true, decide_true, decide_false, Bool.not_true, Bool.not_false, reduceIte, List.length_map, k1, k2]
    have cnd : cB (Pf.e2 (asBl neD) (eV 4) (eV 5)) [o0, some (.own (.lst ds)), o2, o3, some (.sh (P ax ay)), some (.sh (P bx by_)), some (.sh (P ex ey)), some (.sh (P dx dy)), o8, o9, o10, none, none, none, none, none, none] = .ok true [o0, some (.own (.lst ds)), o2, o3, some (.sh (P ax ay)), some (.sh (P bx by_)), some (.sh (P ex ey)), some (.sh (P dx dy)), o8, o9, o10, none, none, none, none, none, none] := by simp only [q_od1, q_od2, q_od3, q_od4, q_bind, q_bindx, q_s, q_sx, q_nx, q_rt, q_bk, q_ct, q_ex, q_seq, q_nil, q_if, q_expr, q_set, q_put, q_puto, q_puta, q_lookPs, q_lookPo, q_ret0, q_ret, q_reto, q_reta, q_lookRs, q_lookRo, q_c, q_v, q_lookVs, q_lookVo, q_view, q_viewo, q_viewa, q_slots, q_sloto, q_opt, q_e1, q_e2, q_eN, q_an, q_ac, q_views0, q_views, q_shs0, q_shs, q_f, q_frz, q_frzo, q_frza, q_lookFs, q_lookFo, q_lst, q_tup, q_mkL, q_mkT, q_cB, q_cV, q_cAnd, q_cOr, q_cNot, q_eIf, q_isBl, q_eAnd, q_eOr, q_eNot, q_andT, q_andF, q_orT, q_orF, q_notK, q_ix, q_ixJ, q_lookJ, q_ixK, q_lookK, q_stK, q_call, q_callO, q_callM, q_callK, q_lookC, q_resC, q_resCx, q_lent, q_lookL, q_resM, q_resMo, q_resMn, q_resMx, q_resP, q_resPo, q_resPn, q_resPx, q_asBl, List.not_mem_nil, q_lt, q_le, q_gt, q_ge, q_add, q_sub, q_mul, q_fdiv, q_mod, q_neg, q_int, q_intb, q_abs, q_len, q_lent1, q_lenr, q_ixl, q_ixt, q_ixr, q_trub, q_trun, q_trui, q_trul, q_trut, q_isn, q_isNn, q_isiT, at0, at1, at2, ixN1, ixN2, startE, List.map_cons, List.map_nil, List.length_cons, List.length_nil, List.replicate, List.cons_append, List.nil_append, List.getElem?_cons_zero, List.getElem?_cons_succ, List.set_cons_zero, List.set_cons_succ, Option.map_some, Option.bind_some, Option.map_none, Option.bind_none, Nat.reduceAdd, Nat.reduceSub, if_true, if_false, Bool.false_eq_true, decide_true, decide_false, Bool.not_true, Bool.not_false, reduceIte, List.length_map, e, hn]
    rw [q_if, cnd]
    show sSeq _ _ _ = _
    refine (seq_to (ρ1 := [o0, some (.own (.lst ds)), o2, o3, some (.sh (P ax ay)), some (.sh (P bx by_)), some (.sh (P ex ey)), some (.sh (P dx dy)), o8, o9, some (.sh (.int n)), none, none, none, none, none, none]) ?_).trans ((seq_to (ρ1 := [o0, some (.own (.lst ds)), o2, o3, some (.sh (P ax ay)), some (.sh (P bx by_)), some (.sh (P ex ey)), some (.sh (P dx dy)), some (.sh (.int (sg n))), o9, some (.sh (.int n)), none, none, none, none, none, none]) ?_).trans ?_)
    · simp only [q_od1, q_od2, q_od3, q_od4, q_bind, q_bindx, q_s, q_sx, q_nx, q_rt, q_bk, q_ct, q_ex, q_seq, q_nil, q_if, q_expr, q_set, q_put, q_puto, q_puta, q_lookPs, q_lookPo, q_ret0, q_ret, q_reto, q_reta, q_lookRs, q_lookRo, q_c, q_v, q_lookVs, q_lookVo, q_view, q_viewo, q_viewa, q_slots, q_sloto, q_opt, q_e1, q_e2, q_eN, q_an, q_ac, q_views0, q_views, q_shs0, q_shs, q_f, q_frz, q_frzo, q_frza, q_lookFs, q_lookFo, q_lst, q_tup, q_mkL, q_mkT, q_cB, q_cV, q_cAnd, q_cOr, q_cNot, q_eIf, q_isBl, q_eAnd, q_eOr, q_eNot, q_andT, q_andF, q_orT, q_orF, q_notK, q_ix, q_ixJ, q_lookJ, q_ixK, q_lookK, q_stK, q_call, q_callO, q_callM, q_callK, q_lookC, q_resC, q_resCx, q_lent, q_lookL, q_resM, q_resMo, q_resMn, q_resMx, q_resP, q_resPo, q_resPn, q_resPx, q_asBl, List.not_mem_nil, q_lt, q_le, q_gt, q_ge, q_add, q_sub, q_mul, q_fdiv, q_mod, q_neg, q_int, q_intb, q_abs, q_len, q_lent1, q_lenr, q_ixl, q_ixt, q_ixr, q_trub, q_trun, q_trui, q_trul, q_trut, q_isn, q_isNn, q_isiT, at0, at1, at2, ixN1, ixN2, startE, List.map_cons, List.map_nil, List.length_cons, List.length_nil, List.replicate, List.cons_append, List.nil_append, List.getElem?_cons_zero, List.getElem?_cons_succ, List.set_cons_zero, List.set_cons_succ, Option.map_some, Option.bind_some, Option.map_none, Option.bind_none, Nat.reduceAdd, Nat.reduceSub, if_true, if_false, Bool.false_eq_true, decide_true, decide_false, Bool.not_true, Bool.not_false, reduceIte, List.length_map, w1, w2, c1]
    · rw [q_set, g]
      simp only [q_od1, q_od2, q_od3, q_od4, q_bind, q_bindx, q_s, q_sx, q_nx, q_rt, q_bk, q_ct, q_ex, q_seq, q_nil, q_if, q_expr, q_set, q_put, q_puto, q_puta, q_lookPs, q_lookPo, q_ret0, q_ret, q_reto, q_reta, q_lookRs, q_lookRo, q_c, q_v, q_lookVs, q_lookVo, q_view, q_viewo, q_viewa, q_slots, q_sloto, q_opt, q_e1, q_e2, q_eN, q_an, q_ac, q_views0, q_views, q_shs0, q_shs, q_f, q_frz, q_frzo, q_frza, q_lookFs, q_lookFo, q_lst, q_tup, q_mkL, q_mkT, q_cB, q_cV, q_cAnd, q_cOr, q_cNot, q_eIf, q_isBl, q_eAnd, q_eOr, q_eNot, q_andT, q_andF, q_orT, q_orF, q_notK, q_ix, q_ixJ, q_lookJ, q_ixK, q_lookK, q_stK, q_call, q_callO, q_callM, q_callK, q_lookC, q_resC, q_resCx, q_lent, q_lookL, q_resM, q_resMo, q_resMn, q_resMx, q_resP, q_resPo, q_resPn, q_resPx, q_asBl, List.not_mem_nil, q_lt, q_le, q_gt, q_ge, q_add, q_sub, q_mul, q_fdiv, q_mod, q_neg, q_int, q_intb, q_abs, q_len, q_lent1, q_lenr, q_ixl, q_ixt, q_ixr, q_trub, q_trun, q_trui, q_trul, q_trut, q_isn, q_isNn, q_isiT, at0, at1, at2, ixN1, ixN2, startE, List.map_cons, List.map_nil, List.length_cons, List.length_nil, List.replicate, List.cons_append, List.nil_append, List.getElem?_cons_zero, List.getElem?_cons_succ, List.set_cons_zero, List.set_cons_succ, Option.map_some, Option.bind_some, Option.map_none, Option.bind_none, Nat.reduceAdd, Nat.reduceSub, if_true, if_false, Bool.false_eq_true, decide_true, decide_false, Bool.not_true, Bool.not_false, reduceIte, List.length_map, ]
    · simp only [q_od1, q_od2, q_od3, q_od4, q_bind, q_bindx, q_s, q_sx, q_nx, q_rt, q_bk, q_ct, q_ex, q_seq, q_nil, q_if, q_expr, q_set, q_put, q_puto, q_puta, q_lookPs, q_lookPo, q_ret0, q_ret, q_reto, q_reta, q_lookRs, q_lookRo, q_c, q_v, q_lookVs, q_lookVo, q_view, q_viewo, q_viewa, q_slots, q_sloto, q_opt, q_e1, q_e2, q_eN, q_an, q_ac, q_views0, q_views, q_shs0, q_shs, q_f, q_frz, q_frzo, q_frza, q_lookFs, q_lookFo, q_lst, q_tup, q_mkL, q_mkT, q_cB, q_cV, q_cAnd, q_cOr, q_cNot, q_eIf, q_isBl, q_eAnd, q_eOr, q_eNot, q_andT, q_andF, q_orT, q_orF, q_notK, q_ix, q_ixJ, q_lookJ, q_ixK, q_lookK, q_stK, q_call, q_callO, q_callM, q_callK, q_lookC, q_resC, q_resCx, q_lent, q_lookL, q_resM, q_resMo, q_resMn, q_resMx, q_resP, q_resPo, q_resPn, q_resPx, q_asBl, List.not_mem_nil, q_lt, q_le, q_gt, q_ge, q_add, q_sub, q_mul, q_fdiv, q_mod, q_neg, q_int, q_intb, q_abs, q_len, q_lent1, q_lenr, q_ixl, q_ixt, q_ixr, q_trub, q_trun, q_trui, q_trul, q_trut, q_isn, q_isNn, q_isiT, at0, at1, at2, ixN1, ixN2, startE, List.map_cons, List.map_nil, List.length_cons, List.length_nil, List.replicate, List.cons_append, List.nil_append, List.getElem?_cons_zero, List.getElem?_cons_succ, List.set_cons_zero, List.set_cons_succ, Option.map_some, Option.bind_some, Option.map_none, Option.bind_none, Nat.reduceAdd, Nat.reduceSub, if_true, if_false, Bool.false_eq_true, decide_true, decide_false, Bool.not_true, Bool.not_false, reduceIte, List.length_map, q_perm0, q_chain, q_chT, q_chF, q_perm, q_consO, q_callKw, q_kwO, q_unp, q_unpK, q_unpO, q_gL, q_gT, q_gA0, q_gA, q_gN, q_lc, q_lcK, q_iSeq, q_iR, q_itl, q_itt, q_sl, q_oN, q_oS, q_oK, q_slr, q_sll, unw, wipeE, ksh, and_self, s1, s2, s3, s4, r, sz4, ne_str, q_listT]
theorem body_ok {n : Nat} (h : Src n ds) (hn : n + 40 ≤ 1000000) : ∃ ds' p3 p4 p5 p6 p7 p8 p9 p10, g_law_b1 [o0, some (.own (.lst ds)), o2, o3, o4, o5, o6, o7, o8, o9, o10, none, none, none, none, none, none] = .nx [o0, some (.own (.lst ds')), o2, p3, p4, p5, p6, p7, p8, p9, p10, none, none, none, none, none, none] ∧ Src (n + 40) ds' := by
  obtain ⟨N, eN, bN⟩ := pow30x
  obtain ⟨_, d, d1, e1, _, hm, s1⟩ := picks h (xs := [.int 1, .int 1, .int 2, .int N]) (by omega) (by simp) (by simp only [List.length_cons, List.length_nil]; omega)
  obtain ⟨far, rfl, bf⟩ : ∃ far : Int, d = .int far ∧ Bt 100 far := by
    simp only [List.mem_cons, List.not_mem_nil, or_false] at hm
    rcases hm with h | h | h | h
    · exact ⟨_, h, Nat.le_trans (bt_small (by decide) (by decide)) (by decide)⟩
    · exact ⟨_, h, Nat.le_trans (bt_small (by decide) (by decide)) (by decide)⟩
    · exact ⟨_, h, Nat.le_trans (bt_small (by decide) (by decide)) (by decide)⟩
    · exact ⟨_, h, bN⟩
  obtain ⟨ax, ay, bx, by_, cx, cy, dx, dy, d2, e2, hb, s2⟩ := four_ok (o0 := o0) (o2 := o2) (o4 := o4) (o5 := o5) (o6 := o6) (o7 := o7) (o8 := o8) (o9 := o9) (o10 := o10) s1 (by omega) bf
  obtain ⟨ex, ey, d3, e3, k5, k6, s3⟩ := third_ok (o0 := o0) (o2 := o2) (o3 := some (.sh (.int far))) (o8 := o8) (o9 := o9) (o10 := o10) s2 (by omega) hb
  obtain ⟨a1, a2, b1, b2, _, _, c1, c2⟩ := hb
  have up : ∀ {z : Int}, Bt 104 z → Bt 110 z := fun h => Nat.le_trans h (by decide)
  have cm := fun ρ => callP_ok (ρ := ρ) (common_ok (up a1) (up a2) (up b1) (up b2) k5 k6 (up c1) (up c2))
  have tl := told_ok (o0 := o0) (o2 := o2) (o3 := some (.sh (.int far))) (o8 := some (.sh (.bl (ownB ax ay bx by_ ex ey dx dy)))) (o9 := o9) (o10 := o10) (ds := d3) (up a1) (up a2) (up b1) (up b2) k5 k6 (up c1) (up c2)
  have t1 := test1_ok (o0 := o0) (o2 := o2) (o3 := some (.sh (.int far))) (o10 := o10) (ds := d3) (b := ownB ax ay bx by_ ex ey dx dy) (up a1) (up a2) (up b1) (up b2) k5 k6 (up c1) (up c2)
  obtain ⟨x, y, t2⟩ := test2_ok (o0 := o0) (o2 := o2) (o3 := some (.sh (.int far))) (o8 := some (.sh (.bl (ownB ax ay bx by_ ex ey dx dy)))) (o10 := o10) (ds := d3) (o9 := some (.own (.lst [.bl (ownB ax ay bx by_ ex ey dx dy), .bl (ownB ax ay bx by_ ex ey dx dy), .bl (ownB ax ay bx by_ ex ey dx dy)]))) (up a1) (up a2) (up b1) (up b2) k5 k6 (up c1) (up c2)
  rw [meet_own] at tl
  have sz4 : (0 : Nat) + 1 + 1 + 1 + 1 ≤ sizeLine := by decide
  have st1 : sSet [1000] 3 (eCallM d__law_pick (aCons (eV 1) (aCons (eF [1000] (eLst (aCons (eC (.int 1)) (aCons (eC (.int 1)) (aCons (eC (.int 2)) (aCons (Pf.e2 powD (eC (.int 10)) (eC (.int 30))) (aNil))))))) (aNil)))) [o0, some (.own (.lst ds)), o2, o3, o4, o5, o6, o7, o8, o9, o10, none, none, none, none, none, none] = .nx [o0, some (.own (.lst d1)), o2, some (.sh (.int far)), o4, o5, o6, o7, o8, o9, o10, none, none, none, none, none, none] := by
    simp only [q_od1, q_od2, q_od3, q_od4, q_bind, q_bindx, q_s, q_sx, q_nx, q_rt, q_bk, q_ct, q_ex, q_seq, q_nil, q_if, q_expr, q_set, q_put, q_puto, q_puta, q_lookPs, q_lookPo, q_ret0, q_ret, q_reto, q_reta, q_lookRs, q_lookRo, q_c, q_v, q_lookVs, q_lookVo, q_view, q_viewo, q_viewa, q_slots, q_sloto, q_opt, q_e1, q_e2, q_eN, q_an, q_ac, q_views0, q_views, q_shs0, q_shs, q_f, q_frz, q_frzo, q_frza, q_lookFs, q_lookFo, q_lst, q_tup, q_mkL, q_mkT, q_cB, q_cV, q_cAnd, q_cOr, q_cNot, q_eIf, q_isBl, q_eAnd, q_eOr, q_eNot, q_andT, q_andF, q_orT, q_orF, q_notK, q_ix, q_ixJ, q_lookJ, q_ixK, q_lookK, q_stK, q_call, q_callO, q_callM, q_callK, q_lookC, q_resC, q_resCx, q_lent, q_lookL, q_resM, q_resMo, q_resMn, q_resMx, q_resP, q_resPo, q_resPn, q_resPx, q_asBl, List.not_mem_nil, q_lt, q_le, q_gt, q_ge, q_add, q_sub, q_mul, q_fdiv, q_mod, q_neg, q_int, q_intb, q_abs, q_len, q_lent1, q_lenr, q_ixl, q_ixt, q_ixr, q_trub, q_trun, q_trui, q_trul, q_trut, q_isn, q_isNn, q_isiT, at0, at1, at2, ixN1, ixN2, startE, List.map_cons, List.map_nil, List.length_cons, List.length_nil, List.replicate, List.cons_append, List.nil_append, List.getElem?_cons_zero, List.getElem?_cons_succ, List.set_cons_zero, List.set_cons_succ, Option.map_some, Option.bind_some, Option.map_none, Option.bind_none, Nat.reduceAdd, Nat.reduceSub, if_true, if_false, Bool.false_eq_true, decide_true, decide_false, Bool.not_true, Bool.not_false, reduceIte, List.length_map, e1, eN, sz4]
  have st4 : sSet [1000] 8 (eCall d__law_common (aCons (eF [1000] (eV 4)) (aCons (eF [1000] (eV 5)) (aCons (eF [1000] (eV 6)) (aCons (eF [1000] (eV 7)) (aNil)))))) [o0, some (.own (.lst d3)), o2, some (.sh (.int far)), some (.sh (P ax ay)), some (.sh (P bx by_)), some (.sh (P ex ey)), some (.sh (P dx dy)), o8, o9, o10, none, none, none, none, none, none] = .nx [o0, some (.own (.lst d3)), o2, some (.sh (.int far)), some (.sh (P ax ay)), some (.sh (P bx by_)), some (.sh (P ex ey)), some (.sh (P dx dy)), some (.sh (.bl (ownB ax ay bx by_ ex ey dx dy))), o9, o10, none, none, none, none, none, none] := by
    simp only [q_od1, q_od2, q_od3, q_od4, q_bind, q_bindx, q_s, q_sx, q_nx, q_rt, q_bk, q_ct, q_ex, q_seq, q_nil, q_if, q_expr, q_set, q_put, q_puto, q_puta, q_lookPs, q_lookPo, q_ret0, q_ret, q_reto, q_reta, q_lookRs, q_lookRo, q_c, q_v, q_lookVs, q_lookVo, q_view, q_viewo, q_viewa, q_slots, q_sloto, q_opt, q_e1, q_e2, q_eN, q_an, q_ac, q_views0, q_views, q_shs0, q_shs, q_f, q_frz, q_frzo, q_frza, q_lookFs, q_lookFo, q_lst, q_tup, q_mkL, q_mkT, q_cB, q_cV, q_cAnd, q_cOr, q_cNot, q_eIf, q_isBl, q_eAnd, q_eOr, q_eNot, q_andT, q_andF, q_orT, q_orF, q_notK, q_ix, q_ixJ, q_lookJ, q_ixK, q_lookK, q_stK, q_call, q_callO, q_callM, q_callK, q_lookC, q_resC, q_resCx, q_lent, q_lookL, q_resM, q_resMo, q_resMn, q_resMx, q_resP, q_resPo, q_resPn, q_resPx, q_asBl, List.not_mem_nil, q_lt, q_le, q_gt, q_ge, q_add, q_sub, q_mul, q_fdiv, q_mod, q_neg, q_int, q_intb, q_abs, q_len, q_lent1, q_lenr, q_ixl, q_ixt, q_ixr, q_trub, q_trun, q_trui, q_trul, q_trut, q_isn, q_isNn, q_isiT, at0, at1, at2, ixN1, ixN2, startE, List.map_cons, List.map_nil, List.length_cons, List.length_nil, List.replicate, List.cons_append, List.nil_append, List.getElem?_cons_zero, List.getElem?_cons_succ, List.set_cons_zero, List.set_cons_succ, Option.map_some, Option.bind_some, Option.map_none, Option.bind_none, Nat.reduceAdd, Nat.reduceSub, if_true, if_false, Bool.false_eq_true, decide_true, decide_false, Bool.not_true, Bool.not_false, reduceIte, List.length_map, cm]
  exact ⟨d3, _, _, _, _, _, _, _, _, (seq_to st1).trans ((seq_to e2).trans ((seq_to e3).trans ((seq_to st4).trans ((seq_to tl).trans ((seq_to t1).trans t2))))), s3.mono (by omega)⟩
end
def bads : List D := [.non, .int 5, .tup [.int 1], .tup [.int 1, .bl true], .str "12", .lst [.int 1, .int 2, .int 3], .dk (mergeD [] [])]
abbrev bp (s : Str) : Exn := ⟨"BadPoint", [("part", .str s)]⟩
theorem part_p (s : Str) : d__law_part (.ex (bp s)) = .ok (.sh (.tup [.str "point", .str s])) := by kernel_rfl
theorem part_m (s : Str) : d__law_part (.ex ⟨"Misfit", [("part", .str s)]⟩) = .ok (.sh (.tup [.str "misfit", .str s])) := by kernel_rfl
theorem by_bads {p : D → Prop} (h0 : p .non) (h1 : p (.int 5)) (h2 : p (.tup [.int 1])) (h3 : p (.tup [.int 1, .bl true])) (h4 : p (.str "12")) (h5 : p (.lst [.int 1, .int 2, .int 3])) (h6 : p (.dk (mergeD [] []))) {d : D} (h : d ∈ bads) : p d := by
  unfold bads at h
  simp only [List.mem_cons, List.not_mem_nil, or_false] at h
  rcases h with h | h | h | h | h | h | h <;> (subst h; assumption)
theorem x1 (x y : D) {b : D} (h : b ∈ bads) : d_side_of [b, x, y] = .ex (bp "one") := by_bads (p := fun b => d_side_of [b, x, y] = .ex (bp "one")) (by kernel_rfl) (by kernel_rfl) (by kernel_rfl) (by kernel_rfl) (by kernel_rfl) (by kernel_rfl) (by kernel_rfl) h
theorem x2 (y : D) {b : D} (h : b ∈ bads) : d_side_of [Pf.k06.P 1 1, b, y] = .ex (bp "other") := by_bads (p := fun b => d_side_of [Pf.k06.P 1 1, b, y] = .ex (bp "other")) (by kernel_rfl) (by kernel_rfl) (by kernel_rfl) (by kernel_rfl) (by kernel_rfl) (by kernel_rfl) (by kernel_rfl) h
theorem x3  {b : D} (h : b ∈ bads) : d_side_of [Pf.k06.P 1 1, PL 1 1, b] = .ex (bp "point") := by_bads (p := fun b => d_side_of [Pf.k06.P 1 1, PL 1 1, b] = .ex (bp "point")) (by kernel_rfl) (by kernel_rfl) (by kernel_rfl) (by kernel_rfl) (by kernel_rfl) (by kernel_rfl) (by kernel_rfl) h
theorem x5 (x y z : D) {b : D} (h : b ∈ bads) : d_do_meet [b, x, y, z] = .ex (bp "one") := by_bads (p := fun b => d_do_meet [b, x, y, z] = .ex (bp "one")) (by kernel_rfl) (by kernel_rfl) (by kernel_rfl) (by kernel_rfl) (by kernel_rfl) (by kernel_rfl) (by kernel_rfl) h
theorem x6 (y z : D) {b : D} (h : b ∈ bads) : d_do_meet [Pf.k06.P 0 1, b, y, z] = .ex (bp "other") := by_bads (p := fun b => d_do_meet [Pf.k06.P 0 1, b, y, z] = .ex (bp "other")) (by kernel_rfl) (by kernel_rfl) (by kernel_rfl) (by kernel_rfl) (by kernel_rfl) (by kernel_rfl) (by kernel_rfl) h
theorem x7 (z : D) {b : D} (h : b ∈ bads) : d_do_meet [Pf.k06.P 0 1, Pf.k06.P 0 0, b, z] = .ex (bp "third") := by_bads (p := fun b => d_do_meet [Pf.k06.P 0 1, Pf.k06.P 0 0, b, z] = .ex (bp "third")) (by kernel_rfl) (by kernel_rfl) (by kernel_rfl) (by kernel_rfl) (by kernel_rfl) (by kernel_rfl) (by kernel_rfl) h
theorem x8  {b : D} (h : b ∈ bads) : d_do_meet [Pf.k06.P 0 1, Pf.k06.P 0 0, Pf.k06.P 0 0, b] = .ex (bp "fourth") := by_bads (p := fun b => d_do_meet [Pf.k06.P 0 1, Pf.k06.P 0 0, Pf.k06.P 0 0, b] = .ex (bp "fourth")) (by kernel_rfl) (by kernel_rfl) (by kernel_rfl) (by kernel_rfl) (by kernel_rfl) (by kernel_rfl) (by kernel_rfl) h
theorem x4 : d_side_of [PL 1 1, Pf.k06.P 1 1, Pf.k06.P 0 0] = .ex ⟨"Misfit", [("part", .str "other")]⟩ := by kernel_rfl
theorem callP_ex {f : List D → RP} {ds : List D} {x : Exn} {ρ : Env} (e : f ds = .ex x) : callP f ds ρ = .ex x ρ := by
  unfold callP
  rw [e]
theorem thk_of {fz : List Nat} {fb : Env → R T} {ρ ρ1 ρ2 : Env} {x : Exn} {r : D} (f : frzE fz ρ = ρ1) (e : fb (ρ1.map hideT) = .ex x ρ2) (h : d__law_part (.ex x) = .ok (.sh r)) : eThk fz fb d__law_part ρ = .ok (.sh r) ρ1 := by
  subst f
  unfold eThk lamD
  rw [e]
  show thkR _ (d__law_part (.ex x)) = _
  rw [h]
  rfl
theorem bm_of {i : Nat} {op : List D → List D → Option (D × List D)} {fs : Env → R (List T)} {ρ ρ1 : Env} {ts : List T} {xs ys zs ws : List D} {d : D} (h0 : ρ[i]? = some (some (.own (.lst xs)))) (e : fs ρ = .ok ts ρ1) (h1 : ρ1[i]? = some (some (.own (.lst ys)))) (h2 : shs ts = some zs) (h3 : op ys zs = some (d, ws)) : eBM i op fs ρ = .ok (.sh d) (ρ1.set i (some (.own (.lst ws)))) := by
  unfold eBM
  rw [h0]
  dsimp only
  rw [e]
  simp only [q_bind]
  rw [h1, h2]
  dsimp only
  rw [h3]
theorem at3 {a b c d : D} : L2.atI [a, b, c, d] 3 = some d := rfl
theorem q_hide {d : D} : hideT (some (.sh d)) = some (.sh d) := rfl
section
variable {o0 o2 o3 o4 o5 o6 o7 o8 o9 o10 o13 : Option T} {ds : List D} {b0 b1 b2 b3 c0 c1 c2 c3 : D}
theorem th1_own (hb0 : b0 ∈ bads) (hb1 : b1 ∈ bads) (hb2 : b2 ∈ bads) (hb3 : b3 ∈ bads) : eThk [11, 12] (eCall d_side_of (aCons (eF [] (Pf.e2 ixD (eV 11) (eC (.int 0)))) (aCons (eF [] (Pf.e2 ixD (eV 12) (eC (.int 1)))) (aCons (eF [] (Pf.e2 ixD (eV 12) (eC (.int 2)))) (aNil))))) d__law_part [o0, some (.own (.lst ds)), o2, o3, o4, o5, o6, o7, o8, o9, o10, some (.sh (.lst [b0, b1, b2, b3])), some (.own (.lst [c0, c1, c2, c3])), o13, none, none, none] = .ok (.sh (.tup [.str "point", .str "one"])) [o0, some (.own (.lst ds)), o2, o3, o4, o5, o6, o7, o8, o9, o10, some (.sh (.lst [b0, b1, b2, b3])), some (.sh (.lst [c0, c1, c2, c3])), o13, none, none, none] := by
  have c := fun ρ => callP_ex (ρ := ρ) (x1 c1 c2 hb0)
  have sz1 : (0 : Nat) + 1 ≤ sizeLine := by decide
  have sz2 : (0 : Nat) + 1 + 1 ≤ sizeLine := by decide
  have sz3 : (0 : Nat) + 1 + 1 + 1 ≤ sizeLine := by decide
  have sz4 : (0 : Nat) + 1 + 1 + 1 + 1 ≤ sizeLine := by decide
  have sz7 : (0 : Nat) + 1 + 1 + 1 + 1 + 1 + 1 + 1 ≤ sizeLine := by decide
  have sz8 : (0 : Nat) + 1 + 1 + 1 + 1 + 1 + 1 + 1 + 1 ≤ sizeLine := by decide
  refine thk_of (x := bp "one") (ρ1 := [o0, some (.own (.lst ds)), o2, o3, o4, o5, o6, o7, o8, o9, o10, some (.sh (.lst [b0, b1, b2, b3])), some (.sh (.lst [c0, c1, c2, c3])), o13, none, none, none]) (ρ2 := ([o0, some (.own (.lst ds)), o2, o3, o4, o5, o6, o7, o8, o9, o10, some (.sh (.lst [b0, b1, b2, b3])), some (.sh (.lst [c0, c1, c2, c3])), o13, none, none, none] : Env).map hideT) rfl ?_ (part_p _)
  simp only [List.map_cons, List.map_nil, q_hide]
  simp only [q_od1, q_od2, q_od3, q_od4, q_bind, q_bindx, q_s, q_sx, q_nx, q_rt, q_bk, q_ct, q_ex, q_seq, q_nil, q_if, q_expr, q_set, q_put, q_puto, q_puta, q_lookPs, q_lookPo, q_ret0, q_ret, q_reto, q_reta, q_lookRs, q_lookRo, q_c, q_v, q_lookVs, q_lookVo, q_view, q_viewo, q_viewa, q_slots, q_sloto, q_opt, q_e1, q_e2, q_eN, q_an, q_ac, q_views0, q_views, q_shs0, q_shs, q_f, q_frz, q_frzo, q_frza, q_lookFs, q_lookFo, q_lst, q_tup, q_mkL, q_mkT, q_cB, q_cV, q_cAnd, q_cOr, q_cNot, q_eIf, q_isBl, q_eAnd, q_eOr, q_eNot, q_andT, q_andF, q_orT, q_orF, q_notK, q_ix, q_ixJ, q_lookJ, q_ixK, q_lookK, q_stK, q_call, q_callO, q_callM, q_callK, q_lookC, q_resC, q_resCx, q_lent, q_lookL, q_resM, q_resMo, q_resMn, q_resMx, q_resP, q_resPo, q_resPn, q_resPx, q_asBl, List.not_mem_nil, q_lt, q_le, q_gt, q_ge, q_add, q_sub, q_mul, q_fdiv, q_mod, q_neg, q_int, q_intb, q_abs, q_len, q_lent1, q_lenr, q_ixl, q_ixt, q_ixr, q_trub, q_trun, q_trui, q_trul, q_trut, q_isn, q_isNn, q_isiT, at0, at1, at2, ixN1, ixN2, startE, List.map_cons, List.map_nil, List.length_cons, List.length_nil, List.replicate, List.cons_append, List.nil_append, List.getElem?_cons_zero, List.getElem?_cons_succ, List.set_cons_zero, List.set_cons_succ, Option.map_some, Option.bind_some, Option.map_none, Option.bind_none, Nat.reduceAdd, Nat.reduceSub, if_true, if_false, Bool.false_eq_true, decide_true, decide_false, Bool.not_true, Bool.not_false, reduceIte, List.length_map, sz2, at3, c]
theorem th1_sh (hb0 : b0 ∈ bads) (hb1 : b1 ∈ bads) (hb2 : b2 ∈ bads) (hb3 : b3 ∈ bads) : eThk [11, 12] (eCall d_side_of (aCons (eF [] (Pf.e2 ixD (eV 11) (eC (.int 0)))) (aCons (eF [] (Pf.e2 ixD (eV 12) (eC (.int 1)))) (aCons (eF [] (Pf.e2 ixD (eV 12) (eC (.int 2)))) (aNil))))) d__law_part [o0, some (.own (.lst ds)), o2, o3, o4, o5, o6, o7, o8, o9, o10, some (.sh (.lst [b0, b1, b2, b3])), some (.sh (.lst [c0, c1, c2, c3])), o13, none, none, none] = .ok (.sh (.tup [.str "point", .str "one"])) [o0, some (.own (.lst ds)), o2, o3, o4, o5, o6, o7, o8, o9, o10, some (.sh (.lst [b0, b1, b2, b3])), some (.sh (.lst [c0, c1, c2, c3])), o13, none, none, none] := by
  have c := fun ρ => callP_ex (ρ := ρ) (x1 c1 c2 hb0)
  have sz1 : (0 : Nat) + 1 ≤ sizeLine := by decide
  have sz2 : (0 : Nat) + 1 + 1 ≤ sizeLine := by decide
  have sz3 : (0 : Nat) + 1 + 1 + 1 ≤ sizeLine := by decide
  have sz4 : (0 : Nat) + 1 + 1 + 1 + 1 ≤ sizeLine := by decide
  have sz7 : (0 : Nat) + 1 + 1 + 1 + 1 + 1 + 1 + 1 ≤ sizeLine := by decide
  have sz8 : (0 : Nat) + 1 + 1 + 1 + 1 + 1 + 1 + 1 + 1 ≤ sizeLine := by decide
  refine thk_of (x := bp "one") (ρ1 := [o0, some (.own (.lst ds)), o2, o3, o4, o5, o6, o7, o8, o9, o10, some (.sh (.lst [b0, b1, b2, b3])), some (.sh (.lst [c0, c1, c2, c3])), o13, none, none, none]) (ρ2 := ([o0, some (.own (.lst ds)), o2, o3, o4, o5, o6, o7, o8, o9, o10, some (.sh (.lst [b0, b1, b2, b3])), some (.sh (.lst [c0, c1, c2, c3])), o13, none, none, none] : Env).map hideT) rfl ?_ (part_p _)
  simp only [List.map_cons, List.map_nil, q_hide]
  simp only [q_od1, q_od2, q_od3, q_od4, q_bind, q_bindx, q_s, q_sx, q_nx, q_rt, q_bk, q_ct, q_ex, q_seq, q_nil, q_if, q_expr, q_set, q_put, q_puto, q_puta, q_lookPs, q_lookPo, q_ret0, q_ret, q_reto, q_reta, q_lookRs, q_lookRo, q_c, q_v, q_lookVs, q_lookVo, q_view, q_viewo, q_viewa, q_slots, q_sloto, q_opt, q_e1, q_e2, q_eN, q_an, q_ac, q_views0, q_views, q_shs0, q_shs, q_f, q_frz, q_frzo, q_frza, q_lookFs, q_lookFo, q_lst, q_tup, q_mkL, q_mkT, q_cB, q_cV, q_cAnd, q_cOr, q_cNot, q_eIf, q_isBl, q_eAnd, q_eOr, q_eNot, q_andT, q_andF, q_orT, q_orF, q_notK, q_ix, q_ixJ, q_lookJ, q_ixK, q_lookK, q_stK, q_call, q_callO, q_callM, q_callK, q_lookC, q_resC, q_resCx, q_lent, q_lookL, q_resM, q_resMo, q_resMn, q_resMx, q_resP, q_resPo, q_resPn, q_resPx, q_asBl, List.not_mem_nil, q_lt, q_le, q_gt, q_ge, q_add, q_sub, q_mul, q_fdiv, q_mod, q_neg, q_int, q_intb, q_abs, q_len, q_lent1, q_lenr, q_ixl, q_ixt, q_ixr, q_trub, q_trun, q_trui, q_trul, q_trut, q_isn, q_isNn, q_isiT, at0, at1, at2, ixN1, ixN2, startE, List.map_cons, List.map_nil, List.length_cons, List.length_nil, List.replicate, List.cons_append, List.nil_append, List.getElem?_cons_zero, List.getElem?_cons_succ, List.set_cons_zero, List.set_cons_succ, Option.map_some, Option.bind_some, Option.map_none, Option.bind_none, Nat.reduceAdd, Nat.reduceSub, if_true, if_false, Bool.false_eq_true, decide_true, decide_false, Bool.not_true, Bool.not_false, reduceIte, List.length_map, sz2, at3, c]
theorem th2_sh (hb0 : b0 ∈ bads) (hb1 : b1 ∈ bads) (hb2 : b2 ∈ bads) (hb3 : b3 ∈ bads) : eThk [11, 12] (eCall d_side_of (aCons (eTup (aCons (eC (.int 1)) (aCons (eC (.int 1)) (aNil)))) (aCons (eF [] (Pf.e2 ixD (eV 11) (eC (.int 1)))) (aCons (eF [] (Pf.e2 ixD (eV 12) (eC (.int 2)))) (aNil))))) d__law_part [o0, some (.own (.lst ds)), o2, o3, o4, o5, o6, o7, o8, o9, o10, some (.sh (.lst [b0, b1, b2, b3])), some (.sh (.lst [c0, c1, c2, c3])), o13, none, none, none] = .ok (.sh (.tup [.str "point", .str "other"])) [o0, some (.own (.lst ds)), o2, o3, o4, o5, o6, o7, o8, o9, o10, some (.sh (.lst [b0, b1, b2, b3])), some (.sh (.lst [c0, c1, c2, c3])), o13, none, none, none] := by
  have c := fun ρ => callP_ex (ρ := ρ) (x2 c2 hb1)
  have sz1 : (0 : Nat) + 1 ≤ sizeLine := by decide
  have sz2 : (0 : Nat) + 1 + 1 ≤ sizeLine := by decide
  have sz3 : (0 : Nat) + 1 + 1 + 1 ≤ sizeLine := by decide
  have sz4 : (0 : Nat) + 1 + 1 + 1 + 1 ≤ sizeLine := by decide
  have sz7 : (0 : Nat) + 1 + 1 + 1 + 1 + 1 + 1 + 1 ≤ sizeLine := by decide
  have sz8 : (0 : Nat) + 1 + 1 + 1 + 1 + 1 + 1 + 1 + 1 ≤ sizeLine := by decide
  refine thk_of (x := bp "other") (ρ1 := [o0, some (.own (.lst ds)), o2, o3, o4, o5, o6, o7, o8, o9, o10, some (.sh (.lst [b0, b1, b2, b3])), some (.sh (.lst [c0, c1, c2, c3])), o13, none, none, none]) (ρ2 := ([o0, some (.own (.lst ds)), o2, o3, o4, o5, o6, o7, o8, o9, o10, some (.sh (.lst [b0, b1, b2, b3])), some (.sh (.lst [c0, c1, c2, c3])), o13, none, none, none] : Env).map hideT) rfl ?_ (part_p _)
  simp only [List.map_cons, List.map_nil, q_hide]
  simp only [q_od1, q_od2, q_od3, q_od4, q_bind, q_bindx, q_s, q_sx, q_nx, q_rt, q_bk, q_ct, q_ex, q_seq, q_nil, q_if, q_expr, q_set, q_put, q_puto, q_puta, q_lookPs, q_lookPo, q_ret0, q_ret, q_reto, q_reta, q_lookRs, q_lookRo, q_c, q_v, q_lookVs, q_lookVo, q_view, q_viewo, q_viewa, q_slots, q_sloto, q_opt, q_e1, q_e2, q_eN, q_an, q_ac, q_views0, q_views, q_shs0, q_shs, q_f, q_frz, q_frzo, q_frza, q_lookFs, q_lookFo, q_lst, q_tup, q_mkL, q_mkT, q_cB, q_cV, q_cAnd, q_cOr, q_cNot, q_eIf, q_isBl, q_eAnd, q_eOr, q_eNot, q_andT, q_andF, q_orT, q_orF, q_notK, q_ix, q_ixJ, q_lookJ, q_ixK, q_lookK, q_stK, q_call, q_callO, q_callM, q_callK, q_lookC, q_resC, q_resCx, q_lent, q_lookL, q_resM, q_resMo, q_resMn, q_resMx, q_resP, q_resPo, q_resPn, q_resPx, q_asBl, List.not_mem_nil, q_lt, q_le, q_gt, q_ge, q_add, q_sub, q_mul, q_fdiv, q_mod, q_neg, q_int, q_intb, q_abs, q_len, q_lent1, q_lenr, q_ixl, q_ixt, q_ixr, q_trub, q_trun, q_trui, q_trul, q_trut, q_isn, q_isNn, q_isiT, at0, at1, at2, ixN1, ixN2, startE, List.map_cons, List.map_nil, List.length_cons, List.length_nil, List.replicate, List.cons_append, List.nil_append, List.getElem?_cons_zero, List.getElem?_cons_succ, List.set_cons_zero, List.set_cons_succ, Option.map_some, Option.bind_some, Option.map_none, Option.bind_none, Nat.reduceAdd, Nat.reduceSub, if_true, if_false, Bool.false_eq_true, decide_true, decide_false, Bool.not_true, Bool.not_false, reduceIte, List.length_map, sz2, at3, c]
theorem th3_sh (hb0 : b0 ∈ bads) (hb1 : b1 ∈ bads) (hb2 : b2 ∈ bads) (hb3 : b3 ∈ bads) : eThk [11] (eCall d_side_of (aCons (eTup (aCons (eC (.int 1)) (aCons (eC (.int 1)) (aNil)))) (aCons (eF [] (eLst (aCons (eC (.int 1)) (aCons (eC (.int 1)) (aNil))))) (aCons (eF [] (Pf.e2 ixD (eV 11) (eC (.int 2)))) (aNil))))) d__law_part [o0, some (.own (.lst ds)), o2, o3, o4, o5, o6, o7, o8, o9, o10, some (.sh (.lst [b0, b1, b2, b3])), some (.sh (.lst [c0, c1, c2, c3])), o13, none, none, none] = .ok (.sh (.tup [.str "point", .str "point"])) [o0, some (.own (.lst ds)), o2, o3, o4, o5, o6, o7, o8, o9, o10, some (.sh (.lst [b0, b1, b2, b3])), some (.sh (.lst [c0, c1, c2, c3])), o13, none, none, none] := by
  have c := fun ρ => callP_ex (ρ := ρ) (x3 hb2)
  have sz1 : (0 : Nat) + 1 ≤ sizeLine := by decide
  have sz2 : (0 : Nat) + 1 + 1 ≤ sizeLine := by decide
  have sz3 : (0 : Nat) + 1 + 1 + 1 ≤ sizeLine := by decide
  have sz4 : (0 : Nat) + 1 + 1 + 1 + 1 ≤ sizeLine := by decide
  have sz7 : (0 : Nat) + 1 + 1 + 1 + 1 + 1 + 1 + 1 ≤ sizeLine := by decide
  have sz8 : (0 : Nat) + 1 + 1 + 1 + 1 + 1 + 1 + 1 + 1 ≤ sizeLine := by decide
  refine thk_of (x := bp "point") (ρ1 := [o0, some (.own (.lst ds)), o2, o3, o4, o5, o6, o7, o8, o9, o10, some (.sh (.lst [b0, b1, b2, b3])), some (.sh (.lst [c0, c1, c2, c3])), o13, none, none, none]) (ρ2 := ([o0, some (.own (.lst ds)), o2, o3, o4, o5, o6, o7, o8, o9, o10, some (.sh (.lst [b0, b1, b2, b3])), some (.sh (.lst [c0, c1, c2, c3])), o13, none, none, none] : Env).map hideT) rfl ?_ (part_p _)
  simp only [List.map_cons, List.map_nil, q_hide]
  simp only [q_od1, q_od2, q_od3, q_od4, q_bind, q_bindx, q_s, q_sx, q_nx, q_rt, q_bk, q_ct, q_ex, q_seq, q_nil, q_if, q_expr, q_set, q_put, q_puto, q_puta, q_lookPs, q_lookPo, q_ret0, q_ret, q_reto, q_reta, q_lookRs, q_lookRo, q_c, q_v, q_lookVs, q_lookVo, q_view, q_viewo, q_viewa, q_slots, q_sloto, q_opt, q_e1, q_e2, q_eN, q_an, q_ac, q_views0, q_views, q_shs0, q_shs, q_f, q_frz, q_frzo, q_frza, q_lookFs, q_lookFo, q_lst, q_tup, q_mkL, q_mkT, q_cB, q_cV, q_cAnd, q_cOr, q_cNot, q_eIf, q_isBl, q_eAnd, q_eOr, q_eNot, q_andT, q_andF, q_orT, q_orF, q_notK, q_ix, q_ixJ, q_lookJ, q_ixK, q_lookK, q_stK, q_call, q_callO, q_callM, q_callK, q_lookC, q_resC, q_resCx, q_lent, q_lookL, q_resM, q_resMo, q_resMn, q_resMx, q_resP, q_resPo, q_resPn, q_resPx, q_asBl, List.not_mem_nil, q_lt, q_le, q_gt, q_ge, q_add, q_sub, q_mul, q_fdiv, q_mod, q_neg, q_int, q_intb, q_abs, q_len, q_lent1, q_lenr, q_ixl, q_ixt, q_ixr, q_trub, q_trun, q_trui, q_trul, q_trut, q_isn, q_isNn, q_isiT, at0, at1, at2, ixN1, ixN2, startE, List.map_cons, List.map_nil, List.length_cons, List.length_nil, List.replicate, List.cons_append, List.nil_append, List.getElem?_cons_zero, List.getElem?_cons_succ, List.set_cons_zero, List.set_cons_succ, Option.map_some, Option.bind_some, Option.map_none, Option.bind_none, Nat.reduceAdd, Nat.reduceSub, if_true, if_false, Bool.false_eq_true, decide_true, decide_false, Bool.not_true, Bool.not_false, reduceIte, List.length_map, sz2, at3, c]
theorem th4_sh (hb0 : b0 ∈ bads) (hb1 : b1 ∈ bads) (hb2 : b2 ∈ bads) (hb3 : b3 ∈ bads) : eThk [] (eCall d_side_of (aCons (eF [] (eLst (aCons (eC (.int 1)) (aCons (eC (.int 1)) (aNil))))) (aCons (eTup (aCons (eC (.int 1)) (aCons (eC (.int 1)) (aNil)))) (aCons (eTup (aCons (eC (.int 0)) (aCons (eC (.int 0)) (aNil)))) (aNil))))) d__law_part [o0, some (.own (.lst ds)), o2, o3, o4, o5, o6, o7, o8, o9, o10, some (.sh (.lst [b0, b1, b2, b3])), some (.sh (.lst [c0, c1, c2, c3])), o13, none, none, none] = .ok (.sh (.tup [.str "misfit", .str "other"])) [o0, some (.own (.lst ds)), o2, o3, o4, o5, o6, o7, o8, o9, o10, some (.sh (.lst [b0, b1, b2, b3])), some (.sh (.lst [c0, c1, c2, c3])), o13, none, none, none] := by
  have c := fun ρ => callP_ex (ρ := ρ) (x4)
  have sz1 : (0 : Nat) + 1 ≤ sizeLine := by decide
  have sz2 : (0 : Nat) + 1 + 1 ≤ sizeLine := by decide
  have sz3 : (0 : Nat) + 1 + 1 + 1 ≤ sizeLine := by decide
  have sz4 : (0 : Nat) + 1 + 1 + 1 + 1 ≤ sizeLine := by decide
  have sz7 : (0 : Nat) + 1 + 1 + 1 + 1 + 1 + 1 + 1 ≤ sizeLine := by decide
  have sz8 : (0 : Nat) + 1 + 1 + 1 + 1 + 1 + 1 + 1 + 1 ≤ sizeLine := by decide
  refine thk_of (x := ⟨"Misfit", [("part", .str "other")]⟩) (ρ1 := [o0, some (.own (.lst ds)), o2, o3, o4, o5, o6, o7, o8, o9, o10, some (.sh (.lst [b0, b1, b2, b3])), some (.sh (.lst [c0, c1, c2, c3])), o13, none, none, none]) (ρ2 := ([o0, some (.own (.lst ds)), o2, o3, o4, o5, o6, o7, o8, o9, o10, some (.sh (.lst [b0, b1, b2, b3])), some (.sh (.lst [c0, c1, c2, c3])), o13, none, none, none] : Env).map hideT) rfl ?_ (part_m _)
  simp only [List.map_cons, List.map_nil, q_hide]
  simp only [q_od1, q_od2, q_od3, q_od4, q_bind, q_bindx, q_s, q_sx, q_nx, q_rt, q_bk, q_ct, q_ex, q_seq, q_nil, q_if, q_expr, q_set, q_put, q_puto, q_puta, q_lookPs, q_lookPo, q_ret0, q_ret, q_reto, q_reta, q_lookRs, q_lookRo, q_c, q_v, q_lookVs, q_lookVo, q_view, q_viewo, q_viewa, q_slots, q_sloto, q_opt, q_e1, q_e2, q_eN, q_an, q_ac, q_views0, q_views, q_shs0, q_shs, q_f, q_frz, q_frzo, q_frza, q_lookFs, q_lookFo, q_lst, q_tup, q_mkL, q_mkT, q_cB, q_cV, q_cAnd, q_cOr, q_cNot, q_eIf, q_isBl, q_eAnd, q_eOr, q_eNot, q_andT, q_andF, q_orT, q_orF, q_notK, q_ix, q_ixJ, q_lookJ, q_ixK, q_lookK, q_stK, q_call, q_callO, q_callM, q_callK, q_lookC, q_resC, q_resCx, q_lent, q_lookL, q_resM, q_resMo, q_resMn, q_resMx, q_resP, q_resPo, q_resPn, q_resPx, q_asBl, List.not_mem_nil, q_lt, q_le, q_gt, q_ge, q_add, q_sub, q_mul, q_fdiv, q_mod, q_neg, q_int, q_intb, q_abs, q_len, q_lent1, q_lenr, q_ixl, q_ixt, q_ixr, q_trub, q_trun, q_trui, q_trul, q_trut, q_isn, q_isNn, q_isiT, at0, at1, at2, ixN1, ixN2, startE, List.map_cons, List.map_nil, List.length_cons, List.length_nil, List.replicate, List.cons_append, List.nil_append, List.getElem?_cons_zero, List.getElem?_cons_succ, List.set_cons_zero, List.set_cons_succ, Option.map_some, Option.bind_some, Option.map_none, Option.bind_none, Nat.reduceAdd, Nat.reduceSub, if_true, if_false, Bool.false_eq_true, decide_true, decide_false, Bool.not_true, Bool.not_false, reduceIte, List.length_map, sz2, at3, c]
theorem th5_sh (hb0 : b0 ∈ bads) (hb1 : b1 ∈ bads) (hb2 : b2 ∈ bads) (hb3 : b3 ∈ bads) : eThk [11, 12] (eCall d_do_meet (aCons (eF [] (Pf.e2 ixD (eV 11) (eC (.int 0)))) (aCons (eF [] (Pf.e2 ixD (eV 12) (eC (.int 1)))) (aCons (eF [] (Pf.e2 ixD (eV 12) (eC (.int 2)))) (aCons (eF [] (Pf.e2 ixD (eV 12) (eC (.int 3)))) (aNil)))))) d__law_part [o0, some (.own (.lst ds)), o2, o3, o4, o5, o6, o7, o8, o9, o10, some (.sh (.lst [b0, b1, b2, b3])), some (.sh (.lst [c0, c1, c2, c3])), o13, none, none, none] = .ok (.sh (.tup [.str "point", .str "one"])) [o0, some (.own (.lst ds)), o2, o3, o4, o5, o6, o7, o8, o9, o10, some (.sh (.lst [b0, b1, b2, b3])), some (.sh (.lst [c0, c1, c2, c3])), o13, none, none, none] := by
  have c := fun ρ => callP_ex (ρ := ρ) (x5 c1 c2 c3 hb0)
  have sz1 : (0 : Nat) + 1 ≤ sizeLine := by decide
  have sz2 : (0 : Nat) + 1 + 1 ≤ sizeLine := by decide
  have sz3 : (0 : Nat) + 1 + 1 + 1 ≤ sizeLine := by decide
  have sz4 : (0 : Nat) + 1 + 1 + 1 + 1 ≤ sizeLine := by decide
  have sz7 : (0 : Nat) + 1 + 1 + 1 + 1 + 1 + 1 + 1 ≤ sizeLine := by decide
  have sz8 : (0 : Nat) + 1 + 1 + 1 + 1 + 1 + 1 + 1 + 1 ≤ sizeLine := by decide
  refine thk_of (x := bp "one") (ρ1 := [o0, some (.own (.lst ds)), o2, o3, o4, o5, o6, o7, o8, o9, o10, some (.sh (.lst [b0, b1, b2, b3])), some (.sh (.lst [c0, c1, c2, c3])), o13, none, none, none]) (ρ2 := ([o0, some (.own (.lst ds)), o2, o3, o4, o5, o6, o7, o8, o9, o10, some (.sh (.lst [b0, b1, b2, b3])), some (.sh (.lst [c0, c1, c2, c3])), o13, none, none, none] : Env).map hideT) rfl ?_ (part_p _)
  simp only [List.map_cons, List.map_nil, q_hide]
  simp only [q_od1, q_od2, q_od3, q_od4, q_bind, q_bindx, q_s, q_sx, q_nx, q_rt, q_bk, q_ct, q_ex, q_seq, q_nil, q_if, q_expr, q_set, q_put, q_puto, q_puta, q_lookPs, q_lookPo, q_ret0, q_ret, q_reto, q_reta, q_lookRs, q_lookRo, q_c, q_v, q_lookVs, q_lookVo, q_view, q_viewo, q_viewa, q_slots, q_sloto, q_opt, q_e1, q_e2, q_eN, q_an, q_ac, q_views0, q_views, q_shs0, q_shs, q_f, q_frz, q_frzo, q_frza, q_lookFs, q_lookFo, q_lst, q_tup, q_mkL, q_mkT, q_cB, q_cV, q_cAnd, q_cOr, q_cNot, q_eIf, q_isBl, q_eAnd, q_eOr, q_eNot, q_andT, q_andF, q_orT, q_orF, q_notK, q_ix, q_ixJ, q_lookJ, q_ixK, q_lookK, q_stK, q_call, q_callO, q_callM, q_callK, q_lookC, q_resC, q_resCx, q_lent, q_lookL, q_resM, q_resMo, q_resMn, q_resMx, q_resP, q_resPo, q_resPn, q_resPx, q_asBl, List.not_mem_nil, q_lt, q_le, q_gt, q_ge, q_add, q_sub, q_mul, q_fdiv, q_mod, q_neg, q_int, q_intb, q_abs, q_len, q_lent1, q_lenr, q_ixl, q_ixt, q_ixr, q_trub, q_trun, q_trui, q_trul, q_trut, q_isn, q_isNn, q_isiT, at0, at1, at2, ixN1, ixN2, startE, List.map_cons, List.map_nil, List.length_cons, List.length_nil, List.replicate, List.cons_append, List.nil_append, List.getElem?_cons_zero, List.getElem?_cons_succ, List.set_cons_zero, List.set_cons_succ, Option.map_some, Option.bind_some, Option.map_none, Option.bind_none, Nat.reduceAdd, Nat.reduceSub, if_true, if_false, Bool.false_eq_true, decide_true, decide_false, Bool.not_true, Bool.not_false, reduceIte, List.length_map, sz2, at3, c]
theorem th6_sh (hb0 : b0 ∈ bads) (hb1 : b1 ∈ bads) (hb2 : b2 ∈ bads) (hb3 : b3 ∈ bads) : eThk [11, 12] (eCall d_do_meet (aCons (eTup (aCons (eC (.int 0)) (aCons (eC (.int 1)) (aNil)))) (aCons (eF [] (Pf.e2 ixD (eV 11) (eC (.int 1)))) (aCons (eF [] (Pf.e2 ixD (eV 12) (eC (.int 2)))) (aCons (eF [] (Pf.e2 ixD (eV 12) (eC (.int 3)))) (aNil)))))) d__law_part [o0, some (.own (.lst ds)), o2, o3, o4, o5, o6, o7, o8, o9, o10, some (.sh (.lst [b0, b1, b2, b3])), some (.sh (.lst [c0, c1, c2, c3])), o13, none, none, none] = .ok (.sh (.tup [.str "point", .str "other"])) [o0, some (.own (.lst ds)), o2, o3, o4, o5, o6, o7, o8, o9, o10, some (.sh (.lst [b0, b1, b2, b3])), some (.sh (.lst [c0, c1, c2, c3])), o13, none, none, none] := by
  have c := fun ρ => callP_ex (ρ := ρ) (x6 c2 c3 hb1)
  have sz1 : (0 : Nat) + 1 ≤ sizeLine := by decide
  have sz2 : (0 : Nat) + 1 + 1 ≤ sizeLine := by decide
  have sz3 : (0 : Nat) + 1 + 1 + 1 ≤ sizeLine := by decide
  have sz4 : (0 : Nat) + 1 + 1 + 1 + 1 ≤ sizeLine := by decide
  have sz7 : (0 : Nat) + 1 + 1 + 1 + 1 + 1 + 1 + 1 ≤ sizeLine := by decide
  have sz8 : (0 : Nat) + 1 + 1 + 1 + 1 + 1 + 1 + 1 + 1 ≤ sizeLine := by decide
  refine thk_of (x := bp "other") (ρ1 := [o0, some (.own (.lst ds)), o2, o3, o4, o5, o6, o7, o8, o9, o10, some (.sh (.lst [b0, b1, b2, b3])), some (.sh (.lst [c0, c1, c2, c3])), o13, none, none, none]) (ρ2 := ([o0, some (.own (.lst ds)), o2, o3, o4, o5, o6, o7, o8, o9, o10, some (.sh (.lst [b0, b1, b2, b3])), some (.sh (.lst [c0, c1, c2, c3])), o13, none, none, none] : Env).map hideT) rfl ?_ (part_p _)
  simp only [List.map_cons, List.map_nil, q_hide]
  simp only [q_od1, q_od2, q_od3, q_od4, q_bind, q_bindx, q_s, q_sx, q_nx, q_rt, q_bk, q_ct, q_ex, q_seq, q_nil, q_if, q_expr, q_set, q_put, q_puto, q_puta, q_lookPs, q_lookPo, q_ret0, q_ret, q_reto, q_reta, q_lookRs, q_lookRo, q_c, q_v, q_lookVs, q_lookVo, q_view, q_viewo, q_viewa, q_slots, q_sloto, q_opt, q_e1, q_e2, q_eN, q_an, q_ac, q_views0, q_views, q_shs0, q_shs, q_f, q_frz, q_frzo, q_frza, q_lookFs, q_lookFo, q_lst, q_tup, q_mkL, q_mkT, q_cB, q_cV, q_cAnd, q_cOr, q_cNot, q_eIf, q_isBl, q_eAnd, q_eOr, q_eNot, q_andT, q_andF, q_orT, q_orF, q_notK, q_ix, q_ixJ, q_lookJ, q_ixK, q_lookK, q_stK, q_call, q_callO, q_callM, q_callK, q_lookC, q_resC, q_resCx, q_lent, q_lookL, q_resM, q_resMo, q_resMn, q_resMx, q_resP, q_resPo, q_resPn, q_resPx, q_asBl, List.not_mem_nil, q_lt, q_le, q_gt, q_ge, q_add, q_sub, q_mul, q_fdiv, q_mod, q_neg, q_int, q_intb, q_abs, q_len, q_lent1, q_lenr, q_ixl, q_ixt, q_ixr, q_trub, q_trun, q_trui, q_trul, q_trut, q_isn, q_isNn, q_isiT, at0, at1, at2, ixN1, ixN2, startE, List.map_cons, List.map_nil, List.length_cons, List.length_nil, List.replicate, List.cons_append, List.nil_append, List.getElem?_cons_zero, List.getElem?_cons_succ, List.set_cons_zero, List.set_cons_succ, Option.map_some, Option.bind_some, Option.map_none, Option.bind_none, Nat.reduceAdd, Nat.reduceSub, if_true, if_false, Bool.false_eq_true, decide_true, decide_false, Bool.not_true, Bool.not_false, reduceIte, List.length_map, sz2, at3, c]
theorem th7_sh (hb0 : b0 ∈ bads) (hb1 : b1 ∈ bads) (hb2 : b2 ∈ bads) (hb3 : b3 ∈ bads) : eThk [11, 12] (eCall d_do_meet (aCons (eTup (aCons (eC (.int 0)) (aCons (eC (.int 1)) (aNil)))) (aCons (eTup (aCons (eC (.int 0)) (aCons (eC (.int 0)) (aNil)))) (aCons (eF [] (Pf.e2 ixD (eV 11) (eC (.int 2)))) (aCons (eF [] (Pf.e2 ixD (eV 12) (eC (.int 3)))) (aNil)))))) d__law_part [o0, some (.own (.lst ds)), o2, o3, o4, o5, o6, o7, o8, o9, o10, some (.sh (.lst [b0, b1, b2, b3])), some (.sh (.lst [c0, c1, c2, c3])), o13, none, none, none] = .ok (.sh (.tup [.str "point", .str "third"])) [o0, some (.own (.lst ds)), o2, o3, o4, o5, o6, o7, o8, o9, o10, some (.sh (.lst [b0, b1, b2, b3])), some (.sh (.lst [c0, c1, c2, c3])), o13, none, none, none] := by
  have c := fun ρ => callP_ex (ρ := ρ) (x7 c3 hb2)
  have sz1 : (0 : Nat) + 1 ≤ sizeLine := by decide
  have sz2 : (0 : Nat) + 1 + 1 ≤ sizeLine := by decide
  have sz3 : (0 : Nat) + 1 + 1 + 1 ≤ sizeLine := by decide
  have sz4 : (0 : Nat) + 1 + 1 + 1 + 1 ≤ sizeLine := by decide
  have sz7 : (0 : Nat) + 1 + 1 + 1 + 1 + 1 + 1 + 1 ≤ sizeLine := by decide
  have sz8 : (0 : Nat) + 1 + 1 + 1 + 1 + 1 + 1 + 1 + 1 ≤ sizeLine := by decide
  refine thk_of (x := bp "third") (ρ1 := [o0, some (.own (.lst ds)), o2, o3, o4, o5, o6, o7, o8, o9, o10, some (.sh (.lst [b0, b1, b2, b3])), some (.sh (.lst [c0, c1, c2, c3])), o13, none, none, none]) (ρ2 := ([o0, some (.own (.lst ds)), o2, o3, o4, o5, o6, o7, o8, o9, o10, some (.sh (.lst [b0, b1, b2, b3])), some (.sh (.lst [c0, c1, c2, c3])), o13, none, none, none] : Env).map hideT) rfl ?_ (part_p _)
  simp only [List.map_cons, List.map_nil, q_hide]
  simp only [q_od1, q_od2, q_od3, q_od4, q_bind, q_bindx, q_s, q_sx, q_nx, q_rt, q_bk, q_ct, q_ex, q_seq, q_nil, q_if, q_expr, q_set, q_put, q_puto, q_puta, q_lookPs, q_lookPo, q_ret0, q_ret, q_reto, q_reta, q_lookRs, q_lookRo, q_c, q_v, q_lookVs, q_lookVo, q_view, q_viewo, q_viewa, q_slots, q_sloto, q_opt, q_e1, q_e2, q_eN, q_an, q_ac, q_views0, q_views, q_shs0, q_shs, q_f, q_frz, q_frzo, q_frza, q_lookFs, q_lookFo, q_lst, q_tup, q_mkL, q_mkT, q_cB, q_cV, q_cAnd, q_cOr, q_cNot, q_eIf, q_isBl, q_eAnd, q_eOr, q_eNot, q_andT, q_andF, q_orT, q_orF, q_notK, q_ix, q_ixJ, q_lookJ, q_ixK, q_lookK, q_stK, q_call, q_callO, q_callM, q_callK, q_lookC, q_resC, q_resCx, q_lent, q_lookL, q_resM, q_resMo, q_resMn, q_resMx, q_resP, q_resPo, q_resPn, q_resPx, q_asBl, List.not_mem_nil, q_lt, q_le, q_gt, q_ge, q_add, q_sub, q_mul, q_fdiv, q_mod, q_neg, q_int, q_intb, q_abs, q_len, q_lent1, q_lenr, q_ixl, q_ixt, q_ixr, q_trub, q_trun, q_trui, q_trul, q_trut, q_isn, q_isNn, q_isiT, at0, at1, at2, ixN1, ixN2, startE, List.map_cons, List.map_nil, List.length_cons, List.length_nil, List.replicate, List.cons_append, List.nil_append, List.getElem?_cons_zero, List.getElem?_cons_succ, List.set_cons_zero, List.set_cons_succ, Option.map_some, Option.bind_some, Option.map_none, Option.bind_none, Nat.reduceAdd, Nat.reduceSub, if_true, if_false, Bool.false_eq_true, decide_true, decide_false, Bool.not_true, Bool.not_false, reduceIte, List.length_map, sz2, at3, c]
theorem th8_sh (hb0 : b0 ∈ bads) (hb1 : b1 ∈ bads) (hb2 : b2 ∈ bads) (hb3 : b3 ∈ bads) : eThk [11] (eCall d_do_meet (aCons (eTup (aCons (eC (.int 0)) (aCons (eC (.int 1)) (aNil)))) (aCons (eTup (aCons (eC (.int 0)) (aCons (eC (.int 0)) (aNil)))) (aCons (eTup (aCons (eC (.int 0)) (aCons (eC (.int 0)) (aNil)))) (aCons (eF [] (Pf.e2 ixD (eV 11) (eC (.int 3)))) (aNil)))))) d__law_part [o0, some (.own (.lst ds)), o2, o3, o4, o5, o6, o7, o8, o9, o10, some (.sh (.lst [b0, b1, b2, b3])), some (.sh (.lst [c0, c1, c2, c3])), o13, none, none, none] = .ok (.sh (.tup [.str "point", .str "fourth"])) [o0, some (.own (.lst ds)), o2, o3, o4, o5, o6, o7, o8, o9, o10, some (.sh (.lst [b0, b1, b2, b3])), some (.sh (.lst [c0, c1, c2, c3])), o13, none, none, none] := by
  have c := fun ρ => callP_ex (ρ := ρ) (x8 hb3)
  have sz1 : (0 : Nat) + 1 ≤ sizeLine := by decide
  have sz2 : (0 : Nat) + 1 + 1 ≤ sizeLine := by decide
  have sz3 : (0 : Nat) + 1 + 1 + 1 ≤ sizeLine := by decide
  have sz4 : (0 : Nat) + 1 + 1 + 1 + 1 ≤ sizeLine := by decide
  have sz7 : (0 : Nat) + 1 + 1 + 1 + 1 + 1 + 1 + 1 ≤ sizeLine := by decide
  have sz8 : (0 : Nat) + 1 + 1 + 1 + 1 + 1 + 1 + 1 + 1 ≤ sizeLine := by decide
  refine thk_of (x := bp "fourth") (ρ1 := [o0, some (.own (.lst ds)), o2, o3, o4, o5, o6, o7, o8, o9, o10, some (.sh (.lst [b0, b1, b2, b3])), some (.sh (.lst [c0, c1, c2, c3])), o13, none, none, none]) (ρ2 := ([o0, some (.own (.lst ds)), o2, o3, o4, o5, o6, o7, o8, o9, o10, some (.sh (.lst [b0, b1, b2, b3])), some (.sh (.lst [c0, c1, c2, c3])), o13, none, none, none] : Env).map hideT) rfl ?_ (part_p _)
  simp only [List.map_cons, List.map_nil, q_hide]
  simp only [q_od1, q_od2, q_od3, q_od4, q_bind, q_bindx, q_s, q_sx, q_nx, q_rt, q_bk, q_ct, q_ex, q_seq, q_nil, q_if, q_expr, q_set, q_put, q_puto, q_puta, q_lookPs, q_lookPo, q_ret0, q_ret, q_reto, q_reta, q_lookRs, q_lookRo, q_c, q_v, q_lookVs, q_lookVo, q_view, q_viewo, q_viewa, q_slots, q_sloto, q_opt, q_e1, q_e2, q_eN, q_an, q_ac, q_views0, q_views, q_shs0, q_shs, q_f, q_frz, q_frzo, q_frza, q_lookFs, q_lookFo, q_lst, q_tup, q_mkL, q_mkT, q_cB, q_cV, q_cAnd, q_cOr, q_cNot, q_eIf, q_isBl, q_eAnd, q_eOr, q_eNot, q_andT, q_andF, q_orT, q_orF, q_notK, q_ix, q_ixJ, q_lookJ, q_ixK, q_lookK, q_stK, q_call, q_callO, q_callM, q_callK, q_lookC, q_resC, q_resCx, q_lent, q_lookL, q_resM, q_resMo, q_resMn, q_resMx, q_resP, q_resPo, q_resPn, q_resPx, q_asBl, List.not_mem_nil, q_lt, q_le, q_gt, q_ge, q_add, q_sub, q_mul, q_fdiv, q_mod, q_neg, q_int, q_intb, q_abs, q_len, q_lent1, q_lenr, q_ixl, q_ixt, q_ixr, q_trub, q_trun, q_trui, q_trul, q_trut, q_isn, q_isNn, q_isiT, at0, at1, at2, ixN1, ixN2, startE, List.map_cons, List.map_nil, List.length_cons, List.length_nil, List.replicate, List.cons_append, List.nil_append, List.getElem?_cons_zero, List.getElem?_cons_succ, List.set_cons_zero, List.set_cons_succ, Option.map_some, Option.bind_some, Option.map_none, Option.bind_none, Nat.reduceAdd, Nat.reduceSub, if_true, if_false, Bool.false_eq_true, decide_true, decide_false, Bool.not_true, Bool.not_false, reduceIte, List.length_map, sz2, at3, c]
theorem h1_ok (hb0 : b0 ∈ bads) (hb1 : b1 ∈ bads) (hb2 : b2 ∈ bads) (hb3 : b3 ∈ bads) : sSet [1000] 13 (eLst (aCons (eF [1000] (eThk [11, 12] (eCall d_side_of (aCons (eF [] (Pf.e2 ixD (eV 11) (eC (.int 0)))) (aCons (eF [] (Pf.e2 ixD (eV 12) (eC (.int 1)))) (aCons (eF [] (Pf.e2 ixD (eV 12) (eC (.int 2)))) (aNil))))) d__law_part)) (aCons (eF [1000] (eThk [11, 12] (eCall d_side_of (aCons (eTup (aCons (eC (.int 1)) (aCons (eC (.int 1)) (aNil)))) (aCons (eF [] (Pf.e2 ixD (eV 11) (eC (.int 1)))) (aCons (eF [] (Pf.e2 ixD (eV 12) (eC (.int 2)))) (aNil))))) d__law_part)) (aCons (eF [1000] (eThk [11] (eCall d_side_of (aCons (eTup (aCons (eC (.int 1)) (aCons (eC (.int 1)) (aNil)))) (aCons (eF [] (eLst (aCons (eC (.int 1)) (aCons (eC (.int 1)) (aNil))))) (aCons (eF [] (Pf.e2 ixD (eV 11) (eC (.int 2)))) (aNil))))) d__law_part)) (aNil))))) [o0, some (.own (.lst ds)), o2, o3, o4, o5, o6, o7, o8, o9, o10, some (.sh (.lst [b0, b1, b2, b3])), some (.own (.lst [c0, c1, c2, c3])), none, none, none, none] = .nx [o0, some (.own (.lst ds)), o2, o3, o4, o5, o6, o7, o8, o9, o10, some (.sh (.lst [b0, b1, b2, b3])), some (.sh (.lst [c0, c1, c2, c3])), some (.own (.lst [.tup [.str "point", .str "one"], .tup [.str "point", .str "other"], .tup [.str "point", .str "point"]])), none, none, none] := by
  have sz1 : (0 : Nat) + 1 ≤ sizeLine := by decide
  have sz2 : (0 : Nat) + 1 + 1 ≤ sizeLine := by decide
  have sz3 : (0 : Nat) + 1 + 1 + 1 ≤ sizeLine := by decide
  have sz4 : (0 : Nat) + 1 + 1 + 1 + 1 ≤ sizeLine := by decide
  have sz7 : (0 : Nat) + 1 + 1 + 1 + 1 + 1 + 1 + 1 ≤ sizeLine := by decide
  have sz8 : (0 : Nat) + 1 + 1 + 1 + 1 + 1 + 1 + 1 + 1 ≤ sizeLine := by decide
  have t1 := th1_own (o0 := o0) (o2 := o2) (o3 := o3) (o4 := o4) (o5 := o5) (o6 := o6) (o7 := o7) (o8 := o8) (o9 := o9) (o10 := o10) (o13 := none) (ds := ds) (c0 := c0) (c1 := c1) (c2 := c2) (c3 := c3) hb0 hb1 hb2 hb3
  have t2 := th2_sh (o0 := o0) (o2 := o2) (o3 := o3) (o4 := o4) (o5 := o5) (o6 := o6) (o7 := o7) (o8 := o8) (o9 := o9) (o10 := o10) (o13 := none) (ds := ds) (c0 := c0) (c1 := c1) (c2 := c2) (c3 := c3) hb0 hb1 hb2 hb3
  have t3 := th3_sh (o0 := o0) (o2 := o2) (o3 := o3) (o4 := o4) (o5 := o5) (o6 := o6) (o7 := o7) (o8 := o8) (o9 := o9) (o10 := o10) (o13 := none) (ds := ds) (c0 := c0) (c1 := c1) (c2 := c2) (c3 := c3) hb0 hb1 hb2 hb3
  simp only [q_od1, q_od2, q_od3, q_od4, q_bind, q_bindx, q_s, q_sx, q_nx, q_rt, q_bk, q_ct, q_ex, q_seq, q_nil, q_if, q_expr, q_set, q_put, q_puto, q_puta, q_lookPs, q_lookPo, q_ret0, q_ret, q_reto, q_reta, q_lookRs, q_lookRo, q_c, q_v, q_lookVs, q_lookVo, q_view, q_viewo, q_viewa, q_slots, q_sloto, q_opt, q_e1, q_e2, q_eN, q_an, q_ac, q_views0, q_views, q_shs0, q_shs, q_f, q_frz, q_frzo, q_frza, q_lookFs, q_lookFo, q_lst, q_tup, q_mkL, q_mkT, q_cB, q_cV, q_cAnd, q_cOr, q_cNot, q_eIf, q_isBl, q_eAnd, q_eOr, q_eNot, q_andT, q_andF, q_orT, q_orF, q_notK, q_ix, q_ixJ, q_lookJ, q_ixK, q_lookK, q_stK, q_call, q_callO, q_callM, q_callK, q_lookC, q_resC, q_resCx, q_lent, q_lookL, q_resM, q_resMo, q_resMn, q_resMx, q_resP, q_resPo, q_resPn, q_resPx, q_asBl, List.not_mem_nil, q_lt, q_le, q_gt, q_ge, q_add, q_sub, q_mul, q_fdiv, q_mod, q_neg, q_int, q_intb, q_abs, q_len, q_lent1, q_lenr, q_ixl, q_ixt, q_ixr, q_trub, q_trun, q_trui, q_trul, q_trut, q_isn, q_isNn, q_isiT, at0, at1, at2, ixN1, ixN2, startE, List.map_cons, List.map_nil, List.length_cons, List.length_nil, List.replicate, List.cons_append, List.nil_append, List.getElem?_cons_zero, List.getElem?_cons_succ, List.set_cons_zero, List.set_cons_succ, Option.map_some, Option.bind_some, Option.map_none, Option.bind_none, Nat.reduceAdd, Nat.reduceSub, if_true, if_false, Bool.false_eq_true, decide_true, decide_false, Bool.not_true, Bool.not_false, reduceIte, List.length_map, t1, t2, t3, sz3]
theorem h2_ok (hb0 : b0 ∈ bads) (hb1 : b1 ∈ bads) (hb2 : b2 ∈ bads) (hb3 : b3 ∈ bads) : sSet [1000] 13 (Pf.e2 addD (eV 13) (eLst (aCons (eF [1000] (eThk [] (eCall d_side_of (aCons (eF [] (eLst (aCons (eC (.int 1)) (aCons (eC (.int 1)) (aNil))))) (aCons (eTup (aCons (eC (.int 1)) (aCons (eC (.int 1)) (aNil)))) (aCons (eTup (aCons (eC (.int 0)) (aCons (eC (.int 0)) (aNil)))) (aNil))))) d__law_part)) (aCons (eF [1000] (eThk [11, 12] (eCall d_do_meet (aCons (eF [] (Pf.e2 ixD (eV 11) (eC (.int 0)))) (aCons (eF [] (Pf.e2 ixD (eV 12) (eC (.int 1)))) (aCons (eF [] (Pf.e2 ixD (eV 12) (eC (.int 2)))) (aCons (eF [] (Pf.e2 ixD (eV 12) (eC (.int 3)))) (aNil)))))) d__law_part)) (aNil))))) [o0, some (.own (.lst ds)), o2, o3, o4, o5, o6, o7, o8, o9, o10, some (.sh (.lst [b0, b1, b2, b3])), some (.sh (.lst [c0, c1, c2, c3])), some (.own (.lst [.tup [.str "point", .str "one"], .tup [.str "point", .str "other"], .tup [.str "point", .str "point"]])), none, none, none] = .nx [o0, some (.own (.lst ds)), o2, o3, o4, o5, o6, o7, o8, o9, o10, some (.sh (.lst [b0, b1, b2, b3])), some (.sh (.lst [c0, c1, c2, c3])), some (.own (.lst [.tup [.str "point", .str "one"], .tup [.str "point", .str "other"], .tup [.str "point", .str "point"], .tup [.str "misfit", .str "other"], .tup [.str "point", .str "one"]])), none, none, none] := by
  have sz1 : (0 : Nat) + 1 ≤ sizeLine := by decide
  have sz2 : (0 : Nat) + 1 + 1 ≤ sizeLine := by decide
  have sz3 : (0 : Nat) + 1 + 1 + 1 ≤ sizeLine := by decide
  have sz4 : (0 : Nat) + 1 + 1 + 1 + 1 ≤ sizeLine := by decide
  have sz7 : (0 : Nat) + 1 + 1 + 1 + 1 + 1 + 1 + 1 ≤ sizeLine := by decide
  have sz8 : (0 : Nat) + 1 + 1 + 1 + 1 + 1 + 1 + 1 + 1 ≤ sizeLine := by decide
  have t4 := th4_sh (o0 := o0) (o2 := o2) (o3 := o3) (o4 := o4) (o5 := o5) (o6 := o6) (o7 := o7) (o8 := o8) (o9 := o9) (o10 := o10) (o13 := some (.own (.lst [.tup [.str "point", .str "one"], .tup [.str "point", .str "other"], .tup [.str "point", .str "point"]]))) (ds := ds) (c0 := c0) (c1 := c1) (c2 := c2) (c3 := c3) hb0 hb1 hb2 hb3
  have t5 := th5_sh (o0 := o0) (o2 := o2) (o3 := o3) (o4 := o4) (o5 := o5) (o6 := o6) (o7 := o7) (o8 := o8) (o9 := o9) (o10 := o10) (o13 := some (.own (.lst [.tup [.str "point", .str "one"], .tup [.str "point", .str "other"], .tup [.str "point", .str "point"]]))) (ds := ds) (c0 := c0) (c1 := c1) (c2 := c2) (c3 := c3) hb0 hb1 hb2 hb3
  have ad : addD (.lst [.tup [.str "point", .str "one"], .tup [.str "point", .str "other"], .tup [.str "point", .str "point"]]) (.lst [.tup [.str "misfit", .str "other"], .tup [.str "point", .str "one"]]) = some (.own (.lst [.tup [.str "point", .str "one"], .tup [.str "point", .str "other"], .tup [.str "point", .str "point"], .tup [.str "misfit", .str "other"], .tup [.str "point", .str "one"]])) := by kernel_rfl
  simp only [q_od1, q_od2, q_od3, q_od4, q_bind, q_bindx, q_s, q_sx, q_nx, q_rt, q_bk, q_ct, q_ex, q_seq, q_nil, q_if, q_expr, q_set, q_put, q_puto, q_puta, q_lookPs, q_lookPo, q_ret0, q_ret, q_reto, q_reta, q_lookRs, q_lookRo, q_c, q_v, q_lookVs, q_lookVo, q_view, q_viewo, q_viewa, q_slots, q_sloto, q_opt, q_e1, q_e2, q_eN, q_an, q_ac, q_views0, q_views, q_shs0, q_shs, q_f, q_frz, q_frzo, q_frza, q_lookFs, q_lookFo, q_lst, q_tup, q_mkL, q_mkT, q_cB, q_cV, q_cAnd, q_cOr, q_cNot, q_eIf, q_isBl, q_eAnd, q_eOr, q_eNot, q_andT, q_andF, q_orT, q_orF, q_notK, q_ix, q_ixJ, q_lookJ, q_ixK, q_lookK, q_stK, q_call, q_callO, q_callM, q_callK, q_lookC, q_resC, q_resCx, q_lent, q_lookL, q_resM, q_resMo, q_resMn, q_resMx, q_resP, q_resPo, q_resPn, q_resPx, q_asBl, List.not_mem_nil, q_lt, q_le, q_gt, q_ge, q_add, q_sub, q_mul, q_fdiv, q_mod, q_neg, q_int, q_intb, q_abs, q_len, q_lent1, q_lenr, q_ixl, q_ixt, q_ixr, q_trub, q_trun, q_trui, q_trul, q_trut, q_isn, q_isNn, q_isiT, at0, at1, at2, ixN1, ixN2, startE, List.map_cons, List.map_nil, List.length_cons, List.length_nil, List.replicate, List.cons_append, List.nil_append, List.getElem?_cons_zero, List.getElem?_cons_succ, List.set_cons_zero, List.set_cons_succ, Option.map_some, Option.bind_some, Option.map_none, Option.bind_none, Nat.reduceAdd, Nat.reduceSub, if_true, if_false, Bool.false_eq_true, decide_true, decide_false, Bool.not_true, Bool.not_false, reduceIte, List.length_map, t4, t5, sz2, ad]
theorem h3_ok (hb0 : b0 ∈ bads) (hb1 : b1 ∈ bads) (hb2 : b2 ∈ bads) (hb3 : b3 ∈ bads) : sSet [1000] 13 (Pf.e2 addD (eV 13) (eLst (aCons (eF [1000] (eThk [11, 12] (eCall d_do_meet (aCons (eTup (aCons (eC (.int 0)) (aCons (eC (.int 1)) (aNil)))) (aCons (eF [] (Pf.e2 ixD (eV 11) (eC (.int 1)))) (aCons (eF [] (Pf.e2 ixD (eV 12) (eC (.int 2)))) (aCons (eF [] (Pf.e2 ixD (eV 12) (eC (.int 3)))) (aNil)))))) d__law_part)) (aCons (eF [1000] (eThk [11, 12] (eCall d_do_meet (aCons (eTup (aCons (eC (.int 0)) (aCons (eC (.int 1)) (aNil)))) (aCons (eTup (aCons (eC (.int 0)) (aCons (eC (.int 0)) (aNil)))) (aCons (eF [] (Pf.e2 ixD (eV 11) (eC (.int 2)))) (aCons (eF [] (Pf.e2 ixD (eV 12) (eC (.int 3)))) (aNil)))))) d__law_part)) (aNil))))) [o0, some (.own (.lst ds)), o2, o3, o4, o5, o6, o7, o8, o9, o10, some (.sh (.lst [b0, b1, b2, b3])), some (.sh (.lst [c0, c1, c2, c3])), some (.own (.lst [.tup [.str "point", .str "one"], .tup [.str "point", .str "other"], .tup [.str "point", .str "point"], .tup [.str "misfit", .str "other"], .tup [.str "point", .str "one"]])), none, none, none] = .nx [o0, some (.own (.lst ds)), o2, o3, o4, o5, o6, o7, o8, o9, o10, some (.sh (.lst [b0, b1, b2, b3])), some (.sh (.lst [c0, c1, c2, c3])), some (.own (.lst [.tup [.str "point", .str "one"], .tup [.str "point", .str "other"], .tup [.str "point", .str "point"], .tup [.str "misfit", .str "other"], .tup [.str "point", .str "one"], .tup [.str "point", .str "other"], .tup [.str "point", .str "third"]])), none, none, none] := by
  have sz1 : (0 : Nat) + 1 ≤ sizeLine := by decide
  have sz2 : (0 : Nat) + 1 + 1 ≤ sizeLine := by decide
  have sz3 : (0 : Nat) + 1 + 1 + 1 ≤ sizeLine := by decide
  have sz4 : (0 : Nat) + 1 + 1 + 1 + 1 ≤ sizeLine := by decide
  have sz7 : (0 : Nat) + 1 + 1 + 1 + 1 + 1 + 1 + 1 ≤ sizeLine := by decide
  have sz8 : (0 : Nat) + 1 + 1 + 1 + 1 + 1 + 1 + 1 + 1 ≤ sizeLine := by decide
  have t6 := th6_sh (o0 := o0) (o2 := o2) (o3 := o3) (o4 := o4) (o5 := o5) (o6 := o6) (o7 := o7) (o8 := o8) (o9 := o9) (o10 := o10) (o13 := some (.own (.lst [.tup [.str "point", .str "one"], .tup [.str "point", .str "other"], .tup [.str "point", .str "point"], .tup [.str "misfit", .str "other"], .tup [.str "point", .str "one"]]))) (ds := ds) (c0 := c0) (c1 := c1) (c2 := c2) (c3 := c3) hb0 hb1 hb2 hb3
  have t7 := th7_sh (o0 := o0) (o2 := o2) (o3 := o3) (o4 := o4) (o5 := o5) (o6 := o6) (o7 := o7) (o8 := o8) (o9 := o9) (o10 := o10) (o13 := some (.own (.lst [.tup [.str "point", .str "one"], .tup [.str "point", .str "other"], .tup [.str "point", .str "point"], .tup [.str "misfit", .str "other"], .tup [.str "point", .str "one"]]))) (ds := ds) (c0 := c0) (c1 := c1) (c2 := c2) (c3 := c3) hb0 hb1 hb2 hb3
  have ad : addD (.lst [.tup [.str "point", .str "one"], .tup [.str "point", .str "other"], .tup [.str "point", .str "point"], .tup [.str "misfit", .str "other"], .tup [.str "point", .str "one"]]) (.lst [.tup [.str "point", .str "other"], .tup [.str "point", .str "third"]]) = some (.own (.lst [.tup [.str "point", .str "one"], .tup [.str "point", .str "other"], .tup [.str "point", .str "point"], .tup [.str "misfit", .str "other"], .tup [.str "point", .str "one"], .tup [.str "point", .str "other"], .tup [.str "point", .str "third"]])) := by kernel_rfl
  simp only [q_od1, q_od2, q_od3, q_od4, q_bind, q_bindx, q_s, q_sx, q_nx, q_rt, q_bk, q_ct, q_ex, q_seq, q_nil, q_if, q_expr, q_set, q_put, q_puto, q_puta, q_lookPs, q_lookPo, q_ret0, q_ret, q_reto, q_reta, q_lookRs, q_lookRo, q_c, q_v, q_lookVs, q_lookVo, q_view, q_viewo, q_viewa, q_slots, q_sloto, q_opt, q_e1, q_e2, q_eN, q_an, q_ac, q_views0, q_views, q_shs0, q_shs, q_f, q_frz, q_frzo, q_frza, q_lookFs, q_lookFo, q_lst, q_tup, q_mkL, q_mkT, q_cB, q_cV, q_cAnd, q_cOr, q_cNot, q_eIf, q_isBl, q_eAnd, q_eOr, q_eNot, q_andT, q_andF, q_orT, q_orF, q_notK, q_ix, q_ixJ, q_lookJ, q_ixK, q_lookK, q_stK, q_call, q_callO, q_callM, q_callK, q_lookC, q_resC, q_resCx, q_lent, q_lookL, q_resM, q_resMo, q_resMn, q_resMx, q_resP, q_resPo, q_resPn, q_resPx, q_asBl, List.not_mem_nil, q_lt, q_le, q_gt, q_ge, q_add, q_sub, q_mul, q_fdiv, q_mod, q_neg, q_int, q_intb, q_abs, q_len, q_lent1, q_lenr, q_ixl, q_ixt, q_ixr, q_trub, q_trun, q_trui, q_trul, q_trut, q_isn, q_isNn, q_isiT, at0, at1, at2, ixN1, ixN2, startE, List.map_cons, List.map_nil, List.length_cons, List.length_nil, List.replicate, List.cons_append, List.nil_append, List.getElem?_cons_zero, List.getElem?_cons_succ, List.set_cons_zero, List.set_cons_succ, Option.map_some, Option.bind_some, Option.map_none, Option.bind_none, Nat.reduceAdd, Nat.reduceSub, if_true, if_false, Bool.false_eq_true, decide_true, decide_false, Bool.not_true, Bool.not_false, reduceIte, List.length_map, t6, t7, sz2, ad]
theorem h4_ok (hb0 : b0 ∈ bads) (hb1 : b1 ∈ bads) (hb2 : b2 ∈ bads) (hb3 : b3 ∈ bads) : sExpr (eBM 13 appD (aCons (eF [1000] (eThk [11] (eCall d_do_meet (aCons (eTup (aCons (eC (.int 0)) (aCons (eC (.int 1)) (aNil)))) (aCons (eTup (aCons (eC (.int 0)) (aCons (eC (.int 0)) (aNil)))) (aCons (eTup (aCons (eC (.int 0)) (aCons (eC (.int 0)) (aNil)))) (aCons (eF [] (Pf.e2 ixD (eV 11) (eC (.int 3)))) (aNil)))))) d__law_part)) (aNil))) [o0, some (.own (.lst ds)), o2, o3, o4, o5, o6, o7, o8, o9, o10, some (.sh (.lst [b0, b1, b2, b3])), some (.sh (.lst [c0, c1, c2, c3])), some (.own (.lst [.tup [.str "point", .str "one"], .tup [.str "point", .str "other"], .tup [.str "point", .str "point"], .tup [.str "misfit", .str "other"], .tup [.str "point", .str "one"], .tup [.str "point", .str "other"], .tup [.str "point", .str "third"]])), none, none, none] = .nx [o0, some (.own (.lst ds)), o2, o3, o4, o5, o6, o7, o8, o9, o10, some (.sh (.lst [b0, b1, b2, b3])), some (.sh (.lst [c0, c1, c2, c3])), some (.own (.lst [.tup [.str "point", .str "one"], .tup [.str "point", .str "other"], .tup [.str "point", .str "point"], .tup [.str "misfit", .str "other"], .tup [.str "point", .str "one"], .tup [.str "point", .str "other"], .tup [.str "point", .str "third"], .tup [.str "point", .str "fourth"]])), none, none, none] := by
  have sz1 : (0 : Nat) + 1 ≤ sizeLine := by decide
  have sz2 : (0 : Nat) + 1 + 1 ≤ sizeLine := by decide
  have sz3 : (0 : Nat) + 1 + 1 + 1 ≤ sizeLine := by decide
  have sz4 : (0 : Nat) + 1 + 1 + 1 + 1 ≤ sizeLine := by decide
  have sz7 : (0 : Nat) + 1 + 1 + 1 + 1 + 1 + 1 + 1 ≤ sizeLine := by decide
  have sz8 : (0 : Nat) + 1 + 1 + 1 + 1 + 1 + 1 + 1 + 1 ≤ sizeLine := by decide
  have t8 := th8_sh (o0 := o0) (o2 := o2) (o3 := o3) (o4 := o4) (o5 := o5) (o6 := o6) (o7 := o7) (o8 := o8) (o9 := o9) (o10 := o10) (o13 := some (.own (.lst [.tup [.str "point", .str "one"], .tup [.str "point", .str "other"], .tup [.str "point", .str "point"], .tup [.str "misfit", .str "other"], .tup [.str "point", .str "one"], .tup [.str "point", .str "other"], .tup [.str "point", .str "third"]]))) (ds := ds) (c0 := c0) (c1 := c1) (c2 := c2) (c3 := c3) hb0 hb1 hb2 hb3
  have ad : appD [.tup [.str "point", .str "one"], .tup [.str "point", .str "other"], .tup [.str "point", .str "point"], .tup [.str "misfit", .str "other"], .tup [.str "point", .str "one"], .tup [.str "point", .str "other"], .tup [.str "point", .str "third"]] [.tup [.str "point", .str "fourth"]] = some (.non, [.tup [.str "point", .str "one"], .tup [.str "point", .str "other"], .tup [.str "point", .str "point"], .tup [.str "misfit", .str "other"], .tup [.str "point", .str "one"], .tup [.str "point", .str "other"], .tup [.str "point", .str "third"], .tup [.str "point", .str "fourth"]]) := by kernel_rfl
  have e : aCons (eF [1000] (eThk [11] (eCall d_do_meet (aCons (eTup (aCons (eC (.int 0)) (aCons (eC (.int 1)) (aNil)))) (aCons (eTup (aCons (eC (.int 0)) (aCons (eC (.int 0)) (aNil)))) (aCons (eTup (aCons (eC (.int 0)) (aCons (eC (.int 0)) (aNil)))) (aCons (eF [] (Pf.e2 ixD (eV 11) (eC (.int 3)))) (aNil)))))) d__law_part)) (aNil) [o0, some (.own (.lst ds)), o2, o3, o4, o5, o6, o7, o8, o9, o10, some (.sh (.lst [b0, b1, b2, b3])), some (.sh (.lst [c0, c1, c2, c3])), some (.own (.lst [.tup [.str "point", .str "one"], .tup [.str "point", .str "other"], .tup [.str "point", .str "point"], .tup [.str "misfit", .str "other"], .tup [.str "point", .str "one"], .tup [.str "point", .str "other"], .tup [.str "point", .str "third"]])), none, none, none] = .ok [.sh (.tup [.str "point", .str "fourth"])] [o0, some (.own (.lst ds)), o2, o3, o4, o5, o6, o7, o8, o9, o10, some (.sh (.lst [b0, b1, b2, b3])), some (.sh (.lst [c0, c1, c2, c3])), some (.own (.lst [.tup [.str "point", .str "one"], .tup [.str "point", .str "other"], .tup [.str "point", .str "point"], .tup [.str "misfit", .str "other"], .tup [.str "point", .str "one"], .tup [.str "point", .str "other"], .tup [.str "point", .str "third"]])), none, none, none] := by simp only [q_od1, q_od2, q_od3, q_od4, q_bind, q_bindx, q_s, q_sx, q_nx, q_rt, q_bk, q_ct, q_ex, q_seq, q_nil, q_if, q_expr, q_set, q_put, q_puto, q_puta, q_lookPs, q_lookPo, q_ret0, q_ret, q_reto, q_reta, q_lookRs, q_lookRo, q_c, q_v, q_lookVs, q_lookVo, q_view, q_viewo, q_viewa, q_slots, q_sloto, q_opt, q_e1, q_e2, q_eN, q_an, q_ac, q_views0, q_views, q_shs0, q_shs, q_f, q_frz, q_frzo, q_frza, q_lookFs, q_lookFo, q_lst, q_tup, q_mkL, q_mkT, q_cB, q_cV, q_cAnd, q_cOr, q_cNot, q_eIf, q_isBl, q_eAnd, q_eOr, q_eNot, q_andT, q_andF, q_orT, q_orF, q_notK, q_ix, q_ixJ, q_lookJ, q_ixK, q_lookK, q_stK, q_call, q_callO, q_callM, q_callK, q_lookC, q_resC, q_resCx, q_lent, q_lookL, q_resM, q_resMo, q_resMn, q_resMx, q_resP, q_resPo, q_resPn, q_resPx, q_asBl, List.not_mem_nil, q_lt, q_le, q_gt, q_ge, q_add, q_sub, q_mul, q_fdiv, q_mod, q_neg, q_int, q_intb, q_abs, q_len, q_lent1, q_lenr, q_ixl, q_ixt, q_ixr, q_trub, q_trun, q_trui, q_trul, q_trut, q_isn, q_isNn, q_isiT, at0, at1, at2, ixN1, ixN2, startE, List.map_cons, List.map_nil, List.length_cons, List.length_nil, List.replicate, List.cons_append, List.nil_append, List.getElem?_cons_zero, List.getElem?_cons_succ, List.set_cons_zero, List.set_cons_succ, Option.map_some, Option.bind_some, Option.map_none, Option.bind_none, Nat.reduceAdd, Nat.reduceSub, if_true, if_false, Bool.false_eq_true, decide_true, decide_false, Bool.not_true, Bool.not_false, reduceIte, List.length_map, t8]
  show (eBM 13 appD _ _).s _ = _
  rw [bm_of rfl e rfl rfl ad]
  rfl
theorem h5_ok : sRet [1000] (Pf.e2 (asBl eqD) (eV 13) (eLst (aCons (eTup (aCons (eC (.str "point")) (aCons (eC (.str "one")) (aNil)))) (aCons (eTup (aCons (eC (.str "point")) (aCons (eC (.str "other")) (aNil)))) (aCons (eTup (aCons (eC (.str "point")) (aCons (eC (.str "point")) (aNil)))) (aCons (eTup (aCons (eC (.str "misfit")) (aCons (eC (.str "other")) (aNil)))) (aCons (eTup (aCons (eC (.str "point")) (aCons (eC (.str "one")) (aNil)))) (aCons (eTup (aCons (eC (.str "point")) (aCons (eC (.str "other")) (aNil)))) (aCons (eTup (aCons (eC (.str "point")) (aCons (eC (.str "third")) (aNil)))) (aCons (eTup (aCons (eC (.str "point")) (aCons (eC (.str "fourth")) (aNil)))) (aNil))))))))))) [o0, some (.own (.lst ds)), o2, o3, o4, o5, o6, o7, o8, o9, o10, some (.sh (.lst [b0, b1, b2, b3])), some (.sh (.lst [c0, c1, c2, c3])), some (.own (.lst [.tup [.str "point", .str "one"], .tup [.str "point", .str "other"], .tup [.str "point", .str "point"], .tup [.str "misfit", .str "other"], .tup [.str "point", .str "one"], .tup [.str "point", .str "other"], .tup [.str "point", .str "third"], .tup [.str "point", .str "fourth"]])), none, none, none] = .rt (.sh (.bl true)) [o0, some (.own (.lst ds)), o2, o3, o4, o5, o6, o7, o8, o9, o10, some (.sh (.lst [b0, b1, b2, b3])), some (.sh (.lst [c0, c1, c2, c3])), some (.own (.lst [.tup [.str "point", .str "one"], .tup [.str "point", .str "other"], .tup [.str "point", .str "point"], .tup [.str "misfit", .str "other"], .tup [.str "point", .str "one"], .tup [.str "point", .str "other"], .tup [.str "point", .str "third"], .tup [.str "point", .str "fourth"]])), none, none, none] := by
  have sz1 : (0 : Nat) + 1 ≤ sizeLine := by decide
  have sz2 : (0 : Nat) + 1 + 1 ≤ sizeLine := by decide
  have sz3 : (0 : Nat) + 1 + 1 + 1 ≤ sizeLine := by decide
  have sz4 : (0 : Nat) + 1 + 1 + 1 + 1 ≤ sizeLine := by decide
  have sz7 : (0 : Nat) + 1 + 1 + 1 + 1 + 1 + 1 + 1 ≤ sizeLine := by decide
  have sz8 : (0 : Nat) + 1 + 1 + 1 + 1 + 1 + 1 + 1 + 1 ≤ sizeLine := by decide
  have e : eqD (.lst [.tup [.str "point", .str "one"], .tup [.str "point", .str "other"], .tup [.str "point", .str "point"], .tup [.str "misfit", .str "other"], .tup [.str "point", .str "one"], .tup [.str "point", .str "other"], .tup [.str "point", .str "third"], .tup [.str "point", .str "fourth"]]) (.lst [.tup [.str "point", .str "one"], .tup [.str "point", .str "other"], .tup [.str "point", .str "point"], .tup [.str "misfit", .str "other"], .tup [.str "point", .str "one"], .tup [.str "point", .str "other"], .tup [.str "point", .str "third"], .tup [.str "point", .str "fourth"]]) = some true := by kernel_rfl
  simp only [q_od1, q_od2, q_od3, q_od4, q_bind, q_bindx, q_s, q_sx, q_nx, q_rt, q_bk, q_ct, q_ex, q_seq, q_nil, q_if, q_expr, q_set, q_put, q_puto, q_puta, q_lookPs, q_lookPo, q_ret0, q_ret, q_reto, q_reta, q_lookRs, q_lookRo, q_c, q_v, q_lookVs, q_lookVo, q_view, q_viewo, q_viewa, q_slots, q_sloto, q_opt, q_e1, q_e2, q_eN, q_an, q_ac, q_views0, q_views, q_shs0, q_shs, q_f, q_frz, q_frzo, q_frza, q_lookFs, q_lookFo, q_lst, q_tup, q_mkL, q_mkT, q_cB, q_cV, q_cAnd, q_cOr, q_cNot, q_eIf, q_isBl, q_eAnd, q_eOr, q_eNot, q_andT, q_andF, q_orT, q_orF, q_notK, q_ix, q_ixJ, q_lookJ, q_ixK, q_lookK, q_stK, q_call, q_callO, q_callM, q_callK, q_lookC, q_resC, q_resCx, q_lent, q_lookL, q_resM, q_resMo, q_resMn, q_resMx, q_resP, q_resPo, q_resPn, q_resPx, q_asBl, List.not_mem_nil, q_lt, q_le, q_gt, q_ge, q_add, q_sub, q_mul, q_fdiv, q_mod, q_neg, q_int, q_intb, q_abs, q_len, q_lent1, q_lenr, q_ixl, q_ixt, q_ixr, q_trub, q_trun, q_trui, q_trul, q_trut, q_isn, q_isNn, q_isiT, at0, at1, at2, ixN1, ixN2, startE, List.map_cons, List.map_nil, List.length_cons, List.length_nil, List.replicate, List.cons_append, List.nil_append, List.getElem?_cons_zero, List.getElem?_cons_succ, List.set_cons_zero, List.set_cons_succ, Option.map_some, Option.bind_some, Option.map_none, Option.bind_none, Nat.reduceAdd, Nat.reduceSub, if_true, if_false, Bool.false_eq_true, decide_true, decide_false, Bool.not_true, Bool.not_false, reduceIte, List.length_map, sz2, sz8, e]
end
section
variable {o0 o2 o3 o4 o5 o6 o7 o8 o9 o10 : Option T}
theorem bads_ok {n : Nat} {ds : List D} (h : Src n ds) (hn : n + 10 ≤ 1000000) : ∃ b0 b1 b2 b3 ds', sSet [1000] 11 (eLc [1000] [15] (iR rng1 (aCons (eC (.int 4)) (aNil))) (gN 15) cYes (eCallM d__law_pick (aCons (eV 1) (aCons (eF [1000] (eLst (aCons (eC .non) (aCons (eC (.int 5)) (aCons (eTup (aCons (eC (.int 1)) (aNil))) (aCons (eTup (aCons (eC (.int 1)) (aCons (eC (.bl true)) (aNil)))) (aCons (eC (.str "12")) (aCons (eF [1000] (eLst (aCons (eC (.int 1)) (aCons (eC (.int 2)) (aCons (eC (.int 3)) (aNil)))))) (aCons (eDict []) (aNil)))))))))) (aNil))))) [o0, some (.own (.lst ds)), o2, o3, o4, o5, o6, o7, o8, o9, o10, none, none, none, none, none, none] = .nx [o0, some (.own (.lst ds')), o2, o3, o4, o5, o6, o7, o8, o9, o10, some (.own (.lst [b0, b1, b2, b3])), none, none, none, none, none] ∧ (b0 ∈ bads ∧ b1 ∈ bads ∧ b2 ∈ bads ∧ b3 ∈ bads) ∧ Src (n + 4) ds' := by
  have sz1 : (0 : Nat) + 1 ≤ sizeLine := by decide
  have sz2 : (0 : Nat) + 1 + 1 ≤ sizeLine := by decide
  have sz3 : (0 : Nat) + 1 + 1 + 1 ≤ sizeLine := by decide
  have sz4 : (0 : Nat) + 1 + 1 + 1 + 1 ≤ sizeLine := by decide
  have sz7 : (0 : Nat) + 1 + 1 + 1 + 1 + 1 + 1 + 1 ≤ sizeLine := by decide
  have sz8 : (0 : Nat) + 1 + 1 + 1 + 1 + 1 + 1 + 1 + 1 ≤ sizeLine := by decide
  have sz0 : (0 : Nat) ≤ sizeLine := Nat.zero_le _
  obtain ⟨xs, ρ', E, l, pd, ds', rfl, s⟩ := lcD_all (m := [1000]) (vs := [15]) (gt := gN 15) (fe := eCallM d__law_pick (aCons (eV 1) (aCons (eF [1000] (eLst (aCons (eC .non) (aCons (eC (.int 5)) (aCons (eTup (aCons (eC (.int 1)) (aNil))) (aCons (eTup (aCons (eC (.int 1)) (aCons (eC (.bl true)) (aNil)))) (aCons (eC (.str "12")) (aCons (eF [1000] (eLst (aCons (eC (.int 1)) (aCons (eC (.int 2)) (aCons (eC (.int 3)) (aNil)))))) (aCons (eDict []) (aNil)))))))))) (aNil)))) (items := rngD 0 4)
    (fun i ρ => ∃ ds', ρ = [o0, some (.own (.lst ds')), o2, o3, o4, o5, o6, o7, o8, o9, o10, none, none, none, none, none, none] ∧ Src (n + i) ds') (fun d => d ∈ bads)
    (fun i x ρ hx ⟨ds', eρ, s⟩ => by
      subst eρ
      have hi : i < 4 := by simpa [rngD] using (List.getElem?_eq_some_iff.mp hx).1
      obtain ⟨_, d, d1, e1, _, hm, s1⟩ := picks s (xs := bads) (by omega) (by simp [bads]) (by simp only [bads, List.length_cons, List.length_nil]; omega)
      unfold bads at e1
      refine ⟨_, d, [o0, some (.own (.lst d1)), o2, o3, o4, o5, o6, o7, o8, o9, o10, none, none, none, none, some (.sh x), none], rfl, ?_, hm, d1, rfl, s1.mono (by omega)⟩
      simp only [q_od1, q_od2, q_od3, q_od4, q_bind, q_bindx, q_s, q_sx, q_nx, q_rt, q_bk, q_ct, q_ex, q_seq, q_nil, q_if, q_expr, q_set, q_put, q_puto, q_puta, q_lookPs, q_lookPo, q_ret0, q_ret, q_reto, q_reta, q_lookRs, q_lookRo, q_c, q_v, q_lookVs, q_lookVo, q_view, q_viewo, q_viewa, q_slots, q_sloto, q_opt, q_e1, q_e2, q_eN, q_an, q_ac, q_views0, q_views, q_shs0, q_shs, q_f, q_frz, q_frzo, q_frza, q_lookFs, q_lookFo, q_lst, q_tup, q_mkL, q_mkT, q_cB, q_cV, q_cAnd, q_cOr, q_cNot, q_eIf, q_isBl, q_eAnd, q_eOr, q_eNot, q_andT, q_andF, q_orT, q_orF, q_notK, q_ix, q_ixJ, q_lookJ, q_ixK, q_lookK, q_stK, q_call, q_callO, q_callM, q_callK, q_lookC, q_resC, q_resCx, q_lent, q_lookL, q_resM, q_resMo, q_resMn, q_resMx, q_resP, q_resPo, q_resPn, q_resPx, q_asBl, List.not_mem_nil, q_lt, q_le, q_gt, q_ge, q_add, q_sub, q_mul, q_fdiv, q_mod, q_neg, q_int, q_intb, q_abs, q_len, q_lent1, q_lenr, q_ixl, q_ixt, q_ixr, q_trub, q_trun, q_trui, q_trul, q_trut, q_isn, q_isNn, q_isiT, at0, at1, at2, ixN1, ixN2, startE, List.map_cons, List.map_nil, List.length_cons, List.length_nil, List.replicate, List.cons_append, List.nil_append, List.getElem?_cons_zero, List.getElem?_cons_succ, List.set_cons_zero, List.set_cons_succ, Option.map_some, Option.bind_some, Option.map_none, Option.bind_none, Nat.reduceAdd, Nat.reduceSub, if_true, if_false, Bool.false_eq_true, decide_true, decide_false, Bool.not_true, Bool.not_false, reduceIte, List.length_map, e1, eDict, sz0, sz1, sz2, sz3, sz7])
    (ρ := [o0, some (.own (.lst ds)), o2, o3, o4, o5, o6, o7, o8, o9, o10, none, none, none, none, none, none]) (by simp [rngD]; decide) ⟨ds, rfl, h⟩
  have l4 : (rngD 0 4).length = 4 := by simp [rngD]
  rw [l4] at l s
  match xs, l with
  | [p1, p2, p3, p4], _ =>
    refine ⟨p1, p2, p3, p4, ds', ?_, ⟨pd p1 (by simp), pd p2 (by simp), pd p3 (by simp), pd p4 (by simp)⟩, s⟩
    have er : rng1 [.int 4] = some (rngD 0 4) := rfl
    simp only [q_od1, q_od2, q_od3, q_od4, q_bind, q_bindx, q_s, q_sx, q_nx, q_rt, q_bk, q_ct, q_ex, q_seq, q_nil, q_if, q_expr, q_set, q_put, q_puto, q_puta, q_lookPs, q_lookPo, q_ret0, q_ret, q_reto, q_reta, q_lookRs, q_lookRo, q_c, q_v, q_lookVs, q_lookVo, q_view, q_viewo, q_viewa, q_slots, q_sloto, q_opt, q_e1, q_e2, q_eN, q_an, q_ac, q_views0, q_views, q_shs0, q_shs, q_f, q_frz, q_frzo, q_frza, q_lookFs, q_lookFo, q_lst, q_tup, q_mkL, q_mkT, q_cB, q_cV, q_cAnd, q_cOr, q_cNot, q_eIf, q_isBl, q_eAnd, q_eOr, q_eNot, q_andT, q_andF, q_orT, q_orF, q_notK, q_ix, q_ixJ, q_lookJ, q_ixK, q_lookK, q_stK, q_call, q_callO, q_callM, q_callK, q_lookC, q_resC, q_resCx, q_lent, q_lookL, q_resM, q_resMo, q_resMn, q_resMx, q_resP, q_resPo, q_resPn, q_resPx, q_asBl, List.not_mem_nil, q_lt, q_le, q_gt, q_ge, q_add, q_sub, q_mul, q_fdiv, q_mod, q_neg, q_int, q_intb, q_abs, q_len, q_lent1, q_lenr, q_ixl, q_ixt, q_ixr, q_trub, q_trun, q_trui, q_trul, q_trut, q_isn, q_isNn, q_isiT, at0, at1, at2, ixN1, ixN2, startE, List.map_cons, List.map_nil, List.length_cons, List.length_nil, List.replicate, List.cons_append, List.nil_append, List.getElem?_cons_zero, List.getElem?_cons_succ, List.set_cons_zero, List.set_cons_succ, Option.map_some, Option.bind_some, Option.map_none, Option.bind_none, Nat.reduceAdd, Nat.reduceSub, if_true, if_false, Bool.false_eq_true, decide_true, decide_false, Bool.not_true, Bool.not_false, reduceIte, List.length_map, q_perm0, q_chain, q_chT, q_chF, q_perm, q_consO, q_callKw, q_kwO, q_unp, q_unpK, q_unpO, q_gL, q_gT, q_gA0, q_gA, q_gN, q_lc, q_lcK, q_iSeq, q_iR, q_itl, q_itt, q_sl, q_oN, q_oS, q_oK, q_slr, q_sll, unw, wipeE, ksh, and_self, er, E]
theorem calls_ok {n : Nat} {ds : List D} {b0 b1 b2 b3 : D} (h : Src n ds) (hn : n + 10 ≤ 1000000) : ∃ c0 c1 c2 c3 ds', sSet [1000] 12 (eLc [1000] [16] (iSeq [1000] (eV 11)) (gN 16) cYes (eCallM d__law_pick (aCons (eV 1) (aCons (eF [1000] (eLst (aCons (eTup (aCons (eC (.int 0)) (aCons (eC (.int 0)) (aNil)))) (aCons (eF [1000] (eV 16)) (aNil))))) (aNil))))) [o0, some (.own (.lst ds)), o2, o3, o4, o5, o6, o7, o8, o9, o10, some (.own (.lst [b0, b1, b2, b3])), none, none, none, none, none] = .nx [o0, some (.own (.lst ds')), o2, o3, o4, o5, o6, o7, o8, o9, o10, some (.sh (.lst [b0, b1, b2, b3])), some (.own (.lst [c0, c1, c2, c3])), none, none, none, none] ∧ Src (n + 4) ds' := by
  have sz1 : (0 : Nat) + 1 ≤ sizeLine := by decide
  have sz2 : (0 : Nat) + 1 + 1 ≤ sizeLine := by decide
  have sz3 : (0 : Nat) + 1 + 1 + 1 ≤ sizeLine := by decide
  have sz4 : (0 : Nat) + 1 + 1 + 1 + 1 ≤ sizeLine := by decide
  have sz7 : (0 : Nat) + 1 + 1 + 1 + 1 + 1 + 1 + 1 ≤ sizeLine := by decide
  have sz8 : (0 : Nat) + 1 + 1 + 1 + 1 + 1 + 1 + 1 + 1 ≤ sizeLine := by decide
  obtain ⟨xs, ρ', E, l, pd, ds', rfl, s⟩ := lcD_all (m := [1000]) (vs := [16]) (gt := gN 16) (fe := eCallM d__law_pick (aCons (eV 1) (aCons (eF [1000] (eLst (aCons (eTup (aCons (eC (.int 0)) (aCons (eC (.int 0)) (aNil)))) (aCons (eF [1000] (eV 16)) (aNil))))) (aNil)))) (items := [b0, b1, b2, b3])
    (fun i ρ => ∃ ds', ρ = [o0, some (.own (.lst ds')), o2, o3, o4, o5, o6, o7, o8, o9, o10, some (.sh (.lst [b0, b1, b2, b3])), none, none, none, none, none] ∧ Src (n + i) ds') (fun d => True)
    (fun i x ρ hx ⟨ds', eρ, s⟩ => by
      subst eρ
      have hi : i < 4 := (List.getElem?_eq_some_iff.mp hx).1
      obtain ⟨_, d, d1, e1, _, hm, s1⟩ := picks s (xs := [Pf.k06.P 0 0, x]) (by omega) (by simp) (by simp only [List.length_cons, List.length_nil]; omega)
      refine ⟨_, d, [o0, some (.own (.lst d1)), o2, o3, o4, o5, o6, o7, o8, o9, o10, some (.sh (.lst [b0, b1, b2, b3])), none, none, none, none, some (.sh x)], rfl, ?_, trivial, d1, rfl, s1.mono (by omega)⟩
      simp only [q_od1, q_od2, q_od3, q_od4, q_bind, q_bindx, q_s, q_sx, q_nx, q_rt, q_bk, q_ct, q_ex, q_seq, q_nil, q_if, q_expr, q_set, q_put, q_puto, q_puta, q_lookPs, q_lookPo, q_ret0, q_ret, q_reto, q_reta, q_lookRs, q_lookRo, q_c, q_v, q_lookVs, q_lookVo, q_view, q_viewo, q_viewa, q_slots, q_sloto, q_opt, q_e1, q_e2, q_eN, q_an, q_ac, q_views0, q_views, q_shs0, q_shs, q_f, q_frz, q_frzo, q_frza, q_lookFs, q_lookFo, q_lst, q_tup, q_mkL, q_mkT, q_cB, q_cV, q_cAnd, q_cOr, q_cNot, q_eIf, q_isBl, q_eAnd, q_eOr, q_eNot, q_andT, q_andF, q_orT, q_orF, q_notK, q_ix, q_ixJ, q_lookJ, q_ixK, q_lookK, q_stK, q_call, q_callO, q_callM, q_callK, q_lookC, q_resC, q_resCx, q_lent, q_lookL, q_resM, q_resMo, q_resMn, q_resMx, q_resP, q_resPo, q_resPn, q_resPx, q_asBl, List.not_mem_nil, q_lt, q_le, q_gt, q_ge, q_add, q_sub, q_mul, q_fdiv, q_mod, q_neg, q_int, q_intb, q_abs, q_len, q_lent1, q_lenr, q_ixl, q_ixt, q_ixr, q_trub, q_trun, q_trui, q_trul, q_trut, q_isn, q_isNn, q_isiT, at0, at1, at2, ixN1, ixN2, startE, List.map_cons, List.map_nil, List.length_cons, List.length_nil, List.replicate, List.cons_append, List.nil_append, List.getElem?_cons_zero, List.getElem?_cons_succ, List.set_cons_zero, List.set_cons_succ, Option.map_some, Option.bind_some, Option.map_none, Option.bind_none, Nat.reduceAdd, Nat.reduceSub, if_true, if_false, Bool.false_eq_true, decide_true, decide_false, Bool.not_true, Bool.not_false, reduceIte, List.length_map, e1, sz2])
    (ρ := [o0, some (.own (.lst ds)), o2, o3, o4, o5, o6, o7, o8, o9, o10, some (.sh (.lst [b0, b1, b2, b3])), none, none, none, none, none]) (by simp only [List.length_cons, List.length_nil]; decide) ⟨ds, rfl, h⟩
  match xs, l with
  | [p1, p2, p3, p4], _ =>
    refine ⟨p1, p2, p3, p4, ds', ?_, s⟩
    have n11 : ¬ (11 : Nat) ∈ [1000] := by decide
    simp only [q_od1, q_od2, q_od3, q_od4, q_bind, q_bindx, q_s, q_sx, q_nx, q_rt, q_bk, q_ct, q_ex, q_seq, q_nil, q_if, q_expr, q_set, q_put, q_puto, q_puta, q_lookPs, q_lookPo, q_ret0, q_ret, q_reto, q_reta, q_lookRs, q_lookRo, q_c, q_v, q_lookVs, q_lookVo, q_view, q_viewo, q_viewa, q_slots, q_sloto, q_opt, q_e1, q_e2, q_eN, q_an, q_ac, q_views0, q_views, q_shs0, q_shs, q_f, q_frz, q_frzo, q_frza, q_lookFs, q_lookFo, q_lst, q_tup, q_mkL, q_mkT, q_cB, q_cV, q_cAnd, q_cOr, q_cNot, q_eIf, q_isBl, q_eAnd, q_eOr, q_eNot, q_andT, q_andF, q_orT, q_orF, q_notK, q_ix, q_ixJ, q_lookJ, q_ixK, q_lookK, q_stK, q_call, q_callO, q_callM, q_callK, q_lookC, q_resC, q_resCx, q_lent, q_lookL, q_resM, q_resMo, q_resMn, q_resMx, q_resP, q_resPo, q_resPn, q_resPx, q_asBl, List.not_mem_nil, q_lt, q_le, q_gt, q_ge, q_add, q_sub, q_mul, q_fdiv, q_mod, q_neg, q_int, q_intb, q_abs, q_len, q_lent1, q_lenr, q_ixl, q_ixt, q_ixr, q_trub, q_trun, q_trui, q_trul, q_trut, q_isn, q_isNn, q_isiT, at0, at1, at2, ixN1, ixN2, startE, List.map_cons, List.map_nil, List.length_cons, List.length_nil, List.replicate, List.cons_append, List.nil_append, List.getElem?_cons_zero, List.getElem?_cons_succ, List.set_cons_zero, List.set_cons_succ, Option.map_some, Option.bind_some, Option.map_none, Option.bind_none, Nat.reduceAdd, Nat.reduceSub, if_true, if_false, Bool.false_eq_true, decide_true, decide_false, Bool.not_true, Bool.not_false, reduceIte, List.length_map, q_perm0, q_chain, q_chT, q_chF, q_perm, q_consO, q_callKw, q_kwO, q_unp, q_unpK, q_unpO, q_gL, q_gT, q_gA0, q_gA, q_gN, q_lc, q_lcK, q_iSeq, q_iR, q_itl, q_itt, q_sl, q_oN, q_oS, q_oK, q_slr, q_sll, unw, wipeE, ksh, and_self, E, n11]
end
theorem plain (ns : List Int) (h1 : ns.length ≤ 63) (h2 : ∀ z ∈ ns, Builtin.Int.intBits z ≤ 1048576) : d_law [.rol (ns.map D.int)] = .ok (.sh (.bl true)) := by
  obtain ⟨ds, E0, s0⟩ := dune_ok ns h1 h2
  have E0 : d__law_keg [.rol (ns.map D.int)] = .ok (.own (.lst ds)) := E0
  have c0 := fun ρ => callP_ok (ρ := ρ) E0
  generalize hsc : some (T.sh (.rol (ns.map D.int))) = o0
  obtain ⟨ρ', E1, ds', p2, p3, p4, p5, p6, p7, p8, p9, p10, rfl, s1⟩ := forD_all (gt := gN 2) (gb := g_law_b1) (items := rngD 0 8)
    (fun i ρ => ∃ ds' p2 p3 p4 p5 p6 p7 p8 p9 p10, ρ = [o0, some (.own (.lst ds')), p2, p3, p4, p5, p6, p7, p8, p9, p10, none, none, none, none, none, none] ∧ Src (i * 40) ds')
    (fun i x ρ hx ⟨ds', p2, p3, p4, p5, p6, p7, p8, p9, p10, eρ, s⟩ => by
      subst eρ
      have hi : i < 8 := by simpa [rngD] using (List.getElem?_eq_some_iff.mp hx).1
      obtain ⟨ds2, r3, r4, r5, r6, r7, r8, r9, r10, E2, s2⟩ := body_ok (o0 := o0) (o2 := some (.sh x)) (o3 := p3) (o4 := p4) (o5 := p5) (o6 := p6) (o7 := p7) (o8 := p8) (o9 := p9) (o10 := p10) s (by omega)
      exact ⟨_, _, rfl, .inl E2, ds2, _, _, _, _, _, _, _, _, _, rfl, s2.mono (by omega)⟩)
    (ρ := [o0, some (.own (.lst ds)), none, none, none, none, none, none, none, none, none, none, none, none, none, none, none]) ⟨ds, _, _, _, _, _, _, _, _, _, rfl, s0⟩
  have l8 : (rngD 0 8).length = 8 := by simp [rngD]
  rw [l8] at s1
  obtain ⟨b0, b1, b2, b3, d2, E3, ⟨hb0, hb1, hb2, hb3⟩, s2⟩ := bads_ok (o0 := o0) (o2 := p2) (o3 := p3) (o4 := p4) (o5 := p5) (o6 := p6) (o7 := p7) (o8 := p8) (o9 := p9) (o10 := p10) s1 (by omega)
  obtain ⟨c0', c1, c2, c3, d3, E4, s3⟩ := calls_ok (o0 := o0) (o2 := p2) (o3 := p3) (o4 := p4) (o5 := p5) (o6 := p6) (o7 := p7) (o8 := p8) (o9 := p9) (o10 := p10) (b0 := b0) (b1 := b1) (b2 := b2) (b3 := b3) s2 (by omega)
  have st1 : sSet [1000] 1 (eCall d__law_keg (aCons (eF [1000] (eV 0)) (aNil))) [o0, none, none, none, none, none, none, none, none, none, none, none, none, none, none, none, none] = .nx [o0, some (.own (.lst ds)), none, none, none, none, none, none, none, none, none, none, none, none, none, none, none] := by
    subst hsc
    simp only [q_od1, q_od2, q_od3, q_od4, q_bind, q_bindx, q_s, q_sx, q_nx, q_rt, q_bk, q_ct, q_ex, q_seq, q_nil, q_if, q_expr, q_set, q_put, q_puto, q_puta, q_lookPs, q_lookPo, q_ret0, q_ret, q_reto, q_reta, q_lookRs, q_lookRo, q_c, q_v, q_lookVs, q_lookVo, q_view, q_viewo, q_viewa, q_slots, q_sloto, q_opt, q_e1, q_e2, q_eN, q_an, q_ac, q_views0, q_views, q_shs0, q_shs, q_f, q_frz, q_frzo, q_frza, q_lookFs, q_lookFo, q_lst, q_tup, q_mkL, q_mkT, q_cB, q_cV, q_cAnd, q_cOr, q_cNot, q_eIf, q_isBl, q_eAnd, q_eOr, q_eNot, q_andT, q_andF, q_orT, q_orF, q_notK, q_ix, q_ixJ, q_lookJ, q_ixK, q_lookK, q_stK, q_call, q_callO, q_callM, q_callK, q_lookC, q_resC, q_resCx, q_lent, q_lookL, q_resM, q_resMo, q_resMn, q_resMx, q_resP, q_resPo, q_resPn, q_resPx, q_asBl, List.not_mem_nil, q_lt, q_le, q_gt, q_ge, q_add, q_sub, q_mul, q_fdiv, q_mod, q_neg, q_int, q_intb, q_abs, q_len, q_lent1, q_lenr, q_ixl, q_ixt, q_ixr, q_trub, q_trun, q_trui, q_trul, q_trut, q_isn, q_isNn, q_isiT, at0, at1, at2, ixN1, ixN2, startE, List.map_cons, List.map_nil, List.length_cons, List.length_nil, List.replicate, List.cons_append, List.nil_append, List.getElem?_cons_zero, List.getElem?_cons_succ, List.set_cons_zero, List.set_cons_succ, Option.map_some, Option.bind_some, Option.map_none, Option.bind_none, Nat.reduceAdd, Nat.reduceSub, if_true, if_false, Bool.false_eq_true, decide_true, decide_false, Bool.not_true, Bool.not_false, reduceIte, List.length_map, q_perm0, q_chain, q_chT, q_chF, q_perm, q_consO, q_callKw, q_kwO, q_unp, q_unpK, q_unpO, q_gL, q_gT, q_gA0, q_gA, q_gN, q_lc, q_lcK, q_iSeq, q_iR, q_itl, q_itt, q_sl, q_oN, q_oS, q_oK, q_slr, q_sll, unw, wipeE, ksh, and_self, c0]
  have er8 : rng1 [.int 8] = some (rngD 0 8) := rfl
  have st2 : ∀ ρ ρ1, forD (gN 2) g_law_b1 (rngD 0 8) ρ = .nx ρ1 → sFor (iR rng1 (aCons (eC (.int 8)) (aNil))) (gN 2) (g_law_b1) ρ = .nx ρ1 := fun ρ ρ1 E => by
    simp only [q_od1, q_od2, q_od3, q_od4, q_bind, q_bindx, q_s, q_sx, q_nx, q_rt, q_bk, q_ct, q_ex, q_seq, q_nil, q_if, q_expr, q_set, q_put, q_puto, q_puta, q_lookPs, q_lookPo, q_ret0, q_ret, q_reto, q_reta, q_lookRs, q_lookRo, q_c, q_v, q_lookVs, q_lookVo, q_view, q_viewo, q_viewa, q_slots, q_sloto, q_opt, q_e1, q_e2, q_eN, q_an, q_ac, q_views0, q_views, q_shs0, q_shs, q_f, q_frz, q_frzo, q_frza, q_lookFs, q_lookFo, q_lst, q_tup, q_mkL, q_mkT, q_cB, q_cV, q_cAnd, q_cOr, q_cNot, q_eIf, q_isBl, q_eAnd, q_eOr, q_eNot, q_andT, q_andF, q_orT, q_orF, q_notK, q_ix, q_ixJ, q_lookJ, q_ixK, q_lookK, q_stK, q_call, q_callO, q_callM, q_callK, q_lookC, q_resC, q_resCx, q_lent, q_lookL, q_resM, q_resMo, q_resMn, q_resMx, q_resP, q_resPo, q_resPn, q_resPx, q_asBl, List.not_mem_nil, q_lt, q_le, q_gt, q_ge, q_add, q_sub, q_mul, q_fdiv, q_mod, q_neg, q_int, q_intb, q_abs, q_len, q_lent1, q_lenr, q_ixl, q_ixt, q_ixr, q_trub, q_trun, q_trui, q_trul, q_trut, q_isn, q_isNn, q_isiT, at0, at1, at2, ixN1, ixN2, startE, List.map_cons, List.map_nil, List.length_cons, List.length_nil, List.replicate, List.cons_append, List.nil_append, List.getElem?_cons_zero, List.getElem?_cons_succ, List.set_cons_zero, List.set_cons_succ, Option.map_some, Option.bind_some, Option.map_none, Option.bind_none, Nat.reduceAdd, Nat.reduceSub, if_true, if_false, Bool.false_eq_true, decide_true, decide_false, Bool.not_true, Bool.not_false, reduceIte, List.length_map, q_perm0, q_chain, q_chT, q_chF, q_perm, q_consO, q_callKw, q_kwO, q_unp, q_unpK, q_unpO, q_gL, q_gT, q_gA0, q_gA, q_gN, q_lc, q_lcK, q_iSeq, q_iR, q_itl, q_itt, q_sl, q_oN, q_oS, q_oK, q_slr, q_sll, unw, wipeE, ksh, and_self, q_for, er8, E]
  refine (q_denP rfl).trans ?_
  unfold g_law
  have e0 : startE 17 (List.map T.sh [.rol (ns.map D.int)]) = [o0, none, none, none, none, none, none, none, none, none, none, none, none, none, none, none, none] := by subst hsc; rfl
  rw [e0]
  exact congrArg resP ((seq_to st1).trans ((seq_to (st2 _ _ E1)).trans ((seq_to E3).trans ((seq_to E4).trans ((seq_to (h1_ok hb0 hb1 hb2 hb3)).trans ((seq_to (h2_ok hb0 hb1 hb2 hb3)).trans ((seq_to (h3_ok hb0 hb1 hb2 hb3)).trans ((seq_to (h4_ok hb0 hb1 hb2 hb3)).trans h5_ok))))))))
end k06
end Pf

open PySem PySem.W PyProof.Rows in
set_option maxRecDepth 100000 in
set_option maxHeartbeats 0 in
theorem PySem.Challenge.cw_baysout_k06_sides_and_stretches_that_mee_holds : PySem.Challenge.rw_baysout_k06_sides_and_stretches_that_mee.Holds := by
  w_on; o_law; k_head; (case hw => w_witness2)
  k_fill
  refine Pf.walk_gT (l := PySem.Challenge.rw_baysout_k06_sides_and_stretches_that_mee) (n := 63) (k := 8) (x := "_law_script") (f := Pf.k06.d_law) rfl (by decide) rfl ⟨⟨rfl, by decide, by decide⟩, rfl⟩ (fun w h Y => PySem.W.km_in_of Y) ?F (fun ns h1 h2 => Pf.k06.plain ns h1 h2)
  case F =>
    intro w mg fa h Y KX G hmg
    refine' Pf.k06.all_mk KX G hmg ?a0 ?l0 ?c0 ?k0 ?a1 ?l1 ?c1 ?k1 ?a2 ?l2 ?c2 ?k2 ?a3 ?l3 ?c3 ?k3 ?a4 ?l4 ?c4 ?k4 ?a5 ?l5 ?c5 ?k5 ?a6 ?l6 ?c6 ?k6 ?a7 ?l7 ?c7 ?k7 ?a8 ?l8 ?c8 ?k8 ?a9 ?l9 ?c9 ?k9 ?a10 ?l10 ?c10 ?k10 ?a11 ?l11 ?c11 ?k11 ?a12 ?l12 ?c12 ?k12 ?a13 ?l13 ?c13 ?k13 ?a14 ?l14 ?c14 ?k14 ?a15 ?l15 ?c15 ?k15 ?a16 ?l16 ?c16 ?k16 ?a17 ?l17 ?c17 ?k17 ?a18 ?l18 ?c18 ?k18 ?a19 ?l19 ?c19 ?k19 ?a20 ?l20 ?c20 ?k20 ?z_abs ?z_all ?z_bool ?z_int ?z_isinstance ?z_len ?z_list ?z_max ?z_min ?z_range ?z_repr ?z_sorted ?z_tuple ?ga_FenceError ?ga_BadPoint ?ei_BadPoint ?el_BadPoint ?ec_BadPoint ?elc_BadPoint ?eld_BadPoint ?ev_BadPoint ?ef_BadPoint ?eb_BadPoint ?ga_Misfit ?ei_Misfit ?el_Misfit ?ec_Misfit ?elc_Misfit ?eld_Misfit ?ev_Misfit ?ef_Misfit ?eb_Misfit ?zsup ?zopq ?ztop ?zrel ?zg ?zc ?zt ?zn
    (case zg => exact PySem.W.km_tabs_of Y _ (List.mem_cons_self ..))
    (case a0 => k_is)
    (case l0 => k_is)
    (case c0 => k_is)
    (case k0 => k_is)
    (case a1 => k_is)
    (case l1 => k_is)
    (case c1 => k_is)
    (case k1 => k_is)
    (case a2 => k_is)
    (case l2 => k_is)
    (case c2 => k_is)
    (case k2 => k_is)
    (case a3 => k_is)
    (case l3 => k_is)
    (case c3 => k_is)
    (case k3 => k_is)
    (case a4 => k_is)
    (case l4 => k_is)
    (case c4 => k_is)
    (case k4 => k_is)
    (case a5 => k_is)
    (case l5 => k_is)
    (case c5 => k_is)
    (case k5 => k_is)
    (case a6 => k_is)
    (case l6 => k_is)
    (case c6 => k_is)
    (case k6 => k_is)
    (case a7 => k_is)
    (case l7 => k_is)
    (case c7 => k_is)
    (case k7 => k_is)
    (case a8 => k_is)
    (case l8 => k_is)
    (case c8 => k_is)
    (case k8 => k_is)
    (case a9 => k_is)
    (case l9 => k_is)
    (case c9 => k_is)
    (case k9 => k_is)
    (case a10 => k_is)
    (case l10 => k_is)
    (case c10 => k_is)
    (case k10 => k_is)
    (case a11 => k_is)
    (case l11 => k_is)
    (case c11 => k_is)
    (case k11 => k_is)
    (case a12 => k_is)
    (case l12 => k_is)
    (case c12 => k_is)
    (case k12 => k_is)
    (case a13 => k_is)
    (case l13 => k_is)
    (case c13 => k_is)
    (case k13 => k_is)
    (case a14 => k_is)
    (case l14 => k_is)
    (case c14 => k_is)
    (case k14 => k_is)
    (case a15 => k_is)
    (case l15 => k_is)
    (case c15 => k_is)
    (case k15 => k_is)
    (case a16 => k_is)
    (case l16 => k_is)
    (case c16 => k_is)
    (case k16 => k_is)
    (case a17 => k_is)
    (case l17 => k_is)
    (case c17 => k_is)
    (case k17 => k_is)
    (case a18 => k_is)
    (case l18 => k_is)
    (case c18 => k_is)
    (case k18 => k_is)
    (case a19 => k_is)
    (case l19 => k_is)
    (case c19 => k_is)
    (case k19 => k_is)
    (case a20 => k_is)
    (case l20 => k_is)
    (case c20 => k_is)
    (case k20 => k_is)
    (case z_abs => k_is)
    (case z_all => k_is)
    (case z_bool => k_is)
    (case z_int => k_is)
    (case z_isinstance => k_is)
    (case z_len => k_is)
    (case z_list => k_is)
    (case z_max => k_is)
    (case z_min => k_is)
    (case z_range => k_is)
    (case z_repr => k_is)
    (case z_sorted => k_is)
    (case z_tuple => k_is)
    (case ga_FenceError => k_is)
    (case ga_BadPoint => k_is)
    (case ei_BadPoint => k_is)
    (case el_BadPoint => k_is)
    (case ec_BadPoint => k_is)
    (case elc_BadPoint => k_is)
    (case eld_BadPoint => k_is)
    (case ev_BadPoint => (first | rfl | decide))
    (case ef_BadPoint => (first | rfl | decide))
    (case eb_BadPoint => kernel_rfl)
    (case ga_Misfit => k_is)
    (case ei_Misfit => k_is)
    (case el_Misfit => k_is)
    (case ec_Misfit => k_is)
    (case elc_Misfit => k_is)
    (case eld_Misfit => k_is)
    (case ev_Misfit => (first | rfl | decide))
    (case ef_Misfit => (first | rfl | decide))
    (case eb_Misfit => kernel_rfl)
    (case zsup => k_is)
    (case zopq => k_is)
    (case ztop => (first | rfl | decide))
    (case zrel => kernel_rfl)
    (case zc => (first | rfl | decide))
    (case zt => kernel_rfl)
    (case zn => kernel_rfl)
